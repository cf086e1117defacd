/- Written by a program of this session out of the print of the loaded functions: each Go function as a plain function, and that its call comes to it; for a law, the row out of its plain statement. -/
import Derived.Test.YtjbejbehbjhecaaQ21x0
import Derived.Test.YtjbejbehbjhecaaQ21x113
import Derived.Test.YtjbejbehbjhecaaQ21x116
import Derived.Test.YtjbejbehbjhecaaQ21x118
import Derived.Test.YtjbejbehbjhecaaQ21x120
namespace Go.Proofs.Ytjbejbehbjhecaa.Q21
open Go.RowKit Go.Proofs.YtjbejbehbjhecaaW.PrintWords Go.Proofs.YtjbejbehbjhecaaW.PrintLast Go.Proofs.YtjbejbehbjhecaaW.PrintMore
attribute [local go_sem] max2_int min2_int max_two min_two max_three min_three max_four min_four   -- for this text's walks alone
set_option linter.unusedVariables false
set_option linter.unusedSimpArgs false

/-! ### watchwordlaw21_PathsNone: function 7 -/
def watchwordlaw21_PathsNone.j0 : Nat → Int → Int → Int → Int → Bool → Int → Int → Int → Int → Int → Int → Int → Int → Int → Int → Int → Int → Int → Int → Int → Int → Option (Bool)
 | 0, _, _, _, _, _, _, _, _, _, _, _, _, _, _, _, _, _, _, _, _, _ => none
 | k + 1, x2, x9, x10, x11, x39, x269000, x269001, x269002, x269003, x269004, x269005, x269006, x269007, x269008, x269009, x269010, x269011, x269012, x269013, x269014, x269015 => if x39 = true then (some false) else (if x9 = x10 then (some true) else (if 0 ≤ x9 then (if x9 < 4 then (if 0 ≤ x10 then (if x10 < 4 then ((paths_Routes.f k (up (x9 == 0 && x10 == 0) (wrap64 (1 + (Go.bits .and .i64 x2 1023))) x269000) (up (x9 == 0 && x10 == 1) (wrap64 (1 + (Go.bits .and .i64 x2 1023))) x269001) (up (x9 == 0 && x10 == 2) (wrap64 (1 + (Go.bits .and .i64 x2 1023))) x269002) (up (x9 == 0 && x10 == 3) (wrap64 (1 + (Go.bits .and .i64 x2 1023))) x269003) (up (x9 == 1 && x10 == 0) (wrap64 (1 + (Go.bits .and .i64 x2 1023))) x269004) (up (x9 == 1 && x10 == 1) (wrap64 (1 + (Go.bits .and .i64 x2 1023))) x269005) (up (x9 == 1 && x10 == 2) (wrap64 (1 + (Go.bits .and .i64 x2 1023))) x269006) (up (x9 == 1 && x10 == 3) (wrap64 (1 + (Go.bits .and .i64 x2 1023))) x269007) (up (x9 == 2 && x10 == 0) (wrap64 (1 + (Go.bits .and .i64 x2 1023))) x269008) (up (x9 == 2 && x10 == 1) (wrap64 (1 + (Go.bits .and .i64 x2 1023))) x269009) (up (x9 == 2 && x10 == 2) (wrap64 (1 + (Go.bits .and .i64 x2 1023))) x269010) (up (x9 == 2 && x10 == 3) (wrap64 (1 + (Go.bits .and .i64 x2 1023))) x269011) (up (x9 == 3 && x10 == 0) (wrap64 (1 + (Go.bits .and .i64 x2 1023))) x269012) (up (x9 == 3 && x10 == 1) (wrap64 (1 + (Go.bits .and .i64 x2 1023))) x269013) (up (x9 == 3 && x10 == 2) (wrap64 (1 + (Go.bits .and .i64 x2 1023))) x269014) (up (x9 == 3 && x10 == 3) (wrap64 (1 + (Go.bits .and .i64 x2 1023))) x269015) x11).bind fun bt274 => ((watchwordlaw0_Num.f bt274.2).bind fun t278 => (if t278 = 0 then (if (((bt274.1.length : Int) == 1) != (x11 == (wrap64 (x9 + 1)))) = true then (some false) else (if (bt274.1.length : Int) > 1 then (some false) else (if (bt274.1.length : Int) = 0 then (some true) else (if 0 < (bt274.1.length : Int) then (if ((rd_T41 bt274.1 0).f0) = (wrap64 (x10 + 1)) then (if ((rd_T41 bt274.1 0).f1) = (ix4 (ix4 (up (x9 == 0 && x10 == 0) (wrap64 (1 + (Go.bits .and .i64 x2 1023))) x269000) (up (x9 == 0 && x10 == 1) (wrap64 (1 + (Go.bits .and .i64 x2 1023))) x269001) (up (x9 == 0 && x10 == 2) (wrap64 (1 + (Go.bits .and .i64 x2 1023))) x269002) (up (x9 == 0 && x10 == 3) (wrap64 (1 + (Go.bits .and .i64 x2 1023))) x269003) x10) (ix4 (up (x9 == 1 && x10 == 0) (wrap64 (1 + (Go.bits .and .i64 x2 1023))) x269004) (up (x9 == 1 && x10 == 1) (wrap64 (1 + (Go.bits .and .i64 x2 1023))) x269005) (up (x9 == 1 && x10 == 2) (wrap64 (1 + (Go.bits .and .i64 x2 1023))) x269006) (up (x9 == 1 && x10 == 3) (wrap64 (1 + (Go.bits .and .i64 x2 1023))) x269007) x10) (ix4 (up (x9 == 2 && x10 == 0) (wrap64 (1 + (Go.bits .and .i64 x2 1023))) x269008) (up (x9 == 2 && x10 == 1) (wrap64 (1 + (Go.bits .and .i64 x2 1023))) x269009) (up (x9 == 2 && x10 == 2) (wrap64 (1 + (Go.bits .and .i64 x2 1023))) x269010) (up (x9 == 2 && x10 == 3) (wrap64 (1 + (Go.bits .and .i64 x2 1023))) x269011) x10) (ix4 (up (x9 == 3 && x10 == 0) (wrap64 (1 + (Go.bits .and .i64 x2 1023))) x269012) (up (x9 == 3 && x10 == 1) (wrap64 (1 + (Go.bits .and .i64 x2 1023))) x269013) (up (x9 == 3 && x10 == 2) (wrap64 (1 + (Go.bits .and .i64 x2 1023))) x269014) (up (x9 == 3 && x10 == 3) (wrap64 (1 + (Go.bits .and .i64 x2 1023))) x269015) x10) x9) then ((watchwordlaw0_SameInts.f k ((rd_T41 bt274.1 0).f2) (([wrap64 (x10 + 1)] : List Int))).bind fun t285 => (some t285)) else (some false)) else (some false)) else (none))))) else (some false)))) else (none)) else (none)) else (none)) else (none)))
def watchwordlaw21_PathsNone.f (k : Nat) (a0 : Int) (a1 : Int) (a2 : Int) (a3 : Int) : Option (Bool) := (watchwordlaw21_awake.f k).bind fun t267 => (if t267 = true then ((paths_Routes.f k 0 0 0 0 0 0 0 0 0 0 0 0 0 0 0 0 (wrap64 (1 + (Go.bits .and .i64 a3 3)))).bind fun bt269 => ((watchwordlaw0_Num.f bt269.2).bind fun t273 => (if t273 = 0 then (watchwordlaw21_PathsNone.j0 k a2 (Go.bits .and .i64 a0 3) (Go.bits .and .i64 a1 3) (wrap64 (1 + (Go.bits .and .i64 a3 3))) ((bt269.1.length : Int) != 0) 0 0 0 0 0 0 0 0 0 0 0 0 0 0 0 0) else (watchwordlaw21_PathsNone.j0 k a2 (Go.bits .and .i64 a0 3) (Go.bits .and .i64 a1 3) (wrap64 (1 + (Go.bits .and .i64 a3 3))) true 0 0 0 0 0 0 0 0 0 0 0 0 0 0 0 0)))) else (some false))
theorem watchwordlaw21_PathsNone.mono_l : ∀ k, (∀ y0 y1 y2 y3 y4 y5 y6 y7 y8 y9 y10 y11 y12 y13 y14 y15 y16 y17 y18 y19 y20, LeO (watchwordlaw21_PathsNone.j0 k y0 y1 y2 y3 y4 y5 y6 y7 y8 y9 y10 y11 y12 y13 y14 y15 y16 y17 y18 y19 y20) (watchwordlaw21_PathsNone.j0 (k + 1) y0 y1 y2 y3 y4 y5 y6 y7 y8 y9 y10 y11 y12 y13 y14 y15 y16 y17 y18 y19 y20))
 | 0 => fun _ _ _ _ _ _ _ _ _ _ _ _ _ _ _ _ _ _ _ _ _ r h => by simp [watchwordlaw21_PathsNone.j0] at h
 | k + 1 => by
  have ih0 := watchwordlaw21_PathsNone.mono_l k
  ·intro y0 y1 y2 y3 y4 y5 y6 y7 y8 y9 y10 y11 y12 y13 y14 y15 y16 y17 y18 y19 y20
   unfold watchwordlaw21_PathsNone.j0
   repeat' first
   | (with_reducible exact ih0 _ _ _ _ _ _ _ _ _ _ _ _ _ _ _ _ _ _ _ _ _)
   | (with_reducible exact paths_Routes.mono _ _ _ _ _ _ _ _ _ _ _ _ _ _ _ _ _ _)
   | (with_reducible exact watchwordlaw0_SameInts.mono _ _ _)
   | (with_reducible exact watchwordlaw21_awake.mono _)
   | (with_reducible exact LeO.refl _)
   | (with_reducible exact LeO.none _)
   | (with_reducible refine LeO.ite ?_ ?_)
   | (with_reducible refine LeO.bind ?_ (fun _ => ?_))
   | exact ih0 _ _ _ _ _ _ _ _ _ _ _ _ _ _ _ _ _ _ _ _ _
   | exact paths_Routes.mono _ _ _ _ _ _ _ _ _ _ _ _ _ _ _ _ _ _
   | exact watchwordlaw0_SameInts.mono _ _ _
   | exact watchwordlaw21_awake.mono _
   | exact LeO.none _
   | refine LeO.ite ?_ ?_
   | refine LeO.bind ?_ (fun _ => ?_)
theorem watchwordlaw21_PathsNone.mono : ∀ a0 a1 a2 a3 k, LeO (watchwordlaw21_PathsNone.f k a0 a1 a2 a3) (watchwordlaw21_PathsNone.f (k + 1) a0 a1 a2 a3) := by
 intro a0 a1 a2 a3 k
 have ih0 := watchwordlaw21_PathsNone.mono_l k
 unfold watchwordlaw21_PathsNone.f
 repeat' first
   | (with_reducible exact ih0 _ _ _ _ _ _ _ _ _ _ _ _ _ _ _ _ _ _ _ _ _)
   | (with_reducible exact paths_Routes.mono _ _ _ _ _ _ _ _ _ _ _ _ _ _ _ _ _ _)
   | (with_reducible exact watchwordlaw0_SameInts.mono _ _ _)
   | (with_reducible exact watchwordlaw21_awake.mono _)
   | (with_reducible exact LeO.refl _)
   | (with_reducible exact LeO.none _)
   | (with_reducible refine LeO.ite ?_ ?_)
   | (with_reducible refine LeO.bind ?_ (fun _ => ?_))
   | exact ih0 _ _ _ _ _ _ _ _ _ _ _ _ _ _ _ _ _ _ _ _ _
   | exact paths_Routes.mono _ _ _ _ _ _ _ _ _ _ _ _ _ _ _ _ _ _
   | exact watchwordlaw0_SameInts.mono _ _ _
   | exact watchwordlaw21_awake.mono _
   | exact LeO.none _
   | refine LeO.ite ?_ ?_
   | refine LeO.bind ?_ (fun _ => ?_)
def watchwordlaw21_PathsNone.T14 : Bool × List (List Nat × List Nat) := (true, [([], []), ([0], [0]), ([1], [1]), ([2], [2]), ([3], [3]), ([4, 3], [3, 4]), ([5, 3], [3, 5]), ([6, 3], [3, 6]), ([3], [3]), ([8, 3], [3, 8]), ([7, 9, 3], [3, 7, 9]), ([10, 3, 3], [3, 10]), ([11], [11]), ([12, 11], [11, 12]), ([13, 11], [11, 13]), ([14, 11], [11, 14]), ([11], [11]), ([11], [11]), ([16, 11], [11, 16]), ([18, 17, 11], [11, 17, 18]), ([19, 11], [11, 19]), ([15, 20, 11], [11, 15, 20]), ([11, 21, 3], [3, 11, 21]), ([22, 11, 3], [3, 22]), ([23], [23]), ([24, 23], [23, 24]), ([25, 23], [23, 25]), ([26, 23], [23, 26]), ([23], [23]), ([28, 23], [23, 28]), ([29, 23], [23, 29]), ([27, 30, 23, 23], [23, 27, 30]), ([23, 31, 3], [3, 23, 31]), ([3, 32], [3, 32]), ([33, 31, 0, 1, 2, 3, 4, 5, 6, 7, 8, 9, 10, 11, 12, 13, 14, 15, 16, 17, 18, 19, 20, 21, 22, 23, 24, 25, 26, 27, 28, 29, 30, 31, 32, 33], [33])])
def watchwordlaw21_PathsNone.B14 : List Nat := [0, 1, 3, 7, 15, 31, 63, 127, 15, 271, 1023, 2047, 4095, 8191, 16383, 32767, 4095, 4095, 69631, 462847, 987135, 2097151, 4194303, 8388607, 16777215, 33554431, 67108863, 134217727, 16777215, 285212671, 822083583, 2147483647, 4294967295, 8589934591, 17179869183]
theorem watchwordlaw21_PathsNone.tab14 : rtab .any (opsOf Try.f7 14) = watchwordlaw21_PathsNone.T14 := by kernel_rfl
theorem watchwordlaw21_PathsNone.bits14 : waitsOk watchwordlaw21_PathsNone.T14.2 watchwordlaw21_PathsNone.B14 = true := by kernel_rfl
set_option maxHeartbeats 8000000 in
set_option maxRecDepth 100000 in
theorem watchwordlaw21_PathsNone.calls (k : Nat) (a0 : Int) (a1 : Int) (a2 : Int) (a3 : Int) (r : Bool) (w : World) (h : watchwordlaw21_PathsNone.f k a0 a1 a2 a3 = some r) (hT : r = true) :
  Calls Try.prog 7 #[.int .i64 a0, .int .i64 a1, .int .i64 a2, .int .i64 a3] w fun e w' => e = .returned (.bool r) ∧ Below w.heap.size w w' := by
 have hu23 := Try.underlying23
 have HB := Aside0.mk (Below.refl w.heap.size w)
 have HT := Aside0.mk hT
 clear hT
 have H : ((watchwordlaw21_awake.f k).bind fun t267 => (if t267 = true then ((paths_Routes.f k 0 0 0 0 0 0 0 0 0 0 0 0 0 0 0 0 (wrap64 (1 + (Go.bits .and .i64 a3 3)))).bind fun bt269 => ((watchwordlaw0_Num.f bt269.2).bind fun t273 => (if t273 = 0 then (watchwordlaw21_PathsNone.j0 k a2 (Go.bits .and .i64 a0 3) (Go.bits .and .i64 a1 3) (wrap64 (1 + (Go.bits .and .i64 a3 3))) ((bt269.1.length : Int) != 0) 0 0 0 0 0 0 0 0 0 0 0 0 0 0 0 0) else (watchwordlaw21_PathsNone.j0 k a2 (Go.bits .and .i64 a0 3) (Go.bits .and .i64 a1 3) (wrap64 (1 + (Go.bits .and .i64 a3 3))) true 0 0 0 0 0 0 0 0 0 0 0 0 0 0 0 0)))) else (some false))) = some r := h
 clear h
 replace H := Option.bind_eq_some_iff.mp H
 obtain ⟨t267, A50, H⟩ := H
 replace H : (if t267 = true then ((paths_Routes.f k 0 0 0 0 0 0 0 0 0 0 0 0 0 0 0 0 (wrap64 (1 + (Go.bits .and .i64 a3 3)))).bind fun bt269 => ((watchwordlaw0_Num.f bt269.2).bind fun t273 => (if t273 = 0 then (watchwordlaw21_PathsNone.j0 k a2 (Go.bits .and .i64 a0 3) (Go.bits .and .i64 a1 3) (wrap64 (1 + (Go.bits .and .i64 a3 3))) ((bt269.1.length : Int) != 0) 0 0 0 0 0 0 0 0 0 0 0 0 0 0 0 0) else (watchwordlaw21_PathsNone.j0 k a2 (Go.bits .and .i64 a0 3) (Go.bits .and .i64 a1 3) (wrap64 (1 + (Go.bits .and .i64 a3 3))) true 0 0 0 0 0 0 0 0 0 0 0 0 0 0 0 0)))) else (some false)) = some r := H
 have A5 := Aside0.mk A50
 clear A50
 by_cases c6 : t267 = true
 ·subst c6
  have H1 : ((paths_Routes.f k 0 0 0 0 0 0 0 0 0 0 0 0 0 0 0 0 (wrap64 (1 + (Go.bits .and .i64 a3 3)))).bind fun bt269 => ((watchwordlaw0_Num.f bt269.2).bind fun t273 => (if t273 = 0 then (watchwordlaw21_PathsNone.j0 k a2 (Go.bits .and .i64 a0 3) (Go.bits .and .i64 a1 3) (wrap64 (1 + (Go.bits .and .i64 a3 3))) ((bt269.1.length : Int) != 0) 0 0 0 0 0 0 0 0 0 0 0 0 0 0 0 0) else (watchwordlaw21_PathsNone.j0 k a2 (Go.bits .and .i64 a0 3) (Go.bits .and .i64 a1 3) (wrap64 (1 + (Go.bits .and .i64 a3 3))) true 0 0 0 0 0 0 0 0 0 0 0 0 0 0 0 0)))) = some r := by rw [if_pos rfl] at H; exact H
  clear H
  have H := H1
  clear H1
  replace H := Option.bind_eq_some_iff.mp H
  obtain ⟨⟨t269, t272⟩, A70, H⟩ := H
  replace H : ((watchwordlaw0_Num.f t272).bind fun t273 => (if t273 = 0 then (watchwordlaw21_PathsNone.j0 k a2 (Go.bits .and .i64 a0 3) (Go.bits .and .i64 a1 3) (wrap64 (1 + (Go.bits .and .i64 a3 3))) ((t269.length : Int) != 0) 0 0 0 0 0 0 0 0 0 0 0 0 0 0 0 0) else (watchwordlaw21_PathsNone.j0 k a2 (Go.bits .and .i64 a0 3) (Go.bits .and .i64 a1 3) (wrap64 (1 + (Go.bits .and .i64 a3 3))) true 0 0 0 0 0 0 0 0 0 0 0 0 0 0 0 0))) = some r := H
  have A7 := Aside0.mk A70
  clear A70
  have HC8 := Aside0.mk H
  clear H
  go_enter Try.func7, Try.ntmps7
  go_upto_region 6 with (first | ((with_reducible refine gate_callee (f := 18) rfl ?_); refine goesL_ (some 17) rfl rfl Try.func18 (by kernel_rfl) rfl #[] rfl (by (try simp only [List.map_toArray, List.map_cons, List.map_nil]); first | done | rfl | (simp only [List.length_drop, List.length_take]; rfl)) ?_; (with_reducible refine (watchwordlaw21_awake.calls k  true _ A5.out (by first | rfl | exact HT.out)).mono ?_); rintro e w9 ⟨rfl, hb⟩; refine ⟨_, rfl, ?_⟩; have n0_ := Aside0.mk (below_step (by repeat (first | (with_reducible first | exact HB.out | apply below_alloc | apply pw_below_drewN | apply below_drew1) | exact HB.out)) hb); clear HB; have HB := n0_; clear n0_; (try clear hb); (try clear hb2); (try clear hk); (try clear hi)) | ((with_reducible refine gate_dst (N := 12) rfl ?_); (try (refine gate_guard (by rfl) ?_; dsimp only)); refine box_event ?hg (N := 12) ?hd (cs := #[.int .i64 0, .int .i64 0, .int .i64 0, .int .i64 0, .int .i64 0, .int .i64 0, .int .i64 0, .int .i64 0, .int .i64 0, .int .i64 0, .int .i64 0, .int .i64 0, .int .i64 0, .int .i64 0, .int .i64 0, .int .i64 0]) (t := 23) ?hr ?_; (case hd => rfl); (case hg => rfl); (case hr => first | (go_simp; done) | (go_simp; rfl)); intro gb268 hg w10 hbox hb; have n0_ := Aside0.mk (below_step (by repeat (first | (with_reducible first | exact HB.out | apply below_alloc | apply pw_below_drewN | apply below_drew1) | exact HB.out)) hb); have n1_ := Aside0.mk (hbox); have n2_ := Aside0.mk ((by rw [hg]; exact (below_size (by repeat (first | (with_reducible first | exact HB.out | apply below_alloc | apply pw_below_drewN | apply below_drew1) | exact HB.out))) : w.heap.size ≤ gb268)); have n3_ := Aside0.mk ((by rw [hg]; exact (below_size (by repeat (first | (with_reducible first | exact HB.out | apply below_alloc | apply pw_below_drewN | apply below_drew1) | exact HB.out))) : w.heap.size ≤ gb268)); clear HB; have HB := n0_; have BK268 := n1_; have GW268 := n2_; have GE268 := n3_; clear n0_ n1_ n2_ n3_; clear hb hbox hg; have hcz11_0 : w10.cell? ⟨gb268, 0, none⟩ = some (.int .i64 0) := (blk_cell BK268.out 0).trans rfl; have hcz11_1 : w10.cell? ⟨gb268, 1, none⟩ = some (.int .i64 0) := (blk_cell BK268.out 1).trans rfl; have hcz11_2 : w10.cell? ⟨gb268, 2, none⟩ = some (.int .i64 0) := (blk_cell BK268.out 2).trans rfl; have hcz11_3 : w10.cell? ⟨gb268, 3, none⟩ = some (.int .i64 0) := (blk_cell BK268.out 3).trans rfl; have hcz11_4 : w10.cell? ⟨gb268, 4, none⟩ = some (.int .i64 0) := (blk_cell BK268.out 4).trans rfl; have hcz11_5 : w10.cell? ⟨gb268, 5, none⟩ = some (.int .i64 0) := (blk_cell BK268.out 5).trans rfl; have hcz11_6 : w10.cell? ⟨gb268, 6, none⟩ = some (.int .i64 0) := (blk_cell BK268.out 6).trans rfl; have hcz11_7 : w10.cell? ⟨gb268, 7, none⟩ = some (.int .i64 0) := (blk_cell BK268.out 7).trans rfl; have hcz11_8 : w10.cell? ⟨gb268, 8, none⟩ = some (.int .i64 0) := (blk_cell BK268.out 8).trans rfl; have hcz11_9 : w10.cell? ⟨gb268, 9, none⟩ = some (.int .i64 0) := (blk_cell BK268.out 9).trans rfl; have hcz11_10 : w10.cell? ⟨gb268, 10, none⟩ = some (.int .i64 0) := (blk_cell BK268.out 10).trans rfl; have hcz11_11 : w10.cell? ⟨gb268, 11, none⟩ = some (.int .i64 0) := (blk_cell BK268.out 11).trans rfl; have hcz11_12 : w10.cell? ⟨gb268, 12, none⟩ = some (.int .i64 0) := (blk_cell BK268.out 12).trans rfl; have hcz11_13 : w10.cell? ⟨gb268, 13, none⟩ = some (.int .i64 0) := (blk_cell BK268.out 13).trans rfl; have hcz11_14 : w10.cell? ⟨gb268, 14, none⟩ = some (.int .i64 0) := (blk_cell BK268.out 14).trans rfl; have hcz11_15 : w10.cell? ⟨gb268, 15, none⟩ = some (.int .i64 0) := (blk_cell BK268.out 15).trans rfl; have hfz11_0 := blk_frozen BK268.out 0; have hfz11_1 := blk_frozen BK268.out 1; have hfz11_2 := blk_frozen BK268.out 2; have hfz11_3 := blk_frozen BK268.out 3; have hfz11_4 := blk_frozen BK268.out 4; have hfz11_5 := blk_frozen BK268.out 5; have hfz11_6 := blk_frozen BK268.out 6; have hfz11_7 := blk_frozen BK268.out 7; have hfz11_8 := blk_frozen BK268.out 8; have hfz11_9 := blk_frozen BK268.out 9; have hfz11_10 := blk_frozen BK268.out 10; have hfz11_11 := blk_frozen BK268.out 11; have hfz11_12 := blk_frozen BK268.out 12; have hfz11_13 := blk_frozen BK268.out 13; have hfz11_14 := blk_frozen BK268.out 14; have hfz11_15 := blk_frozen BK268.out 15) | ((with_reducible refine gate_callee (f := 13) rfl ?_); refine goesL_ (some 29) rfl rfl Try.func13 (by kernel_rfl) rfl #[.agg #[.int .i64 0, .int .i64 0, .int .i64 0, .int .i64 0, .int .i64 0, .int .i64 0, .int .i64 0, .int .i64 0, .int .i64 0, .int .i64 0, .int .i64 0, .int .i64 0, .int .i64 0, .int .i64 0, .int .i64 0, .int .i64 0], .int .i64 (wrap64 (1 + (Go.bits .and .i64 a3 3)))] rfl (by (try simp only [List.map_toArray, List.map_cons, List.map_nil]); first | done | rfl | (simp only [List.length_drop, List.length_take]; rfl)) ?_; (with_reducible refine (paths_Routes.calls k 0 0 0 0 0 0 0 0 0 0 0 0 0 0 0 0 (wrap64 (1 + (Go.bits .and .i64 a3 3))) t269 t272 _ A7.out).mono ?_); rintro e w12 ⟨v270, rfl, ho0, hb⟩; refine ⟨_, rfl, ?_⟩; have n0_ := Aside0.mk (Kd.S_lower ho0 (below_size (by repeat (first | (with_reducible first | exact HB.out | apply below_alloc | apply pw_below_drewN | apply below_drew1 | refine below_set ?_ GE268.out) | exact HB.out)))); have n1_ := Aside0.mk (blk_below (g := gb268) (o := .cells #[.int .i64 0, .int .i64 0, .int .i64 0, .int .i64 0, .int .i64 0, .int .i64 0, .int .i64 0, .int .i64 0, .int .i64 0, .int .i64 0, .int .i64 0, .int .i64 0, .int .i64 0, .int .i64 0, .int .i64 0, .int .i64 0] 23 (0, 0)) (by (with_reducible repeat (first | refine blk_drewN ?_ _ | refine blk_drew ?_ | refine blk_alloc ?_ _)); exact BK268.out) hb); have n2_ := Aside0.mk (below_step (by repeat (first | (with_reducible first | exact HB.out | apply below_alloc | apply pw_below_drewN | apply below_drew1 | refine below_set ?_ GE268.out) | exact HB.out)) hb); clear BK268; clear HB; have HO271 := n0_; have BK268 := n1_; have HB := n2_; clear n0_ n1_ n2_; (try clear hb); (try clear hb2); (try clear hk); (try clear hi); (try clear ho0)))
  (try simp only [Act.put, List.setIfInBounds_toArray, List.set_cons_zero, List.set_cons_succ])
  go_cut [39] (fun v39 wc => ∃ (kq : Nat) (x39_7 : Bool), v39 = .bool x39_7 ∧ Aside0 (watchwordlaw21_PathsNone.j0 kq a2 (Go.bits .and .i64 a0 3) (Go.bits .and .i64 a1 3) (wrap64 (1 + (Go.bits .and .i64 a3 3))) x39_7 0 0 0 0 0 0 0 0 0 0 0 0 0 0 0 0 = some r) ∧ Aside0 (kq ≤ k) ∧ Aside0 (wc.heap[gb268]? = some (.cells #[.int .i64 0, .int .i64 0, .int .i64 0, .int .i64 0, .int .i64 0, .int .i64 0, .int .i64 0, .int .i64 0, .int .i64 0, .int .i64 0, .int .i64 0, .int .i64 0, .int .i64 0, .int .i64 0, .int .i64 0, .int .i64 0] 23 (0, 0))) ∧ Aside0 (Below w.heap.size w wc))
  case first =>
   have H := HC8.out
   clear HC8
   replace H := Option.bind_eq_some_iff.mp H
   obtain ⟨t273, A130, H⟩ := H
   replace H : (if t273 = 0 then (watchwordlaw21_PathsNone.j0 k a2 (Go.bits .and .i64 a0 3) (Go.bits .and .i64 a1 3) (wrap64 (1 + (Go.bits .and .i64 a3 3))) ((t269.length : Int) != 0) 0 0 0 0 0 0 0 0 0 0 0 0 0 0 0 0) else (watchwordlaw21_PathsNone.j0 k a2 (Go.bits .and .i64 a0 3) (Go.bits .and .i64 a1 3) (wrap64 (1 + (Go.bits .and .i64 a3 3))) true 0 0 0 0 0 0 0 0 0 0 0 0 0 0 0 0)) = some r := H
   have A13 := Aside0.mk A130
   clear A130
   by_cases c14 : t273 = 0
   ·rw [if_pos c14] at H
    have c14b0 : (t273 == 0) = true := beq_iff_eq.mpr c14
    have c14b1 : (t273 != 0) = false := bne_eq_false_iff_eq.mpr c14
    clear c14
    (first | rw [c14b0] | (simp only [i64_w, i32_w]; rw [c14b0]) | skip)
    have H' := Aside0.mk H
    clear H
    go_wp2_with (first | ((with_reducible refine gate_callee (f := 16) rfl ?_); refine goesL_ (some 33) rfl rfl Try.func16 (by kernel_rfl) rfl #[.int .i64 t272] rfl (by (try simp only [List.map_toArray, List.map_cons, List.map_nil]); first | done | rfl | (simp only [List.length_drop, List.length_take]; rfl)) ?_; (with_reducible refine (watchwordlaw0_Num.calls t272 t273 _ A13.out).mono ?_); rintro e w' ⟨rfl, ⟨nd, rfl⟩⟩; refine ⟨_, rfl, ?_⟩; obtain ⟨Ao15, co15, eo15⟩ := Kd.S_slice HO271.out; subst eo15))
    go_meet
    case rel => exact ⟨_, (((t269.length : Int) != 0)), (by first | rfl | (simp; done) | (simp [*]; done)), H', ⟨by first | omega | exact Nat.le_refl _⟩, ⟨by (with_reducible repeat (first | refine blk_drewN ?_ _ | refine blk_drew ?_ | refine blk_alloc ?_ _)); exact BK268.out⟩, ⟨by repeat (first | (with_reducible first | exact HB.out | apply below_alloc | apply pw_below_drewN | apply below_drew1 | refine below_set ?_ GE268.out) | exact HB.out)⟩⟩
   ·rw [if_neg c14] at H
    have c14b0 : (t273 == 0) = false := beq_eq_false_iff_ne.mpr c14
    have c14b1 : (t273 != 0) = true := bne_iff_ne.mpr c14
    (first | rw [c14b0] | (simp only [i64_w, i32_w]; rw [c14b0]) | skip)
    exact absurd H (fun h_ => (by
     have hd_ : ∀ k_, watchwordlaw21_PathsNone.j0 k_ a2 (Go.bits .and .i64 a0 3) (Go.bits .and .i64 a1 3) (wrap64 (1 + (Go.bits .and .i64 a3 3))) true 0 0 0 0 0 0 0 0 0 0 0 0 0 0 0 0 = some r → False := by
      intro k_ h_
      cases k_ with
      | zero => exact absurd h_ (by simp [watchwordlaw21_PathsNone.j0])
      | succ k_ =>
       simp only [watchwordlaw21_PathsNone.j0, if_true] at h_
       exact absurd (Option.some.inj h_) (by rw [HT.out]; decide)
     exact hd_ _ h_))
  case rest =>
   clear HC8
   try clear c1
   try clear p2
   try clear c6
   try clear p6
   try clear c7
   try clear c13
   try clear c14
   try clear c14b0
   try clear c14b1
   try clear hcz11_0
   try clear hcz11_1
   try clear hcz11_10
   try clear hcz11_11
   try clear hcz11_12
   try clear hcz11_13
   try clear hcz11_14
   try clear hcz11_15
   try clear hcz11_2
   try clear hcz11_3
   try clear hcz11_4
   try clear hcz11_5
   try clear hcz11_6
   try clear hcz11_7
   try clear hcz11_8
   try clear hcz11_9
   try clear hfz11_0
   try clear hfz11_1
   try clear hfz11_10
   try clear hfz11_11
   try clear hfz11_12
   try clear hfz11_13
   try clear hfz11_14
   try clear hfz11_15
   try clear hfz11_2
   try clear hfz11_3
   try clear hfz11_4
   try clear hfz11_5
   try clear hfz11_6
   try clear hfz11_7
   try clear hfz11_8
   try clear hfz11_9
   obtain ⟨kq, x39_7, rfl, HA, HJ7, BK268, HB⟩ := hcut
   cases kq with
   | zero => exact absurd HA.out (by simp [watchwordlaw21_PathsNone.j0])
   | succ kj7 =>
    have H := HA.out
    clear HA
    simp only [watchwordlaw21_PathsNone.j0] at H
    by_cases c16 : x39_7 = true
    ·subst c16
     have H1 : (some false) = some r := by rw [if_pos rfl] at H; exact H
     clear H
     have H := H1
     clear H1
     exact absurd (Option.some.inj H) (by rw [HT.out]; decide)
    ·replace c16 := Bool.eq_false_iff.mpr c16
     subst c16
     have H1 : (if (Go.bits .and .i64 a0 3) = (Go.bits .and .i64 a1 3) then (some true) else (if 0 ≤ (Go.bits .and .i64 a0 3) then (if (Go.bits .and .i64 a0 3) < 4 then (if 0 ≤ (Go.bits .and .i64 a1 3) then (if (Go.bits .and .i64 a1 3) < 4 then ((paths_Routes.f kj7 (up ((Go.bits .and .i64 a0 3) == 0 && (Go.bits .and .i64 a1 3) == 0) (wrap64 (1 + (Go.bits .and .i64 a2 1023))) 0) (up ((Go.bits .and .i64 a0 3) == 0 && (Go.bits .and .i64 a1 3) == 1) (wrap64 (1 + (Go.bits .and .i64 a2 1023))) 0) (up ((Go.bits .and .i64 a0 3) == 0 && (Go.bits .and .i64 a1 3) == 2) (wrap64 (1 + (Go.bits .and .i64 a2 1023))) 0) (up ((Go.bits .and .i64 a0 3) == 0 && (Go.bits .and .i64 a1 3) == 3) (wrap64 (1 + (Go.bits .and .i64 a2 1023))) 0) (up ((Go.bits .and .i64 a0 3) == 1 && (Go.bits .and .i64 a1 3) == 0) (wrap64 (1 + (Go.bits .and .i64 a2 1023))) 0) (up ((Go.bits .and .i64 a0 3) == 1 && (Go.bits .and .i64 a1 3) == 1) (wrap64 (1 + (Go.bits .and .i64 a2 1023))) 0) (up ((Go.bits .and .i64 a0 3) == 1 && (Go.bits .and .i64 a1 3) == 2) (wrap64 (1 + (Go.bits .and .i64 a2 1023))) 0) (up ((Go.bits .and .i64 a0 3) == 1 && (Go.bits .and .i64 a1 3) == 3) (wrap64 (1 + (Go.bits .and .i64 a2 1023))) 0) (up ((Go.bits .and .i64 a0 3) == 2 && (Go.bits .and .i64 a1 3) == 0) (wrap64 (1 + (Go.bits .and .i64 a2 1023))) 0) (up ((Go.bits .and .i64 a0 3) == 2 && (Go.bits .and .i64 a1 3) == 1) (wrap64 (1 + (Go.bits .and .i64 a2 1023))) 0) (up ((Go.bits .and .i64 a0 3) == 2 && (Go.bits .and .i64 a1 3) == 2) (wrap64 (1 + (Go.bits .and .i64 a2 1023))) 0) (up ((Go.bits .and .i64 a0 3) == 2 && (Go.bits .and .i64 a1 3) == 3) (wrap64 (1 + (Go.bits .and .i64 a2 1023))) 0) (up ((Go.bits .and .i64 a0 3) == 3 && (Go.bits .and .i64 a1 3) == 0) (wrap64 (1 + (Go.bits .and .i64 a2 1023))) 0) (up ((Go.bits .and .i64 a0 3) == 3 && (Go.bits .and .i64 a1 3) == 1) (wrap64 (1 + (Go.bits .and .i64 a2 1023))) 0) (up ((Go.bits .and .i64 a0 3) == 3 && (Go.bits .and .i64 a1 3) == 2) (wrap64 (1 + (Go.bits .and .i64 a2 1023))) 0) (up ((Go.bits .and .i64 a0 3) == 3 && (Go.bits .and .i64 a1 3) == 3) (wrap64 (1 + (Go.bits .and .i64 a2 1023))) 0) (wrap64 (1 + (Go.bits .and .i64 a3 3)))).bind fun bt274 => ((watchwordlaw0_Num.f bt274.2).bind fun t278 => (if t278 = 0 then (if (((bt274.1.length : Int) == 1) != ((wrap64 (1 + (Go.bits .and .i64 a3 3))) == (wrap64 ((Go.bits .and .i64 a0 3) + 1)))) = true then (some false) else (if (bt274.1.length : Int) > 1 then (some false) else (if (bt274.1.length : Int) = 0 then (some true) else (if 0 < (bt274.1.length : Int) then (if ((rd_T41 bt274.1 0).f0) = (wrap64 ((Go.bits .and .i64 a1 3) + 1)) then (if ((rd_T41 bt274.1 0).f1) = (ix4 (ix4 (up ((Go.bits .and .i64 a0 3) == 0 && (Go.bits .and .i64 a1 3) == 0) (wrap64 (1 + (Go.bits .and .i64 a2 1023))) 0) (up ((Go.bits .and .i64 a0 3) == 0 && (Go.bits .and .i64 a1 3) == 1) (wrap64 (1 + (Go.bits .and .i64 a2 1023))) 0) (up ((Go.bits .and .i64 a0 3) == 0 && (Go.bits .and .i64 a1 3) == 2) (wrap64 (1 + (Go.bits .and .i64 a2 1023))) 0) (up ((Go.bits .and .i64 a0 3) == 0 && (Go.bits .and .i64 a1 3) == 3) (wrap64 (1 + (Go.bits .and .i64 a2 1023))) 0) (Go.bits .and .i64 a1 3)) (ix4 (up ((Go.bits .and .i64 a0 3) == 1 && (Go.bits .and .i64 a1 3) == 0) (wrap64 (1 + (Go.bits .and .i64 a2 1023))) 0) (up ((Go.bits .and .i64 a0 3) == 1 && (Go.bits .and .i64 a1 3) == 1) (wrap64 (1 + (Go.bits .and .i64 a2 1023))) 0) (up ((Go.bits .and .i64 a0 3) == 1 && (Go.bits .and .i64 a1 3) == 2) (wrap64 (1 + (Go.bits .and .i64 a2 1023))) 0) (up ((Go.bits .and .i64 a0 3) == 1 && (Go.bits .and .i64 a1 3) == 3) (wrap64 (1 + (Go.bits .and .i64 a2 1023))) 0) (Go.bits .and .i64 a1 3)) (ix4 (up ((Go.bits .and .i64 a0 3) == 2 && (Go.bits .and .i64 a1 3) == 0) (wrap64 (1 + (Go.bits .and .i64 a2 1023))) 0) (up ((Go.bits .and .i64 a0 3) == 2 && (Go.bits .and .i64 a1 3) == 1) (wrap64 (1 + (Go.bits .and .i64 a2 1023))) 0) (up ((Go.bits .and .i64 a0 3) == 2 && (Go.bits .and .i64 a1 3) == 2) (wrap64 (1 + (Go.bits .and .i64 a2 1023))) 0) (up ((Go.bits .and .i64 a0 3) == 2 && (Go.bits .and .i64 a1 3) == 3) (wrap64 (1 + (Go.bits .and .i64 a2 1023))) 0) (Go.bits .and .i64 a1 3)) (ix4 (up ((Go.bits .and .i64 a0 3) == 3 && (Go.bits .and .i64 a1 3) == 0) (wrap64 (1 + (Go.bits .and .i64 a2 1023))) 0) (up ((Go.bits .and .i64 a0 3) == 3 && (Go.bits .and .i64 a1 3) == 1) (wrap64 (1 + (Go.bits .and .i64 a2 1023))) 0) (up ((Go.bits .and .i64 a0 3) == 3 && (Go.bits .and .i64 a1 3) == 2) (wrap64 (1 + (Go.bits .and .i64 a2 1023))) 0) (up ((Go.bits .and .i64 a0 3) == 3 && (Go.bits .and .i64 a1 3) == 3) (wrap64 (1 + (Go.bits .and .i64 a2 1023))) 0) (Go.bits .and .i64 a1 3)) (Go.bits .and .i64 a0 3)) then ((watchwordlaw0_SameInts.f kj7 ((rd_T41 bt274.1 0).f2) (([wrap64 ((Go.bits .and .i64 a1 3) + 1)] : List Int))).bind fun t285 => (some t285)) else (some false)) else (some false)) else (none))))) else (some false)))) else (none)) else (none)) else (none)) else (none))) = some r := by rw [if_neg (show ¬ (false = true) by decide)] at H; exact H
     clear H
     have H := H1
     clear H1
     by_cases c17 : (Go.bits .and .i64 a0 3) = (Go.bits .and .i64 a1 3)
     ·rw [if_pos c17] at H
      have c17b0 : ((Go.bits .and .i64 a0 3) == (Go.bits .and .i64 a1 3)) = true := beq_iff_eq.mpr c17
      have c17b1 : ((Go.bits .and .i64 a0 3) != (Go.bits .and .i64 a1 3)) = false := bne_eq_false_iff_eq.mpr c17
      clear c17
      obtain rfl := Option.some.inj H
      go_wp2
      go_ret
      exact ⟨by first | rfl | (simp [errW_none, errW_some] <;> rfl) | (simp [*, errW_none, errW_some] <;> rfl), by repeat (first | (with_reducible first | exact HB.out | apply below_alloc | apply pw_below_drewN | apply below_drew1 | refine below_set ?_ GE268.out) | exact HB.out)⟩
     ·rw [if_neg c17] at H
      have c17b0 : ((Go.bits .and .i64 a0 3) == (Go.bits .and .i64 a1 3)) = false := beq_eq_false_iff_ne.mpr c17
      have c17b1 : ((Go.bits .and .i64 a0 3) != (Go.bits .and .i64 a1 3)) = true := bne_iff_ne.mpr c17
      by_cases c18 : 0 ≤ (Go.bits .and .i64 a0 3)
      ·rw [if_pos c18] at H
       have c18b0 : decide (0 ≤ (Go.bits .and .i64 a0 3)) = true := decide_eq_true c18
       clear c18
       by_cases c19 : (Go.bits .and .i64 a0 3) < 4
       ·rw [if_pos c19] at H
        have c19b0 : decide ((Go.bits .and .i64 a0 3) < 4) = true := decide_eq_true c19
        clear c19
        by_cases c20 : 0 ≤ (Go.bits .and .i64 a1 3)
        ·rw [if_pos c20] at H
         have c20b0 : decide (0 ≤ (Go.bits .and .i64 a1 3)) = true := decide_eq_true c20
         clear c20
         by_cases c21 : (Go.bits .and .i64 a1 3) < 4
         ·rw [if_pos c21] at H
          have c21b0 : decide ((Go.bits .and .i64 a1 3) < 4) = true := decide_eq_true c21
          clear c21
          replace H := Option.bind_eq_some_iff.mp H
          obtain ⟨⟨t274, t277⟩, A220, H⟩ := H
          replace H : ((watchwordlaw0_Num.f t277).bind fun t278 => (if t278 = 0 then (if (((t274.length : Int) == 1) != ((wrap64 (1 + (Go.bits .and .i64 a3 3))) == (wrap64 ((Go.bits .and .i64 a0 3) + 1)))) = true then (some false) else (if (t274.length : Int) > 1 then (some false) else (if (t274.length : Int) = 0 then (some true) else (if 0 < (t274.length : Int) then (if ((rd_T41 t274 0).f0) = (wrap64 ((Go.bits .and .i64 a1 3) + 1)) then (if ((rd_T41 t274 0).f1) = (ix4 (ix4 (up ((Go.bits .and .i64 a0 3) == 0 && (Go.bits .and .i64 a1 3) == 0) (wrap64 (1 + (Go.bits .and .i64 a2 1023))) 0) (up ((Go.bits .and .i64 a0 3) == 0 && (Go.bits .and .i64 a1 3) == 1) (wrap64 (1 + (Go.bits .and .i64 a2 1023))) 0) (up ((Go.bits .and .i64 a0 3) == 0 && (Go.bits .and .i64 a1 3) == 2) (wrap64 (1 + (Go.bits .and .i64 a2 1023))) 0) (up ((Go.bits .and .i64 a0 3) == 0 && (Go.bits .and .i64 a1 3) == 3) (wrap64 (1 + (Go.bits .and .i64 a2 1023))) 0) (Go.bits .and .i64 a1 3)) (ix4 (up ((Go.bits .and .i64 a0 3) == 1 && (Go.bits .and .i64 a1 3) == 0) (wrap64 (1 + (Go.bits .and .i64 a2 1023))) 0) (up ((Go.bits .and .i64 a0 3) == 1 && (Go.bits .and .i64 a1 3) == 1) (wrap64 (1 + (Go.bits .and .i64 a2 1023))) 0) (up ((Go.bits .and .i64 a0 3) == 1 && (Go.bits .and .i64 a1 3) == 2) (wrap64 (1 + (Go.bits .and .i64 a2 1023))) 0) (up ((Go.bits .and .i64 a0 3) == 1 && (Go.bits .and .i64 a1 3) == 3) (wrap64 (1 + (Go.bits .and .i64 a2 1023))) 0) (Go.bits .and .i64 a1 3)) (ix4 (up ((Go.bits .and .i64 a0 3) == 2 && (Go.bits .and .i64 a1 3) == 0) (wrap64 (1 + (Go.bits .and .i64 a2 1023))) 0) (up ((Go.bits .and .i64 a0 3) == 2 && (Go.bits .and .i64 a1 3) == 1) (wrap64 (1 + (Go.bits .and .i64 a2 1023))) 0) (up ((Go.bits .and .i64 a0 3) == 2 && (Go.bits .and .i64 a1 3) == 2) (wrap64 (1 + (Go.bits .and .i64 a2 1023))) 0) (up ((Go.bits .and .i64 a0 3) == 2 && (Go.bits .and .i64 a1 3) == 3) (wrap64 (1 + (Go.bits .and .i64 a2 1023))) 0) (Go.bits .and .i64 a1 3)) (ix4 (up ((Go.bits .and .i64 a0 3) == 3 && (Go.bits .and .i64 a1 3) == 0) (wrap64 (1 + (Go.bits .and .i64 a2 1023))) 0) (up ((Go.bits .and .i64 a0 3) == 3 && (Go.bits .and .i64 a1 3) == 1) (wrap64 (1 + (Go.bits .and .i64 a2 1023))) 0) (up ((Go.bits .and .i64 a0 3) == 3 && (Go.bits .and .i64 a1 3) == 2) (wrap64 (1 + (Go.bits .and .i64 a2 1023))) 0) (up ((Go.bits .and .i64 a0 3) == 3 && (Go.bits .and .i64 a1 3) == 3) (wrap64 (1 + (Go.bits .and .i64 a2 1023))) 0) (Go.bits .and .i64 a1 3)) (Go.bits .and .i64 a0 3)) then ((watchwordlaw0_SameInts.f kj7 ((rd_T41 t274 0).f2) (([wrap64 ((Go.bits .and .i64 a1 3) + 1)] : List Int))).bind fun t285 => (some t285)) else (some false)) else (some false)) else (none))))) else (some false))) = some r := H
          have A22 := Aside0.mk A220
          clear A220
          replace H := Option.bind_eq_some_iff.mp H
          obtain ⟨t278, A230, H⟩ := H
          replace H : (if t278 = 0 then (if (((t274.length : Int) == 1) != ((wrap64 (1 + (Go.bits .and .i64 a3 3))) == (wrap64 ((Go.bits .and .i64 a0 3) + 1)))) = true then (some false) else (if (t274.length : Int) > 1 then (some false) else (if (t274.length : Int) = 0 then (some true) else (if 0 < (t274.length : Int) then (if ((rd_T41 t274 0).f0) = (wrap64 ((Go.bits .and .i64 a1 3) + 1)) then (if ((rd_T41 t274 0).f1) = (ix4 (ix4 (up ((Go.bits .and .i64 a0 3) == 0 && (Go.bits .and .i64 a1 3) == 0) (wrap64 (1 + (Go.bits .and .i64 a2 1023))) 0) (up ((Go.bits .and .i64 a0 3) == 0 && (Go.bits .and .i64 a1 3) == 1) (wrap64 (1 + (Go.bits .and .i64 a2 1023))) 0) (up ((Go.bits .and .i64 a0 3) == 0 && (Go.bits .and .i64 a1 3) == 2) (wrap64 (1 + (Go.bits .and .i64 a2 1023))) 0) (up ((Go.bits .and .i64 a0 3) == 0 && (Go.bits .and .i64 a1 3) == 3) (wrap64 (1 + (Go.bits .and .i64 a2 1023))) 0) (Go.bits .and .i64 a1 3)) (ix4 (up ((Go.bits .and .i64 a0 3) == 1 && (Go.bits .and .i64 a1 3) == 0) (wrap64 (1 + (Go.bits .and .i64 a2 1023))) 0) (up ((Go.bits .and .i64 a0 3) == 1 && (Go.bits .and .i64 a1 3) == 1) (wrap64 (1 + (Go.bits .and .i64 a2 1023))) 0) (up ((Go.bits .and .i64 a0 3) == 1 && (Go.bits .and .i64 a1 3) == 2) (wrap64 (1 + (Go.bits .and .i64 a2 1023))) 0) (up ((Go.bits .and .i64 a0 3) == 1 && (Go.bits .and .i64 a1 3) == 3) (wrap64 (1 + (Go.bits .and .i64 a2 1023))) 0) (Go.bits .and .i64 a1 3)) (ix4 (up ((Go.bits .and .i64 a0 3) == 2 && (Go.bits .and .i64 a1 3) == 0) (wrap64 (1 + (Go.bits .and .i64 a2 1023))) 0) (up ((Go.bits .and .i64 a0 3) == 2 && (Go.bits .and .i64 a1 3) == 1) (wrap64 (1 + (Go.bits .and .i64 a2 1023))) 0) (up ((Go.bits .and .i64 a0 3) == 2 && (Go.bits .and .i64 a1 3) == 2) (wrap64 (1 + (Go.bits .and .i64 a2 1023))) 0) (up ((Go.bits .and .i64 a0 3) == 2 && (Go.bits .and .i64 a1 3) == 3) (wrap64 (1 + (Go.bits .and .i64 a2 1023))) 0) (Go.bits .and .i64 a1 3)) (ix4 (up ((Go.bits .and .i64 a0 3) == 3 && (Go.bits .and .i64 a1 3) == 0) (wrap64 (1 + (Go.bits .and .i64 a2 1023))) 0) (up ((Go.bits .and .i64 a0 3) == 3 && (Go.bits .and .i64 a1 3) == 1) (wrap64 (1 + (Go.bits .and .i64 a2 1023))) 0) (up ((Go.bits .and .i64 a0 3) == 3 && (Go.bits .and .i64 a1 3) == 2) (wrap64 (1 + (Go.bits .and .i64 a2 1023))) 0) (up ((Go.bits .and .i64 a0 3) == 3 && (Go.bits .and .i64 a1 3) == 3) (wrap64 (1 + (Go.bits .and .i64 a2 1023))) 0) (Go.bits .and .i64 a1 3)) (Go.bits .and .i64 a0 3)) then ((watchwordlaw0_SameInts.f kj7 ((rd_T41 t274 0).f2) (([wrap64 ((Go.bits .and .i64 a1 3) + 1)] : List Int))).bind fun t285 => (some t285)) else (some false)) else (some false)) else (none))))) else (some false)) = some r := H
          have A23 := Aside0.mk A230
          clear A230
          by_cases c24 : t278 = 0
          ·rw [if_pos c24] at H
           have c24b0 : (t278 == 0) = true := beq_iff_eq.mpr c24
           have c24b1 : (t278 != 0) = false := bne_eq_false_iff_eq.mpr c24
           clear c24
           by_cases c25 : (((t274.length : Int) == 1) != ((wrap64 (1 + (Go.bits .and .i64 a3 3))) == (wrap64 ((Go.bits .and .i64 a0 3) + 1)))) = true
           ·rw [if_pos c25] at H
            have c25b0 : (((t274.length : Int) == 1) != ((wrap64 (1 + (Go.bits .and .i64 a3 3))) == (wrap64 ((Go.bits .and .i64 a0 3) + 1)))) = true := c25
            (try (have c25b1 : decide (((t274.length : Int) == 1) = ((wrap64 (1 + (Go.bits .and .i64 a3 3))) == (wrap64 ((Go.bits .and .i64 a0 3) + 1)))) = false := by simpa using c25))
            (try (have c25b2 : (((t274.length : Int) == 1) == ((wrap64 (1 + (Go.bits .and .i64 a3 3))) == (wrap64 ((Go.bits .and .i64 a0 3) + 1)))) = false := by simpa using c25))
            (try (have c25b3 : ¬ (((t274.length : Int) == 1) = ((wrap64 (1 + (Go.bits .and .i64 a3 3))) == (wrap64 ((Go.bits .and .i64 a0 3) + 1)))) := by simpa using c25))
            clear c25
            exact absurd (Option.some.inj H) (by rw [HT.out]; decide)
           ·rw [if_neg c25] at H
            have c25b0 : (((t274.length : Int) == 1) != ((wrap64 (1 + (Go.bits .and .i64 a3 3))) == (wrap64 ((Go.bits .and .i64 a0 3) + 1)))) = false := by simpa using c25
            (try (have c25b1 : decide (((t274.length : Int) == 1) = ((wrap64 (1 + (Go.bits .and .i64 a3 3))) == (wrap64 ((Go.bits .and .i64 a0 3) + 1)))) = true := by simpa using c25))
            (try (have c25b2 : (((t274.length : Int) == 1) == ((wrap64 (1 + (Go.bits .and .i64 a3 3))) == (wrap64 ((Go.bits .and .i64 a0 3) + 1)))) = true := by simpa using c25))
            clear c25
            by_cases c26 : (t274.length : Int) > 1
            ·rw [if_pos c26] at H
             have c26b0 : decide (1 < (t274.length : Int)) = true := decide_eq_true c26
             have c26b1 : decide (1 < t274.length) = true := decide_eq_true (by omega)
             clear c26
             exact absurd (Option.some.inj H) (by rw [HT.out]; decide)
            ·rw [if_neg c26] at H
             have c26b0 : decide (1 < (t274.length : Int)) = false := decide_eq_false c26
             have c26b1 : decide (1 < t274.length) = false := decide_eq_false (by omega)
             clear c26
             by_cases c27 : (t274.length : Int) = 0
             ·rw [if_pos c27] at H
              have c27b0 : ((t274.length : Int) == 0) = true := beq_iff_eq.mpr c27
              have c27b1 : ((t274.length : Int) != 0) = false := bne_eq_false_iff_eq.mpr c27
              clear c27
              obtain rfl := Option.some.inj H
              have p28 : (0 ≤ ((Go.bits .and .i64 a0 3) : Int)) = True := eq_true (of_decide_eq_true (by first | (with_reducible assumption) | assumption))
              have q28 : (((Go.bits .and .i64 a0 3) : Int) < 4) = True := eq_true (of_decide_eq_true (by first | (with_reducible assumption) | assumption))
              have p29 : (0 ≤ ((Go.bits .and .i64 a1 3) : Int)) = True := eq_true (of_decide_eq_true (by first | (with_reducible assumption) | assumption))
              have q29 : (((Go.bits .and .i64 a1 3) : Int) < 4) = True := eq_true (of_decide_eq_true (by first | (with_reducible assumption) | assumption))
              have hs30 : wc.cell? ⟨gb268, (Go.bits .and .i64 a0 3).toNat * 4 + (Go.bits .and .i64 a1 3).toNat, none⟩ = some (.int .i64 (ix4 (ix4 0 0 0 0 (Go.bits .and .i64 a1 3)) (ix4 0 0 0 0 (Go.bits .and .i64 a1 3)) (ix4 0 0 0 0 (Go.bits .and .i64 a1 3)) (ix4 0 0 0 0 (Go.bits .and .i64 a1 3)) (Go.bits .and .i64 a0 3))) := (blk_cell BK268.out ((Go.bits .and .i64 a0 3).toNat * 4 + (Go.bits .and .i64 a1 3).toNat)).trans (ix_44 (Value.int .i64) _ _ _ _ _ _ _ _ _ _ _ _ _ _ _ _ (Go.bits .and .i64 a0 3) (Go.bits .and .i64 a1 3)  (of_decide_eq_true (by first | (with_reducible assumption) | assumption)) (of_decide_eq_true (by first | (with_reducible assumption) | assumption))  (of_decide_eq_true (by first | (with_reducible assumption) | assumption)) (of_decide_eq_true (by first | (with_reducible assumption) | assumption)))
              have hfs30 := blk_frozen BK268.out ((Go.bits .and .i64 a0 3).toNat * 4 + (Go.bits .and .i64 a1 3).toNat)
              try go_wp2_with (first | ((with_reducible refine gate_store (t := 3) (p := 49) rfl ?_); refine store_event (t := 3) (p := 49) (v := ?vo_w31) (w1 := (wc.setCell ⟨gb268, (Go.bits .and .i64 a0 3).toNat * 4 + (Go.bits .and .i64 a1 3).toNat, none⟩ (.int .i64 (wrap64 (1 + (Go.bits .and .i64 a2 1023)))))) ?hg ?ho ?hn ?hr ?_; (case ho => rfl); (case hg => rfl); (case hn => rfl); (case hr => first | (go_simp; done) | (go_simp; rfl)); intro w31 hw; have n0_ : Aside0 (w31.heap[gb268]? = some (.cells #[.int .i64 (up ((Go.bits .and .i64 a0 3) == 0 && (Go.bits .and .i64 a1 3) == 0) (wrap64 (1 + (Go.bits .and .i64 a2 1023))) 0), .int .i64 (up ((Go.bits .and .i64 a0 3) == 0 && (Go.bits .and .i64 a1 3) == 1) (wrap64 (1 + (Go.bits .and .i64 a2 1023))) 0), .int .i64 (up ((Go.bits .and .i64 a0 3) == 0 && (Go.bits .and .i64 a1 3) == 2) (wrap64 (1 + (Go.bits .and .i64 a2 1023))) 0), .int .i64 (up ((Go.bits .and .i64 a0 3) == 0 && (Go.bits .and .i64 a1 3) == 3) (wrap64 (1 + (Go.bits .and .i64 a2 1023))) 0), .int .i64 (up ((Go.bits .and .i64 a0 3) == 1 && (Go.bits .and .i64 a1 3) == 0) (wrap64 (1 + (Go.bits .and .i64 a2 1023))) 0), .int .i64 (up ((Go.bits .and .i64 a0 3) == 1 && (Go.bits .and .i64 a1 3) == 1) (wrap64 (1 + (Go.bits .and .i64 a2 1023))) 0), .int .i64 (up ((Go.bits .and .i64 a0 3) == 1 && (Go.bits .and .i64 a1 3) == 2) (wrap64 (1 + (Go.bits .and .i64 a2 1023))) 0), .int .i64 (up ((Go.bits .and .i64 a0 3) == 1 && (Go.bits .and .i64 a1 3) == 3) (wrap64 (1 + (Go.bits .and .i64 a2 1023))) 0), .int .i64 (up ((Go.bits .and .i64 a0 3) == 2 && (Go.bits .and .i64 a1 3) == 0) (wrap64 (1 + (Go.bits .and .i64 a2 1023))) 0), .int .i64 (up ((Go.bits .and .i64 a0 3) == 2 && (Go.bits .and .i64 a1 3) == 1) (wrap64 (1 + (Go.bits .and .i64 a2 1023))) 0), .int .i64 (up ((Go.bits .and .i64 a0 3) == 2 && (Go.bits .and .i64 a1 3) == 2) (wrap64 (1 + (Go.bits .and .i64 a2 1023))) 0), .int .i64 (up ((Go.bits .and .i64 a0 3) == 2 && (Go.bits .and .i64 a1 3) == 3) (wrap64 (1 + (Go.bits .and .i64 a2 1023))) 0), .int .i64 (up ((Go.bits .and .i64 a0 3) == 3 && (Go.bits .and .i64 a1 3) == 0) (wrap64 (1 + (Go.bits .and .i64 a2 1023))) 0), .int .i64 (up ((Go.bits .and .i64 a0 3) == 3 && (Go.bits .and .i64 a1 3) == 1) (wrap64 (1 + (Go.bits .and .i64 a2 1023))) 0), .int .i64 (up ((Go.bits .and .i64 a0 3) == 3 && (Go.bits .and .i64 a1 3) == 2) (wrap64 (1 + (Go.bits .and .i64 a2 1023))) 0), .int .i64 (up ((Go.bits .and .i64 a0 3) == 3 && (Go.bits .and .i64 a1 3) == 3) (wrap64 (1 + (Go.bits .and .i64 a2 1023))) 0)] 23 (0, 0))) := ⟨(by rw [hw]; exact (by (with_reducible repeat (first | refine blk_drewN ?_ _ | refine blk_drew ?_ | refine blk_alloc ?_ _)); refine blk_put (cs := #[.int .i64 0, .int .i64 0, .int .i64 0, .int .i64 0, .int .i64 0, .int .i64 0, .int .i64 0, .int .i64 0, .int .i64 0, .int .i64 0, .int .i64 0, .int .i64 0, .int .i64 0, .int .i64 0, .int .i64 0, .int .i64 0]) ?_ ((Go.bits .and .i64 a0 3).toNat * 4 + (Go.bits .and .i64 a1 3).toNat) _ (up_44 (Value.int .i64) _ _ _ _ _ _ _ _ _ _ _ _ _ _ _ _ (Go.bits .and .i64 a0 3) (Go.bits .and .i64 a1 3) (wrap64 (1 + (Go.bits .and .i64 a2 1023))) (of_decide_eq_true (by first | (with_reducible assumption) | assumption)) (of_decide_eq_true (by first | (with_reducible assumption) | assumption)) (of_decide_eq_true (by first | (with_reducible assumption) | assumption)) (of_decide_eq_true (by first | (with_reducible assumption) | assumption))); (with_reducible repeat (first | refine blk_drewN ?_ _ | refine blk_drew ?_ | refine blk_alloc ?_ _)); exact BK268.out))⟩; have n1_ : Aside0 (Below w.heap.size w w31) := ⟨(by rw [hw]; exact (by repeat (first | (with_reducible first | exact HB.out | apply below_alloc | apply pw_below_drewN | apply below_drew1 | refine below_set ?_ GE268.out) | exact HB.out)))⟩; clear hw; clear BK268; clear HB; have BK268 := n0_; have HB := n1_; clear n0_ n1_; have hcz32_0 : w31.cell? ⟨gb268, 0, none⟩ = some (.int .i64 (up ((Go.bits .and .i64 a0 3) == 0 && (Go.bits .and .i64 a1 3) == 0) (wrap64 (1 + (Go.bits .and .i64 a2 1023))) 0)) := (blk_cell BK268.out 0).trans rfl; have hcz32_1 : w31.cell? ⟨gb268, 1, none⟩ = some (.int .i64 (up ((Go.bits .and .i64 a0 3) == 0 && (Go.bits .and .i64 a1 3) == 1) (wrap64 (1 + (Go.bits .and .i64 a2 1023))) 0)) := (blk_cell BK268.out 1).trans rfl; have hcz32_2 : w31.cell? ⟨gb268, 2, none⟩ = some (.int .i64 (up ((Go.bits .and .i64 a0 3) == 0 && (Go.bits .and .i64 a1 3) == 2) (wrap64 (1 + (Go.bits .and .i64 a2 1023))) 0)) := (blk_cell BK268.out 2).trans rfl; have hcz32_3 : w31.cell? ⟨gb268, 3, none⟩ = some (.int .i64 (up ((Go.bits .and .i64 a0 3) == 0 && (Go.bits .and .i64 a1 3) == 3) (wrap64 (1 + (Go.bits .and .i64 a2 1023))) 0)) := (blk_cell BK268.out 3).trans rfl; have hcz32_4 : w31.cell? ⟨gb268, 4, none⟩ = some (.int .i64 (up ((Go.bits .and .i64 a0 3) == 1 && (Go.bits .and .i64 a1 3) == 0) (wrap64 (1 + (Go.bits .and .i64 a2 1023))) 0)) := (blk_cell BK268.out 4).trans rfl; have hcz32_5 : w31.cell? ⟨gb268, 5, none⟩ = some (.int .i64 (up ((Go.bits .and .i64 a0 3) == 1 && (Go.bits .and .i64 a1 3) == 1) (wrap64 (1 + (Go.bits .and .i64 a2 1023))) 0)) := (blk_cell BK268.out 5).trans rfl; have hcz32_6 : w31.cell? ⟨gb268, 6, none⟩ = some (.int .i64 (up ((Go.bits .and .i64 a0 3) == 1 && (Go.bits .and .i64 a1 3) == 2) (wrap64 (1 + (Go.bits .and .i64 a2 1023))) 0)) := (blk_cell BK268.out 6).trans rfl; have hcz32_7 : w31.cell? ⟨gb268, 7, none⟩ = some (.int .i64 (up ((Go.bits .and .i64 a0 3) == 1 && (Go.bits .and .i64 a1 3) == 3) (wrap64 (1 + (Go.bits .and .i64 a2 1023))) 0)) := (blk_cell BK268.out 7).trans rfl; have hcz32_8 : w31.cell? ⟨gb268, 8, none⟩ = some (.int .i64 (up ((Go.bits .and .i64 a0 3) == 2 && (Go.bits .and .i64 a1 3) == 0) (wrap64 (1 + (Go.bits .and .i64 a2 1023))) 0)) := (blk_cell BK268.out 8).trans rfl; have hcz32_9 : w31.cell? ⟨gb268, 9, none⟩ = some (.int .i64 (up ((Go.bits .and .i64 a0 3) == 2 && (Go.bits .and .i64 a1 3) == 1) (wrap64 (1 + (Go.bits .and .i64 a2 1023))) 0)) := (blk_cell BK268.out 9).trans rfl; have hcz32_10 : w31.cell? ⟨gb268, 10, none⟩ = some (.int .i64 (up ((Go.bits .and .i64 a0 3) == 2 && (Go.bits .and .i64 a1 3) == 2) (wrap64 (1 + (Go.bits .and .i64 a2 1023))) 0)) := (blk_cell BK268.out 10).trans rfl; have hcz32_11 : w31.cell? ⟨gb268, 11, none⟩ = some (.int .i64 (up ((Go.bits .and .i64 a0 3) == 2 && (Go.bits .and .i64 a1 3) == 3) (wrap64 (1 + (Go.bits .and .i64 a2 1023))) 0)) := (blk_cell BK268.out 11).trans rfl; have hcz32_12 : w31.cell? ⟨gb268, 12, none⟩ = some (.int .i64 (up ((Go.bits .and .i64 a0 3) == 3 && (Go.bits .and .i64 a1 3) == 0) (wrap64 (1 + (Go.bits .and .i64 a2 1023))) 0)) := (blk_cell BK268.out 12).trans rfl; have hcz32_13 : w31.cell? ⟨gb268, 13, none⟩ = some (.int .i64 (up ((Go.bits .and .i64 a0 3) == 3 && (Go.bits .and .i64 a1 3) == 1) (wrap64 (1 + (Go.bits .and .i64 a2 1023))) 0)) := (blk_cell BK268.out 13).trans rfl; have hcz32_14 : w31.cell? ⟨gb268, 14, none⟩ = some (.int .i64 (up ((Go.bits .and .i64 a0 3) == 3 && (Go.bits .and .i64 a1 3) == 2) (wrap64 (1 + (Go.bits .and .i64 a2 1023))) 0)) := (blk_cell BK268.out 14).trans rfl; have hcz32_15 : w31.cell? ⟨gb268, 15, none⟩ = some (.int .i64 (up ((Go.bits .and .i64 a0 3) == 3 && (Go.bits .and .i64 a1 3) == 3) (wrap64 (1 + (Go.bits .and .i64 a2 1023))) 0)) := (blk_cell BK268.out 15).trans rfl; have hfz32_0 := blk_frozen BK268.out 0; have hfz32_1 := blk_frozen BK268.out 1; have hfz32_2 := blk_frozen BK268.out 2; have hfz32_3 := blk_frozen BK268.out 3; have hfz32_4 := blk_frozen BK268.out 4; have hfz32_5 := blk_frozen BK268.out 5; have hfz32_6 := blk_frozen BK268.out 6; have hfz32_7 := blk_frozen BK268.out 7; have hfz32_8 := blk_frozen BK268.out 8; have hfz32_9 := blk_frozen BK268.out 9; have hfz32_10 := blk_frozen BK268.out 10; have hfz32_11 := blk_frozen BK268.out 11; have hfz32_12 := blk_frozen BK268.out 12; have hfz32_13 := blk_frozen BK268.out 13; have hfz32_14 := blk_frozen BK268.out 14; have hfz32_15 := blk_frozen BK268.out 15) | ((with_reducible refine gate_callee (f := 13) rfl ?_); refine goesL_ (some 53) rfl rfl Try.func13 (by kernel_rfl) rfl #[.agg #[.int .i64 (up ((Go.bits .and .i64 a0 3) == 0 && (Go.bits .and .i64 a1 3) == 0) (wrap64 (1 + (Go.bits .and .i64 a2 1023))) 0), .int .i64 (up ((Go.bits .and .i64 a0 3) == 0 && (Go.bits .and .i64 a1 3) == 1) (wrap64 (1 + (Go.bits .and .i64 a2 1023))) 0), .int .i64 (up ((Go.bits .and .i64 a0 3) == 0 && (Go.bits .and .i64 a1 3) == 2) (wrap64 (1 + (Go.bits .and .i64 a2 1023))) 0), .int .i64 (up ((Go.bits .and .i64 a0 3) == 0 && (Go.bits .and .i64 a1 3) == 3) (wrap64 (1 + (Go.bits .and .i64 a2 1023))) 0), .int .i64 (up ((Go.bits .and .i64 a0 3) == 1 && (Go.bits .and .i64 a1 3) == 0) (wrap64 (1 + (Go.bits .and .i64 a2 1023))) 0), .int .i64 (up ((Go.bits .and .i64 a0 3) == 1 && (Go.bits .and .i64 a1 3) == 1) (wrap64 (1 + (Go.bits .and .i64 a2 1023))) 0), .int .i64 (up ((Go.bits .and .i64 a0 3) == 1 && (Go.bits .and .i64 a1 3) == 2) (wrap64 (1 + (Go.bits .and .i64 a2 1023))) 0), .int .i64 (up ((Go.bits .and .i64 a0 3) == 1 && (Go.bits .and .i64 a1 3) == 3) (wrap64 (1 + (Go.bits .and .i64 a2 1023))) 0), .int .i64 (up ((Go.bits .and .i64 a0 3) == 2 && (Go.bits .and .i64 a1 3) == 0) (wrap64 (1 + (Go.bits .and .i64 a2 1023))) 0), .int .i64 (up ((Go.bits .and .i64 a0 3) == 2 && (Go.bits .and .i64 a1 3) == 1) (wrap64 (1 + (Go.bits .and .i64 a2 1023))) 0), .int .i64 (up ((Go.bits .and .i64 a0 3) == 2 && (Go.bits .and .i64 a1 3) == 2) (wrap64 (1 + (Go.bits .and .i64 a2 1023))) 0), .int .i64 (up ((Go.bits .and .i64 a0 3) == 2 && (Go.bits .and .i64 a1 3) == 3) (wrap64 (1 + (Go.bits .and .i64 a2 1023))) 0), .int .i64 (up ((Go.bits .and .i64 a0 3) == 3 && (Go.bits .and .i64 a1 3) == 0) (wrap64 (1 + (Go.bits .and .i64 a2 1023))) 0), .int .i64 (up ((Go.bits .and .i64 a0 3) == 3 && (Go.bits .and .i64 a1 3) == 1) (wrap64 (1 + (Go.bits .and .i64 a2 1023))) 0), .int .i64 (up ((Go.bits .and .i64 a0 3) == 3 && (Go.bits .and .i64 a1 3) == 2) (wrap64 (1 + (Go.bits .and .i64 a2 1023))) 0), .int .i64 (up ((Go.bits .and .i64 a0 3) == 3 && (Go.bits .and .i64 a1 3) == 3) (wrap64 (1 + (Go.bits .and .i64 a2 1023))) 0)], .int .i64 (wrap64 (1 + (Go.bits .and .i64 a3 3)))] rfl (by (try simp only [List.map_toArray, List.map_cons, List.map_nil]); first | done | rfl | (simp only [List.length_drop, List.length_take]; rfl)) ?_; (with_reducible refine (paths_Routes.calls kj7 (up ((Go.bits .and .i64 a0 3) == 0 && (Go.bits .and .i64 a1 3) == 0) (wrap64 (1 + (Go.bits .and .i64 a2 1023))) 0) (up ((Go.bits .and .i64 a0 3) == 0 && (Go.bits .and .i64 a1 3) == 1) (wrap64 (1 + (Go.bits .and .i64 a2 1023))) 0) (up ((Go.bits .and .i64 a0 3) == 0 && (Go.bits .and .i64 a1 3) == 2) (wrap64 (1 + (Go.bits .and .i64 a2 1023))) 0) (up ((Go.bits .and .i64 a0 3) == 0 && (Go.bits .and .i64 a1 3) == 3) (wrap64 (1 + (Go.bits .and .i64 a2 1023))) 0) (up ((Go.bits .and .i64 a0 3) == 1 && (Go.bits .and .i64 a1 3) == 0) (wrap64 (1 + (Go.bits .and .i64 a2 1023))) 0) (up ((Go.bits .and .i64 a0 3) == 1 && (Go.bits .and .i64 a1 3) == 1) (wrap64 (1 + (Go.bits .and .i64 a2 1023))) 0) (up ((Go.bits .and .i64 a0 3) == 1 && (Go.bits .and .i64 a1 3) == 2) (wrap64 (1 + (Go.bits .and .i64 a2 1023))) 0) (up ((Go.bits .and .i64 a0 3) == 1 && (Go.bits .and .i64 a1 3) == 3) (wrap64 (1 + (Go.bits .and .i64 a2 1023))) 0) (up ((Go.bits .and .i64 a0 3) == 2 && (Go.bits .and .i64 a1 3) == 0) (wrap64 (1 + (Go.bits .and .i64 a2 1023))) 0) (up ((Go.bits .and .i64 a0 3) == 2 && (Go.bits .and .i64 a1 3) == 1) (wrap64 (1 + (Go.bits .and .i64 a2 1023))) 0) (up ((Go.bits .and .i64 a0 3) == 2 && (Go.bits .and .i64 a1 3) == 2) (wrap64 (1 + (Go.bits .and .i64 a2 1023))) 0) (up ((Go.bits .and .i64 a0 3) == 2 && (Go.bits .and .i64 a1 3) == 3) (wrap64 (1 + (Go.bits .and .i64 a2 1023))) 0) (up ((Go.bits .and .i64 a0 3) == 3 && (Go.bits .and .i64 a1 3) == 0) (wrap64 (1 + (Go.bits .and .i64 a2 1023))) 0) (up ((Go.bits .and .i64 a0 3) == 3 && (Go.bits .and .i64 a1 3) == 1) (wrap64 (1 + (Go.bits .and .i64 a2 1023))) 0) (up ((Go.bits .and .i64 a0 3) == 3 && (Go.bits .and .i64 a1 3) == 2) (wrap64 (1 + (Go.bits .and .i64 a2 1023))) 0) (up ((Go.bits .and .i64 a0 3) == 3 && (Go.bits .and .i64 a1 3) == 3) (wrap64 (1 + (Go.bits .and .i64 a2 1023))) 0) (wrap64 (1 + (Go.bits .and .i64 a3 3))) t274 t277 _ A22.out).mono ?_); rintro e w33 ⟨v275, rfl, ho0, hb⟩; refine ⟨_, rfl, ?_⟩; have n0_ := Aside0.mk (Kd.S_lower ho0 (below_size (by repeat (first | (with_reducible first | exact HB.out | apply below_alloc | apply pw_below_drewN | apply below_drew1 | refine below_set ?_ GE268.out) | exact HB.out)))); have n1_ := Aside0.mk (blk_below (g := gb268) (o := .cells #[.int .i64 (up ((Go.bits .and .i64 a0 3) == 0 && (Go.bits .and .i64 a1 3) == 0) (wrap64 (1 + (Go.bits .and .i64 a2 1023))) 0), .int .i64 (up ((Go.bits .and .i64 a0 3) == 0 && (Go.bits .and .i64 a1 3) == 1) (wrap64 (1 + (Go.bits .and .i64 a2 1023))) 0), .int .i64 (up ((Go.bits .and .i64 a0 3) == 0 && (Go.bits .and .i64 a1 3) == 2) (wrap64 (1 + (Go.bits .and .i64 a2 1023))) 0), .int .i64 (up ((Go.bits .and .i64 a0 3) == 0 && (Go.bits .and .i64 a1 3) == 3) (wrap64 (1 + (Go.bits .and .i64 a2 1023))) 0), .int .i64 (up ((Go.bits .and .i64 a0 3) == 1 && (Go.bits .and .i64 a1 3) == 0) (wrap64 (1 + (Go.bits .and .i64 a2 1023))) 0), .int .i64 (up ((Go.bits .and .i64 a0 3) == 1 && (Go.bits .and .i64 a1 3) == 1) (wrap64 (1 + (Go.bits .and .i64 a2 1023))) 0), .int .i64 (up ((Go.bits .and .i64 a0 3) == 1 && (Go.bits .and .i64 a1 3) == 2) (wrap64 (1 + (Go.bits .and .i64 a2 1023))) 0), .int .i64 (up ((Go.bits .and .i64 a0 3) == 1 && (Go.bits .and .i64 a1 3) == 3) (wrap64 (1 + (Go.bits .and .i64 a2 1023))) 0), .int .i64 (up ((Go.bits .and .i64 a0 3) == 2 && (Go.bits .and .i64 a1 3) == 0) (wrap64 (1 + (Go.bits .and .i64 a2 1023))) 0), .int .i64 (up ((Go.bits .and .i64 a0 3) == 2 && (Go.bits .and .i64 a1 3) == 1) (wrap64 (1 + (Go.bits .and .i64 a2 1023))) 0), .int .i64 (up ((Go.bits .and .i64 a0 3) == 2 && (Go.bits .and .i64 a1 3) == 2) (wrap64 (1 + (Go.bits .and .i64 a2 1023))) 0), .int .i64 (up ((Go.bits .and .i64 a0 3) == 2 && (Go.bits .and .i64 a1 3) == 3) (wrap64 (1 + (Go.bits .and .i64 a2 1023))) 0), .int .i64 (up ((Go.bits .and .i64 a0 3) == 3 && (Go.bits .and .i64 a1 3) == 0) (wrap64 (1 + (Go.bits .and .i64 a2 1023))) 0), .int .i64 (up ((Go.bits .and .i64 a0 3) == 3 && (Go.bits .and .i64 a1 3) == 1) (wrap64 (1 + (Go.bits .and .i64 a2 1023))) 0), .int .i64 (up ((Go.bits .and .i64 a0 3) == 3 && (Go.bits .and .i64 a1 3) == 2) (wrap64 (1 + (Go.bits .and .i64 a2 1023))) 0), .int .i64 (up ((Go.bits .and .i64 a0 3) == 3 && (Go.bits .and .i64 a1 3) == 3) (wrap64 (1 + (Go.bits .and .i64 a2 1023))) 0)] 23 (0, 0)) (by (with_reducible repeat (first | refine blk_drewN ?_ _ | refine blk_drew ?_ | refine blk_alloc ?_ _)); exact BK268.out) hb); have n2_ := Aside0.mk (below_step (by repeat (first | (with_reducible first | exact HB.out | apply below_alloc | apply pw_below_drewN | apply below_drew1 | refine below_set ?_ GE268.out) | exact HB.out)) hb); clear BK268; clear HB; have HO276 := n0_; have BK268 := n1_; have HB := n2_; clear n0_ n1_ n2_; (try clear hb); (try clear hb2); (try clear hk); (try clear hi); (try clear ho0)) | ((with_reducible refine gate_callee (f := 16) rfl ?_); refine goesL_ (some 57) rfl rfl Try.func16 (by kernel_rfl) rfl #[.int .i64 t277] rfl (by (try simp only [List.map_toArray, List.map_cons, List.map_nil]); first | done | rfl | (simp only [List.length_drop, List.length_take]; rfl)) ?_; (with_reducible refine (watchwordlaw0_Num.calls t277 t278 _ A23.out).mono ?_); rintro e w' ⟨rfl, ⟨nd, rfl⟩⟩; refine ⟨_, rfl, ?_⟩; obtain ⟨Ao34, co34, eo34⟩ := Kd.S_slice HO276.out; subst eo34))
              (try (rw [drewN_self w33]; generalize hq_ : World.drewN w33 _ = w33; have n0_ : Aside0 (Kd.S k41 41 w33 w.heap.size (fun _ => True) (.slice Ao34 t274.length co34) t274) := ⟨by rw [← hq_]; exact (by (with_reducible repeat (first | apply Kd.S_alloc | apply Kd.S_drewN | apply Kd.S_drew)); exact HO276.out)⟩; have n1_ : Aside0 (w33.heap[gb268]? = some (.cells #[.int .i64 (up ((Go.bits .and .i64 a0 3) == 0 && (Go.bits .and .i64 a1 3) == 0) (wrap64 (1 + (Go.bits .and .i64 a2 1023))) 0), .int .i64 (up ((Go.bits .and .i64 a0 3) == 0 && (Go.bits .and .i64 a1 3) == 1) (wrap64 (1 + (Go.bits .and .i64 a2 1023))) 0), .int .i64 (up ((Go.bits .and .i64 a0 3) == 0 && (Go.bits .and .i64 a1 3) == 2) (wrap64 (1 + (Go.bits .and .i64 a2 1023))) 0), .int .i64 (up ((Go.bits .and .i64 a0 3) == 0 && (Go.bits .and .i64 a1 3) == 3) (wrap64 (1 + (Go.bits .and .i64 a2 1023))) 0), .int .i64 (up ((Go.bits .and .i64 a0 3) == 1 && (Go.bits .and .i64 a1 3) == 0) (wrap64 (1 + (Go.bits .and .i64 a2 1023))) 0), .int .i64 (up ((Go.bits .and .i64 a0 3) == 1 && (Go.bits .and .i64 a1 3) == 1) (wrap64 (1 + (Go.bits .and .i64 a2 1023))) 0), .int .i64 (up ((Go.bits .and .i64 a0 3) == 1 && (Go.bits .and .i64 a1 3) == 2) (wrap64 (1 + (Go.bits .and .i64 a2 1023))) 0), .int .i64 (up ((Go.bits .and .i64 a0 3) == 1 && (Go.bits .and .i64 a1 3) == 3) (wrap64 (1 + (Go.bits .and .i64 a2 1023))) 0), .int .i64 (up ((Go.bits .and .i64 a0 3) == 2 && (Go.bits .and .i64 a1 3) == 0) (wrap64 (1 + (Go.bits .and .i64 a2 1023))) 0), .int .i64 (up ((Go.bits .and .i64 a0 3) == 2 && (Go.bits .and .i64 a1 3) == 1) (wrap64 (1 + (Go.bits .and .i64 a2 1023))) 0), .int .i64 (up ((Go.bits .and .i64 a0 3) == 2 && (Go.bits .and .i64 a1 3) == 2) (wrap64 (1 + (Go.bits .and .i64 a2 1023))) 0), .int .i64 (up ((Go.bits .and .i64 a0 3) == 2 && (Go.bits .and .i64 a1 3) == 3) (wrap64 (1 + (Go.bits .and .i64 a2 1023))) 0), .int .i64 (up ((Go.bits .and .i64 a0 3) == 3 && (Go.bits .and .i64 a1 3) == 0) (wrap64 (1 + (Go.bits .and .i64 a2 1023))) 0), .int .i64 (up ((Go.bits .and .i64 a0 3) == 3 && (Go.bits .and .i64 a1 3) == 1) (wrap64 (1 + (Go.bits .and .i64 a2 1023))) 0), .int .i64 (up ((Go.bits .and .i64 a0 3) == 3 && (Go.bits .and .i64 a1 3) == 2) (wrap64 (1 + (Go.bits .and .i64 a2 1023))) 0), .int .i64 (up ((Go.bits .and .i64 a0 3) == 3 && (Go.bits .and .i64 a1 3) == 3) (wrap64 (1 + (Go.bits .and .i64 a2 1023))) 0)] 23 (0, 0))) := ⟨by rw [← hq_]; exact (by (with_reducible repeat (first | refine blk_drewN ?_ _ | refine blk_drew ?_ | refine blk_alloc ?_ _)); exact BK268.out)⟩; have n2_ : Aside0 (Below w.heap.size w w33) := ⟨by rw [← hq_]; exact (by repeat (first | (with_reducible first | exact HB.out | apply below_alloc | apply pw_below_drewN | apply below_drew1 | refine below_set ?_ GE268.out) | exact HB.out))⟩; clear HO276 BK268 HB hq_; have HO276 := n0_; have BK268 := n1_; have HB := n2_; clear n0_ n1_ n2_))
              have n0_ := Aside0.mk (Kd.S_drew HO276.out)
              have n1_ := Aside0.mk (blk_drew BK268.out)
              have n2_ := Aside0.mk (below_drew1 HB.out)
              clear HO276
              clear BK268
              clear HB
              have HO276 := n0_
              have BK268 := n1_
              have HB := n2_
              clear n0_ n1_ n2_
              refine start_ (n := 35) (S := fun w' => True) (ds := []) #[false, false, false, false, false, false, false, false, false, false, false, false, false, false, false, false, false, false, false, false, false, false, false, false, false, false, false, false, false, false, false, false, false, false, false] (by kernel_rfl) rfl rfl trivial (fun hHeld => ?_); refine with_tabW watchwordlaw21_PathsNone.tab14 watchwordlaw21_PathsNone.bits14 (fun HT_ HW_ => ?_)
              generalize w33.drew = w35 at HO276 BK268 HB hHeld ⊢
              refine pure_ (i := 0) (N := some 74) (v := ?_) (a' := ?_) #[true, false, false, false, false, false, false, false, false, false, false, false, false, false, false, false, false, false, false, false, false, false, false, false, false, false, false, false, false, false, false, false, false, false, false] rfl rfl (any_of HT_.out (by kernel_rfl)) (fun _ _ _ h => h) (Or.inl ⟨by rfl, ?_⟩) ?_ ?_
              rotate_left
              ·intro w'
               go_simp
               with_reducible rfl
              rotate_left
              ·simp only [Act.put, List.setIfInBounds_toArray, List.set_cons_zero, List.set_cons_succ, i64_w, i32_w]
               rfl
              refine pure_ (i := 1) (N := some 75) (v := ?_) (a' := ?_) #[true, true, false, false, false, false, false, false, false, false, false, false, false, false, false, false, false, false, false, false, false, false, false, false, false, false, false, false, false, false, false, false, false, false, false] rfl rfl (any_of HT_.out (by kernel_rfl)) (fun _ _ _ h => h) (Or.inl ⟨by rfl, ?_⟩) ?_ ?_
              rotate_left
              ·intro w'
               go_simp
               with_reducible rfl
              rotate_left
              ·simp only [Act.put, List.setIfInBounds_toArray, List.set_cons_zero, List.set_cons_succ, i64_w, i32_w]
               rfl
              refine pure_ (i := 2) (N := some 76) (v := ?_) (a' := ?_) #[true, true, true, false, false, false, false, false, false, false, false, false, false, false, false, false, false, false, false, false, false, false, false, false, false, false, false, false, false, false, false, false, false, false, false] rfl rfl (any_of HT_.out (by kernel_rfl)) (fun _ _ _ h => h) (Or.inl ⟨by rfl, ?_⟩) ?_ ?_
              rotate_left
              ·intro w'
               go_simp
               with_reducible rfl
              rotate_left
              ·simp only [Act.put, List.setIfInBounds_toArray, List.set_cons_zero, List.set_cons_succ, i64_w, i32_w]
               rfl
              refine pure_ (i := 3) (N := some 77) (v := ?_) (a' := ?_) #[true, true, true, true, false, false, false, false, false, false, false, false, false, false, false, false, false, false, false, false, false, false, false, false, false, false, false, false, false, false, false, false, false, false, false] rfl rfl (any_of HT_.out (by kernel_rfl)) (fun _ _ _ h => h) (Or.inl ⟨by rfl, ?_⟩) ?_ ?_
              rotate_left
              ·intro w'
               go_simp
               with_reducible rfl
              rotate_left
              ·simp only [Act.put, List.setIfInBounds_toArray, List.set_cons_zero, List.set_cons_succ, i64_w, i32_w]
               rfl
              refine pure_ (i := 4) (N := some 78) (v := undef) (a' := ?_) #[true, true, true, true, true, false, false, false, false, false, false, false, false, false, false, false, false, false, false, false, false, false, false, false, false, false, false, false, false, false, false, false, false, false, false] rfl rfl (any_of HT_.out (by kernel_rfl)) (fun _ _ _ h => h) (Or.inr ⟨by rfl, rfl⟩) ?_ ?_
              rotate_left
              ·simp only [Act.put, List.setIfInBounds_toArray, List.set_cons_zero, List.set_cons_succ, i64_w, i32_w]
               rfl
              refine pure_ (i := 5) (N := some 79) (v := undef) (a' := ?_) #[true, true, true, true, true, true, false, false, false, false, false, false, false, false, false, false, false, false, false, false, false, false, false, false, false, false, false, false, false, false, false, false, false, false, false] rfl rfl (any_of HT_.out (by kernel_rfl)) (fun _ _ _ h => h) (Or.inr ⟨by rfl, rfl⟩) ?_ ?_
              rotate_left
              ·simp only [Act.put, List.setIfInBounds_toArray, List.set_cons_zero, List.set_cons_succ, i64_w, i32_w]
               rfl
              refine pure_ (i := 6) (N := some 80) (v := undef) (a' := ?_) #[true, true, true, true, true, true, true, false, false, false, false, false, false, false, false, false, false, false, false, false, false, false, false, false, false, false, false, false, false, false, false, false, false, false, false] rfl rfl (any_of HT_.out (by kernel_rfl)) (fun _ _ _ h => h) (Or.inr ⟨by rfl, rfl⟩) ?_ ?_
              rotate_left
              ·simp only [Act.put, List.setIfInBounds_toArray, List.set_cons_zero, List.set_cons_succ, i64_w, i32_w]
               rfl
              refine pure_ (i := 7) (N := some 81) (v := undef) (a' := ?_) #[true, true, true, true, true, true, true, true, false, false, false, false, false, false, false, false, false, false, false, false, false, false, false, false, false, false, false, false, false, false, false, false, false, false, false] rfl rfl (any_of HT_.out (by kernel_rfl)) (fun _ _ _ h => h) (Or.inr ⟨by rfl, rfl⟩) ?_ ?_
              rotate_left
              ·simp only [Act.put, List.setIfInBounds_toArray, List.set_cons_zero, List.set_cons_succ, i64_w, i32_w]
               rfl
              refine pure_ (i := 8) (N := some 82) (v := undef) (a' := ?_) #[true, true, true, true, true, true, true, true, true, false, false, false, false, false, false, false, false, false, false, false, false, false, false, false, false, false, false, false, false, false, false, false, false, false, false] rfl rfl (any_of HT_.out (by kernel_rfl)) (fun _ _ _ h => h) (Or.inr ⟨by rfl, rfl⟩) ?_ ?_
              rotate_left
              ·simp only [Act.put, List.setIfInBounds_toArray, List.set_cons_zero, List.set_cons_succ, i64_w, i32_w]
               rfl
              refine pure_ (i := 9) (N := some 83) (v := undef) (a' := ?_) #[true, true, true, true, true, true, true, true, true, true, false, false, false, false, false, false, false, false, false, false, false, false, false, false, false, false, false, false, false, false, false, false, false, false, false] rfl rfl (any_of HT_.out (by kernel_rfl)) (fun _ _ _ h => h) (Or.inr ⟨by rfl, rfl⟩) ?_ ?_
              rotate_left
              ·simp only [Act.put, List.setIfInBounds_toArray, List.set_cons_zero, List.set_cons_succ, i64_w, i32_w]
               rfl
              refine pure_ (i := 10) (N := some 84) (v := undef) (a' := ?_) #[true, true, true, true, true, true, true, true, true, true, true, false, false, false, false, false, false, false, false, false, false, false, false, false, false, false, false, false, false, false, false, false, false, false, false] rfl rfl (any_of HT_.out (by kernel_rfl)) (fun _ _ _ h => h) (Or.inr ⟨by rfl, rfl⟩) ?_ ?_
              rotate_left
              ·simp only [Act.put, List.setIfInBounds_toArray, List.set_cons_zero, List.set_cons_succ, i64_w, i32_w]
               rfl
              refine pure_ (i := 11) (N := some 85) (v := undef) (a' := ?_) #[true, true, true, true, true, true, true, true, true, true, true, true, false, false, false, false, false, false, false, false, false, false, false, false, false, false, false, false, false, false, false, false, false, false, false] rfl rfl (any_of HT_.out (by kernel_rfl)) (fun _ _ _ h => h) (Or.inr ⟨by rfl, rfl⟩) ?_ ?_
              rotate_left
              ·simp only [Act.put, List.setIfInBounds_toArray, List.set_cons_zero, List.set_cons_succ, i64_w, i32_w]
               rfl
              refine pure_ (i := 12) (N := some 86) (v := undef) (a' := ?_) #[true, true, true, true, true, true, true, true, true, true, true, true, true, false, false, false, false, false, false, false, false, false, false, false, false, false, false, false, false, false, false, false, false, false, false] rfl rfl (any_of HT_.out (by kernel_rfl)) (fun _ _ _ h => h) (Or.inr ⟨by rfl, rfl⟩) ?_ ?_
              rotate_left
              ·simp only [Act.put, List.setIfInBounds_toArray, List.set_cons_zero, List.set_cons_succ, i64_w, i32_w]
               rfl
              refine pure_ (i := 13) (N := some 87) (v := undef) (a' := ?_) #[true, true, true, true, true, true, true, true, true, true, true, true, true, true, false, false, false, false, false, false, false, false, false, false, false, false, false, false, false, false, false, false, false, false, false] rfl rfl (any_of HT_.out (by kernel_rfl)) (fun _ _ _ h => h) (Or.inr ⟨by rfl, rfl⟩) ?_ ?_
              rotate_left
              ·simp only [Act.put, List.setIfInBounds_toArray, List.set_cons_zero, List.set_cons_succ, i64_w, i32_w]
               rfl
              refine pure_ (i := 14) (N := some 88) (v := undef) (a' := ?_) #[true, true, true, true, true, true, true, true, true, true, true, true, true, true, true, false, false, false, false, false, false, false, false, false, false, false, false, false, false, false, false, false, false, false, false] rfl rfl (any_of HT_.out (by kernel_rfl)) (fun _ _ _ h => h) (Or.inr ⟨by rfl, rfl⟩) ?_ ?_
              rotate_left
              ·simp only [Act.put, List.setIfInBounds_toArray, List.set_cons_zero, List.set_cons_succ, i64_w, i32_w]
               rfl
              refine pure_ (i := 15) (N := some 89) (v := undef) (a' := ?_) #[true, true, true, true, true, true, true, true, true, true, true, true, true, true, true, true, false, false, false, false, false, false, false, false, false, false, false, false, false, false, false, false, false, false, false] rfl rfl (any_of HT_.out (by kernel_rfl)) (fun _ _ _ h => h) (Or.inr ⟨by rfl, rfl⟩) ?_ ?_
              rotate_left
              ·simp only [Act.put, List.setIfInBounds_toArray, List.set_cons_zero, List.set_cons_succ, i64_w, i32_w]
               rfl
              refine pure_ (i := 16) (N := some 90) (v := undef) (a' := ?_) #[true, true, true, true, true, true, true, true, true, true, true, true, true, true, true, true, true, false, false, false, false, false, false, false, false, false, false, false, false, false, false, false, false, false, false] rfl rfl (any_of HT_.out (by kernel_rfl)) (fun _ _ _ h => h) (Or.inr ⟨by rfl, rfl⟩) ?_ ?_
              rotate_left
              ·simp only [Act.put, List.setIfInBounds_toArray, List.set_cons_zero, List.set_cons_succ, i64_w, i32_w]
               rfl
              refine pure_ (i := 17) (N := some 91) (v := undef) (a' := ?_) #[true, true, true, true, true, true, true, true, true, true, true, true, true, true, true, true, true, true, false, false, false, false, false, false, false, false, false, false, false, false, false, false, false, false, false] rfl rfl (any_of HT_.out (by kernel_rfl)) (fun _ _ _ h => h) (Or.inr ⟨by rfl, rfl⟩) ?_ ?_
              rotate_left
              ·simp only [Act.put, List.setIfInBounds_toArray, List.set_cons_zero, List.set_cons_succ, i64_w, i32_w]
               rfl
              refine pure_ (i := 18) (N := some 92) (v := undef) (a' := ?_) #[true, true, true, true, true, true, true, true, true, true, true, true, true, true, true, true, true, true, true, false, false, false, false, false, false, false, false, false, false, false, false, false, false, false, false] rfl rfl (any_of HT_.out (by kernel_rfl)) (fun _ _ _ h => h) (Or.inr ⟨by rfl, rfl⟩) ?_ ?_
              rotate_left
              ·simp only [Act.put, List.setIfInBounds_toArray, List.set_cons_zero, List.set_cons_succ, i64_w, i32_w]
               rfl
              refine pure_ (i := 19) (N := some 93) (v := undef) (a' := ?_) #[true, true, true, true, true, true, true, true, true, true, true, true, true, true, true, true, true, true, true, true, false, false, false, false, false, false, false, false, false, false, false, false, false, false, false] rfl rfl (any_of HT_.out (by kernel_rfl)) (fun _ _ _ h => h) (Or.inr ⟨by rfl, rfl⟩) ?_ ?_
              rotate_left
              ·simp only [Act.put, List.setIfInBounds_toArray, List.set_cons_zero, List.set_cons_succ, i64_w, i32_w]
               rfl
              refine pure_ (i := 20) (N := some 94) (v := undef) (a' := ?_) #[true, true, true, true, true, true, true, true, true, true, true, true, true, true, true, true, true, true, true, true, true, false, false, false, false, false, false, false, false, false, false, false, false, false, false] rfl rfl (any_of HT_.out (by kernel_rfl)) (fun _ _ _ h => h) (Or.inr ⟨by rfl, rfl⟩) ?_ ?_
              rotate_left
              ·simp only [Act.put, List.setIfInBounds_toArray, List.set_cons_zero, List.set_cons_succ, i64_w, i32_w]
               rfl
              refine pure_ (i := 21) (N := some 95) (v := undef) (a' := ?_) #[true, true, true, true, true, true, true, true, true, true, true, true, true, true, true, true, true, true, true, true, true, true, false, false, false, false, false, false, false, false, false, false, false, false, false] rfl rfl (any_of HT_.out (by kernel_rfl)) (fun _ _ _ h => h) (Or.inr ⟨by rfl, rfl⟩) ?_ ?_
              rotate_left
              ·simp only [Act.put, List.setIfInBounds_toArray, List.set_cons_zero, List.set_cons_succ, i64_w, i32_w]
               rfl
              refine pure_ (i := 22) (N := some 96) (v := undef) (a' := ?_) #[true, true, true, true, true, true, true, true, true, true, true, true, true, true, true, true, true, true, true, true, true, true, true, false, false, false, false, false, false, false, false, false, false, false, false] rfl rfl (any_of HT_.out (by kernel_rfl)) (fun _ _ _ h => h) (Or.inr ⟨by rfl, rfl⟩) ?_ ?_
              rotate_left
              ·simp only [Act.put, List.setIfInBounds_toArray, List.set_cons_zero, List.set_cons_succ, i64_w, i32_w]
               rfl
              refine pure_ (i := 23) (N := some 97) (v := undef) (a' := ?_) #[true, true, true, true, true, true, true, true, true, true, true, true, true, true, true, true, true, true, true, true, true, true, true, true, false, false, false, false, false, false, false, false, false, false, false] rfl rfl (any_of HT_.out (by kernel_rfl)) (fun _ _ _ h => h) (Or.inr ⟨by rfl, rfl⟩) ?_ ?_
              rotate_left
              ·simp only [Act.put, List.setIfInBounds_toArray, List.set_cons_zero, List.set_cons_succ, i64_w, i32_w]
               rfl
              refine pure_ (i := 24) (N := some 98) (v := undef) (a' := ?_) #[true, true, true, true, true, true, true, true, true, true, true, true, true, true, true, true, true, true, true, true, true, true, true, true, true, false, false, false, false, false, false, false, false, false, false] rfl rfl (any_of HT_.out (by kernel_rfl)) (fun _ _ _ h => h) (Or.inr ⟨by rfl, rfl⟩) ?_ ?_
              rotate_left
              ·simp only [Act.put, List.setIfInBounds_toArray, List.set_cons_zero, List.set_cons_succ, i64_w, i32_w]
               rfl
              refine pure_ (i := 25) (N := some 99) (v := undef) (a' := ?_) #[true, true, true, true, true, true, true, true, true, true, true, true, true, true, true, true, true, true, true, true, true, true, true, true, true, true, false, false, false, false, false, false, false, false, false] rfl rfl (any_of HT_.out (by kernel_rfl)) (fun _ _ _ h => h) (Or.inr ⟨by rfl, rfl⟩) ?_ ?_
              rotate_left
              ·simp only [Act.put, List.setIfInBounds_toArray, List.set_cons_zero, List.set_cons_succ, i64_w, i32_w]
               rfl
              refine pure_ (i := 26) (N := some 100) (v := undef) (a' := ?_) #[true, true, true, true, true, true, true, true, true, true, true, true, true, true, true, true, true, true, true, true, true, true, true, true, true, true, true, false, false, false, false, false, false, false, false] rfl rfl (any_of HT_.out (by kernel_rfl)) (fun _ _ _ h => h) (Or.inr ⟨by rfl, rfl⟩) ?_ ?_
              rotate_left
              ·simp only [Act.put, List.setIfInBounds_toArray, List.set_cons_zero, List.set_cons_succ, i64_w, i32_w]
               rfl
              refine pure_ (i := 27) (N := some 101) (v := undef) (a' := ?_) #[true, true, true, true, true, true, true, true, true, true, true, true, true, true, true, true, true, true, true, true, true, true, true, true, true, true, true, true, false, false, false, false, false, false, false] rfl rfl (any_of HT_.out (by kernel_rfl)) (fun _ _ _ h => h) (Or.inr ⟨by rfl, rfl⟩) ?_ ?_
              rotate_left
              ·simp only [Act.put, List.setIfInBounds_toArray, List.set_cons_zero, List.set_cons_succ, i64_w, i32_w]
               rfl
              refine pure_ (i := 28) (N := some 102) (v := undef) (a' := ?_) #[true, true, true, true, true, true, true, true, true, true, true, true, true, true, true, true, true, true, true, true, true, true, true, true, true, true, true, true, true, false, false, false, false, false, false] rfl rfl (any_of HT_.out (by kernel_rfl)) (fun _ _ _ h => h) (Or.inr ⟨by rfl, rfl⟩) ?_ ?_
              rotate_left
              ·simp only [Act.put, List.setIfInBounds_toArray, List.set_cons_zero, List.set_cons_succ, i64_w, i32_w]
               rfl
              refine pure_ (i := 29) (N := some 103) (v := undef) (a' := ?_) #[true, true, true, true, true, true, true, true, true, true, true, true, true, true, true, true, true, true, true, true, true, true, true, true, true, true, true, true, true, true, false, false, false, false, false] rfl rfl (any_of HT_.out (by kernel_rfl)) (fun _ _ _ h => h) (Or.inr ⟨by rfl, rfl⟩) ?_ ?_
              rotate_left
              ·simp only [Act.put, List.setIfInBounds_toArray, List.set_cons_zero, List.set_cons_succ, i64_w, i32_w]
               rfl
              refine pure_ (i := 30) (N := some 104) (v := undef) (a' := ?_) #[true, true, true, true, true, true, true, true, true, true, true, true, true, true, true, true, true, true, true, true, true, true, true, true, true, true, true, true, true, true, true, false, false, false, false] rfl rfl (any_of HT_.out (by kernel_rfl)) (fun _ _ _ h => h) (Or.inr ⟨by rfl, rfl⟩) ?_ ?_
              rotate_left
              ·simp only [Act.put, List.setIfInBounds_toArray, List.set_cons_zero, List.set_cons_succ, i64_w, i32_w]
               rfl
              refine pure_ (i := 31) (N := some 105) (v := undef) (a' := ?_) #[true, true, true, true, true, true, true, true, true, true, true, true, true, true, true, true, true, true, true, true, true, true, true, true, true, true, true, true, true, true, true, true, false, false, false] rfl rfl (any_of HT_.out (by kernel_rfl)) (fun _ _ _ h => h) (Or.inr ⟨by rfl, rfl⟩) ?_ ?_
              rotate_left
              ·simp only [Act.put, List.setIfInBounds_toArray, List.set_cons_zero, List.set_cons_succ, i64_w, i32_w]
               rfl
              refine pure_ (i := 32) (N := some 106) (v := undef) (a' := ?_) #[true, true, true, true, true, true, true, true, true, true, true, true, true, true, true, true, true, true, true, true, true, true, true, true, true, true, true, true, true, true, true, true, true, false, false] rfl rfl (any_of HT_.out (by kernel_rfl)) (fun _ _ _ h => h) (Or.inr ⟨by rfl, rfl⟩) ?_ ?_
              rotate_left
              ·simp only [Act.put, List.setIfInBounds_toArray, List.set_cons_zero, List.set_cons_succ, i64_w, i32_w]
               rfl
              refine pure_ (i := 33) (N := some 107) (v := ?_) (a' := ?_) #[true, true, true, true, true, true, true, true, true, true, true, true, true, true, true, true, true, true, true, true, true, true, true, true, true, true, true, true, true, true, true, true, true, true, false] rfl rfl (any_of HT_.out (by kernel_rfl)) (fun _ _ _ h => h) (Or.inl ⟨by rfl, ?_⟩) ?_ ?_
              rotate_left
              ·intro w'
               go_simp
               with_reducible rfl
              rotate_left
              ·simp only [Act.put, List.setIfInBounds_toArray, List.set_cons_zero, List.set_cons_succ, i64_w, i32_w]
               rfl
              refine pure_ (i := 34) (N := some 8) (v := ?_) (a' := ?_) #[true, true, true, true, true, true, true, true, true, true, true, true, true, true, true, true, true, true, true, true, true, true, true, true, true, true, true, true, true, true, true, true, true, true, true] rfl rfl (any_of HT_.out (by kernel_rfl)) (fun _ _ _ h => h) (Or.inl ⟨by rfl, ?_⟩) ?_ ?_
              rotate_left
              ·intro w'
               go_simp
               with_reducible rfl
              rotate_left
              ·simp only [Act.put, List.setIfInBounds_toArray, List.set_cons_zero, List.set_cons_succ, i64_w, i32_w]
               rfl
              refine done_ (done_of HT_.out (by kernel_rfl)) ?_
              try go_wp2
              go_ret
              exact ⟨by first | rfl | (simp [errW_none, errW_some] <;> rfl) | (simp [*, errW_none, errW_some] <;> rfl), by repeat (first | (with_reducible first | exact HB.out | apply below_alloc | apply pw_below_drewN | apply below_drew1 | refine below_set ?_ GE268.out) | exact HB.out)⟩
             ·rw [if_neg c27] at H
              have c27b0 : ((t274.length : Int) == 0) = false := beq_eq_false_iff_ne.mpr c27
              have c27b1 : ((t274.length : Int) != 0) = true := bne_iff_ne.mpr c27
              have c27b2 : ¬ (t274 = []) := fun h_ => c27 (by rw [h_]; rfl)
              by_cases c36 : 0 < (t274.length : Int)
              ·rw [if_pos c36] at H
               have c36b0 : decide (0 < (t274.length : Int)) = true := decide_eq_true c36
               have c36b1 : decide (0 < t274.length) = true := decide_eq_true (by omega)
               clear c36
               by_cases c37 : ((rd_T41 t274 0).f0) = (wrap64 ((Go.bits .and .i64 a1 3) + 1))
               ·rw [if_pos c37] at H
                have c37b0 : (((rd_T41 t274 0).f0) == (wrap64 ((Go.bits .and .i64 a1 3) + 1))) = true := beq_iff_eq.mpr c37
                have c37b1 : (((rd_T41 t274 0).f0) != (wrap64 ((Go.bits .and .i64 a1 3) + 1))) = false := bne_eq_false_iff_eq.mpr c37
                clear c37
                by_cases c38 : ((rd_T41 t274 0).f1) = (ix4 (ix4 (up ((Go.bits .and .i64 a0 3) == 0 && (Go.bits .and .i64 a1 3) == 0) (wrap64 (1 + (Go.bits .and .i64 a2 1023))) 0) (up ((Go.bits .and .i64 a0 3) == 0 && (Go.bits .and .i64 a1 3) == 1) (wrap64 (1 + (Go.bits .and .i64 a2 1023))) 0) (up ((Go.bits .and .i64 a0 3) == 0 && (Go.bits .and .i64 a1 3) == 2) (wrap64 (1 + (Go.bits .and .i64 a2 1023))) 0) (up ((Go.bits .and .i64 a0 3) == 0 && (Go.bits .and .i64 a1 3) == 3) (wrap64 (1 + (Go.bits .and .i64 a2 1023))) 0) (Go.bits .and .i64 a1 3)) (ix4 (up ((Go.bits .and .i64 a0 3) == 1 && (Go.bits .and .i64 a1 3) == 0) (wrap64 (1 + (Go.bits .and .i64 a2 1023))) 0) (up ((Go.bits .and .i64 a0 3) == 1 && (Go.bits .and .i64 a1 3) == 1) (wrap64 (1 + (Go.bits .and .i64 a2 1023))) 0) (up ((Go.bits .and .i64 a0 3) == 1 && (Go.bits .and .i64 a1 3) == 2) (wrap64 (1 + (Go.bits .and .i64 a2 1023))) 0) (up ((Go.bits .and .i64 a0 3) == 1 && (Go.bits .and .i64 a1 3) == 3) (wrap64 (1 + (Go.bits .and .i64 a2 1023))) 0) (Go.bits .and .i64 a1 3)) (ix4 (up ((Go.bits .and .i64 a0 3) == 2 && (Go.bits .and .i64 a1 3) == 0) (wrap64 (1 + (Go.bits .and .i64 a2 1023))) 0) (up ((Go.bits .and .i64 a0 3) == 2 && (Go.bits .and .i64 a1 3) == 1) (wrap64 (1 + (Go.bits .and .i64 a2 1023))) 0) (up ((Go.bits .and .i64 a0 3) == 2 && (Go.bits .and .i64 a1 3) == 2) (wrap64 (1 + (Go.bits .and .i64 a2 1023))) 0) (up ((Go.bits .and .i64 a0 3) == 2 && (Go.bits .and .i64 a1 3) == 3) (wrap64 (1 + (Go.bits .and .i64 a2 1023))) 0) (Go.bits .and .i64 a1 3)) (ix4 (up ((Go.bits .and .i64 a0 3) == 3 && (Go.bits .and .i64 a1 3) == 0) (wrap64 (1 + (Go.bits .and .i64 a2 1023))) 0) (up ((Go.bits .and .i64 a0 3) == 3 && (Go.bits .and .i64 a1 3) == 1) (wrap64 (1 + (Go.bits .and .i64 a2 1023))) 0) (up ((Go.bits .and .i64 a0 3) == 3 && (Go.bits .and .i64 a1 3) == 2) (wrap64 (1 + (Go.bits .and .i64 a2 1023))) 0) (up ((Go.bits .and .i64 a0 3) == 3 && (Go.bits .and .i64 a1 3) == 3) (wrap64 (1 + (Go.bits .and .i64 a2 1023))) 0) (Go.bits .and .i64 a1 3)) (Go.bits .and .i64 a0 3))
                ·rw [if_pos c38] at H
                 have c38b0 : (((rd_T41 t274 0).f1) == (ix4 (ix4 (up ((Go.bits .and .i64 a0 3) == 0 && (Go.bits .and .i64 a1 3) == 0) (wrap64 (1 + (Go.bits .and .i64 a2 1023))) 0) (up ((Go.bits .and .i64 a0 3) == 0 && (Go.bits .and .i64 a1 3) == 1) (wrap64 (1 + (Go.bits .and .i64 a2 1023))) 0) (up ((Go.bits .and .i64 a0 3) == 0 && (Go.bits .and .i64 a1 3) == 2) (wrap64 (1 + (Go.bits .and .i64 a2 1023))) 0) (up ((Go.bits .and .i64 a0 3) == 0 && (Go.bits .and .i64 a1 3) == 3) (wrap64 (1 + (Go.bits .and .i64 a2 1023))) 0) (Go.bits .and .i64 a1 3)) (ix4 (up ((Go.bits .and .i64 a0 3) == 1 && (Go.bits .and .i64 a1 3) == 0) (wrap64 (1 + (Go.bits .and .i64 a2 1023))) 0) (up ((Go.bits .and .i64 a0 3) == 1 && (Go.bits .and .i64 a1 3) == 1) (wrap64 (1 + (Go.bits .and .i64 a2 1023))) 0) (up ((Go.bits .and .i64 a0 3) == 1 && (Go.bits .and .i64 a1 3) == 2) (wrap64 (1 + (Go.bits .and .i64 a2 1023))) 0) (up ((Go.bits .and .i64 a0 3) == 1 && (Go.bits .and .i64 a1 3) == 3) (wrap64 (1 + (Go.bits .and .i64 a2 1023))) 0) (Go.bits .and .i64 a1 3)) (ix4 (up ((Go.bits .and .i64 a0 3) == 2 && (Go.bits .and .i64 a1 3) == 0) (wrap64 (1 + (Go.bits .and .i64 a2 1023))) 0) (up ((Go.bits .and .i64 a0 3) == 2 && (Go.bits .and .i64 a1 3) == 1) (wrap64 (1 + (Go.bits .and .i64 a2 1023))) 0) (up ((Go.bits .and .i64 a0 3) == 2 && (Go.bits .and .i64 a1 3) == 2) (wrap64 (1 + (Go.bits .and .i64 a2 1023))) 0) (up ((Go.bits .and .i64 a0 3) == 2 && (Go.bits .and .i64 a1 3) == 3) (wrap64 (1 + (Go.bits .and .i64 a2 1023))) 0) (Go.bits .and .i64 a1 3)) (ix4 (up ((Go.bits .and .i64 a0 3) == 3 && (Go.bits .and .i64 a1 3) == 0) (wrap64 (1 + (Go.bits .and .i64 a2 1023))) 0) (up ((Go.bits .and .i64 a0 3) == 3 && (Go.bits .and .i64 a1 3) == 1) (wrap64 (1 + (Go.bits .and .i64 a2 1023))) 0) (up ((Go.bits .and .i64 a0 3) == 3 && (Go.bits .and .i64 a1 3) == 2) (wrap64 (1 + (Go.bits .and .i64 a2 1023))) 0) (up ((Go.bits .and .i64 a0 3) == 3 && (Go.bits .and .i64 a1 3) == 3) (wrap64 (1 + (Go.bits .and .i64 a2 1023))) 0) (Go.bits .and .i64 a1 3)) (Go.bits .and .i64 a0 3))) = true := beq_iff_eq.mpr c38
                 have c38b1 : (((rd_T41 t274 0).f1) != (ix4 (ix4 (up ((Go.bits .and .i64 a0 3) == 0 && (Go.bits .and .i64 a1 3) == 0) (wrap64 (1 + (Go.bits .and .i64 a2 1023))) 0) (up ((Go.bits .and .i64 a0 3) == 0 && (Go.bits .and .i64 a1 3) == 1) (wrap64 (1 + (Go.bits .and .i64 a2 1023))) 0) (up ((Go.bits .and .i64 a0 3) == 0 && (Go.bits .and .i64 a1 3) == 2) (wrap64 (1 + (Go.bits .and .i64 a2 1023))) 0) (up ((Go.bits .and .i64 a0 3) == 0 && (Go.bits .and .i64 a1 3) == 3) (wrap64 (1 + (Go.bits .and .i64 a2 1023))) 0) (Go.bits .and .i64 a1 3)) (ix4 (up ((Go.bits .and .i64 a0 3) == 1 && (Go.bits .and .i64 a1 3) == 0) (wrap64 (1 + (Go.bits .and .i64 a2 1023))) 0) (up ((Go.bits .and .i64 a0 3) == 1 && (Go.bits .and .i64 a1 3) == 1) (wrap64 (1 + (Go.bits .and .i64 a2 1023))) 0) (up ((Go.bits .and .i64 a0 3) == 1 && (Go.bits .and .i64 a1 3) == 2) (wrap64 (1 + (Go.bits .and .i64 a2 1023))) 0) (up ((Go.bits .and .i64 a0 3) == 1 && (Go.bits .and .i64 a1 3) == 3) (wrap64 (1 + (Go.bits .and .i64 a2 1023))) 0) (Go.bits .and .i64 a1 3)) (ix4 (up ((Go.bits .and .i64 a0 3) == 2 && (Go.bits .and .i64 a1 3) == 0) (wrap64 (1 + (Go.bits .and .i64 a2 1023))) 0) (up ((Go.bits .and .i64 a0 3) == 2 && (Go.bits .and .i64 a1 3) == 1) (wrap64 (1 + (Go.bits .and .i64 a2 1023))) 0) (up ((Go.bits .and .i64 a0 3) == 2 && (Go.bits .and .i64 a1 3) == 2) (wrap64 (1 + (Go.bits .and .i64 a2 1023))) 0) (up ((Go.bits .and .i64 a0 3) == 2 && (Go.bits .and .i64 a1 3) == 3) (wrap64 (1 + (Go.bits .and .i64 a2 1023))) 0) (Go.bits .and .i64 a1 3)) (ix4 (up ((Go.bits .and .i64 a0 3) == 3 && (Go.bits .and .i64 a1 3) == 0) (wrap64 (1 + (Go.bits .and .i64 a2 1023))) 0) (up ((Go.bits .and .i64 a0 3) == 3 && (Go.bits .and .i64 a1 3) == 1) (wrap64 (1 + (Go.bits .and .i64 a2 1023))) 0) (up ((Go.bits .and .i64 a0 3) == 3 && (Go.bits .and .i64 a1 3) == 2) (wrap64 (1 + (Go.bits .and .i64 a2 1023))) 0) (up ((Go.bits .and .i64 a0 3) == 3 && (Go.bits .and .i64 a1 3) == 3) (wrap64 (1 + (Go.bits .and .i64 a2 1023))) 0) (Go.bits .and .i64 a1 3)) (Go.bits .and .i64 a0 3))) = false := bne_eq_false_iff_eq.mpr c38
                 clear c38
                 obtain ⟨y282, hy282⟩ : ∃ y_ : List Int, y_ = (([wrap64 ((Go.bits .and .i64 a1 3) + 1)] : List Int)) := ⟨_, rfl⟩
                 replace H : ((watchwordlaw0_SameInts.f kj7 ((rd_T41 t274 0).f2) y282).bind fun t285 => (some t285)) = some r := by first | (rw [hy282]; with_reducible exact H) | (have H2_ := (Option.bind_some _ _).symm.trans H; rw [hy282]; with_reducible exact H2_) | (have H2_ := (Option.bind_some _ _).symm.trans H; with_reducible exact H2_) | with_reducible exact H | (rw [hy282]; exact H) | exact H
                 have Ny282 := Aside0.mk hy282
                 clear hy282
                 replace H := Option.bind_eq_some_iff.mp H
                 obtain ⟨t285, A390, H⟩ := H
                 replace H : (some t285) = some r := H
                 have A39 := Aside0.mk A390
                 clear A390
                 obtain rfl := Option.some.inj H
                 have p40 : (0 ≤ ((Go.bits .and .i64 a0 3) : Int)) = True := eq_true (of_decide_eq_true (by first | (with_reducible assumption) | assumption))
                 have q40 : (((Go.bits .and .i64 a0 3) : Int) < 4) = True := eq_true (of_decide_eq_true (by first | (with_reducible assumption) | assumption))
                 have p41 : (0 ≤ ((Go.bits .and .i64 a1 3) : Int)) = True := eq_true (of_decide_eq_true (by first | (with_reducible assumption) | assumption))
                 have q41 : (((Go.bits .and .i64 a1 3) : Int) < 4) = True := eq_true (of_decide_eq_true (by first | (with_reducible assumption) | assumption))
                 have hs42 : wc.cell? ⟨gb268, (Go.bits .and .i64 a0 3).toNat * 4 + (Go.bits .and .i64 a1 3).toNat, none⟩ = some (.int .i64 (ix4 (ix4 0 0 0 0 (Go.bits .and .i64 a1 3)) (ix4 0 0 0 0 (Go.bits .and .i64 a1 3)) (ix4 0 0 0 0 (Go.bits .and .i64 a1 3)) (ix4 0 0 0 0 (Go.bits .and .i64 a1 3)) (Go.bits .and .i64 a0 3))) := (blk_cell BK268.out ((Go.bits .and .i64 a0 3).toNat * 4 + (Go.bits .and .i64 a1 3).toNat)).trans (ix_44 (Value.int .i64) _ _ _ _ _ _ _ _ _ _ _ _ _ _ _ _ (Go.bits .and .i64 a0 3) (Go.bits .and .i64 a1 3)  (of_decide_eq_true (by first | (with_reducible assumption) | assumption)) (of_decide_eq_true (by first | (with_reducible assumption) | assumption))  (of_decide_eq_true (by first | (with_reducible assumption) | assumption)) (of_decide_eq_true (by first | (with_reducible assumption) | assumption)))
                 have hfs42 := blk_frozen BK268.out ((Go.bits .and .i64 a0 3).toNat * 4 + (Go.bits .and .i64 a1 3).toNat)
                 try go_wp2_with (first | ((with_reducible refine gate_store (t := 3) (p := 49) rfl ?_); refine store_event (t := 3) (p := 49) (v := ?vo_w43) (w1 := (wc.setCell ⟨gb268, (Go.bits .and .i64 a0 3).toNat * 4 + (Go.bits .and .i64 a1 3).toNat, none⟩ (.int .i64 (wrap64 (1 + (Go.bits .and .i64 a2 1023)))))) ?hg ?ho ?hn ?hr ?_; (case ho => rfl); (case hg => rfl); (case hn => rfl); (case hr => first | (go_simp; done) | (go_simp; rfl)); intro w43 hw; have n0_ : Aside0 (w43.heap[gb268]? = some (.cells #[.int .i64 (up ((Go.bits .and .i64 a0 3) == 0 && (Go.bits .and .i64 a1 3) == 0) (wrap64 (1 + (Go.bits .and .i64 a2 1023))) 0), .int .i64 (up ((Go.bits .and .i64 a0 3) == 0 && (Go.bits .and .i64 a1 3) == 1) (wrap64 (1 + (Go.bits .and .i64 a2 1023))) 0), .int .i64 (up ((Go.bits .and .i64 a0 3) == 0 && (Go.bits .and .i64 a1 3) == 2) (wrap64 (1 + (Go.bits .and .i64 a2 1023))) 0), .int .i64 (up ((Go.bits .and .i64 a0 3) == 0 && (Go.bits .and .i64 a1 3) == 3) (wrap64 (1 + (Go.bits .and .i64 a2 1023))) 0), .int .i64 (up ((Go.bits .and .i64 a0 3) == 1 && (Go.bits .and .i64 a1 3) == 0) (wrap64 (1 + (Go.bits .and .i64 a2 1023))) 0), .int .i64 (up ((Go.bits .and .i64 a0 3) == 1 && (Go.bits .and .i64 a1 3) == 1) (wrap64 (1 + (Go.bits .and .i64 a2 1023))) 0), .int .i64 (up ((Go.bits .and .i64 a0 3) == 1 && (Go.bits .and .i64 a1 3) == 2) (wrap64 (1 + (Go.bits .and .i64 a2 1023))) 0), .int .i64 (up ((Go.bits .and .i64 a0 3) == 1 && (Go.bits .and .i64 a1 3) == 3) (wrap64 (1 + (Go.bits .and .i64 a2 1023))) 0), .int .i64 (up ((Go.bits .and .i64 a0 3) == 2 && (Go.bits .and .i64 a1 3) == 0) (wrap64 (1 + (Go.bits .and .i64 a2 1023))) 0), .int .i64 (up ((Go.bits .and .i64 a0 3) == 2 && (Go.bits .and .i64 a1 3) == 1) (wrap64 (1 + (Go.bits .and .i64 a2 1023))) 0), .int .i64 (up ((Go.bits .and .i64 a0 3) == 2 && (Go.bits .and .i64 a1 3) == 2) (wrap64 (1 + (Go.bits .and .i64 a2 1023))) 0), .int .i64 (up ((Go.bits .and .i64 a0 3) == 2 && (Go.bits .and .i64 a1 3) == 3) (wrap64 (1 + (Go.bits .and .i64 a2 1023))) 0), .int .i64 (up ((Go.bits .and .i64 a0 3) == 3 && (Go.bits .and .i64 a1 3) == 0) (wrap64 (1 + (Go.bits .and .i64 a2 1023))) 0), .int .i64 (up ((Go.bits .and .i64 a0 3) == 3 && (Go.bits .and .i64 a1 3) == 1) (wrap64 (1 + (Go.bits .and .i64 a2 1023))) 0), .int .i64 (up ((Go.bits .and .i64 a0 3) == 3 && (Go.bits .and .i64 a1 3) == 2) (wrap64 (1 + (Go.bits .and .i64 a2 1023))) 0), .int .i64 (up ((Go.bits .and .i64 a0 3) == 3 && (Go.bits .and .i64 a1 3) == 3) (wrap64 (1 + (Go.bits .and .i64 a2 1023))) 0)] 23 (0, 0))) := ⟨(by rw [hw]; exact (by (with_reducible repeat (first | refine blk_drewN ?_ _ | refine blk_drew ?_ | refine blk_alloc ?_ _)); refine blk_put (cs := #[.int .i64 0, .int .i64 0, .int .i64 0, .int .i64 0, .int .i64 0, .int .i64 0, .int .i64 0, .int .i64 0, .int .i64 0, .int .i64 0, .int .i64 0, .int .i64 0, .int .i64 0, .int .i64 0, .int .i64 0, .int .i64 0]) ?_ ((Go.bits .and .i64 a0 3).toNat * 4 + (Go.bits .and .i64 a1 3).toNat) _ (up_44 (Value.int .i64) _ _ _ _ _ _ _ _ _ _ _ _ _ _ _ _ (Go.bits .and .i64 a0 3) (Go.bits .and .i64 a1 3) (wrap64 (1 + (Go.bits .and .i64 a2 1023))) (of_decide_eq_true (by first | (with_reducible assumption) | assumption)) (of_decide_eq_true (by first | (with_reducible assumption) | assumption)) (of_decide_eq_true (by first | (with_reducible assumption) | assumption)) (of_decide_eq_true (by first | (with_reducible assumption) | assumption))); (with_reducible repeat (first | refine blk_drewN ?_ _ | refine blk_drew ?_ | refine blk_alloc ?_ _)); exact BK268.out))⟩; have n1_ : Aside0 (Below w.heap.size w w43) := ⟨(by rw [hw]; exact (by repeat (first | (with_reducible first | exact HB.out | apply below_alloc | apply pw_below_drewN | apply below_drew1 | refine below_set ?_ GE268.out) | exact HB.out)))⟩; clear hw; clear BK268; clear HB; have BK268 := n0_; have HB := n1_; clear n0_ n1_; have hcz44_0 : w43.cell? ⟨gb268, 0, none⟩ = some (.int .i64 (up ((Go.bits .and .i64 a0 3) == 0 && (Go.bits .and .i64 a1 3) == 0) (wrap64 (1 + (Go.bits .and .i64 a2 1023))) 0)) := (blk_cell BK268.out 0).trans rfl; have hcz44_1 : w43.cell? ⟨gb268, 1, none⟩ = some (.int .i64 (up ((Go.bits .and .i64 a0 3) == 0 && (Go.bits .and .i64 a1 3) == 1) (wrap64 (1 + (Go.bits .and .i64 a2 1023))) 0)) := (blk_cell BK268.out 1).trans rfl; have hcz44_2 : w43.cell? ⟨gb268, 2, none⟩ = some (.int .i64 (up ((Go.bits .and .i64 a0 3) == 0 && (Go.bits .and .i64 a1 3) == 2) (wrap64 (1 + (Go.bits .and .i64 a2 1023))) 0)) := (blk_cell BK268.out 2).trans rfl; have hcz44_3 : w43.cell? ⟨gb268, 3, none⟩ = some (.int .i64 (up ((Go.bits .and .i64 a0 3) == 0 && (Go.bits .and .i64 a1 3) == 3) (wrap64 (1 + (Go.bits .and .i64 a2 1023))) 0)) := (blk_cell BK268.out 3).trans rfl; have hcz44_4 : w43.cell? ⟨gb268, 4, none⟩ = some (.int .i64 (up ((Go.bits .and .i64 a0 3) == 1 && (Go.bits .and .i64 a1 3) == 0) (wrap64 (1 + (Go.bits .and .i64 a2 1023))) 0)) := (blk_cell BK268.out 4).trans rfl; have hcz44_5 : w43.cell? ⟨gb268, 5, none⟩ = some (.int .i64 (up ((Go.bits .and .i64 a0 3) == 1 && (Go.bits .and .i64 a1 3) == 1) (wrap64 (1 + (Go.bits .and .i64 a2 1023))) 0)) := (blk_cell BK268.out 5).trans rfl; have hcz44_6 : w43.cell? ⟨gb268, 6, none⟩ = some (.int .i64 (up ((Go.bits .and .i64 a0 3) == 1 && (Go.bits .and .i64 a1 3) == 2) (wrap64 (1 + (Go.bits .and .i64 a2 1023))) 0)) := (blk_cell BK268.out 6).trans rfl; have hcz44_7 : w43.cell? ⟨gb268, 7, none⟩ = some (.int .i64 (up ((Go.bits .and .i64 a0 3) == 1 && (Go.bits .and .i64 a1 3) == 3) (wrap64 (1 + (Go.bits .and .i64 a2 1023))) 0)) := (blk_cell BK268.out 7).trans rfl; have hcz44_8 : w43.cell? ⟨gb268, 8, none⟩ = some (.int .i64 (up ((Go.bits .and .i64 a0 3) == 2 && (Go.bits .and .i64 a1 3) == 0) (wrap64 (1 + (Go.bits .and .i64 a2 1023))) 0)) := (blk_cell BK268.out 8).trans rfl; have hcz44_9 : w43.cell? ⟨gb268, 9, none⟩ = some (.int .i64 (up ((Go.bits .and .i64 a0 3) == 2 && (Go.bits .and .i64 a1 3) == 1) (wrap64 (1 + (Go.bits .and .i64 a2 1023))) 0)) := (blk_cell BK268.out 9).trans rfl; have hcz44_10 : w43.cell? ⟨gb268, 10, none⟩ = some (.int .i64 (up ((Go.bits .and .i64 a0 3) == 2 && (Go.bits .and .i64 a1 3) == 2) (wrap64 (1 + (Go.bits .and .i64 a2 1023))) 0)) := (blk_cell BK268.out 10).trans rfl; have hcz44_11 : w43.cell? ⟨gb268, 11, none⟩ = some (.int .i64 (up ((Go.bits .and .i64 a0 3) == 2 && (Go.bits .and .i64 a1 3) == 3) (wrap64 (1 + (Go.bits .and .i64 a2 1023))) 0)) := (blk_cell BK268.out 11).trans rfl; have hcz44_12 : w43.cell? ⟨gb268, 12, none⟩ = some (.int .i64 (up ((Go.bits .and .i64 a0 3) == 3 && (Go.bits .and .i64 a1 3) == 0) (wrap64 (1 + (Go.bits .and .i64 a2 1023))) 0)) := (blk_cell BK268.out 12).trans rfl; have hcz44_13 : w43.cell? ⟨gb268, 13, none⟩ = some (.int .i64 (up ((Go.bits .and .i64 a0 3) == 3 && (Go.bits .and .i64 a1 3) == 1) (wrap64 (1 + (Go.bits .and .i64 a2 1023))) 0)) := (blk_cell BK268.out 13).trans rfl; have hcz44_14 : w43.cell? ⟨gb268, 14, none⟩ = some (.int .i64 (up ((Go.bits .and .i64 a0 3) == 3 && (Go.bits .and .i64 a1 3) == 2) (wrap64 (1 + (Go.bits .and .i64 a2 1023))) 0)) := (blk_cell BK268.out 14).trans rfl; have hcz44_15 : w43.cell? ⟨gb268, 15, none⟩ = some (.int .i64 (up ((Go.bits .and .i64 a0 3) == 3 && (Go.bits .and .i64 a1 3) == 3) (wrap64 (1 + (Go.bits .and .i64 a2 1023))) 0)) := (blk_cell BK268.out 15).trans rfl; have hfz44_0 := blk_frozen BK268.out 0; have hfz44_1 := blk_frozen BK268.out 1; have hfz44_2 := blk_frozen BK268.out 2; have hfz44_3 := blk_frozen BK268.out 3; have hfz44_4 := blk_frozen BK268.out 4; have hfz44_5 := blk_frozen BK268.out 5; have hfz44_6 := blk_frozen BK268.out 6; have hfz44_7 := blk_frozen BK268.out 7; have hfz44_8 := blk_frozen BK268.out 8; have hfz44_9 := blk_frozen BK268.out 9; have hfz44_10 := blk_frozen BK268.out 10; have hfz44_11 := blk_frozen BK268.out 11; have hfz44_12 := blk_frozen BK268.out 12; have hfz44_13 := blk_frozen BK268.out 13; have hfz44_14 := blk_frozen BK268.out 14; have hfz44_15 := blk_frozen BK268.out 15) | ((with_reducible refine gate_callee (f := 13) rfl ?_); refine goesL_ (some 53) rfl rfl Try.func13 (by kernel_rfl) rfl #[.agg #[.int .i64 (up ((Go.bits .and .i64 a0 3) == 0 && (Go.bits .and .i64 a1 3) == 0) (wrap64 (1 + (Go.bits .and .i64 a2 1023))) 0), .int .i64 (up ((Go.bits .and .i64 a0 3) == 0 && (Go.bits .and .i64 a1 3) == 1) (wrap64 (1 + (Go.bits .and .i64 a2 1023))) 0), .int .i64 (up ((Go.bits .and .i64 a0 3) == 0 && (Go.bits .and .i64 a1 3) == 2) (wrap64 (1 + (Go.bits .and .i64 a2 1023))) 0), .int .i64 (up ((Go.bits .and .i64 a0 3) == 0 && (Go.bits .and .i64 a1 3) == 3) (wrap64 (1 + (Go.bits .and .i64 a2 1023))) 0), .int .i64 (up ((Go.bits .and .i64 a0 3) == 1 && (Go.bits .and .i64 a1 3) == 0) (wrap64 (1 + (Go.bits .and .i64 a2 1023))) 0), .int .i64 (up ((Go.bits .and .i64 a0 3) == 1 && (Go.bits .and .i64 a1 3) == 1) (wrap64 (1 + (Go.bits .and .i64 a2 1023))) 0), .int .i64 (up ((Go.bits .and .i64 a0 3) == 1 && (Go.bits .and .i64 a1 3) == 2) (wrap64 (1 + (Go.bits .and .i64 a2 1023))) 0), .int .i64 (up ((Go.bits .and .i64 a0 3) == 1 && (Go.bits .and .i64 a1 3) == 3) (wrap64 (1 + (Go.bits .and .i64 a2 1023))) 0), .int .i64 (up ((Go.bits .and .i64 a0 3) == 2 && (Go.bits .and .i64 a1 3) == 0) (wrap64 (1 + (Go.bits .and .i64 a2 1023))) 0), .int .i64 (up ((Go.bits .and .i64 a0 3) == 2 && (Go.bits .and .i64 a1 3) == 1) (wrap64 (1 + (Go.bits .and .i64 a2 1023))) 0), .int .i64 (up ((Go.bits .and .i64 a0 3) == 2 && (Go.bits .and .i64 a1 3) == 2) (wrap64 (1 + (Go.bits .and .i64 a2 1023))) 0), .int .i64 (up ((Go.bits .and .i64 a0 3) == 2 && (Go.bits .and .i64 a1 3) == 3) (wrap64 (1 + (Go.bits .and .i64 a2 1023))) 0), .int .i64 (up ((Go.bits .and .i64 a0 3) == 3 && (Go.bits .and .i64 a1 3) == 0) (wrap64 (1 + (Go.bits .and .i64 a2 1023))) 0), .int .i64 (up ((Go.bits .and .i64 a0 3) == 3 && (Go.bits .and .i64 a1 3) == 1) (wrap64 (1 + (Go.bits .and .i64 a2 1023))) 0), .int .i64 (up ((Go.bits .and .i64 a0 3) == 3 && (Go.bits .and .i64 a1 3) == 2) (wrap64 (1 + (Go.bits .and .i64 a2 1023))) 0), .int .i64 (up ((Go.bits .and .i64 a0 3) == 3 && (Go.bits .and .i64 a1 3) == 3) (wrap64 (1 + (Go.bits .and .i64 a2 1023))) 0)], .int .i64 (wrap64 (1 + (Go.bits .and .i64 a3 3)))] rfl (by (try simp only [List.map_toArray, List.map_cons, List.map_nil]); first | done | rfl | (simp only [List.length_drop, List.length_take]; rfl)) ?_; (with_reducible refine (paths_Routes.calls kj7 (up ((Go.bits .and .i64 a0 3) == 0 && (Go.bits .and .i64 a1 3) == 0) (wrap64 (1 + (Go.bits .and .i64 a2 1023))) 0) (up ((Go.bits .and .i64 a0 3) == 0 && (Go.bits .and .i64 a1 3) == 1) (wrap64 (1 + (Go.bits .and .i64 a2 1023))) 0) (up ((Go.bits .and .i64 a0 3) == 0 && (Go.bits .and .i64 a1 3) == 2) (wrap64 (1 + (Go.bits .and .i64 a2 1023))) 0) (up ((Go.bits .and .i64 a0 3) == 0 && (Go.bits .and .i64 a1 3) == 3) (wrap64 (1 + (Go.bits .and .i64 a2 1023))) 0) (up ((Go.bits .and .i64 a0 3) == 1 && (Go.bits .and .i64 a1 3) == 0) (wrap64 (1 + (Go.bits .and .i64 a2 1023))) 0) (up ((Go.bits .and .i64 a0 3) == 1 && (Go.bits .and .i64 a1 3) == 1) (wrap64 (1 + (Go.bits .and .i64 a2 1023))) 0) (up ((Go.bits .and .i64 a0 3) == 1 && (Go.bits .and .i64 a1 3) == 2) (wrap64 (1 + (Go.bits .and .i64 a2 1023))) 0) (up ((Go.bits .and .i64 a0 3) == 1 && (Go.bits .and .i64 a1 3) == 3) (wrap64 (1 + (Go.bits .and .i64 a2 1023))) 0) (up ((Go.bits .and .i64 a0 3) == 2 && (Go.bits .and .i64 a1 3) == 0) (wrap64 (1 + (Go.bits .and .i64 a2 1023))) 0) (up ((Go.bits .and .i64 a0 3) == 2 && (Go.bits .and .i64 a1 3) == 1) (wrap64 (1 + (Go.bits .and .i64 a2 1023))) 0) (up ((Go.bits .and .i64 a0 3) == 2 && (Go.bits .and .i64 a1 3) == 2) (wrap64 (1 + (Go.bits .and .i64 a2 1023))) 0) (up ((Go.bits .and .i64 a0 3) == 2 && (Go.bits .and .i64 a1 3) == 3) (wrap64 (1 + (Go.bits .and .i64 a2 1023))) 0) (up ((Go.bits .and .i64 a0 3) == 3 && (Go.bits .and .i64 a1 3) == 0) (wrap64 (1 + (Go.bits .and .i64 a2 1023))) 0) (up ((Go.bits .and .i64 a0 3) == 3 && (Go.bits .and .i64 a1 3) == 1) (wrap64 (1 + (Go.bits .and .i64 a2 1023))) 0) (up ((Go.bits .and .i64 a0 3) == 3 && (Go.bits .and .i64 a1 3) == 2) (wrap64 (1 + (Go.bits .and .i64 a2 1023))) 0) (up ((Go.bits .and .i64 a0 3) == 3 && (Go.bits .and .i64 a1 3) == 3) (wrap64 (1 + (Go.bits .and .i64 a2 1023))) 0) (wrap64 (1 + (Go.bits .and .i64 a3 3))) t274 t277 _ A22.out).mono ?_); rintro e w45 ⟨v275, rfl, ho0, hb⟩; refine ⟨_, rfl, ?_⟩; have n0_ := Aside0.mk (Kd.S_lower ho0 (below_size (by repeat (first | (with_reducible first | exact HB.out | apply below_alloc | apply pw_below_drewN | apply below_drew1 | refine below_set ?_ GE268.out) | exact HB.out)))); have n1_ := Aside0.mk (blk_below (g := gb268) (o := .cells #[.int .i64 (up ((Go.bits .and .i64 a0 3) == 0 && (Go.bits .and .i64 a1 3) == 0) (wrap64 (1 + (Go.bits .and .i64 a2 1023))) 0), .int .i64 (up ((Go.bits .and .i64 a0 3) == 0 && (Go.bits .and .i64 a1 3) == 1) (wrap64 (1 + (Go.bits .and .i64 a2 1023))) 0), .int .i64 (up ((Go.bits .and .i64 a0 3) == 0 && (Go.bits .and .i64 a1 3) == 2) (wrap64 (1 + (Go.bits .and .i64 a2 1023))) 0), .int .i64 (up ((Go.bits .and .i64 a0 3) == 0 && (Go.bits .and .i64 a1 3) == 3) (wrap64 (1 + (Go.bits .and .i64 a2 1023))) 0), .int .i64 (up ((Go.bits .and .i64 a0 3) == 1 && (Go.bits .and .i64 a1 3) == 0) (wrap64 (1 + (Go.bits .and .i64 a2 1023))) 0), .int .i64 (up ((Go.bits .and .i64 a0 3) == 1 && (Go.bits .and .i64 a1 3) == 1) (wrap64 (1 + (Go.bits .and .i64 a2 1023))) 0), .int .i64 (up ((Go.bits .and .i64 a0 3) == 1 && (Go.bits .and .i64 a1 3) == 2) (wrap64 (1 + (Go.bits .and .i64 a2 1023))) 0), .int .i64 (up ((Go.bits .and .i64 a0 3) == 1 && (Go.bits .and .i64 a1 3) == 3) (wrap64 (1 + (Go.bits .and .i64 a2 1023))) 0), .int .i64 (up ((Go.bits .and .i64 a0 3) == 2 && (Go.bits .and .i64 a1 3) == 0) (wrap64 (1 + (Go.bits .and .i64 a2 1023))) 0), .int .i64 (up ((Go.bits .and .i64 a0 3) == 2 && (Go.bits .and .i64 a1 3) == 1) (wrap64 (1 + (Go.bits .and .i64 a2 1023))) 0), .int .i64 (up ((Go.bits .and .i64 a0 3) == 2 && (Go.bits .and .i64 a1 3) == 2) (wrap64 (1 + (Go.bits .and .i64 a2 1023))) 0), .int .i64 (up ((Go.bits .and .i64 a0 3) == 2 && (Go.bits .and .i64 a1 3) == 3) (wrap64 (1 + (Go.bits .and .i64 a2 1023))) 0), .int .i64 (up ((Go.bits .and .i64 a0 3) == 3 && (Go.bits .and .i64 a1 3) == 0) (wrap64 (1 + (Go.bits .and .i64 a2 1023))) 0), .int .i64 (up ((Go.bits .and .i64 a0 3) == 3 && (Go.bits .and .i64 a1 3) == 1) (wrap64 (1 + (Go.bits .and .i64 a2 1023))) 0), .int .i64 (up ((Go.bits .and .i64 a0 3) == 3 && (Go.bits .and .i64 a1 3) == 2) (wrap64 (1 + (Go.bits .and .i64 a2 1023))) 0), .int .i64 (up ((Go.bits .and .i64 a0 3) == 3 && (Go.bits .and .i64 a1 3) == 3) (wrap64 (1 + (Go.bits .and .i64 a2 1023))) 0)] 23 (0, 0)) (by (with_reducible repeat (first | refine blk_drewN ?_ _ | refine blk_drew ?_ | refine blk_alloc ?_ _)); exact BK268.out) hb); have n2_ := Aside0.mk (below_step (by repeat (first | (with_reducible first | exact HB.out | apply below_alloc | apply pw_below_drewN | apply below_drew1 | refine below_set ?_ GE268.out) | exact HB.out)) hb); clear BK268; clear HB; have HO276 := n0_; have BK268 := n1_; have HB := n2_; clear n0_ n1_ n2_; (try clear hb); (try clear hb2); (try clear hk); (try clear hi); (try clear ho0)) | ((with_reducible refine gate_callee (f := 16) rfl ?_); refine goesL_ (some 57) rfl rfl Try.func16 (by kernel_rfl) rfl #[.int .i64 t277] rfl (by (try simp only [List.map_toArray, List.map_cons, List.map_nil]); first | done | rfl | (simp only [List.length_drop, List.length_take]; rfl)) ?_; (with_reducible refine (watchwordlaw0_Num.calls t277 t278 _ A23.out).mono ?_); rintro e w' ⟨rfl, ⟨nd, rfl⟩⟩; refine ⟨_, rfl, ?_⟩; obtain ⟨Ao46, co46, eo46⟩ := Kd.S_slice HO276.out; subst eo46))
                 (try (rw [drewN_self w45]; generalize hq_ : World.drewN w45 _ = w45; have n0_ : Aside0 (Kd.S k41 41 w45 w.heap.size (fun _ => True) (.slice Ao46 t274.length co46) t274) := ⟨by rw [← hq_]; exact (by (with_reducible repeat (first | apply Kd.S_alloc | apply Kd.S_drewN | apply Kd.S_drew)); exact HO276.out)⟩; have n1_ : Aside0 (w45.heap[gb268]? = some (.cells #[.int .i64 (up ((Go.bits .and .i64 a0 3) == 0 && (Go.bits .and .i64 a1 3) == 0) (wrap64 (1 + (Go.bits .and .i64 a2 1023))) 0), .int .i64 (up ((Go.bits .and .i64 a0 3) == 0 && (Go.bits .and .i64 a1 3) == 1) (wrap64 (1 + (Go.bits .and .i64 a2 1023))) 0), .int .i64 (up ((Go.bits .and .i64 a0 3) == 0 && (Go.bits .and .i64 a1 3) == 2) (wrap64 (1 + (Go.bits .and .i64 a2 1023))) 0), .int .i64 (up ((Go.bits .and .i64 a0 3) == 0 && (Go.bits .and .i64 a1 3) == 3) (wrap64 (1 + (Go.bits .and .i64 a2 1023))) 0), .int .i64 (up ((Go.bits .and .i64 a0 3) == 1 && (Go.bits .and .i64 a1 3) == 0) (wrap64 (1 + (Go.bits .and .i64 a2 1023))) 0), .int .i64 (up ((Go.bits .and .i64 a0 3) == 1 && (Go.bits .and .i64 a1 3) == 1) (wrap64 (1 + (Go.bits .and .i64 a2 1023))) 0), .int .i64 (up ((Go.bits .and .i64 a0 3) == 1 && (Go.bits .and .i64 a1 3) == 2) (wrap64 (1 + (Go.bits .and .i64 a2 1023))) 0), .int .i64 (up ((Go.bits .and .i64 a0 3) == 1 && (Go.bits .and .i64 a1 3) == 3) (wrap64 (1 + (Go.bits .and .i64 a2 1023))) 0), .int .i64 (up ((Go.bits .and .i64 a0 3) == 2 && (Go.bits .and .i64 a1 3) == 0) (wrap64 (1 + (Go.bits .and .i64 a2 1023))) 0), .int .i64 (up ((Go.bits .and .i64 a0 3) == 2 && (Go.bits .and .i64 a1 3) == 1) (wrap64 (1 + (Go.bits .and .i64 a2 1023))) 0), .int .i64 (up ((Go.bits .and .i64 a0 3) == 2 && (Go.bits .and .i64 a1 3) == 2) (wrap64 (1 + (Go.bits .and .i64 a2 1023))) 0), .int .i64 (up ((Go.bits .and .i64 a0 3) == 2 && (Go.bits .and .i64 a1 3) == 3) (wrap64 (1 + (Go.bits .and .i64 a2 1023))) 0), .int .i64 (up ((Go.bits .and .i64 a0 3) == 3 && (Go.bits .and .i64 a1 3) == 0) (wrap64 (1 + (Go.bits .and .i64 a2 1023))) 0), .int .i64 (up ((Go.bits .and .i64 a0 3) == 3 && (Go.bits .and .i64 a1 3) == 1) (wrap64 (1 + (Go.bits .and .i64 a2 1023))) 0), .int .i64 (up ((Go.bits .and .i64 a0 3) == 3 && (Go.bits .and .i64 a1 3) == 2) (wrap64 (1 + (Go.bits .and .i64 a2 1023))) 0), .int .i64 (up ((Go.bits .and .i64 a0 3) == 3 && (Go.bits .and .i64 a1 3) == 3) (wrap64 (1 + (Go.bits .and .i64 a2 1023))) 0)] 23 (0, 0))) := ⟨by rw [← hq_]; exact (by (with_reducible repeat (first | refine blk_drewN ?_ _ | refine blk_drew ?_ | refine blk_alloc ?_ _)); exact BK268.out)⟩; have n2_ : Aside0 (Below w.heap.size w w45) := ⟨by rw [← hq_]; exact (by repeat (first | (with_reducible first | exact HB.out | apply below_alloc | apply pw_below_drewN | apply below_drew1 | refine below_set ?_ GE268.out) | exact HB.out))⟩; clear HO276 BK268 HB hq_; have HO276 := n0_; have BK268 := n1_; have HB := n2_; clear n0_ n1_ n2_))
                 have n0_ := Aside0.mk (Kd.S_drew HO276.out)
                 have n1_ := Aside0.mk (blk_drew BK268.out)
                 have n2_ := Aside0.mk (below_drew1 HB.out)
                 clear HO276
                 clear BK268
                 clear HB
                 have HO276 := n0_
                 have BK268 := n1_
                 have HB := n2_
                 clear n0_ n1_ n2_
                 have p279 : 0 ≤ (0 : Int) := (by omega)
                 have q279 : 0 < (t274.length : Int) := of_decide_eq_true (by first | (with_reducible assumption) | assumption)
                 obtain ⟨ad279, A279_2, c279_2, e279, hx279_0, hx279_1, hx279_2, hl279_2, hi279_2⟩ := at_T41 (Kd.S_reads' HO276.out).2.2 0 p279 q279
                 cases e279
                 obtain ⟨ce279, hce279, hMe279, hcc279⟩ := Kd.S_get HO276.out z41 0 p279 (by first | exact q279 | exact of_decide_eq_true (by first | (with_reducible assumption) | assumption) | (have e_ := (Kd.S_reads' HO276.out).1; omega))
                 obtain ⟨ve279_2, rfl, ge279_2⟩ := k41_openM hMe279
                 have hv279_2 := hcc279 2 _ rfl
                 rw [add_field _ _ 2 (by omega)] at hv279_2
                 replace hv279_2 := Option.some.inj (hv279_2.symm.trans hx279_2)
                 rw [hv279_2] at ge279_2
                 have HL279_2 := Aside0.mk (show Kd.R (Kd.int .i64) 3 _ _ _ _ ((rd_T41 t274 0).f2) from ge279_2)
                 clear hv279_2 ge279_2
                 clear hcc279 hce279
                 have qi279 : (0 < t274.length) = True := eq_true (by omega)
                 (try rw [show ((0 : Int)).toNat = 0 from rfl] at hx279_0)
                 (try rw [show 0 * 3 = 0 from rfl] at hx279_0)
                 (try rw [Addr.add_zero'] at hx279_0)
                 (try rw [show ((0 : Int)).toNat = 0 from rfl] at hx279_1)
                 (try rw [show 0 * 3 = 0 from rfl] at hx279_1)
                 (try rw [Addr.add_zero'] at hx279_1)
                 (try rw [show ((0 : Int)).toNat = 0 from rfl] at hx279_2)
                 (try rw [show 0 * 3 = 0 from rfl] at hx279_2)
                 (try rw [Addr.add_zero'] at hx279_2)
                 have HR279_2 := Aside0.mk hi279_2
                 have HC279_2 := Aside0.mk hl279_2
                 clear hi279_2 hl279_2
                 replace p279 := eq_true p279
                 replace q279 := eq_true q279
                 have p280 : 0 ≤ (0 : Int) := (by omega)
                 have q280 : 0 < (t274.length : Int) := of_decide_eq_true (by first | (with_reducible assumption) | assumption)
                 obtain ⟨ad280, A280_2, c280_2, e280, hx280_0, hx280_1, hx280_2, hl280_2, hi280_2⟩ := at_T41 (Kd.S_reads' HO276.out).2.2 0 p280 q280
                 obtain rfl : ad279 = ad280 := (by injection e280)
                 obtain ⟨ce280, hce280, hMe280, hcc280⟩ := Kd.S_get HO276.out z41 0 p280 (by first | exact q280 | exact of_decide_eq_true (by first | (with_reducible assumption) | assumption) | (have e_ := (Kd.S_reads' HO276.out).1; omega))
                 obtain ⟨ve280_2, rfl, ge280_2⟩ := k41_openM hMe280
                 have hv280_2 := hcc280 2 _ rfl
                 rw [add_field _ _ 2 (by omega)] at hv280_2
                 replace hv280_2 := Option.some.inj (hv280_2.symm.trans hx280_2)
                 rw [hv280_2] at ge280_2
                 have HL280_2 := Aside0.mk (show Kd.R (Kd.int .i64) 3 _ _ _ _ ((rd_T41 t274 0).f2) from ge280_2)
                 clear hv280_2 ge280_2
                 clear hcc280 hce280
                 have qi280 : (0 < t274.length) = True := eq_true (by omega)
                 (try rw [show ((0 : Int)).toNat = 0 from rfl] at hx280_0)
                 (try rw [show 0 * 3 = 0 from rfl] at hx280_0)
                 (try rw [Addr.add_zero'] at hx280_0)
                 (try rw [show ((0 : Int)).toNat = 0 from rfl] at hx280_1)
                 (try rw [show 0 * 3 = 0 from rfl] at hx280_1)
                 (try rw [Addr.add_zero'] at hx280_1)
                 (try rw [show ((0 : Int)).toNat = 0 from rfl] at hx280_2)
                 (try rw [show 0 * 3 = 0 from rfl] at hx280_2)
                 (try rw [Addr.add_zero'] at hx280_2)
                 have HR280_2 := Aside0.mk hi280_2
                 have HC280_2 := Aside0.mk hl280_2
                 clear hi280_2 hl280_2
                 replace p280 := eq_true p280
                 replace q280 := eq_true q280
                 have ea_ := Option.some.inj (hx279_2.symm.trans hx280_2)
                 injection ea_ with ea_ en_ ec_
                 subst ea_
                 subst ec_
                 clear en_
                 have p48 : (0 ≤ ((Go.bits .and .i64 a0 3) : Int)) = True := eq_true (of_decide_eq_true (by first | (with_reducible assumption) | assumption))
                 have q48 : (((Go.bits .and .i64 a0 3) : Int) < 4) = True := eq_true (of_decide_eq_true (by first | (with_reducible assumption) | assumption))
                 have p49 : (0 ≤ ((Go.bits .and .i64 a1 3) : Int)) = True := eq_true (of_decide_eq_true (by first | (with_reducible assumption) | assumption))
                 have q49 : (((Go.bits .and .i64 a1 3) : Int) < 4) = True := eq_true (of_decide_eq_true (by first | (with_reducible assumption) | assumption))
                 have p281 : 0 ≤ (0 : Int) := (by omega)
                 have q281 : 0 < (t274.length : Int) := of_decide_eq_true (by first | (with_reducible assumption) | assumption)
                 obtain ⟨ad281, A281_2, c281_2, e281, hx281_0, hx281_1, hx281_2, hl281_2, hi281_2⟩ := at_T41 (Kd.S_reads' HO276.out).2.2 0 p281 q281
                 obtain rfl : ad279 = ad281 := (by injection e281)
                 obtain ⟨ce281, hce281, hMe281, hcc281⟩ := Kd.S_get HO276.out z41 0 p281 (by first | exact q281 | exact of_decide_eq_true (by first | (with_reducible assumption) | assumption) | (have e_ := (Kd.S_reads' HO276.out).1; omega))
                 obtain ⟨ve281_2, rfl, ge281_2⟩ := k41_openM hMe281
                 have hv281_2 := hcc281 2 _ rfl
                 rw [add_field _ _ 2 (by omega)] at hv281_2
                 replace hv281_2 := Option.some.inj (hv281_2.symm.trans hx281_2)
                 rw [hv281_2] at ge281_2
                 have HL281_2 := Aside0.mk (show Kd.R (Kd.int .i64) 3 _ _ _ _ ((rd_T41 t274 0).f2) from ge281_2)
                 clear hv281_2 ge281_2
                 clear hcc281 hce281
                 have qi281 : (0 < t274.length) = True := eq_true (by omega)
                 (try rw [show ((0 : Int)).toNat = 0 from rfl] at hx281_0)
                 (try rw [show 0 * 3 = 0 from rfl] at hx281_0)
                 (try rw [Addr.add_zero'] at hx281_0)
                 (try rw [show ((0 : Int)).toNat = 0 from rfl] at hx281_1)
                 (try rw [show 0 * 3 = 0 from rfl] at hx281_1)
                 (try rw [Addr.add_zero'] at hx281_1)
                 (try rw [show ((0 : Int)).toNat = 0 from rfl] at hx281_2)
                 (try rw [show 0 * 3 = 0 from rfl] at hx281_2)
                 (try rw [Addr.add_zero'] at hx281_2)
                 have HR281_2 := Aside0.mk hi281_2
                 have HC281_2 := Aside0.mk hl281_2
                 clear hi281_2 hl281_2
                 replace p281 := eq_true p281
                 replace q281 := eq_true q281
                 have ea_ := Option.some.inj (hx279_2.symm.trans hx281_2)
                 injection ea_ with ea_ en_ ec_
                 subst ea_
                 subst ec_
                 clear en_
                 refine start_ (n := 35) (S := fun w' => w'.cell? ad279 = some (.int .i64 ((rd_T41 t274 0).f0)) ∧ w'.cell? ⟨ad279.block, ad279.off + 1, none⟩ = some (.int .i64 ((rd_T41 t274 0).f1)) ∧ w'.cell? ⟨ad279.block, ad279.off + 2, none⟩ = some (.slice A279_2 ((rd_T41 t274 0).f2).length c279_2) ∧ w'.cell? ad279 = some (.int .i64 ((rd_T41 t274 0).f0)) ∧ w'.cell? ⟨ad279.block, ad279.off + 1, none⟩ = some (.int .i64 ((rd_T41 t274 0).f1)) ∧ w'.cell? ⟨ad279.block, ad279.off + 2, none⟩ = some (.slice A279_2 ((rd_T41 t274 0).f2).length c279_2) ∧ w'.cell? ⟨gb268, (Go.bits .and .i64 a0 3).toNat * 4 + (Go.bits .and .i64 a1 3).toNat, none⟩ = some (.int .i64 (ix4 (ix4 (up ((Go.bits .and .i64 a0 3) == 0 && (Go.bits .and .i64 a1 3) == 0) (wrap64 (1 + (Go.bits .and .i64 a2 1023))) 0) (up ((Go.bits .and .i64 a0 3) == 0 && (Go.bits .and .i64 a1 3) == 1) (wrap64 (1 + (Go.bits .and .i64 a2 1023))) 0) (up ((Go.bits .and .i64 a0 3) == 0 && (Go.bits .and .i64 a1 3) == 2) (wrap64 (1 + (Go.bits .and .i64 a2 1023))) 0) (up ((Go.bits .and .i64 a0 3) == 0 && (Go.bits .and .i64 a1 3) == 3) (wrap64 (1 + (Go.bits .and .i64 a2 1023))) 0) (Go.bits .and .i64 a1 3)) (ix4 (up ((Go.bits .and .i64 a0 3) == 1 && (Go.bits .and .i64 a1 3) == 0) (wrap64 (1 + (Go.bits .and .i64 a2 1023))) 0) (up ((Go.bits .and .i64 a0 3) == 1 && (Go.bits .and .i64 a1 3) == 1) (wrap64 (1 + (Go.bits .and .i64 a2 1023))) 0) (up ((Go.bits .and .i64 a0 3) == 1 && (Go.bits .and .i64 a1 3) == 2) (wrap64 (1 + (Go.bits .and .i64 a2 1023))) 0) (up ((Go.bits .and .i64 a0 3) == 1 && (Go.bits .and .i64 a1 3) == 3) (wrap64 (1 + (Go.bits .and .i64 a2 1023))) 0) (Go.bits .and .i64 a1 3)) (ix4 (up ((Go.bits .and .i64 a0 3) == 2 && (Go.bits .and .i64 a1 3) == 0) (wrap64 (1 + (Go.bits .and .i64 a2 1023))) 0) (up ((Go.bits .and .i64 a0 3) == 2 && (Go.bits .and .i64 a1 3) == 1) (wrap64 (1 + (Go.bits .and .i64 a2 1023))) 0) (up ((Go.bits .and .i64 a0 3) == 2 && (Go.bits .and .i64 a1 3) == 2) (wrap64 (1 + (Go.bits .and .i64 a2 1023))) 0) (up ((Go.bits .and .i64 a0 3) == 2 && (Go.bits .and .i64 a1 3) == 3) (wrap64 (1 + (Go.bits .and .i64 a2 1023))) 0) (Go.bits .and .i64 a1 3)) (ix4 (up ((Go.bits .and .i64 a0 3) == 3 && (Go.bits .and .i64 a1 3) == 0) (wrap64 (1 + (Go.bits .and .i64 a2 1023))) 0) (up ((Go.bits .and .i64 a0 3) == 3 && (Go.bits .and .i64 a1 3) == 1) (wrap64 (1 + (Go.bits .and .i64 a2 1023))) 0) (up ((Go.bits .and .i64 a0 3) == 3 && (Go.bits .and .i64 a1 3) == 2) (wrap64 (1 + (Go.bits .and .i64 a2 1023))) 0) (up ((Go.bits .and .i64 a0 3) == 3 && (Go.bits .and .i64 a1 3) == 3) (wrap64 (1 + (Go.bits .and .i64 a2 1023))) 0) (Go.bits .and .i64 a1 3)) (Go.bits .and .i64 a0 3))) ∧ w'.cell? ad279 = some (.int .i64 ((rd_T41 t274 0).f0)) ∧ w'.cell? ⟨ad279.block, ad279.off + 1, none⟩ = some (.int .i64 ((rd_T41 t274 0).f1)) ∧ w'.cell? ⟨ad279.block, ad279.off + 2, none⟩ = some (.slice A279_2 ((rd_T41 t274 0).f2).length c279_2)) (ds := []) #[false, false, false, false, false, false, false, false, false, false, false, false, false, false, false, false, false, false, false, false, false, false, false, false, false, false, false, false, false, false, false, false, false, false, false] (by kernel_rfl) rfl rfl ⟨hx279_0, hx279_1, hx279_2, hx280_0, hx280_1, hx280_2, (blk_cell BK268.out ((Go.bits .and .i64 a0 3).toNat * 4 + (Go.bits .and .i64 a1 3).toNat)).trans (ix_44 (Value.int .i64) _ _ _ _ _ _ _ _ _ _ _ _ _ _ _ _ (Go.bits .and .i64 a0 3) (Go.bits .and .i64 a1 3)  (of_decide_eq_true (by first | (with_reducible assumption) | assumption)) (of_decide_eq_true (by first | (with_reducible assumption) | assumption))  (of_decide_eq_true (by first | (with_reducible assumption) | assumption)) (of_decide_eq_true (by first | (with_reducible assumption) | assumption))), hx281_0, hx281_1, hx281_2⟩ (fun hHeld => ?_); refine with_tabW watchwordlaw21_PathsNone.tab14 watchwordlaw21_PathsNone.bits14 (fun HT_ HW_ => ?_)
                 generalize w45.drew = w47 at HO276 BK268 HB HL279_2 HL280_2 HL281_2 HR279_2 HR280_2 HR281_2 hx279_0 hx279_1 hx279_2 hx280_0 hx280_1 hx280_2 hx281_0 hx281_1 hx281_2 hHeld ⊢
                 refine pure_ (i := 0) (N := some 74) (v := ?_) (a' := ?_) #[true, false, false, false, false, false, false, false, false, false, false, false, false, false, false, false, false, false, false, false, false, false, false, false, false, false, false, false, false, false, false, false, false, false, false] rfl rfl (any_of HT_.out (by kernel_rfl)) (fun _ _ _ h => h) (Or.inl ⟨by rfl, ?_⟩) ?_ ?_
                 rotate_left
                 ·intro w'
                  go_simp
                  with_reducible rfl
                 rotate_left
                 ·simp only [Act.put, List.setIfInBounds_toArray, List.set_cons_zero, List.set_cons_succ, i64_w, i32_w]
                  rfl
                 refine pure_ (i := 1) (N := some 75) (v := ?_) (a' := ?_) #[true, true, false, false, false, false, false, false, false, false, false, false, false, false, false, false, false, false, false, false, false, false, false, false, false, false, false, false, false, false, false, false, false, false, false] rfl rfl (any_of HT_.out (by kernel_rfl)) (fun _ _ _ h => h) (Or.inl ⟨by rfl, ?_⟩) ?_ ?_
                 rotate_left
                 ·intro w'
                  go_simp
                  with_reducible rfl
                 rotate_left
                 ·simp only [Act.put, List.setIfInBounds_toArray, List.set_cons_zero, List.set_cons_succ, i64_w, i32_w]
                  rfl
                 refine pure_ (i := 2) (N := some 76) (v := ?_) (a' := ?_) #[true, true, true, false, false, false, false, false, false, false, false, false, false, false, false, false, false, false, false, false, false, false, false, false, false, false, false, false, false, false, false, false, false, false, false] rfl rfl (any_of HT_.out (by kernel_rfl)) (fun _ _ _ h => h) (Or.inl ⟨by rfl, ?_⟩) ?_ ?_
                 rotate_left
                 ·intro w'
                  go_simp
                  with_reducible rfl
                 rotate_left
                 ·simp only [Act.put, List.setIfInBounds_toArray, List.set_cons_zero, List.set_cons_succ, i64_w, i32_w]
                  rfl
                 refine pure_ (i := 3) (N := some 77) (v := ?_) (a' := ?_) #[true, true, true, true, false, false, false, false, false, false, false, false, false, false, false, false, false, false, false, false, false, false, false, false, false, false, false, false, false, false, false, false, false, false, false] rfl rfl (any_of HT_.out (by kernel_rfl)) (fun _ _ _ h => h) (Or.inl ⟨by rfl, ?_⟩) ?_ ?_
                 rotate_left
                 ·intro w'
                  go_simp
                  with_reducible rfl
                 rotate_left
                 ·simp only [Act.put, List.setIfInBounds_toArray, List.set_cons_zero, List.set_cons_succ, i64_w, i32_w]
                  rfl
                 refine pure_ (i := 4) (N := some 78) (v := ?_) (a' := ?_) #[true, true, true, true, true, false, false, false, false, false, false, false, false, false, false, false, false, false, false, false, false, false, false, false, false, false, false, false, false, false, false, false, false, false, false] rfl rfl (any_of HT_.out (by kernel_rfl)) (fun _ _ _ h => h) (Or.inl ⟨by rfl, ?_⟩) ?_ ?_
                 rotate_left
                 ·intro w'
                  go_simp
                  with_reducible rfl
                 rotate_left
                 ·simp only [Act.put, List.setIfInBounds_toArray, List.set_cons_zero, List.set_cons_succ, i64_w, i32_w]
                  rfl
                 refine pure_ (i := 5) (N := some 79) (v := ?_) (a' := ?_) #[true, true, true, true, true, true, false, false, false, false, false, false, false, false, false, false, false, false, false, false, false, false, false, false, false, false, false, false, false, false, false, false, false, false, false] rfl rfl (any_of HT_.out (by kernel_rfl)) (fun _ _ _ h => h) (Or.inl ⟨by rfl, ?_⟩) ?_ ?_
                 rotate_left
                 ·intro w'
                  go_simp
                  with_reducible rfl
                 rotate_left
                 ·simp only [Act.put, List.setIfInBounds_toArray, List.set_cons_zero, List.set_cons_succ, i64_w, i32_w]
                  rfl
                 refine pure_ (i := 6) (N := some 80) (v := ?_) (a' := ?_) #[true, true, true, true, true, true, true, false, false, false, false, false, false, false, false, false, false, false, false, false, false, false, false, false, false, false, false, false, false, false, false, false, false, false, false] rfl rfl (any_of HT_.out (by kernel_rfl)) (fun _ _ _ h => h) (Or.inl ⟨by rfl, ?_⟩) ?_ ?_
                 rotate_left
                 ·intro w'
                  go_simp
                  with_reducible rfl
                 rotate_left
                 ·simp only [Act.put, List.setIfInBounds_toArray, List.set_cons_zero, List.set_cons_succ, i64_w, i32_w]
                  rfl
                 refine pure_ (i := 8) (N := some 82) (v := ?_) (a' := ?_) #[true, true, true, true, true, true, true, false, true, false, false, false, false, false, false, false, false, false, false, false, false, false, false, false, false, false, false, false, false, false, false, false, false, false, false] rfl rfl (any_of HT_.out (by kernel_rfl)) (fun _ _ _ h => h) (Or.inl ⟨by rfl, ?_⟩) ?_ ?_
                 rotate_left
                 ·intro w'
                  go_simp
                  with_reducible rfl
                 rotate_left
                 ·simp only [Act.put, List.setIfInBounds_toArray, List.set_cons_zero, List.set_cons_succ, i64_w, i32_w]
                  rfl
                 refine pure_ (i := 9) (N := some 83) (v := ?_) (a' := ?_) #[true, true, true, true, true, true, true, false, true, true, false, false, false, false, false, false, false, false, false, false, false, false, false, false, false, false, false, false, false, false, false, false, false, false, false] rfl rfl (any_of HT_.out (by kernel_rfl)) (fun _ _ _ h => h) (Or.inl ⟨by rfl, ?_⟩) ?_ ?_
                 rotate_left
                 ·intro w'
                  go_simp
                  with_reducible rfl
                 rotate_left
                 ·simp only [Act.put, List.setIfInBounds_toArray, List.set_cons_zero, List.set_cons_succ, i64_w, i32_w]
                  rfl
                 refine take_ (i := 7) (N := some 81) (v := ?_) (a' := ?_) #[true, true, true, true, true, true, true, true, true, true, false, false, false, false, false, false, false, false, false, false, false, false, false, false, false, false, false, false, false, false, false, false, false, false, false] rfl rfl (take_ofW HT_.out HW_.out (by kernel_rfl)) (fun _ _ _ h => h) (Or.inl ⟨by rfl, ?_⟩) hHeld ?_ ?_
                 rotate_left
                 ·rintro w' ⟨s0, s1, s2, s3, s4, s5, s6, s7, s8, s9⟩
                  go_simp
                  with_reducible rfl
                 rotate_left
                 ·simp only [Act.put, List.setIfInBounds_toArray, List.set_cons_zero, List.set_cons_succ, i64_w, i32_w]
                  rfl
                 refine pure_ (i := 10) (N := some 84) (v := ?_) (a' := ?_) #[true, true, true, true, true, true, true, true, true, true, true, false, false, false, false, false, false, false, false, false, false, false, false, false, false, false, false, false, false, false, false, false, false, false, false] rfl rfl (any_of HT_.out (by kernel_rfl)) (fun _ _ _ h => h) (Or.inl ⟨by rfl, ?_⟩) ?_ ?_
                 rotate_left
                 ·intro w'
                  go_simp
                  with_reducible rfl
                 rotate_left
                 ·simp only [Act.put, List.setIfInBounds_toArray, List.set_cons_zero, List.set_cons_succ, i64_w, i32_w]
                  rfl
                 refine pure_ (i := 11) (N := some 85) (v := ?_) (a' := ?_) #[true, true, true, true, true, true, true, true, true, true, true, true, false, false, false, false, false, false, false, false, false, false, false, false, false, false, false, false, false, false, false, false, false, false, false] rfl rfl (any_of HT_.out (by kernel_rfl)) (fun _ _ _ h => h) (Or.inl ⟨by rfl, ?_⟩) ?_ ?_
                 rotate_left
                 ·intro w'
                  go_simp
                  with_reducible rfl
                 rotate_left
                 ·simp only [Act.put, List.setIfInBounds_toArray, List.set_cons_zero, List.set_cons_succ, i64_w, i32_w]
                  rfl
                 refine pure_ (i := 12) (N := some 86) (v := ?_) (a' := ?_) #[true, true, true, true, true, true, true, true, true, true, true, true, true, false, false, false, false, false, false, false, false, false, false, false, false, false, false, false, false, false, false, false, false, false, false] rfl rfl (any_of HT_.out (by kernel_rfl)) (fun _ _ _ h => h) (Or.inl ⟨by rfl, ?_⟩) ?_ ?_
                 rotate_left
                 ·intro w'
                  go_simp
                  with_reducible rfl
                 rotate_left
                 ·simp only [Act.put, List.setIfInBounds_toArray, List.set_cons_zero, List.set_cons_succ, i64_w, i32_w]
                  rfl
                 refine pure_ (i := 13) (N := some 87) (v := ?_) (a' := ?_) #[true, true, true, true, true, true, true, true, true, true, true, true, true, true, false, false, false, false, false, false, false, false, false, false, false, false, false, false, false, false, false, false, false, false, false] rfl rfl (any_of HT_.out (by kernel_rfl)) (fun _ _ _ h => h) (Or.inl ⟨by rfl, ?_⟩) ?_ ?_
                 rotate_left
                 ·intro w'
                  go_simp
                  with_reducible rfl
                 rotate_left
                 ·simp only [Act.put, List.setIfInBounds_toArray, List.set_cons_zero, List.set_cons_succ, i64_w, i32_w]
                  rfl
                 refine pure_ (i := 14) (N := some 88) (v := ?_) (a' := ?_) #[true, true, true, true, true, true, true, true, true, true, true, true, true, true, true, false, false, false, false, false, false, false, false, false, false, false, false, false, false, false, false, false, false, false, false] rfl rfl (any_of HT_.out (by kernel_rfl)) (fun _ _ _ h => h) (Or.inl ⟨by rfl, ?_⟩) ?_ ?_
                 rotate_left
                 ·intro w'
                  go_simp
                  with_reducible rfl
                 rotate_left
                 ·simp only [Act.put, List.setIfInBounds_toArray, List.set_cons_zero, List.set_cons_succ, i64_w, i32_w]
                  rfl
                 refine pure_ (i := 16) (N := some 90) (v := ?_) (a' := ?_) #[true, true, true, true, true, true, true, true, true, true, true, true, true, true, true, false, true, false, false, false, false, false, false, false, false, false, false, false, false, false, false, false, false, false, false] rfl rfl (any_of HT_.out (by kernel_rfl)) (fun _ _ _ h => h) (Or.inl ⟨by rfl, ?_⟩) ?_ ?_
                 rotate_left
                 ·intro w'
                  go_simp
                  with_reducible rfl
                 rotate_left
                 ·simp only [Act.put, List.setIfInBounds_toArray, List.set_cons_zero, List.set_cons_succ, i64_w, i32_w]
                  rfl
                 refine pure_ (i := 17) (N := some 91) (v := ?_) (a' := ?_) #[true, true, true, true, true, true, true, true, true, true, true, true, true, true, true, false, true, true, false, false, false, false, false, false, false, false, false, false, false, false, false, false, false, false, false] rfl rfl (any_of HT_.out (by kernel_rfl)) (fun _ _ _ h => h) (Or.inl ⟨by rfl, ?_⟩) ?_ ?_
                 rotate_left
                 ·intro w'
                  go_simp
                  with_reducible rfl
                 rotate_left
                 ·simp only [Act.put, List.setIfInBounds_toArray, List.set_cons_zero, List.set_cons_succ, i64_w, i32_w]
                  rfl
                 refine pure_ (i := 18) (N := some 92) (v := ?_) (a' := ?_) #[true, true, true, true, true, true, true, true, true, true, true, true, true, true, true, false, true, true, true, false, false, false, false, false, false, false, false, false, false, false, false, false, false, false, false] rfl rfl (any_of HT_.out (by kernel_rfl)) (fun _ _ _ h => h) (Or.inl ⟨by rfl, ?_⟩) ?_ ?_
                 rotate_left
                 ·intro w'
                  go_simp
                  with_reducible rfl
                 rotate_left
                 ·simp only [Act.put, List.setIfInBounds_toArray, List.set_cons_zero, List.set_cons_succ, i64_w, i32_w]
                  rfl
                 refine pure_ (i := 19) (N := some 93) (v := ?_) (a' := ?_) #[true, true, true, true, true, true, true, true, true, true, true, true, true, true, true, false, true, true, true, true, false, false, false, false, false, false, false, false, false, false, false, false, false, false, false] rfl rfl (any_of HT_.out (by kernel_rfl)) (fun _ _ _ h => h) (Or.inl ⟨by rfl, ?_⟩) ?_ ?_
                 rotate_left
                 ·intro w'
                  go_simp
                  with_reducible rfl
                 rotate_left
                 ·simp only [Act.put, List.setIfInBounds_toArray, List.set_cons_zero, List.set_cons_succ, i64_w, i32_w]
                  rfl
                 refine take_ (i := 15) (N := some 89) (v := ?_) (a' := ?_) #[true, true, true, true, true, true, true, true, true, true, true, true, true, true, true, true, true, true, true, true, false, false, false, false, false, false, false, false, false, false, false, false, false, false, false] rfl rfl (take_ofW HT_.out HW_.out (by kernel_rfl)) (fun _ _ _ h => h) (Or.inl ⟨by rfl, ?_⟩) hHeld ?_ ?_
                 rotate_left
                 ·rintro w' ⟨s0, s1, s2, s3, s4, s5, s6, s7, s8, s9⟩
                  go_simp
                  with_reducible rfl
                 rotate_left
                 ·simp only [Act.put, List.setIfInBounds_toArray, List.set_cons_zero, List.set_cons_succ, i64_w, i32_w]
                  rfl
                 refine take_ (i := 20) (N := some 94) (v := ?_) (a' := ?_) #[true, true, true, true, true, true, true, true, true, true, true, true, true, true, true, true, true, true, true, true, true, false, false, false, false, false, false, false, false, false, false, false, false, false, false] rfl rfl (take_ofW HT_.out HW_.out (by kernel_rfl)) (fun _ _ _ h => h) (Or.inl ⟨by rfl, ?_⟩) hHeld ?_ ?_
                 rotate_left
                 ·rintro w' ⟨s0, s1, s2, s3, s4, s5, s6, s7, s8, s9⟩
                  go_simp
                  with_reducible rfl
                 rotate_left
                 ·simp only [Act.put, List.setIfInBounds_toArray, List.set_cons_zero, List.set_cons_succ, i64_w, i32_w]
                  rfl
                 refine pure_ (i := 21) (N := some 95) (v := ?_) (a' := ?_) #[true, true, true, true, true, true, true, true, true, true, true, true, true, true, true, true, true, true, true, true, true, true, false, false, false, false, false, false, false, false, false, false, false, false, false] rfl rfl (any_of HT_.out (by kernel_rfl)) (fun _ _ _ h => h) (Or.inl ⟨by rfl, ?_⟩) ?_ ?_
                 rotate_left
                 ·intro w'
                  go_simp
                  with_reducible rfl
                 rotate_left
                 ·simp only [Act.put, List.setIfInBounds_toArray, List.set_cons_zero, List.set_cons_succ, i64_w, i32_w]
                  rfl
                 refine pure_ (i := 22) (N := some 96) (v := ?_) (a' := ?_) #[true, true, true, true, true, true, true, true, true, true, true, true, true, true, true, true, true, true, true, true, true, true, true, false, false, false, false, false, false, false, false, false, false, false, false] rfl rfl (any_of HT_.out (by kernel_rfl)) (fun _ _ _ h => h) (Or.inl ⟨by rfl, ?_⟩) ?_ ?_
                 rotate_left
                 ·intro w'
                  go_simp
                  with_reducible rfl
                 rotate_left
                 ·simp only [Act.put, List.setIfInBounds_toArray, List.set_cons_zero, List.set_cons_succ, i64_w, i32_w]
                  rfl
                 refine pure_ (i := 23) (N := some 97) (v := ?_) (a' := ?_) #[true, true, true, true, true, true, true, true, true, true, true, true, true, true, true, true, true, true, true, true, true, true, true, true, false, false, false, false, false, false, false, false, false, false, false] rfl rfl (any_of HT_.out (by kernel_rfl)) (fun _ _ _ h => h) (Or.inl ⟨by rfl, ?_⟩) ?_ ?_
                 rotate_left
                 ·intro w'
                  go_simp
                  with_reducible rfl
                 rotate_left
                 ·simp only [Act.put, List.setIfInBounds_toArray, List.set_cons_zero, List.set_cons_succ, i64_w, i32_w]
                  rfl
                 refine pure_ (i := 24) (N := some 98) (v := ?_) (a' := ?_) #[true, true, true, true, true, true, true, true, true, true, true, true, true, true, true, true, true, true, true, true, true, true, true, true, true, false, false, false, false, false, false, false, false, false, false] rfl rfl (any_of HT_.out (by kernel_rfl)) (fun _ _ _ h => h) (Or.inl ⟨by rfl, ?_⟩) ?_ ?_
                 rotate_left
                 ·intro w'
                  go_simp
                  with_reducible rfl
                 rotate_left
                 ·simp only [Act.put, List.setIfInBounds_toArray, List.set_cons_zero, List.set_cons_succ, i64_w, i32_w]
                  rfl
                 refine pure_ (i := 25) (N := some 99) (v := ?_) (a' := ?_) #[true, true, true, true, true, true, true, true, true, true, true, true, true, true, true, true, true, true, true, true, true, true, true, true, true, true, false, false, false, false, false, false, false, false, false] rfl rfl (any_of HT_.out (by kernel_rfl)) (fun _ _ _ h => h) (Or.inl ⟨by rfl, ?_⟩) ?_ ?_
                 rotate_left
                 ·intro w'
                  go_simp
                  with_reducible rfl
                 rotate_left
                 ·simp only [Act.put, List.setIfInBounds_toArray, List.set_cons_zero, List.set_cons_succ, i64_w, i32_w]
                  rfl
                 refine pure_ (i := 26) (N := some 100) (v := ?_) (a' := ?_) #[true, true, true, true, true, true, true, true, true, true, true, true, true, true, true, true, true, true, true, true, true, true, true, true, true, true, true, false, false, false, false, false, false, false, false] rfl rfl (any_of HT_.out (by kernel_rfl)) (fun _ _ _ h => h) (Or.inl ⟨by rfl, ?_⟩) ?_ ?_
                 rotate_left
                 ·intro w'
                  go_simp
                  with_reducible rfl
                 rotate_left
                 ·simp only [Act.put, List.setIfInBounds_toArray, List.set_cons_zero, List.set_cons_succ, i64_w, i32_w]
                  rfl
                 refine pure_ (i := 28) (N := some 102) (v := ?_) (a' := ?_) #[true, true, true, true, true, true, true, true, true, true, true, true, true, true, true, true, true, true, true, true, true, true, true, true, true, true, true, false, true, false, false, false, false, false, false] rfl rfl (any_of HT_.out (by kernel_rfl)) (fun _ _ _ h => h) (Or.inl ⟨by rfl, ?_⟩) ?_ ?_
                 rotate_left
                 ·intro w'
                  go_simp
                  with_reducible rfl
                 rotate_left
                 ·simp only [Act.put, List.setIfInBounds_toArray, List.set_cons_zero, List.set_cons_succ, i64_w, i32_w]
                  rfl
                 refine pure_ (i := 29) (N := some 103) (v := ?_) (a' := ?_) #[true, true, true, true, true, true, true, true, true, true, true, true, true, true, true, true, true, true, true, true, true, true, true, true, true, true, true, false, true, true, false, false, false, false, false] rfl rfl (any_of HT_.out (by kernel_rfl)) (fun _ _ _ h => h) (Or.inl ⟨by rfl, ?_⟩) ?_ ?_
                 rotate_left
                 ·intro w'
                  go_simp
                  with_reducible rfl
                 rotate_left
                 ·simp only [Act.put, List.setIfInBounds_toArray, List.set_cons_zero, List.set_cons_succ, i64_w, i32_w]
                  rfl
                 refine take_ (i := 27) (N := some 101) (v := ?_) (a' := ?_) #[true, true, true, true, true, true, true, true, true, true, true, true, true, true, true, true, true, true, true, true, true, true, true, true, true, true, true, true, true, true, false, false, false, false, false] rfl rfl (take_ofW HT_.out HW_.out (by kernel_rfl)) (fun _ _ _ h => h) (Or.inl ⟨by rfl, ?_⟩) hHeld ?_ ?_
                 rotate_left
                 ·rintro w' ⟨s0, s1, s2, s3, s4, s5, s6, s7, s8, s9⟩
                  go_simp
                  with_reducible rfl
                 rotate_left
                 ·simp only [Act.put, List.setIfInBounds_toArray, List.set_cons_zero, List.set_cons_succ, i64_w, i32_w]
                  rfl
                 refine one_ (i := 30) (N := some 104) #[true, true, true, true, true, true, true, true, true, true, true, true, true, true, true, true, true, true, true, true, true, true, true, true, true, true, true, true, true, true, true, false, false, false, false] rfl rfl (one_of HT_.out (by kernel_rfl)) (by decide) (fun K hK => ?_)
                 refine Kd.R_lit_step (Kd.int .i64) _ 3 ?hg (N := 104) ?hd (xs := ([wrap64 ((Go.bits .and .i64 a1 3) + 1)] : List Int)) (inner := [.int .i64 (wrap64 ((Go.bits .and .i64 a1 3) + 1))]) (ok := fun _ => True) (okp := fun _ => True) ?hr ?hp (fun _ hk => hk) trivial (Below.refl _ _) (Nat.le_refl _) (by simp) ?_; (case hd => rfl); (case hg => rfl); (case hr => first | (go_simp; done) | (go_simp; rfl)); (case hp => exact (Reps.one (show Kd.M (Kd.int .i64) _ _ _ (wrap64 ((Go.bits .and .i64 a1 3) + 1)) [.int .i64 (wrap64 ((Go.bits .and .i64 a1 3) + 1))] from rfl) (Reps.none _ _)))
                 intro v283 w51 ho52 hb hg_ hnew_
                 have HS0_ := (hb.cell (World.block_lt_of_cell? _ _ (hHeld.1))).trans (hHeld.1)
                 have HS1_ := (hb.cell (World.block_lt_of_cell? _ _ (hHeld.2.1))).trans (hHeld.2.1)
                 have HS2_ := (hb.cell (World.block_lt_of_cell? _ _ (hHeld.2.2.1))).trans (hHeld.2.2.1)
                 have HS3_ := (hb.cell (World.block_lt_of_cell? _ _ (hHeld.2.2.2.1))).trans (hHeld.2.2.2.1)
                 have HS4_ := (hb.cell (World.block_lt_of_cell? _ _ (hHeld.2.2.2.2.1))).trans (hHeld.2.2.2.2.1)
                 have HS5_ := (hb.cell (World.block_lt_of_cell? _ _ (hHeld.2.2.2.2.2.1))).trans (hHeld.2.2.2.2.2.1)
                 have HS7_ := (hb.cell (World.block_lt_of_cell? _ _ (hHeld.2.2.2.2.2.2.2.1))).trans (hHeld.2.2.2.2.2.2.2.1)
                 have HS8_ := (hb.cell (World.block_lt_of_cell? _ _ (hHeld.2.2.2.2.2.2.2.2.1))).trans (hHeld.2.2.2.2.2.2.2.2.1)
                 have HS9_ := (hb.cell (World.block_lt_of_cell? _ _ (hHeld.2.2.2.2.2.2.2.2.2))).trans (hHeld.2.2.2.2.2.2.2.2.2)
                 clear hg_ hnew_
                 (first | rw [← Ny282.out] at ho52 | (simp only [Int.reduceToNat] at ho52; rw [← Ny282.out] at ho52))
                 have n0_ := Aside0.mk (Kd.S_elder' (by (with_reducible repeat (first | apply Kd.S_alloc | apply Kd.S_drewN | apply Kd.S_drew)); exact HO276.out) (Kd.R_base ho52) hb)
                 have n1_ := Aside0.mk (Kd.R_elder' (by (with_reducible repeat (first | apply Kd.R_alloc | apply Kd.R_drewN | apply Kd.R_drew)); exact HL279_2.out) (Kd.R_base ho52) hb)
                 have n2_ := Aside0.mk (Kd.R_elder' (by (with_reducible repeat (first | apply Kd.R_alloc | apply Kd.R_drewN | apply Kd.R_drew)); exact HL280_2.out) (Kd.R_base ho52) hb)
                 have n3_ := Aside0.mk (Kd.R_elder' (by (with_reducible repeat (first | apply Kd.R_alloc | apply Kd.R_drewN | apply Kd.R_drew)); exact HL281_2.out) (Kd.R_base ho52) hb)
                 have n4_ := Aside0.mk (Kd.R_lower (Kd.R_new' (Kd.R_new' (Kd.R_new' ho52 (Kd.R_lt (by (with_reducible repeat (first | apply Kd.R_alloc | apply Kd.R_drewN | apply Kd.R_drew)); exact HL279_2.out))) (Kd.R_lt (by (with_reducible repeat (first | apply Kd.R_alloc | apply Kd.R_drewN | apply Kd.R_drew)); exact HL280_2.out))) (Kd.R_lt (by (with_reducible repeat (first | apply Kd.R_alloc | apply Kd.R_drewN | apply Kd.R_drew)); exact HL281_2.out))) (below_size (by repeat (first | (with_reducible first | exact HB.out | apply below_alloc | apply pw_below_drewN | apply below_drew1 | refine below_set ?_ GE268.out) | exact HB.out))))
                 have n5_ := Aside0.mk (blk_below (g := gb268) (o := .cells #[.int .i64 (up ((Go.bits .and .i64 a0 3) == 0 && (Go.bits .and .i64 a1 3) == 0) (wrap64 (1 + (Go.bits .and .i64 a2 1023))) 0), .int .i64 (up ((Go.bits .and .i64 a0 3) == 0 && (Go.bits .and .i64 a1 3) == 1) (wrap64 (1 + (Go.bits .and .i64 a2 1023))) 0), .int .i64 (up ((Go.bits .and .i64 a0 3) == 0 && (Go.bits .and .i64 a1 3) == 2) (wrap64 (1 + (Go.bits .and .i64 a2 1023))) 0), .int .i64 (up ((Go.bits .and .i64 a0 3) == 0 && (Go.bits .and .i64 a1 3) == 3) (wrap64 (1 + (Go.bits .and .i64 a2 1023))) 0), .int .i64 (up ((Go.bits .and .i64 a0 3) == 1 && (Go.bits .and .i64 a1 3) == 0) (wrap64 (1 + (Go.bits .and .i64 a2 1023))) 0), .int .i64 (up ((Go.bits .and .i64 a0 3) == 1 && (Go.bits .and .i64 a1 3) == 1) (wrap64 (1 + (Go.bits .and .i64 a2 1023))) 0), .int .i64 (up ((Go.bits .and .i64 a0 3) == 1 && (Go.bits .and .i64 a1 3) == 2) (wrap64 (1 + (Go.bits .and .i64 a2 1023))) 0), .int .i64 (up ((Go.bits .and .i64 a0 3) == 1 && (Go.bits .and .i64 a1 3) == 3) (wrap64 (1 + (Go.bits .and .i64 a2 1023))) 0), .int .i64 (up ((Go.bits .and .i64 a0 3) == 2 && (Go.bits .and .i64 a1 3) == 0) (wrap64 (1 + (Go.bits .and .i64 a2 1023))) 0), .int .i64 (up ((Go.bits .and .i64 a0 3) == 2 && (Go.bits .and .i64 a1 3) == 1) (wrap64 (1 + (Go.bits .and .i64 a2 1023))) 0), .int .i64 (up ((Go.bits .and .i64 a0 3) == 2 && (Go.bits .and .i64 a1 3) == 2) (wrap64 (1 + (Go.bits .and .i64 a2 1023))) 0), .int .i64 (up ((Go.bits .and .i64 a0 3) == 2 && (Go.bits .and .i64 a1 3) == 3) (wrap64 (1 + (Go.bits .and .i64 a2 1023))) 0), .int .i64 (up ((Go.bits .and .i64 a0 3) == 3 && (Go.bits .and .i64 a1 3) == 0) (wrap64 (1 + (Go.bits .and .i64 a2 1023))) 0), .int .i64 (up ((Go.bits .and .i64 a0 3) == 3 && (Go.bits .and .i64 a1 3) == 1) (wrap64 (1 + (Go.bits .and .i64 a2 1023))) 0), .int .i64 (up ((Go.bits .and .i64 a0 3) == 3 && (Go.bits .and .i64 a1 3) == 2) (wrap64 (1 + (Go.bits .and .i64 a2 1023))) 0), .int .i64 (up ((Go.bits .and .i64 a0 3) == 3 && (Go.bits .and .i64 a1 3) == 3) (wrap64 (1 + (Go.bits .and .i64 a2 1023))) 0)] 23 (0, 0)) (by (with_reducible repeat (first | refine blk_drewN ?_ _ | refine blk_drew ?_ | refine blk_alloc ?_ _)); exact BK268.out) hb)
                 have n6_ := Aside0.mk (Kd.C_below (by repeat (first | (with_reducible exact HR279_2.out) | (with_reducible refine Kd.C_alloc ?_ _) | (with_reducible refine Kd.C_drewN ?_ _) | (with_reducible refine Kd.C_drew ?_) | exact HR279_2.out)) hb)
                 have n7_ := Aside0.mk (Kd.C_below (by repeat (first | (with_reducible exact HR280_2.out) | (with_reducible refine Kd.C_alloc ?_ _) | (with_reducible refine Kd.C_drewN ?_ _) | (with_reducible refine Kd.C_drew ?_) | exact HR280_2.out)) hb)
                 have n8_ := Aside0.mk (Kd.C_below (by repeat (first | (with_reducible exact HR281_2.out) | (with_reducible refine Kd.C_alloc ?_ _) | (with_reducible refine Kd.C_drewN ?_ _) | (with_reducible refine Kd.C_drew ?_) | exact HR281_2.out)) hb)
                 have n9_ := Aside0.mk (below_step (by repeat (first | (with_reducible first | exact HB.out | apply below_alloc | apply pw_below_drewN | apply below_drew1 | refine below_set ?_ GE268.out) | exact HB.out)) hb)
                 clear HO276
                 clear HL279_2
                 clear HL280_2
                 clear HL281_2
                 clear BK268
                 clear HR279_2
                 clear HR280_2
                 clear HR281_2
                 clear HB
                 have HO276 := n0_
                 have HL279_2 := n1_
                 have HL280_2 := n2_
                 have HL281_2 := n3_
                 have HO284 := n4_
                 have BK268 := n5_
                 have HR279_2 := n6_
                 have HR280_2 := n7_
                 have HR281_2 := n8_
                 have HB := n9_
                 clear n0_ n1_ n2_ n3_ n4_ n5_ n6_ n7_ n8_ n9_
                 clear hb ho52
                 obtain ⟨Ao53, co53, eo53⟩ := Kd.R_slice HO284.out
                 (first | subst eo53 | (injection eo53 with f1_ f2_ f3_; have f4_ := f1_.symm; have f5_ := f3_.symm; clear f1_ f2_ f3_; subst f4_; subst f5_))
                 refine hK.out _ _ ⟨HS0_, HS1_, HS2_, HS3_, HS4_, HS5_, (blk_cell BK268.out ((Go.bits .and .i64 a0 3).toNat * 4 + (Go.bits .and .i64 a1 3).toNat)).trans (ix_44 (Value.int .i64) _ _ _ _ _ _ _ _ _ _ _ _ _ _ _ _ (Go.bits .and .i64 a0 3) (Go.bits .and .i64 a1 3)  (of_decide_eq_true (by first | (with_reducible assumption) | assumption)) (of_decide_eq_true (by first | (with_reducible assumption) | assumption))  (of_decide_eq_true (by first | (with_reducible assumption) | assumption)) (of_decide_eq_true (by first | (with_reducible assumption) | assumption))), HS7_, HS8_, HS9_⟩ (fun hHeld => ?_)
                 clear hK K
                 refine norm_ (a' := ?_) ?_ ?_
                 rotate_left
                 ·show Act.put _ (some 104) _ = _
                  simp only [Act.put, List.setIfInBounds_toArray, List.set_cons_zero, List.set_cons_succ, i64_w, i32_w]
                  rfl
                 refine one_ (i := 31) (N := some 105) #[true, true, true, true, true, true, true, true, true, true, true, true, true, true, true, true, true, true, true, true, true, true, true, true, true, true, true, true, true, true, true, true, false, false, false] rfl rfl (one_of HT_.out (by kernel_rfl)) (by decide) (fun K hK => ?_)
                 refine goes_ Try.func20 (by kernel_rfl) rfl #[.slice A279_2 ((rd_T41 t274 0).f2).length c279_2, .slice Ao53 y282.length co53] (by rfl) rfl rfl (by (try simp only [List.map_toArray, List.map_cons, List.map_nil]); first | done | rfl | (simp only [List.length_drop, List.length_take]; rfl)) ?_
                 with_reducible refine (watchwordlaw0_SameInts.calls kj7 _ _ ((rd_T41 t274 0).f2) _ _ y282 t285 _ ?side1 ?side2 ?side3 ?side4 A39.out).mono ?_
                 (case side1 => repeat (first | exact (by repeat (first | (with_reducible exact HR281_2.out) | (with_reducible refine Kd.C_alloc ?_ _) | (with_reducible refine Kd.C_drewN ?_ _) | (with_reducible refine Kd.C_drew ?_) | exact HR281_2.out)) | (with_reducible refine Kd.C_alloc ?_ _) | (with_reducible refine Kd.C_drewN ?_ _) | (with_reducible refine Kd.C_drew ?_)))
                 (case side2 => exact HC281_2.out)
                 (case side3 => repeat (first | exact (Kd.R_reads' HO284.out).2.2 | (with_reducible refine Kd.C_alloc ?_ _) | (with_reducible refine Kd.C_drewN ?_ _) | (with_reducible refine Kd.C_drew ?_)))
                 (case side4 => exact (Kd.R_reads' HO284.out).2.1)
                 rintro e w' ⟨rfl, ⟨nd, rfl⟩⟩
                 refine ⟨_, rfl, ?_⟩
                 refine hK.out _ _ ⟨hHeld.1, hHeld.2.1, hHeld.2.2.1, hHeld.2.2.2.1, hHeld.2.2.2.2.1, hHeld.2.2.2.2.2.1, (blk_cell BK268.out ((Go.bits .and .i64 a0 3).toNat * 4 + (Go.bits .and .i64 a1 3).toNat)).trans (ix_44 (Value.int .i64) _ _ _ _ _ _ _ _ _ _ _ _ _ _ _ _ (Go.bits .and .i64 a0 3) (Go.bits .and .i64 a1 3)  (of_decide_eq_true (by first | (with_reducible assumption) | assumption)) (of_decide_eq_true (by first | (with_reducible assumption) | assumption))  (of_decide_eq_true (by first | (with_reducible assumption) | assumption)) (of_decide_eq_true (by first | (with_reducible assumption) | assumption))), hHeld.2.2.2.2.2.2.2.1, hHeld.2.2.2.2.2.2.2.2.1, hHeld.2.2.2.2.2.2.2.2.2⟩ (fun hHeld => ?_)
                 clear hK K
                 refine norm_ (a' := ?_) ?_ ?_
                 rotate_left
                 ·show Act.put _ (some 105) _ = _
                  simp only [Act.put, List.setIfInBounds_toArray, List.set_cons_zero, List.set_cons_succ, i64_w, i32_w]
                  rfl
                 refine pure_ (i := 32) (N := some 106) (v := ?_) (a' := ?_) #[true, true, true, true, true, true, true, true, true, true, true, true, true, true, true, true, true, true, true, true, true, true, true, true, true, true, true, true, true, true, true, true, true, false, false] rfl rfl (any_of HT_.out (by kernel_rfl)) (fun _ _ _ h => h) (Or.inl ⟨by rfl, ?_⟩) ?_ ?_
                 rotate_left
                 ·intro w'
                  go_simp
                  with_reducible rfl
                 rotate_left
                 ·simp only [Act.put, List.setIfInBounds_toArray, List.set_cons_zero, List.set_cons_succ, i64_w, i32_w]
                  rfl
                 refine pure_ (i := 33) (N := some 107) (v := ?_) (a' := ?_) #[true, true, true, true, true, true, true, true, true, true, true, true, true, true, true, true, true, true, true, true, true, true, true, true, true, true, true, true, true, true, true, true, true, true, false] rfl rfl (any_of HT_.out (by kernel_rfl)) (fun _ _ _ h => h) (Or.inl ⟨by rfl, ?_⟩) ?_ ?_
                 rotate_left
                 ·intro w'
                  go_simp
                  with_reducible rfl
                 rotate_left
                 ·simp only [Act.put, List.setIfInBounds_toArray, List.set_cons_zero, List.set_cons_succ, i64_w, i32_w]
                  rfl
                 refine pure_ (i := 34) (N := some 8) (v := ?_) (a' := ?_) #[true, true, true, true, true, true, true, true, true, true, true, true, true, true, true, true, true, true, true, true, true, true, true, true, true, true, true, true, true, true, true, true, true, true, true] rfl rfl (any_of HT_.out (by kernel_rfl)) (fun _ _ _ h => h) (Or.inl ⟨by rfl, ?_⟩) ?_ ?_
                 rotate_left
                 ·intro w'
                  go_simp
                  with_reducible rfl
                 rotate_left
                 ·simp only [Act.put, List.setIfInBounds_toArray, List.set_cons_zero, List.set_cons_succ, i64_w, i32_w]
                  rfl
                 refine done_ (done_of HT_.out (by kernel_rfl)) ?_
                 try go_wp2
                 go_ret
                 exact ⟨by first | rfl | (simp [errW_none, errW_some] <;> rfl) | (simp [*, errW_none, errW_some] <;> rfl), by repeat (first | (with_reducible first | exact HB.out | apply below_alloc | apply pw_below_drewN | apply below_drew1 | refine below_set ?_ GE268.out) | exact HB.out)⟩
                ·rw [if_neg c38] at H
                 have c38b0 : (((rd_T41 t274 0).f1) == (ix4 (ix4 (up ((Go.bits .and .i64 a0 3) == 0 && (Go.bits .and .i64 a1 3) == 0) (wrap64 (1 + (Go.bits .and .i64 a2 1023))) 0) (up ((Go.bits .and .i64 a0 3) == 0 && (Go.bits .and .i64 a1 3) == 1) (wrap64 (1 + (Go.bits .and .i64 a2 1023))) 0) (up ((Go.bits .and .i64 a0 3) == 0 && (Go.bits .and .i64 a1 3) == 2) (wrap64 (1 + (Go.bits .and .i64 a2 1023))) 0) (up ((Go.bits .and .i64 a0 3) == 0 && (Go.bits .and .i64 a1 3) == 3) (wrap64 (1 + (Go.bits .and .i64 a2 1023))) 0) (Go.bits .and .i64 a1 3)) (ix4 (up ((Go.bits .and .i64 a0 3) == 1 && (Go.bits .and .i64 a1 3) == 0) (wrap64 (1 + (Go.bits .and .i64 a2 1023))) 0) (up ((Go.bits .and .i64 a0 3) == 1 && (Go.bits .and .i64 a1 3) == 1) (wrap64 (1 + (Go.bits .and .i64 a2 1023))) 0) (up ((Go.bits .and .i64 a0 3) == 1 && (Go.bits .and .i64 a1 3) == 2) (wrap64 (1 + (Go.bits .and .i64 a2 1023))) 0) (up ((Go.bits .and .i64 a0 3) == 1 && (Go.bits .and .i64 a1 3) == 3) (wrap64 (1 + (Go.bits .and .i64 a2 1023))) 0) (Go.bits .and .i64 a1 3)) (ix4 (up ((Go.bits .and .i64 a0 3) == 2 && (Go.bits .and .i64 a1 3) == 0) (wrap64 (1 + (Go.bits .and .i64 a2 1023))) 0) (up ((Go.bits .and .i64 a0 3) == 2 && (Go.bits .and .i64 a1 3) == 1) (wrap64 (1 + (Go.bits .and .i64 a2 1023))) 0) (up ((Go.bits .and .i64 a0 3) == 2 && (Go.bits .and .i64 a1 3) == 2) (wrap64 (1 + (Go.bits .and .i64 a2 1023))) 0) (up ((Go.bits .and .i64 a0 3) == 2 && (Go.bits .and .i64 a1 3) == 3) (wrap64 (1 + (Go.bits .and .i64 a2 1023))) 0) (Go.bits .and .i64 a1 3)) (ix4 (up ((Go.bits .and .i64 a0 3) == 3 && (Go.bits .and .i64 a1 3) == 0) (wrap64 (1 + (Go.bits .and .i64 a2 1023))) 0) (up ((Go.bits .and .i64 a0 3) == 3 && (Go.bits .and .i64 a1 3) == 1) (wrap64 (1 + (Go.bits .and .i64 a2 1023))) 0) (up ((Go.bits .and .i64 a0 3) == 3 && (Go.bits .and .i64 a1 3) == 2) (wrap64 (1 + (Go.bits .and .i64 a2 1023))) 0) (up ((Go.bits .and .i64 a0 3) == 3 && (Go.bits .and .i64 a1 3) == 3) (wrap64 (1 + (Go.bits .and .i64 a2 1023))) 0) (Go.bits .and .i64 a1 3)) (Go.bits .and .i64 a0 3))) = false := beq_eq_false_iff_ne.mpr c38
                 have c38b1 : (((rd_T41 t274 0).f1) != (ix4 (ix4 (up ((Go.bits .and .i64 a0 3) == 0 && (Go.bits .and .i64 a1 3) == 0) (wrap64 (1 + (Go.bits .and .i64 a2 1023))) 0) (up ((Go.bits .and .i64 a0 3) == 0 && (Go.bits .and .i64 a1 3) == 1) (wrap64 (1 + (Go.bits .and .i64 a2 1023))) 0) (up ((Go.bits .and .i64 a0 3) == 0 && (Go.bits .and .i64 a1 3) == 2) (wrap64 (1 + (Go.bits .and .i64 a2 1023))) 0) (up ((Go.bits .and .i64 a0 3) == 0 && (Go.bits .and .i64 a1 3) == 3) (wrap64 (1 + (Go.bits .and .i64 a2 1023))) 0) (Go.bits .and .i64 a1 3)) (ix4 (up ((Go.bits .and .i64 a0 3) == 1 && (Go.bits .and .i64 a1 3) == 0) (wrap64 (1 + (Go.bits .and .i64 a2 1023))) 0) (up ((Go.bits .and .i64 a0 3) == 1 && (Go.bits .and .i64 a1 3) == 1) (wrap64 (1 + (Go.bits .and .i64 a2 1023))) 0) (up ((Go.bits .and .i64 a0 3) == 1 && (Go.bits .and .i64 a1 3) == 2) (wrap64 (1 + (Go.bits .and .i64 a2 1023))) 0) (up ((Go.bits .and .i64 a0 3) == 1 && (Go.bits .and .i64 a1 3) == 3) (wrap64 (1 + (Go.bits .and .i64 a2 1023))) 0) (Go.bits .and .i64 a1 3)) (ix4 (up ((Go.bits .and .i64 a0 3) == 2 && (Go.bits .and .i64 a1 3) == 0) (wrap64 (1 + (Go.bits .and .i64 a2 1023))) 0) (up ((Go.bits .and .i64 a0 3) == 2 && (Go.bits .and .i64 a1 3) == 1) (wrap64 (1 + (Go.bits .and .i64 a2 1023))) 0) (up ((Go.bits .and .i64 a0 3) == 2 && (Go.bits .and .i64 a1 3) == 2) (wrap64 (1 + (Go.bits .and .i64 a2 1023))) 0) (up ((Go.bits .and .i64 a0 3) == 2 && (Go.bits .and .i64 a1 3) == 3) (wrap64 (1 + (Go.bits .and .i64 a2 1023))) 0) (Go.bits .and .i64 a1 3)) (ix4 (up ((Go.bits .and .i64 a0 3) == 3 && (Go.bits .and .i64 a1 3) == 0) (wrap64 (1 + (Go.bits .and .i64 a2 1023))) 0) (up ((Go.bits .and .i64 a0 3) == 3 && (Go.bits .and .i64 a1 3) == 1) (wrap64 (1 + (Go.bits .and .i64 a2 1023))) 0) (up ((Go.bits .and .i64 a0 3) == 3 && (Go.bits .and .i64 a1 3) == 2) (wrap64 (1 + (Go.bits .and .i64 a2 1023))) 0) (up ((Go.bits .and .i64 a0 3) == 3 && (Go.bits .and .i64 a1 3) == 3) (wrap64 (1 + (Go.bits .and .i64 a2 1023))) 0) (Go.bits .and .i64 a1 3)) (Go.bits .and .i64 a0 3))) = true := bne_iff_ne.mpr c38
                 exact absurd (Option.some.inj H) (by rw [HT.out]; decide)
               ·rw [if_neg c37] at H
                have c37b0 : (((rd_T41 t274 0).f0) == (wrap64 ((Go.bits .and .i64 a1 3) + 1))) = false := beq_eq_false_iff_ne.mpr c37
                have c37b1 : (((rd_T41 t274 0).f0) != (wrap64 ((Go.bits .and .i64 a1 3) + 1))) = true := bne_iff_ne.mpr c37
                exact absurd (Option.some.inj H) (by rw [HT.out]; decide)
              ·rw [if_neg c36] at H
               exact absurd H (by simp)
          ·rw [if_neg c24] at H
           have c24b0 : (t278 == 0) = false := beq_eq_false_iff_ne.mpr c24
           have c24b1 : (t278 != 0) = true := bne_iff_ne.mpr c24
           exact absurd (Option.some.inj H) (by rw [HT.out]; decide)
         ·rw [if_neg c21] at H
          exact absurd H (by simp)
        ·rw [if_neg c20] at H
         exact absurd H (by simp)
       ·rw [if_neg c19] at H
        exact absurd H (by simp)
      ·rw [if_neg c18] at H
       exact absurd H (by simp)
 ·replace c6 := Bool.eq_false_iff.mpr c6
  subst c6
  have H1 : (some false) = some r := by rw [if_neg (show ¬ (false = true) by decide)] at H; exact H
  clear H
  have H := H1
  clear H1
  exact absurd (Option.some.inj H) (by rw [HT.out]; decide)

/-- THE ONE PURE STATEMENT of watchwordlaw21_PathsNone: yours. -/
def watchwordlaw21_PathsNone.Pure : Prop := ∀ (a0 : Int) (a1 : Int) (a2 : Int) (a3 : Int), (Lit.int .i64 a0).wf = true → (Lit.int .i64 a1).wf = true → (Lit.int .i64 a2).wf = true → (Lit.int .i64 a3).wf = true → ∃ k, watchwordlaw21_PathsNone.f k a0 a1 a2 a3 = some true
theorem watchwordlaw21_PathsNone.walk (P : watchwordlaw21_PathsNone.Pure) (a0 : Int) (a1 : Int) (a2 : Int) (a3 : Int) (w : World) (w0 : (Lit.int .i64 a0).wf = true) (w1 : (Lit.int .i64 a1).wf = true) (w2 : (Lit.int .i64 a2).wf = true) (w3 : (Lit.int .i64 a3).wf = true) :
  Calls Try.prog 7 #[.int .i64 a0, .int .i64 a1, .int .i64 a2, .int .i64 a3] w fun e w' => e = .returned (.bool true) ∧ Below w.heap.size w w' := by
 obtain ⟨k, h⟩ := P a0 a1 a2 a3 w0 w1 w2 w3
 refine (watchwordlaw21_PathsNone.calls k a0 a1 a2 a3 true w h rfl).mono ?_
 rintro e w' ⟨rfl, hd⟩
 exact ⟨rfl, hd⟩

end Go.Proofs.Ytjbejbehbjhecaa.Q21
