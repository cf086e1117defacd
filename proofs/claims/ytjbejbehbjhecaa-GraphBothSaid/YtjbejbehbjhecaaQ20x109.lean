/- Written by a program of this session out of the print of the loaded functions: each Go function as a plain function, and that its call comes to it; for a law, the row out of its plain statement. -/
import Derived.Test.YtjbejbehbjhecaaQ20x0
import Derived.Test.YtjbejbehbjhecaaQ20x1
import Derived.Test.YtjbejbehbjhecaaQ20x116
import Derived.Test.YtjbejbehbjhecaaQ20x121
import Derived.Test.YtjbejbehbjhecaaQ20x123
import Derived.Test.YtjbejbehbjhecaaQ20x125
namespace Go.Proofs.Ytjbejbehbjhecaa.Q20
open Go.RowKit Go.Proofs.YtjbejbehbjhecaaW.PrintWords Go.Proofs.YtjbejbehbjhecaaW.PrintLast Go.Proofs.YtjbejbehbjhecaaW.PrintMore
attribute [local go_sem] max2_int min2_int max_two min_two max_three min_three max_four min_four   -- for this text's walks alone
set_option linter.unusedVariables false
set_option linter.unusedSimpArgs false

attribute [local go_sem high] eqA23
/-! ### watchwordlaw20_GraphBoth: function 9 -/
mutual
def watchwordlaw20_GraphBoth.l0 : Nat → List (S57) → Int → Int → Int → Int → Int → Int → Int → Int → Int → Int → Int → Int → Int → Int → Int → Int → Int → Option (Bool)
 | 0, _, _, _, _, _, _, _, _, _, _, _, _, _, _, _, _, _, _ => none
 | k + 1, x0, x5, x277000, x277001, x277002, x277003, x277004, x277005, x277006, x277007, x277008, x277009, x277010, x277011, x277012, x277013, x277014, x277015 => if x5 < 4 then (watchwordlaw20_GraphBoth.l1 k x0 x5 0 x277000 x277001 x277002 x277003 x277004 x277005 x277006 x277007 x277008 x277009 x277010 x277011 x277012 x277013 x277014 x277015) else (watchwordlaw20_GraphBoth.l2 k x0 0 x277000 x277001 x277002 x277003 x277004 x277005 x277006 x277007 x277008 x277009 x277010 x277011 x277012 x277013 x277014 x277015)
def watchwordlaw20_GraphBoth.l1 : Nat → List (S57) → Int → Int → Int → Int → Int → Int → Int → Int → Int → Int → Int → Int → Int → Int → Int → Int → Int → Int → Option (Bool)
 | 0, _, _, _, _, _, _, _, _, _, _, _, _, _, _, _, _, _, _, _ => none
 | k + 1, x0, x5, x6, x277000, x277001, x277002, x277003, x277004, x277005, x277006, x277007, x277008, x277009, x277010, x277011, x277012, x277013, x277014, x277015 => if x6 < 4 then (if 0 ≤ x5 then (if x5 < 4 then (if 0 ≤ x6 then (if ((decide ((ix4 (ix4 x277000 x277001 x277002 x277003 x6) (ix4 x277004 x277005 x277006 x277007 x6) (ix4 x277008 x277009 x277010 x277011 x6) (ix4 x277012 x277013 x277014 x277015 x6) x5) > 0)) != (decide ((ix4 (ix4 x277000 x277001 x277002 x277003 x5) (ix4 x277004 x277005 x277006 x277007 x5) (ix4 x277008 x277009 x277010 x277011 x5) (ix4 x277012 x277013 x277014 x277015 x5) x6) > 0))) = true then (some false) else (watchwordlaw20_GraphBoth.l1 k x0 x5 (wrap64 (x6 + 1)) x277000 x277001 x277002 x277003 x277004 x277005 x277006 x277007 x277008 x277009 x277010 x277011 x277012 x277013 x277014 x277015)) else (none)) else (none)) else (none)) else (watchwordlaw20_GraphBoth.l0 k x0 (wrap64 (x5 + 1)) x277000 x277001 x277002 x277003 x277004 x277005 x277006 x277007 x277008 x277009 x277010 x277011 x277012 x277013 x277014 x277015)
def watchwordlaw20_GraphBoth.l2 : Nat → List (S57) → Int → Int → Int → Int → Int → Int → Int → Int → Int → Int → Int → Int → Int → Int → Int → Int → Int → Option (Bool)
 | 0, _, _, _, _, _, _, _, _, _, _, _, _, _, _, _, _, _, _ => none
 | k + 1, x0, x7, x277000, x277001, x277002, x277003, x277004, x277005, x277006, x277007, x277008, x277009, x277010, x277011, x277012, x277013, x277014, x277015 => if x7 < (x0.length : Int) then (watchwordlaw20_GraphBoth.l3 k x0 x7 0 x277000 x277001 x277002 x277003 x277004 x277005 x277006 x277007 x277008 x277009 x277010 x277011 x277012 x277013 x277014 x277015) else ((graph_May.f k x277000 x277001 x277002 x277003 x277004 x277005 x277006 x277007 x277008 x277009 x277010 x277011 x277012 x277013 x277014 x277015).bind fun t278 => (some t278))
def watchwordlaw20_GraphBoth.l3 : Nat → List (S57) → Int → Int → Int → Int → Int → Int → Int → Int → Int → Int → Int → Int → Int → Int → Int → Int → Int → Int → Option (Bool)
 | 0, _, _, _, _, _, _, _, _, _, _, _, _, _, _, _, _, _, _, _ => none
 | k + 1, x0, x7, x8, x277000, x277001, x277002, x277003, x277004, x277005, x277006, x277007, x277008, x277009, x277010, x277011, x277012, x277013, x277014, x277015 => if 0 ≤ x7 then (if x7 < (x0.length : Int) then (if x8 < (((rd_T57 x0 x7).f3).length : Int) then (if 0 ≤ x8 then (if ((rd_T59 ((rd_T57 x0 x7).f3) x8).f0) < 1 then (watchwordlaw20_GraphBoth.j4 k x0 x7 x8 true x277000 x277001 x277002 x277003 x277004 x277005 x277006 x277007 x277008 x277009 x277010 x277011 x277012 x277013 x277014 x277015 ((rd_T59 ((rd_T57 x0 x7).f3) x8).f0) ((rd_T59 ((rd_T57 x0 x7).f3) x8).f1)) else (if ((rd_T59 ((rd_T57 x0 x7).f3) x8).f0) > 4 then (watchwordlaw20_GraphBoth.j4 k x0 x7 x8 true x277000 x277001 x277002 x277003 x277004 x277005 x277006 x277007 x277008 x277009 x277010 x277011 x277012 x277013 x277014 x277015 ((rd_T59 ((rd_T57 x0 x7).f3) x8).f0) ((rd_T59 ((rd_T57 x0 x7).f3) x8).f1)) else (if ((rd_T57 x0 x7).f0) < 1 then (watchwordlaw20_GraphBoth.j4 k x0 x7 x8 true x277000 x277001 x277002 x277003 x277004 x277005 x277006 x277007 x277008 x277009 x277010 x277011 x277012 x277013 x277014 x277015 ((rd_T59 ((rd_T57 x0 x7).f3) x8).f0) ((rd_T59 ((rd_T57 x0 x7).f3) x8).f1)) else (watchwordlaw20_GraphBoth.j4 k x0 x7 x8 (decide (((rd_T57 x0 x7).f0) > 4)) x277000 x277001 x277002 x277003 x277004 x277005 x277006 x277007 x277008 x277009 x277010 x277011 x277012 x277013 x277014 x277015 ((rd_T59 ((rd_T57 x0 x7).f3) x8).f0) ((rd_T59 ((rd_T57 x0 x7).f3) x8).f1))))) else (none)) else (watchwordlaw20_GraphBoth.l2 k x0 (wrap64 (x7 + 1)) x277000 x277001 x277002 x277003 x277004 x277005 x277006 x277007 x277008 x277009 x277010 x277011 x277012 x277013 x277014 x277015)) else (none)) else (none)
def watchwordlaw20_GraphBoth.j4 : Nat → List (S57) → Int → Int → Bool → Int → Int → Int → Int → Int → Int → Int → Int → Int → Int → Int → Int → Int → Int → Int → Int → Int → Int → Option (Bool)
 | 0, _, _, _, _, _, _, _, _, _, _, _, _, _, _, _, _, _, _, _, _, _, _ => none
 | k + 1, x0, x7, x8, x92, x277000, x277001, x277002, x277003, x277004, x277005, x277006, x277007, x277008, x277009, x277010, x277011, x277012, x277013, x277014, x277015, x283000, x283001 => if x92 = true then (some false) else (if 0 ≤ x7 then (if x7 < (x0.length : Int) then (if 0 ≤ (wrap64 (((rd_T57 x0 x7).f0) - 1)) then (if (wrap64 (((rd_T57 x0 x7).f0) - 1)) < 4 then (if 0 ≤ (wrap64 (x283000 - 1)) then (if (wrap64 (x283000 - 1)) < 4 then (if (ix4 (ix4 x277000 x277001 x277002 x277003 (wrap64 (x283000 - 1))) (ix4 x277004 x277005 x277006 x277007 (wrap64 (x283000 - 1))) (ix4 x277008 x277009 x277010 x277011 (wrap64 (x283000 - 1))) (ix4 x277012 x277013 x277014 x277015 (wrap64 (x283000 - 1))) (wrap64 (((rd_T57 x0 x7).f0) - 1))) = 0 then (watchwordlaw20_GraphBoth.l3 k x0 x7 (wrap64 (x8 + 1)) x277000 x277001 x277002 x277003 x277004 x277005 x277006 x277007 x277008 x277009 x277010 x277011 x277012 x277013 x277014 x277015) else (if (ix4 (ix4 x277000 x277001 x277002 x277003 (wrap64 (x283000 - 1))) (ix4 x277004 x277005 x277006 x277007 (wrap64 (x283000 - 1))) (ix4 x277008 x277009 x277010 x277011 (wrap64 (x283000 - 1))) (ix4 x277012 x277013 x277014 x277015 (wrap64 (x283000 - 1))) (wrap64 (((rd_T57 x0 x7).f0) - 1))) = x283001 then (watchwordlaw20_GraphBoth.l3 k x0 x7 (wrap64 (x8 + 1)) x277000 x277001 x277002 x277003 x277004 x277005 x277006 x277007 x277008 x277009 x277010 x277011 x277012 x277013 x277014 x277015) else (some false))) else (none)) else (none)) else (none)) else (none)) else (none)) else (none))
end
def watchwordlaw20_GraphBoth.f (k : Nat) (l0 : List (S57)) : Option (Bool) := (watchwordlaw20_awake.f k).bind fun t258 => (if t258 = true then ((graph_Of.f k l0).bind fun bt259 => ((watchwordlaw0_Num.f bt259.2.2.2.2.2.2.2.2.2.2.2.2.2.2.2.2).bind fun t277 => (if t277 = 0 then (watchwordlaw20_GraphBoth.l0 k l0 0 bt259.1 bt259.2.1 bt259.2.2.1 bt259.2.2.2.1 bt259.2.2.2.2.1 bt259.2.2.2.2.2.1 bt259.2.2.2.2.2.2.1 bt259.2.2.2.2.2.2.2.1 bt259.2.2.2.2.2.2.2.2.1 bt259.2.2.2.2.2.2.2.2.2.1 bt259.2.2.2.2.2.2.2.2.2.2.1 bt259.2.2.2.2.2.2.2.2.2.2.2.1 bt259.2.2.2.2.2.2.2.2.2.2.2.2.1 bt259.2.2.2.2.2.2.2.2.2.2.2.2.2.1 bt259.2.2.2.2.2.2.2.2.2.2.2.2.2.2.1 bt259.2.2.2.2.2.2.2.2.2.2.2.2.2.2.2.1) else (some ((bt259.1 == 0 && (bt259.2.1 == 0 && (bt259.2.2.1 == 0 && (bt259.2.2.2.1 == 0)))) && ((bt259.2.2.2.2.1 == 0 && (bt259.2.2.2.2.2.1 == 0 && (bt259.2.2.2.2.2.2.1 == 0 && (bt259.2.2.2.2.2.2.2.1 == 0)))) && ((bt259.2.2.2.2.2.2.2.2.1 == 0 && (bt259.2.2.2.2.2.2.2.2.2.1 == 0 && (bt259.2.2.2.2.2.2.2.2.2.2.1 == 0 && (bt259.2.2.2.2.2.2.2.2.2.2.2.1 == 0)))) && ((bt259.2.2.2.2.2.2.2.2.2.2.2.2.1 == 0 && (bt259.2.2.2.2.2.2.2.2.2.2.2.2.2.1 == 0 && (bt259.2.2.2.2.2.2.2.2.2.2.2.2.2.2.1 == 0 && (bt259.2.2.2.2.2.2.2.2.2.2.2.2.2.2.2.1 == 0)))))))))))) else (some false))
theorem watchwordlaw20_GraphBoth.mono_l : ∀ k, (∀ y0 y1 y2 y3 y4 y5 y6 y7 y8 y9 y10 y11 y12 y13 y14 y15 y16 y17, LeO (watchwordlaw20_GraphBoth.l0 k y0 y1 y2 y3 y4 y5 y6 y7 y8 y9 y10 y11 y12 y13 y14 y15 y16 y17) (watchwordlaw20_GraphBoth.l0 (k + 1) y0 y1 y2 y3 y4 y5 y6 y7 y8 y9 y10 y11 y12 y13 y14 y15 y16 y17)) ∧ (∀ y0 y1 y2 y3 y4 y5 y6 y7 y8 y9 y10 y11 y12 y13 y14 y15 y16 y17 y18, LeO (watchwordlaw20_GraphBoth.l1 k y0 y1 y2 y3 y4 y5 y6 y7 y8 y9 y10 y11 y12 y13 y14 y15 y16 y17 y18) (watchwordlaw20_GraphBoth.l1 (k + 1) y0 y1 y2 y3 y4 y5 y6 y7 y8 y9 y10 y11 y12 y13 y14 y15 y16 y17 y18)) ∧ (∀ y0 y1 y2 y3 y4 y5 y6 y7 y8 y9 y10 y11 y12 y13 y14 y15 y16 y17, LeO (watchwordlaw20_GraphBoth.l2 k y0 y1 y2 y3 y4 y5 y6 y7 y8 y9 y10 y11 y12 y13 y14 y15 y16 y17) (watchwordlaw20_GraphBoth.l2 (k + 1) y0 y1 y2 y3 y4 y5 y6 y7 y8 y9 y10 y11 y12 y13 y14 y15 y16 y17)) ∧ (∀ y0 y1 y2 y3 y4 y5 y6 y7 y8 y9 y10 y11 y12 y13 y14 y15 y16 y17 y18, LeO (watchwordlaw20_GraphBoth.l3 k y0 y1 y2 y3 y4 y5 y6 y7 y8 y9 y10 y11 y12 y13 y14 y15 y16 y17 y18) (watchwordlaw20_GraphBoth.l3 (k + 1) y0 y1 y2 y3 y4 y5 y6 y7 y8 y9 y10 y11 y12 y13 y14 y15 y16 y17 y18)) ∧ (∀ y0 y1 y2 y3 y4 y5 y6 y7 y8 y9 y10 y11 y12 y13 y14 y15 y16 y17 y18 y19 y20 y21, LeO (watchwordlaw20_GraphBoth.j4 k y0 y1 y2 y3 y4 y5 y6 y7 y8 y9 y10 y11 y12 y13 y14 y15 y16 y17 y18 y19 y20 y21) (watchwordlaw20_GraphBoth.j4 (k + 1) y0 y1 y2 y3 y4 y5 y6 y7 y8 y9 y10 y11 y12 y13 y14 y15 y16 y17 y18 y19 y20 y21))
 | 0 => ⟨fun _ _ _ _ _ _ _ _ _ _ _ _ _ _ _ _ _ _ r h => by simp [watchwordlaw20_GraphBoth.l0] at h, fun _ _ _ _ _ _ _ _ _ _ _ _ _ _ _ _ _ _ _ r h => by simp [watchwordlaw20_GraphBoth.l1] at h, fun _ _ _ _ _ _ _ _ _ _ _ _ _ _ _ _ _ _ r h => by simp [watchwordlaw20_GraphBoth.l2] at h, fun _ _ _ _ _ _ _ _ _ _ _ _ _ _ _ _ _ _ _ r h => by simp [watchwordlaw20_GraphBoth.l3] at h, fun _ _ _ _ _ _ _ _ _ _ _ _ _ _ _ _ _ _ _ _ _ _ r h => by simp [watchwordlaw20_GraphBoth.j4] at h⟩
 | k + 1 => by
  obtain ⟨ih0, ih1, ih2, ih3, ih4⟩ := watchwordlaw20_GraphBoth.mono_l k
  refine ⟨?_, ?_, ?_, ?_, ?_⟩
  ·intro y0 y1 y2 y3 y4 y5 y6 y7 y8 y9 y10 y11 y12 y13 y14 y15 y16 y17
   unfold watchwordlaw20_GraphBoth.l0
   repeat' first
   | (with_reducible exact ih0 _ _ _ _ _ _ _ _ _ _ _ _ _ _ _ _ _ _)
   | (with_reducible exact ih1 _ _ _ _ _ _ _ _ _ _ _ _ _ _ _ _ _ _ _)
   | (with_reducible exact ih2 _ _ _ _ _ _ _ _ _ _ _ _ _ _ _ _ _ _)
   | (with_reducible exact ih3 _ _ _ _ _ _ _ _ _ _ _ _ _ _ _ _ _ _ _)
   | (with_reducible exact ih4 _ _ _ _ _ _ _ _ _ _ _ _ _ _ _ _ _ _ _ _ _ _)
   | (with_reducible exact graph_May.mono _ _ _ _ _ _ _ _ _ _ _ _ _ _ _ _ _)
   | (with_reducible exact graph_Of.mono _ _)
   | (with_reducible exact watchwordlaw20_awake.mono _)
   | (with_reducible exact LeO.refl _)
   | (with_reducible exact LeO.none _)
   | (with_reducible refine LeO.ite ?_ ?_)
   | (with_reducible refine LeO.bind ?_ (fun _ => ?_))
   | exact ih0 _ _ _ _ _ _ _ _ _ _ _ _ _ _ _ _ _ _
   | exact ih1 _ _ _ _ _ _ _ _ _ _ _ _ _ _ _ _ _ _ _
   | exact ih2 _ _ _ _ _ _ _ _ _ _ _ _ _ _ _ _ _ _
   | exact ih3 _ _ _ _ _ _ _ _ _ _ _ _ _ _ _ _ _ _ _
   | exact ih4 _ _ _ _ _ _ _ _ _ _ _ _ _ _ _ _ _ _ _ _ _ _
   | exact graph_May.mono _ _ _ _ _ _ _ _ _ _ _ _ _ _ _ _ _
   | exact graph_Of.mono _ _
   | exact watchwordlaw20_awake.mono _
   | exact LeO.none _
   | refine LeO.ite ?_ ?_
   | refine LeO.bind ?_ (fun _ => ?_)
  ·intro y0 y1 y2 y3 y4 y5 y6 y7 y8 y9 y10 y11 y12 y13 y14 y15 y16 y17 y18
   unfold watchwordlaw20_GraphBoth.l1
   repeat' first
   | (with_reducible exact ih0 _ _ _ _ _ _ _ _ _ _ _ _ _ _ _ _ _ _)
   | (with_reducible exact ih1 _ _ _ _ _ _ _ _ _ _ _ _ _ _ _ _ _ _ _)
   | (with_reducible exact ih2 _ _ _ _ _ _ _ _ _ _ _ _ _ _ _ _ _ _)
   | (with_reducible exact ih3 _ _ _ _ _ _ _ _ _ _ _ _ _ _ _ _ _ _ _)
   | (with_reducible exact ih4 _ _ _ _ _ _ _ _ _ _ _ _ _ _ _ _ _ _ _ _ _ _)
   | (with_reducible exact graph_May.mono _ _ _ _ _ _ _ _ _ _ _ _ _ _ _ _ _)
   | (with_reducible exact graph_Of.mono _ _)
   | (with_reducible exact watchwordlaw20_awake.mono _)
   | (with_reducible exact LeO.refl _)
   | (with_reducible exact LeO.none _)
   | (with_reducible refine LeO.ite ?_ ?_)
   | (with_reducible refine LeO.bind ?_ (fun _ => ?_))
   | exact ih0 _ _ _ _ _ _ _ _ _ _ _ _ _ _ _ _ _ _
   | exact ih1 _ _ _ _ _ _ _ _ _ _ _ _ _ _ _ _ _ _ _
   | exact ih2 _ _ _ _ _ _ _ _ _ _ _ _ _ _ _ _ _ _
   | exact ih3 _ _ _ _ _ _ _ _ _ _ _ _ _ _ _ _ _ _ _
   | exact ih4 _ _ _ _ _ _ _ _ _ _ _ _ _ _ _ _ _ _ _ _ _ _
   | exact graph_May.mono _ _ _ _ _ _ _ _ _ _ _ _ _ _ _ _ _
   | exact graph_Of.mono _ _
   | exact watchwordlaw20_awake.mono _
   | exact LeO.none _
   | refine LeO.ite ?_ ?_
   | refine LeO.bind ?_ (fun _ => ?_)
  ·intro y0 y1 y2 y3 y4 y5 y6 y7 y8 y9 y10 y11 y12 y13 y14 y15 y16 y17
   unfold watchwordlaw20_GraphBoth.l2
   repeat' first
   | (with_reducible exact ih0 _ _ _ _ _ _ _ _ _ _ _ _ _ _ _ _ _ _)
   | (with_reducible exact ih1 _ _ _ _ _ _ _ _ _ _ _ _ _ _ _ _ _ _ _)
   | (with_reducible exact ih2 _ _ _ _ _ _ _ _ _ _ _ _ _ _ _ _ _ _)
   | (with_reducible exact ih3 _ _ _ _ _ _ _ _ _ _ _ _ _ _ _ _ _ _ _)
   | (with_reducible exact ih4 _ _ _ _ _ _ _ _ _ _ _ _ _ _ _ _ _ _ _ _ _ _)
   | (with_reducible exact graph_May.mono _ _ _ _ _ _ _ _ _ _ _ _ _ _ _ _ _)
   | (with_reducible exact graph_Of.mono _ _)
   | (with_reducible exact watchwordlaw20_awake.mono _)
   | (with_reducible exact LeO.refl _)
   | (with_reducible exact LeO.none _)
   | (with_reducible refine LeO.ite ?_ ?_)
   | (with_reducible refine LeO.bind ?_ (fun _ => ?_))
   | exact ih0 _ _ _ _ _ _ _ _ _ _ _ _ _ _ _ _ _ _
   | exact ih1 _ _ _ _ _ _ _ _ _ _ _ _ _ _ _ _ _ _ _
   | exact ih2 _ _ _ _ _ _ _ _ _ _ _ _ _ _ _ _ _ _
   | exact ih3 _ _ _ _ _ _ _ _ _ _ _ _ _ _ _ _ _ _ _
   | exact ih4 _ _ _ _ _ _ _ _ _ _ _ _ _ _ _ _ _ _ _ _ _ _
   | exact graph_May.mono _ _ _ _ _ _ _ _ _ _ _ _ _ _ _ _ _
   | exact graph_Of.mono _ _
   | exact watchwordlaw20_awake.mono _
   | exact LeO.none _
   | refine LeO.ite ?_ ?_
   | refine LeO.bind ?_ (fun _ => ?_)
  ·intro y0 y1 y2 y3 y4 y5 y6 y7 y8 y9 y10 y11 y12 y13 y14 y15 y16 y17 y18
   unfold watchwordlaw20_GraphBoth.l3
   repeat' first
   | (with_reducible exact ih0 _ _ _ _ _ _ _ _ _ _ _ _ _ _ _ _ _ _)
   | (with_reducible exact ih1 _ _ _ _ _ _ _ _ _ _ _ _ _ _ _ _ _ _ _)
   | (with_reducible exact ih2 _ _ _ _ _ _ _ _ _ _ _ _ _ _ _ _ _ _)
   | (with_reducible exact ih3 _ _ _ _ _ _ _ _ _ _ _ _ _ _ _ _ _ _ _)
   | (with_reducible exact ih4 _ _ _ _ _ _ _ _ _ _ _ _ _ _ _ _ _ _ _ _ _ _)
   | (with_reducible exact graph_May.mono _ _ _ _ _ _ _ _ _ _ _ _ _ _ _ _ _)
   | (with_reducible exact graph_Of.mono _ _)
   | (with_reducible exact watchwordlaw20_awake.mono _)
   | (with_reducible exact LeO.refl _)
   | (with_reducible exact LeO.none _)
   | (with_reducible refine LeO.ite ?_ ?_)
   | (with_reducible refine LeO.bind ?_ (fun _ => ?_))
   | exact ih0 _ _ _ _ _ _ _ _ _ _ _ _ _ _ _ _ _ _
   | exact ih1 _ _ _ _ _ _ _ _ _ _ _ _ _ _ _ _ _ _ _
   | exact ih2 _ _ _ _ _ _ _ _ _ _ _ _ _ _ _ _ _ _
   | exact ih3 _ _ _ _ _ _ _ _ _ _ _ _ _ _ _ _ _ _ _
   | exact ih4 _ _ _ _ _ _ _ _ _ _ _ _ _ _ _ _ _ _ _ _ _ _
   | exact graph_May.mono _ _ _ _ _ _ _ _ _ _ _ _ _ _ _ _ _
   | exact graph_Of.mono _ _
   | exact watchwordlaw20_awake.mono _
   | exact LeO.none _
   | refine LeO.ite ?_ ?_
   | refine LeO.bind ?_ (fun _ => ?_)
  ·intro y0 y1 y2 y3 y4 y5 y6 y7 y8 y9 y10 y11 y12 y13 y14 y15 y16 y17 y18 y19 y20 y21
   unfold watchwordlaw20_GraphBoth.j4
   repeat' first
   | (with_reducible exact ih0 _ _ _ _ _ _ _ _ _ _ _ _ _ _ _ _ _ _)
   | (with_reducible exact ih1 _ _ _ _ _ _ _ _ _ _ _ _ _ _ _ _ _ _ _)
   | (with_reducible exact ih2 _ _ _ _ _ _ _ _ _ _ _ _ _ _ _ _ _ _)
   | (with_reducible exact ih3 _ _ _ _ _ _ _ _ _ _ _ _ _ _ _ _ _ _ _)
   | (with_reducible exact ih4 _ _ _ _ _ _ _ _ _ _ _ _ _ _ _ _ _ _ _ _ _ _)
   | (with_reducible exact graph_May.mono _ _ _ _ _ _ _ _ _ _ _ _ _ _ _ _ _)
   | (with_reducible exact graph_Of.mono _ _)
   | (with_reducible exact watchwordlaw20_awake.mono _)
   | (with_reducible exact LeO.refl _)
   | (with_reducible exact LeO.none _)
   | (with_reducible refine LeO.ite ?_ ?_)
   | (with_reducible refine LeO.bind ?_ (fun _ => ?_))
   | exact ih0 _ _ _ _ _ _ _ _ _ _ _ _ _ _ _ _ _ _
   | exact ih1 _ _ _ _ _ _ _ _ _ _ _ _ _ _ _ _ _ _ _
   | exact ih2 _ _ _ _ _ _ _ _ _ _ _ _ _ _ _ _ _ _
   | exact ih3 _ _ _ _ _ _ _ _ _ _ _ _ _ _ _ _ _ _ _
   | exact ih4 _ _ _ _ _ _ _ _ _ _ _ _ _ _ _ _ _ _ _ _ _ _
   | exact graph_May.mono _ _ _ _ _ _ _ _ _ _ _ _ _ _ _ _ _
   | exact graph_Of.mono _ _
   | exact watchwordlaw20_awake.mono _
   | exact LeO.none _
   | refine LeO.ite ?_ ?_
   | refine LeO.bind ?_ (fun _ => ?_)
theorem watchwordlaw20_GraphBoth.mono : ∀ a0 k, LeO (watchwordlaw20_GraphBoth.f k a0) (watchwordlaw20_GraphBoth.f (k + 1) a0) := by
 intro a0 k
 obtain ⟨ih0, ih1, ih2, ih3, ih4⟩ := watchwordlaw20_GraphBoth.mono_l k
 unfold watchwordlaw20_GraphBoth.f
 repeat' first
   | (with_reducible exact ih0 _ _ _ _ _ _ _ _ _ _ _ _ _ _ _ _ _ _)
   | (with_reducible exact ih1 _ _ _ _ _ _ _ _ _ _ _ _ _ _ _ _ _ _ _)
   | (with_reducible exact ih2 _ _ _ _ _ _ _ _ _ _ _ _ _ _ _ _ _ _)
   | (with_reducible exact ih3 _ _ _ _ _ _ _ _ _ _ _ _ _ _ _ _ _ _ _)
   | (with_reducible exact ih4 _ _ _ _ _ _ _ _ _ _ _ _ _ _ _ _ _ _ _ _ _ _)
   | (with_reducible exact graph_May.mono _ _ _ _ _ _ _ _ _ _ _ _ _ _ _ _ _)
   | (with_reducible exact graph_Of.mono _ _)
   | (with_reducible exact watchwordlaw20_awake.mono _)
   | (with_reducible exact LeO.refl _)
   | (with_reducible exact LeO.none _)
   | (with_reducible refine LeO.ite ?_ ?_)
   | (with_reducible refine LeO.bind ?_ (fun _ => ?_))
   | exact ih0 _ _ _ _ _ _ _ _ _ _ _ _ _ _ _ _ _ _
   | exact ih1 _ _ _ _ _ _ _ _ _ _ _ _ _ _ _ _ _ _ _
   | exact ih2 _ _ _ _ _ _ _ _ _ _ _ _ _ _ _ _ _ _
   | exact ih3 _ _ _ _ _ _ _ _ _ _ _ _ _ _ _ _ _ _ _
   | exact ih4 _ _ _ _ _ _ _ _ _ _ _ _ _ _ _ _ _ _ _ _ _ _
   | exact graph_May.mono _ _ _ _ _ _ _ _ _ _ _ _ _ _ _ _ _
   | exact graph_Of.mono _ _
   | exact watchwordlaw20_awake.mono _
   | exact LeO.none _
   | refine LeO.ite ?_ ?_
   | refine LeO.bind ?_ (fun _ => ?_)
set_option maxHeartbeats 8000000 in
set_option maxRecDepth 100000 in
theorem watchwordlaw20_GraphBoth.calls (k : Nat) (A0 : Option Addr) (c0 : Nat) (l0 : List (S57)) (r : Bool) (w : World) (hr0 : Kd.C k57 w A0 l0.length l0) (hc0 : l0.length ≤ c0) (h : watchwordlaw20_GraphBoth.f k l0 = some r) (hT : r = true) :
  Calls Try.prog 9 #[.slice A0 l0.length c0] w fun e w' => e = .returned (.bool r) ∧ Below w.heap.size w w' := by
 have hu23 := Try.underlying23
 have hu59 := Try.underlying59
 have HR0 := Aside0.mk hr0
 have HC0 := Aside0.mk hc0
 clear hr0 hc0
 have HB := Aside0.mk (Below.refl w.heap.size w)
 have HT := Aside0.mk hT
 clear hT
 have H : ((watchwordlaw20_awake.f k).bind fun t258 => (if t258 = true then ((graph_Of.f k l0).bind fun bt259 => ((watchwordlaw0_Num.f bt259.2.2.2.2.2.2.2.2.2.2.2.2.2.2.2.2).bind fun t277 => (if t277 = 0 then (watchwordlaw20_GraphBoth.l0 k l0 0 bt259.1 bt259.2.1 bt259.2.2.1 bt259.2.2.2.1 bt259.2.2.2.2.1 bt259.2.2.2.2.2.1 bt259.2.2.2.2.2.2.1 bt259.2.2.2.2.2.2.2.1 bt259.2.2.2.2.2.2.2.2.1 bt259.2.2.2.2.2.2.2.2.2.1 bt259.2.2.2.2.2.2.2.2.2.2.1 bt259.2.2.2.2.2.2.2.2.2.2.2.1 bt259.2.2.2.2.2.2.2.2.2.2.2.2.1 bt259.2.2.2.2.2.2.2.2.2.2.2.2.2.1 bt259.2.2.2.2.2.2.2.2.2.2.2.2.2.2.1 bt259.2.2.2.2.2.2.2.2.2.2.2.2.2.2.2.1) else (some ((bt259.1 == 0 && (bt259.2.1 == 0 && (bt259.2.2.1 == 0 && (bt259.2.2.2.1 == 0)))) && ((bt259.2.2.2.2.1 == 0 && (bt259.2.2.2.2.2.1 == 0 && (bt259.2.2.2.2.2.2.1 == 0 && (bt259.2.2.2.2.2.2.2.1 == 0)))) && ((bt259.2.2.2.2.2.2.2.2.1 == 0 && (bt259.2.2.2.2.2.2.2.2.2.1 == 0 && (bt259.2.2.2.2.2.2.2.2.2.2.1 == 0 && (bt259.2.2.2.2.2.2.2.2.2.2.2.1 == 0)))) && ((bt259.2.2.2.2.2.2.2.2.2.2.2.2.1 == 0 && (bt259.2.2.2.2.2.2.2.2.2.2.2.2.2.1 == 0 && (bt259.2.2.2.2.2.2.2.2.2.2.2.2.2.2.1 == 0 && (bt259.2.2.2.2.2.2.2.2.2.2.2.2.2.2.2.1 == 0)))))))))))) else (some false))) = some r := h
 clear h
 replace H := Option.bind_eq_some_iff.mp H
 obtain ⟨t258, A20, H⟩ := H
 replace H : (if t258 = true then ((graph_Of.f k l0).bind fun bt259 => ((watchwordlaw0_Num.f bt259.2.2.2.2.2.2.2.2.2.2.2.2.2.2.2.2).bind fun t277 => (if t277 = 0 then (watchwordlaw20_GraphBoth.l0 k l0 0 bt259.1 bt259.2.1 bt259.2.2.1 bt259.2.2.2.1 bt259.2.2.2.2.1 bt259.2.2.2.2.2.1 bt259.2.2.2.2.2.2.1 bt259.2.2.2.2.2.2.2.1 bt259.2.2.2.2.2.2.2.2.1 bt259.2.2.2.2.2.2.2.2.2.1 bt259.2.2.2.2.2.2.2.2.2.2.1 bt259.2.2.2.2.2.2.2.2.2.2.2.1 bt259.2.2.2.2.2.2.2.2.2.2.2.2.1 bt259.2.2.2.2.2.2.2.2.2.2.2.2.2.1 bt259.2.2.2.2.2.2.2.2.2.2.2.2.2.2.1 bt259.2.2.2.2.2.2.2.2.2.2.2.2.2.2.2.1) else (some ((bt259.1 == 0 && (bt259.2.1 == 0 && (bt259.2.2.1 == 0 && (bt259.2.2.2.1 == 0)))) && ((bt259.2.2.2.2.1 == 0 && (bt259.2.2.2.2.2.1 == 0 && (bt259.2.2.2.2.2.2.1 == 0 && (bt259.2.2.2.2.2.2.2.1 == 0)))) && ((bt259.2.2.2.2.2.2.2.2.1 == 0 && (bt259.2.2.2.2.2.2.2.2.2.1 == 0 && (bt259.2.2.2.2.2.2.2.2.2.2.1 == 0 && (bt259.2.2.2.2.2.2.2.2.2.2.2.1 == 0)))) && ((bt259.2.2.2.2.2.2.2.2.2.2.2.2.1 == 0 && (bt259.2.2.2.2.2.2.2.2.2.2.2.2.2.1 == 0 && (bt259.2.2.2.2.2.2.2.2.2.2.2.2.2.2.1 == 0 && (bt259.2.2.2.2.2.2.2.2.2.2.2.2.2.2.2.1 == 0)))))))))))) else (some false)) = some r := H
 have A2 := Aside0.mk A20
 clear A20
 by_cases c3 : t258 = true
 ·subst c3
  have H1 : ((graph_Of.f k l0).bind fun bt259 => ((watchwordlaw0_Num.f bt259.2.2.2.2.2.2.2.2.2.2.2.2.2.2.2.2).bind fun t277 => (if t277 = 0 then (watchwordlaw20_GraphBoth.l0 k l0 0 bt259.1 bt259.2.1 bt259.2.2.1 bt259.2.2.2.1 bt259.2.2.2.2.1 bt259.2.2.2.2.2.1 bt259.2.2.2.2.2.2.1 bt259.2.2.2.2.2.2.2.1 bt259.2.2.2.2.2.2.2.2.1 bt259.2.2.2.2.2.2.2.2.2.1 bt259.2.2.2.2.2.2.2.2.2.2.1 bt259.2.2.2.2.2.2.2.2.2.2.2.1 bt259.2.2.2.2.2.2.2.2.2.2.2.2.1 bt259.2.2.2.2.2.2.2.2.2.2.2.2.2.1 bt259.2.2.2.2.2.2.2.2.2.2.2.2.2.2.1 bt259.2.2.2.2.2.2.2.2.2.2.2.2.2.2.2.1) else (some ((bt259.1 == 0 && (bt259.2.1 == 0 && (bt259.2.2.1 == 0 && (bt259.2.2.2.1 == 0)))) && ((bt259.2.2.2.2.1 == 0 && (bt259.2.2.2.2.2.1 == 0 && (bt259.2.2.2.2.2.2.1 == 0 && (bt259.2.2.2.2.2.2.2.1 == 0)))) && ((bt259.2.2.2.2.2.2.2.2.1 == 0 && (bt259.2.2.2.2.2.2.2.2.2.1 == 0 && (bt259.2.2.2.2.2.2.2.2.2.2.1 == 0 && (bt259.2.2.2.2.2.2.2.2.2.2.2.1 == 0)))) && ((bt259.2.2.2.2.2.2.2.2.2.2.2.2.1 == 0 && (bt259.2.2.2.2.2.2.2.2.2.2.2.2.2.1 == 0 && (bt259.2.2.2.2.2.2.2.2.2.2.2.2.2.2.1 == 0 && (bt259.2.2.2.2.2.2.2.2.2.2.2.2.2.2.2.1 == 0)))))))))))) = some r := by rw [if_pos rfl] at H; exact H
  clear H
  have H := H1
  clear H1
  replace H := Option.bind_eq_some_iff.mp H
  obtain ⟨⟨t259, t260, t261, t262, t263, t264, t265, t266, t267, t268, t269, t270, t271, t272, t273, t274, t275⟩, A40, H⟩ := H
  replace H : ((watchwordlaw0_Num.f t275).bind fun t277 => (if t277 = 0 then (watchwordlaw20_GraphBoth.l0 k l0 0 t259 t260 t261 t262 t263 t264 t265 t266 t267 t268 t269 t270 t271 t272 t273 t274) else (some ((t259 == 0 && (t260 == 0 && (t261 == 0 && (t262 == 0)))) && ((t263 == 0 && (t264 == 0 && (t265 == 0 && (t266 == 0)))) && ((t267 == 0 && (t268 == 0 && (t269 == 0 && (t270 == 0)))) && ((t271 == 0 && (t272 == 0 && (t273 == 0 && (t274 == 0))))))))))) = some r := H
  have A4 := Aside0.mk A40
  clear A40
  replace H := Option.bind_eq_some_iff.mp H
  obtain ⟨t277, A50, H⟩ := H
  replace H : (if t277 = 0 then (watchwordlaw20_GraphBoth.l0 k l0 0 t259 t260 t261 t262 t263 t264 t265 t266 t267 t268 t269 t270 t271 t272 t273 t274) else (some ((t259 == 0 && (t260 == 0 && (t261 == 0 && (t262 == 0)))) && ((t263 == 0 && (t264 == 0 && (t265 == 0 && (t266 == 0)))) && ((t267 == 0 && (t268 == 0 && (t269 == 0 && (t270 == 0)))) && ((t271 == 0 && (t272 == 0 && (t273 == 0 && (t274 == 0)))))))))) = some r := H
  have A5 := Aside0.mk A50
  clear A50
  by_cases c6 : t277 = 0
  ·rw [if_pos c6] at H
   have c6b0 : (t277 == 0) = true := beq_iff_eq.mpr c6
   have c6b1 : (t277 != 0) = false := bne_eq_false_iff_eq.mpr c6
   clear c6
   have H' := Aside0.mk H
   clear H
   go_enter Try.func9, Try.ntmps9
   go_wp2_with (first | (go_at_call 25; (with_reducible refine (watchwordlaw20_awake.calls k  true _ A2.out (by first | rfl | exact HT.out)).mono ?_); rintro e w7 ⟨rfl, hb⟩; have n0_ := Aside0.mk (below_step (by repeat (first | (with_reducible first | exact HB.out | apply below_alloc | apply pw_below_drewN | apply below_drew1) | exact HB.out)) hb); clear HB; have HB := n0_; clear n0_; (try clear hb); (try clear hb2); (try clear hk); (try clear hi)) | (go_at_call 21; (with_reducible refine (graph_Of.calls k _ _ l0 t259 t260 t261 t262 t263 t264 t265 t266 t267 t268 t269 t270 t271 t272 t273 t274 t275 _ ?side1 ?side2 A4.out).mono ?_); (case side1 => repeat (first | exact (Kd.C_below HR0.out HB.out) | (with_reducible refine Kd.C_alloc ?_ _) | (with_reducible refine Kd.C_drewN ?_ _) | (with_reducible refine Kd.C_drew ?_))); (case side2 => exact HC0.out); rintro e w8 ⟨rfl, hb⟩; have n0_ := Aside0.mk (below_step (by repeat (first | (with_reducible first | exact HB.out | apply below_alloc | apply pw_below_drewN | apply below_drew1) | exact HB.out)) hb); clear HB; have HB := n0_; clear n0_; (try clear hb); (try clear hb2); (try clear hk); (try clear hi)) | ((with_reducible refine gate_dst (N := 3) rfl ?_); refine box_event ?hg (N := 3) ?hd (cs := #[.int .i64 0, .int .i64 0, .int .i64 0, .int .i64 0, .int .i64 0, .int .i64 0, .int .i64 0, .int .i64 0, .int .i64 0, .int .i64 0, .int .i64 0, .int .i64 0, .int .i64 0, .int .i64 0, .int .i64 0, .int .i64 0]) (t := 23) ?hr ?_; (case hd => rfl); (case hg => rfl); (case hr => first | (go_simp; done) | (go_simp; rfl)); intro gb276 hg w9 hbox hb; have n0_ := Aside0.mk (below_step (by repeat (first | (with_reducible first | exact HB.out | apply below_alloc | apply pw_below_drewN | apply below_drew1) | exact HB.out)) hb); have n1_ := Aside0.mk (hbox); have n2_ := Aside0.mk ((by rw [hg]; exact (below_size (by repeat (first | (with_reducible first | exact HB.out | apply below_alloc | apply pw_below_drewN | apply below_drew1) | exact HB.out))) : w.heap.size ≤ gb276)); have n3_ := Aside0.mk ((by rw [hg]; exact (below_size (by repeat (first | (with_reducible first | exact HB.out | apply below_alloc | apply pw_below_drewN | apply below_drew1) | exact HB.out))) : w.heap.size ≤ gb276)); clear HB; have HB := n0_; have BK276 := n1_; have GW276 := n2_; have GE276 := n3_; clear n0_ n1_ n2_ n3_; clear hb hbox hg; have hcz10_0 : w9.cell? ⟨gb276, 0, none⟩ = some (.int .i64 0) := (blk_cell BK276.out 0).trans rfl; have hcz10_1 : w9.cell? ⟨gb276, 1, none⟩ = some (.int .i64 0) := (blk_cell BK276.out 1).trans rfl; have hcz10_2 : w9.cell? ⟨gb276, 2, none⟩ = some (.int .i64 0) := (blk_cell BK276.out 2).trans rfl; have hcz10_3 : w9.cell? ⟨gb276, 3, none⟩ = some (.int .i64 0) := (blk_cell BK276.out 3).trans rfl; have hcz10_4 : w9.cell? ⟨gb276, 4, none⟩ = some (.int .i64 0) := (blk_cell BK276.out 4).trans rfl; have hcz10_5 : w9.cell? ⟨gb276, 5, none⟩ = some (.int .i64 0) := (blk_cell BK276.out 5).trans rfl; have hcz10_6 : w9.cell? ⟨gb276, 6, none⟩ = some (.int .i64 0) := (blk_cell BK276.out 6).trans rfl; have hcz10_7 : w9.cell? ⟨gb276, 7, none⟩ = some (.int .i64 0) := (blk_cell BK276.out 7).trans rfl; have hcz10_8 : w9.cell? ⟨gb276, 8, none⟩ = some (.int .i64 0) := (blk_cell BK276.out 8).trans rfl; have hcz10_9 : w9.cell? ⟨gb276, 9, none⟩ = some (.int .i64 0) := (blk_cell BK276.out 9).trans rfl; have hcz10_10 : w9.cell? ⟨gb276, 10, none⟩ = some (.int .i64 0) := (blk_cell BK276.out 10).trans rfl; have hcz10_11 : w9.cell? ⟨gb276, 11, none⟩ = some (.int .i64 0) := (blk_cell BK276.out 11).trans rfl; have hcz10_12 : w9.cell? ⟨gb276, 12, none⟩ = some (.int .i64 0) := (blk_cell BK276.out 12).trans rfl; have hcz10_13 : w9.cell? ⟨gb276, 13, none⟩ = some (.int .i64 0) := (blk_cell BK276.out 13).trans rfl; have hcz10_14 : w9.cell? ⟨gb276, 14, none⟩ = some (.int .i64 0) := (blk_cell BK276.out 14).trans rfl; have hcz10_15 : w9.cell? ⟨gb276, 15, none⟩ = some (.int .i64 0) := (blk_cell BK276.out 15).trans rfl; have hfz10_0 := blk_frozen BK276.out 0; have hfz10_1 := blk_frozen BK276.out 1; have hfz10_2 := blk_frozen BK276.out 2; have hfz10_3 := blk_frozen BK276.out 3; have hfz10_4 := blk_frozen BK276.out 4; have hfz10_5 := blk_frozen BK276.out 5; have hfz10_6 := blk_frozen BK276.out 6; have hfz10_7 := blk_frozen BK276.out 7; have hfz10_8 := blk_frozen BK276.out 8; have hfz10_9 := blk_frozen BK276.out 9; have hfz10_10 := blk_frozen BK276.out 10; have hfz10_11 := blk_frozen BK276.out 11; have hfz10_12 := blk_frozen BK276.out 12; have hfz10_13 := blk_frozen BK276.out 13; have hfz10_14 := blk_frozen BK276.out 14; have hfz10_15 := blk_frozen BK276.out 15) | ((with_reducible refine gate_store (t := 23) (p := 3) rfl ?_); (try (rw [drewN_self w9]; generalize hq_ : World.drewN w9 _ = w9; have n0_ := Aside0.mk (blk_at hq_ BK276.out); have n1_ := Aside0.mk (below_at hq_ HB.out); clear hq_ BK276 HB; have BK276 := n0_; have HB := n1_; clear n0_ n1_)); refine store_event (t := 23) (p := 3) (v := ?vo_w11) (w1 := ((((((((((((((((w9.setCell ⟨gb276, 0, none⟩ (.int .i64 t259)).setCell ⟨gb276, 1, none⟩ (.int .i64 t260)).setCell ⟨gb276, 2, none⟩ (.int .i64 t261)).setCell ⟨gb276, 3, none⟩ (.int .i64 t262)).setCell ⟨gb276, 4, none⟩ (.int .i64 t263)).setCell ⟨gb276, 5, none⟩ (.int .i64 t264)).setCell ⟨gb276, 6, none⟩ (.int .i64 t265)).setCell ⟨gb276, 7, none⟩ (.int .i64 t266)).setCell ⟨gb276, 8, none⟩ (.int .i64 t267)).setCell ⟨gb276, 9, none⟩ (.int .i64 t268)).setCell ⟨gb276, 10, none⟩ (.int .i64 t269)).setCell ⟨gb276, 11, none⟩ (.int .i64 t270)).setCell ⟨gb276, 12, none⟩ (.int .i64 t271)).setCell ⟨gb276, 13, none⟩ (.int .i64 t272)).setCell ⟨gb276, 14, none⟩ (.int .i64 t273)).setCell ⟨gb276, 15, none⟩ (.int .i64 t274))) ?hg ?ho ?hn ?hr ?_; (case ho => rfl); (case hg => rfl); (case hn => rfl); (case hr => first | (go_simp; done) | (go_simp; rfl)); intro w11 hw; have n0_ : Aside0 (w11.heap[gb276]? = some (.cells #[.int .i64 t259, .int .i64 t260, .int .i64 t261, .int .i64 t262, .int .i64 t263, .int .i64 t264, .int .i64 t265, .int .i64 t266, .int .i64 t267, .int .i64 t268, .int .i64 t269, .int .i64 t270, .int .i64 t271, .int .i64 t272, .int .i64 t273, .int .i64 t274] 23 (0, 0))) := ⟨(by rw [hw]; exact (by (with_reducible repeat (first | refine blk_drewN ?_ _ | refine blk_drew ?_ | refine blk_alloc ?_ _)); refine blk_put (cs := #[.int .i64 t259, .int .i64 t260, .int .i64 t261, .int .i64 t262, .int .i64 t263, .int .i64 t264, .int .i64 t265, .int .i64 t266, .int .i64 t267, .int .i64 t268, .int .i64 t269, .int .i64 t270, .int .i64 t271, .int .i64 t272, .int .i64 t273, .int .i64 0]) ?_ 15 _ rfl; (with_reducible repeat (first | refine blk_drewN ?_ _ | refine blk_drew ?_ | refine blk_alloc ?_ _)); refine blk_put (cs := #[.int .i64 t259, .int .i64 t260, .int .i64 t261, .int .i64 t262, .int .i64 t263, .int .i64 t264, .int .i64 t265, .int .i64 t266, .int .i64 t267, .int .i64 t268, .int .i64 t269, .int .i64 t270, .int .i64 t271, .int .i64 t272, .int .i64 0, .int .i64 0]) ?_ 14 _ rfl; (with_reducible repeat (first | refine blk_drewN ?_ _ | refine blk_drew ?_ | refine blk_alloc ?_ _)); refine blk_put (cs := #[.int .i64 t259, .int .i64 t260, .int .i64 t261, .int .i64 t262, .int .i64 t263, .int .i64 t264, .int .i64 t265, .int .i64 t266, .int .i64 t267, .int .i64 t268, .int .i64 t269, .int .i64 t270, .int .i64 t271, .int .i64 0, .int .i64 0, .int .i64 0]) ?_ 13 _ rfl; (with_reducible repeat (first | refine blk_drewN ?_ _ | refine blk_drew ?_ | refine blk_alloc ?_ _)); refine blk_put (cs := #[.int .i64 t259, .int .i64 t260, .int .i64 t261, .int .i64 t262, .int .i64 t263, .int .i64 t264, .int .i64 t265, .int .i64 t266, .int .i64 t267, .int .i64 t268, .int .i64 t269, .int .i64 t270, .int .i64 0, .int .i64 0, .int .i64 0, .int .i64 0]) ?_ 12 _ rfl; (with_reducible repeat (first | refine blk_drewN ?_ _ | refine blk_drew ?_ | refine blk_alloc ?_ _)); refine blk_put (cs := #[.int .i64 t259, .int .i64 t260, .int .i64 t261, .int .i64 t262, .int .i64 t263, .int .i64 t264, .int .i64 t265, .int .i64 t266, .int .i64 t267, .int .i64 t268, .int .i64 t269, .int .i64 0, .int .i64 0, .int .i64 0, .int .i64 0, .int .i64 0]) ?_ 11 _ rfl; (with_reducible repeat (first | refine blk_drewN ?_ _ | refine blk_drew ?_ | refine blk_alloc ?_ _)); refine blk_put (cs := #[.int .i64 t259, .int .i64 t260, .int .i64 t261, .int .i64 t262, .int .i64 t263, .int .i64 t264, .int .i64 t265, .int .i64 t266, .int .i64 t267, .int .i64 t268, .int .i64 0, .int .i64 0, .int .i64 0, .int .i64 0, .int .i64 0, .int .i64 0]) ?_ 10 _ rfl; (with_reducible repeat (first | refine blk_drewN ?_ _ | refine blk_drew ?_ | refine blk_alloc ?_ _)); refine blk_put (cs := #[.int .i64 t259, .int .i64 t260, .int .i64 t261, .int .i64 t262, .int .i64 t263, .int .i64 t264, .int .i64 t265, .int .i64 t266, .int .i64 t267, .int .i64 0, .int .i64 0, .int .i64 0, .int .i64 0, .int .i64 0, .int .i64 0, .int .i64 0]) ?_ 9 _ rfl; (with_reducible repeat (first | refine blk_drewN ?_ _ | refine blk_drew ?_ | refine blk_alloc ?_ _)); refine blk_put (cs := #[.int .i64 t259, .int .i64 t260, .int .i64 t261, .int .i64 t262, .int .i64 t263, .int .i64 t264, .int .i64 t265, .int .i64 t266, .int .i64 0, .int .i64 0, .int .i64 0, .int .i64 0, .int .i64 0, .int .i64 0, .int .i64 0, .int .i64 0]) ?_ 8 _ rfl; (with_reducible repeat (first | refine blk_drewN ?_ _ | refine blk_drew ?_ | refine blk_alloc ?_ _)); refine blk_put (cs := #[.int .i64 t259, .int .i64 t260, .int .i64 t261, .int .i64 t262, .int .i64 t263, .int .i64 t264, .int .i64 t265, .int .i64 0, .int .i64 0, .int .i64 0, .int .i64 0, .int .i64 0, .int .i64 0, .int .i64 0, .int .i64 0, .int .i64 0]) ?_ 7 _ rfl; (with_reducible repeat (first | refine blk_drewN ?_ _ | refine blk_drew ?_ | refine blk_alloc ?_ _)); refine blk_put (cs := #[.int .i64 t259, .int .i64 t260, .int .i64 t261, .int .i64 t262, .int .i64 t263, .int .i64 t264, .int .i64 0, .int .i64 0, .int .i64 0, .int .i64 0, .int .i64 0, .int .i64 0, .int .i64 0, .int .i64 0, .int .i64 0, .int .i64 0]) ?_ 6 _ rfl; (with_reducible repeat (first | refine blk_drewN ?_ _ | refine blk_drew ?_ | refine blk_alloc ?_ _)); refine blk_put (cs := #[.int .i64 t259, .int .i64 t260, .int .i64 t261, .int .i64 t262, .int .i64 t263, .int .i64 0, .int .i64 0, .int .i64 0, .int .i64 0, .int .i64 0, .int .i64 0, .int .i64 0, .int .i64 0, .int .i64 0, .int .i64 0, .int .i64 0]) ?_ 5 _ rfl; (with_reducible repeat (first | refine blk_drewN ?_ _ | refine blk_drew ?_ | refine blk_alloc ?_ _)); refine blk_put (cs := #[.int .i64 t259, .int .i64 t260, .int .i64 t261, .int .i64 t262, .int .i64 0, .int .i64 0, .int .i64 0, .int .i64 0, .int .i64 0, .int .i64 0, .int .i64 0, .int .i64 0, .int .i64 0, .int .i64 0, .int .i64 0, .int .i64 0]) ?_ 4 _ rfl; (with_reducible repeat (first | refine blk_drewN ?_ _ | refine blk_drew ?_ | refine blk_alloc ?_ _)); refine blk_put (cs := #[.int .i64 t259, .int .i64 t260, .int .i64 t261, .int .i64 0, .int .i64 0, .int .i64 0, .int .i64 0, .int .i64 0, .int .i64 0, .int .i64 0, .int .i64 0, .int .i64 0, .int .i64 0, .int .i64 0, .int .i64 0, .int .i64 0]) ?_ 3 _ rfl; (with_reducible repeat (first | refine blk_drewN ?_ _ | refine blk_drew ?_ | refine blk_alloc ?_ _)); refine blk_put (cs := #[.int .i64 t259, .int .i64 t260, .int .i64 0, .int .i64 0, .int .i64 0, .int .i64 0, .int .i64 0, .int .i64 0, .int .i64 0, .int .i64 0, .int .i64 0, .int .i64 0, .int .i64 0, .int .i64 0, .int .i64 0, .int .i64 0]) ?_ 2 _ rfl; (with_reducible repeat (first | refine blk_drewN ?_ _ | refine blk_drew ?_ | refine blk_alloc ?_ _)); refine blk_put (cs := #[.int .i64 t259, .int .i64 0, .int .i64 0, .int .i64 0, .int .i64 0, .int .i64 0, .int .i64 0, .int .i64 0, .int .i64 0, .int .i64 0, .int .i64 0, .int .i64 0, .int .i64 0, .int .i64 0, .int .i64 0, .int .i64 0]) ?_ 1 _ rfl; (with_reducible repeat (first | refine blk_drewN ?_ _ | refine blk_drew ?_ | refine blk_alloc ?_ _)); refine blk_put (cs := #[.int .i64 0, .int .i64 0, .int .i64 0, .int .i64 0, .int .i64 0, .int .i64 0, .int .i64 0, .int .i64 0, .int .i64 0, .int .i64 0, .int .i64 0, .int .i64 0, .int .i64 0, .int .i64 0, .int .i64 0, .int .i64 0]) ?_ 0 _ rfl; (with_reducible repeat (first | refine blk_drewN ?_ _ | refine blk_drew ?_ | refine blk_alloc ?_ _)); exact BK276.out))⟩; have n1_ : Aside0 (Below w.heap.size w w11) := ⟨(by rw [hw]; exact (by repeat (first | (with_reducible first | exact HB.out | apply below_alloc | apply pw_below_drewN | apply below_drew1 | refine below_set ?_ GE276.out) | exact HB.out)))⟩; clear hw; clear BK276; clear HB; have BK276 := n0_; have HB := n1_; clear n0_ n1_) | (go_at_call 16; (with_reducible refine (watchwordlaw0_Num.calls t275 t277 _ A5.out).mono ?_); rintro e w' ⟨rfl, ⟨nd, rfl⟩⟩; (try first | exact ⟨rfl, _, World.drewN_drewN _ _ _⟩ | exact ⟨rfl, _, Eq.trans (World.drewN_drewN _ _ _) (congrArg (World.drewN _) (Nat.add_assoc _ _ _))⟩)))
   repeat (go_quiet (first | (go_at_call 25; (with_reducible refine (watchwordlaw20_awake.calls k  true _ A2.out (by first | rfl | exact HT.out)).mono ?_); rintro e w7 ⟨rfl, hb⟩; have n0_ := Aside0.mk (below_step (by repeat (first | (with_reducible first | exact HB.out | apply below_alloc | apply pw_below_drewN | apply below_drew1) | exact HB.out)) hb); clear HB; have HB := n0_; clear n0_; (try clear hb); (try clear hb2); (try clear hk); (try clear hi)) | (go_at_call 21; (with_reducible refine (graph_Of.calls k _ _ l0 t259 t260 t261 t262 t263 t264 t265 t266 t267 t268 t269 t270 t271 t272 t273 t274 t275 _ ?side1 ?side2 A4.out).mono ?_); (case side1 => repeat (first | exact (Kd.C_below HR0.out HB.out) | (with_reducible refine Kd.C_alloc ?_ _) | (with_reducible refine Kd.C_drewN ?_ _) | (with_reducible refine Kd.C_drew ?_))); (case side2 => exact HC0.out); rintro e w8 ⟨rfl, hb⟩; have n0_ := Aside0.mk (below_step (by repeat (first | (with_reducible first | exact HB.out | apply below_alloc | apply pw_below_drewN | apply below_drew1) | exact HB.out)) hb); clear HB; have HB := n0_; clear n0_; (try clear hb); (try clear hb2); (try clear hk); (try clear hi)) | ((with_reducible refine gate_dst (N := 3) rfl ?_); refine box_event ?hg (N := 3) ?hd (cs := #[.int .i64 0, .int .i64 0, .int .i64 0, .int .i64 0, .int .i64 0, .int .i64 0, .int .i64 0, .int .i64 0, .int .i64 0, .int .i64 0, .int .i64 0, .int .i64 0, .int .i64 0, .int .i64 0, .int .i64 0, .int .i64 0]) (t := 23) ?hr ?_; (case hd => rfl); (case hg => rfl); (case hr => first | (go_simp; done) | (go_simp; rfl)); intro gb276 hg w9 hbox hb; have n0_ := Aside0.mk (below_step (by repeat (first | (with_reducible first | exact HB.out | apply below_alloc | apply pw_below_drewN | apply below_drew1) | exact HB.out)) hb); have n1_ := Aside0.mk (hbox); have n2_ := Aside0.mk ((by rw [hg]; exact (below_size (by repeat (first | (with_reducible first | exact HB.out | apply below_alloc | apply pw_below_drewN | apply below_drew1) | exact HB.out))) : w.heap.size ≤ gb276)); have n3_ := Aside0.mk ((by rw [hg]; exact (below_size (by repeat (first | (with_reducible first | exact HB.out | apply below_alloc | apply pw_below_drewN | apply below_drew1) | exact HB.out))) : w.heap.size ≤ gb276)); clear HB; have HB := n0_; have BK276 := n1_; have GW276 := n2_; have GE276 := n3_; clear n0_ n1_ n2_ n3_; clear hb hbox hg; have hcz10_0 : w9.cell? ⟨gb276, 0, none⟩ = some (.int .i64 0) := (blk_cell BK276.out 0).trans rfl; have hcz10_1 : w9.cell? ⟨gb276, 1, none⟩ = some (.int .i64 0) := (blk_cell BK276.out 1).trans rfl; have hcz10_2 : w9.cell? ⟨gb276, 2, none⟩ = some (.int .i64 0) := (blk_cell BK276.out 2).trans rfl; have hcz10_3 : w9.cell? ⟨gb276, 3, none⟩ = some (.int .i64 0) := (blk_cell BK276.out 3).trans rfl; have hcz10_4 : w9.cell? ⟨gb276, 4, none⟩ = some (.int .i64 0) := (blk_cell BK276.out 4).trans rfl; have hcz10_5 : w9.cell? ⟨gb276, 5, none⟩ = some (.int .i64 0) := (blk_cell BK276.out 5).trans rfl; have hcz10_6 : w9.cell? ⟨gb276, 6, none⟩ = some (.int .i64 0) := (blk_cell BK276.out 6).trans rfl; have hcz10_7 : w9.cell? ⟨gb276, 7, none⟩ = some (.int .i64 0) := (blk_cell BK276.out 7).trans rfl; have hcz10_8 : w9.cell? ⟨gb276, 8, none⟩ = some (.int .i64 0) := (blk_cell BK276.out 8).trans rfl; have hcz10_9 : w9.cell? ⟨gb276, 9, none⟩ = some (.int .i64 0) := (blk_cell BK276.out 9).trans rfl; have hcz10_10 : w9.cell? ⟨gb276, 10, none⟩ = some (.int .i64 0) := (blk_cell BK276.out 10).trans rfl; have hcz10_11 : w9.cell? ⟨gb276, 11, none⟩ = some (.int .i64 0) := (blk_cell BK276.out 11).trans rfl; have hcz10_12 : w9.cell? ⟨gb276, 12, none⟩ = some (.int .i64 0) := (blk_cell BK276.out 12).trans rfl; have hcz10_13 : w9.cell? ⟨gb276, 13, none⟩ = some (.int .i64 0) := (blk_cell BK276.out 13).trans rfl; have hcz10_14 : w9.cell? ⟨gb276, 14, none⟩ = some (.int .i64 0) := (blk_cell BK276.out 14).trans rfl; have hcz10_15 : w9.cell? ⟨gb276, 15, none⟩ = some (.int .i64 0) := (blk_cell BK276.out 15).trans rfl; have hfz10_0 := blk_frozen BK276.out 0; have hfz10_1 := blk_frozen BK276.out 1; have hfz10_2 := blk_frozen BK276.out 2; have hfz10_3 := blk_frozen BK276.out 3; have hfz10_4 := blk_frozen BK276.out 4; have hfz10_5 := blk_frozen BK276.out 5; have hfz10_6 := blk_frozen BK276.out 6; have hfz10_7 := blk_frozen BK276.out 7; have hfz10_8 := blk_frozen BK276.out 8; have hfz10_9 := blk_frozen BK276.out 9; have hfz10_10 := blk_frozen BK276.out 10; have hfz10_11 := blk_frozen BK276.out 11; have hfz10_12 := blk_frozen BK276.out 12; have hfz10_13 := blk_frozen BK276.out 13; have hfz10_14 := blk_frozen BK276.out 14; have hfz10_15 := blk_frozen BK276.out 15) | ((with_reducible refine gate_store (t := 23) (p := 3) rfl ?_); (try (rw [drewN_self w9]; generalize hq_ : World.drewN w9 _ = w9; have n0_ := Aside0.mk (blk_at hq_ BK276.out); have n1_ := Aside0.mk (below_at hq_ HB.out); clear hq_ BK276 HB; have BK276 := n0_; have HB := n1_; clear n0_ n1_)); refine store_event (t := 23) (p := 3) (v := ?vo_w11) (w1 := ((((((((((((((((w9.setCell ⟨gb276, 0, none⟩ (.int .i64 t259)).setCell ⟨gb276, 1, none⟩ (.int .i64 t260)).setCell ⟨gb276, 2, none⟩ (.int .i64 t261)).setCell ⟨gb276, 3, none⟩ (.int .i64 t262)).setCell ⟨gb276, 4, none⟩ (.int .i64 t263)).setCell ⟨gb276, 5, none⟩ (.int .i64 t264)).setCell ⟨gb276, 6, none⟩ (.int .i64 t265)).setCell ⟨gb276, 7, none⟩ (.int .i64 t266)).setCell ⟨gb276, 8, none⟩ (.int .i64 t267)).setCell ⟨gb276, 9, none⟩ (.int .i64 t268)).setCell ⟨gb276, 10, none⟩ (.int .i64 t269)).setCell ⟨gb276, 11, none⟩ (.int .i64 t270)).setCell ⟨gb276, 12, none⟩ (.int .i64 t271)).setCell ⟨gb276, 13, none⟩ (.int .i64 t272)).setCell ⟨gb276, 14, none⟩ (.int .i64 t273)).setCell ⟨gb276, 15, none⟩ (.int .i64 t274))) ?hg ?ho ?hn ?hr ?_; (case ho => rfl); (case hg => rfl); (case hn => rfl); (case hr => first | (go_simp; done) | (go_simp; rfl)); intro w11 hw; have n0_ : Aside0 (w11.heap[gb276]? = some (.cells #[.int .i64 t259, .int .i64 t260, .int .i64 t261, .int .i64 t262, .int .i64 t263, .int .i64 t264, .int .i64 t265, .int .i64 t266, .int .i64 t267, .int .i64 t268, .int .i64 t269, .int .i64 t270, .int .i64 t271, .int .i64 t272, .int .i64 t273, .int .i64 t274] 23 (0, 0))) := ⟨(by rw [hw]; exact (by (with_reducible repeat (first | refine blk_drewN ?_ _ | refine blk_drew ?_ | refine blk_alloc ?_ _)); refine blk_put (cs := #[.int .i64 t259, .int .i64 t260, .int .i64 t261, .int .i64 t262, .int .i64 t263, .int .i64 t264, .int .i64 t265, .int .i64 t266, .int .i64 t267, .int .i64 t268, .int .i64 t269, .int .i64 t270, .int .i64 t271, .int .i64 t272, .int .i64 t273, .int .i64 0]) ?_ 15 _ rfl; (with_reducible repeat (first | refine blk_drewN ?_ _ | refine blk_drew ?_ | refine blk_alloc ?_ _)); refine blk_put (cs := #[.int .i64 t259, .int .i64 t260, .int .i64 t261, .int .i64 t262, .int .i64 t263, .int .i64 t264, .int .i64 t265, .int .i64 t266, .int .i64 t267, .int .i64 t268, .int .i64 t269, .int .i64 t270, .int .i64 t271, .int .i64 t272, .int .i64 0, .int .i64 0]) ?_ 14 _ rfl; (with_reducible repeat (first | refine blk_drewN ?_ _ | refine blk_drew ?_ | refine blk_alloc ?_ _)); refine blk_put (cs := #[.int .i64 t259, .int .i64 t260, .int .i64 t261, .int .i64 t262, .int .i64 t263, .int .i64 t264, .int .i64 t265, .int .i64 t266, .int .i64 t267, .int .i64 t268, .int .i64 t269, .int .i64 t270, .int .i64 t271, .int .i64 0, .int .i64 0, .int .i64 0]) ?_ 13 _ rfl; (with_reducible repeat (first | refine blk_drewN ?_ _ | refine blk_drew ?_ | refine blk_alloc ?_ _)); refine blk_put (cs := #[.int .i64 t259, .int .i64 t260, .int .i64 t261, .int .i64 t262, .int .i64 t263, .int .i64 t264, .int .i64 t265, .int .i64 t266, .int .i64 t267, .int .i64 t268, .int .i64 t269, .int .i64 t270, .int .i64 0, .int .i64 0, .int .i64 0, .int .i64 0]) ?_ 12 _ rfl; (with_reducible repeat (first | refine blk_drewN ?_ _ | refine blk_drew ?_ | refine blk_alloc ?_ _)); refine blk_put (cs := #[.int .i64 t259, .int .i64 t260, .int .i64 t261, .int .i64 t262, .int .i64 t263, .int .i64 t264, .int .i64 t265, .int .i64 t266, .int .i64 t267, .int .i64 t268, .int .i64 t269, .int .i64 0, .int .i64 0, .int .i64 0, .int .i64 0, .int .i64 0]) ?_ 11 _ rfl; (with_reducible repeat (first | refine blk_drewN ?_ _ | refine blk_drew ?_ | refine blk_alloc ?_ _)); refine blk_put (cs := #[.int .i64 t259, .int .i64 t260, .int .i64 t261, .int .i64 t262, .int .i64 t263, .int .i64 t264, .int .i64 t265, .int .i64 t266, .int .i64 t267, .int .i64 t268, .int .i64 0, .int .i64 0, .int .i64 0, .int .i64 0, .int .i64 0, .int .i64 0]) ?_ 10 _ rfl; (with_reducible repeat (first | refine blk_drewN ?_ _ | refine blk_drew ?_ | refine blk_alloc ?_ _)); refine blk_put (cs := #[.int .i64 t259, .int .i64 t260, .int .i64 t261, .int .i64 t262, .int .i64 t263, .int .i64 t264, .int .i64 t265, .int .i64 t266, .int .i64 t267, .int .i64 0, .int .i64 0, .int .i64 0, .int .i64 0, .int .i64 0, .int .i64 0, .int .i64 0]) ?_ 9 _ rfl; (with_reducible repeat (first | refine blk_drewN ?_ _ | refine blk_drew ?_ | refine blk_alloc ?_ _)); refine blk_put (cs := #[.int .i64 t259, .int .i64 t260, .int .i64 t261, .int .i64 t262, .int .i64 t263, .int .i64 t264, .int .i64 t265, .int .i64 t266, .int .i64 0, .int .i64 0, .int .i64 0, .int .i64 0, .int .i64 0, .int .i64 0, .int .i64 0, .int .i64 0]) ?_ 8 _ rfl; (with_reducible repeat (first | refine blk_drewN ?_ _ | refine blk_drew ?_ | refine blk_alloc ?_ _)); refine blk_put (cs := #[.int .i64 t259, .int .i64 t260, .int .i64 t261, .int .i64 t262, .int .i64 t263, .int .i64 t264, .int .i64 t265, .int .i64 0, .int .i64 0, .int .i64 0, .int .i64 0, .int .i64 0, .int .i64 0, .int .i64 0, .int .i64 0, .int .i64 0]) ?_ 7 _ rfl; (with_reducible repeat (first | refine blk_drewN ?_ _ | refine blk_drew ?_ | refine blk_alloc ?_ _)); refine blk_put (cs := #[.int .i64 t259, .int .i64 t260, .int .i64 t261, .int .i64 t262, .int .i64 t263, .int .i64 t264, .int .i64 0, .int .i64 0, .int .i64 0, .int .i64 0, .int .i64 0, .int .i64 0, .int .i64 0, .int .i64 0, .int .i64 0, .int .i64 0]) ?_ 6 _ rfl; (with_reducible repeat (first | refine blk_drewN ?_ _ | refine blk_drew ?_ | refine blk_alloc ?_ _)); refine blk_put (cs := #[.int .i64 t259, .int .i64 t260, .int .i64 t261, .int .i64 t262, .int .i64 t263, .int .i64 0, .int .i64 0, .int .i64 0, .int .i64 0, .int .i64 0, .int .i64 0, .int .i64 0, .int .i64 0, .int .i64 0, .int .i64 0, .int .i64 0]) ?_ 5 _ rfl; (with_reducible repeat (first | refine blk_drewN ?_ _ | refine blk_drew ?_ | refine blk_alloc ?_ _)); refine blk_put (cs := #[.int .i64 t259, .int .i64 t260, .int .i64 t261, .int .i64 t262, .int .i64 0, .int .i64 0, .int .i64 0, .int .i64 0, .int .i64 0, .int .i64 0, .int .i64 0, .int .i64 0, .int .i64 0, .int .i64 0, .int .i64 0, .int .i64 0]) ?_ 4 _ rfl; (with_reducible repeat (first | refine blk_drewN ?_ _ | refine blk_drew ?_ | refine blk_alloc ?_ _)); refine blk_put (cs := #[.int .i64 t259, .int .i64 t260, .int .i64 t261, .int .i64 0, .int .i64 0, .int .i64 0, .int .i64 0, .int .i64 0, .int .i64 0, .int .i64 0, .int .i64 0, .int .i64 0, .int .i64 0, .int .i64 0, .int .i64 0, .int .i64 0]) ?_ 3 _ rfl; (with_reducible repeat (first | refine blk_drewN ?_ _ | refine blk_drew ?_ | refine blk_alloc ?_ _)); refine blk_put (cs := #[.int .i64 t259, .int .i64 t260, .int .i64 0, .int .i64 0, .int .i64 0, .int .i64 0, .int .i64 0, .int .i64 0, .int .i64 0, .int .i64 0, .int .i64 0, .int .i64 0, .int .i64 0, .int .i64 0, .int .i64 0, .int .i64 0]) ?_ 2 _ rfl; (with_reducible repeat (first | refine blk_drewN ?_ _ | refine blk_drew ?_ | refine blk_alloc ?_ _)); refine blk_put (cs := #[.int .i64 t259, .int .i64 0, .int .i64 0, .int .i64 0, .int .i64 0, .int .i64 0, .int .i64 0, .int .i64 0, .int .i64 0, .int .i64 0, .int .i64 0, .int .i64 0, .int .i64 0, .int .i64 0, .int .i64 0, .int .i64 0]) ?_ 1 _ rfl; (with_reducible repeat (first | refine blk_drewN ?_ _ | refine blk_drew ?_ | refine blk_alloc ?_ _)); refine blk_put (cs := #[.int .i64 0, .int .i64 0, .int .i64 0, .int .i64 0, .int .i64 0, .int .i64 0, .int .i64 0, .int .i64 0, .int .i64 0, .int .i64 0, .int .i64 0, .int .i64 0, .int .i64 0, .int .i64 0, .int .i64 0, .int .i64 0]) ?_ 0 _ rfl; (with_reducible repeat (first | refine blk_drewN ?_ _ | refine blk_drew ?_ | refine blk_alloc ?_ _)); exact BK276.out))⟩; have n1_ : Aside0 (Below w.heap.size w w11) := ⟨(by rw [hw]; exact (by repeat (first | (with_reducible first | exact HB.out | apply below_alloc | apply pw_below_drewN | apply below_drew1 | refine below_set ?_ GE276.out) | exact HB.out)))⟩; clear hw; clear BK276; clear HB; have BK276 := n0_; have HB := n1_; clear n0_ n1_) | (go_at_call 16; (with_reducible refine (watchwordlaw0_Num.calls t275 t277 _ A5.out).mono ?_); rintro e w' ⟨rfl, ⟨nd, rfl⟩⟩; (try first | exact ⟨rfl, _, World.drewN_drewN _ _ _⟩ | exact ⟨rfl, _, Eq.trans (World.drewN_drewN _ _ _) (congrArg (World.drewN _) (Nat.add_assoc _ _ _))⟩))); try go_wp2_with (first | (go_at_call 25; (with_reducible refine (watchwordlaw20_awake.calls k  true _ A2.out (by first | rfl | exact HT.out)).mono ?_); rintro e w7 ⟨rfl, hb⟩; have n0_ := Aside0.mk (below_step (by repeat (first | (with_reducible first | exact HB.out | apply below_alloc | apply pw_below_drewN | apply below_drew1) | exact HB.out)) hb); clear HB; have HB := n0_; clear n0_; (try clear hb); (try clear hb2); (try clear hk); (try clear hi)) | (go_at_call 21; (with_reducible refine (graph_Of.calls k _ _ l0 t259 t260 t261 t262 t263 t264 t265 t266 t267 t268 t269 t270 t271 t272 t273 t274 t275 _ ?side1 ?side2 A4.out).mono ?_); (case side1 => repeat (first | exact (Kd.C_below HR0.out HB.out) | (with_reducible refine Kd.C_alloc ?_ _) | (with_reducible refine Kd.C_drewN ?_ _) | (with_reducible refine Kd.C_drew ?_))); (case side2 => exact HC0.out); rintro e w8 ⟨rfl, hb⟩; have n0_ := Aside0.mk (below_step (by repeat (first | (with_reducible first | exact HB.out | apply below_alloc | apply pw_below_drewN | apply below_drew1) | exact HB.out)) hb); clear HB; have HB := n0_; clear n0_; (try clear hb); (try clear hb2); (try clear hk); (try clear hi)) | ((with_reducible refine gate_dst (N := 3) rfl ?_); refine box_event ?hg (N := 3) ?hd (cs := #[.int .i64 0, .int .i64 0, .int .i64 0, .int .i64 0, .int .i64 0, .int .i64 0, .int .i64 0, .int .i64 0, .int .i64 0, .int .i64 0, .int .i64 0, .int .i64 0, .int .i64 0, .int .i64 0, .int .i64 0, .int .i64 0]) (t := 23) ?hr ?_; (case hd => rfl); (case hg => rfl); (case hr => first | (go_simp; done) | (go_simp; rfl)); intro gb276 hg w9 hbox hb; have n0_ := Aside0.mk (below_step (by repeat (first | (with_reducible first | exact HB.out | apply below_alloc | apply pw_below_drewN | apply below_drew1) | exact HB.out)) hb); have n1_ := Aside0.mk (hbox); have n2_ := Aside0.mk ((by rw [hg]; exact (below_size (by repeat (first | (with_reducible first | exact HB.out | apply below_alloc | apply pw_below_drewN | apply below_drew1) | exact HB.out))) : w.heap.size ≤ gb276)); have n3_ := Aside0.mk ((by rw [hg]; exact (below_size (by repeat (first | (with_reducible first | exact HB.out | apply below_alloc | apply pw_below_drewN | apply below_drew1) | exact HB.out))) : w.heap.size ≤ gb276)); clear HB; have HB := n0_; have BK276 := n1_; have GW276 := n2_; have GE276 := n3_; clear n0_ n1_ n2_ n3_; clear hb hbox hg; have hcz10_0 : w9.cell? ⟨gb276, 0, none⟩ = some (.int .i64 0) := (blk_cell BK276.out 0).trans rfl; have hcz10_1 : w9.cell? ⟨gb276, 1, none⟩ = some (.int .i64 0) := (blk_cell BK276.out 1).trans rfl; have hcz10_2 : w9.cell? ⟨gb276, 2, none⟩ = some (.int .i64 0) := (blk_cell BK276.out 2).trans rfl; have hcz10_3 : w9.cell? ⟨gb276, 3, none⟩ = some (.int .i64 0) := (blk_cell BK276.out 3).trans rfl; have hcz10_4 : w9.cell? ⟨gb276, 4, none⟩ = some (.int .i64 0) := (blk_cell BK276.out 4).trans rfl; have hcz10_5 : w9.cell? ⟨gb276, 5, none⟩ = some (.int .i64 0) := (blk_cell BK276.out 5).trans rfl; have hcz10_6 : w9.cell? ⟨gb276, 6, none⟩ = some (.int .i64 0) := (blk_cell BK276.out 6).trans rfl; have hcz10_7 : w9.cell? ⟨gb276, 7, none⟩ = some (.int .i64 0) := (blk_cell BK276.out 7).trans rfl; have hcz10_8 : w9.cell? ⟨gb276, 8, none⟩ = some (.int .i64 0) := (blk_cell BK276.out 8).trans rfl; have hcz10_9 : w9.cell? ⟨gb276, 9, none⟩ = some (.int .i64 0) := (blk_cell BK276.out 9).trans rfl; have hcz10_10 : w9.cell? ⟨gb276, 10, none⟩ = some (.int .i64 0) := (blk_cell BK276.out 10).trans rfl; have hcz10_11 : w9.cell? ⟨gb276, 11, none⟩ = some (.int .i64 0) := (blk_cell BK276.out 11).trans rfl; have hcz10_12 : w9.cell? ⟨gb276, 12, none⟩ = some (.int .i64 0) := (blk_cell BK276.out 12).trans rfl; have hcz10_13 : w9.cell? ⟨gb276, 13, none⟩ = some (.int .i64 0) := (blk_cell BK276.out 13).trans rfl; have hcz10_14 : w9.cell? ⟨gb276, 14, none⟩ = some (.int .i64 0) := (blk_cell BK276.out 14).trans rfl; have hcz10_15 : w9.cell? ⟨gb276, 15, none⟩ = some (.int .i64 0) := (blk_cell BK276.out 15).trans rfl; have hfz10_0 := blk_frozen BK276.out 0; have hfz10_1 := blk_frozen BK276.out 1; have hfz10_2 := blk_frozen BK276.out 2; have hfz10_3 := blk_frozen BK276.out 3; have hfz10_4 := blk_frozen BK276.out 4; have hfz10_5 := blk_frozen BK276.out 5; have hfz10_6 := blk_frozen BK276.out 6; have hfz10_7 := blk_frozen BK276.out 7; have hfz10_8 := blk_frozen BK276.out 8; have hfz10_9 := blk_frozen BK276.out 9; have hfz10_10 := blk_frozen BK276.out 10; have hfz10_11 := blk_frozen BK276.out 11; have hfz10_12 := blk_frozen BK276.out 12; have hfz10_13 := blk_frozen BK276.out 13; have hfz10_14 := blk_frozen BK276.out 14; have hfz10_15 := blk_frozen BK276.out 15) | ((with_reducible refine gate_store (t := 23) (p := 3) rfl ?_); (try (rw [drewN_self w9]; generalize hq_ : World.drewN w9 _ = w9; have n0_ := Aside0.mk (blk_at hq_ BK276.out); have n1_ := Aside0.mk (below_at hq_ HB.out); clear hq_ BK276 HB; have BK276 := n0_; have HB := n1_; clear n0_ n1_)); refine store_event (t := 23) (p := 3) (v := ?vo_w11) (w1 := ((((((((((((((((w9.setCell ⟨gb276, 0, none⟩ (.int .i64 t259)).setCell ⟨gb276, 1, none⟩ (.int .i64 t260)).setCell ⟨gb276, 2, none⟩ (.int .i64 t261)).setCell ⟨gb276, 3, none⟩ (.int .i64 t262)).setCell ⟨gb276, 4, none⟩ (.int .i64 t263)).setCell ⟨gb276, 5, none⟩ (.int .i64 t264)).setCell ⟨gb276, 6, none⟩ (.int .i64 t265)).setCell ⟨gb276, 7, none⟩ (.int .i64 t266)).setCell ⟨gb276, 8, none⟩ (.int .i64 t267)).setCell ⟨gb276, 9, none⟩ (.int .i64 t268)).setCell ⟨gb276, 10, none⟩ (.int .i64 t269)).setCell ⟨gb276, 11, none⟩ (.int .i64 t270)).setCell ⟨gb276, 12, none⟩ (.int .i64 t271)).setCell ⟨gb276, 13, none⟩ (.int .i64 t272)).setCell ⟨gb276, 14, none⟩ (.int .i64 t273)).setCell ⟨gb276, 15, none⟩ (.int .i64 t274))) ?hg ?ho ?hn ?hr ?_; (case ho => rfl); (case hg => rfl); (case hn => rfl); (case hr => first | (go_simp; done) | (go_simp; rfl)); intro w11 hw; have n0_ : Aside0 (w11.heap[gb276]? = some (.cells #[.int .i64 t259, .int .i64 t260, .int .i64 t261, .int .i64 t262, .int .i64 t263, .int .i64 t264, .int .i64 t265, .int .i64 t266, .int .i64 t267, .int .i64 t268, .int .i64 t269, .int .i64 t270, .int .i64 t271, .int .i64 t272, .int .i64 t273, .int .i64 t274] 23 (0, 0))) := ⟨(by rw [hw]; exact (by (with_reducible repeat (first | refine blk_drewN ?_ _ | refine blk_drew ?_ | refine blk_alloc ?_ _)); refine blk_put (cs := #[.int .i64 t259, .int .i64 t260, .int .i64 t261, .int .i64 t262, .int .i64 t263, .int .i64 t264, .int .i64 t265, .int .i64 t266, .int .i64 t267, .int .i64 t268, .int .i64 t269, .int .i64 t270, .int .i64 t271, .int .i64 t272, .int .i64 t273, .int .i64 0]) ?_ 15 _ rfl; (with_reducible repeat (first | refine blk_drewN ?_ _ | refine blk_drew ?_ | refine blk_alloc ?_ _)); refine blk_put (cs := #[.int .i64 t259, .int .i64 t260, .int .i64 t261, .int .i64 t262, .int .i64 t263, .int .i64 t264, .int .i64 t265, .int .i64 t266, .int .i64 t267, .int .i64 t268, .int .i64 t269, .int .i64 t270, .int .i64 t271, .int .i64 t272, .int .i64 0, .int .i64 0]) ?_ 14 _ rfl; (with_reducible repeat (first | refine blk_drewN ?_ _ | refine blk_drew ?_ | refine blk_alloc ?_ _)); refine blk_put (cs := #[.int .i64 t259, .int .i64 t260, .int .i64 t261, .int .i64 t262, .int .i64 t263, .int .i64 t264, .int .i64 t265, .int .i64 t266, .int .i64 t267, .int .i64 t268, .int .i64 t269, .int .i64 t270, .int .i64 t271, .int .i64 0, .int .i64 0, .int .i64 0]) ?_ 13 _ rfl; (with_reducible repeat (first | refine blk_drewN ?_ _ | refine blk_drew ?_ | refine blk_alloc ?_ _)); refine blk_put (cs := #[.int .i64 t259, .int .i64 t260, .int .i64 t261, .int .i64 t262, .int .i64 t263, .int .i64 t264, .int .i64 t265, .int .i64 t266, .int .i64 t267, .int .i64 t268, .int .i64 t269, .int .i64 t270, .int .i64 0, .int .i64 0, .int .i64 0, .int .i64 0]) ?_ 12 _ rfl; (with_reducible repeat (first | refine blk_drewN ?_ _ | refine blk_drew ?_ | refine blk_alloc ?_ _)); refine blk_put (cs := #[.int .i64 t259, .int .i64 t260, .int .i64 t261, .int .i64 t262, .int .i64 t263, .int .i64 t264, .int .i64 t265, .int .i64 t266, .int .i64 t267, .int .i64 t268, .int .i64 t269, .int .i64 0, .int .i64 0, .int .i64 0, .int .i64 0, .int .i64 0]) ?_ 11 _ rfl; (with_reducible repeat (first | refine blk_drewN ?_ _ | refine blk_drew ?_ | refine blk_alloc ?_ _)); refine blk_put (cs := #[.int .i64 t259, .int .i64 t260, .int .i64 t261, .int .i64 t262, .int .i64 t263, .int .i64 t264, .int .i64 t265, .int .i64 t266, .int .i64 t267, .int .i64 t268, .int .i64 0, .int .i64 0, .int .i64 0, .int .i64 0, .int .i64 0, .int .i64 0]) ?_ 10 _ rfl; (with_reducible repeat (first | refine blk_drewN ?_ _ | refine blk_drew ?_ | refine blk_alloc ?_ _)); refine blk_put (cs := #[.int .i64 t259, .int .i64 t260, .int .i64 t261, .int .i64 t262, .int .i64 t263, .int .i64 t264, .int .i64 t265, .int .i64 t266, .int .i64 t267, .int .i64 0, .int .i64 0, .int .i64 0, .int .i64 0, .int .i64 0, .int .i64 0, .int .i64 0]) ?_ 9 _ rfl; (with_reducible repeat (first | refine blk_drewN ?_ _ | refine blk_drew ?_ | refine blk_alloc ?_ _)); refine blk_put (cs := #[.int .i64 t259, .int .i64 t260, .int .i64 t261, .int .i64 t262, .int .i64 t263, .int .i64 t264, .int .i64 t265, .int .i64 t266, .int .i64 0, .int .i64 0, .int .i64 0, .int .i64 0, .int .i64 0, .int .i64 0, .int .i64 0, .int .i64 0]) ?_ 8 _ rfl; (with_reducible repeat (first | refine blk_drewN ?_ _ | refine blk_drew ?_ | refine blk_alloc ?_ _)); refine blk_put (cs := #[.int .i64 t259, .int .i64 t260, .int .i64 t261, .int .i64 t262, .int .i64 t263, .int .i64 t264, .int .i64 t265, .int .i64 0, .int .i64 0, .int .i64 0, .int .i64 0, .int .i64 0, .int .i64 0, .int .i64 0, .int .i64 0, .int .i64 0]) ?_ 7 _ rfl; (with_reducible repeat (first | refine blk_drewN ?_ _ | refine blk_drew ?_ | refine blk_alloc ?_ _)); refine blk_put (cs := #[.int .i64 t259, .int .i64 t260, .int .i64 t261, .int .i64 t262, .int .i64 t263, .int .i64 t264, .int .i64 0, .int .i64 0, .int .i64 0, .int .i64 0, .int .i64 0, .int .i64 0, .int .i64 0, .int .i64 0, .int .i64 0, .int .i64 0]) ?_ 6 _ rfl; (with_reducible repeat (first | refine blk_drewN ?_ _ | refine blk_drew ?_ | refine blk_alloc ?_ _)); refine blk_put (cs := #[.int .i64 t259, .int .i64 t260, .int .i64 t261, .int .i64 t262, .int .i64 t263, .int .i64 0, .int .i64 0, .int .i64 0, .int .i64 0, .int .i64 0, .int .i64 0, .int .i64 0, .int .i64 0, .int .i64 0, .int .i64 0, .int .i64 0]) ?_ 5 _ rfl; (with_reducible repeat (first | refine blk_drewN ?_ _ | refine blk_drew ?_ | refine blk_alloc ?_ _)); refine blk_put (cs := #[.int .i64 t259, .int .i64 t260, .int .i64 t261, .int .i64 t262, .int .i64 0, .int .i64 0, .int .i64 0, .int .i64 0, .int .i64 0, .int .i64 0, .int .i64 0, .int .i64 0, .int .i64 0, .int .i64 0, .int .i64 0, .int .i64 0]) ?_ 4 _ rfl; (with_reducible repeat (first | refine blk_drewN ?_ _ | refine blk_drew ?_ | refine blk_alloc ?_ _)); refine blk_put (cs := #[.int .i64 t259, .int .i64 t260, .int .i64 t261, .int .i64 0, .int .i64 0, .int .i64 0, .int .i64 0, .int .i64 0, .int .i64 0, .int .i64 0, .int .i64 0, .int .i64 0, .int .i64 0, .int .i64 0, .int .i64 0, .int .i64 0]) ?_ 3 _ rfl; (with_reducible repeat (first | refine blk_drewN ?_ _ | refine blk_drew ?_ | refine blk_alloc ?_ _)); refine blk_put (cs := #[.int .i64 t259, .int .i64 t260, .int .i64 0, .int .i64 0, .int .i64 0, .int .i64 0, .int .i64 0, .int .i64 0, .int .i64 0, .int .i64 0, .int .i64 0, .int .i64 0, .int .i64 0, .int .i64 0, .int .i64 0, .int .i64 0]) ?_ 2 _ rfl; (with_reducible repeat (first | refine blk_drewN ?_ _ | refine blk_drew ?_ | refine blk_alloc ?_ _)); refine blk_put (cs := #[.int .i64 t259, .int .i64 0, .int .i64 0, .int .i64 0, .int .i64 0, .int .i64 0, .int .i64 0, .int .i64 0, .int .i64 0, .int .i64 0, .int .i64 0, .int .i64 0, .int .i64 0, .int .i64 0, .int .i64 0, .int .i64 0]) ?_ 1 _ rfl; (with_reducible repeat (first | refine blk_drewN ?_ _ | refine blk_drew ?_ | refine blk_alloc ?_ _)); refine blk_put (cs := #[.int .i64 0, .int .i64 0, .int .i64 0, .int .i64 0, .int .i64 0, .int .i64 0, .int .i64 0, .int .i64 0, .int .i64 0, .int .i64 0, .int .i64 0, .int .i64 0, .int .i64 0, .int .i64 0, .int .i64 0, .int .i64 0]) ?_ 0 _ rfl; (with_reducible repeat (first | refine blk_drewN ?_ _ | refine blk_drew ?_ | refine blk_alloc ?_ _)); exact BK276.out))⟩; have n1_ : Aside0 (Below w.heap.size w w11) := ⟨(by rw [hw]; exact (by repeat (first | (with_reducible first | exact HB.out | apply below_alloc | apply pw_below_drewN | apply below_drew1 | refine below_set ?_ GE276.out) | exact HB.out)))⟩; clear hw; clear BK276; clear HB; have BK276 := n0_; have HB := n1_; clear n0_ n1_) | (go_at_call 16; (with_reducible refine (watchwordlaw0_Num.calls t275 t277 _ A5.out).mono ?_); rintro e w' ⟨rfl, ⟨nd, rfl⟩⟩; (try first | exact ⟨rfl, _, World.drewN_drewN _ _ _⟩ | exact ⟨rfl, _, Eq.trans (World.drewN_drewN _ _ _) (congrArg (World.drewN _) (Nat.add_assoc _ _ _))⟩))))
   go_loopg [5] k (fun kq v5 w' => ∃ (x5_1 : Int), v5 = .int .i64 x5_1 ∧ Aside0 (watchwordlaw20_GraphBoth.l0 kq l0 x5_1 t259 t260 t261 t262 t263 t264 t265 t266 t267 t268 t269 t270 t271 t272 t273 t274 = some r) ∧ Aside0 (kq ≤ k) ∧ Aside0 (w'.heap[gb276]? = some (.cells #[.int .i64 t259, .int .i64 t260, .int .i64 t261, .int .i64 t262, .int .i64 t263, .int .i64 t264, .int .i64 t265, .int .i64 t266, .int .i64 t267, .int .i64 t268, .int .i64 t269, .int .i64 t270, .int .i64 t271, .int .i64 t272, .int .i64 t273, .int .i64 t274] 23 (0, 0))) ∧ Aside0 (Below w.heap.size w w'))
   case atStart => exact ⟨(0), (by first | rfl | (simp; done) | (simp [*]; done)), H', ⟨Nat.le_refl _⟩, ⟨by (with_reducible repeat (first | refine blk_drewN ?_ _ | refine blk_drew ?_ | refine blk_alloc ?_ _)); exact BK276.out⟩, ⟨by repeat (first | (with_reducible first | exact HB.out | apply below_alloc | apply pw_below_drewN | apply below_drew1 | refine below_set ?_ GE276.out) | exact HB.out)⟩⟩
   case round =>
    clear H'
    try clear p2
    try clear c3
    try clear c6
    try clear c6b0
    try clear c6b1
    try clear c9
    try clear hcz10_0
    try clear hcz10_1
    try clear hcz10_10
    try clear hcz10_11
    try clear hcz10_12
    try clear hcz10_13
    try clear hcz10_14
    try clear hcz10_15
    try clear hcz10_2
    try clear hcz10_3
    try clear hcz10_4
    try clear hcz10_5
    try clear hcz10_6
    try clear hcz10_7
    try clear hcz10_8
    try clear hcz10_9
    try clear hfz10_0
    try clear hfz10_1
    try clear hfz10_10
    try clear hfz10_11
    try clear hfz10_12
    try clear hfz10_13
    try clear hfz10_14
    try clear hfz10_15
    try clear hfz10_2
    try clear hfz10_3
    try clear hfz10_4
    try clear hfz10_5
    try clear hfz10_6
    try clear hfz10_7
    try clear hfz10_8
    try clear hfz10_9
    obtain ⟨x5_1, rfl, HA, HK1, BK276, HB⟩ := hrel
    cases gk with
    | zero => exact absurd HA.out (by simp [watchwordlaw20_GraphBoth.l0])
    | succ k1 =>
     have H := HA.out
     clear HA
     simp only [watchwordlaw20_GraphBoth.l0] at H
     by_cases c12 : x5_1 < 4
     ·rw [if_pos c12] at H
      have c12b0 : decide (x5_1 < 4) = true := decide_eq_true c12
      clear c12
      have H' := Aside0.mk H
      clear H
      go_wp2
      repeat (go_quiet (fail); try go_wp2)
      go_loopg [6] k1 (fun kq v6 w' => ∃ (x6_2 : Int), v6 = .int .i64 x6_2 ∧ Aside0 (watchwordlaw20_GraphBoth.l1 kq l0 x5_1 x6_2 t259 t260 t261 t262 t263 t264 t265 t266 t267 t268 t269 t270 t271 t272 t273 t274 = some r) ∧ Aside0 (kq ≤ k1) ∧ Aside0 (w'.heap[gb276]? = some (.cells #[.int .i64 t259, .int .i64 t260, .int .i64 t261, .int .i64 t262, .int .i64 t263, .int .i64 t264, .int .i64 t265, .int .i64 t266, .int .i64 t267, .int .i64 t268, .int .i64 t269, .int .i64 t270, .int .i64 t271, .int .i64 t272, .int .i64 t273, .int .i64 t274] 23 (0, 0))) ∧ Aside0 (Below w.heap.size w w'))
      case atStart => exact ⟨(0), (by first | rfl | (simp; done) | (simp [*]; done)), H', ⟨Nat.le_refl _⟩, ⟨by (with_reducible repeat (first | refine blk_drewN ?_ _ | refine blk_drew ?_ | refine blk_alloc ?_ _)); exact BK276.out⟩, ⟨by repeat (first | (with_reducible first | exact HB.out | apply below_alloc | apply pw_below_drewN | apply below_drew1 | refine below_set ?_ GE276.out) | exact HB.out)⟩⟩
      case round =>
       clear H'
       try clear c1
       try clear p2
       try clear c3
       try clear c6
       try clear c6b0
       try clear c6b1
       try clear c9
       try clear c12
       try clear c12b0
       try clear hcz10_0
       try clear hcz10_1
       try clear hcz10_10
       try clear hcz10_11
       try clear hcz10_12
       try clear hcz10_13
       try clear hcz10_14
       try clear hcz10_15
       try clear hcz10_2
       try clear hcz10_3
       try clear hcz10_4
       try clear hcz10_5
       try clear hcz10_6
       try clear hcz10_7
       try clear hcz10_8
       try clear hcz10_9
       try clear hfz10_0
       try clear hfz10_1
       try clear hfz10_10
       try clear hfz10_11
       try clear hfz10_12
       try clear hfz10_13
       try clear hfz10_14
       try clear hfz10_15
       try clear hfz10_2
       try clear hfz10_3
       try clear hfz10_4
       try clear hfz10_5
       try clear hfz10_6
       try clear hfz10_7
       try clear hfz10_8
       try clear hfz10_9
       try clear p2
       obtain ⟨x6_2, rfl, HA, HK2, BK276, HB⟩ := hrel
       cases gk with
       | zero => exact absurd HA.out (by simp [watchwordlaw20_GraphBoth.l1])
       | succ k2 =>
        have H := HA.out
        clear HA
        simp only [watchwordlaw20_GraphBoth.l1] at H
        by_cases c13 : x6_2 < 4
        ·rw [if_pos c13] at H
         have c13b0 : decide (x6_2 < 4) = true := decide_eq_true c13
         clear c13
         by_cases c14 : 0 ≤ x5_1
         ·rw [if_pos c14] at H
          have c14b0 : decide (0 ≤ x5_1) = true := decide_eq_true c14
          clear c14
          by_cases c15 : x5_1 < 4
          ·rw [if_pos c15] at H
           have c15b0 : decide (x5_1 < 4) = true := decide_eq_true c15
           clear c15
           by_cases c16 : 0 ≤ x6_2
           ·rw [if_pos c16] at H
            have c16b0 : decide (0 ≤ x6_2) = true := decide_eq_true c16
            clear c16
            by_cases c17 : ((decide ((ix4 (ix4 t259 t260 t261 t262 x6_2) (ix4 t263 t264 t265 t266 x6_2) (ix4 t267 t268 t269 t270 x6_2) (ix4 t271 t272 t273 t274 x6_2) x5_1) > 0)) != (decide ((ix4 (ix4 t259 t260 t261 t262 x5_1) (ix4 t263 t264 t265 t266 x5_1) (ix4 t267 t268 t269 t270 x5_1) (ix4 t271 t272 t273 t274 x5_1) x6_2) > 0))) = true
            ·rw [if_pos c17] at H
             have c17b0 : ((decide ((ix4 (ix4 t259 t260 t261 t262 x6_2) (ix4 t263 t264 t265 t266 x6_2) (ix4 t267 t268 t269 t270 x6_2) (ix4 t271 t272 t273 t274 x6_2) x5_1) > 0)) != (decide ((ix4 (ix4 t259 t260 t261 t262 x5_1) (ix4 t263 t264 t265 t266 x5_1) (ix4 t267 t268 t269 t270 x5_1) (ix4 t271 t272 t273 t274 x5_1) x6_2) > 0))) = true := c17
             (try (have c17b1 : decide ((decide ((ix4 (ix4 t259 t260 t261 t262 x6_2) (ix4 t263 t264 t265 t266 x6_2) (ix4 t267 t268 t269 t270 x6_2) (ix4 t271 t272 t273 t274 x6_2) x5_1) > 0)) = (decide ((ix4 (ix4 t259 t260 t261 t262 x5_1) (ix4 t263 t264 t265 t266 x5_1) (ix4 t267 t268 t269 t270 x5_1) (ix4 t271 t272 t273 t274 x5_1) x6_2) > 0))) = false := by simpa using c17))
             (try (have c17b2 : ((decide ((ix4 (ix4 t259 t260 t261 t262 x6_2) (ix4 t263 t264 t265 t266 x6_2) (ix4 t267 t268 t269 t270 x6_2) (ix4 t271 t272 t273 t274 x6_2) x5_1) > 0)) == (decide ((ix4 (ix4 t259 t260 t261 t262 x5_1) (ix4 t263 t264 t265 t266 x5_1) (ix4 t267 t268 t269 t270 x5_1) (ix4 t271 t272 t273 t274 x5_1) x6_2) > 0))) = false := by simpa using c17))
             (try (have c17b3 : ¬ ((decide ((ix4 (ix4 t259 t260 t261 t262 x6_2) (ix4 t263 t264 t265 t266 x6_2) (ix4 t267 t268 t269 t270 x6_2) (ix4 t271 t272 t273 t274 x6_2) x5_1) > 0)) = (decide ((ix4 (ix4 t259 t260 t261 t262 x5_1) (ix4 t263 t264 t265 t266 x5_1) (ix4 t267 t268 t269 t270 x5_1) (ix4 t271 t272 t273 t274 x5_1) x6_2) > 0))) := by simpa using c17))
             clear c17
             exact absurd (Option.some.inj H) (by rw [HT.out]; decide)
            ·rw [if_neg c17] at H
             have c17b0 : ((decide ((ix4 (ix4 t259 t260 t261 t262 x6_2) (ix4 t263 t264 t265 t266 x6_2) (ix4 t267 t268 t269 t270 x6_2) (ix4 t271 t272 t273 t274 x6_2) x5_1) > 0)) != (decide ((ix4 (ix4 t259 t260 t261 t262 x5_1) (ix4 t263 t264 t265 t266 x5_1) (ix4 t267 t268 t269 t270 x5_1) (ix4 t271 t272 t273 t274 x5_1) x6_2) > 0))) = false := by simpa using c17
             (try (have c17b1 : decide ((decide ((ix4 (ix4 t259 t260 t261 t262 x6_2) (ix4 t263 t264 t265 t266 x6_2) (ix4 t267 t268 t269 t270 x6_2) (ix4 t271 t272 t273 t274 x6_2) x5_1) > 0)) = (decide ((ix4 (ix4 t259 t260 t261 t262 x5_1) (ix4 t263 t264 t265 t266 x5_1) (ix4 t267 t268 t269 t270 x5_1) (ix4 t271 t272 t273 t274 x5_1) x6_2) > 0))) = true := by simpa using c17))
             (try (have c17b2 : ((decide ((ix4 (ix4 t259 t260 t261 t262 x6_2) (ix4 t263 t264 t265 t266 x6_2) (ix4 t267 t268 t269 t270 x6_2) (ix4 t271 t272 t273 t274 x6_2) x5_1) > 0)) == (decide ((ix4 (ix4 t259 t260 t261 t262 x5_1) (ix4 t263 t264 t265 t266 x5_1) (ix4 t267 t268 t269 t270 x5_1) (ix4 t271 t272 t273 t274 x5_1) x6_2) > 0))) = true := by simpa using c17))
             clear c17
             have H' := Aside0.mk H
             clear H
             have p18 : (0 ≤ (x5_1 : Int)) = True := eq_true (of_decide_eq_true (by first | (with_reducible assumption) | assumption))
             have q18 : ((x5_1 : Int) < 4) = True := eq_true (of_decide_eq_true (by first | (with_reducible assumption) | assumption))
             have p19 : (0 ≤ (x6_2 : Int)) = True := eq_true (of_decide_eq_true (by first | (with_reducible assumption) | assumption))
             have q19 : ((x6_2 : Int) < 4) = True := eq_true (of_decide_eq_true (by first | (with_reducible assumption) | assumption))
             have hx20_0 : wr.cell? ⟨gb276, x5_1.toNat * 4 + x6_2.toNat, none⟩ = some (.int .i64 (ix4 (ix4 t259 t260 t261 t262 x6_2) (ix4 t263 t264 t265 t266 x6_2) (ix4 t267 t268 t269 t270 x6_2) (ix4 t271 t272 t273 t274 x6_2) x5_1)) := (blk_cell BK276.out (x5_1.toNat * 4 + x6_2.toNat)).trans (ix_44 (Value.int .i64) _ _ _ _ _ _ _ _ _ _ _ _ _ _ _ _ x5_1 x6_2  (of_decide_eq_true (by first | (with_reducible assumption) | assumption)) (of_decide_eq_true (by first | (with_reducible assumption) | assumption))  (of_decide_eq_true (by first | (with_reducible assumption) | assumption)) (of_decide_eq_true (by first | (with_reducible assumption) | assumption)))
             have p21 : (0 ≤ (x6_2 : Int)) = True := eq_true (of_decide_eq_true (by first | (with_reducible assumption) | assumption))
             have q21 : ((x6_2 : Int) < 4) = True := eq_true (of_decide_eq_true (by first | (with_reducible assumption) | assumption))
             have p22 : (0 ≤ (x5_1 : Int)) = True := eq_true (of_decide_eq_true (by first | (with_reducible assumption) | assumption))
             have q22 : ((x5_1 : Int) < 4) = True := eq_true (of_decide_eq_true (by first | (with_reducible assumption) | assumption))
             have hx23_0 : wr.cell? ⟨gb276, x6_2.toNat * 4 + x5_1.toNat, none⟩ = some (.int .i64 (ix4 (ix4 t259 t260 t261 t262 x5_1) (ix4 t263 t264 t265 t266 x5_1) (ix4 t267 t268 t269 t270 x5_1) (ix4 t271 t272 t273 t274 x5_1) x6_2)) := (blk_cell BK276.out (x6_2.toNat * 4 + x5_1.toNat)).trans (ix_44 (Value.int .i64) _ _ _ _ _ _ _ _ _ _ _ _ _ _ _ _ x6_2 x5_1  (of_decide_eq_true (by first | (with_reducible assumption) | assumption)) (of_decide_eq_true (by first | (with_reducible assumption) | assumption))  (of_decide_eq_true (by first | (with_reducible assumption) | assumption)) (of_decide_eq_true (by first | (with_reducible assumption) | assumption)))
             go_wp2
             repeat (go_quiet (fail); try go_wp2)
             go_roundg k2
             case measure => have := HK1.out; have := HK2.out; omega
             case rel => exact ⟨(wrap64 (x6_2 + 1)), (by first | rfl | (simp; done) | (simp [*]; done)), H', ⟨by have := HK1.out; have := HK2.out; omega⟩, ⟨by (with_reducible repeat (first | refine blk_drewN ?_ _ | refine blk_drew ?_ | refine blk_alloc ?_ _)); exact BK276.out⟩, ⟨by repeat (first | (with_reducible first | exact HB.out | apply below_alloc | apply pw_below_drewN | apply below_drew1 | refine below_set ?_ GE276.out) | exact HB.out)⟩⟩
           ·rw [if_neg c16] at H
            exact absurd H (by simp)
          ·rw [if_neg c15] at H
           exact absurd H (by simp)
         ·rw [if_neg c14] at H
          exact absurd H (by simp)
        ·rw [if_neg c13] at H
         have c13b0 : decide (x6_2 < 4) = false := decide_eq_false c13
         clear c13
         have H' := Aside0.mk H
         clear H
         go_wp2
         repeat (go_quiet (fail); try go_wp2)
         go_roundg k2
         case measure => have := HK1.out; have := HK2.out; omega
         case rel => exact ⟨(wrap64 (x5_1 + 1)), (by first | rfl | (simp; done) | (simp [*]; done)), H', ⟨by have := HK1.out; have := HK2.out; omega⟩, ⟨by (with_reducible repeat (first | refine blk_drewN ?_ _ | refine blk_drew ?_ | refine blk_alloc ?_ _)); exact BK276.out⟩, ⟨by repeat (first | (with_reducible first | exact HB.out | apply below_alloc | apply pw_below_drewN | apply below_drew1 | refine below_set ?_ GE276.out) | exact HB.out)⟩⟩
     ·rw [if_neg c12] at H
      have c12b0 : decide (x5_1 < 4) = false := decide_eq_false c12
      clear c12
      have H' := Aside0.mk H
      clear H
      go_wp2
      repeat (go_quiet (fail); try go_wp2)
      go_loopg [7] k1 (fun kq v7 w' => ∃ (x7_2 : Int), v7 = .int .i64 x7_2 ∧ Aside0 (watchwordlaw20_GraphBoth.l2 kq l0 x7_2 t259 t260 t261 t262 t263 t264 t265 t266 t267 t268 t269 t270 t271 t272 t273 t274 = some r) ∧ Aside0 (kq ≤ k1) ∧ Aside0 (w'.heap[gb276]? = some (.cells #[.int .i64 t259, .int .i64 t260, .int .i64 t261, .int .i64 t262, .int .i64 t263, .int .i64 t264, .int .i64 t265, .int .i64 t266, .int .i64 t267, .int .i64 t268, .int .i64 t269, .int .i64 t270, .int .i64 t271, .int .i64 t272, .int .i64 t273, .int .i64 t274] 23 (0, 0))) ∧ Aside0 (Below w.heap.size w w'))
      case atStart => exact ⟨(0), (by first | rfl | (simp; done) | (simp [*]; done)), H', ⟨Nat.le_refl _⟩, ⟨by (with_reducible repeat (first | refine blk_drewN ?_ _ | refine blk_drew ?_ | refine blk_alloc ?_ _)); exact BK276.out⟩, ⟨by repeat (first | (with_reducible first | exact HB.out | apply below_alloc | apply pw_below_drewN | apply below_drew1 | refine below_set ?_ GE276.out) | exact HB.out)⟩⟩
      case round =>
       clear H'
       try clear c1
       try clear p1
       try clear q1
       try clear p2
       try clear q2
       try clear hx2
       try clear c3
       try clear c6
       try clear c6b0
       try clear c6b1
       try clear p6
       try clear c9
       try clear c12
       try clear c12b0
       try clear c13
       try clear c13b0
       try clear c14
       try clear c14b0
       try clear c15
       try clear c15b0
       try clear c16
       try clear c16b0
       try clear c17
       try clear c17b0
       try clear c17b1
       try clear c17b2
       try clear p18
       try clear q18
       try clear p19
       try clear q19
       try clear hx20
       try clear p21
       try clear q21
       try clear p22
       try clear q22
       try clear hx23
       try clear hcz10_0
       try clear hcz10_1
       try clear hcz10_10
       try clear hcz10_11
       try clear hcz10_12
       try clear hcz10_13
       try clear hcz10_14
       try clear hcz10_15
       try clear hcz10_2
       try clear hcz10_3
       try clear hcz10_4
       try clear hcz10_5
       try clear hcz10_6
       try clear hcz10_7
       try clear hcz10_8
       try clear hcz10_9
       try clear hfz10_0
       try clear hfz10_1
       try clear hfz10_10
       try clear hfz10_11
       try clear hfz10_12
       try clear hfz10_13
       try clear hfz10_14
       try clear hfz10_15
       try clear hfz10_2
       try clear hfz10_3
       try clear hfz10_4
       try clear hfz10_5
       try clear hfz10_6
       try clear hfz10_7
       try clear hfz10_8
       try clear hfz10_9
       try clear hx20_0
       try clear hx23_0
       try clear p18
       try clear p19
       try clear p2
       try clear p21
       try clear p22
       try clear q18
       try clear q19
       try clear q21
       try clear q22
       obtain ⟨x7_2, rfl, HA, HK2, BK276, HB⟩ := hrel
       cases gk with
       | zero => exact absurd HA.out (by simp [watchwordlaw20_GraphBoth.l2])
       | succ k2 =>
        have H := HA.out
        clear HA
        simp only [watchwordlaw20_GraphBoth.l2] at H
        by_cases c24 : x7_2 < (l0.length : Int)
        ·rw [if_pos c24] at H
         have c24b0 : decide (x7_2 < (l0.length : Int)) = true := decide_eq_true c24
         clear c24
         have H' := Aside0.mk H
         clear H
         go_wp2
         repeat (go_quiet (fail); try go_wp2)
         go_loopg [8] k2 (fun kq v8 w' => ∃ (x8_3 : Int), v8 = .int .i64 x8_3 ∧ Aside0 (watchwordlaw20_GraphBoth.l3 kq l0 x7_2 x8_3 t259 t260 t261 t262 t263 t264 t265 t266 t267 t268 t269 t270 t271 t272 t273 t274 = some r) ∧ Aside0 (kq ≤ k2) ∧ Aside0 (w'.heap[gb276]? = some (.cells #[.int .i64 t259, .int .i64 t260, .int .i64 t261, .int .i64 t262, .int .i64 t263, .int .i64 t264, .int .i64 t265, .int .i64 t266, .int .i64 t267, .int .i64 t268, .int .i64 t269, .int .i64 t270, .int .i64 t271, .int .i64 t272, .int .i64 t273, .int .i64 t274] 23 (0, 0))) ∧ Aside0 (Below w.heap.size w w'))
         case atStart => exact ⟨(0), (by first | rfl | (simp; done) | (simp [*]; done)), H', ⟨Nat.le_refl _⟩, ⟨by (with_reducible repeat (first | refine blk_drewN ?_ _ | refine blk_drew ?_ | refine blk_alloc ?_ _)); exact BK276.out⟩, ⟨by repeat (first | (with_reducible first | exact HB.out | apply below_alloc | apply pw_below_drewN | apply below_drew1 | refine below_set ?_ GE276.out) | exact HB.out)⟩⟩
         case round =>
          clear H'
          try clear c1
          try clear p1
          try clear q1
          try clear c2
          try clear p2
          try clear q2
          try clear hx2
          try clear c3
          try clear c6
          try clear c6b0
          try clear c6b1
          try clear p6
          try clear c9
          try clear c12
          try clear c12b0
          try clear c13
          try clear c13b0
          try clear c14
          try clear c14b0
          try clear c15
          try clear c15b0
          try clear c16
          try clear c16b0
          try clear c17
          try clear c17b0
          try clear c17b1
          try clear c17b2
          try clear p18
          try clear q18
          try clear p19
          try clear q19
          try clear hx20
          try clear p21
          try clear q21
          try clear p22
          try clear q22
          try clear hx23
          try clear c24
          try clear c24b0
          try clear hcz10_0
          try clear hcz10_1
          try clear hcz10_10
          try clear hcz10_11
          try clear hcz10_12
          try clear hcz10_13
          try clear hcz10_14
          try clear hcz10_15
          try clear hcz10_2
          try clear hcz10_3
          try clear hcz10_4
          try clear hcz10_5
          try clear hcz10_6
          try clear hcz10_7
          try clear hcz10_8
          try clear hcz10_9
          try clear hfz10_0
          try clear hfz10_1
          try clear hfz10_10
          try clear hfz10_11
          try clear hfz10_12
          try clear hfz10_13
          try clear hfz10_14
          try clear hfz10_15
          try clear hfz10_2
          try clear hfz10_3
          try clear hfz10_4
          try clear hfz10_5
          try clear hfz10_6
          try clear hfz10_7
          try clear hfz10_8
          try clear hfz10_9
          try clear hx20_0
          try clear hx23_0
          try clear p1
          try clear p18
          try clear p19
          try clear p2
          try clear p21
          try clear p22
          try clear p6
          try clear q1
          try clear q18
          try clear q19
          try clear q2
          try clear q21
          try clear q22
          obtain ⟨x8_3, rfl, HA, HK3, BK276, HB⟩ := hrel
          cases gk with
          | zero => exact absurd HA.out (by simp [watchwordlaw20_GraphBoth.l3])
          | succ k3 =>
           have H := HA.out
           clear HA
           simp only [watchwordlaw20_GraphBoth.l3] at H
           by_cases c25 : 0 ≤ x7_2
           ·rw [if_pos c25] at H
            have c25b0 : decide (0 ≤ x7_2) = true := decide_eq_true c25
            clear c25
            by_cases c26 : x7_2 < (l0.length : Int)
            ·rw [if_pos c26] at H
             have c26b0 : decide (x7_2 < (l0.length : Int)) = true := decide_eq_true c26
             clear c26
             by_cases c27 : x8_3 < (((rd_T57 l0 x7_2).f3).length : Int)
             ·rw [if_pos c27] at H
              have c27b0 : decide (x8_3 < (((rd_T57 l0 x7_2).f3).length : Int)) = true := decide_eq_true c27
              clear c27
              by_cases c28 : 0 ≤ x8_3
              ·rw [if_pos c28] at H
               have c28b0 : decide (0 ≤ x8_3) = true := decide_eq_true c28
               clear c28
               have HC29 := Aside0.mk H
               clear H
               have p279 : 0 ≤ (x7_2 : Int) := of_decide_eq_true (by first | (with_reducible assumption) | assumption)
               have q279 : x7_2 < (l0.length : Int) := of_decide_eq_true (by first | (with_reducible assumption) | assumption)
               obtain ⟨ad279, A279_3, c279_3, e279, hx279_0, hx279_1, hx279_2, hx279_3, hl279_3, hi279_3⟩ := at_T57 HR0.out x7_2 p279 q279
               cases e279
               replace hx279_0 := (HB.out.cell (World.block_lt_of_cell? w _ hx279_0)).trans hx279_0
               replace hx279_1 := (HB.out.cell (World.block_lt_of_cell? w _ hx279_1)).trans hx279_1
               replace hx279_2 := (HB.out.cell (World.block_lt_of_cell? w _ hx279_2)).trans hx279_2
               replace hx279_3 := (HB.out.cell (World.block_lt_of_cell? w _ hx279_3)).trans hx279_3
               have HR279_3 := Aside0.mk hi279_3
               have HC279_3 := Aside0.mk hl279_3
               clear hi279_3 hl279_3
               replace p279 := eq_true p279
               replace q279 := eq_true q279
               have p280 : 0 ≤ (x7_2 : Int) := of_decide_eq_true (by first | (with_reducible assumption) | assumption)
               have q280 : x7_2 < (l0.length : Int) := of_decide_eq_true (by first | (with_reducible assumption) | assumption)
               obtain ⟨ad280, A280_3, c280_3, e280, hx280_0, hx280_1, hx280_2, hx280_3, hl280_3, hi280_3⟩ := at_T57 HR0.out x7_2 p280 q280
               obtain rfl : ad279 = ad280 := (by injection e280)
               replace hx280_0 := (HB.out.cell (World.block_lt_of_cell? w _ hx280_0)).trans hx280_0
               replace hx280_1 := (HB.out.cell (World.block_lt_of_cell? w _ hx280_1)).trans hx280_1
               replace hx280_2 := (HB.out.cell (World.block_lt_of_cell? w _ hx280_2)).trans hx280_2
               replace hx280_3 := (HB.out.cell (World.block_lt_of_cell? w _ hx280_3)).trans hx280_3
               have HR280_3 := Aside0.mk hi280_3
               have HC280_3 := Aside0.mk hl280_3
               clear hi280_3 hl280_3
               replace p280 := eq_true p280
               replace q280 := eq_true q280
               have ea_ := Option.some.inj (hx279_3.symm.trans hx280_3)
               injection ea_ with ea_ en_ ec_
               subst ea_
               subst ec_
               clear en_
               have p281 : 0 ≤ (x8_3 : Int) := of_decide_eq_true (by first | (with_reducible assumption) | assumption)
               have q281 : x8_3 < (((rd_T57 l0 x7_2).f3).length : Int) := of_decide_eq_true (by first | (with_reducible assumption) | assumption)
               obtain ⟨ad281, e281, hx281_0, hx281_1⟩ := at_T59 HR280_3.out x8_3 p281 q281
               cases e281
               replace hx281_0 := (HB.out.cell (World.block_lt_of_cell? w _ hx281_0)).trans hx281_0
               replace hx281_1 := (HB.out.cell (World.block_lt_of_cell? w _ hx281_1)).trans hx281_1
               replace p281 := eq_true p281
               replace q281 := eq_true q281
               go_upto_region 21 with (first | ((with_reducible refine gate_dst (N := 9) rfl ?_); refine box_event ?hg (N := 9) ?hd (cs := #[.int .i64 0, .int .i64 0]) (t := 59) ?hr ?_; (case hd => rfl); (case hg => rfl); (case hr => first | (go_simp; done) | (go_simp; rfl)); intro gb282 hg w30 hbox hb; have n0_ := Aside0.mk (blk_below (g := gb276) (o := .cells #[.int .i64 t259, .int .i64 t260, .int .i64 t261, .int .i64 t262, .int .i64 t263, .int .i64 t264, .int .i64 t265, .int .i64 t266, .int .i64 t267, .int .i64 t268, .int .i64 t269, .int .i64 t270, .int .i64 t271, .int .i64 t272, .int .i64 t273, .int .i64 t274] 23 (0, 0)) (by (with_reducible repeat (first | refine blk_drewN ?_ _ | refine blk_drew ?_ | refine blk_alloc ?_ _)); exact BK276.out) hb); have n1_ := Aside0.mk (below_step (by repeat (first | (with_reducible first | exact HB.out | apply below_alloc | apply pw_below_drewN | apply below_drew1 | refine below_set ?_ GE276.out) | exact HB.out)) hb); have n2_ := Aside0.mk (hbox); have n3_ := Aside0.mk ((by rw [hg]; exact (below_size (by repeat (first | (with_reducible first | exact HB.out | apply below_alloc | apply pw_below_drewN | apply below_drew1 | refine below_set ?_ GE276.out) | exact HB.out))) : w.heap.size ≤ gb282)); have n4_ := Aside0.mk ((by rw [hg]; exact (below_size (by repeat (first | (with_reducible first | exact HB.out | apply below_alloc | apply pw_below_drewN | apply below_drew1 | refine below_set ?_ GE276.out) | exact HB.out))) : w.heap.size ≤ gb282)); have n5_ := Aside0.mk ((by rw [hg]; exact Nat.ne_of_lt (blk_lt (g := gb276) (o := .cells #[.int .i64 t259, .int .i64 t260, .int .i64 t261, .int .i64 t262, .int .i64 t263, .int .i64 t264, .int .i64 t265, .int .i64 t266, .int .i64 t267, .int .i64 t268, .int .i64 t269, .int .i64 t270, .int .i64 t271, .int .i64 t272, .int .i64 t273, .int .i64 t274] 23 (0, 0)) (by (with_reducible repeat (first | refine blk_drewN ?_ _ | refine blk_drew ?_ | refine blk_alloc ?_ _)); exact BK276.out)) : gb276 ≠ gb282)); have n6_ := Aside0.mk ((by rw [hg]; exact Nat.ne_of_gt (blk_lt (g := gb276) (o := .cells #[.int .i64 t259, .int .i64 t260, .int .i64 t261, .int .i64 t262, .int .i64 t263, .int .i64 t264, .int .i64 t265, .int .i64 t266, .int .i64 t267, .int .i64 t268, .int .i64 t269, .int .i64 t270, .int .i64 t271, .int .i64 t272, .int .i64 t273, .int .i64 t274] 23 (0, 0)) (by (with_reducible repeat (first | refine blk_drewN ?_ _ | refine blk_drew ?_ | refine blk_alloc ?_ _)); exact BK276.out)) : gb282 ≠ gb276)); clear BK276; clear HB; have BK276 := n0_; have HB := n1_; have BK282 := n2_; have GW282 := n3_; have GE282 := n4_; have NB276_282 := n5_; have NB282_276 := n6_; clear n0_ n1_ n2_ n3_ n4_ n5_ n6_; clear hb hbox hg; have hnb31 := NB282_276.out; have hnc31 := NB276_282.out; have hcz32_0 : w30.cell? ⟨gb282, 0, none⟩ = some (.int .i64 0) := (blk_cell BK282.out 0).trans rfl; have hcz32_1 : w30.cell? ⟨gb282, 1, none⟩ = some (.int .i64 0) := (blk_cell BK282.out 1).trans rfl; have hfz32_0 := blk_frozen BK282.out 0; have hfz32_1 := blk_frozen BK282.out 1) | ((with_reducible refine gate_store (t := 59) (p := 9) rfl ?_); (try (rw [drewN_self w30]; generalize hq_ : World.drewN w30 _ = w30; have n0_ := Aside0.mk (blk_at hq_ BK276.out); have n1_ := Aside0.mk (blk_at hq_ BK282.out); have n2_ := Aside0.mk (below_at hq_ HB.out); clear hq_ BK276 BK282 HB; have BK276 := n0_; have BK282 := n1_; have HB := n2_; clear n0_ n1_ n2_)); refine store_event (t := 59) (p := 9) (v := ?vo_w33) (w1 := ((w30.setCell ⟨gb282, 0, none⟩ (.int .i64 ((rd_T59 ((rd_T57 l0 x7_2).f3) x8_3).f0))).setCell ⟨gb282, 1, none⟩ (.int .i64 ((rd_T59 ((rd_T57 l0 x7_2).f3) x8_3).f1)))) ?hg ?ho ?hn ?hr ?_; (case ho => rfl); (case hg => rfl); (case hn => rfl); (case hr => first | (go_simp; done) | (go_simp; rfl)); intro w33 hw; have n0_ : Aside0 (w33.heap[gb276]? = some (.cells #[.int .i64 t259, .int .i64 t260, .int .i64 t261, .int .i64 t262, .int .i64 t263, .int .i64 t264, .int .i64 t265, .int .i64 t266, .int .i64 t267, .int .i64 t268, .int .i64 t269, .int .i64 t270, .int .i64 t271, .int .i64 t272, .int .i64 t273, .int .i64 t274] 23 (0, 0))) := ⟨(by rw [hw]; exact (by (with_reducible repeat (first | refine blk_drewN ?_ _ | refine blk_drew ?_ | refine blk_alloc ?_ _)); refine blk_far ?_ NB276_282.out _; (with_reducible repeat (first | refine blk_drewN ?_ _ | refine blk_drew ?_ | refine blk_alloc ?_ _)); refine blk_far ?_ NB276_282.out _; (with_reducible repeat (first | refine blk_drewN ?_ _ | refine blk_drew ?_ | refine blk_alloc ?_ _)); exact BK276.out))⟩; have n1_ : Aside0 (w33.heap[gb282]? = some (.cells #[.int .i64 ((rd_T59 ((rd_T57 l0 x7_2).f3) x8_3).f0), .int .i64 ((rd_T59 ((rd_T57 l0 x7_2).f3) x8_3).f1)] 59 (0, 0))) := ⟨(by rw [hw]; exact (by (with_reducible repeat (first | refine blk_drewN ?_ _ | refine blk_drew ?_ | refine blk_alloc ?_ _)); refine blk_put (cs := #[.int .i64 ((rd_T59 ((rd_T57 l0 x7_2).f3) x8_3).f0), .int .i64 0]) ?_ 1 _ rfl; (with_reducible repeat (first | refine blk_drewN ?_ _ | refine blk_drew ?_ | refine blk_alloc ?_ _)); refine blk_put (cs := #[.int .i64 0, .int .i64 0]) ?_ 0 _ rfl; (with_reducible repeat (first | refine blk_drewN ?_ _ | refine blk_drew ?_ | refine blk_alloc ?_ _)); exact BK282.out))⟩; have n2_ : Aside0 (Below w.heap.size w w33) := ⟨(by rw [hw]; exact (by repeat (first | (with_reducible first | exact HB.out | apply below_alloc | apply pw_below_drewN | apply below_drew1 | refine below_set ?_ GE276.out | refine below_set ?_ GE282.out) | exact HB.out)))⟩; clear hw; clear BK276; clear BK282; clear HB; have BK276 := n0_; have BK282 := n1_; have HB := n2_; clear n0_ n1_ n2_))
               repeat (go_quiet (first | ((with_reducible refine gate_dst (N := 9) rfl ?_); refine box_event ?hg (N := 9) ?hd (cs := #[.int .i64 0, .int .i64 0]) (t := 59) ?hr ?_; (case hd => rfl); (case hg => rfl); (case hr => first | (go_simp; done) | (go_simp; rfl)); intro gb282 hg w30 hbox hb; have n0_ := Aside0.mk (blk_below (g := gb276) (o := .cells #[.int .i64 t259, .int .i64 t260, .int .i64 t261, .int .i64 t262, .int .i64 t263, .int .i64 t264, .int .i64 t265, .int .i64 t266, .int .i64 t267, .int .i64 t268, .int .i64 t269, .int .i64 t270, .int .i64 t271, .int .i64 t272, .int .i64 t273, .int .i64 t274] 23 (0, 0)) (by (with_reducible repeat (first | refine blk_drewN ?_ _ | refine blk_drew ?_ | refine blk_alloc ?_ _)); exact BK276.out) hb); have n1_ := Aside0.mk (below_step (by repeat (first | (with_reducible first | exact HB.out | apply below_alloc | apply pw_below_drewN | apply below_drew1 | refine below_set ?_ GE276.out) | exact HB.out)) hb); have n2_ := Aside0.mk (hbox); have n3_ := Aside0.mk ((by rw [hg]; exact (below_size (by repeat (first | (with_reducible first | exact HB.out | apply below_alloc | apply pw_below_drewN | apply below_drew1 | refine below_set ?_ GE276.out) | exact HB.out))) : w.heap.size ≤ gb282)); have n4_ := Aside0.mk ((by rw [hg]; exact (below_size (by repeat (first | (with_reducible first | exact HB.out | apply below_alloc | apply pw_below_drewN | apply below_drew1 | refine below_set ?_ GE276.out) | exact HB.out))) : w.heap.size ≤ gb282)); have n5_ := Aside0.mk ((by rw [hg]; exact Nat.ne_of_lt (blk_lt (g := gb276) (o := .cells #[.int .i64 t259, .int .i64 t260, .int .i64 t261, .int .i64 t262, .int .i64 t263, .int .i64 t264, .int .i64 t265, .int .i64 t266, .int .i64 t267, .int .i64 t268, .int .i64 t269, .int .i64 t270, .int .i64 t271, .int .i64 t272, .int .i64 t273, .int .i64 t274] 23 (0, 0)) (by (with_reducible repeat (first | refine blk_drewN ?_ _ | refine blk_drew ?_ | refine blk_alloc ?_ _)); exact BK276.out)) : gb276 ≠ gb282)); have n6_ := Aside0.mk ((by rw [hg]; exact Nat.ne_of_gt (blk_lt (g := gb276) (o := .cells #[.int .i64 t259, .int .i64 t260, .int .i64 t261, .int .i64 t262, .int .i64 t263, .int .i64 t264, .int .i64 t265, .int .i64 t266, .int .i64 t267, .int .i64 t268, .int .i64 t269, .int .i64 t270, .int .i64 t271, .int .i64 t272, .int .i64 t273, .int .i64 t274] 23 (0, 0)) (by (with_reducible repeat (first | refine blk_drewN ?_ _ | refine blk_drew ?_ | refine blk_alloc ?_ _)); exact BK276.out)) : gb282 ≠ gb276)); clear BK276; clear HB; have BK276 := n0_; have HB := n1_; have BK282 := n2_; have GW282 := n3_; have GE282 := n4_; have NB276_282 := n5_; have NB282_276 := n6_; clear n0_ n1_ n2_ n3_ n4_ n5_ n6_; clear hb hbox hg; have hnb31 := NB282_276.out; have hnc31 := NB276_282.out; have hcz32_0 : w30.cell? ⟨gb282, 0, none⟩ = some (.int .i64 0) := (blk_cell BK282.out 0).trans rfl; have hcz32_1 : w30.cell? ⟨gb282, 1, none⟩ = some (.int .i64 0) := (blk_cell BK282.out 1).trans rfl; have hfz32_0 := blk_frozen BK282.out 0; have hfz32_1 := blk_frozen BK282.out 1) | ((with_reducible refine gate_store (t := 59) (p := 9) rfl ?_); (try (rw [drewN_self w30]; generalize hq_ : World.drewN w30 _ = w30; have n0_ := Aside0.mk (blk_at hq_ BK276.out); have n1_ := Aside0.mk (blk_at hq_ BK282.out); have n2_ := Aside0.mk (below_at hq_ HB.out); clear hq_ BK276 BK282 HB; have BK276 := n0_; have BK282 := n1_; have HB := n2_; clear n0_ n1_ n2_)); refine store_event (t := 59) (p := 9) (v := ?vo_w33) (w1 := ((w30.setCell ⟨gb282, 0, none⟩ (.int .i64 ((rd_T59 ((rd_T57 l0 x7_2).f3) x8_3).f0))).setCell ⟨gb282, 1, none⟩ (.int .i64 ((rd_T59 ((rd_T57 l0 x7_2).f3) x8_3).f1)))) ?hg ?ho ?hn ?hr ?_; (case ho => rfl); (case hg => rfl); (case hn => rfl); (case hr => first | (go_simp; done) | (go_simp; rfl)); intro w33 hw; have n0_ : Aside0 (w33.heap[gb276]? = some (.cells #[.int .i64 t259, .int .i64 t260, .int .i64 t261, .int .i64 t262, .int .i64 t263, .int .i64 t264, .int .i64 t265, .int .i64 t266, .int .i64 t267, .int .i64 t268, .int .i64 t269, .int .i64 t270, .int .i64 t271, .int .i64 t272, .int .i64 t273, .int .i64 t274] 23 (0, 0))) := ⟨(by rw [hw]; exact (by (with_reducible repeat (first | refine blk_drewN ?_ _ | refine blk_drew ?_ | refine blk_alloc ?_ _)); refine blk_far ?_ NB276_282.out _; (with_reducible repeat (first | refine blk_drewN ?_ _ | refine blk_drew ?_ | refine blk_alloc ?_ _)); refine blk_far ?_ NB276_282.out _; (with_reducible repeat (first | refine blk_drewN ?_ _ | refine blk_drew ?_ | refine blk_alloc ?_ _)); exact BK276.out))⟩; have n1_ : Aside0 (w33.heap[gb282]? = some (.cells #[.int .i64 ((rd_T59 ((rd_T57 l0 x7_2).f3) x8_3).f0), .int .i64 ((rd_T59 ((rd_T57 l0 x7_2).f3) x8_3).f1)] 59 (0, 0))) := ⟨(by rw [hw]; exact (by (with_reducible repeat (first | refine blk_drewN ?_ _ | refine blk_drew ?_ | refine blk_alloc ?_ _)); refine blk_put (cs := #[.int .i64 ((rd_T59 ((rd_T57 l0 x7_2).f3) x8_3).f0), .int .i64 0]) ?_ 1 _ rfl; (with_reducible repeat (first | refine blk_drewN ?_ _ | refine blk_drew ?_ | refine blk_alloc ?_ _)); refine blk_put (cs := #[.int .i64 0, .int .i64 0]) ?_ 0 _ rfl; (with_reducible repeat (first | refine blk_drewN ?_ _ | refine blk_drew ?_ | refine blk_alloc ?_ _)); exact BK282.out))⟩; have n2_ : Aside0 (Below w.heap.size w w33) := ⟨(by rw [hw]; exact (by repeat (first | (with_reducible first | exact HB.out | apply below_alloc | apply pw_below_drewN | apply below_drew1 | refine below_set ?_ GE276.out | refine below_set ?_ GE282.out) | exact HB.out)))⟩; clear hw; clear BK276; clear BK282; clear HB; have BK276 := n0_; have BK282 := n1_; have HB := n2_; clear n0_ n1_ n2_)); go_upto_region 21 with (first | ((with_reducible refine gate_dst (N := 9) rfl ?_); refine box_event ?hg (N := 9) ?hd (cs := #[.int .i64 0, .int .i64 0]) (t := 59) ?hr ?_; (case hd => rfl); (case hg => rfl); (case hr => first | (go_simp; done) | (go_simp; rfl)); intro gb282 hg w30 hbox hb; have n0_ := Aside0.mk (blk_below (g := gb276) (o := .cells #[.int .i64 t259, .int .i64 t260, .int .i64 t261, .int .i64 t262, .int .i64 t263, .int .i64 t264, .int .i64 t265, .int .i64 t266, .int .i64 t267, .int .i64 t268, .int .i64 t269, .int .i64 t270, .int .i64 t271, .int .i64 t272, .int .i64 t273, .int .i64 t274] 23 (0, 0)) (by (with_reducible repeat (first | refine blk_drewN ?_ _ | refine blk_drew ?_ | refine blk_alloc ?_ _)); exact BK276.out) hb); have n1_ := Aside0.mk (below_step (by repeat (first | (with_reducible first | exact HB.out | apply below_alloc | apply pw_below_drewN | apply below_drew1 | refine below_set ?_ GE276.out) | exact HB.out)) hb); have n2_ := Aside0.mk (hbox); have n3_ := Aside0.mk ((by rw [hg]; exact (below_size (by repeat (first | (with_reducible first | exact HB.out | apply below_alloc | apply pw_below_drewN | apply below_drew1 | refine below_set ?_ GE276.out) | exact HB.out))) : w.heap.size ≤ gb282)); have n4_ := Aside0.mk ((by rw [hg]; exact (below_size (by repeat (first | (with_reducible first | exact HB.out | apply below_alloc | apply pw_below_drewN | apply below_drew1 | refine below_set ?_ GE276.out) | exact HB.out))) : w.heap.size ≤ gb282)); have n5_ := Aside0.mk ((by rw [hg]; exact Nat.ne_of_lt (blk_lt (g := gb276) (o := .cells #[.int .i64 t259, .int .i64 t260, .int .i64 t261, .int .i64 t262, .int .i64 t263, .int .i64 t264, .int .i64 t265, .int .i64 t266, .int .i64 t267, .int .i64 t268, .int .i64 t269, .int .i64 t270, .int .i64 t271, .int .i64 t272, .int .i64 t273, .int .i64 t274] 23 (0, 0)) (by (with_reducible repeat (first | refine blk_drewN ?_ _ | refine blk_drew ?_ | refine blk_alloc ?_ _)); exact BK276.out)) : gb276 ≠ gb282)); have n6_ := Aside0.mk ((by rw [hg]; exact Nat.ne_of_gt (blk_lt (g := gb276) (o := .cells #[.int .i64 t259, .int .i64 t260, .int .i64 t261, .int .i64 t262, .int .i64 t263, .int .i64 t264, .int .i64 t265, .int .i64 t266, .int .i64 t267, .int .i64 t268, .int .i64 t269, .int .i64 t270, .int .i64 t271, .int .i64 t272, .int .i64 t273, .int .i64 t274] 23 (0, 0)) (by (with_reducible repeat (first | refine blk_drewN ?_ _ | refine blk_drew ?_ | refine blk_alloc ?_ _)); exact BK276.out)) : gb282 ≠ gb276)); clear BK276; clear HB; have BK276 := n0_; have HB := n1_; have BK282 := n2_; have GW282 := n3_; have GE282 := n4_; have NB276_282 := n5_; have NB282_276 := n6_; clear n0_ n1_ n2_ n3_ n4_ n5_ n6_; clear hb hbox hg; have hnb31 := NB282_276.out; have hnc31 := NB276_282.out; have hcz32_0 : w30.cell? ⟨gb282, 0, none⟩ = some (.int .i64 0) := (blk_cell BK282.out 0).trans rfl; have hcz32_1 : w30.cell? ⟨gb282, 1, none⟩ = some (.int .i64 0) := (blk_cell BK282.out 1).trans rfl; have hfz32_0 := blk_frozen BK282.out 0; have hfz32_1 := blk_frozen BK282.out 1) | ((with_reducible refine gate_store (t := 59) (p := 9) rfl ?_); (try (rw [drewN_self w30]; generalize hq_ : World.drewN w30 _ = w30; have n0_ := Aside0.mk (blk_at hq_ BK276.out); have n1_ := Aside0.mk (blk_at hq_ BK282.out); have n2_ := Aside0.mk (below_at hq_ HB.out); clear hq_ BK276 BK282 HB; have BK276 := n0_; have BK282 := n1_; have HB := n2_; clear n0_ n1_ n2_)); refine store_event (t := 59) (p := 9) (v := ?vo_w33) (w1 := ((w30.setCell ⟨gb282, 0, none⟩ (.int .i64 ((rd_T59 ((rd_T57 l0 x7_2).f3) x8_3).f0))).setCell ⟨gb282, 1, none⟩ (.int .i64 ((rd_T59 ((rd_T57 l0 x7_2).f3) x8_3).f1)))) ?hg ?ho ?hn ?hr ?_; (case ho => rfl); (case hg => rfl); (case hn => rfl); (case hr => first | (go_simp; done) | (go_simp; rfl)); intro w33 hw; have n0_ : Aside0 (w33.heap[gb276]? = some (.cells #[.int .i64 t259, .int .i64 t260, .int .i64 t261, .int .i64 t262, .int .i64 t263, .int .i64 t264, .int .i64 t265, .int .i64 t266, .int .i64 t267, .int .i64 t268, .int .i64 t269, .int .i64 t270, .int .i64 t271, .int .i64 t272, .int .i64 t273, .int .i64 t274] 23 (0, 0))) := ⟨(by rw [hw]; exact (by (with_reducible repeat (first | refine blk_drewN ?_ _ | refine blk_drew ?_ | refine blk_alloc ?_ _)); refine blk_far ?_ NB276_282.out _; (with_reducible repeat (first | refine blk_drewN ?_ _ | refine blk_drew ?_ | refine blk_alloc ?_ _)); refine blk_far ?_ NB276_282.out _; (with_reducible repeat (first | refine blk_drewN ?_ _ | refine blk_drew ?_ | refine blk_alloc ?_ _)); exact BK276.out))⟩; have n1_ : Aside0 (w33.heap[gb282]? = some (.cells #[.int .i64 ((rd_T59 ((rd_T57 l0 x7_2).f3) x8_3).f0), .int .i64 ((rd_T59 ((rd_T57 l0 x7_2).f3) x8_3).f1)] 59 (0, 0))) := ⟨(by rw [hw]; exact (by (with_reducible repeat (first | refine blk_drewN ?_ _ | refine blk_drew ?_ | refine blk_alloc ?_ _)); refine blk_put (cs := #[.int .i64 ((rd_T59 ((rd_T57 l0 x7_2).f3) x8_3).f0), .int .i64 0]) ?_ 1 _ rfl; (with_reducible repeat (first | refine blk_drewN ?_ _ | refine blk_drew ?_ | refine blk_alloc ?_ _)); refine blk_put (cs := #[.int .i64 0, .int .i64 0]) ?_ 0 _ rfl; (with_reducible repeat (first | refine blk_drewN ?_ _ | refine blk_drew ?_ | refine blk_alloc ?_ _)); exact BK282.out))⟩; have n2_ : Aside0 (Below w.heap.size w w33) := ⟨(by rw [hw]; exact (by repeat (first | (with_reducible first | exact HB.out | apply below_alloc | apply pw_below_drewN | apply below_drew1 | refine below_set ?_ GE276.out | refine below_set ?_ GE282.out) | exact HB.out)))⟩; clear hw; clear BK276; clear BK282; clear HB; have BK276 := n0_; have BK282 := n1_; have HB := n2_; clear n0_ n1_ n2_)))
               (try simp only [Act.put, List.setIfInBounds_toArray, List.set_cons_zero, List.set_cons_succ])
               go_cut [92] (fun v92 wc => ∃ (kq : Nat) (x92_28 : Bool), v92 = .bool x92_28 ∧ Aside0 (watchwordlaw20_GraphBoth.j4 kq l0 x7_2 x8_3 x92_28 t259 t260 t261 t262 t263 t264 t265 t266 t267 t268 t269 t270 t271 t272 t273 t274 ((rd_T59 ((rd_T57 l0 x7_2).f3) x8_3).f0) ((rd_T59 ((rd_T57 l0 x7_2).f3) x8_3).f1) = some r) ∧ Aside0 (kq ≤ k3) ∧ Aside0 (wc.heap[gb276]? = some (.cells #[.int .i64 t259, .int .i64 t260, .int .i64 t261, .int .i64 t262, .int .i64 t263, .int .i64 t264, .int .i64 t265, .int .i64 t266, .int .i64 t267, .int .i64 t268, .int .i64 t269, .int .i64 t270, .int .i64 t271, .int .i64 t272, .int .i64 t273, .int .i64 t274] 23 (0, 0))) ∧ Aside0 (wc.heap[gb282]? = some (.cells #[.int .i64 ((rd_T59 ((rd_T57 l0 x7_2).f3) x8_3).f0), .int .i64 ((rd_T59 ((rd_T57 l0 x7_2).f3) x8_3).f1)] 59 (0, 0))) ∧ Aside0 (Below w.heap.size w wc))
               case first =>
                have H := HC29.out
                clear HC29
                by_cases c34 : ((rd_T59 ((rd_T57 l0 x7_2).f3) x8_3).f0) < 1
                ·rw [if_pos c34] at H
                 have c34b0 : decide (((rd_T59 ((rd_T57 l0 x7_2).f3) x8_3).f0) < 1) = true := decide_eq_true c34
                 clear c34
                 (first | rw [c34b0] | (simp only [i64_w, i32_w]; rw [c34b0]) | skip)
                 exact absurd H (fun h_ => (by
                  have hd_ : ∀ k_, watchwordlaw20_GraphBoth.j4 k_ l0 x7_2 x8_3 true t259 t260 t261 t262 t263 t264 t265 t266 t267 t268 t269 t270 t271 t272 t273 t274 ((rd_T59 ((rd_T57 l0 x7_2).f3) x8_3).f0) ((rd_T59 ((rd_T57 l0 x7_2).f3) x8_3).f1) = some r → False := by
                   intro k_ h_
                   cases k_ with
                   | zero => exact absurd h_ (by simp [watchwordlaw20_GraphBoth.j4])
                   | succ k_ =>
                    simp only [watchwordlaw20_GraphBoth.j4, if_true] at h_
                    exact absurd (Option.some.inj h_) (by rw [HT.out]; decide)
                  exact hd_ _ h_))
                ·rw [if_neg c34] at H
                 have c34b0 : decide (((rd_T59 ((rd_T57 l0 x7_2).f3) x8_3).f0) < 1) = false := decide_eq_false c34
                 clear c34
                 (first | rw [c34b0] | (simp only [i64_w, i32_w]; rw [c34b0]) | skip)
                 by_cases c35 : ((rd_T59 ((rd_T57 l0 x7_2).f3) x8_3).f0) > 4
                 ·rw [if_pos c35] at H
                  have c35b0 : decide (4 < ((rd_T59 ((rd_T57 l0 x7_2).f3) x8_3).f0)) = true := decide_eq_true c35
                  clear c35
                  exact absurd H (fun h_ => (by
                   have hd_ : ∀ k_, watchwordlaw20_GraphBoth.j4 k_ l0 x7_2 x8_3 true t259 t260 t261 t262 t263 t264 t265 t266 t267 t268 t269 t270 t271 t272 t273 t274 ((rd_T59 ((rd_T57 l0 x7_2).f3) x8_3).f0) ((rd_T59 ((rd_T57 l0 x7_2).f3) x8_3).f1) = some r → False := by
                    intro k_ h_
                    cases k_ with
                    | zero => exact absurd h_ (by simp [watchwordlaw20_GraphBoth.j4])
                    | succ k_ =>
                     simp only [watchwordlaw20_GraphBoth.j4, if_true] at h_
                     exact absurd (Option.some.inj h_) (by rw [HT.out]; decide)
                   exact hd_ _ h_))
                 ·rw [if_neg c35] at H
                  have c35b0 : decide (4 < ((rd_T59 ((rd_T57 l0 x7_2).f3) x8_3).f0)) = false := decide_eq_false c35
                  clear c35
                  by_cases c36 : ((rd_T57 l0 x7_2).f0) < 1
                  ·rw [if_pos c36] at H
                   have c36b0 : decide (((rd_T57 l0 x7_2).f0) < 1) = true := decide_eq_true c36
                   clear c36
                   exact absurd H (fun h_ => (by
                    have hd_ : ∀ k_, watchwordlaw20_GraphBoth.j4 k_ l0 x7_2 x8_3 true t259 t260 t261 t262 t263 t264 t265 t266 t267 t268 t269 t270 t271 t272 t273 t274 ((rd_T59 ((rd_T57 l0 x7_2).f3) x8_3).f0) ((rd_T59 ((rd_T57 l0 x7_2).f3) x8_3).f1) = some r → False := by
                     intro k_ h_
                     cases k_ with
                     | zero => exact absurd h_ (by simp [watchwordlaw20_GraphBoth.j4])
                     | succ k_ =>
                      simp only [watchwordlaw20_GraphBoth.j4, if_true] at h_
                      exact absurd (Option.some.inj h_) (by rw [HT.out]; decide)
                    exact hd_ _ h_))
                  ·rw [if_neg c36] at H
                   have c36b0 : decide (((rd_T57 l0 x7_2).f0) < 1) = false := decide_eq_false c36
                   clear c36
                   have H' := Aside0.mk H
                   clear H
                   have hnb37 := NB282_276.out
                   have hnc37 := NB276_282.out
                   have hcz38_0 : w33.cell? ⟨gb282, 0, none⟩ = some (.int .i64 ((rd_T59 ((rd_T57 l0 x7_2).f3) x8_3).f0)) := (blk_cell BK282.out 0).trans rfl
                   have hcz38_1 : w33.cell? ⟨gb282, 1, none⟩ = some (.int .i64 ((rd_T59 ((rd_T57 l0 x7_2).f3) x8_3).f1)) := (blk_cell BK282.out 1).trans rfl
                   have hfz38_0 := blk_frozen BK282.out 0
                   have hfz38_1 := blk_frozen BK282.out 1
                   have p283 : 0 ≤ (x7_2 : Int) := of_decide_eq_true (by first | (with_reducible assumption) | assumption)
                   have q283 : x7_2 < (l0.length : Int) := of_decide_eq_true (by first | (with_reducible assumption) | assumption)
                   obtain ⟨ad283, A283_3, c283_3, e283, hx283_0, hx283_1, hx283_2, hx283_3, hl283_3, hi283_3⟩ := at_T57 HR0.out x7_2 p283 q283
                   obtain rfl : ad279 = ad283 := (by injection e283)
                   replace hx283_0 := (HB.out.cell (World.block_lt_of_cell? w _ hx283_0)).trans hx283_0
                   replace hx283_1 := (HB.out.cell (World.block_lt_of_cell? w _ hx283_1)).trans hx283_1
                   replace hx283_2 := (HB.out.cell (World.block_lt_of_cell? w _ hx283_2)).trans hx283_2
                   replace hx283_3 := (HB.out.cell (World.block_lt_of_cell? w _ hx283_3)).trans hx283_3
                   have HR283_3 := Aside0.mk hi283_3
                   have HC283_3 := Aside0.mk hl283_3
                   clear hi283_3 hl283_3
                   replace p283 := eq_true p283
                   replace q283 := eq_true q283
                   have p284 : 0 ≤ (x7_2 : Int) := of_decide_eq_true (by first | (with_reducible assumption) | assumption)
                   have q284 : x7_2 < (l0.length : Int) := of_decide_eq_true (by first | (with_reducible assumption) | assumption)
                   obtain ⟨ad284, A284_3, c284_3, e284, hx284_0, hx284_1, hx284_2, hx284_3, hl284_3, hi284_3⟩ := at_T57 HR0.out x7_2 p284 q284
                   obtain rfl : ad279 = ad284 := (by injection e284)
                   replace hx284_0 := (HB.out.cell (World.block_lt_of_cell? w _ hx284_0)).trans hx284_0
                   replace hx284_1 := (HB.out.cell (World.block_lt_of_cell? w _ hx284_1)).trans hx284_1
                   replace hx284_2 := (HB.out.cell (World.block_lt_of_cell? w _ hx284_2)).trans hx284_2
                   replace hx284_3 := (HB.out.cell (World.block_lt_of_cell? w _ hx284_3)).trans hx284_3
                   have HR284_3 := Aside0.mk hi284_3
                   have HC284_3 := Aside0.mk hl284_3
                   clear hi284_3 hl284_3
                   replace p284 := eq_true p284
                   replace q284 := eq_true q284
                   have ea_ := Option.some.inj (hx283_3.symm.trans hx284_3)
                   injection ea_ with ea_ en_ ec_
                   subst ea_
                   subst ec_
                   clear en_
                   go_wp2
                   repeat (go_quiet (fail); try go_wp2)
                   go_meet
                   case rel => exact ⟨_, (decide (((rd_T57 l0 x7_2).f0) > 4)), (by first | rfl | (simp; done) | (simp [*]; done)), H', ⟨by have := HK1.out; have := HK2.out; have := HK3.out; first | omega | exact Nat.le_refl _⟩, ⟨by (with_reducible repeat (first | refine blk_drewN ?_ _ | refine blk_drew ?_ | refine blk_alloc ?_ _)); exact BK276.out⟩, ⟨by (with_reducible repeat (first | refine blk_drewN ?_ _ | refine blk_drew ?_ | refine blk_alloc ?_ _)); exact BK282.out⟩, ⟨by repeat (first | (with_reducible first | exact HB.out | apply below_alloc | apply pw_below_drewN | apply below_drew1 | refine below_set ?_ GE276.out | refine below_set ?_ GE282.out) | exact HB.out)⟩⟩
               case rest =>
                clear HC29
                try clear c1
                try clear p1
                try clear q1
                try clear c2
                try clear p2
                try clear q2
                try clear hx2
                try clear c3
                try clear c6
                try clear c6b0
                try clear c6b1
                try clear p6
                try clear c9
                try clear c12
                try clear c12b0
                try clear c13
                try clear c13b0
                try clear c14
                try clear c14b0
                try clear c15
                try clear c15b0
                try clear c16
                try clear c16b0
                try clear c17
                try clear c17b0
                try clear c17b1
                try clear c17b2
                try clear p18
                try clear q18
                try clear p19
                try clear q19
                try clear hx20
                try clear p21
                try clear q21
                try clear p22
                try clear q22
                try clear hx23
                try clear c24
                try clear c24b0
                try clear c25
                try clear c25b0
                try clear c26
                try clear c26b0
                try clear c27
                try clear c27b0
                try clear p27
                try clear q27
                try clear hx27
                try clear c28
                try clear c28b0
                try clear p28
                try clear q28
                try clear hx28
                try clear c31
                try clear c34
                try clear c34b0
                try clear c35
                try clear c35b0
                try clear c36
                try clear c36b0
                try clear c37
                try clear hcz10_0
                try clear hcz10_1
                try clear hcz10_10
                try clear hcz10_11
                try clear hcz10_12
                try clear hcz10_13
                try clear hcz10_14
                try clear hcz10_15
                try clear hcz10_2
                try clear hcz10_3
                try clear hcz10_4
                try clear hcz10_5
                try clear hcz10_6
                try clear hcz10_7
                try clear hcz10_8
                try clear hcz10_9
                try clear hcz32_0
                try clear hcz32_1
                try clear hcz38_0
                try clear hcz38_1
                try clear hfz10_0
                try clear hfz10_1
                try clear hfz10_10
                try clear hfz10_11
                try clear hfz10_12
                try clear hfz10_13
                try clear hfz10_14
                try clear hfz10_15
                try clear hfz10_2
                try clear hfz10_3
                try clear hfz10_4
                try clear hfz10_5
                try clear hfz10_6
                try clear hfz10_7
                try clear hfz10_8
                try clear hfz10_9
                try clear hfz32_0
                try clear hfz32_1
                try clear hfz38_0
                try clear hfz38_1
                try clear hx20_0
                try clear hx23_0
                try clear hx279_0
                try clear hx279_1
                try clear hx279_2
                try clear hx279_3
                try clear hx280_0
                try clear hx280_1
                try clear hx280_2
                try clear hx280_3
                try clear hx281_0
                try clear hx281_1
                try clear hx283_0
                try clear hx283_1
                try clear hx283_2
                try clear hx283_3
                try clear hx284_0
                try clear hx284_1
                try clear hx284_2
                try clear hx284_3
                try clear p1
                try clear p18
                try clear p19
                try clear p2
                try clear p21
                try clear p22
                try clear p279
                try clear p280
                try clear p281
                try clear p283
                try clear p284
                try clear p6
                try clear q1
                try clear q18
                try clear q19
                try clear q2
                try clear q21
                try clear q22
                try clear q279
                try clear q280
                try clear q281
                try clear q283
                try clear q284
                obtain ⟨kq, x92_28, rfl, HA, HJ28, BK276, BK282, HB⟩ := hcut
                cases kq with
                | zero => exact absurd HA.out (by simp [watchwordlaw20_GraphBoth.j4])
                | succ kj28 =>
                 have H := HA.out
                 clear HA
                 simp only [watchwordlaw20_GraphBoth.j4] at H
                 by_cases c39 : x92_28 = true
                 ·subst c39
                  have H1 : (some false) = some r := by rw [if_pos rfl] at H; exact H
                  clear H
                  have H := H1
                  clear H1
                  exact absurd (Option.some.inj H) (by rw [HT.out]; decide)
                 ·replace c39 := Bool.eq_false_iff.mpr c39
                  subst c39
                  have H1 : (if 0 ≤ x7_2 then (if x7_2 < (l0.length : Int) then (if 0 ≤ (wrap64 (((rd_T57 l0 x7_2).f0) - 1)) then (if (wrap64 (((rd_T57 l0 x7_2).f0) - 1)) < 4 then (if 0 ≤ (wrap64 (((rd_T59 ((rd_T57 l0 x7_2).f3) x8_3).f0) - 1)) then (if (wrap64 (((rd_T59 ((rd_T57 l0 x7_2).f3) x8_3).f0) - 1)) < 4 then (if (ix4 (ix4 t259 t260 t261 t262 (wrap64 (((rd_T59 ((rd_T57 l0 x7_2).f3) x8_3).f0) - 1))) (ix4 t263 t264 t265 t266 (wrap64 (((rd_T59 ((rd_T57 l0 x7_2).f3) x8_3).f0) - 1))) (ix4 t267 t268 t269 t270 (wrap64 (((rd_T59 ((rd_T57 l0 x7_2).f3) x8_3).f0) - 1))) (ix4 t271 t272 t273 t274 (wrap64 (((rd_T59 ((rd_T57 l0 x7_2).f3) x8_3).f0) - 1))) (wrap64 (((rd_T57 l0 x7_2).f0) - 1))) = 0 then (watchwordlaw20_GraphBoth.l3 kj28 l0 x7_2 (wrap64 (x8_3 + 1)) t259 t260 t261 t262 t263 t264 t265 t266 t267 t268 t269 t270 t271 t272 t273 t274) else (if (ix4 (ix4 t259 t260 t261 t262 (wrap64 (((rd_T59 ((rd_T57 l0 x7_2).f3) x8_3).f0) - 1))) (ix4 t263 t264 t265 t266 (wrap64 (((rd_T59 ((rd_T57 l0 x7_2).f3) x8_3).f0) - 1))) (ix4 t267 t268 t269 t270 (wrap64 (((rd_T59 ((rd_T57 l0 x7_2).f3) x8_3).f0) - 1))) (ix4 t271 t272 t273 t274 (wrap64 (((rd_T59 ((rd_T57 l0 x7_2).f3) x8_3).f0) - 1))) (wrap64 (((rd_T57 l0 x7_2).f0) - 1))) = ((rd_T59 ((rd_T57 l0 x7_2).f3) x8_3).f1) then (watchwordlaw20_GraphBoth.l3 kj28 l0 x7_2 (wrap64 (x8_3 + 1)) t259 t260 t261 t262 t263 t264 t265 t266 t267 t268 t269 t270 t271 t272 t273 t274) else (some false))) else (none)) else (none)) else (none)) else (none)) else (none)) else (none)) = some r := by rw [if_neg (show ¬ (false = true) by decide)] at H; exact H
                  clear H
                  have H := H1
                  clear H1
                  by_cases c40 : 0 ≤ x7_2
                  ·rw [if_pos c40] at H
                   have c40b0 : decide (0 ≤ x7_2) = true := decide_eq_true c40
                   clear c40
                   by_cases c41 : x7_2 < (l0.length : Int)
                   ·rw [if_pos c41] at H
                    have c41b0 : decide (x7_2 < (l0.length : Int)) = true := decide_eq_true c41
                    clear c41
                    obtain ⟨ji42, hji42⟩ : ∃ j_ : Int, (wrap64 (((rd_T57 l0 x7_2).f0) - 1)) = j_ := ⟨_, rfl⟩
                    replace H : (if 0 ≤ (ji42) then (if (ji42) < 4 then (if 0 ≤ (wrap64 (((rd_T59 ((rd_T57 l0 x7_2).f3) x8_3).f0) - 1)) then (if (wrap64 (((rd_T59 ((rd_T57 l0 x7_2).f3) x8_3).f0) - 1)) < 4 then (if (ix4 (ix4 t259 t260 t261 t262 (wrap64 (((rd_T59 ((rd_T57 l0 x7_2).f3) x8_3).f0) - 1))) (ix4 t263 t264 t265 t266 (wrap64 (((rd_T59 ((rd_T57 l0 x7_2).f3) x8_3).f0) - 1))) (ix4 t267 t268 t269 t270 (wrap64 (((rd_T59 ((rd_T57 l0 x7_2).f3) x8_3).f0) - 1))) (ix4 t271 t272 t273 t274 (wrap64 (((rd_T59 ((rd_T57 l0 x7_2).f3) x8_3).f0) - 1))) (ji42)) = 0 then (watchwordlaw20_GraphBoth.l3 kj28 l0 x7_2 (wrap64 (x8_3 + 1)) t259 t260 t261 t262 t263 t264 t265 t266 t267 t268 t269 t270 t271 t272 t273 t274) else (if (ix4 (ix4 t259 t260 t261 t262 (wrap64 (((rd_T59 ((rd_T57 l0 x7_2).f3) x8_3).f0) - 1))) (ix4 t263 t264 t265 t266 (wrap64 (((rd_T59 ((rd_T57 l0 x7_2).f3) x8_3).f0) - 1))) (ix4 t267 t268 t269 t270 (wrap64 (((rd_T59 ((rd_T57 l0 x7_2).f3) x8_3).f0) - 1))) (ix4 t271 t272 t273 t274 (wrap64 (((rd_T59 ((rd_T57 l0 x7_2).f3) x8_3).f0) - 1))) (ji42)) = ((rd_T59 ((rd_T57 l0 x7_2).f3) x8_3).f1) then (watchwordlaw20_GraphBoth.l3 kj28 l0 x7_2 (wrap64 (x8_3 + 1)) t259 t260 t261 t262 t263 t264 t265 t266 t267 t268 t269 t270 t271 t272 t273 t274) else (some false))) else (none)) else (none)) else (none)) else (none)) = some r := by first | (rw [hji42] at H; exact H) | (simp only [hji42] at H ⊢; exact H)
                    have hji42w : (IntKind.i64.wrap (((rd_T57 l0 x7_2).f0) - 1)) = ji42 := (i64_w _).trans hji42
                    by_cases c43 : 0 ≤ (ji42)
                    ·rw [if_pos c43] at H
                     have c43b0 : decide (0 ≤ (ji42)) = true := decide_eq_true c43
                     clear c43
                     by_cases c44 : (ji42) < 4
                     ·rw [if_pos c44] at H
                      have c44b0 : decide ((ji42) < 4) = true := decide_eq_true c44
                      clear c44
                      obtain ⟨ji45, hji45⟩ : ∃ j_ : Int, (wrap64 (((rd_T59 ((rd_T57 l0 x7_2).f3) x8_3).f0) - 1)) = j_ := ⟨_, rfl⟩
                      replace H : (if 0 ≤ (ji45) then (if (ji45) < 4 then (if (ix4 (ix4 t259 t260 t261 t262 (ji45)) (ix4 t263 t264 t265 t266 (ji45)) (ix4 t267 t268 t269 t270 (ji45)) (ix4 t271 t272 t273 t274 (ji45)) (ji42)) = 0 then (watchwordlaw20_GraphBoth.l3 kj28 l0 x7_2 (wrap64 (x8_3 + 1)) t259 t260 t261 t262 t263 t264 t265 t266 t267 t268 t269 t270 t271 t272 t273 t274) else (if (ix4 (ix4 t259 t260 t261 t262 (ji45)) (ix4 t263 t264 t265 t266 (ji45)) (ix4 t267 t268 t269 t270 (ji45)) (ix4 t271 t272 t273 t274 (ji45)) (ji42)) = ((rd_T59 ((rd_T57 l0 x7_2).f3) x8_3).f1) then (watchwordlaw20_GraphBoth.l3 kj28 l0 x7_2 (wrap64 (x8_3 + 1)) t259 t260 t261 t262 t263 t264 t265 t266 t267 t268 t269 t270 t271 t272 t273 t274) else (some false))) else (none)) else (none)) = some r := by first | (rw [hji45] at H; exact H) | (simp only [hji45] at H ⊢; exact H)
                      have hji45w : (IntKind.i64.wrap (((rd_T59 ((rd_T57 l0 x7_2).f3) x8_3).f0) - 1)) = ji45 := (i64_w _).trans hji45
                      by_cases c46 : 0 ≤ (ji45)
                      ·rw [if_pos c46] at H
                       have c46b0 : decide (0 ≤ (ji45)) = true := decide_eq_true c46
                       clear c46
                       by_cases c47 : (ji45) < 4
                       ·rw [if_pos c47] at H
                        have c47b0 : decide ((ji45) < 4) = true := decide_eq_true c47
                        clear c47
                        by_cases c48 : (ix4 (ix4 t259 t260 t261 t262 (ji45)) (ix4 t263 t264 t265 t266 (ji45)) (ix4 t267 t268 t269 t270 (ji45)) (ix4 t271 t272 t273 t274 (ji45)) (ji42)) = 0
                        ·rw [if_pos c48] at H
                         have c48b0 : ((ix4 (ix4 t259 t260 t261 t262 (ji45)) (ix4 t263 t264 t265 t266 (ji45)) (ix4 t267 t268 t269 t270 (ji45)) (ix4 t271 t272 t273 t274 (ji45)) (ji42)) == 0) = true := beq_iff_eq.mpr c48
                         have c48b1 : ((ix4 (ix4 t259 t260 t261 t262 (ji45)) (ix4 t263 t264 t265 t266 (ji45)) (ix4 t267 t268 t269 t270 (ji45)) (ix4 t271 t272 t273 t274 (ji45)) (ji42)) != 0) = false := bne_eq_false_iff_eq.mpr c48
                         clear c48
                         have H' := Aside0.mk H
                         clear H
                         have p285 : 0 ≤ (x7_2 : Int) := of_decide_eq_true (by first | (with_reducible assumption) | assumption)
                         have q285 : x7_2 < (l0.length : Int) := of_decide_eq_true (by first | (with_reducible assumption) | assumption)
                         obtain ⟨ad285, A285_3, c285_3, e285, hx285_0, hx285_1, hx285_2, hx285_3, hl285_3, hi285_3⟩ := at_T57 HR0.out x7_2 p285 q285
                         obtain rfl : ad279 = ad285 := (by injection e285)
                         replace hx285_0 := (HB.out.cell (World.block_lt_of_cell? w _ hx285_0)).trans hx285_0
                         replace hx285_1 := (HB.out.cell (World.block_lt_of_cell? w _ hx285_1)).trans hx285_1
                         replace hx285_2 := (HB.out.cell (World.block_lt_of_cell? w _ hx285_2)).trans hx285_2
                         replace hx285_3 := (HB.out.cell (World.block_lt_of_cell? w _ hx285_3)).trans hx285_3
                         have HR285_3 := Aside0.mk hi285_3
                         have HC285_3 := Aside0.mk hl285_3
                         clear hi285_3 hl285_3
                         replace p285 := eq_true p285
                         replace q285 := eq_true q285
                         have hnb49 := NB282_276.out
                         have hnc49 := NB276_282.out
                         have hcz50_0 : wc.cell? ⟨gb282, 0, none⟩ = some (.int .i64 ((rd_T59 ((rd_T57 l0 x7_2).f3) x8_3).f0)) := (blk_cell BK282.out 0).trans rfl
                         have hcz50_1 : wc.cell? ⟨gb282, 1, none⟩ = some (.int .i64 ((rd_T59 ((rd_T57 l0 x7_2).f3) x8_3).f1)) := (blk_cell BK282.out 1).trans rfl
                         have hfz50_0 := blk_frozen BK282.out 0
                         have hfz50_1 := blk_frozen BK282.out 1
                         have p51 : (0 ≤ ((ji42) : Int)) = True := eq_true (of_decide_eq_true (by first | (with_reducible assumption) | assumption))
                         have q51 : (((ji42) : Int) < 4) = True := eq_true (of_decide_eq_true (by first | (with_reducible assumption) | assumption))
                         have p52 : (0 ≤ ((ji45) : Int)) = True := eq_true (of_decide_eq_true (by first | (with_reducible assumption) | assumption))
                         have q52 : (((ji45) : Int) < 4) = True := eq_true (of_decide_eq_true (by first | (with_reducible assumption) | assumption))
                         have hx53_0 : wc.cell? ⟨gb276, (ji42).toNat * 4 + (ji45).toNat, none⟩ = some (.int .i64 (ix4 (ix4 t259 t260 t261 t262 (ji45)) (ix4 t263 t264 t265 t266 (ji45)) (ix4 t267 t268 t269 t270 (ji45)) (ix4 t271 t272 t273 t274 (ji45)) (ji42))) := (blk_cell BK276.out ((ji42).toNat * 4 + (ji45).toNat)).trans (ix_44 (Value.int .i64) _ _ _ _ _ _ _ _ _ _ _ _ _ _ _ _ (ji42) (ji45)  (of_decide_eq_true (by first | (with_reducible assumption) | assumption)) (of_decide_eq_true (by first | (with_reducible assumption) | assumption))  (of_decide_eq_true (by first | (with_reducible assumption) | assumption)) (of_decide_eq_true (by first | (with_reducible assumption) | assumption)))
                         go_wp2
                         repeat (go_quiet (fail); try go_wp2)
                         go_roundg kj28
                         case measure => have := HK1.out; have := HK2.out; have := HK3.out; have := HJ28.out; omega
                         case rel => exact ⟨(wrap64 (x8_3 + 1)), (by first | rfl | (simp; done) | (simp [*]; done)), H', ⟨by have := HK1.out; have := HK2.out; have := HK3.out; have := HJ28.out; omega⟩, ⟨by (with_reducible repeat (first | refine blk_drewN ?_ _ | refine blk_drew ?_ | refine blk_alloc ?_ _)); exact BK276.out⟩, ⟨by repeat (first | (with_reducible first | exact HB.out | apply below_alloc | apply pw_below_drewN | apply below_drew1 | refine below_set ?_ GE276.out | refine below_set ?_ GE282.out) | exact HB.out)⟩⟩
                        ·rw [if_neg c48] at H
                         have c48b0 : ((ix4 (ix4 t259 t260 t261 t262 (ji45)) (ix4 t263 t264 t265 t266 (ji45)) (ix4 t267 t268 t269 t270 (ji45)) (ix4 t271 t272 t273 t274 (ji45)) (ji42)) == 0) = false := beq_eq_false_iff_ne.mpr c48
                         have c48b1 : ((ix4 (ix4 t259 t260 t261 t262 (ji45)) (ix4 t263 t264 t265 t266 (ji45)) (ix4 t267 t268 t269 t270 (ji45)) (ix4 t271 t272 t273 t274 (ji45)) (ji42)) != 0) = true := bne_iff_ne.mpr c48
                         by_cases c54 : (ix4 (ix4 t259 t260 t261 t262 (ji45)) (ix4 t263 t264 t265 t266 (ji45)) (ix4 t267 t268 t269 t270 (ji45)) (ix4 t271 t272 t273 t274 (ji45)) (ji42)) = ((rd_T59 ((rd_T57 l0 x7_2).f3) x8_3).f1)
                         ·rw [if_pos c54] at H
                          have c54b0 : ((ix4 (ix4 t259 t260 t261 t262 (ji45)) (ix4 t263 t264 t265 t266 (ji45)) (ix4 t267 t268 t269 t270 (ji45)) (ix4 t271 t272 t273 t274 (ji45)) (ji42)) == ((rd_T59 ((rd_T57 l0 x7_2).f3) x8_3).f1)) = true := beq_iff_eq.mpr c54
                          have c54b1 : ((ix4 (ix4 t259 t260 t261 t262 (ji45)) (ix4 t263 t264 t265 t266 (ji45)) (ix4 t267 t268 t269 t270 (ji45)) (ix4 t271 t272 t273 t274 (ji45)) (ji42)) != ((rd_T59 ((rd_T57 l0 x7_2).f3) x8_3).f1)) = false := bne_eq_false_iff_eq.mpr c54
                          clear c54
                          have H' := Aside0.mk H
                          clear H
                          have p285 : 0 ≤ (x7_2 : Int) := of_decide_eq_true (by first | (with_reducible assumption) | assumption)
                          have q285 : x7_2 < (l0.length : Int) := of_decide_eq_true (by first | (with_reducible assumption) | assumption)
                          obtain ⟨ad285, A285_3, c285_3, e285, hx285_0, hx285_1, hx285_2, hx285_3, hl285_3, hi285_3⟩ := at_T57 HR0.out x7_2 p285 q285
                          obtain rfl : ad279 = ad285 := (by injection e285)
                          replace hx285_0 := (HB.out.cell (World.block_lt_of_cell? w _ hx285_0)).trans hx285_0
                          replace hx285_1 := (HB.out.cell (World.block_lt_of_cell? w _ hx285_1)).trans hx285_1
                          replace hx285_2 := (HB.out.cell (World.block_lt_of_cell? w _ hx285_2)).trans hx285_2
                          replace hx285_3 := (HB.out.cell (World.block_lt_of_cell? w _ hx285_3)).trans hx285_3
                          have HR285_3 := Aside0.mk hi285_3
                          have HC285_3 := Aside0.mk hl285_3
                          clear hi285_3 hl285_3
                          replace p285 := eq_true p285
                          replace q285 := eq_true q285
                          have hnb55 := NB282_276.out
                          have hnc55 := NB276_282.out
                          have hcz56_0 : wc.cell? ⟨gb282, 0, none⟩ = some (.int .i64 ((rd_T59 ((rd_T57 l0 x7_2).f3) x8_3).f0)) := (blk_cell BK282.out 0).trans rfl
                          have hcz56_1 : wc.cell? ⟨gb282, 1, none⟩ = some (.int .i64 ((rd_T59 ((rd_T57 l0 x7_2).f3) x8_3).f1)) := (blk_cell BK282.out 1).trans rfl
                          have hfz56_0 := blk_frozen BK282.out 0
                          have hfz56_1 := blk_frozen BK282.out 1
                          have p57 : (0 ≤ ((ji42) : Int)) = True := eq_true (of_decide_eq_true (by first | (with_reducible assumption) | assumption))
                          have q57 : (((ji42) : Int) < 4) = True := eq_true (of_decide_eq_true (by first | (with_reducible assumption) | assumption))
                          have p58 : (0 ≤ ((ji45) : Int)) = True := eq_true (of_decide_eq_true (by first | (with_reducible assumption) | assumption))
                          have q58 : (((ji45) : Int) < 4) = True := eq_true (of_decide_eq_true (by first | (with_reducible assumption) | assumption))
                          have hx59_0 : wc.cell? ⟨gb276, (ji42).toNat * 4 + (ji45).toNat, none⟩ = some (.int .i64 (ix4 (ix4 t259 t260 t261 t262 (ji45)) (ix4 t263 t264 t265 t266 (ji45)) (ix4 t267 t268 t269 t270 (ji45)) (ix4 t271 t272 t273 t274 (ji45)) (ji42))) := (blk_cell BK276.out ((ji42).toNat * 4 + (ji45).toNat)).trans (ix_44 (Value.int .i64) _ _ _ _ _ _ _ _ _ _ _ _ _ _ _ _ (ji42) (ji45)  (of_decide_eq_true (by first | (with_reducible assumption) | assumption)) (of_decide_eq_true (by first | (with_reducible assumption) | assumption))  (of_decide_eq_true (by first | (with_reducible assumption) | assumption)) (of_decide_eq_true (by first | (with_reducible assumption) | assumption)))
                          go_wp2
                          repeat (go_quiet (fail); try go_wp2)
                          go_roundg kj28
                          case measure => have := HK1.out; have := HK2.out; have := HK3.out; have := HJ28.out; omega
                          case rel => exact ⟨(wrap64 (x8_3 + 1)), (by first | rfl | (simp; done) | (simp [*]; done)), H', ⟨by have := HK1.out; have := HK2.out; have := HK3.out; have := HJ28.out; omega⟩, ⟨by (with_reducible repeat (first | refine blk_drewN ?_ _ | refine blk_drew ?_ | refine blk_alloc ?_ _)); exact BK276.out⟩, ⟨by repeat (first | (with_reducible first | exact HB.out | apply below_alloc | apply pw_below_drewN | apply below_drew1 | refine below_set ?_ GE276.out | refine below_set ?_ GE282.out) | exact HB.out)⟩⟩
                         ·rw [if_neg c54] at H
                          have c54b0 : ((ix4 (ix4 t259 t260 t261 t262 (ji45)) (ix4 t263 t264 t265 t266 (ji45)) (ix4 t267 t268 t269 t270 (ji45)) (ix4 t271 t272 t273 t274 (ji45)) (ji42)) == ((rd_T59 ((rd_T57 l0 x7_2).f3) x8_3).f1)) = false := beq_eq_false_iff_ne.mpr c54
                          have c54b1 : ((ix4 (ix4 t259 t260 t261 t262 (ji45)) (ix4 t263 t264 t265 t266 (ji45)) (ix4 t267 t268 t269 t270 (ji45)) (ix4 t271 t272 t273 t274 (ji45)) (ji42)) != ((rd_T59 ((rd_T57 l0 x7_2).f3) x8_3).f1)) = true := bne_iff_ne.mpr c54
                          exact absurd (Option.some.inj H) (by rw [HT.out]; decide)
                       ·rw [if_neg c47] at H
                        exact absurd H (by simp)
                      ·rw [if_neg c46] at H
                       exact absurd H (by simp)
                     ·rw [if_neg c44] at H
                      exact absurd H (by simp)
                    ·rw [if_neg c43] at H
                     exact absurd H (by simp)
                   ·rw [if_neg c41] at H
                    exact absurd H (by simp)
                  ·rw [if_neg c40] at H
                   exact absurd H (by simp)
              ·rw [if_neg c28] at H
               exact absurd H (by simp)
             ·rw [if_neg c27] at H
              have c27b0 : decide (x8_3 < (((rd_T57 l0 x7_2).f3).length : Int)) = false := decide_eq_false c27
              clear c27
              have H' := Aside0.mk H
              clear H
              have p279 : 0 ≤ (x7_2 : Int) := of_decide_eq_true (by first | (with_reducible assumption) | assumption)
              have q279 : x7_2 < (l0.length : Int) := of_decide_eq_true (by first | (with_reducible assumption) | assumption)
              obtain ⟨ad279, A279_3, c279_3, e279, hx279_0, hx279_1, hx279_2, hx279_3, hl279_3, hi279_3⟩ := at_T57 HR0.out x7_2 p279 q279
              cases e279
              replace hx279_0 := (HB.out.cell (World.block_lt_of_cell? w _ hx279_0)).trans hx279_0
              replace hx279_1 := (HB.out.cell (World.block_lt_of_cell? w _ hx279_1)).trans hx279_1
              replace hx279_2 := (HB.out.cell (World.block_lt_of_cell? w _ hx279_2)).trans hx279_2
              replace hx279_3 := (HB.out.cell (World.block_lt_of_cell? w _ hx279_3)).trans hx279_3
              have HR279_3 := Aside0.mk hi279_3
              have HC279_3 := Aside0.mk hl279_3
              clear hi279_3 hl279_3
              replace p279 := eq_true p279
              replace q279 := eq_true q279
              go_wp2
              repeat (go_quiet (fail); try go_wp2)
              go_roundg k3
              case measure => have := HK1.out; have := HK2.out; have := HK3.out; omega
              case rel => exact ⟨(wrap64 (x7_2 + 1)), (by first | rfl | (simp; done) | (simp [*]; done)), H', ⟨by have := HK1.out; have := HK2.out; have := HK3.out; omega⟩, ⟨by (with_reducible repeat (first | refine blk_drewN ?_ _ | refine blk_drew ?_ | refine blk_alloc ?_ _)); exact BK276.out⟩, ⟨by repeat (first | (with_reducible first | exact HB.out | apply below_alloc | apply pw_below_drewN | apply below_drew1 | refine below_set ?_ GE276.out) | exact HB.out)⟩⟩
            ·rw [if_neg c26] at H
             exact absurd H (by simp)
           ·rw [if_neg c25] at H
            exact absurd H (by simp)
        ·rw [if_neg c24] at H
         have c24b0 : decide (x7_2 < (l0.length : Int)) = false := decide_eq_false c24
         clear c24
         replace H := Option.bind_eq_some_iff.mp H
         obtain ⟨t278, A600, H⟩ := H
         replace H : (some t278) = some r := H
         have A60 := Aside0.mk A600
         clear A600
         obtain rfl := Option.some.inj H
         have hcz61_0 : wr.cell? ⟨gb276, 0, none⟩ = some (.int .i64 t259) := (blk_cell BK276.out 0).trans rfl
         have hcz61_1 : wr.cell? ⟨gb276, 1, none⟩ = some (.int .i64 t260) := (blk_cell BK276.out 1).trans rfl
         have hcz61_2 : wr.cell? ⟨gb276, 2, none⟩ = some (.int .i64 t261) := (blk_cell BK276.out 2).trans rfl
         have hcz61_3 : wr.cell? ⟨gb276, 3, none⟩ = some (.int .i64 t262) := (blk_cell BK276.out 3).trans rfl
         have hcz61_4 : wr.cell? ⟨gb276, 4, none⟩ = some (.int .i64 t263) := (blk_cell BK276.out 4).trans rfl
         have hcz61_5 : wr.cell? ⟨gb276, 5, none⟩ = some (.int .i64 t264) := (blk_cell BK276.out 5).trans rfl
         have hcz61_6 : wr.cell? ⟨gb276, 6, none⟩ = some (.int .i64 t265) := (blk_cell BK276.out 6).trans rfl
         have hcz61_7 : wr.cell? ⟨gb276, 7, none⟩ = some (.int .i64 t266) := (blk_cell BK276.out 7).trans rfl
         have hcz61_8 : wr.cell? ⟨gb276, 8, none⟩ = some (.int .i64 t267) := (blk_cell BK276.out 8).trans rfl
         have hcz61_9 : wr.cell? ⟨gb276, 9, none⟩ = some (.int .i64 t268) := (blk_cell BK276.out 9).trans rfl
         have hcz61_10 : wr.cell? ⟨gb276, 10, none⟩ = some (.int .i64 t269) := (blk_cell BK276.out 10).trans rfl
         have hcz61_11 : wr.cell? ⟨gb276, 11, none⟩ = some (.int .i64 t270) := (blk_cell BK276.out 11).trans rfl
         have hcz61_12 : wr.cell? ⟨gb276, 12, none⟩ = some (.int .i64 t271) := (blk_cell BK276.out 12).trans rfl
         have hcz61_13 : wr.cell? ⟨gb276, 13, none⟩ = some (.int .i64 t272) := (blk_cell BK276.out 13).trans rfl
         have hcz61_14 : wr.cell? ⟨gb276, 14, none⟩ = some (.int .i64 t273) := (blk_cell BK276.out 14).trans rfl
         have hcz61_15 : wr.cell? ⟨gb276, 15, none⟩ = some (.int .i64 t274) := (blk_cell BK276.out 15).trans rfl
         have hfz61_0 := blk_frozen BK276.out 0
         have hfz61_1 := blk_frozen BK276.out 1
         have hfz61_2 := blk_frozen BK276.out 2
         have hfz61_3 := blk_frozen BK276.out 3
         have hfz61_4 := blk_frozen BK276.out 4
         have hfz61_5 := blk_frozen BK276.out 5
         have hfz61_6 := blk_frozen BK276.out 6
         have hfz61_7 := blk_frozen BK276.out 7
         have hfz61_8 := blk_frozen BK276.out 8
         have hfz61_9 := blk_frozen BK276.out 9
         have hfz61_10 := blk_frozen BK276.out 10
         have hfz61_11 := blk_frozen BK276.out 11
         have hfz61_12 := blk_frozen BK276.out 12
         have hfz61_13 := blk_frozen BK276.out 13
         have hfz61_14 := blk_frozen BK276.out 14
         have hfz61_15 := blk_frozen BK276.out 15
         go_wp2_with (first | (go_at_call 23; (with_reducible refine (graph_May.calls k2 t259 t260 t261 t262 t263 t264 t265 t266 t267 t268 t269 t270 t271 t272 t273 t274 t278 _ A60.out).mono ?_); rintro e w62 ⟨rfl, hb⟩; have n0_ := Aside0.mk (blk_below (g := gb276) (o := .cells #[.int .i64 t259, .int .i64 t260, .int .i64 t261, .int .i64 t262, .int .i64 t263, .int .i64 t264, .int .i64 t265, .int .i64 t266, .int .i64 t267, .int .i64 t268, .int .i64 t269, .int .i64 t270, .int .i64 t271, .int .i64 t272, .int .i64 t273, .int .i64 t274] 23 (0, 0)) (by (with_reducible repeat (first | refine blk_drewN ?_ _ | refine blk_drew ?_ | refine blk_alloc ?_ _)); exact BK276.out) hb); have n1_ := Aside0.mk (below_step (by repeat (first | (with_reducible first | exact HB.out | apply below_alloc | apply pw_below_drewN | apply below_drew1 | refine below_set ?_ GE276.out) | exact HB.out)) hb); clear BK276; clear HB; have BK276 := n0_; have HB := n1_; clear n0_ n1_; (try clear hb); (try clear hb2); (try clear hk); (try clear hi)))
         repeat (go_quiet (first | (go_at_call 23; (with_reducible refine (graph_May.calls k2 t259 t260 t261 t262 t263 t264 t265 t266 t267 t268 t269 t270 t271 t272 t273 t274 t278 _ A60.out).mono ?_); rintro e w62 ⟨rfl, hb⟩; have n0_ := Aside0.mk (blk_below (g := gb276) (o := .cells #[.int .i64 t259, .int .i64 t260, .int .i64 t261, .int .i64 t262, .int .i64 t263, .int .i64 t264, .int .i64 t265, .int .i64 t266, .int .i64 t267, .int .i64 t268, .int .i64 t269, .int .i64 t270, .int .i64 t271, .int .i64 t272, .int .i64 t273, .int .i64 t274] 23 (0, 0)) (by (with_reducible repeat (first | refine blk_drewN ?_ _ | refine blk_drew ?_ | refine blk_alloc ?_ _)); exact BK276.out) hb); have n1_ := Aside0.mk (below_step (by repeat (first | (with_reducible first | exact HB.out | apply below_alloc | apply pw_below_drewN | apply below_drew1 | refine below_set ?_ GE276.out) | exact HB.out)) hb); clear BK276; clear HB; have BK276 := n0_; have HB := n1_; clear n0_ n1_; (try clear hb); (try clear hb2); (try clear hk); (try clear hi))); try go_wp2_with (first | (go_at_call 23; (with_reducible refine (graph_May.calls k2 t259 t260 t261 t262 t263 t264 t265 t266 t267 t268 t269 t270 t271 t272 t273 t274 t278 _ A60.out).mono ?_); rintro e w62 ⟨rfl, hb⟩; have n0_ := Aside0.mk (blk_below (g := gb276) (o := .cells #[.int .i64 t259, .int .i64 t260, .int .i64 t261, .int .i64 t262, .int .i64 t263, .int .i64 t264, .int .i64 t265, .int .i64 t266, .int .i64 t267, .int .i64 t268, .int .i64 t269, .int .i64 t270, .int .i64 t271, .int .i64 t272, .int .i64 t273, .int .i64 t274] 23 (0, 0)) (by (with_reducible repeat (first | refine blk_drewN ?_ _ | refine blk_drew ?_ | refine blk_alloc ?_ _)); exact BK276.out) hb); have n1_ := Aside0.mk (below_step (by repeat (first | (with_reducible first | exact HB.out | apply below_alloc | apply pw_below_drewN | apply below_drew1 | refine below_set ?_ GE276.out) | exact HB.out)) hb); clear BK276; clear HB; have BK276 := n0_; have HB := n1_; clear n0_ n1_; (try clear hb); (try clear hb2); (try clear hk); (try clear hi))))
         go_ret
         exact ⟨by first | rfl | (simp [errW_none, errW_some] <;> rfl) | (simp [*, errW_none, errW_some] <;> rfl), by repeat (first | (with_reducible first | exact HB.out | apply below_alloc | apply pw_below_drewN | apply below_drew1 | refine below_set ?_ GE276.out) | exact HB.out)⟩
  ·rw [if_neg c6] at H
   have c6b0 : (t277 == 0) = false := beq_eq_false_iff_ne.mpr c6
   have c6b1 : (t277 != 0) = true := bne_iff_ne.mpr c6
   obtain rfl := Option.some.inj H
   go_enter Try.func9, Try.ntmps9
   go_wp2_with (first | (go_at_call 25; (with_reducible refine (watchwordlaw20_awake.calls k  true _ A2.out (by first | rfl | exact HT.out)).mono ?_); rintro e w63 ⟨rfl, hb⟩; have n0_ := Aside0.mk (below_step (by repeat (first | (with_reducible first | exact HB.out | apply below_alloc | apply pw_below_drewN | apply below_drew1) | exact HB.out)) hb); clear HB; have HB := n0_; clear n0_; (try clear hb); (try clear hb2); (try clear hk); (try clear hi)) | (go_at_call 21; (with_reducible refine (graph_Of.calls k _ _ l0 t259 t260 t261 t262 t263 t264 t265 t266 t267 t268 t269 t270 t271 t272 t273 t274 t275 _ ?side1 ?side2 A4.out).mono ?_); (case side1 => repeat (first | exact (Kd.C_below HR0.out HB.out) | (with_reducible refine Kd.C_alloc ?_ _) | (with_reducible refine Kd.C_drewN ?_ _) | (with_reducible refine Kd.C_drew ?_))); (case side2 => exact HC0.out); rintro e w64 ⟨rfl, hb⟩; have n0_ := Aside0.mk (below_step (by repeat (first | (with_reducible first | exact HB.out | apply below_alloc | apply pw_below_drewN | apply below_drew1) | exact HB.out)) hb); clear HB; have HB := n0_; clear n0_; (try clear hb); (try clear hb2); (try clear hk); (try clear hi)) | ((with_reducible refine gate_dst (N := 3) rfl ?_); refine box_event ?hg (N := 3) ?hd (cs := #[.int .i64 0, .int .i64 0, .int .i64 0, .int .i64 0, .int .i64 0, .int .i64 0, .int .i64 0, .int .i64 0, .int .i64 0, .int .i64 0, .int .i64 0, .int .i64 0, .int .i64 0, .int .i64 0, .int .i64 0, .int .i64 0]) (t := 23) ?hr ?_; (case hd => rfl); (case hg => rfl); (case hr => first | (go_simp; done) | (go_simp; rfl)); intro gb276 hg w65 hbox hb; have n0_ := Aside0.mk (below_step (by repeat (first | (with_reducible first | exact HB.out | apply below_alloc | apply pw_below_drewN | apply below_drew1) | exact HB.out)) hb); have n1_ := Aside0.mk (hbox); have n2_ := Aside0.mk ((by rw [hg]; exact (below_size (by repeat (first | (with_reducible first | exact HB.out | apply below_alloc | apply pw_below_drewN | apply below_drew1) | exact HB.out))) : w.heap.size ≤ gb276)); have n3_ := Aside0.mk ((by rw [hg]; exact (below_size (by repeat (first | (with_reducible first | exact HB.out | apply below_alloc | apply pw_below_drewN | apply below_drew1) | exact HB.out))) : w.heap.size ≤ gb276)); clear HB; have HB := n0_; have BK276 := n1_; have GW276 := n2_; have GE276 := n3_; clear n0_ n1_ n2_ n3_; clear hb hbox hg; have hcz66_0 : w65.cell? ⟨gb276, 0, none⟩ = some (.int .i64 0) := (blk_cell BK276.out 0).trans rfl; have hcz66_1 : w65.cell? ⟨gb276, 1, none⟩ = some (.int .i64 0) := (blk_cell BK276.out 1).trans rfl; have hcz66_2 : w65.cell? ⟨gb276, 2, none⟩ = some (.int .i64 0) := (blk_cell BK276.out 2).trans rfl; have hcz66_3 : w65.cell? ⟨gb276, 3, none⟩ = some (.int .i64 0) := (blk_cell BK276.out 3).trans rfl; have hcz66_4 : w65.cell? ⟨gb276, 4, none⟩ = some (.int .i64 0) := (blk_cell BK276.out 4).trans rfl; have hcz66_5 : w65.cell? ⟨gb276, 5, none⟩ = some (.int .i64 0) := (blk_cell BK276.out 5).trans rfl; have hcz66_6 : w65.cell? ⟨gb276, 6, none⟩ = some (.int .i64 0) := (blk_cell BK276.out 6).trans rfl; have hcz66_7 : w65.cell? ⟨gb276, 7, none⟩ = some (.int .i64 0) := (blk_cell BK276.out 7).trans rfl; have hcz66_8 : w65.cell? ⟨gb276, 8, none⟩ = some (.int .i64 0) := (blk_cell BK276.out 8).trans rfl; have hcz66_9 : w65.cell? ⟨gb276, 9, none⟩ = some (.int .i64 0) := (blk_cell BK276.out 9).trans rfl; have hcz66_10 : w65.cell? ⟨gb276, 10, none⟩ = some (.int .i64 0) := (blk_cell BK276.out 10).trans rfl; have hcz66_11 : w65.cell? ⟨gb276, 11, none⟩ = some (.int .i64 0) := (blk_cell BK276.out 11).trans rfl; have hcz66_12 : w65.cell? ⟨gb276, 12, none⟩ = some (.int .i64 0) := (blk_cell BK276.out 12).trans rfl; have hcz66_13 : w65.cell? ⟨gb276, 13, none⟩ = some (.int .i64 0) := (blk_cell BK276.out 13).trans rfl; have hcz66_14 : w65.cell? ⟨gb276, 14, none⟩ = some (.int .i64 0) := (blk_cell BK276.out 14).trans rfl; have hcz66_15 : w65.cell? ⟨gb276, 15, none⟩ = some (.int .i64 0) := (blk_cell BK276.out 15).trans rfl; have hfz66_0 := blk_frozen BK276.out 0; have hfz66_1 := blk_frozen BK276.out 1; have hfz66_2 := blk_frozen BK276.out 2; have hfz66_3 := blk_frozen BK276.out 3; have hfz66_4 := blk_frozen BK276.out 4; have hfz66_5 := blk_frozen BK276.out 5; have hfz66_6 := blk_frozen BK276.out 6; have hfz66_7 := blk_frozen BK276.out 7; have hfz66_8 := blk_frozen BK276.out 8; have hfz66_9 := blk_frozen BK276.out 9; have hfz66_10 := blk_frozen BK276.out 10; have hfz66_11 := blk_frozen BK276.out 11; have hfz66_12 := blk_frozen BK276.out 12; have hfz66_13 := blk_frozen BK276.out 13; have hfz66_14 := blk_frozen BK276.out 14; have hfz66_15 := blk_frozen BK276.out 15) | ((with_reducible refine gate_store (t := 23) (p := 3) rfl ?_); (try (rw [drewN_self w65]; generalize hq_ : World.drewN w65 _ = w65; have n0_ := Aside0.mk (blk_at hq_ BK276.out); have n1_ := Aside0.mk (below_at hq_ HB.out); clear hq_ BK276 HB; have BK276 := n0_; have HB := n1_; clear n0_ n1_)); refine store_event (t := 23) (p := 3) (v := ?vo_w67) (w1 := ((((((((((((((((w65.setCell ⟨gb276, 0, none⟩ (.int .i64 t259)).setCell ⟨gb276, 1, none⟩ (.int .i64 t260)).setCell ⟨gb276, 2, none⟩ (.int .i64 t261)).setCell ⟨gb276, 3, none⟩ (.int .i64 t262)).setCell ⟨gb276, 4, none⟩ (.int .i64 t263)).setCell ⟨gb276, 5, none⟩ (.int .i64 t264)).setCell ⟨gb276, 6, none⟩ (.int .i64 t265)).setCell ⟨gb276, 7, none⟩ (.int .i64 t266)).setCell ⟨gb276, 8, none⟩ (.int .i64 t267)).setCell ⟨gb276, 9, none⟩ (.int .i64 t268)).setCell ⟨gb276, 10, none⟩ (.int .i64 t269)).setCell ⟨gb276, 11, none⟩ (.int .i64 t270)).setCell ⟨gb276, 12, none⟩ (.int .i64 t271)).setCell ⟨gb276, 13, none⟩ (.int .i64 t272)).setCell ⟨gb276, 14, none⟩ (.int .i64 t273)).setCell ⟨gb276, 15, none⟩ (.int .i64 t274))) ?hg ?ho ?hn ?hr ?_; (case ho => rfl); (case hg => rfl); (case hn => rfl); (case hr => first | (go_simp; done) | (go_simp; rfl)); intro w67 hw; have n0_ : Aside0 (w67.heap[gb276]? = some (.cells #[.int .i64 t259, .int .i64 t260, .int .i64 t261, .int .i64 t262, .int .i64 t263, .int .i64 t264, .int .i64 t265, .int .i64 t266, .int .i64 t267, .int .i64 t268, .int .i64 t269, .int .i64 t270, .int .i64 t271, .int .i64 t272, .int .i64 t273, .int .i64 t274] 23 (0, 0))) := ⟨(by rw [hw]; exact (by (with_reducible repeat (first | refine blk_drewN ?_ _ | refine blk_drew ?_ | refine blk_alloc ?_ _)); refine blk_put (cs := #[.int .i64 t259, .int .i64 t260, .int .i64 t261, .int .i64 t262, .int .i64 t263, .int .i64 t264, .int .i64 t265, .int .i64 t266, .int .i64 t267, .int .i64 t268, .int .i64 t269, .int .i64 t270, .int .i64 t271, .int .i64 t272, .int .i64 t273, .int .i64 0]) ?_ 15 _ rfl; (with_reducible repeat (first | refine blk_drewN ?_ _ | refine blk_drew ?_ | refine blk_alloc ?_ _)); refine blk_put (cs := #[.int .i64 t259, .int .i64 t260, .int .i64 t261, .int .i64 t262, .int .i64 t263, .int .i64 t264, .int .i64 t265, .int .i64 t266, .int .i64 t267, .int .i64 t268, .int .i64 t269, .int .i64 t270, .int .i64 t271, .int .i64 t272, .int .i64 0, .int .i64 0]) ?_ 14 _ rfl; (with_reducible repeat (first | refine blk_drewN ?_ _ | refine blk_drew ?_ | refine blk_alloc ?_ _)); refine blk_put (cs := #[.int .i64 t259, .int .i64 t260, .int .i64 t261, .int .i64 t262, .int .i64 t263, .int .i64 t264, .int .i64 t265, .int .i64 t266, .int .i64 t267, .int .i64 t268, .int .i64 t269, .int .i64 t270, .int .i64 t271, .int .i64 0, .int .i64 0, .int .i64 0]) ?_ 13 _ rfl; (with_reducible repeat (first | refine blk_drewN ?_ _ | refine blk_drew ?_ | refine blk_alloc ?_ _)); refine blk_put (cs := #[.int .i64 t259, .int .i64 t260, .int .i64 t261, .int .i64 t262, .int .i64 t263, .int .i64 t264, .int .i64 t265, .int .i64 t266, .int .i64 t267, .int .i64 t268, .int .i64 t269, .int .i64 t270, .int .i64 0, .int .i64 0, .int .i64 0, .int .i64 0]) ?_ 12 _ rfl; (with_reducible repeat (first | refine blk_drewN ?_ _ | refine blk_drew ?_ | refine blk_alloc ?_ _)); refine blk_put (cs := #[.int .i64 t259, .int .i64 t260, .int .i64 t261, .int .i64 t262, .int .i64 t263, .int .i64 t264, .int .i64 t265, .int .i64 t266, .int .i64 t267, .int .i64 t268, .int .i64 t269, .int .i64 0, .int .i64 0, .int .i64 0, .int .i64 0, .int .i64 0]) ?_ 11 _ rfl; (with_reducible repeat (first | refine blk_drewN ?_ _ | refine blk_drew ?_ | refine blk_alloc ?_ _)); refine blk_put (cs := #[.int .i64 t259, .int .i64 t260, .int .i64 t261, .int .i64 t262, .int .i64 t263, .int .i64 t264, .int .i64 t265, .int .i64 t266, .int .i64 t267, .int .i64 t268, .int .i64 0, .int .i64 0, .int .i64 0, .int .i64 0, .int .i64 0, .int .i64 0]) ?_ 10 _ rfl; (with_reducible repeat (first | refine blk_drewN ?_ _ | refine blk_drew ?_ | refine blk_alloc ?_ _)); refine blk_put (cs := #[.int .i64 t259, .int .i64 t260, .int .i64 t261, .int .i64 t262, .int .i64 t263, .int .i64 t264, .int .i64 t265, .int .i64 t266, .int .i64 t267, .int .i64 0, .int .i64 0, .int .i64 0, .int .i64 0, .int .i64 0, .int .i64 0, .int .i64 0]) ?_ 9 _ rfl; (with_reducible repeat (first | refine blk_drewN ?_ _ | refine blk_drew ?_ | refine blk_alloc ?_ _)); refine blk_put (cs := #[.int .i64 t259, .int .i64 t260, .int .i64 t261, .int .i64 t262, .int .i64 t263, .int .i64 t264, .int .i64 t265, .int .i64 t266, .int .i64 0, .int .i64 0, .int .i64 0, .int .i64 0, .int .i64 0, .int .i64 0, .int .i64 0, .int .i64 0]) ?_ 8 _ rfl; (with_reducible repeat (first | refine blk_drewN ?_ _ | refine blk_drew ?_ | refine blk_alloc ?_ _)); refine blk_put (cs := #[.int .i64 t259, .int .i64 t260, .int .i64 t261, .int .i64 t262, .int .i64 t263, .int .i64 t264, .int .i64 t265, .int .i64 0, .int .i64 0, .int .i64 0, .int .i64 0, .int .i64 0, .int .i64 0, .int .i64 0, .int .i64 0, .int .i64 0]) ?_ 7 _ rfl; (with_reducible repeat (first | refine blk_drewN ?_ _ | refine blk_drew ?_ | refine blk_alloc ?_ _)); refine blk_put (cs := #[.int .i64 t259, .int .i64 t260, .int .i64 t261, .int .i64 t262, .int .i64 t263, .int .i64 t264, .int .i64 0, .int .i64 0, .int .i64 0, .int .i64 0, .int .i64 0, .int .i64 0, .int .i64 0, .int .i64 0, .int .i64 0, .int .i64 0]) ?_ 6 _ rfl; (with_reducible repeat (first | refine blk_drewN ?_ _ | refine blk_drew ?_ | refine blk_alloc ?_ _)); refine blk_put (cs := #[.int .i64 t259, .int .i64 t260, .int .i64 t261, .int .i64 t262, .int .i64 t263, .int .i64 0, .int .i64 0, .int .i64 0, .int .i64 0, .int .i64 0, .int .i64 0, .int .i64 0, .int .i64 0, .int .i64 0, .int .i64 0, .int .i64 0]) ?_ 5 _ rfl; (with_reducible repeat (first | refine blk_drewN ?_ _ | refine blk_drew ?_ | refine blk_alloc ?_ _)); refine blk_put (cs := #[.int .i64 t259, .int .i64 t260, .int .i64 t261, .int .i64 t262, .int .i64 0, .int .i64 0, .int .i64 0, .int .i64 0, .int .i64 0, .int .i64 0, .int .i64 0, .int .i64 0, .int .i64 0, .int .i64 0, .int .i64 0, .int .i64 0]) ?_ 4 _ rfl; (with_reducible repeat (first | refine blk_drewN ?_ _ | refine blk_drew ?_ | refine blk_alloc ?_ _)); refine blk_put (cs := #[.int .i64 t259, .int .i64 t260, .int .i64 t261, .int .i64 0, .int .i64 0, .int .i64 0, .int .i64 0, .int .i64 0, .int .i64 0, .int .i64 0, .int .i64 0, .int .i64 0, .int .i64 0, .int .i64 0, .int .i64 0, .int .i64 0]) ?_ 3 _ rfl; (with_reducible repeat (first | refine blk_drewN ?_ _ | refine blk_drew ?_ | refine blk_alloc ?_ _)); refine blk_put (cs := #[.int .i64 t259, .int .i64 t260, .int .i64 0, .int .i64 0, .int .i64 0, .int .i64 0, .int .i64 0, .int .i64 0, .int .i64 0, .int .i64 0, .int .i64 0, .int .i64 0, .int .i64 0, .int .i64 0, .int .i64 0, .int .i64 0]) ?_ 2 _ rfl; (with_reducible repeat (first | refine blk_drewN ?_ _ | refine blk_drew ?_ | refine blk_alloc ?_ _)); refine blk_put (cs := #[.int .i64 t259, .int .i64 0, .int .i64 0, .int .i64 0, .int .i64 0, .int .i64 0, .int .i64 0, .int .i64 0, .int .i64 0, .int .i64 0, .int .i64 0, .int .i64 0, .int .i64 0, .int .i64 0, .int .i64 0, .int .i64 0]) ?_ 1 _ rfl; (with_reducible repeat (first | refine blk_drewN ?_ _ | refine blk_drew ?_ | refine blk_alloc ?_ _)); refine blk_put (cs := #[.int .i64 0, .int .i64 0, .int .i64 0, .int .i64 0, .int .i64 0, .int .i64 0, .int .i64 0, .int .i64 0, .int .i64 0, .int .i64 0, .int .i64 0, .int .i64 0, .int .i64 0, .int .i64 0, .int .i64 0, .int .i64 0]) ?_ 0 _ rfl; (with_reducible repeat (first | refine blk_drewN ?_ _ | refine blk_drew ?_ | refine blk_alloc ?_ _)); exact BK276.out))⟩; have n1_ : Aside0 (Below w.heap.size w w67) := ⟨(by rw [hw]; exact (by repeat (first | (with_reducible first | exact HB.out | apply below_alloc | apply pw_below_drewN | apply below_drew1 | refine below_set ?_ GE276.out) | exact HB.out)))⟩; clear hw; clear BK276; clear HB; have BK276 := n0_; have HB := n1_; clear n0_ n1_) | (go_at_call 16; (with_reducible refine (watchwordlaw0_Num.calls t275 t277 _ A5.out).mono ?_); rintro e w' ⟨rfl, ⟨nd, rfl⟩⟩; (try first | exact ⟨rfl, _, World.drewN_drewN _ _ _⟩ | exact ⟨rfl, _, Eq.trans (World.drewN_drewN _ _ _) (congrArg (World.drewN _) (Nat.add_assoc _ _ _))⟩); have hcz68_0 : w67.cell? ⟨gb276, 0, none⟩ = some (.int .i64 t259) := (blk_cell BK276.out 0).trans rfl; have hcz68_1 : w67.cell? ⟨gb276, 1, none⟩ = some (.int .i64 t260) := (blk_cell BK276.out 1).trans rfl; have hcz68_2 : w67.cell? ⟨gb276, 2, none⟩ = some (.int .i64 t261) := (blk_cell BK276.out 2).trans rfl; have hcz68_3 : w67.cell? ⟨gb276, 3, none⟩ = some (.int .i64 t262) := (blk_cell BK276.out 3).trans rfl; have hcz68_4 : w67.cell? ⟨gb276, 4, none⟩ = some (.int .i64 t263) := (blk_cell BK276.out 4).trans rfl; have hcz68_5 : w67.cell? ⟨gb276, 5, none⟩ = some (.int .i64 t264) := (blk_cell BK276.out 5).trans rfl; have hcz68_6 : w67.cell? ⟨gb276, 6, none⟩ = some (.int .i64 t265) := (blk_cell BK276.out 6).trans rfl; have hcz68_7 : w67.cell? ⟨gb276, 7, none⟩ = some (.int .i64 t266) := (blk_cell BK276.out 7).trans rfl; have hcz68_8 : w67.cell? ⟨gb276, 8, none⟩ = some (.int .i64 t267) := (blk_cell BK276.out 8).trans rfl; have hcz68_9 : w67.cell? ⟨gb276, 9, none⟩ = some (.int .i64 t268) := (blk_cell BK276.out 9).trans rfl; have hcz68_10 : w67.cell? ⟨gb276, 10, none⟩ = some (.int .i64 t269) := (blk_cell BK276.out 10).trans rfl; have hcz68_11 : w67.cell? ⟨gb276, 11, none⟩ = some (.int .i64 t270) := (blk_cell BK276.out 11).trans rfl; have hcz68_12 : w67.cell? ⟨gb276, 12, none⟩ = some (.int .i64 t271) := (blk_cell BK276.out 12).trans rfl; have hcz68_13 : w67.cell? ⟨gb276, 13, none⟩ = some (.int .i64 t272) := (blk_cell BK276.out 13).trans rfl; have hcz68_14 : w67.cell? ⟨gb276, 14, none⟩ = some (.int .i64 t273) := (blk_cell BK276.out 14).trans rfl; have hcz68_15 : w67.cell? ⟨gb276, 15, none⟩ = some (.int .i64 t274) := (blk_cell BK276.out 15).trans rfl; have hfz68_0 := blk_frozen BK276.out 0; have hfz68_1 := blk_frozen BK276.out 1; have hfz68_2 := blk_frozen BK276.out 2; have hfz68_3 := blk_frozen BK276.out 3; have hfz68_4 := blk_frozen BK276.out 4; have hfz68_5 := blk_frozen BK276.out 5; have hfz68_6 := blk_frozen BK276.out 6; have hfz68_7 := blk_frozen BK276.out 7; have hfz68_8 := blk_frozen BK276.out 8; have hfz68_9 := blk_frozen BK276.out 9; have hfz68_10 := blk_frozen BK276.out 10; have hfz68_11 := blk_frozen BK276.out 11; have hfz68_12 := blk_frozen BK276.out 12; have hfz68_13 := blk_frozen BK276.out 13; have hfz68_14 := blk_frozen BK276.out 14; have hfz68_15 := blk_frozen BK276.out 15))
   repeat (go_quiet (first | (go_at_call 25; (with_reducible refine (watchwordlaw20_awake.calls k  true _ A2.out (by first | rfl | exact HT.out)).mono ?_); rintro e w63 ⟨rfl, hb⟩; have n0_ := Aside0.mk (below_step (by repeat (first | (with_reducible first | exact HB.out | apply below_alloc | apply pw_below_drewN | apply below_drew1) | exact HB.out)) hb); clear HB; have HB := n0_; clear n0_; (try clear hb); (try clear hb2); (try clear hk); (try clear hi)) | (go_at_call 21; (with_reducible refine (graph_Of.calls k _ _ l0 t259 t260 t261 t262 t263 t264 t265 t266 t267 t268 t269 t270 t271 t272 t273 t274 t275 _ ?side1 ?side2 A4.out).mono ?_); (case side1 => repeat (first | exact (Kd.C_below HR0.out HB.out) | (with_reducible refine Kd.C_alloc ?_ _) | (with_reducible refine Kd.C_drewN ?_ _) | (with_reducible refine Kd.C_drew ?_))); (case side2 => exact HC0.out); rintro e w64 ⟨rfl, hb⟩; have n0_ := Aside0.mk (below_step (by repeat (first | (with_reducible first | exact HB.out | apply below_alloc | apply pw_below_drewN | apply below_drew1) | exact HB.out)) hb); clear HB; have HB := n0_; clear n0_; (try clear hb); (try clear hb2); (try clear hk); (try clear hi)) | ((with_reducible refine gate_dst (N := 3) rfl ?_); refine box_event ?hg (N := 3) ?hd (cs := #[.int .i64 0, .int .i64 0, .int .i64 0, .int .i64 0, .int .i64 0, .int .i64 0, .int .i64 0, .int .i64 0, .int .i64 0, .int .i64 0, .int .i64 0, .int .i64 0, .int .i64 0, .int .i64 0, .int .i64 0, .int .i64 0]) (t := 23) ?hr ?_; (case hd => rfl); (case hg => rfl); (case hr => first | (go_simp; done) | (go_simp; rfl)); intro gb276 hg w65 hbox hb; have n0_ := Aside0.mk (below_step (by repeat (first | (with_reducible first | exact HB.out | apply below_alloc | apply pw_below_drewN | apply below_drew1) | exact HB.out)) hb); have n1_ := Aside0.mk (hbox); have n2_ := Aside0.mk ((by rw [hg]; exact (below_size (by repeat (first | (with_reducible first | exact HB.out | apply below_alloc | apply pw_below_drewN | apply below_drew1) | exact HB.out))) : w.heap.size ≤ gb276)); have n3_ := Aside0.mk ((by rw [hg]; exact (below_size (by repeat (first | (with_reducible first | exact HB.out | apply below_alloc | apply pw_below_drewN | apply below_drew1) | exact HB.out))) : w.heap.size ≤ gb276)); clear HB; have HB := n0_; have BK276 := n1_; have GW276 := n2_; have GE276 := n3_; clear n0_ n1_ n2_ n3_; clear hb hbox hg; have hcz66_0 : w65.cell? ⟨gb276, 0, none⟩ = some (.int .i64 0) := (blk_cell BK276.out 0).trans rfl; have hcz66_1 : w65.cell? ⟨gb276, 1, none⟩ = some (.int .i64 0) := (blk_cell BK276.out 1).trans rfl; have hcz66_2 : w65.cell? ⟨gb276, 2, none⟩ = some (.int .i64 0) := (blk_cell BK276.out 2).trans rfl; have hcz66_3 : w65.cell? ⟨gb276, 3, none⟩ = some (.int .i64 0) := (blk_cell BK276.out 3).trans rfl; have hcz66_4 : w65.cell? ⟨gb276, 4, none⟩ = some (.int .i64 0) := (blk_cell BK276.out 4).trans rfl; have hcz66_5 : w65.cell? ⟨gb276, 5, none⟩ = some (.int .i64 0) := (blk_cell BK276.out 5).trans rfl; have hcz66_6 : w65.cell? ⟨gb276, 6, none⟩ = some (.int .i64 0) := (blk_cell BK276.out 6).trans rfl; have hcz66_7 : w65.cell? ⟨gb276, 7, none⟩ = some (.int .i64 0) := (blk_cell BK276.out 7).trans rfl; have hcz66_8 : w65.cell? ⟨gb276, 8, none⟩ = some (.int .i64 0) := (blk_cell BK276.out 8).trans rfl; have hcz66_9 : w65.cell? ⟨gb276, 9, none⟩ = some (.int .i64 0) := (blk_cell BK276.out 9).trans rfl; have hcz66_10 : w65.cell? ⟨gb276, 10, none⟩ = some (.int .i64 0) := (blk_cell BK276.out 10).trans rfl; have hcz66_11 : w65.cell? ⟨gb276, 11, none⟩ = some (.int .i64 0) := (blk_cell BK276.out 11).trans rfl; have hcz66_12 : w65.cell? ⟨gb276, 12, none⟩ = some (.int .i64 0) := (blk_cell BK276.out 12).trans rfl; have hcz66_13 : w65.cell? ⟨gb276, 13, none⟩ = some (.int .i64 0) := (blk_cell BK276.out 13).trans rfl; have hcz66_14 : w65.cell? ⟨gb276, 14, none⟩ = some (.int .i64 0) := (blk_cell BK276.out 14).trans rfl; have hcz66_15 : w65.cell? ⟨gb276, 15, none⟩ = some (.int .i64 0) := (blk_cell BK276.out 15).trans rfl; have hfz66_0 := blk_frozen BK276.out 0; have hfz66_1 := blk_frozen BK276.out 1; have hfz66_2 := blk_frozen BK276.out 2; have hfz66_3 := blk_frozen BK276.out 3; have hfz66_4 := blk_frozen BK276.out 4; have hfz66_5 := blk_frozen BK276.out 5; have hfz66_6 := blk_frozen BK276.out 6; have hfz66_7 := blk_frozen BK276.out 7; have hfz66_8 := blk_frozen BK276.out 8; have hfz66_9 := blk_frozen BK276.out 9; have hfz66_10 := blk_frozen BK276.out 10; have hfz66_11 := blk_frozen BK276.out 11; have hfz66_12 := blk_frozen BK276.out 12; have hfz66_13 := blk_frozen BK276.out 13; have hfz66_14 := blk_frozen BK276.out 14; have hfz66_15 := blk_frozen BK276.out 15) | ((with_reducible refine gate_store (t := 23) (p := 3) rfl ?_); (try (rw [drewN_self w65]; generalize hq_ : World.drewN w65 _ = w65; have n0_ := Aside0.mk (blk_at hq_ BK276.out); have n1_ := Aside0.mk (below_at hq_ HB.out); clear hq_ BK276 HB; have BK276 := n0_; have HB := n1_; clear n0_ n1_)); refine store_event (t := 23) (p := 3) (v := ?vo_w67) (w1 := ((((((((((((((((w65.setCell ⟨gb276, 0, none⟩ (.int .i64 t259)).setCell ⟨gb276, 1, none⟩ (.int .i64 t260)).setCell ⟨gb276, 2, none⟩ (.int .i64 t261)).setCell ⟨gb276, 3, none⟩ (.int .i64 t262)).setCell ⟨gb276, 4, none⟩ (.int .i64 t263)).setCell ⟨gb276, 5, none⟩ (.int .i64 t264)).setCell ⟨gb276, 6, none⟩ (.int .i64 t265)).setCell ⟨gb276, 7, none⟩ (.int .i64 t266)).setCell ⟨gb276, 8, none⟩ (.int .i64 t267)).setCell ⟨gb276, 9, none⟩ (.int .i64 t268)).setCell ⟨gb276, 10, none⟩ (.int .i64 t269)).setCell ⟨gb276, 11, none⟩ (.int .i64 t270)).setCell ⟨gb276, 12, none⟩ (.int .i64 t271)).setCell ⟨gb276, 13, none⟩ (.int .i64 t272)).setCell ⟨gb276, 14, none⟩ (.int .i64 t273)).setCell ⟨gb276, 15, none⟩ (.int .i64 t274))) ?hg ?ho ?hn ?hr ?_; (case ho => rfl); (case hg => rfl); (case hn => rfl); (case hr => first | (go_simp; done) | (go_simp; rfl)); intro w67 hw; have n0_ : Aside0 (w67.heap[gb276]? = some (.cells #[.int .i64 t259, .int .i64 t260, .int .i64 t261, .int .i64 t262, .int .i64 t263, .int .i64 t264, .int .i64 t265, .int .i64 t266, .int .i64 t267, .int .i64 t268, .int .i64 t269, .int .i64 t270, .int .i64 t271, .int .i64 t272, .int .i64 t273, .int .i64 t274] 23 (0, 0))) := ⟨(by rw [hw]; exact (by (with_reducible repeat (first | refine blk_drewN ?_ _ | refine blk_drew ?_ | refine blk_alloc ?_ _)); refine blk_put (cs := #[.int .i64 t259, .int .i64 t260, .int .i64 t261, .int .i64 t262, .int .i64 t263, .int .i64 t264, .int .i64 t265, .int .i64 t266, .int .i64 t267, .int .i64 t268, .int .i64 t269, .int .i64 t270, .int .i64 t271, .int .i64 t272, .int .i64 t273, .int .i64 0]) ?_ 15 _ rfl; (with_reducible repeat (first | refine blk_drewN ?_ _ | refine blk_drew ?_ | refine blk_alloc ?_ _)); refine blk_put (cs := #[.int .i64 t259, .int .i64 t260, .int .i64 t261, .int .i64 t262, .int .i64 t263, .int .i64 t264, .int .i64 t265, .int .i64 t266, .int .i64 t267, .int .i64 t268, .int .i64 t269, .int .i64 t270, .int .i64 t271, .int .i64 t272, .int .i64 0, .int .i64 0]) ?_ 14 _ rfl; (with_reducible repeat (first | refine blk_drewN ?_ _ | refine blk_drew ?_ | refine blk_alloc ?_ _)); refine blk_put (cs := #[.int .i64 t259, .int .i64 t260, .int .i64 t261, .int .i64 t262, .int .i64 t263, .int .i64 t264, .int .i64 t265, .int .i64 t266, .int .i64 t267, .int .i64 t268, .int .i64 t269, .int .i64 t270, .int .i64 t271, .int .i64 0, .int .i64 0, .int .i64 0]) ?_ 13 _ rfl; (with_reducible repeat (first | refine blk_drewN ?_ _ | refine blk_drew ?_ | refine blk_alloc ?_ _)); refine blk_put (cs := #[.int .i64 t259, .int .i64 t260, .int .i64 t261, .int .i64 t262, .int .i64 t263, .int .i64 t264, .int .i64 t265, .int .i64 t266, .int .i64 t267, .int .i64 t268, .int .i64 t269, .int .i64 t270, .int .i64 0, .int .i64 0, .int .i64 0, .int .i64 0]) ?_ 12 _ rfl; (with_reducible repeat (first | refine blk_drewN ?_ _ | refine blk_drew ?_ | refine blk_alloc ?_ _)); refine blk_put (cs := #[.int .i64 t259, .int .i64 t260, .int .i64 t261, .int .i64 t262, .int .i64 t263, .int .i64 t264, .int .i64 t265, .int .i64 t266, .int .i64 t267, .int .i64 t268, .int .i64 t269, .int .i64 0, .int .i64 0, .int .i64 0, .int .i64 0, .int .i64 0]) ?_ 11 _ rfl; (with_reducible repeat (first | refine blk_drewN ?_ _ | refine blk_drew ?_ | refine blk_alloc ?_ _)); refine blk_put (cs := #[.int .i64 t259, .int .i64 t260, .int .i64 t261, .int .i64 t262, .int .i64 t263, .int .i64 t264, .int .i64 t265, .int .i64 t266, .int .i64 t267, .int .i64 t268, .int .i64 0, .int .i64 0, .int .i64 0, .int .i64 0, .int .i64 0, .int .i64 0]) ?_ 10 _ rfl; (with_reducible repeat (first | refine blk_drewN ?_ _ | refine blk_drew ?_ | refine blk_alloc ?_ _)); refine blk_put (cs := #[.int .i64 t259, .int .i64 t260, .int .i64 t261, .int .i64 t262, .int .i64 t263, .int .i64 t264, .int .i64 t265, .int .i64 t266, .int .i64 t267, .int .i64 0, .int .i64 0, .int .i64 0, .int .i64 0, .int .i64 0, .int .i64 0, .int .i64 0]) ?_ 9 _ rfl; (with_reducible repeat (first | refine blk_drewN ?_ _ | refine blk_drew ?_ | refine blk_alloc ?_ _)); refine blk_put (cs := #[.int .i64 t259, .int .i64 t260, .int .i64 t261, .int .i64 t262, .int .i64 t263, .int .i64 t264, .int .i64 t265, .int .i64 t266, .int .i64 0, .int .i64 0, .int .i64 0, .int .i64 0, .int .i64 0, .int .i64 0, .int .i64 0, .int .i64 0]) ?_ 8 _ rfl; (with_reducible repeat (first | refine blk_drewN ?_ _ | refine blk_drew ?_ | refine blk_alloc ?_ _)); refine blk_put (cs := #[.int .i64 t259, .int .i64 t260, .int .i64 t261, .int .i64 t262, .int .i64 t263, .int .i64 t264, .int .i64 t265, .int .i64 0, .int .i64 0, .int .i64 0, .int .i64 0, .int .i64 0, .int .i64 0, .int .i64 0, .int .i64 0, .int .i64 0]) ?_ 7 _ rfl; (with_reducible repeat (first | refine blk_drewN ?_ _ | refine blk_drew ?_ | refine blk_alloc ?_ _)); refine blk_put (cs := #[.int .i64 t259, .int .i64 t260, .int .i64 t261, .int .i64 t262, .int .i64 t263, .int .i64 t264, .int .i64 0, .int .i64 0, .int .i64 0, .int .i64 0, .int .i64 0, .int .i64 0, .int .i64 0, .int .i64 0, .int .i64 0, .int .i64 0]) ?_ 6 _ rfl; (with_reducible repeat (first | refine blk_drewN ?_ _ | refine blk_drew ?_ | refine blk_alloc ?_ _)); refine blk_put (cs := #[.int .i64 t259, .int .i64 t260, .int .i64 t261, .int .i64 t262, .int .i64 t263, .int .i64 0, .int .i64 0, .int .i64 0, .int .i64 0, .int .i64 0, .int .i64 0, .int .i64 0, .int .i64 0, .int .i64 0, .int .i64 0, .int .i64 0]) ?_ 5 _ rfl; (with_reducible repeat (first | refine blk_drewN ?_ _ | refine blk_drew ?_ | refine blk_alloc ?_ _)); refine blk_put (cs := #[.int .i64 t259, .int .i64 t260, .int .i64 t261, .int .i64 t262, .int .i64 0, .int .i64 0, .int .i64 0, .int .i64 0, .int .i64 0, .int .i64 0, .int .i64 0, .int .i64 0, .int .i64 0, .int .i64 0, .int .i64 0, .int .i64 0]) ?_ 4 _ rfl; (with_reducible repeat (first | refine blk_drewN ?_ _ | refine blk_drew ?_ | refine blk_alloc ?_ _)); refine blk_put (cs := #[.int .i64 t259, .int .i64 t260, .int .i64 t261, .int .i64 0, .int .i64 0, .int .i64 0, .int .i64 0, .int .i64 0, .int .i64 0, .int .i64 0, .int .i64 0, .int .i64 0, .int .i64 0, .int .i64 0, .int .i64 0, .int .i64 0]) ?_ 3 _ rfl; (with_reducible repeat (first | refine blk_drewN ?_ _ | refine blk_drew ?_ | refine blk_alloc ?_ _)); refine blk_put (cs := #[.int .i64 t259, .int .i64 t260, .int .i64 0, .int .i64 0, .int .i64 0, .int .i64 0, .int .i64 0, .int .i64 0, .int .i64 0, .int .i64 0, .int .i64 0, .int .i64 0, .int .i64 0, .int .i64 0, .int .i64 0, .int .i64 0]) ?_ 2 _ rfl; (with_reducible repeat (first | refine blk_drewN ?_ _ | refine blk_drew ?_ | refine blk_alloc ?_ _)); refine blk_put (cs := #[.int .i64 t259, .int .i64 0, .int .i64 0, .int .i64 0, .int .i64 0, .int .i64 0, .int .i64 0, .int .i64 0, .int .i64 0, .int .i64 0, .int .i64 0, .int .i64 0, .int .i64 0, .int .i64 0, .int .i64 0, .int .i64 0]) ?_ 1 _ rfl; (with_reducible repeat (first | refine blk_drewN ?_ _ | refine blk_drew ?_ | refine blk_alloc ?_ _)); refine blk_put (cs := #[.int .i64 0, .int .i64 0, .int .i64 0, .int .i64 0, .int .i64 0, .int .i64 0, .int .i64 0, .int .i64 0, .int .i64 0, .int .i64 0, .int .i64 0, .int .i64 0, .int .i64 0, .int .i64 0, .int .i64 0, .int .i64 0]) ?_ 0 _ rfl; (with_reducible repeat (first | refine blk_drewN ?_ _ | refine blk_drew ?_ | refine blk_alloc ?_ _)); exact BK276.out))⟩; have n1_ : Aside0 (Below w.heap.size w w67) := ⟨(by rw [hw]; exact (by repeat (first | (with_reducible first | exact HB.out | apply below_alloc | apply pw_below_drewN | apply below_drew1 | refine below_set ?_ GE276.out) | exact HB.out)))⟩; clear hw; clear BK276; clear HB; have BK276 := n0_; have HB := n1_; clear n0_ n1_) | (go_at_call 16; (with_reducible refine (watchwordlaw0_Num.calls t275 t277 _ A5.out).mono ?_); rintro e w' ⟨rfl, ⟨nd, rfl⟩⟩; (try first | exact ⟨rfl, _, World.drewN_drewN _ _ _⟩ | exact ⟨rfl, _, Eq.trans (World.drewN_drewN _ _ _) (congrArg (World.drewN _) (Nat.add_assoc _ _ _))⟩); have hcz68_0 : w67.cell? ⟨gb276, 0, none⟩ = some (.int .i64 t259) := (blk_cell BK276.out 0).trans rfl; have hcz68_1 : w67.cell? ⟨gb276, 1, none⟩ = some (.int .i64 t260) := (blk_cell BK276.out 1).trans rfl; have hcz68_2 : w67.cell? ⟨gb276, 2, none⟩ = some (.int .i64 t261) := (blk_cell BK276.out 2).trans rfl; have hcz68_3 : w67.cell? ⟨gb276, 3, none⟩ = some (.int .i64 t262) := (blk_cell BK276.out 3).trans rfl; have hcz68_4 : w67.cell? ⟨gb276, 4, none⟩ = some (.int .i64 t263) := (blk_cell BK276.out 4).trans rfl; have hcz68_5 : w67.cell? ⟨gb276, 5, none⟩ = some (.int .i64 t264) := (blk_cell BK276.out 5).trans rfl; have hcz68_6 : w67.cell? ⟨gb276, 6, none⟩ = some (.int .i64 t265) := (blk_cell BK276.out 6).trans rfl; have hcz68_7 : w67.cell? ⟨gb276, 7, none⟩ = some (.int .i64 t266) := (blk_cell BK276.out 7).trans rfl; have hcz68_8 : w67.cell? ⟨gb276, 8, none⟩ = some (.int .i64 t267) := (blk_cell BK276.out 8).trans rfl; have hcz68_9 : w67.cell? ⟨gb276, 9, none⟩ = some (.int .i64 t268) := (blk_cell BK276.out 9).trans rfl; have hcz68_10 : w67.cell? ⟨gb276, 10, none⟩ = some (.int .i64 t269) := (blk_cell BK276.out 10).trans rfl; have hcz68_11 : w67.cell? ⟨gb276, 11, none⟩ = some (.int .i64 t270) := (blk_cell BK276.out 11).trans rfl; have hcz68_12 : w67.cell? ⟨gb276, 12, none⟩ = some (.int .i64 t271) := (blk_cell BK276.out 12).trans rfl; have hcz68_13 : w67.cell? ⟨gb276, 13, none⟩ = some (.int .i64 t272) := (blk_cell BK276.out 13).trans rfl; have hcz68_14 : w67.cell? ⟨gb276, 14, none⟩ = some (.int .i64 t273) := (blk_cell BK276.out 14).trans rfl; have hcz68_15 : w67.cell? ⟨gb276, 15, none⟩ = some (.int .i64 t274) := (blk_cell BK276.out 15).trans rfl; have hfz68_0 := blk_frozen BK276.out 0; have hfz68_1 := blk_frozen BK276.out 1; have hfz68_2 := blk_frozen BK276.out 2; have hfz68_3 := blk_frozen BK276.out 3; have hfz68_4 := blk_frozen BK276.out 4; have hfz68_5 := blk_frozen BK276.out 5; have hfz68_6 := blk_frozen BK276.out 6; have hfz68_7 := blk_frozen BK276.out 7; have hfz68_8 := blk_frozen BK276.out 8; have hfz68_9 := blk_frozen BK276.out 9; have hfz68_10 := blk_frozen BK276.out 10; have hfz68_11 := blk_frozen BK276.out 11; have hfz68_12 := blk_frozen BK276.out 12; have hfz68_13 := blk_frozen BK276.out 13; have hfz68_14 := blk_frozen BK276.out 14; have hfz68_15 := blk_frozen BK276.out 15)); try go_wp2_with (first | (go_at_call 25; (with_reducible refine (watchwordlaw20_awake.calls k  true _ A2.out (by first | rfl | exact HT.out)).mono ?_); rintro e w63 ⟨rfl, hb⟩; have n0_ := Aside0.mk (below_step (by repeat (first | (with_reducible first | exact HB.out | apply below_alloc | apply pw_below_drewN | apply below_drew1) | exact HB.out)) hb); clear HB; have HB := n0_; clear n0_; (try clear hb); (try clear hb2); (try clear hk); (try clear hi)) | (go_at_call 21; (with_reducible refine (graph_Of.calls k _ _ l0 t259 t260 t261 t262 t263 t264 t265 t266 t267 t268 t269 t270 t271 t272 t273 t274 t275 _ ?side1 ?side2 A4.out).mono ?_); (case side1 => repeat (first | exact (Kd.C_below HR0.out HB.out) | (with_reducible refine Kd.C_alloc ?_ _) | (with_reducible refine Kd.C_drewN ?_ _) | (with_reducible refine Kd.C_drew ?_))); (case side2 => exact HC0.out); rintro e w64 ⟨rfl, hb⟩; have n0_ := Aside0.mk (below_step (by repeat (first | (with_reducible first | exact HB.out | apply below_alloc | apply pw_below_drewN | apply below_drew1) | exact HB.out)) hb); clear HB; have HB := n0_; clear n0_; (try clear hb); (try clear hb2); (try clear hk); (try clear hi)) | ((with_reducible refine gate_dst (N := 3) rfl ?_); refine box_event ?hg (N := 3) ?hd (cs := #[.int .i64 0, .int .i64 0, .int .i64 0, .int .i64 0, .int .i64 0, .int .i64 0, .int .i64 0, .int .i64 0, .int .i64 0, .int .i64 0, .int .i64 0, .int .i64 0, .int .i64 0, .int .i64 0, .int .i64 0, .int .i64 0]) (t := 23) ?hr ?_; (case hd => rfl); (case hg => rfl); (case hr => first | (go_simp; done) | (go_simp; rfl)); intro gb276 hg w65 hbox hb; have n0_ := Aside0.mk (below_step (by repeat (first | (with_reducible first | exact HB.out | apply below_alloc | apply pw_below_drewN | apply below_drew1) | exact HB.out)) hb); have n1_ := Aside0.mk (hbox); have n2_ := Aside0.mk ((by rw [hg]; exact (below_size (by repeat (first | (with_reducible first | exact HB.out | apply below_alloc | apply pw_below_drewN | apply below_drew1) | exact HB.out))) : w.heap.size ≤ gb276)); have n3_ := Aside0.mk ((by rw [hg]; exact (below_size (by repeat (first | (with_reducible first | exact HB.out | apply below_alloc | apply pw_below_drewN | apply below_drew1) | exact HB.out))) : w.heap.size ≤ gb276)); clear HB; have HB := n0_; have BK276 := n1_; have GW276 := n2_; have GE276 := n3_; clear n0_ n1_ n2_ n3_; clear hb hbox hg; have hcz66_0 : w65.cell? ⟨gb276, 0, none⟩ = some (.int .i64 0) := (blk_cell BK276.out 0).trans rfl; have hcz66_1 : w65.cell? ⟨gb276, 1, none⟩ = some (.int .i64 0) := (blk_cell BK276.out 1).trans rfl; have hcz66_2 : w65.cell? ⟨gb276, 2, none⟩ = some (.int .i64 0) := (blk_cell BK276.out 2).trans rfl; have hcz66_3 : w65.cell? ⟨gb276, 3, none⟩ = some (.int .i64 0) := (blk_cell BK276.out 3).trans rfl; have hcz66_4 : w65.cell? ⟨gb276, 4, none⟩ = some (.int .i64 0) := (blk_cell BK276.out 4).trans rfl; have hcz66_5 : w65.cell? ⟨gb276, 5, none⟩ = some (.int .i64 0) := (blk_cell BK276.out 5).trans rfl; have hcz66_6 : w65.cell? ⟨gb276, 6, none⟩ = some (.int .i64 0) := (blk_cell BK276.out 6).trans rfl; have hcz66_7 : w65.cell? ⟨gb276, 7, none⟩ = some (.int .i64 0) := (blk_cell BK276.out 7).trans rfl; have hcz66_8 : w65.cell? ⟨gb276, 8, none⟩ = some (.int .i64 0) := (blk_cell BK276.out 8).trans rfl; have hcz66_9 : w65.cell? ⟨gb276, 9, none⟩ = some (.int .i64 0) := (blk_cell BK276.out 9).trans rfl; have hcz66_10 : w65.cell? ⟨gb276, 10, none⟩ = some (.int .i64 0) := (blk_cell BK276.out 10).trans rfl; have hcz66_11 : w65.cell? ⟨gb276, 11, none⟩ = some (.int .i64 0) := (blk_cell BK276.out 11).trans rfl; have hcz66_12 : w65.cell? ⟨gb276, 12, none⟩ = some (.int .i64 0) := (blk_cell BK276.out 12).trans rfl; have hcz66_13 : w65.cell? ⟨gb276, 13, none⟩ = some (.int .i64 0) := (blk_cell BK276.out 13).trans rfl; have hcz66_14 : w65.cell? ⟨gb276, 14, none⟩ = some (.int .i64 0) := (blk_cell BK276.out 14).trans rfl; have hcz66_15 : w65.cell? ⟨gb276, 15, none⟩ = some (.int .i64 0) := (blk_cell BK276.out 15).trans rfl; have hfz66_0 := blk_frozen BK276.out 0; have hfz66_1 := blk_frozen BK276.out 1; have hfz66_2 := blk_frozen BK276.out 2; have hfz66_3 := blk_frozen BK276.out 3; have hfz66_4 := blk_frozen BK276.out 4; have hfz66_5 := blk_frozen BK276.out 5; have hfz66_6 := blk_frozen BK276.out 6; have hfz66_7 := blk_frozen BK276.out 7; have hfz66_8 := blk_frozen BK276.out 8; have hfz66_9 := blk_frozen BK276.out 9; have hfz66_10 := blk_frozen BK276.out 10; have hfz66_11 := blk_frozen BK276.out 11; have hfz66_12 := blk_frozen BK276.out 12; have hfz66_13 := blk_frozen BK276.out 13; have hfz66_14 := blk_frozen BK276.out 14; have hfz66_15 := blk_frozen BK276.out 15) | ((with_reducible refine gate_store (t := 23) (p := 3) rfl ?_); (try (rw [drewN_self w65]; generalize hq_ : World.drewN w65 _ = w65; have n0_ := Aside0.mk (blk_at hq_ BK276.out); have n1_ := Aside0.mk (below_at hq_ HB.out); clear hq_ BK276 HB; have BK276 := n0_; have HB := n1_; clear n0_ n1_)); refine store_event (t := 23) (p := 3) (v := ?vo_w67) (w1 := ((((((((((((((((w65.setCell ⟨gb276, 0, none⟩ (.int .i64 t259)).setCell ⟨gb276, 1, none⟩ (.int .i64 t260)).setCell ⟨gb276, 2, none⟩ (.int .i64 t261)).setCell ⟨gb276, 3, none⟩ (.int .i64 t262)).setCell ⟨gb276, 4, none⟩ (.int .i64 t263)).setCell ⟨gb276, 5, none⟩ (.int .i64 t264)).setCell ⟨gb276, 6, none⟩ (.int .i64 t265)).setCell ⟨gb276, 7, none⟩ (.int .i64 t266)).setCell ⟨gb276, 8, none⟩ (.int .i64 t267)).setCell ⟨gb276, 9, none⟩ (.int .i64 t268)).setCell ⟨gb276, 10, none⟩ (.int .i64 t269)).setCell ⟨gb276, 11, none⟩ (.int .i64 t270)).setCell ⟨gb276, 12, none⟩ (.int .i64 t271)).setCell ⟨gb276, 13, none⟩ (.int .i64 t272)).setCell ⟨gb276, 14, none⟩ (.int .i64 t273)).setCell ⟨gb276, 15, none⟩ (.int .i64 t274))) ?hg ?ho ?hn ?hr ?_; (case ho => rfl); (case hg => rfl); (case hn => rfl); (case hr => first | (go_simp; done) | (go_simp; rfl)); intro w67 hw; have n0_ : Aside0 (w67.heap[gb276]? = some (.cells #[.int .i64 t259, .int .i64 t260, .int .i64 t261, .int .i64 t262, .int .i64 t263, .int .i64 t264, .int .i64 t265, .int .i64 t266, .int .i64 t267, .int .i64 t268, .int .i64 t269, .int .i64 t270, .int .i64 t271, .int .i64 t272, .int .i64 t273, .int .i64 t274] 23 (0, 0))) := ⟨(by rw [hw]; exact (by (with_reducible repeat (first | refine blk_drewN ?_ _ | refine blk_drew ?_ | refine blk_alloc ?_ _)); refine blk_put (cs := #[.int .i64 t259, .int .i64 t260, .int .i64 t261, .int .i64 t262, .int .i64 t263, .int .i64 t264, .int .i64 t265, .int .i64 t266, .int .i64 t267, .int .i64 t268, .int .i64 t269, .int .i64 t270, .int .i64 t271, .int .i64 t272, .int .i64 t273, .int .i64 0]) ?_ 15 _ rfl; (with_reducible repeat (first | refine blk_drewN ?_ _ | refine blk_drew ?_ | refine blk_alloc ?_ _)); refine blk_put (cs := #[.int .i64 t259, .int .i64 t260, .int .i64 t261, .int .i64 t262, .int .i64 t263, .int .i64 t264, .int .i64 t265, .int .i64 t266, .int .i64 t267, .int .i64 t268, .int .i64 t269, .int .i64 t270, .int .i64 t271, .int .i64 t272, .int .i64 0, .int .i64 0]) ?_ 14 _ rfl; (with_reducible repeat (first | refine blk_drewN ?_ _ | refine blk_drew ?_ | refine blk_alloc ?_ _)); refine blk_put (cs := #[.int .i64 t259, .int .i64 t260, .int .i64 t261, .int .i64 t262, .int .i64 t263, .int .i64 t264, .int .i64 t265, .int .i64 t266, .int .i64 t267, .int .i64 t268, .int .i64 t269, .int .i64 t270, .int .i64 t271, .int .i64 0, .int .i64 0, .int .i64 0]) ?_ 13 _ rfl; (with_reducible repeat (first | refine blk_drewN ?_ _ | refine blk_drew ?_ | refine blk_alloc ?_ _)); refine blk_put (cs := #[.int .i64 t259, .int .i64 t260, .int .i64 t261, .int .i64 t262, .int .i64 t263, .int .i64 t264, .int .i64 t265, .int .i64 t266, .int .i64 t267, .int .i64 t268, .int .i64 t269, .int .i64 t270, .int .i64 0, .int .i64 0, .int .i64 0, .int .i64 0]) ?_ 12 _ rfl; (with_reducible repeat (first | refine blk_drewN ?_ _ | refine blk_drew ?_ | refine blk_alloc ?_ _)); refine blk_put (cs := #[.int .i64 t259, .int .i64 t260, .int .i64 t261, .int .i64 t262, .int .i64 t263, .int .i64 t264, .int .i64 t265, .int .i64 t266, .int .i64 t267, .int .i64 t268, .int .i64 t269, .int .i64 0, .int .i64 0, .int .i64 0, .int .i64 0, .int .i64 0]) ?_ 11 _ rfl; (with_reducible repeat (first | refine blk_drewN ?_ _ | refine blk_drew ?_ | refine blk_alloc ?_ _)); refine blk_put (cs := #[.int .i64 t259, .int .i64 t260, .int .i64 t261, .int .i64 t262, .int .i64 t263, .int .i64 t264, .int .i64 t265, .int .i64 t266, .int .i64 t267, .int .i64 t268, .int .i64 0, .int .i64 0, .int .i64 0, .int .i64 0, .int .i64 0, .int .i64 0]) ?_ 10 _ rfl; (with_reducible repeat (first | refine blk_drewN ?_ _ | refine blk_drew ?_ | refine blk_alloc ?_ _)); refine blk_put (cs := #[.int .i64 t259, .int .i64 t260, .int .i64 t261, .int .i64 t262, .int .i64 t263, .int .i64 t264, .int .i64 t265, .int .i64 t266, .int .i64 t267, .int .i64 0, .int .i64 0, .int .i64 0, .int .i64 0, .int .i64 0, .int .i64 0, .int .i64 0]) ?_ 9 _ rfl; (with_reducible repeat (first | refine blk_drewN ?_ _ | refine blk_drew ?_ | refine blk_alloc ?_ _)); refine blk_put (cs := #[.int .i64 t259, .int .i64 t260, .int .i64 t261, .int .i64 t262, .int .i64 t263, .int .i64 t264, .int .i64 t265, .int .i64 t266, .int .i64 0, .int .i64 0, .int .i64 0, .int .i64 0, .int .i64 0, .int .i64 0, .int .i64 0, .int .i64 0]) ?_ 8 _ rfl; (with_reducible repeat (first | refine blk_drewN ?_ _ | refine blk_drew ?_ | refine blk_alloc ?_ _)); refine blk_put (cs := #[.int .i64 t259, .int .i64 t260, .int .i64 t261, .int .i64 t262, .int .i64 t263, .int .i64 t264, .int .i64 t265, .int .i64 0, .int .i64 0, .int .i64 0, .int .i64 0, .int .i64 0, .int .i64 0, .int .i64 0, .int .i64 0, .int .i64 0]) ?_ 7 _ rfl; (with_reducible repeat (first | refine blk_drewN ?_ _ | refine blk_drew ?_ | refine blk_alloc ?_ _)); refine blk_put (cs := #[.int .i64 t259, .int .i64 t260, .int .i64 t261, .int .i64 t262, .int .i64 t263, .int .i64 t264, .int .i64 0, .int .i64 0, .int .i64 0, .int .i64 0, .int .i64 0, .int .i64 0, .int .i64 0, .int .i64 0, .int .i64 0, .int .i64 0]) ?_ 6 _ rfl; (with_reducible repeat (first | refine blk_drewN ?_ _ | refine blk_drew ?_ | refine blk_alloc ?_ _)); refine blk_put (cs := #[.int .i64 t259, .int .i64 t260, .int .i64 t261, .int .i64 t262, .int .i64 t263, .int .i64 0, .int .i64 0, .int .i64 0, .int .i64 0, .int .i64 0, .int .i64 0, .int .i64 0, .int .i64 0, .int .i64 0, .int .i64 0, .int .i64 0]) ?_ 5 _ rfl; (with_reducible repeat (first | refine blk_drewN ?_ _ | refine blk_drew ?_ | refine blk_alloc ?_ _)); refine blk_put (cs := #[.int .i64 t259, .int .i64 t260, .int .i64 t261, .int .i64 t262, .int .i64 0, .int .i64 0, .int .i64 0, .int .i64 0, .int .i64 0, .int .i64 0, .int .i64 0, .int .i64 0, .int .i64 0, .int .i64 0, .int .i64 0, .int .i64 0]) ?_ 4 _ rfl; (with_reducible repeat (first | refine blk_drewN ?_ _ | refine blk_drew ?_ | refine blk_alloc ?_ _)); refine blk_put (cs := #[.int .i64 t259, .int .i64 t260, .int .i64 t261, .int .i64 0, .int .i64 0, .int .i64 0, .int .i64 0, .int .i64 0, .int .i64 0, .int .i64 0, .int .i64 0, .int .i64 0, .int .i64 0, .int .i64 0, .int .i64 0, .int .i64 0]) ?_ 3 _ rfl; (with_reducible repeat (first | refine blk_drewN ?_ _ | refine blk_drew ?_ | refine blk_alloc ?_ _)); refine blk_put (cs := #[.int .i64 t259, .int .i64 t260, .int .i64 0, .int .i64 0, .int .i64 0, .int .i64 0, .int .i64 0, .int .i64 0, .int .i64 0, .int .i64 0, .int .i64 0, .int .i64 0, .int .i64 0, .int .i64 0, .int .i64 0, .int .i64 0]) ?_ 2 _ rfl; (with_reducible repeat (first | refine blk_drewN ?_ _ | refine blk_drew ?_ | refine blk_alloc ?_ _)); refine blk_put (cs := #[.int .i64 t259, .int .i64 0, .int .i64 0, .int .i64 0, .int .i64 0, .int .i64 0, .int .i64 0, .int .i64 0, .int .i64 0, .int .i64 0, .int .i64 0, .int .i64 0, .int .i64 0, .int .i64 0, .int .i64 0, .int .i64 0]) ?_ 1 _ rfl; (with_reducible repeat (first | refine blk_drewN ?_ _ | refine blk_drew ?_ | refine blk_alloc ?_ _)); refine blk_put (cs := #[.int .i64 0, .int .i64 0, .int .i64 0, .int .i64 0, .int .i64 0, .int .i64 0, .int .i64 0, .int .i64 0, .int .i64 0, .int .i64 0, .int .i64 0, .int .i64 0, .int .i64 0, .int .i64 0, .int .i64 0, .int .i64 0]) ?_ 0 _ rfl; (with_reducible repeat (first | refine blk_drewN ?_ _ | refine blk_drew ?_ | refine blk_alloc ?_ _)); exact BK276.out))⟩; have n1_ : Aside0 (Below w.heap.size w w67) := ⟨(by rw [hw]; exact (by repeat (first | (with_reducible first | exact HB.out | apply below_alloc | apply pw_below_drewN | apply below_drew1 | refine below_set ?_ GE276.out) | exact HB.out)))⟩; clear hw; clear BK276; clear HB; have BK276 := n0_; have HB := n1_; clear n0_ n1_) | (go_at_call 16; (with_reducible refine (watchwordlaw0_Num.calls t275 t277 _ A5.out).mono ?_); rintro e w' ⟨rfl, ⟨nd, rfl⟩⟩; (try first | exact ⟨rfl, _, World.drewN_drewN _ _ _⟩ | exact ⟨rfl, _, Eq.trans (World.drewN_drewN _ _ _) (congrArg (World.drewN _) (Nat.add_assoc _ _ _))⟩); have hcz68_0 : w67.cell? ⟨gb276, 0, none⟩ = some (.int .i64 t259) := (blk_cell BK276.out 0).trans rfl; have hcz68_1 : w67.cell? ⟨gb276, 1, none⟩ = some (.int .i64 t260) := (blk_cell BK276.out 1).trans rfl; have hcz68_2 : w67.cell? ⟨gb276, 2, none⟩ = some (.int .i64 t261) := (blk_cell BK276.out 2).trans rfl; have hcz68_3 : w67.cell? ⟨gb276, 3, none⟩ = some (.int .i64 t262) := (blk_cell BK276.out 3).trans rfl; have hcz68_4 : w67.cell? ⟨gb276, 4, none⟩ = some (.int .i64 t263) := (blk_cell BK276.out 4).trans rfl; have hcz68_5 : w67.cell? ⟨gb276, 5, none⟩ = some (.int .i64 t264) := (blk_cell BK276.out 5).trans rfl; have hcz68_6 : w67.cell? ⟨gb276, 6, none⟩ = some (.int .i64 t265) := (blk_cell BK276.out 6).trans rfl; have hcz68_7 : w67.cell? ⟨gb276, 7, none⟩ = some (.int .i64 t266) := (blk_cell BK276.out 7).trans rfl; have hcz68_8 : w67.cell? ⟨gb276, 8, none⟩ = some (.int .i64 t267) := (blk_cell BK276.out 8).trans rfl; have hcz68_9 : w67.cell? ⟨gb276, 9, none⟩ = some (.int .i64 t268) := (blk_cell BK276.out 9).trans rfl; have hcz68_10 : w67.cell? ⟨gb276, 10, none⟩ = some (.int .i64 t269) := (blk_cell BK276.out 10).trans rfl; have hcz68_11 : w67.cell? ⟨gb276, 11, none⟩ = some (.int .i64 t270) := (blk_cell BK276.out 11).trans rfl; have hcz68_12 : w67.cell? ⟨gb276, 12, none⟩ = some (.int .i64 t271) := (blk_cell BK276.out 12).trans rfl; have hcz68_13 : w67.cell? ⟨gb276, 13, none⟩ = some (.int .i64 t272) := (blk_cell BK276.out 13).trans rfl; have hcz68_14 : w67.cell? ⟨gb276, 14, none⟩ = some (.int .i64 t273) := (blk_cell BK276.out 14).trans rfl; have hcz68_15 : w67.cell? ⟨gb276, 15, none⟩ = some (.int .i64 t274) := (blk_cell BK276.out 15).trans rfl; have hfz68_0 := blk_frozen BK276.out 0; have hfz68_1 := blk_frozen BK276.out 1; have hfz68_2 := blk_frozen BK276.out 2; have hfz68_3 := blk_frozen BK276.out 3; have hfz68_4 := blk_frozen BK276.out 4; have hfz68_5 := blk_frozen BK276.out 5; have hfz68_6 := blk_frozen BK276.out 6; have hfz68_7 := blk_frozen BK276.out 7; have hfz68_8 := blk_frozen BK276.out 8; have hfz68_9 := blk_frozen BK276.out 9; have hfz68_10 := blk_frozen BK276.out 10; have hfz68_11 := blk_frozen BK276.out 11; have hfz68_12 := blk_frozen BK276.out 12; have hfz68_13 := blk_frozen BK276.out 13; have hfz68_14 := blk_frozen BK276.out 14; have hfz68_15 := blk_frozen BK276.out 15)))
   go_ret
   exact ⟨by first | rfl | (simp [errW_none, errW_some] <;> rfl) | (simp [*, errW_none, errW_some] <;> rfl), by repeat (first | (with_reducible first | exact HB.out | apply below_alloc | apply pw_below_drewN | apply below_drew1 | refine below_set ?_ GE276.out) | exact HB.out)⟩
 ·replace c3 := Bool.eq_false_iff.mpr c3
  subst c3
  have H1 : (some false) = some r := by rw [if_neg (show ¬ (false = true) by decide)] at H; exact H
  clear H
  have H := H1
  clear H1
  exact absurd (Option.some.inj H) (by rw [HT.out]; decide)

end Go.Proofs.Ytjbejbehbjhecaa.Q20
