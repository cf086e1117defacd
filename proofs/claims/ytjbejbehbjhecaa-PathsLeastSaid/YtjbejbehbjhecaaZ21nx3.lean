/- Written by a program of this session (out of what the print wrote for this seat): the functions' walks, packed. -/
import Derived.Test.YtjbejbehbjhecaaZ21nx2
namespace Go.Proofs.Ytjbejbehbjhecaa.Q21n
open Go.RowKit Go.Proofs.YtjbejbehbjhecaaW.PrintWords Go.Proofs.YtjbejbehbjhecaaW.PrintLast Go.Proofs.YtjbejbehbjhecaaW.PrintMore
attribute [local go_sem] max2_int min2_int max_two min_two max_three min_three max_four min_four   -- for this text's walks alone
set_option linter.unusedVariables false
set_option linter.unusedSimpArgs false

/-! ### watchwordlaw21_PathsLeast: function 4 -/
mutual
def watchwordlaw21_PathsLeast.j0 : Nat → Int → List (S41) → Bool → Int → Int → Int → Int → Int → Int → Int → Int → Int → Int → Int → Int → Int → Int → Int → Int → Option (Bool)
 | 0, _, _, _, _, _, _, _, _, _, _, _, _, _, _, _, _, _, _, _ => none
 | k + 1, x1, x5, x33, x170000, x170001, x170002, x170003, x170004, x170005, x170006, x170007, x170008, x170009, x170010, x170011, x170012, x170013, x170014, x170015 => if x33 = true then (some false) else ((watchwordlaw21_ways.f k x170000 x170001 x170002 x170003 x170004 x170005 x170006 x170007 x170008 x170009 x170010 x170011 x170012 x170013 x170014 x170015 (wrap64 (x1 - 1))).bind fun bt176 => (watchwordlaw21_PathsLeast.l0 k x5 (wrap64 (x1 - 1)) 0 0 bt176.1 bt176.2.1 bt176.2.2.1 bt176.2.2.2.1 bt176.2.2.2.2.1 bt176.2.2.2.2.2.1 bt176.2.2.2.2.2.2.1 bt176.2.2.2.2.2.2.2.1 bt176.2.2.2.2.2.2.2.2.1 bt176.2.2.2.2.2.2.2.2.2.1 bt176.2.2.2.2.2.2.2.2.2.2.1 bt176.2.2.2.2.2.2.2.2.2.2.2.1 bt176.2.2.2.2.2.2.2.2.2.2.2.2.1 bt176.2.2.2.2.2.2.2.2.2.2.2.2.2.1 bt176.2.2.2.2.2.2.2.2.2.2.2.2.2.2.1 bt176.2.2.2.2.2.2.2.2.2.2.2.2.2.2.2.1 bt176.2.2.2.2.2.2.2.2.2.2.2.2.2.2.2.2.1 bt176.2.2.2.2.2.2.2.2.2.2.2.2.2.2.2.2.2.1 bt176.2.2.2.2.2.2.2.2.2.2.2.2.2.2.2.2.2.2.1 bt176.2.2.2.2.2.2.2.2.2.2.2.2.2.2.2.2.2.2.2))
def watchwordlaw21_PathsLeast.l0 : Nat → List (S41) → Int → Int → Int → Int → Int → Int → Int → Bool → Bool → Bool → Bool → Bool → Bool → Bool → Bool → Bool → Bool → Bool → Bool → Bool → Bool → Bool → Bool → Option (Bool)
 | 0, _, _, _, _, _, _, _, _, _, _, _, _, _, _, _, _, _, _, _, _, _, _, _, _ => none
 | k + 1, x5, x7, x10, x11, x197000, x197001, x197002, x197003, x198000, x198001, x198002, x198003, x198004, x198005, x198006, x198007, x198008, x198009, x198010, x198011, x198012, x198013, x198014, x198015 => if x11 < 4 then (if x11 = x7 then (watchwordlaw21_PathsLeast.j2 k x5 x7 x10 x11 true x197000 x197001 x197002 x197003 x198000 x198001 x198002 x198003 x198004 x198005 x198006 x198007 x198008 x198009 x198010 x198011 x198012 x198013 x198014 x198015) else (if 0 ≤ x11 then (watchwordlaw21_PathsLeast.j2 k x5 x7 x10 x11 (decide ((ix4 x197000 x197001 x197002 x197003 x11) < 0)) x197000 x197001 x197002 x197003 x198000 x198001 x198002 x198003 x198004 x198005 x198006 x198007 x198008 x198009 x198010 x198011 x198012 x198013 x198014 x198015) else (none))) else (some (x10 == (x5.length : Int)))
def watchwordlaw21_PathsLeast.j2 : Nat → List (S41) → Int → Int → Int → Bool → Int → Int → Int → Int → Bool → Bool → Bool → Bool → Bool → Bool → Bool → Bool → Bool → Bool → Bool → Bool → Bool → Bool → Bool → Bool → Option (Bool)
 | 0, _, _, _, _, _, _, _, _, _, _, _, _, _, _, _, _, _, _, _, _, _, _, _, _, _ => none
 | k + 1, x5, x7, x10, x11, x54, x197000, x197001, x197002, x197003, x198000, x198001, x198002, x198003, x198004, x198005, x198006, x198007, x198008, x198009, x198010, x198011, x198012, x198013, x198014, x198015 => if x54 = true then (watchwordlaw21_PathsLeast.l0 k x5 x7 x10 (wrap64 (x11 + 1)) x197000 x197001 x197002 x197003 x198000 x198001 x198002 x198003 x198004 x198005 x198006 x198007 x198008 x198009 x198010 x198011 x198012 x198013 x198014 x198015) else (if x10 ≥ (x5.length : Int) then (watchwordlaw21_PathsLeast.j3 k x5 x7 x10 x11 true x197000 x197001 x197002 x197003 x198000 x198001 x198002 x198003 x198004 x198005 x198006 x198007 x198008 x198009 x198010 x198011 x198012 x198013 x198014 x198015) else (if 0 ≤ x10 then (if x10 < (x5.length : Int) then (if ((rd_T41 x5 x10).f0) = (wrap64 (x11 + 1)) then (if 0 ≤ x11 then (if x11 < 4 then (watchwordlaw21_PathsLeast.j3 k x5 x7 x10 x11 (((rd_T41 x5 x10).f1) != (ix4 x197000 x197001 x197002 x197003 x11)) x197000 x197001 x197002 x197003 x198000 x198001 x198002 x198003 x198004 x198005 x198006 x198007 x198008 x198009 x198010 x198011 x198012 x198013 x198014 x198015) else (none)) else (none)) else (watchwordlaw21_PathsLeast.j3 k x5 x7 x10 x11 true x197000 x197001 x197002 x197003 x198000 x198001 x198002 x198003 x198004 x198005 x198006 x198007 x198008 x198009 x198010 x198011 x198012 x198013 x198014 x198015)) else (none)) else (none)))
def watchwordlaw21_PathsLeast.j3 : Nat → List (S41) → Int → Int → Int → Bool → Int → Int → Int → Int → Bool → Bool → Bool → Bool → Bool → Bool → Bool → Bool → Bool → Bool → Bool → Bool → Bool → Bool → Bool → Bool → Option (Bool)
 | 0, _, _, _, _, _, _, _, _, _, _, _, _, _, _, _, _, _, _, _, _, _, _, _, _, _ => none
 | k + 1, x5, x7, x10, x11, x79, x197000, x197001, x197002, x197003, x198000, x198001, x198002, x198003, x198004, x198005, x198006, x198007, x198008, x198009, x198010, x198011, x198012, x198013, x198014, x198015 => if x79 = true then (some false) else (watchwordlaw21_PathsLeast.l1 k x5 x7 x10 x11 0 0 x197000 x197001 x197002 x197003 x198000 x198001 x198002 x198003 x198004 x198005 x198006 x198007 x198008 x198009 x198010 x198011 x198012 x198013 x198014 x198015)
def watchwordlaw21_PathsLeast.l1 : Nat → List (S41) → Int → Int → Int → Int → Int → Int → Int → Int → Int → Bool → Bool → Bool → Bool → Bool → Bool → Bool → Bool → Bool → Bool → Bool → Bool → Bool → Bool → Bool → Bool → Option (Bool)
 | 0, _, _, _, _, _, _, _, _, _, _, _, _, _, _, _, _, _, _, _, _, _, _, _, _, _, _ => none
 | k + 1, x5, x7, x10, x11, x12, x13, x197000, x197001, x197002, x197003, x198000, x198001, x198002, x198003, x198004, x198005, x198006, x198007, x198008, x198009, x198010, x198011, x198012, x198013, x198014, x198015 => if x13 < 4 then (if 0 ≤ x11 then (if x11 < 4 then (if 0 ≤ x13 then (if (ix4 (ix4 x198000 x198001 x198002 x198003 x13) (ix4 x198004 x198005 x198006 x198007 x13) (ix4 x198008 x198009 x198010 x198011 x13) (ix4 x198012 x198013 x198014 x198015 x13) x11) = true then (if 0 ≤ x10 then (if x10 < (x5.length : Int) then (if x12 ≥ (((rd_T41 x5 x10).f2).length : Int) then (some false) else (if 0 ≤ x12 then (if x12 < (((rd_T41 x5 x10).f2).length : Int) then (if (rd ((rd_T41 x5 x10).f2) x12) = (wrap64 (x13 + 1)) then (watchwordlaw21_PathsLeast.l1 k x5 x7 x10 x11 (wrap64 (x12 + 1)) (wrap64 (x13 + 1)) x197000 x197001 x197002 x197003 x198000 x198001 x198002 x198003 x198004 x198005 x198006 x198007 x198008 x198009 x198010 x198011 x198012 x198013 x198014 x198015) else (some false)) else (none)) else (none))) else (none)) else (none)) else (watchwordlaw21_PathsLeast.l1 k x5 x7 x10 x11 x12 (wrap64 (x13 + 1)) x197000 x197001 x197002 x197003 x198000 x198001 x198002 x198003 x198004 x198005 x198006 x198007 x198008 x198009 x198010 x198011 x198012 x198013 x198014 x198015)) else (none)) else (none)) else (none)) else (if 0 ≤ x10 then (if x10 < (x5.length : Int) then (if x12 = (((rd_T41 x5 x10).f2).length : Int) then (if x12 < 1 then (some false) else (watchwordlaw21_PathsLeast.l0 k x5 x7 (wrap64 (x10 + 1)) (wrap64 (x11 + 1)) x197000 x197001 x197002 x197003 x198000 x198001 x198002 x198003 x198004 x198005 x198006 x198007 x198008 x198009 x198010 x198011 x198012 x198013 x198014 x198015)) else (some false)) else (none)) else (none))
end
def watchwordlaw21_PathsLeast.f (k : Nat) (a0_0 : Int) (a0_1 : Int) (a0_2 : Int) (a0_3 : Int) (a0_4 : Int) (a0_5 : Int) (a0_6 : Int) (a0_7 : Int) (a0_8 : Int) (a0_9 : Int) (a0_10 : Int) (a0_11 : Int) (a0_12 : Int) (a0_13 : Int) (a0_14 : Int) (a0_15 : Int) (a1 : Int) : Option (Bool) := (watchwordlaw21_awake.f k).bind fun t170 => (if t170 = true then ((paths_Routes.f k a0_0 a0_1 a0_2 a0_3 a0_4 a0_5 a0_6 a0_7 a0_8 a0_9 a0_10 a0_11 a0_12 a0_13 a0_14 a0_15 a1).bind fun bt171 => ((watchwordlaw0_Num.f bt171.2).bind fun t175 => (if t175 = 0 then (if a1 < 1 then (watchwordlaw21_PathsLeast.j0 k a1 bt171.1 true a0_0 a0_1 a0_2 a0_3 a0_4 a0_5 a0_6 a0_7 a0_8 a0_9 a0_10 a0_11 a0_12 a0_13 a0_14 a0_15) else (watchwordlaw21_PathsLeast.j0 k a1 bt171.1 (decide (a1 > 4)) a0_0 a0_1 a0_2 a0_3 a0_4 a0_5 a0_6 a0_7 a0_8 a0_9 a0_10 a0_11 a0_12 a0_13 a0_14 a0_15)) else (some ((bt171.1.length : Int) == 0))))) else (some false))
theorem watchwordlaw21_PathsLeast.mono_l : ∀ k, (∀ y0 y1 y2 y3 y4 y5 y6 y7 y8 y9 y10 y11 y12 y13 y14 y15 y16 y17 y18, LeO (watchwordlaw21_PathsLeast.j0 k y0 y1 y2 y3 y4 y5 y6 y7 y8 y9 y10 y11 y12 y13 y14 y15 y16 y17 y18) (watchwordlaw21_PathsLeast.j0 (k + 1) y0 y1 y2 y3 y4 y5 y6 y7 y8 y9 y10 y11 y12 y13 y14 y15 y16 y17 y18)) ∧ (∀ y0 y1 y2 y3 y4 y5 y6 y7 y8 y9 y10 y11 y12 y13 y14 y15 y16 y17 y18 y19 y20 y21 y22 y23, LeO (watchwordlaw21_PathsLeast.l0 k y0 y1 y2 y3 y4 y5 y6 y7 y8 y9 y10 y11 y12 y13 y14 y15 y16 y17 y18 y19 y20 y21 y22 y23) (watchwordlaw21_PathsLeast.l0 (k + 1) y0 y1 y2 y3 y4 y5 y6 y7 y8 y9 y10 y11 y12 y13 y14 y15 y16 y17 y18 y19 y20 y21 y22 y23)) ∧ (∀ y0 y1 y2 y3 y4 y5 y6 y7 y8 y9 y10 y11 y12 y13 y14 y15 y16 y17 y18 y19 y20 y21 y22 y23 y24, LeO (watchwordlaw21_PathsLeast.j2 k y0 y1 y2 y3 y4 y5 y6 y7 y8 y9 y10 y11 y12 y13 y14 y15 y16 y17 y18 y19 y20 y21 y22 y23 y24) (watchwordlaw21_PathsLeast.j2 (k + 1) y0 y1 y2 y3 y4 y5 y6 y7 y8 y9 y10 y11 y12 y13 y14 y15 y16 y17 y18 y19 y20 y21 y22 y23 y24)) ∧ (∀ y0 y1 y2 y3 y4 y5 y6 y7 y8 y9 y10 y11 y12 y13 y14 y15 y16 y17 y18 y19 y20 y21 y22 y23 y24, LeO (watchwordlaw21_PathsLeast.j3 k y0 y1 y2 y3 y4 y5 y6 y7 y8 y9 y10 y11 y12 y13 y14 y15 y16 y17 y18 y19 y20 y21 y22 y23 y24) (watchwordlaw21_PathsLeast.j3 (k + 1) y0 y1 y2 y3 y4 y5 y6 y7 y8 y9 y10 y11 y12 y13 y14 y15 y16 y17 y18 y19 y20 y21 y22 y23 y24)) ∧ (∀ y0 y1 y2 y3 y4 y5 y6 y7 y8 y9 y10 y11 y12 y13 y14 y15 y16 y17 y18 y19 y20 y21 y22 y23 y24 y25, LeO (watchwordlaw21_PathsLeast.l1 k y0 y1 y2 y3 y4 y5 y6 y7 y8 y9 y10 y11 y12 y13 y14 y15 y16 y17 y18 y19 y20 y21 y22 y23 y24 y25) (watchwordlaw21_PathsLeast.l1 (k + 1) y0 y1 y2 y3 y4 y5 y6 y7 y8 y9 y10 y11 y12 y13 y14 y15 y16 y17 y18 y19 y20 y21 y22 y23 y24 y25))
 | 0 => ⟨fun _ _ _ _ _ _ _ _ _ _ _ _ _ _ _ _ _ _ _ r h => by simp [watchwordlaw21_PathsLeast.j0] at h, fun _ _ _ _ _ _ _ _ _ _ _ _ _ _ _ _ _ _ _ _ _ _ _ _ r h => by simp [watchwordlaw21_PathsLeast.l0] at h, fun _ _ _ _ _ _ _ _ _ _ _ _ _ _ _ _ _ _ _ _ _ _ _ _ _ r h => by simp [watchwordlaw21_PathsLeast.j2] at h, fun _ _ _ _ _ _ _ _ _ _ _ _ _ _ _ _ _ _ _ _ _ _ _ _ _ r h => by simp [watchwordlaw21_PathsLeast.j3] at h, fun _ _ _ _ _ _ _ _ _ _ _ _ _ _ _ _ _ _ _ _ _ _ _ _ _ _ r h => by simp [watchwordlaw21_PathsLeast.l1] at h⟩
 | k + 1 => by
  obtain ⟨ih0, ih1, ih2, ih3, ih4⟩ := watchwordlaw21_PathsLeast.mono_l k
  refine ⟨?_, ?_, ?_, ?_, ?_⟩
  ·intro y0 y1 y2 y3 y4 y5 y6 y7 y8 y9 y10 y11 y12 y13 y14 y15 y16 y17 y18
   unfold watchwordlaw21_PathsLeast.j0
   repeat' first
   | (with_reducible exact ih0 _ _ _ _ _ _ _ _ _ _ _ _ _ _ _ _ _ _ _)
   | (with_reducible exact ih1 _ _ _ _ _ _ _ _ _ _ _ _ _ _ _ _ _ _ _ _ _ _ _ _)
   | (with_reducible exact ih2 _ _ _ _ _ _ _ _ _ _ _ _ _ _ _ _ _ _ _ _ _ _ _ _ _)
   | (with_reducible exact ih3 _ _ _ _ _ _ _ _ _ _ _ _ _ _ _ _ _ _ _ _ _ _ _ _ _)
   | (with_reducible exact ih4 _ _ _ _ _ _ _ _ _ _ _ _ _ _ _ _ _ _ _ _ _ _ _ _ _ _)
   | (with_reducible exact paths_Routes.mono _ _ _ _ _ _ _ _ _ _ _ _ _ _ _ _ _ _)
   | (with_reducible exact watchwordlaw21_awake.mono _)
   | (with_reducible exact watchwordlaw21_ways.mono _ _ _ _ _ _ _ _ _ _ _ _ _ _ _ _ _ _)
   | (with_reducible exact LeO.refl _)
   | (with_reducible exact LeO.none _)
   | (with_reducible refine LeO.ite ?_ ?_)
   | (with_reducible refine LeO.bind ?_ (fun _ => ?_))
   | exact ih0 _ _ _ _ _ _ _ _ _ _ _ _ _ _ _ _ _ _ _
   | exact ih1 _ _ _ _ _ _ _ _ _ _ _ _ _ _ _ _ _ _ _ _ _ _ _ _
   | exact ih2 _ _ _ _ _ _ _ _ _ _ _ _ _ _ _ _ _ _ _ _ _ _ _ _ _
   | exact ih3 _ _ _ _ _ _ _ _ _ _ _ _ _ _ _ _ _ _ _ _ _ _ _ _ _
   | exact ih4 _ _ _ _ _ _ _ _ _ _ _ _ _ _ _ _ _ _ _ _ _ _ _ _ _ _
   | exact paths_Routes.mono _ _ _ _ _ _ _ _ _ _ _ _ _ _ _ _ _ _
   | exact watchwordlaw21_awake.mono _
   | exact watchwordlaw21_ways.mono _ _ _ _ _ _ _ _ _ _ _ _ _ _ _ _ _ _
   | exact LeO.none _
   | refine LeO.ite ?_ ?_
   | refine LeO.bind ?_ (fun _ => ?_)
  ·intro y0 y1 y2 y3 y4 y5 y6 y7 y8 y9 y10 y11 y12 y13 y14 y15 y16 y17 y18 y19 y20 y21 y22 y23
   unfold watchwordlaw21_PathsLeast.l0
   repeat' first
   | (with_reducible exact ih0 _ _ _ _ _ _ _ _ _ _ _ _ _ _ _ _ _ _ _)
   | (with_reducible exact ih1 _ _ _ _ _ _ _ _ _ _ _ _ _ _ _ _ _ _ _ _ _ _ _ _)
   | (with_reducible exact ih2 _ _ _ _ _ _ _ _ _ _ _ _ _ _ _ _ _ _ _ _ _ _ _ _ _)
   | (with_reducible exact ih3 _ _ _ _ _ _ _ _ _ _ _ _ _ _ _ _ _ _ _ _ _ _ _ _ _)
   | (with_reducible exact ih4 _ _ _ _ _ _ _ _ _ _ _ _ _ _ _ _ _ _ _ _ _ _ _ _ _ _)
   | (with_reducible exact paths_Routes.mono _ _ _ _ _ _ _ _ _ _ _ _ _ _ _ _ _ _)
   | (with_reducible exact watchwordlaw21_awake.mono _)
   | (with_reducible exact watchwordlaw21_ways.mono _ _ _ _ _ _ _ _ _ _ _ _ _ _ _ _ _ _)
   | (with_reducible exact LeO.refl _)
   | (with_reducible exact LeO.none _)
   | (with_reducible refine LeO.ite ?_ ?_)
   | (with_reducible refine LeO.bind ?_ (fun _ => ?_))
   | exact ih0 _ _ _ _ _ _ _ _ _ _ _ _ _ _ _ _ _ _ _
   | exact ih1 _ _ _ _ _ _ _ _ _ _ _ _ _ _ _ _ _ _ _ _ _ _ _ _
   | exact ih2 _ _ _ _ _ _ _ _ _ _ _ _ _ _ _ _ _ _ _ _ _ _ _ _ _
   | exact ih3 _ _ _ _ _ _ _ _ _ _ _ _ _ _ _ _ _ _ _ _ _ _ _ _ _
   | exact ih4 _ _ _ _ _ _ _ _ _ _ _ _ _ _ _ _ _ _ _ _ _ _ _ _ _ _
   | exact paths_Routes.mono _ _ _ _ _ _ _ _ _ _ _ _ _ _ _ _ _ _
   | exact watchwordlaw21_awake.mono _
   | exact watchwordlaw21_ways.mono _ _ _ _ _ _ _ _ _ _ _ _ _ _ _ _ _ _
   | exact LeO.none _
   | refine LeO.ite ?_ ?_
   | refine LeO.bind ?_ (fun _ => ?_)
  ·intro y0 y1 y2 y3 y4 y5 y6 y7 y8 y9 y10 y11 y12 y13 y14 y15 y16 y17 y18 y19 y20 y21 y22 y23 y24
   unfold watchwordlaw21_PathsLeast.j2
   repeat' first
   | (with_reducible exact ih0 _ _ _ _ _ _ _ _ _ _ _ _ _ _ _ _ _ _ _)
   | (with_reducible exact ih1 _ _ _ _ _ _ _ _ _ _ _ _ _ _ _ _ _ _ _ _ _ _ _ _)
   | (with_reducible exact ih2 _ _ _ _ _ _ _ _ _ _ _ _ _ _ _ _ _ _ _ _ _ _ _ _ _)
   | (with_reducible exact ih3 _ _ _ _ _ _ _ _ _ _ _ _ _ _ _ _ _ _ _ _ _ _ _ _ _)
   | (with_reducible exact ih4 _ _ _ _ _ _ _ _ _ _ _ _ _ _ _ _ _ _ _ _ _ _ _ _ _ _)
   | (with_reducible exact paths_Routes.mono _ _ _ _ _ _ _ _ _ _ _ _ _ _ _ _ _ _)
   | (with_reducible exact watchwordlaw21_awake.mono _)
   | (with_reducible exact watchwordlaw21_ways.mono _ _ _ _ _ _ _ _ _ _ _ _ _ _ _ _ _ _)
   | (with_reducible exact LeO.refl _)
   | (with_reducible exact LeO.none _)
   | (with_reducible refine LeO.ite ?_ ?_)
   | (with_reducible refine LeO.bind ?_ (fun _ => ?_))
   | exact ih0 _ _ _ _ _ _ _ _ _ _ _ _ _ _ _ _ _ _ _
   | exact ih1 _ _ _ _ _ _ _ _ _ _ _ _ _ _ _ _ _ _ _ _ _ _ _ _
   | exact ih2 _ _ _ _ _ _ _ _ _ _ _ _ _ _ _ _ _ _ _ _ _ _ _ _ _
   | exact ih3 _ _ _ _ _ _ _ _ _ _ _ _ _ _ _ _ _ _ _ _ _ _ _ _ _
   | exact ih4 _ _ _ _ _ _ _ _ _ _ _ _ _ _ _ _ _ _ _ _ _ _ _ _ _ _
   | exact paths_Routes.mono _ _ _ _ _ _ _ _ _ _ _ _ _ _ _ _ _ _
   | exact watchwordlaw21_awake.mono _
   | exact watchwordlaw21_ways.mono _ _ _ _ _ _ _ _ _ _ _ _ _ _ _ _ _ _
   | exact LeO.none _
   | refine LeO.ite ?_ ?_
   | refine LeO.bind ?_ (fun _ => ?_)
  ·intro y0 y1 y2 y3 y4 y5 y6 y7 y8 y9 y10 y11 y12 y13 y14 y15 y16 y17 y18 y19 y20 y21 y22 y23 y24
   unfold watchwordlaw21_PathsLeast.j3
   repeat' first
   | (with_reducible exact ih0 _ _ _ _ _ _ _ _ _ _ _ _ _ _ _ _ _ _ _)
   | (with_reducible exact ih1 _ _ _ _ _ _ _ _ _ _ _ _ _ _ _ _ _ _ _ _ _ _ _ _)
   | (with_reducible exact ih2 _ _ _ _ _ _ _ _ _ _ _ _ _ _ _ _ _ _ _ _ _ _ _ _ _)
   | (with_reducible exact ih3 _ _ _ _ _ _ _ _ _ _ _ _ _ _ _ _ _ _ _ _ _ _ _ _ _)
   | (with_reducible exact ih4 _ _ _ _ _ _ _ _ _ _ _ _ _ _ _ _ _ _ _ _ _ _ _ _ _ _)
   | (with_reducible exact paths_Routes.mono _ _ _ _ _ _ _ _ _ _ _ _ _ _ _ _ _ _)
   | (with_reducible exact watchwordlaw21_awake.mono _)
   | (with_reducible exact watchwordlaw21_ways.mono _ _ _ _ _ _ _ _ _ _ _ _ _ _ _ _ _ _)
   | (with_reducible exact LeO.refl _)
   | (with_reducible exact LeO.none _)
   | (with_reducible refine LeO.ite ?_ ?_)
   | (with_reducible refine LeO.bind ?_ (fun _ => ?_))
   | exact ih0 _ _ _ _ _ _ _ _ _ _ _ _ _ _ _ _ _ _ _
   | exact ih1 _ _ _ _ _ _ _ _ _ _ _ _ _ _ _ _ _ _ _ _ _ _ _ _
   | exact ih2 _ _ _ _ _ _ _ _ _ _ _ _ _ _ _ _ _ _ _ _ _ _ _ _ _
   | exact ih3 _ _ _ _ _ _ _ _ _ _ _ _ _ _ _ _ _ _ _ _ _ _ _ _ _
   | exact ih4 _ _ _ _ _ _ _ _ _ _ _ _ _ _ _ _ _ _ _ _ _ _ _ _ _ _
   | exact paths_Routes.mono _ _ _ _ _ _ _ _ _ _ _ _ _ _ _ _ _ _
   | exact watchwordlaw21_awake.mono _
   | exact watchwordlaw21_ways.mono _ _ _ _ _ _ _ _ _ _ _ _ _ _ _ _ _ _
   | exact LeO.none _
   | refine LeO.ite ?_ ?_
   | refine LeO.bind ?_ (fun _ => ?_)
  ·intro y0 y1 y2 y3 y4 y5 y6 y7 y8 y9 y10 y11 y12 y13 y14 y15 y16 y17 y18 y19 y20 y21 y22 y23 y24 y25
   unfold watchwordlaw21_PathsLeast.l1
   repeat' first
   | (with_reducible exact ih0 _ _ _ _ _ _ _ _ _ _ _ _ _ _ _ _ _ _ _)
   | (with_reducible exact ih1 _ _ _ _ _ _ _ _ _ _ _ _ _ _ _ _ _ _ _ _ _ _ _ _)
   | (with_reducible exact ih2 _ _ _ _ _ _ _ _ _ _ _ _ _ _ _ _ _ _ _ _ _ _ _ _ _)
   | (with_reducible exact ih3 _ _ _ _ _ _ _ _ _ _ _ _ _ _ _ _ _ _ _ _ _ _ _ _ _)
   | (with_reducible exact ih4 _ _ _ _ _ _ _ _ _ _ _ _ _ _ _ _ _ _ _ _ _ _ _ _ _ _)
   | (with_reducible exact paths_Routes.mono _ _ _ _ _ _ _ _ _ _ _ _ _ _ _ _ _ _)
   | (with_reducible exact watchwordlaw21_awake.mono _)
   | (with_reducible exact watchwordlaw21_ways.mono _ _ _ _ _ _ _ _ _ _ _ _ _ _ _ _ _ _)
   | (with_reducible exact LeO.refl _)
   | (with_reducible exact LeO.none _)
   | (with_reducible refine LeO.ite ?_ ?_)
   | (with_reducible refine LeO.bind ?_ (fun _ => ?_))
   | exact ih0 _ _ _ _ _ _ _ _ _ _ _ _ _ _ _ _ _ _ _
   | exact ih1 _ _ _ _ _ _ _ _ _ _ _ _ _ _ _ _ _ _ _ _ _ _ _ _
   | exact ih2 _ _ _ _ _ _ _ _ _ _ _ _ _ _ _ _ _ _ _ _ _ _ _ _ _
   | exact ih3 _ _ _ _ _ _ _ _ _ _ _ _ _ _ _ _ _ _ _ _ _ _ _ _ _
   | exact ih4 _ _ _ _ _ _ _ _ _ _ _ _ _ _ _ _ _ _ _ _ _ _ _ _ _ _
   | exact paths_Routes.mono _ _ _ _ _ _ _ _ _ _ _ _ _ _ _ _ _ _
   | exact watchwordlaw21_awake.mono _
   | exact watchwordlaw21_ways.mono _ _ _ _ _ _ _ _ _ _ _ _ _ _ _ _ _ _
   | exact LeO.none _
   | refine LeO.ite ?_ ?_
   | refine LeO.bind ?_ (fun _ => ?_)
theorem watchwordlaw21_PathsLeast.mono : ∀ a0 a1 a2 a3 a4 a5 a6 a7 a8 a9 a10 a11 a12 a13 a14 a15 a16 k, LeO (watchwordlaw21_PathsLeast.f k a0 a1 a2 a3 a4 a5 a6 a7 a8 a9 a10 a11 a12 a13 a14 a15 a16) (watchwordlaw21_PathsLeast.f (k + 1) a0 a1 a2 a3 a4 a5 a6 a7 a8 a9 a10 a11 a12 a13 a14 a15 a16) := by
 intro a0 a1 a2 a3 a4 a5 a6 a7 a8 a9 a10 a11 a12 a13 a14 a15 a16 k
 obtain ⟨ih0, ih1, ih2, ih3, ih4⟩ := watchwordlaw21_PathsLeast.mono_l k
 unfold watchwordlaw21_PathsLeast.f
 repeat' first
   | (with_reducible exact ih0 _ _ _ _ _ _ _ _ _ _ _ _ _ _ _ _ _ _ _)
   | (with_reducible exact ih1 _ _ _ _ _ _ _ _ _ _ _ _ _ _ _ _ _ _ _ _ _ _ _ _)
   | (with_reducible exact ih2 _ _ _ _ _ _ _ _ _ _ _ _ _ _ _ _ _ _ _ _ _ _ _ _ _)
   | (with_reducible exact ih3 _ _ _ _ _ _ _ _ _ _ _ _ _ _ _ _ _ _ _ _ _ _ _ _ _)
   | (with_reducible exact ih4 _ _ _ _ _ _ _ _ _ _ _ _ _ _ _ _ _ _ _ _ _ _ _ _ _ _)
   | (with_reducible exact paths_Routes.mono _ _ _ _ _ _ _ _ _ _ _ _ _ _ _ _ _ _)
   | (with_reducible exact watchwordlaw21_awake.mono _)
   | (with_reducible exact watchwordlaw21_ways.mono _ _ _ _ _ _ _ _ _ _ _ _ _ _ _ _ _ _)
   | (with_reducible exact LeO.refl _)
   | (with_reducible exact LeO.none _)
   | (with_reducible refine LeO.ite ?_ ?_)
   | (with_reducible refine LeO.bind ?_ (fun _ => ?_))
   | exact ih0 _ _ _ _ _ _ _ _ _ _ _ _ _ _ _ _ _ _ _
   | exact ih1 _ _ _ _ _ _ _ _ _ _ _ _ _ _ _ _ _ _ _ _ _ _ _ _
   | exact ih2 _ _ _ _ _ _ _ _ _ _ _ _ _ _ _ _ _ _ _ _ _ _ _ _ _
   | exact ih3 _ _ _ _ _ _ _ _ _ _ _ _ _ _ _ _ _ _ _ _ _ _ _ _ _
   | exact ih4 _ _ _ _ _ _ _ _ _ _ _ _ _ _ _ _ _ _ _ _ _ _ _ _ _ _
   | exact paths_Routes.mono _ _ _ _ _ _ _ _ _ _ _ _ _ _ _ _ _ _
   | exact watchwordlaw21_awake.mono _
   | exact watchwordlaw21_ways.mono _ _ _ _ _ _ _ _ _ _ _ _ _ _ _ _ _ _
   | exact LeO.none _
   | refine LeO.ite ?_ ?_
   | refine LeO.bind ?_ (fun _ => ?_)
set_option maxHeartbeats 8000000 in
set_option maxRecDepth 100000 in
theorem watchwordlaw21_PathsLeast.calls (k : Nat) (a0_0 : Int) (a0_1 : Int) (a0_2 : Int) (a0_3 : Int) (a0_4 : Int) (a0_5 : Int) (a0_6 : Int) (a0_7 : Int) (a0_8 : Int) (a0_9 : Int) (a0_10 : Int) (a0_11 : Int) (a0_12 : Int) (a0_13 : Int) (a0_14 : Int) (a0_15 : Int) (a1 : Int) (r : Bool) (w : World) (h : watchwordlaw21_PathsLeast.f k a0_0 a0_1 a0_2 a0_3 a0_4 a0_5 a0_6 a0_7 a0_8 a0_9 a0_10 a0_11 a0_12 a0_13 a0_14 a0_15 a1 = some r) (hT : r = true) :
  Calls Try.prog 4 #[.agg #[.int .i64 a0_0, .int .i64 a0_1, .int .i64 a0_2, .int .i64 a0_3, .int .i64 a0_4, .int .i64 a0_5, .int .i64 a0_6, .int .i64 a0_7, .int .i64 a0_8, .int .i64 a0_9, .int .i64 a0_10, .int .i64 a0_11, .int .i64 a0_12, .int .i64 a0_13, .int .i64 a0_14, .int .i64 a0_15], .int .i64 a1] w fun e w' => e = .returned (.bool r) ∧ Below w.heap.size w w' := by
 have hu23 := Try.underlying23
 have hu22 := Try.underlying22
 have hu36 := Try.underlying36
 have HB := Aside0.mk (Below.refl w.heap.size w)
 have HT := Aside0.mk hT
 clear hT
 have H : ((watchwordlaw21_awake.f k).bind fun t170 => (if t170 = true then ((paths_Routes.f k a0_0 a0_1 a0_2 a0_3 a0_4 a0_5 a0_6 a0_7 a0_8 a0_9 a0_10 a0_11 a0_12 a0_13 a0_14 a0_15 a1).bind fun bt171 => ((watchwordlaw0_Num.f bt171.2).bind fun t175 => (if t175 = 0 then (if a1 < 1 then (watchwordlaw21_PathsLeast.j0 k a1 bt171.1 true a0_0 a0_1 a0_2 a0_3 a0_4 a0_5 a0_6 a0_7 a0_8 a0_9 a0_10 a0_11 a0_12 a0_13 a0_14 a0_15) else (watchwordlaw21_PathsLeast.j0 k a1 bt171.1 (decide (a1 > 4)) a0_0 a0_1 a0_2 a0_3 a0_4 a0_5 a0_6 a0_7 a0_8 a0_9 a0_10 a0_11 a0_12 a0_13 a0_14 a0_15)) else (some ((bt171.1.length : Int) == 0))))) else (some false))) = some r := h
 clear h
 replace H := Option.bind_eq_some_iff.mp H
 obtain ⟨t170, A30, H⟩ := H
 replace H : (if t170 = true then ((paths_Routes.f k a0_0 a0_1 a0_2 a0_3 a0_4 a0_5 a0_6 a0_7 a0_8 a0_9 a0_10 a0_11 a0_12 a0_13 a0_14 a0_15 a1).bind fun bt171 => ((watchwordlaw0_Num.f bt171.2).bind fun t175 => (if t175 = 0 then (if a1 < 1 then (watchwordlaw21_PathsLeast.j0 k a1 bt171.1 true a0_0 a0_1 a0_2 a0_3 a0_4 a0_5 a0_6 a0_7 a0_8 a0_9 a0_10 a0_11 a0_12 a0_13 a0_14 a0_15) else (watchwordlaw21_PathsLeast.j0 k a1 bt171.1 (decide (a1 > 4)) a0_0 a0_1 a0_2 a0_3 a0_4 a0_5 a0_6 a0_7 a0_8 a0_9 a0_10 a0_11 a0_12 a0_13 a0_14 a0_15)) else (some ((bt171.1.length : Int) == 0))))) else (some false)) = some r := H
 have A3 := Aside0.mk A30
 clear A30
 by_cases c4 : t170 = true
 ·subst c4
  have H1 : ((paths_Routes.f k a0_0 a0_1 a0_2 a0_3 a0_4 a0_5 a0_6 a0_7 a0_8 a0_9 a0_10 a0_11 a0_12 a0_13 a0_14 a0_15 a1).bind fun bt171 => ((watchwordlaw0_Num.f bt171.2).bind fun t175 => (if t175 = 0 then (if a1 < 1 then (watchwordlaw21_PathsLeast.j0 k a1 bt171.1 true a0_0 a0_1 a0_2 a0_3 a0_4 a0_5 a0_6 a0_7 a0_8 a0_9 a0_10 a0_11 a0_12 a0_13 a0_14 a0_15) else (watchwordlaw21_PathsLeast.j0 k a1 bt171.1 (decide (a1 > 4)) a0_0 a0_1 a0_2 a0_3 a0_4 a0_5 a0_6 a0_7 a0_8 a0_9 a0_10 a0_11 a0_12 a0_13 a0_14 a0_15)) else (some ((bt171.1.length : Int) == 0))))) = some r := by rw [if_pos rfl] at H; exact H
  clear H
  have H := H1
  clear H1
  replace H := Option.bind_eq_some_iff.mp H
  obtain ⟨⟨t171, t174⟩, A50, H⟩ := H
  replace H : ((watchwordlaw0_Num.f t174).bind fun t175 => (if t175 = 0 then (if a1 < 1 then (watchwordlaw21_PathsLeast.j0 k a1 t171 true a0_0 a0_1 a0_2 a0_3 a0_4 a0_5 a0_6 a0_7 a0_8 a0_9 a0_10 a0_11 a0_12 a0_13 a0_14 a0_15) else (watchwordlaw21_PathsLeast.j0 k a1 t171 (decide (a1 > 4)) a0_0 a0_1 a0_2 a0_3 a0_4 a0_5 a0_6 a0_7 a0_8 a0_9 a0_10 a0_11 a0_12 a0_13 a0_14 a0_15)) else (some ((t171.length : Int) == 0)))) = some r := H
  have A5 := Aside0.mk A50
  clear A50
  replace H := Option.bind_eq_some_iff.mp H
  obtain ⟨t175, A60, H⟩ := H
  replace H : (if t175 = 0 then (if a1 < 1 then (watchwordlaw21_PathsLeast.j0 k a1 t171 true a0_0 a0_1 a0_2 a0_3 a0_4 a0_5 a0_6 a0_7 a0_8 a0_9 a0_10 a0_11 a0_12 a0_13 a0_14 a0_15) else (watchwordlaw21_PathsLeast.j0 k a1 t171 (decide (a1 > 4)) a0_0 a0_1 a0_2 a0_3 a0_4 a0_5 a0_6 a0_7 a0_8 a0_9 a0_10 a0_11 a0_12 a0_13 a0_14 a0_15)) else (some ((t171.length : Int) == 0))) = some r := H
  have A6 := Aside0.mk A60
  clear A60
  by_cases c7 : t175 = 0
  ·rw [if_pos c7] at H
   have c7b0 : (t175 == 0) = true := beq_iff_eq.mpr c7
   have c7b1 : (t175 != 0) = false := bne_eq_false_iff_eq.mpr c7
   clear c7
   have HC8 := Aside0.mk H
   clear H
   go_enter Try.func4, Try.ntmps4
   go_upto_region 6 with (first | ((with_reducible refine gate_dst (N := 2) rfl ?_); refine box_event ?hg (N := 2) ?hd (cs := #[.int .i64 a0_0, .int .i64 a0_1, .int .i64 a0_2, .int .i64 a0_3, .int .i64 a0_4, .int .i64 a0_5, .int .i64 a0_6, .int .i64 a0_7, .int .i64 a0_8, .int .i64 a0_9, .int .i64 a0_10, .int .i64 a0_11, .int .i64 a0_12, .int .i64 a0_13, .int .i64 a0_14, .int .i64 a0_15]) (t := 23) ?hr ?_; (case hd => rfl); (case hg => rfl); (case hr => first | (go_simp; done) | (go_simp; rfl)); intro gb169 hg w9 hbox hb; have n0_ := Aside0.mk (below_step (by repeat (first | (with_reducible first | exact HB.out | apply below_alloc | apply pw_below_drewN | apply below_drew1) | exact HB.out)) hb); have n1_ := Aside0.mk (hbox); have n2_ := Aside0.mk ((by rw [hg]; exact (below_size (by repeat (first | (with_reducible first | exact HB.out | apply below_alloc | apply pw_below_drewN | apply below_drew1) | exact HB.out))) : w.heap.size ≤ gb169)); have n3_ := Aside0.mk ((by rw [hg]; exact (below_size (by repeat (first | (with_reducible first | exact HB.out | apply below_alloc | apply pw_below_drewN | apply below_drew1) | exact HB.out))) : w.heap.size ≤ gb169)); clear HB; have HB := n0_; have BK169 := n1_; have GW169 := n2_; have GE169 := n3_; clear n0_ n1_ n2_ n3_; clear hb hbox hg) | (go_at_call 18; (with_reducible refine (watchwordlaw21_awake.calls k  true _ A3.out (by first | rfl | exact HT.out)).mono ?_); rintro e w10 ⟨rfl, hb⟩; have n0_ := Aside0.mk (blk_below (g := gb169) (o := .cells #[.int .i64 a0_0, .int .i64 a0_1, .int .i64 a0_2, .int .i64 a0_3, .int .i64 a0_4, .int .i64 a0_5, .int .i64 a0_6, .int .i64 a0_7, .int .i64 a0_8, .int .i64 a0_9, .int .i64 a0_10, .int .i64 a0_11, .int .i64 a0_12, .int .i64 a0_13, .int .i64 a0_14, .int .i64 a0_15] 23 (0, 0)) (by (with_reducible repeat (first | refine blk_drewN ?_ _ | refine blk_drew ?_ | refine blk_alloc ?_ _)); exact BK169.out) hb); have n1_ := Aside0.mk (below_step (by repeat (first | (with_reducible first | exact HB.out | apply below_alloc | apply pw_below_drewN | apply below_drew1 | refine below_set ?_ GE169.out) | exact HB.out)) hb); clear BK169; clear HB; have BK169 := n0_; have HB := n1_; clear n0_ n1_; (try clear hb); (try clear hb2); (try clear hk); (try clear hi); obtain ⟨hcz11_0, hcz11_1, hcz11_2, hcz11_3, hcz11_4, hcz11_5, hcz11_6, hcz11_7, hcz11_8, hcz11_9, hcz11_10, hcz11_11, hcz11_12, hcz11_13, hcz11_14, hcz11_15⟩ := cells16 BK169.out; have hfz11_0 := fun (j_ : Nat) => blk_frozen BK169.out j_) | (go_at_call 13; (with_reducible refine (paths_Routes.calls k a0_0 a0_1 a0_2 a0_3 a0_4 a0_5 a0_6 a0_7 a0_8 a0_9 a0_10 a0_11 a0_12 a0_13 a0_14 a0_15 a1 t171 t174 _ A5.out).mono ?_); rintro e w12 ⟨v172, rfl, ho0, hb⟩; have n0_ := Aside0.mk (Kd.S_lower ho0 (below_size (by repeat (first | (with_reducible first | exact HB.out | apply below_alloc | apply pw_below_drewN | apply below_drew1 | refine below_set ?_ GE169.out) | exact HB.out)))); have n1_ := Aside0.mk (blk_below (g := gb169) (o := .cells #[.int .i64 a0_0, .int .i64 a0_1, .int .i64 a0_2, .int .i64 a0_3, .int .i64 a0_4, .int .i64 a0_5, .int .i64 a0_6, .int .i64 a0_7, .int .i64 a0_8, .int .i64 a0_9, .int .i64 a0_10, .int .i64 a0_11, .int .i64 a0_12, .int .i64 a0_13, .int .i64 a0_14, .int .i64 a0_15] 23 (0, 0)) (by (with_reducible repeat (first | refine blk_drewN ?_ _ | refine blk_drew ?_ | refine blk_alloc ?_ _)); exact BK169.out) hb); have n2_ := Aside0.mk (below_step (by repeat (first | (with_reducible first | exact HB.out | apply below_alloc | apply pw_below_drewN | apply below_drew1 | refine below_set ?_ GE169.out) | exact HB.out)) hb); clear BK169; clear HB; have HO173 := n0_; have BK169 := n1_; have HB := n2_; clear n0_ n1_ n2_; (try clear hb); (try clear hb2); (try clear hk); (try clear hi); (try clear ho0)) | (go_at_call 16; (with_reducible refine (watchwordlaw0_Num.calls t174 t175 _ A6.out).mono ?_); rintro e w' ⟨rfl, ⟨nd, rfl⟩⟩; (try first | exact ⟨rfl, _, World.drewN_drewN _ _ _⟩ | exact ⟨rfl, _, Eq.trans (World.drewN_drewN _ _ _) (congrArg (World.drewN _) (Nat.add_assoc _ _ _))⟩)))
   repeat (go_quiet (first | ((with_reducible refine gate_dst (N := 2) rfl ?_); refine box_event ?hg (N := 2) ?hd (cs := #[.int .i64 a0_0, .int .i64 a0_1, .int .i64 a0_2, .int .i64 a0_3, .int .i64 a0_4, .int .i64 a0_5, .int .i64 a0_6, .int .i64 a0_7, .int .i64 a0_8, .int .i64 a0_9, .int .i64 a0_10, .int .i64 a0_11, .int .i64 a0_12, .int .i64 a0_13, .int .i64 a0_14, .int .i64 a0_15]) (t := 23) ?hr ?_; (case hd => rfl); (case hg => rfl); (case hr => first | (go_simp; done) | (go_simp; rfl)); intro gb169 hg w9 hbox hb; have n0_ := Aside0.mk (below_step (by repeat (first | (with_reducible first | exact HB.out | apply below_alloc | apply pw_below_drewN | apply below_drew1) | exact HB.out)) hb); have n1_ := Aside0.mk (hbox); have n2_ := Aside0.mk ((by rw [hg]; exact (below_size (by repeat (first | (with_reducible first | exact HB.out | apply below_alloc | apply pw_below_drewN | apply below_drew1) | exact HB.out))) : w.heap.size ≤ gb169)); have n3_ := Aside0.mk ((by rw [hg]; exact (below_size (by repeat (first | (with_reducible first | exact HB.out | apply below_alloc | apply pw_below_drewN | apply below_drew1) | exact HB.out))) : w.heap.size ≤ gb169)); clear HB; have HB := n0_; have BK169 := n1_; have GW169 := n2_; have GE169 := n3_; clear n0_ n1_ n2_ n3_; clear hb hbox hg) | (go_at_call 18; (with_reducible refine (watchwordlaw21_awake.calls k  true _ A3.out (by first | rfl | exact HT.out)).mono ?_); rintro e w10 ⟨rfl, hb⟩; have n0_ := Aside0.mk (blk_below (g := gb169) (o := .cells #[.int .i64 a0_0, .int .i64 a0_1, .int .i64 a0_2, .int .i64 a0_3, .int .i64 a0_4, .int .i64 a0_5, .int .i64 a0_6, .int .i64 a0_7, .int .i64 a0_8, .int .i64 a0_9, .int .i64 a0_10, .int .i64 a0_11, .int .i64 a0_12, .int .i64 a0_13, .int .i64 a0_14, .int .i64 a0_15] 23 (0, 0)) (by (with_reducible repeat (first | refine blk_drewN ?_ _ | refine blk_drew ?_ | refine blk_alloc ?_ _)); exact BK169.out) hb); have n1_ := Aside0.mk (below_step (by repeat (first | (with_reducible first | exact HB.out | apply below_alloc | apply pw_below_drewN | apply below_drew1 | refine below_set ?_ GE169.out) | exact HB.out)) hb); clear BK169; clear HB; have BK169 := n0_; have HB := n1_; clear n0_ n1_; (try clear hb); (try clear hb2); (try clear hk); (try clear hi); obtain ⟨hcz11_0, hcz11_1, hcz11_2, hcz11_3, hcz11_4, hcz11_5, hcz11_6, hcz11_7, hcz11_8, hcz11_9, hcz11_10, hcz11_11, hcz11_12, hcz11_13, hcz11_14, hcz11_15⟩ := cells16 BK169.out; have hfz11_0 := fun (j_ : Nat) => blk_frozen BK169.out j_) | (go_at_call 13; (with_reducible refine (paths_Routes.calls k a0_0 a0_1 a0_2 a0_3 a0_4 a0_5 a0_6 a0_7 a0_8 a0_9 a0_10 a0_11 a0_12 a0_13 a0_14 a0_15 a1 t171 t174 _ A5.out).mono ?_); rintro e w12 ⟨v172, rfl, ho0, hb⟩; have n0_ := Aside0.mk (Kd.S_lower ho0 (below_size (by repeat (first | (with_reducible first | exact HB.out | apply below_alloc | apply pw_below_drewN | apply below_drew1 | refine below_set ?_ GE169.out) | exact HB.out)))); have n1_ := Aside0.mk (blk_below (g := gb169) (o := .cells #[.int .i64 a0_0, .int .i64 a0_1, .int .i64 a0_2, .int .i64 a0_3, .int .i64 a0_4, .int .i64 a0_5, .int .i64 a0_6, .int .i64 a0_7, .int .i64 a0_8, .int .i64 a0_9, .int .i64 a0_10, .int .i64 a0_11, .int .i64 a0_12, .int .i64 a0_13, .int .i64 a0_14, .int .i64 a0_15] 23 (0, 0)) (by (with_reducible repeat (first | refine blk_drewN ?_ _ | refine blk_drew ?_ | refine blk_alloc ?_ _)); exact BK169.out) hb); have n2_ := Aside0.mk (below_step (by repeat (first | (with_reducible first | exact HB.out | apply below_alloc | apply pw_below_drewN | apply below_drew1 | refine below_set ?_ GE169.out) | exact HB.out)) hb); clear BK169; clear HB; have HO173 := n0_; have BK169 := n1_; have HB := n2_; clear n0_ n1_ n2_; (try clear hb); (try clear hb2); (try clear hk); (try clear hi); (try clear ho0)) | (go_at_call 16; (with_reducible refine (watchwordlaw0_Num.calls t174 t175 _ A6.out).mono ?_); rintro e w' ⟨rfl, ⟨nd, rfl⟩⟩; (try first | exact ⟨rfl, _, World.drewN_drewN _ _ _⟩ | exact ⟨rfl, _, Eq.trans (World.drewN_drewN _ _ _) (congrArg (World.drewN _) (Nat.add_assoc _ _ _))⟩))); go_upto_region 6 with (first | ((with_reducible refine gate_dst (N := 2) rfl ?_); refine box_event ?hg (N := 2) ?hd (cs := #[.int .i64 a0_0, .int .i64 a0_1, .int .i64 a0_2, .int .i64 a0_3, .int .i64 a0_4, .int .i64 a0_5, .int .i64 a0_6, .int .i64 a0_7, .int .i64 a0_8, .int .i64 a0_9, .int .i64 a0_10, .int .i64 a0_11, .int .i64 a0_12, .int .i64 a0_13, .int .i64 a0_14, .int .i64 a0_15]) (t := 23) ?hr ?_; (case hd => rfl); (case hg => rfl); (case hr => first | (go_simp; done) | (go_simp; rfl)); intro gb169 hg w9 hbox hb; have n0_ := Aside0.mk (below_step (by repeat (first | (with_reducible first | exact HB.out | apply below_alloc | apply pw_below_drewN | apply below_drew1) | exact HB.out)) hb); have n1_ := Aside0.mk (hbox); have n2_ := Aside0.mk ((by rw [hg]; exact (below_size (by repeat (first | (with_reducible first | exact HB.out | apply below_alloc | apply pw_below_drewN | apply below_drew1) | exact HB.out))) : w.heap.size ≤ gb169)); have n3_ := Aside0.mk ((by rw [hg]; exact (below_size (by repeat (first | (with_reducible first | exact HB.out | apply below_alloc | apply pw_below_drewN | apply below_drew1) | exact HB.out))) : w.heap.size ≤ gb169)); clear HB; have HB := n0_; have BK169 := n1_; have GW169 := n2_; have GE169 := n3_; clear n0_ n1_ n2_ n3_; clear hb hbox hg) | (go_at_call 18; (with_reducible refine (watchwordlaw21_awake.calls k  true _ A3.out (by first | rfl | exact HT.out)).mono ?_); rintro e w10 ⟨rfl, hb⟩; have n0_ := Aside0.mk (blk_below (g := gb169) (o := .cells #[.int .i64 a0_0, .int .i64 a0_1, .int .i64 a0_2, .int .i64 a0_3, .int .i64 a0_4, .int .i64 a0_5, .int .i64 a0_6, .int .i64 a0_7, .int .i64 a0_8, .int .i64 a0_9, .int .i64 a0_10, .int .i64 a0_11, .int .i64 a0_12, .int .i64 a0_13, .int .i64 a0_14, .int .i64 a0_15] 23 (0, 0)) (by (with_reducible repeat (first | refine blk_drewN ?_ _ | refine blk_drew ?_ | refine blk_alloc ?_ _)); exact BK169.out) hb); have n1_ := Aside0.mk (below_step (by repeat (first | (with_reducible first | exact HB.out | apply below_alloc | apply pw_below_drewN | apply below_drew1 | refine below_set ?_ GE169.out) | exact HB.out)) hb); clear BK169; clear HB; have BK169 := n0_; have HB := n1_; clear n0_ n1_; (try clear hb); (try clear hb2); (try clear hk); (try clear hi); obtain ⟨hcz11_0, hcz11_1, hcz11_2, hcz11_3, hcz11_4, hcz11_5, hcz11_6, hcz11_7, hcz11_8, hcz11_9, hcz11_10, hcz11_11, hcz11_12, hcz11_13, hcz11_14, hcz11_15⟩ := cells16 BK169.out; have hfz11_0 := fun (j_ : Nat) => blk_frozen BK169.out j_) | (go_at_call 13; (with_reducible refine (paths_Routes.calls k a0_0 a0_1 a0_2 a0_3 a0_4 a0_5 a0_6 a0_7 a0_8 a0_9 a0_10 a0_11 a0_12 a0_13 a0_14 a0_15 a1 t171 t174 _ A5.out).mono ?_); rintro e w12 ⟨v172, rfl, ho0, hb⟩; have n0_ := Aside0.mk (Kd.S_lower ho0 (below_size (by repeat (first | (with_reducible first | exact HB.out | apply below_alloc | apply pw_below_drewN | apply below_drew1 | refine below_set ?_ GE169.out) | exact HB.out)))); have n1_ := Aside0.mk (blk_below (g := gb169) (o := .cells #[.int .i64 a0_0, .int .i64 a0_1, .int .i64 a0_2, .int .i64 a0_3, .int .i64 a0_4, .int .i64 a0_5, .int .i64 a0_6, .int .i64 a0_7, .int .i64 a0_8, .int .i64 a0_9, .int .i64 a0_10, .int .i64 a0_11, .int .i64 a0_12, .int .i64 a0_13, .int .i64 a0_14, .int .i64 a0_15] 23 (0, 0)) (by (with_reducible repeat (first | refine blk_drewN ?_ _ | refine blk_drew ?_ | refine blk_alloc ?_ _)); exact BK169.out) hb); have n2_ := Aside0.mk (below_step (by repeat (first | (with_reducible first | exact HB.out | apply below_alloc | apply pw_below_drewN | apply below_drew1 | refine below_set ?_ GE169.out) | exact HB.out)) hb); clear BK169; clear HB; have HO173 := n0_; have BK169 := n1_; have HB := n2_; clear n0_ n1_ n2_; (try clear hb); (try clear hb2); (try clear hk); (try clear hi); (try clear ho0)) | (go_at_call 16; (with_reducible refine (watchwordlaw0_Num.calls t174 t175 _ A6.out).mono ?_); rintro e w' ⟨rfl, ⟨nd, rfl⟩⟩; (try first | exact ⟨rfl, _, World.drewN_drewN _ _ _⟩ | exact ⟨rfl, _, Eq.trans (World.drewN_drewN _ _ _) (congrArg (World.drewN _) (Nat.add_assoc _ _ _))⟩))))
   (try simp only [Act.put, List.setIfInBounds_toArray, List.set_cons_zero, List.set_cons_succ])
   go_cut [33] (fun v33 wc => ∃ (kq : Nat) (x33_7 : Bool), v33 = .bool x33_7 ∧ Aside0 (watchwordlaw21_PathsLeast.j0 kq a1 t171 x33_7 a0_0 a0_1 a0_2 a0_3 a0_4 a0_5 a0_6 a0_7 a0_8 a0_9 a0_10 a0_11 a0_12 a0_13 a0_14 a0_15 = some r) ∧ Aside0 (kq ≤ k) ∧ Aside0 (Kd.S k41 41 wc w.heap.size (fun _ => True) v172 t171) ∧ Aside0 (wc.heap[gb169]? = some (.cells #[.int .i64 a0_0, .int .i64 a0_1, .int .i64 a0_2, .int .i64 a0_3, .int .i64 a0_4, .int .i64 a0_5, .int .i64 a0_6, .int .i64 a0_7, .int .i64 a0_8, .int .i64 a0_9, .int .i64 a0_10, .int .i64 a0_11, .int .i64 a0_12, .int .i64 a0_13, .int .i64 a0_14, .int .i64 a0_15] 23 (0, 0))) ∧ Aside0 (Below w.heap.size w wc))
   case first =>
    have H := HC8.out
    clear HC8
    by_cases c13 : a1 < 1
    ·rw [if_pos c13] at H
     have c13b0 : decide (a1 < 1) = true := decide_eq_true c13
     clear c13
     (first | rw [c13b0] | (simp only [i64_w, i32_w]; rw [c13b0]) | skip)
     as_aux_lemma =>
      exact absurd H (fun h_ => (by
       have hd_ : ∀ k_, watchwordlaw21_PathsLeast.j0 k_ a1 t171 true a0_0 a0_1 a0_2 a0_3 a0_4 a0_5 a0_6 a0_7 a0_8 a0_9 a0_10 a0_11 a0_12 a0_13 a0_14 a0_15 = some r → False := by
        intro k_ h_
        cases k_ with
        | zero => exact absurd h_ (by simp [watchwordlaw21_PathsLeast.j0])
        | succ k_ =>
         simp only [watchwordlaw21_PathsLeast.j0, if_true] at h_
         exact absurd (Option.some.inj h_) (by rw [HT.out]; decide)
       exact hd_ _ h_))
    ·rw [if_neg c13] at H
     have c13b0 : decide (a1 < 1) = false := decide_eq_false c13
     clear c13
     (first | rw [c13b0] | (simp only [i64_w, i32_w]; rw [c13b0]) | skip)
     as_aux_lemma =>
      have H' := Aside0.mk H
      clear H
      go_wp2
      repeat (go_quiet (fail); try go_wp2)
      go_meet
      case rel => exact ⟨_, (decide (a1 > 4)), (by first | rfl | (simp; done) | (simp [*]; done)), H', ⟨by first | omega | exact Nat.le_refl _⟩, ⟨by (with_reducible repeat (first | apply Kd.S_alloc | apply Kd.S_drewN | apply Kd.S_drew)); exact HO173.out⟩, ⟨by (with_reducible repeat (first | refine blk_drewN ?_ _ | refine blk_drew ?_ | refine blk_alloc ?_ _)); exact BK169.out⟩, ⟨by repeat (first | (with_reducible first | exact HB.out | apply below_alloc | apply pw_below_drewN | apply below_drew1 | refine below_set ?_ GE169.out) | exact HB.out)⟩⟩
   case rest =>
    clear HC8
    try clear c1
    try clear p2
    try clear c4
    try clear c7
    try clear c7b0
    try clear c7b1
    try clear c13
    try clear c13b0
    try clear hcz11_0
    try clear hcz11_1
    try clear hcz11_10
    try clear hcz11_11
    try clear hcz11_12
    try clear hcz11_13
    try clear hcz11_14
    try clear hcz11_15
    try clear hcz11_2
    try clear hcz11_3
    try clear hcz11_4
    try clear hcz11_5
    try clear hcz11_6
    try clear hcz11_7
    try clear hcz11_8
    try clear hcz11_9
    try clear hfz11_0
    obtain ⟨kq, x33_7, rfl, HA, HJ7, HO_5, BK169, HB⟩ := hcut
    cases kq with
    | zero => exact absurd HA.out (by simp [watchwordlaw21_PathsLeast.j0])
    | succ kj7 =>
     have H := HA.out
     clear HA
     simp only [watchwordlaw21_PathsLeast.j0] at H
     by_cases c14 : x33_7 = true
     ·subst c14
      have H1 : (some false) = some r := by rw [if_pos rfl] at H; exact H
      clear H
      have H := H1
      clear H1
      as_aux_lemma =>
       exact absurd (Option.some.inj H) (by rw [HT.out]; decide)
     ·replace c14 := Bool.eq_false_iff.mpr c14
      subst c14
      have H1 : ((watchwordlaw21_ways.f kj7 a0_0 a0_1 a0_2 a0_3 a0_4 a0_5 a0_6 a0_7 a0_8 a0_9 a0_10 a0_11 a0_12 a0_13 a0_14 a0_15 (wrap64 (a1 - 1))).bind fun bt176 => (watchwordlaw21_PathsLeast.l0 kj7 t171 (wrap64 (a1 - 1)) 0 0 bt176.1 bt176.2.1 bt176.2.2.1 bt176.2.2.2.1 bt176.2.2.2.2.1 bt176.2.2.2.2.2.1 bt176.2.2.2.2.2.2.1 bt176.2.2.2.2.2.2.2.1 bt176.2.2.2.2.2.2.2.2.1 bt176.2.2.2.2.2.2.2.2.2.1 bt176.2.2.2.2.2.2.2.2.2.2.1 bt176.2.2.2.2.2.2.2.2.2.2.2.1 bt176.2.2.2.2.2.2.2.2.2.2.2.2.1 bt176.2.2.2.2.2.2.2.2.2.2.2.2.2.1 bt176.2.2.2.2.2.2.2.2.2.2.2.2.2.2.1 bt176.2.2.2.2.2.2.2.2.2.2.2.2.2.2.2.1 bt176.2.2.2.2.2.2.2.2.2.2.2.2.2.2.2.2.1 bt176.2.2.2.2.2.2.2.2.2.2.2.2.2.2.2.2.2.1 bt176.2.2.2.2.2.2.2.2.2.2.2.2.2.2.2.2.2.2.1 bt176.2.2.2.2.2.2.2.2.2.2.2.2.2.2.2.2.2.2.2)) = some r := by rw [if_neg (show ¬ (false = true) by decide)] at H; exact H
      clear H
      have H := H1
      clear H1
      replace H := Option.bind_eq_some_iff.mp H
      obtain ⟨⟨t176, t177, t178, t179, t180, t181, t182, t183, t184, t185, t186, t187, t188, t189, t190, t191, t192, t193, t194, t195⟩, A150, H⟩ := H
      replace H : (watchwordlaw21_PathsLeast.l0 kj7 t171 (wrap64 (a1 - 1)) 0 0 t176 t177 t178 t179 t180 t181 t182 t183 t184 t185 t186 t187 t188 t189 t190 t191 t192 t193 t194 t195) = some r := H
      have A15 := Aside0.mk A150
      clear A150
      have H' := Aside0.mk H
      clear H
      obtain ⟨hcz16_0, hcz16_1, hcz16_2, hcz16_3, hcz16_4, hcz16_5, hcz16_6, hcz16_7, hcz16_8, hcz16_9, hcz16_10, hcz16_11, hcz16_12, hcz16_13, hcz16_14, hcz16_15⟩ := cells16 BK169.out
      have hfz16_0 := fun (j_ : Nat) => blk_frozen BK169.out j_
      go_wp2_with (first | (go_at_call 19; (with_reducible refine (watchwordlaw21_ways.calls kj7 a0_0 a0_1 a0_2 a0_3 a0_4 a0_5 a0_6 a0_7 a0_8 a0_9 a0_10 a0_11 a0_12 a0_13 a0_14 a0_15 (wrap64 (a1 - 1)) t176 t177 t178 t179 t180 t181 t182 t183 t184 t185 t186 t187 t188 t189 t190 t191 t192 t193 t194 t195 _ A15.out).mono ?_); rintro e w17 ⟨rfl, hb⟩; have n0_ := Aside0.mk (Kd.S_below (by (with_reducible repeat (first | apply Kd.S_alloc | apply Kd.S_drewN | apply Kd.S_drew)); exact HO_5.out) hb); have n1_ := Aside0.mk (blk_below (g := gb169) (o := .cells #[.int .i64 a0_0, .int .i64 a0_1, .int .i64 a0_2, .int .i64 a0_3, .int .i64 a0_4, .int .i64 a0_5, .int .i64 a0_6, .int .i64 a0_7, .int .i64 a0_8, .int .i64 a0_9, .int .i64 a0_10, .int .i64 a0_11, .int .i64 a0_12, .int .i64 a0_13, .int .i64 a0_14, .int .i64 a0_15] 23 (0, 0)) (by (with_reducible repeat (first | refine blk_drewN ?_ _ | refine blk_drew ?_ | refine blk_alloc ?_ _)); exact BK169.out) hb); have n2_ := Aside0.mk (below_step (by repeat (first | (with_reducible first | exact HB.out | apply below_alloc | apply pw_below_drewN | apply below_drew1 | refine below_set ?_ GE169.out) | exact HB.out)) hb); clear HO_5; clear BK169; clear HB; have HO_5 := n0_; have BK169 := n1_; have HB := n2_; clear n0_ n1_ n2_; (try clear hb); (try clear hb2); (try clear hk); (try clear hi)) | ((with_reducible refine gate_dst (N := 8) rfl ?_); refine box_event ?hg (N := 8) ?hd (cs := #[.int .i64 0, .int .i64 0, .int .i64 0, .int .i64 0]) (t := 22) ?hr ?_; (case hd => rfl); (case hg => rfl); (case hr => first | (go_simp; done) | (go_simp; rfl)); intro gb196 hg w18 hbox hb; have n0_ := Aside0.mk (Kd.S_below (by (with_reducible repeat (first | apply Kd.S_alloc | apply Kd.S_drewN | apply Kd.S_drew)); exact HO_5.out) hb); have n1_ := Aside0.mk (blk_below (g := gb169) (o := .cells #[.int .i64 a0_0, .int .i64 a0_1, .int .i64 a0_2, .int .i64 a0_3, .int .i64 a0_4, .int .i64 a0_5, .int .i64 a0_6, .int .i64 a0_7, .int .i64 a0_8, .int .i64 a0_9, .int .i64 a0_10, .int .i64 a0_11, .int .i64 a0_12, .int .i64 a0_13, .int .i64 a0_14, .int .i64 a0_15] 23 (0, 0)) (by (with_reducible repeat (first | refine blk_drewN ?_ _ | refine blk_drew ?_ | refine blk_alloc ?_ _)); exact BK169.out) hb); have n2_ := Aside0.mk (below_step (by repeat (first | (with_reducible first | exact HB.out | apply below_alloc | apply pw_below_drewN | apply below_drew1 | refine below_set ?_ GE169.out) | exact HB.out)) hb); have n3_ := Aside0.mk (hbox); have n4_ := Aside0.mk ((by rw [hg]; exact (below_size (by repeat (first | (with_reducible first | exact HB.out | apply below_alloc | apply pw_below_drewN | apply below_drew1 | refine below_set ?_ GE169.out) | exact HB.out))) : w.heap.size ≤ gb196)); have n5_ := Aside0.mk ((by rw [hg]; exact (below_size (by repeat (first | (with_reducible first | exact HB.out | apply below_alloc | apply pw_below_drewN | apply below_drew1 | refine below_set ?_ GE169.out) | exact HB.out))) : w.heap.size ≤ gb196)); have n6_ := Aside0.mk ((by rw [hg]; exact Nat.ne_of_lt (blk_lt (g := gb169) (o := .cells #[.int .i64 a0_0, .int .i64 a0_1, .int .i64 a0_2, .int .i64 a0_3, .int .i64 a0_4, .int .i64 a0_5, .int .i64 a0_6, .int .i64 a0_7, .int .i64 a0_8, .int .i64 a0_9, .int .i64 a0_10, .int .i64 a0_11, .int .i64 a0_12, .int .i64 a0_13, .int .i64 a0_14, .int .i64 a0_15] 23 (0, 0)) (by (with_reducible repeat (first | refine blk_drewN ?_ _ | refine blk_drew ?_ | refine blk_alloc ?_ _)); exact BK169.out)) : gb169 ≠ gb196)); have n7_ := Aside0.mk ((by rw [hg]; exact Nat.ne_of_gt (blk_lt (g := gb169) (o := .cells #[.int .i64 a0_0, .int .i64 a0_1, .int .i64 a0_2, .int .i64 a0_3, .int .i64 a0_4, .int .i64 a0_5, .int .i64 a0_6, .int .i64 a0_7, .int .i64 a0_8, .int .i64 a0_9, .int .i64 a0_10, .int .i64 a0_11, .int .i64 a0_12, .int .i64 a0_13, .int .i64 a0_14, .int .i64 a0_15] 23 (0, 0)) (by (with_reducible repeat (first | refine blk_drewN ?_ _ | refine blk_drew ?_ | refine blk_alloc ?_ _)); exact BK169.out)) : gb196 ≠ gb169)); clear HO_5; clear BK169; clear HB; have HO_5 := n0_; have BK169 := n1_; have HB := n2_; have BK196 := n3_; have GW196 := n4_; have GE196 := n5_; have NB169_196 := n6_; have NB196_169 := n7_; clear n0_ n1_ n2_ n3_ n4_ n5_ n6_ n7_; clear hb hbox hg) | ((with_reducible refine gate_dst (N := 9) rfl ?_); refine box_event ?hg (N := 9) ?hd (cs := #[.bool false, .bool false, .bool false, .bool false, .bool false, .bool false, .bool false, .bool false, .bool false, .bool false, .bool false, .bool false, .bool false, .bool false, .bool false, .bool false]) (t := 36) ?hr ?_; (case hd => rfl); (case hg => rfl); (case hr => first | (go_simp; done) | (go_simp; rfl)); intro gb197 hg w19 hbox hb; have n0_ := Aside0.mk (Kd.S_below (by (with_reducible repeat (first | apply Kd.S_alloc | apply Kd.S_drewN | apply Kd.S_drew)); exact HO_5.out) hb); have n1_ := Aside0.mk (blk_below (g := gb169) (o := .cells #[.int .i64 a0_0, .int .i64 a0_1, .int .i64 a0_2, .int .i64 a0_3, .int .i64 a0_4, .int .i64 a0_5, .int .i64 a0_6, .int .i64 a0_7, .int .i64 a0_8, .int .i64 a0_9, .int .i64 a0_10, .int .i64 a0_11, .int .i64 a0_12, .int .i64 a0_13, .int .i64 a0_14, .int .i64 a0_15] 23 (0, 0)) (by (with_reducible repeat (first | refine blk_drewN ?_ _ | refine blk_drew ?_ | refine blk_alloc ?_ _)); exact BK169.out) hb); have n2_ := Aside0.mk (blk_below (g := gb196) (o := .cells #[.int .i64 0, .int .i64 0, .int .i64 0, .int .i64 0] 22 (0, 0)) (by (with_reducible repeat (first | refine blk_drewN ?_ _ | refine blk_drew ?_ | refine blk_alloc ?_ _)); exact BK196.out) hb); have n3_ := Aside0.mk (below_step (by repeat (first | (with_reducible first | exact HB.out | apply below_alloc | apply pw_below_drewN | apply below_drew1 | refine below_set ?_ GE169.out | refine below_set ?_ GE196.out) | exact HB.out)) hb); have n4_ := Aside0.mk (hbox); have n5_ := Aside0.mk ((by rw [hg]; exact (below_size (by repeat (first | (with_reducible first | exact HB.out | apply below_alloc | apply pw_below_drewN | apply below_drew1 | refine below_set ?_ GE169.out | refine below_set ?_ GE196.out) | exact HB.out))) : w.heap.size ≤ gb197)); have n6_ := Aside0.mk ((by rw [hg]; exact (below_size (by repeat (first | (with_reducible first | exact HB.out | apply below_alloc | apply pw_below_drewN | apply below_drew1 | refine below_set ?_ GE169.out | refine below_set ?_ GE196.out) | exact HB.out))) : w.heap.size ≤ gb197)); have n7_ := Aside0.mk ((by rw [hg]; exact Nat.ne_of_lt (blk_lt (g := gb169) (o := .cells #[.int .i64 a0_0, .int .i64 a0_1, .int .i64 a0_2, .int .i64 a0_3, .int .i64 a0_4, .int .i64 a0_5, .int .i64 a0_6, .int .i64 a0_7, .int .i64 a0_8, .int .i64 a0_9, .int .i64 a0_10, .int .i64 a0_11, .int .i64 a0_12, .int .i64 a0_13, .int .i64 a0_14, .int .i64 a0_15] 23 (0, 0)) (by (with_reducible repeat (first | refine blk_drewN ?_ _ | refine blk_drew ?_ | refine blk_alloc ?_ _)); exact BK169.out)) : gb169 ≠ gb197)); have n8_ := Aside0.mk ((by rw [hg]; exact Nat.ne_of_gt (blk_lt (g := gb169) (o := .cells #[.int .i64 a0_0, .int .i64 a0_1, .int .i64 a0_2, .int .i64 a0_3, .int .i64 a0_4, .int .i64 a0_5, .int .i64 a0_6, .int .i64 a0_7, .int .i64 a0_8, .int .i64 a0_9, .int .i64 a0_10, .int .i64 a0_11, .int .i64 a0_12, .int .i64 a0_13, .int .i64 a0_14, .int .i64 a0_15] 23 (0, 0)) (by (with_reducible repeat (first | refine blk_drewN ?_ _ | refine blk_drew ?_ | refine blk_alloc ?_ _)); exact BK169.out)) : gb197 ≠ gb169)); have n9_ := Aside0.mk ((by rw [hg]; exact Nat.ne_of_lt (blk_lt (g := gb196) (o := .cells #[.int .i64 0, .int .i64 0, .int .i64 0, .int .i64 0] 22 (0, 0)) (by (with_reducible repeat (first | refine blk_drewN ?_ _ | refine blk_drew ?_ | refine blk_alloc ?_ _)); exact BK196.out)) : gb196 ≠ gb197)); have n10_ := Aside0.mk ((by rw [hg]; exact Nat.ne_of_gt (blk_lt (g := gb196) (o := .cells #[.int .i64 0, .int .i64 0, .int .i64 0, .int .i64 0] 22 (0, 0)) (by (with_reducible repeat (first | refine blk_drewN ?_ _ | refine blk_drew ?_ | refine blk_alloc ?_ _)); exact BK196.out)) : gb197 ≠ gb196)); clear HO_5; clear BK169; clear BK196; clear HB; have HO_5 := n0_; have BK169 := n1_; have BK196 := n2_; have HB := n3_; have BK197 := n4_; have GW197 := n5_; have GE197 := n6_; have NB169_197 := n7_; have NB197_169 := n8_; have NB196_197 := n9_; have NB197_196 := n10_; clear n0_ n1_ n2_ n3_ n4_ n5_ n6_ n7_ n8_ n9_ n10_; clear hb hbox hg; have hnb20 := NB196_169.out; have hnc20 := NB169_196.out; have hnb21 := NB196_197.out; have hnc21 := NB197_196.out; have hcz22_0 : w19.cell? ⟨gb196, 0, none⟩ = some (.int .i64 0) := (blk_cell BK196.out 0).trans rfl; have hcz22_1 : w19.cell? ⟨gb196, 1, none⟩ = some (.int .i64 0) := (blk_cell BK196.out 1).trans rfl; have hcz22_2 : w19.cell? ⟨gb196, 2, none⟩ = some (.int .i64 0) := (blk_cell BK196.out 2).trans rfl; have hcz22_3 : w19.cell? ⟨gb196, 3, none⟩ = some (.int .i64 0) := (blk_cell BK196.out 3).trans rfl; have hfz22_0 := blk_frozen BK196.out 0; have hfz22_1 := blk_frozen BK196.out 1; have hfz22_2 := blk_frozen BK196.out 2; have hfz22_3 := blk_frozen BK196.out 3) | ((with_reducible refine gate_store (t := 22) (p := 8) rfl ?_); (try (rw [drewN_self w19]; generalize hq_ : World.drewN w19 _ = w19; have n0_ := Aside0.mk (Kd.S_at hq_ HO_5.out); have n1_ := Aside0.mk (blk_at hq_ BK169.out); have n2_ := Aside0.mk (blk_at hq_ BK196.out); have n3_ := Aside0.mk (blk_at hq_ BK197.out); have n4_ := Aside0.mk (below_at hq_ HB.out); clear hq_ HO_5 BK169 BK196 BK197 HB; have HO_5 := n0_; have BK169 := n1_; have BK196 := n2_; have BK197 := n3_; have HB := n4_; clear n0_ n1_ n2_ n3_ n4_)); refine store_event (t := 22) (p := 8) (v := ?vo_w23) (w1 := ((((w19.setCell ⟨gb196, 0, none⟩ (.int .i64 t176)).setCell ⟨gb196, 1, none⟩ (.int .i64 t177)).setCell ⟨gb196, 2, none⟩ (.int .i64 t178)).setCell ⟨gb196, 3, none⟩ (.int .i64 t179))) ?hg ?ho ?hn ?hr ?_; (case ho => rfl); (case hg => rfl); (case hn => rfl); (case hr => first | (go_simp; done) | (go_simp; rfl)); intro w23 hw; have n0_ : Aside0 (Kd.S k41 41 w23 w.heap.size (fun _ => True) v172 t171) := ⟨(by rw [hw]; exact (by (with_reducible repeat (first | apply Kd.S_alloc | apply Kd.S_drewN | apply Kd.S_drew)); exact Kd.S_mono (Kd.S_far (p := ⟨gb196, 3, none⟩) (Kd.S_far (p := ⟨gb196, 2, none⟩) (Kd.S_far (p := ⟨gb196, 1, none⟩) (Kd.S_far (p := ⟨gb196, 0, none⟩) (Kd.S_types HO_5.out BK196.out (by decide)) (fun _ hk => hk.2) (.int .i64 t176)) (fun _ hk => hk.2) (.int .i64 t177)) (fun _ hk => hk.2) (.int .i64 t178)) (fun _ hk => hk.2) (.int .i64 t179)) (fun _ hk => trivial)))⟩; have n1_ : Aside0 (w23.heap[gb169]? = some (.cells #[.int .i64 a0_0, .int .i64 a0_1, .int .i64 a0_2, .int .i64 a0_3, .int .i64 a0_4, .int .i64 a0_5, .int .i64 a0_6, .int .i64 a0_7, .int .i64 a0_8, .int .i64 a0_9, .int .i64 a0_10, .int .i64 a0_11, .int .i64 a0_12, .int .i64 a0_13, .int .i64 a0_14, .int .i64 a0_15] 23 (0, 0))) := ⟨(by rw [hw]; exact (by (with_reducible repeat (first | refine blk_drewN ?_ _ | refine blk_drew ?_ | refine blk_alloc ?_ _)); refine blk_far ?_ NB169_196.out _; (with_reducible repeat (first | refine blk_drewN ?_ _ | refine blk_drew ?_ | refine blk_alloc ?_ _)); refine blk_far ?_ NB169_196.out _; (with_reducible repeat (first | refine blk_drewN ?_ _ | refine blk_drew ?_ | refine blk_alloc ?_ _)); refine blk_far ?_ NB169_196.out _; (with_reducible repeat (first | refine blk_drewN ?_ _ | refine blk_drew ?_ | refine blk_alloc ?_ _)); refine blk_far ?_ NB169_196.out _; (with_reducible repeat (first | refine blk_drewN ?_ _ | refine blk_drew ?_ | refine blk_alloc ?_ _)); exact BK169.out))⟩; have n2_ : Aside0 (w23.heap[gb196]? = some (.cells #[.int .i64 t176, .int .i64 t177, .int .i64 t178, .int .i64 t179] 22 (0, 0))) := ⟨(by rw [hw]; exact (by (with_reducible repeat (first | refine blk_drewN ?_ _ | refine blk_drew ?_ | refine blk_alloc ?_ _)); refine blk_put (cs := #[.int .i64 t176, .int .i64 t177, .int .i64 t178, .int .i64 0]) ?_ 3 _ rfl; (with_reducible repeat (first | refine blk_drewN ?_ _ | refine blk_drew ?_ | refine blk_alloc ?_ _)); refine blk_put (cs := #[.int .i64 t176, .int .i64 t177, .int .i64 0, .int .i64 0]) ?_ 2 _ rfl; (with_reducible repeat (first | refine blk_drewN ?_ _ | refine blk_drew ?_ | refine blk_alloc ?_ _)); refine blk_put (cs := #[.int .i64 t176, .int .i64 0, .int .i64 0, .int .i64 0]) ?_ 1 _ rfl; (with_reducible repeat (first | refine blk_drewN ?_ _ | refine blk_drew ?_ | refine blk_alloc ?_ _)); refine blk_put (cs := #[.int .i64 0, .int .i64 0, .int .i64 0, .int .i64 0]) ?_ 0 _ rfl; (with_reducible repeat (first | refine blk_drewN ?_ _ | refine blk_drew ?_ | refine blk_alloc ?_ _)); exact BK196.out))⟩; have n3_ : Aside0 (w23.heap[gb197]? = some (.cells #[.bool false, .bool false, .bool false, .bool false, .bool false, .bool false, .bool false, .bool false, .bool false, .bool false, .bool false, .bool false, .bool false, .bool false, .bool false, .bool false] 36 (0, 0))) := ⟨(by rw [hw]; exact (by (with_reducible repeat (first | refine blk_drewN ?_ _ | refine blk_drew ?_ | refine blk_alloc ?_ _)); refine blk_far ?_ NB197_196.out _; (with_reducible repeat (first | refine blk_drewN ?_ _ | refine blk_drew ?_ | refine blk_alloc ?_ _)); refine blk_far ?_ NB197_196.out _; (with_reducible repeat (first | refine blk_drewN ?_ _ | refine blk_drew ?_ | refine blk_alloc ?_ _)); refine blk_far ?_ NB197_196.out _; (with_reducible repeat (first | refine blk_drewN ?_ _ | refine blk_drew ?_ | refine blk_alloc ?_ _)); refine blk_far ?_ NB197_196.out _; (with_reducible repeat (first | refine blk_drewN ?_ _ | refine blk_drew ?_ | refine blk_alloc ?_ _)); exact BK197.out))⟩; have n4_ : Aside0 (Below w.heap.size w w23) := ⟨(by rw [hw]; exact (by repeat (first | (with_reducible first | exact HB.out | apply below_alloc | apply pw_below_drewN | apply below_drew1 | refine below_set ?_ GE169.out | refine below_set ?_ GE196.out | refine below_set ?_ GE197.out) | exact HB.out)))⟩; clear hw; clear HO_5; clear BK169; clear BK196; clear BK197; clear HB; have HO_5 := n0_; have BK169 := n1_; have BK196 := n2_; have BK197 := n3_; have HB := n4_; clear n0_ n1_ n2_ n3_ n4_; have hnb24 := NB197_169.out; have hnc24 := NB169_197.out; obtain ⟨hcz25_0, hcz25_1, hcz25_2, hcz25_3, hcz25_4, hcz25_5, hcz25_6, hcz25_7, hcz25_8, hcz25_9, hcz25_10, hcz25_11, hcz25_12, hcz25_13, hcz25_14, hcz25_15⟩ := cells16 BK197.out; have hfz25_0 := fun (j_ : Nat) => blk_frozen BK197.out j_) | ((with_reducible refine gate_store (t := 36) (p := 9) rfl ?_); (try (rw [drewN_self w23]; generalize hq_ : World.drewN w23 _ = w23; have n0_ := Aside0.mk (Kd.S_at hq_ HO_5.out); have n1_ := Aside0.mk (blk_at hq_ BK169.out); have n2_ := Aside0.mk (blk_at hq_ BK196.out); have n3_ := Aside0.mk (blk_at hq_ BK197.out); have n4_ := Aside0.mk (below_at hq_ HB.out); clear hq_ HO_5 BK169 BK196 BK197 HB; have HO_5 := n0_; have BK169 := n1_; have BK196 := n2_; have BK197 := n3_; have HB := n4_; clear n0_ n1_ n2_ n3_ n4_)); refine store_event (t := 36) (p := 9) (v := ?vo_w26) (w1 := ((((((((((((((((w23.setCell ⟨gb197, 0, none⟩ (.bool t180)).setCell ⟨gb197, 1, none⟩ (.bool t181)).setCell ⟨gb197, 2, none⟩ (.bool t182)).setCell ⟨gb197, 3, none⟩ (.bool t183)).setCell ⟨gb197, 4, none⟩ (.bool t184)).setCell ⟨gb197, 5, none⟩ (.bool t185)).setCell ⟨gb197, 6, none⟩ (.bool t186)).setCell ⟨gb197, 7, none⟩ (.bool t187)).setCell ⟨gb197, 8, none⟩ (.bool t188)).setCell ⟨gb197, 9, none⟩ (.bool t189)).setCell ⟨gb197, 10, none⟩ (.bool t190)).setCell ⟨gb197, 11, none⟩ (.bool t191)).setCell ⟨gb197, 12, none⟩ (.bool t192)).setCell ⟨gb197, 13, none⟩ (.bool t193)).setCell ⟨gb197, 14, none⟩ (.bool t194)).setCell ⟨gb197, 15, none⟩ (.bool t195))) ?hg ?ho ?hn ?hr ?_; (case ho => rfl); (case hg => rfl); (case hn => rfl); (case hr => first | (go_simp; done) | (go_simp; rfl)); intro w26 hw; have n0_ : Aside0 (Kd.S k41 41 w26 w.heap.size (fun _ => True) v172 t171) := ⟨(by rw [hw]; exact (by (with_reducible repeat (first | apply Kd.S_alloc | apply Kd.S_drewN | apply Kd.S_drew)); exact Kd.S_mono (Kd.S_far (p := ⟨gb197, 15, none⟩) (Kd.S_far (p := ⟨gb197, 14, none⟩) (Kd.S_far (p := ⟨gb197, 13, none⟩) (Kd.S_far (p := ⟨gb197, 12, none⟩) (Kd.S_far (p := ⟨gb197, 11, none⟩) (Kd.S_far (p := ⟨gb197, 10, none⟩) (Kd.S_far (p := ⟨gb197, 9, none⟩) (Kd.S_far (p := ⟨gb197, 8, none⟩) (Kd.S_far (p := ⟨gb197, 7, none⟩) (Kd.S_far (p := ⟨gb197, 6, none⟩) (Kd.S_far (p := ⟨gb197, 5, none⟩) (Kd.S_far (p := ⟨gb197, 4, none⟩) (Kd.S_far (p := ⟨gb197, 3, none⟩) (Kd.S_far (p := ⟨gb197, 2, none⟩) (Kd.S_far (p := ⟨gb197, 1, none⟩) (Kd.S_far (p := ⟨gb197, 0, none⟩) (Kd.S_types HO_5.out BK197.out (by decide)) (fun _ hk => hk.2) (.bool t180)) (fun _ hk => hk.2) (.bool t181)) (fun _ hk => hk.2) (.bool t182)) (fun _ hk => hk.2) (.bool t183)) (fun _ hk => hk.2) (.bool t184)) (fun _ hk => hk.2) (.bool t185)) (fun _ hk => hk.2) (.bool t186)) (fun _ hk => hk.2) (.bool t187)) (fun _ hk => hk.2) (.bool t188)) (fun _ hk => hk.2) (.bool t189)) (fun _ hk => hk.2) (.bool t190)) (fun _ hk => hk.2) (.bool t191)) (fun _ hk => hk.2) (.bool t192)) (fun _ hk => hk.2) (.bool t193)) (fun _ hk => hk.2) (.bool t194)) (fun _ hk => hk.2) (.bool t195)) (fun _ hk => trivial)))⟩; have n1_ : Aside0 (w26.heap[gb169]? = some (.cells #[.int .i64 a0_0, .int .i64 a0_1, .int .i64 a0_2, .int .i64 a0_3, .int .i64 a0_4, .int .i64 a0_5, .int .i64 a0_6, .int .i64 a0_7, .int .i64 a0_8, .int .i64 a0_9, .int .i64 a0_10, .int .i64 a0_11, .int .i64 a0_12, .int .i64 a0_13, .int .i64 a0_14, .int .i64 a0_15] 23 (0, 0))) := ⟨(by rw [hw]; exact (by (with_reducible repeat (first | refine blk_drewN ?_ _ | refine blk_drew ?_ | refine blk_alloc ?_ _)); refine blk_far ?_ NB169_197.out _; (with_reducible repeat (first | refine blk_drewN ?_ _ | refine blk_drew ?_ | refine blk_alloc ?_ _)); refine blk_far ?_ NB169_197.out _; (with_reducible repeat (first | refine blk_drewN ?_ _ | refine blk_drew ?_ | refine blk_alloc ?_ _)); refine blk_far ?_ NB169_197.out _; (with_reducible repeat (first | refine blk_drewN ?_ _ | refine blk_drew ?_ | refine blk_alloc ?_ _)); refine blk_far ?_ NB169_197.out _; (with_reducible repeat (first | refine blk_drewN ?_ _ | refine blk_drew ?_ | refine blk_alloc ?_ _)); refine blk_far ?_ NB169_197.out _; (with_reducible repeat (first | refine blk_drewN ?_ _ | refine blk_drew ?_ | refine blk_alloc ?_ _)); refine blk_far ?_ NB169_197.out _; (with_reducible repeat (first | refine blk_drewN ?_ _ | refine blk_drew ?_ | refine blk_alloc ?_ _)); refine blk_far ?_ NB169_197.out _; (with_reducible repeat (first | refine blk_drewN ?_ _ | refine blk_drew ?_ | refine blk_alloc ?_ _)); refine blk_far ?_ NB169_197.out _; (with_reducible repeat (first | refine blk_drewN ?_ _ | refine blk_drew ?_ | refine blk_alloc ?_ _)); refine blk_far ?_ NB169_197.out _; (with_reducible repeat (first | refine blk_drewN ?_ _ | refine blk_drew ?_ | refine blk_alloc ?_ _)); refine blk_far ?_ NB169_197.out _; (with_reducible repeat (first | refine blk_drewN ?_ _ | refine blk_drew ?_ | refine blk_alloc ?_ _)); refine blk_far ?_ NB169_197.out _; (with_reducible repeat (first | refine blk_drewN ?_ _ | refine blk_drew ?_ | refine blk_alloc ?_ _)); refine blk_far ?_ NB169_197.out _; (with_reducible repeat (first | refine blk_drewN ?_ _ | refine blk_drew ?_ | refine blk_alloc ?_ _)); refine blk_far ?_ NB169_197.out _; (with_reducible repeat (first | refine blk_drewN ?_ _ | refine blk_drew ?_ | refine blk_alloc ?_ _)); refine blk_far ?_ NB169_197.out _; (with_reducible repeat (first | refine blk_drewN ?_ _ | refine blk_drew ?_ | refine blk_alloc ?_ _)); refine blk_far ?_ NB169_197.out _; (with_reducible repeat (first | refine blk_drewN ?_ _ | refine blk_drew ?_ | refine blk_alloc ?_ _)); refine blk_far ?_ NB169_197.out _; (with_reducible repeat (first | refine blk_drewN ?_ _ | refine blk_drew ?_ | refine blk_alloc ?_ _)); exact BK169.out))⟩; have n2_ : Aside0 (w26.heap[gb196]? = some (.cells #[.int .i64 t176, .int .i64 t177, .int .i64 t178, .int .i64 t179] 22 (0, 0))) := ⟨(by rw [hw]; exact (by (with_reducible repeat (first | refine blk_drewN ?_ _ | refine blk_drew ?_ | refine blk_alloc ?_ _)); refine blk_far ?_ NB196_197.out _; (with_reducible repeat (first | refine blk_drewN ?_ _ | refine blk_drew ?_ | refine blk_alloc ?_ _)); refine blk_far ?_ NB196_197.out _; (with_reducible repeat (first | refine blk_drewN ?_ _ | refine blk_drew ?_ | refine blk_alloc ?_ _)); refine blk_far ?_ NB196_197.out _; (with_reducible repeat (first | refine blk_drewN ?_ _ | refine blk_drew ?_ | refine blk_alloc ?_ _)); refine blk_far ?_ NB196_197.out _; (with_reducible repeat (first | refine blk_drewN ?_ _ | refine blk_drew ?_ | refine blk_alloc ?_ _)); refine blk_far ?_ NB196_197.out _; (with_reducible repeat (first | refine blk_drewN ?_ _ | refine blk_drew ?_ | refine blk_alloc ?_ _)); refine blk_far ?_ NB196_197.out _; (with_reducible repeat (first | refine blk_drewN ?_ _ | refine blk_drew ?_ | refine blk_alloc ?_ _)); refine blk_far ?_ NB196_197.out _; (with_reducible repeat (first | refine blk_drewN ?_ _ | refine blk_drew ?_ | refine blk_alloc ?_ _)); refine blk_far ?_ NB196_197.out _; (with_reducible repeat (first | refine blk_drewN ?_ _ | refine blk_drew ?_ | refine blk_alloc ?_ _)); refine blk_far ?_ NB196_197.out _; (with_reducible repeat (first | refine blk_drewN ?_ _ | refine blk_drew ?_ | refine blk_alloc ?_ _)); refine blk_far ?_ NB196_197.out _; (with_reducible repeat (first | refine blk_drewN ?_ _ | refine blk_drew ?_ | refine blk_alloc ?_ _)); refine blk_far ?_ NB196_197.out _; (with_reducible repeat (first | refine blk_drewN ?_ _ | refine blk_drew ?_ | refine blk_alloc ?_ _)); refine blk_far ?_ NB196_197.out _; (with_reducible repeat (first | refine blk_drewN ?_ _ | refine blk_drew ?_ | refine blk_alloc ?_ _)); refine blk_far ?_ NB196_197.out _; (with_reducible repeat (first | refine blk_drewN ?_ _ | refine blk_drew ?_ | refine blk_alloc ?_ _)); refine blk_far ?_ NB196_197.out _; (with_reducible repeat (first | refine blk_drewN ?_ _ | refine blk_drew ?_ | refine blk_alloc ?_ _)); refine blk_far ?_ NB196_197.out _; (with_reducible repeat (first | refine blk_drewN ?_ _ | refine blk_drew ?_ | refine blk_alloc ?_ _)); refine blk_far ?_ NB196_197.out _; (with_reducible repeat (first | refine blk_drewN ?_ _ | refine blk_drew ?_ | refine blk_alloc ?_ _)); exact BK196.out))⟩; have n3_ : Aside0 (w26.heap[gb197]? = some (.cells #[.bool t180, .bool t181, .bool t182, .bool t183, .bool t184, .bool t185, .bool t186, .bool t187, .bool t188, .bool t189, .bool t190, .bool t191, .bool t192, .bool t193, .bool t194, .bool t195] 36 (0, 0))) := ⟨(by rw [hw]; exact (by (with_reducible repeat (first | refine blk_drewN ?_ _ | refine blk_drew ?_ | refine blk_alloc ?_ _)); refine blk_put (cs := #[.bool t180, .bool t181, .bool t182, .bool t183, .bool t184, .bool t185, .bool t186, .bool t187, .bool t188, .bool t189, .bool t190, .bool t191, .bool t192, .bool t193, .bool t194, .bool false]) ?_ 15 _ rfl; (with_reducible repeat (first | refine blk_drewN ?_ _ | refine blk_drew ?_ | refine blk_alloc ?_ _)); refine blk_put (cs := #[.bool t180, .bool t181, .bool t182, .bool t183, .bool t184, .bool t185, .bool t186, .bool t187, .bool t188, .bool t189, .bool t190, .bool t191, .bool t192, .bool t193, .bool false, .bool false]) ?_ 14 _ rfl; (with_reducible repeat (first | refine blk_drewN ?_ _ | refine blk_drew ?_ | refine blk_alloc ?_ _)); refine blk_put (cs := #[.bool t180, .bool t181, .bool t182, .bool t183, .bool t184, .bool t185, .bool t186, .bool t187, .bool t188, .bool t189, .bool t190, .bool t191, .bool t192, .bool false, .bool false, .bool false]) ?_ 13 _ rfl; (with_reducible repeat (first | refine blk_drewN ?_ _ | refine blk_drew ?_ | refine blk_alloc ?_ _)); refine blk_put (cs := #[.bool t180, .bool t181, .bool t182, .bool t183, .bool t184, .bool t185, .bool t186, .bool t187, .bool t188, .bool t189, .bool t190, .bool t191, .bool false, .bool false, .bool false, .bool false]) ?_ 12 _ rfl; (with_reducible repeat (first | refine blk_drewN ?_ _ | refine blk_drew ?_ | refine blk_alloc ?_ _)); refine blk_put (cs := #[.bool t180, .bool t181, .bool t182, .bool t183, .bool t184, .bool t185, .bool t186, .bool t187, .bool t188, .bool t189, .bool t190, .bool false, .bool false, .bool false, .bool false, .bool false]) ?_ 11 _ rfl; (with_reducible repeat (first | refine blk_drewN ?_ _ | refine blk_drew ?_ | refine blk_alloc ?_ _)); refine blk_put (cs := #[.bool t180, .bool t181, .bool t182, .bool t183, .bool t184, .bool t185, .bool t186, .bool t187, .bool t188, .bool t189, .bool false, .bool false, .bool false, .bool false, .bool false, .bool false]) ?_ 10 _ rfl; (with_reducible repeat (first | refine blk_drewN ?_ _ | refine blk_drew ?_ | refine blk_alloc ?_ _)); refine blk_put (cs := #[.bool t180, .bool t181, .bool t182, .bool t183, .bool t184, .bool t185, .bool t186, .bool t187, .bool t188, .bool false, .bool false, .bool false, .bool false, .bool false, .bool false, .bool false]) ?_ 9 _ rfl; (with_reducible repeat (first | refine blk_drewN ?_ _ | refine blk_drew ?_ | refine blk_alloc ?_ _)); refine blk_put (cs := #[.bool t180, .bool t181, .bool t182, .bool t183, .bool t184, .bool t185, .bool t186, .bool t187, .bool false, .bool false, .bool false, .bool false, .bool false, .bool false, .bool false, .bool false]) ?_ 8 _ rfl; (with_reducible repeat (first | refine blk_drewN ?_ _ | refine blk_drew ?_ | refine blk_alloc ?_ _)); refine blk_put (cs := #[.bool t180, .bool t181, .bool t182, .bool t183, .bool t184, .bool t185, .bool t186, .bool false, .bool false, .bool false, .bool false, .bool false, .bool false, .bool false, .bool false, .bool false]) ?_ 7 _ rfl; (with_reducible repeat (first | refine blk_drewN ?_ _ | refine blk_drew ?_ | refine blk_alloc ?_ _)); refine blk_put (cs := #[.bool t180, .bool t181, .bool t182, .bool t183, .bool t184, .bool t185, .bool false, .bool false, .bool false, .bool false, .bool false, .bool false, .bool false, .bool false, .bool false, .bool false]) ?_ 6 _ rfl; (with_reducible repeat (first | refine blk_drewN ?_ _ | refine blk_drew ?_ | refine blk_alloc ?_ _)); refine blk_put (cs := #[.bool t180, .bool t181, .bool t182, .bool t183, .bool t184, .bool false, .bool false, .bool false, .bool false, .bool false, .bool false, .bool false, .bool false, .bool false, .bool false, .bool false]) ?_ 5 _ rfl; (with_reducible repeat (first | refine blk_drewN ?_ _ | refine blk_drew ?_ | refine blk_alloc ?_ _)); refine blk_put (cs := #[.bool t180, .bool t181, .bool t182, .bool t183, .bool false, .bool false, .bool false, .bool false, .bool false, .bool false, .bool false, .bool false, .bool false, .bool false, .bool false, .bool false]) ?_ 4 _ rfl; (with_reducible repeat (first | refine blk_drewN ?_ _ | refine blk_drew ?_ | refine blk_alloc ?_ _)); refine blk_put (cs := #[.bool t180, .bool t181, .bool t182, .bool false, .bool false, .bool false, .bool false, .bool false, .bool false, .bool false, .bool false, .bool false, .bool false, .bool false, .bool false, .bool false]) ?_ 3 _ rfl; (with_reducible repeat (first | refine blk_drewN ?_ _ | refine blk_drew ?_ | refine blk_alloc ?_ _)); refine blk_put (cs := #[.bool t180, .bool t181, .bool false, .bool false, .bool false, .bool false, .bool false, .bool false, .bool false, .bool false, .bool false, .bool false, .bool false, .bool false, .bool false, .bool false]) ?_ 2 _ rfl; (with_reducible repeat (first | refine blk_drewN ?_ _ | refine blk_drew ?_ | refine blk_alloc ?_ _)); refine blk_put (cs := #[.bool t180, .bool false, .bool false, .bool false, .bool false, .bool false, .bool false, .bool false, .bool false, .bool false, .bool false, .bool false, .bool false, .bool false, .bool false, .bool false]) ?_ 1 _ rfl; (with_reducible repeat (first | refine blk_drewN ?_ _ | refine blk_drew ?_ | refine blk_alloc ?_ _)); refine blk_put (cs := #[.bool false, .bool false, .bool false, .bool false, .bool false, .bool false, .bool false, .bool false, .bool false, .bool false, .bool false, .bool false, .bool false, .bool false, .bool false, .bool false]) ?_ 0 _ rfl; (with_reducible repeat (first | refine blk_drewN ?_ _ | refine blk_drew ?_ | refine blk_alloc ?_ _)); exact BK197.out))⟩; have n4_ : Aside0 (Below w.heap.size w w26) := ⟨(by rw [hw]; exact (by repeat (first | (with_reducible first | exact HB.out | apply below_alloc | apply pw_below_drewN | apply below_drew1 | refine below_set ?_ GE169.out | refine below_set ?_ GE196.out | refine below_set ?_ GE197.out) | exact HB.out)))⟩; clear hw; clear HO_5; clear BK169; clear BK196; clear BK197; clear HB; have HO_5 := n0_; have BK169 := n1_; have BK196 := n2_; have BK197 := n3_; have HB := n4_; clear n0_ n1_ n2_ n3_ n4_))
      repeat (go_quiet (first | (go_at_call 19; (with_reducible refine (watchwordlaw21_ways.calls kj7 a0_0 a0_1 a0_2 a0_3 a0_4 a0_5 a0_6 a0_7 a0_8 a0_9 a0_10 a0_11 a0_12 a0_13 a0_14 a0_15 (wrap64 (a1 - 1)) t176 t177 t178 t179 t180 t181 t182 t183 t184 t185 t186 t187 t188 t189 t190 t191 t192 t193 t194 t195 _ A15.out).mono ?_); rintro e w17 ⟨rfl, hb⟩; have n0_ := Aside0.mk (Kd.S_below (by (with_reducible repeat (first | apply Kd.S_alloc | apply Kd.S_drewN | apply Kd.S_drew)); exact HO_5.out) hb); have n1_ := Aside0.mk (blk_below (g := gb169) (o := .cells #[.int .i64 a0_0, .int .i64 a0_1, .int .i64 a0_2, .int .i64 a0_3, .int .i64 a0_4, .int .i64 a0_5, .int .i64 a0_6, .int .i64 a0_7, .int .i64 a0_8, .int .i64 a0_9, .int .i64 a0_10, .int .i64 a0_11, .int .i64 a0_12, .int .i64 a0_13, .int .i64 a0_14, .int .i64 a0_15] 23 (0, 0)) (by (with_reducible repeat (first | refine blk_drewN ?_ _ | refine blk_drew ?_ | refine blk_alloc ?_ _)); exact BK169.out) hb); have n2_ := Aside0.mk (below_step (by repeat (first | (with_reducible first | exact HB.out | apply below_alloc | apply pw_below_drewN | apply below_drew1 | refine below_set ?_ GE169.out) | exact HB.out)) hb); clear HO_5; clear BK169; clear HB; have HO_5 := n0_; have BK169 := n1_; have HB := n2_; clear n0_ n1_ n2_; (try clear hb); (try clear hb2); (try clear hk); (try clear hi)) | ((with_reducible refine gate_dst (N := 8) rfl ?_); refine box_event ?hg (N := 8) ?hd (cs := #[.int .i64 0, .int .i64 0, .int .i64 0, .int .i64 0]) (t := 22) ?hr ?_; (case hd => rfl); (case hg => rfl); (case hr => first | (go_simp; done) | (go_simp; rfl)); intro gb196 hg w18 hbox hb; have n0_ := Aside0.mk (Kd.S_below (by (with_reducible repeat (first | apply Kd.S_alloc | apply Kd.S_drewN | apply Kd.S_drew)); exact HO_5.out) hb); have n1_ := Aside0.mk (blk_below (g := gb169) (o := .cells #[.int .i64 a0_0, .int .i64 a0_1, .int .i64 a0_2, .int .i64 a0_3, .int .i64 a0_4, .int .i64 a0_5, .int .i64 a0_6, .int .i64 a0_7, .int .i64 a0_8, .int .i64 a0_9, .int .i64 a0_10, .int .i64 a0_11, .int .i64 a0_12, .int .i64 a0_13, .int .i64 a0_14, .int .i64 a0_15] 23 (0, 0)) (by (with_reducible repeat (first | refine blk_drewN ?_ _ | refine blk_drew ?_ | refine blk_alloc ?_ _)); exact BK169.out) hb); have n2_ := Aside0.mk (below_step (by repeat (first | (with_reducible first | exact HB.out | apply below_alloc | apply pw_below_drewN | apply below_drew1 | refine below_set ?_ GE169.out) | exact HB.out)) hb); have n3_ := Aside0.mk (hbox); have n4_ := Aside0.mk ((by rw [hg]; exact (below_size (by repeat (first | (with_reducible first | exact HB.out | apply below_alloc | apply pw_below_drewN | apply below_drew1 | refine below_set ?_ GE169.out) | exact HB.out))) : w.heap.size ≤ gb196)); have n5_ := Aside0.mk ((by rw [hg]; exact (below_size (by repeat (first | (with_reducible first | exact HB.out | apply below_alloc | apply pw_below_drewN | apply below_drew1 | refine below_set ?_ GE169.out) | exact HB.out))) : w.heap.size ≤ gb196)); have n6_ := Aside0.mk ((by rw [hg]; exact Nat.ne_of_lt (blk_lt (g := gb169) (o := .cells #[.int .i64 a0_0, .int .i64 a0_1, .int .i64 a0_2, .int .i64 a0_3, .int .i64 a0_4, .int .i64 a0_5, .int .i64 a0_6, .int .i64 a0_7, .int .i64 a0_8, .int .i64 a0_9, .int .i64 a0_10, .int .i64 a0_11, .int .i64 a0_12, .int .i64 a0_13, .int .i64 a0_14, .int .i64 a0_15] 23 (0, 0)) (by (with_reducible repeat (first | refine blk_drewN ?_ _ | refine blk_drew ?_ | refine blk_alloc ?_ _)); exact BK169.out)) : gb169 ≠ gb196)); have n7_ := Aside0.mk ((by rw [hg]; exact Nat.ne_of_gt (blk_lt (g := gb169) (o := .cells #[.int .i64 a0_0, .int .i64 a0_1, .int .i64 a0_2, .int .i64 a0_3, .int .i64 a0_4, .int .i64 a0_5, .int .i64 a0_6, .int .i64 a0_7, .int .i64 a0_8, .int .i64 a0_9, .int .i64 a0_10, .int .i64 a0_11, .int .i64 a0_12, .int .i64 a0_13, .int .i64 a0_14, .int .i64 a0_15] 23 (0, 0)) (by (with_reducible repeat (first | refine blk_drewN ?_ _ | refine blk_drew ?_ | refine blk_alloc ?_ _)); exact BK169.out)) : gb196 ≠ gb169)); clear HO_5; clear BK169; clear HB; have HO_5 := n0_; have BK169 := n1_; have HB := n2_; have BK196 := n3_; have GW196 := n4_; have GE196 := n5_; have NB169_196 := n6_; have NB196_169 := n7_; clear n0_ n1_ n2_ n3_ n4_ n5_ n6_ n7_; clear hb hbox hg) | ((with_reducible refine gate_dst (N := 9) rfl ?_); refine box_event ?hg (N := 9) ?hd (cs := #[.bool false, .bool false, .bool false, .bool false, .bool false, .bool false, .bool false, .bool false, .bool false, .bool false, .bool false, .bool false, .bool false, .bool false, .bool false, .bool false]) (t := 36) ?hr ?_; (case hd => rfl); (case hg => rfl); (case hr => first | (go_simp; done) | (go_simp; rfl)); intro gb197 hg w19 hbox hb; have n0_ := Aside0.mk (Kd.S_below (by (with_reducible repeat (first | apply Kd.S_alloc | apply Kd.S_drewN | apply Kd.S_drew)); exact HO_5.out) hb); have n1_ := Aside0.mk (blk_below (g := gb169) (o := .cells #[.int .i64 a0_0, .int .i64 a0_1, .int .i64 a0_2, .int .i64 a0_3, .int .i64 a0_4, .int .i64 a0_5, .int .i64 a0_6, .int .i64 a0_7, .int .i64 a0_8, .int .i64 a0_9, .int .i64 a0_10, .int .i64 a0_11, .int .i64 a0_12, .int .i64 a0_13, .int .i64 a0_14, .int .i64 a0_15] 23 (0, 0)) (by (with_reducible repeat (first | refine blk_drewN ?_ _ | refine blk_drew ?_ | refine blk_alloc ?_ _)); exact BK169.out) hb); have n2_ := Aside0.mk (blk_below (g := gb196) (o := .cells #[.int .i64 0, .int .i64 0, .int .i64 0, .int .i64 0] 22 (0, 0)) (by (with_reducible repeat (first | refine blk_drewN ?_ _ | refine blk_drew ?_ | refine blk_alloc ?_ _)); exact BK196.out) hb); have n3_ := Aside0.mk (below_step (by repeat (first | (with_reducible first | exact HB.out | apply below_alloc | apply pw_below_drewN | apply below_drew1 | refine below_set ?_ GE169.out | refine below_set ?_ GE196.out) | exact HB.out)) hb); have n4_ := Aside0.mk (hbox); have n5_ := Aside0.mk ((by rw [hg]; exact (below_size (by repeat (first | (with_reducible first | exact HB.out | apply below_alloc | apply pw_below_drewN | apply below_drew1 | refine below_set ?_ GE169.out | refine below_set ?_ GE196.out) | exact HB.out))) : w.heap.size ≤ gb197)); have n6_ := Aside0.mk ((by rw [hg]; exact (below_size (by repeat (first | (with_reducible first | exact HB.out | apply below_alloc | apply pw_below_drewN | apply below_drew1 | refine below_set ?_ GE169.out | refine below_set ?_ GE196.out) | exact HB.out))) : w.heap.size ≤ gb197)); have n7_ := Aside0.mk ((by rw [hg]; exact Nat.ne_of_lt (blk_lt (g := gb169) (o := .cells #[.int .i64 a0_0, .int .i64 a0_1, .int .i64 a0_2, .int .i64 a0_3, .int .i64 a0_4, .int .i64 a0_5, .int .i64 a0_6, .int .i64 a0_7, .int .i64 a0_8, .int .i64 a0_9, .int .i64 a0_10, .int .i64 a0_11, .int .i64 a0_12, .int .i64 a0_13, .int .i64 a0_14, .int .i64 a0_15] 23 (0, 0)) (by (with_reducible repeat (first | refine blk_drewN ?_ _ | refine blk_drew ?_ | refine blk_alloc ?_ _)); exact BK169.out)) : gb169 ≠ gb197)); have n8_ := Aside0.mk ((by rw [hg]; exact Nat.ne_of_gt (blk_lt (g := gb169) (o := .cells #[.int .i64 a0_0, .int .i64 a0_1, .int .i64 a0_2, .int .i64 a0_3, .int .i64 a0_4, .int .i64 a0_5, .int .i64 a0_6, .int .i64 a0_7, .int .i64 a0_8, .int .i64 a0_9, .int .i64 a0_10, .int .i64 a0_11, .int .i64 a0_12, .int .i64 a0_13, .int .i64 a0_14, .int .i64 a0_15] 23 (0, 0)) (by (with_reducible repeat (first | refine blk_drewN ?_ _ | refine blk_drew ?_ | refine blk_alloc ?_ _)); exact BK169.out)) : gb197 ≠ gb169)); have n9_ := Aside0.mk ((by rw [hg]; exact Nat.ne_of_lt (blk_lt (g := gb196) (o := .cells #[.int .i64 0, .int .i64 0, .int .i64 0, .int .i64 0] 22 (0, 0)) (by (with_reducible repeat (first | refine blk_drewN ?_ _ | refine blk_drew ?_ | refine blk_alloc ?_ _)); exact BK196.out)) : gb196 ≠ gb197)); have n10_ := Aside0.mk ((by rw [hg]; exact Nat.ne_of_gt (blk_lt (g := gb196) (o := .cells #[.int .i64 0, .int .i64 0, .int .i64 0, .int .i64 0] 22 (0, 0)) (by (with_reducible repeat (first | refine blk_drewN ?_ _ | refine blk_drew ?_ | refine blk_alloc ?_ _)); exact BK196.out)) : gb197 ≠ gb196)); clear HO_5; clear BK169; clear BK196; clear HB; have HO_5 := n0_; have BK169 := n1_; have BK196 := n2_; have HB := n3_; have BK197 := n4_; have GW197 := n5_; have GE197 := n6_; have NB169_197 := n7_; have NB197_169 := n8_; have NB196_197 := n9_; have NB197_196 := n10_; clear n0_ n1_ n2_ n3_ n4_ n5_ n6_ n7_ n8_ n9_ n10_; clear hb hbox hg; have hnb20 := NB196_169.out; have hnc20 := NB169_196.out; have hnb21 := NB196_197.out; have hnc21 := NB197_196.out; have hcz22_0 : w19.cell? ⟨gb196, 0, none⟩ = some (.int .i64 0) := (blk_cell BK196.out 0).trans rfl; have hcz22_1 : w19.cell? ⟨gb196, 1, none⟩ = some (.int .i64 0) := (blk_cell BK196.out 1).trans rfl; have hcz22_2 : w19.cell? ⟨gb196, 2, none⟩ = some (.int .i64 0) := (blk_cell BK196.out 2).trans rfl; have hcz22_3 : w19.cell? ⟨gb196, 3, none⟩ = some (.int .i64 0) := (blk_cell BK196.out 3).trans rfl; have hfz22_0 := blk_frozen BK196.out 0; have hfz22_1 := blk_frozen BK196.out 1; have hfz22_2 := blk_frozen BK196.out 2; have hfz22_3 := blk_frozen BK196.out 3) | ((with_reducible refine gate_store (t := 22) (p := 8) rfl ?_); (try (rw [drewN_self w19]; generalize hq_ : World.drewN w19 _ = w19; have n0_ := Aside0.mk (Kd.S_at hq_ HO_5.out); have n1_ := Aside0.mk (blk_at hq_ BK169.out); have n2_ := Aside0.mk (blk_at hq_ BK196.out); have n3_ := Aside0.mk (blk_at hq_ BK197.out); have n4_ := Aside0.mk (below_at hq_ HB.out); clear hq_ HO_5 BK169 BK196 BK197 HB; have HO_5 := n0_; have BK169 := n1_; have BK196 := n2_; have BK197 := n3_; have HB := n4_; clear n0_ n1_ n2_ n3_ n4_)); refine store_event (t := 22) (p := 8) (v := ?vo_w23) (w1 := ((((w19.setCell ⟨gb196, 0, none⟩ (.int .i64 t176)).setCell ⟨gb196, 1, none⟩ (.int .i64 t177)).setCell ⟨gb196, 2, none⟩ (.int .i64 t178)).setCell ⟨gb196, 3, none⟩ (.int .i64 t179))) ?hg ?ho ?hn ?hr ?_; (case ho => rfl); (case hg => rfl); (case hn => rfl); (case hr => first | (go_simp; done) | (go_simp; rfl)); intro w23 hw; have n0_ : Aside0 (Kd.S k41 41 w23 w.heap.size (fun _ => True) v172 t171) := ⟨(by rw [hw]; exact (by (with_reducible repeat (first | apply Kd.S_alloc | apply Kd.S_drewN | apply Kd.S_drew)); exact Kd.S_mono (Kd.S_far (p := ⟨gb196, 3, none⟩) (Kd.S_far (p := ⟨gb196, 2, none⟩) (Kd.S_far (p := ⟨gb196, 1, none⟩) (Kd.S_far (p := ⟨gb196, 0, none⟩) (Kd.S_types HO_5.out BK196.out (by decide)) (fun _ hk => hk.2) (.int .i64 t176)) (fun _ hk => hk.2) (.int .i64 t177)) (fun _ hk => hk.2) (.int .i64 t178)) (fun _ hk => hk.2) (.int .i64 t179)) (fun _ hk => trivial)))⟩; have n1_ : Aside0 (w23.heap[gb169]? = some (.cells #[.int .i64 a0_0, .int .i64 a0_1, .int .i64 a0_2, .int .i64 a0_3, .int .i64 a0_4, .int .i64 a0_5, .int .i64 a0_6, .int .i64 a0_7, .int .i64 a0_8, .int .i64 a0_9, .int .i64 a0_10, .int .i64 a0_11, .int .i64 a0_12, .int .i64 a0_13, .int .i64 a0_14, .int .i64 a0_15] 23 (0, 0))) := ⟨(by rw [hw]; exact (by (with_reducible repeat (first | refine blk_drewN ?_ _ | refine blk_drew ?_ | refine blk_alloc ?_ _)); refine blk_far ?_ NB169_196.out _; (with_reducible repeat (first | refine blk_drewN ?_ _ | refine blk_drew ?_ | refine blk_alloc ?_ _)); refine blk_far ?_ NB169_196.out _; (with_reducible repeat (first | refine blk_drewN ?_ _ | refine blk_drew ?_ | refine blk_alloc ?_ _)); refine blk_far ?_ NB169_196.out _; (with_reducible repeat (first | refine blk_drewN ?_ _ | refine blk_drew ?_ | refine blk_alloc ?_ _)); refine blk_far ?_ NB169_196.out _; (with_reducible repeat (first | refine blk_drewN ?_ _ | refine blk_drew ?_ | refine blk_alloc ?_ _)); exact BK169.out))⟩; have n2_ : Aside0 (w23.heap[gb196]? = some (.cells #[.int .i64 t176, .int .i64 t177, .int .i64 t178, .int .i64 t179] 22 (0, 0))) := ⟨(by rw [hw]; exact (by (with_reducible repeat (first | refine blk_drewN ?_ _ | refine blk_drew ?_ | refine blk_alloc ?_ _)); refine blk_put (cs := #[.int .i64 t176, .int .i64 t177, .int .i64 t178, .int .i64 0]) ?_ 3 _ rfl; (with_reducible repeat (first | refine blk_drewN ?_ _ | refine blk_drew ?_ | refine blk_alloc ?_ _)); refine blk_put (cs := #[.int .i64 t176, .int .i64 t177, .int .i64 0, .int .i64 0]) ?_ 2 _ rfl; (with_reducible repeat (first | refine blk_drewN ?_ _ | refine blk_drew ?_ | refine blk_alloc ?_ _)); refine blk_put (cs := #[.int .i64 t176, .int .i64 0, .int .i64 0, .int .i64 0]) ?_ 1 _ rfl; (with_reducible repeat (first | refine blk_drewN ?_ _ | refine blk_drew ?_ | refine blk_alloc ?_ _)); refine blk_put (cs := #[.int .i64 0, .int .i64 0, .int .i64 0, .int .i64 0]) ?_ 0 _ rfl; (with_reducible repeat (first | refine blk_drewN ?_ _ | refine blk_drew ?_ | refine blk_alloc ?_ _)); exact BK196.out))⟩; have n3_ : Aside0 (w23.heap[gb197]? = some (.cells #[.bool false, .bool false, .bool false, .bool false, .bool false, .bool false, .bool false, .bool false, .bool false, .bool false, .bool false, .bool false, .bool false, .bool false, .bool false, .bool false] 36 (0, 0))) := ⟨(by rw [hw]; exact (by (with_reducible repeat (first | refine blk_drewN ?_ _ | refine blk_drew ?_ | refine blk_alloc ?_ _)); refine blk_far ?_ NB197_196.out _; (with_reducible repeat (first | refine blk_drewN ?_ _ | refine blk_drew ?_ | refine blk_alloc ?_ _)); refine blk_far ?_ NB197_196.out _; (with_reducible repeat (first | refine blk_drewN ?_ _ | refine blk_drew ?_ | refine blk_alloc ?_ _)); refine blk_far ?_ NB197_196.out _; (with_reducible repeat (first | refine blk_drewN ?_ _ | refine blk_drew ?_ | refine blk_alloc ?_ _)); refine blk_far ?_ NB197_196.out _; (with_reducible repeat (first | refine blk_drewN ?_ _ | refine blk_drew ?_ | refine blk_alloc ?_ _)); exact BK197.out))⟩; have n4_ : Aside0 (Below w.heap.size w w23) := ⟨(by rw [hw]; exact (by repeat (first | (with_reducible first | exact HB.out | apply below_alloc | apply pw_below_drewN | apply below_drew1 | refine below_set ?_ GE169.out | refine below_set ?_ GE196.out | refine below_set ?_ GE197.out) | exact HB.out)))⟩; clear hw; clear HO_5; clear BK169; clear BK196; clear BK197; clear HB; have HO_5 := n0_; have BK169 := n1_; have BK196 := n2_; have BK197 := n3_; have HB := n4_; clear n0_ n1_ n2_ n3_ n4_; have hnb24 := NB197_169.out; have hnc24 := NB169_197.out; obtain ⟨hcz25_0, hcz25_1, hcz25_2, hcz25_3, hcz25_4, hcz25_5, hcz25_6, hcz25_7, hcz25_8, hcz25_9, hcz25_10, hcz25_11, hcz25_12, hcz25_13, hcz25_14, hcz25_15⟩ := cells16 BK197.out; have hfz25_0 := fun (j_ : Nat) => blk_frozen BK197.out j_) | ((with_reducible refine gate_store (t := 36) (p := 9) rfl ?_); (try (rw [drewN_self w23]; generalize hq_ : World.drewN w23 _ = w23; have n0_ := Aside0.mk (Kd.S_at hq_ HO_5.out); have n1_ := Aside0.mk (blk_at hq_ BK169.out); have n2_ := Aside0.mk (blk_at hq_ BK196.out); have n3_ := Aside0.mk (blk_at hq_ BK197.out); have n4_ := Aside0.mk (below_at hq_ HB.out); clear hq_ HO_5 BK169 BK196 BK197 HB; have HO_5 := n0_; have BK169 := n1_; have BK196 := n2_; have BK197 := n3_; have HB := n4_; clear n0_ n1_ n2_ n3_ n4_)); refine store_event (t := 36) (p := 9) (v := ?vo_w26) (w1 := ((((((((((((((((w23.setCell ⟨gb197, 0, none⟩ (.bool t180)).setCell ⟨gb197, 1, none⟩ (.bool t181)).setCell ⟨gb197, 2, none⟩ (.bool t182)).setCell ⟨gb197, 3, none⟩ (.bool t183)).setCell ⟨gb197, 4, none⟩ (.bool t184)).setCell ⟨gb197, 5, none⟩ (.bool t185)).setCell ⟨gb197, 6, none⟩ (.bool t186)).setCell ⟨gb197, 7, none⟩ (.bool t187)).setCell ⟨gb197, 8, none⟩ (.bool t188)).setCell ⟨gb197, 9, none⟩ (.bool t189)).setCell ⟨gb197, 10, none⟩ (.bool t190)).setCell ⟨gb197, 11, none⟩ (.bool t191)).setCell ⟨gb197, 12, none⟩ (.bool t192)).setCell ⟨gb197, 13, none⟩ (.bool t193)).setCell ⟨gb197, 14, none⟩ (.bool t194)).setCell ⟨gb197, 15, none⟩ (.bool t195))) ?hg ?ho ?hn ?hr ?_; (case ho => rfl); (case hg => rfl); (case hn => rfl); (case hr => first | (go_simp; done) | (go_simp; rfl)); intro w26 hw; have n0_ : Aside0 (Kd.S k41 41 w26 w.heap.size (fun _ => True) v172 t171) := ⟨(by rw [hw]; exact (by (with_reducible repeat (first | apply Kd.S_alloc | apply Kd.S_drewN | apply Kd.S_drew)); exact Kd.S_mono (Kd.S_far (p := ⟨gb197, 15, none⟩) (Kd.S_far (p := ⟨gb197, 14, none⟩) (Kd.S_far (p := ⟨gb197, 13, none⟩) (Kd.S_far (p := ⟨gb197, 12, none⟩) (Kd.S_far (p := ⟨gb197, 11, none⟩) (Kd.S_far (p := ⟨gb197, 10, none⟩) (Kd.S_far (p := ⟨gb197, 9, none⟩) (Kd.S_far (p := ⟨gb197, 8, none⟩) (Kd.S_far (p := ⟨gb197, 7, none⟩) (Kd.S_far (p := ⟨gb197, 6, none⟩) (Kd.S_far (p := ⟨gb197, 5, none⟩) (Kd.S_far (p := ⟨gb197, 4, none⟩) (Kd.S_far (p := ⟨gb197, 3, none⟩) (Kd.S_far (p := ⟨gb197, 2, none⟩) (Kd.S_far (p := ⟨gb197, 1, none⟩) (Kd.S_far (p := ⟨gb197, 0, none⟩) (Kd.S_types HO_5.out BK197.out (by decide)) (fun _ hk => hk.2) (.bool t180)) (fun _ hk => hk.2) (.bool t181)) (fun _ hk => hk.2) (.bool t182)) (fun _ hk => hk.2) (.bool t183)) (fun _ hk => hk.2) (.bool t184)) (fun _ hk => hk.2) (.bool t185)) (fun _ hk => hk.2) (.bool t186)) (fun _ hk => hk.2) (.bool t187)) (fun _ hk => hk.2) (.bool t188)) (fun _ hk => hk.2) (.bool t189)) (fun _ hk => hk.2) (.bool t190)) (fun _ hk => hk.2) (.bool t191)) (fun _ hk => hk.2) (.bool t192)) (fun _ hk => hk.2) (.bool t193)) (fun _ hk => hk.2) (.bool t194)) (fun _ hk => hk.2) (.bool t195)) (fun _ hk => trivial)))⟩; have n1_ : Aside0 (w26.heap[gb169]? = some (.cells #[.int .i64 a0_0, .int .i64 a0_1, .int .i64 a0_2, .int .i64 a0_3, .int .i64 a0_4, .int .i64 a0_5, .int .i64 a0_6, .int .i64 a0_7, .int .i64 a0_8, .int .i64 a0_9, .int .i64 a0_10, .int .i64 a0_11, .int .i64 a0_12, .int .i64 a0_13, .int .i64 a0_14, .int .i64 a0_15] 23 (0, 0))) := ⟨(by rw [hw]; exact (by (with_reducible repeat (first | refine blk_drewN ?_ _ | refine blk_drew ?_ | refine blk_alloc ?_ _)); refine blk_far ?_ NB169_197.out _; (with_reducible repeat (first | refine blk_drewN ?_ _ | refine blk_drew ?_ | refine blk_alloc ?_ _)); refine blk_far ?_ NB169_197.out _; (with_reducible repeat (first | refine blk_drewN ?_ _ | refine blk_drew ?_ | refine blk_alloc ?_ _)); refine blk_far ?_ NB169_197.out _; (with_reducible repeat (first | refine blk_drewN ?_ _ | refine blk_drew ?_ | refine blk_alloc ?_ _)); refine blk_far ?_ NB169_197.out _; (with_reducible repeat (first | refine blk_drewN ?_ _ | refine blk_drew ?_ | refine blk_alloc ?_ _)); refine blk_far ?_ NB169_197.out _; (with_reducible repeat (first | refine blk_drewN ?_ _ | refine blk_drew ?_ | refine blk_alloc ?_ _)); refine blk_far ?_ NB169_197.out _; (with_reducible repeat (first | refine blk_drewN ?_ _ | refine blk_drew ?_ | refine blk_alloc ?_ _)); refine blk_far ?_ NB169_197.out _; (with_reducible repeat (first | refine blk_drewN ?_ _ | refine blk_drew ?_ | refine blk_alloc ?_ _)); refine blk_far ?_ NB169_197.out _; (with_reducible repeat (first | refine blk_drewN ?_ _ | refine blk_drew ?_ | refine blk_alloc ?_ _)); refine blk_far ?_ NB169_197.out _; (with_reducible repeat (first | refine blk_drewN ?_ _ | refine blk_drew ?_ | refine blk_alloc ?_ _)); refine blk_far ?_ NB169_197.out _; (with_reducible repeat (first | refine blk_drewN ?_ _ | refine blk_drew ?_ | refine blk_alloc ?_ _)); refine blk_far ?_ NB169_197.out _; (with_reducible repeat (first | refine blk_drewN ?_ _ | refine blk_drew ?_ | refine blk_alloc ?_ _)); refine blk_far ?_ NB169_197.out _; (with_reducible repeat (first | refine blk_drewN ?_ _ | refine blk_drew ?_ | refine blk_alloc ?_ _)); refine blk_far ?_ NB169_197.out _; (with_reducible repeat (first | refine blk_drewN ?_ _ | refine blk_drew ?_ | refine blk_alloc ?_ _)); refine blk_far ?_ NB169_197.out _; (with_reducible repeat (first | refine blk_drewN ?_ _ | refine blk_drew ?_ | refine blk_alloc ?_ _)); refine blk_far ?_ NB169_197.out _; (with_reducible repeat (first | refine blk_drewN ?_ _ | refine blk_drew ?_ | refine blk_alloc ?_ _)); refine blk_far ?_ NB169_197.out _; (with_reducible repeat (first | refine blk_drewN ?_ _ | refine blk_drew ?_ | refine blk_alloc ?_ _)); exact BK169.out))⟩; have n2_ : Aside0 (w26.heap[gb196]? = some (.cells #[.int .i64 t176, .int .i64 t177, .int .i64 t178, .int .i64 t179] 22 (0, 0))) := ⟨(by rw [hw]; exact (by (with_reducible repeat (first | refine blk_drewN ?_ _ | refine blk_drew ?_ | refine blk_alloc ?_ _)); refine blk_far ?_ NB196_197.out _; (with_reducible repeat (first | refine blk_drewN ?_ _ | refine blk_drew ?_ | refine blk_alloc ?_ _)); refine blk_far ?_ NB196_197.out _; (with_reducible repeat (first | refine blk_drewN ?_ _ | refine blk_drew ?_ | refine blk_alloc ?_ _)); refine blk_far ?_ NB196_197.out _; (with_reducible repeat (first | refine blk_drewN ?_ _ | refine blk_drew ?_ | refine blk_alloc ?_ _)); refine blk_far ?_ NB196_197.out _; (with_reducible repeat (first | refine blk_drewN ?_ _ | refine blk_drew ?_ | refine blk_alloc ?_ _)); refine blk_far ?_ NB196_197.out _; (with_reducible repeat (first | refine blk_drewN ?_ _ | refine blk_drew ?_ | refine blk_alloc ?_ _)); refine blk_far ?_ NB196_197.out _; (with_reducible repeat (first | refine blk_drewN ?_ _ | refine blk_drew ?_ | refine blk_alloc ?_ _)); refine blk_far ?_ NB196_197.out _; (with_reducible repeat (first | refine blk_drewN ?_ _ | refine blk_drew ?_ | refine blk_alloc ?_ _)); refine blk_far ?_ NB196_197.out _; (with_reducible repeat (first | refine blk_drewN ?_ _ | refine blk_drew ?_ | refine blk_alloc ?_ _)); refine blk_far ?_ NB196_197.out _; (with_reducible repeat (first | refine blk_drewN ?_ _ | refine blk_drew ?_ | refine blk_alloc ?_ _)); refine blk_far ?_ NB196_197.out _; (with_reducible repeat (first | refine blk_drewN ?_ _ | refine blk_drew ?_ | refine blk_alloc ?_ _)); refine blk_far ?_ NB196_197.out _; (with_reducible repeat (first | refine blk_drewN ?_ _ | refine blk_drew ?_ | refine blk_alloc ?_ _)); refine blk_far ?_ NB196_197.out _; (with_reducible repeat (first | refine blk_drewN ?_ _ | refine blk_drew ?_ | refine blk_alloc ?_ _)); refine blk_far ?_ NB196_197.out _; (with_reducible repeat (first | refine blk_drewN ?_ _ | refine blk_drew ?_ | refine blk_alloc ?_ _)); refine blk_far ?_ NB196_197.out _; (with_reducible repeat (first | refine blk_drewN ?_ _ | refine blk_drew ?_ | refine blk_alloc ?_ _)); refine blk_far ?_ NB196_197.out _; (with_reducible repeat (first | refine blk_drewN ?_ _ | refine blk_drew ?_ | refine blk_alloc ?_ _)); refine blk_far ?_ NB196_197.out _; (with_reducible repeat (first | refine blk_drewN ?_ _ | refine blk_drew ?_ | refine blk_alloc ?_ _)); exact BK196.out))⟩; have n3_ : Aside0 (w26.heap[gb197]? = some (.cells #[.bool t180, .bool t181, .bool t182, .bool t183, .bool t184, .bool t185, .bool t186, .bool t187, .bool t188, .bool t189, .bool t190, .bool t191, .bool t192, .bool t193, .bool t194, .bool t195] 36 (0, 0))) := ⟨(by rw [hw]; exact (by (with_reducible repeat (first | refine blk_drewN ?_ _ | refine blk_drew ?_ | refine blk_alloc ?_ _)); refine blk_put (cs := #[.bool t180, .bool t181, .bool t182, .bool t183, .bool t184, .bool t185, .bool t186, .bool t187, .bool t188, .bool t189, .bool t190, .bool t191, .bool t192, .bool t193, .bool t194, .bool false]) ?_ 15 _ rfl; (with_reducible repeat (first | refine blk_drewN ?_ _ | refine blk_drew ?_ | refine blk_alloc ?_ _)); refine blk_put (cs := #[.bool t180, .bool t181, .bool t182, .bool t183, .bool t184, .bool t185, .bool t186, .bool t187, .bool t188, .bool t189, .bool t190, .bool t191, .bool t192, .bool t193, .bool false, .bool false]) ?_ 14 _ rfl; (with_reducible repeat (first | refine blk_drewN ?_ _ | refine blk_drew ?_ | refine blk_alloc ?_ _)); refine blk_put (cs := #[.bool t180, .bool t181, .bool t182, .bool t183, .bool t184, .bool t185, .bool t186, .bool t187, .bool t188, .bool t189, .bool t190, .bool t191, .bool t192, .bool false, .bool false, .bool false]) ?_ 13 _ rfl; (with_reducible repeat (first | refine blk_drewN ?_ _ | refine blk_drew ?_ | refine blk_alloc ?_ _)); refine blk_put (cs := #[.bool t180, .bool t181, .bool t182, .bool t183, .bool t184, .bool t185, .bool t186, .bool t187, .bool t188, .bool t189, .bool t190, .bool t191, .bool false, .bool false, .bool false, .bool false]) ?_ 12 _ rfl; (with_reducible repeat (first | refine blk_drewN ?_ _ | refine blk_drew ?_ | refine blk_alloc ?_ _)); refine blk_put (cs := #[.bool t180, .bool t181, .bool t182, .bool t183, .bool t184, .bool t185, .bool t186, .bool t187, .bool t188, .bool t189, .bool t190, .bool false, .bool false, .bool false, .bool false, .bool false]) ?_ 11 _ rfl; (with_reducible repeat (first | refine blk_drewN ?_ _ | refine blk_drew ?_ | refine blk_alloc ?_ _)); refine blk_put (cs := #[.bool t180, .bool t181, .bool t182, .bool t183, .bool t184, .bool t185, .bool t186, .bool t187, .bool t188, .bool t189, .bool false, .bool false, .bool false, .bool false, .bool false, .bool false]) ?_ 10 _ rfl; (with_reducible repeat (first | refine blk_drewN ?_ _ | refine blk_drew ?_ | refine blk_alloc ?_ _)); refine blk_put (cs := #[.bool t180, .bool t181, .bool t182, .bool t183, .bool t184, .bool t185, .bool t186, .bool t187, .bool t188, .bool false, .bool false, .bool false, .bool false, .bool false, .bool false, .bool false]) ?_ 9 _ rfl; (with_reducible repeat (first | refine blk_drewN ?_ _ | refine blk_drew ?_ | refine blk_alloc ?_ _)); refine blk_put (cs := #[.bool t180, .bool t181, .bool t182, .bool t183, .bool t184, .bool t185, .bool t186, .bool t187, .bool false, .bool false, .bool false, .bool false, .bool false, .bool false, .bool false, .bool false]) ?_ 8 _ rfl; (with_reducible repeat (first | refine blk_drewN ?_ _ | refine blk_drew ?_ | refine blk_alloc ?_ _)); refine blk_put (cs := #[.bool t180, .bool t181, .bool t182, .bool t183, .bool t184, .bool t185, .bool t186, .bool false, .bool false, .bool false, .bool false, .bool false, .bool false, .bool false, .bool false, .bool false]) ?_ 7 _ rfl; (with_reducible repeat (first | refine blk_drewN ?_ _ | refine blk_drew ?_ | refine blk_alloc ?_ _)); refine blk_put (cs := #[.bool t180, .bool t181, .bool t182, .bool t183, .bool t184, .bool t185, .bool false, .bool false, .bool false, .bool false, .bool false, .bool false, .bool false, .bool false, .bool false, .bool false]) ?_ 6 _ rfl; (with_reducible repeat (first | refine blk_drewN ?_ _ | refine blk_drew ?_ | refine blk_alloc ?_ _)); refine blk_put (cs := #[.bool t180, .bool t181, .bool t182, .bool t183, .bool t184, .bool false, .bool false, .bool false, .bool false, .bool false, .bool false, .bool false, .bool false, .bool false, .bool false, .bool false]) ?_ 5 _ rfl; (with_reducible repeat (first | refine blk_drewN ?_ _ | refine blk_drew ?_ | refine blk_alloc ?_ _)); refine blk_put (cs := #[.bool t180, .bool t181, .bool t182, .bool t183, .bool false, .bool false, .bool false, .bool false, .bool false, .bool false, .bool false, .bool false, .bool false, .bool false, .bool false, .bool false]) ?_ 4 _ rfl; (with_reducible repeat (first | refine blk_drewN ?_ _ | refine blk_drew ?_ | refine blk_alloc ?_ _)); refine blk_put (cs := #[.bool t180, .bool t181, .bool t182, .bool false, .bool false, .bool false, .bool false, .bool false, .bool false, .bool false, .bool false, .bool false, .bool false, .bool false, .bool false, .bool false]) ?_ 3 _ rfl; (with_reducible repeat (first | refine blk_drewN ?_ _ | refine blk_drew ?_ | refine blk_alloc ?_ _)); refine blk_put (cs := #[.bool t180, .bool t181, .bool false, .bool false, .bool false, .bool false, .bool false, .bool false, .bool false, .bool false, .bool false, .bool false, .bool false, .bool false, .bool false, .bool false]) ?_ 2 _ rfl; (with_reducible repeat (first | refine blk_drewN ?_ _ | refine blk_drew ?_ | refine blk_alloc ?_ _)); refine blk_put (cs := #[.bool t180, .bool false, .bool false, .bool false, .bool false, .bool false, .bool false, .bool false, .bool false, .bool false, .bool false, .bool false, .bool false, .bool false, .bool false, .bool false]) ?_ 1 _ rfl; (with_reducible repeat (first | refine blk_drewN ?_ _ | refine blk_drew ?_ | refine blk_alloc ?_ _)); refine blk_put (cs := #[.bool false, .bool false, .bool false, .bool false, .bool false, .bool false, .bool false, .bool false, .bool false, .bool false, .bool false, .bool false, .bool false, .bool false, .bool false, .bool false]) ?_ 0 _ rfl; (with_reducible repeat (first | refine blk_drewN ?_ _ | refine blk_drew ?_ | refine blk_alloc ?_ _)); exact BK197.out))⟩; have n4_ : Aside0 (Below w.heap.size w w26) := ⟨(by rw [hw]; exact (by repeat (first | (with_reducible first | exact HB.out | apply below_alloc | apply pw_below_drewN | apply below_drew1 | refine below_set ?_ GE169.out | refine below_set ?_ GE196.out | refine below_set ?_ GE197.out) | exact HB.out)))⟩; clear hw; clear HO_5; clear BK169; clear BK196; clear BK197; clear HB; have HO_5 := n0_; have BK169 := n1_; have BK196 := n2_; have BK197 := n3_; have HB := n4_; clear n0_ n1_ n2_ n3_ n4_)); try go_wp2_with (first | (go_at_call 19; (with_reducible refine (watchwordlaw21_ways.calls kj7 a0_0 a0_1 a0_2 a0_3 a0_4 a0_5 a0_6 a0_7 a0_8 a0_9 a0_10 a0_11 a0_12 a0_13 a0_14 a0_15 (wrap64 (a1 - 1)) t176 t177 t178 t179 t180 t181 t182 t183 t184 t185 t186 t187 t188 t189 t190 t191 t192 t193 t194 t195 _ A15.out).mono ?_); rintro e w17 ⟨rfl, hb⟩; have n0_ := Aside0.mk (Kd.S_below (by (with_reducible repeat (first | apply Kd.S_alloc | apply Kd.S_drewN | apply Kd.S_drew)); exact HO_5.out) hb); have n1_ := Aside0.mk (blk_below (g := gb169) (o := .cells #[.int .i64 a0_0, .int .i64 a0_1, .int .i64 a0_2, .int .i64 a0_3, .int .i64 a0_4, .int .i64 a0_5, .int .i64 a0_6, .int .i64 a0_7, .int .i64 a0_8, .int .i64 a0_9, .int .i64 a0_10, .int .i64 a0_11, .int .i64 a0_12, .int .i64 a0_13, .int .i64 a0_14, .int .i64 a0_15] 23 (0, 0)) (by (with_reducible repeat (first | refine blk_drewN ?_ _ | refine blk_drew ?_ | refine blk_alloc ?_ _)); exact BK169.out) hb); have n2_ := Aside0.mk (below_step (by repeat (first | (with_reducible first | exact HB.out | apply below_alloc | apply pw_below_drewN | apply below_drew1 | refine below_set ?_ GE169.out) | exact HB.out)) hb); clear HO_5; clear BK169; clear HB; have HO_5 := n0_; have BK169 := n1_; have HB := n2_; clear n0_ n1_ n2_; (try clear hb); (try clear hb2); (try clear hk); (try clear hi)) | ((with_reducible refine gate_dst (N := 8) rfl ?_); refine box_event ?hg (N := 8) ?hd (cs := #[.int .i64 0, .int .i64 0, .int .i64 0, .int .i64 0]) (t := 22) ?hr ?_; (case hd => rfl); (case hg => rfl); (case hr => first | (go_simp; done) | (go_simp; rfl)); intro gb196 hg w18 hbox hb; have n0_ := Aside0.mk (Kd.S_below (by (with_reducible repeat (first | apply Kd.S_alloc | apply Kd.S_drewN | apply Kd.S_drew)); exact HO_5.out) hb); have n1_ := Aside0.mk (blk_below (g := gb169) (o := .cells #[.int .i64 a0_0, .int .i64 a0_1, .int .i64 a0_2, .int .i64 a0_3, .int .i64 a0_4, .int .i64 a0_5, .int .i64 a0_6, .int .i64 a0_7, .int .i64 a0_8, .int .i64 a0_9, .int .i64 a0_10, .int .i64 a0_11, .int .i64 a0_12, .int .i64 a0_13, .int .i64 a0_14, .int .i64 a0_15] 23 (0, 0)) (by (with_reducible repeat (first | refine blk_drewN ?_ _ | refine blk_drew ?_ | refine blk_alloc ?_ _)); exact BK169.out) hb); have n2_ := Aside0.mk (below_step (by repeat (first | (with_reducible first | exact HB.out | apply below_alloc | apply pw_below_drewN | apply below_drew1 | refine below_set ?_ GE169.out) | exact HB.out)) hb); have n3_ := Aside0.mk (hbox); have n4_ := Aside0.mk ((by rw [hg]; exact (below_size (by repeat (first | (with_reducible first | exact HB.out | apply below_alloc | apply pw_below_drewN | apply below_drew1 | refine below_set ?_ GE169.out) | exact HB.out))) : w.heap.size ≤ gb196)); have n5_ := Aside0.mk ((by rw [hg]; exact (below_size (by repeat (first | (with_reducible first | exact HB.out | apply below_alloc | apply pw_below_drewN | apply below_drew1 | refine below_set ?_ GE169.out) | exact HB.out))) : w.heap.size ≤ gb196)); have n6_ := Aside0.mk ((by rw [hg]; exact Nat.ne_of_lt (blk_lt (g := gb169) (o := .cells #[.int .i64 a0_0, .int .i64 a0_1, .int .i64 a0_2, .int .i64 a0_3, .int .i64 a0_4, .int .i64 a0_5, .int .i64 a0_6, .int .i64 a0_7, .int .i64 a0_8, .int .i64 a0_9, .int .i64 a0_10, .int .i64 a0_11, .int .i64 a0_12, .int .i64 a0_13, .int .i64 a0_14, .int .i64 a0_15] 23 (0, 0)) (by (with_reducible repeat (first | refine blk_drewN ?_ _ | refine blk_drew ?_ | refine blk_alloc ?_ _)); exact BK169.out)) : gb169 ≠ gb196)); have n7_ := Aside0.mk ((by rw [hg]; exact Nat.ne_of_gt (blk_lt (g := gb169) (o := .cells #[.int .i64 a0_0, .int .i64 a0_1, .int .i64 a0_2, .int .i64 a0_3, .int .i64 a0_4, .int .i64 a0_5, .int .i64 a0_6, .int .i64 a0_7, .int .i64 a0_8, .int .i64 a0_9, .int .i64 a0_10, .int .i64 a0_11, .int .i64 a0_12, .int .i64 a0_13, .int .i64 a0_14, .int .i64 a0_15] 23 (0, 0)) (by (with_reducible repeat (first | refine blk_drewN ?_ _ | refine blk_drew ?_ | refine blk_alloc ?_ _)); exact BK169.out)) : gb196 ≠ gb169)); clear HO_5; clear BK169; clear HB; have HO_5 := n0_; have BK169 := n1_; have HB := n2_; have BK196 := n3_; have GW196 := n4_; have GE196 := n5_; have NB169_196 := n6_; have NB196_169 := n7_; clear n0_ n1_ n2_ n3_ n4_ n5_ n6_ n7_; clear hb hbox hg) | ((with_reducible refine gate_dst (N := 9) rfl ?_); refine box_event ?hg (N := 9) ?hd (cs := #[.bool false, .bool false, .bool false, .bool false, .bool false, .bool false, .bool false, .bool false, .bool false, .bool false, .bool false, .bool false, .bool false, .bool false, .bool false, .bool false]) (t := 36) ?hr ?_; (case hd => rfl); (case hg => rfl); (case hr => first | (go_simp; done) | (go_simp; rfl)); intro gb197 hg w19 hbox hb; have n0_ := Aside0.mk (Kd.S_below (by (with_reducible repeat (first | apply Kd.S_alloc | apply Kd.S_drewN | apply Kd.S_drew)); exact HO_5.out) hb); have n1_ := Aside0.mk (blk_below (g := gb169) (o := .cells #[.int .i64 a0_0, .int .i64 a0_1, .int .i64 a0_2, .int .i64 a0_3, .int .i64 a0_4, .int .i64 a0_5, .int .i64 a0_6, .int .i64 a0_7, .int .i64 a0_8, .int .i64 a0_9, .int .i64 a0_10, .int .i64 a0_11, .int .i64 a0_12, .int .i64 a0_13, .int .i64 a0_14, .int .i64 a0_15] 23 (0, 0)) (by (with_reducible repeat (first | refine blk_drewN ?_ _ | refine blk_drew ?_ | refine blk_alloc ?_ _)); exact BK169.out) hb); have n2_ := Aside0.mk (blk_below (g := gb196) (o := .cells #[.int .i64 0, .int .i64 0, .int .i64 0, .int .i64 0] 22 (0, 0)) (by (with_reducible repeat (first | refine blk_drewN ?_ _ | refine blk_drew ?_ | refine blk_alloc ?_ _)); exact BK196.out) hb); have n3_ := Aside0.mk (below_step (by repeat (first | (with_reducible first | exact HB.out | apply below_alloc | apply pw_below_drewN | apply below_drew1 | refine below_set ?_ GE169.out | refine below_set ?_ GE196.out) | exact HB.out)) hb); have n4_ := Aside0.mk (hbox); have n5_ := Aside0.mk ((by rw [hg]; exact (below_size (by repeat (first | (with_reducible first | exact HB.out | apply below_alloc | apply pw_below_drewN | apply below_drew1 | refine below_set ?_ GE169.out | refine below_set ?_ GE196.out) | exact HB.out))) : w.heap.size ≤ gb197)); have n6_ := Aside0.mk ((by rw [hg]; exact (below_size (by repeat (first | (with_reducible first | exact HB.out | apply below_alloc | apply pw_below_drewN | apply below_drew1 | refine below_set ?_ GE169.out | refine below_set ?_ GE196.out) | exact HB.out))) : w.heap.size ≤ gb197)); have n7_ := Aside0.mk ((by rw [hg]; exact Nat.ne_of_lt (blk_lt (g := gb169) (o := .cells #[.int .i64 a0_0, .int .i64 a0_1, .int .i64 a0_2, .int .i64 a0_3, .int .i64 a0_4, .int .i64 a0_5, .int .i64 a0_6, .int .i64 a0_7, .int .i64 a0_8, .int .i64 a0_9, .int .i64 a0_10, .int .i64 a0_11, .int .i64 a0_12, .int .i64 a0_13, .int .i64 a0_14, .int .i64 a0_15] 23 (0, 0)) (by (with_reducible repeat (first | refine blk_drewN ?_ _ | refine blk_drew ?_ | refine blk_alloc ?_ _)); exact BK169.out)) : gb169 ≠ gb197)); have n8_ := Aside0.mk ((by rw [hg]; exact Nat.ne_of_gt (blk_lt (g := gb169) (o := .cells #[.int .i64 a0_0, .int .i64 a0_1, .int .i64 a0_2, .int .i64 a0_3, .int .i64 a0_4, .int .i64 a0_5, .int .i64 a0_6, .int .i64 a0_7, .int .i64 a0_8, .int .i64 a0_9, .int .i64 a0_10, .int .i64 a0_11, .int .i64 a0_12, .int .i64 a0_13, .int .i64 a0_14, .int .i64 a0_15] 23 (0, 0)) (by (with_reducible repeat (first | refine blk_drewN ?_ _ | refine blk_drew ?_ | refine blk_alloc ?_ _)); exact BK169.out)) : gb197 ≠ gb169)); have n9_ := Aside0.mk ((by rw [hg]; exact Nat.ne_of_lt (blk_lt (g := gb196) (o := .cells #[.int .i64 0, .int .i64 0, .int .i64 0, .int .i64 0] 22 (0, 0)) (by (with_reducible repeat (first | refine blk_drewN ?_ _ | refine blk_drew ?_ | refine blk_alloc ?_ _)); exact BK196.out)) : gb196 ≠ gb197)); have n10_ := Aside0.mk ((by rw [hg]; exact Nat.ne_of_gt (blk_lt (g := gb196) (o := .cells #[.int .i64 0, .int .i64 0, .int .i64 0, .int .i64 0] 22 (0, 0)) (by (with_reducible repeat (first | refine blk_drewN ?_ _ | refine blk_drew ?_ | refine blk_alloc ?_ _)); exact BK196.out)) : gb197 ≠ gb196)); clear HO_5; clear BK169; clear BK196; clear HB; have HO_5 := n0_; have BK169 := n1_; have BK196 := n2_; have HB := n3_; have BK197 := n4_; have GW197 := n5_; have GE197 := n6_; have NB169_197 := n7_; have NB197_169 := n8_; have NB196_197 := n9_; have NB197_196 := n10_; clear n0_ n1_ n2_ n3_ n4_ n5_ n6_ n7_ n8_ n9_ n10_; clear hb hbox hg; have hnb20 := NB196_169.out; have hnc20 := NB169_196.out; have hnb21 := NB196_197.out; have hnc21 := NB197_196.out; have hcz22_0 : w19.cell? ⟨gb196, 0, none⟩ = some (.int .i64 0) := (blk_cell BK196.out 0).trans rfl; have hcz22_1 : w19.cell? ⟨gb196, 1, none⟩ = some (.int .i64 0) := (blk_cell BK196.out 1).trans rfl; have hcz22_2 : w19.cell? ⟨gb196, 2, none⟩ = some (.int .i64 0) := (blk_cell BK196.out 2).trans rfl; have hcz22_3 : w19.cell? ⟨gb196, 3, none⟩ = some (.int .i64 0) := (blk_cell BK196.out 3).trans rfl; have hfz22_0 := blk_frozen BK196.out 0; have hfz22_1 := blk_frozen BK196.out 1; have hfz22_2 := blk_frozen BK196.out 2; have hfz22_3 := blk_frozen BK196.out 3) | ((with_reducible refine gate_store (t := 22) (p := 8) rfl ?_); (try (rw [drewN_self w19]; generalize hq_ : World.drewN w19 _ = w19; have n0_ := Aside0.mk (Kd.S_at hq_ HO_5.out); have n1_ := Aside0.mk (blk_at hq_ BK169.out); have n2_ := Aside0.mk (blk_at hq_ BK196.out); have n3_ := Aside0.mk (blk_at hq_ BK197.out); have n4_ := Aside0.mk (below_at hq_ HB.out); clear hq_ HO_5 BK169 BK196 BK197 HB; have HO_5 := n0_; have BK169 := n1_; have BK196 := n2_; have BK197 := n3_; have HB := n4_; clear n0_ n1_ n2_ n3_ n4_)); refine store_event (t := 22) (p := 8) (v := ?vo_w23) (w1 := ((((w19.setCell ⟨gb196, 0, none⟩ (.int .i64 t176)).setCell ⟨gb196, 1, none⟩ (.int .i64 t177)).setCell ⟨gb196, 2, none⟩ (.int .i64 t178)).setCell ⟨gb196, 3, none⟩ (.int .i64 t179))) ?hg ?ho ?hn ?hr ?_; (case ho => rfl); (case hg => rfl); (case hn => rfl); (case hr => first | (go_simp; done) | (go_simp; rfl)); intro w23 hw; have n0_ : Aside0 (Kd.S k41 41 w23 w.heap.size (fun _ => True) v172 t171) := ⟨(by rw [hw]; exact (by (with_reducible repeat (first | apply Kd.S_alloc | apply Kd.S_drewN | apply Kd.S_drew)); exact Kd.S_mono (Kd.S_far (p := ⟨gb196, 3, none⟩) (Kd.S_far (p := ⟨gb196, 2, none⟩) (Kd.S_far (p := ⟨gb196, 1, none⟩) (Kd.S_far (p := ⟨gb196, 0, none⟩) (Kd.S_types HO_5.out BK196.out (by decide)) (fun _ hk => hk.2) (.int .i64 t176)) (fun _ hk => hk.2) (.int .i64 t177)) (fun _ hk => hk.2) (.int .i64 t178)) (fun _ hk => hk.2) (.int .i64 t179)) (fun _ hk => trivial)))⟩; have n1_ : Aside0 (w23.heap[gb169]? = some (.cells #[.int .i64 a0_0, .int .i64 a0_1, .int .i64 a0_2, .int .i64 a0_3, .int .i64 a0_4, .int .i64 a0_5, .int .i64 a0_6, .int .i64 a0_7, .int .i64 a0_8, .int .i64 a0_9, .int .i64 a0_10, .int .i64 a0_11, .int .i64 a0_12, .int .i64 a0_13, .int .i64 a0_14, .int .i64 a0_15] 23 (0, 0))) := ⟨(by rw [hw]; exact (by (with_reducible repeat (first | refine blk_drewN ?_ _ | refine blk_drew ?_ | refine blk_alloc ?_ _)); refine blk_far ?_ NB169_196.out _; (with_reducible repeat (first | refine blk_drewN ?_ _ | refine blk_drew ?_ | refine blk_alloc ?_ _)); refine blk_far ?_ NB169_196.out _; (with_reducible repeat (first | refine blk_drewN ?_ _ | refine blk_drew ?_ | refine blk_alloc ?_ _)); refine blk_far ?_ NB169_196.out _; (with_reducible repeat (first | refine blk_drewN ?_ _ | refine blk_drew ?_ | refine blk_alloc ?_ _)); refine blk_far ?_ NB169_196.out _; (with_reducible repeat (first | refine blk_drewN ?_ _ | refine blk_drew ?_ | refine blk_alloc ?_ _)); exact BK169.out))⟩; have n2_ : Aside0 (w23.heap[gb196]? = some (.cells #[.int .i64 t176, .int .i64 t177, .int .i64 t178, .int .i64 t179] 22 (0, 0))) := ⟨(by rw [hw]; exact (by (with_reducible repeat (first | refine blk_drewN ?_ _ | refine blk_drew ?_ | refine blk_alloc ?_ _)); refine blk_put (cs := #[.int .i64 t176, .int .i64 t177, .int .i64 t178, .int .i64 0]) ?_ 3 _ rfl; (with_reducible repeat (first | refine blk_drewN ?_ _ | refine blk_drew ?_ | refine blk_alloc ?_ _)); refine blk_put (cs := #[.int .i64 t176, .int .i64 t177, .int .i64 0, .int .i64 0]) ?_ 2 _ rfl; (with_reducible repeat (first | refine blk_drewN ?_ _ | refine blk_drew ?_ | refine blk_alloc ?_ _)); refine blk_put (cs := #[.int .i64 t176, .int .i64 0, .int .i64 0, .int .i64 0]) ?_ 1 _ rfl; (with_reducible repeat (first | refine blk_drewN ?_ _ | refine blk_drew ?_ | refine blk_alloc ?_ _)); refine blk_put (cs := #[.int .i64 0, .int .i64 0, .int .i64 0, .int .i64 0]) ?_ 0 _ rfl; (with_reducible repeat (first | refine blk_drewN ?_ _ | refine blk_drew ?_ | refine blk_alloc ?_ _)); exact BK196.out))⟩; have n3_ : Aside0 (w23.heap[gb197]? = some (.cells #[.bool false, .bool false, .bool false, .bool false, .bool false, .bool false, .bool false, .bool false, .bool false, .bool false, .bool false, .bool false, .bool false, .bool false, .bool false, .bool false] 36 (0, 0))) := ⟨(by rw [hw]; exact (by (with_reducible repeat (first | refine blk_drewN ?_ _ | refine blk_drew ?_ | refine blk_alloc ?_ _)); refine blk_far ?_ NB197_196.out _; (with_reducible repeat (first | refine blk_drewN ?_ _ | refine blk_drew ?_ | refine blk_alloc ?_ _)); refine blk_far ?_ NB197_196.out _; (with_reducible repeat (first | refine blk_drewN ?_ _ | refine blk_drew ?_ | refine blk_alloc ?_ _)); refine blk_far ?_ NB197_196.out _; (with_reducible repeat (first | refine blk_drewN ?_ _ | refine blk_drew ?_ | refine blk_alloc ?_ _)); refine blk_far ?_ NB197_196.out _; (with_reducible repeat (first | refine blk_drewN ?_ _ | refine blk_drew ?_ | refine blk_alloc ?_ _)); exact BK197.out))⟩; have n4_ : Aside0 (Below w.heap.size w w23) := ⟨(by rw [hw]; exact (by repeat (first | (with_reducible first | exact HB.out | apply below_alloc | apply pw_below_drewN | apply below_drew1 | refine below_set ?_ GE169.out | refine below_set ?_ GE196.out | refine below_set ?_ GE197.out) | exact HB.out)))⟩; clear hw; clear HO_5; clear BK169; clear BK196; clear BK197; clear HB; have HO_5 := n0_; have BK169 := n1_; have BK196 := n2_; have BK197 := n3_; have HB := n4_; clear n0_ n1_ n2_ n3_ n4_; have hnb24 := NB197_169.out; have hnc24 := NB169_197.out; obtain ⟨hcz25_0, hcz25_1, hcz25_2, hcz25_3, hcz25_4, hcz25_5, hcz25_6, hcz25_7, hcz25_8, hcz25_9, hcz25_10, hcz25_11, hcz25_12, hcz25_13, hcz25_14, hcz25_15⟩ := cells16 BK197.out; have hfz25_0 := fun (j_ : Nat) => blk_frozen BK197.out j_) | ((with_reducible refine gate_store (t := 36) (p := 9) rfl ?_); (try (rw [drewN_self w23]; generalize hq_ : World.drewN w23 _ = w23; have n0_ := Aside0.mk (Kd.S_at hq_ HO_5.out); have n1_ := Aside0.mk (blk_at hq_ BK169.out); have n2_ := Aside0.mk (blk_at hq_ BK196.out); have n3_ := Aside0.mk (blk_at hq_ BK197.out); have n4_ := Aside0.mk (below_at hq_ HB.out); clear hq_ HO_5 BK169 BK196 BK197 HB; have HO_5 := n0_; have BK169 := n1_; have BK196 := n2_; have BK197 := n3_; have HB := n4_; clear n0_ n1_ n2_ n3_ n4_)); refine store_event (t := 36) (p := 9) (v := ?vo_w26) (w1 := ((((((((((((((((w23.setCell ⟨gb197, 0, none⟩ (.bool t180)).setCell ⟨gb197, 1, none⟩ (.bool t181)).setCell ⟨gb197, 2, none⟩ (.bool t182)).setCell ⟨gb197, 3, none⟩ (.bool t183)).setCell ⟨gb197, 4, none⟩ (.bool t184)).setCell ⟨gb197, 5, none⟩ (.bool t185)).setCell ⟨gb197, 6, none⟩ (.bool t186)).setCell ⟨gb197, 7, none⟩ (.bool t187)).setCell ⟨gb197, 8, none⟩ (.bool t188)).setCell ⟨gb197, 9, none⟩ (.bool t189)).setCell ⟨gb197, 10, none⟩ (.bool t190)).setCell ⟨gb197, 11, none⟩ (.bool t191)).setCell ⟨gb197, 12, none⟩ (.bool t192)).setCell ⟨gb197, 13, none⟩ (.bool t193)).setCell ⟨gb197, 14, none⟩ (.bool t194)).setCell ⟨gb197, 15, none⟩ (.bool t195))) ?hg ?ho ?hn ?hr ?_; (case ho => rfl); (case hg => rfl); (case hn => rfl); (case hr => first | (go_simp; done) | (go_simp; rfl)); intro w26 hw; have n0_ : Aside0 (Kd.S k41 41 w26 w.heap.size (fun _ => True) v172 t171) := ⟨(by rw [hw]; exact (by (with_reducible repeat (first | apply Kd.S_alloc | apply Kd.S_drewN | apply Kd.S_drew)); exact Kd.S_mono (Kd.S_far (p := ⟨gb197, 15, none⟩) (Kd.S_far (p := ⟨gb197, 14, none⟩) (Kd.S_far (p := ⟨gb197, 13, none⟩) (Kd.S_far (p := ⟨gb197, 12, none⟩) (Kd.S_far (p := ⟨gb197, 11, none⟩) (Kd.S_far (p := ⟨gb197, 10, none⟩) (Kd.S_far (p := ⟨gb197, 9, none⟩) (Kd.S_far (p := ⟨gb197, 8, none⟩) (Kd.S_far (p := ⟨gb197, 7, none⟩) (Kd.S_far (p := ⟨gb197, 6, none⟩) (Kd.S_far (p := ⟨gb197, 5, none⟩) (Kd.S_far (p := ⟨gb197, 4, none⟩) (Kd.S_far (p := ⟨gb197, 3, none⟩) (Kd.S_far (p := ⟨gb197, 2, none⟩) (Kd.S_far (p := ⟨gb197, 1, none⟩) (Kd.S_far (p := ⟨gb197, 0, none⟩) (Kd.S_types HO_5.out BK197.out (by decide)) (fun _ hk => hk.2) (.bool t180)) (fun _ hk => hk.2) (.bool t181)) (fun _ hk => hk.2) (.bool t182)) (fun _ hk => hk.2) (.bool t183)) (fun _ hk => hk.2) (.bool t184)) (fun _ hk => hk.2) (.bool t185)) (fun _ hk => hk.2) (.bool t186)) (fun _ hk => hk.2) (.bool t187)) (fun _ hk => hk.2) (.bool t188)) (fun _ hk => hk.2) (.bool t189)) (fun _ hk => hk.2) (.bool t190)) (fun _ hk => hk.2) (.bool t191)) (fun _ hk => hk.2) (.bool t192)) (fun _ hk => hk.2) (.bool t193)) (fun _ hk => hk.2) (.bool t194)) (fun _ hk => hk.2) (.bool t195)) (fun _ hk => trivial)))⟩; have n1_ : Aside0 (w26.heap[gb169]? = some (.cells #[.int .i64 a0_0, .int .i64 a0_1, .int .i64 a0_2, .int .i64 a0_3, .int .i64 a0_4, .int .i64 a0_5, .int .i64 a0_6, .int .i64 a0_7, .int .i64 a0_8, .int .i64 a0_9, .int .i64 a0_10, .int .i64 a0_11, .int .i64 a0_12, .int .i64 a0_13, .int .i64 a0_14, .int .i64 a0_15] 23 (0, 0))) := ⟨(by rw [hw]; exact (by (with_reducible repeat (first | refine blk_drewN ?_ _ | refine blk_drew ?_ | refine blk_alloc ?_ _)); refine blk_far ?_ NB169_197.out _; (with_reducible repeat (first | refine blk_drewN ?_ _ | refine blk_drew ?_ | refine blk_alloc ?_ _)); refine blk_far ?_ NB169_197.out _; (with_reducible repeat (first | refine blk_drewN ?_ _ | refine blk_drew ?_ | refine blk_alloc ?_ _)); refine blk_far ?_ NB169_197.out _; (with_reducible repeat (first | refine blk_drewN ?_ _ | refine blk_drew ?_ | refine blk_alloc ?_ _)); refine blk_far ?_ NB169_197.out _; (with_reducible repeat (first | refine blk_drewN ?_ _ | refine blk_drew ?_ | refine blk_alloc ?_ _)); refine blk_far ?_ NB169_197.out _; (with_reducible repeat (first | refine blk_drewN ?_ _ | refine blk_drew ?_ | refine blk_alloc ?_ _)); refine blk_far ?_ NB169_197.out _; (with_reducible repeat (first | refine blk_drewN ?_ _ | refine blk_drew ?_ | refine blk_alloc ?_ _)); refine blk_far ?_ NB169_197.out _; (with_reducible repeat (first | refine blk_drewN ?_ _ | refine blk_drew ?_ | refine blk_alloc ?_ _)); refine blk_far ?_ NB169_197.out _; (with_reducible repeat (first | refine blk_drewN ?_ _ | refine blk_drew ?_ | refine blk_alloc ?_ _)); refine blk_far ?_ NB169_197.out _; (with_reducible repeat (first | refine blk_drewN ?_ _ | refine blk_drew ?_ | refine blk_alloc ?_ _)); refine blk_far ?_ NB169_197.out _; (with_reducible repeat (first | refine blk_drewN ?_ _ | refine blk_drew ?_ | refine blk_alloc ?_ _)); refine blk_far ?_ NB169_197.out _; (with_reducible repeat (first | refine blk_drewN ?_ _ | refine blk_drew ?_ | refine blk_alloc ?_ _)); refine blk_far ?_ NB169_197.out _; (with_reducible repeat (first | refine blk_drewN ?_ _ | refine blk_drew ?_ | refine blk_alloc ?_ _)); refine blk_far ?_ NB169_197.out _; (with_reducible repeat (first | refine blk_drewN ?_ _ | refine blk_drew ?_ | refine blk_alloc ?_ _)); refine blk_far ?_ NB169_197.out _; (with_reducible repeat (first | refine blk_drewN ?_ _ | refine blk_drew ?_ | refine blk_alloc ?_ _)); refine blk_far ?_ NB169_197.out _; (with_reducible repeat (first | refine blk_drewN ?_ _ | refine blk_drew ?_ | refine blk_alloc ?_ _)); refine blk_far ?_ NB169_197.out _; (with_reducible repeat (first | refine blk_drewN ?_ _ | refine blk_drew ?_ | refine blk_alloc ?_ _)); exact BK169.out))⟩; have n2_ : Aside0 (w26.heap[gb196]? = some (.cells #[.int .i64 t176, .int .i64 t177, .int .i64 t178, .int .i64 t179] 22 (0, 0))) := ⟨(by rw [hw]; exact (by (with_reducible repeat (first | refine blk_drewN ?_ _ | refine blk_drew ?_ | refine blk_alloc ?_ _)); refine blk_far ?_ NB196_197.out _; (with_reducible repeat (first | refine blk_drewN ?_ _ | refine blk_drew ?_ | refine blk_alloc ?_ _)); refine blk_far ?_ NB196_197.out _; (with_reducible repeat (first | refine blk_drewN ?_ _ | refine blk_drew ?_ | refine blk_alloc ?_ _)); refine blk_far ?_ NB196_197.out _; (with_reducible repeat (first | refine blk_drewN ?_ _ | refine blk_drew ?_ | refine blk_alloc ?_ _)); refine blk_far ?_ NB196_197.out _; (with_reducible repeat (first | refine blk_drewN ?_ _ | refine blk_drew ?_ | refine blk_alloc ?_ _)); refine blk_far ?_ NB196_197.out _; (with_reducible repeat (first | refine blk_drewN ?_ _ | refine blk_drew ?_ | refine blk_alloc ?_ _)); refine blk_far ?_ NB196_197.out _; (with_reducible repeat (first | refine blk_drewN ?_ _ | refine blk_drew ?_ | refine blk_alloc ?_ _)); refine blk_far ?_ NB196_197.out _; (with_reducible repeat (first | refine blk_drewN ?_ _ | refine blk_drew ?_ | refine blk_alloc ?_ _)); refine blk_far ?_ NB196_197.out _; (with_reducible repeat (first | refine blk_drewN ?_ _ | refine blk_drew ?_ | refine blk_alloc ?_ _)); refine blk_far ?_ NB196_197.out _; (with_reducible repeat (first | refine blk_drewN ?_ _ | refine blk_drew ?_ | refine blk_alloc ?_ _)); refine blk_far ?_ NB196_197.out _; (with_reducible repeat (first | refine blk_drewN ?_ _ | refine blk_drew ?_ | refine blk_alloc ?_ _)); refine blk_far ?_ NB196_197.out _; (with_reducible repeat (first | refine blk_drewN ?_ _ | refine blk_drew ?_ | refine blk_alloc ?_ _)); refine blk_far ?_ NB196_197.out _; (with_reducible repeat (first | refine blk_drewN ?_ _ | refine blk_drew ?_ | refine blk_alloc ?_ _)); refine blk_far ?_ NB196_197.out _; (with_reducible repeat (first | refine blk_drewN ?_ _ | refine blk_drew ?_ | refine blk_alloc ?_ _)); refine blk_far ?_ NB196_197.out _; (with_reducible repeat (first | refine blk_drewN ?_ _ | refine blk_drew ?_ | refine blk_alloc ?_ _)); refine blk_far ?_ NB196_197.out _; (with_reducible repeat (first | refine blk_drewN ?_ _ | refine blk_drew ?_ | refine blk_alloc ?_ _)); refine blk_far ?_ NB196_197.out _; (with_reducible repeat (first | refine blk_drewN ?_ _ | refine blk_drew ?_ | refine blk_alloc ?_ _)); exact BK196.out))⟩; have n3_ : Aside0 (w26.heap[gb197]? = some (.cells #[.bool t180, .bool t181, .bool t182, .bool t183, .bool t184, .bool t185, .bool t186, .bool t187, .bool t188, .bool t189, .bool t190, .bool t191, .bool t192, .bool t193, .bool t194, .bool t195] 36 (0, 0))) := ⟨(by rw [hw]; exact (by (with_reducible repeat (first | refine blk_drewN ?_ _ | refine blk_drew ?_ | refine blk_alloc ?_ _)); refine blk_put (cs := #[.bool t180, .bool t181, .bool t182, .bool t183, .bool t184, .bool t185, .bool t186, .bool t187, .bool t188, .bool t189, .bool t190, .bool t191, .bool t192, .bool t193, .bool t194, .bool false]) ?_ 15 _ rfl; (with_reducible repeat (first | refine blk_drewN ?_ _ | refine blk_drew ?_ | refine blk_alloc ?_ _)); refine blk_put (cs := #[.bool t180, .bool t181, .bool t182, .bool t183, .bool t184, .bool t185, .bool t186, .bool t187, .bool t188, .bool t189, .bool t190, .bool t191, .bool t192, .bool t193, .bool false, .bool false]) ?_ 14 _ rfl; (with_reducible repeat (first | refine blk_drewN ?_ _ | refine blk_drew ?_ | refine blk_alloc ?_ _)); refine blk_put (cs := #[.bool t180, .bool t181, .bool t182, .bool t183, .bool t184, .bool t185, .bool t186, .bool t187, .bool t188, .bool t189, .bool t190, .bool t191, .bool t192, .bool false, .bool false, .bool false]) ?_ 13 _ rfl; (with_reducible repeat (first | refine blk_drewN ?_ _ | refine blk_drew ?_ | refine blk_alloc ?_ _)); refine blk_put (cs := #[.bool t180, .bool t181, .bool t182, .bool t183, .bool t184, .bool t185, .bool t186, .bool t187, .bool t188, .bool t189, .bool t190, .bool t191, .bool false, .bool false, .bool false, .bool false]) ?_ 12 _ rfl; (with_reducible repeat (first | refine blk_drewN ?_ _ | refine blk_drew ?_ | refine blk_alloc ?_ _)); refine blk_put (cs := #[.bool t180, .bool t181, .bool t182, .bool t183, .bool t184, .bool t185, .bool t186, .bool t187, .bool t188, .bool t189, .bool t190, .bool false, .bool false, .bool false, .bool false, .bool false]) ?_ 11 _ rfl; (with_reducible repeat (first | refine blk_drewN ?_ _ | refine blk_drew ?_ | refine blk_alloc ?_ _)); refine blk_put (cs := #[.bool t180, .bool t181, .bool t182, .bool t183, .bool t184, .bool t185, .bool t186, .bool t187, .bool t188, .bool t189, .bool false, .bool false, .bool false, .bool false, .bool false, .bool false]) ?_ 10 _ rfl; (with_reducible repeat (first | refine blk_drewN ?_ _ | refine blk_drew ?_ | refine blk_alloc ?_ _)); refine blk_put (cs := #[.bool t180, .bool t181, .bool t182, .bool t183, .bool t184, .bool t185, .bool t186, .bool t187, .bool t188, .bool false, .bool false, .bool false, .bool false, .bool false, .bool false, .bool false]) ?_ 9 _ rfl; (with_reducible repeat (first | refine blk_drewN ?_ _ | refine blk_drew ?_ | refine blk_alloc ?_ _)); refine blk_put (cs := #[.bool t180, .bool t181, .bool t182, .bool t183, .bool t184, .bool t185, .bool t186, .bool t187, .bool false, .bool false, .bool false, .bool false, .bool false, .bool false, .bool false, .bool false]) ?_ 8 _ rfl; (with_reducible repeat (first | refine blk_drewN ?_ _ | refine blk_drew ?_ | refine blk_alloc ?_ _)); refine blk_put (cs := #[.bool t180, .bool t181, .bool t182, .bool t183, .bool t184, .bool t185, .bool t186, .bool false, .bool false, .bool false, .bool false, .bool false, .bool false, .bool false, .bool false, .bool false]) ?_ 7 _ rfl; (with_reducible repeat (first | refine blk_drewN ?_ _ | refine blk_drew ?_ | refine blk_alloc ?_ _)); refine blk_put (cs := #[.bool t180, .bool t181, .bool t182, .bool t183, .bool t184, .bool t185, .bool false, .bool false, .bool false, .bool false, .bool false, .bool false, .bool false, .bool false, .bool false, .bool false]) ?_ 6 _ rfl; (with_reducible repeat (first | refine blk_drewN ?_ _ | refine blk_drew ?_ | refine blk_alloc ?_ _)); refine blk_put (cs := #[.bool t180, .bool t181, .bool t182, .bool t183, .bool t184, .bool false, .bool false, .bool false, .bool false, .bool false, .bool false, .bool false, .bool false, .bool false, .bool false, .bool false]) ?_ 5 _ rfl; (with_reducible repeat (first | refine blk_drewN ?_ _ | refine blk_drew ?_ | refine blk_alloc ?_ _)); refine blk_put (cs := #[.bool t180, .bool t181, .bool t182, .bool t183, .bool false, .bool false, .bool false, .bool false, .bool false, .bool false, .bool false, .bool false, .bool false, .bool false, .bool false, .bool false]) ?_ 4 _ rfl; (with_reducible repeat (first | refine blk_drewN ?_ _ | refine blk_drew ?_ | refine blk_alloc ?_ _)); refine blk_put (cs := #[.bool t180, .bool t181, .bool t182, .bool false, .bool false, .bool false, .bool false, .bool false, .bool false, .bool false, .bool false, .bool false, .bool false, .bool false, .bool false, .bool false]) ?_ 3 _ rfl; (with_reducible repeat (first | refine blk_drewN ?_ _ | refine blk_drew ?_ | refine blk_alloc ?_ _)); refine blk_put (cs := #[.bool t180, .bool t181, .bool false, .bool false, .bool false, .bool false, .bool false, .bool false, .bool false, .bool false, .bool false, .bool false, .bool false, .bool false, .bool false, .bool false]) ?_ 2 _ rfl; (with_reducible repeat (first | refine blk_drewN ?_ _ | refine blk_drew ?_ | refine blk_alloc ?_ _)); refine blk_put (cs := #[.bool t180, .bool false, .bool false, .bool false, .bool false, .bool false, .bool false, .bool false, .bool false, .bool false, .bool false, .bool false, .bool false, .bool false, .bool false, .bool false]) ?_ 1 _ rfl; (with_reducible repeat (first | refine blk_drewN ?_ _ | refine blk_drew ?_ | refine blk_alloc ?_ _)); refine blk_put (cs := #[.bool false, .bool false, .bool false, .bool false, .bool false, .bool false, .bool false, .bool false, .bool false, .bool false, .bool false, .bool false, .bool false, .bool false, .bool false, .bool false]) ?_ 0 _ rfl; (with_reducible repeat (first | refine blk_drewN ?_ _ | refine blk_drew ?_ | refine blk_alloc ?_ _)); exact BK197.out))⟩; have n4_ : Aside0 (Below w.heap.size w w26) := ⟨(by rw [hw]; exact (by repeat (first | (with_reducible first | exact HB.out | apply below_alloc | apply pw_below_drewN | apply below_drew1 | refine below_set ?_ GE169.out | refine below_set ?_ GE196.out | refine below_set ?_ GE197.out) | exact HB.out)))⟩; clear hw; clear HO_5; clear BK169; clear BK196; clear BK197; clear HB; have HO_5 := n0_; have BK169 := n1_; have BK196 := n2_; have BK197 := n3_; have HB := n4_; clear n0_ n1_ n2_ n3_ n4_)))
      go_loopg [10, 11] kj7 (fun kq v10 v11 w' => ∃ (x10_2 : Int) (x11_2 : Int), v10 = .int .i64 x10_2 ∧ v11 = .int .i64 x11_2 ∧ Aside0 (watchwordlaw21_PathsLeast.l0 kq t171 (wrap64 (a1 - 1)) x10_2 x11_2 t176 t177 t178 t179 t180 t181 t182 t183 t184 t185 t186 t187 t188 t189 t190 t191 t192 t193 t194 t195 = some r) ∧ Aside0 (kq ≤ kj7) ∧ Aside0 (Kd.S k41 41 w' w.heap.size (fun _ => True) v172 t171) ∧ Aside0 (w'.heap[gb169]? = some (.cells #[.int .i64 a0_0, .int .i64 a0_1, .int .i64 a0_2, .int .i64 a0_3, .int .i64 a0_4, .int .i64 a0_5, .int .i64 a0_6, .int .i64 a0_7, .int .i64 a0_8, .int .i64 a0_9, .int .i64 a0_10, .int .i64 a0_11, .int .i64 a0_12, .int .i64 a0_13, .int .i64 a0_14, .int .i64 a0_15] 23 (0, 0))) ∧ Aside0 (w'.heap[gb196]? = some (.cells #[.int .i64 t176, .int .i64 t177, .int .i64 t178, .int .i64 t179] 22 (0, 0))) ∧ Aside0 (w'.heap[gb197]? = some (.cells #[.bool t180, .bool t181, .bool t182, .bool t183, .bool t184, .bool t185, .bool t186, .bool t187, .bool t188, .bool t189, .bool t190, .bool t191, .bool t192, .bool t193, .bool t194, .bool t195] 36 (0, 0))) ∧ Aside0 (Below w.heap.size w w'))
      case atStart => exact ⟨(0), (0), (by first | rfl | (simp; done) | (simp [*]; done)), (by first | rfl | (simp; done) | (simp [*]; done)), H', ⟨Nat.le_refl _⟩, ⟨by (with_reducible repeat (first | apply Kd.S_alloc | apply Kd.S_drewN | apply Kd.S_drew)); exact HO_5.out⟩, ⟨by (with_reducible repeat (first | refine blk_drewN ?_ _ | refine blk_drew ?_ | refine blk_alloc ?_ _)); exact BK169.out⟩, ⟨by (with_reducible repeat (first | refine blk_drewN ?_ _ | refine blk_drew ?_ | refine blk_alloc ?_ _)); exact BK196.out⟩, ⟨by (with_reducible repeat (first | refine blk_drewN ?_ _ | refine blk_drew ?_ | refine blk_alloc ?_ _)); exact BK197.out⟩, ⟨by repeat (first | (with_reducible first | exact HB.out | apply below_alloc | apply pw_below_drewN | apply below_drew1 | refine below_set ?_ GE169.out | refine below_set ?_ GE196.out | refine below_set ?_ GE197.out) | exact HB.out)⟩⟩
      case round =>
       clear H'
       try clear c1
       try clear c2
       try clear p2
       try clear c4
       try clear p6
       try clear c7
       try clear c7b0
       try clear c7b1
       try clear c13
       try clear c13b0
       try clear c14
       try clear c20
       try clear c21
       try clear c24
       try clear hcz11_0
       try clear hcz11_1
       try clear hcz11_10
       try clear hcz11_11
       try clear hcz11_12
       try clear hcz11_13
       try clear hcz11_14
       try clear hcz11_15
       try clear hcz11_2
       try clear hcz11_3
       try clear hcz11_4
       try clear hcz11_5
       try clear hcz11_6
       try clear hcz11_7
       try clear hcz11_8
       try clear hcz11_9
       try clear hcz16_0
       try clear hcz16_1
       try clear hcz16_10
       try clear hcz16_11
       try clear hcz16_12
       try clear hcz16_13
       try clear hcz16_14
       try clear hcz16_15
       try clear hcz16_2
       try clear hcz16_3
       try clear hcz16_4
       try clear hcz16_5
       try clear hcz16_6
       try clear hcz16_7
       try clear hcz16_8
       try clear hcz16_9
       try clear hcz22_0
       try clear hcz22_1
       try clear hcz22_2
       try clear hcz22_3
       try clear hcz25_0
       try clear hcz25_1
       try clear hcz25_10
       try clear hcz25_11
       try clear hcz25_12
       try clear hcz25_13
       try clear hcz25_14
       try clear hcz25_15
       try clear hcz25_2
       try clear hcz25_3
       try clear hcz25_4
       try clear hcz25_5
       try clear hcz25_6
       try clear hcz25_7
       try clear hcz25_8
       try clear hcz25_9
       try clear hfz11_0
       try clear hfz16_0
       try clear hfz22_0
       try clear hfz22_1
       try clear hfz22_2
       try clear hfz22_3
       try clear hfz25_0
       try clear p2
       obtain ⟨x10_2, x11_2, rfl, rfl, HA, HK2, HO_5, BK169, BK196, BK197, HB⟩ := hrel
       cases gk with
       | zero => exact absurd HA.out (by simp [watchwordlaw21_PathsLeast.l0])
       | succ k2 =>
        have H := HA.out
        clear HA
        simp only [watchwordlaw21_PathsLeast.l0] at H
        by_cases c27 : x11_2 < 4
        ·rw [if_pos c27] at H
         have c27b0 : decide (x11_2 < 4) = true := decide_eq_true c27
         clear c27
         have HC28 := Aside0.mk H
         clear H
         go_upto_region 14 with (fail)
         repeat (go_quiet (fail); go_upto_region 14 with (fail))
         go_cut [54] (fun v54 wc => ∃ (kq : Nat) (x54_27 : Bool), v54 = .bool x54_27 ∧ Aside0 (watchwordlaw21_PathsLeast.j2 kq t171 (wrap64 (a1 - 1)) x10_2 x11_2 x54_27 t176 t177 t178 t179 t180 t181 t182 t183 t184 t185 t186 t187 t188 t189 t190 t191 t192 t193 t194 t195 = some r) ∧ Aside0 (kq ≤ k2) ∧ Aside0 (Kd.S k41 41 wc w.heap.size (fun _ => True) v172 t171) ∧ Aside0 (wc.heap[gb169]? = some (.cells #[.int .i64 a0_0, .int .i64 a0_1, .int .i64 a0_2, .int .i64 a0_3, .int .i64 a0_4, .int .i64 a0_5, .int .i64 a0_6, .int .i64 a0_7, .int .i64 a0_8, .int .i64 a0_9, .int .i64 a0_10, .int .i64 a0_11, .int .i64 a0_12, .int .i64 a0_13, .int .i64 a0_14, .int .i64 a0_15] 23 (0, 0))) ∧ Aside0 (wc.heap[gb196]? = some (.cells #[.int .i64 t176, .int .i64 t177, .int .i64 t178, .int .i64 t179] 22 (0, 0))) ∧ Aside0 (wc.heap[gb197]? = some (.cells #[.bool t180, .bool t181, .bool t182, .bool t183, .bool t184, .bool t185, .bool t186, .bool t187, .bool t188, .bool t189, .bool t190, .bool t191, .bool t192, .bool t193, .bool t194, .bool t195] 36 (0, 0))) ∧ Aside0 (Below w.heap.size w wc))
         case first =>
          have H := HC28.out
          clear HC28
          by_cases c29 : x11_2 = (wrap64 (a1 - 1))
          ·rw [if_pos c29] at H
           have c29b0 : (x11_2 == (wrap64 (a1 - 1))) = true := beq_iff_eq.mpr c29
           have c29b1 : (x11_2 != (wrap64 (a1 - 1))) = false := bne_eq_false_iff_eq.mpr c29
           clear c29
           (first | rw [c29b0] | (simp only [i64_w, i32_w]; rw [c29b0]) | skip)
           as_aux_lemma =>
            have H' := Aside0.mk H
            clear H
            go_wp2
            repeat (go_quiet (fail); try go_wp2)
            go_meet
            case rel => exact ⟨_, (true), (by first | rfl | (simp; done) | (simp [*]; done)), H', ⟨by have := HJ7.out; have := HK2.out; first | omega | exact Nat.le_refl _⟩, ⟨by (with_reducible repeat (first | apply Kd.S_alloc | apply Kd.S_drewN | apply Kd.S_drew)); exact HO_5.out⟩, ⟨by (with_reducible repeat (first | refine blk_drewN ?_ _ | refine blk_drew ?_ | refine blk_alloc ?_ _)); exact BK169.out⟩, ⟨by (with_reducible repeat (first | refine blk_drewN ?_ _ | refine blk_drew ?_ | refine blk_alloc ?_ _)); exact BK196.out⟩, ⟨by (with_reducible repeat (first | refine blk_drewN ?_ _ | refine blk_drew ?_ | refine blk_alloc ?_ _)); exact BK197.out⟩, ⟨by repeat (first | (with_reducible first | exact HB.out | apply below_alloc | apply pw_below_drewN | apply below_drew1 | refine below_set ?_ GE169.out | refine below_set ?_ GE196.out | refine below_set ?_ GE197.out) | exact HB.out)⟩⟩
          ·rw [if_neg c29] at H
           have c29b0 : (x11_2 == (wrap64 (a1 - 1))) = false := beq_eq_false_iff_ne.mpr c29
           have c29b1 : (x11_2 != (wrap64 (a1 - 1))) = true := bne_iff_ne.mpr c29
           (first | rw [c29b0] | (simp only [i64_w, i32_w]; rw [c29b0]) | skip)
           by_cases c30 : 0 ≤ x11_2
           ·rw [if_pos c30] at H
            have c30b0 : decide (0 ≤ x11_2) = true := decide_eq_true c30
            clear c30
            as_aux_lemma =>
             have H' := Aside0.mk H
             clear H
             have p31 : (0 ≤ (x11_2 : Int)) = True := eq_true (of_decide_eq_true (by first | (with_reducible assumption) | assumption))
             have q31 : ((x11_2 : Int) < 4) = True := eq_true (of_decide_eq_true (by first | (with_reducible assumption) | assumption))
             have hx32_0 : wr.cell? ⟨gb196, x11_2.toNat, none⟩ = some (.int .i64 (ix4 t176 t177 t178 t179 x11_2)) := (blk_cell BK196.out (x11_2.toNat)).trans (ix_4 (Value.int .i64) _ _ _ _ x11_2 (of_decide_eq_true (by first | (with_reducible assumption) | assumption)) (of_decide_eq_true (by first | (with_reducible assumption) | assumption)))
             go_wp2
             repeat (go_quiet (fail); try go_wp2)
             go_meet
             case rel => exact ⟨_, (decide ((ix4 t176 t177 t178 t179 x11_2) < 0)), (by first | rfl | (simp; done) | (simp [*]; done)), H', ⟨by have := HJ7.out; have := HK2.out; first | omega | exact Nat.le_refl _⟩, ⟨by (with_reducible repeat (first | apply Kd.S_alloc | apply Kd.S_drewN | apply Kd.S_drew)); exact HO_5.out⟩, ⟨by (with_reducible repeat (first | refine blk_drewN ?_ _ | refine blk_drew ?_ | refine blk_alloc ?_ _)); exact BK169.out⟩, ⟨by (with_reducible repeat (first | refine blk_drewN ?_ _ | refine blk_drew ?_ | refine blk_alloc ?_ _)); exact BK196.out⟩, ⟨by (with_reducible repeat (first | refine blk_drewN ?_ _ | refine blk_drew ?_ | refine blk_alloc ?_ _)); exact BK197.out⟩, ⟨by repeat (first | (with_reducible first | exact HB.out | apply below_alloc | apply pw_below_drewN | apply below_drew1 | refine below_set ?_ GE169.out | refine below_set ?_ GE196.out | refine below_set ?_ GE197.out) | exact HB.out)⟩⟩
           ·rw [if_neg c30] at H
            exact absurd H (by simp)
         case rest =>
          clear HC28
          try clear c1
          try clear c2
          try clear p2
          try clear c3
          try clear p3
          try clear q3
          try clear hx3
          try clear c4
          try clear p6
          try clear c7
          try clear c7b0
          try clear c7b1
          try clear c13
          try clear c13b0
          try clear c14
          try clear c20
          try clear c21
          try clear c24
          try clear c27
          try clear c27b0
          try clear c29
          try clear c29b0
          try clear c29b1
          try clear c30
          try clear c30b0
          try clear p31
          try clear q31
          try clear hx32
          try clear hcz11_0
          try clear hcz11_1
          try clear hcz11_10
          try clear hcz11_11
          try clear hcz11_12
          try clear hcz11_13
          try clear hcz11_14
          try clear hcz11_15
          try clear hcz11_2
          try clear hcz11_3
          try clear hcz11_4
          try clear hcz11_5
          try clear hcz11_6
          try clear hcz11_7
          try clear hcz11_8
          try clear hcz11_9
          try clear hcz16_0
          try clear hcz16_1
          try clear hcz16_10
          try clear hcz16_11
          try clear hcz16_12
          try clear hcz16_13
          try clear hcz16_14
          try clear hcz16_15
          try clear hcz16_2
          try clear hcz16_3
          try clear hcz16_4
          try clear hcz16_5
          try clear hcz16_6
          try clear hcz16_7
          try clear hcz16_8
          try clear hcz16_9
          try clear hcz22_0
          try clear hcz22_1
          try clear hcz22_2
          try clear hcz22_3
          try clear hcz25_0
          try clear hcz25_1
          try clear hcz25_10
          try clear hcz25_11
          try clear hcz25_12
          try clear hcz25_13
          try clear hcz25_14
          try clear hcz25_15
          try clear hcz25_2
          try clear hcz25_3
          try clear hcz25_4
          try clear hcz25_5
          try clear hcz25_6
          try clear hcz25_7
          try clear hcz25_8
          try clear hcz25_9
          try clear hfz11_0
          try clear hfz16_0
          try clear hfz22_0
          try clear hfz22_1
          try clear hfz22_2
          try clear hfz22_3
          try clear hfz25_0
          try clear hx32_0
          try clear p2
          try clear p31
          try clear p6
          try clear q31
          obtain ⟨kq, x54_27, rfl, HA, HJ27, HO_5, BK169, BK196, BK197, HB⟩ := hcut
          cases kq with
          | zero => exact absurd HA.out (by simp [watchwordlaw21_PathsLeast.j2])
          | succ kj27 =>
           have H := HA.out
           clear HA
           simp only [watchwordlaw21_PathsLeast.j2] at H
           by_cases c33 : x54_27 = true
           ·subst c33
            have H1 : (watchwordlaw21_PathsLeast.l0 kj27 t171 (wrap64 (a1 - 1)) x10_2 (wrap64 (x11_2 + 1)) t176 t177 t178 t179 t180 t181 t182 t183 t184 t185 t186 t187 t188 t189 t190 t191 t192 t193 t194 t195) = some r := by rw [if_pos rfl] at H; exact H
            clear H
            have H := H1
            clear H1
            as_aux_lemma =>
             have H' := Aside0.mk H
             clear H
             go_wp2
             repeat (go_quiet (fail); try go_wp2)
             go_roundg kj27
             case measure => have := HJ7.out; have := HK2.out; have := HJ27.out; omega
             case rel => exact ⟨(x10_2), (wrap64 (x11_2 + 1)), (by first | rfl | (simp; done) | (simp [*]; done)), (by first | rfl | (simp; done) | (simp [*]; done)), H', ⟨by have := HJ7.out; have := HK2.out; have := HJ27.out; omega⟩, ⟨by (with_reducible repeat (first | apply Kd.S_alloc | apply Kd.S_drewN | apply Kd.S_drew)); exact HO_5.out⟩, ⟨by (with_reducible repeat (first | refine blk_drewN ?_ _ | refine blk_drew ?_ | refine blk_alloc ?_ _)); exact BK169.out⟩, ⟨by (with_reducible repeat (first | refine blk_drewN ?_ _ | refine blk_drew ?_ | refine blk_alloc ?_ _)); exact BK196.out⟩, ⟨by (with_reducible repeat (first | refine blk_drewN ?_ _ | refine blk_drew ?_ | refine blk_alloc ?_ _)); exact BK197.out⟩, ⟨by repeat (first | (with_reducible first | exact HB.out | apply below_alloc | apply pw_below_drewN | apply below_drew1 | refine below_set ?_ GE169.out | refine below_set ?_ GE196.out | refine below_set ?_ GE197.out) | exact HB.out)⟩⟩
           ·replace c33 := Bool.eq_false_iff.mpr c33
            subst c33
            have H1 : (if x10_2 ≥ (t171.length : Int) then (watchwordlaw21_PathsLeast.j3 kj27 t171 (wrap64 (a1 - 1)) x10_2 x11_2 true t176 t177 t178 t179 t180 t181 t182 t183 t184 t185 t186 t187 t188 t189 t190 t191 t192 t193 t194 t195) else (if 0 ≤ x10_2 then (if x10_2 < (t171.length : Int) then (if ((rd_T41 t171 x10_2).f0) = (wrap64 (x11_2 + 1)) then (if 0 ≤ x11_2 then (if x11_2 < 4 then (watchwordlaw21_PathsLeast.j3 kj27 t171 (wrap64 (a1 - 1)) x10_2 x11_2 (((rd_T41 t171 x10_2).f1) != (ix4 t176 t177 t178 t179 x11_2)) t176 t177 t178 t179 t180 t181 t182 t183 t184 t185 t186 t187 t188 t189 t190 t191 t192 t193 t194 t195) else (none)) else (none)) else (watchwordlaw21_PathsLeast.j3 kj27 t171 (wrap64 (a1 - 1)) x10_2 x11_2 true t176 t177 t178 t179 t180 t181 t182 t183 t184 t185 t186 t187 t188 t189 t190 t191 t192 t193 t194 t195)) else (none)) else (none))) = some r := by rw [if_neg (show ¬ (false = true) by decide)] at H; exact H
            clear H
            have H := H1
            clear H1
            have HC34 := Aside0.mk H
            clear H
            go_upto_region 15 with (fail)
            repeat (go_quiet (fail); go_upto_region 15 with (fail))
            go_cut [79] (fun v79 wc => ∃ (kq : Nat) (x79_33 : Bool), v79 = .bool x79_33 ∧ Aside0 (watchwordlaw21_PathsLeast.j3 kq t171 (wrap64 (a1 - 1)) x10_2 x11_2 x79_33 t176 t177 t178 t179 t180 t181 t182 t183 t184 t185 t186 t187 t188 t189 t190 t191 t192 t193 t194 t195 = some r) ∧ Aside0 (kq ≤ kj27) ∧ Aside0 (Kd.S k41 41 wc w.heap.size (fun _ => True) v172 t171) ∧ Aside0 (wc.heap[gb169]? = some (.cells #[.int .i64 a0_0, .int .i64 a0_1, .int .i64 a0_2, .int .i64 a0_3, .int .i64 a0_4, .int .i64 a0_5, .int .i64 a0_6, .int .i64 a0_7, .int .i64 a0_8, .int .i64 a0_9, .int .i64 a0_10, .int .i64 a0_11, .int .i64 a0_12, .int .i64 a0_13, .int .i64 a0_14, .int .i64 a0_15] 23 (0, 0))) ∧ Aside0 (wc.heap[gb196]? = some (.cells #[.int .i64 t176, .int .i64 t177, .int .i64 t178, .int .i64 t179] 22 (0, 0))) ∧ Aside0 (wc.heap[gb197]? = some (.cells #[.bool t180, .bool t181, .bool t182, .bool t183, .bool t184, .bool t185, .bool t186, .bool t187, .bool t188, .bool t189, .bool t190, .bool t191, .bool t192, .bool t193, .bool t194, .bool t195] 36 (0, 0))) ∧ Aside0 (Below w.heap.size w wc))
            case first =>
             have H := HC34.out
             clear HC34
             by_cases c35 : x10_2 ≥ (t171.length : Int)
             ·rw [if_pos c35] at H
              have c35b0 : decide ((t171.length : Int) ≤ x10_2) = true := decide_eq_true c35
              clear c35
              (first | rw [c35b0] | (simp only [i64_w, i32_w]; rw [c35b0]) | skip)
              as_aux_lemma =>
               exact absurd H (fun h_ => (by
                have hd_ : ∀ k_, watchwordlaw21_PathsLeast.j3 k_ t171 (wrap64 (a1 - 1)) x10_2 x11_2 true t176 t177 t178 t179 t180 t181 t182 t183 t184 t185 t186 t187 t188 t189 t190 t191 t192 t193 t194 t195 = some r → False := by
                 intro k_ h_
                 cases k_ with
                 | zero => exact absurd h_ (by simp [watchwordlaw21_PathsLeast.j3])
                 | succ k_ =>
                  simp only [watchwordlaw21_PathsLeast.j3, if_true] at h_
                  exact absurd (Option.some.inj h_) (by rw [HT.out]; decide)
                exact hd_ _ h_))
             ·rw [if_neg c35] at H
              have c35b0 : decide ((t171.length : Int) ≤ x10_2) = false := decide_eq_false c35
              clear c35
              (first | rw [c35b0] | (simp only [i64_w, i32_w]; rw [c35b0]) | skip)
              by_cases c36 : 0 ≤ x10_2
              ·rw [if_pos c36] at H
               have c36b0 : decide (0 ≤ x10_2) = true := decide_eq_true c36
               clear c36
               by_cases c37 : x10_2 < (t171.length : Int)
               ·rw [if_pos c37] at H
                have c37b0 : decide (x10_2 < (t171.length : Int)) = true := decide_eq_true c37
                clear c37
                by_cases c38 : ((rd_T41 t171 x10_2).f0) = (wrap64 (x11_2 + 1))
                ·rw [if_pos c38] at H
                 have c38b0 : (((rd_T41 t171 x10_2).f0) == (wrap64 (x11_2 + 1))) = true := beq_iff_eq.mpr c38
                 have c38b1 : (((rd_T41 t171 x10_2).f0) != (wrap64 (x11_2 + 1))) = false := bne_eq_false_iff_eq.mpr c38
                 clear c38
                 by_cases c39 : 0 ≤ x11_2
                 ·rw [if_pos c39] at H
                  have c39b0 : decide (0 ≤ x11_2) = true := decide_eq_true c39
                  clear c39
                  by_cases c40 : x11_2 < 4
                  ·rw [if_pos c40] at H
                   have c40b0 : decide (x11_2 < 4) = true := decide_eq_true c40
                   clear c40
                   as_aux_lemma =>
                    have H' := Aside0.mk H
                    clear H
                    obtain ⟨Ao41, co41, eo41⟩ := Kd.S_slice HO_5.out
                    subst eo41
                    have p198 : 0 ≤ (x10_2 : Int) := of_decide_eq_true (by first | (with_reducible assumption) | assumption)
                    have q198 : x10_2 < (t171.length : Int) := of_decide_eq_true (by first | (with_reducible assumption) | assumption)
                    obtain ⟨ad198, A198_2, c198_2, e198, hx198_0, hx198_1, hx198_2, hl198_2, hi198_2⟩ := at_T41 (Kd.S_reads' HO_5.out).2.2 x10_2 p198 q198
                    cases e198
                    obtain ⟨ce198, hce198, hMe198, hcc198⟩ := Kd.S_get HO_5.out z41 x10_2 p198 (by first | exact q198 | exact of_decide_eq_true (by first | (with_reducible assumption) | assumption) | (have e_ := (Kd.S_reads' HO_5.out).1; omega))
                    obtain ⟨ve198_2, rfl, ge198_2⟩ := k41_openM hMe198
                    have hv198_2 := hcc198 2 _ rfl
                    rw [add_field _ _ 2 (by omega)] at hv198_2
                    replace hv198_2 := Option.some.inj (hv198_2.symm.trans hx198_2)
                    rw [hv198_2] at ge198_2
                    have HL198_2 := Aside0.mk (show Kd.R (Kd.int .i64) 3 _ _ _ _ ((rd_T41 t171 x10_2).f2) from ge198_2)
                    clear hv198_2 ge198_2
                    clear hcc198 hce198
                    have HR198_2 := Aside0.mk hi198_2
                    have HC198_2 := Aside0.mk hl198_2
                    clear hi198_2 hl198_2
                    replace p198 := eq_true p198
                    replace q198 := eq_true q198
                    have p199 : 0 ≤ (x10_2 : Int) := of_decide_eq_true (by first | (with_reducible assumption) | assumption)
                    have q199 : x10_2 < (t171.length : Int) := of_decide_eq_true (by first | (with_reducible assumption) | assumption)
                    obtain ⟨ad199, A199_2, c199_2, e199, hx199_0, hx199_1, hx199_2, hl199_2, hi199_2⟩ := at_T41 (Kd.S_reads' HO_5.out).2.2 x10_2 p199 q199
                    obtain rfl : ad198 = ad199 := (by injection e199)
                    obtain ⟨ce199, hce199, hMe199, hcc199⟩ := Kd.S_get HO_5.out z41 x10_2 p199 (by first | exact q199 | exact of_decide_eq_true (by first | (with_reducible assumption) | assumption) | (have e_ := (Kd.S_reads' HO_5.out).1; omega))
                    obtain ⟨ve199_2, rfl, ge199_2⟩ := k41_openM hMe199
                    have hv199_2 := hcc199 2 _ rfl
                    rw [add_field _ _ 2 (by omega)] at hv199_2
                    replace hv199_2 := Option.some.inj (hv199_2.symm.trans hx199_2)
                    rw [hv199_2] at ge199_2
                    have HL199_2 := Aside0.mk (show Kd.R (Kd.int .i64) 3 _ _ _ _ ((rd_T41 t171 x10_2).f2) from ge199_2)
                    clear hv199_2 ge199_2
                    clear hcc199 hce199
                    have HR199_2 := Aside0.mk hi199_2
                    have HC199_2 := Aside0.mk hl199_2
                    clear hi199_2 hl199_2
                    replace p199 := eq_true p199
                    replace q199 := eq_true q199
                    have ea_ := Option.some.inj (hx198_2.symm.trans hx199_2)
                    injection ea_ with ea_ en_ ec_
                    subst ea_
                    subst ec_
                    clear en_
                    have p42 : (0 ≤ (x11_2 : Int)) = True := eq_true (of_decide_eq_true (by first | (with_reducible assumption) | assumption))
                    have q42 : ((x11_2 : Int) < 4) = True := eq_true (of_decide_eq_true (by first | (with_reducible assumption) | assumption))
                    have hx43_0 : wc.cell? ⟨gb196, x11_2.toNat, none⟩ = some (.int .i64 (ix4 t176 t177 t178 t179 x11_2)) := (blk_cell BK196.out (x11_2.toNat)).trans (ix_4 (Value.int .i64) _ _ _ _ x11_2 (of_decide_eq_true (by first | (with_reducible assumption) | assumption)) (of_decide_eq_true (by first | (with_reducible assumption) | assumption)))
                    go_wp2
                    repeat (go_quiet (fail); try go_wp2)
                    go_meet
                    case rel => exact ⟨_, ((((rd_T41 t171 x10_2).f1) != (ix4 t176 t177 t178 t179 x11_2))), (by first | rfl | (simp; done) | (simp [*]; done)), H', ⟨by have := HJ7.out; have := HK2.out; have := HJ27.out; first | omega | exact Nat.le_refl _⟩, ⟨by (with_reducible repeat (first | apply Kd.S_alloc | apply Kd.S_drewN | apply Kd.S_drew)); exact HO_5.out⟩, ⟨by (with_reducible repeat (first | refine blk_drewN ?_ _ | refine blk_drew ?_ | refine blk_alloc ?_ _)); exact BK169.out⟩, ⟨by (with_reducible repeat (first | refine blk_drewN ?_ _ | refine blk_drew ?_ | refine blk_alloc ?_ _)); exact BK196.out⟩, ⟨by (with_reducible repeat (first | refine blk_drewN ?_ _ | refine blk_drew ?_ | refine blk_alloc ?_ _)); exact BK197.out⟩, ⟨by repeat (first | (with_reducible first | exact HB.out | apply below_alloc | apply pw_below_drewN | apply below_drew1 | refine below_set ?_ GE169.out | refine below_set ?_ GE196.out | refine below_set ?_ GE197.out) | exact HB.out)⟩⟩
                  ·rw [if_neg c40] at H
                   exact absurd H (by simp)
                 ·rw [if_neg c39] at H
                  exact absurd H (by simp)
                ·rw [if_neg c38] at H
                 have c38b0 : (((rd_T41 t171 x10_2).f0) == (wrap64 (x11_2 + 1))) = false := beq_eq_false_iff_ne.mpr c38
                 have c38b1 : (((rd_T41 t171 x10_2).f0) != (wrap64 (x11_2 + 1))) = true := bne_iff_ne.mpr c38
                 as_aux_lemma =>
                  exact absurd H (fun h_ => (by
                   have hd_ : ∀ k_, watchwordlaw21_PathsLeast.j3 k_ t171 (wrap64 (a1 - 1)) x10_2 x11_2 true t176 t177 t178 t179 t180 t181 t182 t183 t184 t185 t186 t187 t188 t189 t190 t191 t192 t193 t194 t195 = some r → False := by
                    intro k_ h_
                    cases k_ with
                    | zero => exact absurd h_ (by simp [watchwordlaw21_PathsLeast.j3])
                    | succ k_ =>
                     simp only [watchwordlaw21_PathsLeast.j3, if_true] at h_
                     exact absurd (Option.some.inj h_) (by rw [HT.out]; decide)
                   exact hd_ _ h_))
               ·rw [if_neg c37] at H
                exact absurd H (by simp)
              ·rw [if_neg c36] at H
               exact absurd H (by simp)
            case rest =>
             clear HC34
             try clear c1
             try clear p1
             try clear q1
             try clear hx1
             try clear c2
             try clear p2
             try clear c3
             try clear p3
             try clear q3
             try clear hx3
             try clear c4
             try clear p4
             try clear q4
             try clear hx4
             try clear p6
             try clear c7
             try clear c7b0
             try clear c7b1
             try clear c13
             try clear c13b0
             try clear c14
             try clear c19
             try clear p19
             try clear q19
             try clear hx19
             try clear c20
             try clear c21
             try clear c24
             try clear c27
             try clear c27b0
             try clear c29
             try clear c29b0
             try clear c29b1
             try clear c30
             try clear c30b0
             try clear p31
             try clear q31
             try clear hx32
             try clear c33
             try clear c35
             try clear c35b0
             try clear c36
             try clear c36b0
             try clear c37
             try clear c37b0
             try clear c38
             try clear c38b0
             try clear c38b1
             try clear c39
             try clear c39b0
             try clear c40
             try clear c40b0
             try clear p42
             try clear q42
             try clear hx43
             try clear hcz11_0
             try clear hcz11_1
             try clear hcz11_10
             try clear hcz11_11
             try clear hcz11_12
             try clear hcz11_13
             try clear hcz11_14
             try clear hcz11_15
             try clear hcz11_2
             try clear hcz11_3
             try clear hcz11_4
             try clear hcz11_5
             try clear hcz11_6
             try clear hcz11_7
             try clear hcz11_8
             try clear hcz11_9
             try clear hcz16_0
             try clear hcz16_1
             try clear hcz16_10
             try clear hcz16_11
             try clear hcz16_12
             try clear hcz16_13
             try clear hcz16_14
             try clear hcz16_15
             try clear hcz16_2
             try clear hcz16_3
             try clear hcz16_4
             try clear hcz16_5
             try clear hcz16_6
             try clear hcz16_7
             try clear hcz16_8
             try clear hcz16_9
             try clear hcz22_0
             try clear hcz22_1
             try clear hcz22_2
             try clear hcz22_3
             try clear hcz25_0
             try clear hcz25_1
             try clear hcz25_10
             try clear hcz25_11
             try clear hcz25_12
             try clear hcz25_13
             try clear hcz25_14
             try clear hcz25_15
             try clear hcz25_2
             try clear hcz25_3
             try clear hcz25_4
             try clear hcz25_5
             try clear hcz25_6
             try clear hcz25_7
             try clear hcz25_8
             try clear hcz25_9
             try clear hfz11_0
             try clear hfz16_0
             try clear hfz22_0
             try clear hfz22_1
             try clear hfz22_2
             try clear hfz22_3
             try clear hfz25_0
             try clear hx198_0
             try clear hx198_1
             try clear hx198_2
             try clear hx199_0
             try clear hx199_1
             try clear hx199_2
             try clear hx32_0
             try clear hx43_0
             try clear p198
             try clear p199
             try clear p2
             try clear p3
             try clear p31
             try clear p42
             try clear p6
             try clear q198
             try clear q199
             try clear q3
             try clear q31
             try clear q42
             obtain ⟨kq, x79_33, rfl, HA, HJ33, HO_5, BK169, BK196, BK197, HB⟩ := hcut
             cases kq with
             | zero => exact absurd HA.out (by simp [watchwordlaw21_PathsLeast.j3])
             | succ kj33 =>
              have H := HA.out
              clear HA
              simp only [watchwordlaw21_PathsLeast.j3] at H
              by_cases c44 : x79_33 = true
              ·subst c44
               have H1 : (some false) = some r := by rw [if_pos rfl] at H; exact H
               clear H
               have H := H1
               clear H1
               as_aux_lemma =>
                exact absurd (Option.some.inj H) (by rw [HT.out]; decide)
              ·replace c44 := Bool.eq_false_iff.mpr c44
               subst c44
               have H1 : (watchwordlaw21_PathsLeast.l1 kj33 t171 (wrap64 (a1 - 1)) x10_2 x11_2 0 0 t176 t177 t178 t179 t180 t181 t182 t183 t184 t185 t186 t187 t188 t189 t190 t191 t192 t193 t194 t195) = some r := by rw [if_neg (show ¬ (false = true) by decide)] at H; exact H
               clear H
               have H := H1
               clear H1
               have H' := Aside0.mk H
               clear H
               go_wp2
               repeat (go_quiet (fail); try go_wp2)
               go_loopg [12, 13] kj33 (fun kq v12 v13 w' => ∃ (x12_5 : Int) (x13_5 : Int), v12 = .int .i64 x12_5 ∧ v13 = .int .i64 x13_5 ∧ Aside0 (watchwordlaw21_PathsLeast.l1 kq t171 (wrap64 (a1 - 1)) x10_2 x11_2 x12_5 x13_5 t176 t177 t178 t179 t180 t181 t182 t183 t184 t185 t186 t187 t188 t189 t190 t191 t192 t193 t194 t195 = some r) ∧ Aside0 (kq ≤ kj33) ∧ Aside0 (Kd.S k41 41 w' w.heap.size (fun _ => True) v172 t171) ∧ Aside0 (w'.heap[gb169]? = some (.cells #[.int .i64 a0_0, .int .i64 a0_1, .int .i64 a0_2, .int .i64 a0_3, .int .i64 a0_4, .int .i64 a0_5, .int .i64 a0_6, .int .i64 a0_7, .int .i64 a0_8, .int .i64 a0_9, .int .i64 a0_10, .int .i64 a0_11, .int .i64 a0_12, .int .i64 a0_13, .int .i64 a0_14, .int .i64 a0_15] 23 (0, 0))) ∧ Aside0 (w'.heap[gb196]? = some (.cells #[.int .i64 t176, .int .i64 t177, .int .i64 t178, .int .i64 t179] 22 (0, 0))) ∧ Aside0 (w'.heap[gb197]? = some (.cells #[.bool t180, .bool t181, .bool t182, .bool t183, .bool t184, .bool t185, .bool t186, .bool t187, .bool t188, .bool t189, .bool t190, .bool t191, .bool t192, .bool t193, .bool t194, .bool t195] 36 (0, 0))) ∧ Aside0 (Below w.heap.size w w'))
               case atStart => exact ⟨(0), (0), (by first | rfl | (simp; done) | (simp [*]; done)), (by first | rfl | (simp; done) | (simp [*]; done)), H', ⟨Nat.le_refl _⟩, ⟨by (with_reducible repeat (first | apply Kd.S_alloc | apply Kd.S_drewN | apply Kd.S_drew)); exact HO_5.out⟩, ⟨by (with_reducible repeat (first | refine blk_drewN ?_ _ | refine blk_drew ?_ | refine blk_alloc ?_ _)); exact BK169.out⟩, ⟨by (with_reducible repeat (first | refine blk_drewN ?_ _ | refine blk_drew ?_ | refine blk_alloc ?_ _)); exact BK196.out⟩, ⟨by (with_reducible repeat (first | refine blk_drewN ?_ _ | refine blk_drew ?_ | refine blk_alloc ?_ _)); exact BK197.out⟩, ⟨by repeat (first | (with_reducible first | exact HB.out | apply below_alloc | apply pw_below_drewN | apply below_drew1 | refine below_set ?_ GE169.out | refine below_set ?_ GE196.out | refine below_set ?_ GE197.out) | exact HB.out)⟩⟩
               case round =>
                clear H'
                try clear c1
                try clear p1
                try clear q1
                try clear hx1
                try clear c2
                try clear p2
                try clear c3
                try clear p3
                try clear q3
                try clear hx3
                try clear c4
                try clear p4
                try clear q4
                try clear hx4
                try clear p6
                try clear c7
                try clear c7b0
                try clear c7b1
                try clear c13
                try clear c13b0
                try clear c14
                try clear c19
                try clear p19
                try clear q19
                try clear hx19
                try clear c20
                try clear c21
                try clear c24
                try clear c27
                try clear c27b0
                try clear c29
                try clear c29b0
                try clear c29b1
                try clear c30
                try clear c30b0
                try clear p31
                try clear q31
                try clear hx32
                try clear c33
                try clear c35
                try clear c35b0
                try clear c36
                try clear c36b0
                try clear c37
                try clear c37b0
                try clear c38
                try clear c38b0
                try clear c38b1
                try clear c39
                try clear c39b0
                try clear c40
                try clear c40b0
                try clear p42
                try clear q42
                try clear hx43
                try clear c44
                try clear hcz11_0
                try clear hcz11_1
                try clear hcz11_10
                try clear hcz11_11
                try clear hcz11_12
                try clear hcz11_13
                try clear hcz11_14
                try clear hcz11_15
                try clear hcz11_2
                try clear hcz11_3
                try clear hcz11_4
                try clear hcz11_5
                try clear hcz11_6
                try clear hcz11_7
                try clear hcz11_8
                try clear hcz11_9
                try clear hcz16_0
                try clear hcz16_1
                try clear hcz16_10
                try clear hcz16_11
                try clear hcz16_12
                try clear hcz16_13
                try clear hcz16_14
                try clear hcz16_15
                try clear hcz16_2
                try clear hcz16_3
                try clear hcz16_4
                try clear hcz16_5
                try clear hcz16_6
                try clear hcz16_7
                try clear hcz16_8
                try clear hcz16_9
                try clear hcz22_0
                try clear hcz22_1
                try clear hcz22_2
                try clear hcz22_3
                try clear hcz25_0
                try clear hcz25_1
                try clear hcz25_10
                try clear hcz25_11
                try clear hcz25_12
                try clear hcz25_13
                try clear hcz25_14
                try clear hcz25_15
                try clear hcz25_2
                try clear hcz25_3
                try clear hcz25_4
                try clear hcz25_5
                try clear hcz25_6
                try clear hcz25_7
                try clear hcz25_8
                try clear hcz25_9
                try clear hfz11_0
                try clear hfz16_0
                try clear hfz22_0
                try clear hfz22_1
                try clear hfz22_2
                try clear hfz22_3
                try clear hfz25_0
                try clear hx198_0
                try clear hx198_1
                try clear hx198_2
                try clear hx199_0
                try clear hx199_1
                try clear hx199_2
                try clear hx32_0
                try clear hx43_0
                try clear p1
                try clear p19
                try clear p198
                try clear p199
                try clear p2
                try clear p3
                try clear p31
                try clear p4
                try clear p42
                try clear p6
                try clear q1
                try clear q19
                try clear q198
                try clear q199
                try clear q3
                try clear q31
                try clear q4
                try clear q42
                obtain ⟨x12_5, x13_5, rfl, rfl, HA, HK5, HO_5, BK169, BK196, BK197, HB⟩ := hrel
                cases gk with
                | zero => exact absurd HA.out (by simp [watchwordlaw21_PathsLeast.l1])
                | succ k5 =>
                 have H := HA.out
                 clear HA
                 simp only [watchwordlaw21_PathsLeast.l1] at H
                 by_cases c45 : x13_5 < 4
                 ·rw [if_pos c45] at H
                  have c45b0 : decide (x13_5 < 4) = true := decide_eq_true c45
                  clear c45
                  by_cases c46 : 0 ≤ x11_2
                  ·rw [if_pos c46] at H
                   have c46b0 : decide (0 ≤ x11_2) = true := decide_eq_true c46
                   clear c46
                   by_cases c47 : x11_2 < 4
                   ·rw [if_pos c47] at H
                    have c47b0 : decide (x11_2 < 4) = true := decide_eq_true c47
                    clear c47
                    by_cases c48 : 0 ≤ x13_5
                    ·rw [if_pos c48] at H
                     have c48b0 : decide (0 ≤ x13_5) = true := decide_eq_true c48
                     clear c48
                     by_cases c49 : (ix4 (ix4 t180 t181 t182 t183 x13_5) (ix4 t184 t185 t186 t187 x13_5) (ix4 t188 t189 t190 t191 x13_5) (ix4 t192 t193 t194 t195 x13_5) x11_2) = true
                     ·rw [if_pos c49] at H
                      have c49b0 : (ix4 (ix4 t180 t181 t182 t183 x13_5) (ix4 t184 t185 t186 t187 x13_5) (ix4 t188 t189 t190 t191 x13_5) (ix4 t192 t193 t194 t195 x13_5) x11_2) = true := c49
                      clear c49
                      by_cases c50 : 0 ≤ x10_2
                      ·rw [if_pos c50] at H
                       have c50b0 : decide (0 ≤ x10_2) = true := decide_eq_true c50
                       clear c50
                       by_cases c51 : x10_2 < (t171.length : Int)
                       ·rw [if_pos c51] at H
                        have c51b0 : decide (x10_2 < (t171.length : Int)) = true := decide_eq_true c51
                        clear c51
                        by_cases c52 : x12_5 ≥ (((rd_T41 t171 x10_2).f2).length : Int)
                        ·rw [if_pos c52] at H
                         have c52b0 : decide ((((rd_T41 t171 x10_2).f2).length : Int) ≤ x12_5) = true := decide_eq_true c52
                         clear c52
                         as_aux_lemma =>
                          exact absurd (Option.some.inj H) (by rw [HT.out]; decide)
                        ·rw [if_neg c52] at H
                         have c52b0 : decide ((((rd_T41 t171 x10_2).f2).length : Int) ≤ x12_5) = false := decide_eq_false c52
                         clear c52
                         by_cases c53 : 0 ≤ x12_5
                         ·rw [if_pos c53] at H
                          have c53b0 : decide (0 ≤ x12_5) = true := decide_eq_true c53
                          clear c53
                          by_cases c54 : x12_5 < (((rd_T41 t171 x10_2).f2).length : Int)
                          ·rw [if_pos c54] at H
                           have c54b0 : decide (x12_5 < (((rd_T41 t171 x10_2).f2).length : Int)) = true := decide_eq_true c54
                           clear c54
                           by_cases c55 : (rd ((rd_T41 t171 x10_2).f2) x12_5) = (wrap64 (x13_5 + 1))
                           ·rw [if_pos c55] at H
                            have c55b0 : ((rd ((rd_T41 t171 x10_2).f2) x12_5) == (wrap64 (x13_5 + 1))) = true := beq_iff_eq.mpr c55
                            have c55b1 : ((rd ((rd_T41 t171 x10_2).f2) x12_5) != (wrap64 (x13_5 + 1))) = false := bne_eq_false_iff_eq.mpr c55
                            clear c55
                            as_aux_lemma =>
                             have H' := Aside0.mk H
                             clear H
                             have p56 : (0 ≤ (x11_2 : Int)) = True := eq_true (of_decide_eq_true (by first | (with_reducible assumption) | assumption))
                             have q56 : ((x11_2 : Int) < 4) = True := eq_true (of_decide_eq_true (by first | (with_reducible assumption) | assumption))
                             have p57 : (0 ≤ (x13_5 : Int)) = True := eq_true (of_decide_eq_true (by first | (with_reducible assumption) | assumption))
                             have q57 : ((x13_5 : Int) < 4) = True := eq_true (of_decide_eq_true (by first | (with_reducible assumption) | assumption))
                             have hx58_0 : wr.cell? ⟨gb197, x11_2.toNat * 4 + x13_5.toNat, none⟩ = some (.bool (ix4 (ix4 t180 t181 t182 t183 x13_5) (ix4 t184 t185 t186 t187 x13_5) (ix4 t188 t189 t190 t191 x13_5) (ix4 t192 t193 t194 t195 x13_5) x11_2)) := (blk_cell BK197.out (x11_2.toNat * 4 + x13_5.toNat)).trans (ix_44 Value.bool _ _ _ _ _ _ _ _ _ _ _ _ _ _ _ _ x11_2 x13_5  (of_decide_eq_true (by first | (with_reducible assumption) | assumption)) (of_decide_eq_true (by first | (with_reducible assumption) | assumption))  (of_decide_eq_true (by first | (with_reducible assumption) | assumption)) (of_decide_eq_true (by first | (with_reducible assumption) | assumption)))
                             obtain ⟨Ao59, co59, eo59⟩ := Kd.S_slice HO_5.out
                             subst eo59
                             have p201 : 0 ≤ (x10_2 : Int) := of_decide_eq_true (by first | (with_reducible assumption) | assumption)
                             have q201 : x10_2 < (t171.length : Int) := of_decide_eq_true (by first | (with_reducible assumption) | assumption)
                             obtain ⟨ad201, A201_2, c201_2, e201, hx201_0, hx201_1, hx201_2, hl201_2, hi201_2⟩ := at_T41 (Kd.S_reads' HO_5.out).2.2 x10_2 p201 q201
                             cases e201
                             obtain ⟨ce201, hce201, hMe201, hcc201⟩ := Kd.S_get HO_5.out z41 x10_2 p201 (by first | exact q201 | exact of_decide_eq_true (by first | (with_reducible assumption) | assumption) | (have e_ := (Kd.S_reads' HO_5.out).1; omega))
                             obtain ⟨ve201_2, rfl, ge201_2⟩ := k41_openM hMe201
                             have hv201_2 := hcc201 2 _ rfl
                             rw [add_field _ _ 2 (by omega)] at hv201_2
                             replace hv201_2 := Option.some.inj (hv201_2.symm.trans hx201_2)
                             rw [hv201_2] at ge201_2
                             have HL201_2 := Aside0.mk (show Kd.R (Kd.int .i64) 3 _ _ _ _ ((rd_T41 t171 x10_2).f2) from ge201_2)
                             clear hv201_2 ge201_2
                             clear hcc201 hce201
                             have HR201_2 := Aside0.mk hi201_2
                             have HC201_2 := Aside0.mk hl201_2
                             clear hi201_2 hl201_2
                             replace p201 := eq_true p201
                             replace q201 := eq_true q201
                             have p202 : 0 ≤ (x10_2 : Int) := of_decide_eq_true (by first | (with_reducible assumption) | assumption)
                             have q202 : x10_2 < (t171.length : Int) := of_decide_eq_true (by first | (with_reducible assumption) | assumption)
                             obtain ⟨ad202, A202_2, c202_2, e202, hx202_0, hx202_1, hx202_2, hl202_2, hi202_2⟩ := at_T41 (Kd.S_reads' HO_5.out).2.2 x10_2 p202 q202
                             obtain rfl : ad201 = ad202 := (by injection e202)
                             obtain ⟨ce202, hce202, hMe202, hcc202⟩ := Kd.S_get HO_5.out z41 x10_2 p202 (by first | exact q202 | exact of_decide_eq_true (by first | (with_reducible assumption) | assumption) | (have e_ := (Kd.S_reads' HO_5.out).1; omega))
                             obtain ⟨ve202_2, rfl, ge202_2⟩ := k41_openM hMe202
                             have hv202_2 := hcc202 2 _ rfl
                             rw [add_field _ _ 2 (by omega)] at hv202_2
                             replace hv202_2 := Option.some.inj (hv202_2.symm.trans hx202_2)
                             rw [hv202_2] at ge202_2
                             have HL202_2 := Aside0.mk (show Kd.R (Kd.int .i64) 3 _ _ _ _ ((rd_T41 t171 x10_2).f2) from ge202_2)
                             clear hv202_2 ge202_2
                             clear hcc202 hce202
                             have HR202_2 := Aside0.mk hi202_2
                             have HC202_2 := Aside0.mk hl202_2
                             clear hi202_2 hl202_2
                             replace p202 := eq_true p202
                             replace q202 := eq_true q202
                             have ea_ := Option.some.inj (hx201_2.symm.trans hx202_2)
                             injection ea_ with ea_ en_ ec_
                             subst ea_
                             subst ec_
                             clear en_
                             have p203 : 0 ≤ (x12_5 : Int) := of_decide_eq_true (by first | (with_reducible assumption) | assumption)
                             have q203 : x12_5 < (((rd_T41 t171 x10_2).f2).length : Int) := of_decide_eq_true (by first | (with_reducible assumption) | assumption)
                             obtain ⟨ad203, e203, hx203_0⟩ := Kd.at_int (by repeat (first | (with_reducible exact HR202_2.out) | (with_reducible refine Kd.C_alloc ?_ _) | (with_reducible refine Kd.C_drewN ?_ _) | (with_reducible refine Kd.C_drew ?_) | exact HR202_2.out)) x12_5 p203 q203
                             cases e203
                             replace p203 := eq_true p203
                             replace q203 := eq_true q203
                             go_wp2
                             repeat (go_quiet (fail); try go_wp2)
                             go_roundg k5
                             case measure => have := HJ7.out; have := HK2.out; have := HJ27.out; have := HJ33.out; have := HK5.out; omega
                             case rel => exact ⟨(wrap64 (x12_5 + 1)), (wrap64 (x13_5 + 1)), (by first | rfl | (simp; done) | (simp [*]; done)), (by first | rfl | (simp; done) | (simp [*]; done)), H', ⟨by have := HJ7.out; have := HK2.out; have := HJ27.out; have := HJ33.out; have := HK5.out; omega⟩, ⟨by (with_reducible repeat (first | apply Kd.S_alloc | apply Kd.S_drewN | apply Kd.S_drew)); exact HO_5.out⟩, ⟨by (with_reducible repeat (first | refine blk_drewN ?_ _ | refine blk_drew ?_ | refine blk_alloc ?_ _)); exact BK169.out⟩, ⟨by (with_reducible repeat (first | refine blk_drewN ?_ _ | refine blk_drew ?_ | refine blk_alloc ?_ _)); exact BK196.out⟩, ⟨by (with_reducible repeat (first | refine blk_drewN ?_ _ | refine blk_drew ?_ | refine blk_alloc ?_ _)); exact BK197.out⟩, ⟨by repeat (first | (with_reducible first | exact HB.out | apply below_alloc | apply pw_below_drewN | apply below_drew1 | refine below_set ?_ GE169.out | refine below_set ?_ GE196.out | refine below_set ?_ GE197.out) | exact HB.out)⟩⟩
                           ·rw [if_neg c55] at H
                            have c55b0 : ((rd ((rd_T41 t171 x10_2).f2) x12_5) == (wrap64 (x13_5 + 1))) = false := beq_eq_false_iff_ne.mpr c55
                            have c55b1 : ((rd ((rd_T41 t171 x10_2).f2) x12_5) != (wrap64 (x13_5 + 1))) = true := bne_iff_ne.mpr c55
                            as_aux_lemma =>
                             exact absurd (Option.some.inj H) (by rw [HT.out]; decide)
                          ·rw [if_neg c54] at H
                           exact absurd H (by simp)
                         ·rw [if_neg c53] at H
                          exact absurd H (by simp)
                       ·rw [if_neg c51] at H
                        exact absurd H (by simp)
                      ·rw [if_neg c50] at H
                       exact absurd H (by simp)
                     ·rw [if_neg c49] at H
                      have c49b0 : (ix4 (ix4 t180 t181 t182 t183 x13_5) (ix4 t184 t185 t186 t187 x13_5) (ix4 t188 t189 t190 t191 x13_5) (ix4 t192 t193 t194 t195 x13_5) x11_2) = false := by simpa using c49
                      clear c49
                      as_aux_lemma =>
                       have H' := Aside0.mk H
                       clear H
                       have p60 : (0 ≤ (x11_2 : Int)) = True := eq_true (of_decide_eq_true (by first | (with_reducible assumption) | assumption))
                       have q60 : ((x11_2 : Int) < 4) = True := eq_true (of_decide_eq_true (by first | (with_reducible assumption) | assumption))
                       have p61 : (0 ≤ (x13_5 : Int)) = True := eq_true (of_decide_eq_true (by first | (with_reducible assumption) | assumption))
                       have q61 : ((x13_5 : Int) < 4) = True := eq_true (of_decide_eq_true (by first | (with_reducible assumption) | assumption))
                       have hx62_0 : wr.cell? ⟨gb197, x11_2.toNat * 4 + x13_5.toNat, none⟩ = some (.bool (ix4 (ix4 t180 t181 t182 t183 x13_5) (ix4 t184 t185 t186 t187 x13_5) (ix4 t188 t189 t190 t191 x13_5) (ix4 t192 t193 t194 t195 x13_5) x11_2)) := (blk_cell BK197.out (x11_2.toNat * 4 + x13_5.toNat)).trans (ix_44 Value.bool _ _ _ _ _ _ _ _ _ _ _ _ _ _ _ _ x11_2 x13_5  (of_decide_eq_true (by first | (with_reducible assumption) | assumption)) (of_decide_eq_true (by first | (with_reducible assumption) | assumption))  (of_decide_eq_true (by first | (with_reducible assumption) | assumption)) (of_decide_eq_true (by first | (with_reducible assumption) | assumption)))
                       go_wp2
                       repeat (go_quiet (fail); try go_wp2)
                       go_roundg k5
                       case measure => have := HJ7.out; have := HK2.out; have := HJ27.out; have := HJ33.out; have := HK5.out; omega
                       case rel => exact ⟨(x12_5), (wrap64 (x13_5 + 1)), (by first | rfl | (simp; done) | (simp [*]; done)), (by first | rfl | (simp; done) | (simp [*]; done)), H', ⟨by have := HJ7.out; have := HK2.out; have := HJ27.out; have := HJ33.out; have := HK5.out; omega⟩, ⟨by (with_reducible repeat (first | apply Kd.S_alloc | apply Kd.S_drewN | apply Kd.S_drew)); exact HO_5.out⟩, ⟨by (with_reducible repeat (first | refine blk_drewN ?_ _ | refine blk_drew ?_ | refine blk_alloc ?_ _)); exact BK169.out⟩, ⟨by (with_reducible repeat (first | refine blk_drewN ?_ _ | refine blk_drew ?_ | refine blk_alloc ?_ _)); exact BK196.out⟩, ⟨by (with_reducible repeat (first | refine blk_drewN ?_ _ | refine blk_drew ?_ | refine blk_alloc ?_ _)); exact BK197.out⟩, ⟨by repeat (first | (with_reducible first | exact HB.out | apply below_alloc | apply pw_below_drewN | apply below_drew1 | refine below_set ?_ GE169.out | refine below_set ?_ GE196.out | refine below_set ?_ GE197.out) | exact HB.out)⟩⟩
                    ·rw [if_neg c48] at H
                     exact absurd H (by simp)
                   ·rw [if_neg c47] at H
                    exact absurd H (by simp)
                  ·rw [if_neg c46] at H
                   exact absurd H (by simp)
                 ·rw [if_neg c45] at H
                  have c45b0 : decide (x13_5 < 4) = false := decide_eq_false c45
                  clear c45
                  by_cases c63 : 0 ≤ x10_2
                  ·rw [if_pos c63] at H
                   have c63b0 : decide (0 ≤ x10_2) = true := decide_eq_true c63
                   clear c63
                   by_cases c64 : x10_2 < (t171.length : Int)
                   ·rw [if_pos c64] at H
                    have c64b0 : decide (x10_2 < (t171.length : Int)) = true := decide_eq_true c64
                    clear c64
                    by_cases c65 : x12_5 = (((rd_T41 t171 x10_2).f2).length : Int)
                    ·rw [if_pos c65] at H
                     have c65b0 : (x12_5 == (((rd_T41 t171 x10_2).f2).length : Int)) = true := beq_iff_eq.mpr c65
                     have c65b1 : (x12_5 != (((rd_T41 t171 x10_2).f2).length : Int)) = false := bne_eq_false_iff_eq.mpr c65
                     clear c65
                     by_cases c66 : x12_5 < 1
                     ·rw [if_pos c66] at H
                      have c66b0 : decide (x12_5 < 1) = true := decide_eq_true c66
                      clear c66
                      as_aux_lemma =>
                       exact absurd (Option.some.inj H) (by rw [HT.out]; decide)
                     ·rw [if_neg c66] at H
                      have c66b0 : decide (x12_5 < 1) = false := decide_eq_false c66
                      clear c66
                      as_aux_lemma =>
                       have H' := Aside0.mk H
                       clear H
                       obtain ⟨Ao67, co67, eo67⟩ := Kd.S_slice HO_5.out
                       subst eo67
                       have p200 : 0 ≤ (x10_2 : Int) := of_decide_eq_true (by first | (with_reducible assumption) | assumption)
                       have q200 : x10_2 < (t171.length : Int) := of_decide_eq_true (by first | (with_reducible assumption) | assumption)
                       obtain ⟨ad200, A200_2, c200_2, e200, hx200_0, hx200_1, hx200_2, hl200_2, hi200_2⟩ := at_T41 (Kd.S_reads' HO_5.out).2.2 x10_2 p200 q200
                       cases e200
                       obtain ⟨ce200, hce200, hMe200, hcc200⟩ := Kd.S_get HO_5.out z41 x10_2 p200 (by first | exact q200 | exact of_decide_eq_true (by first | (with_reducible assumption) | assumption) | (have e_ := (Kd.S_reads' HO_5.out).1; omega))
                       obtain ⟨ve200_2, rfl, ge200_2⟩ := k41_openM hMe200
                       have hv200_2 := hcc200 2 _ rfl
                       rw [add_field _ _ 2 (by omega)] at hv200_2
                       replace hv200_2 := Option.some.inj (hv200_2.symm.trans hx200_2)
                       rw [hv200_2] at ge200_2
                       have HL200_2 := Aside0.mk (show Kd.R (Kd.int .i64) 3 _ _ _ _ ((rd_T41 t171 x10_2).f2) from ge200_2)
                       clear hv200_2 ge200_2
                       clear hcc200 hce200
                       have HR200_2 := Aside0.mk hi200_2
                       have HC200_2 := Aside0.mk hl200_2
                       clear hi200_2 hl200_2
                       replace p200 := eq_true p200
                       replace q200 := eq_true q200
                       go_wp2
                       repeat (go_quiet (fail); try go_wp2)
                       go_roundg k5
                       case measure => have := HJ7.out; have := HK2.out; have := HJ27.out; have := HJ33.out; have := HK5.out; omega
                       case rel => exact ⟨(wrap64 (x10_2 + 1)), (wrap64 (x11_2 + 1)), (by first | rfl | (simp; done) | (simp [*]; done)), (by first | rfl | (simp; done) | (simp [*]; done)), H', ⟨by have := HJ7.out; have := HK2.out; have := HJ27.out; have := HJ33.out; have := HK5.out; omega⟩, ⟨by (with_reducible repeat (first | apply Kd.S_alloc | apply Kd.S_drewN | apply Kd.S_drew)); exact HO_5.out⟩, ⟨by (with_reducible repeat (first | refine blk_drewN ?_ _ | refine blk_drew ?_ | refine blk_alloc ?_ _)); exact BK169.out⟩, ⟨by (with_reducible repeat (first | refine blk_drewN ?_ _ | refine blk_drew ?_ | refine blk_alloc ?_ _)); exact BK196.out⟩, ⟨by (with_reducible repeat (first | refine blk_drewN ?_ _ | refine blk_drew ?_ | refine blk_alloc ?_ _)); exact BK197.out⟩, ⟨by repeat (first | (with_reducible first | exact HB.out | apply below_alloc | apply pw_below_drewN | apply below_drew1 | refine below_set ?_ GE169.out | refine below_set ?_ GE196.out | refine below_set ?_ GE197.out) | exact HB.out)⟩⟩
                    ·rw [if_neg c65] at H
                     have c65b0 : (x12_5 == (((rd_T41 t171 x10_2).f2).length : Int)) = false := beq_eq_false_iff_ne.mpr c65
                     have c65b1 : (x12_5 != (((rd_T41 t171 x10_2).f2).length : Int)) = true := bne_iff_ne.mpr c65
                     as_aux_lemma =>
                      exact absurd (Option.some.inj H) (by rw [HT.out]; decide)
                   ·rw [if_neg c64] at H
                    exact absurd H (by simp)
                  ·rw [if_neg c63] at H
                   exact absurd H (by simp)
        ·rw [if_neg c27] at H
         have c27b0 : decide (x11_2 < 4) = false := decide_eq_false c27
         clear c27
         as_aux_lemma =>
          obtain rfl := Option.some.inj H
          obtain ⟨Ao68, co68, eo68⟩ := Kd.S_slice HO_5.out
          subst eo68
          go_wp2
          repeat (go_quiet (fail); try go_wp2)
          go_ret
          exact ⟨by first | rfl | (simp [errW_none, errW_some] <;> rfl) | (simp [*, errW_none, errW_some] <;> rfl), by repeat (first | (with_reducible first | exact HB.out | apply below_alloc | apply pw_below_drewN | apply below_drew1 | refine below_set ?_ GE169.out | refine below_set ?_ GE196.out | refine below_set ?_ GE197.out) | exact HB.out)⟩
  ·rw [if_neg c7] at H
   have c7b0 : (t175 == 0) = false := beq_eq_false_iff_ne.mpr c7
   have c7b1 : (t175 != 0) = true := bne_iff_ne.mpr c7
   as_aux_lemma =>
    obtain rfl := Option.some.inj H
    go_enter Try.func4, Try.ntmps4
    go_wp2_with (first | ((with_reducible refine gate_dst (N := 2) rfl ?_); refine box_event ?hg (N := 2) ?hd (cs := #[.int .i64 a0_0, .int .i64 a0_1, .int .i64 a0_2, .int .i64 a0_3, .int .i64 a0_4, .int .i64 a0_5, .int .i64 a0_6, .int .i64 a0_7, .int .i64 a0_8, .int .i64 a0_9, .int .i64 a0_10, .int .i64 a0_11, .int .i64 a0_12, .int .i64 a0_13, .int .i64 a0_14, .int .i64 a0_15]) (t := 23) ?hr ?_; (case hd => rfl); (case hg => rfl); (case hr => first | (go_simp; done) | (go_simp; rfl)); intro gb169 hg w69 hbox hb; have n0_ := Aside0.mk (below_step (by repeat (first | (with_reducible first | exact HB.out | apply below_alloc | apply pw_below_drewN | apply below_drew1) | exact HB.out)) hb); have n1_ := Aside0.mk (hbox); have n2_ := Aside0.mk ((by rw [hg]; exact (below_size (by repeat (first | (with_reducible first | exact HB.out | apply below_alloc | apply pw_below_drewN | apply below_drew1) | exact HB.out))) : w.heap.size ≤ gb169)); have n3_ := Aside0.mk ((by rw [hg]; exact (below_size (by repeat (first | (with_reducible first | exact HB.out | apply below_alloc | apply pw_below_drewN | apply below_drew1) | exact HB.out))) : w.heap.size ≤ gb169)); clear HB; have HB := n0_; have BK169 := n1_; have GW169 := n2_; have GE169 := n3_; clear n0_ n1_ n2_ n3_; clear hb hbox hg) | (go_at_call 18; (with_reducible refine (watchwordlaw21_awake.calls k  true _ A3.out (by first | rfl | exact HT.out)).mono ?_); rintro e w70 ⟨rfl, hb⟩; have n0_ := Aside0.mk (blk_below (g := gb169) (o := .cells #[.int .i64 a0_0, .int .i64 a0_1, .int .i64 a0_2, .int .i64 a0_3, .int .i64 a0_4, .int .i64 a0_5, .int .i64 a0_6, .int .i64 a0_7, .int .i64 a0_8, .int .i64 a0_9, .int .i64 a0_10, .int .i64 a0_11, .int .i64 a0_12, .int .i64 a0_13, .int .i64 a0_14, .int .i64 a0_15] 23 (0, 0)) (by (with_reducible repeat (first | refine blk_drewN ?_ _ | refine blk_drew ?_ | refine blk_alloc ?_ _)); exact BK169.out) hb); have n1_ := Aside0.mk (below_step (by repeat (first | (with_reducible first | exact HB.out | apply below_alloc | apply pw_below_drewN | apply below_drew1 | refine below_set ?_ GE169.out) | exact HB.out)) hb); clear BK169; clear HB; have BK169 := n0_; have HB := n1_; clear n0_ n1_; (try clear hb); (try clear hb2); (try clear hk); (try clear hi); obtain ⟨hcz71_0, hcz71_1, hcz71_2, hcz71_3, hcz71_4, hcz71_5, hcz71_6, hcz71_7, hcz71_8, hcz71_9, hcz71_10, hcz71_11, hcz71_12, hcz71_13, hcz71_14, hcz71_15⟩ := cells16 BK169.out; have hfz71_0 := fun (j_ : Nat) => blk_frozen BK169.out j_) | (go_at_call 13; (with_reducible refine (paths_Routes.calls k a0_0 a0_1 a0_2 a0_3 a0_4 a0_5 a0_6 a0_7 a0_8 a0_9 a0_10 a0_11 a0_12 a0_13 a0_14 a0_15 a1 t171 t174 _ A5.out).mono ?_); rintro e w72 ⟨v172, rfl, ho0, hb⟩; have n0_ := Aside0.mk (Kd.S_lower ho0 (below_size (by repeat (first | (with_reducible first | exact HB.out | apply below_alloc | apply pw_below_drewN | apply below_drew1 | refine below_set ?_ GE169.out) | exact HB.out)))); have n1_ := Aside0.mk (blk_below (g := gb169) (o := .cells #[.int .i64 a0_0, .int .i64 a0_1, .int .i64 a0_2, .int .i64 a0_3, .int .i64 a0_4, .int .i64 a0_5, .int .i64 a0_6, .int .i64 a0_7, .int .i64 a0_8, .int .i64 a0_9, .int .i64 a0_10, .int .i64 a0_11, .int .i64 a0_12, .int .i64 a0_13, .int .i64 a0_14, .int .i64 a0_15] 23 (0, 0)) (by (with_reducible repeat (first | refine blk_drewN ?_ _ | refine blk_drew ?_ | refine blk_alloc ?_ _)); exact BK169.out) hb); have n2_ := Aside0.mk (below_step (by repeat (first | (with_reducible first | exact HB.out | apply below_alloc | apply pw_below_drewN | apply below_drew1 | refine below_set ?_ GE169.out) | exact HB.out)) hb); clear BK169; clear HB; have HO173 := n0_; have BK169 := n1_; have HB := n2_; clear n0_ n1_ n2_; (try clear hb); (try clear hb2); (try clear hk); (try clear hi); (try clear ho0)) | (go_at_call 16; (with_reducible refine (watchwordlaw0_Num.calls t174 t175 _ A6.out).mono ?_); rintro e w' ⟨rfl, ⟨nd, rfl⟩⟩; (try first | exact ⟨rfl, _, World.drewN_drewN _ _ _⟩ | exact ⟨rfl, _, Eq.trans (World.drewN_drewN _ _ _) (congrArg (World.drewN _) (Nat.add_assoc _ _ _))⟩); obtain ⟨Ao73, co73, eo73⟩ := Kd.S_slice HO173.out; subst eo73))
    repeat (go_quiet (first | ((with_reducible refine gate_dst (N := 2) rfl ?_); refine box_event ?hg (N := 2) ?hd (cs := #[.int .i64 a0_0, .int .i64 a0_1, .int .i64 a0_2, .int .i64 a0_3, .int .i64 a0_4, .int .i64 a0_5, .int .i64 a0_6, .int .i64 a0_7, .int .i64 a0_8, .int .i64 a0_9, .int .i64 a0_10, .int .i64 a0_11, .int .i64 a0_12, .int .i64 a0_13, .int .i64 a0_14, .int .i64 a0_15]) (t := 23) ?hr ?_; (case hd => rfl); (case hg => rfl); (case hr => first | (go_simp; done) | (go_simp; rfl)); intro gb169 hg w69 hbox hb; have n0_ := Aside0.mk (below_step (by repeat (first | (with_reducible first | exact HB.out | apply below_alloc | apply pw_below_drewN | apply below_drew1) | exact HB.out)) hb); have n1_ := Aside0.mk (hbox); have n2_ := Aside0.mk ((by rw [hg]; exact (below_size (by repeat (first | (with_reducible first | exact HB.out | apply below_alloc | apply pw_below_drewN | apply below_drew1) | exact HB.out))) : w.heap.size ≤ gb169)); have n3_ := Aside0.mk ((by rw [hg]; exact (below_size (by repeat (first | (with_reducible first | exact HB.out | apply below_alloc | apply pw_below_drewN | apply below_drew1) | exact HB.out))) : w.heap.size ≤ gb169)); clear HB; have HB := n0_; have BK169 := n1_; have GW169 := n2_; have GE169 := n3_; clear n0_ n1_ n2_ n3_; clear hb hbox hg) | (go_at_call 18; (with_reducible refine (watchwordlaw21_awake.calls k  true _ A3.out (by first | rfl | exact HT.out)).mono ?_); rintro e w70 ⟨rfl, hb⟩; have n0_ := Aside0.mk (blk_below (g := gb169) (o := .cells #[.int .i64 a0_0, .int .i64 a0_1, .int .i64 a0_2, .int .i64 a0_3, .int .i64 a0_4, .int .i64 a0_5, .int .i64 a0_6, .int .i64 a0_7, .int .i64 a0_8, .int .i64 a0_9, .int .i64 a0_10, .int .i64 a0_11, .int .i64 a0_12, .int .i64 a0_13, .int .i64 a0_14, .int .i64 a0_15] 23 (0, 0)) (by (with_reducible repeat (first | refine blk_drewN ?_ _ | refine blk_drew ?_ | refine blk_alloc ?_ _)); exact BK169.out) hb); have n1_ := Aside0.mk (below_step (by repeat (first | (with_reducible first | exact HB.out | apply below_alloc | apply pw_below_drewN | apply below_drew1 | refine below_set ?_ GE169.out) | exact HB.out)) hb); clear BK169; clear HB; have BK169 := n0_; have HB := n1_; clear n0_ n1_; (try clear hb); (try clear hb2); (try clear hk); (try clear hi); obtain ⟨hcz71_0, hcz71_1, hcz71_2, hcz71_3, hcz71_4, hcz71_5, hcz71_6, hcz71_7, hcz71_8, hcz71_9, hcz71_10, hcz71_11, hcz71_12, hcz71_13, hcz71_14, hcz71_15⟩ := cells16 BK169.out; have hfz71_0 := fun (j_ : Nat) => blk_frozen BK169.out j_) | (go_at_call 13; (with_reducible refine (paths_Routes.calls k a0_0 a0_1 a0_2 a0_3 a0_4 a0_5 a0_6 a0_7 a0_8 a0_9 a0_10 a0_11 a0_12 a0_13 a0_14 a0_15 a1 t171 t174 _ A5.out).mono ?_); rintro e w72 ⟨v172, rfl, ho0, hb⟩; have n0_ := Aside0.mk (Kd.S_lower ho0 (below_size (by repeat (first | (with_reducible first | exact HB.out | apply below_alloc | apply pw_below_drewN | apply below_drew1 | refine below_set ?_ GE169.out) | exact HB.out)))); have n1_ := Aside0.mk (blk_below (g := gb169) (o := .cells #[.int .i64 a0_0, .int .i64 a0_1, .int .i64 a0_2, .int .i64 a0_3, .int .i64 a0_4, .int .i64 a0_5, .int .i64 a0_6, .int .i64 a0_7, .int .i64 a0_8, .int .i64 a0_9, .int .i64 a0_10, .int .i64 a0_11, .int .i64 a0_12, .int .i64 a0_13, .int .i64 a0_14, .int .i64 a0_15] 23 (0, 0)) (by (with_reducible repeat (first | refine blk_drewN ?_ _ | refine blk_drew ?_ | refine blk_alloc ?_ _)); exact BK169.out) hb); have n2_ := Aside0.mk (below_step (by repeat (first | (with_reducible first | exact HB.out | apply below_alloc | apply pw_below_drewN | apply below_drew1 | refine below_set ?_ GE169.out) | exact HB.out)) hb); clear BK169; clear HB; have HO173 := n0_; have BK169 := n1_; have HB := n2_; clear n0_ n1_ n2_; (try clear hb); (try clear hb2); (try clear hk); (try clear hi); (try clear ho0)) | (go_at_call 16; (with_reducible refine (watchwordlaw0_Num.calls t174 t175 _ A6.out).mono ?_); rintro e w' ⟨rfl, ⟨nd, rfl⟩⟩; (try first | exact ⟨rfl, _, World.drewN_drewN _ _ _⟩ | exact ⟨rfl, _, Eq.trans (World.drewN_drewN _ _ _) (congrArg (World.drewN _) (Nat.add_assoc _ _ _))⟩); obtain ⟨Ao73, co73, eo73⟩ := Kd.S_slice HO173.out; subst eo73)); try go_wp2_with (first | ((with_reducible refine gate_dst (N := 2) rfl ?_); refine box_event ?hg (N := 2) ?hd (cs := #[.int .i64 a0_0, .int .i64 a0_1, .int .i64 a0_2, .int .i64 a0_3, .int .i64 a0_4, .int .i64 a0_5, .int .i64 a0_6, .int .i64 a0_7, .int .i64 a0_8, .int .i64 a0_9, .int .i64 a0_10, .int .i64 a0_11, .int .i64 a0_12, .int .i64 a0_13, .int .i64 a0_14, .int .i64 a0_15]) (t := 23) ?hr ?_; (case hd => rfl); (case hg => rfl); (case hr => first | (go_simp; done) | (go_simp; rfl)); intro gb169 hg w69 hbox hb; have n0_ := Aside0.mk (below_step (by repeat (first | (with_reducible first | exact HB.out | apply below_alloc | apply pw_below_drewN | apply below_drew1) | exact HB.out)) hb); have n1_ := Aside0.mk (hbox); have n2_ := Aside0.mk ((by rw [hg]; exact (below_size (by repeat (first | (with_reducible first | exact HB.out | apply below_alloc | apply pw_below_drewN | apply below_drew1) | exact HB.out))) : w.heap.size ≤ gb169)); have n3_ := Aside0.mk ((by rw [hg]; exact (below_size (by repeat (first | (with_reducible first | exact HB.out | apply below_alloc | apply pw_below_drewN | apply below_drew1) | exact HB.out))) : w.heap.size ≤ gb169)); clear HB; have HB := n0_; have BK169 := n1_; have GW169 := n2_; have GE169 := n3_; clear n0_ n1_ n2_ n3_; clear hb hbox hg) | (go_at_call 18; (with_reducible refine (watchwordlaw21_awake.calls k  true _ A3.out (by first | rfl | exact HT.out)).mono ?_); rintro e w70 ⟨rfl, hb⟩; have n0_ := Aside0.mk (blk_below (g := gb169) (o := .cells #[.int .i64 a0_0, .int .i64 a0_1, .int .i64 a0_2, .int .i64 a0_3, .int .i64 a0_4, .int .i64 a0_5, .int .i64 a0_6, .int .i64 a0_7, .int .i64 a0_8, .int .i64 a0_9, .int .i64 a0_10, .int .i64 a0_11, .int .i64 a0_12, .int .i64 a0_13, .int .i64 a0_14, .int .i64 a0_15] 23 (0, 0)) (by (with_reducible repeat (first | refine blk_drewN ?_ _ | refine blk_drew ?_ | refine blk_alloc ?_ _)); exact BK169.out) hb); have n1_ := Aside0.mk (below_step (by repeat (first | (with_reducible first | exact HB.out | apply below_alloc | apply pw_below_drewN | apply below_drew1 | refine below_set ?_ GE169.out) | exact HB.out)) hb); clear BK169; clear HB; have BK169 := n0_; have HB := n1_; clear n0_ n1_; (try clear hb); (try clear hb2); (try clear hk); (try clear hi); obtain ⟨hcz71_0, hcz71_1, hcz71_2, hcz71_3, hcz71_4, hcz71_5, hcz71_6, hcz71_7, hcz71_8, hcz71_9, hcz71_10, hcz71_11, hcz71_12, hcz71_13, hcz71_14, hcz71_15⟩ := cells16 BK169.out; have hfz71_0 := fun (j_ : Nat) => blk_frozen BK169.out j_) | (go_at_call 13; (with_reducible refine (paths_Routes.calls k a0_0 a0_1 a0_2 a0_3 a0_4 a0_5 a0_6 a0_7 a0_8 a0_9 a0_10 a0_11 a0_12 a0_13 a0_14 a0_15 a1 t171 t174 _ A5.out).mono ?_); rintro e w72 ⟨v172, rfl, ho0, hb⟩; have n0_ := Aside0.mk (Kd.S_lower ho0 (below_size (by repeat (first | (with_reducible first | exact HB.out | apply below_alloc | apply pw_below_drewN | apply below_drew1 | refine below_set ?_ GE169.out) | exact HB.out)))); have n1_ := Aside0.mk (blk_below (g := gb169) (o := .cells #[.int .i64 a0_0, .int .i64 a0_1, .int .i64 a0_2, .int .i64 a0_3, .int .i64 a0_4, .int .i64 a0_5, .int .i64 a0_6, .int .i64 a0_7, .int .i64 a0_8, .int .i64 a0_9, .int .i64 a0_10, .int .i64 a0_11, .int .i64 a0_12, .int .i64 a0_13, .int .i64 a0_14, .int .i64 a0_15] 23 (0, 0)) (by (with_reducible repeat (first | refine blk_drewN ?_ _ | refine blk_drew ?_ | refine blk_alloc ?_ _)); exact BK169.out) hb); have n2_ := Aside0.mk (below_step (by repeat (first | (with_reducible first | exact HB.out | apply below_alloc | apply pw_below_drewN | apply below_drew1 | refine below_set ?_ GE169.out) | exact HB.out)) hb); clear BK169; clear HB; have HO173 := n0_; have BK169 := n1_; have HB := n2_; clear n0_ n1_ n2_; (try clear hb); (try clear hb2); (try clear hk); (try clear hi); (try clear ho0)) | (go_at_call 16; (with_reducible refine (watchwordlaw0_Num.calls t174 t175 _ A6.out).mono ?_); rintro e w' ⟨rfl, ⟨nd, rfl⟩⟩; (try first | exact ⟨rfl, _, World.drewN_drewN _ _ _⟩ | exact ⟨rfl, _, Eq.trans (World.drewN_drewN _ _ _) (congrArg (World.drewN _) (Nat.add_assoc _ _ _))⟩); obtain ⟨Ao73, co73, eo73⟩ := Kd.S_slice HO173.out; subst eo73)))
    go_ret
    exact ⟨by first | rfl | (simp [errW_none, errW_some] <;> rfl) | (simp [*, errW_none, errW_some] <;> rfl), by repeat (first | (with_reducible first | exact HB.out | apply below_alloc | apply pw_below_drewN | apply below_drew1 | refine below_set ?_ GE169.out) | exact HB.out)⟩
 ·replace c4 := Bool.eq_false_iff.mpr c4
  subst c4
  have H1 : (some false) = some r := by rw [if_neg (show ¬ (false = true) by decide)] at H; exact H
  clear H
  have H := H1
  clear H1
  as_aux_lemma =>
   exact absurd (Option.some.inj H) (by rw [HT.out]; decide)

end Go.Proofs.Ytjbejbehbjhecaa.Q21n
namespace Go.Proofs.Ytjbejbehbjhecaa.Base
open Go.RowKit Go.Proofs.YtjbejbehbjhecaaW.PrintWords Go.Proofs.YtjbejbehbjhecaaW.PrintLast Go.Proofs.YtjbejbehbjhecaaW.PrintMore
set_option linter.unusedVariables false

/-! ### Texts as_ lists of numbers -/
def B (s : ByteArray) : List Int := s.data.toList.map fun b => (b.toNat : Int)
def Byt (l : List Int) : Prop := ∀ x ∈ l, 0 ≤ x ∧ x < 256
theorem B_len (s : ByteArray) : (B s).length = s.size := by simp [B]
theorem B_byt (s : ByteArray) : Byt (B s) := by
  intro x hx
  simp only [B, List.mem_map] at hx
  obtain ⟨b, _, rfl⟩ := hx
  have := b.toNat_lt
  omega
theorem map_toNat_inj : ∀ {l l' : List UInt8}, l.map (fun b => (b.toNat : Int)) = l'.map (fun b => (b.toNat : Int)) → l = l'
  | [], [], _ => rfl
  | [], _ :: _, h => by simp at h
  | _ :: _, [], h => by simp at h
  | a :: l, b :: l', h => by
    simp only [List.map_cons, List.cons.injEq] at h
    obtain ⟨h1, h2⟩ := h
    have : a = b := UInt8.toNat_inj.mp (by exact_mod_cast h1)
    rw [this, map_toNat_inj h2]
theorem B_inj {s t : ByteArray} (h : B s = B t) : s = t := by
  have := map_toNat_inj h
  cases s; cases t
  simp only [ByteArray.mk.injEq]
  exact Array.toList_inj.mp this
theorem toList_iff (s t : ByteArray) : s.toList = t.toList ↔ B s = B t := by
  rw [Lib.toList_data, Lib.toList_data]
  constructor
  · intro h; simp only [B, h]
  · exact map_toNat_inj
theorem toList_iff_lit (s : ByteArray) (l : List UInt8) : s.toList = l ↔ B s = l.map (fun b => (b.toNat : Int)) := by
  rw [Lib.toList_data]
  constructor
  · intro h; simp only [B, h]
  · exact map_toNat_inj
theorem B_append (s t : ByteArray) : B (s ++ t) = B s ++ B t := by simp [B, ByteArray.data_append]
theorem B_mk (a : Array UInt8) : B ⟨a⟩ = a.toList.map (fun b => (b.toNat : Int)) := rfl
theorem B_strOf {l : List Int} (h : Byt l) : B (strOfNums l) = l := by
  unfold B strOfNums
  simp only [List.map_map]
  conv => rhs; rw [← List.map_id l]
  apply List.map_congr_left
  intro x hx
  obtain ⟨h0, h1⟩ := h x hx
  simp only [Function.comp, id, UInt8.toNat_ofNat']
  omega
theorem strOf_B (s : ByteArray) : strOfNums (B s) = s := B_inj (B_strOf (B_byt s))
theorem strOf_size (l : List Int) : (strOfNums l).size = l.length := by show (Array.size _) = _; simp
theorem strOf_append (l l' : List Int) : strOfNums l ++ strOfNums l' = strOfNums (l ++ l') := by
  have : (strOfNums l ++ strOfNums l').data = (strOfNums (l ++ l')).data := by simp [strOfNums, ByteArray.data_append]
  exact ByteArray.ext this
theorem B_extract (s : ByteArray) (a b : Nat) : B (s.extract a b) = ((B s).drop a).take (b - a) := by
  unfold B
  rw [Lib.extract_data, List.map_take, List.map_drop]
theorem bt_B (s : ByteArray) (i : Int) : bt s i = (B s).getD i.toNat 0 := by
  unfold bt B
  split
  · rename_i h
    rw [List.getD_eq_getElem?_getD, List.getElem?_map]
    have : i.toNat < s.data.toList.length := by simpa using h
    rw [List.getElem?_eq_getElem this]
    rfl
  · rename_i h
    rw [List.getD_eq_getElem?_getD, List.getElem?_map]
    have : s.data.toList.length ≤ i.toNat := by simp only [Array.length_toList]; have : s.size = s.data.size := rfl; omega
    rw [List.getElem?_eq_none this]
    rfl
theorem byt_mod (x : Int) : 0 ≤ x % 256 ∧ x % 256 < 256 := by omega
theorem byt_nil : Byt [] := fun _ h => by cases h
theorem byt_cons {x : Int} {l : List Int} (h : 0 ≤ x ∧ x < 256) (hl : Byt l) : Byt (x :: l) := by
  intro y hy
  rcases List.mem_cons.mp hy with rfl | hy
  · exact h
  · exact hl y hy
theorem byt_append {l l' : List Int} (h : Byt l) (h' : Byt l') : Byt (l ++ l') := by
  intro y hy
  rcases List.mem_append.mp hy with hy | hy
  · exact h y hy
  · exact h' y hy
theorem byt_take {l : List Int} (n : Nat) (h : Byt l) : Byt (l.take n) := fun y hy => h y (List.mem_of_mem_take hy)
theorem byt_drop {l : List Int} (n : Nat) (h : Byt l) : Byt (l.drop n) := fun y hy => h y (List.mem_of_mem_drop hy)

/-! ### Numbers in bytes -/
def e1 (x : Int) : List Int := [x % 256]
def e2 (x : Int) : List Int := [x / 256 % 256, x % 256]
def e4 (x : Int) : List Int := [x / 16777216 % 256, x / 65536 % 256, x / 256 % 256, x % 256]
theorem e1_byt (x : Int) : Byt (e1 x) := byt_cons (byt_mod _) byt_nil
theorem e2_byt (x : Int) : Byt (e2 x) := byt_cons (byt_mod _) (byt_cons (byt_mod _) byt_nil)
theorem e4_byt (x : Int) : Byt (e4 x) := byt_cons (byt_mod _) (byt_cons (byt_mod _) (byt_cons (byt_mod _) (byt_cons (byt_mod _) byt_nil)))
theorem e1_len (x : Int) : (e1 x).length = 1 := rfl
theorem e2_len (x : Int) : (e2 x).length = 2 := rfl
theorem e4_len (x : Int) : (e4 x).length = 4 := rfl
def num (l : List Int) : Int := l.foldl (fun a b => a * 256 + b) 0
theorem num_two (a b : Int) : num [a, b] = a * 256 + b := by simp [num]
theorem num_four (a b c d : Int) : num [a, b, c, d] = a * 16777216 + b * 65536 + c * 256 + d := by simp [num]; omega
theorem num_e2 {x : Int} (h0 : 0 ≤ x) (h1 : x < 65536) : num (e2 x) = x := by unfold e2; rw [num_two]; omega
theorem num_e4 {x : Int} (h0 : 0 ≤ x) (h1 : x < 4294967296) : num (e4 x) = x := by unfold e4; rw [num_four]; omega
theorem e2_num {a b : Int} (ha : 0 ≤ a ∧ a < 256) (hb : 0 ≤ b ∧ b < 256) : e2 (num [a, b]) = [a, b] := by
  rw [num_two]; unfold e2
  simp only [List.cons.injEq, and_true]
  omega
theorem e4_num {a b c d : Int} (ha : 0 ≤ a ∧ a < 256) (hb : 0 ≤ b ∧ b < 256) (hc : 0 ≤ c ∧ c < 256) (hd : 0 ≤ d ∧ d < 256) : e4 (num [a, b, c, d]) = [a, b, c, d] := by
  rw [num_four]; unfold e4
  simp only [List.cons.injEq, and_true]
  omega
theorem num_two_range {a b : Int} (ha : 0 ≤ a ∧ a < 256) (hb : 0 ≤ b ∧ b < 256) : 0 ≤ num [a, b] ∧ num [a, b] < 65536 := by rw [num_two]; omega
theorem num_four_range {a b c d : Int} (ha : 0 ≤ a ∧ a < 256) (hb : 0 ≤ b ∧ b < 256) (hc : 0 ≤ c ∧ c < 256) (hd : 0 ≤ d ∧ d < 256) : 0 ≤ num [a, b, c, d] ∧ num [a, b, c, d] < 4294967296 := by rw [num_four]; omega
theorem e2_inj {x y : Int} (hx : 0 ≤ x ∧ x < 65536) (hy : 0 ≤ y ∧ y < 65536) (h : e2 x = e2 y) : x = y := by
  have := congrArg num h
  rwa [num_e2 hx.1 hx.2, num_e2 hy.1 hy.2] at this
theorem e4_inj {x y : Int} (hx : 0 ≤ x ∧ x < 4294967296) (hy : 0 ≤ y ∧ y < 4294967296) (h : e4 x = e4 y) : x = y := by
  have := congrArg num h
  rwa [num_e4 hx.1 hx.2, num_e4 hy.1 hy.2] at this

/-! ### Bits -/
theorem wrap_id {x : Int} (h0 : -9223372036854775808 ≤ x) (h1 : x ≤ 9223372036854775807) : wrap64 x = x := by unfold wrap64; omega
theorem wraps_i64 (n : Int) (h₀ : 0 ≤ n) (h₁ : n < 2 ^ 63) : IntKind.i64.wrap n = n := by rw [IntKind.wrap_i64]; omega
theorem or_byte {x y : Int} (hx₀ : 0 ≤ x) (hx₁ : x < 9223372036854775808) (hx : x % 256 = 0) (h₀ : 0 ≤ y) (h₁ : y < 256) : Go.bits .or .i64 x y = x + y :=
  bits_join .i64 63 (by decide) wraps_i64 8 x y hx₀ hx hx₁ h₀ h₁ (by omega)
theorem and_mask (i : Nat) (hi : i ≤ 62) (n : Int) : Go.bits .and .i64 n ((2 ^ i - 1 : Nat) : Int) = n % ((2 ^ i : Nat) : Int) := by
  have hp : 2 ^ i ≤ 2 ^ 62 := Nat.pow_le_pow_right (by decide) hi
  have hpos : 0 < 2 ^ i := Nat.two_pow_pos i
  have hm : (BitVec.ofInt 64 ((2 ^ i - 1 : Nat) : Int)).toNat = 2 ^ i - 1 := by
    rw [BitVec.ofInt_natCast, BitVec.toNat_ofNat]
    apply Nat.mod_eq_of_lt
    omega
  have key : (BitVec.ofInt 64 n &&& BitVec.ofInt 64 ((2 ^ i - 1 : Nat) : Int)).toNat = (n % ((2 ^ 64 : Nat) : Int)).toNat % 2 ^ i := by
    rw [BitVec.toNat_and, BitVec.toNat_ofInt, hm, Nat.and_two_pow_sub_one_eq_mod]
  show IntKind.i64.wrap ((BitVec.ofInt 64 n &&& BitVec.ofInt 64 ((2 ^ i - 1 : Nat) : Int)).toNat : Nat) = _
  rw [key]
  have hd : ((2 ^ i : Nat) : Int) ∣ ((2 ^ 64 : Nat) : Int) := by
    have : (2 ^ i) ∣ (2 ^ 64) := Nat.pow_dvd_pow 2 (by omega)
    exact_mod_cast this
  have h2 : (((n % ((2 ^ 64 : Nat) : Int)).toNat % 2 ^ i : Nat) : Int) = n % ((2 ^ i : Nat) : Int) := by
    rw [Int.natCast_emod, Int.toNat_of_nonneg (by omega), Int.emod_emod_of_dvd _ hd]
  rw [h2]
  have hlt : n % ((2 ^ i : Nat) : Int) < ((2 ^ i : Nat) : Int) := Int.emod_lt_of_pos _ (by exact_mod_cast hpos)
  have h0 : 0 ≤ n % ((2 ^ i : Nat) : Int) := Int.emod_nonneg _ (by have : ((2 ^ i : Nat) : Int) ≠ 0 := by exact_mod_cast Nat.pos_iff_ne_zero.mp hpos
                                                                   exact this)
  have hle : ((2 ^ i : Nat) : Int) ≤ ((2 ^ 62 : Nat) : Int) := by exact_mod_cast hp
  exact wraps_i64 _ h0 (by have : ((2 ^ 62 : Nat) : Int) < 2 ^ 63 := by decide
                           omega)
theorem and1 (n : Int) : Go.bits .and .i64 n 1 = n % 2 := and_mask 1 (by decide) n
theorem and3 (n : Int) : Go.bits .and .i64 n 3 = n % 4 := and_mask 2 (by decide) n
theorem and15 (n : Int) : Go.bits .and .i64 n 15 = n % 16 := and_mask 4 (by decide) n
theorem and127 (n : Int) : Go.bits .and .i64 n 127 = n % 128 := and_mask 7 (by decide) n
theorem and255 (n : Int) : Go.bits .and .i64 n 255 = n % 256 := and_mask 8 (by decide) n
theorem and1023 (n : Int) : Go.bits .and .i64 n 1023 = n % 1024 := and_mask 10 (by decide) n

theorem empty_list : (⟨#[]⟩ : ByteArray).toList = ([] : List UInt8) := by rw [Lib.toList_data]
def lim : Nat → Int
  | 0 => 1
  | i + 1 => lim i * 256
theorem lim_succ (i : Nat) : lim (i + 1) = lim i * 256 := rfl
theorem lim_le6 {i : Nat} (h : i ≤ 6) : lim i ≤ 281474976710656 := by
  have : i = 0 ∨ i = 1 ∨ i = 2 ∨ i = 3 ∨ i = 4 ∨ i = 5 ∨ i = 6 := by omega
  rcases this with rfl | rfl | rfl | rfl | rfl | rfl | rfl <;> decide
theorem byt_getD {l : List Int} (h : Byt l) (i : Nat) : 0 ≤ l.getD i 0 ∧ l.getD i 0 < 256 := by
  rw [List.getD_eq_getElem?_getD]
  by_cases hi : i < l.length
  · rw [List.getElem?_eq_getElem hi]; exact h _ (List.getElem_mem hi)
  · rw [List.getElem?_eq_none (by omega)]; simp

end Go.Proofs.Ytjbejbehbjhecaa.Base
namespace Go.Proofs.Ytjbejbehbjhecaa.L21
open Go.RowKit Go.Proofs.YtjbejbehbjhecaaW.PrintWords Go.Proofs.YtjbejbehbjhecaaW.PrintMore Go.Proofs.Ytjbejbehbjhecaa.Base Go.Proofs.Ytjbejbehbjhecaa.Q21n
set_option linter.unusedVariables false
set_option linter.unusedSimpArgs false
set_option maxRecDepth 100000
/-! ### Least sums between four: W is the least sum of three steps (a step from one to itself costs nothing) -/
structure Steps (e : Nat → Nat → Int) : Prop where
  self : ∀ i, i < 4 → e i i = 0
  nonneg : ∀ i j, i < 4 → j < 4 → 0 ≤ e i j
/-- The least of four. -/
def m4 (f : Nat → Int) : Int := min (min (f 0) (f 1)) (min (f 2) (f 3))
theorem m4_le (f : Nat → Int) {i : Nat} (h : i < 4) : m4 f ≤ f i := by
  unfold m4
  have : i = 0 ∨ i = 1 ∨ i = 2 ∨ i = 3 := by omega
  rcases this with rfl | rfl | rfl | rfl <;> omega
theorem m4_at (f : Nat → Int) : ∃ i, i < 4 ∧ m4 f = f i := by
  unfold m4
  by_cases h0 : min (min (f 0) (f 1)) (min (f 2) (f 3)) = f 0
  · exact ⟨0, by decide, h0⟩
  · by_cases h1 : min (min (f 0) (f 1)) (min (f 2) (f 3)) = f 1
    · exact ⟨1, by decide, h1⟩
    · by_cases h2 : min (min (f 0) (f 1)) (min (f 2) (f 3)) = f 2
      · exact ⟨2, by decide, h2⟩
      · exact ⟨3, by decide, by omega⟩
theorem m4_ge (f : Nat → Int) {b : Int} (h : ∀ i, i < 4 → b ≤ f i) : b ≤ m4 f := by
  obtain ⟨i, hi, e⟩ := m4_at f
  rw [e]; exact h i hi
def W (e : Nat → Nat → Int) (i j : Nat) : Int := m4 fun x => m4 fun y => e i x + e x y + e y j
theorem W_le (e : Nat → Nat → Int) (i j : Nat) {x y : Nat} (hx : x < 4) (hy : y < 4) : W e i j ≤ e i x + e x y + e y j :=
  Int.le_trans (m4_le _ hx) (m4_le (fun y => e i x + e x y + e y j) hy)
theorem W_at (e : Nat → Nat → Int) (i j : Nat) : ∃ x y, x < 4 ∧ y < 4 ∧ W e i j = e i x + e x y + e y j := by
  obtain ⟨x, hx, h1⟩ := m4_at fun x => m4 fun y => e i x + e x y + e y j
  obtain ⟨y, hy, h2⟩ := m4_at fun y => e i x + e x y + e y j
  exact ⟨x, y, hx, hy, h1.trans h2⟩
/-- Of five among four two are one: a way of four steps has a shorter one in it. -/
theorem shorter {e : Nat → Nat → Int} (S : Steps e) {f x y z j : Nat} (hf : f < 4) (hx : x < 4) (hy : y < 4) (hz : z < 4) (hj : j < 4) :
    ∃ x' y', x' < 4 ∧ y' < 4 ∧ e f x' + e x' y' + e y' j ≤ e f x + e x y + e y z + e z j ∧
      ∀ M : Int, 0 ≤ M → e f x ≤ M → e x y ≤ M → e y z ≤ M → e z j ≤ M → e f x' ≤ M ∧ e x' y' ≤ M ∧ e y' j ≤ M := by
  have n1 := S.nonneg f x hf hx
  have n2 := S.nonneg x y hx hy
  have n3 := S.nonneg y z hy hz
  have n4 := S.nonneg z j hz hj
  have sf := S.self f hf
  have sj := S.self j hj
  have : f = x ∨ x = y ∨ y = z ∨ z = j ∨ f = y ∨ x = z ∨ y = j ∨ f = z ∨ x = j ∨ f = j := by omega
  rcases this with rfl | rfl | rfl | rfl | rfl | rfl | rfl | rfl | rfl | rfl
  · exact ⟨y, z, hy, hz, by omega, fun M h0 h1 h2 h3 h4 => ⟨h2, h3, h4⟩⟩
  · exact ⟨x, z, hx, hz, by omega, fun M h0 h1 h2 h3 h4 => ⟨h1, h3, h4⟩⟩
  · exact ⟨x, y, hx, hy, by omega, fun M h0 h1 h2 h3 h4 => ⟨h1, h2, h4⟩⟩
  · exact ⟨x, y, hx, hy, by omega, fun M h0 h1 h2 h3 h4 => ⟨h1, h2, h3⟩⟩
  · exact ⟨z, j, hz, hj, by omega, fun M h0 h1 h2 h3 h4 => ⟨h3, h4, by omega⟩⟩
  · exact ⟨x, j, hx, hj, by omega, fun M h0 h1 h2 h3 h4 => ⟨h1, h4, by omega⟩⟩
  · exact ⟨x, y, hx, hy, by omega, fun M h0 h1 h2 h3 h4 => ⟨h1, h2, by omega⟩⟩
  · exact ⟨j, j, hj, hj, by omega, fun M h0 h1 h2 h3 h4 => ⟨h4, by omega, by omega⟩⟩
  · exact ⟨x, x, hx, hx, by omega, fun M h0 h1 h2 h3 h4 => ⟨h1, by omega, by omega⟩⟩
  · exact ⟨f, f, hf, hf, by omega, fun M h0 h1 h2 h3 h4 => ⟨by omega, by omega, by omega⟩⟩
theorem W_step {e : Nat → Nat → Int} (S : Steps e) {i k j : Nat} (hi : i < 4) (hk : k < 4) (hj : j < 4) : W e i j ≤ W e i k + e k j := by
  obtain ⟨x, y, hx, hy, h⟩ := W_at e i k
  obtain ⟨x', y', hx', hy', h', _⟩ := shorter S hi hx hy hk hj
  have := W_le e i j hx' hy'
  omega
theorem W_tri {e : Nat → Nat → Int} (S : Steps e) {i k j : Nat} (hi : i < 4) (hk : k < 4) (hj : j < 4) : W e i j ≤ W e i k + W e k j := by
  obtain ⟨x, y, hx, hy, h⟩ := W_at e k j
  have h1 := W_step S hi hk hx
  have h2 := W_step S hi hx hy
  have h3 := W_step S hi hy hj
  omega
theorem W_e {e : Nat → Nat → Int} (S : Steps e) {i j : Nat} (hi : i < 4) (hj : j < 4) : W e i j ≤ e i j := by
  have := W_le e i j hi hi
  have := S.self i hi
  omega
theorem W_nonneg {e : Nat → Nat → Int} (S : Steps e) {i j : Nat} (hi : i < 4) (hj : j < 4) : 0 ≤ W e i j := by
  obtain ⟨x, y, hx, hy, h⟩ := W_at e i j
  have := S.nonneg i x hi hx
  have := S.nonneg x y hx hy
  have := S.nonneg y j hy hj
  omega
theorem W_self {e : Nat → Nat → Int} (S : Steps e) {i : Nat} (hi : i < 4) : W e i i = 0 := by
  have h1 := W_e S hi hi
  have h2 := W_nonneg S hi hi
  have := S.self i hi
  omega
/-- One of the sums' rounds: ways over k. -/
def over (k : Nat) (m : Nat → Nat → Int) (i j : Nat) : Int := min (m i j) (m i k + m k j)
structure Upto (e : Nat → Nat → Int) (k : Nat) (m : Nat → Nat → Int) : Prop where
  self : ∀ i, i < 4 → m i i = 0
  ge : ∀ i j, i < 4 → j < 4 → W e i j ≤ m i j
  le : ∀ i j, i < 4 → j < 4 → m i j ≤ e i j
  tri : ∀ i q j, i < 4 → q < k → j < 4 → m i j ≤ m i q + m q j
theorem Upto.start {e : Nat → Nat → Int} (S : Steps e) : Upto e 0 e :=
  ⟨S.self, fun _ _ hi hj => W_e S hi hj, fun _ _ _ _ => Int.le_refl _, fun _ _ _ _ h _ => by omega⟩
theorem Upto.step {e m : Nat → Nat → Int} (S : Steps e) {k : Nat} (hk : k < 4) (U : Upto e k m) : Upto e (k + 1) (over k m) := by
  have nn : ∀ i j, i < 4 → j < 4 → 0 ≤ m i j := fun i j hi hj => Int.le_trans (W_nonneg S hi hj) (U.ge i j hi hj)
  have sk := U.self k hk
  refine ⟨fun i hi => ?_, fun i j hi hj => ?_, fun i j hi hj => ?_, fun i q j hi hq hj => ?_⟩
  · have := U.self i hi
    have := nn i k hi hk
    have := nn k i hk hi
    unfold over; omega
  · have h1 := U.ge i j hi hj
    have h2 := U.ge i k hi hk
    have h3 := U.ge k j hk hj
    have h4 := W_tri S hi hk hj
    unfold over; omega
  · have := U.le i j hi hj
    unfold over; omega
  · have a1 := nn i k hi hk
    have a2 := nn k j hk hj
    by_cases h : q = k
    · subst h
      unfold over
      omega
    · have hq' : q < k := by omega
      have b1 := nn k q hk (by omega)
      have b2 := nn q k (by omega) hk
      have t1 := U.tri i q j hi hq' hj
      have t2 := U.tri k q j hk hq' hj
      have t3 := U.tri i q k hi hq' hk
      unfold over
      omega
theorem Upto.done {e m : Nat → Nat → Int} (U : Upto e 4 m) {i j : Nat} (hi : i < 4) (hj : j < 4) : m i j = W e i j := by
  have h1 := U.ge i j hi hj
  obtain ⟨x, y, hx, hy, h⟩ := W_at e i j
  have t1 := U.tri i x j hi hx hj
  have t2 := U.tri x y j hx hy hj
  have l1 := U.le i x hi hx
  have l2 := U.le x y hx hy
  have l3 := U.le y j hy hj
  omega
/-! ### The document's least costs from one router: rounds of relaxing -/
def far : Int := 262144
/-- What a link costs: nothing from one to itself, far if there is none. -/
def eOf (c : Nat → Nat → Int) (i j : Nat) : Int := if i = j then 0 else if c i j = 0 then far else c i j
structure CostOk (c : Nat → Nat → Int) : Prop where
  range : ∀ i j, i < 4 → j < 4 → 0 ≤ c i j ∧ c i j ≤ 65535
  diag : ∀ i, i < 4 → c i i = 0
theorem CostOk.steps {c : Nat → Nat → Int} (C : CostOk c) : Steps (eOf c) := by
  refine ⟨fun i _ => by unfold eOf; rw [if_pos rfl], fun i j hi hj => ?_⟩
  have := C.range i j hi hj
  unfold eOf far
  split
  · omega
  · split <;> omega
theorem eOf_small {c : Nat → Nat → Int} (C : CostOk c) {i j : Nat} (hi : i < 4) (hj : j < 4) (h : eOf c i j < far) : eOf c i j ≤ 65535 := by
  have := C.range i j hi hj
  unfold eOf far at *
  split at h
  · rename_i h1; rw [if_pos h1]; omega
  · rename_i h1; rw [if_neg h1]
    split at h
    · omega
    · rename_i h2; rw [if_neg h2]; omega
theorem eOf_pos {c : Nat → Nat → Int} {i j : Nat} (h : eOf c i j < far) (hne : i ≠ j) : c i j ≠ 0 ∧ eOf c i j = c i j := by
  unfold eOf at *
  rw [if_neg hne] at h ⊢
  by_cases h0 : c i j = 0
  · rw [if_pos h0] at h; omega
  · exact ⟨h0, by rw [if_neg h0]⟩
theorem eOf_c {c : Nat → Nat → Int} (C : CostOk c) {i j : Nat} (hi : i < 4) (h : 0 < c i j) : eOf c i j = c i j ∧ i ≠ j := by
  have hne : i ≠ j := by rintro rfl; have := C.diag i hi; omega
  exact ⟨by unfold eOf; rw [if_neg hne, if_neg (by omega)], hne⟩
/-- A link behind a way that isn't far is not far. -/
theorem W_near {c : Nat → Nat → Int} (C : CostOk c) {f i j : Nat} (hf : f < 4) (hi : i < 4) (hj : j < 4) (h : W (eOf c) f i < far) (hc : 0 < c i j) : W (eOf c) f j < far := by
  have S := C.steps
  obtain ⟨x, y, hx, hy, hw⟩ := W_at (eOf c) f i
  have n1 := S.nonneg f x hf hx
  have n2 := S.nonneg x y hx hy
  have n3 := S.nonneg y i hy hi
  have s1 := eOf_small C hf hx (by omega)
  have s2 := eOf_small C hx hy (by omega)
  have s3 := eOf_small C hy hi (by omega)
  have s4 : eOf c i j ≤ 65535 := by rw [(eOf_c C hi hc).1]; exact (C.range i j hi hj).2
  obtain ⟨x', y', hx', hy', _, hM⟩ := shorter S hf hx hy hi hj
  obtain ⟨m1, m2, m3⟩ := hM 65535 (by decide) s1 s2 s3 s4
  have := W_le (eOf c) f j hx' hy'
  unfold far
  omega
def upd (d : Nat → Int) (j : Nat) (v : Int) : Nat → Int := fun q => if q = j then v else d q
/-- One step of relaxing. -/
def rlx (c : Nat → Nat → Int) (d : Nat → Int) (i j : Nat) : Nat → Int :=
  if 0 ≤ d i ∧ 0 < c i j ∧ (d j < 0 ∨ d i + c i j < d j) then upd d j (d i + c i j) else d
structure Good (c : Nat → Nat → Int) (f : Nat) (d : Nat → Int) : Prop where
  ge : ∀ j, j < 4 → 0 ≤ d j → W (eOf c) f j ≤ d j ∧ W (eOf c) f j < far
theorem Good.rlx {c : Nat → Nat → Int} (C : CostOk c) {f : Nat} (hf : f < 4) {d : Nat → Int} (G : Good c f d) {i j : Nat} (hi : i < 4) (hj : j < 4) : Good c f (rlx c d i j) := by
  unfold L21.rlx
  by_cases h : 0 ≤ d i ∧ 0 < c i j ∧ (d j < 0 ∨ d i + c i j < d j)
  · rw [if_pos h]
    refine ⟨fun q hq h0 => ?_⟩
    unfold upd at h0 ⊢
    by_cases e : q = j
    · subst e
      rw [if_pos rfl]
      obtain ⟨g1, g2⟩ := G.ge i hi h.1
      have h2 := W_step C.steps hf hi hq
      rw [(eOf_c C hi h.2.1).1] at h2
      exact ⟨by omega, W_near C hf hi hq g2 h.2.1⟩
    · rw [if_neg e] at h0 ⊢; exact G.ge q hq h0
  · rw [if_neg h]; exact G
/-- What is held stays held. -/
theorem rlx_keeps {c : Nat → Nat → Int} {d : Nat → Int} {i j q : Nat} {b : Int} (h : 0 ≤ d q ∧ d q ≤ b) : 0 ≤ rlx c d i j q ∧ rlx c d i j q ≤ b := by
  unfold rlx
  by_cases hc : 0 ≤ d i ∧ 0 < c i j ∧ (d j < 0 ∨ d i + c i j < d j)
  · rw [if_pos hc]; unfold upd
    by_cases e : q = j
    · subst e; rw [if_pos rfl]; omega
    · rw [if_neg e]; exact h
  · rw [if_neg hc]; exact h
theorem rlx_takes {c : Nat → Nat → Int} {d : Nat → Int} {i j : Nat} {b : Int} (h : 0 ≤ d i ∧ d i ≤ b) (hc : 0 < c i j) : 0 ≤ rlx c d i j j ∧ rlx c d i j j ≤ b + c i j := by
  unfold rlx
  by_cases h' : 0 ≤ d i ∧ 0 < c i j ∧ (d j < 0 ∨ d i + c i j < d j)
  · rw [if_pos h']; unfold upd; rw [if_pos rfl]; omega
  · rw [if_neg h']; omega
/-- The pairs that a round goes through, in its order: the n-th is (n / 4, n % 4). -/
def rl (c : Nat → Nat → Int) (d : Nat → Int) : Nat → (Nat → Int)
  | 0 => d
  | n + 1 => rlx c (rl c d n) (n / 4 % 4) (n % 4)
def V (e : Nat → Nat → Int) (f : Nat) : Nat → Nat → Int
  | 0, j => if j = f then 0 else far
  | r + 1, j => m4 fun i => V e f r i + e i j
theorem V_nonneg {e : Nat → Nat → Int} (S : Steps e) {f : Nat} : ∀ r j, j < 4 → 0 ≤ V e f r j
  | 0, j, _ => by unfold V far; split <;> omega
  | r + 1, j, hj => m4_ge _ fun i hi => by have := V_nonneg S (f := f) r i hi; have := S.nonneg i j hi hj; omega
theorem rl_good {c : Nat → Nat → Int} (C : CostOk c) {f : Nat} (hf : f < 4) {d : Nat → Int} (G : Good c f d) : ∀ n, Good c f (rl c d n)
  | 0 => G
  | n + 1 => (rl_good C hf G n).rlx C hf (by omega) (by omega)
theorem rl_add (c : Nat → Nat → Int) (d : Nat → Int) (m : Nat) (hm : m % 16 = 0) : ∀ n, rl c d (m + n) = rl c (rl c d m) n
  | 0 => rfl
  | n + 1 => by
    show rlx c (rl c d (m + n)) ((m + n) / 4 % 4) ((m + n) % 4) = rlx c (rl c (rl c d m) n) (n / 4 % 4) (n % 4)
    rw [rl_add c d m hm n, show (m + n) / 4 % 4 = n / 4 % 4 by omega, show (m + n) % 4 = n % 4 by omega]
theorem rl_keeps {c : Nat → Nat → Int} {d : Nat → Int} {q : Nat} {b : Int} (h : 0 ≤ d q ∧ d q ≤ b) : ∀ n, 0 ≤ rl c d n q ∧ rl c d n q ≤ b
  | 0 => h
  | n + 1 => rlx_keeps (rl_keeps h n)
theorem rl_upto {c : Nat → Nat → Int} {d : Nat → Int} {q : Nat} {b : Int} {m : Nat} (h : 0 ≤ rl c d m q ∧ rl c d m q ≤ b) : ∀ n, 0 ≤ rl c d (m + n) q ∧ rl c d (m + n) q ≤ b
  | 0 => h
  | n + 1 => rlx_keeps (rl_upto h n)
theorem rl_round {c : Nat → Nat → Int} (C : CostOk c) {f r : Nat} {d : Nat → Int} (h : ∀ j, j < 4 → V (eOf c) f r j < far → 0 ≤ d j ∧ d j ≤ V (eOf c) f r j) :
    ∀ j, j < 4 → V (eOf c) f (r + 1) j < far → 0 ≤ rl c d 16 j ∧ rl c d 16 j ≤ V (eOf c) f (r + 1) j := by
  intro j hj hv
  have S := C.steps
  obtain ⟨i, hi, e⟩ := m4_at fun i => V (eOf c) f r i + eOf c i j
  have e' : V (eOf c) f (r + 1) j = V (eOf c) f r i + eOf c i j := e
  rw [e'] at hv ⊢
  have n1 := V_nonneg S (f := f) r i hi
  have n2 := S.nonneg i j hi hj
  have hd := h i hi (by omega)
  by_cases hij : i = j
  · subst hij
    have := S.self i hi
    exact rl_keeps ⟨hd.1, by omega⟩ 16
  · obtain ⟨c1, c2⟩ := eOf_pos (c := c) (i := i) (j := j) (by omega) hij
    have c3 := C.range i j hi hj
    have hk := rl_keeps (c := c) (d := d) (q := i) hd (4 * i + j)
    have ht := rlx_takes (c := c) (j := j) hk (by omega)
    have hs : rl c d (4 * i + j + 1) = rlx c (rl c d (4 * i + j)) i j := by
      show rlx c (rl c d (4 * i + j)) ((4 * i + j) / 4 % 4) ((4 * i + j) % 4) = _
      rw [show (4 * i + j) / 4 % 4 = i by omega, show (4 * i + j) % 4 = j by omega]
    rw [← hs] at ht
    have := rl_upto ht (16 - (4 * i + j + 1))
    rw [show 4 * i + j + 1 + (16 - (4 * i + j + 1)) = 16 by omega] at this
    rw [c2]; exact this
/-- What the rounds come to. -/
theorem rl_done {c : Nat → Nat → Int} (C : CostOk c) {f : Nat} (hf : f < 4) {d : Nat → Int} (hd : d f = 0) (hn : ∀ j, j ≠ f → d j = -1) {j : Nat} (hj : j < 4) :
    (W (eOf c) f j < far → rl c d 64 j = W (eOf c) f j) ∧ (far ≤ W (eOf c) f j → rl c d 64 j < 0) := by
  have S := C.steps
  have G : Good c f d := ⟨fun q hq h0 => by
    by_cases e : q = f
    · subst e; have := W_self S hq; unfold far; omega
    · have := hn q e; omega⟩
  have G4 := rl_good C hf G 64
  have u0 : ∀ j, j < 4 → V (eOf c) f 0 j < far → 0 ≤ d j ∧ d j ≤ V (eOf c) f 0 j := by
    intro q hq hv
    unfold V at hv ⊢
    by_cases e : q = f
    · subst e; rw [if_pos rfl]; omega
    · rw [if_neg e] at hv; omega
  have e1 := rl_add c d 16 rfl 16
  have e2 := rl_add c d 32 rfl 16
  have e3 := rl_add c d 48 rfl 16
  have u1 := rl_round C u0
  have u2 := rl_round C u1
  have u3 := rl_round C u2
  have u4 := rl_round C u3
  rw [← e1] at u2 u3 u4
  rw [← e2] at u3 u4
  rw [← e3] at u4
  replace u4 : ∀ j, j < 4 → V (eOf c) f 4 j < far → 0 ≤ rl c d 64 j ∧ rl c d 64 j ≤ V (eOf c) f 4 j := u4
  refine ⟨fun hw => ?_, fun hw => ?_⟩
  · obtain ⟨x, y, hx, hy, h⟩ := W_at (eOf c) f j
    have v0 : V (eOf c) f 0 f = 0 := by unfold V; rw [if_pos rfl]
    have v1 : V (eOf c) f 1 x ≤ V (eOf c) f 0 f + eOf c f x := m4_le (fun i => V (eOf c) f 0 i + eOf c i x) hf
    have v2 : V (eOf c) f 2 y ≤ V (eOf c) f 1 x + eOf c x y := m4_le (fun i => V (eOf c) f 1 i + eOf c i y) hx
    have v3 : V (eOf c) f 3 j ≤ V (eOf c) f 2 y + eOf c y j := m4_le (fun i => V (eOf c) f 2 i + eOf c i j) hy
    have v4 : V (eOf c) f 4 j ≤ V (eOf c) f 3 j + eOf c j j := m4_le (fun i => V (eOf c) f 3 i + eOf c i j) hj
    have sj := S.self j hj
    have u := u4 j hj (by omega)
    have g := (G4.ge j hj u.1).1
    omega
  · by_cases h0 : 0 ≤ rl c d 64 j
    · have := (G4.ge j hj h0).2; omega
    · omega
abbrev Mat := Nat → Nat → Int
/-- Sixteen cells as_ a matrix. -/
def mk (c0 c1 c2 c3 c4 c5 c6 c7 c8 c9 c10 c11 c12 c13 c14 c15 : Int) : Mat := fun i j => match i, j with
  | 0, 0 => c0 | 0, 1 => c1 | 0, 2 => c2 | 0, 3 => c3
  | 1, 0 => c4 | 1, 1 => c5 | 1, 2 => c6 | 1, 3 => c7
  | 2, 0 => c8 | 2, 1 => c9 | 2, 2 => c10 | 2, 3 => c11
  | 3, 0 => c12 | 3, 1 => c13 | 3, 2 => c14 | 3, 3 => c15
  | _, _ => 0
theorem four {P : Nat → Prop} (h0 : P 0) (h1 : P 1) (h2 : P 2) (h3 : P 3) : ∀ i, i < 4 → P i := by
  intro i hi
  obtain rfl | rfl | rfl | rfl : i = 0 ∨ i = 1 ∨ i = 2 ∨ i = 3 := by omega
  all_goals assumption
/-! #### a matrix read and written -/
theorem sel_at (m : Mat) {a b : Nat} (ha : a < 4) (hb : b < 4) :
    ix4 (ix4 (m 0 0) (m 0 1) (m 0 2) (m 0 3) (b : Int)) (ix4 (m 1 0) (m 1 1) (m 1 2) (m 1 3) (b : Int)) (ix4 (m 2 0) (m 2 1) (m 2 2) (m 2 3) (b : Int)) (ix4 (m 3 0) (m 3 1) (m 3 2) (m 3 3) (b : Int)) (a : Int) = m a b := by
  obtain rfl | rfl | rfl | rfl : a = 0 ∨ a = 1 ∨ a = 2 ∨ a = 3 := by omega
  all_goals (obtain rfl | rfl | rfl | rfl : b = 0 ∨ b = 1 ∨ b = 2 ∨ b = 3 := by omega)
  all_goals rfl
theorem row_at (r : Nat → Int) {b : Nat} (hb : b < 4) : ix4 (r 0) (r 1) (r 2) (r 3) (b : Int) = r b := by
  obtain rfl | rfl | rfl | rfl : b = 0 ∨ b = 1 ∨ b = 2 ∨ b = 3 := by omega
  all_goals rfl
def upd2 (m : Mat) (a b : Nat) (v : Int) : Mat := fun i j => if i = a ∧ j = b then v else m i j
theorem up_at (m : Mat) (a b : Nat) (v : Int) (i j : Nat) : up (((a : Nat) : Int) == ((i : Nat) : Int) && ((b : Nat) : Int) == ((j : Nat) : Int)) v (m i j) = upd2 m a b v i j := by
  unfold up upd2
  by_cases h : i = a ∧ j = b
  · obtain ⟨rfl, rfl⟩ := h; simp
  · rw [if_neg h, if_neg]
    simp only [Bool.and_eq_true, beq_iff_eq, not_and]
    intro e1 e2; exact h ⟨by omega, by omega⟩
theorem ups (m : Mat) (a b : Nat) (v : Int) :
    up (((a : Nat) : Int) == 0 && ((b : Nat) : Int) == 0) v (m 0 0) = upd2 m a b v 0 0 ∧ up (((a : Nat) : Int) == 0 && ((b : Nat) : Int) == 1) v (m 0 1) = upd2 m a b v 0 1 ∧
    up (((a : Nat) : Int) == 0 && ((b : Nat) : Int) == 2) v (m 0 2) = upd2 m a b v 0 2 ∧ up (((a : Nat) : Int) == 0 && ((b : Nat) : Int) == 3) v (m 0 3) = upd2 m a b v 0 3 ∧
    up (((a : Nat) : Int) == 1 && ((b : Nat) : Int) == 0) v (m 1 0) = upd2 m a b v 1 0 ∧ up (((a : Nat) : Int) == 1 && ((b : Nat) : Int) == 1) v (m 1 1) = upd2 m a b v 1 1 ∧
    up (((a : Nat) : Int) == 1 && ((b : Nat) : Int) == 2) v (m 1 2) = upd2 m a b v 1 2 ∧ up (((a : Nat) : Int) == 1 && ((b : Nat) : Int) == 3) v (m 1 3) = upd2 m a b v 1 3 ∧
    up (((a : Nat) : Int) == 2 && ((b : Nat) : Int) == 0) v (m 2 0) = upd2 m a b v 2 0 ∧ up (((a : Nat) : Int) == 2 && ((b : Nat) : Int) == 1) v (m 2 1) = upd2 m a b v 2 1 ∧
    up (((a : Nat) : Int) == 2 && ((b : Nat) : Int) == 2) v (m 2 2) = upd2 m a b v 2 2 ∧ up (((a : Nat) : Int) == 2 && ((b : Nat) : Int) == 3) v (m 2 3) = upd2 m a b v 2 3 ∧
    up (((a : Nat) : Int) == 3 && ((b : Nat) : Int) == 0) v (m 3 0) = upd2 m a b v 3 0 ∧ up (((a : Nat) : Int) == 3 && ((b : Nat) : Int) == 1) v (m 3 1) = upd2 m a b v 3 1 ∧
    up (((a : Nat) : Int) == 3 && ((b : Nat) : Int) == 2) v (m 3 2) = upd2 m a b v 3 2 ∧ up (((a : Nat) : Int) == 3 && ((b : Nat) : Int) == 3) v (m 3 3) = upd2 m a b v 3 3 :=
  ⟨up_at m a b v 0 0, up_at m a b v 0 1, up_at m a b v 0 2, up_at m a b v 0 3, up_at m a b v 1 0, up_at m a b v 1 1, up_at m a b v 1 2, up_at m a b v 1 3,
   up_at m a b v 2 0, up_at m a b v 2 1, up_at m a b v 2 2, up_at m a b v 2 3, up_at m a b v 3 0, up_at m a b v 3 1, up_at m a b v 3 2, up_at m a b v 3 3⟩
theorem next4 {b : Nat} (h : b < 4) : wrap64 ((b : Int) + 1) = ((b + 1 : Nat) : Int) := by unfold wrap64; omega
/-! #### may these costs be -/
def cellOk (a b c : Int) : Bool := decide (0 ≤ c) && decide (c ≤ 65535) && (decide (a ≠ b) || decide (c = 0))
def rowOk (a r0 r1 r2 r3 : Int) : Bool := cellOk a 0 r0 && (cellOk a 1 r1 && (cellOk a 2 r2 && cellOk a 3 r3))
def okC (c0 c1 c2 c3 c4 c5 c6 c7 c8 c9 c10 c11 c12 c13 c14 c15 : Int) : Bool := rowOk 0 c0 c1 c2 c3 && (rowOk 1 c4 c5 c6 c7 && (rowOk 2 c8 c9 c10 c11 && rowOk 3 c12 c13 c14 c15))
def okM (m : Mat) : Bool := okC (m 0 0) (m 0 1) (m 0 2) (m 0 3) (m 1 0) (m 1 1) (m 1 2) (m 1 3) (m 2 0) (m 2 1) (m 2 2) (m 2 3) (m 3 0) (m 3 1) (m 3 2) (m 3 3)
theorem May_step (k : Nat) {a b r0 r1 r2 r3 c0 c1 c2 c3 c4 c5 c6 c7 c8 c9 c10 c11 c12 c13 c14 c15 : Int} (h0 : 0 ≤ b) (h4 : b < 4) :
    graph_May.l1 (k + 1) a a b c0 c1 c2 c3 c4 c5 c6 c7 c8 c9 c10 c11 c12 c13 c14 c15 r0 r1 r2 r3 = if cellOk a b (ix4 r0 r1 r2 r3 b) = true then graph_May.l1 k a a (wrap64 (b + 1)) c0 c1 c2 c3 c4 c5 c6 c7 c8 c9 c10 c11 c12 c13 c14 c15 r0 r1 r2 r3 else some false := by
  simp only [graph_May.l1]
  rw [if_pos h4, if_pos h0]
  generalize ix4 r0 r1 r2 r3 b = x
  unfold cellOk
  by_cases h1 : x < 0
  · rw [if_pos h1, if_neg (by simp; omega)]
  · rw [if_neg h1]
    by_cases h2 : x > 65535
    · rw [if_pos h2, if_neg (by simp; omega)]
    · rw [if_neg h2]
      by_cases h3 : a = b
      · rw [if_pos h3]
        by_cases h5 : x = 0
        · rw [if_pos h5, if_pos (by simp; omega)]
        · rw [if_neg h5, if_neg (by simp; omega)]
      · rw [if_neg h3, if_pos (by simp; omega)]
theorem May_row (k : Nat) {a r0 r1 r2 r3 c0 c1 c2 c3 c4 c5 c6 c7 c8 c9 c10 c11 c12 c13 c14 c15 : Int} :
    graph_May.l1 (k + 5) a a 0 c0 c1 c2 c3 c4 c5 c6 c7 c8 c9 c10 c11 c12 c13 c14 c15 r0 r1 r2 r3 = if rowOk a r0 r1 r2 r3 = true then graph_May.l0 k (wrap64 (a + 1)) c0 c1 c2 c3 c4 c5 c6 c7 c8 c9 c10 c11 c12 c13 c14 c15 else some false := by
  rw [May_step (k + 4) (by decide) (by decide), show wrap64 (0 + 1) = 1 by decide +kernel, show ix4 r0 r1 r2 r3 0 = r0 from rfl,
    May_step (k + 3) (by decide) (by decide), show wrap64 (1 + 1) = 2 by decide +kernel, show ix4 r0 r1 r2 r3 1 = r1 from rfl,
    May_step (k + 2) (by decide) (by decide), show wrap64 (2 + 1) = 3 by decide +kernel, show ix4 r0 r1 r2 r3 2 = r2 from rfl,
    May_step (k + 1) (by decide) (by decide), show wrap64 (3 + 1) = 4 by decide +kernel, show ix4 r0 r1 r2 r3 3 = r3 from rfl]
  simp only [graph_May.l1]
  rw [if_neg (show ¬ ((4 : Int) < 4) by decide)]
  unfold rowOk
  cases cellOk a 0 r0 <;> cases cellOk a 1 r1 <;> cases cellOk a 2 r2 <;> cases cellOk a 3 r3 <;> simp
theorem May_f (k : Nat) (c0 c1 c2 c3 c4 c5 c6 c7 c8 c9 c10 c11 c12 c13 c14 c15 : Int) : graph_May.f (k + 25) c0 c1 c2 c3 c4 c5 c6 c7 c8 c9 c10 c11 c12 c13 c14 c15 = some (okC c0 c1 c2 c3 c4 c5 c6 c7 c8 c9 c10 c11 c12 c13 c14 c15) := by
  unfold graph_May.f
  have s (k : Nat) (x : Int) (h0 : 0 ≤ x) (h4 : x < 4) : graph_May.l0 (k + 1) x c0 c1 c2 c3 c4 c5 c6 c7 c8 c9 c10 c11 c12 c13 c14 c15 = graph_May.l1 k x x 0 c0 c1 c2 c3 c4 c5 c6 c7 c8 c9 c10 c11 c12 c13 c14 c15 (ix4 c0 c4 c8 c12 x) (ix4 c1 c5 c9 c13 x) (ix4 c2 c6 c10 c14 x) (ix4 c3 c7 c11 c15 x) := by
    simp only [graph_May.l0]; rw [if_pos h4, if_pos h0]
  rw [s (k + 24) 0 (by decide) (by decide), May_row (k + 19), show wrap64 (0 + 1) = 1 by decide +kernel, s (k + 18) 1 (by decide) (by decide), May_row (k + 13), show wrap64 (1 + 1) = 2 by decide +kernel,
    s (k + 12) 2 (by decide) (by decide), May_row (k + 7), show wrap64 (2 + 1) = 3 by decide +kernel, s (k + 6) 3 (by decide) (by decide), May_row (k + 1), show wrap64 (3 + 1) = 4 by decide +kernel]
  simp only [graph_May.l0]
  rw [if_neg (show ¬ ((4 : Int) < 4) by decide)]
  unfold okC
  show (if rowOk 0 c0 c1 c2 c3 = true then (if rowOk 1 c4 c5 c6 c7 = true then (if rowOk 2 c8 c9 c10 c11 = true then (if rowOk 3 c12 c13 c14 c15 = true then some true else some false) else some false) else some false) else some false) = _
  cases rowOk 0 c0 c1 c2 c3 <;> cases rowOk 1 c4 c5 c6 c7 <;> cases rowOk 2 c8 c9 c10 c11 <;> cases rowOk 3 c12 c13 c14 c15 <;> simp
theorem cellOk_iff {a b c : Int} : cellOk a b c = true ↔ (0 ≤ c ∧ c ≤ 65535 ∧ (a = b → c = 0)) := by
  unfold cellOk
  simp only [Bool.and_eq_true, Bool.or_eq_true, decide_eq_true_eq]
  constructor
  · rintro ⟨⟨h1, h2⟩, h3⟩; exact ⟨h1, h2, fun e => h3.resolve_left (fun h => h e)⟩
  · rintro ⟨h1, h2, h3⟩; refine ⟨⟨h1, h2⟩, ?_⟩
    by_cases e : a = b
    · exact .inr (h3 e)
    · exact .inl e
theorem okM_iff (m : Mat) : okM m = true ↔ CostOk m := by
  unfold okM okC rowOk
  simp only [Bool.and_eq_true]
  constructor
  · rintro ⟨⟨a, b, d, e⟩, ⟨f, g, h, i⟩, ⟨j, k, l, n⟩, o, p, q, s⟩
    rw [cellOk_iff] at a b d e f g h i j k l n o p q s
    exact ⟨fun i' j' hi hj => four (P := fun i => 0 ≤ m i j' ∧ m i j' ≤ 65535) (four (P := fun j => 0 ≤ m 0 j ∧ m 0 j ≤ 65535) ⟨a.1, a.2.1⟩ ⟨b.1, b.2.1⟩ ⟨d.1, d.2.1⟩ ⟨e.1, e.2.1⟩ j' hj) (four (P := fun j => 0 ≤ m 1 j ∧ m 1 j ≤ 65535) ⟨f.1, f.2.1⟩ ⟨g.1, g.2.1⟩ ⟨h.1, h.2.1⟩ ⟨i.1, i.2.1⟩ j' hj)
      (four (P := fun j => 0 ≤ m 2 j ∧ m 2 j ≤ 65535) ⟨j.1, j.2.1⟩ ⟨k.1, k.2.1⟩ ⟨l.1, l.2.1⟩ ⟨n.1, n.2.1⟩ j' hj) (four (P := fun j => 0 ≤ m 3 j ∧ m 3 j ≤ 65535) ⟨o.1, o.2.1⟩ ⟨p.1, p.2.1⟩ ⟨q.1, q.2.1⟩ ⟨s.1, s.2.1⟩ j' hj) i' hi,
      four (P := fun i => m i i = 0) (a.2.2 rfl) (g.2.2 rfl) (l.2.2 rfl) (s.2.2 rfl)⟩
  · rintro ⟨r, d⟩
    have z (i j : Nat) (hi : i < 4) (hj : j < 4) (a b : Int) (hab : a = (i : Int)) (hb : b = (j : Int)) : cellOk a b (m i j) = true :=
      cellOk_iff.2 ⟨(r i j hi hj).1, (r i j hi hj).2, fun e => (show i = j by omega) ▸ d i hi⟩
    exact ⟨⟨z 0 0 (by decide) (by decide) _ _ rfl rfl, z 0 1 (by decide) (by decide) _ _ rfl rfl, z 0 2 (by decide) (by decide) _ _ rfl rfl, z 0 3 (by decide) (by decide) _ _ rfl rfl⟩,
      ⟨z 1 0 (by decide) (by decide) _ _ rfl rfl, z 1 1 (by decide) (by decide) _ _ rfl rfl, z 1 2 (by decide) (by decide) _ _ rfl rfl, z 1 3 (by decide) (by decide) _ _ rfl rfl⟩,
      ⟨z 2 0 (by decide) (by decide) _ _ rfl rfl, z 2 1 (by decide) (by decide) _ _ rfl rfl, z 2 2 (by decide) (by decide) _ _ rfl rfl, z 2 3 (by decide) (by decide) _ _ rfl rfl⟩,
      z 3 0 (by decide) (by decide) _ _ rfl rfl, z 3 1 (by decide) (by decide) _ _ rfl rfl, z 3 2 (by decide) (by decide) _ _ rfl rfl, z 3 3 (by decide) (by decide) _ _ rfl rfl⟩
/-- The only link, if it costs what none may, spoils all. -/
theorem May_bad (k : Nat) {r c : Nat} (hr : r < 4) (hc : c < 4) {v : Int} (hv : v < 0 ∨ 65535 < v) : okM (upd2 (fun _ _ => 0) r c v) = false := by
  rw [Bool.eq_false_iff]
  intro h
  have h1 := ((okM_iff _).1 h).range r c hr hc
  unfold upd2 at h1
  rw [if_pos ⟨rfl, rfl⟩] at h1
  omega
/-! #### the sums -/
abbrev R16 := Int × Int × Int × Int × Int × Int × Int × Int × Int × Int × Int × Int × Int × Int × Int × Int
def tup (m : Mat) : R16 := (m 0 0, m 0 1, m 0 2, m 0 3, m 1 0, m 1 1, m 1 2, m 1 3, m 2 0, m 2 1, m 2 2, m 2 3, m 3 0, m 3 1, m 3 2, m 3 3)
theorem tup_congr {m m' : Mat} (h : ∀ i j, i < 4 → j < 4 → m i j = m' i j) : tup m = tup m' := by
  unfold tup
  simp only [h 0 0 (by decide) (by decide), h 0 1 (by decide) (by decide), h 0 2 (by decide) (by decide), h 0 3 (by decide) (by decide),
    h 1 0 (by decide) (by decide), h 1 1 (by decide) (by decide), h 1 2 (by decide) (by decide), h 1 3 (by decide) (by decide),
    h 2 0 (by decide) (by decide), h 2 1 (by decide) (by decide), h 2 2 (by decide) (by decide), h 2 3 (by decide) (by decide),
    h 3 0 (by decide) (by decide), h 3 1 (by decide) (by decide), h 3 2 (by decide) (by decide), h 3 3 (by decide) (by decide)]
def L0 (k a : Nat) (m o : Mat) := paths_sums.l0 k (a : Int) (m 0 0) (m 0 1) (m 0 2) (m 0 3) (m 1 0) (m 1 1) (m 1 2) (m 1 3) (m 2 0) (m 2 1) (m 2 2) (m 2 3) (m 3 0) (m 3 1) (m 3 2) (m 3 3) (o 0 0) (o 0 1) (o 0 2) (o 0 3) (o 1 0) (o 1 1) (o 1 2) (o 1 3) (o 2 0) (o 2 1) (o 2 2) (o 2 3) (o 3 0) (o 3 1) (o 3 2) (o 3 3)
def L1 (k a b : Nat) (m o : Mat) := paths_sums.l1 k (a : Int) (a : Int) (b : Int) (m 0 0) (m 0 1) (m 0 2) (m 0 3) (m 1 0) (m 1 1) (m 1 2) (m 1 3) (m 2 0) (m 2 1) (m 2 2) (m 2 3) (m 3 0) (m 3 1) (m 3 2) (m 3 3) (o 0 0) (o 0 1) (o 0 2) (o 0 3) (o 1 0) (o 1 1) (o 1 2) (o 1 3) (o 2 0) (o 2 1) (o 2 2) (o 2 3) (o 3 0) (o 3 1) (o 3 2) (o 3 3)
def L2 (k v : Nat) (o : Mat) := paths_sums.l2 k (v : Int) (o 0 0) (o 0 1) (o 0 2) (o 0 3) (o 1 0) (o 1 1) (o 1 2) (o 1 3) (o 2 0) (o 2 1) (o 2 2) (o 2 3) (o 3 0) (o 3 1) (o 3 2) (o 3 3)
def L3 (k v a : Nat) (o : Mat) := paths_sums.l3 k (v : Int) (v : Int) (a : Int) (o 0 0) (o 0 1) (o 0 2) (o 0 3) (o 1 0) (o 1 1) (o 1 2) (o 1 3) (o 2 0) (o 2 1) (o 2 2) (o 2 3) (o 3 0) (o 3 1) (o 3 2) (o 3 3)
def L4 (k v a b : Nat) (o : Mat) := paths_sums.l4 k (v : Int) (a : Int) (v : Int) (a : Int) (b : Int) (o 0 0) (o 0 1) (o 0 2) (o 0 3) (o 1 0) (o 1 1) (o 1 2) (o 1 3) (o 2 0) (o 2 1) (o 2 2) (o 2 3) (o 3 0) (o 3 1) (o 3 2) (o 3 3)
theorem step_f (c : Int) : paths_step.f c = some (if c = 0 then 262144 else c) := by
  unfold paths_step.f; split <;> rfl
theorem L1_step (k : Nat) {a b : Nat} (ha : a < 4) (hb : b < 4) (m o : Mat) :
    L1 (k + 1) a b m o = L1 k a (b + 1) m (if a = b then o else upd2 o a b (if m a b = 0 then 262144 else m a b)) := by
  unfold L1
  simp only [paths_sums.l1]
  rw [if_pos (show ((b : Int) < 4) by omega), next4 hb]
  by_cases e : a = b
  · subst e
    rw [if_pos rfl, if_pos rfl]
  · rw [if_neg (show ¬ ((a : Int) = (b : Int)) by omega), if_neg e, if_pos (show 0 ≤ (a : Int) by omega), if_pos (show (a : Int) < 4 by omega), if_pos (show 0 ≤ (b : Int) by omega), sel_at m ha hb, step_f]
    simp only [Option.bind_some]
    obtain ⟨u1, u2, u3, u4, u5, u6, u7, u8, u9, u10, u11, u12, u13, u14, u15, u16⟩ := ups o a b (if m a b = 0 then 262144 else m a b)
    rw [u1, u2, u3, u4, u5, u6, u7, u8, u9, u10, u11, u12, u13, u14, u15, u16]
theorem L1_end (k a : Nat) (ha : a < 4) (m o : Mat) : L1 (k + 1) a 4 m o = L0 k (a + 1) m o := by
  unfold L1 L0
  simp only [paths_sums.l1]
  rw [if_neg (show ¬ (((4 : Nat) : Int) < 4) by decide), next4 ha]
theorem L0_step (k a : Nat) (ha : a < 4) (m o : Mat) : L0 (k + 1) a m o = L1 k a 0 m o := by
  unfold L1 L0
  simp only [paths_sums.l0]
  rw [if_pos (show ((a : Int) < 4) by omega)]
  rfl
theorem L0_end (k : Nat) (m o : Mat) : L0 (k + 1) 4 m o = L2 k 0 o := by
  unfold L2 L0
  simp only [paths_sums.l0]
  rw [if_neg (show ¬ (((4 : Nat) : Int) < 4) by decide)]
  rfl
/-- What the first rounds have filled: all rows below a, and of row a the places below b. -/
def Fill (c : Mat) (a b : Nat) (o : Mat) : Prop := ∀ i j, i < 4 → j < 4 → o i j = if i < a ∨ (i = a ∧ j < b) then eOf c i j else 0
theorem Fill.step {c : Mat} {a b : Nat} (hb : b < 4) {o : Mat} (F : Fill c a b o) : Fill c a (b + 1) (if a = b then o else upd2 o a b (if c a b = 0 then 262144 else c a b)) := by
  intro i j hi hj
  have hF := F i j hi hj
  by_cases e : a = b
  · rw [if_pos e, hF]
    by_cases h : i = a ∧ j = b
    · obtain ⟨rfl, rfl⟩ := h
      rw [if_neg (by omega), if_pos (by omega)]; unfold eOf; rw [if_pos e]
    · by_cases h1 : i < a ∨ (i = a ∧ j < b)
      · rw [if_pos h1, if_pos (by omega)]
      · rw [if_neg h1, if_neg (by omega)]
  · rw [if_neg e]
    unfold upd2
    by_cases h : i = a ∧ j = b
    · rw [if_pos h]
      obtain ⟨rfl, rfl⟩ := h
      rw [if_pos (show i < i ∨ i = i ∧ j < j + 1 from .inr ⟨rfl, by omega⟩)]; unfold eOf far; rw [if_neg e]
    · rw [if_neg h, hF]
      by_cases h1 : i < a ∨ (i = a ∧ j < b)
      · rw [if_pos h1, if_pos (by omega)]
      · rw [if_neg h1, if_neg (by omega)]
theorem fill_row (k : Nat) {a : Nat} (ha : a < 4) (m : Mat) : ∀ d b o, b + d = 4 → Fill m a b o → ∃ o', Fill m (a + 1) 0 o' ∧ L1 (k + 1 + d) a b m o = L0 k (a + 1) m o'
  | 0, b, o, h, F => ⟨o, fun i j hi hj => by
      rw [F i j hi hj]
      by_cases h1 : i < a ∨ (i = a ∧ j < b)
      · rw [if_pos h1, if_pos (by omega)]
      · rw [if_neg h1, if_neg (by omega)], by
      obtain rfl : b = 4 := by omega
      exact L1_end k a ha m o⟩
  | d + 1, b, o, h, F => by
    obtain ⟨o', F', e⟩ := fill_row k ha m d (b + 1) _ (by omega) (F.step (by omega))
    exact ⟨o', F', (L1_step (k + 1 + d) ha (by omega) m o).trans e⟩
theorem fill_all (k : Nat) (m : Mat) : ∀ d a o, a + d = 4 → Fill m a 0 o → ∃ o', (∀ i j, i < 4 → j < 4 → o' i j = eOf m i j) ∧ L0 (k + 1 + 6 * d) a m o = L2 k 0 o'
  | 0, a, o, h, F => ⟨o, fun i j hi hj => by rw [F i j hi hj, if_pos (by omega)], by
      obtain rfl : a = 4 := by omega
      exact L0_end k m o⟩
  | d + 1, a, o, h, F => by
    obtain ⟨o1, F1, e1⟩ := fill_row (k + 1 + 6 * d) (show a < 4 by omega) m 4 0 o rfl F
    obtain ⟨o', F', e⟩ := fill_all k m d (a + 1) o1 (by omega) F1
    refine ⟨o', F', ?_⟩
    rw [show k + 1 + 6 * (d + 1) = (k + 1 + 6 * d + 1 + 4) + 1 by omega, L0_step _ a (by omega), e1, e]
/-! the rounds over each router -/
theorem L4_step (k : Nat) {v a b : Nat} (hv : v < 4) (ha : a < 4) (hb : b < 4) (o : Mat) :
    L4 (k + 1) v a b o = L4 k v a (b + 1) (upd2 o a b (mn (o a b) (wrap64 (o a v + o v b)))) := by
  unfold L4
  simp only [paths_sums.l4]
  rw [if_pos (show ((b : Int) < 4) by omega), next4 hb, if_pos (show 0 ≤ (a : Int) by omega), if_pos (show (a : Int) < 4 by omega), if_pos (show 0 ≤ (b : Int) by omega), if_pos (show 0 ≤ (v : Int) by omega), if_pos (show (v : Int) < 4 by omega), sel_at o ha hb, sel_at o ha hv, sel_at o hv hb]
  obtain ⟨u1, u2, u3, u4, u5, u6, u7, u8, u9, u10, u11, u12, u13, u14, u15, u16⟩ := ups o a b (mn (o a b) (wrap64 (o a v + o v b)))
  rw [u1, u2, u3, u4, u5, u6, u7, u8, u9, u10, u11, u12, u13, u14, u15, u16]
theorem L4_end (k : Nat) {v a : Nat} (ha : a < 4) (o : Mat) : L4 (k + 1) v a 4 o = L3 k v (a + 1) o := by
  unfold L4 L3
  simp only [paths_sums.l4]
  rw [if_neg (show ¬ (((4 : Nat) : Int) < 4) by decide), next4 ha]
theorem L3_step (k : Nat) {v a : Nat} (ha : a < 4) (o : Mat) : L3 (k + 1) v a o = L4 k v a 0 o := by
  unfold L4 L3
  simp only [paths_sums.l3]
  rw [if_pos (show ((a : Int) < 4) by omega)]
  rfl
theorem L3_end (k : Nat) {v : Nat} (hv : v < 4) (o : Mat) : L3 (k + 1) v 4 o = L2 k (v + 1) o := by
  unfold L3 L2
  simp only [paths_sums.l3]
  rw [if_neg (show ¬ (((4 : Nat) : Int) < 4) by decide), next4 hv]
theorem L2_step (k : Nat) {v : Nat} (hv : v < 4) (o : Mat) : L2 (k + 1) v o = L3 k v 0 o := by
  unfold L3 L2
  simp only [paths_sums.l2]
  rw [if_pos (show ((v : Int) < 4) by omega)]
  rfl
theorem L2_end (k : Nat) (o : Mat) : L2 (k + 1) 4 o = some (tup o) := by
  unfold L2
  simp only [paths_sums.l2]
  rw [if_neg (show ¬ (((4 : Nat) : Int) < 4) by decide)]
  rfl
theorem mn_min (x y : Int) : mn x y = min x y := by unfold mn; split <;> omega
/-- One round, in the midst: what lies ahead of (a, b) has gone over v. -/
def Mid (v : Nat) (m : Mat) (a b : Nat) (o : Mat) : Prop := ∀ i j, i < 4 → j < 4 → o i j = if i < a ∨ (i = a ∧ j < b) then over v m i j else m i j
structure Bd (v : Nat) (m : Mat) : Prop where
  self : m v v = 0
  range : ∀ i j, i < 4 → j < 4 → 0 ≤ m i j ∧ m i j ≤ 262144
theorem Mid.step {v a b : Nat} (hv : v < 4) (ha : a < 4) (hb : b < 4) {m o : Mat} (B : Bd v m) (F : Mid v m a b o) : Mid v m a (b + 1) (upd2 o a b (mn (o a b) (wrap64 (o a v + o v b)))) := by
  intro i j hi hj
  have h1 : o a b = m a b := by rw [F a b ha hb, if_neg (by omega)]
  have r1 := B.range a v ha hv
  have r2 := B.range v b hv hb
  have r3 := B.range a b ha hb
  have hs := B.self
  have h2 : o a v = m a v := by
    rw [F a v ha hv]; split
    · unfold over; rw [hs]; omega
    · rfl
  have h3 : o v b = m v b := by
    rw [F v b hv hb]; split
    · unfold over; rw [hs]; omega
    · rfl
  rw [h1, h2, h3, mn_min, show wrap64 (m a v + m v b) = m a v + m v b by unfold wrap64; omega]
  unfold upd2
  by_cases h : i = a ∧ j = b
  · rw [if_pos h, if_pos (by omega)]
    obtain ⟨rfl, rfl⟩ := h
    rfl
  · rw [if_neg h, F i j hi hj]
    by_cases h1 : i < a ∨ (i = a ∧ j < b)
    · rw [if_pos h1, if_pos (by omega)]
    · rw [if_neg h1, if_neg (by omega)]
theorem mid_row (k : Nat) {v a : Nat} (hv : v < 4) (ha : a < 4) {m : Mat} (B : Bd v m) : ∀ d b o, b + d = 4 → Mid v m a b o → ∃ o', Mid v m (a + 1) 0 o' ∧ L4 (k + 1 + d) v a b o = L3 k v (a + 1) o'
  | 0, b, o, h, F => ⟨o, fun i j hi hj => by
      rw [F i j hi hj]
      by_cases h1 : i < a ∨ (i = a ∧ j < b)
      · rw [if_pos h1, if_pos (by omega)]
      · rw [if_neg h1, if_neg (by omega)], by
      obtain rfl : b = 4 := by omega
      exact L4_end k ha o⟩
  | d + 1, b, o, h, F => by
    obtain ⟨o', F', e⟩ := mid_row k hv ha B d (b + 1) _ (by omega) (F.step hv ha (by omega) B)
    exact ⟨o', F', (L4_step (k + 1 + d) hv ha (by omega) o).trans e⟩
theorem mid_all (k : Nat) {v : Nat} (hv : v < 4) {m : Mat} (B : Bd v m) : ∀ d a o, a + d = 4 → Mid v m a 0 o → ∃ o', (∀ i j, i < 4 → j < 4 → o' i j = over v m i j) ∧ L3 (k + 1 + 6 * d) v a o = L2 k (v + 1) o'
  | 0, a, o, h, F => ⟨o, fun i j hi hj => by rw [F i j hi hj, if_pos (by omega)], by
      obtain rfl : a = 4 := by omega
      exact L3_end k hv o⟩
  | d + 1, a, o, h, F => by
    obtain ⟨o1, F1, e1⟩ := mid_row (k + 1 + 6 * d) hv (show a < 4 by omega) B 4 0 o rfl F
    obtain ⟨o', F', e⟩ := mid_all k hv B d (a + 1) o1 (by omega) F1
    refine ⟨o', F', ?_⟩
    rw [show k + 1 + 6 * (d + 1) = (k + 1 + 6 * d + 1 + 4) + 1 by omega, L3_step _ (by omega), e1, e]
theorem Upto.ext {e m m' : Mat} {v : Nat} (hv : v ≤ 4) (U : Upto e v m) (h : ∀ i j, i < 4 → j < 4 → m' i j = m i j) : Upto e v m' :=
  ⟨fun i hi => by rw [h i i hi hi]; exact U.self i hi, fun i j hi hj => by rw [h i j hi hj]; exact U.ge i j hi hj, fun i j hi hj => by rw [h i j hi hj]; exact U.le i j hi hj,
   fun i q j hi hq hj => by rw [h i j hi hj, h i q hi (by omega), h q j (by omega) hj]; exact U.tri i q j hi hq hj⟩
theorem eOf_range {c : Mat} (C : CostOk c) {i j : Nat} (hi : i < 4) (hj : j < 4) : 0 ≤ eOf c i j ∧ eOf c i j ≤ 262144 := by
  have := C.range i j hi hj
  unfold eOf far
  split
  · omega
  · split <;> omega
theorem rounds (k : Nat) {c : Mat} (C : CostOk c) : ∀ d v o, v + d = 4 → Upto (eOf c) v o → ∃ o', Upto (eOf c) 4 o' ∧ L2 (k + 1 + 26 * d) v o = some (tup o')
  | 0, v, o, h, U => ⟨o, by obtain rfl : v = 4 := by omega
                            exact U, by
      obtain rfl : v = 4 := by omega
      exact L2_end k o⟩
  | d + 1, v, o, h, U => by
    have S := C.steps
    have hv : v < 4 := by omega
    have B : Bd v o := ⟨U.self v hv, fun i j hi hj => ⟨Int.le_trans (W_nonneg S hi hj) (U.ge i j hi hj), Int.le_trans (U.le i j hi hj) (eOf_range C hi hj).2⟩⟩
    obtain ⟨o1, h1, e1⟩ := mid_all (k + 1 + 26 * d) hv B 4 0 o rfl (fun i j hi hj => by rw [if_neg (by omega)])
    have U1 := Upto.ext (by omega) (U.step S hv) h1
    obtain ⟨o', U', e'⟩ := rounds k C d (v + 1) o1 (by omega) U1
    refine ⟨o', U', ?_⟩
    rw [show k + 1 + 26 * (d + 1) = (k + 1 + 26 * d + 1 + 6 * 4) + 1 by omega, L2_step _ hv, e1, e']
/-- The least sums. -/
theorem sums_f (k : Nat) {c : Mat} (C : CostOk c) : paths_sums.f (k + 130) (c 0 0) (c 0 1) (c 0 2) (c 0 3) (c 1 0) (c 1 1) (c 1 2) (c 1 3) (c 2 0) (c 2 1) (c 2 2) (c 2 3) (c 3 0) (c 3 1) (c 3 2) (c 3 3) = some (tup (W (eOf c))) := by
  have S := C.steps
  obtain ⟨o, ho, e⟩ := fill_all (k + 105) c 4 0 (fun _ _ => 0) rfl (fun i j hi hj => by rw [if_neg (by omega)])
  have U0 := Upto.ext (by decide) (Upto.start S) ho
  obtain ⟨o', U', e'⟩ := rounds k C 4 0 o rfl U0
  unfold paths_sums.f
  show L0 (k + 105 + 1 + 6 * 4) 0 c (fun _ _ => 0) = _
  rw [e, e', tup_congr (fun i j hi hj => U'.done hi hj)]
end Go.Proofs.Ytjbejbehbjhecaa.L21
namespace Go.Proofs.Ytjbejbehbjhecaa.L21
open Go.RowKit Go.Proofs.YtjbejbehbjhecaaW.PrintWords Go.Proofs.YtjbejbehbjhecaaW.PrintMore Go.Proofs.Ytjbejbehbjhecaa.Base Go.Proofs.Ytjbejbehbjhecaa.Q21n
set_option linter.unusedVariables false
set_option linter.unusedSimpArgs false
set_option maxRecDepth 100000
abbrev ws (c : Mat) : Mat := fun i j => W (eOf c) i j
/-- Is a the first router of a least way from f to t? -/
def near (c : Mat) (f t a : Nat) : Bool := decide (0 < c f a ∧ c f a + ws c a t = ws c f t)
def sfx : Nat → List Nat
  | 0 => []
  | d + 1 => (3 - d) :: sfx d
def firsts (c : Mat) (f t d : Nat) : List Int := ((sfx d).filter (near c f t)).map (fun (a : Nat) => (a : Int) + 1)
def route (c : Mat) (f t : Nat) : Option S41 := if t = f ∨ 262144 ≤ ws c f t then none else some ⟨(t : Int) + 1, ws c f t, firsts c f t 4⟩
def routes (c : Mat) (f d : Nat) : List S41 := (sfx d).filterMap (route c f)
def R1 (k f t a : Nat) (out : List S41) (sum tt cost : Int) (fs : List Int) (c s : Mat) := paths_Routes.l1 k (f : Int) out (t : Int) sum (t : Int) (a : Int) (c 0 0) (c 0 1) (c 0 2) (c 0 3) (c 1 0) (c 1 1) (c 1 2) (c 1 3) (c 2 0) (c 2 1) (c 2 2) (c 2 3) (c 3 0) (c 3 1) (c 3 2) (c 3 3) (s 0 0) (s 0 1) (s 0 2) (s 0 3) (s 1 0) (s 1 1) (s 1 2) (s 1 3) (s 2 0) (s 2 1) (s 2 2) (s 2 3) (s 3 0) (s 3 1) (s 3 2) (s 3 3) tt cost fs (s f 0) (s f 1) (s f 2) (s f 3) (c f 0) (c f 1) (c f 2) (c f 3)
def R0 (k f t : Nat) (out : List S41) (c s : Mat) := paths_Routes.l0 k (f : Int) out (t : Int) (c 0 0) (c 0 1) (c 0 2) (c 0 3) (c 1 0) (c 1 1) (c 1 2) (c 1 3) (c 2 0) (c 2 1) (c 2 2) (c 2 3) (c 3 0) (c 3 1) (c 3 2) (c 3 3) (s 0 0) (s 0 1) (s 0 2) (s 0 3) (s 1 0) (s 1 1) (s 1 2) (s 1 3) (s 2 0) (s 2 1) (s 2 2) (s 2 3) (s 3 0) (s 3 1) (s 3 2) (s 3 3) (s f 0) (s f 1) (s f 2) (s f 3)
theorem R1_step (k : Nat) {f t a : Nat} (hf : f < 4) (ht : t < 4) (ha : a < 4) (out : List S41) (sum tt cost : Int) (fs : List Int) (hl : fs.length ≤ 4) {c s : Mat} (C : CostOk c) (hs : ∀ i j, i < 4 → j < 4 → 0 ≤ s i j ∧ s i j ≤ 262144) :
    R1 (k + 1) f t a out sum tt cost fs c s = R1 k f t (a + 1) out sum tt cost (if 0 < c f a ∧ c f a + s a t = sum then fs ++ [(a : Int) + 1] else fs) c s := by
  have r := C.range f a hf ha
  have q := hs a t ha ht
  unfold R1
  simp only [paths_Routes.l1]
  rw [if_pos (show ((a : Int) < 4) by omega), if_pos (show 0 ≤ (a : Int) by omega), next4 ha, row_at (fun j => c f j) ha]
  by_cases h : 0 < c f a
  · rw [if_pos (show c f a > 0 from h), if_pos (show 0 ≤ (t : Int) by omega), if_pos (show (t : Int) < 4 by omega), sel_at s ha ht, show wrap64 (c f a + s a t) = c f a + s a t by unfold wrap64; omega]
    by_cases h2 : c f a + s a t = sum
    · rw [if_pos h2, if_pos (show fs.length < 17592186044416 by omega), if_pos ⟨h, h2⟩]
      rfl
    · rw [if_neg h2, if_neg (fun z => h2 z.2)]
  · rw [if_neg (show ¬ c f a > 0 from h), if_neg (fun z => h z.1)]
theorem R1_end (k : Nat) {f t : Nat} (ht : t < 4) (out : List S41) (ho : out.length ≤ 4) (sum tt cost : Int) (fs : List Int) (c s : Mat) :
    R1 (k + 1) f t 4 out sum tt cost fs c s = R0 k f (t + 1) (out ++ [⟨tt, cost, fs⟩]) c s := by
  unfold R1 R0
  simp only [paths_Routes.l1]
  rw [if_neg (show ¬ (((4 : Nat) : Int) < 4) by decide), if_pos (show out.length < 3518437208883 by omega), next4 ht]
theorem R0_step (k : Nat) {f t : Nat} (hf : f < 4) (ht : t < 4) (out : List S41) (c s : Mat) :
    R0 (k + 2) f t out c s = if t = f ∨ 262144 ≤ s f t then R0 k f (t + 1) out c s else R1 k f t 0 out (s f t) ((t : Int) + 1) (s f t) [] c s := by
  have hj (b : Bool) : paths_Routes.j2 (k + 1) (f : Int) out (t : Int) (s f t) (t : Int) b (c 0 0) (c 0 1) (c 0 2) (c 0 3) (c 1 0) (c 1 1) (c 1 2) (c 1 3) (c 2 0) (c 2 1) (c 2 2) (c 2 3) (c 3 0) (c 3 1) (c 3 2) (c 3 3) (s 0 0) (s 0 1) (s 0 2) (s 0 3) (s 1 0) (s 1 1) (s 1 2) (s 1 3) (s 2 0) (s 2 1) (s 2 2) (s 2 3) (s 3 0) (s 3 1) (s 3 2) (s 3 3) (s f 0) (s f 1) (s f 2) (s f 3) = if b = true then R0 k f (t + 1) out c s else R1 k f t 0 out (s f t) ((t : Int) + 1) (s f t) [] c s := by
    simp only [paths_Routes.j2]
    rw [if_pos (show 0 ≤ (f : Int) by omega), if_pos (show (f : Int) < 4 by omega), next4 ht, row_at (fun i => c i 0) hf, row_at (fun i => c i 1) hf, row_at (fun i => c i 2) hf, row_at (fun i => c i 3) hf]
    rfl
  unfold R0
  simp only [paths_Routes.l0]
  rw [if_pos (show ((t : Int) < 4) by omega), if_pos (show 0 ≤ (t : Int) by omega), row_at (fun j => s f j) ht, hj, hj]
  by_cases h : t = f
  · rw [if_pos (show (t : Int) = (f : Int) by omega), if_pos rfl, if_pos (.inl h)]
    rfl
  · rw [if_neg (show ¬ (t : Int) = (f : Int) by omega)]
    by_cases h2 : 262144 ≤ s f t
    · rw [if_pos (by simpa using h2), if_pos (.inr h2)]
      rfl
    · rw [if_neg (by simpa using h2), if_neg (by omega)]
theorem R0_end (k f : Nat) (out : List S41) (c s : Mat) : R0 (k + 1) f 4 out c s = some (out, 0) := by
  unfold R0
  simp only [paths_Routes.l0]
  rw [if_neg (show ¬ (((4 : Nat) : Int) < 4) by decide)]
theorem ws_range {c : Mat} (C : CostOk c) {i j : Nat} (hi : i < 4) (hj : j < 4) : 0 ≤ ws c i j ∧ ws c i j ≤ 262144 :=
  ⟨W_nonneg C.steps hi hj, Int.le_trans (W_e C.steps hi hj) (eOf_range C hi hj).2⟩
theorem R1_all (k : Nat) {f t : Nat} (hf : f < 4) (ht : t < 4) (out : List S41) (ho : out.length ≤ 4) (tt cost : Int) {c : Mat} (C : CostOk c) :
    ∀ d a fs, a + d = 4 → fs.length ≤ a → R1 (k + 1 + d) f t a out (ws c f t) tt cost fs c (ws c) = R0 k f (t + 1) (out ++ [⟨tt, cost, fs ++ firsts c f t d⟩]) c (ws c)
  | 0, a, fs, h, hl => by
    obtain rfl : a = 4 := by omega
    rw [show firsts c f t 0 = [] from rfl, List.append_nil]
    exact R1_end k ht out ho _ _ _ _ _ _
  | d + 1, a, fs, h, hl => by
    have h1 := R1_step (k + 1 + d) hf ht (show a < 4 by omega) out (ws c f t) tt cost fs (by omega) C (fun i j hi hj => ws_range C hi hj)
    have hn : (if 0 < c f a ∧ c f a + ws c a t = ws c f t then fs ++ [(a : Int) + 1] else fs).length ≤ a + 1 := by
      split
      · rw [List.length_append]; show fs.length + 1 ≤ a + 1; omega
      · omega
    have h2 := R1_all k hf ht out ho tt cost C d (a + 1) (if 0 < c f a ∧ c f a + ws c a t = ws c f t then fs ++ [(a : Int) + 1] else fs) (by omega) hn
    refine (h1.trans h2).trans ?_
    congr 4
    obtain rfl : a = 3 - d := by omega
    unfold firsts
    rw [show sfx (d + 1) = (3 - d) :: sfx d from rfl, List.filter_cons]
    by_cases hn : near c f t (3 - d) = true
    · rw [if_pos hn, if_pos (of_decide_eq_true hn)]
      simp
    · rw [if_neg hn, if_neg (fun z => hn (decide_eq_true z))]
theorem routes_len (c : Mat) (f d : Nat) : (routes c f d).length ≤ d := by
  unfold routes
  refine Nat.le_trans (List.length_filterMap_le _ _) ?_
  induction d with
  | zero => exact Nat.le_refl _
  | succ d ih => show (sfx d).length + 1 ≤ d + 1; omega
theorem R0_all {f : Nat} (hf : f < 4) {c : Mat} (C : CostOk c) : ∀ d t out k, t + d = 4 → out.length ≤ t → 1 + 7 * d ≤ k → R0 k f t out c (ws c) = some (out ++ routes c f d, 0)
  | 0, t, out, k, h, ho, hk => by
    obtain rfl : t = 4 := by omega
    obtain ⟨k, rfl⟩ : ∃ q, k = q + 1 := ⟨k - 1, by omega⟩
    rw [show routes c f 0 = [] from rfl, List.append_nil]
    exact R0_end k f out c _
  | d + 1, t, out, k, h, ho, hk => by
    obtain ⟨k, rfl⟩ : ∃ q, k = q + 7 := ⟨k - 7, by omega⟩
    have ht : t < 4 := by omega
    have h1 := R0_step (k + 5) hf ht out c (ws c)
    have hr : routes c f (d + 1) = match route c f t with | none => routes c f d | some x => x :: routes c f d := by
      obtain rfl : t = 3 - d := by omega
      unfold routes
      rw [show sfx (d + 1) = (3 - d) :: sfx d from rfl, List.filterMap_cons]
      cases route c f (3 - d) <;> rfl
    rw [show k + 7 = k + 5 + 2 from rfl, h1, hr]
    unfold route
    by_cases hb : t = f ∨ 262144 ≤ ws c f t
    · rw [if_pos hb, if_pos hb]
      exact R0_all hf C d (t + 1) out (k + 5) (by omega) (by omega) (by omega)
    · rw [if_neg hb, if_neg hb]
      have h2 := R1_all k hf ht out (by omega) ((t : Int) + 1) (ws c f t) C 4 0 [] rfl (by simp)
      rw [show k + 5 = k + 1 + 4 from rfl, h2, List.nil_append, R0_all hf C d (t + 1) _ k (by omega) (by simp; omega) (by omega), List.append_assoc]
      rfl
/-- What Routes answers. -/
def ans (c : Mat) (a : Int) : List S41 × Int := if okM c = true ∧ 1 ≤ a ∧ a ≤ 4 then (routes c (a - 1).toNat 4, 0) else ([], 2100)
theorem Router_f (a : Int) : lsa_Router.f a = some (decide (1 ≤ a ∧ a ≤ 4)) := by
  unfold lsa_Router.f
  by_cases h : a ≥ 1
  · rw [if_pos h]; congr 1; simp; intro _; omega
  · rw [if_neg h]; congr 1; simp; omega
theorem Routes_f (k : Nat) (c : Mat) (a : Int) : paths_Routes.f (k + 200) (c 0 0) (c 0 1) (c 0 2) (c 0 3) (c 1 0) (c 1 1) (c 1 2) (c 1 3) (c 2 0) (c 2 1) (c 2 2) (c 2 3) (c 3 0) (c 3 1) (c 3 2) (c 3 3) a = some (ans c a) := by
  unfold paths_Routes.f ans
  rw [show k + 200 = (k + 175) + 25 from rfl, May_f (k + 175), Router_f]
  have bad : paths_Routes.j0 (k + 175 + 25) a true (c 0 0) (c 0 1) (c 0 2) (c 0 3) (c 1 0) (c 1 1) (c 1 2) (c 1 3) (c 2 0) (c 2 1) (c 2 2) (c 2 3) (c 3 0) (c 3 1) (c 3 2) (c 3 3) = some ([], 2100) := by
    rw [show k + 175 + 25 = (k + 199) + 1 from rfl]; simp only [paths_Routes.j0]; rw [if_pos trivial]
  show (if okM c = true then (paths_Routes.j0 (k + 175 + 25) a (!decide (1 ≤ a ∧ a ≤ 4)) (c 0 0) (c 0 1) (c 0 2) (c 0 3) (c 1 0) (c 1 1) (c 1 2) (c 1 3) (c 2 0) (c 2 1) (c 2 2) (c 2 3) (c 3 0) (c 3 1) (c 3 2) (c 3 3)) else paths_Routes.j0 (k + 175 + 25) a true (c 0 0) (c 0 1) (c 0 2) (c 0 3) (c 1 0) (c 1 1) (c 1 2) (c 1 3) (c 2 0) (c 2 1) (c 2 2) (c 2 3) (c 3 0) (c 3 1) (c 3 2) (c 3 3)) = _
  by_cases ho : okM c = true
  · rw [if_pos ho]
    by_cases hr : 1 ≤ a ∧ a ≤ 4
    · rw [if_pos ⟨ho, hr⟩, show (!decide (1 ≤ a ∧ a ≤ 4)) = false by simp [hr]]
      have C := (okM_iff c).1 ho
      rw [show k + 175 + 25 = (k + 199) + 1 from rfl]
      simp only [paths_Routes.j0]
      rw [if_neg (by decide), show k + 199 = (k + 69) + 130 from rfl, sums_f (k + 69) C]
      obtain ⟨f, hf, rfl⟩ : ∃ f : Nat, f < 4 ∧ a = (f : Int) + 1 := ⟨(a - 1).toNat, by omega, by omega⟩
      rw [show wrap64 ((f : Int) + 1 - 1) = (f : Int) by unfold wrap64; omega, show ((f : Int) + 1 - 1).toNat = f by omega]
      simp only [Option.bind_some, tup]
      rw [if_pos (show 0 ≤ (f : Int) by omega), if_pos (show (f : Int) < 4 by omega), row_at (fun i => W (eOf c) i 0) hf, row_at (fun i => W (eOf c) i 1) hf, row_at (fun i => W (eOf c) i 2) hf, row_at (fun i => W (eOf c) i 3) hf]
      exact R0_all hf C 4 0 [] _ rfl (by simp) (by omega)
    · rw [if_neg (fun z => hr z.2), show (!decide (1 ≤ a ∧ a ≤ 4)) = true by simp only [Bool.not_eq_true', decide_eq_false_iff_not]; exact hr]
      exact bad
  · rw [if_neg ho, if_neg (fun z => ho z.1)]
    exact bad
end Go.Proofs.Ytjbejbehbjhecaa.L21
namespace Go.Proofs.Ytjbejbehbjhecaa.L21
open Go.RowKit Go.Proofs.YtjbejbehbjhecaaW.PrintWords Go.Proofs.YtjbejbehbjhecaaW.PrintMore Go.Proofs.Ytjbejbehbjhecaa.Base Go.Proofs.Ytjbejbehbjhecaa.Q21n
set_option linter.unusedVariables false
set_option maxRecDepth 100000
theorem Routes_c (k : Nat) (c0 c1 c2 c3 c4 c5 c6 c7 c8 c9 c10 c11 c12 c13 c14 c15 a : Int) : paths_Routes.f (k + 200) c0 c1 c2 c3 c4 c5 c6 c7 c8 c9 c10 c11 c12 c13 c14 c15 a = some (ans (mk c0 c1 c2 c3 c4 c5 c6 c7 c8 c9 c10 c11 c12 c13 c14 c15) a) := Routes_f k (mk c0 c1 c2 c3 c4 c5 c6 c7 c8 c9 c10 c11 c12 c13 c14 c15) a
theorem awake_f : watchwordlaw21_awake.f 200 = some true := by
  unfold watchwordlaw21_awake.f
  rw [Routes_c 0, Routes_c 0]
  have e1 : ans (mk 0 5 2 0 5 0 3 0 2 3 0 0 0 0 0 0) 1 = ([⟨2, 5, [2, 3]⟩, ⟨3, 2, [3]⟩], 0) := by kernel_rfl
  have e2 : ans (mk 0 5 2 0 5 0 3 0 2 3 0 0 0 0 0 0) 5 = ([], 2100) := by kernel_rfl
  rw [e1, e2]
  decide +kernel
theorem awake_ok {k : Nat} (hk : 200 ≤ k) : watchwordlaw21_awake.f k = some true := at_rounds (g := fun k => watchwordlaw21_awake.f k) watchwordlaw21_awake.mono hk awake_f
theorem num_ok : watchwordlaw0_Num.f 0 = some 0 := by decide +kernel
theorem num_bad : watchwordlaw0_Num.f 2100 = some 2100 := by decide +kernel
theorem ans_bad {c : Mat} {a : Int} (h : ¬ (okM c = true ∧ 1 ≤ a ∧ a ≤ 4)) : ans c a = ([], 2100) := by unfold ans; rw [if_neg h]
end Go.Proofs.Ytjbejbehbjhecaa.L21
namespace Go.Proofs.Ytjbejbehbjhecaa.L21
open Go.RowKit Go.Proofs.YtjbejbehbjhecaaW.PrintWords Go.Proofs.YtjbejbehbjhecaaW.PrintMore Go.Proofs.Ytjbejbehbjhecaa.Base Go.Proofs.Ytjbejbehbjhecaa.Q21n
set_option linter.unusedVariables false
set_option linter.unusedSimpArgs false
/-- A way of three steps, the first of them a true one. -/
def Val (c : Mat) (f a b d : Nat) : Prop := a ≠ f ∧ 0 < c f a ∧ (b = a ∨ 0 < c a b) ∧ (d = b ∨ 0 < c b d)
def sm (c : Mat) (f a b d : Nat) : Int := eOf c f a + eOf c a b + eOf c b d
def at3 (a b d : Nat) : Nat := a + 4 * b + 16 * d
structure WI (c : Mat) (f n : Nat) (B : Nat → Int) (F : Nat → Nat → Bool) : Prop where
  none : ∀ d, d < 4 → B d < 0 → ∀ a b, a < 4 → b < 4 → at3 a b d < n → ¬ Val c f a b d
  ex : ∀ d, d < 4 → 0 ≤ B d → ∃ a b, a < 4 ∧ b < 4 ∧ at3 a b d < n ∧ Val c f a b d ∧ sm c f a b d = B d
  le : ∀ d, d < 4 → 0 ≤ B d → ∀ a b, a < 4 → b < 4 → at3 a b d < n → Val c f a b d → B d ≤ sm c f a b d
  mark : ∀ d, d < 4 → 0 ≤ B d → ∀ a, a < 4 → (F d a = true ↔ ∃ b, b < 4 ∧ at3 a b d < n ∧ Val c f a b d ∧ sm c f a b d = B d)
def updB (F : Nat → Nat → Bool) (d : Nat) (r : Nat → Bool) : Nat → Nat → Bool := fun i j => if i = d then r j else F i j
theorem at3_inj {a b d a' b' d' : Nat} (ha : a < 4) (hb : b < 4) (ha' : a' < 4) (hb' : b' < 4) (h : at3 a b d = at3 a' b' d') : a = a' ∧ b = b' ∧ d = d' := by
  unfold at3 at h; omega
theorem WI.skip {c : Mat} {f a b d : Nat} {B : Nat → Int} {F : Nat → Nat → Bool} (ha : a < 4) (hb : b < 4) (W : WI c f (at3 a b d) B F) (h : ¬ Val c f a b d) : WI c f (at3 a b d + 1) B F := by
  have key : ∀ a' b' d', a' < 4 → b' < 4 → Val c f a' b' d' → at3 a' b' d' < at3 a b d + 1 → at3 a' b' d' < at3 a b d := by
    intro a' b' d' ha' hb' hv hl
    by_cases e : at3 a' b' d' = at3 a b d
    · obtain ⟨rfl, rfl, rfl⟩ := at3_inj ha' hb' ha hb e; exact absurd hv h
    · omega
  refine ⟨fun q hq h0 x y hx hy hl hv => W.none q hq h0 x y hx hy (key _ _ _ hx hy hv hl) hv, fun q hq h0 => ?_, fun q hq h0 x y hx hy hl hv => W.le q hq h0 x y hx hy (key _ _ _ hx hy hv hl) hv, fun q hq h0 x hx => ?_⟩
  · obtain ⟨x, y, hx, hy, hl, hv, e⟩ := W.ex q hq h0
    exact ⟨x, y, hx, hy, by omega, hv, e⟩
  · rw [W.mark q hq h0 x hx]
    constructor
    · rintro ⟨y, hy, hl, hv, e⟩; exact ⟨y, hy, by omega, hv, e⟩
    · rintro ⟨y, hy, hl, hv, e⟩; exact ⟨y, hy, key _ _ _ hx hy hv hl, hv, e⟩
/-- What a way does to the best sum and its first routers. -/
def B1 (B : Nat → Int) (d : Nat) (s : Int) : Nat → Int := if B d < 0 ∨ s < B d then upd B d s else B
def F1 (B : Nat → Int) (F : Nat → Nat → Bool) (a d : Nat) (s : Int) : Nat → Nat → Bool :=
  if B d < 0 ∨ s < B d then updB F d (fun j => decide (j = a)) else if s = B d then updB F d (fun j => F d j || decide (j = a)) else F
theorem WI.take {c : Mat} {f a b d : Nat} {B : Nat → Int} {F : Nat → Nat → Bool} (ha : a < 4) (hb : b < 4) (hd : d < 4) (W : WI c f (at3 a b d) B F) (h : Val c f a b d) (h0 : 0 ≤ sm c f a b d) :
    WI c f (at3 a b d + 1) (B1 B d (sm c f a b d)) (F1 B F a d (sm c f a b d)) := by
  have key : ∀ a' b' d', a' < 4 → b' < 4 → at3 a' b' d' < at3 a b d + 1 → at3 a' b' d' < at3 a b d ∨ (a' = a ∧ b' = b ∧ d' = d) := by
    intro a' b' d' ha' hb' hl
    by_cases e : at3 a' b' d' = at3 a b d
    · exact .inr (at3_inj ha' hb' ha hb e)
    · exact .inl (by omega)
  have other : ∀ q, q ≠ d → B1 B d (sm c f a b d) q = B q ∧ ∀ j, F1 B F a d (sm c f a b d) q j = F q j := by
    intro q hq
    unfold B1 F1
    constructor
    · split
      · unfold upd; rw [if_neg hq]
      · rfl
    · intro j
      split
      · unfold updB; rw [if_neg hq]
      · split
        · unfold updB; rw [if_neg hq]
        · rfl
  by_cases hc : B d < 0 ∨ sm c f a b d < B d
  · -- a new least sum
    have hB : B1 B d (sm c f a b d) d = sm c f a b d := by unfold B1; rw [if_pos hc]; unfold upd; rw [if_pos rfl]
    have hF : ∀ j, F1 B F a d (sm c f a b d) d j = decide (j = a) := by intro j; unfold F1; rw [if_pos hc]; unfold updB; rw [if_pos rfl]
    have low : ∀ x y, x < 4 → y < 4 → at3 x y d < at3 a b d → Val c f x y d → sm c f a b d < sm c f x y d := by
      intro x y hx hy hl hv
      by_cases hn : B d < 0
      · exact absurd hv (W.none d hd hn x y hx hy hl)
      · have := W.le d hd (by omega) x y hx hy hl hv; omega
    refine ⟨fun q hq hn x y hx hy hl hv => ?_, fun q hq hn => ?_, fun q hq hn x y hx hy hl hv => ?_, fun q hq hn x hx => ?_⟩
    · by_cases e : q = d
      · subst e; rw [hB] at hn; omega
      · rw [(other q e).1] at hn
        rcases key x y q hx hy hl with h1 | h1
        · exact W.none q hq hn x y hx hy h1 hv
        · exact e h1.2.2
    · by_cases e : q = d
      · subst e; exact ⟨a, b, ha, hb, by omega, h, hB.symm⟩
      · rw [(other q e).1] at hn ⊢
        obtain ⟨x, y, hx, hy, hl, hv, e2⟩ := W.ex q hq hn
        exact ⟨x, y, hx, hy, by omega, hv, e2⟩
    · by_cases e : q = d
      · subst e
        rw [hB]
        rcases key x y q hx hy hl with h1 | ⟨rfl, rfl, _⟩
        · have := low x y hx hy h1 hv; omega
        · exact Int.le_refl _
      · rw [(other q e).1] at hn ⊢
        rcases key x y q hx hy hl with h1 | h1
        · exact W.le q hq hn x y hx hy h1 hv
        · exact absurd h1.2.2 e
    · by_cases e : q = d
      · subst e
        rw [hF, hB, decide_eq_true_eq]
        constructor
        · rintro rfl; exact ⟨b, hb, by omega, h, rfl⟩
        · rintro ⟨y, hy, hl, hv, e2⟩
          rcases key x y q hx hy hl with h1 | h1
          · have := low x y hx hy h1 hv; omega
          · exact h1.1
      · rw [(other q e).2, (other q e).1]
        rw [(other q e).1] at hn
        rw [W.mark q hq hn x hx]
        constructor
        · rintro ⟨y, hy, hl, hv, e2⟩; exact ⟨y, hy, by omega, hv, e2⟩
        · rintro ⟨y, hy, hl, hv, e2⟩
          rcases key x y q hx hy hl with h1 | h1
          · exact ⟨y, hy, h1, hv, e2⟩
          · exact absurd h1.2.2 e
  · have hB : ∀ q, B1 B d (sm c f a b d) q = B q := by intro q; unfold B1; rw [if_neg hc]
    have hF : ∀ j, F1 B F a d (sm c f a b d) d j = if sm c f a b d = B d then (F d j || decide (j = a)) else F d j := by
      intro j; unfold F1; rw [if_neg hc]
      by_cases e : sm c f a b d = B d
      · rw [if_pos e, if_pos e]; unfold updB; rw [if_pos rfl]
      · rw [if_neg e, if_neg e]
    refine ⟨fun q hq hn x y hx hy hl hv => ?_, fun q hq hn => ?_, fun q hq hn x y hx hy hl hv => ?_, fun q hq hn x hx => ?_⟩
    · rw [hB] at hn
      rcases key x y q hx hy hl with h1 | ⟨rfl, rfl, rfl⟩
      · exact W.none q hq hn x y hx hy h1 hv
      · exact hc (.inl hn)
    · rw [hB] at hn ⊢
      obtain ⟨x, y, hx, hy, hl, hv, e2⟩ := W.ex q hq hn
      exact ⟨x, y, hx, hy, by omega, hv, e2⟩
    · rw [hB] at hn ⊢
      rcases key x y q hx hy hl with h1 | ⟨rfl, rfl, rfl⟩
      · exact W.le q hq hn x y hx hy h1 hv
      · omega
    · rw [hB] at hn ⊢
      by_cases e : q = d
      · subst e
        rw [hF]
        by_cases es : sm c f a b q = B q
        · rw [if_pos es, Bool.or_eq_true, decide_eq_true_eq, W.mark q hq hn x hx]
          constructor
          · rintro (⟨y, hy, hl, hv, e2⟩ | rfl)
            · exact ⟨y, hy, by omega, hv, e2⟩
            · exact ⟨b, hb, by omega, h, es⟩
          · rintro ⟨y, hy, hl, hv, e2⟩
            rcases key x y q hx hy hl with h1 | h1
            · exact .inl ⟨y, hy, h1, hv, e2⟩
            · exact .inr h1.1
        · rw [if_neg es, W.mark q hq hn x hx]
          constructor
          · rintro ⟨y, hy, hl, hv, e2⟩; exact ⟨y, hy, by omega, hv, e2⟩
          · rintro ⟨y, hy, hl, hv, e2⟩
            rcases key x y q hx hy hl with h1 | ⟨rfl, rfl, _⟩
            · exact ⟨y, hy, h1, hv, e2⟩
            · exact absurd e2 es
      · rw [(other q e).2, W.mark q hq hn x hx]
        constructor
        · rintro ⟨y, hy, hl, hv, e2⟩; exact ⟨y, hy, by omega, hv, e2⟩
        · rintro ⟨y, hy, hl, hv, e2⟩
          rcases key x y q hx hy hl with h1 | h1
          · exact ⟨y, hy, h1, hv, e2⟩
          · exact absurd h1.2.2 e
theorem WI.start (c : Mat) (f : Nat) (F : Nat → Nat → Bool) : WI c f 0 (fun _ => -1) F :=
  ⟨fun _ _ _ _ _ _ _ h => by omega, fun _ _ h => by omega, fun _ _ h => by omega, fun _ _ h => by omega⟩
theorem Val.fin {c : Mat} (C : CostOk c) {f a b d : Nat} (hf : f < 4) (ha : a < 4) (hb : b < 4) (hd : d < 4) (h : Val c f a b d) : eOf c f a = c f a ∧ eOf c f a ≤ 65535 ∧ eOf c a b ≤ 65535 ∧ eOf c b d ≤ 65535 := by
  obtain ⟨h1, h2, h3, h4⟩ := h
  have S := C.steps
  have e1 := (eOf_c C hf h2).1
  have r1 := (C.range f a hf ha).2
  refine ⟨e1, by omega, ?_, ?_⟩
  · rcases h3 with rfl | h3
    · have := S.self b hb; omega
    · have := (eOf_c C ha h3).1; have := (C.range a b ha hb).2; omega
  · rcases h4 with rfl | h4
    · have := S.self d hd; omega
    · have := (eOf_c C hb h4).1; have := (C.range b d hb hd).2; omega
theorem val_of {c : Mat} (C : CostOk c) {f a b d : Nat} (hf : f < 4) (ha : a < 4) (hb : b < 4) (hd : d < 4) (hne : a ≠ f) (h1 : eOf c f a < far) (h2 : eOf c a b < far) (h3 : eOf c b d < far) : Val c f a b d := by
  have p (i j : Nat) (hi : i < 4) (hj : j < 4) (h : eOf c i j < far) : j = i ∨ 0 < c i j := by
    by_cases e : j = i
    · exact .inl e
    · have := (eOf_pos h (fun z => e z.symm)).1; have := (C.range i j hi hj).1; exact .inr (by omega)
  exact ⟨hne, (p f a hf ha h1).resolve_left hne, p a b ha hb h2, p b d hb hd h3⟩
theorem pig {f a x y d : Nat} (hf : f < 4) (ha : a < 4) (hx : x < 4) (hy : y < 4) (hd : d < 4) (h1 : a ≠ f) (h2 : x ≠ f) (h3 : y ≠ f) (h4 : d ≠ f) : a = x ∨ x = y ∨ y = d ∨ a = y ∨ x = d ∨ a = d := by omega
/-- What all ways come to, for a router that isn't the first. -/
theorem ways_done {c : Mat} (C : CostOk c) {f : Nat} (hf : f < 4) {B : Nat → Int} {F : Nat → Nat → Bool} (Wn : WI c f 64 B F) {d : Nat} (hd : d < 4) (hdf : d ≠ f) :
    (0 ≤ B d ↔ ws c f d < 262144) ∧ (0 ≤ B d → B d = ws c f d) ∧ (0 ≤ B d → ∀ a, a < 4 → (F d a = near c f d a)) := by
  have S := C.steps
  have ge : ∀ a b, a < 4 → b < 4 → ws c f d ≤ sm c f a b d := fun a b ha hb => W_le (eOf c) f d ha hb
  have lt : ∀ a b, a < 4 → b < 4 → at3 a b d < 64 := fun a b ha hb => by unfold at3; omega
  -- a least way has a true first step
  have least : ws c f d < 262144 → ∃ a b, a < 4 ∧ b < 4 ∧ Val c f a b d ∧ sm c f a b d = ws c f d := by
    intro hw
    obtain ⟨x, y, hx, hy, e⟩ := W_at (eOf c) f d
    have e' : ws c f d = eOf c f x + eOf c x y + eOf c y d := e
    have n1 := S.nonneg f x hf hx
    have n2 := S.nonneg x y hx hy
    have n3 := S.nonneg y d hy hd
    have sd := S.self d hd
    have hfar : far = 262144 := rfl
    by_cases hxf : x = f
    · subst hxf
      by_cases hyf : y = x
      · subst hyf
        have s0 := S.self y hf
        exact ⟨d, d, hd, hd, val_of C hf hd hd hd hdf (by omega) (by omega) (by omega), by unfold sm; omega⟩
      · have s0 := S.self x hf
        exact ⟨y, d, hy, hd, val_of C hf hy hd hd hyf (by omega) (by omega) (by omega), by unfold sm; omega⟩
    · exact ⟨x, y, hx, hy, val_of C hf hx hy hd hxf (by omega) (by omega) (by omega), by unfold sm; omega⟩
  have h1 : 0 ≤ B d ↔ ws c f d < 262144 := by
    constructor
    · intro h0
      obtain ⟨a, b, ha, hb, _, hv, e⟩ := Wn.ex d hd h0
      have := ge a b ha hb
      obtain ⟨_, f1, f2, f3⟩ := hv.fin C hf ha hb hd
      unfold sm at this; omega
    · intro hw
      obtain ⟨a, b, ha, hb, hv, _⟩ := least hw
      by_cases h0 : 0 ≤ B d
      · exact h0
      · exact absurd hv (Wn.none d hd (by omega) a b ha hb (lt a b ha hb))
  have h2 : 0 ≤ B d → B d = ws c f d := by
    intro h0
    obtain ⟨a, b, ha, hb, _, hv, e⟩ := Wn.ex d hd h0
    obtain ⟨a', b', ha', hb', hv', e'⟩ := least (h1.1 h0)
    have := ge a b ha hb
    have := Wn.le d hd h0 a' b' ha' hb' (lt a' b' ha' hb') hv'
    omega
  refine ⟨h1, h2, fun h0 a ha => ?_⟩
  have hw := h1.1 h0
  have hB := h2 h0
  rw [Bool.eq_iff_iff, Wn.mark d hd h0 a ha, hB]
  unfold near
  rw [decide_eq_true_eq]
  constructor
  · rintro ⟨b, hb, _, hv, e⟩
    refine ⟨hv.2.1, ?_⟩
    have e1 := (hv.fin C hf ha hb hd).1
    have l1 : ws c a d ≤ eOf c a a + eOf c a b + eOf c b d := W_le (eOf c) a d ha hb
    have l2 : ws c f d ≤ ws c f a + ws c a d := W_tri S hf ha hd
    have l3 : ws c f a ≤ eOf c f a := W_e S hf ha
    have sa := S.self a ha
    unfold sm at e; omega
  · rintro ⟨hc, e⟩
    obtain ⟨e1, hne⟩ := eOf_c C hf hc
    obtain ⟨x, y, hx, hy, ew⟩ := W_at (eOf c) a d
    have ew' : ws c a d = eOf c a x + eOf c x y + eOf c y d := ew
    have n1 := S.nonneg a x ha hx
    have n2 := S.nonneg x y hx hy
    have n3 := S.nonneg y d hy hd
    have sf := S.self f hf
    have sd := S.self d hd
    have sa := S.self a ha
    have hfar : far = 262144 := rfl
    have q (b : Nat) (hb : b < 4) : ws c a d ≤ eOf c a a + eOf c a b + eOf c b d := W_le (eOf c) a d ha hb
    have q2 (b : Nat) (hb : b < 4) : ws c f d ≤ eOf c f f + eOf c f b + eOf c b d := W_le (eOf c) f d hf hb
    have hxf : x ≠ f := by rintro rfl; have := q2 y hy; omega
    have hyf : y ≠ f := by rintro rfl; have := q2 d hd; omega
    have done (b : Nat) (hb : b < 4) (hs : eOf c a b + eOf c b d = ws c a d) : ∃ b, b < 4 ∧ at3 a b d < 64 ∧ Val c f a b d ∧ sm c f a b d = ws c f d := by
      have m1 := S.nonneg a b ha hb
      have m2 := S.nonneg b d hb hd
      have r1 := (C.range f a hf ha).2
      exact ⟨b, hb, lt a b ha hb, val_of C hf ha hb hd (Ne.symm hne) (by omega) (by omega) (by omega), by unfold sm; omega⟩
    rcases pig hf ha hx hy hd (Ne.symm hne) hxf hyf hdf with rfl | rfl | rfl | rfl | rfl | rfl
    · exact done y hy (by omega)
    · exact done x hx (by have := S.self x hx; omega)
    · exact done x hx (by omega)
    · exact done a ha (by have := q a ha; omega)
    · exact done x hx (by have := q x hx; omega)
    · have h0 : ws c a a = 0 := W_self S ha
      exact done a ha (by omega)
end Go.Proofs.Ytjbejbehbjhecaa.L21
