/- Written by a program of this session (out of what the print wrote for this seat): the functions' walks, packed. -/
import Derived.Test.YtjbejbehbjhecaaZ21nx1
namespace Go.Proofs.Ytjbejbehbjhecaa.Q21n
open Go.RowKit Go.Proofs.YtjbejbehbjhecaaW.PrintWords Go.Proofs.YtjbejbehbjhecaaW.PrintLast Go.Proofs.YtjbejbehbjhecaaW.PrintMore
attribute [local go_sem] max2_int min2_int max_two min_two max_three min_three max_four min_four   -- for this text's walks alone
set_option linter.unusedVariables false
set_option linter.unusedSimpArgs false

/-! ### watchwordlaw21_PathsTriangle: function 6 -/
mutual
def watchwordlaw21_PathsTriangle.j0 : Nat → Int → Int → List (S41) → Bool → Int → Int → Int → Int → Int → Int → Int → Int → Int → Int → Int → Int → Int → Int → Int → Int → Option (Bool)
 | 0, _, _, _, _, _, _, _, _, _, _, _, _, _, _, _, _, _, _, _, _ => none
 | k + 1, x1, x2, x7, x39, x205000, x205001, x205002, x205003, x205004, x205005, x205006, x205007, x205008, x205009, x205010, x205011, x205012, x205013, x205014, x205015 => if x39 = true then (some false) else (watchwordlaw21_PathsTriangle.l0 k x1 x2 x7 0 x205000 x205001 x205002 x205003 x205004 x205005 x205006 x205007 x205008 x205009 x205010 x205011 x205012 x205013 x205014 x205015 0 0 0 0 0)
def watchwordlaw21_PathsTriangle.l0 : Nat → Int → Int → List (S41) → Int → Int → Int → Int → Int → Int → Int → Int → Int → Int → Int → Int → Int → Int → Int → Int → Int → Int → Int → Int → Int → Int → Option (Bool)
 | 0, _, _, _, _, _, _, _, _, _, _, _, _, _, _, _, _, _, _, _, _, _, _, _, _, _ => none
 | k + 1, x1, x2, x7, x10, x205000, x205001, x205002, x205003, x205004, x205005, x205006, x205007, x205008, x205009, x205010, x205011, x205012, x205013, x205014, x205015, x212000, x212001, x212002, x212003, x212004 => if x10 < (x7.length : Int) then (if 0 ≤ x10 then (if ((rd_T41 x7 x10).f0) < 1 then (some false) else (if ((rd_T41 x7 x10).f0) > 4 then (some false) else (if 0 ≤ ((rd_T41 x7 x10).f0) then (if ((rd_T41 x7 x10).f0) < 5 then (watchwordlaw21_PathsTriangle.l0 k x1 x2 x7 (wrap64 (x10 + 1)) x205000 x205001 x205002 x205003 x205004 x205005 x205006 x205007 x205008 x205009 x205010 x205011 x205012 x205013 x205014 x205015 (up (((rd_T41 x7 x10).f0) == 0) ((rd_T41 x7 x10).f1) x212000) (up (((rd_T41 x7 x10).f0) == 1) ((rd_T41 x7 x10).f1) x212001) (up (((rd_T41 x7 x10).f0) == 2) ((rd_T41 x7 x10).f1) x212002) (up (((rd_T41 x7 x10).f0) == 3) ((rd_T41 x7 x10).f1) x212003) (up (((rd_T41 x7 x10).f0) == 4) ((rd_T41 x7 x10).f1) x212004)) else (none)) else (none)))) else (none)) else (watchwordlaw21_PathsTriangle.l1 k x1 x2 x7 1 x205000 x205001 x205002 x205003 x205004 x205005 x205006 x205007 x205008 x205009 x205010 x205011 x205012 x205013 x205014 x205015 x212000 x212001 x212002 x212003 x212004)
def watchwordlaw21_PathsTriangle.l1 : Nat → Int → Int → List (S41) → Int → Int → Int → Int → Int → Int → Int → Int → Int → Int → Int → Int → Int → Int → Int → Int → Int → Int → Int → Int → Int → Int → Option (Bool)
 | 0, _, _, _, _, _, _, _, _, _, _, _, _, _, _, _, _, _, _, _, _, _, _, _, _, _ => none
 | k + 1, x1, x2, x7, x11, x205000, x205001, x205002, x205003, x205004, x205005, x205006, x205007, x205008, x205009, x205010, x205011, x205012, x205013, x205014, x205015, x212000, x212001, x212002, x212003, x212004 => if x11 ≤ 4 then (watchwordlaw21_PathsTriangle.l2 k x1 x2 x7 x11 1 x205000 x205001 x205002 x205003 x205004 x205005 x205006 x205007 x205008 x205009 x205010 x205011 x205012 x205013 x205014 x205015 x212000 x212001 x212002 x212003 x212004) else (if 0 ≤ (Go.bits .and .i64 x2 3) then (if (Go.bits .and .i64 x2 3) < 4 then (if 0 ≤ (Go.bits .and .i64 (x2 / 4) 3) then (if (Go.bits .and .i64 (x2 / 4) 3) < 4 then (if (ix4 (ix4 x205000 x205001 x205002 x205003 (Go.bits .and .i64 (x2 / 4) 3)) (ix4 x205004 x205005 x205006 x205007 (Go.bits .and .i64 (x2 / 4) 3)) (ix4 x205008 x205009 x205010 x205011 (Go.bits .and .i64 (x2 / 4) 3)) (ix4 x205012 x205013 x205014 x205015 (Go.bits .and .i64 (x2 / 4) 3)) (Go.bits .and .i64 x2 3)) > 1 then (watchwordlaw21_PathsTriangle.j4 k x1 x7 (up ((Go.bits .and .i64 x2 3) == 0 && (Go.bits .and .i64 (x2 / 4) 3) == 0) (wrap64 ((ix4 (ix4 x205000 x205001 x205002 x205003 (Go.bits .and .i64 (x2 / 4) 3)) (ix4 x205004 x205005 x205006 x205007 (Go.bits .and .i64 (x2 / 4) 3)) (ix4 x205008 x205009 x205010 x205011 (Go.bits .and .i64 (x2 / 4) 3)) (ix4 x205012 x205013 x205014 x205015 (Go.bits .and .i64 (x2 / 4) 3)) (Go.bits .and .i64 x2 3)) - 1)) x205000) (up ((Go.bits .and .i64 x2 3) == 0 && (Go.bits .and .i64 (x2 / 4) 3) == 1) (wrap64 ((ix4 (ix4 x205000 x205001 x205002 x205003 (Go.bits .and .i64 (x2 / 4) 3)) (ix4 x205004 x205005 x205006 x205007 (Go.bits .and .i64 (x2 / 4) 3)) (ix4 x205008 x205009 x205010 x205011 (Go.bits .and .i64 (x2 / 4) 3)) (ix4 x205012 x205013 x205014 x205015 (Go.bits .and .i64 (x2 / 4) 3)) (Go.bits .and .i64 x2 3)) - 1)) x205001) (up ((Go.bits .and .i64 x2 3) == 0 && (Go.bits .and .i64 (x2 / 4) 3) == 2) (wrap64 ((ix4 (ix4 x205000 x205001 x205002 x205003 (Go.bits .and .i64 (x2 / 4) 3)) (ix4 x205004 x205005 x205006 x205007 (Go.bits .and .i64 (x2 / 4) 3)) (ix4 x205008 x205009 x205010 x205011 (Go.bits .and .i64 (x2 / 4) 3)) (ix4 x205012 x205013 x205014 x205015 (Go.bits .and .i64 (x2 / 4) 3)) (Go.bits .and .i64 x2 3)) - 1)) x205002) (up ((Go.bits .and .i64 x2 3) == 0 && (Go.bits .and .i64 (x2 / 4) 3) == 3) (wrap64 ((ix4 (ix4 x205000 x205001 x205002 x205003 (Go.bits .and .i64 (x2 / 4) 3)) (ix4 x205004 x205005 x205006 x205007 (Go.bits .and .i64 (x2 / 4) 3)) (ix4 x205008 x205009 x205010 x205011 (Go.bits .and .i64 (x2 / 4) 3)) (ix4 x205012 x205013 x205014 x205015 (Go.bits .and .i64 (x2 / 4) 3)) (Go.bits .and .i64 x2 3)) - 1)) x205003) (up ((Go.bits .and .i64 x2 3) == 1 && (Go.bits .and .i64 (x2 / 4) 3) == 0) (wrap64 ((ix4 (ix4 x205000 x205001 x205002 x205003 (Go.bits .and .i64 (x2 / 4) 3)) (ix4 x205004 x205005 x205006 x205007 (Go.bits .and .i64 (x2 / 4) 3)) (ix4 x205008 x205009 x205010 x205011 (Go.bits .and .i64 (x2 / 4) 3)) (ix4 x205012 x205013 x205014 x205015 (Go.bits .and .i64 (x2 / 4) 3)) (Go.bits .and .i64 x2 3)) - 1)) x205004) (up ((Go.bits .and .i64 x2 3) == 1 && (Go.bits .and .i64 (x2 / 4) 3) == 1) (wrap64 ((ix4 (ix4 x205000 x205001 x205002 x205003 (Go.bits .and .i64 (x2 / 4) 3)) (ix4 x205004 x205005 x205006 x205007 (Go.bits .and .i64 (x2 / 4) 3)) (ix4 x205008 x205009 x205010 x205011 (Go.bits .and .i64 (x2 / 4) 3)) (ix4 x205012 x205013 x205014 x205015 (Go.bits .and .i64 (x2 / 4) 3)) (Go.bits .and .i64 x2 3)) - 1)) x205005) (up ((Go.bits .and .i64 x2 3) == 1 && (Go.bits .and .i64 (x2 / 4) 3) == 2) (wrap64 ((ix4 (ix4 x205000 x205001 x205002 x205003 (Go.bits .and .i64 (x2 / 4) 3)) (ix4 x205004 x205005 x205006 x205007 (Go.bits .and .i64 (x2 / 4) 3)) (ix4 x205008 x205009 x205010 x205011 (Go.bits .and .i64 (x2 / 4) 3)) (ix4 x205012 x205013 x205014 x205015 (Go.bits .and .i64 (x2 / 4) 3)) (Go.bits .and .i64 x2 3)) - 1)) x205006) (up ((Go.bits .and .i64 x2 3) == 1 && (Go.bits .and .i64 (x2 / 4) 3) == 3) (wrap64 ((ix4 (ix4 x205000 x205001 x205002 x205003 (Go.bits .and .i64 (x2 / 4) 3)) (ix4 x205004 x205005 x205006 x205007 (Go.bits .and .i64 (x2 / 4) 3)) (ix4 x205008 x205009 x205010 x205011 (Go.bits .and .i64 (x2 / 4) 3)) (ix4 x205012 x205013 x205014 x205015 (Go.bits .and .i64 (x2 / 4) 3)) (Go.bits .and .i64 x2 3)) - 1)) x205007) (up ((Go.bits .and .i64 x2 3) == 2 && (Go.bits .and .i64 (x2 / 4) 3) == 0) (wrap64 ((ix4 (ix4 x205000 x205001 x205002 x205003 (Go.bits .and .i64 (x2 / 4) 3)) (ix4 x205004 x205005 x205006 x205007 (Go.bits .and .i64 (x2 / 4) 3)) (ix4 x205008 x205009 x205010 x205011 (Go.bits .and .i64 (x2 / 4) 3)) (ix4 x205012 x205013 x205014 x205015 (Go.bits .and .i64 (x2 / 4) 3)) (Go.bits .and .i64 x2 3)) - 1)) x205008) (up ((Go.bits .and .i64 x2 3) == 2 && (Go.bits .and .i64 (x2 / 4) 3) == 1) (wrap64 ((ix4 (ix4 x205000 x205001 x205002 x205003 (Go.bits .and .i64 (x2 / 4) 3)) (ix4 x205004 x205005 x205006 x205007 (Go.bits .and .i64 (x2 / 4) 3)) (ix4 x205008 x205009 x205010 x205011 (Go.bits .and .i64 (x2 / 4) 3)) (ix4 x205012 x205013 x205014 x205015 (Go.bits .and .i64 (x2 / 4) 3)) (Go.bits .and .i64 x2 3)) - 1)) x205009) (up ((Go.bits .and .i64 x2 3) == 2 && (Go.bits .and .i64 (x2 / 4) 3) == 2) (wrap64 ((ix4 (ix4 x205000 x205001 x205002 x205003 (Go.bits .and .i64 (x2 / 4) 3)) (ix4 x205004 x205005 x205006 x205007 (Go.bits .and .i64 (x2 / 4) 3)) (ix4 x205008 x205009 x205010 x205011 (Go.bits .and .i64 (x2 / 4) 3)) (ix4 x205012 x205013 x205014 x205015 (Go.bits .and .i64 (x2 / 4) 3)) (Go.bits .and .i64 x2 3)) - 1)) x205010) (up ((Go.bits .and .i64 x2 3) == 2 && (Go.bits .and .i64 (x2 / 4) 3) == 3) (wrap64 ((ix4 (ix4 x205000 x205001 x205002 x205003 (Go.bits .and .i64 (x2 / 4) 3)) (ix4 x205004 x205005 x205006 x205007 (Go.bits .and .i64 (x2 / 4) 3)) (ix4 x205008 x205009 x205010 x205011 (Go.bits .and .i64 (x2 / 4) 3)) (ix4 x205012 x205013 x205014 x205015 (Go.bits .and .i64 (x2 / 4) 3)) (Go.bits .and .i64 x2 3)) - 1)) x205011) (up ((Go.bits .and .i64 x2 3) == 3 && (Go.bits .and .i64 (x2 / 4) 3) == 0) (wrap64 ((ix4 (ix4 x205000 x205001 x205002 x205003 (Go.bits .and .i64 (x2 / 4) 3)) (ix4 x205004 x205005 x205006 x205007 (Go.bits .and .i64 (x2 / 4) 3)) (ix4 x205008 x205009 x205010 x205011 (Go.bits .and .i64 (x2 / 4) 3)) (ix4 x205012 x205013 x205014 x205015 (Go.bits .and .i64 (x2 / 4) 3)) (Go.bits .and .i64 x2 3)) - 1)) x205012) (up ((Go.bits .and .i64 x2 3) == 3 && (Go.bits .and .i64 (x2 / 4) 3) == 1) (wrap64 ((ix4 (ix4 x205000 x205001 x205002 x205003 (Go.bits .and .i64 (x2 / 4) 3)) (ix4 x205004 x205005 x205006 x205007 (Go.bits .and .i64 (x2 / 4) 3)) (ix4 x205008 x205009 x205010 x205011 (Go.bits .and .i64 (x2 / 4) 3)) (ix4 x205012 x205013 x205014 x205015 (Go.bits .and .i64 (x2 / 4) 3)) (Go.bits .and .i64 x2 3)) - 1)) x205013) (up ((Go.bits .and .i64 x2 3) == 3 && (Go.bits .and .i64 (x2 / 4) 3) == 2) (wrap64 ((ix4 (ix4 x205000 x205001 x205002 x205003 (Go.bits .and .i64 (x2 / 4) 3)) (ix4 x205004 x205005 x205006 x205007 (Go.bits .and .i64 (x2 / 4) 3)) (ix4 x205008 x205009 x205010 x205011 (Go.bits .and .i64 (x2 / 4) 3)) (ix4 x205012 x205013 x205014 x205015 (Go.bits .and .i64 (x2 / 4) 3)) (Go.bits .and .i64 x2 3)) - 1)) x205014) (up ((Go.bits .and .i64 x2 3) == 3 && (Go.bits .and .i64 (x2 / 4) 3) == 3) (wrap64 ((ix4 (ix4 x205000 x205001 x205002 x205003 (Go.bits .and .i64 (x2 / 4) 3)) (ix4 x205004 x205005 x205006 x205007 (Go.bits .and .i64 (x2 / 4) 3)) (ix4 x205008 x205009 x205010 x205011 (Go.bits .and .i64 (x2 / 4) 3)) (ix4 x205012 x205013 x205014 x205015 (Go.bits .and .i64 (x2 / 4) 3)) (Go.bits .and .i64 x2 3)) - 1)) x205015)) else (watchwordlaw21_PathsTriangle.j4 k x1 x7 x205000 x205001 x205002 x205003 x205004 x205005 x205006 x205007 x205008 x205009 x205010 x205011 x205012 x205013 x205014 x205015)) else (none)) else (none)) else (none)) else (none))
def watchwordlaw21_PathsTriangle.l2 : Nat → Int → Int → List (S41) → Int → Int → Int → Int → Int → Int → Int → Int → Int → Int → Int → Int → Int → Int → Int → Int → Int → Int → Int → Int → Int → Int → Int → Option (Bool)
 | 0, _, _, _, _, _, _, _, _, _, _, _, _, _, _, _, _, _, _, _, _, _, _, _, _, _, _ => none
 | k + 1, x1, x2, x7, x11, x12, x205000, x205001, x205002, x205003, x205004, x205005, x205006, x205007, x205008, x205009, x205010, x205011, x205012, x205013, x205014, x205015, x212000, x212001, x212002, x212003, x212004 => if x12 ≤ 4 then (if x11 = x1 then (if x12 = x1 then (watchwordlaw21_PathsTriangle.l2 k x1 x2 x7 x11 (wrap64 (x12 + 1)) x205000 x205001 x205002 x205003 x205004 x205005 x205006 x205007 x205008 x205009 x205010 x205011 x205012 x205013 x205014 x205015 x212000 x212001 x212002 x212003 x212004) else (if 0 ≤ (wrap64 (x11 - 1)) then (if (wrap64 (x11 - 1)) < 4 then (if 0 ≤ (wrap64 (x12 - 1)) then (if (wrap64 (x12 - 1)) < 4 then (if (ix4 (ix4 x205000 x205001 x205002 x205003 (wrap64 (x12 - 1))) (ix4 x205004 x205005 x205006 x205007 (wrap64 (x12 - 1))) (ix4 x205008 x205009 x205010 x205011 (wrap64 (x12 - 1))) (ix4 x205012 x205013 x205014 x205015 (wrap64 (x12 - 1))) (wrap64 (x11 - 1))) > 0 then (if 0 ≤ x12 then (if x12 < 5 then (if (ix5 x212000 x212001 x212002 x212003 x212004 x12) = 0 then (some false) else (if 0 ≤ x11 then (if x11 < 5 then (if (ix5 x212000 x212001 x212002 x212003 x212004 x12) > (wrap64 ((ix5 x212000 x212001 x212002 x212003 x212004 x11) + (ix4 (ix4 x205000 x205001 x205002 x205003 (wrap64 (x12 - 1))) (ix4 x205004 x205005 x205006 x205007 (wrap64 (x12 - 1))) (ix4 x205008 x205009 x205010 x205011 (wrap64 (x12 - 1))) (ix4 x205012 x205013 x205014 x205015 (wrap64 (x12 - 1))) (wrap64 (x11 - 1))))) then (some false) else (watchwordlaw21_PathsTriangle.l2 k x1 x2 x7 x11 (wrap64 (x12 + 1)) x205000 x205001 x205002 x205003 x205004 x205005 x205006 x205007 x205008 x205009 x205010 x205011 x205012 x205013 x205014 x205015 x212000 x212001 x212002 x212003 x212004)) else (none)) else (none))) else (none)) else (none)) else (watchwordlaw21_PathsTriangle.l2 k x1 x2 x7 x11 (wrap64 (x12 + 1)) x205000 x205001 x205002 x205003 x205004 x205005 x205006 x205007 x205008 x205009 x205010 x205011 x205012 x205013 x205014 x205015 x212000 x212001 x212002 x212003 x212004)) else (none)) else (none)) else (none)) else (none))) else (if 0 ≤ x11 then (if x11 < 5 then (if x12 = x1 then (watchwordlaw21_PathsTriangle.l2 k x1 x2 x7 x11 (wrap64 (x12 + 1)) x205000 x205001 x205002 x205003 x205004 x205005 x205006 x205007 x205008 x205009 x205010 x205011 x205012 x205013 x205014 x205015 x212000 x212001 x212002 x212003 x212004) else (if (ix5 x212000 x212001 x212002 x212003 x212004 x11) > 0 then (if 0 ≤ (wrap64 (x11 - 1)) then (if (wrap64 (x11 - 1)) < 4 then (if 0 ≤ (wrap64 (x12 - 1)) then (if (wrap64 (x12 - 1)) < 4 then (if (ix4 (ix4 x205000 x205001 x205002 x205003 (wrap64 (x12 - 1))) (ix4 x205004 x205005 x205006 x205007 (wrap64 (x12 - 1))) (ix4 x205008 x205009 x205010 x205011 (wrap64 (x12 - 1))) (ix4 x205012 x205013 x205014 x205015 (wrap64 (x12 - 1))) (wrap64 (x11 - 1))) > 0 then (if 0 ≤ x12 then (if x12 < 5 then (if (ix5 x212000 x212001 x212002 x212003 x212004 x12) = 0 then (some false) else (if (ix5 x212000 x212001 x212002 x212003 x212004 x12) > (wrap64 ((ix5 x212000 x212001 x212002 x212003 x212004 x11) + (ix4 (ix4 x205000 x205001 x205002 x205003 (wrap64 (x12 - 1))) (ix4 x205004 x205005 x205006 x205007 (wrap64 (x12 - 1))) (ix4 x205008 x205009 x205010 x205011 (wrap64 (x12 - 1))) (ix4 x205012 x205013 x205014 x205015 (wrap64 (x12 - 1))) (wrap64 (x11 - 1))))) then (some false) else (watchwordlaw21_PathsTriangle.l2 k x1 x2 x7 x11 (wrap64 (x12 + 1)) x205000 x205001 x205002 x205003 x205004 x205005 x205006 x205007 x205008 x205009 x205010 x205011 x205012 x205013 x205014 x205015 x212000 x212001 x212002 x212003 x212004))) else (none)) else (none)) else (watchwordlaw21_PathsTriangle.l2 k x1 x2 x7 x11 (wrap64 (x12 + 1)) x205000 x205001 x205002 x205003 x205004 x205005 x205006 x205007 x205008 x205009 x205010 x205011 x205012 x205013 x205014 x205015 x212000 x212001 x212002 x212003 x212004)) else (none)) else (none)) else (none)) else (none)) else (watchwordlaw21_PathsTriangle.l2 k x1 x2 x7 x11 (wrap64 (x12 + 1)) x205000 x205001 x205002 x205003 x205004 x205005 x205006 x205007 x205008 x205009 x205010 x205011 x205012 x205013 x205014 x205015 x212000 x212001 x212002 x212003 x212004))) else (none)) else (none))) else (watchwordlaw21_PathsTriangle.l1 k x1 x2 x7 (wrap64 (x11 + 1)) x205000 x205001 x205002 x205003 x205004 x205005 x205006 x205007 x205008 x205009 x205010 x205011 x205012 x205013 x205014 x205015 x212000 x212001 x212002 x212003 x212004)
def watchwordlaw21_PathsTriangle.j4 : Nat → Int → List (S41) → Int → Int → Int → Int → Int → Int → Int → Int → Int → Int → Int → Int → Int → Int → Int → Int → Option (Bool)
 | 0, _, _, _, _, _, _, _, _, _, _, _, _, _, _, _, _, _, _ => none
 | k + 1, x1, x7, x217000, x217001, x217002, x217003, x217004, x217005, x217006, x217007, x217008, x217009, x217010, x217011, x217012, x217013, x217014, x217015 => (paths_Routes.f k x217000 x217001 x217002 x217003 x217004 x217005 x217006 x217007 x217008 x217009 x217010 x217011 x217012 x217013 x217014 x217015 x1).bind fun bt217 => ((watchwordlaw0_Num.f bt217.2).bind fun t221 => (if t221 = 0 then (watchwordlaw21_PathsTriangle.j5 k x7 bt217.1 ((bt217.1.length : Int) != (x7.length : Int))) else (watchwordlaw21_PathsTriangle.j5 k x7 bt217.1 true)))
def watchwordlaw21_PathsTriangle.j5 : Nat → List (S41) → List (S41) → Bool → Option (Bool)
 | 0, _, _, _ => none
 | k + 1, x7, x17, x162 => if x162 = true then (some false) else (watchwordlaw21_PathsTriangle.l3 k x7 x17 0)
def watchwordlaw21_PathsTriangle.l3 : Nat → List (S41) → List (S41) → Int → Option (Bool)
 | 0, _, _, _ => none
 | k + 1, x7, x17, x19 => if x19 < (x7.length : Int) then (if 0 ≤ x19 then (if x19 < (x17.length : Int) then (if ((rd_T41 x17 x19).f0) = ((rd_T41 x7 x19).f0) then (if ((rd_T41 x17 x19).f1) > ((rd_T41 x7 x19).f1) then (some false) else (if ((rd_T41 x17 x19).f1) < (wrap64 (((rd_T41 x7 x19).f1) - 1)) then (some false) else (watchwordlaw21_PathsTriangle.l3 k x7 x17 (wrap64 (x19 + 1))))) else (some false)) else (none)) else (none)) else (some true)
end
def watchwordlaw21_PathsTriangle.f (k : Nat) (a0_0 : Int) (a0_1 : Int) (a0_2 : Int) (a0_3 : Int) (a0_4 : Int) (a0_5 : Int) (a0_6 : Int) (a0_7 : Int) (a0_8 : Int) (a0_9 : Int) (a0_10 : Int) (a0_11 : Int) (a0_12 : Int) (a0_13 : Int) (a0_14 : Int) (a0_15 : Int) (a1 : Int) (a2 : Int) : Option (Bool) := (watchwordlaw21_awake.f k).bind fun t205 => (if t205 = true then ((paths_Routes.f k a0_0 a0_1 a0_2 a0_3 a0_4 a0_5 a0_6 a0_7 a0_8 a0_9 a0_10 a0_11 a0_12 a0_13 a0_14 a0_15 a1).bind fun bt206 => ((watchwordlaw0_Num.f bt206.2).bind fun t210 => (if t210 = 0 then (if a1 < 1 then (watchwordlaw21_PathsTriangle.j0 k a1 a2 bt206.1 true a0_0 a0_1 a0_2 a0_3 a0_4 a0_5 a0_6 a0_7 a0_8 a0_9 a0_10 a0_11 a0_12 a0_13 a0_14 a0_15) else (watchwordlaw21_PathsTriangle.j0 k a1 a2 bt206.1 (decide (a1 > 4)) a0_0 a0_1 a0_2 a0_3 a0_4 a0_5 a0_6 a0_7 a0_8 a0_9 a0_10 a0_11 a0_12 a0_13 a0_14 a0_15)) else (some ((bt206.1.length : Int) == 0))))) else (some false))
theorem watchwordlaw21_PathsTriangle.mono_l : ∀ k, (∀ y0 y1 y2 y3 y4 y5 y6 y7 y8 y9 y10 y11 y12 y13 y14 y15 y16 y17 y18 y19, LeO (watchwordlaw21_PathsTriangle.j0 k y0 y1 y2 y3 y4 y5 y6 y7 y8 y9 y10 y11 y12 y13 y14 y15 y16 y17 y18 y19) (watchwordlaw21_PathsTriangle.j0 (k + 1) y0 y1 y2 y3 y4 y5 y6 y7 y8 y9 y10 y11 y12 y13 y14 y15 y16 y17 y18 y19)) ∧ (∀ y0 y1 y2 y3 y4 y5 y6 y7 y8 y9 y10 y11 y12 y13 y14 y15 y16 y17 y18 y19 y20 y21 y22 y23 y24, LeO (watchwordlaw21_PathsTriangle.l0 k y0 y1 y2 y3 y4 y5 y6 y7 y8 y9 y10 y11 y12 y13 y14 y15 y16 y17 y18 y19 y20 y21 y22 y23 y24) (watchwordlaw21_PathsTriangle.l0 (k + 1) y0 y1 y2 y3 y4 y5 y6 y7 y8 y9 y10 y11 y12 y13 y14 y15 y16 y17 y18 y19 y20 y21 y22 y23 y24)) ∧ (∀ y0 y1 y2 y3 y4 y5 y6 y7 y8 y9 y10 y11 y12 y13 y14 y15 y16 y17 y18 y19 y20 y21 y22 y23 y24, LeO (watchwordlaw21_PathsTriangle.l1 k y0 y1 y2 y3 y4 y5 y6 y7 y8 y9 y10 y11 y12 y13 y14 y15 y16 y17 y18 y19 y20 y21 y22 y23 y24) (watchwordlaw21_PathsTriangle.l1 (k + 1) y0 y1 y2 y3 y4 y5 y6 y7 y8 y9 y10 y11 y12 y13 y14 y15 y16 y17 y18 y19 y20 y21 y22 y23 y24)) ∧ (∀ y0 y1 y2 y3 y4 y5 y6 y7 y8 y9 y10 y11 y12 y13 y14 y15 y16 y17 y18 y19 y20 y21 y22 y23 y24 y25, LeO (watchwordlaw21_PathsTriangle.l2 k y0 y1 y2 y3 y4 y5 y6 y7 y8 y9 y10 y11 y12 y13 y14 y15 y16 y17 y18 y19 y20 y21 y22 y23 y24 y25) (watchwordlaw21_PathsTriangle.l2 (k + 1) y0 y1 y2 y3 y4 y5 y6 y7 y8 y9 y10 y11 y12 y13 y14 y15 y16 y17 y18 y19 y20 y21 y22 y23 y24 y25)) ∧ (∀ y0 y1 y2 y3 y4 y5 y6 y7 y8 y9 y10 y11 y12 y13 y14 y15 y16 y17, LeO (watchwordlaw21_PathsTriangle.j4 k y0 y1 y2 y3 y4 y5 y6 y7 y8 y9 y10 y11 y12 y13 y14 y15 y16 y17) (watchwordlaw21_PathsTriangle.j4 (k + 1) y0 y1 y2 y3 y4 y5 y6 y7 y8 y9 y10 y11 y12 y13 y14 y15 y16 y17)) ∧ (∀ y0 y1 y2, LeO (watchwordlaw21_PathsTriangle.j5 k y0 y1 y2) (watchwordlaw21_PathsTriangle.j5 (k + 1) y0 y1 y2)) ∧ (∀ y0 y1 y2, LeO (watchwordlaw21_PathsTriangle.l3 k y0 y1 y2) (watchwordlaw21_PathsTriangle.l3 (k + 1) y0 y1 y2))
 | 0 => ⟨fun _ _ _ _ _ _ _ _ _ _ _ _ _ _ _ _ _ _ _ _ r h => by simp [watchwordlaw21_PathsTriangle.j0] at h, fun _ _ _ _ _ _ _ _ _ _ _ _ _ _ _ _ _ _ _ _ _ _ _ _ _ r h => by simp [watchwordlaw21_PathsTriangle.l0] at h, fun _ _ _ _ _ _ _ _ _ _ _ _ _ _ _ _ _ _ _ _ _ _ _ _ _ r h => by simp [watchwordlaw21_PathsTriangle.l1] at h, fun _ _ _ _ _ _ _ _ _ _ _ _ _ _ _ _ _ _ _ _ _ _ _ _ _ _ r h => by simp [watchwordlaw21_PathsTriangle.l2] at h, fun _ _ _ _ _ _ _ _ _ _ _ _ _ _ _ _ _ _ r h => by simp [watchwordlaw21_PathsTriangle.j4] at h, fun _ _ _ r h => by simp [watchwordlaw21_PathsTriangle.j5] at h, fun _ _ _ r h => by simp [watchwordlaw21_PathsTriangle.l3] at h⟩
 | k + 1 => by
  obtain ⟨ih0, ih1, ih2, ih3, ih4, ih5, ih6⟩ := watchwordlaw21_PathsTriangle.mono_l k
  refine ⟨?_, ?_, ?_, ?_, ?_, ?_, ?_⟩
  ·intro y0 y1 y2 y3 y4 y5 y6 y7 y8 y9 y10 y11 y12 y13 y14 y15 y16 y17 y18 y19
   unfold watchwordlaw21_PathsTriangle.j0
   repeat' first
   | (with_reducible exact ih0 _ _ _ _ _ _ _ _ _ _ _ _ _ _ _ _ _ _ _ _)
   | (with_reducible exact ih1 _ _ _ _ _ _ _ _ _ _ _ _ _ _ _ _ _ _ _ _ _ _ _ _ _)
   | (with_reducible exact ih2 _ _ _ _ _ _ _ _ _ _ _ _ _ _ _ _ _ _ _ _ _ _ _ _ _)
   | (with_reducible exact ih3 _ _ _ _ _ _ _ _ _ _ _ _ _ _ _ _ _ _ _ _ _ _ _ _ _ _)
   | (with_reducible exact ih4 _ _ _ _ _ _ _ _ _ _ _ _ _ _ _ _ _ _)
   | (with_reducible exact ih5 _ _ _)
   | (with_reducible exact ih6 _ _ _)
   | (with_reducible exact paths_Routes.mono _ _ _ _ _ _ _ _ _ _ _ _ _ _ _ _ _ _)
   | (with_reducible exact watchwordlaw21_awake.mono _)
   | (with_reducible exact LeO.refl _)
   | (with_reducible exact LeO.none _)
   | (with_reducible refine LeO.ite ?_ ?_)
   | (with_reducible refine LeO.bind ?_ (fun _ => ?_))
   | exact ih0 _ _ _ _ _ _ _ _ _ _ _ _ _ _ _ _ _ _ _ _
   | exact ih1 _ _ _ _ _ _ _ _ _ _ _ _ _ _ _ _ _ _ _ _ _ _ _ _ _
   | exact ih2 _ _ _ _ _ _ _ _ _ _ _ _ _ _ _ _ _ _ _ _ _ _ _ _ _
   | exact ih3 _ _ _ _ _ _ _ _ _ _ _ _ _ _ _ _ _ _ _ _ _ _ _ _ _ _
   | exact ih4 _ _ _ _ _ _ _ _ _ _ _ _ _ _ _ _ _ _
   | exact ih5 _ _ _
   | exact ih6 _ _ _
   | exact paths_Routes.mono _ _ _ _ _ _ _ _ _ _ _ _ _ _ _ _ _ _
   | exact watchwordlaw21_awake.mono _
   | exact LeO.none _
   | refine LeO.ite ?_ ?_
   | refine LeO.bind ?_ (fun _ => ?_)
  ·intro y0 y1 y2 y3 y4 y5 y6 y7 y8 y9 y10 y11 y12 y13 y14 y15 y16 y17 y18 y19 y20 y21 y22 y23 y24
   unfold watchwordlaw21_PathsTriangle.l0
   repeat' first
   | (with_reducible exact ih0 _ _ _ _ _ _ _ _ _ _ _ _ _ _ _ _ _ _ _ _)
   | (with_reducible exact ih1 _ _ _ _ _ _ _ _ _ _ _ _ _ _ _ _ _ _ _ _ _ _ _ _ _)
   | (with_reducible exact ih2 _ _ _ _ _ _ _ _ _ _ _ _ _ _ _ _ _ _ _ _ _ _ _ _ _)
   | (with_reducible exact ih3 _ _ _ _ _ _ _ _ _ _ _ _ _ _ _ _ _ _ _ _ _ _ _ _ _ _)
   | (with_reducible exact ih4 _ _ _ _ _ _ _ _ _ _ _ _ _ _ _ _ _ _)
   | (with_reducible exact ih5 _ _ _)
   | (with_reducible exact ih6 _ _ _)
   | (with_reducible exact paths_Routes.mono _ _ _ _ _ _ _ _ _ _ _ _ _ _ _ _ _ _)
   | (with_reducible exact watchwordlaw21_awake.mono _)
   | (with_reducible exact LeO.refl _)
   | (with_reducible exact LeO.none _)
   | (with_reducible refine LeO.ite ?_ ?_)
   | (with_reducible refine LeO.bind ?_ (fun _ => ?_))
   | exact ih0 _ _ _ _ _ _ _ _ _ _ _ _ _ _ _ _ _ _ _ _
   | exact ih1 _ _ _ _ _ _ _ _ _ _ _ _ _ _ _ _ _ _ _ _ _ _ _ _ _
   | exact ih2 _ _ _ _ _ _ _ _ _ _ _ _ _ _ _ _ _ _ _ _ _ _ _ _ _
   | exact ih3 _ _ _ _ _ _ _ _ _ _ _ _ _ _ _ _ _ _ _ _ _ _ _ _ _ _
   | exact ih4 _ _ _ _ _ _ _ _ _ _ _ _ _ _ _ _ _ _
   | exact ih5 _ _ _
   | exact ih6 _ _ _
   | exact paths_Routes.mono _ _ _ _ _ _ _ _ _ _ _ _ _ _ _ _ _ _
   | exact watchwordlaw21_awake.mono _
   | exact LeO.none _
   | refine LeO.ite ?_ ?_
   | refine LeO.bind ?_ (fun _ => ?_)
  ·intro y0 y1 y2 y3 y4 y5 y6 y7 y8 y9 y10 y11 y12 y13 y14 y15 y16 y17 y18 y19 y20 y21 y22 y23 y24
   unfold watchwordlaw21_PathsTriangle.l1
   repeat' first
   | (with_reducible exact ih0 _ _ _ _ _ _ _ _ _ _ _ _ _ _ _ _ _ _ _ _)
   | (with_reducible exact ih1 _ _ _ _ _ _ _ _ _ _ _ _ _ _ _ _ _ _ _ _ _ _ _ _ _)
   | (with_reducible exact ih2 _ _ _ _ _ _ _ _ _ _ _ _ _ _ _ _ _ _ _ _ _ _ _ _ _)
   | (with_reducible exact ih3 _ _ _ _ _ _ _ _ _ _ _ _ _ _ _ _ _ _ _ _ _ _ _ _ _ _)
   | (with_reducible exact ih4 _ _ _ _ _ _ _ _ _ _ _ _ _ _ _ _ _ _)
   | (with_reducible exact ih5 _ _ _)
   | (with_reducible exact ih6 _ _ _)
   | (with_reducible exact paths_Routes.mono _ _ _ _ _ _ _ _ _ _ _ _ _ _ _ _ _ _)
   | (with_reducible exact watchwordlaw21_awake.mono _)
   | (with_reducible exact LeO.refl _)
   | (with_reducible exact LeO.none _)
   | (with_reducible refine LeO.ite ?_ ?_)
   | (with_reducible refine LeO.bind ?_ (fun _ => ?_))
   | exact ih0 _ _ _ _ _ _ _ _ _ _ _ _ _ _ _ _ _ _ _ _
   | exact ih1 _ _ _ _ _ _ _ _ _ _ _ _ _ _ _ _ _ _ _ _ _ _ _ _ _
   | exact ih2 _ _ _ _ _ _ _ _ _ _ _ _ _ _ _ _ _ _ _ _ _ _ _ _ _
   | exact ih3 _ _ _ _ _ _ _ _ _ _ _ _ _ _ _ _ _ _ _ _ _ _ _ _ _ _
   | exact ih4 _ _ _ _ _ _ _ _ _ _ _ _ _ _ _ _ _ _
   | exact ih5 _ _ _
   | exact ih6 _ _ _
   | exact paths_Routes.mono _ _ _ _ _ _ _ _ _ _ _ _ _ _ _ _ _ _
   | exact watchwordlaw21_awake.mono _
   | exact LeO.none _
   | refine LeO.ite ?_ ?_
   | refine LeO.bind ?_ (fun _ => ?_)
  ·intro y0 y1 y2 y3 y4 y5 y6 y7 y8 y9 y10 y11 y12 y13 y14 y15 y16 y17 y18 y19 y20 y21 y22 y23 y24 y25
   unfold watchwordlaw21_PathsTriangle.l2
   repeat' first
   | (with_reducible exact ih0 _ _ _ _ _ _ _ _ _ _ _ _ _ _ _ _ _ _ _ _)
   | (with_reducible exact ih1 _ _ _ _ _ _ _ _ _ _ _ _ _ _ _ _ _ _ _ _ _ _ _ _ _)
   | (with_reducible exact ih2 _ _ _ _ _ _ _ _ _ _ _ _ _ _ _ _ _ _ _ _ _ _ _ _ _)
   | (with_reducible exact ih3 _ _ _ _ _ _ _ _ _ _ _ _ _ _ _ _ _ _ _ _ _ _ _ _ _ _)
   | (with_reducible exact ih4 _ _ _ _ _ _ _ _ _ _ _ _ _ _ _ _ _ _)
   | (with_reducible exact ih5 _ _ _)
   | (with_reducible exact ih6 _ _ _)
   | (with_reducible exact paths_Routes.mono _ _ _ _ _ _ _ _ _ _ _ _ _ _ _ _ _ _)
   | (with_reducible exact watchwordlaw21_awake.mono _)
   | (with_reducible exact LeO.refl _)
   | (with_reducible exact LeO.none _)
   | (with_reducible refine LeO.ite ?_ ?_)
   | (with_reducible refine LeO.bind ?_ (fun _ => ?_))
   | exact ih0 _ _ _ _ _ _ _ _ _ _ _ _ _ _ _ _ _ _ _ _
   | exact ih1 _ _ _ _ _ _ _ _ _ _ _ _ _ _ _ _ _ _ _ _ _ _ _ _ _
   | exact ih2 _ _ _ _ _ _ _ _ _ _ _ _ _ _ _ _ _ _ _ _ _ _ _ _ _
   | exact ih3 _ _ _ _ _ _ _ _ _ _ _ _ _ _ _ _ _ _ _ _ _ _ _ _ _ _
   | exact ih4 _ _ _ _ _ _ _ _ _ _ _ _ _ _ _ _ _ _
   | exact ih5 _ _ _
   | exact ih6 _ _ _
   | exact paths_Routes.mono _ _ _ _ _ _ _ _ _ _ _ _ _ _ _ _ _ _
   | exact watchwordlaw21_awake.mono _
   | exact LeO.none _
   | refine LeO.ite ?_ ?_
   | refine LeO.bind ?_ (fun _ => ?_)
  ·intro y0 y1 y2 y3 y4 y5 y6 y7 y8 y9 y10 y11 y12 y13 y14 y15 y16 y17
   unfold watchwordlaw21_PathsTriangle.j4
   repeat' first
   | (with_reducible exact ih0 _ _ _ _ _ _ _ _ _ _ _ _ _ _ _ _ _ _ _ _)
   | (with_reducible exact ih1 _ _ _ _ _ _ _ _ _ _ _ _ _ _ _ _ _ _ _ _ _ _ _ _ _)
   | (with_reducible exact ih2 _ _ _ _ _ _ _ _ _ _ _ _ _ _ _ _ _ _ _ _ _ _ _ _ _)
   | (with_reducible exact ih3 _ _ _ _ _ _ _ _ _ _ _ _ _ _ _ _ _ _ _ _ _ _ _ _ _ _)
   | (with_reducible exact ih4 _ _ _ _ _ _ _ _ _ _ _ _ _ _ _ _ _ _)
   | (with_reducible exact ih5 _ _ _)
   | (with_reducible exact ih6 _ _ _)
   | (with_reducible exact paths_Routes.mono _ _ _ _ _ _ _ _ _ _ _ _ _ _ _ _ _ _)
   | (with_reducible exact watchwordlaw21_awake.mono _)
   | (with_reducible exact LeO.refl _)
   | (with_reducible exact LeO.none _)
   | (with_reducible refine LeO.ite ?_ ?_)
   | (with_reducible refine LeO.bind ?_ (fun _ => ?_))
   | exact ih0 _ _ _ _ _ _ _ _ _ _ _ _ _ _ _ _ _ _ _ _
   | exact ih1 _ _ _ _ _ _ _ _ _ _ _ _ _ _ _ _ _ _ _ _ _ _ _ _ _
   | exact ih2 _ _ _ _ _ _ _ _ _ _ _ _ _ _ _ _ _ _ _ _ _ _ _ _ _
   | exact ih3 _ _ _ _ _ _ _ _ _ _ _ _ _ _ _ _ _ _ _ _ _ _ _ _ _ _
   | exact ih4 _ _ _ _ _ _ _ _ _ _ _ _ _ _ _ _ _ _
   | exact ih5 _ _ _
   | exact ih6 _ _ _
   | exact paths_Routes.mono _ _ _ _ _ _ _ _ _ _ _ _ _ _ _ _ _ _
   | exact watchwordlaw21_awake.mono _
   | exact LeO.none _
   | refine LeO.ite ?_ ?_
   | refine LeO.bind ?_ (fun _ => ?_)
  ·intro y0 y1 y2
   unfold watchwordlaw21_PathsTriangle.j5
   repeat' first
   | (with_reducible exact ih0 _ _ _ _ _ _ _ _ _ _ _ _ _ _ _ _ _ _ _ _)
   | (with_reducible exact ih1 _ _ _ _ _ _ _ _ _ _ _ _ _ _ _ _ _ _ _ _ _ _ _ _ _)
   | (with_reducible exact ih2 _ _ _ _ _ _ _ _ _ _ _ _ _ _ _ _ _ _ _ _ _ _ _ _ _)
   | (with_reducible exact ih3 _ _ _ _ _ _ _ _ _ _ _ _ _ _ _ _ _ _ _ _ _ _ _ _ _ _)
   | (with_reducible exact ih4 _ _ _ _ _ _ _ _ _ _ _ _ _ _ _ _ _ _)
   | (with_reducible exact ih5 _ _ _)
   | (with_reducible exact ih6 _ _ _)
   | (with_reducible exact paths_Routes.mono _ _ _ _ _ _ _ _ _ _ _ _ _ _ _ _ _ _)
   | (with_reducible exact watchwordlaw21_awake.mono _)
   | (with_reducible exact LeO.refl _)
   | (with_reducible exact LeO.none _)
   | (with_reducible refine LeO.ite ?_ ?_)
   | (with_reducible refine LeO.bind ?_ (fun _ => ?_))
   | exact ih0 _ _ _ _ _ _ _ _ _ _ _ _ _ _ _ _ _ _ _ _
   | exact ih1 _ _ _ _ _ _ _ _ _ _ _ _ _ _ _ _ _ _ _ _ _ _ _ _ _
   | exact ih2 _ _ _ _ _ _ _ _ _ _ _ _ _ _ _ _ _ _ _ _ _ _ _ _ _
   | exact ih3 _ _ _ _ _ _ _ _ _ _ _ _ _ _ _ _ _ _ _ _ _ _ _ _ _ _
   | exact ih4 _ _ _ _ _ _ _ _ _ _ _ _ _ _ _ _ _ _
   | exact ih5 _ _ _
   | exact ih6 _ _ _
   | exact paths_Routes.mono _ _ _ _ _ _ _ _ _ _ _ _ _ _ _ _ _ _
   | exact watchwordlaw21_awake.mono _
   | exact LeO.none _
   | refine LeO.ite ?_ ?_
   | refine LeO.bind ?_ (fun _ => ?_)
  ·intro y0 y1 y2
   unfold watchwordlaw21_PathsTriangle.l3
   repeat' first
   | (with_reducible exact ih0 _ _ _ _ _ _ _ _ _ _ _ _ _ _ _ _ _ _ _ _)
   | (with_reducible exact ih1 _ _ _ _ _ _ _ _ _ _ _ _ _ _ _ _ _ _ _ _ _ _ _ _ _)
   | (with_reducible exact ih2 _ _ _ _ _ _ _ _ _ _ _ _ _ _ _ _ _ _ _ _ _ _ _ _ _)
   | (with_reducible exact ih3 _ _ _ _ _ _ _ _ _ _ _ _ _ _ _ _ _ _ _ _ _ _ _ _ _ _)
   | (with_reducible exact ih4 _ _ _ _ _ _ _ _ _ _ _ _ _ _ _ _ _ _)
   | (with_reducible exact ih5 _ _ _)
   | (with_reducible exact ih6 _ _ _)
   | (with_reducible exact paths_Routes.mono _ _ _ _ _ _ _ _ _ _ _ _ _ _ _ _ _ _)
   | (with_reducible exact watchwordlaw21_awake.mono _)
   | (with_reducible exact LeO.refl _)
   | (with_reducible exact LeO.none _)
   | (with_reducible refine LeO.ite ?_ ?_)
   | (with_reducible refine LeO.bind ?_ (fun _ => ?_))
   | exact ih0 _ _ _ _ _ _ _ _ _ _ _ _ _ _ _ _ _ _ _ _
   | exact ih1 _ _ _ _ _ _ _ _ _ _ _ _ _ _ _ _ _ _ _ _ _ _ _ _ _
   | exact ih2 _ _ _ _ _ _ _ _ _ _ _ _ _ _ _ _ _ _ _ _ _ _ _ _ _
   | exact ih3 _ _ _ _ _ _ _ _ _ _ _ _ _ _ _ _ _ _ _ _ _ _ _ _ _ _
   | exact ih4 _ _ _ _ _ _ _ _ _ _ _ _ _ _ _ _ _ _
   | exact ih5 _ _ _
   | exact ih6 _ _ _
   | exact paths_Routes.mono _ _ _ _ _ _ _ _ _ _ _ _ _ _ _ _ _ _
   | exact watchwordlaw21_awake.mono _
   | exact LeO.none _
   | refine LeO.ite ?_ ?_
   | refine LeO.bind ?_ (fun _ => ?_)
theorem watchwordlaw21_PathsTriangle.mono : ∀ a0 a1 a2 a3 a4 a5 a6 a7 a8 a9 a10 a11 a12 a13 a14 a15 a16 a17 k, LeO (watchwordlaw21_PathsTriangle.f k a0 a1 a2 a3 a4 a5 a6 a7 a8 a9 a10 a11 a12 a13 a14 a15 a16 a17) (watchwordlaw21_PathsTriangle.f (k + 1) a0 a1 a2 a3 a4 a5 a6 a7 a8 a9 a10 a11 a12 a13 a14 a15 a16 a17) := by
 intro a0 a1 a2 a3 a4 a5 a6 a7 a8 a9 a10 a11 a12 a13 a14 a15 a16 a17 k
 obtain ⟨ih0, ih1, ih2, ih3, ih4, ih5, ih6⟩ := watchwordlaw21_PathsTriangle.mono_l k
 unfold watchwordlaw21_PathsTriangle.f
 repeat' first
   | (with_reducible exact ih0 _ _ _ _ _ _ _ _ _ _ _ _ _ _ _ _ _ _ _ _)
   | (with_reducible exact ih1 _ _ _ _ _ _ _ _ _ _ _ _ _ _ _ _ _ _ _ _ _ _ _ _ _)
   | (with_reducible exact ih2 _ _ _ _ _ _ _ _ _ _ _ _ _ _ _ _ _ _ _ _ _ _ _ _ _)
   | (with_reducible exact ih3 _ _ _ _ _ _ _ _ _ _ _ _ _ _ _ _ _ _ _ _ _ _ _ _ _ _)
   | (with_reducible exact ih4 _ _ _ _ _ _ _ _ _ _ _ _ _ _ _ _ _ _)
   | (with_reducible exact ih5 _ _ _)
   | (with_reducible exact ih6 _ _ _)
   | (with_reducible exact paths_Routes.mono _ _ _ _ _ _ _ _ _ _ _ _ _ _ _ _ _ _)
   | (with_reducible exact watchwordlaw21_awake.mono _)
   | (with_reducible exact LeO.refl _)
   | (with_reducible exact LeO.none _)
   | (with_reducible refine LeO.ite ?_ ?_)
   | (with_reducible refine LeO.bind ?_ (fun _ => ?_))
   | exact ih0 _ _ _ _ _ _ _ _ _ _ _ _ _ _ _ _ _ _ _ _
   | exact ih1 _ _ _ _ _ _ _ _ _ _ _ _ _ _ _ _ _ _ _ _ _ _ _ _ _
   | exact ih2 _ _ _ _ _ _ _ _ _ _ _ _ _ _ _ _ _ _ _ _ _ _ _ _ _
   | exact ih3 _ _ _ _ _ _ _ _ _ _ _ _ _ _ _ _ _ _ _ _ _ _ _ _ _ _
   | exact ih4 _ _ _ _ _ _ _ _ _ _ _ _ _ _ _ _ _ _
   | exact ih5 _ _ _
   | exact ih6 _ _ _
   | exact paths_Routes.mono _ _ _ _ _ _ _ _ _ _ _ _ _ _ _ _ _ _
   | exact watchwordlaw21_awake.mono _
   | exact LeO.none _
   | refine LeO.ite ?_ ?_
   | refine LeO.bind ?_ (fun _ => ?_)
def watchwordlaw21_PathsTriangle.T14 : Bool × List (List Nat × List Nat) := (true, [([], []), ([], []), ([0, 1], [0, 1]), ([2], [2]), ([3], [3]), ([], []), ([], []), ([5, 6], [5, 6]), ([7], [7]), ([8], [8]), ([4, 0, 1, 2, 3, 4, 5, 6, 7, 8, 9], [4]), ([10, 9, 0, 1, 2, 3, 4, 5, 6, 7, 8, 9], [9, 10])])
def watchwordlaw21_PathsTriangle.B14 : List Nat := [0, 0, 3, 7, 15, 0, 0, 96, 224, 480, 1023, 2047]
theorem watchwordlaw21_PathsTriangle.tab14 : rtab .any (opsOf Try.f6 14) = watchwordlaw21_PathsTriangle.T14 := by kernel_rfl
theorem watchwordlaw21_PathsTriangle.bits14 : waitsOk watchwordlaw21_PathsTriangle.T14.2 watchwordlaw21_PathsTriangle.B14 = true := by kernel_rfl
def watchwordlaw21_PathsTriangle.T22 : Bool × List (List Nat × List Nat) := (true, [([], []), ([], []), ([0, 1], [0, 1]), ([2], [2]), ([3], [3]), ([3, 4], [3, 4]), ([5, 3], [5]), ([6], [6]), ([7, 6], [6, 7]), ([6], [6]), ([9, 6], [6, 9]), ([8, 6], [6, 8]), ([11, 10, 6], [6, 10, 11]), ([12, 6], [6, 12]), ([13, 6], [6, 13]), ([6, 14], [6, 14]), ([15, 6], [15]), ([16], [16]), ([17, 16], [16, 17]), ([18, 16], [16, 18]), ([19, 16], [16, 19]), ([20, 16, 16], [16, 20]), ([21], [21]), ([22, 21], [21, 22]), ([23, 21], [21, 23]), ([21], [21]), ([25, 21], [21, 25]), ([26, 21], [21, 26]), ([21], [21]), ([28, 21], [21, 28]), ([21], [21]), ([30, 21], [21, 30]), ([29, 21], [21, 29]), ([32, 31, 21], [21, 31, 32]), ([33, 21], [21, 33]), ([27, 34, 21], [21, 27, 34]), ([24, 35, 21], [21, 24, 35]), ([21, 36, 16], [16, 21, 36]), ([16, 37], [16, 37])])
def watchwordlaw21_PathsTriangle.B22 : List Nat := [0, 0, 3, 7, 15, 31, 63, 127, 255, 127, 639, 511, 4095, 8191, 16383, 32767, 65535, 131071, 262143, 524287, 1048575, 2097151, 4194303, 8388607, 16777215, 4194303, 37748735, 104857599, 4194303, 272629759, 4194303, 1077936127, 809500671, 8325693439, 16915628031, 34330378239, 68719476735, 137438953471, 274877906943]
theorem watchwordlaw21_PathsTriangle.tab22 : rtab .any (opsOf Try.f6 22) = watchwordlaw21_PathsTriangle.T22 := by kernel_rfl
theorem watchwordlaw21_PathsTriangle.bits22 : waitsOk watchwordlaw21_PathsTriangle.T22.2 watchwordlaw21_PathsTriangle.B22 = true := by kernel_rfl
def watchwordlaw21_PathsTriangle.T27 : Bool × List (List Nat × List Nat) := (true, [([], []), ([], []), ([0], [0]), ([2, 1], [1, 2]), ([3], [3]), ([4], [4]), ([0], [0]), ([6, 1, 0, 1, 2, 3, 4, 5], [1, 6]), ([7, 5, 0, 1, 2, 3, 4, 5], [5, 7])])
def watchwordlaw21_PathsTriangle.B27 : List Nat := [0, 0, 1, 7, 15, 31, 1, 127, 255]
theorem watchwordlaw21_PathsTriangle.tab27 : rtab .any (opsOf Try.f6 27) = watchwordlaw21_PathsTriangle.T27 := by kernel_rfl
theorem watchwordlaw21_PathsTriangle.bits27 : waitsOk watchwordlaw21_PathsTriangle.T27.2 watchwordlaw21_PathsTriangle.B27 = true := by kernel_rfl
def watchwordlaw21_PathsTriangle.T34 : Bool × List (List Nat × List Nat) := (true, [([], []), ([], []), ([0, 1], [0, 1]), ([2], [2]), ([3], [3]), ([], []), ([], []), ([5, 6], [5, 6]), ([7], [7]), ([8], [8]), ([4, 9], [4, 9]), ([10], [10]), ([11], [11]), ([11], [11]), ([12, 13, 11], [11, 12, 13]), ([14, 11], [11, 14]), ([15, 11], [11, 15]), ([11], [11]), ([11], [11]), ([17, 18, 11], [11, 17, 18]), ([19, 11], [11, 19]), ([20, 11], [11, 20]), ([16, 21, 11], [11, 16, 21]), ([11, 22], [11, 22]), ([23, 11], [23]), ([24], [24]), ([24], [24]), ([25, 26, 24], [24, 25, 26]), ([27, 24], [24, 27]), ([28, 24], [24, 28]), ([24], [24]), ([24], [24]), ([30, 31, 24], [24, 30, 31]), ([32, 24], [24, 32]), ([33, 24], [24, 33]), ([34, 24], [24, 34]), ([29, 35, 24], [24, 29, 35]), ([24, 36], [24, 36])])
def watchwordlaw21_PathsTriangle.B34 : List Nat := [0, 0, 3, 7, 15, 0, 0, 96, 224, 480, 1023, 2047, 4095, 4095, 16383, 32767, 65535, 4095, 4095, 397311, 921599, 1970175, 4194303, 8388607, 16777215, 33554431, 33554431, 134217727, 268435455, 536870911, 33554431, 33554431, 3254779903, 7549747199, 16139681791, 33319550975, 68719476735, 137438953471]
theorem watchwordlaw21_PathsTriangle.tab34 : rtab .any (opsOf Try.f6 34) = watchwordlaw21_PathsTriangle.T34 := by kernel_rfl
theorem watchwordlaw21_PathsTriangle.bits34 : waitsOk watchwordlaw21_PathsTriangle.T34.2 watchwordlaw21_PathsTriangle.B34 = true := by kernel_rfl
end Go.Proofs.Ytjbejbehbjhecaa.Q21n
namespace Go.Proofs.Ytjbejbehbjhecaa.Q21n
open Go.RowKit Go.Proofs.YtjbejbehbjhecaaW.PrintWords Go.Proofs.YtjbejbehbjhecaaW.PrintLast Go.Proofs.YtjbejbehbjhecaaW.PrintMore
attribute [local go_sem] max2_int min2_int max_two min_two max_three min_three max_four min_four   -- for this text's walks alone
set_option linter.unusedVariables false
set_option linter.unusedSimpArgs false

set_option maxHeartbeats 8000000 in
set_option maxRecDepth 100000 in
theorem watchwordlaw21_PathsTriangle.round : ∀ (k : Nat) (a0_0 a0_1 a0_2 a0_3 a0_4 a0_5 a0_6 a0_7 a0_8 a0_9 a0_10 a0_11 a0_12 a0_13 a0_14 a0_15 a1 a2 : Int) (r : Bool) (w : Go.World),
 Go.Program.underlying Try.prog 23 = some (Go.TypeDesc.array 4 22) →
 Go.Program.underlying Try.prog 44 = some (Go.TypeDesc.array 5 3) →
 Aside0 (r = true) →
 Aside0 (watchwordlaw21_awake.f k = some true) →
 ∀ (t206 : List S41) (t209 : Int),
 Aside0 (paths_Routes.f k a0_0 a0_1 a0_2 a0_3 a0_4 a0_5 a0_6 a0_7 a0_8 a0_9 a0_10 a0_11 a0_12 a0_13 a0_14 a0_15 a1 = some (t206, t209)) →
 ∀ (t210 : Int),
 Aside0 (watchwordlaw0_Num.f t209 = some t210) →
 let z1_ := Go.bodyPost Try.prog Try.f6 fun (e : Go.Ending) (w' : Go.World) => e = Go.Ending.returned (Go.Value.bool r) ∧ Below (Array.size (Go.World.heap w)) w w';
 ∀ (gb204 : Nat) (w10 : Go.World),
 Aside0 (Array.size (Go.World.heap w) ≤ gb204) →
 Aside0 (Array.size (Go.World.heap w) ≤ gb204) →
 ∀ (w11 w13 : Go.World),
 Aside0 ((Go.World.heap w13)[gb204]? = some (Go.Obj.cells #[Go.Value.int Go.IntKind.i64 a0_0, Go.Value.int Go.IntKind.i64 a0_1, Go.Value.int Go.IntKind.i64 a0_2, Go.Value.int Go.IntKind.i64 a0_3, Go.Value.int Go.IntKind.i64 a0_4, Go.Value.int Go.IntKind.i64 a0_5, Go.Value.int Go.IntKind.i64 a0_6, Go.Value.int Go.IntKind.i64 a0_7, Go.Value.int Go.IntKind.i64 a0_8, Go.Value.int Go.IntKind.i64 a0_9, Go.Value.int Go.IntKind.i64 a0_10, Go.Value.int Go.IntKind.i64 a0_11, Go.Value.int Go.IntKind.i64 a0_12, Go.Value.int Go.IntKind.i64 a0_13, Go.Value.int Go.IntKind.i64 a0_14, Go.Value.int Go.IntKind.i64 a0_15] 23)) →
 Aside0 (Below (Array.size (Go.World.heap w)) w w13) →
 ∀ (nd : Nat) (wc : Go.World) (u20 u21 u22 u23 u24 u25 u26 u27 u28 u29 u30 u31 u32 u33 u34 u35 u36 u37 u38 z4_ z5_ z6_ z7_ z8_ z9_ z10_ z11_ z12_ z13_ z14_ z15_ z16_ z17_ z18_ z19_ z20_ z21_ z22_ z23_ z24_ z25_ z26_ z27_ z28_ z29_ z30_ z31_ z32_ z33_ z34_ z35_ z36_ z37_ z38_ z39_ z40_ z41_ z42_ z43_ z44_ z45_ z46_ z47_ z48_ z49_ z50_ z51_ z52_ z53_ z54_ z55_ z56_ z57_ z58_ z59_ z60_ z61_ z62_ z63_ z64_ z65_ z66_ z67_ z68_ z69_ z70_ z71_ z72_ z73_ z74_ z75_ z76_ z77_ z78_ z79_ z80_ z81_ z82_ z83_ z84_ z85_ z86_ z87_ z88_ z89_ z90_ u127 u128 u129 u130 u131 u132 u133 u134 u135 u136 u137 u138 u139 u140 u141 u142 u143 u144 u145 u146 u147 u148 u149 u150 u151 u152 u153 u154 u155 u156 u157 u158 u159 u160 u161 u162 u163 u164 u165 u166 u167 u168 u169 u170 u171 u172 u173 u174 u175 u176 u177 u178 u179 u180 u181 u182 u183 u184 u185 u186 u187 u188 u189 u190 u191 u192 u193 u194 u195 u196 u197 u198 u199 u200 u201 u202 u203 u204 u205 u206 : Go.Value) (kj8 : Nat),
 Aside0 (kj8 + 1 ≤ k) →
 ∀ (gb211 : Nat) (w16 : Go.World),
 Aside0 ((Go.World.heap w16)[gb204]? = some (Go.Obj.cells #[Go.Value.int Go.IntKind.i64 a0_0, Go.Value.int Go.IntKind.i64 a0_1, Go.Value.int Go.IntKind.i64 a0_2, Go.Value.int Go.IntKind.i64 a0_3, Go.Value.int Go.IntKind.i64 a0_4, Go.Value.int Go.IntKind.i64 a0_5, Go.Value.int Go.IntKind.i64 a0_6, Go.Value.int Go.IntKind.i64 a0_7, Go.Value.int Go.IntKind.i64 a0_8, Go.Value.int Go.IntKind.i64 a0_9, Go.Value.int Go.IntKind.i64 a0_10, Go.Value.int Go.IntKind.i64 a0_11, Go.Value.int Go.IntKind.i64 a0_12, Go.Value.int Go.IntKind.i64 a0_13, Go.Value.int Go.IntKind.i64 a0_14, Go.Value.int Go.IntKind.i64 a0_15] 23)) →
 Aside0 (Below (Array.size (Go.World.heap w)) w w16) →
 Aside0 ((Go.World.heap w16)[gb211]? = some (Go.Obj.cells #[Go.Value.int Go.IntKind.i64 0, Go.Value.int Go.IntKind.i64 0, Go.Value.int Go.IntKind.i64 0, Go.Value.int Go.IntKind.i64 0, Go.Value.int Go.IntKind.i64 0] 44)) →
 Aside0 (Array.size (Go.World.heap w) ≤ gb211) →
 Aside0 (Array.size (Go.World.heap w) ≤ gb211) →
 Aside0 (gb204 ≠ gb211) →
 Aside0 (gb211 ≠ gb204) →
 ∀ (z94_ : Go.Act → Go.World → Prop) (z95_ : Go.World) (z96_ u40 u41 u42 u43 u44 u45 u46 u47 u48 u49 u50 u51 u52 u53 u54 u55 u56 u57 u58 u59 u60 u61 u62 u63 u64 u65 u66 u67 u68 u69 u70 : Go.Value) (z97_ : Nat → Go.Act → Go.World → Prop) (z98_ : Go.Act → Go.World → Prop) (x10_2 x212000_2 x212001_2 x212002_2 x212003_2 x212004_2 : Int),
 Aside0 ((Go.World.heap z95_)[gb204]? = some (Go.Obj.cells #[Go.Value.int Go.IntKind.i64 a0_0, Go.Value.int Go.IntKind.i64 a0_1, Go.Value.int Go.IntKind.i64 a0_2, Go.Value.int Go.IntKind.i64 a0_3, Go.Value.int Go.IntKind.i64 a0_4, Go.Value.int Go.IntKind.i64 a0_5, Go.Value.int Go.IntKind.i64 a0_6, Go.Value.int Go.IntKind.i64 a0_7, Go.Value.int Go.IntKind.i64 a0_8, Go.Value.int Go.IntKind.i64 a0_9, Go.Value.int Go.IntKind.i64 a0_10, Go.Value.int Go.IntKind.i64 a0_11, Go.Value.int Go.IntKind.i64 a0_12, Go.Value.int Go.IntKind.i64 a0_13, Go.Value.int Go.IntKind.i64 a0_14, Go.Value.int Go.IntKind.i64 a0_15] 23)) →
 Aside0 ((Go.World.heap z95_)[gb211]? = some (Go.Obj.cells #[Go.Value.int Go.IntKind.i64 x212000_2, Go.Value.int Go.IntKind.i64 x212001_2, Go.Value.int Go.IntKind.i64 x212002_2, Go.Value.int Go.IntKind.i64 x212003_2, Go.Value.int Go.IntKind.i64 x212004_2] 44)) →
 Aside0 (Below (Array.size (Go.World.heap w)) w z95_) →
 ∀ (k2 : Nat),
 (∀ (a' : Go.Act) (w' : Go.World), Go.Handed z97_ (k2 + 1) a' w' → z98_ a' w') →
 Aside0 (k2 + 1 ≤ kj8) →
 ∀ (Ao27 : Option Go.Addr) (co27 : Nat),
 Aside0 (Kd.S k41 41 w13 (Array.size (Go.World.heap w)) (fun (x : Nat) => True) (Go.Value.slice Ao27 (List.length t206) co27) t206) →
 Aside0 (Kd.S k41 41 w16 (Array.size (Go.World.heap w)) (fun (x : Nat) => True) (Go.Value.slice Ao27 (List.length t206) co27) t206) →
 (∀ (k : Nat) (a' : Go.Act) (w' : Go.World),
 (∃ (u6 : Go.Value),
 ∃ (u10 : Go.Value),
 ∃ (u40 : Go.Value),
 ∃ (u41 : Go.Value),
 ∃ (u42 : Go.Value),
 ∃ (u43 : Go.Value),
 ∃ (u44 : Go.Value),
 ∃ (u45 : Go.Value),
 ∃ (u46 : Go.Value),
 ∃ (u47 : Go.Value),
 ∃ (u48 : Go.Value),
 ∃ (u49 : Go.Value),
 ∃ (u50 : Go.Value),
 ∃ (u51 : Go.Value),
 ∃ (u52 : Go.Value),
 ∃ (u53 : Go.Value),
 ∃ (u54 : Go.Value),
 ∃ (u55 : Go.Value),
 ∃ (u56 : Go.Value),
 ∃ (u57 : Go.Value),
 ∃ (u58 : Go.Value),
 ∃ (u59 : Go.Value),
 ∃ (u60 : Go.Value),
 ∃ (u61 : Go.Value),
 ∃ (u62 : Go.Value),
 ∃ (u63 : Go.Value),
 ∃ (u64 : Go.Value),
 ∃ (u65 : Go.Value),
 ∃ (u66 : Go.Value),
 ∃ (u67 : Go.Value),
 ∃ (u68 : Go.Value),
 ∃ (u69 : Go.Value),
 ∃ (u70 : Go.Value),
 (∃ (x10_2 : Int), ∃ (x212000_2 : Int), ∃ (x212001_2 : Int), ∃ (x212002_2 : Int), ∃ (x212003_2 : Int), ∃ (x212004_2 : Int), u10 = Go.Value.int Go.IntKind.i64 x10_2 ∧ Aside0 (watchwordlaw21_PathsTriangle.l0 k a1 a2 t206 x10_2 a0_0 a0_1 a0_2 a0_3 a0_4 a0_5 a0_6 a0_7 a0_8 a0_9 a0_10 a0_11 a0_12 a0_13 a0_14 a0_15 x212000_2 x212001_2 x212002_2 x212003_2 x212004_2 = some r) ∧ Aside0 (k ≤ kj8) ∧ Aside0 (Kd.S k41 41 w' (Array.size (Go.World.heap w)) (fun (x : Nat) => True) (Go.Value.slice Ao27 (List.length t206) co27) t206) ∧ Aside0 ((Go.World.heap w')[gb204]? = some (Go.Obj.cells #[Go.Value.int Go.IntKind.i64 a0_0, Go.Value.int Go.IntKind.i64 a0_1, Go.Value.int Go.IntKind.i64 a0_2, Go.Value.int Go.IntKind.i64 a0_3, Go.Value.int Go.IntKind.i64 a0_4, Go.Value.int Go.IntKind.i64 a0_5, Go.Value.int Go.IntKind.i64 a0_6, Go.Value.int Go.IntKind.i64 a0_7, Go.Value.int Go.IntKind.i64 a0_8, Go.Value.int Go.IntKind.i64 a0_9, Go.Value.int Go.IntKind.i64 a0_10, Go.Value.int Go.IntKind.i64 a0_11, Go.Value.int Go.IntKind.i64 a0_12, Go.Value.int Go.IntKind.i64 a0_13, Go.Value.int Go.IntKind.i64 a0_14, Go.Value.int Go.IntKind.i64 a0_15] 23)) ∧ Aside0 ((Go.World.heap w')[gb211]? = some (Go.Obj.cells #[Go.Value.int Go.IntKind.i64 x212000_2, Go.Value.int Go.IntKind.i64 x212001_2, Go.Value.int Go.IntKind.i64 x212002_2, Go.Value.int Go.IntKind.i64 x212003_2, Go.Value.int Go.IntKind.i64 x212004_2] 44)) ∧ Aside0 (Below (Array.size (Go.World.heap w)) w w')) ∧
 a' = { tmps := #[Go.Value.agg #[Go.Value.int Go.IntKind.i64 a0_0, Go.Value.int Go.IntKind.i64 a0_1, Go.Value.int Go.IntKind.i64 a0_2, Go.Value.int Go.IntKind.i64 a0_3, Go.Value.int Go.IntKind.i64 a0_4, Go.Value.int Go.IntKind.i64 a0_5, Go.Value.int Go.IntKind.i64 a0_6, Go.Value.int Go.IntKind.i64 a0_7, Go.Value.int Go.IntKind.i64 a0_8, Go.Value.int Go.IntKind.i64 a0_9, Go.Value.int Go.IntKind.i64 a0_10, Go.Value.int Go.IntKind.i64 a0_11, Go.Value.int Go.IntKind.i64 a0_12, Go.Value.int Go.IntKind.i64 a0_13, Go.Value.int Go.IntKind.i64 a0_14, Go.Value.int Go.IntKind.i64 a0_15], Go.Value.int Go.IntKind.i64 a1, Go.Value.int Go.IntKind.i64 a2, Go.Value.pointer (some { block := gb204, off := 0 }), Go.undef, Go.undef, u6, Go.Value.slice Ao27 (List.length t206) co27, Go.Value.int Go.IntKind.i64 t209, Go.Value.pointer (some { block := gb211, off := 0 }), u10, Go.undef, Go.undef, Go.undef, Go.undef, Go.undef, Go.undef, Go.undef, Go.undef, Go.undef, u20, u21, u22, u23, u24, u25, u26, u27, u28, u29, u30, u31, u32, u33, u34, u35, u36, u37, u38, Go.Value.bool false, u40, u41, u42, u43, u44, u45, u46, u47, u48, u49, u50, u51, u52, u53, u54, u55, u56, u57, u58, u59, u60, u61, u62, u63, u64, u65, u66, u67, u68, u69, u70, z35_, z36_, z37_, z38_, z39_, z40_, z41_, z42_, z43_, z44_, z45_, z46_, z47_, z48_, z49_, z50_, z51_, z52_, z53_, z54_, z55_, z56_, z57_, z58_, z59_, z60_, z61_, z62_, z63_, z64_, z65_, z66_, z67_, z68_, z69_, z70_, z71_, z72_, z73_, z74_, z75_, z76_, z77_, z78_, z79_, z80_, z81_, z82_, z83_, z84_, z85_, z86_, z87_, z88_, z89_, z90_, u127, u128, u129, u130, u131, u132, u133, u134, u135, u136, u137, u138, u139, u140, u141, u142, u143, u144, u145, u146, u147, u148, u149, u150, u151, u152, u153, u154, u155, u156, u157, u158, u159, u160, u161, u162, u163, u164, u165, u166, u167, u168, u169, u170, u171, u172, u173, u174, u175, u176, u177, u178, u179, u180, u181, u182, u183, u184, u185, u186, u187, u188, u189, u190, u191, u192, u193, u194, u195, u196, u197, u198, u199, u200, u201, u202, u203, u204, u205, u206], defers := [] }) →
 z97_ k a' w') →
 Aside0 (Kd.S k41 41 z95_ (Array.size (Go.World.heap w)) (fun (x : Nat) => True) (Go.Value.slice Ao27 (List.length t206) co27) t206) →
 ∀ (z106_ : Go.Act → Go.World → Prop),
 (∀ (a : Go.Act) (w : Go.World),
 Go.Code.wp Try.prog
 (Go.Code.seq
 (Go.Code.block 1
 (Go.Code.seq (Go.Code.seq (Go.Code.region 12 #[{ dst := some 46, op := Go.Op.move (Go.Operand.tmp 7), type := 24, pos := "more.go:38", after := #[], guard := none }, { dst := some 47, op := Go.Op.move (Go.Operand.tmp 10), type := 3, pos := "more.go:38", after := #[], guard := none }, { dst := some 48, op := Go.Op.indexAddr 24 (Go.Operand.tmp 46) (Go.Operand.tmp 47), type := 0, pos := "more.go:38", after := #[{ on := 0, ground := Go.Ground.data }, { on := 1, ground := Go.Ground.data }], guard := none }, { dst := some 49, op := Go.Op.fieldAddr 41 (Go.Operand.tmp 48) 0, type := 0, pos := "more.go:38", after := #[{ on := 2, ground := Go.Ground.data }], guard := none }, { dst := some 50, op := Go.Op.load 3 (Go.Operand.tmp 49), type := 3, pos := "more.go:38", after := #[{ on := 3, ground := Go.Ground.data }], guard := none }, { dst := some 51, op := Go.Op.binOp Go.BinOp.lss 3 (Go.Operand.tmp 50) (Go.Operand.const (Go.Value.int Go.IntKind.i64 1)) 3, type := 4, pos := "more.go:38", after := #[{ on := 4, ground := Go.Ground.data }], guard := none }, { dst := some 52, op := Go.Op.move (Go.Operand.tmp 51), type := 4, pos := "more.go:38", after := #[{ on := 5, ground := Go.Ground.data }], guard := none }, { dst := some 53, op := Go.Op.move (Go.Operand.tmp 7), type := 24, pos := "more.go:38", after := #[{ on := 6, ground := Go.Ground.guard }], guard := some (6, false) }, { dst := some 54, op := Go.Op.move (Go.Operand.tmp 10), type := 3, pos := "more.go:38", after := #[{ on := 6, ground := Go.Ground.guard }], guard := some (6, false) }, { dst := some 55, op := Go.Op.indexAddr 24 (Go.Operand.tmp 53) (Go.Operand.tmp 54), type := 0, pos := "more.go:38", after := #[{ on := 7, ground := Go.Ground.data }, { on := 8, ground := Go.Ground.data }, { on := 6, ground := Go.Ground.guard }], guard := some (6, false) }, { dst := some 56, op := Go.Op.fieldAddr 41 (Go.Operand.tmp 55) 0, type := 0, pos := "more.go:38", after := #[{ on := 9, ground := Go.Ground.data }, { on := 6, ground := Go.Ground.guard }], guard := some (6, false) }, { dst := some 57, op := Go.Op.load 3 (Go.Operand.tmp 56), type := 3, pos := "more.go:38", after := #[{ on := 10, ground := Go.Ground.data }, { on := 6, ground := Go.Ground.guard }], guard := some (6, false) }, { dst := some 58, op := Go.Op.binOp Go.BinOp.gtr 3 (Go.Operand.tmp 57) (Go.Operand.const (Go.Value.int Go.IntKind.i64 4)) 3, type := 4, pos := "more.go:38", after := #[{ on := 11, ground := Go.Ground.data }, { on := 6, ground := Go.Ground.guard }], guard := some (6, false) }, { dst := some 59, op := Go.Op.pick (Go.Operand.tmp 52) (Go.Operand.const (Go.Value.bool true)) (Go.Operand.tmp 58), type := 4, pos := "more.go:38", after := #[{ on := 6, ground := Go.Ground.data }, { on := 12, ground := Go.Ground.data }], guard := none }] false) (Go.Code.cond (Go.Operand.tmp 59) (Go.Code.seq (Go.Code.region 13 #[{ dst := some 6, op := Go.Op.assign (Go.Operand.const (Go.Value.bool false)), type := 4, pos := "more.go:39", after := #[], guard := none }] false) Go.Code.ret) Go.Code.skip))
 (Go.Code.region 14 #[{ dst := some 60, op := Go.Op.move (Go.Operand.tmp 7), type := 24, pos := "more.go:41", after := #[], guard := none }, { dst := some 61, op := Go.Op.move (Go.Operand.tmp 10), type := 3, pos := "more.go:41", after := #[], guard := none }, { dst := some 62, op := Go.Op.indexAddr 24 (Go.Operand.tmp 60) (Go.Operand.tmp 61), type := 0, pos := "more.go:41", after := #[{ on := 0, ground := Go.Ground.data }, { on := 1, ground := Go.Ground.data }], guard := none }, { dst := some 63, op := Go.Op.fieldAddr 41 (Go.Operand.tmp 62) 0, type := 0, pos := "more.go:41", after := #[{ on := 2, ground := Go.Ground.data }], guard := none }, { dst := some 64, op := Go.Op.load 3 (Go.Operand.tmp 63), type := 3, pos := "more.go:41", after := #[{ on := 3, ground := Go.Ground.data }], guard := none }, { dst := some 65, op := Go.Op.move (Go.Operand.tmp 7), type := 24, pos := "more.go:41", after := #[], guard := none }, { dst := some 66, op := Go.Op.move (Go.Operand.tmp 10), type := 3, pos := "more.go:41", after := #[], guard := none }, { dst := some 67, op := Go.Op.indexAddr 24 (Go.Operand.tmp 65) (Go.Operand.tmp 66), type := 0, pos := "more.go:41", after := #[{ on := 5, ground := Go.Ground.data }, { on := 6, ground := Go.Ground.data }], guard := none }, { dst := some 68, op := Go.Op.fieldAddr 41 (Go.Operand.tmp 67) 1, type := 0, pos := "more.go:41", after := #[{ on := 7, ground := Go.Ground.data }], guard := none }, { dst := some 69, op := Go.Op.load 3 (Go.Operand.tmp 68), type := 3, pos := "more.go:41", after := #[{ on := 8, ground := Go.Ground.data }], guard := none }, { dst := some 70, op := Go.Op.indexAddr 44 (Go.Operand.tmp 9) (Go.Operand.tmp 64), type := 0, pos := "more.go:41", after := #[{ on := 4, ground := Go.Ground.data }, { on := 0, ground := Go.Ground.phase }, { on := 1, ground := Go.Ground.phase }, { on := 2, ground := Go.Ground.phase }, { on := 3, ground := Go.Ground.phase }, { on := 4, ground := Go.Ground.phase }, { on := 5, ground := Go.Ground.phase }, { on := 6, ground := Go.Ground.phase }, { on := 7, ground := Go.Ground.phase }, { on := 8, ground := Go.Ground.phase }, { on := 9, ground := Go.Ground.phase }], guard := none }, { dst := none, op := Go.Op.store 3 (Go.Operand.tmp 70) (Go.Operand.tmp 69), type := 0, pos := "more.go:41", after := #[{ on := 10, ground := Go.Ground.data }, { on := 9, ground := Go.Ground.data }, { on := 0, ground := Go.Ground.phase }, { on := 1, ground := Go.Ground.phase }, { on := 2, ground := Go.Ground.phase }, { on := 3, ground := Go.Ground.phase }, { on := 4, ground := Go.Ground.phase }, { on := 5, ground := Go.Ground.phase }, { on := 6, ground := Go.Ground.phase }, { on := 7, ground := Go.Ground.phase }, { on := 8, ground := Go.Ground.phase }, { on := 9, ground := Go.Ground.phase }], guard := none }] true)))
 (Go.Code.region 11 #[{ dst := some 44, op := Go.Op.move (Go.Operand.tmp 10), type := 3, pos := "more.go:37", after := #[], guard := none }, { dst := some 45, op := Go.Op.binOp Go.BinOp.add 3 (Go.Operand.tmp 44) (Go.Operand.const (Go.Value.int Go.IntKind.i64 1)) 3, type := 3, pos := "more.go:37", after := #[{ on := 0, ground := Go.Ground.data }], guard := none }, { dst := some 10, op := Go.Op.assign (Go.Operand.tmp 45), type := 3, pos := "more.go:37", after := #[{ on := 1, ground := Go.Ground.data }, { on := 0, ground := Go.Ground.phase }, { on := 1, ground := Go.Ground.phase }], guard := none }] false))
 (Go.Exit.then z98_ (Go.Exit.inBlock 0 (Go.Exit.then z94_ z1_))) a w →
 z106_ a w) →
 ∀ (z108_ : Go.Act → Go.World → Prop),
 (∀ (a : Go.Act) (w : Go.World),
 Go.Code.wp Try.prog
 (Go.Code.seq (Go.Code.region 24 #[{ dst := some 127, op := Go.Op.load 23 (Go.Operand.tmp 3), type := 23, pos := "more.go:51", after := #[], guard := none }, { dst := some 14, op := Go.Op.alloc 23, type := 0, pos := "more.go:51", after := #[], guard := none }, { dst := none, op := Go.Op.store 23 (Go.Operand.tmp 14) (Go.Operand.tmp 127), type := 0, pos := "more.go:51", after := #[{ on := 1, ground := Go.Ground.data }, { on := 0, ground := Go.Ground.data }, { on := 0, ground := Go.Ground.phase }, { on := 1, ground := Go.Ground.phase }], guard := none }] false)
 (Go.Code.seq (Go.Code.region 25 #[{ dst := some 128, op := Go.Op.move (Go.Operand.tmp 2), type := 3, pos := "more.go:52", after := #[], guard := none }, { dst := some 129, op := Go.Op.binOp Go.BinOp.and 3 (Go.Operand.tmp 128) (Go.Operand.const (Go.Value.int Go.IntKind.i64 3)) 3, type := 3, pos := "more.go:52", after := #[{ on := 0, ground := Go.Ground.data }], guard := none }, { dst := some 130, op := Go.Op.move (Go.Operand.tmp 2), type := 3, pos := "more.go:52", after := #[{ on := 5, ground := Go.Ground.gcOnly Go.Departure.lateStores }], guard := none }, { dst := some 131, op := Go.Op.binOp Go.BinOp.shr 3 (Go.Operand.tmp 130) (Go.Operand.const (Go.Value.int Go.IntKind.u64 2)) 42, type := 3, pos := "more.go:52", after := #[{ on := 2, ground := Go.Ground.data }, { on := 5, ground := Go.Ground.gcOnly Go.Departure.lateStores }], guard := none }, { dst := some 132, op := Go.Op.binOp Go.BinOp.and 3 (Go.Operand.tmp 131) (Go.Operand.const (Go.Value.int Go.IntKind.i64 3)) 3, type := 3, pos := "more.go:52", after := #[{ on := 3, ground := Go.Ground.data }, { on := 5, ground := Go.Ground.gcOnly Go.Departure.lateStores }], guard := none }, { dst := some 15, op := Go.Op.assign (Go.Operand.tmp 129), type := 3, pos := "more.go:52", after := #[{ on := 1, ground := Go.Ground.data }, { on := 0, ground := Go.Ground.phase }, { on := 1, ground := Go.Ground.phase }, { on := 2, ground := Go.Ground.textOnly Go.Departure.lateStores }, { on := 3, ground := Go.Ground.textOnly Go.Departure.lateStores }, { on := 4, ground := Go.Ground.textOnly Go.Departure.lateStores }], guard := none }, { dst := some 16, op := Go.Op.assign (Go.Operand.tmp 132), type := 3, pos := "more.go:52", after := #[{ on := 4, ground := Go.Ground.data }, { on := 5, ground := Go.Ground.chain }, { on := 0, ground := Go.Ground.phase }, { on := 1, ground := Go.Ground.phase }, { on := 2, ground := Go.Ground.phase }, { on := 3, ground := Go.Ground.phase }, { on := 4, ground := Go.Ground.phase }, { on := 5, ground := Go.Ground.phase }], guard := none }] false)
 (Go.Code.seq (Go.Code.seq (Go.Code.region 26 #[{ dst := some 133, op := Go.Op.move (Go.Operand.tmp 15), type := 3, pos := "more.go:53", after := #[], guard := none }, { dst := some 134, op := Go.Op.move (Go.Operand.tmp 16), type := 3, pos := "more.go:53", after := #[], guard := none }, { dst := some 135, op := Go.Op.indexAddr 23 (Go.Operand.tmp 14) (Go.Operand.tmp 133), type := 0, pos := "more.go:53", after := #[{ on := 0, ground := Go.Ground.data }], guard := none }, { dst := some 136, op := Go.Op.indexAddr 22 (Go.Operand.tmp 135) (Go.Operand.tmp 134), type := 0, pos := "more.go:53", after := #[{ on := 2, ground := Go.Ground.data }, { on := 1, ground := Go.Ground.data }], guard := none }, { dst := some 137, op := Go.Op.load 3 (Go.Operand.tmp 136), type := 3, pos := "more.go:53", after := #[{ on := 3, ground := Go.Ground.data }], guard := none }, { dst := some 138, op := Go.Op.binOp Go.BinOp.gtr 3 (Go.Operand.tmp 137) (Go.Operand.const (Go.Value.int Go.IntKind.i64 1)) 3, type := 4, pos := "more.go:53", after := #[{ on := 4, ground := Go.Ground.data }], guard := none }] false) (Go.Code.cond (Go.Operand.tmp 138) (Go.Code.region 27 #[{ dst := some 139, op := Go.Op.move (Go.Operand.tmp 15), type := 3, pos := "more.go:54", after := #[], guard := none }, { dst := some 140, op := Go.Op.move (Go.Operand.tmp 16), type := 3, pos := "more.go:54", after := #[], guard := none }, { dst := some 141, op := Go.Op.indexAddr 23 (Go.Operand.tmp 14) (Go.Operand.tmp 139), type := 0, pos := "more.go:54", after := #[{ on := 0, ground := Go.Ground.data }], guard := none }, { dst := some 142, op := Go.Op.indexAddr 22 (Go.Operand.tmp 141) (Go.Operand.tmp 140), type := 0, pos := "more.go:54", after := #[{ on := 2, ground := Go.Ground.data }, { on := 1, ground := Go.Ground.data }], guard := none }, { dst := some 143, op := Go.Op.load 3 (Go.Operand.tmp 142), type := 3, pos := "more.go:54", after := #[{ on := 3, ground := Go.Ground.data }], guard := none }, { dst := some 144, op := Go.Op.binOp Go.BinOp.sub 3 (Go.Operand.tmp 143) (Go.Operand.const (Go.Value.int Go.IntKind.i64 1)) 3, type := 3, pos := "more.go:54", after := #[{ on := 4, ground := Go.Ground.data }], guard := none }, { dst := some 145, op := Go.Op.indexAddr 23 (Go.Operand.tmp 14) (Go.Operand.tmp 139), type := 0, pos := "more.go:54", after := #[{ on := 0, ground := Go.Ground.data }], guard := none }, { dst := some 146, op := Go.Op.indexAddr 22 (Go.Operand.tmp 145) (Go.Operand.tmp 140), type := 0, pos := "more.go:54", after := #[{ on := 6, ground := Go.Ground.data }, { on := 1, ground := Go.Ground.data }, { on := 0, ground := Go.Ground.phase }, { on := 1, ground := Go.Ground.phase }, { on := 2, ground := Go.Ground.phase }, { on := 3, ground := Go.Ground.phase }, { on := 4, ground := Go.Ground.phase }, { on := 5, ground := Go.Ground.phase }], guard := none }, { dst := none, op := Go.Op.store 3 (Go.Operand.tmp 146) (Go.Operand.tmp 144), type := 0, pos := "more.go:54", after := #[{ on := 7, ground := Go.Ground.data }, { on := 5, ground := Go.Ground.data }, { on := 0, ground := Go.Ground.phase }, { on := 1, ground := Go.Ground.phase }, { on := 2, ground := Go.Ground.phase }, { on := 3, ground := Go.Ground.phase }, { on := 4, ground := Go.Ground.phase }, { on := 5, ground := Go.Ground.phase }], guard := none }] true) Go.Code.skip))
 (Go.Code.seq (Go.Code.region 28 #[{ dst := some 148, op := Go.Op.load 23 (Go.Operand.tmp 14), type := 23, pos := "more.go:56", after := #[], guard := none }, { dst := some 149, op := Go.Op.move (Go.Operand.tmp 1), type := 3, pos := "more.go:56", after := #[], guard := none }, { dst := some 150, op := Go.Op.call { callee := Go.Callee.value (Go.Operand.func 13), args := #[Go.Operand.tmp 148, Go.Operand.tmp 149], argTypes := #[23, 3] }, type := 26, pos := "more.go:56", after := #[{ on := 0, ground := Go.Ground.data }, { on := 1, ground := Go.Ground.data }], guard := none }, { dst := some 147, op := Go.Op.move (Go.Operand.tmp 150), type := 26, pos := "more.go:56", after := #[{ on := 2, ground := Go.Ground.data }], guard := none }, { dst := some 151, op := Go.Op.extract (Go.Operand.tmp 147) 0, type := 24, pos := "more.go:56", after := #[{ on := 3, ground := Go.Ground.data }], guard := none }, { dst := some 152, op := Go.Op.extract (Go.Operand.tmp 147) 1, type := 25, pos := "more.go:56", after := #[{ on := 3, ground := Go.Ground.data }, { on := 6, ground := Go.Ground.gcOnly Go.Departure.lateStores }], guard := none }, { dst := some 17, op := Go.Op.assign (Go.Operand.tmp 151), type := 24, pos := "more.go:56", after := #[{ on := 4, ground := Go.Ground.data }, { on := 2, ground := Go.Ground.chain }, { on := 0, ground := Go.Ground.phase }, { on := 1, ground := Go.Ground.phase }, { on := 2, ground := Go.Ground.phase }, { on := 3, ground := Go.Ground.phase }, { on := 4, ground := Go.Ground.phase }, { on := 5, ground := Go.Ground.textOnly Go.Departure.lateStores }], guard := none }, { dst := some 18, op := Go.Op.assign (Go.Operand.tmp 152), type := 25, pos := "more.go:56", after := #[{ on := 5, ground := Go.Ground.data }, { on := 6, ground := Go.Ground.chain }, { on := 0, ground := Go.Ground.phase }, { on := 1, ground := Go.Ground.phase }, { on := 2, ground := Go.Ground.phase }, { on := 3, ground := Go.Ground.phase }, { on := 4, ground := Go.Ground.phase }, { on := 5, ground := Go.Ground.phase }, { on := 6, ground := Go.Ground.phase }], guard := none }] false)
 (Go.Code.seq (Go.Code.seq (Go.Code.region 29 #[{ dst := some 153, op := Go.Op.move (Go.Operand.tmp 18), type := 25, pos := "more.go:57", after := #[], guard := none }, { dst := some 154, op := Go.Op.call { callee := Go.Callee.value (Go.Operand.func 16), args := #[Go.Operand.tmp 153], argTypes := #[25] }, type := 3, pos := "more.go:57", after := #[{ on := 0, ground := Go.Ground.data }], guard := none }, { dst := some 155, op := Go.Op.binOp Go.BinOp.neq 3 (Go.Operand.tmp 154) (Go.Operand.const (Go.Value.int Go.IntKind.i64 0)) 3, type := 4, pos := "more.go:57", after := #[{ on := 1, ground := Go.Ground.data }], guard := none }, { dst := some 156, op := Go.Op.move (Go.Operand.tmp 155), type := 4, pos := "more.go:57", after := #[{ on := 2, ground := Go.Ground.data }, { on := 1, ground := Go.Ground.chain }], guard := none }, { dst := some 157, op := Go.Op.move (Go.Operand.tmp 17), type := 24, pos := "more.go:57", after := #[{ on := 3, ground := Go.Ground.guard }], guard := some (3, false) }, { dst := some 158, op := Go.Op.call { callee := Go.Callee.builtin Go.Builtin.len, args := #[Go.Operand.tmp 157], argTypes := #[24] }, type := 3, pos := "more.go:57", after := #[{ on := 4, ground := Go.Ground.data }, { on := 3, ground := Go.Ground.guard }], guard := some (3, false) }, { dst := some 159, op := Go.Op.move (Go.Operand.tmp 7), type := 24, pos := "more.go:57", after := #[{ on := 3, ground := Go.Ground.guard }], guard := some (3, false) }, { dst := some 160, op := Go.Op.call { callee := Go.Callee.builtin Go.Builtin.len, args := #[Go.Operand.tmp 159], argTypes := #[24] }, type := 3, pos := "more.go:57", after := #[{ on := 6, ground := Go.Ground.data }, { on := 3, ground := Go.Ground.guard }], guard := some (3, false) }, { dst := some 161, op := Go.Op.binOp Go.BinOp.neq 3 (Go.Operand.tmp 158) (Go.Operand.tmp 160) 3, type := 4, pos := "more.go:57", after := #[{ on := 5, ground := Go.Ground.data }, { on := 7, ground := Go.Ground.data }, { on := 3, ground := Go.Ground.guard }], guard := some (3, false) }, { dst := some 162, op := Go.Op.pick (Go.Operand.tmp 156) (Go.Operand.const (Go.Value.bool true)) (Go.Operand.tmp 161), type := 4, pos := "more.go:57", after := #[{ on := 3, ground := Go.Ground.data }, { on := 8, ground := Go.Ground.data }], guard := none }] false) (Go.Code.cond (Go.Operand.tmp 162) (Go.Code.seq (Go.Code.region 30 #[{ dst := some 6, op := Go.Op.assign (Go.Operand.const (Go.Value.bool false)), type := 4, pos := "more.go:58", after := #[], guard := none }] false) Go.Code.ret) Go.Code.skip))
 (Go.Code.seq
 (Go.Code.seq (Go.Code.region 31 #[{ dst := some 19, op := Go.Op.assign (Go.Operand.const (Go.Value.int Go.IntKind.i64 0)), type := 3, pos := "more.go:60", after := #[], guard := none }] false)
 (Go.Code.block 6
 (Go.Code.loop
 (Go.Code.seq (Go.Code.seq (Go.Code.region 32 #[{ dst := some 163, op := Go.Op.move (Go.Operand.tmp 19), type := 3, pos := "more.go:60", after := #[], guard := none }, { dst := some 164, op := Go.Op.move (Go.Operand.tmp 7), type := 24, pos := "more.go:60", after := #[], guard := none }, { dst := some 165, op := Go.Op.call { callee := Go.Callee.builtin Go.Builtin.len, args := #[Go.Operand.tmp 164], argTypes := #[24] }, type := 3, pos := "more.go:60", after := #[{ on := 1, ground := Go.Ground.data }], guard := none }, { dst := some 166, op := Go.Op.binOp Go.BinOp.lss 3 (Go.Operand.tmp 163) (Go.Operand.tmp 165) 3, type := 4, pos := "more.go:60", after := #[{ on := 0, ground := Go.Ground.data }, { on := 2, ground := Go.Ground.data }], guard := none }] false) (Go.Code.cond (Go.Operand.tmp 166) Go.Code.skip (Go.Code.exit 6)))
 (Go.Code.seq
 (Go.Code.block 7
 (Go.Code.seq
 (Go.Code.region 34
 #[{ dst := some 169, op := Go.Op.move (Go.Operand.tmp 17), type := 24, pos := "more.go:61", after := #[], guard := none }, { dst := some 170, op := Go.Op.move (Go.Operand.tmp 19), type := 3, pos := "more.go:61", after := #[], guard := none }, { dst := some 171, op := Go.Op.indexAddr 24 (Go.Operand.tmp 169) (Go.Operand.tmp 170), type := 0, pos := "more.go:61", after := #[{ on := 0, ground := Go.Ground.data }, { on := 1, ground := Go.Ground.data }], guard := none }, { dst := some 172, op := Go.Op.fieldAddr 41 (Go.Operand.tmp 171) 0, type := 0, pos := "more.go:61", after := #[{ on := 2, ground := Go.Ground.data }], guard := none }, { dst := some 173, op := Go.Op.load 3 (Go.Operand.tmp 172), type := 3, pos := "more.go:61", after := #[{ on := 3, ground := Go.Ground.data }], guard := none }, { dst := some 174, op := Go.Op.move (Go.Operand.tmp 7), type := 24, pos := "more.go:61", after := #[], guard := none }, { dst := some 175, op := Go.Op.move (Go.Operand.tmp 19), type := 3, pos := "more.go:61", after := #[], guard := none }, { dst := some 176, op := Go.Op.indexAddr 24 (Go.Operand.tmp 174) (Go.Operand.tmp 175), type := 0, pos := "more.go:61", after := #[{ on := 5, ground := Go.Ground.data }, { on := 6, ground := Go.Ground.data }], guard := none }, { dst := some 177, op := Go.Op.fieldAddr 41 (Go.Operand.tmp 176) 0, type := 0, pos := "more.go:61", after := #[{ on := 7, ground := Go.Ground.data }], guard := none }, { dst := some 178, op := Go.Op.load 3 (Go.Operand.tmp 177), type := 3, pos := "more.go:61", after := #[{ on := 8, ground := Go.Ground.data }], guard := none }, { dst := some 179, op := Go.Op.binOp Go.BinOp.neq 3 (Go.Operand.tmp 173) (Go.Operand.tmp 178) 3, type := 4, pos := "more.go:61", after := #[{ on := 4, ground := Go.Ground.data }, { on := 9, ground := Go.Ground.data }], guard := none }, { dst := some 180, op := Go.Op.move (Go.Operand.tmp 179), type := 4, pos := "more.go:61", after := #[{ on := 10, ground := Go.Ground.data }], guard := none }, { dst := some 181, op := Go.Op.move (Go.Operand.tmp 17), type := 24, pos := "more.go:61", after := #[{ on := 11, ground := Go.Ground.guard }], guard := some (11, false) }, { dst := some 182, op := Go.Op.move (Go.Operand.tmp 19), type := 3, pos := "more.go:61", after := #[{ on := 11, ground := Go.Ground.guard }], guard := some (11, false) }, { dst := some 183, op := Go.Op.indexAddr 24 (Go.Operand.tmp 181) (Go.Operand.tmp 182), type := 0, pos := "more.go:61", after := #[{ on := 12, ground := Go.Ground.data }, { on := 13, ground := Go.Ground.data }, { on := 11, ground := Go.Ground.guard }], guard := some (11, false) }, { dst := some 184, op := Go.Op.fieldAddr 41 (Go.Operand.tmp 183) 1, type := 0, pos := "more.go:61", after := #[{ on := 14, ground := Go.Ground.data }, { on := 11, ground := Go.Ground.guard }], guard := some (11, false) }, { dst := some 185, op := Go.Op.load 3 (Go.Operand.tmp 184), type := 3, pos := "more.go:61", after := #[{ on := 15, ground := Go.Ground.data }, { on := 11, ground := Go.Ground.guard }], guard := some (11, false) }, { dst := some 186, op := Go.Op.move (Go.Operand.tmp 7), type := 24, pos := "more.go:61", after := #[{ on := 11, ground := Go.Ground.guard }], guard := some (11, false) }, { dst := some 187, op := Go.Op.move (Go.Operand.tmp 19), type := 3, pos := "more.go:61", after := #[{ on := 11, ground := Go.Ground.guard }], guard := some (11, false) },
 { dst := some 188, op := Go.Op.indexAddr 24 (Go.Operand.tmp 186) (Go.Operand.tmp 187), type := 0, pos := "more.go:61", after := #[{ on := 17, ground := Go.Ground.data }, { on := 18, ground := Go.Ground.data }, { on := 11, ground := Go.Ground.guard }], guard := some (11, false) }, { dst := some 189, op := Go.Op.fieldAddr 41 (Go.Operand.tmp 188) 1, type := 0, pos := "more.go:61", after := #[{ on := 19, ground := Go.Ground.data }, { on := 11, ground := Go.Ground.guard }], guard := some (11, false) }, { dst := some 190, op := Go.Op.load 3 (Go.Operand.tmp 189), type := 3, pos := "more.go:61", after := #[{ on := 20, ground := Go.Ground.data }, { on := 11, ground := Go.Ground.guard }], guard := some (11, false) }, { dst := some 191, op := Go.Op.binOp Go.BinOp.gtr 3 (Go.Operand.tmp 185) (Go.Operand.tmp 190) 3, type := 4, pos := "more.go:61", after := #[{ on := 16, ground := Go.Ground.data }, { on := 21, ground := Go.Ground.data }, { on := 11, ground := Go.Ground.guard }], guard := some (11, false) }, { dst := some 192, op := Go.Op.pick (Go.Operand.tmp 180) (Go.Operand.const (Go.Value.bool true)) (Go.Operand.tmp 191), type := 4, pos := "more.go:61", after := #[{ on := 11, ground := Go.Ground.data }, { on := 22, ground := Go.Ground.data }], guard := none }, { dst := some 193, op := Go.Op.move (Go.Operand.tmp 192), type := 4, pos := "more.go:61", after := #[{ on := 23, ground := Go.Ground.data }, { on := 11, ground := Go.Ground.chain }], guard := none }, { dst := some 194, op := Go.Op.move (Go.Operand.tmp 17), type := 24, pos := "more.go:61", after := #[{ on := 24, ground := Go.Ground.guard }], guard := some (24, false) }, { dst := some 195, op := Go.Op.move (Go.Operand.tmp 19), type := 3, pos := "more.go:61", after := #[{ on := 24, ground := Go.Ground.guard }], guard := some (24, false) }, { dst := some 196, op := Go.Op.indexAddr 24 (Go.Operand.tmp 194) (Go.Operand.tmp 195), type := 0, pos := "more.go:61", after := #[{ on := 25, ground := Go.Ground.data }, { on := 26, ground := Go.Ground.data }, { on := 24, ground := Go.Ground.guard }], guard := some (24, false) }, { dst := some 197, op := Go.Op.fieldAddr 41 (Go.Operand.tmp 196) 1, type := 0, pos := "more.go:61", after := #[{ on := 27, ground := Go.Ground.data }, { on := 24, ground := Go.Ground.guard }], guard := some (24, false) }, { dst := some 198, op := Go.Op.load 3 (Go.Operand.tmp 197), type := 3, pos := "more.go:61", after := #[{ on := 28, ground := Go.Ground.data }, { on := 24, ground := Go.Ground.guard }], guard := some (24, false) }, { dst := some 199, op := Go.Op.move (Go.Operand.tmp 7), type := 24, pos := "more.go:61", after := #[{ on := 24, ground := Go.Ground.guard }], guard := some (24, false) }, { dst := some 200, op := Go.Op.move (Go.Operand.tmp 19), type := 3, pos := "more.go:61", after := #[{ on := 24, ground := Go.Ground.guard }], guard := some (24, false) }, { dst := some 201, op := Go.Op.indexAddr 24 (Go.Operand.tmp 199) (Go.Operand.tmp 200), type := 0, pos := "more.go:61", after := #[{ on := 30, ground := Go.Ground.data }, { on := 31, ground := Go.Ground.data }, { on := 24, ground := Go.Ground.guard }], guard := some (24, false) }, { dst := some 202, op := Go.Op.fieldAddr 41 (Go.Operand.tmp 201) 1, type := 0, pos := "more.go:61", after := #[{ on := 32, ground := Go.Ground.data }, { on := 24, ground := Go.Ground.guard }], guard := some (24, false) },
 { dst := some 203, op := Go.Op.load 3 (Go.Operand.tmp 202), type := 3, pos := "more.go:61", after := #[{ on := 33, ground := Go.Ground.data }, { on := 24, ground := Go.Ground.guard }], guard := some (24, false) }, { dst := some 204, op := Go.Op.binOp Go.BinOp.sub 3 (Go.Operand.tmp 203) (Go.Operand.const (Go.Value.int Go.IntKind.i64 1)) 3, type := 3, pos := "more.go:61", after := #[{ on := 34, ground := Go.Ground.data }, { on := 24, ground := Go.Ground.guard }], guard := some (24, false) }, { dst := some 205, op := Go.Op.binOp Go.BinOp.lss 3 (Go.Operand.tmp 198) (Go.Operand.tmp 204) 3, type := 4, pos := "more.go:61", after := #[{ on := 29, ground := Go.Ground.data }, { on := 35, ground := Go.Ground.data }, { on := 24, ground := Go.Ground.guard }], guard := some (24, false) }, { dst := some 206, op := Go.Op.pick (Go.Operand.tmp 193) (Go.Operand.const (Go.Value.bool true)) (Go.Operand.tmp 205), type := 4, pos := "more.go:61", after := #[{ on := 24, ground := Go.Ground.data }, { on := 36, ground := Go.Ground.data }], guard := none }]
 true)
 (Go.Code.cond (Go.Operand.tmp 206) (Go.Code.seq (Go.Code.region 35 #[{ dst := some 6, op := Go.Op.assign (Go.Operand.const (Go.Value.bool false)), type := 4, pos := "more.go:62", after := #[], guard := none }] false) Go.Code.ret) Go.Code.skip)))
 (Go.Code.region 33 #[{ dst := some 167, op := Go.Op.move (Go.Operand.tmp 19), type := 3, pos := "more.go:60", after := #[], guard := none }, { dst := some 168, op := Go.Op.binOp Go.BinOp.add 3 (Go.Operand.tmp 167) (Go.Operand.const (Go.Value.int Go.IntKind.i64 1)) 3, type := 3, pos := "more.go:60", after := #[{ on := 0, ground := Go.Ground.data }], guard := none }, { dst := some 19, op := Go.Op.assign (Go.Operand.tmp 168), type := 3, pos := "more.go:60", after := #[{ on := 1, ground := Go.Ground.data }, { on := 0, ground := Go.Ground.phase }, { on := 1, ground := Go.Ground.phase }], guard := none }] false))))))
 (Go.Code.seq (Go.Code.region 36 #[{ dst := some 6, op := Go.Op.assign (Go.Operand.const (Go.Value.bool true)), type := 4, pos := "more.go:65", after := #[], guard := none }] false) Go.Code.ret)))))))
 z1_ a w →
 z108_ a w) →
 ∀ (z1__1 : Go.World) (z2_ u12 z3_ u71 u72 u73 u74 z4_ z5_ z6_ z7_ z8_ z9_ z10_ z11_ z12_ z13_ z14_ z15_ z16_ z17_ z18_ z19_ z20_ z21_ z22_ z23_ z24_ z25_ z26_ z27_ z28_ z29_ z30_ z31_ z32_ z33_ z34_ z35_ z36_ z37_ z38_ z39_ z40_ z41_ z42_ z43_ z44_ z45_ z46_ z47_ z48_ z49_ z50_ z51_ z52_ z53_ z54_ z55_ : Go.Value) (z110_ : Nat → Go.Act → Go.World → Prop) (z111_ : Go.Act → Go.World → Prop),
 (∀ (k : Nat) (a' : Go.Act) (w' : Go.World),
 (∃ (u6 : Go.Value),
 ∃ (u11 : Go.Value),
 ∃ (u12 : Go.Value),
 ∃ (u13 : Go.Value),
 ∃ (u71 : Go.Value),
 ∃ (u72 : Go.Value),
 ∃ (u73 : Go.Value),
 ∃ (u74 : Go.Value),
 ∃ (u75 : Go.Value),
 ∃ (u76 : Go.Value),
 ∃ (u77 : Go.Value),
 ∃ (u78 : Go.Value),
 ∃ (u79 : Go.Value),
 ∃ (u80 : Go.Value),
 ∃ (u81 : Go.Value),
 ∃ (u82 : Go.Value),
 ∃ (u83 : Go.Value),
 ∃ (u84 : Go.Value),
 ∃ (u85 : Go.Value),
 ∃ (u86 : Go.Value),
 ∃ (u87 : Go.Value),
 ∃ (u88 : Go.Value),
 ∃ (u89 : Go.Value),
 ∃ (u90 : Go.Value),
 ∃ (u91 : Go.Value),
 ∃ (u92 : Go.Value),
 ∃ (u93 : Go.Value),
 ∃ (u94 : Go.Value),
 ∃ (u95 : Go.Value),
 ∃ (u96 : Go.Value),
 ∃ (u97 : Go.Value),
 ∃ (u98 : Go.Value),
 ∃ (u99 : Go.Value),
 ∃ (u100 : Go.Value),
 ∃ (u101 : Go.Value),
 ∃ (u102 : Go.Value),
 ∃ (u103 : Go.Value),
 ∃ (u104 : Go.Value),
 ∃ (u105 : Go.Value),
 ∃ (u106 : Go.Value),
 ∃ (u107 : Go.Value),
 ∃ (u108 : Go.Value),
 ∃ (u109 : Go.Value),
 ∃ (u110 : Go.Value),
 ∃ (u111 : Go.Value),
 ∃ (u112 : Go.Value),
 ∃ (u113 : Go.Value),
 ∃ (u114 : Go.Value),
 ∃ (u115 : Go.Value),
 ∃ (u116 : Go.Value),
 ∃ (u117 : Go.Value),
 ∃ (u118 : Go.Value),
 ∃ (u119 : Go.Value),
 ∃ (u120 : Go.Value),
 ∃ (u121 : Go.Value),
 ∃ (u122 : Go.Value),
 ∃ (u123 : Go.Value),
 ∃ (u124 : Go.Value),
 ∃ (u125 : Go.Value),
 ∃ (u126 : Go.Value),
 (∃ (x11_3 : Int), u11 = Go.Value.int Go.IntKind.i64 x11_3 ∧ Aside0 (watchwordlaw21_PathsTriangle.l1 k a1 a2 t206 x11_3 a0_0 a0_1 a0_2 a0_3 a0_4 a0_5 a0_6 a0_7 a0_8 a0_9 a0_10 a0_11 a0_12 a0_13 a0_14 a0_15 x212000_2 x212001_2 x212002_2 x212003_2 x212004_2 = some r) ∧ Aside0 (k ≤ k2) ∧ Aside0 (Kd.S k41 41 w' (Array.size (Go.World.heap w)) (fun (x : Nat) => True) (Go.Value.slice Ao27 (List.length t206) co27) t206) ∧ Aside0 ((Go.World.heap w')[gb204]? = some (Go.Obj.cells #[Go.Value.int Go.IntKind.i64 a0_0, Go.Value.int Go.IntKind.i64 a0_1, Go.Value.int Go.IntKind.i64 a0_2, Go.Value.int Go.IntKind.i64 a0_3, Go.Value.int Go.IntKind.i64 a0_4, Go.Value.int Go.IntKind.i64 a0_5, Go.Value.int Go.IntKind.i64 a0_6, Go.Value.int Go.IntKind.i64 a0_7, Go.Value.int Go.IntKind.i64 a0_8, Go.Value.int Go.IntKind.i64 a0_9, Go.Value.int Go.IntKind.i64 a0_10, Go.Value.int Go.IntKind.i64 a0_11, Go.Value.int Go.IntKind.i64 a0_12, Go.Value.int Go.IntKind.i64 a0_13, Go.Value.int Go.IntKind.i64 a0_14, Go.Value.int Go.IntKind.i64 a0_15] 23)) ∧ Aside0 ((Go.World.heap w')[gb211]? = some (Go.Obj.cells #[Go.Value.int Go.IntKind.i64 x212000_2, Go.Value.int Go.IntKind.i64 x212001_2, Go.Value.int Go.IntKind.i64 x212002_2, Go.Value.int Go.IntKind.i64 x212003_2, Go.Value.int Go.IntKind.i64 x212004_2] 44)) ∧ Aside0 (Below (Array.size (Go.World.heap w)) w w')) ∧
 a' = { tmps := #[Go.Value.agg #[Go.Value.int Go.IntKind.i64 a0_0, Go.Value.int Go.IntKind.i64 a0_1, Go.Value.int Go.IntKind.i64 a0_2, Go.Value.int Go.IntKind.i64 a0_3, Go.Value.int Go.IntKind.i64 a0_4, Go.Value.int Go.IntKind.i64 a0_5, Go.Value.int Go.IntKind.i64 a0_6, Go.Value.int Go.IntKind.i64 a0_7, Go.Value.int Go.IntKind.i64 a0_8, Go.Value.int Go.IntKind.i64 a0_9, Go.Value.int Go.IntKind.i64 a0_10, Go.Value.int Go.IntKind.i64 a0_11, Go.Value.int Go.IntKind.i64 a0_12, Go.Value.int Go.IntKind.i64 a0_13, Go.Value.int Go.IntKind.i64 a0_14, Go.Value.int Go.IntKind.i64 a0_15], Go.Value.int Go.IntKind.i64 a1, Go.Value.int Go.IntKind.i64 a2, Go.Value.pointer (some { block := gb204, off := 0 }), Go.undef, Go.undef, u6, Go.Value.slice Ao27 (List.length t206) co27, Go.Value.int Go.IntKind.i64 t209, Go.Value.pointer (some { block := gb211, off := 0 }), Go.Value.int Go.IntKind.i64 x10_2, u11, u12, u13, Go.undef, Go.undef, Go.undef, Go.undef, Go.undef, Go.undef, u20, u21, u22, u23, u24, u25, u26, u27, u28, u29, u30, u31, u32, u33, u34, u35, u36, u37, u38, Go.Value.bool false, Go.Value.int Go.IntKind.i64 x10_2, Go.Value.slice Ao27 (List.length t206) co27, Go.Value.int Go.IntKind.i64 (↑(List.length t206) : Int), Go.Value.bool false, u44, u45, u46, u47, u48, u49, u50, u51, u52, u53, u54, u55, u56, u57, u58, u59, u60, u61, u62, u63, u64, u65, u66, u67, u68, u69, u70, u71, u72, u73, u74, u75, u76, u77, u78, u79, u80, u81, u82, u83, u84, u85, u86, u87, u88, u89, u90, u91, u92, u93, u94, u95, u96, u97, u98, u99, u100, u101, u102, u103, u104, u105, u106, u107, u108, u109, u110, u111, u112, u113, u114, u115, u116, u117, u118, u119, u120, u121, u122, u123, u124, u125, u126, u127, u128, u129, u130, u131, u132, u133, u134, u135, u136, u137, u138, u139, u140, u141, u142, u143, u144, u145, u146, u147, u148, u149, u150, u151, u152, u153, u154, u155, u156, u157, u158, u159, u160, u161, u162, u163, u164, u165, u166, u167, u168, u169, u170, u171, u172, u173, u174, u175, u176, u177, u178, u179, u180, u181, u182, u183, u184, u185, u186, u187, u188, u189, u190, u191, u192, u193, u194, u195, u196, u197, u198, u199, u200, u201, u202, u203, u204, u205, u206], defers := [] }) →
 z110_ k a' w') →
 ∀ (x11_3 : Int),
 Aside0 (Kd.S k41 41 z1__1 (Array.size (Go.World.heap w)) (fun (x : Nat) => True) (Go.Value.slice Ao27 (List.length t206) co27) t206) →
 Aside0 ((Go.World.heap z1__1)[gb204]? = some (Go.Obj.cells #[Go.Value.int Go.IntKind.i64 a0_0, Go.Value.int Go.IntKind.i64 a0_1, Go.Value.int Go.IntKind.i64 a0_2, Go.Value.int Go.IntKind.i64 a0_3, Go.Value.int Go.IntKind.i64 a0_4, Go.Value.int Go.IntKind.i64 a0_5, Go.Value.int Go.IntKind.i64 a0_6, Go.Value.int Go.IntKind.i64 a0_7, Go.Value.int Go.IntKind.i64 a0_8, Go.Value.int Go.IntKind.i64 a0_9, Go.Value.int Go.IntKind.i64 a0_10, Go.Value.int Go.IntKind.i64 a0_11, Go.Value.int Go.IntKind.i64 a0_12, Go.Value.int Go.IntKind.i64 a0_13, Go.Value.int Go.IntKind.i64 a0_14, Go.Value.int Go.IntKind.i64 a0_15] 23)) →
 Aside0 ((Go.World.heap z1__1)[gb211]? = some (Go.Obj.cells #[Go.Value.int Go.IntKind.i64 x212000_2, Go.Value.int Go.IntKind.i64 x212001_2, Go.Value.int Go.IntKind.i64 x212002_2, Go.Value.int Go.IntKind.i64 x212003_2, Go.Value.int Go.IntKind.i64 x212004_2] 44)) →
 Aside0 (Below (Array.size (Go.World.heap w)) w z1__1) →
 ∀ (k3 : Nat),
 (∀ (a' : Go.Act) (w' : Go.World), Go.Handed z110_ (k3 + 1) a' w' → z111_ a' w') →
 Aside0 (k3 + 1 ≤ k2) →
 ∀ (z60_ : Go.Act → Go.World → Prop),
 (∀ (a : Go.Act) (w : Go.World), Go.Code.wp Try.prog (Go.Code.region 17 #[{ dst := some 73, op := Go.Op.move (Go.Operand.tmp 11), type := 3, pos := "more.go:43", after := #[], guard := none }, { dst := some 74, op := Go.Op.binOp Go.BinOp.add 3 (Go.Operand.tmp 73) (Go.Operand.const (Go.Value.int Go.IntKind.i64 1)) 3, type := 3, pos := "more.go:43", after := #[{ on := 0, ground := Go.Ground.data }], guard := none }, { dst := some 11, op := Go.Op.assign (Go.Operand.tmp 74), type := 3, pos := "more.go:43", after := #[{ on := 1, ground := Go.Ground.data }, { on := 0, ground := Go.Ground.phase }, { on := 1, ground := Go.Ground.phase }], guard := none }] false) (Go.Exit.then z111_ (Go.Exit.inBlock 2 (Go.Exit.then z108_ z1_))) a w → z60_ a w) →
 ∀ (gk : Nat) (wr : Go.World) (u6 u13 u75 u76 u77 u78 u79 u80 u81 u82 u83 u84 u85 u86 u87 u88 u89 u90 u91 u92 u93 u94 u95 u96 u97 u98 u99 u100 u101 u102 u103 u104 u105 u106 u107 u108 u109 u110 u111 u112 u113 u114 u115 u116 u117 u118 u119 u120 u121 u122 u123 u124 u125 u126 : Go.Value) (z62_ : Nat → Go.Act → Go.World → Prop) (z63_ : Go.Act → Go.World → Prop),
 (∀ (k : Nat) (a' : Go.Act) (w' : Go.World),
 (∃ (u6 : Go.Value),
 ∃ (u12 : Go.Value),
 ∃ (u13 : Go.Value),
 ∃ (u75 : Go.Value),
 ∃ (u76 : Go.Value),
 ∃ (u77 : Go.Value),
 ∃ (u78 : Go.Value),
 ∃ (u79 : Go.Value),
 ∃ (u80 : Go.Value),
 ∃ (u81 : Go.Value),
 ∃ (u82 : Go.Value),
 ∃ (u83 : Go.Value),
 ∃ (u84 : Go.Value),
 ∃ (u85 : Go.Value),
 ∃ (u86 : Go.Value),
 ∃ (u87 : Go.Value),
 ∃ (u88 : Go.Value),
 ∃ (u89 : Go.Value),
 ∃ (u90 : Go.Value),
 ∃ (u91 : Go.Value),
 ∃ (u92 : Go.Value),
 ∃ (u93 : Go.Value),
 ∃ (u94 : Go.Value),
 ∃ (u95 : Go.Value),
 ∃ (u96 : Go.Value),
 ∃ (u97 : Go.Value),
 ∃ (u98 : Go.Value),
 ∃ (u99 : Go.Value),
 ∃ (u100 : Go.Value),
 ∃ (u101 : Go.Value),
 ∃ (u102 : Go.Value),
 ∃ (u103 : Go.Value),
 ∃ (u104 : Go.Value),
 ∃ (u105 : Go.Value),
 ∃ (u106 : Go.Value),
 ∃ (u107 : Go.Value),
 ∃ (u108 : Go.Value),
 ∃ (u109 : Go.Value),
 ∃ (u110 : Go.Value),
 ∃ (u111 : Go.Value),
 ∃ (u112 : Go.Value),
 ∃ (u113 : Go.Value),
 ∃ (u114 : Go.Value),
 ∃ (u115 : Go.Value),
 ∃ (u116 : Go.Value),
 ∃ (u117 : Go.Value),
 ∃ (u118 : Go.Value),
 ∃ (u119 : Go.Value),
 ∃ (u120 : Go.Value),
 ∃ (u121 : Go.Value),
 ∃ (u122 : Go.Value),
 ∃ (u123 : Go.Value),
 ∃ (u124 : Go.Value),
 ∃ (u125 : Go.Value),
 ∃ (u126 : Go.Value),
 (∃ (x12_4 : Int), u12 = Go.Value.int Go.IntKind.i64 x12_4 ∧ Aside0 (watchwordlaw21_PathsTriangle.l2 k a1 a2 t206 x11_3 x12_4 a0_0 a0_1 a0_2 a0_3 a0_4 a0_5 a0_6 a0_7 a0_8 a0_9 a0_10 a0_11 a0_12 a0_13 a0_14 a0_15 x212000_2 x212001_2 x212002_2 x212003_2 x212004_2 = some r) ∧ Aside0 (k ≤ k3) ∧ Aside0 (Kd.S k41 41 w' (Array.size (Go.World.heap w)) (fun (x : Nat) => True) (Go.Value.slice Ao27 (List.length t206) co27) t206) ∧ Aside0 ((Go.World.heap w')[gb204]? = some (Go.Obj.cells #[Go.Value.int Go.IntKind.i64 a0_0, Go.Value.int Go.IntKind.i64 a0_1, Go.Value.int Go.IntKind.i64 a0_2, Go.Value.int Go.IntKind.i64 a0_3, Go.Value.int Go.IntKind.i64 a0_4, Go.Value.int Go.IntKind.i64 a0_5, Go.Value.int Go.IntKind.i64 a0_6, Go.Value.int Go.IntKind.i64 a0_7, Go.Value.int Go.IntKind.i64 a0_8, Go.Value.int Go.IntKind.i64 a0_9, Go.Value.int Go.IntKind.i64 a0_10, Go.Value.int Go.IntKind.i64 a0_11, Go.Value.int Go.IntKind.i64 a0_12, Go.Value.int Go.IntKind.i64 a0_13, Go.Value.int Go.IntKind.i64 a0_14, Go.Value.int Go.IntKind.i64 a0_15] 23)) ∧ Aside0 ((Go.World.heap w')[gb211]? = some (Go.Obj.cells #[Go.Value.int Go.IntKind.i64 x212000_2, Go.Value.int Go.IntKind.i64 x212001_2, Go.Value.int Go.IntKind.i64 x212002_2, Go.Value.int Go.IntKind.i64 x212003_2, Go.Value.int Go.IntKind.i64 x212004_2] 44)) ∧ Aside0 (Below (Array.size (Go.World.heap w)) w w')) ∧
 a' = { tmps := #[Go.Value.agg #[Go.Value.int Go.IntKind.i64 a0_0, Go.Value.int Go.IntKind.i64 a0_1, Go.Value.int Go.IntKind.i64 a0_2, Go.Value.int Go.IntKind.i64 a0_3, Go.Value.int Go.IntKind.i64 a0_4, Go.Value.int Go.IntKind.i64 a0_5, Go.Value.int Go.IntKind.i64 a0_6, Go.Value.int Go.IntKind.i64 a0_7, Go.Value.int Go.IntKind.i64 a0_8, Go.Value.int Go.IntKind.i64 a0_9, Go.Value.int Go.IntKind.i64 a0_10, Go.Value.int Go.IntKind.i64 a0_11, Go.Value.int Go.IntKind.i64 a0_12, Go.Value.int Go.IntKind.i64 a0_13, Go.Value.int Go.IntKind.i64 a0_14, Go.Value.int Go.IntKind.i64 a0_15], Go.Value.int Go.IntKind.i64 a1, Go.Value.int Go.IntKind.i64 a2, Go.Value.pointer (some { block := gb204, off := 0 }), Go.undef, Go.undef, u6, Go.Value.slice Ao27 (List.length t206) co27, Go.Value.int Go.IntKind.i64 t209, Go.Value.pointer (some { block := gb211, off := 0 }), Go.Value.int Go.IntKind.i64 x10_2, Go.Value.int Go.IntKind.i64 x11_3, u12, u13, Go.undef, Go.undef, Go.undef, Go.undef, Go.undef, Go.undef, u20, u21, u22, u23, u24, u25, u26, u27, u28, u29, u30, u31, u32, u33, u34, u35, u36, u37, u38, Go.Value.bool false, Go.Value.int Go.IntKind.i64 x10_2, Go.Value.slice Ao27 (List.length t206) co27, Go.Value.int Go.IntKind.i64 (↑(List.length t206) : Int), Go.Value.bool false, u44, u45, u46, u47, u48, u49, u50, u51, u52, u53, u54, u55, u56, u57, u58, u59, u60, u61, u62, u63, u64, u65, u66, u67, u68, u69, u70, Go.Value.int Go.IntKind.i64 x11_3, Go.Value.bool true, u73, u74, u75, u76, u77, u78, u79, u80, u81, u82, u83, u84, u85, u86, u87, u88, u89, u90, u91, u92, u93, u94, u95, u96, u97, u98, u99, u100, u101, u102, u103, u104, u105, u106, u107, u108, u109, u110, u111, u112, u113, u114, u115, u116, u117, u118, u119, u120, u121, u122, u123, u124, u125, u126, u127, u128, u129, u130, u131, u132, u133, u134, u135, u136, u137, u138, u139, u140, u141, u142, u143, u144, u145, u146, u147, u148, u149, u150, u151, u152, u153, u154, u155, u156, u157, u158, u159, u160, u161, u162, u163, u164, u165, u166, u167, u168, u169, u170, u171, u172, u173, u174, u175, u176, u177, u178, u179, u180, u181, u182, u183, u184, u185, u186, u187, u188, u189, u190, u191, u192, u193, u194, u195, u196, u197, u198, u199, u200, u201, u202, u203, u204, u205, u206], defers := [] }) →
 z62_ k a' w') →
 (∀ (a' : Go.Act) (w' : Go.World), Go.Handed z62_ gk a' w' → z63_ a' w') →
 ∀ (x12_4 : Int),
 Aside0 (watchwordlaw21_PathsTriangle.l2 gk a1 a2 t206 x11_3 x12_4 a0_0 a0_1 a0_2 a0_3 a0_4 a0_5 a0_6 a0_7 a0_8 a0_9 a0_10 a0_11 a0_12 a0_13 a0_14 a0_15 x212000_2 x212001_2 x212002_2 x212003_2 x212004_2 = some r) →
 Aside0 (gk ≤ k3) →
 Aside0 (Kd.S k41 41 wr (Array.size (Go.World.heap w)) (fun (x : Nat) => True) (Go.Value.slice Ao27 (List.length t206) co27) t206) →
 Aside0 ((Go.World.heap wr)[gb204]? = some (Go.Obj.cells #[Go.Value.int Go.IntKind.i64 a0_0, Go.Value.int Go.IntKind.i64 a0_1, Go.Value.int Go.IntKind.i64 a0_2, Go.Value.int Go.IntKind.i64 a0_3, Go.Value.int Go.IntKind.i64 a0_4, Go.Value.int Go.IntKind.i64 a0_5, Go.Value.int Go.IntKind.i64 a0_6, Go.Value.int Go.IntKind.i64 a0_7, Go.Value.int Go.IntKind.i64 a0_8, Go.Value.int Go.IntKind.i64 a0_9, Go.Value.int Go.IntKind.i64 a0_10, Go.Value.int Go.IntKind.i64 a0_11, Go.Value.int Go.IntKind.i64 a0_12, Go.Value.int Go.IntKind.i64 a0_13, Go.Value.int Go.IntKind.i64 a0_14, Go.Value.int Go.IntKind.i64 a0_15] 23)) →
 Aside0 ((Go.World.heap wr)[gb211]? = some (Go.Obj.cells #[Go.Value.int Go.IntKind.i64 x212000_2, Go.Value.int Go.IntKind.i64 x212001_2, Go.Value.int Go.IntKind.i64 x212002_2, Go.Value.int Go.IntKind.i64 x212003_2, Go.Value.int Go.IntKind.i64 x212004_2] 44)) →
 Aside0 (Below (Array.size (Go.World.heap w)) w wr) →
 Go.Code.wp Try.prog
 (Go.Code.seq (Go.Code.seq (Go.Code.region 19 #[{ dst := some 75, op := Go.Op.move (Go.Operand.tmp 12), type := 3, pos := "more.go:44", after := #[], guard := none }, { dst := some 76, op := Go.Op.binOp Go.BinOp.leq 3 (Go.Operand.tmp 75) (Go.Operand.const (Go.Value.int Go.IntKind.i64 4)) 3, type := 4, pos := "more.go:44", after := #[{ on := 0, ground := Go.Ground.data }], guard := none }] false) (Go.Code.cond (Go.Operand.tmp 76) Go.Code.skip (Go.Code.exit 4)))
 (Go.Code.seq
 (Go.Code.block 5
 (Go.Code.seq (Go.Code.region 21 #[{ dst := some 79, op := Go.Op.move (Go.Operand.tmp 11), type := 3, pos := "more.go:45", after := #[], guard := none }, { dst := some 80, op := Go.Op.move (Go.Operand.tmp 1), type := 3, pos := "more.go:45", after := #[], guard := none }, { dst := some 81, op := Go.Op.binOp Go.BinOp.eql 3 (Go.Operand.tmp 79) (Go.Operand.tmp 80) 3, type := 4, pos := "more.go:45", after := #[{ on := 0, ground := Go.Ground.data }, { on := 1, ground := Go.Ground.data }], guard := none }, { dst := some 82, op := Go.Op.move (Go.Operand.tmp 81), type := 4, pos := "more.go:45", after := #[{ on := 2, ground := Go.Ground.data }], guard := none }, { dst := some 83, op := Go.Op.move (Go.Operand.tmp 11), type := 3, pos := "more.go:45", after := #[{ on := 3, ground := Go.Ground.guard }], guard := some (3, false) }, { dst := some 84, op := Go.Op.indexAddr 44 (Go.Operand.tmp 9) (Go.Operand.tmp 83), type := 0, pos := "more.go:45", after := #[{ on := 4, ground := Go.Ground.data }, { on := 3, ground := Go.Ground.guard }], guard := some (3, false) }, { dst := some 85, op := Go.Op.load 3 (Go.Operand.tmp 84), type := 3, pos := "more.go:45", after := #[{ on := 5, ground := Go.Ground.data }, { on := 3, ground := Go.Ground.guard }], guard := some (3, false) }, { dst := some 86, op := Go.Op.binOp Go.BinOp.gtr 3 (Go.Operand.tmp 85) (Go.Operand.const (Go.Value.int Go.IntKind.i64 0)) 3, type := 4, pos := "more.go:45", after := #[{ on := 6, ground := Go.Ground.data }, { on := 3, ground := Go.Ground.guard }], guard := some (3, false) }, { dst := some 87, op := Go.Op.pick (Go.Operand.tmp 82) (Go.Operand.const (Go.Value.bool true)) (Go.Operand.tmp 86), type := 4, pos := "more.go:45", after := #[{ on := 3, ground := Go.Ground.data }, { on := 7, ground := Go.Ground.data }], guard := none }, { dst := some 13, op := Go.Op.assign (Go.Operand.tmp 87), type := 4, pos := "more.go:45", after := #[{ on := 8, ground := Go.Ground.data }, { on := 3, ground := Go.Ground.chain }, { on := 0, ground := Go.Ground.phase }, { on := 1, ground := Go.Ground.phase }, { on := 2, ground := Go.Ground.phase }, { on := 3, ground := Go.Ground.phase }, { on := 4, ground := Go.Ground.phase }, { on := 5, ground := Go.Ground.phase }, { on := 6, ground := Go.Ground.phase }, { on := 7, ground := Go.Ground.phase }, { on := 8, ground := Go.Ground.phase }], guard := none }] false)
 (Go.Code.seq
 (Go.Code.region 22
 #[{ dst := some 88, op := Go.Op.move (Go.Operand.tmp 12), type := 3, pos := "more.go:46", after := #[], guard := none }, { dst := some 89, op := Go.Op.move (Go.Operand.tmp 1), type := 3, pos := "more.go:46", after := #[], guard := none }, { dst := some 90, op := Go.Op.binOp Go.BinOp.neq 3 (Go.Operand.tmp 88) (Go.Operand.tmp 89) 3, type := 4, pos := "more.go:46", after := #[{ on := 0, ground := Go.Ground.data }, { on := 1, ground := Go.Ground.data }], guard := none }, { dst := some 91, op := Go.Op.move (Go.Operand.tmp 90), type := 4, pos := "more.go:46", after := #[{ on := 2, ground := Go.Ground.data }], guard := none }, { dst := some 92, op := Go.Op.move (Go.Operand.tmp 13), type := 4, pos := "more.go:46", after := #[{ on := 3, ground := Go.Ground.guard }], guard := some (3, true) }, { dst := some 93, op := Go.Op.pick (Go.Operand.tmp 91) (Go.Operand.tmp 92) (Go.Operand.const (Go.Value.bool false)), type := 4, pos := "more.go:46", after := #[{ on := 3, ground := Go.Ground.data }, { on := 4, ground := Go.Ground.data }], guard := none }, { dst := some 94, op := Go.Op.move (Go.Operand.tmp 93), type := 4, pos := "more.go:46", after := #[{ on := 5, ground := Go.Ground.data }, { on := 3, ground := Go.Ground.chain }], guard := none }, { dst := some 95, op := Go.Op.move (Go.Operand.tmp 11), type := 3, pos := "more.go:46", after := #[{ on := 6, ground := Go.Ground.guard }], guard := some (6, true) }, { dst := some 96, op := Go.Op.binOp Go.BinOp.sub 3 (Go.Operand.tmp 95) (Go.Operand.const (Go.Value.int Go.IntKind.i64 1)) 3, type := 3, pos := "more.go:46", after := #[{ on := 7, ground := Go.Ground.data }, { on := 6, ground := Go.Ground.guard }], guard := some (6, true) }, { dst := some 97, op := Go.Op.move (Go.Operand.tmp 12), type := 3, pos := "more.go:46", after := #[{ on := 6, ground := Go.Ground.guard }], guard := some (6, true) }, { dst := some 98, op := Go.Op.binOp Go.BinOp.sub 3 (Go.Operand.tmp 97) (Go.Operand.const (Go.Value.int Go.IntKind.i64 1)) 3, type := 3, pos := "more.go:46", after := #[{ on := 9, ground := Go.Ground.data }, { on := 6, ground := Go.Ground.guard }], guard := some (6, true) }, { dst := some 99, op := Go.Op.indexAddr 23 (Go.Operand.tmp 3) (Go.Operand.tmp 96), type := 0, pos := "more.go:46", after := #[{ on := 8, ground := Go.Ground.data }, { on := 6, ground := Go.Ground.guard }], guard := some (6, true) }, { dst := some 100, op := Go.Op.indexAddr 22 (Go.Operand.tmp 99) (Go.Operand.tmp 98), type := 0, pos := "more.go:46", after := #[{ on := 11, ground := Go.Ground.data }, { on := 10, ground := Go.Ground.data }, { on := 6, ground := Go.Ground.guard }], guard := some (6, true) }, { dst := some 101, op := Go.Op.load 3 (Go.Operand.tmp 100), type := 3, pos := "more.go:46", after := #[{ on := 12, ground := Go.Ground.data }, { on := 6, ground := Go.Ground.guard }], guard := some (6, true) }, { dst := some 102, op := Go.Op.binOp Go.BinOp.gtr 3 (Go.Operand.tmp 101) (Go.Operand.const (Go.Value.int Go.IntKind.i64 0)) 3, type := 4, pos := "more.go:46", after := #[{ on := 13, ground := Go.Ground.data }, { on := 6, ground := Go.Ground.guard }], guard := some (6, true) }, { dst := some 103, op := Go.Op.pick (Go.Operand.tmp 94) (Go.Operand.tmp 102) (Go.Operand.const (Go.Value.bool false)), type := 4, pos := "more.go:46", after := #[{ on := 6, ground := Go.Ground.data }, { on := 14, ground := Go.Ground.data }], guard := none },
 { dst := some 104, op := Go.Op.move (Go.Operand.tmp 103), type := 4, pos := "more.go:46", after := #[{ on := 15, ground := Go.Ground.data }, { on := 6, ground := Go.Ground.chain }], guard := none }, { dst := some 105, op := Go.Op.move (Go.Operand.tmp 12), type := 3, pos := "more.go:46", after := #[{ on := 16, ground := Go.Ground.guard }], guard := some (16, true) }, { dst := some 106, op := Go.Op.indexAddr 44 (Go.Operand.tmp 9) (Go.Operand.tmp 105), type := 0, pos := "more.go:46", after := #[{ on := 17, ground := Go.Ground.data }, { on := 16, ground := Go.Ground.guard }], guard := some (16, true) }, { dst := some 107, op := Go.Op.load 3 (Go.Operand.tmp 106), type := 3, pos := "more.go:46", after := #[{ on := 18, ground := Go.Ground.data }, { on := 16, ground := Go.Ground.guard }], guard := some (16, true) }, { dst := some 108, op := Go.Op.binOp Go.BinOp.eql 3 (Go.Operand.tmp 107) (Go.Operand.const (Go.Value.int Go.IntKind.i64 0)) 3, type := 4, pos := "more.go:46", after := #[{ on := 19, ground := Go.Ground.data }, { on := 16, ground := Go.Ground.guard }], guard := some (16, true) }, { dst := some 109, op := Go.Op.move (Go.Operand.tmp 108), type := 4, pos := "more.go:46", after := #[{ on := 20, ground := Go.Ground.data }, { on := 16, ground := Go.Ground.chain }, { on := 16, ground := Go.Ground.guard }], guard := some (16, true) }, { dst := some 110, op := Go.Op.move (Go.Operand.tmp 12), type := 3, pos := "more.go:46", after := #[{ on := 21, ground := Go.Ground.guard }], guard := some (21, false) }, { dst := some 111, op := Go.Op.indexAddr 44 (Go.Operand.tmp 9) (Go.Operand.tmp 110), type := 0, pos := "more.go:46", after := #[{ on := 22, ground := Go.Ground.data }, { on := 21, ground := Go.Ground.guard }], guard := some (21, false) }, { dst := some 112, op := Go.Op.load 3 (Go.Operand.tmp 111), type := 3, pos := "more.go:46", after := #[{ on := 23, ground := Go.Ground.data }, { on := 21, ground := Go.Ground.guard }], guard := some (21, false) }, { dst := some 113, op := Go.Op.move (Go.Operand.tmp 11), type := 3, pos := "more.go:46", after := #[{ on := 21, ground := Go.Ground.guard }], guard := some (21, false) }, { dst := some 114, op := Go.Op.indexAddr 44 (Go.Operand.tmp 9) (Go.Operand.tmp 113), type := 0, pos := "more.go:46", after := #[{ on := 25, ground := Go.Ground.data }, { on := 21, ground := Go.Ground.guard }], guard := some (21, false) }, { dst := some 115, op := Go.Op.load 3 (Go.Operand.tmp 114), type := 3, pos := "more.go:46", after := #[{ on := 26, ground := Go.Ground.data }, { on := 21, ground := Go.Ground.guard }], guard := some (21, false) }, { dst := some 116, op := Go.Op.move (Go.Operand.tmp 11), type := 3, pos := "more.go:46", after := #[{ on := 21, ground := Go.Ground.guard }], guard := some (21, false) }, { dst := some 117, op := Go.Op.binOp Go.BinOp.sub 3 (Go.Operand.tmp 116) (Go.Operand.const (Go.Value.int Go.IntKind.i64 1)) 3, type := 3, pos := "more.go:46", after := #[{ on := 28, ground := Go.Ground.data }, { on := 21, ground := Go.Ground.guard }], guard := some (21, false) }, { dst := some 118, op := Go.Op.move (Go.Operand.tmp 12), type := 3, pos := "more.go:46", after := #[{ on := 21, ground := Go.Ground.guard }], guard := some (21, false) }, { dst := some 119, op := Go.Op.binOp Go.BinOp.sub 3 (Go.Operand.tmp 118) (Go.Operand.const (Go.Value.int Go.IntKind.i64 1)) 3, type := 3, pos := "more.go:46", after := #[{ on := 30, ground := Go.Ground.data }, { on := 21, ground := Go.Ground.guard }], guard := some (21, false) },
 { dst := some 120, op := Go.Op.indexAddr 23 (Go.Operand.tmp 3) (Go.Operand.tmp 117), type := 0, pos := "more.go:46", after := #[{ on := 29, ground := Go.Ground.data }, { on := 21, ground := Go.Ground.guard }], guard := some (21, false) }, { dst := some 121, op := Go.Op.indexAddr 22 (Go.Operand.tmp 120) (Go.Operand.tmp 119), type := 0, pos := "more.go:46", after := #[{ on := 32, ground := Go.Ground.data }, { on := 31, ground := Go.Ground.data }, { on := 21, ground := Go.Ground.guard }], guard := some (21, false) }, { dst := some 122, op := Go.Op.load 3 (Go.Operand.tmp 121), type := 3, pos := "more.go:46", after := #[{ on := 33, ground := Go.Ground.data }, { on := 21, ground := Go.Ground.guard }], guard := some (21, false) }, { dst := some 123, op := Go.Op.binOp Go.BinOp.add 3 (Go.Operand.tmp 115) (Go.Operand.tmp 122) 3, type := 3, pos := "more.go:46", after := #[{ on := 27, ground := Go.Ground.data }, { on := 34, ground := Go.Ground.data }, { on := 21, ground := Go.Ground.guard }], guard := some (21, false) }, { dst := some 124, op := Go.Op.binOp Go.BinOp.gtr 3 (Go.Operand.tmp 112) (Go.Operand.tmp 123) 3, type := 4, pos := "more.go:46", after := #[{ on := 24, ground := Go.Ground.data }, { on := 35, ground := Go.Ground.data }, { on := 21, ground := Go.Ground.guard }], guard := some (21, false) }, { dst := some 125, op := Go.Op.pick (Go.Operand.tmp 109) (Go.Operand.const (Go.Value.bool true)) (Go.Operand.tmp 124), type := 4, pos := "more.go:46", after := #[{ on := 21, ground := Go.Ground.data }, { on := 36, ground := Go.Ground.data }, { on := 16, ground := Go.Ground.guard }], guard := some (16, true) }, { dst := some 126, op := Go.Op.pick (Go.Operand.tmp 104) (Go.Operand.tmp 125) (Go.Operand.const (Go.Value.bool false)), type := 4, pos := "more.go:46", after := #[{ on := 16, ground := Go.Ground.data }, { on := 37, ground := Go.Ground.data }], guard := none }]
 true)
 (Go.Code.cond (Go.Operand.tmp 126) (Go.Code.seq (Go.Code.region 23 #[{ dst := some 6, op := Go.Op.assign (Go.Operand.const (Go.Value.bool false)), type := 4, pos := "more.go:47", after := #[], guard := none }] false) Go.Code.ret) Go.Code.skip))))
 (Go.Code.region 20 #[{ dst := some 77, op := Go.Op.move (Go.Operand.tmp 12), type := 3, pos := "more.go:44", after := #[], guard := none }, { dst := some 78, op := Go.Op.binOp Go.BinOp.add 3 (Go.Operand.tmp 77) (Go.Operand.const (Go.Value.int Go.IntKind.i64 1)) 3, type := 3, pos := "more.go:44", after := #[{ on := 0, ground := Go.Ground.data }], guard := none }, { dst := some 12, op := Go.Op.assign (Go.Operand.tmp 78), type := 3, pos := "more.go:44", after := #[{ on := 1, ground := Go.Ground.data }, { on := 0, ground := Go.Ground.phase }, { on := 1, ground := Go.Ground.phase }], guard := none }] false)))
 (Go.Exit.then z63_ (Go.Exit.inBlock 4 (Go.Exit.inBlock 3 (Go.Exit.then z60_ (Go.Exit.then z111_ (Go.Exit.inBlock 2 (Go.Exit.then z108_ z1_))))))) { tmps := #[Go.Value.agg #[Go.Value.int Go.IntKind.i64 a0_0, Go.Value.int Go.IntKind.i64 a0_1, Go.Value.int Go.IntKind.i64 a0_2, Go.Value.int Go.IntKind.i64 a0_3, Go.Value.int Go.IntKind.i64 a0_4, Go.Value.int Go.IntKind.i64 a0_5, Go.Value.int Go.IntKind.i64 a0_6, Go.Value.int Go.IntKind.i64 a0_7, Go.Value.int Go.IntKind.i64 a0_8, Go.Value.int Go.IntKind.i64 a0_9, Go.Value.int Go.IntKind.i64 a0_10, Go.Value.int Go.IntKind.i64 a0_11, Go.Value.int Go.IntKind.i64 a0_12, Go.Value.int Go.IntKind.i64 a0_13, Go.Value.int Go.IntKind.i64 a0_14, Go.Value.int Go.IntKind.i64 a0_15], Go.Value.int Go.IntKind.i64 a1, Go.Value.int Go.IntKind.i64 a2, Go.Value.pointer (some { block := gb204, off := 0 }), Go.undef, Go.undef, u6, Go.Value.slice Ao27 (List.length t206) co27, Go.Value.int Go.IntKind.i64 t209, Go.Value.pointer (some { block := gb211, off := 0 }), Go.Value.int Go.IntKind.i64 x10_2, Go.Value.int Go.IntKind.i64 x11_3, Go.Value.int Go.IntKind.i64 x12_4, u13, Go.undef, Go.undef, Go.undef, Go.undef, Go.undef, Go.undef, u20, u21, u22, u23, u24, u25, u26, u27, u28, u29, u30, u31, u32, u33, u34, u35, u36, u37, u38, Go.Value.bool false, Go.Value.int Go.IntKind.i64 x10_2, Go.Value.slice Ao27 (List.length t206) co27, Go.Value.int Go.IntKind.i64 (↑(List.length t206) : Int), Go.Value.bool false, u44, u45, u46, u47, u48, u49, u50, u51, u52, u53, u54, u55, u56, u57, u58, u59, u60, u61, u62, u63, u64, u65, u66, u67, u68, u69, u70, Go.Value.int Go.IntKind.i64 x11_3, Go.Value.bool true, u73, u74, u75, u76, u77, u78, u79, u80, u81, u82, u83, u84, u85, u86, u87, u88, u89, u90, u91, u92, u93, u94, u95, u96, u97, u98, u99, u100, u101, u102, u103, u104, u105, u106, u107, u108, u109, u110, u111, u112, u113, u114, u115, u116, u117, u118, u119, u120, u121, u122, u123, u124, u125, u126, u127, u128, u129, u130, u131, u132, u133, u134, u135, u136, u137, u138, u139, u140, u141, u142, u143, u144, u145, u146, u147, u148, u149, u150, u151, u152, u153, u154, u155, u156, u157, u158, u159, u160, u161, u162, u163, u164, u165, u166, u167, u168, u169, u170, u171, u172, u173, u174, u175, u176, u177, u178, u179, u180, u181, u182, u183, u184, u185, u186, u187, u188, u189, u190, u191, u192, u193, u194, u195, u196, u197, u198, u199, u200, u201, u202, u203, u204, u205, u206], defers := [] } wr := by
 intro k a0_0 a0_1 a0_2 a0_3 a0_4 a0_5 a0_6 a0_7 a0_8 a0_9 a0_10 a0_11 a0_12 a0_13 a0_14 a0_15 a1 a2 r w hu23 hu44 HT A4 t206 t209 A6 t210 A7 z1_ gb204 w10 GW204 GE204 w11 w13 z2_ z3_ nd wc u20 u21 u22 u23 u24 u25 u26 u27 u28 u29 u30 u31 u32 u33 u34 u35 u36 u37 u38 z4_ z5_ z6_ z7_ z8_ z9_ z10_ z11_ z12_ z13_ z14_ z15_ z16_ z17_ z18_ z19_ z20_ z21_ z22_ z23_ z24_ z25_ z26_ z27_ z28_ z29_ z30_ z31_ z32_ z33_ z34_ z35_ z36_ z37_ z38_ z39_ z40_ z41_ z42_ z43_ z44_ z45_ z46_ z47_ z48_ z49_ z50_ z51_ z52_ z53_ z54_ z55_ z56_ z57_ z58_ z59_ z60_ z61_ z62_ z63_ z64_ z65_ z66_ z67_ z68_ z69_ z70_ z71_ z72_ z73_ z74_ z75_ z76_ z77_ z78_ z79_ z80_ z81_ z82_ z83_ z84_ z85_ z86_ z87_ z88_ z89_ z90_ u127 u128 u129 u130 u131 u132 u133 u134 u135 u136 u137 u138 u139 u140 u141 u142 u143 u144 u145 u146 u147 u148 u149 u150 u151 u152 u153 u154 u155 u156 u157 u158 u159 u160 u161 u162 u163 u164 u165 u166 u167 u168 u169 u170 u171 u172 u173 u174 u175 u176 u177 u178 u179 u180 u181 u182 u183 u184 u185 u186 u187 u188 u189 u190 u191 u192 u193 u194 u195 u196 u197 u198 u199 u200 u201 u202 u203 u204 u205 u206 kj8 HJ8 gb211 w16 z91_ z92_ z93_ GW211 GE211 NB204_211 NB211_204 z94_ z95_ z96_ u40 u41 u42 u43 u44 u45 u46 u47 u48 u49 u50 u51 u52 u53 u54 u55 u56 u57 u58 u59 u60 u61 u62 u63 u64 u65 u66 u67 u68 u69 u70 z97_ z98_ x10_2 x212000_2 x212001_2 x212002_2 x212003_2 x212004_2 z99_ z100_ z101_ k2 z102_ HK2 Ao27 co27 HO208 z103_ z104_ z105_ z106_ z107_ z108_ z109_ z1_ z2_ u12 z3_ u71 u72 u73 u74 z4_ z5_ z6_ z7_ z8_ z9_ z10_ z11_ z12_ z13_ z14_ z15_ z16_ z17_ z18_ z19_ z20_ z21_ z22_ z23_ z24_ z25_ z26_ z27_ z28_ z29_ z30_ z31_ z32_ z33_ z34_ z35_ z36_ z37_ z38_ z39_ z40_ z41_ z42_ z43_ z44_ z45_ z46_ z47_ z48_ z49_ z50_ z51_ z52_ z53_ z54_ z55_ z110_ z111_ z112_ x11_3 z56_ z57_ z58_ z59_ k3 z113_ HK3 z60_ z61_ gk wr u6 u13 u75 u76 u77 u78 u79 u80 u81 u82 u83 u84 u85 u86 u87 u88 u89 u90 u91 u92 u93 u94 u95 u96 u97 u98 u99 u100 u101 u102 u103 u104 u105 u106 u107 u108 u109 u110 u111 u112 u113 u114 u115 u116 u117 u118 u119 u120 u121 u122 u123 u124 u125 u126 z62_ z63_ z64_ z65_ x12_4 HA HK4 HO_7 BK204 BK211 HB
 cases gk with
 | zero => exact absurd HA.out (by simp [watchwordlaw21_PathsTriangle.l2])
 | succ k4 =>
  have H := HA.out
  clear HA
  simp only [watchwordlaw21_PathsTriangle.l2] at H
  by_cases c29 : x12_4 ≤ 4
  ·rw [if_pos c29] at H
   have c29b0 : decide (x12_4 ≤ 4) = true := decide_eq_true c29
   clear c29
   by_cases c30 : x11_3 = a1
   ·rw [if_pos c30] at H
    have c30b0 : (x11_3 == a1) = true := beq_iff_eq.mpr c30
    have c30b1 : (x11_3 != a1) = false := bne_eq_false_iff_eq.mpr c30
    clear c30
    by_cases c31 : x12_4 = a1
    ·rw [if_pos c31] at H
     have c31b0 : (x12_4 == a1) = true := beq_iff_eq.mpr c31
     have c31b1 : (x12_4 != a1) = false := bne_eq_false_iff_eq.mpr c31
     clear c31
     focus
      have H' := Aside0.mk H
      clear H
      try go_wp2
      have n0_ := Aside0.mk (Kd.S_drew HO_7.out)
      have n1_ := Aside0.mk (blk_drew BK204.out)
      have n2_ := Aside0.mk (blk_drew BK211.out)
      have n3_ := Aside0.mk (below_drew1 HB.out)
      clear HO_7
      clear BK204
      clear BK211
      clear HB
      have HO_7 := n0_
      have BK204 := n1_
      have BK211 := n2_
      have HB := n3_
      clear n0_ n1_ n2_ n3_
      refine start_ (n := 39) (S := fun w' => True) (ds := []) mk_39_0 (by kernel_rfl) rfl rfl trivial (fun hHeld => ?_); refine with_tabW watchwordlaw21_PathsTriangle.tab22 watchwordlaw21_PathsTriangle.bits22 (fun HT_ HW_ => ?_)
      generalize wr.drew = w32 at HO_7 BK204 BK211 HB hHeld ⊢
      refine pure_ (i := 0) (N := some 88) (v := ?_) (a' := ?_) mk_39_1 rfl rfl (any_of HT_.out (by kernel_rfl)) (fun _ _ _ h => h) (Or.inl ⟨by rfl, ?_⟩) ?_ ?_
      rotate_left
      ·intro w'
       go_simp
       with_reducible rfl
      rotate_left
      ·simp only [Act.put, List.setIfInBounds_toArray, List.set_cons_zero, List.set_cons_succ, i64_w, i32_w]
       rfl
      refine pure_ (i := 1) (N := some 89) (v := ?_) (a' := ?_) mk_39_2 rfl rfl (any_of HT_.out (by kernel_rfl)) (fun _ _ _ h => h) (Or.inl ⟨by rfl, ?_⟩) ?_ ?_
      rotate_left
      ·intro w'
       go_simp
       with_reducible rfl
      rotate_left
      ·simp only [Act.put, List.setIfInBounds_toArray, List.set_cons_zero, List.set_cons_succ, i64_w, i32_w]
       rfl
      refine pure_ (i := 2) (N := some 90) (v := ?_) (a' := ?_) mk_39_3 rfl rfl (any_of HT_.out (by kernel_rfl)) (fun _ _ _ h => h) (Or.inl ⟨by rfl, ?_⟩) ?_ ?_
      rotate_left
      ·intro w'
       go_simp
       with_reducible rfl
      rotate_left
      ·simp only [Act.put, List.setIfInBounds_toArray, List.set_cons_zero, List.set_cons_succ, i64_w, i32_w]
       rfl
      refine pure_ (i := 3) (N := some 91) (v := ?_) (a' := ?_) mk_39_4 rfl rfl (any_of HT_.out (by kernel_rfl)) (fun _ _ _ h => h) (Or.inl ⟨by rfl, ?_⟩) ?_ ?_
      rotate_left
      ·intro w'
       go_simp
       with_reducible rfl
      rotate_left
      ·simp only [Act.put, List.setIfInBounds_toArray, List.set_cons_zero, List.set_cons_succ, i64_w, i32_w]
       rfl
      refine pure_ (i := 4) (N := some 92) (v := undef) (a' := ?_) mk_39_5 rfl rfl (any_of HT_.out (by kernel_rfl)) (fun _ _ _ h => h) (Or.inr ⟨by rfl, rfl⟩) ?_ ?_
      rotate_left
      ·simp only [Act.put, List.setIfInBounds_toArray, List.set_cons_zero, List.set_cons_succ, i64_w, i32_w]
       rfl
      refine pure_ (i := 5) (N := some 93) (v := ?_) (a' := ?_) mk_39_6 rfl rfl (any_of HT_.out (by kernel_rfl)) (fun _ _ _ h => h) (Or.inl ⟨by rfl, ?_⟩) ?_ ?_
      rotate_left
      ·intro w'
       go_simp
       with_reducible rfl
      rotate_left
      ·simp only [Act.put, List.setIfInBounds_toArray, List.set_cons_zero, List.set_cons_succ, i64_w, i32_w]
       rfl
      refine pure_ (i := 6) (N := some 94) (v := ?_) (a' := ?_) mk_39_7 rfl rfl (any_of HT_.out (by kernel_rfl)) (fun _ _ _ h => h) (Or.inl ⟨by rfl, ?_⟩) ?_ ?_
      rotate_left
      ·intro w'
       go_simp
       with_reducible rfl
      rotate_left
      ·simp only [Act.put, List.setIfInBounds_toArray, List.set_cons_zero, List.set_cons_succ, i64_w, i32_w]
       rfl
      refine pure_ (i := 7) (N := some 95) (v := undef) (a' := ?_) mk_39_8 rfl rfl (any_of HT_.out (by kernel_rfl)) (fun _ _ _ h => h) (Or.inr ⟨by rfl, rfl⟩) ?_ ?_
      rotate_left
      ·simp only [Act.put, List.setIfInBounds_toArray, List.set_cons_zero, List.set_cons_succ, i64_w, i32_w]
       rfl
      refine pure_ (i := 8) (N := some 96) (v := undef) (a' := ?_) mk_39_9 rfl rfl (any_of HT_.out (by kernel_rfl)) (fun _ _ _ h => h) (Or.inr ⟨by rfl, rfl⟩) ?_ ?_
      rotate_left
      ·simp only [Act.put, List.setIfInBounds_toArray, List.set_cons_zero, List.set_cons_succ, i64_w, i32_w]
       rfl
      refine pure_ (i := 9) (N := some 97) (v := undef) (a' := ?_) mk_39_10 rfl rfl (any_of HT_.out (by kernel_rfl)) (fun _ _ _ h => h) (Or.inr ⟨by rfl, rfl⟩) ?_ ?_
      rotate_left
      ·simp only [Act.put, List.setIfInBounds_toArray, List.set_cons_zero, List.set_cons_succ, i64_w, i32_w]
       rfl
      refine pure_ (i := 10) (N := some 98) (v := undef) (a' := ?_) mk_39_11 rfl rfl (any_of HT_.out (by kernel_rfl)) (fun _ _ _ h => h) (Or.inr ⟨by rfl, rfl⟩) ?_ ?_
      rotate_left
      ·simp only [Act.put, List.setIfInBounds_toArray, List.set_cons_zero, List.set_cons_succ, i64_w, i32_w]
       rfl
      refine pure_ (i := 11) (N := some 99) (v := undef) (a' := ?_) mk_39_12 rfl rfl (any_of HT_.out (by kernel_rfl)) (fun _ _ _ h => h) (Or.inr ⟨by rfl, rfl⟩) ?_ ?_
      rotate_left
      ·simp only [Act.put, List.setIfInBounds_toArray, List.set_cons_zero, List.set_cons_succ, i64_w, i32_w]
       rfl
      refine pure_ (i := 12) (N := some 100) (v := undef) (a' := ?_) mk_39_13 rfl rfl (any_of HT_.out (by kernel_rfl)) (fun _ _ _ h => h) (Or.inr ⟨by rfl, rfl⟩) ?_ ?_
      rotate_left
      ·simp only [Act.put, List.setIfInBounds_toArray, List.set_cons_zero, List.set_cons_succ, i64_w, i32_w]
       rfl
      refine pure_ (i := 13) (N := some 101) (v := undef) (a' := ?_) mk_39_14 rfl rfl (any_of HT_.out (by kernel_rfl)) (fun _ _ _ h => h) (Or.inr ⟨by rfl, rfl⟩) ?_ ?_
      rotate_left
      ·simp only [Act.put, List.setIfInBounds_toArray, List.set_cons_zero, List.set_cons_succ, i64_w, i32_w]
       rfl
      refine pure_ (i := 14) (N := some 102) (v := undef) (a' := ?_) mk_39_15 rfl rfl (any_of HT_.out (by kernel_rfl)) (fun _ _ _ h => h) (Or.inr ⟨by rfl, rfl⟩) ?_ ?_
      rotate_left
      ·simp only [Act.put, List.setIfInBounds_toArray, List.set_cons_zero, List.set_cons_succ, i64_w, i32_w]
       rfl
      refine pure_ (i := 15) (N := some 103) (v := ?_) (a' := ?_) mk_39_16 rfl rfl (any_of HT_.out (by kernel_rfl)) (fun _ _ _ h => h) (Or.inl ⟨by rfl, ?_⟩) ?_ ?_
      rotate_left
      ·intro w'
       go_simp
       with_reducible rfl
      rotate_left
      ·simp only [Act.put, List.setIfInBounds_toArray, List.set_cons_zero, List.set_cons_succ, i64_w, i32_w]
       rfl
      refine pure_ (i := 16) (N := some 104) (v := ?_) (a' := ?_) mk_39_17 rfl rfl (any_of HT_.out (by kernel_rfl)) (fun _ _ _ h => h) (Or.inl ⟨by rfl, ?_⟩) ?_ ?_
      rotate_left
      ·intro w'
       go_simp
       with_reducible rfl
      rotate_left
      ·simp only [Act.put, List.setIfInBounds_toArray, List.set_cons_zero, List.set_cons_succ, i64_w, i32_w]
       rfl
      refine pure_ (i := 17) (N := some 105) (v := undef) (a' := ?_) mk_39_18 rfl rfl (any_of HT_.out (by kernel_rfl)) (fun _ _ _ h => h) (Or.inr ⟨by rfl, rfl⟩) ?_ ?_
      rotate_left
      ·simp only [Act.put, List.setIfInBounds_toArray, List.set_cons_zero, List.set_cons_succ, i64_w, i32_w]
       rfl
      refine pure_ (i := 18) (N := some 106) (v := undef) (a' := ?_) mk_39_19 rfl rfl (any_of HT_.out (by kernel_rfl)) (fun _ _ _ h => h) (Or.inr ⟨by rfl, rfl⟩) ?_ ?_
      rotate_left
      ·simp only [Act.put, List.setIfInBounds_toArray, List.set_cons_zero, List.set_cons_succ, i64_w, i32_w]
       rfl
      refine pure_ (i := 19) (N := some 107) (v := undef) (a' := ?_) mk_39_20 rfl rfl (any_of HT_.out (by kernel_rfl)) (fun _ _ _ h => h) (Or.inr ⟨by rfl, rfl⟩) ?_ ?_
      rotate_left
      ·simp only [Act.put, List.setIfInBounds_toArray, List.set_cons_zero, List.set_cons_succ, i64_w, i32_w]
       rfl
      refine pure_ (i := 20) (N := some 108) (v := undef) (a' := ?_) mk_39_21 rfl rfl (any_of HT_.out (by kernel_rfl)) (fun _ _ _ h => h) (Or.inr ⟨by rfl, rfl⟩) ?_ ?_
      rotate_left
      ·simp only [Act.put, List.setIfInBounds_toArray, List.set_cons_zero, List.set_cons_succ, i64_w, i32_w]
       rfl
      refine pure_ (i := 21) (N := some 109) (v := undef) (a' := ?_) mk_39_22 rfl rfl (any_of HT_.out (by kernel_rfl)) (fun _ _ _ h => h) (Or.inr ⟨by rfl, rfl⟩) ?_ ?_
      rotate_left
      ·simp only [Act.put, List.setIfInBounds_toArray, List.set_cons_zero, List.set_cons_succ, i64_w, i32_w]
       rfl
      refine pure_ (i := 22) (N := some 110) (v := undef) (a' := ?_) mk_39_23 rfl rfl (any_of HT_.out (by kernel_rfl)) (fun _ _ _ h => h) (Or.inr ⟨by rfl, rfl⟩) ?_ ?_
      rotate_left
      ·simp only [Act.put, List.setIfInBounds_toArray, List.set_cons_zero, List.set_cons_succ, i64_w, i32_w]
       rfl
      refine pure_ (i := 23) (N := some 111) (v := undef) (a' := ?_) mk_39_24 rfl rfl (any_of HT_.out (by kernel_rfl)) (fun _ _ _ h => h) (Or.inr ⟨by rfl, rfl⟩) ?_ ?_
      rotate_left
      ·simp only [Act.put, List.setIfInBounds_toArray, List.set_cons_zero, List.set_cons_succ, i64_w, i32_w]
       rfl
      refine pure_ (i := 24) (N := some 112) (v := undef) (a' := ?_) mk_39_25 rfl rfl (any_of HT_.out (by kernel_rfl)) (fun _ _ _ h => h) (Or.inr ⟨by rfl, rfl⟩) ?_ ?_
      rotate_left
      ·simp only [Act.put, List.setIfInBounds_toArray, List.set_cons_zero, List.set_cons_succ, i64_w, i32_w]
       rfl
      refine pure_ (i := 25) (N := some 113) (v := undef) (a' := ?_) mk_39_26 rfl rfl (any_of HT_.out (by kernel_rfl)) (fun _ _ _ h => h) (Or.inr ⟨by rfl, rfl⟩) ?_ ?_
      rotate_left
      ·simp only [Act.put, List.setIfInBounds_toArray, List.set_cons_zero, List.set_cons_succ, i64_w, i32_w]
       rfl
      refine pure_ (i := 26) (N := some 114) (v := undef) (a' := ?_) mk_39_27 rfl rfl (any_of HT_.out (by kernel_rfl)) (fun _ _ _ h => h) (Or.inr ⟨by rfl, rfl⟩) ?_ ?_
      rotate_left
      ·simp only [Act.put, List.setIfInBounds_toArray, List.set_cons_zero, List.set_cons_succ, i64_w, i32_w]
       rfl
      refine pure_ (i := 27) (N := some 115) (v := undef) (a' := ?_) mk_39_28 rfl rfl (any_of HT_.out (by kernel_rfl)) (fun _ _ _ h => h) (Or.inr ⟨by rfl, rfl⟩) ?_ ?_
      rotate_left
      ·simp only [Act.put, List.setIfInBounds_toArray, List.set_cons_zero, List.set_cons_succ, i64_w, i32_w]
       rfl
      refine pure_ (i := 28) (N := some 116) (v := undef) (a' := ?_) mk_39_29 rfl rfl (any_of HT_.out (by kernel_rfl)) (fun _ _ _ h => h) (Or.inr ⟨by rfl, rfl⟩) ?_ ?_
      rotate_left
      ·simp only [Act.put, List.setIfInBounds_toArray, List.set_cons_zero, List.set_cons_succ, i64_w, i32_w]
       rfl
      refine pure_ (i := 29) (N := some 117) (v := undef) (a' := ?_) mk_39_30 rfl rfl (any_of HT_.out (by kernel_rfl)) (fun _ _ _ h => h) (Or.inr ⟨by rfl, rfl⟩) ?_ ?_
      rotate_left
      ·simp only [Act.put, List.setIfInBounds_toArray, List.set_cons_zero, List.set_cons_succ, i64_w, i32_w]
       rfl
      refine pure_ (i := 30) (N := some 118) (v := undef) (a' := ?_) mk_39_31 rfl rfl (any_of HT_.out (by kernel_rfl)) (fun _ _ _ h => h) (Or.inr ⟨by rfl, rfl⟩) ?_ ?_
      rotate_left
      ·simp only [Act.put, List.setIfInBounds_toArray, List.set_cons_zero, List.set_cons_succ, i64_w, i32_w]
       rfl
      refine pure_ (i := 31) (N := some 119) (v := undef) (a' := ?_) mk_39_32 rfl rfl (any_of HT_.out (by kernel_rfl)) (fun _ _ _ h => h) (Or.inr ⟨by rfl, rfl⟩) ?_ ?_
      rotate_left
      ·simp only [Act.put, List.setIfInBounds_toArray, List.set_cons_zero, List.set_cons_succ, i64_w, i32_w]
       rfl
      refine pure_ (i := 32) (N := some 120) (v := undef) (a' := ?_) mk_39_33 rfl rfl (any_of HT_.out (by kernel_rfl)) (fun _ _ _ h => h) (Or.inr ⟨by rfl, rfl⟩) ?_ ?_
      rotate_left
      ·simp only [Act.put, List.setIfInBounds_toArray, List.set_cons_zero, List.set_cons_succ, i64_w, i32_w]
       rfl
      refine pure_ (i := 33) (N := some 121) (v := undef) (a' := ?_) mk_39_34 rfl rfl (any_of HT_.out (by kernel_rfl)) (fun _ _ _ h => h) (Or.inr ⟨by rfl, rfl⟩) ?_ ?_
      rotate_left
      ·simp only [Act.put, List.setIfInBounds_toArray, List.set_cons_zero, List.set_cons_succ, i64_w, i32_w]
       rfl
      refine pure_ (i := 34) (N := some 122) (v := undef) (a' := ?_) mk_39_35 rfl rfl (any_of HT_.out (by kernel_rfl)) (fun _ _ _ h => h) (Or.inr ⟨by rfl, rfl⟩) ?_ ?_
      rotate_left
      ·simp only [Act.put, List.setIfInBounds_toArray, List.set_cons_zero, List.set_cons_succ, i64_w, i32_w]
       rfl
      refine pure_ (i := 35) (N := some 123) (v := undef) (a' := ?_) mk_39_36 rfl rfl (any_of HT_.out (by kernel_rfl)) (fun _ _ _ h => h) (Or.inr ⟨by rfl, rfl⟩) ?_ ?_
      rotate_left
      ·simp only [Act.put, List.setIfInBounds_toArray, List.set_cons_zero, List.set_cons_succ, i64_w, i32_w]
       rfl
      refine pure_ (i := 36) (N := some 124) (v := undef) (a' := ?_) mk_39_37 rfl rfl (any_of HT_.out (by kernel_rfl)) (fun _ _ _ h => h) (Or.inr ⟨by rfl, rfl⟩) ?_ ?_
      rotate_left
      ·simp only [Act.put, List.setIfInBounds_toArray, List.set_cons_zero, List.set_cons_succ, i64_w, i32_w]
       rfl
      refine pure_ (i := 37) (N := some 125) (v := undef) (a' := ?_) mk_39_38 rfl rfl (any_of HT_.out (by kernel_rfl)) (fun _ _ _ h => h) (Or.inr ⟨by rfl, rfl⟩) ?_ ?_
      rotate_left
      ·simp only [Act.put, List.setIfInBounds_toArray, List.set_cons_zero, List.set_cons_succ, i64_w, i32_w]
       rfl
      refine pure_ (i := 38) (N := some 126) (v := ?_) (a' := ?_) mk_39_39 rfl rfl (any_of HT_.out (by kernel_rfl)) (fun _ _ _ h => h) (Or.inl ⟨by rfl, ?_⟩) ?_ ?_
      rotate_left
      ·intro w'
       go_simp
       with_reducible rfl
      rotate_left
      ·simp only [Act.put, List.setIfInBounds_toArray, List.set_cons_zero, List.set_cons_succ, i64_w, i32_w]
       rfl
      refine done_ (done_of HT_.out (by kernel_rfl)) ?_
      try go_wp2
      go_roundg k4
      case measure => have := HJ8.out; have := HK2.out; have := HK3.out; have := HK4.out; omega
      case rel => exact ⟨(wrap64 (x12_4 + 1)), (by first | rfl | (simp; done) | (simp [*]; done)), H', ⟨by have := HJ8.out; have := HK2.out; have := HK3.out; have := HK4.out; omega⟩, ⟨by (with_reducible repeat (first | apply Kd.S_alloc | apply Kd.S_drewN | apply Kd.S_drew)); exact HO_7.out⟩, ⟨by (with_reducible repeat (first | refine blk_drewN ?_ _ | refine blk_drew ?_ | refine blk_alloc ?_ _)); exact BK204.out⟩, ⟨by (with_reducible repeat (first | refine blk_drewN ?_ _ | refine blk_drew ?_ | refine blk_alloc ?_ _)); exact BK211.out⟩, ⟨by repeat (first | (with_reducible first | exact HB.out | apply below_alloc | apply pw_below_drewN | apply below_drew1 | refine below_set ?_ GE204.out | refine below_set ?_ GE211.out) | exact HB.out)⟩⟩
    ·rw [if_neg c31] at H
     have c31b0 : (x12_4 == a1) = false := beq_eq_false_iff_ne.mpr c31
     have c31b1 : (x12_4 != a1) = true := bne_iff_ne.mpr c31
     obtain ⟨ji33, hji33⟩ : ∃ j_ : Int, (wrap64 (x11_3 - 1)) = j_ := ⟨_, rfl⟩
     replace H : (if 0 ≤ (ji33) then (if (ji33) < 4 then (if 0 ≤ (wrap64 (x12_4 - 1)) then (if (wrap64 (x12_4 - 1)) < 4 then (if (ix4 (ix4 a0_0 a0_1 a0_2 a0_3 (wrap64 (x12_4 - 1))) (ix4 a0_4 a0_5 a0_6 a0_7 (wrap64 (x12_4 - 1))) (ix4 a0_8 a0_9 a0_10 a0_11 (wrap64 (x12_4 - 1))) (ix4 a0_12 a0_13 a0_14 a0_15 (wrap64 (x12_4 - 1))) (ji33)) > 0 then (if 0 ≤ x12_4 then (if x12_4 < 5 then (if (ix5 x212000_2 x212001_2 x212002_2 x212003_2 x212004_2 x12_4) = 0 then (some false) else (if 0 ≤ x11_3 then (if x11_3 < 5 then (if (ix5 x212000_2 x212001_2 x212002_2 x212003_2 x212004_2 x12_4) > (wrap64 ((ix5 x212000_2 x212001_2 x212002_2 x212003_2 x212004_2 x11_3) + (ix4 (ix4 a0_0 a0_1 a0_2 a0_3 (wrap64 (x12_4 - 1))) (ix4 a0_4 a0_5 a0_6 a0_7 (wrap64 (x12_4 - 1))) (ix4 a0_8 a0_9 a0_10 a0_11 (wrap64 (x12_4 - 1))) (ix4 a0_12 a0_13 a0_14 a0_15 (wrap64 (x12_4 - 1))) (ji33)))) then (some false) else (watchwordlaw21_PathsTriangle.l2 k4 a1 a2 t206 x11_3 (wrap64 (x12_4 + 1)) a0_0 a0_1 a0_2 a0_3 a0_4 a0_5 a0_6 a0_7 a0_8 a0_9 a0_10 a0_11 a0_12 a0_13 a0_14 a0_15 x212000_2 x212001_2 x212002_2 x212003_2 x212004_2)) else (none)) else (none))) else (none)) else (none)) else (watchwordlaw21_PathsTriangle.l2 k4 a1 a2 t206 x11_3 (wrap64 (x12_4 + 1)) a0_0 a0_1 a0_2 a0_3 a0_4 a0_5 a0_6 a0_7 a0_8 a0_9 a0_10 a0_11 a0_12 a0_13 a0_14 a0_15 x212000_2 x212001_2 x212002_2 x212003_2 x212004_2)) else (none)) else (none)) else (none)) else (none)) = some r := by first | (rw [hji33] at H; exact H) | (simp only [hji33] at H ⊢; exact H)
     have hji33w : (IntKind.i64.wrap (x11_3 - 1)) = ji33 := (i64_w _).trans hji33
     by_cases c34 : 0 ≤ (ji33)
     ·rw [if_pos c34] at H
      have c34b0 : decide (0 ≤ (ji33)) = true := decide_eq_true c34
      clear c34
      by_cases c35 : (ji33) < 4
      ·rw [if_pos c35] at H
       have c35b0 : decide ((ji33) < 4) = true := decide_eq_true c35
       clear c35
       obtain ⟨ji36, hji36⟩ : ∃ j_ : Int, (wrap64 (x12_4 - 1)) = j_ := ⟨_, rfl⟩
       replace H : (if 0 ≤ (ji36) then (if (ji36) < 4 then (if (ix4 (ix4 a0_0 a0_1 a0_2 a0_3 (ji36)) (ix4 a0_4 a0_5 a0_6 a0_7 (ji36)) (ix4 a0_8 a0_9 a0_10 a0_11 (ji36)) (ix4 a0_12 a0_13 a0_14 a0_15 (ji36)) (ji33)) > 0 then (if 0 ≤ x12_4 then (if x12_4 < 5 then (if (ix5 x212000_2 x212001_2 x212002_2 x212003_2 x212004_2 x12_4) = 0 then (some false) else (if 0 ≤ x11_3 then (if x11_3 < 5 then (if (ix5 x212000_2 x212001_2 x212002_2 x212003_2 x212004_2 x12_4) > (wrap64 ((ix5 x212000_2 x212001_2 x212002_2 x212003_2 x212004_2 x11_3) + (ix4 (ix4 a0_0 a0_1 a0_2 a0_3 (ji36)) (ix4 a0_4 a0_5 a0_6 a0_7 (ji36)) (ix4 a0_8 a0_9 a0_10 a0_11 (ji36)) (ix4 a0_12 a0_13 a0_14 a0_15 (ji36)) (ji33)))) then (some false) else (watchwordlaw21_PathsTriangle.l2 k4 a1 a2 t206 x11_3 (wrap64 (x12_4 + 1)) a0_0 a0_1 a0_2 a0_3 a0_4 a0_5 a0_6 a0_7 a0_8 a0_9 a0_10 a0_11 a0_12 a0_13 a0_14 a0_15 x212000_2 x212001_2 x212002_2 x212003_2 x212004_2)) else (none)) else (none))) else (none)) else (none)) else (watchwordlaw21_PathsTriangle.l2 k4 a1 a2 t206 x11_3 (wrap64 (x12_4 + 1)) a0_0 a0_1 a0_2 a0_3 a0_4 a0_5 a0_6 a0_7 a0_8 a0_9 a0_10 a0_11 a0_12 a0_13 a0_14 a0_15 x212000_2 x212001_2 x212002_2 x212003_2 x212004_2)) else (none)) else (none)) = some r := by first | (rw [hji36] at H; exact H) | (simp only [hji36] at H ⊢; exact H)
       have hji36w : (IntKind.i64.wrap (x12_4 - 1)) = ji36 := (i64_w _).trans hji36
       by_cases c37 : 0 ≤ (ji36)
       ·rw [if_pos c37] at H
        have c37b0 : decide (0 ≤ (ji36)) = true := decide_eq_true c37
        clear c37
        by_cases c38 : (ji36) < 4
        ·rw [if_pos c38] at H
         have c38b0 : decide ((ji36) < 4) = true := decide_eq_true c38
         clear c38
         by_cases c39 : (ix4 (ix4 a0_0 a0_1 a0_2 a0_3 (ji36)) (ix4 a0_4 a0_5 a0_6 a0_7 (ji36)) (ix4 a0_8 a0_9 a0_10 a0_11 (ji36)) (ix4 a0_12 a0_13 a0_14 a0_15 (ji36)) (ji33)) > 0
         ·rw [if_pos c39] at H
          have c39b0 : decide (0 < (ix4 (ix4 a0_0 a0_1 a0_2 a0_3 (ji36)) (ix4 a0_4 a0_5 a0_6 a0_7 (ji36)) (ix4 a0_8 a0_9 a0_10 a0_11 (ji36)) (ix4 a0_12 a0_13 a0_14 a0_15 (ji36)) (ji33))) = true := decide_eq_true c39
          clear c39
          by_cases c40 : 0 ≤ x12_4
          ·rw [if_pos c40] at H
           have c40b0 : decide (0 ≤ x12_4) = true := decide_eq_true c40
           clear c40
           by_cases c41 : x12_4 < 5
           ·rw [if_pos c41] at H
            have c41b0 : decide (x12_4 < 5) = true := decide_eq_true c41
            clear c41
            by_cases c42 : (ix5 x212000_2 x212001_2 x212002_2 x212003_2 x212004_2 x12_4) = 0
            ·rw [if_pos c42] at H
             have c42b0 : ((ix5 x212000_2 x212001_2 x212002_2 x212003_2 x212004_2 x12_4) == 0) = true := beq_iff_eq.mpr c42
             have c42b1 : ((ix5 x212000_2 x212001_2 x212002_2 x212003_2 x212004_2 x12_4) != 0) = false := bne_eq_false_iff_eq.mpr c42
             clear c42
             focus
              exact absurd (Option.some.inj H) (by rw [HT.out]; decide)
            ·rw [if_neg c42] at H
             have c42b0 : ((ix5 x212000_2 x212001_2 x212002_2 x212003_2 x212004_2 x12_4) == 0) = false := beq_eq_false_iff_ne.mpr c42
             have c42b1 : ((ix5 x212000_2 x212001_2 x212002_2 x212003_2 x212004_2 x12_4) != 0) = true := bne_iff_ne.mpr c42
             by_cases c43 : 0 ≤ x11_3
             ·rw [if_pos c43] at H
              have c43b0 : decide (0 ≤ x11_3) = true := decide_eq_true c43
              clear c43
              by_cases c44 : x11_3 < 5
              ·rw [if_pos c44] at H
               have c44b0 : decide (x11_3 < 5) = true := decide_eq_true c44
               clear c44
               by_cases c45 : (ix5 x212000_2 x212001_2 x212002_2 x212003_2 x212004_2 x12_4) > (wrap64 ((ix5 x212000_2 x212001_2 x212002_2 x212003_2 x212004_2 x11_3) + (ix4 (ix4 a0_0 a0_1 a0_2 a0_3 (ji36)) (ix4 a0_4 a0_5 a0_6 a0_7 (ji36)) (ix4 a0_8 a0_9 a0_10 a0_11 (ji36)) (ix4 a0_12 a0_13 a0_14 a0_15 (ji36)) (ji33))))
               ·rw [if_pos c45] at H
                have c45b0 : decide ((wrap64 ((ix5 x212000_2 x212001_2 x212002_2 x212003_2 x212004_2 x11_3) + (ix4 (ix4 a0_0 a0_1 a0_2 a0_3 (ji36)) (ix4 a0_4 a0_5 a0_6 a0_7 (ji36)) (ix4 a0_8 a0_9 a0_10 a0_11 (ji36)) (ix4 a0_12 a0_13 a0_14 a0_15 (ji36)) (ji33)))) < (ix5 x212000_2 x212001_2 x212002_2 x212003_2 x212004_2 x12_4)) = true := decide_eq_true c45
                clear c45
                focus
                 exact absurd (Option.some.inj H) (by rw [HT.out]; decide)
               ·rw [if_neg c45] at H
                have c45b0 : decide ((wrap64 ((ix5 x212000_2 x212001_2 x212002_2 x212003_2 x212004_2 x11_3) + (ix4 (ix4 a0_0 a0_1 a0_2 a0_3 (ji36)) (ix4 a0_4 a0_5 a0_6 a0_7 (ji36)) (ix4 a0_8 a0_9 a0_10 a0_11 (ji36)) (ix4 a0_12 a0_13 a0_14 a0_15 (ji36)) (ji33)))) < (ix5 x212000_2 x212001_2 x212002_2 x212003_2 x212004_2 x12_4)) = false := decide_eq_false c45
                clear c45
                focus
                 have H' := Aside0.mk H
                 clear H
                 try go_wp2
                 have n0_ := Aside0.mk (Kd.S_drew HO_7.out)
                 have n1_ := Aside0.mk (blk_drew BK204.out)
                 have n2_ := Aside0.mk (blk_drew BK211.out)
                 have n3_ := Aside0.mk (below_drew1 HB.out)
                 clear HO_7
                 clear BK204
                 clear BK211
                 clear HB
                 have HO_7 := n0_
                 have BK204 := n1_
                 have BK211 := n2_
                 have HB := n3_
                 clear n0_ n1_ n2_ n3_
                 have p47 : (0 ≤ ((ji33) : Int)) = True := eq_true (of_decide_eq_true (by first | (with_reducible assumption) | assumption))
                 have q47 : (((ji33) : Int) < 4) = True := eq_true (of_decide_eq_true (by first | (with_reducible assumption) | assumption))
                 have p48 : (0 ≤ ((ji36) : Int)) = True := eq_true (of_decide_eq_true (by first | (with_reducible assumption) | assumption))
                 have q48 : (((ji36) : Int) < 4) = True := eq_true (of_decide_eq_true (by first | (with_reducible assumption) | assumption))
                 have p50 : (0 ≤ (x12_4 : Int)) = True := eq_true (of_decide_eq_true (by first | (with_reducible assumption) | assumption))
                 have q50 : ((x12_4 : Int) < 5) = True := eq_true (of_decide_eq_true (by first | (with_reducible assumption) | assumption))
                 have p52 : (0 ≤ (x12_4 : Int)) = True := eq_true (of_decide_eq_true (by first | (with_reducible assumption) | assumption))
                 have q52 : ((x12_4 : Int) < 5) = True := eq_true (of_decide_eq_true (by first | (with_reducible assumption) | assumption))
                 have p54 : (0 ≤ (x11_3 : Int)) = True := eq_true (of_decide_eq_true (by first | (with_reducible assumption) | assumption))
                 have q54 : ((x11_3 : Int) < 5) = True := eq_true (of_decide_eq_true (by first | (with_reducible assumption) | assumption))
                 have p56 : (0 ≤ ((ji33) : Int)) = True := eq_true (of_decide_eq_true (by first | (with_reducible assumption) | assumption))
                 have q56 : (((ji33) : Int) < 4) = True := eq_true (of_decide_eq_true (by first | (with_reducible assumption) | assumption))
                 have p57 : (0 ≤ ((ji36) : Int)) = True := eq_true (of_decide_eq_true (by first | (with_reducible assumption) | assumption))
                 have q57 : (((ji36) : Int) < 4) = True := eq_true (of_decide_eq_true (by first | (with_reducible assumption) | assumption))
                 refine start_ (n := 39) (S := fun w' => w'.cell? ⟨gb204, (ji33).toNat * 4 + (ji36).toNat, none⟩ = some (.int .i64 (ix4 (ix4 a0_0 a0_1 a0_2 a0_3 (ji36)) (ix4 a0_4 a0_5 a0_6 a0_7 (ji36)) (ix4 a0_8 a0_9 a0_10 a0_11 (ji36)) (ix4 a0_12 a0_13 a0_14 a0_15 (ji36)) (ji33))) ∧ w'.cell? ⟨gb211, x12_4.toNat, none⟩ = some (.int .i64 (ix5 x212000_2 x212001_2 x212002_2 x212003_2 x212004_2 x12_4)) ∧ w'.cell? ⟨gb211, x12_4.toNat, none⟩ = some (.int .i64 (ix5 x212000_2 x212001_2 x212002_2 x212003_2 x212004_2 x12_4)) ∧ w'.cell? ⟨gb211, x11_3.toNat, none⟩ = some (.int .i64 (ix5 x212000_2 x212001_2 x212002_2 x212003_2 x212004_2 x11_3)) ∧ w'.cell? ⟨gb204, (ji33).toNat * 4 + (ji36).toNat, none⟩ = some (.int .i64 (ix4 (ix4 a0_0 a0_1 a0_2 a0_3 (ji36)) (ix4 a0_4 a0_5 a0_6 a0_7 (ji36)) (ix4 a0_8 a0_9 a0_10 a0_11 (ji36)) (ix4 a0_12 a0_13 a0_14 a0_15 (ji36)) (ji33)))) (ds := []) mk_39_0 (by kernel_rfl) rfl rfl ⟨(blk_cell BK204.out ((ji33).toNat * 4 + (ji36).toNat)).trans (ix_44 (Value.int .i64) _ _ _ _ _ _ _ _ _ _ _ _ _ _ _ _ (ji33) (ji36)  (of_decide_eq_true (by first | (with_reducible assumption) | assumption)) (of_decide_eq_true (by first | (with_reducible assumption) | assumption))  (of_decide_eq_true (by first | (with_reducible assumption) | assumption)) (of_decide_eq_true (by first | (with_reducible assumption) | assumption))), (blk_cell BK211.out (x12_4.toNat)).trans (ix_5 (Value.int .i64) _ _ _ _ _ x12_4 (of_decide_eq_true (by first | (with_reducible assumption) | assumption)) (of_decide_eq_true (by first | (with_reducible assumption) | assumption))), (blk_cell BK211.out (x12_4.toNat)).trans (ix_5 (Value.int .i64) _ _ _ _ _ x12_4 (of_decide_eq_true (by first | (with_reducible assumption) | assumption)) (of_decide_eq_true (by first | (with_reducible assumption) | assumption))), (blk_cell BK211.out (x11_3.toNat)).trans (ix_5 (Value.int .i64) _ _ _ _ _ x11_3 (of_decide_eq_true (by first | (with_reducible assumption) | assumption)) (of_decide_eq_true (by first | (with_reducible assumption) | assumption))), (blk_cell BK204.out ((ji33).toNat * 4 + (ji36).toNat)).trans (ix_44 (Value.int .i64) _ _ _ _ _ _ _ _ _ _ _ _ _ _ _ _ (ji33) (ji36)  (of_decide_eq_true (by first | (with_reducible assumption) | assumption)) (of_decide_eq_true (by first | (with_reducible assumption) | assumption))  (of_decide_eq_true (by first | (with_reducible assumption) | assumption)) (of_decide_eq_true (by first | (with_reducible assumption) | assumption)))⟩ (fun hHeld => ?_); refine with_tabW watchwordlaw21_PathsTriangle.tab22 watchwordlaw21_PathsTriangle.bits22 (fun HT_ HW_ => ?_)
                 generalize wr.drew = w46 at HO_7 BK204 BK211 HB hHeld ⊢
                 refine pure_ (i := 0) (N := some 88) (v := ?_) (a' := ?_) mk_39_1 rfl rfl (any_of HT_.out (by kernel_rfl)) (fun _ _ _ h => h) (Or.inl ⟨by rfl, ?_⟩) ?_ ?_
                 rotate_left
                 ·intro w'
                  go_simp
                  with_reducible rfl
                 rotate_left
                 ·simp only [Act.put, List.setIfInBounds_toArray, List.set_cons_zero, List.set_cons_succ, i64_w, i32_w]
                  rfl
                 refine pure_ (i := 1) (N := some 89) (v := ?_) (a' := ?_) mk_39_2 rfl rfl (any_of HT_.out (by kernel_rfl)) (fun _ _ _ h => h) (Or.inl ⟨by rfl, ?_⟩) ?_ ?_
                 rotate_left
                 ·intro w'
                  go_simp
                  with_reducible rfl
                 rotate_left
                 ·simp only [Act.put, List.setIfInBounds_toArray, List.set_cons_zero, List.set_cons_succ, i64_w, i32_w]
                  rfl
                 refine pure_ (i := 2) (N := some 90) (v := ?_) (a' := ?_) mk_39_3 rfl rfl (any_of HT_.out (by kernel_rfl)) (fun _ _ _ h => h) (Or.inl ⟨by rfl, ?_⟩) ?_ ?_
                 rotate_left
                 ·intro w'
                  go_simp
                  with_reducible rfl
                 rotate_left
                 ·simp only [Act.put, List.setIfInBounds_toArray, List.set_cons_zero, List.set_cons_succ, i64_w, i32_w]
                  rfl
                 refine pure_ (i := 3) (N := some 91) (v := ?_) (a' := ?_) mk_39_4 rfl rfl (any_of HT_.out (by kernel_rfl)) (fun _ _ _ h => h) (Or.inl ⟨by rfl, ?_⟩) ?_ ?_
                 rotate_left
                 ·intro w'
                  go_simp
                  with_reducible rfl
                 rotate_left
                 ·simp only [Act.put, List.setIfInBounds_toArray, List.set_cons_zero, List.set_cons_succ, i64_w, i32_w]
                  rfl
                 refine pure_ (i := 4) (N := some 92) (v := ?_) (a' := ?_) mk_39_5 rfl rfl (any_of HT_.out (by kernel_rfl)) (fun _ _ _ h => h) (Or.inl ⟨by rfl, ?_⟩) ?_ ?_
                 rotate_left
                 ·intro w'
                  go_simp
                  with_reducible rfl
                 rotate_left
                 ·simp only [Act.put, List.setIfInBounds_toArray, List.set_cons_zero, List.set_cons_succ, i64_w, i32_w]
                  rfl
                 refine pure_ (i := 5) (N := some 93) (v := ?_) (a' := ?_) mk_39_6 rfl rfl (any_of HT_.out (by kernel_rfl)) (fun _ _ _ h => h) (Or.inl ⟨by rfl, ?_⟩) ?_ ?_
                 rotate_left
                 ·intro w'
                  go_simp
                  with_reducible rfl
                 rotate_left
                 ·simp only [Act.put, List.setIfInBounds_toArray, List.set_cons_zero, List.set_cons_succ, i64_w, i32_w]
                  rfl
                 refine pure_ (i := 6) (N := some 94) (v := ?_) (a' := ?_) mk_39_7 rfl rfl (any_of HT_.out (by kernel_rfl)) (fun _ _ _ h => h) (Or.inl ⟨by rfl, ?_⟩) ?_ ?_
                 rotate_left
                 ·intro w'
                  go_simp
                  with_reducible rfl
                 rotate_left
                 ·simp only [Act.put, List.setIfInBounds_toArray, List.set_cons_zero, List.set_cons_succ, i64_w, i32_w]
                  rfl
                 refine pure_ (i := 7) (N := some 95) (v := ?_) (a' := ?_) mk_39_8 rfl rfl (any_of HT_.out (by kernel_rfl)) (fun _ _ _ h => h) (Or.inl ⟨by rfl, ?_⟩) ?_ ?_
                 rotate_left
                 ·intro w'
                  go_simp
                  with_reducible rfl
                 rotate_left
                 ·simp only [Act.put, List.setIfInBounds_toArray, List.set_cons_zero, List.set_cons_succ, i64_w, i32_w]
                  rfl
                 refine pure_ (i := 8) (N := some 96) (v := ?_) (a' := ?_) mk_39_9 rfl rfl (any_of HT_.out (by kernel_rfl)) (fun _ _ _ h => h) (Or.inl ⟨by rfl, ?_⟩) ?_ ?_
                 rotate_left
                 ·intro w'
                  go_simp
                  with_reducible rfl
                 rotate_left
                 ·simp only [Act.put, List.setIfInBounds_toArray, List.set_cons_zero, List.set_cons_succ, i64_w, i32_w]
                  rfl
                 refine pure_ (i := 9) (N := some 97) (v := ?_) (a' := ?_) mk_39_10 rfl rfl (any_of HT_.out (by kernel_rfl)) (fun _ _ _ h => h) (Or.inl ⟨by rfl, ?_⟩) ?_ ?_
                 rotate_left
                 ·intro w'
                  go_simp
                  with_reducible rfl
                 rotate_left
                 ·simp only [Act.put, List.setIfInBounds_toArray, List.set_cons_zero, List.set_cons_succ, i64_w, i32_w]
                  rfl
                 refine pure_ (i := 10) (N := some 98) (v := ?_) (a' := ?_) mk_39_11 rfl rfl (any_of HT_.out (by kernel_rfl)) (fun _ _ _ h => h) (Or.inl ⟨by rfl, ?_⟩) ?_ ?_
                 rotate_left
                 ·intro w'
                  go_simp
                  with_reducible rfl
                 rotate_left
                 ·simp only [Act.put, List.setIfInBounds_toArray, List.set_cons_zero, List.set_cons_succ, i64_w, i32_w]
                  rfl
                 refine pure_ (i := 11) (N := some 99) (v := ?_) (a' := ?_) mk_39_12 rfl rfl (any_of HT_.out (by kernel_rfl)) (fun _ _ _ h => h) (Or.inl ⟨by rfl, ?_⟩) ?_ ?_
                 rotate_left
                 ·intro w'
                  go_simp
                  with_reducible rfl
                 rotate_left
                 ·simp only [Act.put, List.setIfInBounds_toArray, List.set_cons_zero, List.set_cons_succ, i64_w, i32_w]
                  rfl
                 refine pure_ (i := 12) (N := some 100) (v := ?_) (a' := ?_) mk_39_13 rfl rfl (any_of HT_.out (by kernel_rfl)) (fun _ _ _ h => h) (Or.inl ⟨by rfl, ?_⟩) ?_ ?_
                 rotate_left
                 ·intro w'
                  go_simp
                  with_reducible rfl
                 rotate_left
                 ·simp only [Act.put, List.setIfInBounds_toArray, List.set_cons_zero, List.set_cons_succ, i64_w, i32_w]
                  rfl
                 refine take_ (i := 13) (N := some 101) (v := ?_) (a' := ?_) mk_39_14 rfl rfl (take_ofW HT_.out HW_.out (by kernel_rfl)) (fun _ _ _ h => h) (Or.inl ⟨by rfl, ?_⟩) hHeld ?_ ?_
                 rotate_left
                 ·rintro w' ⟨s0, s1, s2, s3, s4⟩
                  go_simp
                  with_reducible rfl
                 rotate_left
                 ·simp only [Act.put, List.setIfInBounds_toArray, List.set_cons_zero, List.set_cons_succ, i64_w, i32_w]
                  rfl
                 refine pure_ (i := 14) (N := some 102) (v := ?_) (a' := ?_) mk_39_15 rfl rfl (any_of HT_.out (by kernel_rfl)) (fun _ _ _ h => h) (Or.inl ⟨by rfl, ?_⟩) ?_ ?_
                 rotate_left
                 ·intro w'
                  go_simp
                  with_reducible rfl
                 rotate_left
                 ·simp only [Act.put, List.setIfInBounds_toArray, List.set_cons_zero, List.set_cons_succ, i64_w, i32_w]
                  rfl
                 refine pure_ (i := 15) (N := some 103) (v := ?_) (a' := ?_) mk_39_16 rfl rfl (any_of HT_.out (by kernel_rfl)) (fun _ _ _ h => h) (Or.inl ⟨by rfl, ?_⟩) ?_ ?_
                 rotate_left
                 ·intro w'
                  go_simp
                  with_reducible rfl
                 rotate_left
                 ·simp only [Act.put, List.setIfInBounds_toArray, List.set_cons_zero, List.set_cons_succ, i64_w, i32_w]
                  rfl
                 refine pure_ (i := 16) (N := some 104) (v := ?_) (a' := ?_) mk_39_17 rfl rfl (any_of HT_.out (by kernel_rfl)) (fun _ _ _ h => h) (Or.inl ⟨by rfl, ?_⟩) ?_ ?_
                 rotate_left
                 ·intro w'
                  go_simp
                  with_reducible rfl
                 rotate_left
                 ·simp only [Act.put, List.setIfInBounds_toArray, List.set_cons_zero, List.set_cons_succ, i64_w, i32_w]
                  rfl
                 refine pure_ (i := 17) (N := some 105) (v := ?_) (a' := ?_) mk_39_18 rfl rfl (any_of HT_.out (by kernel_rfl)) (fun _ _ _ h => h) (Or.inl ⟨by rfl, ?_⟩) ?_ ?_
                 rotate_left
                 ·intro w'
                  go_simp
                  with_reducible rfl
                 rotate_left
                 ·simp only [Act.put, List.setIfInBounds_toArray, List.set_cons_zero, List.set_cons_succ, i64_w, i32_w]
                  rfl
                 refine pure_ (i := 18) (N := some 106) (v := ?_) (a' := ?_) mk_39_19 rfl rfl (any_of HT_.out (by kernel_rfl)) (fun _ _ _ h => h) (Or.inl ⟨by rfl, ?_⟩) ?_ ?_
                 rotate_left
                 ·intro w'
                  go_simp
                  with_reducible rfl
                 rotate_left
                 ·simp only [Act.put, List.setIfInBounds_toArray, List.set_cons_zero, List.set_cons_succ, i64_w, i32_w]
                  rfl
                 refine take_ (i := 19) (N := some 107) (v := ?_) (a' := ?_) mk_39_20 rfl rfl (take_ofW HT_.out HW_.out (by kernel_rfl)) (fun _ _ _ h => h) (Or.inl ⟨by rfl, ?_⟩) hHeld ?_ ?_
                 rotate_left
                 ·rintro w' ⟨s0, s1, s2, s3, s4⟩
                  go_simp
                  with_reducible rfl
                 rotate_left
                 ·simp only [Act.put, List.setIfInBounds_toArray, List.set_cons_zero, List.set_cons_succ, i64_w, i32_w]
                  rfl
                 refine pure_ (i := 20) (N := some 108) (v := ?_) (a' := ?_) mk_39_21 rfl rfl (any_of HT_.out (by kernel_rfl)) (fun _ _ _ h => h) (Or.inl ⟨by rfl, ?_⟩) ?_ ?_
                 rotate_left
                 ·intro w'
                  go_simp
                  with_reducible rfl
                 rotate_left
                 ·simp only [Act.put, List.setIfInBounds_toArray, List.set_cons_zero, List.set_cons_succ, i64_w, i32_w]
                  rfl
                 refine pure_ (i := 21) (N := some 109) (v := ?_) (a' := ?_) mk_39_22 rfl rfl (any_of HT_.out (by kernel_rfl)) (fun _ _ _ h => h) (Or.inl ⟨by rfl, ?_⟩) ?_ ?_
                 rotate_left
                 ·intro w'
                  go_simp
                  with_reducible rfl
                 rotate_left
                 ·simp only [Act.put, List.setIfInBounds_toArray, List.set_cons_zero, List.set_cons_succ, i64_w, i32_w]
                  rfl
                 refine pure_ (i := 22) (N := some 110) (v := ?_) (a' := ?_) mk_39_23 rfl rfl (any_of HT_.out (by kernel_rfl)) (fun _ _ _ h => h) (Or.inl ⟨by rfl, ?_⟩) ?_ ?_
                 rotate_left
                 ·intro w'
                  go_simp
                  with_reducible rfl
                 rotate_left
                 ·simp only [Act.put, List.setIfInBounds_toArray, List.set_cons_zero, List.set_cons_succ, i64_w, i32_w]
                  rfl
                 refine pure_ (i := 23) (N := some 111) (v := ?_) (a' := ?_) mk_39_24 rfl rfl (any_of HT_.out (by kernel_rfl)) (fun _ _ _ h => h) (Or.inl ⟨by rfl, ?_⟩) ?_ ?_
                 rotate_left
                 ·intro w'
                  go_simp
                  with_reducible rfl
                 rotate_left
                 ·simp only [Act.put, List.setIfInBounds_toArray, List.set_cons_zero, List.set_cons_succ, i64_w, i32_w]
                  rfl
                 refine pure_ (i := 25) (N := some 113) (v := ?_) (a' := ?_) #[true, true, true, true, true, true, true, true, true, true, true, true, true, true, true, true, true, true, true, true, true, true, true, true, false, true, false, false, false, false, false, false, false, false, false, false, false, false, false] rfl rfl (any_of HT_.out (by kernel_rfl)) (fun _ _ _ h => h) (Or.inl ⟨by rfl, ?_⟩) ?_ ?_
                 rotate_left
                 ·intro w'
                  go_simp
                  with_reducible rfl
                 rotate_left
                 ·simp only [Act.put, List.setIfInBounds_toArray, List.set_cons_zero, List.set_cons_succ, i64_w, i32_w]
                  rfl
                 refine pure_ (i := 26) (N := some 114) (v := ?_) (a' := ?_) #[true, true, true, true, true, true, true, true, true, true, true, true, true, true, true, true, true, true, true, true, true, true, true, true, false, true, true, false, false, false, false, false, false, false, false, false, false, false, false] rfl rfl (any_of HT_.out (by kernel_rfl)) (fun _ _ _ h => h) (Or.inl ⟨by rfl, ?_⟩) ?_ ?_
                 rotate_left
                 ·intro w'
                  go_simp
                  with_reducible rfl
                 rotate_left
                 ·simp only [Act.put, List.setIfInBounds_toArray, List.set_cons_zero, List.set_cons_succ, i64_w, i32_w]
                  rfl
                 refine pure_ (i := 28) (N := some 116) (v := ?_) (a' := ?_) #[true, true, true, true, true, true, true, true, true, true, true, true, true, true, true, true, true, true, true, true, true, true, true, true, false, true, true, false, true, false, false, false, false, false, false, false, false, false, false] rfl rfl (any_of HT_.out (by kernel_rfl)) (fun _ _ _ h => h) (Or.inl ⟨by rfl, ?_⟩) ?_ ?_
                 rotate_left
                 ·intro w'
                  go_simp
                  with_reducible rfl
                 rotate_left
                 ·simp only [Act.put, List.setIfInBounds_toArray, List.set_cons_zero, List.set_cons_succ, i64_w, i32_w]
                  rfl
                 refine pure_ (i := 29) (N := some 117) (v := ?_) (a' := ?_) #[true, true, true, true, true, true, true, true, true, true, true, true, true, true, true, true, true, true, true, true, true, true, true, true, false, true, true, false, true, true, false, false, false, false, false, false, false, false, false] rfl rfl (any_of HT_.out (by kernel_rfl)) (fun _ _ _ h => h) (Or.inl ⟨by rfl, ?_⟩) ?_ ?_
                 rotate_left
                 ·intro w'
                  go_simp
                  with_reducible rfl
                 rotate_left
                 ·simp only [Act.put, List.setIfInBounds_toArray, List.set_cons_zero, List.set_cons_succ, i64_w, i32_w]
                  rfl
                 refine pure_ (i := 30) (N := some 118) (v := ?_) (a' := ?_) #[true, true, true, true, true, true, true, true, true, true, true, true, true, true, true, true, true, true, true, true, true, true, true, true, false, true, true, false, true, true, true, false, false, false, false, false, false, false, false] rfl rfl (any_of HT_.out (by kernel_rfl)) (fun _ _ _ h => h) (Or.inl ⟨by rfl, ?_⟩) ?_ ?_
                 rotate_left
                 ·intro w'
                  go_simp
                  with_reducible rfl
                 rotate_left
                 ·simp only [Act.put, List.setIfInBounds_toArray, List.set_cons_zero, List.set_cons_succ, i64_w, i32_w]
                  rfl
                 refine pure_ (i := 31) (N := some 119) (v := ?_) (a' := ?_) #[true, true, true, true, true, true, true, true, true, true, true, true, true, true, true, true, true, true, true, true, true, true, true, true, false, true, true, false, true, true, true, true, false, false, false, false, false, false, false] rfl rfl (any_of HT_.out (by kernel_rfl)) (fun _ _ _ h => h) (Or.inl ⟨by rfl, ?_⟩) ?_ ?_
                 rotate_left
                 ·intro w'
                  go_simp
                  with_reducible rfl
                 rotate_left
                 ·simp only [Act.put, List.setIfInBounds_toArray, List.set_cons_zero, List.set_cons_succ, i64_w, i32_w]
                  rfl
                 refine pure_ (i := 32) (N := some 120) (v := ?_) (a' := ?_) #[true, true, true, true, true, true, true, true, true, true, true, true, true, true, true, true, true, true, true, true, true, true, true, true, false, true, true, false, true, true, true, true, true, false, false, false, false, false, false] rfl rfl (any_of HT_.out (by kernel_rfl)) (fun _ _ _ h => h) (Or.inl ⟨by rfl, ?_⟩) ?_ ?_
                 rotate_left
                 ·intro w'
                  go_simp
                  with_reducible rfl
                 rotate_left
                 ·simp only [Act.put, List.setIfInBounds_toArray, List.set_cons_zero, List.set_cons_succ, i64_w, i32_w]
                  rfl
                 refine pure_ (i := 33) (N := some 121) (v := ?_) (a' := ?_) #[true, true, true, true, true, true, true, true, true, true, true, true, true, true, true, true, true, true, true, true, true, true, true, true, false, true, true, false, true, true, true, true, true, true, false, false, false, false, false] rfl rfl (any_of HT_.out (by kernel_rfl)) (fun _ _ _ h => h) (Or.inl ⟨by rfl, ?_⟩) ?_ ?_
                 rotate_left
                 ·intro w'
                  go_simp
                  with_reducible rfl
                 rotate_left
                 ·simp only [Act.put, List.setIfInBounds_toArray, List.set_cons_zero, List.set_cons_succ, i64_w, i32_w]
                  rfl
                 refine take_ (i := 24) (N := some 112) (v := ?_) (a' := ?_) #[true, true, true, true, true, true, true, true, true, true, true, true, true, true, true, true, true, true, true, true, true, true, true, true, true, true, true, false, true, true, true, true, true, true, false, false, false, false, false] rfl rfl (take_ofW HT_.out HW_.out (by kernel_rfl)) (fun _ _ _ h => h) (Or.inl ⟨by rfl, ?_⟩) hHeld ?_ ?_
                 rotate_left
                 ·rintro w' ⟨s0, s1, s2, s3, s4⟩
                  go_simp
                  with_reducible rfl
                 rotate_left
                 ·simp only [Act.put, List.setIfInBounds_toArray, List.set_cons_zero, List.set_cons_succ, i64_w, i32_w]
                  rfl
                 refine take_ (i := 27) (N := some 115) (v := ?_) (a' := ?_) mk_39_34 rfl rfl (take_ofW HT_.out HW_.out (by kernel_rfl)) (fun _ _ _ h => h) (Or.inl ⟨by rfl, ?_⟩) hHeld ?_ ?_
                 rotate_left
                 ·rintro w' ⟨s0, s1, s2, s3, s4⟩
                  go_simp
                  with_reducible rfl
                 rotate_left
                 ·simp only [Act.put, List.setIfInBounds_toArray, List.set_cons_zero, List.set_cons_succ, i64_w, i32_w]
                  rfl
                 refine take_ (i := 34) (N := some 122) (v := ?_) (a' := ?_) mk_39_35 rfl rfl (take_ofW HT_.out HW_.out (by kernel_rfl)) (fun _ _ _ h => h) (Or.inl ⟨by rfl, ?_⟩) hHeld ?_ ?_
                 rotate_left
                 ·rintro w' ⟨s0, s1, s2, s3, s4⟩
                  go_simp
                  with_reducible rfl
                 rotate_left
                 ·simp only [Act.put, List.setIfInBounds_toArray, List.set_cons_zero, List.set_cons_succ, i64_w, i32_w]
                  rfl
                 refine pure_ (i := 35) (N := some 123) (v := ?_) (a' := ?_) mk_39_36 rfl rfl (any_of HT_.out (by kernel_rfl)) (fun _ _ _ h => h) (Or.inl ⟨by rfl, ?_⟩) ?_ ?_
                 rotate_left
                 ·intro w'
                  go_simp
                  with_reducible rfl
                 rotate_left
                 ·simp only [Act.put, List.setIfInBounds_toArray, List.set_cons_zero, List.set_cons_succ, i64_w, i32_w]
                  rfl
                 refine pure_ (i := 36) (N := some 124) (v := ?_) (a' := ?_) mk_39_37 rfl rfl (any_of HT_.out (by kernel_rfl)) (fun _ _ _ h => h) (Or.inl ⟨by rfl, ?_⟩) ?_ ?_
                 rotate_left
                 ·intro w'
                  go_simp
                  with_reducible rfl
                 rotate_left
                 ·simp only [Act.put, List.setIfInBounds_toArray, List.set_cons_zero, List.set_cons_succ, i64_w, i32_w]
                  rfl
                 refine pure_ (i := 37) (N := some 125) (v := ?_) (a' := ?_) mk_39_38 rfl rfl (any_of HT_.out (by kernel_rfl)) (fun _ _ _ h => h) (Or.inl ⟨by rfl, ?_⟩) ?_ ?_
                 rotate_left
                 ·intro w'
                  go_simp
                  with_reducible rfl
                 rotate_left
                 ·simp only [Act.put, List.setIfInBounds_toArray, List.set_cons_zero, List.set_cons_succ, i64_w, i32_w]
                  rfl
                 refine pure_ (i := 38) (N := some 126) (v := ?_) (a' := ?_) mk_39_39 rfl rfl (any_of HT_.out (by kernel_rfl)) (fun _ _ _ h => h) (Or.inl ⟨by rfl, ?_⟩) ?_ ?_
                 rotate_left
                 ·intro w'
                  go_simp
                  with_reducible rfl
                 rotate_left
                 ·simp only [Act.put, List.setIfInBounds_toArray, List.set_cons_zero, List.set_cons_succ, i64_w, i32_w]
                  rfl
                 refine done_ (done_of HT_.out (by kernel_rfl)) ?_
                 try go_wp2
                 go_roundg k4
                 case measure => have := HJ8.out; have := HK2.out; have := HK3.out; have := HK4.out; omega
                 case rel => exact ⟨(wrap64 (x12_4 + 1)), (by first | rfl | (simp; done) | (simp [*]; done)), H', ⟨by have := HJ8.out; have := HK2.out; have := HK3.out; have := HK4.out; omega⟩, ⟨by (with_reducible repeat (first | apply Kd.S_alloc | apply Kd.S_drewN | apply Kd.S_drew)); exact HO_7.out⟩, ⟨by (with_reducible repeat (first | refine blk_drewN ?_ _ | refine blk_drew ?_ | refine blk_alloc ?_ _)); exact BK204.out⟩, ⟨by (with_reducible repeat (first | refine blk_drewN ?_ _ | refine blk_drew ?_ | refine blk_alloc ?_ _)); exact BK211.out⟩, ⟨by repeat (first | (with_reducible first | exact HB.out | apply below_alloc | apply pw_below_drewN | apply below_drew1 | refine below_set ?_ GE204.out | refine below_set ?_ GE211.out) | exact HB.out)⟩⟩
              ·rw [if_neg c44] at H
               exact absurd H (by simp)
             ·rw [if_neg c43] at H
              exact absurd H (by simp)
           ·rw [if_neg c41] at H
            exact absurd H (by simp)
          ·rw [if_neg c40] at H
           exact absurd H (by simp)
         ·rw [if_neg c39] at H
          have c39b0 : decide (0 < (ix4 (ix4 a0_0 a0_1 a0_2 a0_3 (ji36)) (ix4 a0_4 a0_5 a0_6 a0_7 (ji36)) (ix4 a0_8 a0_9 a0_10 a0_11 (ji36)) (ix4 a0_12 a0_13 a0_14 a0_15 (ji36)) (ji33))) = false := decide_eq_false c39
          clear c39
          focus
           have H' := Aside0.mk H
           clear H
           try go_wp2
           have n0_ := Aside0.mk (Kd.S_drew HO_7.out)
           have n1_ := Aside0.mk (blk_drew BK204.out)
           have n2_ := Aside0.mk (blk_drew BK211.out)
           have n3_ := Aside0.mk (below_drew1 HB.out)
           clear HO_7
           clear BK204
           clear BK211
           clear HB
           have HO_7 := n0_
           have BK204 := n1_
           have BK211 := n2_
           have HB := n3_
           clear n0_ n1_ n2_ n3_
           have p60 : (0 ≤ ((ji33) : Int)) = True := eq_true (of_decide_eq_true (by first | (with_reducible assumption) | assumption))
           have q60 : (((ji33) : Int) < 4) = True := eq_true (of_decide_eq_true (by first | (with_reducible assumption) | assumption))
           have p61 : (0 ≤ ((ji36) : Int)) = True := eq_true (of_decide_eq_true (by first | (with_reducible assumption) | assumption))
           have q61 : (((ji36) : Int) < 4) = True := eq_true (of_decide_eq_true (by first | (with_reducible assumption) | assumption))
           refine start_ (n := 39) (S := fun w' => w'.cell? ⟨gb204, (ji33).toNat * 4 + (ji36).toNat, none⟩ = some (.int .i64 (ix4 (ix4 a0_0 a0_1 a0_2 a0_3 (ji36)) (ix4 a0_4 a0_5 a0_6 a0_7 (ji36)) (ix4 a0_8 a0_9 a0_10 a0_11 (ji36)) (ix4 a0_12 a0_13 a0_14 a0_15 (ji36)) (ji33)))) (ds := []) mk_39_0 (by kernel_rfl) rfl rfl ((blk_cell BK204.out ((ji33).toNat * 4 + (ji36).toNat)).trans (ix_44 (Value.int .i64) _ _ _ _ _ _ _ _ _ _ _ _ _ _ _ _ (ji33) (ji36)  (of_decide_eq_true (by first | (with_reducible assumption) | assumption)) (of_decide_eq_true (by first | (with_reducible assumption) | assumption))  (of_decide_eq_true (by first | (with_reducible assumption) | assumption)) (of_decide_eq_true (by first | (with_reducible assumption) | assumption)))) (fun hHeld => ?_); refine with_tabW watchwordlaw21_PathsTriangle.tab22 watchwordlaw21_PathsTriangle.bits22 (fun HT_ HW_ => ?_)
           generalize wr.drew = w59 at HO_7 BK204 BK211 HB hHeld ⊢
           refine pure_ (i := 0) (N := some 88) (v := ?_) (a' := ?_) mk_39_1 rfl rfl (any_of HT_.out (by kernel_rfl)) (fun _ _ _ h => h) (Or.inl ⟨by rfl, ?_⟩) ?_ ?_
           rotate_left
           ·intro w'
            go_simp
            with_reducible rfl
           rotate_left
           ·simp only [Act.put, List.setIfInBounds_toArray, List.set_cons_zero, List.set_cons_succ, i64_w, i32_w]
            rfl
           refine pure_ (i := 1) (N := some 89) (v := ?_) (a' := ?_) mk_39_2 rfl rfl (any_of HT_.out (by kernel_rfl)) (fun _ _ _ h => h) (Or.inl ⟨by rfl, ?_⟩) ?_ ?_
           rotate_left
           ·intro w'
            go_simp
            with_reducible rfl
           rotate_left
           ·simp only [Act.put, List.setIfInBounds_toArray, List.set_cons_zero, List.set_cons_succ, i64_w, i32_w]
            rfl
           refine pure_ (i := 2) (N := some 90) (v := ?_) (a' := ?_) mk_39_3 rfl rfl (any_of HT_.out (by kernel_rfl)) (fun _ _ _ h => h) (Or.inl ⟨by rfl, ?_⟩) ?_ ?_
           rotate_left
           ·intro w'
            go_simp
            with_reducible rfl
           rotate_left
           ·simp only [Act.put, List.setIfInBounds_toArray, List.set_cons_zero, List.set_cons_succ, i64_w, i32_w]
            rfl
           refine pure_ (i := 3) (N := some 91) (v := ?_) (a' := ?_) mk_39_4 rfl rfl (any_of HT_.out (by kernel_rfl)) (fun _ _ _ h => h) (Or.inl ⟨by rfl, ?_⟩) ?_ ?_
           rotate_left
           ·intro w'
            go_simp
            with_reducible rfl
           rotate_left
           ·simp only [Act.put, List.setIfInBounds_toArray, List.set_cons_zero, List.set_cons_succ, i64_w, i32_w]
            rfl
           refine pure_ (i := 4) (N := some 92) (v := ?_) (a' := ?_) mk_39_5 rfl rfl (any_of HT_.out (by kernel_rfl)) (fun _ _ _ h => h) (Or.inl ⟨by rfl, ?_⟩) ?_ ?_
           rotate_left
           ·intro w'
            go_simp
            with_reducible rfl
           rotate_left
           ·simp only [Act.put, List.setIfInBounds_toArray, List.set_cons_zero, List.set_cons_succ, i64_w, i32_w]
            rfl
           refine pure_ (i := 5) (N := some 93) (v := ?_) (a' := ?_) mk_39_6 rfl rfl (any_of HT_.out (by kernel_rfl)) (fun _ _ _ h => h) (Or.inl ⟨by rfl, ?_⟩) ?_ ?_
           rotate_left
           ·intro w'
            go_simp
            with_reducible rfl
           rotate_left
           ·simp only [Act.put, List.setIfInBounds_toArray, List.set_cons_zero, List.set_cons_succ, i64_w, i32_w]
            rfl
           refine pure_ (i := 6) (N := some 94) (v := ?_) (a' := ?_) mk_39_7 rfl rfl (any_of HT_.out (by kernel_rfl)) (fun _ _ _ h => h) (Or.inl ⟨by rfl, ?_⟩) ?_ ?_
           rotate_left
           ·intro w'
            go_simp
            with_reducible rfl
           rotate_left
           ·simp only [Act.put, List.setIfInBounds_toArray, List.set_cons_zero, List.set_cons_succ, i64_w, i32_w]
            rfl
           refine pure_ (i := 7) (N := some 95) (v := ?_) (a' := ?_) mk_39_8 rfl rfl (any_of HT_.out (by kernel_rfl)) (fun _ _ _ h => h) (Or.inl ⟨by rfl, ?_⟩) ?_ ?_
           rotate_left
           ·intro w'
            go_simp
            with_reducible rfl
           rotate_left
           ·simp only [Act.put, List.setIfInBounds_toArray, List.set_cons_zero, List.set_cons_succ, i64_w, i32_w]
            rfl
           refine pure_ (i := 8) (N := some 96) (v := ?_) (a' := ?_) mk_39_9 rfl rfl (any_of HT_.out (by kernel_rfl)) (fun _ _ _ h => h) (Or.inl ⟨by rfl, ?_⟩) ?_ ?_
           rotate_left
           ·intro w'
            go_simp
            with_reducible rfl
           rotate_left
           ·simp only [Act.put, List.setIfInBounds_toArray, List.set_cons_zero, List.set_cons_succ, i64_w, i32_w]
            rfl
           refine pure_ (i := 9) (N := some 97) (v := ?_) (a' := ?_) mk_39_10 rfl rfl (any_of HT_.out (by kernel_rfl)) (fun _ _ _ h => h) (Or.inl ⟨by rfl, ?_⟩) ?_ ?_
           rotate_left
           ·intro w'
            go_simp
            with_reducible rfl
           rotate_left
           ·simp only [Act.put, List.setIfInBounds_toArray, List.set_cons_zero, List.set_cons_succ, i64_w, i32_w]
            rfl
           refine pure_ (i := 10) (N := some 98) (v := ?_) (a' := ?_) mk_39_11 rfl rfl (any_of HT_.out (by kernel_rfl)) (fun _ _ _ h => h) (Or.inl ⟨by rfl, ?_⟩) ?_ ?_
           rotate_left
           ·intro w'
            go_simp
            with_reducible rfl
           rotate_left
           ·simp only [Act.put, List.setIfInBounds_toArray, List.set_cons_zero, List.set_cons_succ, i64_w, i32_w]
            rfl
           refine pure_ (i := 11) (N := some 99) (v := ?_) (a' := ?_) mk_39_12 rfl rfl (any_of HT_.out (by kernel_rfl)) (fun _ _ _ h => h) (Or.inl ⟨by rfl, ?_⟩) ?_ ?_
           rotate_left
           ·intro w'
            go_simp
            with_reducible rfl
           rotate_left
           ·simp only [Act.put, List.setIfInBounds_toArray, List.set_cons_zero, List.set_cons_succ, i64_w, i32_w]
            rfl
           refine pure_ (i := 12) (N := some 100) (v := ?_) (a' := ?_) mk_39_13 rfl rfl (any_of HT_.out (by kernel_rfl)) (fun _ _ _ h => h) (Or.inl ⟨by rfl, ?_⟩) ?_ ?_
           rotate_left
           ·intro w'
            go_simp
            with_reducible rfl
           rotate_left
           ·simp only [Act.put, List.setIfInBounds_toArray, List.set_cons_zero, List.set_cons_succ, i64_w, i32_w]
            rfl
           refine take_ (i := 13) (N := some 101) (v := ?_) (a' := ?_) mk_39_14 rfl rfl (take_ofW HT_.out HW_.out (by kernel_rfl)) (fun _ _ _ h => h) (Or.inl ⟨by rfl, ?_⟩) hHeld ?_ ?_
           rotate_left
           ·intro w' s0
            go_simp
            with_reducible rfl
           rotate_left
           ·simp only [Act.put, List.setIfInBounds_toArray, List.set_cons_zero, List.set_cons_succ, i64_w, i32_w]
            rfl
           refine pure_ (i := 14) (N := some 102) (v := ?_) (a' := ?_) mk_39_15 rfl rfl (any_of HT_.out (by kernel_rfl)) (fun _ _ _ h => h) (Or.inl ⟨by rfl, ?_⟩) ?_ ?_
           rotate_left
           ·intro w'
            go_simp
            with_reducible rfl
           rotate_left
           ·simp only [Act.put, List.setIfInBounds_toArray, List.set_cons_zero, List.set_cons_succ, i64_w, i32_w]
            rfl
           refine pure_ (i := 15) (N := some 103) (v := ?_) (a' := ?_) mk_39_16 rfl rfl (any_of HT_.out (by kernel_rfl)) (fun _ _ _ h => h) (Or.inl ⟨by rfl, ?_⟩) ?_ ?_
           rotate_left
           ·intro w'
            go_simp
            with_reducible rfl
           rotate_left
           ·simp only [Act.put, List.setIfInBounds_toArray, List.set_cons_zero, List.set_cons_succ, i64_w, i32_w]
            rfl
           refine pure_ (i := 16) (N := some 104) (v := ?_) (a' := ?_) mk_39_17 rfl rfl (any_of HT_.out (by kernel_rfl)) (fun _ _ _ h => h) (Or.inl ⟨by rfl, ?_⟩) ?_ ?_
           rotate_left
           ·intro w'
            go_simp
            with_reducible rfl
           rotate_left
           ·simp only [Act.put, List.setIfInBounds_toArray, List.set_cons_zero, List.set_cons_succ, i64_w, i32_w]
            rfl
           refine pure_ (i := 17) (N := some 105) (v := undef) (a' := ?_) mk_39_18 rfl rfl (any_of HT_.out (by kernel_rfl)) (fun _ _ _ h => h) (Or.inr ⟨by rfl, rfl⟩) ?_ ?_
           rotate_left
           ·simp only [Act.put, List.setIfInBounds_toArray, List.set_cons_zero, List.set_cons_succ, i64_w, i32_w]
            rfl
           refine pure_ (i := 18) (N := some 106) (v := undef) (a' := ?_) mk_39_19 rfl rfl (any_of HT_.out (by kernel_rfl)) (fun _ _ _ h => h) (Or.inr ⟨by rfl, rfl⟩) ?_ ?_
           rotate_left
           ·simp only [Act.put, List.setIfInBounds_toArray, List.set_cons_zero, List.set_cons_succ, i64_w, i32_w]
            rfl
           refine pure_ (i := 19) (N := some 107) (v := undef) (a' := ?_) mk_39_20 rfl rfl (any_of HT_.out (by kernel_rfl)) (fun _ _ _ h => h) (Or.inr ⟨by rfl, rfl⟩) ?_ ?_
           rotate_left
           ·simp only [Act.put, List.setIfInBounds_toArray, List.set_cons_zero, List.set_cons_succ, i64_w, i32_w]
            rfl
           refine pure_ (i := 20) (N := some 108) (v := undef) (a' := ?_) mk_39_21 rfl rfl (any_of HT_.out (by kernel_rfl)) (fun _ _ _ h => h) (Or.inr ⟨by rfl, rfl⟩) ?_ ?_
           rotate_left
           ·simp only [Act.put, List.setIfInBounds_toArray, List.set_cons_zero, List.set_cons_succ, i64_w, i32_w]
            rfl
           refine pure_ (i := 21) (N := some 109) (v := undef) (a' := ?_) mk_39_22 rfl rfl (any_of HT_.out (by kernel_rfl)) (fun _ _ _ h => h) (Or.inr ⟨by rfl, rfl⟩) ?_ ?_
           rotate_left
           ·simp only [Act.put, List.setIfInBounds_toArray, List.set_cons_zero, List.set_cons_succ, i64_w, i32_w]
            rfl
           refine pure_ (i := 22) (N := some 110) (v := undef) (a' := ?_) mk_39_23 rfl rfl (any_of HT_.out (by kernel_rfl)) (fun _ _ _ h => h) (Or.inr ⟨by rfl, rfl⟩) ?_ ?_
           rotate_left
           ·simp only [Act.put, List.setIfInBounds_toArray, List.set_cons_zero, List.set_cons_succ, i64_w, i32_w]
            rfl
           refine pure_ (i := 23) (N := some 111) (v := undef) (a' := ?_) mk_39_24 rfl rfl (any_of HT_.out (by kernel_rfl)) (fun _ _ _ h => h) (Or.inr ⟨by rfl, rfl⟩) ?_ ?_
           rotate_left
           ·simp only [Act.put, List.setIfInBounds_toArray, List.set_cons_zero, List.set_cons_succ, i64_w, i32_w]
            rfl
           refine pure_ (i := 24) (N := some 112) (v := undef) (a' := ?_) mk_39_25 rfl rfl (any_of HT_.out (by kernel_rfl)) (fun _ _ _ h => h) (Or.inr ⟨by rfl, rfl⟩) ?_ ?_
           rotate_left
           ·simp only [Act.put, List.setIfInBounds_toArray, List.set_cons_zero, List.set_cons_succ, i64_w, i32_w]
            rfl
           refine pure_ (i := 25) (N := some 113) (v := undef) (a' := ?_) mk_39_26 rfl rfl (any_of HT_.out (by kernel_rfl)) (fun _ _ _ h => h) (Or.inr ⟨by rfl, rfl⟩) ?_ ?_
           rotate_left
           ·simp only [Act.put, List.setIfInBounds_toArray, List.set_cons_zero, List.set_cons_succ, i64_w, i32_w]
            rfl
           refine pure_ (i := 26) (N := some 114) (v := undef) (a' := ?_) mk_39_27 rfl rfl (any_of HT_.out (by kernel_rfl)) (fun _ _ _ h => h) (Or.inr ⟨by rfl, rfl⟩) ?_ ?_
           rotate_left
           ·simp only [Act.put, List.setIfInBounds_toArray, List.set_cons_zero, List.set_cons_succ, i64_w, i32_w]
            rfl
           refine pure_ (i := 27) (N := some 115) (v := undef) (a' := ?_) mk_39_28 rfl rfl (any_of HT_.out (by kernel_rfl)) (fun _ _ _ h => h) (Or.inr ⟨by rfl, rfl⟩) ?_ ?_
           rotate_left
           ·simp only [Act.put, List.setIfInBounds_toArray, List.set_cons_zero, List.set_cons_succ, i64_w, i32_w]
            rfl
           refine pure_ (i := 28) (N := some 116) (v := undef) (a' := ?_) mk_39_29 rfl rfl (any_of HT_.out (by kernel_rfl)) (fun _ _ _ h => h) (Or.inr ⟨by rfl, rfl⟩) ?_ ?_
           rotate_left
           ·simp only [Act.put, List.setIfInBounds_toArray, List.set_cons_zero, List.set_cons_succ, i64_w, i32_w]
            rfl
           refine pure_ (i := 29) (N := some 117) (v := undef) (a' := ?_) mk_39_30 rfl rfl (any_of HT_.out (by kernel_rfl)) (fun _ _ _ h => h) (Or.inr ⟨by rfl, rfl⟩) ?_ ?_
           rotate_left
           ·simp only [Act.put, List.setIfInBounds_toArray, List.set_cons_zero, List.set_cons_succ, i64_w, i32_w]
            rfl
           refine pure_ (i := 30) (N := some 118) (v := undef) (a' := ?_) mk_39_31 rfl rfl (any_of HT_.out (by kernel_rfl)) (fun _ _ _ h => h) (Or.inr ⟨by rfl, rfl⟩) ?_ ?_
           rotate_left
           ·simp only [Act.put, List.setIfInBounds_toArray, List.set_cons_zero, List.set_cons_succ, i64_w, i32_w]
            rfl
           refine pure_ (i := 31) (N := some 119) (v := undef) (a' := ?_) mk_39_32 rfl rfl (any_of HT_.out (by kernel_rfl)) (fun _ _ _ h => h) (Or.inr ⟨by rfl, rfl⟩) ?_ ?_
           rotate_left
           ·simp only [Act.put, List.setIfInBounds_toArray, List.set_cons_zero, List.set_cons_succ, i64_w, i32_w]
            rfl
           refine pure_ (i := 32) (N := some 120) (v := undef) (a' := ?_) mk_39_33 rfl rfl (any_of HT_.out (by kernel_rfl)) (fun _ _ _ h => h) (Or.inr ⟨by rfl, rfl⟩) ?_ ?_
           rotate_left
           ·simp only [Act.put, List.setIfInBounds_toArray, List.set_cons_zero, List.set_cons_succ, i64_w, i32_w]
            rfl
           refine pure_ (i := 33) (N := some 121) (v := undef) (a' := ?_) mk_39_34 rfl rfl (any_of HT_.out (by kernel_rfl)) (fun _ _ _ h => h) (Or.inr ⟨by rfl, rfl⟩) ?_ ?_
           rotate_left
           ·simp only [Act.put, List.setIfInBounds_toArray, List.set_cons_zero, List.set_cons_succ, i64_w, i32_w]
            rfl
           refine pure_ (i := 34) (N := some 122) (v := undef) (a' := ?_) mk_39_35 rfl rfl (any_of HT_.out (by kernel_rfl)) (fun _ _ _ h => h) (Or.inr ⟨by rfl, rfl⟩) ?_ ?_
           rotate_left
           ·simp only [Act.put, List.setIfInBounds_toArray, List.set_cons_zero, List.set_cons_succ, i64_w, i32_w]
            rfl
           refine pure_ (i := 35) (N := some 123) (v := undef) (a' := ?_) mk_39_36 rfl rfl (any_of HT_.out (by kernel_rfl)) (fun _ _ _ h => h) (Or.inr ⟨by rfl, rfl⟩) ?_ ?_
           rotate_left
           ·simp only [Act.put, List.setIfInBounds_toArray, List.set_cons_zero, List.set_cons_succ, i64_w, i32_w]
            rfl
           refine pure_ (i := 36) (N := some 124) (v := undef) (a' := ?_) mk_39_37 rfl rfl (any_of HT_.out (by kernel_rfl)) (fun _ _ _ h => h) (Or.inr ⟨by rfl, rfl⟩) ?_ ?_
           rotate_left
           ·simp only [Act.put, List.setIfInBounds_toArray, List.set_cons_zero, List.set_cons_succ, i64_w, i32_w]
            rfl
           refine pure_ (i := 37) (N := some 125) (v := undef) (a' := ?_) mk_39_38 rfl rfl (any_of HT_.out (by kernel_rfl)) (fun _ _ _ h => h) (Or.inr ⟨by rfl, rfl⟩) ?_ ?_
           rotate_left
           ·simp only [Act.put, List.setIfInBounds_toArray, List.set_cons_zero, List.set_cons_succ, i64_w, i32_w]
            rfl
           refine pure_ (i := 38) (N := some 126) (v := ?_) (a' := ?_) mk_39_39 rfl rfl (any_of HT_.out (by kernel_rfl)) (fun _ _ _ h => h) (Or.inl ⟨by rfl, ?_⟩) ?_ ?_
           rotate_left
           ·intro w'
            go_simp
            with_reducible rfl
           rotate_left
           ·simp only [Act.put, List.setIfInBounds_toArray, List.set_cons_zero, List.set_cons_succ, i64_w, i32_w]
            rfl
           refine done_ (done_of HT_.out (by kernel_rfl)) ?_
           try go_wp2
           go_roundg k4
           case measure => have := HJ8.out; have := HK2.out; have := HK3.out; have := HK4.out; omega
           case rel => exact ⟨(wrap64 (x12_4 + 1)), (by first | rfl | (simp; done) | (simp [*]; done)), H', ⟨by have := HJ8.out; have := HK2.out; have := HK3.out; have := HK4.out; omega⟩, ⟨by (with_reducible repeat (first | apply Kd.S_alloc | apply Kd.S_drewN | apply Kd.S_drew)); exact HO_7.out⟩, ⟨by (with_reducible repeat (first | refine blk_drewN ?_ _ | refine blk_drew ?_ | refine blk_alloc ?_ _)); exact BK204.out⟩, ⟨by (with_reducible repeat (first | refine blk_drewN ?_ _ | refine blk_drew ?_ | refine blk_alloc ?_ _)); exact BK211.out⟩, ⟨by repeat (first | (with_reducible first | exact HB.out | apply below_alloc | apply pw_below_drewN | apply below_drew1 | refine below_set ?_ GE204.out | refine below_set ?_ GE211.out) | exact HB.out)⟩⟩
        ·rw [if_neg c38] at H
         exact absurd H (by simp)
       ·rw [if_neg c37] at H
        exact absurd H (by simp)
      ·rw [if_neg c35] at H
       exact absurd H (by simp)
     ·rw [if_neg c34] at H
      exact absurd H (by simp)
   ·rw [if_neg c30] at H
    have c30b0 : (x11_3 == a1) = false := beq_eq_false_iff_ne.mpr c30
    have c30b1 : (x11_3 != a1) = true := bne_iff_ne.mpr c30
    by_cases c63 : 0 ≤ x11_3
    ·rw [if_pos c63] at H
     have c63b0 : decide (0 ≤ x11_3) = true := decide_eq_true c63
     clear c63
     by_cases c64 : x11_3 < 5
     ·rw [if_pos c64] at H
      have c64b0 : decide (x11_3 < 5) = true := decide_eq_true c64
      clear c64
      by_cases c65 : x12_4 = a1
      ·rw [if_pos c65] at H
       have c65b0 : (x12_4 == a1) = true := beq_iff_eq.mpr c65
       have c65b1 : (x12_4 != a1) = false := bne_eq_false_iff_eq.mpr c65
       clear c65
       focus
        have H' := Aside0.mk H
        clear H
        have p66 : (0 ≤ (x11_3 : Int)) = True := eq_true (of_decide_eq_true (by first | (with_reducible assumption) | assumption))
        have q66 : ((x11_3 : Int) < 5) = True := eq_true (of_decide_eq_true (by first | (with_reducible assumption) | assumption))
        have hx67_0 : wr.cell? ⟨gb211, x11_3.toNat, none⟩ = some (.int .i64 (ix5 x212000_2 x212001_2 x212002_2 x212003_2 x212004_2 x11_3)) := (blk_cell BK211.out (x11_3.toNat)).trans (ix_5 (Value.int .i64) _ _ _ _ _ x11_3 (of_decide_eq_true (by first | (with_reducible assumption) | assumption)) (of_decide_eq_true (by first | (with_reducible assumption) | assumption)))
        try go_wp2
        have n0_ := Aside0.mk (Kd.S_drew HO_7.out)
        have n1_ := Aside0.mk (blk_drew BK204.out)
        have n2_ := Aside0.mk (blk_drew BK211.out)
        have n3_ := Aside0.mk (below_drew1 HB.out)
        clear HO_7
        clear BK204
        clear BK211
        clear HB
        have HO_7 := n0_
        have BK204 := n1_
        have BK211 := n2_
        have HB := n3_
        clear n0_ n1_ n2_ n3_
        refine start_ (n := 39) (S := fun w' => True) (ds := []) mk_39_0 (by kernel_rfl) rfl rfl trivial (fun hHeld => ?_); refine with_tabW watchwordlaw21_PathsTriangle.tab22 watchwordlaw21_PathsTriangle.bits22 (fun HT_ HW_ => ?_)
        generalize wr.drew = w68 at HO_7 BK204 BK211 HB hHeld ⊢
        refine pure_ (i := 0) (N := some 88) (v := ?_) (a' := ?_) mk_39_1 rfl rfl (any_of HT_.out (by kernel_rfl)) (fun _ _ _ h => h) (Or.inl ⟨by rfl, ?_⟩) ?_ ?_
        rotate_left
        ·intro w'
         go_simp
         with_reducible rfl
        rotate_left
        ·simp only [Act.put, List.setIfInBounds_toArray, List.set_cons_zero, List.set_cons_succ, i64_w, i32_w]
         rfl
        refine pure_ (i := 1) (N := some 89) (v := ?_) (a' := ?_) mk_39_2 rfl rfl (any_of HT_.out (by kernel_rfl)) (fun _ _ _ h => h) (Or.inl ⟨by rfl, ?_⟩) ?_ ?_
        rotate_left
        ·intro w'
         go_simp
         with_reducible rfl
        rotate_left
        ·simp only [Act.put, List.setIfInBounds_toArray, List.set_cons_zero, List.set_cons_succ, i64_w, i32_w]
         rfl
        refine pure_ (i := 2) (N := some 90) (v := ?_) (a' := ?_) mk_39_3 rfl rfl (any_of HT_.out (by kernel_rfl)) (fun _ _ _ h => h) (Or.inl ⟨by rfl, ?_⟩) ?_ ?_
        rotate_left
        ·intro w'
         go_simp
         with_reducible rfl
        rotate_left
        ·simp only [Act.put, List.setIfInBounds_toArray, List.set_cons_zero, List.set_cons_succ, i64_w, i32_w]
         rfl
        refine pure_ (i := 3) (N := some 91) (v := ?_) (a' := ?_) mk_39_4 rfl rfl (any_of HT_.out (by kernel_rfl)) (fun _ _ _ h => h) (Or.inl ⟨by rfl, ?_⟩) ?_ ?_
        rotate_left
        ·intro w'
         go_simp
         with_reducible rfl
        rotate_left
        ·simp only [Act.put, List.setIfInBounds_toArray, List.set_cons_zero, List.set_cons_succ, i64_w, i32_w]
         rfl
        refine pure_ (i := 4) (N := some 92) (v := undef) (a' := ?_) mk_39_5 rfl rfl (any_of HT_.out (by kernel_rfl)) (fun _ _ _ h => h) (Or.inr ⟨by rfl, rfl⟩) ?_ ?_
        rotate_left
        ·simp only [Act.put, List.setIfInBounds_toArray, List.set_cons_zero, List.set_cons_succ, i64_w, i32_w]
         rfl
        refine pure_ (i := 5) (N := some 93) (v := ?_) (a' := ?_) mk_39_6 rfl rfl (any_of HT_.out (by kernel_rfl)) (fun _ _ _ h => h) (Or.inl ⟨by rfl, ?_⟩) ?_ ?_
        rotate_left
        ·intro w'
         go_simp
         with_reducible rfl
        rotate_left
        ·simp only [Act.put, List.setIfInBounds_toArray, List.set_cons_zero, List.set_cons_succ, i64_w, i32_w]
         rfl
        refine pure_ (i := 6) (N := some 94) (v := ?_) (a' := ?_) mk_39_7 rfl rfl (any_of HT_.out (by kernel_rfl)) (fun _ _ _ h => h) (Or.inl ⟨by rfl, ?_⟩) ?_ ?_
        rotate_left
        ·intro w'
         go_simp
         with_reducible rfl
        rotate_left
        ·simp only [Act.put, List.setIfInBounds_toArray, List.set_cons_zero, List.set_cons_succ, i64_w, i32_w]
         rfl
        refine pure_ (i := 7) (N := some 95) (v := undef) (a' := ?_) mk_39_8 rfl rfl (any_of HT_.out (by kernel_rfl)) (fun _ _ _ h => h) (Or.inr ⟨by rfl, rfl⟩) ?_ ?_
        rotate_left
        ·simp only [Act.put, List.setIfInBounds_toArray, List.set_cons_zero, List.set_cons_succ, i64_w, i32_w]
         rfl
        refine pure_ (i := 8) (N := some 96) (v := undef) (a' := ?_) mk_39_9 rfl rfl (any_of HT_.out (by kernel_rfl)) (fun _ _ _ h => h) (Or.inr ⟨by rfl, rfl⟩) ?_ ?_
        rotate_left
        ·simp only [Act.put, List.setIfInBounds_toArray, List.set_cons_zero, List.set_cons_succ, i64_w, i32_w]
         rfl
        refine pure_ (i := 9) (N := some 97) (v := undef) (a' := ?_) mk_39_10 rfl rfl (any_of HT_.out (by kernel_rfl)) (fun _ _ _ h => h) (Or.inr ⟨by rfl, rfl⟩) ?_ ?_
        rotate_left
        ·simp only [Act.put, List.setIfInBounds_toArray, List.set_cons_zero, List.set_cons_succ, i64_w, i32_w]
         rfl
        refine pure_ (i := 10) (N := some 98) (v := undef) (a' := ?_) mk_39_11 rfl rfl (any_of HT_.out (by kernel_rfl)) (fun _ _ _ h => h) (Or.inr ⟨by rfl, rfl⟩) ?_ ?_
        rotate_left
        ·simp only [Act.put, List.setIfInBounds_toArray, List.set_cons_zero, List.set_cons_succ, i64_w, i32_w]
         rfl
        refine pure_ (i := 11) (N := some 99) (v := undef) (a' := ?_) mk_39_12 rfl rfl (any_of HT_.out (by kernel_rfl)) (fun _ _ _ h => h) (Or.inr ⟨by rfl, rfl⟩) ?_ ?_
        rotate_left
        ·simp only [Act.put, List.setIfInBounds_toArray, List.set_cons_zero, List.set_cons_succ, i64_w, i32_w]
         rfl
        refine pure_ (i := 12) (N := some 100) (v := undef) (a' := ?_) mk_39_13 rfl rfl (any_of HT_.out (by kernel_rfl)) (fun _ _ _ h => h) (Or.inr ⟨by rfl, rfl⟩) ?_ ?_
        rotate_left
        ·simp only [Act.put, List.setIfInBounds_toArray, List.set_cons_zero, List.set_cons_succ, i64_w, i32_w]
         rfl
        refine pure_ (i := 13) (N := some 101) (v := undef) (a' := ?_) mk_39_14 rfl rfl (any_of HT_.out (by kernel_rfl)) (fun _ _ _ h => h) (Or.inr ⟨by rfl, rfl⟩) ?_ ?_
        rotate_left
        ·simp only [Act.put, List.setIfInBounds_toArray, List.set_cons_zero, List.set_cons_succ, i64_w, i32_w]
         rfl
        refine pure_ (i := 14) (N := some 102) (v := undef) (a' := ?_) mk_39_15 rfl rfl (any_of HT_.out (by kernel_rfl)) (fun _ _ _ h => h) (Or.inr ⟨by rfl, rfl⟩) ?_ ?_
        rotate_left
        ·simp only [Act.put, List.setIfInBounds_toArray, List.set_cons_zero, List.set_cons_succ, i64_w, i32_w]
         rfl
        refine pure_ (i := 15) (N := some 103) (v := ?_) (a' := ?_) mk_39_16 rfl rfl (any_of HT_.out (by kernel_rfl)) (fun _ _ _ h => h) (Or.inl ⟨by rfl, ?_⟩) ?_ ?_
        rotate_left
        ·intro w'
         go_simp
         with_reducible rfl
        rotate_left
        ·simp only [Act.put, List.setIfInBounds_toArray, List.set_cons_zero, List.set_cons_succ, i64_w, i32_w]
         rfl
        refine pure_ (i := 16) (N := some 104) (v := ?_) (a' := ?_) mk_39_17 rfl rfl (any_of HT_.out (by kernel_rfl)) (fun _ _ _ h => h) (Or.inl ⟨by rfl, ?_⟩) ?_ ?_
        rotate_left
        ·intro w'
         go_simp
         with_reducible rfl
        rotate_left
        ·simp only [Act.put, List.setIfInBounds_toArray, List.set_cons_zero, List.set_cons_succ, i64_w, i32_w]
         rfl
        refine pure_ (i := 17) (N := some 105) (v := undef) (a' := ?_) mk_39_18 rfl rfl (any_of HT_.out (by kernel_rfl)) (fun _ _ _ h => h) (Or.inr ⟨by rfl, rfl⟩) ?_ ?_
        rotate_left
        ·simp only [Act.put, List.setIfInBounds_toArray, List.set_cons_zero, List.set_cons_succ, i64_w, i32_w]
         rfl
        refine pure_ (i := 18) (N := some 106) (v := undef) (a' := ?_) mk_39_19 rfl rfl (any_of HT_.out (by kernel_rfl)) (fun _ _ _ h => h) (Or.inr ⟨by rfl, rfl⟩) ?_ ?_
        rotate_left
        ·simp only [Act.put, List.setIfInBounds_toArray, List.set_cons_zero, List.set_cons_succ, i64_w, i32_w]
         rfl
        refine pure_ (i := 19) (N := some 107) (v := undef) (a' := ?_) mk_39_20 rfl rfl (any_of HT_.out (by kernel_rfl)) (fun _ _ _ h => h) (Or.inr ⟨by rfl, rfl⟩) ?_ ?_
        rotate_left
        ·simp only [Act.put, List.setIfInBounds_toArray, List.set_cons_zero, List.set_cons_succ, i64_w, i32_w]
         rfl
        refine pure_ (i := 20) (N := some 108) (v := undef) (a' := ?_) mk_39_21 rfl rfl (any_of HT_.out (by kernel_rfl)) (fun _ _ _ h => h) (Or.inr ⟨by rfl, rfl⟩) ?_ ?_
        rotate_left
        ·simp only [Act.put, List.setIfInBounds_toArray, List.set_cons_zero, List.set_cons_succ, i64_w, i32_w]
         rfl
        refine pure_ (i := 21) (N := some 109) (v := undef) (a' := ?_) mk_39_22 rfl rfl (any_of HT_.out (by kernel_rfl)) (fun _ _ _ h => h) (Or.inr ⟨by rfl, rfl⟩) ?_ ?_
        rotate_left
        ·simp only [Act.put, List.setIfInBounds_toArray, List.set_cons_zero, List.set_cons_succ, i64_w, i32_w]
         rfl
        refine pure_ (i := 22) (N := some 110) (v := undef) (a' := ?_) mk_39_23 rfl rfl (any_of HT_.out (by kernel_rfl)) (fun _ _ _ h => h) (Or.inr ⟨by rfl, rfl⟩) ?_ ?_
        rotate_left
        ·simp only [Act.put, List.setIfInBounds_toArray, List.set_cons_zero, List.set_cons_succ, i64_w, i32_w]
         rfl
        refine pure_ (i := 23) (N := some 111) (v := undef) (a' := ?_) mk_39_24 rfl rfl (any_of HT_.out (by kernel_rfl)) (fun _ _ _ h => h) (Or.inr ⟨by rfl, rfl⟩) ?_ ?_
        rotate_left
        ·simp only [Act.put, List.setIfInBounds_toArray, List.set_cons_zero, List.set_cons_succ, i64_w, i32_w]
         rfl
        refine pure_ (i := 24) (N := some 112) (v := undef) (a' := ?_) mk_39_25 rfl rfl (any_of HT_.out (by kernel_rfl)) (fun _ _ _ h => h) (Or.inr ⟨by rfl, rfl⟩) ?_ ?_
        rotate_left
        ·simp only [Act.put, List.setIfInBounds_toArray, List.set_cons_zero, List.set_cons_succ, i64_w, i32_w]
         rfl
        refine pure_ (i := 25) (N := some 113) (v := undef) (a' := ?_) mk_39_26 rfl rfl (any_of HT_.out (by kernel_rfl)) (fun _ _ _ h => h) (Or.inr ⟨by rfl, rfl⟩) ?_ ?_
        rotate_left
        ·simp only [Act.put, List.setIfInBounds_toArray, List.set_cons_zero, List.set_cons_succ, i64_w, i32_w]
         rfl
        refine pure_ (i := 26) (N := some 114) (v := undef) (a' := ?_) mk_39_27 rfl rfl (any_of HT_.out (by kernel_rfl)) (fun _ _ _ h => h) (Or.inr ⟨by rfl, rfl⟩) ?_ ?_
        rotate_left
        ·simp only [Act.put, List.setIfInBounds_toArray, List.set_cons_zero, List.set_cons_succ, i64_w, i32_w]
         rfl
        refine pure_ (i := 27) (N := some 115) (v := undef) (a' := ?_) mk_39_28 rfl rfl (any_of HT_.out (by kernel_rfl)) (fun _ _ _ h => h) (Or.inr ⟨by rfl, rfl⟩) ?_ ?_
        rotate_left
        ·simp only [Act.put, List.setIfInBounds_toArray, List.set_cons_zero, List.set_cons_succ, i64_w, i32_w]
         rfl
        refine pure_ (i := 28) (N := some 116) (v := undef) (a' := ?_) mk_39_29 rfl rfl (any_of HT_.out (by kernel_rfl)) (fun _ _ _ h => h) (Or.inr ⟨by rfl, rfl⟩) ?_ ?_
        rotate_left
        ·simp only [Act.put, List.setIfInBounds_toArray, List.set_cons_zero, List.set_cons_succ, i64_w, i32_w]
         rfl
        refine pure_ (i := 29) (N := some 117) (v := undef) (a' := ?_) mk_39_30 rfl rfl (any_of HT_.out (by kernel_rfl)) (fun _ _ _ h => h) (Or.inr ⟨by rfl, rfl⟩) ?_ ?_
        rotate_left
        ·simp only [Act.put, List.setIfInBounds_toArray, List.set_cons_zero, List.set_cons_succ, i64_w, i32_w]
         rfl
        refine pure_ (i := 30) (N := some 118) (v := undef) (a' := ?_) mk_39_31 rfl rfl (any_of HT_.out (by kernel_rfl)) (fun _ _ _ h => h) (Or.inr ⟨by rfl, rfl⟩) ?_ ?_
        rotate_left
        ·simp only [Act.put, List.setIfInBounds_toArray, List.set_cons_zero, List.set_cons_succ, i64_w, i32_w]
         rfl
        refine pure_ (i := 31) (N := some 119) (v := undef) (a' := ?_) mk_39_32 rfl rfl (any_of HT_.out (by kernel_rfl)) (fun _ _ _ h => h) (Or.inr ⟨by rfl, rfl⟩) ?_ ?_
        rotate_left
        ·simp only [Act.put, List.setIfInBounds_toArray, List.set_cons_zero, List.set_cons_succ, i64_w, i32_w]
         rfl
        refine pure_ (i := 32) (N := some 120) (v := undef) (a' := ?_) mk_39_33 rfl rfl (any_of HT_.out (by kernel_rfl)) (fun _ _ _ h => h) (Or.inr ⟨by rfl, rfl⟩) ?_ ?_
        rotate_left
        ·simp only [Act.put, List.setIfInBounds_toArray, List.set_cons_zero, List.set_cons_succ, i64_w, i32_w]
         rfl
        refine pure_ (i := 33) (N := some 121) (v := undef) (a' := ?_) mk_39_34 rfl rfl (any_of HT_.out (by kernel_rfl)) (fun _ _ _ h => h) (Or.inr ⟨by rfl, rfl⟩) ?_ ?_
        rotate_left
        ·simp only [Act.put, List.setIfInBounds_toArray, List.set_cons_zero, List.set_cons_succ, i64_w, i32_w]
         rfl
        refine pure_ (i := 34) (N := some 122) (v := undef) (a' := ?_) mk_39_35 rfl rfl (any_of HT_.out (by kernel_rfl)) (fun _ _ _ h => h) (Or.inr ⟨by rfl, rfl⟩) ?_ ?_
        rotate_left
        ·simp only [Act.put, List.setIfInBounds_toArray, List.set_cons_zero, List.set_cons_succ, i64_w, i32_w]
         rfl
        refine pure_ (i := 35) (N := some 123) (v := undef) (a' := ?_) mk_39_36 rfl rfl (any_of HT_.out (by kernel_rfl)) (fun _ _ _ h => h) (Or.inr ⟨by rfl, rfl⟩) ?_ ?_
        rotate_left
        ·simp only [Act.put, List.setIfInBounds_toArray, List.set_cons_zero, List.set_cons_succ, i64_w, i32_w]
         rfl
        refine pure_ (i := 36) (N := some 124) (v := undef) (a' := ?_) mk_39_37 rfl rfl (any_of HT_.out (by kernel_rfl)) (fun _ _ _ h => h) (Or.inr ⟨by rfl, rfl⟩) ?_ ?_
        rotate_left
        ·simp only [Act.put, List.setIfInBounds_toArray, List.set_cons_zero, List.set_cons_succ, i64_w, i32_w]
         rfl
        refine pure_ (i := 37) (N := some 125) (v := undef) (a' := ?_) mk_39_38 rfl rfl (any_of HT_.out (by kernel_rfl)) (fun _ _ _ h => h) (Or.inr ⟨by rfl, rfl⟩) ?_ ?_
        rotate_left
        ·simp only [Act.put, List.setIfInBounds_toArray, List.set_cons_zero, List.set_cons_succ, i64_w, i32_w]
         rfl
        refine pure_ (i := 38) (N := some 126) (v := ?_) (a' := ?_) mk_39_39 rfl rfl (any_of HT_.out (by kernel_rfl)) (fun _ _ _ h => h) (Or.inl ⟨by rfl, ?_⟩) ?_ ?_
        rotate_left
        ·intro w'
         go_simp
         with_reducible rfl
        rotate_left
        ·simp only [Act.put, List.setIfInBounds_toArray, List.set_cons_zero, List.set_cons_succ, i64_w, i32_w]
         rfl
        refine done_ (done_of HT_.out (by kernel_rfl)) ?_
        try go_wp2
        go_roundg k4
        case measure => have := HJ8.out; have := HK2.out; have := HK3.out; have := HK4.out; omega
        case rel => exact ⟨(wrap64 (x12_4 + 1)), (by first | rfl | (simp; done) | (simp [*]; done)), H', ⟨by have := HJ8.out; have := HK2.out; have := HK3.out; have := HK4.out; omega⟩, ⟨by (with_reducible repeat (first | apply Kd.S_alloc | apply Kd.S_drewN | apply Kd.S_drew)); exact HO_7.out⟩, ⟨by (with_reducible repeat (first | refine blk_drewN ?_ _ | refine blk_drew ?_ | refine blk_alloc ?_ _)); exact BK204.out⟩, ⟨by (with_reducible repeat (first | refine blk_drewN ?_ _ | refine blk_drew ?_ | refine blk_alloc ?_ _)); exact BK211.out⟩, ⟨by repeat (first | (with_reducible first | exact HB.out | apply below_alloc | apply pw_below_drewN | apply below_drew1 | refine below_set ?_ GE204.out | refine below_set ?_ GE211.out) | exact HB.out)⟩⟩
      ·rw [if_neg c65] at H
       have c65b0 : (x12_4 == a1) = false := beq_eq_false_iff_ne.mpr c65
       have c65b1 : (x12_4 != a1) = true := bne_iff_ne.mpr c65
       by_cases c69 : (ix5 x212000_2 x212001_2 x212002_2 x212003_2 x212004_2 x11_3) > 0
       ·rw [if_pos c69] at H
        have c69b0 : decide (0 < (ix5 x212000_2 x212001_2 x212002_2 x212003_2 x212004_2 x11_3)) = true := decide_eq_true c69
        clear c69
        obtain ⟨ji70, hji70⟩ : ∃ j_ : Int, (wrap64 (x11_3 - 1)) = j_ := ⟨_, rfl⟩
        replace H : (if 0 ≤ (ji70) then (if (ji70) < 4 then (if 0 ≤ (wrap64 (x12_4 - 1)) then (if (wrap64 (x12_4 - 1)) < 4 then (if (ix4 (ix4 a0_0 a0_1 a0_2 a0_3 (wrap64 (x12_4 - 1))) (ix4 a0_4 a0_5 a0_6 a0_7 (wrap64 (x12_4 - 1))) (ix4 a0_8 a0_9 a0_10 a0_11 (wrap64 (x12_4 - 1))) (ix4 a0_12 a0_13 a0_14 a0_15 (wrap64 (x12_4 - 1))) (ji70)) > 0 then (if 0 ≤ x12_4 then (if x12_4 < 5 then (if (ix5 x212000_2 x212001_2 x212002_2 x212003_2 x212004_2 x12_4) = 0 then (some false) else (if (ix5 x212000_2 x212001_2 x212002_2 x212003_2 x212004_2 x12_4) > (wrap64 ((ix5 x212000_2 x212001_2 x212002_2 x212003_2 x212004_2 x11_3) + (ix4 (ix4 a0_0 a0_1 a0_2 a0_3 (wrap64 (x12_4 - 1))) (ix4 a0_4 a0_5 a0_6 a0_7 (wrap64 (x12_4 - 1))) (ix4 a0_8 a0_9 a0_10 a0_11 (wrap64 (x12_4 - 1))) (ix4 a0_12 a0_13 a0_14 a0_15 (wrap64 (x12_4 - 1))) (ji70)))) then (some false) else (watchwordlaw21_PathsTriangle.l2 k4 a1 a2 t206 x11_3 (wrap64 (x12_4 + 1)) a0_0 a0_1 a0_2 a0_3 a0_4 a0_5 a0_6 a0_7 a0_8 a0_9 a0_10 a0_11 a0_12 a0_13 a0_14 a0_15 x212000_2 x212001_2 x212002_2 x212003_2 x212004_2))) else (none)) else (none)) else (watchwordlaw21_PathsTriangle.l2 k4 a1 a2 t206 x11_3 (wrap64 (x12_4 + 1)) a0_0 a0_1 a0_2 a0_3 a0_4 a0_5 a0_6 a0_7 a0_8 a0_9 a0_10 a0_11 a0_12 a0_13 a0_14 a0_15 x212000_2 x212001_2 x212002_2 x212003_2 x212004_2)) else (none)) else (none)) else (none)) else (none)) = some r := by first | (rw [hji70] at H; exact H) | (simp only [hji70] at H ⊢; exact H)
        have hji70w : (IntKind.i64.wrap (x11_3 - 1)) = ji70 := (i64_w _).trans hji70
        by_cases c71 : 0 ≤ (ji70)
        ·rw [if_pos c71] at H
         have c71b0 : decide (0 ≤ (ji70)) = true := decide_eq_true c71
         clear c71
         by_cases c72 : (ji70) < 4
         ·rw [if_pos c72] at H
          have c72b0 : decide ((ji70) < 4) = true := decide_eq_true c72
          clear c72
          obtain ⟨ji73, hji73⟩ : ∃ j_ : Int, (wrap64 (x12_4 - 1)) = j_ := ⟨_, rfl⟩
          replace H : (if 0 ≤ (ji73) then (if (ji73) < 4 then (if (ix4 (ix4 a0_0 a0_1 a0_2 a0_3 (ji73)) (ix4 a0_4 a0_5 a0_6 a0_7 (ji73)) (ix4 a0_8 a0_9 a0_10 a0_11 (ji73)) (ix4 a0_12 a0_13 a0_14 a0_15 (ji73)) (ji70)) > 0 then (if 0 ≤ x12_4 then (if x12_4 < 5 then (if (ix5 x212000_2 x212001_2 x212002_2 x212003_2 x212004_2 x12_4) = 0 then (some false) else (if (ix5 x212000_2 x212001_2 x212002_2 x212003_2 x212004_2 x12_4) > (wrap64 ((ix5 x212000_2 x212001_2 x212002_2 x212003_2 x212004_2 x11_3) + (ix4 (ix4 a0_0 a0_1 a0_2 a0_3 (ji73)) (ix4 a0_4 a0_5 a0_6 a0_7 (ji73)) (ix4 a0_8 a0_9 a0_10 a0_11 (ji73)) (ix4 a0_12 a0_13 a0_14 a0_15 (ji73)) (ji70)))) then (some false) else (watchwordlaw21_PathsTriangle.l2 k4 a1 a2 t206 x11_3 (wrap64 (x12_4 + 1)) a0_0 a0_1 a0_2 a0_3 a0_4 a0_5 a0_6 a0_7 a0_8 a0_9 a0_10 a0_11 a0_12 a0_13 a0_14 a0_15 x212000_2 x212001_2 x212002_2 x212003_2 x212004_2))) else (none)) else (none)) else (watchwordlaw21_PathsTriangle.l2 k4 a1 a2 t206 x11_3 (wrap64 (x12_4 + 1)) a0_0 a0_1 a0_2 a0_3 a0_4 a0_5 a0_6 a0_7 a0_8 a0_9 a0_10 a0_11 a0_12 a0_13 a0_14 a0_15 x212000_2 x212001_2 x212002_2 x212003_2 x212004_2)) else (none)) else (none)) = some r := by first | (rw [hji73] at H; exact H) | (simp only [hji73] at H ⊢; exact H)
          have hji73w : (IntKind.i64.wrap (x12_4 - 1)) = ji73 := (i64_w _).trans hji73
          by_cases c74 : 0 ≤ (ji73)
          ·rw [if_pos c74] at H
           have c74b0 : decide (0 ≤ (ji73)) = true := decide_eq_true c74
           clear c74
           by_cases c75 : (ji73) < 4
           ·rw [if_pos c75] at H
            have c75b0 : decide ((ji73) < 4) = true := decide_eq_true c75
            clear c75
            by_cases c76 : (ix4 (ix4 a0_0 a0_1 a0_2 a0_3 (ji73)) (ix4 a0_4 a0_5 a0_6 a0_7 (ji73)) (ix4 a0_8 a0_9 a0_10 a0_11 (ji73)) (ix4 a0_12 a0_13 a0_14 a0_15 (ji73)) (ji70)) > 0
            ·rw [if_pos c76] at H
             have c76b0 : decide (0 < (ix4 (ix4 a0_0 a0_1 a0_2 a0_3 (ji73)) (ix4 a0_4 a0_5 a0_6 a0_7 (ji73)) (ix4 a0_8 a0_9 a0_10 a0_11 (ji73)) (ix4 a0_12 a0_13 a0_14 a0_15 (ji73)) (ji70))) = true := decide_eq_true c76
             clear c76
             by_cases c77 : 0 ≤ x12_4
             ·rw [if_pos c77] at H
              have c77b0 : decide (0 ≤ x12_4) = true := decide_eq_true c77
              clear c77
              by_cases c78 : x12_4 < 5
              ·rw [if_pos c78] at H
               have c78b0 : decide (x12_4 < 5) = true := decide_eq_true c78
               clear c78
               by_cases c79 : (ix5 x212000_2 x212001_2 x212002_2 x212003_2 x212004_2 x12_4) = 0
               ·rw [if_pos c79] at H
                have c79b0 : ((ix5 x212000_2 x212001_2 x212002_2 x212003_2 x212004_2 x12_4) == 0) = true := beq_iff_eq.mpr c79
                have c79b1 : ((ix5 x212000_2 x212001_2 x212002_2 x212003_2 x212004_2 x12_4) != 0) = false := bne_eq_false_iff_eq.mpr c79
                clear c79
                focus
                 exact absurd (Option.some.inj H) (by rw [HT.out]; decide)
               ·rw [if_neg c79] at H
                have c79b0 : ((ix5 x212000_2 x212001_2 x212002_2 x212003_2 x212004_2 x12_4) == 0) = false := beq_eq_false_iff_ne.mpr c79
                have c79b1 : ((ix5 x212000_2 x212001_2 x212002_2 x212003_2 x212004_2 x12_4) != 0) = true := bne_iff_ne.mpr c79
                by_cases c80 : (ix5 x212000_2 x212001_2 x212002_2 x212003_2 x212004_2 x12_4) > (wrap64 ((ix5 x212000_2 x212001_2 x212002_2 x212003_2 x212004_2 x11_3) + (ix4 (ix4 a0_0 a0_1 a0_2 a0_3 (ji73)) (ix4 a0_4 a0_5 a0_6 a0_7 (ji73)) (ix4 a0_8 a0_9 a0_10 a0_11 (ji73)) (ix4 a0_12 a0_13 a0_14 a0_15 (ji73)) (ji70))))
                ·rw [if_pos c80] at H
                 have c80b0 : decide ((wrap64 ((ix5 x212000_2 x212001_2 x212002_2 x212003_2 x212004_2 x11_3) + (ix4 (ix4 a0_0 a0_1 a0_2 a0_3 (ji73)) (ix4 a0_4 a0_5 a0_6 a0_7 (ji73)) (ix4 a0_8 a0_9 a0_10 a0_11 (ji73)) (ix4 a0_12 a0_13 a0_14 a0_15 (ji73)) (ji70)))) < (ix5 x212000_2 x212001_2 x212002_2 x212003_2 x212004_2 x12_4)) = true := decide_eq_true c80
                 clear c80
                 focus
                  exact absurd (Option.some.inj H) (by rw [HT.out]; decide)
                ·rw [if_neg c80] at H
                 have c80b0 : decide ((wrap64 ((ix5 x212000_2 x212001_2 x212002_2 x212003_2 x212004_2 x11_3) + (ix4 (ix4 a0_0 a0_1 a0_2 a0_3 (ji73)) (ix4 a0_4 a0_5 a0_6 a0_7 (ji73)) (ix4 a0_8 a0_9 a0_10 a0_11 (ji73)) (ix4 a0_12 a0_13 a0_14 a0_15 (ji73)) (ji70)))) < (ix5 x212000_2 x212001_2 x212002_2 x212003_2 x212004_2 x12_4)) = false := decide_eq_false c80
                 clear c80
                 focus
                  have H' := Aside0.mk H
                  clear H
                  have p81 : (0 ≤ (x11_3 : Int)) = True := eq_true (of_decide_eq_true (by first | (with_reducible assumption) | assumption))
                  have q81 : ((x11_3 : Int) < 5) = True := eq_true (of_decide_eq_true (by first | (with_reducible assumption) | assumption))
                  have hx82_0 : wr.cell? ⟨gb211, x11_3.toNat, none⟩ = some (.int .i64 (ix5 x212000_2 x212001_2 x212002_2 x212003_2 x212004_2 x11_3)) := (blk_cell BK211.out (x11_3.toNat)).trans (ix_5 (Value.int .i64) _ _ _ _ _ x11_3 (of_decide_eq_true (by first | (with_reducible assumption) | assumption)) (of_decide_eq_true (by first | (with_reducible assumption) | assumption)))
                  try go_wp2
                  have n0_ := Aside0.mk (Kd.S_drew HO_7.out)
                  have n1_ := Aside0.mk (blk_drew BK204.out)
                  have n2_ := Aside0.mk (blk_drew BK211.out)
                  have n3_ := Aside0.mk (below_drew1 HB.out)
                  clear HO_7
                  clear BK204
                  clear BK211
                  clear HB
                  have HO_7 := n0_
                  have BK204 := n1_
                  have BK211 := n2_
                  have HB := n3_
                  clear n0_ n1_ n2_ n3_
                  have p84 : (0 ≤ ((ji70) : Int)) = True := eq_true (of_decide_eq_true (by first | (with_reducible assumption) | assumption))
                  have q84 : (((ji70) : Int) < 4) = True := eq_true (of_decide_eq_true (by first | (with_reducible assumption) | assumption))
                  have p85 : (0 ≤ ((ji73) : Int)) = True := eq_true (of_decide_eq_true (by first | (with_reducible assumption) | assumption))
                  have q85 : (((ji73) : Int) < 4) = True := eq_true (of_decide_eq_true (by first | (with_reducible assumption) | assumption))
                  have p87 : (0 ≤ (x12_4 : Int)) = True := eq_true (of_decide_eq_true (by first | (with_reducible assumption) | assumption))
                  have q87 : ((x12_4 : Int) < 5) = True := eq_true (of_decide_eq_true (by first | (with_reducible assumption) | assumption))
                  have p89 : (0 ≤ (x12_4 : Int)) = True := eq_true (of_decide_eq_true (by first | (with_reducible assumption) | assumption))
                  have q89 : ((x12_4 : Int) < 5) = True := eq_true (of_decide_eq_true (by first | (with_reducible assumption) | assumption))
                  have p91 : (0 ≤ (x11_3 : Int)) = True := eq_true (of_decide_eq_true (by first | (with_reducible assumption) | assumption))
                  have q91 : ((x11_3 : Int) < 5) = True := eq_true (of_decide_eq_true (by first | (with_reducible assumption) | assumption))
                  have p93 : (0 ≤ ((ji70) : Int)) = True := eq_true (of_decide_eq_true (by first | (with_reducible assumption) | assumption))
                  have q93 : (((ji70) : Int) < 4) = True := eq_true (of_decide_eq_true (by first | (with_reducible assumption) | assumption))
                  have p94 : (0 ≤ ((ji73) : Int)) = True := eq_true (of_decide_eq_true (by first | (with_reducible assumption) | assumption))
                  have q94 : (((ji73) : Int) < 4) = True := eq_true (of_decide_eq_true (by first | (with_reducible assumption) | assumption))
                  refine start_ (n := 39) (S := fun w' => w'.cell? ⟨gb204, (ji70).toNat * 4 + (ji73).toNat, none⟩ = some (.int .i64 (ix4 (ix4 a0_0 a0_1 a0_2 a0_3 (ji73)) (ix4 a0_4 a0_5 a0_6 a0_7 (ji73)) (ix4 a0_8 a0_9 a0_10 a0_11 (ji73)) (ix4 a0_12 a0_13 a0_14 a0_15 (ji73)) (ji70))) ∧ w'.cell? ⟨gb211, x12_4.toNat, none⟩ = some (.int .i64 (ix5 x212000_2 x212001_2 x212002_2 x212003_2 x212004_2 x12_4)) ∧ w'.cell? ⟨gb211, x12_4.toNat, none⟩ = some (.int .i64 (ix5 x212000_2 x212001_2 x212002_2 x212003_2 x212004_2 x12_4)) ∧ w'.cell? ⟨gb211, x11_3.toNat, none⟩ = some (.int .i64 (ix5 x212000_2 x212001_2 x212002_2 x212003_2 x212004_2 x11_3)) ∧ w'.cell? ⟨gb204, (ji70).toNat * 4 + (ji73).toNat, none⟩ = some (.int .i64 (ix4 (ix4 a0_0 a0_1 a0_2 a0_3 (ji73)) (ix4 a0_4 a0_5 a0_6 a0_7 (ji73)) (ix4 a0_8 a0_9 a0_10 a0_11 (ji73)) (ix4 a0_12 a0_13 a0_14 a0_15 (ji73)) (ji70)))) (ds := []) mk_39_0 (by kernel_rfl) rfl rfl ⟨(blk_cell BK204.out ((ji70).toNat * 4 + (ji73).toNat)).trans (ix_44 (Value.int .i64) _ _ _ _ _ _ _ _ _ _ _ _ _ _ _ _ (ji70) (ji73)  (of_decide_eq_true (by first | (with_reducible assumption) | assumption)) (of_decide_eq_true (by first | (with_reducible assumption) | assumption))  (of_decide_eq_true (by first | (with_reducible assumption) | assumption)) (of_decide_eq_true (by first | (with_reducible assumption) | assumption))), (blk_cell BK211.out (x12_4.toNat)).trans (ix_5 (Value.int .i64) _ _ _ _ _ x12_4 (of_decide_eq_true (by first | (with_reducible assumption) | assumption)) (of_decide_eq_true (by first | (with_reducible assumption) | assumption))), (blk_cell BK211.out (x12_4.toNat)).trans (ix_5 (Value.int .i64) _ _ _ _ _ x12_4 (of_decide_eq_true (by first | (with_reducible assumption) | assumption)) (of_decide_eq_true (by first | (with_reducible assumption) | assumption))), (blk_cell BK211.out (x11_3.toNat)).trans (ix_5 (Value.int .i64) _ _ _ _ _ x11_3 (of_decide_eq_true (by first | (with_reducible assumption) | assumption)) (of_decide_eq_true (by first | (with_reducible assumption) | assumption))), (blk_cell BK204.out ((ji70).toNat * 4 + (ji73).toNat)).trans (ix_44 (Value.int .i64) _ _ _ _ _ _ _ _ _ _ _ _ _ _ _ _ (ji70) (ji73)  (of_decide_eq_true (by first | (with_reducible assumption) | assumption)) (of_decide_eq_true (by first | (with_reducible assumption) | assumption))  (of_decide_eq_true (by first | (with_reducible assumption) | assumption)) (of_decide_eq_true (by first | (with_reducible assumption) | assumption)))⟩ (fun hHeld => ?_); refine with_tabW watchwordlaw21_PathsTriangle.tab22 watchwordlaw21_PathsTriangle.bits22 (fun HT_ HW_ => ?_)
                  generalize wr.drew = w83 at HO_7 BK204 BK211 HB hHeld ⊢
                  refine pure_ (i := 0) (N := some 88) (v := ?_) (a' := ?_) mk_39_1 rfl rfl (any_of HT_.out (by kernel_rfl)) (fun _ _ _ h => h) (Or.inl ⟨by rfl, ?_⟩) ?_ ?_
                  rotate_left
                  ·intro w'
                   go_simp
                   with_reducible rfl
                  rotate_left
                  ·simp only [Act.put, List.setIfInBounds_toArray, List.set_cons_zero, List.set_cons_succ, i64_w, i32_w]
                   rfl
                  refine pure_ (i := 1) (N := some 89) (v := ?_) (a' := ?_) mk_39_2 rfl rfl (any_of HT_.out (by kernel_rfl)) (fun _ _ _ h => h) (Or.inl ⟨by rfl, ?_⟩) ?_ ?_
                  rotate_left
                  ·intro w'
                   go_simp
                   with_reducible rfl
                  rotate_left
                  ·simp only [Act.put, List.setIfInBounds_toArray, List.set_cons_zero, List.set_cons_succ, i64_w, i32_w]
                   rfl
                  refine pure_ (i := 2) (N := some 90) (v := ?_) (a' := ?_) mk_39_3 rfl rfl (any_of HT_.out (by kernel_rfl)) (fun _ _ _ h => h) (Or.inl ⟨by rfl, ?_⟩) ?_ ?_
                  rotate_left
                  ·intro w'
                   go_simp
                   with_reducible rfl
                  rotate_left
                  ·simp only [Act.put, List.setIfInBounds_toArray, List.set_cons_zero, List.set_cons_succ, i64_w, i32_w]
                   rfl
                  refine pure_ (i := 3) (N := some 91) (v := ?_) (a' := ?_) mk_39_4 rfl rfl (any_of HT_.out (by kernel_rfl)) (fun _ _ _ h => h) (Or.inl ⟨by rfl, ?_⟩) ?_ ?_
                  rotate_left
                  ·intro w'
                   go_simp
                   with_reducible rfl
                  rotate_left
                  ·simp only [Act.put, List.setIfInBounds_toArray, List.set_cons_zero, List.set_cons_succ, i64_w, i32_w]
                   rfl
                  refine pure_ (i := 4) (N := some 92) (v := ?_) (a' := ?_) mk_39_5 rfl rfl (any_of HT_.out (by kernel_rfl)) (fun _ _ _ h => h) (Or.inl ⟨by rfl, ?_⟩) ?_ ?_
                  rotate_left
                  ·intro w'
                   go_simp
                   with_reducible rfl
                  rotate_left
                  ·simp only [Act.put, List.setIfInBounds_toArray, List.set_cons_zero, List.set_cons_succ, i64_w, i32_w]
                   rfl
                  refine pure_ (i := 5) (N := some 93) (v := ?_) (a' := ?_) mk_39_6 rfl rfl (any_of HT_.out (by kernel_rfl)) (fun _ _ _ h => h) (Or.inl ⟨by rfl, ?_⟩) ?_ ?_
                  rotate_left
                  ·intro w'
                   go_simp
                   with_reducible rfl
                  rotate_left
                  ·simp only [Act.put, List.setIfInBounds_toArray, List.set_cons_zero, List.set_cons_succ, i64_w, i32_w]
                   rfl
                  refine pure_ (i := 6) (N := some 94) (v := ?_) (a' := ?_) mk_39_7 rfl rfl (any_of HT_.out (by kernel_rfl)) (fun _ _ _ h => h) (Or.inl ⟨by rfl, ?_⟩) ?_ ?_
                  rotate_left
                  ·intro w'
                   go_simp
                   with_reducible rfl
                  rotate_left
                  ·simp only [Act.put, List.setIfInBounds_toArray, List.set_cons_zero, List.set_cons_succ, i64_w, i32_w]
                   rfl
                  refine pure_ (i := 7) (N := some 95) (v := ?_) (a' := ?_) mk_39_8 rfl rfl (any_of HT_.out (by kernel_rfl)) (fun _ _ _ h => h) (Or.inl ⟨by rfl, ?_⟩) ?_ ?_
                  rotate_left
                  ·intro w'
                   go_simp
                   with_reducible rfl
                  rotate_left
                  ·simp only [Act.put, List.setIfInBounds_toArray, List.set_cons_zero, List.set_cons_succ, i64_w, i32_w]
                   rfl
                  refine pure_ (i := 8) (N := some 96) (v := ?_) (a' := ?_) mk_39_9 rfl rfl (any_of HT_.out (by kernel_rfl)) (fun _ _ _ h => h) (Or.inl ⟨by rfl, ?_⟩) ?_ ?_
                  rotate_left
                  ·intro w'
                   go_simp
                   with_reducible rfl
                  rotate_left
                  ·simp only [Act.put, List.setIfInBounds_toArray, List.set_cons_zero, List.set_cons_succ, i64_w, i32_w]
                   rfl
                  refine pure_ (i := 9) (N := some 97) (v := ?_) (a' := ?_) mk_39_10 rfl rfl (any_of HT_.out (by kernel_rfl)) (fun _ _ _ h => h) (Or.inl ⟨by rfl, ?_⟩) ?_ ?_
                  rotate_left
                  ·intro w'
                   go_simp
                   with_reducible rfl
                  rotate_left
                  ·simp only [Act.put, List.setIfInBounds_toArray, List.set_cons_zero, List.set_cons_succ, i64_w, i32_w]
                   rfl
                  refine pure_ (i := 10) (N := some 98) (v := ?_) (a' := ?_) mk_39_11 rfl rfl (any_of HT_.out (by kernel_rfl)) (fun _ _ _ h => h) (Or.inl ⟨by rfl, ?_⟩) ?_ ?_
                  rotate_left
                  ·intro w'
                   go_simp
                   with_reducible rfl
                  rotate_left
                  ·simp only [Act.put, List.setIfInBounds_toArray, List.set_cons_zero, List.set_cons_succ, i64_w, i32_w]
                   rfl
                  refine pure_ (i := 11) (N := some 99) (v := ?_) (a' := ?_) mk_39_12 rfl rfl (any_of HT_.out (by kernel_rfl)) (fun _ _ _ h => h) (Or.inl ⟨by rfl, ?_⟩) ?_ ?_
                  rotate_left
                  ·intro w'
                   go_simp
                   with_reducible rfl
                  rotate_left
                  ·simp only [Act.put, List.setIfInBounds_toArray, List.set_cons_zero, List.set_cons_succ, i64_w, i32_w]
                   rfl
                  refine pure_ (i := 12) (N := some 100) (v := ?_) (a' := ?_) mk_39_13 rfl rfl (any_of HT_.out (by kernel_rfl)) (fun _ _ _ h => h) (Or.inl ⟨by rfl, ?_⟩) ?_ ?_
                  rotate_left
                  ·intro w'
                   go_simp
                   with_reducible rfl
                  rotate_left
                  ·simp only [Act.put, List.setIfInBounds_toArray, List.set_cons_zero, List.set_cons_succ, i64_w, i32_w]
                   rfl
                  refine take_ (i := 13) (N := some 101) (v := ?_) (a' := ?_) mk_39_14 rfl rfl (take_ofW HT_.out HW_.out (by kernel_rfl)) (fun _ _ _ h => h) (Or.inl ⟨by rfl, ?_⟩) hHeld ?_ ?_
                  rotate_left
                  ·rintro w' ⟨s0, s1, s2, s3, s4⟩
                   go_simp
                   with_reducible rfl
                  rotate_left
                  ·simp only [Act.put, List.setIfInBounds_toArray, List.set_cons_zero, List.set_cons_succ, i64_w, i32_w]
                   rfl
                  refine pure_ (i := 14) (N := some 102) (v := ?_) (a' := ?_) mk_39_15 rfl rfl (any_of HT_.out (by kernel_rfl)) (fun _ _ _ h => h) (Or.inl ⟨by rfl, ?_⟩) ?_ ?_
                  rotate_left
                  ·intro w'
                   go_simp
                   with_reducible rfl
                  rotate_left
                  ·simp only [Act.put, List.setIfInBounds_toArray, List.set_cons_zero, List.set_cons_succ, i64_w, i32_w]
                   rfl
                  refine pure_ (i := 15) (N := some 103) (v := ?_) (a' := ?_) mk_39_16 rfl rfl (any_of HT_.out (by kernel_rfl)) (fun _ _ _ h => h) (Or.inl ⟨by rfl, ?_⟩) ?_ ?_
                  rotate_left
                  ·intro w'
                   go_simp
                   with_reducible rfl
                  rotate_left
                  ·simp only [Act.put, List.setIfInBounds_toArray, List.set_cons_zero, List.set_cons_succ, i64_w, i32_w]
                   rfl
                  refine pure_ (i := 16) (N := some 104) (v := ?_) (a' := ?_) mk_39_17 rfl rfl (any_of HT_.out (by kernel_rfl)) (fun _ _ _ h => h) (Or.inl ⟨by rfl, ?_⟩) ?_ ?_
                  rotate_left
                  ·intro w'
                   go_simp
                   with_reducible rfl
                  rotate_left
                  ·simp only [Act.put, List.setIfInBounds_toArray, List.set_cons_zero, List.set_cons_succ, i64_w, i32_w]
                   rfl
                  refine pure_ (i := 17) (N := some 105) (v := ?_) (a' := ?_) mk_39_18 rfl rfl (any_of HT_.out (by kernel_rfl)) (fun _ _ _ h => h) (Or.inl ⟨by rfl, ?_⟩) ?_ ?_
                  rotate_left
                  ·intro w'
                   go_simp
                   with_reducible rfl
                  rotate_left
                  ·simp only [Act.put, List.setIfInBounds_toArray, List.set_cons_zero, List.set_cons_succ, i64_w, i32_w]
                   rfl
                  refine pure_ (i := 18) (N := some 106) (v := ?_) (a' := ?_) mk_39_19 rfl rfl (any_of HT_.out (by kernel_rfl)) (fun _ _ _ h => h) (Or.inl ⟨by rfl, ?_⟩) ?_ ?_
                  rotate_left
                  ·intro w'
                   go_simp
                   with_reducible rfl
                  rotate_left
                  ·simp only [Act.put, List.setIfInBounds_toArray, List.set_cons_zero, List.set_cons_succ, i64_w, i32_w]
                   rfl
                  refine take_ (i := 19) (N := some 107) (v := ?_) (a' := ?_) mk_39_20 rfl rfl (take_ofW HT_.out HW_.out (by kernel_rfl)) (fun _ _ _ h => h) (Or.inl ⟨by rfl, ?_⟩) hHeld ?_ ?_
                  rotate_left
                  ·rintro w' ⟨s0, s1, s2, s3, s4⟩
                   go_simp
                   with_reducible rfl
                  rotate_left
                  ·simp only [Act.put, List.setIfInBounds_toArray, List.set_cons_zero, List.set_cons_succ, i64_w, i32_w]
                   rfl
                  refine pure_ (i := 20) (N := some 108) (v := ?_) (a' := ?_) mk_39_21 rfl rfl (any_of HT_.out (by kernel_rfl)) (fun _ _ _ h => h) (Or.inl ⟨by rfl, ?_⟩) ?_ ?_
                  rotate_left
                  ·intro w'
                   go_simp
                   with_reducible rfl
                  rotate_left
                  ·simp only [Act.put, List.setIfInBounds_toArray, List.set_cons_zero, List.set_cons_succ, i64_w, i32_w]
                   rfl
                  refine pure_ (i := 21) (N := some 109) (v := ?_) (a' := ?_) mk_39_22 rfl rfl (any_of HT_.out (by kernel_rfl)) (fun _ _ _ h => h) (Or.inl ⟨by rfl, ?_⟩) ?_ ?_
                  rotate_left
                  ·intro w'
                   go_simp
                   with_reducible rfl
                  rotate_left
                  ·simp only [Act.put, List.setIfInBounds_toArray, List.set_cons_zero, List.set_cons_succ, i64_w, i32_w]
                   rfl
                  refine pure_ (i := 22) (N := some 110) (v := ?_) (a' := ?_) mk_39_23 rfl rfl (any_of HT_.out (by kernel_rfl)) (fun _ _ _ h => h) (Or.inl ⟨by rfl, ?_⟩) ?_ ?_
                  rotate_left
                  ·intro w'
                   go_simp
                   with_reducible rfl
                  rotate_left
                  ·simp only [Act.put, List.setIfInBounds_toArray, List.set_cons_zero, List.set_cons_succ, i64_w, i32_w]
                   rfl
                  refine pure_ (i := 23) (N := some 111) (v := ?_) (a' := ?_) mk_39_24 rfl rfl (any_of HT_.out (by kernel_rfl)) (fun _ _ _ h => h) (Or.inl ⟨by rfl, ?_⟩) ?_ ?_
                  rotate_left
                  ·intro w'
                   go_simp
                   with_reducible rfl
                  rotate_left
                  ·simp only [Act.put, List.setIfInBounds_toArray, List.set_cons_zero, List.set_cons_succ, i64_w, i32_w]
                   rfl
                  refine pure_ (i := 25) (N := some 113) (v := ?_) (a' := ?_) #[true, true, true, true, true, true, true, true, true, true, true, true, true, true, true, true, true, true, true, true, true, true, true, true, false, true, false, false, false, false, false, false, false, false, false, false, false, false, false] rfl rfl (any_of HT_.out (by kernel_rfl)) (fun _ _ _ h => h) (Or.inl ⟨by rfl, ?_⟩) ?_ ?_
                  rotate_left
                  ·intro w'
                   go_simp
                   with_reducible rfl
                  rotate_left
                  ·simp only [Act.put, List.setIfInBounds_toArray, List.set_cons_zero, List.set_cons_succ, i64_w, i32_w]
                   rfl
                  refine pure_ (i := 26) (N := some 114) (v := ?_) (a' := ?_) #[true, true, true, true, true, true, true, true, true, true, true, true, true, true, true, true, true, true, true, true, true, true, true, true, false, true, true, false, false, false, false, false, false, false, false, false, false, false, false] rfl rfl (any_of HT_.out (by kernel_rfl)) (fun _ _ _ h => h) (Or.inl ⟨by rfl, ?_⟩) ?_ ?_
                  rotate_left
                  ·intro w'
                   go_simp
                   with_reducible rfl
                  rotate_left
                  ·simp only [Act.put, List.setIfInBounds_toArray, List.set_cons_zero, List.set_cons_succ, i64_w, i32_w]
                   rfl
                  refine pure_ (i := 28) (N := some 116) (v := ?_) (a' := ?_) #[true, true, true, true, true, true, true, true, true, true, true, true, true, true, true, true, true, true, true, true, true, true, true, true, false, true, true, false, true, false, false, false, false, false, false, false, false, false, false] rfl rfl (any_of HT_.out (by kernel_rfl)) (fun _ _ _ h => h) (Or.inl ⟨by rfl, ?_⟩) ?_ ?_
                  rotate_left
                  ·intro w'
                   go_simp
                   with_reducible rfl
                  rotate_left
                  ·simp only [Act.put, List.setIfInBounds_toArray, List.set_cons_zero, List.set_cons_succ, i64_w, i32_w]
                   rfl
                  refine pure_ (i := 29) (N := some 117) (v := ?_) (a' := ?_) #[true, true, true, true, true, true, true, true, true, true, true, true, true, true, true, true, true, true, true, true, true, true, true, true, false, true, true, false, true, true, false, false, false, false, false, false, false, false, false] rfl rfl (any_of HT_.out (by kernel_rfl)) (fun _ _ _ h => h) (Or.inl ⟨by rfl, ?_⟩) ?_ ?_
                  rotate_left
                  ·intro w'
                   go_simp
                   with_reducible rfl
                  rotate_left
                  ·simp only [Act.put, List.setIfInBounds_toArray, List.set_cons_zero, List.set_cons_succ, i64_w, i32_w]
                   rfl
                  refine pure_ (i := 30) (N := some 118) (v := ?_) (a' := ?_) #[true, true, true, true, true, true, true, true, true, true, true, true, true, true, true, true, true, true, true, true, true, true, true, true, false, true, true, false, true, true, true, false, false, false, false, false, false, false, false] rfl rfl (any_of HT_.out (by kernel_rfl)) (fun _ _ _ h => h) (Or.inl ⟨by rfl, ?_⟩) ?_ ?_
                  rotate_left
                  ·intro w'
                   go_simp
                   with_reducible rfl
                  rotate_left
                  ·simp only [Act.put, List.setIfInBounds_toArray, List.set_cons_zero, List.set_cons_succ, i64_w, i32_w]
                   rfl
                  refine pure_ (i := 31) (N := some 119) (v := ?_) (a' := ?_) #[true, true, true, true, true, true, true, true, true, true, true, true, true, true, true, true, true, true, true, true, true, true, true, true, false, true, true, false, true, true, true, true, false, false, false, false, false, false, false] rfl rfl (any_of HT_.out (by kernel_rfl)) (fun _ _ _ h => h) (Or.inl ⟨by rfl, ?_⟩) ?_ ?_
                  rotate_left
                  ·intro w'
                   go_simp
                   with_reducible rfl
                  rotate_left
                  ·simp only [Act.put, List.setIfInBounds_toArray, List.set_cons_zero, List.set_cons_succ, i64_w, i32_w]
                   rfl
                  refine pure_ (i := 32) (N := some 120) (v := ?_) (a' := ?_) #[true, true, true, true, true, true, true, true, true, true, true, true, true, true, true, true, true, true, true, true, true, true, true, true, false, true, true, false, true, true, true, true, true, false, false, false, false, false, false] rfl rfl (any_of HT_.out (by kernel_rfl)) (fun _ _ _ h => h) (Or.inl ⟨by rfl, ?_⟩) ?_ ?_
                  rotate_left
                  ·intro w'
                   go_simp
                   with_reducible rfl
                  rotate_left
                  ·simp only [Act.put, List.setIfInBounds_toArray, List.set_cons_zero, List.set_cons_succ, i64_w, i32_w]
                   rfl
                  refine pure_ (i := 33) (N := some 121) (v := ?_) (a' := ?_) #[true, true, true, true, true, true, true, true, true, true, true, true, true, true, true, true, true, true, true, true, true, true, true, true, false, true, true, false, true, true, true, true, true, true, false, false, false, false, false] rfl rfl (any_of HT_.out (by kernel_rfl)) (fun _ _ _ h => h) (Or.inl ⟨by rfl, ?_⟩) ?_ ?_
                  rotate_left
                  ·intro w'
                   go_simp
                   with_reducible rfl
                  rotate_left
                  ·simp only [Act.put, List.setIfInBounds_toArray, List.set_cons_zero, List.set_cons_succ, i64_w, i32_w]
                   rfl
                  refine take_ (i := 24) (N := some 112) (v := ?_) (a' := ?_) #[true, true, true, true, true, true, true, true, true, true, true, true, true, true, true, true, true, true, true, true, true, true, true, true, true, true, true, false, true, true, true, true, true, true, false, false, false, false, false] rfl rfl (take_ofW HT_.out HW_.out (by kernel_rfl)) (fun _ _ _ h => h) (Or.inl ⟨by rfl, ?_⟩) hHeld ?_ ?_
                  rotate_left
                  ·rintro w' ⟨s0, s1, s2, s3, s4⟩
                   go_simp
                   with_reducible rfl
                  rotate_left
                  ·simp only [Act.put, List.setIfInBounds_toArray, List.set_cons_zero, List.set_cons_succ, i64_w, i32_w]
                   rfl
                  refine take_ (i := 27) (N := some 115) (v := ?_) (a' := ?_) mk_39_34 rfl rfl (take_ofW HT_.out HW_.out (by kernel_rfl)) (fun _ _ _ h => h) (Or.inl ⟨by rfl, ?_⟩) hHeld ?_ ?_
                  rotate_left
                  ·rintro w' ⟨s0, s1, s2, s3, s4⟩
                   go_simp
                   with_reducible rfl
                  rotate_left
                  ·simp only [Act.put, List.setIfInBounds_toArray, List.set_cons_zero, List.set_cons_succ, i64_w, i32_w]
                   rfl
                  refine take_ (i := 34) (N := some 122) (v := ?_) (a' := ?_) mk_39_35 rfl rfl (take_ofW HT_.out HW_.out (by kernel_rfl)) (fun _ _ _ h => h) (Or.inl ⟨by rfl, ?_⟩) hHeld ?_ ?_
                  rotate_left
                  ·rintro w' ⟨s0, s1, s2, s3, s4⟩
                   go_simp
                   with_reducible rfl
                  rotate_left
                  ·simp only [Act.put, List.setIfInBounds_toArray, List.set_cons_zero, List.set_cons_succ, i64_w, i32_w]
                   rfl
                  refine pure_ (i := 35) (N := some 123) (v := ?_) (a' := ?_) mk_39_36 rfl rfl (any_of HT_.out (by kernel_rfl)) (fun _ _ _ h => h) (Or.inl ⟨by rfl, ?_⟩) ?_ ?_
                  rotate_left
                  ·intro w'
                   go_simp
                   with_reducible rfl
                  rotate_left
                  ·simp only [Act.put, List.setIfInBounds_toArray, List.set_cons_zero, List.set_cons_succ, i64_w, i32_w]
                   rfl
                  refine pure_ (i := 36) (N := some 124) (v := ?_) (a' := ?_) mk_39_37 rfl rfl (any_of HT_.out (by kernel_rfl)) (fun _ _ _ h => h) (Or.inl ⟨by rfl, ?_⟩) ?_ ?_
                  rotate_left
                  ·intro w'
                   go_simp
                   with_reducible rfl
                  rotate_left
                  ·simp only [Act.put, List.setIfInBounds_toArray, List.set_cons_zero, List.set_cons_succ, i64_w, i32_w]
                   rfl
                  refine pure_ (i := 37) (N := some 125) (v := ?_) (a' := ?_) mk_39_38 rfl rfl (any_of HT_.out (by kernel_rfl)) (fun _ _ _ h => h) (Or.inl ⟨by rfl, ?_⟩) ?_ ?_
                  rotate_left
                  ·intro w'
                   go_simp
                   with_reducible rfl
                  rotate_left
                  ·simp only [Act.put, List.setIfInBounds_toArray, List.set_cons_zero, List.set_cons_succ, i64_w, i32_w]
                   rfl
                  refine pure_ (i := 38) (N := some 126) (v := ?_) (a' := ?_) mk_39_39 rfl rfl (any_of HT_.out (by kernel_rfl)) (fun _ _ _ h => h) (Or.inl ⟨by rfl, ?_⟩) ?_ ?_
                  rotate_left
                  ·intro w'
                   go_simp
                   with_reducible rfl
                  rotate_left
                  ·simp only [Act.put, List.setIfInBounds_toArray, List.set_cons_zero, List.set_cons_succ, i64_w, i32_w]
                   rfl
                  refine done_ (done_of HT_.out (by kernel_rfl)) ?_
                  try go_wp2
                  go_roundg k4
                  case measure => have := HJ8.out; have := HK2.out; have := HK3.out; have := HK4.out; omega
                  case rel => exact ⟨(wrap64 (x12_4 + 1)), (by first | rfl | (simp; done) | (simp [*]; done)), H', ⟨by have := HJ8.out; have := HK2.out; have := HK3.out; have := HK4.out; omega⟩, ⟨by (with_reducible repeat (first | apply Kd.S_alloc | apply Kd.S_drewN | apply Kd.S_drew)); exact HO_7.out⟩, ⟨by (with_reducible repeat (first | refine blk_drewN ?_ _ | refine blk_drew ?_ | refine blk_alloc ?_ _)); exact BK204.out⟩, ⟨by (with_reducible repeat (first | refine blk_drewN ?_ _ | refine blk_drew ?_ | refine blk_alloc ?_ _)); exact BK211.out⟩, ⟨by repeat (first | (with_reducible first | exact HB.out | apply below_alloc | apply pw_below_drewN | apply below_drew1 | refine below_set ?_ GE204.out | refine below_set ?_ GE211.out) | exact HB.out)⟩⟩
              ·rw [if_neg c78] at H
               exact absurd H (by simp)
             ·rw [if_neg c77] at H
              exact absurd H (by simp)
            ·rw [if_neg c76] at H
             have c76b0 : decide (0 < (ix4 (ix4 a0_0 a0_1 a0_2 a0_3 (ji73)) (ix4 a0_4 a0_5 a0_6 a0_7 (ji73)) (ix4 a0_8 a0_9 a0_10 a0_11 (ji73)) (ix4 a0_12 a0_13 a0_14 a0_15 (ji73)) (ji70))) = false := decide_eq_false c76
             clear c76
             focus
              have H' := Aside0.mk H
              clear H
              have p96 : (0 ≤ (x11_3 : Int)) = True := eq_true (of_decide_eq_true (by first | (with_reducible assumption) | assumption))
              have q96 : ((x11_3 : Int) < 5) = True := eq_true (of_decide_eq_true (by first | (with_reducible assumption) | assumption))
              have hx97_0 : wr.cell? ⟨gb211, x11_3.toNat, none⟩ = some (.int .i64 (ix5 x212000_2 x212001_2 x212002_2 x212003_2 x212004_2 x11_3)) := (blk_cell BK211.out (x11_3.toNat)).trans (ix_5 (Value.int .i64) _ _ _ _ _ x11_3 (of_decide_eq_true (by first | (with_reducible assumption) | assumption)) (of_decide_eq_true (by first | (with_reducible assumption) | assumption)))
              try go_wp2
              have n0_ := Aside0.mk (Kd.S_drew HO_7.out)
              have n1_ := Aside0.mk (blk_drew BK204.out)
              have n2_ := Aside0.mk (blk_drew BK211.out)
              have n3_ := Aside0.mk (below_drew1 HB.out)
              clear HO_7
              clear BK204
              clear BK211
              clear HB
              have HO_7 := n0_
              have BK204 := n1_
              have BK211 := n2_
              have HB := n3_
              clear n0_ n1_ n2_ n3_
              have p99 : (0 ≤ ((ji70) : Int)) = True := eq_true (of_decide_eq_true (by first | (with_reducible assumption) | assumption))
              have q99 : (((ji70) : Int) < 4) = True := eq_true (of_decide_eq_true (by first | (with_reducible assumption) | assumption))
              have p100 : (0 ≤ ((ji73) : Int)) = True := eq_true (of_decide_eq_true (by first | (with_reducible assumption) | assumption))
              have q100 : (((ji73) : Int) < 4) = True := eq_true (of_decide_eq_true (by first | (with_reducible assumption) | assumption))
              refine start_ (n := 39) (S := fun w' => w'.cell? ⟨gb204, (ji70).toNat * 4 + (ji73).toNat, none⟩ = some (.int .i64 (ix4 (ix4 a0_0 a0_1 a0_2 a0_3 (ji73)) (ix4 a0_4 a0_5 a0_6 a0_7 (ji73)) (ix4 a0_8 a0_9 a0_10 a0_11 (ji73)) (ix4 a0_12 a0_13 a0_14 a0_15 (ji73)) (ji70)))) (ds := []) mk_39_0 (by kernel_rfl) rfl rfl ((blk_cell BK204.out ((ji70).toNat * 4 + (ji73).toNat)).trans (ix_44 (Value.int .i64) _ _ _ _ _ _ _ _ _ _ _ _ _ _ _ _ (ji70) (ji73)  (of_decide_eq_true (by first | (with_reducible assumption) | assumption)) (of_decide_eq_true (by first | (with_reducible assumption) | assumption))  (of_decide_eq_true (by first | (with_reducible assumption) | assumption)) (of_decide_eq_true (by first | (with_reducible assumption) | assumption)))) (fun hHeld => ?_); refine with_tabW watchwordlaw21_PathsTriangle.tab22 watchwordlaw21_PathsTriangle.bits22 (fun HT_ HW_ => ?_)
              generalize wr.drew = w98 at HO_7 BK204 BK211 HB hHeld ⊢
              refine pure_ (i := 0) (N := some 88) (v := ?_) (a' := ?_) mk_39_1 rfl rfl (any_of HT_.out (by kernel_rfl)) (fun _ _ _ h => h) (Or.inl ⟨by rfl, ?_⟩) ?_ ?_
              rotate_left
              ·intro w'
               go_simp
               with_reducible rfl
              rotate_left
              ·simp only [Act.put, List.setIfInBounds_toArray, List.set_cons_zero, List.set_cons_succ, i64_w, i32_w]
               rfl
              refine pure_ (i := 1) (N := some 89) (v := ?_) (a' := ?_) mk_39_2 rfl rfl (any_of HT_.out (by kernel_rfl)) (fun _ _ _ h => h) (Or.inl ⟨by rfl, ?_⟩) ?_ ?_
              rotate_left
              ·intro w'
               go_simp
               with_reducible rfl
              rotate_left
              ·simp only [Act.put, List.setIfInBounds_toArray, List.set_cons_zero, List.set_cons_succ, i64_w, i32_w]
               rfl
              refine pure_ (i := 2) (N := some 90) (v := ?_) (a' := ?_) mk_39_3 rfl rfl (any_of HT_.out (by kernel_rfl)) (fun _ _ _ h => h) (Or.inl ⟨by rfl, ?_⟩) ?_ ?_
              rotate_left
              ·intro w'
               go_simp
               with_reducible rfl
              rotate_left
              ·simp only [Act.put, List.setIfInBounds_toArray, List.set_cons_zero, List.set_cons_succ, i64_w, i32_w]
               rfl
              refine pure_ (i := 3) (N := some 91) (v := ?_) (a' := ?_) mk_39_4 rfl rfl (any_of HT_.out (by kernel_rfl)) (fun _ _ _ h => h) (Or.inl ⟨by rfl, ?_⟩) ?_ ?_
              rotate_left
              ·intro w'
               go_simp
               with_reducible rfl
              rotate_left
              ·simp only [Act.put, List.setIfInBounds_toArray, List.set_cons_zero, List.set_cons_succ, i64_w, i32_w]
               rfl
              refine pure_ (i := 4) (N := some 92) (v := ?_) (a' := ?_) mk_39_5 rfl rfl (any_of HT_.out (by kernel_rfl)) (fun _ _ _ h => h) (Or.inl ⟨by rfl, ?_⟩) ?_ ?_
              rotate_left
              ·intro w'
               go_simp
               with_reducible rfl
              rotate_left
              ·simp only [Act.put, List.setIfInBounds_toArray, List.set_cons_zero, List.set_cons_succ, i64_w, i32_w]
               rfl
              refine pure_ (i := 5) (N := some 93) (v := ?_) (a' := ?_) mk_39_6 rfl rfl (any_of HT_.out (by kernel_rfl)) (fun _ _ _ h => h) (Or.inl ⟨by rfl, ?_⟩) ?_ ?_
              rotate_left
              ·intro w'
               go_simp
               with_reducible rfl
              rotate_left
              ·simp only [Act.put, List.setIfInBounds_toArray, List.set_cons_zero, List.set_cons_succ, i64_w, i32_w]
               rfl
              refine pure_ (i := 6) (N := some 94) (v := ?_) (a' := ?_) mk_39_7 rfl rfl (any_of HT_.out (by kernel_rfl)) (fun _ _ _ h => h) (Or.inl ⟨by rfl, ?_⟩) ?_ ?_
              rotate_left
              ·intro w'
               go_simp
               with_reducible rfl
              rotate_left
              ·simp only [Act.put, List.setIfInBounds_toArray, List.set_cons_zero, List.set_cons_succ, i64_w, i32_w]
               rfl
              refine pure_ (i := 7) (N := some 95) (v := ?_) (a' := ?_) mk_39_8 rfl rfl (any_of HT_.out (by kernel_rfl)) (fun _ _ _ h => h) (Or.inl ⟨by rfl, ?_⟩) ?_ ?_
              rotate_left
              ·intro w'
               go_simp
               with_reducible rfl
              rotate_left
              ·simp only [Act.put, List.setIfInBounds_toArray, List.set_cons_zero, List.set_cons_succ, i64_w, i32_w]
               rfl
              refine pure_ (i := 8) (N := some 96) (v := ?_) (a' := ?_) mk_39_9 rfl rfl (any_of HT_.out (by kernel_rfl)) (fun _ _ _ h => h) (Or.inl ⟨by rfl, ?_⟩) ?_ ?_
              rotate_left
              ·intro w'
               go_simp
               with_reducible rfl
              rotate_left
              ·simp only [Act.put, List.setIfInBounds_toArray, List.set_cons_zero, List.set_cons_succ, i64_w, i32_w]
               rfl
              refine pure_ (i := 9) (N := some 97) (v := ?_) (a' := ?_) mk_39_10 rfl rfl (any_of HT_.out (by kernel_rfl)) (fun _ _ _ h => h) (Or.inl ⟨by rfl, ?_⟩) ?_ ?_
              rotate_left
              ·intro w'
               go_simp
               with_reducible rfl
              rotate_left
              ·simp only [Act.put, List.setIfInBounds_toArray, List.set_cons_zero, List.set_cons_succ, i64_w, i32_w]
               rfl
              refine pure_ (i := 10) (N := some 98) (v := ?_) (a' := ?_) mk_39_11 rfl rfl (any_of HT_.out (by kernel_rfl)) (fun _ _ _ h => h) (Or.inl ⟨by rfl, ?_⟩) ?_ ?_
              rotate_left
              ·intro w'
               go_simp
               with_reducible rfl
              rotate_left
              ·simp only [Act.put, List.setIfInBounds_toArray, List.set_cons_zero, List.set_cons_succ, i64_w, i32_w]
               rfl
              refine pure_ (i := 11) (N := some 99) (v := ?_) (a' := ?_) mk_39_12 rfl rfl (any_of HT_.out (by kernel_rfl)) (fun _ _ _ h => h) (Or.inl ⟨by rfl, ?_⟩) ?_ ?_
              rotate_left
              ·intro w'
               go_simp
               with_reducible rfl
              rotate_left
              ·simp only [Act.put, List.setIfInBounds_toArray, List.set_cons_zero, List.set_cons_succ, i64_w, i32_w]
               rfl
              refine pure_ (i := 12) (N := some 100) (v := ?_) (a' := ?_) mk_39_13 rfl rfl (any_of HT_.out (by kernel_rfl)) (fun _ _ _ h => h) (Or.inl ⟨by rfl, ?_⟩) ?_ ?_
              rotate_left
              ·intro w'
               go_simp
               with_reducible rfl
              rotate_left
              ·simp only [Act.put, List.setIfInBounds_toArray, List.set_cons_zero, List.set_cons_succ, i64_w, i32_w]
               rfl
              refine take_ (i := 13) (N := some 101) (v := ?_) (a' := ?_) mk_39_14 rfl rfl (take_ofW HT_.out HW_.out (by kernel_rfl)) (fun _ _ _ h => h) (Or.inl ⟨by rfl, ?_⟩) hHeld ?_ ?_
              rotate_left
              ·intro w' s0
               go_simp
               with_reducible rfl
              rotate_left
              ·simp only [Act.put, List.setIfInBounds_toArray, List.set_cons_zero, List.set_cons_succ, i64_w, i32_w]
               rfl
              refine pure_ (i := 14) (N := some 102) (v := ?_) (a' := ?_) mk_39_15 rfl rfl (any_of HT_.out (by kernel_rfl)) (fun _ _ _ h => h) (Or.inl ⟨by rfl, ?_⟩) ?_ ?_
              rotate_left
              ·intro w'
               go_simp
               with_reducible rfl
              rotate_left
              ·simp only [Act.put, List.setIfInBounds_toArray, List.set_cons_zero, List.set_cons_succ, i64_w, i32_w]
               rfl
              refine pure_ (i := 15) (N := some 103) (v := ?_) (a' := ?_) mk_39_16 rfl rfl (any_of HT_.out (by kernel_rfl)) (fun _ _ _ h => h) (Or.inl ⟨by rfl, ?_⟩) ?_ ?_
              rotate_left
              ·intro w'
               go_simp
               with_reducible rfl
              rotate_left
              ·simp only [Act.put, List.setIfInBounds_toArray, List.set_cons_zero, List.set_cons_succ, i64_w, i32_w]
               rfl
              refine pure_ (i := 16) (N := some 104) (v := ?_) (a' := ?_) mk_39_17 rfl rfl (any_of HT_.out (by kernel_rfl)) (fun _ _ _ h => h) (Or.inl ⟨by rfl, ?_⟩) ?_ ?_
              rotate_left
              ·intro w'
               go_simp
               with_reducible rfl
              rotate_left
              ·simp only [Act.put, List.setIfInBounds_toArray, List.set_cons_zero, List.set_cons_succ, i64_w, i32_w]
               rfl
              refine pure_ (i := 17) (N := some 105) (v := undef) (a' := ?_) mk_39_18 rfl rfl (any_of HT_.out (by kernel_rfl)) (fun _ _ _ h => h) (Or.inr ⟨by rfl, rfl⟩) ?_ ?_
              rotate_left
              ·simp only [Act.put, List.setIfInBounds_toArray, List.set_cons_zero, List.set_cons_succ, i64_w, i32_w]
               rfl
              refine pure_ (i := 18) (N := some 106) (v := undef) (a' := ?_) mk_39_19 rfl rfl (any_of HT_.out (by kernel_rfl)) (fun _ _ _ h => h) (Or.inr ⟨by rfl, rfl⟩) ?_ ?_
              rotate_left
              ·simp only [Act.put, List.setIfInBounds_toArray, List.set_cons_zero, List.set_cons_succ, i64_w, i32_w]
               rfl
              refine pure_ (i := 19) (N := some 107) (v := undef) (a' := ?_) mk_39_20 rfl rfl (any_of HT_.out (by kernel_rfl)) (fun _ _ _ h => h) (Or.inr ⟨by rfl, rfl⟩) ?_ ?_
              rotate_left
              ·simp only [Act.put, List.setIfInBounds_toArray, List.set_cons_zero, List.set_cons_succ, i64_w, i32_w]
               rfl
              refine pure_ (i := 20) (N := some 108) (v := undef) (a' := ?_) mk_39_21 rfl rfl (any_of HT_.out (by kernel_rfl)) (fun _ _ _ h => h) (Or.inr ⟨by rfl, rfl⟩) ?_ ?_
              rotate_left
              ·simp only [Act.put, List.setIfInBounds_toArray, List.set_cons_zero, List.set_cons_succ, i64_w, i32_w]
               rfl
              refine pure_ (i := 21) (N := some 109) (v := undef) (a' := ?_) mk_39_22 rfl rfl (any_of HT_.out (by kernel_rfl)) (fun _ _ _ h => h) (Or.inr ⟨by rfl, rfl⟩) ?_ ?_
              rotate_left
              ·simp only [Act.put, List.setIfInBounds_toArray, List.set_cons_zero, List.set_cons_succ, i64_w, i32_w]
               rfl
              refine pure_ (i := 22) (N := some 110) (v := undef) (a' := ?_) mk_39_23 rfl rfl (any_of HT_.out (by kernel_rfl)) (fun _ _ _ h => h) (Or.inr ⟨by rfl, rfl⟩) ?_ ?_
              rotate_left
              ·simp only [Act.put, List.setIfInBounds_toArray, List.set_cons_zero, List.set_cons_succ, i64_w, i32_w]
               rfl
              refine pure_ (i := 23) (N := some 111) (v := undef) (a' := ?_) mk_39_24 rfl rfl (any_of HT_.out (by kernel_rfl)) (fun _ _ _ h => h) (Or.inr ⟨by rfl, rfl⟩) ?_ ?_
              rotate_left
              ·simp only [Act.put, List.setIfInBounds_toArray, List.set_cons_zero, List.set_cons_succ, i64_w, i32_w]
               rfl
              refine pure_ (i := 24) (N := some 112) (v := undef) (a' := ?_) mk_39_25 rfl rfl (any_of HT_.out (by kernel_rfl)) (fun _ _ _ h => h) (Or.inr ⟨by rfl, rfl⟩) ?_ ?_
              rotate_left
              ·simp only [Act.put, List.setIfInBounds_toArray, List.set_cons_zero, List.set_cons_succ, i64_w, i32_w]
               rfl
              refine pure_ (i := 25) (N := some 113) (v := undef) (a' := ?_) mk_39_26 rfl rfl (any_of HT_.out (by kernel_rfl)) (fun _ _ _ h => h) (Or.inr ⟨by rfl, rfl⟩) ?_ ?_
              rotate_left
              ·simp only [Act.put, List.setIfInBounds_toArray, List.set_cons_zero, List.set_cons_succ, i64_w, i32_w]
               rfl
              refine pure_ (i := 26) (N := some 114) (v := undef) (a' := ?_) mk_39_27 rfl rfl (any_of HT_.out (by kernel_rfl)) (fun _ _ _ h => h) (Or.inr ⟨by rfl, rfl⟩) ?_ ?_
              rotate_left
              ·simp only [Act.put, List.setIfInBounds_toArray, List.set_cons_zero, List.set_cons_succ, i64_w, i32_w]
               rfl
              refine pure_ (i := 27) (N := some 115) (v := undef) (a' := ?_) mk_39_28 rfl rfl (any_of HT_.out (by kernel_rfl)) (fun _ _ _ h => h) (Or.inr ⟨by rfl, rfl⟩) ?_ ?_
              rotate_left
              ·simp only [Act.put, List.setIfInBounds_toArray, List.set_cons_zero, List.set_cons_succ, i64_w, i32_w]
               rfl
              refine pure_ (i := 28) (N := some 116) (v := undef) (a' := ?_) mk_39_29 rfl rfl (any_of HT_.out (by kernel_rfl)) (fun _ _ _ h => h) (Or.inr ⟨by rfl, rfl⟩) ?_ ?_
              rotate_left
              ·simp only [Act.put, List.setIfInBounds_toArray, List.set_cons_zero, List.set_cons_succ, i64_w, i32_w]
               rfl
              refine pure_ (i := 29) (N := some 117) (v := undef) (a' := ?_) mk_39_30 rfl rfl (any_of HT_.out (by kernel_rfl)) (fun _ _ _ h => h) (Or.inr ⟨by rfl, rfl⟩) ?_ ?_
              rotate_left
              ·simp only [Act.put, List.setIfInBounds_toArray, List.set_cons_zero, List.set_cons_succ, i64_w, i32_w]
               rfl
              refine pure_ (i := 30) (N := some 118) (v := undef) (a' := ?_) mk_39_31 rfl rfl (any_of HT_.out (by kernel_rfl)) (fun _ _ _ h => h) (Or.inr ⟨by rfl, rfl⟩) ?_ ?_
              rotate_left
              ·simp only [Act.put, List.setIfInBounds_toArray, List.set_cons_zero, List.set_cons_succ, i64_w, i32_w]
               rfl
              refine pure_ (i := 31) (N := some 119) (v := undef) (a' := ?_) mk_39_32 rfl rfl (any_of HT_.out (by kernel_rfl)) (fun _ _ _ h => h) (Or.inr ⟨by rfl, rfl⟩) ?_ ?_
              rotate_left
              ·simp only [Act.put, List.setIfInBounds_toArray, List.set_cons_zero, List.set_cons_succ, i64_w, i32_w]
               rfl
              refine pure_ (i := 32) (N := some 120) (v := undef) (a' := ?_) mk_39_33 rfl rfl (any_of HT_.out (by kernel_rfl)) (fun _ _ _ h => h) (Or.inr ⟨by rfl, rfl⟩) ?_ ?_
              rotate_left
              ·simp only [Act.put, List.setIfInBounds_toArray, List.set_cons_zero, List.set_cons_succ, i64_w, i32_w]
               rfl
              refine pure_ (i := 33) (N := some 121) (v := undef) (a' := ?_) mk_39_34 rfl rfl (any_of HT_.out (by kernel_rfl)) (fun _ _ _ h => h) (Or.inr ⟨by rfl, rfl⟩) ?_ ?_
              rotate_left
              ·simp only [Act.put, List.setIfInBounds_toArray, List.set_cons_zero, List.set_cons_succ, i64_w, i32_w]
               rfl
              refine pure_ (i := 34) (N := some 122) (v := undef) (a' := ?_) mk_39_35 rfl rfl (any_of HT_.out (by kernel_rfl)) (fun _ _ _ h => h) (Or.inr ⟨by rfl, rfl⟩) ?_ ?_
              rotate_left
              ·simp only [Act.put, List.setIfInBounds_toArray, List.set_cons_zero, List.set_cons_succ, i64_w, i32_w]
               rfl
              refine pure_ (i := 35) (N := some 123) (v := undef) (a' := ?_) mk_39_36 rfl rfl (any_of HT_.out (by kernel_rfl)) (fun _ _ _ h => h) (Or.inr ⟨by rfl, rfl⟩) ?_ ?_
              rotate_left
              ·simp only [Act.put, List.setIfInBounds_toArray, List.set_cons_zero, List.set_cons_succ, i64_w, i32_w]
               rfl
              refine pure_ (i := 36) (N := some 124) (v := undef) (a' := ?_) mk_39_37 rfl rfl (any_of HT_.out (by kernel_rfl)) (fun _ _ _ h => h) (Or.inr ⟨by rfl, rfl⟩) ?_ ?_
              rotate_left
              ·simp only [Act.put, List.setIfInBounds_toArray, List.set_cons_zero, List.set_cons_succ, i64_w, i32_w]
               rfl
              refine pure_ (i := 37) (N := some 125) (v := undef) (a' := ?_) mk_39_38 rfl rfl (any_of HT_.out (by kernel_rfl)) (fun _ _ _ h => h) (Or.inr ⟨by rfl, rfl⟩) ?_ ?_
              rotate_left
              ·simp only [Act.put, List.setIfInBounds_toArray, List.set_cons_zero, List.set_cons_succ, i64_w, i32_w]
               rfl
              refine pure_ (i := 38) (N := some 126) (v := ?_) (a' := ?_) mk_39_39 rfl rfl (any_of HT_.out (by kernel_rfl)) (fun _ _ _ h => h) (Or.inl ⟨by rfl, ?_⟩) ?_ ?_
              rotate_left
              ·intro w'
               go_simp
               with_reducible rfl
              rotate_left
              ·simp only [Act.put, List.setIfInBounds_toArray, List.set_cons_zero, List.set_cons_succ, i64_w, i32_w]
               rfl
              refine done_ (done_of HT_.out (by kernel_rfl)) ?_
              try go_wp2
              go_roundg k4
              case measure => have := HJ8.out; have := HK2.out; have := HK3.out; have := HK4.out; omega
              case rel => exact ⟨(wrap64 (x12_4 + 1)), (by first | rfl | (simp; done) | (simp [*]; done)), H', ⟨by have := HJ8.out; have := HK2.out; have := HK3.out; have := HK4.out; omega⟩, ⟨by (with_reducible repeat (first | apply Kd.S_alloc | apply Kd.S_drewN | apply Kd.S_drew)); exact HO_7.out⟩, ⟨by (with_reducible repeat (first | refine blk_drewN ?_ _ | refine blk_drew ?_ | refine blk_alloc ?_ _)); exact BK204.out⟩, ⟨by (with_reducible repeat (first | refine blk_drewN ?_ _ | refine blk_drew ?_ | refine blk_alloc ?_ _)); exact BK211.out⟩, ⟨by repeat (first | (with_reducible first | exact HB.out | apply below_alloc | apply pw_below_drewN | apply below_drew1 | refine below_set ?_ GE204.out | refine below_set ?_ GE211.out) | exact HB.out)⟩⟩
           ·rw [if_neg c75] at H
            exact absurd H (by simp)
          ·rw [if_neg c74] at H
           exact absurd H (by simp)
         ·rw [if_neg c72] at H
          exact absurd H (by simp)
        ·rw [if_neg c71] at H
         exact absurd H (by simp)
       ·rw [if_neg c69] at H
        have c69b0 : decide (0 < (ix5 x212000_2 x212001_2 x212002_2 x212003_2 x212004_2 x11_3)) = false := decide_eq_false c69
        clear c69
        focus
         have H' := Aside0.mk H
         clear H
         have p102 : (0 ≤ (x11_3 : Int)) = True := eq_true (of_decide_eq_true (by first | (with_reducible assumption) | assumption))
         have q102 : ((x11_3 : Int) < 5) = True := eq_true (of_decide_eq_true (by first | (with_reducible assumption) | assumption))
         have hx103_0 : wr.cell? ⟨gb211, x11_3.toNat, none⟩ = some (.int .i64 (ix5 x212000_2 x212001_2 x212002_2 x212003_2 x212004_2 x11_3)) := (blk_cell BK211.out (x11_3.toNat)).trans (ix_5 (Value.int .i64) _ _ _ _ _ x11_3 (of_decide_eq_true (by first | (with_reducible assumption) | assumption)) (of_decide_eq_true (by first | (with_reducible assumption) | assumption)))
         try go_wp2
         have n0_ := Aside0.mk (Kd.S_drew HO_7.out)
         have n1_ := Aside0.mk (blk_drew BK204.out)
         have n2_ := Aside0.mk (blk_drew BK211.out)
         have n3_ := Aside0.mk (below_drew1 HB.out)
         clear HO_7
         clear BK204
         clear BK211
         clear HB
         have HO_7 := n0_
         have BK204 := n1_
         have BK211 := n2_
         have HB := n3_
         clear n0_ n1_ n2_ n3_
         refine start_ (n := 39) (S := fun w' => True) (ds := []) mk_39_0 (by kernel_rfl) rfl rfl trivial (fun hHeld => ?_); refine with_tabW watchwordlaw21_PathsTriangle.tab22 watchwordlaw21_PathsTriangle.bits22 (fun HT_ HW_ => ?_)
         generalize wr.drew = w104 at HO_7 BK204 BK211 HB hHeld ⊢
         refine pure_ (i := 0) (N := some 88) (v := ?_) (a' := ?_) mk_39_1 rfl rfl (any_of HT_.out (by kernel_rfl)) (fun _ _ _ h => h) (Or.inl ⟨by rfl, ?_⟩) ?_ ?_
         rotate_left
         ·intro w'
          go_simp
          with_reducible rfl
         rotate_left
         ·simp only [Act.put, List.setIfInBounds_toArray, List.set_cons_zero, List.set_cons_succ, i64_w, i32_w]
          rfl
         refine pure_ (i := 1) (N := some 89) (v := ?_) (a' := ?_) mk_39_2 rfl rfl (any_of HT_.out (by kernel_rfl)) (fun _ _ _ h => h) (Or.inl ⟨by rfl, ?_⟩) ?_ ?_
         rotate_left
         ·intro w'
          go_simp
          with_reducible rfl
         rotate_left
         ·simp only [Act.put, List.setIfInBounds_toArray, List.set_cons_zero, List.set_cons_succ, i64_w, i32_w]
          rfl
         refine pure_ (i := 2) (N := some 90) (v := ?_) (a' := ?_) mk_39_3 rfl rfl (any_of HT_.out (by kernel_rfl)) (fun _ _ _ h => h) (Or.inl ⟨by rfl, ?_⟩) ?_ ?_
         rotate_left
         ·intro w'
          go_simp
          with_reducible rfl
         rotate_left
         ·simp only [Act.put, List.setIfInBounds_toArray, List.set_cons_zero, List.set_cons_succ, i64_w, i32_w]
          rfl
         refine pure_ (i := 3) (N := some 91) (v := ?_) (a' := ?_) mk_39_4 rfl rfl (any_of HT_.out (by kernel_rfl)) (fun _ _ _ h => h) (Or.inl ⟨by rfl, ?_⟩) ?_ ?_
         rotate_left
         ·intro w'
          go_simp
          with_reducible rfl
         rotate_left
         ·simp only [Act.put, List.setIfInBounds_toArray, List.set_cons_zero, List.set_cons_succ, i64_w, i32_w]
          rfl
         refine pure_ (i := 4) (N := some 92) (v := ?_) (a' := ?_) mk_39_5 rfl rfl (any_of HT_.out (by kernel_rfl)) (fun _ _ _ h => h) (Or.inl ⟨by rfl, ?_⟩) ?_ ?_
         rotate_left
         ·intro w'
          go_simp
          with_reducible rfl
         rotate_left
         ·simp only [Act.put, List.setIfInBounds_toArray, List.set_cons_zero, List.set_cons_succ, i64_w, i32_w]
          rfl
         refine pure_ (i := 5) (N := some 93) (v := ?_) (a' := ?_) mk_39_6 rfl rfl (any_of HT_.out (by kernel_rfl)) (fun _ _ _ h => h) (Or.inl ⟨by rfl, ?_⟩) ?_ ?_
         rotate_left
         ·intro w'
          go_simp
          with_reducible rfl
         rotate_left
         ·simp only [Act.put, List.setIfInBounds_toArray, List.set_cons_zero, List.set_cons_succ, i64_w, i32_w]
          rfl
         refine pure_ (i := 6) (N := some 94) (v := ?_) (a' := ?_) mk_39_7 rfl rfl (any_of HT_.out (by kernel_rfl)) (fun _ _ _ h => h) (Or.inl ⟨by rfl, ?_⟩) ?_ ?_
         rotate_left
         ·intro w'
          go_simp
          with_reducible rfl
         rotate_left
         ·simp only [Act.put, List.setIfInBounds_toArray, List.set_cons_zero, List.set_cons_succ, i64_w, i32_w]
          rfl
         refine pure_ (i := 7) (N := some 95) (v := undef) (a' := ?_) mk_39_8 rfl rfl (any_of HT_.out (by kernel_rfl)) (fun _ _ _ h => h) (Or.inr ⟨by rfl, rfl⟩) ?_ ?_
         rotate_left
         ·simp only [Act.put, List.setIfInBounds_toArray, List.set_cons_zero, List.set_cons_succ, i64_w, i32_w]
          rfl
         refine pure_ (i := 8) (N := some 96) (v := undef) (a' := ?_) mk_39_9 rfl rfl (any_of HT_.out (by kernel_rfl)) (fun _ _ _ h => h) (Or.inr ⟨by rfl, rfl⟩) ?_ ?_
         rotate_left
         ·simp only [Act.put, List.setIfInBounds_toArray, List.set_cons_zero, List.set_cons_succ, i64_w, i32_w]
          rfl
         refine pure_ (i := 9) (N := some 97) (v := undef) (a' := ?_) mk_39_10 rfl rfl (any_of HT_.out (by kernel_rfl)) (fun _ _ _ h => h) (Or.inr ⟨by rfl, rfl⟩) ?_ ?_
         rotate_left
         ·simp only [Act.put, List.setIfInBounds_toArray, List.set_cons_zero, List.set_cons_succ, i64_w, i32_w]
          rfl
         refine pure_ (i := 10) (N := some 98) (v := undef) (a' := ?_) mk_39_11 rfl rfl (any_of HT_.out (by kernel_rfl)) (fun _ _ _ h => h) (Or.inr ⟨by rfl, rfl⟩) ?_ ?_
         rotate_left
         ·simp only [Act.put, List.setIfInBounds_toArray, List.set_cons_zero, List.set_cons_succ, i64_w, i32_w]
          rfl
         refine pure_ (i := 11) (N := some 99) (v := undef) (a' := ?_) mk_39_12 rfl rfl (any_of HT_.out (by kernel_rfl)) (fun _ _ _ h => h) (Or.inr ⟨by rfl, rfl⟩) ?_ ?_
         rotate_left
         ·simp only [Act.put, List.setIfInBounds_toArray, List.set_cons_zero, List.set_cons_succ, i64_w, i32_w]
          rfl
         refine pure_ (i := 12) (N := some 100) (v := undef) (a' := ?_) mk_39_13 rfl rfl (any_of HT_.out (by kernel_rfl)) (fun _ _ _ h => h) (Or.inr ⟨by rfl, rfl⟩) ?_ ?_
         rotate_left
         ·simp only [Act.put, List.setIfInBounds_toArray, List.set_cons_zero, List.set_cons_succ, i64_w, i32_w]
          rfl
         refine pure_ (i := 13) (N := some 101) (v := undef) (a' := ?_) mk_39_14 rfl rfl (any_of HT_.out (by kernel_rfl)) (fun _ _ _ h => h) (Or.inr ⟨by rfl, rfl⟩) ?_ ?_
         rotate_left
         ·simp only [Act.put, List.setIfInBounds_toArray, List.set_cons_zero, List.set_cons_succ, i64_w, i32_w]
          rfl
         refine pure_ (i := 14) (N := some 102) (v := undef) (a' := ?_) mk_39_15 rfl rfl (any_of HT_.out (by kernel_rfl)) (fun _ _ _ h => h) (Or.inr ⟨by rfl, rfl⟩) ?_ ?_
         rotate_left
         ·simp only [Act.put, List.setIfInBounds_toArray, List.set_cons_zero, List.set_cons_succ, i64_w, i32_w]
          rfl
         refine pure_ (i := 15) (N := some 103) (v := ?_) (a' := ?_) mk_39_16 rfl rfl (any_of HT_.out (by kernel_rfl)) (fun _ _ _ h => h) (Or.inl ⟨by rfl, ?_⟩) ?_ ?_
         rotate_left
         ·intro w'
          go_simp
          with_reducible rfl
         rotate_left
         ·simp only [Act.put, List.setIfInBounds_toArray, List.set_cons_zero, List.set_cons_succ, i64_w, i32_w]
          rfl
         refine pure_ (i := 16) (N := some 104) (v := ?_) (a' := ?_) mk_39_17 rfl rfl (any_of HT_.out (by kernel_rfl)) (fun _ _ _ h => h) (Or.inl ⟨by rfl, ?_⟩) ?_ ?_
         rotate_left
         ·intro w'
          go_simp
          with_reducible rfl
         rotate_left
         ·simp only [Act.put, List.setIfInBounds_toArray, List.set_cons_zero, List.set_cons_succ, i64_w, i32_w]
          rfl
         refine pure_ (i := 17) (N := some 105) (v := undef) (a' := ?_) mk_39_18 rfl rfl (any_of HT_.out (by kernel_rfl)) (fun _ _ _ h => h) (Or.inr ⟨by rfl, rfl⟩) ?_ ?_
         rotate_left
         ·simp only [Act.put, List.setIfInBounds_toArray, List.set_cons_zero, List.set_cons_succ, i64_w, i32_w]
          rfl
         refine pure_ (i := 18) (N := some 106) (v := undef) (a' := ?_) mk_39_19 rfl rfl (any_of HT_.out (by kernel_rfl)) (fun _ _ _ h => h) (Or.inr ⟨by rfl, rfl⟩) ?_ ?_
         rotate_left
         ·simp only [Act.put, List.setIfInBounds_toArray, List.set_cons_zero, List.set_cons_succ, i64_w, i32_w]
          rfl
         refine pure_ (i := 19) (N := some 107) (v := undef) (a' := ?_) mk_39_20 rfl rfl (any_of HT_.out (by kernel_rfl)) (fun _ _ _ h => h) (Or.inr ⟨by rfl, rfl⟩) ?_ ?_
         rotate_left
         ·simp only [Act.put, List.setIfInBounds_toArray, List.set_cons_zero, List.set_cons_succ, i64_w, i32_w]
          rfl
         refine pure_ (i := 20) (N := some 108) (v := undef) (a' := ?_) mk_39_21 rfl rfl (any_of HT_.out (by kernel_rfl)) (fun _ _ _ h => h) (Or.inr ⟨by rfl, rfl⟩) ?_ ?_
         rotate_left
         ·simp only [Act.put, List.setIfInBounds_toArray, List.set_cons_zero, List.set_cons_succ, i64_w, i32_w]
          rfl
         refine pure_ (i := 21) (N := some 109) (v := undef) (a' := ?_) mk_39_22 rfl rfl (any_of HT_.out (by kernel_rfl)) (fun _ _ _ h => h) (Or.inr ⟨by rfl, rfl⟩) ?_ ?_
         rotate_left
         ·simp only [Act.put, List.setIfInBounds_toArray, List.set_cons_zero, List.set_cons_succ, i64_w, i32_w]
          rfl
         refine pure_ (i := 22) (N := some 110) (v := undef) (a' := ?_) mk_39_23 rfl rfl (any_of HT_.out (by kernel_rfl)) (fun _ _ _ h => h) (Or.inr ⟨by rfl, rfl⟩) ?_ ?_
         rotate_left
         ·simp only [Act.put, List.setIfInBounds_toArray, List.set_cons_zero, List.set_cons_succ, i64_w, i32_w]
          rfl
         refine pure_ (i := 23) (N := some 111) (v := undef) (a' := ?_) mk_39_24 rfl rfl (any_of HT_.out (by kernel_rfl)) (fun _ _ _ h => h) (Or.inr ⟨by rfl, rfl⟩) ?_ ?_
         rotate_left
         ·simp only [Act.put, List.setIfInBounds_toArray, List.set_cons_zero, List.set_cons_succ, i64_w, i32_w]
          rfl
         refine pure_ (i := 24) (N := some 112) (v := undef) (a' := ?_) mk_39_25 rfl rfl (any_of HT_.out (by kernel_rfl)) (fun _ _ _ h => h) (Or.inr ⟨by rfl, rfl⟩) ?_ ?_
         rotate_left
         ·simp only [Act.put, List.setIfInBounds_toArray, List.set_cons_zero, List.set_cons_succ, i64_w, i32_w]
          rfl
         refine pure_ (i := 25) (N := some 113) (v := undef) (a' := ?_) mk_39_26 rfl rfl (any_of HT_.out (by kernel_rfl)) (fun _ _ _ h => h) (Or.inr ⟨by rfl, rfl⟩) ?_ ?_
         rotate_left
         ·simp only [Act.put, List.setIfInBounds_toArray, List.set_cons_zero, List.set_cons_succ, i64_w, i32_w]
          rfl
         refine pure_ (i := 26) (N := some 114) (v := undef) (a' := ?_) mk_39_27 rfl rfl (any_of HT_.out (by kernel_rfl)) (fun _ _ _ h => h) (Or.inr ⟨by rfl, rfl⟩) ?_ ?_
         rotate_left
         ·simp only [Act.put, List.setIfInBounds_toArray, List.set_cons_zero, List.set_cons_succ, i64_w, i32_w]
          rfl
         refine pure_ (i := 27) (N := some 115) (v := undef) (a' := ?_) mk_39_28 rfl rfl (any_of HT_.out (by kernel_rfl)) (fun _ _ _ h => h) (Or.inr ⟨by rfl, rfl⟩) ?_ ?_
         rotate_left
         ·simp only [Act.put, List.setIfInBounds_toArray, List.set_cons_zero, List.set_cons_succ, i64_w, i32_w]
          rfl
         refine pure_ (i := 28) (N := some 116) (v := undef) (a' := ?_) mk_39_29 rfl rfl (any_of HT_.out (by kernel_rfl)) (fun _ _ _ h => h) (Or.inr ⟨by rfl, rfl⟩) ?_ ?_
         rotate_left
         ·simp only [Act.put, List.setIfInBounds_toArray, List.set_cons_zero, List.set_cons_succ, i64_w, i32_w]
          rfl
         refine pure_ (i := 29) (N := some 117) (v := undef) (a' := ?_) mk_39_30 rfl rfl (any_of HT_.out (by kernel_rfl)) (fun _ _ _ h => h) (Or.inr ⟨by rfl, rfl⟩) ?_ ?_
         rotate_left
         ·simp only [Act.put, List.setIfInBounds_toArray, List.set_cons_zero, List.set_cons_succ, i64_w, i32_w]
          rfl
         refine pure_ (i := 30) (N := some 118) (v := undef) (a' := ?_) mk_39_31 rfl rfl (any_of HT_.out (by kernel_rfl)) (fun _ _ _ h => h) (Or.inr ⟨by rfl, rfl⟩) ?_ ?_
         rotate_left
         ·simp only [Act.put, List.setIfInBounds_toArray, List.set_cons_zero, List.set_cons_succ, i64_w, i32_w]
          rfl
         refine pure_ (i := 31) (N := some 119) (v := undef) (a' := ?_) mk_39_32 rfl rfl (any_of HT_.out (by kernel_rfl)) (fun _ _ _ h => h) (Or.inr ⟨by rfl, rfl⟩) ?_ ?_
         rotate_left
         ·simp only [Act.put, List.setIfInBounds_toArray, List.set_cons_zero, List.set_cons_succ, i64_w, i32_w]
          rfl
         refine pure_ (i := 32) (N := some 120) (v := undef) (a' := ?_) mk_39_33 rfl rfl (any_of HT_.out (by kernel_rfl)) (fun _ _ _ h => h) (Or.inr ⟨by rfl, rfl⟩) ?_ ?_
         rotate_left
         ·simp only [Act.put, List.setIfInBounds_toArray, List.set_cons_zero, List.set_cons_succ, i64_w, i32_w]
          rfl
         refine pure_ (i := 33) (N := some 121) (v := undef) (a' := ?_) mk_39_34 rfl rfl (any_of HT_.out (by kernel_rfl)) (fun _ _ _ h => h) (Or.inr ⟨by rfl, rfl⟩) ?_ ?_
         rotate_left
         ·simp only [Act.put, List.setIfInBounds_toArray, List.set_cons_zero, List.set_cons_succ, i64_w, i32_w]
          rfl
         refine pure_ (i := 34) (N := some 122) (v := undef) (a' := ?_) mk_39_35 rfl rfl (any_of HT_.out (by kernel_rfl)) (fun _ _ _ h => h) (Or.inr ⟨by rfl, rfl⟩) ?_ ?_
         rotate_left
         ·simp only [Act.put, List.setIfInBounds_toArray, List.set_cons_zero, List.set_cons_succ, i64_w, i32_w]
          rfl
         refine pure_ (i := 35) (N := some 123) (v := undef) (a' := ?_) mk_39_36 rfl rfl (any_of HT_.out (by kernel_rfl)) (fun _ _ _ h => h) (Or.inr ⟨by rfl, rfl⟩) ?_ ?_
         rotate_left
         ·simp only [Act.put, List.setIfInBounds_toArray, List.set_cons_zero, List.set_cons_succ, i64_w, i32_w]
          rfl
         refine pure_ (i := 36) (N := some 124) (v := undef) (a' := ?_) mk_39_37 rfl rfl (any_of HT_.out (by kernel_rfl)) (fun _ _ _ h => h) (Or.inr ⟨by rfl, rfl⟩) ?_ ?_
         rotate_left
         ·simp only [Act.put, List.setIfInBounds_toArray, List.set_cons_zero, List.set_cons_succ, i64_w, i32_w]
          rfl
         refine pure_ (i := 37) (N := some 125) (v := undef) (a' := ?_) mk_39_38 rfl rfl (any_of HT_.out (by kernel_rfl)) (fun _ _ _ h => h) (Or.inr ⟨by rfl, rfl⟩) ?_ ?_
         rotate_left
         ·simp only [Act.put, List.setIfInBounds_toArray, List.set_cons_zero, List.set_cons_succ, i64_w, i32_w]
          rfl
         refine pure_ (i := 38) (N := some 126) (v := ?_) (a' := ?_) mk_39_39 rfl rfl (any_of HT_.out (by kernel_rfl)) (fun _ _ _ h => h) (Or.inl ⟨by rfl, ?_⟩) ?_ ?_
         rotate_left
         ·intro w'
          go_simp
          with_reducible rfl
         rotate_left
         ·simp only [Act.put, List.setIfInBounds_toArray, List.set_cons_zero, List.set_cons_succ, i64_w, i32_w]
          rfl
         refine done_ (done_of HT_.out (by kernel_rfl)) ?_
         try go_wp2
         go_roundg k4
         case measure => have := HJ8.out; have := HK2.out; have := HK3.out; have := HK4.out; omega
         case rel => exact ⟨(wrap64 (x12_4 + 1)), (by first | rfl | (simp; done) | (simp [*]; done)), H', ⟨by have := HJ8.out; have := HK2.out; have := HK3.out; have := HK4.out; omega⟩, ⟨by (with_reducible repeat (first | apply Kd.S_alloc | apply Kd.S_drewN | apply Kd.S_drew)); exact HO_7.out⟩, ⟨by (with_reducible repeat (first | refine blk_drewN ?_ _ | refine blk_drew ?_ | refine blk_alloc ?_ _)); exact BK204.out⟩, ⟨by (with_reducible repeat (first | refine blk_drewN ?_ _ | refine blk_drew ?_ | refine blk_alloc ?_ _)); exact BK211.out⟩, ⟨by repeat (first | (with_reducible first | exact HB.out | apply below_alloc | apply pw_below_drewN | apply below_drew1 | refine below_set ?_ GE204.out | refine below_set ?_ GE211.out) | exact HB.out)⟩⟩
     ·rw [if_neg c64] at H
      exact absurd H (by simp)
    ·rw [if_neg c63] at H
     exact absurd H (by simp)
  ·rw [if_neg c29] at H
   have c29b0 : decide (x12_4 ≤ 4) = false := decide_eq_false c29
   clear c29
   focus
    have H' := Aside0.mk H
    clear H
    go_wp2
    go_roundg k4
    case measure => have := HJ8.out; have := HK2.out; have := HK3.out; have := HK4.out; omega
    case rel => exact ⟨(wrap64 (x11_3 + 1)), (by first | rfl | (simp; done) | (simp [*]; done)), H', ⟨by have := HJ8.out; have := HK2.out; have := HK3.out; have := HK4.out; omega⟩, ⟨by (with_reducible repeat (first | apply Kd.S_alloc | apply Kd.S_drewN | apply Kd.S_drew)); exact HO_7.out⟩, ⟨by (with_reducible repeat (first | refine blk_drewN ?_ _ | refine blk_drew ?_ | refine blk_alloc ?_ _)); exact BK204.out⟩, ⟨by (with_reducible repeat (first | refine blk_drewN ?_ _ | refine blk_drew ?_ | refine blk_alloc ?_ _)); exact BK211.out⟩, ⟨by repeat (first | (with_reducible first | exact HB.out | apply below_alloc | apply pw_below_drewN | apply below_drew1 | refine below_set ?_ GE204.out | refine below_set ?_ GE211.out) | exact HB.out)⟩⟩
end Go.Proofs.Ytjbejbehbjhecaa.Q21n
