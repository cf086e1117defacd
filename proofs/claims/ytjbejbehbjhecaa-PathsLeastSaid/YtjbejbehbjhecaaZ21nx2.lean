/- Written by a program of this session (out of what the print wrote for this seat): the functions' walks, packed. -/
import Derived.Test.YtjbejbehbjhecaaZ21nx1
namespace Go.Proofs.Ytjbejbehbjhecaa.Q21n
open Go.RowKit Go.Proofs.YtjbejbehbjhecaaW.PrintWords Go.Proofs.YtjbejbehbjhecaaW.PrintLast Go.Proofs.YtjbejbehbjhecaaW.PrintMore
attribute [local go_sem] max2_int min2_int max_two min_two max_three min_three max_four min_four   -- for this text's walks alone
set_option linter.unusedVariables false
set_option linter.unusedSimpArgs false

/-! ### watchwordlaw21_ways: function 19 -/
mutual
def watchwordlaw21_ways.l0 : Nat → Int → Int → Int → Int → Int → Int → Int → Int → Int → Int → Int → Int → Int → Int → Int → Int → Int → Int → Int → Int → Int → Int → Bool → Bool → Bool → Bool → Bool → Bool → Bool → Bool → Bool → Bool → Bool → Bool → Bool → Bool → Bool → Bool → Option (Int × Int × Int × Int × Bool × Bool × Bool × Bool × Bool × Bool × Bool × Bool × Bool × Bool × Bool × Bool × Bool × Bool × Bool × Bool)
 | 0, _, _, _, _, _, _, _, _, _, _, _, _, _, _, _, _, _, _, _, _, _, _, _, _, _, _, _, _, _, _, _, _, _, _, _, _, _, _ => none
 | k + 1, x1, x8, x165000, x165001, x165002, x165003, x165004, x165005, x165006, x165007, x165008, x165009, x165010, x165011, x165012, x165013, x165014, x165015, x168000, x168001, x168002, x168003, x169000, x169001, x169002, x169003, x169004, x169005, x169006, x169007, x169008, x169009, x169010, x169011, x169012, x169013, x169014, x169015 => if x8 < 4 then (if 0 ≤ x8 then (watchwordlaw21_ways.l0 k x1 (wrap64 (x8 + 1)) x165000 x165001 x165002 x165003 x165004 x165005 x165006 x165007 x165008 x165009 x165010 x165011 x165012 x165013 x165014 x165015 (up (x8 == 0) (-1) x168000) (up (x8 == 1) (-1) x168001) (up (x8 == 2) (-1) x168002) (up (x8 == 3) (-1) x168003) x169000 x169001 x169002 x169003 x169004 x169005 x169006 x169007 x169008 x169009 x169010 x169011 x169012 x169013 x169014 x169015) else (none)) else (watchwordlaw21_ways.l1 k x1 0 x165000 x165001 x165002 x165003 x165004 x165005 x165006 x165007 x165008 x165009 x165010 x165011 x165012 x165013 x165014 x165015 x168000 x168001 x168002 x168003 x169000 x169001 x169002 x169003 x169004 x169005 x169006 x169007 x169008 x169009 x169010 x169011 x169012 x169013 x169014 x169015)
def watchwordlaw21_ways.l1 : Nat → Int → Int → Int → Int → Int → Int → Int → Int → Int → Int → Int → Int → Int → Int → Int → Int → Int → Int → Int → Int → Int → Int → Bool → Bool → Bool → Bool → Bool → Bool → Bool → Bool → Bool → Bool → Bool → Bool → Bool → Bool → Bool → Bool → Option (Int × Int × Int × Int × Bool × Bool × Bool × Bool × Bool × Bool × Bool × Bool × Bool × Bool × Bool × Bool × Bool × Bool × Bool × Bool)
 | 0, _, _, _, _, _, _, _, _, _, _, _, _, _, _, _, _, _, _, _, _, _, _, _, _, _, _, _, _, _, _, _, _, _, _, _, _, _, _ => none
 | k + 1, x1, x9, x165000, x165001, x165002, x165003, x165004, x165005, x165006, x165007, x165008, x165009, x165010, x165011, x165012, x165013, x165014, x165015, x168000, x168001, x168002, x168003, x169000, x169001, x169002, x169003, x169004, x169005, x169006, x169007, x169008, x169009, x169010, x169011, x169012, x169013, x169014, x169015 => if x9 < 64 then (if (Go.bits .and .i64 x9 3) = x1 then (watchwordlaw21_ways.j2 k x1 x9 (Go.bits .and .i64 x9 3) (Go.bits .and .i64 (x9 / 4) 3) (x9 / 16) true x165000 x165001 x165002 x165003 x165004 x165005 x165006 x165007 x165008 x165009 x165010 x165011 x165012 x165013 x165014 x165015 x168000 x168001 x168002 x168003 x169000 x169001 x169002 x169003 x169004 x169005 x169006 x169007 x169008 x169009 x169010 x169011 x169012 x169013 x169014 x169015) else (if 0 ≤ x1 then (if x1 < 4 then (if 0 ≤ (Go.bits .and .i64 x9 3) then (if (Go.bits .and .i64 x9 3) < 4 then (if (ix4 (ix4 x165000 x165001 x165002 x165003 (Go.bits .and .i64 x9 3)) (ix4 x165004 x165005 x165006 x165007 (Go.bits .and .i64 x9 3)) (ix4 x165008 x165009 x165010 x165011 (Go.bits .and .i64 x9 3)) (ix4 x165012 x165013 x165014 x165015 (Go.bits .and .i64 x9 3)) x1) ≤ 0 then (watchwordlaw21_ways.j2 k x1 x9 (Go.bits .and .i64 x9 3) (Go.bits .and .i64 (x9 / 4) 3) (x9 / 16) true x165000 x165001 x165002 x165003 x165004 x165005 x165006 x165007 x165008 x165009 x165010 x165011 x165012 x165013 x165014 x165015 x168000 x168001 x168002 x168003 x169000 x169001 x169002 x169003 x169004 x169005 x169006 x169007 x169008 x169009 x169010 x169011 x169012 x169013 x169014 x169015) else (if (Go.bits .and .i64 (x9 / 4) 3) = (Go.bits .and .i64 x9 3) then (if (x9 / 16) = (Go.bits .and .i64 (x9 / 4) 3) then (watchwordlaw21_ways.j2 k x1 x9 (Go.bits .and .i64 x9 3) (Go.bits .and .i64 (x9 / 4) 3) (x9 / 16) false x165000 x165001 x165002 x165003 x165004 x165005 x165006 x165007 x165008 x165009 x165010 x165011 x165012 x165013 x165014 x165015 x168000 x168001 x168002 x168003 x169000 x169001 x169002 x169003 x169004 x169005 x169006 x169007 x169008 x169009 x169010 x169011 x169012 x169013 x169014 x169015) else (if 0 ≤ (Go.bits .and .i64 (x9 / 4) 3) then (if (Go.bits .and .i64 (x9 / 4) 3) < 4 then (if 0 ≤ (x9 / 16) then (if (x9 / 16) < 4 then (watchwordlaw21_ways.j2 k x1 x9 (Go.bits .and .i64 x9 3) (Go.bits .and .i64 (x9 / 4) 3) (x9 / 16) (decide ((ix4 (ix4 x165000 x165001 x165002 x165003 (x9 / 16)) (ix4 x165004 x165005 x165006 x165007 (x9 / 16)) (ix4 x165008 x165009 x165010 x165011 (x9 / 16)) (ix4 x165012 x165013 x165014 x165015 (x9 / 16)) (Go.bits .and .i64 (x9 / 4) 3)) ≤ 0)) x165000 x165001 x165002 x165003 x165004 x165005 x165006 x165007 x165008 x165009 x165010 x165011 x165012 x165013 x165014 x165015 x168000 x168001 x168002 x168003 x169000 x169001 x169002 x169003 x169004 x169005 x169006 x169007 x169008 x169009 x169010 x169011 x169012 x169013 x169014 x169015) else (none)) else (none)) else (none)) else (none))) else (if 0 ≤ (Go.bits .and .i64 (x9 / 4) 3) then (if (Go.bits .and .i64 (x9 / 4) 3) < 4 then (if (ix4 (ix4 x165000 x165001 x165002 x165003 (Go.bits .and .i64 (x9 / 4) 3)) (ix4 x165004 x165005 x165006 x165007 (Go.bits .and .i64 (x9 / 4) 3)) (ix4 x165008 x165009 x165010 x165011 (Go.bits .and .i64 (x9 / 4) 3)) (ix4 x165012 x165013 x165014 x165015 (Go.bits .and .i64 (x9 / 4) 3)) (Go.bits .and .i64 x9 3)) ≤ 0 then (watchwordlaw21_ways.j2 k x1 x9 (Go.bits .and .i64 x9 3) (Go.bits .and .i64 (x9 / 4) 3) (x9 / 16) true x165000 x165001 x165002 x165003 x165004 x165005 x165006 x165007 x165008 x165009 x165010 x165011 x165012 x165013 x165014 x165015 x168000 x168001 x168002 x168003 x169000 x169001 x169002 x169003 x169004 x169005 x169006 x169007 x169008 x169009 x169010 x169011 x169012 x169013 x169014 x169015) else (if (x9 / 16) = (Go.bits .and .i64 (x9 / 4) 3) then (watchwordlaw21_ways.j2 k x1 x9 (Go.bits .and .i64 x9 3) (Go.bits .and .i64 (x9 / 4) 3) (x9 / 16) false x165000 x165001 x165002 x165003 x165004 x165005 x165006 x165007 x165008 x165009 x165010 x165011 x165012 x165013 x165014 x165015 x168000 x168001 x168002 x168003 x169000 x169001 x169002 x169003 x169004 x169005 x169006 x169007 x169008 x169009 x169010 x169011 x169012 x169013 x169014 x169015) else (if 0 ≤ (x9 / 16) then (if (x9 / 16) < 4 then (watchwordlaw21_ways.j2 k x1 x9 (Go.bits .and .i64 x9 3) (Go.bits .and .i64 (x9 / 4) 3) (x9 / 16) (decide ((ix4 (ix4 x165000 x165001 x165002 x165003 (x9 / 16)) (ix4 x165004 x165005 x165006 x165007 (x9 / 16)) (ix4 x165008 x165009 x165010 x165011 (x9 / 16)) (ix4 x165012 x165013 x165014 x165015 (x9 / 16)) (Go.bits .and .i64 (x9 / 4) 3)) ≤ 0)) x165000 x165001 x165002 x165003 x165004 x165005 x165006 x165007 x165008 x165009 x165010 x165011 x165012 x165013 x165014 x165015 x168000 x168001 x168002 x168003 x169000 x169001 x169002 x169003 x169004 x169005 x169006 x169007 x169008 x169009 x169010 x169011 x169012 x169013 x169014 x169015) else (none)) else (none)))) else (none)) else (none)))) else (none)) else (none)) else (none)) else (none))) else (some (x168000, x168001, x168002, x168003, x169000, x169001, x169002, x169003, x169004, x169005, x169006, x169007, x169008, x169009, x169010, x169011, x169012, x169013, x169014, x169015))
def watchwordlaw21_ways.j2 : Nat → Int → Int → Int → Int → Int → Bool → Int → Int → Int → Int → Int → Int → Int → Int → Int → Int → Int → Int → Int → Int → Int → Int → Int → Int → Int → Int → Bool → Bool → Bool → Bool → Bool → Bool → Bool → Bool → Bool → Bool → Bool → Bool → Bool → Bool → Bool → Bool → Option (Int × Int × Int × Int × Bool × Bool × Bool × Bool × Bool × Bool × Bool × Bool × Bool × Bool × Bool × Bool × Bool × Bool × Bool × Bool)
 | 0, _, _, _, _, _, _, _, _, _, _, _, _, _, _, _, _, _, _, _, _, _, _, _, _, _, _, _, _, _, _, _, _, _, _, _, _, _, _, _, _, _, _ => none
 | k + 1, x1, x9, x10, x11, x12, x67, x165000, x165001, x165002, x165003, x165004, x165005, x165006, x165007, x165008, x165009, x165010, x165011, x165012, x165013, x165014, x165015, x168000, x168001, x168002, x168003, x169000, x169001, x169002, x169003, x169004, x169005, x169006, x169007, x169008, x169009, x169010, x169011, x169012, x169013, x169014, x169015 => if x67 = true then (watchwordlaw21_ways.l1 k x1 (wrap64 (x9 + 1)) x165000 x165001 x165002 x165003 x165004 x165005 x165006 x165007 x165008 x165009 x165010 x165011 x165012 x165013 x165014 x165015 x168000 x168001 x168002 x168003 x169000 x169001 x169002 x169003 x169004 x169005 x169006 x169007 x169008 x169009 x169010 x169011 x169012 x169013 x169014 x169015) else (if 0 ≤ x1 then (if x1 < 4 then (if 0 ≤ x10 then (if x10 < 4 then (if x11 = x10 then (watchwordlaw21_ways.j3 k x1 x9 x10 x11 x12 (ix4 (ix4 x165000 x165001 x165002 x165003 x10) (ix4 x165004 x165005 x165006 x165007 x10) (ix4 x165008 x165009 x165010 x165011 x10) (ix4 x165012 x165013 x165014 x165015 x10) x1) x165000 x165001 x165002 x165003 x165004 x165005 x165006 x165007 x165008 x165009 x165010 x165011 x165012 x165013 x165014 x165015 x168000 x168001 x168002 x168003 x169000 x169001 x169002 x169003 x169004 x169005 x169006 x169007 x169008 x169009 x169010 x169011 x169012 x169013 x169014 x169015) else (if 0 ≤ x11 then (if x11 < 4 then (watchwordlaw21_ways.j3 k x1 x9 x10 x11 x12 (wrap64 ((ix4 (ix4 x165000 x165001 x165002 x165003 x10) (ix4 x165004 x165005 x165006 x165007 x10) (ix4 x165008 x165009 x165010 x165011 x10) (ix4 x165012 x165013 x165014 x165015 x10) x1) + (ix4 (ix4 x165000 x165001 x165002 x165003 x11) (ix4 x165004 x165005 x165006 x165007 x11) (ix4 x165008 x165009 x165010 x165011 x11) (ix4 x165012 x165013 x165014 x165015 x11) x10))) x165000 x165001 x165002 x165003 x165004 x165005 x165006 x165007 x165008 x165009 x165010 x165011 x165012 x165013 x165014 x165015 x168000 x168001 x168002 x168003 x169000 x169001 x169002 x169003 x169004 x169005 x169006 x169007 x169008 x169009 x169010 x169011 x169012 x169013 x169014 x169015) else (none)) else (none))) else (none)) else (none)) else (none)) else (none))
def watchwordlaw21_ways.j3 : Nat → Int → Int → Int → Int → Int → Int → Int → Int → Int → Int → Int → Int → Int → Int → Int → Int → Int → Int → Int → Int → Int → Int → Int → Int → Int → Int → Bool → Bool → Bool → Bool → Bool → Bool → Bool → Bool → Bool → Bool → Bool → Bool → Bool → Bool → Bool → Bool → Option (Int × Int × Int × Int × Bool × Bool × Bool × Bool × Bool × Bool × Bool × Bool × Bool × Bool × Bool × Bool × Bool × Bool × Bool × Bool)
 | 0, _, _, _, _, _, _, _, _, _, _, _, _, _, _, _, _, _, _, _, _, _, _, _, _, _, _, _, _, _, _, _, _, _, _, _, _, _, _, _, _, _, _ => none
 | k + 1, x1, x9, x10, x11, x12, x13, x165000, x165001, x165002, x165003, x165004, x165005, x165006, x165007, x165008, x165009, x165010, x165011, x165012, x165013, x165014, x165015, x168000, x168001, x168002, x168003, x169000, x169001, x169002, x169003, x169004, x169005, x169006, x169007, x169008, x169009, x169010, x169011, x169012, x169013, x169014, x169015 => if x12 = x11 then (watchwordlaw21_ways.j4 k x1 x9 x10 x12 x13 x165000 x165001 x165002 x165003 x165004 x165005 x165006 x165007 x165008 x165009 x165010 x165011 x165012 x165013 x165014 x165015 x168000 x168001 x168002 x168003 x169000 x169001 x169002 x169003 x169004 x169005 x169006 x169007 x169008 x169009 x169010 x169011 x169012 x169013 x169014 x169015) else (if 0 ≤ x11 then (if x11 < 4 then (if 0 ≤ x12 then (if x12 < 4 then (watchwordlaw21_ways.j4 k x1 x9 x10 x12 (wrap64 (x13 + (ix4 (ix4 x165000 x165001 x165002 x165003 x12) (ix4 x165004 x165005 x165006 x165007 x12) (ix4 x165008 x165009 x165010 x165011 x12) (ix4 x165012 x165013 x165014 x165015 x12) x11))) x165000 x165001 x165002 x165003 x165004 x165005 x165006 x165007 x165008 x165009 x165010 x165011 x165012 x165013 x165014 x165015 x168000 x168001 x168002 x168003 x169000 x169001 x169002 x169003 x169004 x169005 x169006 x169007 x169008 x169009 x169010 x169011 x169012 x169013 x169014 x169015) else (none)) else (none)) else (none)) else (none))
def watchwordlaw21_ways.j4 : Nat → Int → Int → Int → Int → Int → Int → Int → Int → Int → Int → Int → Int → Int → Int → Int → Int → Int → Int → Int → Int → Int → Int → Int → Int → Int → Bool → Bool → Bool → Bool → Bool → Bool → Bool → Bool → Bool → Bool → Bool → Bool → Bool → Bool → Bool → Bool → Option (Int × Int × Int × Int × Bool × Bool × Bool × Bool × Bool × Bool × Bool × Bool × Bool × Bool × Bool × Bool × Bool × Bool × Bool × Bool)
 | 0, _, _, _, _, _, _, _, _, _, _, _, _, _, _, _, _, _, _, _, _, _, _, _, _, _, _, _, _, _, _, _, _, _, _, _, _, _, _, _, _, _ => none
 | k + 1, x1, x9, x10, x12, x13, x165000, x165001, x165002, x165003, x165004, x165005, x165006, x165007, x165008, x165009, x165010, x165011, x165012, x165013, x165014, x165015, x168000, x168001, x168002, x168003, x169000, x169001, x169002, x169003, x169004, x169005, x169006, x169007, x169008, x169009, x169010, x169011, x169012, x169013, x169014, x169015 => if 0 ≤ x12 then (if x12 < 4 then (if (ix4 x168000 x168001 x168002 x168003 x12) < 0 then (watchwordlaw21_ways.j5 k x1 x9 x10 x12 x13 true x165000 x165001 x165002 x165003 x165004 x165005 x165006 x165007 x165008 x165009 x165010 x165011 x165012 x165013 x165014 x165015 x168000 x168001 x168002 x168003 x169000 x169001 x169002 x169003 x169004 x169005 x169006 x169007 x169008 x169009 x169010 x169011 x169012 x169013 x169014 x169015) else (watchwordlaw21_ways.j5 k x1 x9 x10 x12 x13 (decide (x13 < (ix4 x168000 x168001 x168002 x168003 x12))) x165000 x165001 x165002 x165003 x165004 x165005 x165006 x165007 x165008 x165009 x165010 x165011 x165012 x165013 x165014 x165015 x168000 x168001 x168002 x168003 x169000 x169001 x169002 x169003 x169004 x169005 x169006 x169007 x169008 x169009 x169010 x169011 x169012 x169013 x169014 x169015)) else (none)) else (none)
def watchwordlaw21_ways.j5 : Nat → Int → Int → Int → Int → Int → Bool → Int → Int → Int → Int → Int → Int → Int → Int → Int → Int → Int → Int → Int → Int → Int → Int → Int → Int → Int → Int → Bool → Bool → Bool → Bool → Bool → Bool → Bool → Bool → Bool → Bool → Bool → Bool → Bool → Bool → Bool → Bool → Option (Int × Int × Int × Int × Bool × Bool × Bool × Bool × Bool × Bool × Bool × Bool × Bool × Bool × Bool × Bool × Bool × Bool × Bool × Bool)
 | 0, _, _, _, _, _, _, _, _, _, _, _, _, _, _, _, _, _, _, _, _, _, _, _, _, _, _, _, _, _, _, _, _, _, _, _, _, _, _, _, _, _, _ => none
 | k + 1, x1, x9, x10, x12, x13, x103, x165000, x165001, x165002, x165003, x165004, x165005, x165006, x165007, x165008, x165009, x165010, x165011, x165012, x165013, x165014, x165015, x168000, x168001, x168002, x168003, x169000, x169001, x169002, x169003, x169004, x169005, x169006, x169007, x169008, x169009, x169010, x169011, x169012, x169013, x169014, x169015 => if x103 = true then (if 0 ≤ x12 then (if x12 < 4 then (if x13 = (ix4 (up (x12 == 0) x13 x168000) (up (x12 == 1) x13 x168001) (up (x12 == 2) x13 x168002) (up (x12 == 3) x13 x168003) x12) then (if 0 ≤ x10 then (if x10 < 4 then (watchwordlaw21_ways.l1 k x1 (wrap64 (x9 + 1)) x165000 x165001 x165002 x165003 x165004 x165005 x165006 x165007 x165008 x165009 x165010 x165011 x165012 x165013 x165014 x165015 (up (x12 == 0) x13 x168000) (up (x12 == 1) x13 x168001) (up (x12 == 2) x13 x168002) (up (x12 == 3) x13 x168003) (up (x12 == 0 && x10 == 0) true (up (x12 == 0) false x169000)) (up (x12 == 0 && x10 == 1) true (up (x12 == 0) false x169001)) (up (x12 == 0 && x10 == 2) true (up (x12 == 0) false x169002)) (up (x12 == 0 && x10 == 3) true (up (x12 == 0) false x169003)) (up (x12 == 1 && x10 == 0) true (up (x12 == 1) false x169004)) (up (x12 == 1 && x10 == 1) true (up (x12 == 1) false x169005)) (up (x12 == 1 && x10 == 2) true (up (x12 == 1) false x169006)) (up (x12 == 1 && x10 == 3) true (up (x12 == 1) false x169007)) (up (x12 == 2 && x10 == 0) true (up (x12 == 2) false x169008)) (up (x12 == 2 && x10 == 1) true (up (x12 == 2) false x169009)) (up (x12 == 2 && x10 == 2) true (up (x12 == 2) false x169010)) (up (x12 == 2 && x10 == 3) true (up (x12 == 2) false x169011)) (up (x12 == 3 && x10 == 0) true (up (x12 == 3) false x169012)) (up (x12 == 3 && x10 == 1) true (up (x12 == 3) false x169013)) (up (x12 == 3 && x10 == 2) true (up (x12 == 3) false x169014)) (up (x12 == 3 && x10 == 3) true (up (x12 == 3) false x169015))) else (none)) else (none)) else (watchwordlaw21_ways.l1 k x1 (wrap64 (x9 + 1)) x165000 x165001 x165002 x165003 x165004 x165005 x165006 x165007 x165008 x165009 x165010 x165011 x165012 x165013 x165014 x165015 (up (x12 == 0) x13 x168000) (up (x12 == 1) x13 x168001) (up (x12 == 2) x13 x168002) (up (x12 == 3) x13 x168003) (up (x12 == 0) false x169000) (up (x12 == 0) false x169001) (up (x12 == 0) false x169002) (up (x12 == 0) false x169003) (up (x12 == 1) false x169004) (up (x12 == 1) false x169005) (up (x12 == 1) false x169006) (up (x12 == 1) false x169007) (up (x12 == 2) false x169008) (up (x12 == 2) false x169009) (up (x12 == 2) false x169010) (up (x12 == 2) false x169011) (up (x12 == 3) false x169012) (up (x12 == 3) false x169013) (up (x12 == 3) false x169014) (up (x12 == 3) false x169015))) else (none)) else (none)) else (if 0 ≤ x12 then (if x12 < 4 then (if x13 = (ix4 x168000 x168001 x168002 x168003 x12) then (if 0 ≤ x10 then (if x10 < 4 then (watchwordlaw21_ways.l1 k x1 (wrap64 (x9 + 1)) x165000 x165001 x165002 x165003 x165004 x165005 x165006 x165007 x165008 x165009 x165010 x165011 x165012 x165013 x165014 x165015 x168000 x168001 x168002 x168003 (up (x12 == 0 && x10 == 0) true x169000) (up (x12 == 0 && x10 == 1) true x169001) (up (x12 == 0 && x10 == 2) true x169002) (up (x12 == 0 && x10 == 3) true x169003) (up (x12 == 1 && x10 == 0) true x169004) (up (x12 == 1 && x10 == 1) true x169005) (up (x12 == 1 && x10 == 2) true x169006) (up (x12 == 1 && x10 == 3) true x169007) (up (x12 == 2 && x10 == 0) true x169008) (up (x12 == 2 && x10 == 1) true x169009) (up (x12 == 2 && x10 == 2) true x169010) (up (x12 == 2 && x10 == 3) true x169011) (up (x12 == 3 && x10 == 0) true x169012) (up (x12 == 3 && x10 == 1) true x169013) (up (x12 == 3 && x10 == 2) true x169014) (up (x12 == 3 && x10 == 3) true x169015)) else (none)) else (none)) else (watchwordlaw21_ways.l1 k x1 (wrap64 (x9 + 1)) x165000 x165001 x165002 x165003 x165004 x165005 x165006 x165007 x165008 x165009 x165010 x165011 x165012 x165013 x165014 x165015 x168000 x168001 x168002 x168003 x169000 x169001 x169002 x169003 x169004 x169005 x169006 x169007 x169008 x169009 x169010 x169011 x169012 x169013 x169014 x169015)) else (none)) else (none))
end
def watchwordlaw21_ways.f (k : Nat) (a0_0 : Int) (a0_1 : Int) (a0_2 : Int) (a0_3 : Int) (a0_4 : Int) (a0_5 : Int) (a0_6 : Int) (a0_7 : Int) (a0_8 : Int) (a0_9 : Int) (a0_10 : Int) (a0_11 : Int) (a0_12 : Int) (a0_13 : Int) (a0_14 : Int) (a0_15 : Int) (a1 : Int) : Option (Int × Int × Int × Int × Bool × Bool × Bool × Bool × Bool × Bool × Bool × Bool × Bool × Bool × Bool × Bool × Bool × Bool × Bool × Bool) := watchwordlaw21_ways.l0 k a1 0 a0_0 a0_1 a0_2 a0_3 a0_4 a0_5 a0_6 a0_7 a0_8 a0_9 a0_10 a0_11 a0_12 a0_13 a0_14 a0_15 0 0 0 0 false false false false false false false false false false false false false false false false
theorem watchwordlaw21_ways.mono_l : ∀ k, (∀ y0 y1 y2 y3 y4 y5 y6 y7 y8 y9 y10 y11 y12 y13 y14 y15 y16 y17 y18 y19 y20 y21 y22 y23 y24 y25 y26 y27 y28 y29 y30 y31 y32 y33 y34 y35 y36 y37, LeO (watchwordlaw21_ways.l0 k y0 y1 y2 y3 y4 y5 y6 y7 y8 y9 y10 y11 y12 y13 y14 y15 y16 y17 y18 y19 y20 y21 y22 y23 y24 y25 y26 y27 y28 y29 y30 y31 y32 y33 y34 y35 y36 y37) (watchwordlaw21_ways.l0 (k + 1) y0 y1 y2 y3 y4 y5 y6 y7 y8 y9 y10 y11 y12 y13 y14 y15 y16 y17 y18 y19 y20 y21 y22 y23 y24 y25 y26 y27 y28 y29 y30 y31 y32 y33 y34 y35 y36 y37)) ∧ (∀ y0 y1 y2 y3 y4 y5 y6 y7 y8 y9 y10 y11 y12 y13 y14 y15 y16 y17 y18 y19 y20 y21 y22 y23 y24 y25 y26 y27 y28 y29 y30 y31 y32 y33 y34 y35 y36 y37, LeO (watchwordlaw21_ways.l1 k y0 y1 y2 y3 y4 y5 y6 y7 y8 y9 y10 y11 y12 y13 y14 y15 y16 y17 y18 y19 y20 y21 y22 y23 y24 y25 y26 y27 y28 y29 y30 y31 y32 y33 y34 y35 y36 y37) (watchwordlaw21_ways.l1 (k + 1) y0 y1 y2 y3 y4 y5 y6 y7 y8 y9 y10 y11 y12 y13 y14 y15 y16 y17 y18 y19 y20 y21 y22 y23 y24 y25 y26 y27 y28 y29 y30 y31 y32 y33 y34 y35 y36 y37)) ∧ (∀ y0 y1 y2 y3 y4 y5 y6 y7 y8 y9 y10 y11 y12 y13 y14 y15 y16 y17 y18 y19 y20 y21 y22 y23 y24 y25 y26 y27 y28 y29 y30 y31 y32 y33 y34 y35 y36 y37 y38 y39 y40 y41, LeO (watchwordlaw21_ways.j2 k y0 y1 y2 y3 y4 y5 y6 y7 y8 y9 y10 y11 y12 y13 y14 y15 y16 y17 y18 y19 y20 y21 y22 y23 y24 y25 y26 y27 y28 y29 y30 y31 y32 y33 y34 y35 y36 y37 y38 y39 y40 y41) (watchwordlaw21_ways.j2 (k + 1) y0 y1 y2 y3 y4 y5 y6 y7 y8 y9 y10 y11 y12 y13 y14 y15 y16 y17 y18 y19 y20 y21 y22 y23 y24 y25 y26 y27 y28 y29 y30 y31 y32 y33 y34 y35 y36 y37 y38 y39 y40 y41)) ∧ (∀ y0 y1 y2 y3 y4 y5 y6 y7 y8 y9 y10 y11 y12 y13 y14 y15 y16 y17 y18 y19 y20 y21 y22 y23 y24 y25 y26 y27 y28 y29 y30 y31 y32 y33 y34 y35 y36 y37 y38 y39 y40 y41, LeO (watchwordlaw21_ways.j3 k y0 y1 y2 y3 y4 y5 y6 y7 y8 y9 y10 y11 y12 y13 y14 y15 y16 y17 y18 y19 y20 y21 y22 y23 y24 y25 y26 y27 y28 y29 y30 y31 y32 y33 y34 y35 y36 y37 y38 y39 y40 y41) (watchwordlaw21_ways.j3 (k + 1) y0 y1 y2 y3 y4 y5 y6 y7 y8 y9 y10 y11 y12 y13 y14 y15 y16 y17 y18 y19 y20 y21 y22 y23 y24 y25 y26 y27 y28 y29 y30 y31 y32 y33 y34 y35 y36 y37 y38 y39 y40 y41)) ∧ (∀ y0 y1 y2 y3 y4 y5 y6 y7 y8 y9 y10 y11 y12 y13 y14 y15 y16 y17 y18 y19 y20 y21 y22 y23 y24 y25 y26 y27 y28 y29 y30 y31 y32 y33 y34 y35 y36 y37 y38 y39 y40, LeO (watchwordlaw21_ways.j4 k y0 y1 y2 y3 y4 y5 y6 y7 y8 y9 y10 y11 y12 y13 y14 y15 y16 y17 y18 y19 y20 y21 y22 y23 y24 y25 y26 y27 y28 y29 y30 y31 y32 y33 y34 y35 y36 y37 y38 y39 y40) (watchwordlaw21_ways.j4 (k + 1) y0 y1 y2 y3 y4 y5 y6 y7 y8 y9 y10 y11 y12 y13 y14 y15 y16 y17 y18 y19 y20 y21 y22 y23 y24 y25 y26 y27 y28 y29 y30 y31 y32 y33 y34 y35 y36 y37 y38 y39 y40)) ∧ (∀ y0 y1 y2 y3 y4 y5 y6 y7 y8 y9 y10 y11 y12 y13 y14 y15 y16 y17 y18 y19 y20 y21 y22 y23 y24 y25 y26 y27 y28 y29 y30 y31 y32 y33 y34 y35 y36 y37 y38 y39 y40 y41, LeO (watchwordlaw21_ways.j5 k y0 y1 y2 y3 y4 y5 y6 y7 y8 y9 y10 y11 y12 y13 y14 y15 y16 y17 y18 y19 y20 y21 y22 y23 y24 y25 y26 y27 y28 y29 y30 y31 y32 y33 y34 y35 y36 y37 y38 y39 y40 y41) (watchwordlaw21_ways.j5 (k + 1) y0 y1 y2 y3 y4 y5 y6 y7 y8 y9 y10 y11 y12 y13 y14 y15 y16 y17 y18 y19 y20 y21 y22 y23 y24 y25 y26 y27 y28 y29 y30 y31 y32 y33 y34 y35 y36 y37 y38 y39 y40 y41))
 | 0 => ⟨fun _ _ _ _ _ _ _ _ _ _ _ _ _ _ _ _ _ _ _ _ _ _ _ _ _ _ _ _ _ _ _ _ _ _ _ _ _ _ r h => by simp [watchwordlaw21_ways.l0] at h, fun _ _ _ _ _ _ _ _ _ _ _ _ _ _ _ _ _ _ _ _ _ _ _ _ _ _ _ _ _ _ _ _ _ _ _ _ _ _ r h => by simp [watchwordlaw21_ways.l1] at h, fun _ _ _ _ _ _ _ _ _ _ _ _ _ _ _ _ _ _ _ _ _ _ _ _ _ _ _ _ _ _ _ _ _ _ _ _ _ _ _ _ _ _ r h => by simp [watchwordlaw21_ways.j2] at h, fun _ _ _ _ _ _ _ _ _ _ _ _ _ _ _ _ _ _ _ _ _ _ _ _ _ _ _ _ _ _ _ _ _ _ _ _ _ _ _ _ _ _ r h => by simp [watchwordlaw21_ways.j3] at h, fun _ _ _ _ _ _ _ _ _ _ _ _ _ _ _ _ _ _ _ _ _ _ _ _ _ _ _ _ _ _ _ _ _ _ _ _ _ _ _ _ _ r h => by simp [watchwordlaw21_ways.j4] at h, fun _ _ _ _ _ _ _ _ _ _ _ _ _ _ _ _ _ _ _ _ _ _ _ _ _ _ _ _ _ _ _ _ _ _ _ _ _ _ _ _ _ _ r h => by simp [watchwordlaw21_ways.j5] at h⟩
 | k + 1 => by
  obtain ⟨ih0, ih1, ih2, ih3, ih4, ih5⟩ := watchwordlaw21_ways.mono_l k
  refine ⟨?_, ?_, ?_, ?_, ?_, ?_⟩
  ·intro y0 y1 y2 y3 y4 y5 y6 y7 y8 y9 y10 y11 y12 y13 y14 y15 y16 y17 y18 y19 y20 y21 y22 y23 y24 y25 y26 y27 y28 y29 y30 y31 y32 y33 y34 y35 y36 y37
   unfold watchwordlaw21_ways.l0
   repeat' first
   | (with_reducible exact ih0 _ _ _ _ _ _ _ _ _ _ _ _ _ _ _ _ _ _ _ _ _ _ _ _ _ _ _ _ _ _ _ _ _ _ _ _ _ _)
   | (with_reducible exact ih1 _ _ _ _ _ _ _ _ _ _ _ _ _ _ _ _ _ _ _ _ _ _ _ _ _ _ _ _ _ _ _ _ _ _ _ _ _ _)
   | (with_reducible exact ih2 _ _ _ _ _ _ _ _ _ _ _ _ _ _ _ _ _ _ _ _ _ _ _ _ _ _ _ _ _ _ _ _ _ _ _ _ _ _ _ _ _ _)
   | (with_reducible exact ih3 _ _ _ _ _ _ _ _ _ _ _ _ _ _ _ _ _ _ _ _ _ _ _ _ _ _ _ _ _ _ _ _ _ _ _ _ _ _ _ _ _ _)
   | (with_reducible exact ih4 _ _ _ _ _ _ _ _ _ _ _ _ _ _ _ _ _ _ _ _ _ _ _ _ _ _ _ _ _ _ _ _ _ _ _ _ _ _ _ _ _)
   | (with_reducible exact ih5 _ _ _ _ _ _ _ _ _ _ _ _ _ _ _ _ _ _ _ _ _ _ _ _ _ _ _ _ _ _ _ _ _ _ _ _ _ _ _ _ _ _)
   | (with_reducible exact LeO.refl _)
   | (with_reducible exact LeO.none _)
   | (with_reducible refine LeO.ite ?_ ?_)
   | (with_reducible refine LeO.bind ?_ (fun _ => ?_))
   | exact ih0 _ _ _ _ _ _ _ _ _ _ _ _ _ _ _ _ _ _ _ _ _ _ _ _ _ _ _ _ _ _ _ _ _ _ _ _ _ _
   | exact ih1 _ _ _ _ _ _ _ _ _ _ _ _ _ _ _ _ _ _ _ _ _ _ _ _ _ _ _ _ _ _ _ _ _ _ _ _ _ _
   | exact ih2 _ _ _ _ _ _ _ _ _ _ _ _ _ _ _ _ _ _ _ _ _ _ _ _ _ _ _ _ _ _ _ _ _ _ _ _ _ _ _ _ _ _
   | exact ih3 _ _ _ _ _ _ _ _ _ _ _ _ _ _ _ _ _ _ _ _ _ _ _ _ _ _ _ _ _ _ _ _ _ _ _ _ _ _ _ _ _ _
   | exact ih4 _ _ _ _ _ _ _ _ _ _ _ _ _ _ _ _ _ _ _ _ _ _ _ _ _ _ _ _ _ _ _ _ _ _ _ _ _ _ _ _ _
   | exact ih5 _ _ _ _ _ _ _ _ _ _ _ _ _ _ _ _ _ _ _ _ _ _ _ _ _ _ _ _ _ _ _ _ _ _ _ _ _ _ _ _ _ _
   | exact LeO.none _
   | refine LeO.ite ?_ ?_
   | refine LeO.bind ?_ (fun _ => ?_)
  ·intro y0 y1 y2 y3 y4 y5 y6 y7 y8 y9 y10 y11 y12 y13 y14 y15 y16 y17 y18 y19 y20 y21 y22 y23 y24 y25 y26 y27 y28 y29 y30 y31 y32 y33 y34 y35 y36 y37
   unfold watchwordlaw21_ways.l1
   repeat' first
   | (with_reducible exact ih0 _ _ _ _ _ _ _ _ _ _ _ _ _ _ _ _ _ _ _ _ _ _ _ _ _ _ _ _ _ _ _ _ _ _ _ _ _ _)
   | (with_reducible exact ih1 _ _ _ _ _ _ _ _ _ _ _ _ _ _ _ _ _ _ _ _ _ _ _ _ _ _ _ _ _ _ _ _ _ _ _ _ _ _)
   | (with_reducible exact ih2 _ _ _ _ _ _ _ _ _ _ _ _ _ _ _ _ _ _ _ _ _ _ _ _ _ _ _ _ _ _ _ _ _ _ _ _ _ _ _ _ _ _)
   | (with_reducible exact ih3 _ _ _ _ _ _ _ _ _ _ _ _ _ _ _ _ _ _ _ _ _ _ _ _ _ _ _ _ _ _ _ _ _ _ _ _ _ _ _ _ _ _)
   | (with_reducible exact ih4 _ _ _ _ _ _ _ _ _ _ _ _ _ _ _ _ _ _ _ _ _ _ _ _ _ _ _ _ _ _ _ _ _ _ _ _ _ _ _ _ _)
   | (with_reducible exact ih5 _ _ _ _ _ _ _ _ _ _ _ _ _ _ _ _ _ _ _ _ _ _ _ _ _ _ _ _ _ _ _ _ _ _ _ _ _ _ _ _ _ _)
   | (with_reducible exact LeO.refl _)
   | (with_reducible exact LeO.none _)
   | (with_reducible refine LeO.ite ?_ ?_)
   | (with_reducible refine LeO.bind ?_ (fun _ => ?_))
   | exact ih0 _ _ _ _ _ _ _ _ _ _ _ _ _ _ _ _ _ _ _ _ _ _ _ _ _ _ _ _ _ _ _ _ _ _ _ _ _ _
   | exact ih1 _ _ _ _ _ _ _ _ _ _ _ _ _ _ _ _ _ _ _ _ _ _ _ _ _ _ _ _ _ _ _ _ _ _ _ _ _ _
   | exact ih2 _ _ _ _ _ _ _ _ _ _ _ _ _ _ _ _ _ _ _ _ _ _ _ _ _ _ _ _ _ _ _ _ _ _ _ _ _ _ _ _ _ _
   | exact ih3 _ _ _ _ _ _ _ _ _ _ _ _ _ _ _ _ _ _ _ _ _ _ _ _ _ _ _ _ _ _ _ _ _ _ _ _ _ _ _ _ _ _
   | exact ih4 _ _ _ _ _ _ _ _ _ _ _ _ _ _ _ _ _ _ _ _ _ _ _ _ _ _ _ _ _ _ _ _ _ _ _ _ _ _ _ _ _
   | exact ih5 _ _ _ _ _ _ _ _ _ _ _ _ _ _ _ _ _ _ _ _ _ _ _ _ _ _ _ _ _ _ _ _ _ _ _ _ _ _ _ _ _ _
   | exact LeO.none _
   | refine LeO.ite ?_ ?_
   | refine LeO.bind ?_ (fun _ => ?_)
  ·intro y0 y1 y2 y3 y4 y5 y6 y7 y8 y9 y10 y11 y12 y13 y14 y15 y16 y17 y18 y19 y20 y21 y22 y23 y24 y25 y26 y27 y28 y29 y30 y31 y32 y33 y34 y35 y36 y37 y38 y39 y40 y41
   unfold watchwordlaw21_ways.j2
   repeat' first
   | (with_reducible exact ih0 _ _ _ _ _ _ _ _ _ _ _ _ _ _ _ _ _ _ _ _ _ _ _ _ _ _ _ _ _ _ _ _ _ _ _ _ _ _)
   | (with_reducible exact ih1 _ _ _ _ _ _ _ _ _ _ _ _ _ _ _ _ _ _ _ _ _ _ _ _ _ _ _ _ _ _ _ _ _ _ _ _ _ _)
   | (with_reducible exact ih2 _ _ _ _ _ _ _ _ _ _ _ _ _ _ _ _ _ _ _ _ _ _ _ _ _ _ _ _ _ _ _ _ _ _ _ _ _ _ _ _ _ _)
   | (with_reducible exact ih3 _ _ _ _ _ _ _ _ _ _ _ _ _ _ _ _ _ _ _ _ _ _ _ _ _ _ _ _ _ _ _ _ _ _ _ _ _ _ _ _ _ _)
   | (with_reducible exact ih4 _ _ _ _ _ _ _ _ _ _ _ _ _ _ _ _ _ _ _ _ _ _ _ _ _ _ _ _ _ _ _ _ _ _ _ _ _ _ _ _ _)
   | (with_reducible exact ih5 _ _ _ _ _ _ _ _ _ _ _ _ _ _ _ _ _ _ _ _ _ _ _ _ _ _ _ _ _ _ _ _ _ _ _ _ _ _ _ _ _ _)
   | (with_reducible exact LeO.refl _)
   | (with_reducible exact LeO.none _)
   | (with_reducible refine LeO.ite ?_ ?_)
   | (with_reducible refine LeO.bind ?_ (fun _ => ?_))
   | exact ih0 _ _ _ _ _ _ _ _ _ _ _ _ _ _ _ _ _ _ _ _ _ _ _ _ _ _ _ _ _ _ _ _ _ _ _ _ _ _
   | exact ih1 _ _ _ _ _ _ _ _ _ _ _ _ _ _ _ _ _ _ _ _ _ _ _ _ _ _ _ _ _ _ _ _ _ _ _ _ _ _
   | exact ih2 _ _ _ _ _ _ _ _ _ _ _ _ _ _ _ _ _ _ _ _ _ _ _ _ _ _ _ _ _ _ _ _ _ _ _ _ _ _ _ _ _ _
   | exact ih3 _ _ _ _ _ _ _ _ _ _ _ _ _ _ _ _ _ _ _ _ _ _ _ _ _ _ _ _ _ _ _ _ _ _ _ _ _ _ _ _ _ _
   | exact ih4 _ _ _ _ _ _ _ _ _ _ _ _ _ _ _ _ _ _ _ _ _ _ _ _ _ _ _ _ _ _ _ _ _ _ _ _ _ _ _ _ _
   | exact ih5 _ _ _ _ _ _ _ _ _ _ _ _ _ _ _ _ _ _ _ _ _ _ _ _ _ _ _ _ _ _ _ _ _ _ _ _ _ _ _ _ _ _
   | exact LeO.none _
   | refine LeO.ite ?_ ?_
   | refine LeO.bind ?_ (fun _ => ?_)
  ·intro y0 y1 y2 y3 y4 y5 y6 y7 y8 y9 y10 y11 y12 y13 y14 y15 y16 y17 y18 y19 y20 y21 y22 y23 y24 y25 y26 y27 y28 y29 y30 y31 y32 y33 y34 y35 y36 y37 y38 y39 y40 y41
   unfold watchwordlaw21_ways.j3
   repeat' first
   | (with_reducible exact ih0 _ _ _ _ _ _ _ _ _ _ _ _ _ _ _ _ _ _ _ _ _ _ _ _ _ _ _ _ _ _ _ _ _ _ _ _ _ _)
   | (with_reducible exact ih1 _ _ _ _ _ _ _ _ _ _ _ _ _ _ _ _ _ _ _ _ _ _ _ _ _ _ _ _ _ _ _ _ _ _ _ _ _ _)
   | (with_reducible exact ih2 _ _ _ _ _ _ _ _ _ _ _ _ _ _ _ _ _ _ _ _ _ _ _ _ _ _ _ _ _ _ _ _ _ _ _ _ _ _ _ _ _ _)
   | (with_reducible exact ih3 _ _ _ _ _ _ _ _ _ _ _ _ _ _ _ _ _ _ _ _ _ _ _ _ _ _ _ _ _ _ _ _ _ _ _ _ _ _ _ _ _ _)
   | (with_reducible exact ih4 _ _ _ _ _ _ _ _ _ _ _ _ _ _ _ _ _ _ _ _ _ _ _ _ _ _ _ _ _ _ _ _ _ _ _ _ _ _ _ _ _)
   | (with_reducible exact ih5 _ _ _ _ _ _ _ _ _ _ _ _ _ _ _ _ _ _ _ _ _ _ _ _ _ _ _ _ _ _ _ _ _ _ _ _ _ _ _ _ _ _)
   | (with_reducible exact LeO.refl _)
   | (with_reducible exact LeO.none _)
   | (with_reducible refine LeO.ite ?_ ?_)
   | (with_reducible refine LeO.bind ?_ (fun _ => ?_))
   | exact ih0 _ _ _ _ _ _ _ _ _ _ _ _ _ _ _ _ _ _ _ _ _ _ _ _ _ _ _ _ _ _ _ _ _ _ _ _ _ _
   | exact ih1 _ _ _ _ _ _ _ _ _ _ _ _ _ _ _ _ _ _ _ _ _ _ _ _ _ _ _ _ _ _ _ _ _ _ _ _ _ _
   | exact ih2 _ _ _ _ _ _ _ _ _ _ _ _ _ _ _ _ _ _ _ _ _ _ _ _ _ _ _ _ _ _ _ _ _ _ _ _ _ _ _ _ _ _
   | exact ih3 _ _ _ _ _ _ _ _ _ _ _ _ _ _ _ _ _ _ _ _ _ _ _ _ _ _ _ _ _ _ _ _ _ _ _ _ _ _ _ _ _ _
   | exact ih4 _ _ _ _ _ _ _ _ _ _ _ _ _ _ _ _ _ _ _ _ _ _ _ _ _ _ _ _ _ _ _ _ _ _ _ _ _ _ _ _ _
   | exact ih5 _ _ _ _ _ _ _ _ _ _ _ _ _ _ _ _ _ _ _ _ _ _ _ _ _ _ _ _ _ _ _ _ _ _ _ _ _ _ _ _ _ _
   | exact LeO.none _
   | refine LeO.ite ?_ ?_
   | refine LeO.bind ?_ (fun _ => ?_)
  ·intro y0 y1 y2 y3 y4 y5 y6 y7 y8 y9 y10 y11 y12 y13 y14 y15 y16 y17 y18 y19 y20 y21 y22 y23 y24 y25 y26 y27 y28 y29 y30 y31 y32 y33 y34 y35 y36 y37 y38 y39 y40
   unfold watchwordlaw21_ways.j4
   repeat' first
   | (with_reducible exact ih0 _ _ _ _ _ _ _ _ _ _ _ _ _ _ _ _ _ _ _ _ _ _ _ _ _ _ _ _ _ _ _ _ _ _ _ _ _ _)
   | (with_reducible exact ih1 _ _ _ _ _ _ _ _ _ _ _ _ _ _ _ _ _ _ _ _ _ _ _ _ _ _ _ _ _ _ _ _ _ _ _ _ _ _)
   | (with_reducible exact ih2 _ _ _ _ _ _ _ _ _ _ _ _ _ _ _ _ _ _ _ _ _ _ _ _ _ _ _ _ _ _ _ _ _ _ _ _ _ _ _ _ _ _)
   | (with_reducible exact ih3 _ _ _ _ _ _ _ _ _ _ _ _ _ _ _ _ _ _ _ _ _ _ _ _ _ _ _ _ _ _ _ _ _ _ _ _ _ _ _ _ _ _)
   | (with_reducible exact ih4 _ _ _ _ _ _ _ _ _ _ _ _ _ _ _ _ _ _ _ _ _ _ _ _ _ _ _ _ _ _ _ _ _ _ _ _ _ _ _ _ _)
   | (with_reducible exact ih5 _ _ _ _ _ _ _ _ _ _ _ _ _ _ _ _ _ _ _ _ _ _ _ _ _ _ _ _ _ _ _ _ _ _ _ _ _ _ _ _ _ _)
   | (with_reducible exact LeO.refl _)
   | (with_reducible exact LeO.none _)
   | (with_reducible refine LeO.ite ?_ ?_)
   | (with_reducible refine LeO.bind ?_ (fun _ => ?_))
   | exact ih0 _ _ _ _ _ _ _ _ _ _ _ _ _ _ _ _ _ _ _ _ _ _ _ _ _ _ _ _ _ _ _ _ _ _ _ _ _ _
   | exact ih1 _ _ _ _ _ _ _ _ _ _ _ _ _ _ _ _ _ _ _ _ _ _ _ _ _ _ _ _ _ _ _ _ _ _ _ _ _ _
   | exact ih2 _ _ _ _ _ _ _ _ _ _ _ _ _ _ _ _ _ _ _ _ _ _ _ _ _ _ _ _ _ _ _ _ _ _ _ _ _ _ _ _ _ _
   | exact ih3 _ _ _ _ _ _ _ _ _ _ _ _ _ _ _ _ _ _ _ _ _ _ _ _ _ _ _ _ _ _ _ _ _ _ _ _ _ _ _ _ _ _
   | exact ih4 _ _ _ _ _ _ _ _ _ _ _ _ _ _ _ _ _ _ _ _ _ _ _ _ _ _ _ _ _ _ _ _ _ _ _ _ _ _ _ _ _
   | exact ih5 _ _ _ _ _ _ _ _ _ _ _ _ _ _ _ _ _ _ _ _ _ _ _ _ _ _ _ _ _ _ _ _ _ _ _ _ _ _ _ _ _ _
   | exact LeO.none _
   | refine LeO.ite ?_ ?_
   | refine LeO.bind ?_ (fun _ => ?_)
  ·intro y0 y1 y2 y3 y4 y5 y6 y7 y8 y9 y10 y11 y12 y13 y14 y15 y16 y17 y18 y19 y20 y21 y22 y23 y24 y25 y26 y27 y28 y29 y30 y31 y32 y33 y34 y35 y36 y37 y38 y39 y40 y41
   unfold watchwordlaw21_ways.j5
   repeat' first
   | (with_reducible exact ih0 _ _ _ _ _ _ _ _ _ _ _ _ _ _ _ _ _ _ _ _ _ _ _ _ _ _ _ _ _ _ _ _ _ _ _ _ _ _)
   | (with_reducible exact ih1 _ _ _ _ _ _ _ _ _ _ _ _ _ _ _ _ _ _ _ _ _ _ _ _ _ _ _ _ _ _ _ _ _ _ _ _ _ _)
   | (with_reducible exact ih2 _ _ _ _ _ _ _ _ _ _ _ _ _ _ _ _ _ _ _ _ _ _ _ _ _ _ _ _ _ _ _ _ _ _ _ _ _ _ _ _ _ _)
   | (with_reducible exact ih3 _ _ _ _ _ _ _ _ _ _ _ _ _ _ _ _ _ _ _ _ _ _ _ _ _ _ _ _ _ _ _ _ _ _ _ _ _ _ _ _ _ _)
   | (with_reducible exact ih4 _ _ _ _ _ _ _ _ _ _ _ _ _ _ _ _ _ _ _ _ _ _ _ _ _ _ _ _ _ _ _ _ _ _ _ _ _ _ _ _ _)
   | (with_reducible exact ih5 _ _ _ _ _ _ _ _ _ _ _ _ _ _ _ _ _ _ _ _ _ _ _ _ _ _ _ _ _ _ _ _ _ _ _ _ _ _ _ _ _ _)
   | (with_reducible exact LeO.refl _)
   | (with_reducible exact LeO.none _)
   | (with_reducible refine LeO.ite ?_ ?_)
   | (with_reducible refine LeO.bind ?_ (fun _ => ?_))
   | exact ih0 _ _ _ _ _ _ _ _ _ _ _ _ _ _ _ _ _ _ _ _ _ _ _ _ _ _ _ _ _ _ _ _ _ _ _ _ _ _
   | exact ih1 _ _ _ _ _ _ _ _ _ _ _ _ _ _ _ _ _ _ _ _ _ _ _ _ _ _ _ _ _ _ _ _ _ _ _ _ _ _
   | exact ih2 _ _ _ _ _ _ _ _ _ _ _ _ _ _ _ _ _ _ _ _ _ _ _ _ _ _ _ _ _ _ _ _ _ _ _ _ _ _ _ _ _ _
   | exact ih3 _ _ _ _ _ _ _ _ _ _ _ _ _ _ _ _ _ _ _ _ _ _ _ _ _ _ _ _ _ _ _ _ _ _ _ _ _ _ _ _ _ _
   | exact ih4 _ _ _ _ _ _ _ _ _ _ _ _ _ _ _ _ _ _ _ _ _ _ _ _ _ _ _ _ _ _ _ _ _ _ _ _ _ _ _ _ _
   | exact ih5 _ _ _ _ _ _ _ _ _ _ _ _ _ _ _ _ _ _ _ _ _ _ _ _ _ _ _ _ _ _ _ _ _ _ _ _ _ _ _ _ _ _
   | exact LeO.none _
   | refine LeO.ite ?_ ?_
   | refine LeO.bind ?_ (fun _ => ?_)
theorem watchwordlaw21_ways.mono : ∀ a0 a1 a2 a3 a4 a5 a6 a7 a8 a9 a10 a11 a12 a13 a14 a15 a16 k, LeO (watchwordlaw21_ways.f k a0 a1 a2 a3 a4 a5 a6 a7 a8 a9 a10 a11 a12 a13 a14 a15 a16) (watchwordlaw21_ways.f (k + 1) a0 a1 a2 a3 a4 a5 a6 a7 a8 a9 a10 a11 a12 a13 a14 a15 a16) := by
 intro a0 a1 a2 a3 a4 a5 a6 a7 a8 a9 a10 a11 a12 a13 a14 a15 a16 k
 obtain ⟨ih0, ih1, ih2, ih3, ih4, ih5⟩ := watchwordlaw21_ways.mono_l k
 unfold watchwordlaw21_ways.f
 repeat' first
   | (with_reducible exact ih0 _ _ _ _ _ _ _ _ _ _ _ _ _ _ _ _ _ _ _ _ _ _ _ _ _ _ _ _ _ _ _ _ _ _ _ _ _ _)
   | (with_reducible exact ih1 _ _ _ _ _ _ _ _ _ _ _ _ _ _ _ _ _ _ _ _ _ _ _ _ _ _ _ _ _ _ _ _ _ _ _ _ _ _)
   | (with_reducible exact ih2 _ _ _ _ _ _ _ _ _ _ _ _ _ _ _ _ _ _ _ _ _ _ _ _ _ _ _ _ _ _ _ _ _ _ _ _ _ _ _ _ _ _)
   | (with_reducible exact ih3 _ _ _ _ _ _ _ _ _ _ _ _ _ _ _ _ _ _ _ _ _ _ _ _ _ _ _ _ _ _ _ _ _ _ _ _ _ _ _ _ _ _)
   | (with_reducible exact ih4 _ _ _ _ _ _ _ _ _ _ _ _ _ _ _ _ _ _ _ _ _ _ _ _ _ _ _ _ _ _ _ _ _ _ _ _ _ _ _ _ _)
   | (with_reducible exact ih5 _ _ _ _ _ _ _ _ _ _ _ _ _ _ _ _ _ _ _ _ _ _ _ _ _ _ _ _ _ _ _ _ _ _ _ _ _ _ _ _ _ _)
   | (with_reducible exact LeO.refl _)
   | (with_reducible exact LeO.none _)
   | (with_reducible refine LeO.ite ?_ ?_)
   | (with_reducible refine LeO.bind ?_ (fun _ => ?_))
   | exact ih0 _ _ _ _ _ _ _ _ _ _ _ _ _ _ _ _ _ _ _ _ _ _ _ _ _ _ _ _ _ _ _ _ _ _ _ _ _ _
   | exact ih1 _ _ _ _ _ _ _ _ _ _ _ _ _ _ _ _ _ _ _ _ _ _ _ _ _ _ _ _ _ _ _ _ _ _ _ _ _ _
   | exact ih2 _ _ _ _ _ _ _ _ _ _ _ _ _ _ _ _ _ _ _ _ _ _ _ _ _ _ _ _ _ _ _ _ _ _ _ _ _ _ _ _ _ _
   | exact ih3 _ _ _ _ _ _ _ _ _ _ _ _ _ _ _ _ _ _ _ _ _ _ _ _ _ _ _ _ _ _ _ _ _ _ _ _ _ _ _ _ _ _
   | exact ih4 _ _ _ _ _ _ _ _ _ _ _ _ _ _ _ _ _ _ _ _ _ _ _ _ _ _ _ _ _ _ _ _ _ _ _ _ _ _ _ _ _
   | exact ih5 _ _ _ _ _ _ _ _ _ _ _ _ _ _ _ _ _ _ _ _ _ _ _ _ _ _ _ _ _ _ _ _ _ _ _ _ _ _ _ _ _ _
   | exact LeO.none _
   | refine LeO.ite ?_ ?_
   | refine LeO.bind ?_ (fun _ => ?_)
set_option maxHeartbeats 8000000 in
set_option maxRecDepth 100000 in
theorem watchwordlaw21_ways.calls (k : Nat) (a0_0 : Int) (a0_1 : Int) (a0_2 : Int) (a0_3 : Int) (a0_4 : Int) (a0_5 : Int) (a0_6 : Int) (a0_7 : Int) (a0_8 : Int) (a0_9 : Int) (a0_10 : Int) (a0_11 : Int) (a0_12 : Int) (a0_13 : Int) (a0_14 : Int) (a0_15 : Int) (a1 : Int) (r1 : Int) (r2 : Int) (r3 : Int) (r4 : Int) (r5 : Bool) (r6 : Bool) (r7 : Bool) (r8 : Bool) (r9 : Bool) (r10 : Bool) (r11 : Bool) (r12 : Bool) (r13 : Bool) (r14 : Bool) (r15 : Bool) (r16 : Bool) (r17 : Bool) (r18 : Bool) (r19 : Bool) (r20 : Bool) (w : World) (h : watchwordlaw21_ways.f k a0_0 a0_1 a0_2 a0_3 a0_4 a0_5 a0_6 a0_7 a0_8 a0_9 a0_10 a0_11 a0_12 a0_13 a0_14 a0_15 a1 = some (r1, r2, r3, r4, r5, r6, r7, r8, r9, r10, r11, r12, r13, r14, r15, r16, r17, r18, r19, r20)) :
  Calls Try.prog 19 #[.agg #[.int .i64 a0_0, .int .i64 a0_1, .int .i64 a0_2, .int .i64 a0_3, .int .i64 a0_4, .int .i64 a0_5, .int .i64 a0_6, .int .i64 a0_7, .int .i64 a0_8, .int .i64 a0_9, .int .i64 a0_10, .int .i64 a0_11, .int .i64 a0_12, .int .i64 a0_13, .int .i64 a0_14, .int .i64 a0_15], .int .i64 a1] w fun e w' => e = .returned (.tuple #[.agg #[.int .i64 r1, .int .i64 r2, .int .i64 r3, .int .i64 r4], .agg #[.bool r5, .bool r6, .bool r7, .bool r8, .bool r9, .bool r10, .bool r11, .bool r12, .bool r13, .bool r14, .bool r15, .bool r16, .bool r17, .bool r18, .bool r19, .bool r20]]) ∧ Below w.heap.size w w' := by
 have hu23 := Try.underlying23
 have hu22 := Try.underlying22
 have hu36 := Try.underlying36
 have hu35 := Try.underlying35
 have HB := Aside0.mk (Below.refl w.heap.size w)
 have H : (watchwordlaw21_ways.l0 k a1 0 a0_0 a0_1 a0_2 a0_3 a0_4 a0_5 a0_6 a0_7 a0_8 a0_9 a0_10 a0_11 a0_12 a0_13 a0_14 a0_15 0 0 0 0 false false false false false false false false false false false false false false false false) = some (r1, r2, r3, r4, r5, r6, r7, r8, r9, r10, r11, r12, r13, r14, r15, r16, r17, r18, r19, r20) := h
 clear h
 have H' := Aside0.mk H
 clear H
 go_enter Try.func19, Try.ntmps19
 go_wp2_with (first | ((with_reducible refine gate_dst (N := 2) rfl ?_); refine box_event ?hg (N := 2) ?hd (cs := #[.int .i64 a0_0, .int .i64 a0_1, .int .i64 a0_2, .int .i64 a0_3, .int .i64 a0_4, .int .i64 a0_5, .int .i64 a0_6, .int .i64 a0_7, .int .i64 a0_8, .int .i64 a0_9, .int .i64 a0_10, .int .i64 a0_11, .int .i64 a0_12, .int .i64 a0_13, .int .i64 a0_14, .int .i64 a0_15]) (t := 23) ?hr ?_; (case hd => rfl); (case hg => rfl); (case hr => first | (go_simp; done) | (go_simp; rfl)); intro gb164 hg w3 hbox hb; have n0_ := Aside0.mk (below_step (by repeat (first | (with_reducible first | exact HB.out | apply below_alloc | apply pw_below_drewN | apply below_drew1) | exact HB.out)) hb); have n1_ := Aside0.mk (hbox); have n2_ := Aside0.mk ((by rw [hg]; exact (below_size (by repeat (first | (with_reducible first | exact HB.out | apply below_alloc | apply pw_below_drewN | apply below_drew1) | exact HB.out))) : w.heap.size ≤ gb164)); have n3_ := Aside0.mk ((by rw [hg]; exact (below_size (by repeat (first | (with_reducible first | exact HB.out | apply below_alloc | apply pw_below_drewN | apply below_drew1) | exact HB.out))) : w.heap.size ≤ gb164)); clear HB; have HB := n0_; have BK164 := n1_; have GW164 := n2_; have GE164 := n3_; clear n0_ n1_ n2_ n3_; clear hb hbox hg) | ((with_reducible refine gate_dst (N := 4) rfl ?_); refine box_event ?hg (N := 4) ?hd (cs := #[.int .i64 0, .int .i64 0, .int .i64 0, .int .i64 0]) (t := 22) ?hr ?_; (case hd => rfl); (case hg => rfl); (case hr => first | (go_simp; done) | (go_simp; rfl)); intro gb165 hg w4 hbox hb; have n0_ := Aside0.mk (blk_below (g := gb164) (o := .cells #[.int .i64 a0_0, .int .i64 a0_1, .int .i64 a0_2, .int .i64 a0_3, .int .i64 a0_4, .int .i64 a0_5, .int .i64 a0_6, .int .i64 a0_7, .int .i64 a0_8, .int .i64 a0_9, .int .i64 a0_10, .int .i64 a0_11, .int .i64 a0_12, .int .i64 a0_13, .int .i64 a0_14, .int .i64 a0_15] 23 (0, 0)) (by (with_reducible repeat (first | refine blk_drewN ?_ _ | refine blk_drew ?_ | refine blk_alloc ?_ _)); exact BK164.out) hb); have n1_ := Aside0.mk (below_step (by repeat (first | (with_reducible first | exact HB.out | apply below_alloc | apply pw_below_drewN | apply below_drew1 | refine below_set ?_ GE164.out) | exact HB.out)) hb); have n2_ := Aside0.mk (hbox); have n3_ := Aside0.mk ((by rw [hg]; exact (below_size (by repeat (first | (with_reducible first | exact HB.out | apply below_alloc | apply pw_below_drewN | apply below_drew1 | refine below_set ?_ GE164.out) | exact HB.out))) : w.heap.size ≤ gb165)); have n4_ := Aside0.mk ((by rw [hg]; exact (below_size (by repeat (first | (with_reducible first | exact HB.out | apply below_alloc | apply pw_below_drewN | apply below_drew1 | refine below_set ?_ GE164.out) | exact HB.out))) : w.heap.size ≤ gb165)); have n5_ := Aside0.mk ((by rw [hg]; exact Nat.ne_of_lt (blk_lt (g := gb164) (o := .cells #[.int .i64 a0_0, .int .i64 a0_1, .int .i64 a0_2, .int .i64 a0_3, .int .i64 a0_4, .int .i64 a0_5, .int .i64 a0_6, .int .i64 a0_7, .int .i64 a0_8, .int .i64 a0_9, .int .i64 a0_10, .int .i64 a0_11, .int .i64 a0_12, .int .i64 a0_13, .int .i64 a0_14, .int .i64 a0_15] 23 (0, 0)) (by (with_reducible repeat (first | refine blk_drewN ?_ _ | refine blk_drew ?_ | refine blk_alloc ?_ _)); exact BK164.out)) : gb164 ≠ gb165)); have n6_ := Aside0.mk ((by rw [hg]; exact Nat.ne_of_gt (blk_lt (g := gb164) (o := .cells #[.int .i64 a0_0, .int .i64 a0_1, .int .i64 a0_2, .int .i64 a0_3, .int .i64 a0_4, .int .i64 a0_5, .int .i64 a0_6, .int .i64 a0_7, .int .i64 a0_8, .int .i64 a0_9, .int .i64 a0_10, .int .i64 a0_11, .int .i64 a0_12, .int .i64 a0_13, .int .i64 a0_14, .int .i64 a0_15] 23 (0, 0)) (by (with_reducible repeat (first | refine blk_drewN ?_ _ | refine blk_drew ?_ | refine blk_alloc ?_ _)); exact BK164.out)) : gb165 ≠ gb164)); clear BK164; clear HB; have BK164 := n0_; have HB := n1_; have BK165 := n2_; have GW165 := n3_; have GE165 := n4_; have NB164_165 := n5_; have NB165_164 := n6_; clear n0_ n1_ n2_ n3_ n4_ n5_ n6_; clear hb hbox hg) | ((with_reducible refine gate_dst (N := 5) rfl ?_); refine box_event ?hg (N := 5) ?hd (cs := #[.bool false, .bool false, .bool false, .bool false, .bool false, .bool false, .bool false, .bool false, .bool false, .bool false, .bool false, .bool false, .bool false, .bool false, .bool false, .bool false]) (t := 36) ?hr ?_; (case hd => rfl); (case hg => rfl); (case hr => first | (go_simp; done) | (go_simp; rfl)); intro gb166 hg w5 hbox hb; have n0_ := Aside0.mk (blk_below (g := gb164) (o := .cells #[.int .i64 a0_0, .int .i64 a0_1, .int .i64 a0_2, .int .i64 a0_3, .int .i64 a0_4, .int .i64 a0_5, .int .i64 a0_6, .int .i64 a0_7, .int .i64 a0_8, .int .i64 a0_9, .int .i64 a0_10, .int .i64 a0_11, .int .i64 a0_12, .int .i64 a0_13, .int .i64 a0_14, .int .i64 a0_15] 23 (0, 0)) (by (with_reducible repeat (first | refine blk_drewN ?_ _ | refine blk_drew ?_ | refine blk_alloc ?_ _)); exact BK164.out) hb); have n1_ := Aside0.mk (blk_below (g := gb165) (o := .cells #[.int .i64 0, .int .i64 0, .int .i64 0, .int .i64 0] 22 (0, 0)) (by (with_reducible repeat (first | refine blk_drewN ?_ _ | refine blk_drew ?_ | refine blk_alloc ?_ _)); exact BK165.out) hb); have n2_ := Aside0.mk (below_step (by repeat (first | (with_reducible first | exact HB.out | apply below_alloc | apply pw_below_drewN | apply below_drew1 | refine below_set ?_ GE164.out | refine below_set ?_ GE165.out) | exact HB.out)) hb); have n3_ := Aside0.mk (hbox); have n4_ := Aside0.mk ((by rw [hg]; exact (below_size (by repeat (first | (with_reducible first | exact HB.out | apply below_alloc | apply pw_below_drewN | apply below_drew1 | refine below_set ?_ GE164.out | refine below_set ?_ GE165.out) | exact HB.out))) : w.heap.size ≤ gb166)); have n5_ := Aside0.mk ((by rw [hg]; exact (below_size (by repeat (first | (with_reducible first | exact HB.out | apply below_alloc | apply pw_below_drewN | apply below_drew1 | refine below_set ?_ GE164.out | refine below_set ?_ GE165.out) | exact HB.out))) : w.heap.size ≤ gb166)); have n6_ := Aside0.mk ((by rw [hg]; exact Nat.ne_of_lt (blk_lt (g := gb164) (o := .cells #[.int .i64 a0_0, .int .i64 a0_1, .int .i64 a0_2, .int .i64 a0_3, .int .i64 a0_4, .int .i64 a0_5, .int .i64 a0_6, .int .i64 a0_7, .int .i64 a0_8, .int .i64 a0_9, .int .i64 a0_10, .int .i64 a0_11, .int .i64 a0_12, .int .i64 a0_13, .int .i64 a0_14, .int .i64 a0_15] 23 (0, 0)) (by (with_reducible repeat (first | refine blk_drewN ?_ _ | refine blk_drew ?_ | refine blk_alloc ?_ _)); exact BK164.out)) : gb164 ≠ gb166)); have n7_ := Aside0.mk ((by rw [hg]; exact Nat.ne_of_gt (blk_lt (g := gb164) (o := .cells #[.int .i64 a0_0, .int .i64 a0_1, .int .i64 a0_2, .int .i64 a0_3, .int .i64 a0_4, .int .i64 a0_5, .int .i64 a0_6, .int .i64 a0_7, .int .i64 a0_8, .int .i64 a0_9, .int .i64 a0_10, .int .i64 a0_11, .int .i64 a0_12, .int .i64 a0_13, .int .i64 a0_14, .int .i64 a0_15] 23 (0, 0)) (by (with_reducible repeat (first | refine blk_drewN ?_ _ | refine blk_drew ?_ | refine blk_alloc ?_ _)); exact BK164.out)) : gb166 ≠ gb164)); have n8_ := Aside0.mk ((by rw [hg]; exact Nat.ne_of_lt (blk_lt (g := gb165) (o := .cells #[.int .i64 0, .int .i64 0, .int .i64 0, .int .i64 0] 22 (0, 0)) (by (with_reducible repeat (first | refine blk_drewN ?_ _ | refine blk_drew ?_ | refine blk_alloc ?_ _)); exact BK165.out)) : gb165 ≠ gb166)); have n9_ := Aside0.mk ((by rw [hg]; exact Nat.ne_of_gt (blk_lt (g := gb165) (o := .cells #[.int .i64 0, .int .i64 0, .int .i64 0, .int .i64 0] 22 (0, 0)) (by (with_reducible repeat (first | refine blk_drewN ?_ _ | refine blk_drew ?_ | refine blk_alloc ?_ _)); exact BK165.out)) : gb166 ≠ gb165)); clear BK164; clear BK165; clear HB; have BK164 := n0_; have BK165 := n1_; have HB := n2_; have BK166 := n3_; have GW166 := n4_; have GE166 := n5_; have NB164_166 := n6_; have NB166_164 := n7_; have NB165_166 := n8_; have NB166_165 := n9_; clear n0_ n1_ n2_ n3_ n4_ n5_ n6_ n7_ n8_ n9_; clear hb hbox hg) | ((with_reducible refine gate_dst (N := 6) rfl ?_); refine box_event ?hg (N := 6) ?hd (cs := #[.int .i64 0, .int .i64 0, .int .i64 0, .int .i64 0]) (t := 22) ?hr ?_; (case hd => rfl); (case hg => rfl); (case hr => first | (go_simp; done) | (go_simp; rfl)); intro gb167 hg w6 hbox hb; have n0_ := Aside0.mk (blk_below (g := gb164) (o := .cells #[.int .i64 a0_0, .int .i64 a0_1, .int .i64 a0_2, .int .i64 a0_3, .int .i64 a0_4, .int .i64 a0_5, .int .i64 a0_6, .int .i64 a0_7, .int .i64 a0_8, .int .i64 a0_9, .int .i64 a0_10, .int .i64 a0_11, .int .i64 a0_12, .int .i64 a0_13, .int .i64 a0_14, .int .i64 a0_15] 23 (0, 0)) (by (with_reducible repeat (first | refine blk_drewN ?_ _ | refine blk_drew ?_ | refine blk_alloc ?_ _)); exact BK164.out) hb); have n1_ := Aside0.mk (blk_below (g := gb165) (o := .cells #[.int .i64 0, .int .i64 0, .int .i64 0, .int .i64 0] 22 (0, 0)) (by (with_reducible repeat (first | refine blk_drewN ?_ _ | refine blk_drew ?_ | refine blk_alloc ?_ _)); exact BK165.out) hb); have n2_ := Aside0.mk (blk_below (g := gb166) (o := .cells #[.bool false, .bool false, .bool false, .bool false, .bool false, .bool false, .bool false, .bool false, .bool false, .bool false, .bool false, .bool false, .bool false, .bool false, .bool false, .bool false] 36 (0, 0)) (by (with_reducible repeat (first | refine blk_drewN ?_ _ | refine blk_drew ?_ | refine blk_alloc ?_ _)); exact BK166.out) hb); have n3_ := Aside0.mk (below_step (by repeat (first | (with_reducible first | exact HB.out | apply below_alloc | apply pw_below_drewN | apply below_drew1 | refine below_set ?_ GE164.out | refine below_set ?_ GE165.out | refine below_set ?_ GE166.out) | exact HB.out)) hb); have n4_ := Aside0.mk (hbox); have n5_ := Aside0.mk ((by rw [hg]; exact (below_size (by repeat (first | (with_reducible first | exact HB.out | apply below_alloc | apply pw_below_drewN | apply below_drew1 | refine below_set ?_ GE164.out | refine below_set ?_ GE165.out | refine below_set ?_ GE166.out) | exact HB.out))) : w.heap.size ≤ gb167)); have n6_ := Aside0.mk ((by rw [hg]; exact (below_size (by repeat (first | (with_reducible first | exact HB.out | apply below_alloc | apply pw_below_drewN | apply below_drew1 | refine below_set ?_ GE164.out | refine below_set ?_ GE165.out | refine below_set ?_ GE166.out) | exact HB.out))) : w.heap.size ≤ gb167)); have n7_ := Aside0.mk ((by rw [hg]; exact Nat.ne_of_lt (blk_lt (g := gb164) (o := .cells #[.int .i64 a0_0, .int .i64 a0_1, .int .i64 a0_2, .int .i64 a0_3, .int .i64 a0_4, .int .i64 a0_5, .int .i64 a0_6, .int .i64 a0_7, .int .i64 a0_8, .int .i64 a0_9, .int .i64 a0_10, .int .i64 a0_11, .int .i64 a0_12, .int .i64 a0_13, .int .i64 a0_14, .int .i64 a0_15] 23 (0, 0)) (by (with_reducible repeat (first | refine blk_drewN ?_ _ | refine blk_drew ?_ | refine blk_alloc ?_ _)); exact BK164.out)) : gb164 ≠ gb167)); have n8_ := Aside0.mk ((by rw [hg]; exact Nat.ne_of_gt (blk_lt (g := gb164) (o := .cells #[.int .i64 a0_0, .int .i64 a0_1, .int .i64 a0_2, .int .i64 a0_3, .int .i64 a0_4, .int .i64 a0_5, .int .i64 a0_6, .int .i64 a0_7, .int .i64 a0_8, .int .i64 a0_9, .int .i64 a0_10, .int .i64 a0_11, .int .i64 a0_12, .int .i64 a0_13, .int .i64 a0_14, .int .i64 a0_15] 23 (0, 0)) (by (with_reducible repeat (first | refine blk_drewN ?_ _ | refine blk_drew ?_ | refine blk_alloc ?_ _)); exact BK164.out)) : gb167 ≠ gb164)); have n9_ := Aside0.mk ((by rw [hg]; exact Nat.ne_of_lt (blk_lt (g := gb165) (o := .cells #[.int .i64 0, .int .i64 0, .int .i64 0, .int .i64 0] 22 (0, 0)) (by (with_reducible repeat (first | refine blk_drewN ?_ _ | refine blk_drew ?_ | refine blk_alloc ?_ _)); exact BK165.out)) : gb165 ≠ gb167)); have n10_ := Aside0.mk ((by rw [hg]; exact Nat.ne_of_gt (blk_lt (g := gb165) (o := .cells #[.int .i64 0, .int .i64 0, .int .i64 0, .int .i64 0] 22 (0, 0)) (by (with_reducible repeat (first | refine blk_drewN ?_ _ | refine blk_drew ?_ | refine blk_alloc ?_ _)); exact BK165.out)) : gb167 ≠ gb165)); have n11_ := Aside0.mk ((by rw [hg]; exact Nat.ne_of_lt (blk_lt (g := gb166) (o := .cells #[.bool false, .bool false, .bool false, .bool false, .bool false, .bool false, .bool false, .bool false, .bool false, .bool false, .bool false, .bool false, .bool false, .bool false, .bool false, .bool false] 36 (0, 0)) (by (with_reducible repeat (first | refine blk_drewN ?_ _ | refine blk_drew ?_ | refine blk_alloc ?_ _)); exact BK166.out)) : gb166 ≠ gb167)); have n12_ := Aside0.mk ((by rw [hg]; exact Nat.ne_of_gt (blk_lt (g := gb166) (o := .cells #[.bool false, .bool false, .bool false, .bool false, .bool false, .bool false, .bool false, .bool false, .bool false, .bool false, .bool false, .bool false, .bool false, .bool false, .bool false, .bool false] 36 (0, 0)) (by (with_reducible repeat (first | refine blk_drewN ?_ _ | refine blk_drew ?_ | refine blk_alloc ?_ _)); exact BK166.out)) : gb167 ≠ gb166)); clear BK164; clear BK165; clear BK166; clear HB; have BK164 := n0_; have BK165 := n1_; have BK166 := n2_; have HB := n3_; have BK167 := n4_; have GW167 := n5_; have GE167 := n6_; have NB164_167 := n7_; have NB167_164 := n8_; have NB165_167 := n9_; have NB167_165 := n10_; have NB166_167 := n11_; have NB167_166 := n12_; clear n0_ n1_ n2_ n3_ n4_ n5_ n6_ n7_ n8_ n9_ n10_ n11_ n12_; clear hb hbox hg) | ((with_reducible refine gate_dst (N := 7) rfl ?_); refine box_event ?hg (N := 7) ?hd (cs := #[.bool false, .bool false, .bool false, .bool false, .bool false, .bool false, .bool false, .bool false, .bool false, .bool false, .bool false, .bool false, .bool false, .bool false, .bool false, .bool false]) (t := 36) ?hr ?_; (case hd => rfl); (case hg => rfl); (case hr => first | (go_simp; done) | (go_simp; rfl)); intro gb168 hg w7 hbox hb; have n0_ := Aside0.mk (blk_below (g := gb164) (o := .cells #[.int .i64 a0_0, .int .i64 a0_1, .int .i64 a0_2, .int .i64 a0_3, .int .i64 a0_4, .int .i64 a0_5, .int .i64 a0_6, .int .i64 a0_7, .int .i64 a0_8, .int .i64 a0_9, .int .i64 a0_10, .int .i64 a0_11, .int .i64 a0_12, .int .i64 a0_13, .int .i64 a0_14, .int .i64 a0_15] 23 (0, 0)) (by (with_reducible repeat (first | refine blk_drewN ?_ _ | refine blk_drew ?_ | refine blk_alloc ?_ _)); exact BK164.out) hb); have n1_ := Aside0.mk (blk_below (g := gb165) (o := .cells #[.int .i64 0, .int .i64 0, .int .i64 0, .int .i64 0] 22 (0, 0)) (by (with_reducible repeat (first | refine blk_drewN ?_ _ | refine blk_drew ?_ | refine blk_alloc ?_ _)); exact BK165.out) hb); have n2_ := Aside0.mk (blk_below (g := gb166) (o := .cells #[.bool false, .bool false, .bool false, .bool false, .bool false, .bool false, .bool false, .bool false, .bool false, .bool false, .bool false, .bool false, .bool false, .bool false, .bool false, .bool false] 36 (0, 0)) (by (with_reducible repeat (first | refine blk_drewN ?_ _ | refine blk_drew ?_ | refine blk_alloc ?_ _)); exact BK166.out) hb); have n3_ := Aside0.mk (blk_below (g := gb167) (o := .cells #[.int .i64 0, .int .i64 0, .int .i64 0, .int .i64 0] 22 (0, 0)) (by (with_reducible repeat (first | refine blk_drewN ?_ _ | refine blk_drew ?_ | refine blk_alloc ?_ _)); exact BK167.out) hb); have n4_ := Aside0.mk (below_step (by repeat (first | (with_reducible first | exact HB.out | apply below_alloc | apply pw_below_drewN | apply below_drew1 | refine below_set ?_ GE164.out | refine below_set ?_ GE165.out | refine below_set ?_ GE166.out | refine below_set ?_ GE167.out) | exact HB.out)) hb); have n5_ := Aside0.mk (hbox); have n6_ := Aside0.mk ((by rw [hg]; exact (below_size (by repeat (first | (with_reducible first | exact HB.out | apply below_alloc | apply pw_below_drewN | apply below_drew1 | refine below_set ?_ GE164.out | refine below_set ?_ GE165.out | refine below_set ?_ GE166.out | refine below_set ?_ GE167.out) | exact HB.out))) : w.heap.size ≤ gb168)); have n7_ := Aside0.mk ((by rw [hg]; exact (below_size (by repeat (first | (with_reducible first | exact HB.out | apply below_alloc | apply pw_below_drewN | apply below_drew1 | refine below_set ?_ GE164.out | refine below_set ?_ GE165.out | refine below_set ?_ GE166.out | refine below_set ?_ GE167.out) | exact HB.out))) : w.heap.size ≤ gb168)); have n8_ := Aside0.mk ((by rw [hg]; exact Nat.ne_of_lt (blk_lt (g := gb164) (o := .cells #[.int .i64 a0_0, .int .i64 a0_1, .int .i64 a0_2, .int .i64 a0_3, .int .i64 a0_4, .int .i64 a0_5, .int .i64 a0_6, .int .i64 a0_7, .int .i64 a0_8, .int .i64 a0_9, .int .i64 a0_10, .int .i64 a0_11, .int .i64 a0_12, .int .i64 a0_13, .int .i64 a0_14, .int .i64 a0_15] 23 (0, 0)) (by (with_reducible repeat (first | refine blk_drewN ?_ _ | refine blk_drew ?_ | refine blk_alloc ?_ _)); exact BK164.out)) : gb164 ≠ gb168)); have n9_ := Aside0.mk ((by rw [hg]; exact Nat.ne_of_gt (blk_lt (g := gb164) (o := .cells #[.int .i64 a0_0, .int .i64 a0_1, .int .i64 a0_2, .int .i64 a0_3, .int .i64 a0_4, .int .i64 a0_5, .int .i64 a0_6, .int .i64 a0_7, .int .i64 a0_8, .int .i64 a0_9, .int .i64 a0_10, .int .i64 a0_11, .int .i64 a0_12, .int .i64 a0_13, .int .i64 a0_14, .int .i64 a0_15] 23 (0, 0)) (by (with_reducible repeat (first | refine blk_drewN ?_ _ | refine blk_drew ?_ | refine blk_alloc ?_ _)); exact BK164.out)) : gb168 ≠ gb164)); have n10_ := Aside0.mk ((by rw [hg]; exact Nat.ne_of_lt (blk_lt (g := gb165) (o := .cells #[.int .i64 0, .int .i64 0, .int .i64 0, .int .i64 0] 22 (0, 0)) (by (with_reducible repeat (first | refine blk_drewN ?_ _ | refine blk_drew ?_ | refine blk_alloc ?_ _)); exact BK165.out)) : gb165 ≠ gb168)); have n11_ := Aside0.mk ((by rw [hg]; exact Nat.ne_of_gt (blk_lt (g := gb165) (o := .cells #[.int .i64 0, .int .i64 0, .int .i64 0, .int .i64 0] 22 (0, 0)) (by (with_reducible repeat (first | refine blk_drewN ?_ _ | refine blk_drew ?_ | refine blk_alloc ?_ _)); exact BK165.out)) : gb168 ≠ gb165)); have n12_ := Aside0.mk ((by rw [hg]; exact Nat.ne_of_lt (blk_lt (g := gb166) (o := .cells #[.bool false, .bool false, .bool false, .bool false, .bool false, .bool false, .bool false, .bool false, .bool false, .bool false, .bool false, .bool false, .bool false, .bool false, .bool false, .bool false] 36 (0, 0)) (by (with_reducible repeat (first | refine blk_drewN ?_ _ | refine blk_drew ?_ | refine blk_alloc ?_ _)); exact BK166.out)) : gb166 ≠ gb168)); have n13_ := Aside0.mk ((by rw [hg]; exact Nat.ne_of_gt (blk_lt (g := gb166) (o := .cells #[.bool false, .bool false, .bool false, .bool false, .bool false, .bool false, .bool false, .bool false, .bool false, .bool false, .bool false, .bool false, .bool false, .bool false, .bool false, .bool false] 36 (0, 0)) (by (with_reducible repeat (first | refine blk_drewN ?_ _ | refine blk_drew ?_ | refine blk_alloc ?_ _)); exact BK166.out)) : gb168 ≠ gb166)); have n14_ := Aside0.mk ((by rw [hg]; exact Nat.ne_of_lt (blk_lt (g := gb167) (o := .cells #[.int .i64 0, .int .i64 0, .int .i64 0, .int .i64 0] 22 (0, 0)) (by (with_reducible repeat (first | refine blk_drewN ?_ _ | refine blk_drew ?_ | refine blk_alloc ?_ _)); exact BK167.out)) : gb167 ≠ gb168)); have n15_ := Aside0.mk ((by rw [hg]; exact Nat.ne_of_gt (blk_lt (g := gb167) (o := .cells #[.int .i64 0, .int .i64 0, .int .i64 0, .int .i64 0] 22 (0, 0)) (by (with_reducible repeat (first | refine blk_drewN ?_ _ | refine blk_drew ?_ | refine blk_alloc ?_ _)); exact BK167.out)) : gb168 ≠ gb167)); clear BK164; clear BK165; clear BK166; clear BK167; clear HB; have BK164 := n0_; have BK165 := n1_; have BK166 := n2_; have BK167 := n3_; have HB := n4_; have BK168 := n5_; have GW168 := n6_; have GE168 := n7_; have NB164_168 := n8_; have NB168_164 := n9_; have NB165_168 := n10_; have NB168_165 := n11_; have NB166_168 := n12_; have NB168_166 := n13_; have NB167_168 := n14_; have NB168_167 := n15_; clear n0_ n1_ n2_ n3_ n4_ n5_ n6_ n7_ n8_ n9_ n10_ n11_ n12_ n13_ n14_ n15_; clear hb hbox hg))
 go_loopg [8] k (fun kq v8 w' => ∃ (x8_1 : Int) (x168000_1 : Int) (x168001_1 : Int) (x168002_1 : Int) (x168003_1 : Int), v8 = .int .i64 x8_1 ∧ Aside0 (watchwordlaw21_ways.l0 kq a1 x8_1 a0_0 a0_1 a0_2 a0_3 a0_4 a0_5 a0_6 a0_7 a0_8 a0_9 a0_10 a0_11 a0_12 a0_13 a0_14 a0_15 x168000_1 x168001_1 x168002_1 x168003_1 false false false false false false false false false false false false false false false false = some (r1, r2, r3, r4, r5, r6, r7, r8, r9, r10, r11, r12, r13, r14, r15, r16, r17, r18, r19, r20)) ∧ Aside0 (kq ≤ k) ∧ Aside0 (w'.heap[gb164]? = some (.cells #[.int .i64 a0_0, .int .i64 a0_1, .int .i64 a0_2, .int .i64 a0_3, .int .i64 a0_4, .int .i64 a0_5, .int .i64 a0_6, .int .i64 a0_7, .int .i64 a0_8, .int .i64 a0_9, .int .i64 a0_10, .int .i64 a0_11, .int .i64 a0_12, .int .i64 a0_13, .int .i64 a0_14, .int .i64 a0_15] 23 (0, 0))) ∧ Aside0 (w'.heap[gb165]? = some (.cells #[.int .i64 0, .int .i64 0, .int .i64 0, .int .i64 0] 22 (0, 0))) ∧ Aside0 (w'.heap[gb166]? = some (.cells #[.bool false, .bool false, .bool false, .bool false, .bool false, .bool false, .bool false, .bool false, .bool false, .bool false, .bool false, .bool false, .bool false, .bool false, .bool false, .bool false] 36 (0, 0))) ∧ Aside0 (w'.heap[gb167]? = some (.cells #[.int .i64 x168000_1, .int .i64 x168001_1, .int .i64 x168002_1, .int .i64 x168003_1] 22 (0, 0))) ∧ Aside0 (w'.heap[gb168]? = some (.cells #[.bool false, .bool false, .bool false, .bool false, .bool false, .bool false, .bool false, .bool false, .bool false, .bool false, .bool false, .bool false, .bool false, .bool false, .bool false, .bool false] 36 (0, 0))) ∧ Aside0 (Below w.heap.size w w'))
 case atStart => exact ⟨(0), (0), (0), (0), (0), (by first | rfl | (simp; done) | (simp [*]; done)), H', ⟨Nat.le_refl _⟩, ⟨by (with_reducible repeat (first | refine blk_drewN ?_ _ | refine blk_drew ?_ | refine blk_alloc ?_ _)); exact BK164.out⟩, ⟨by (with_reducible repeat (first | refine blk_drewN ?_ _ | refine blk_drew ?_ | refine blk_alloc ?_ _)); exact BK165.out⟩, ⟨by (with_reducible repeat (first | refine blk_drewN ?_ _ | refine blk_drew ?_ | refine blk_alloc ?_ _)); exact BK166.out⟩, ⟨by (with_reducible repeat (first | refine blk_drewN ?_ _ | refine blk_drew ?_ | refine blk_alloc ?_ _)); exact BK167.out⟩, ⟨by (with_reducible repeat (first | refine blk_drewN ?_ _ | refine blk_drew ?_ | refine blk_alloc ?_ _)); exact BK168.out⟩, ⟨by repeat (first | (with_reducible first | exact HB.out | apply below_alloc | apply pw_below_drewN | apply below_drew1 | refine below_set ?_ GE164.out | refine below_set ?_ GE165.out | refine below_set ?_ GE166.out | refine below_set ?_ GE167.out | refine below_set ?_ GE168.out) | exact HB.out)⟩⟩
 case round =>
  clear H'
  try clear c1
  try clear p2
  obtain ⟨x8_1, x168000_1, x168001_1, x168002_1, x168003_1, rfl, HA, HK1, BK164, BK165, BK166, BK167, BK168, HB⟩ := hrel
  cases gk with
  | zero => exact absurd HA.out (by simp [watchwordlaw21_ways.l0])
  | succ k1 =>
   have H := HA.out
   clear HA
   simp only [watchwordlaw21_ways.l0] at H
   by_cases c8 : x8_1 < 4
   ·rw [if_pos c8] at H
    have c8b0 : decide (x8_1 < 4) = true := decide_eq_true c8
    clear c8
    by_cases c9 : 0 ≤ x8_1
    ·rw [if_pos c9] at H
     have c9b0 : decide (0 ≤ x8_1) = true := decide_eq_true c9
     clear c9
     have H' := Aside0.mk H
     clear H
     have p10 : (0 ≤ (x8_1 : Int)) = True := eq_true (of_decide_eq_true (by first | (with_reducible assumption) | assumption))
     have q10 : ((x8_1 : Int) < 4) = True := eq_true (of_decide_eq_true (by first | (with_reducible assumption) | assumption))
     have hs11 : wr.cell? ⟨gb167, x8_1.toNat, none⟩ = some (.int .i64 (ix4 x168000_1 x168001_1 x168002_1 x168003_1 x8_1)) := (blk_cell BK167.out (x8_1.toNat)).trans (ix_4 (Value.int .i64) _ _ _ _ x8_1 (of_decide_eq_true (by first | (with_reducible assumption) | assumption)) (of_decide_eq_true (by first | (with_reducible assumption) | assumption)))
     have hfs11 := blk_frozen BK167.out (x8_1.toNat)
     go_wp2_with (first | ((with_reducible refine gate_store (t := 3) (p := 19) rfl ?_); refine store_event (t := 3) (p := 19) (v := ?vo_w12) (w1 := (wr.setCell ⟨gb167, x8_1.toNat, none⟩ (.int .i64 (-1)))) ?hg ?ho ?hn ?hr ?_; (case ho => rfl); (case hg => rfl); (case hn => rfl); (case hr => first | (go_simp; done) | (go_simp; rfl)); intro w12 hw; have n0_ : Aside0 (w12.heap[gb164]? = some (.cells #[.int .i64 a0_0, .int .i64 a0_1, .int .i64 a0_2, .int .i64 a0_3, .int .i64 a0_4, .int .i64 a0_5, .int .i64 a0_6, .int .i64 a0_7, .int .i64 a0_8, .int .i64 a0_9, .int .i64 a0_10, .int .i64 a0_11, .int .i64 a0_12, .int .i64 a0_13, .int .i64 a0_14, .int .i64 a0_15] 23 (0, 0))) := ⟨(by rw [hw]; exact (by (with_reducible repeat (first | refine blk_drewN ?_ _ | refine blk_drew ?_ | refine blk_alloc ?_ _)); refine blk_far ?_ NB164_167.out _; (with_reducible repeat (first | refine blk_drewN ?_ _ | refine blk_drew ?_ | refine blk_alloc ?_ _)); exact BK164.out))⟩; have n1_ : Aside0 (w12.heap[gb165]? = some (.cells #[.int .i64 0, .int .i64 0, .int .i64 0, .int .i64 0] 22 (0, 0))) := ⟨(by rw [hw]; exact (by (with_reducible repeat (first | refine blk_drewN ?_ _ | refine blk_drew ?_ | refine blk_alloc ?_ _)); refine blk_far ?_ NB165_167.out _; (with_reducible repeat (first | refine blk_drewN ?_ _ | refine blk_drew ?_ | refine blk_alloc ?_ _)); exact BK165.out))⟩; have n2_ : Aside0 (w12.heap[gb166]? = some (.cells #[.bool false, .bool false, .bool false, .bool false, .bool false, .bool false, .bool false, .bool false, .bool false, .bool false, .bool false, .bool false, .bool false, .bool false, .bool false, .bool false] 36 (0, 0))) := ⟨(by rw [hw]; exact (by (with_reducible repeat (first | refine blk_drewN ?_ _ | refine blk_drew ?_ | refine blk_alloc ?_ _)); refine blk_far ?_ NB166_167.out _; (with_reducible repeat (first | refine blk_drewN ?_ _ | refine blk_drew ?_ | refine blk_alloc ?_ _)); exact BK166.out))⟩; have n3_ : Aside0 (w12.heap[gb167]? = some (.cells #[.int .i64 (up (x8_1 == 0) (-1) x168000_1), .int .i64 (up (x8_1 == 1) (-1) x168001_1), .int .i64 (up (x8_1 == 2) (-1) x168002_1), .int .i64 (up (x8_1 == 3) (-1) x168003_1)] 22 (0, 0))) := ⟨(by rw [hw]; exact (by (with_reducible repeat (first | refine blk_drewN ?_ _ | refine blk_drew ?_ | refine blk_alloc ?_ _)); refine blk_put (cs := #[.int .i64 x168000_1, .int .i64 x168001_1, .int .i64 x168002_1, .int .i64 x168003_1]) ?_ (x8_1.toNat) _ (up_4 (Value.int .i64) _ _ _ _ x8_1 (-1) (of_decide_eq_true (by first | (with_reducible assumption) | assumption)) (of_decide_eq_true (by first | (with_reducible assumption) | assumption))); (with_reducible repeat (first | refine blk_drewN ?_ _ | refine blk_drew ?_ | refine blk_alloc ?_ _)); exact BK167.out))⟩; have n4_ : Aside0 (w12.heap[gb168]? = some (.cells #[.bool false, .bool false, .bool false, .bool false, .bool false, .bool false, .bool false, .bool false, .bool false, .bool false, .bool false, .bool false, .bool false, .bool false, .bool false, .bool false] 36 (0, 0))) := ⟨(by rw [hw]; exact (by (with_reducible repeat (first | refine blk_drewN ?_ _ | refine blk_drew ?_ | refine blk_alloc ?_ _)); refine blk_far ?_ NB168_167.out _; (with_reducible repeat (first | refine blk_drewN ?_ _ | refine blk_drew ?_ | refine blk_alloc ?_ _)); exact BK168.out))⟩; have n5_ : Aside0 (Below w.heap.size w w12) := ⟨(by rw [hw]; exact (by repeat (first | (with_reducible first | exact HB.out | apply below_alloc | apply pw_below_drewN | apply below_drew1 | refine below_set ?_ GE164.out | refine below_set ?_ GE165.out | refine below_set ?_ GE166.out | refine below_set ?_ GE167.out | refine below_set ?_ GE168.out) | exact HB.out)))⟩; clear hw; clear BK164; clear BK165; clear BK166; clear BK167; clear BK168; clear HB; have BK164 := n0_; have BK165 := n1_; have BK166 := n2_; have BK167 := n3_; have BK168 := n4_; have HB := n5_; clear n0_ n1_ n2_ n3_ n4_ n5_))
     go_roundg k1
     case measure => have := HK1.out; omega
     case rel => exact ⟨(wrap64 (x8_1 + 1)), (up (x8_1 == 0) (-1) x168000_1), (up (x8_1 == 1) (-1) x168001_1), (up (x8_1 == 2) (-1) x168002_1), (up (x8_1 == 3) (-1) x168003_1), (by first | rfl | (simp; done) | (simp [*]; done)), H', ⟨by have := HK1.out; omega⟩, ⟨by (with_reducible repeat (first | refine blk_drewN ?_ _ | refine blk_drew ?_ | refine blk_alloc ?_ _)); exact BK164.out⟩, ⟨by (with_reducible repeat (first | refine blk_drewN ?_ _ | refine blk_drew ?_ | refine blk_alloc ?_ _)); exact BK165.out⟩, ⟨by (with_reducible repeat (first | refine blk_drewN ?_ _ | refine blk_drew ?_ | refine blk_alloc ?_ _)); exact BK166.out⟩, ⟨by (with_reducible repeat (first | refine blk_drewN ?_ _ | refine blk_drew ?_ | refine blk_alloc ?_ _)); exact BK167.out⟩, ⟨by (with_reducible repeat (first | refine blk_drewN ?_ _ | refine blk_drew ?_ | refine blk_alloc ?_ _)); exact BK168.out⟩, ⟨by repeat (first | (with_reducible first | exact HB.out | apply below_alloc | apply pw_below_drewN | apply below_drew1 | refine below_set ?_ GE164.out | refine below_set ?_ GE165.out | refine below_set ?_ GE166.out | refine below_set ?_ GE167.out | refine below_set ?_ GE168.out) | exact HB.out)⟩⟩
    ·rw [if_neg c9] at H
     exact absurd H (by simp)
   ·rw [if_neg c8] at H
    have c8b0 : decide (x8_1 < 4) = false := decide_eq_false c8
    clear c8
    have H' := Aside0.mk H
    clear H
    go_wp2
    go_loopg [9] k1 (fun kq v9 w' => ∃ (x9_2 : Int) (x168000_2 : Int) (x168001_2 : Int) (x168002_2 : Int) (x168003_2 : Int) (x169000_2 : Bool) (x169001_2 : Bool) (x169002_2 : Bool) (x169003_2 : Bool) (x169004_2 : Bool) (x169005_2 : Bool) (x169006_2 : Bool) (x169007_2 : Bool) (x169008_2 : Bool) (x169009_2 : Bool) (x169010_2 : Bool) (x169011_2 : Bool) (x169012_2 : Bool) (x169013_2 : Bool) (x169014_2 : Bool) (x169015_2 : Bool), v9 = .int .i64 x9_2 ∧ Aside0 (watchwordlaw21_ways.l1 kq a1 x9_2 a0_0 a0_1 a0_2 a0_3 a0_4 a0_5 a0_6 a0_7 a0_8 a0_9 a0_10 a0_11 a0_12 a0_13 a0_14 a0_15 x168000_2 x168001_2 x168002_2 x168003_2 x169000_2 x169001_2 x169002_2 x169003_2 x169004_2 x169005_2 x169006_2 x169007_2 x169008_2 x169009_2 x169010_2 x169011_2 x169012_2 x169013_2 x169014_2 x169015_2 = some (r1, r2, r3, r4, r5, r6, r7, r8, r9, r10, r11, r12, r13, r14, r15, r16, r17, r18, r19, r20)) ∧ Aside0 (kq ≤ k1) ∧ Aside0 (w'.heap[gb164]? = some (.cells #[.int .i64 a0_0, .int .i64 a0_1, .int .i64 a0_2, .int .i64 a0_3, .int .i64 a0_4, .int .i64 a0_5, .int .i64 a0_6, .int .i64 a0_7, .int .i64 a0_8, .int .i64 a0_9, .int .i64 a0_10, .int .i64 a0_11, .int .i64 a0_12, .int .i64 a0_13, .int .i64 a0_14, .int .i64 a0_15] 23 (0, 0))) ∧ Aside0 (w'.heap[gb165]? = some (.cells #[.int .i64 0, .int .i64 0, .int .i64 0, .int .i64 0] 22 (0, 0))) ∧ Aside0 (w'.heap[gb166]? = some (.cells #[.bool false, .bool false, .bool false, .bool false, .bool false, .bool false, .bool false, .bool false, .bool false, .bool false, .bool false, .bool false, .bool false, .bool false, .bool false, .bool false] 36 (0, 0))) ∧ Aside0 (w'.heap[gb167]? = some (.cells #[.int .i64 x168000_2, .int .i64 x168001_2, .int .i64 x168002_2, .int .i64 x168003_2] 22 (0, 0))) ∧ Aside0 (w'.heap[gb168]? = some (.cells #[.bool x169000_2, .bool x169001_2, .bool x169002_2, .bool x169003_2, .bool x169004_2, .bool x169005_2, .bool x169006_2, .bool x169007_2, .bool x169008_2, .bool x169009_2, .bool x169010_2, .bool x169011_2, .bool x169012_2, .bool x169013_2, .bool x169014_2, .bool x169015_2] 36 (0, 0))) ∧ Aside0 (Below w.heap.size w w'))
    case atStart => exact ⟨(0), (x168000_1), (x168001_1), (x168002_1), (x168003_1), (false), (false), (false), (false), (false), (false), (false), (false), (false), (false), (false), (false), (false), (false), (false), (false), (by first | rfl | (simp; done) | (simp [*]; done)), H', ⟨Nat.le_refl _⟩, ⟨by (with_reducible repeat (first | refine blk_drewN ?_ _ | refine blk_drew ?_ | refine blk_alloc ?_ _)); exact BK164.out⟩, ⟨by (with_reducible repeat (first | refine blk_drewN ?_ _ | refine blk_drew ?_ | refine blk_alloc ?_ _)); exact BK165.out⟩, ⟨by (with_reducible repeat (first | refine blk_drewN ?_ _ | refine blk_drew ?_ | refine blk_alloc ?_ _)); exact BK166.out⟩, ⟨by (with_reducible repeat (first | refine blk_drewN ?_ _ | refine blk_drew ?_ | refine blk_alloc ?_ _)); exact BK167.out⟩, ⟨by (with_reducible repeat (first | refine blk_drewN ?_ _ | refine blk_drew ?_ | refine blk_alloc ?_ _)); exact BK168.out⟩, ⟨by repeat (first | (with_reducible first | exact HB.out | apply below_alloc | apply pw_below_drewN | apply below_drew1 | refine below_set ?_ GE164.out | refine below_set ?_ GE165.out | refine below_set ?_ GE166.out | refine below_set ?_ GE167.out | refine below_set ?_ GE168.out) | exact HB.out)⟩⟩
    case round =>
     clear H'
     try clear c1
     try clear p1
     try clear q1
     try clear p2
     try clear p6
     try clear c8
     try clear c8b0
     try clear c9
     try clear c9b0
     try clear p10
     try clear q10
     try clear p10
     try clear p2
     try clear q10
     obtain ⟨x9_2, x168000_2, x168001_2, x168002_2, x168003_2, x169000_2, x169001_2, x169002_2, x169003_2, x169004_2, x169005_2, x169006_2, x169007_2, x169008_2, x169009_2, x169010_2, x169011_2, x169012_2, x169013_2, x169014_2, x169015_2, rfl, HA, HK2, BK164, BK165, BK166, BK167, BK168, HB⟩ := hrel
     cases gk with
     | zero => exact absurd HA.out (by simp [watchwordlaw21_ways.l1])
     | succ k2 =>
      have H := HA.out
      clear HA
      simp only [watchwordlaw21_ways.l1] at H
      by_cases c13 : x9_2 < 64
      ·rw [if_pos c13] at H
       have c13b0 : decide (x9_2 < 64) = true := decide_eq_true c13
       clear c13
       have HC14 := Aside0.mk H
       clear H
       go_upto_region 11 with (fail)
       go_cut [67] (fun v67 wc => ∃ (kq : Nat) (x67_13 : Bool), v67 = .bool x67_13 ∧ Aside0 (watchwordlaw21_ways.j2 kq a1 x9_2 (Go.bits .and .i64 x9_2 3) (Go.bits .and .i64 (x9_2 / 4) 3) (x9_2 / 16) x67_13 a0_0 a0_1 a0_2 a0_3 a0_4 a0_5 a0_6 a0_7 a0_8 a0_9 a0_10 a0_11 a0_12 a0_13 a0_14 a0_15 x168000_2 x168001_2 x168002_2 x168003_2 x169000_2 x169001_2 x169002_2 x169003_2 x169004_2 x169005_2 x169006_2 x169007_2 x169008_2 x169009_2 x169010_2 x169011_2 x169012_2 x169013_2 x169014_2 x169015_2 = some (r1, r2, r3, r4, r5, r6, r7, r8, r9, r10, r11, r12, r13, r14, r15, r16, r17, r18, r19, r20)) ∧ Aside0 (kq ≤ k2) ∧ Aside0 (wc.heap[gb164]? = some (.cells #[.int .i64 a0_0, .int .i64 a0_1, .int .i64 a0_2, .int .i64 a0_3, .int .i64 a0_4, .int .i64 a0_5, .int .i64 a0_6, .int .i64 a0_7, .int .i64 a0_8, .int .i64 a0_9, .int .i64 a0_10, .int .i64 a0_11, .int .i64 a0_12, .int .i64 a0_13, .int .i64 a0_14, .int .i64 a0_15] 23 (0, 0))) ∧ Aside0 (wc.heap[gb165]? = some (.cells #[.int .i64 0, .int .i64 0, .int .i64 0, .int .i64 0] 22 (0, 0))) ∧ Aside0 (wc.heap[gb166]? = some (.cells #[.bool false, .bool false, .bool false, .bool false, .bool false, .bool false, .bool false, .bool false, .bool false, .bool false, .bool false, .bool false, .bool false, .bool false, .bool false, .bool false] 36 (0, 0))) ∧ Aside0 (wc.heap[gb167]? = some (.cells #[.int .i64 x168000_2, .int .i64 x168001_2, .int .i64 x168002_2, .int .i64 x168003_2] 22 (0, 0))) ∧ Aside0 (wc.heap[gb168]? = some (.cells #[.bool x169000_2, .bool x169001_2, .bool x169002_2, .bool x169003_2, .bool x169004_2, .bool x169005_2, .bool x169006_2, .bool x169007_2, .bool x169008_2, .bool x169009_2, .bool x169010_2, .bool x169011_2, .bool x169012_2, .bool x169013_2, .bool x169014_2, .bool x169015_2] 36 (0, 0))) ∧ Aside0 (Below w.heap.size w wc))
       case first =>
        have H := HC14.out
        clear HC14
        by_cases c15 : (Go.bits .and .i64 x9_2 3) = a1
        ·rw [if_pos c15] at H
         have c15b0 : ((Go.bits .and .i64 x9_2 3) == a1) = true := beq_iff_eq.mpr c15
         have c15b1 : ((Go.bits .and .i64 x9_2 3) != a1) = false := bne_eq_false_iff_eq.mpr c15
         clear c15
         (first | rw [c15b0] | (simp only [i64_w, i32_w]; rw [c15b0]) | skip)
         have H' := Aside0.mk H
         clear H
         go_wp2
         go_meet
         case rel => exact ⟨_, (true), (by first | rfl | (simp; done) | (simp [*]; done)), H', ⟨by have := HK1.out; have := HK2.out; first | omega | exact Nat.le_refl _⟩, ⟨by (with_reducible repeat (first | refine blk_drewN ?_ _ | refine blk_drew ?_ | refine blk_alloc ?_ _)); exact BK164.out⟩, ⟨by (with_reducible repeat (first | refine blk_drewN ?_ _ | refine blk_drew ?_ | refine blk_alloc ?_ _)); exact BK165.out⟩, ⟨by (with_reducible repeat (first | refine blk_drewN ?_ _ | refine blk_drew ?_ | refine blk_alloc ?_ _)); exact BK166.out⟩, ⟨by (with_reducible repeat (first | refine blk_drewN ?_ _ | refine blk_drew ?_ | refine blk_alloc ?_ _)); exact BK167.out⟩, ⟨by (with_reducible repeat (first | refine blk_drewN ?_ _ | refine blk_drew ?_ | refine blk_alloc ?_ _)); exact BK168.out⟩, ⟨by repeat (first | (with_reducible first | exact HB.out | apply below_alloc | apply pw_below_drewN | apply below_drew1 | refine below_set ?_ GE164.out | refine below_set ?_ GE165.out | refine below_set ?_ GE166.out | refine below_set ?_ GE167.out | refine below_set ?_ GE168.out) | exact HB.out)⟩⟩
        ·rw [if_neg c15] at H
         have c15b0 : ((Go.bits .and .i64 x9_2 3) == a1) = false := beq_eq_false_iff_ne.mpr c15
         have c15b1 : ((Go.bits .and .i64 x9_2 3) != a1) = true := bne_iff_ne.mpr c15
         (first | rw [c15b0] | (simp only [i64_w, i32_w]; rw [c15b0]) | skip)
         by_cases c16 : 0 ≤ a1
         ·rw [if_pos c16] at H
          have c16b0 : decide (0 ≤ a1) = true := decide_eq_true c16
          clear c16
          by_cases c17 : a1 < 4
          ·rw [if_pos c17] at H
           have c17b0 : decide (a1 < 4) = true := decide_eq_true c17
           clear c17
           by_cases c18 : 0 ≤ (Go.bits .and .i64 x9_2 3)
           ·rw [if_pos c18] at H
            have c18b0 : decide (0 ≤ (Go.bits .and .i64 x9_2 3)) = true := decide_eq_true c18
            clear c18
            by_cases c19 : (Go.bits .and .i64 x9_2 3) < 4
            ·rw [if_pos c19] at H
             have c19b0 : decide ((Go.bits .and .i64 x9_2 3) < 4) = true := decide_eq_true c19
             clear c19
             by_cases c20 : (ix4 (ix4 a0_0 a0_1 a0_2 a0_3 (Go.bits .and .i64 x9_2 3)) (ix4 a0_4 a0_5 a0_6 a0_7 (Go.bits .and .i64 x9_2 3)) (ix4 a0_8 a0_9 a0_10 a0_11 (Go.bits .and .i64 x9_2 3)) (ix4 a0_12 a0_13 a0_14 a0_15 (Go.bits .and .i64 x9_2 3)) a1) ≤ 0
             ·rw [if_pos c20] at H
              have c20b0 : decide ((ix4 (ix4 a0_0 a0_1 a0_2 a0_3 (Go.bits .and .i64 x9_2 3)) (ix4 a0_4 a0_5 a0_6 a0_7 (Go.bits .and .i64 x9_2 3)) (ix4 a0_8 a0_9 a0_10 a0_11 (Go.bits .and .i64 x9_2 3)) (ix4 a0_12 a0_13 a0_14 a0_15 (Go.bits .and .i64 x9_2 3)) a1) ≤ 0) = true := decide_eq_true c20
              clear c20
              have H' := Aside0.mk H
              clear H
              have p21 : (0 ≤ (a1 : Int)) = True := eq_true (of_decide_eq_true (by first | (with_reducible assumption) | assumption))
              have q21 : ((a1 : Int) < 4) = True := eq_true (of_decide_eq_true (by first | (with_reducible assumption) | assumption))
              have p22 : (0 ≤ ((Go.bits .and .i64 x9_2 3) : Int)) = True := eq_true (of_decide_eq_true (by first | (with_reducible assumption) | assumption))
              have q22 : (((Go.bits .and .i64 x9_2 3) : Int) < 4) = True := eq_true (of_decide_eq_true (by first | (with_reducible assumption) | assumption))
              have hx23_0 : wr.cell? ⟨gb164, a1.toNat * 4 + (Go.bits .and .i64 x9_2 3).toNat, none⟩ = some (.int .i64 (ix4 (ix4 a0_0 a0_1 a0_2 a0_3 (Go.bits .and .i64 x9_2 3)) (ix4 a0_4 a0_5 a0_6 a0_7 (Go.bits .and .i64 x9_2 3)) (ix4 a0_8 a0_9 a0_10 a0_11 (Go.bits .and .i64 x9_2 3)) (ix4 a0_12 a0_13 a0_14 a0_15 (Go.bits .and .i64 x9_2 3)) a1)) := (blk_cell BK164.out (a1.toNat * 4 + (Go.bits .and .i64 x9_2 3).toNat)).trans (ix_44 (Value.int .i64) _ _ _ _ _ _ _ _ _ _ _ _ _ _ _ _ a1 (Go.bits .and .i64 x9_2 3)  (of_decide_eq_true (by first | (with_reducible assumption) | assumption)) (of_decide_eq_true (by first | (with_reducible assumption) | assumption))  (of_decide_eq_true (by first | (with_reducible assumption) | assumption)) (of_decide_eq_true (by first | (with_reducible assumption) | assumption)))
              go_wp2
              go_meet
              case rel => exact ⟨_, (true), (by first | rfl | (simp; done) | (simp [*]; done)), H', ⟨by have := HK1.out; have := HK2.out; first | omega | exact Nat.le_refl _⟩, ⟨by (with_reducible repeat (first | refine blk_drewN ?_ _ | refine blk_drew ?_ | refine blk_alloc ?_ _)); exact BK164.out⟩, ⟨by (with_reducible repeat (first | refine blk_drewN ?_ _ | refine blk_drew ?_ | refine blk_alloc ?_ _)); exact BK165.out⟩, ⟨by (with_reducible repeat (first | refine blk_drewN ?_ _ | refine blk_drew ?_ | refine blk_alloc ?_ _)); exact BK166.out⟩, ⟨by (with_reducible repeat (first | refine blk_drewN ?_ _ | refine blk_drew ?_ | refine blk_alloc ?_ _)); exact BK167.out⟩, ⟨by (with_reducible repeat (first | refine blk_drewN ?_ _ | refine blk_drew ?_ | refine blk_alloc ?_ _)); exact BK168.out⟩, ⟨by repeat (first | (with_reducible first | exact HB.out | apply below_alloc | apply pw_below_drewN | apply below_drew1 | refine below_set ?_ GE164.out | refine below_set ?_ GE165.out | refine below_set ?_ GE166.out | refine below_set ?_ GE167.out | refine below_set ?_ GE168.out) | exact HB.out)⟩⟩
             ·rw [if_neg c20] at H
              have c20b0 : decide ((ix4 (ix4 a0_0 a0_1 a0_2 a0_3 (Go.bits .and .i64 x9_2 3)) (ix4 a0_4 a0_5 a0_6 a0_7 (Go.bits .and .i64 x9_2 3)) (ix4 a0_8 a0_9 a0_10 a0_11 (Go.bits .and .i64 x9_2 3)) (ix4 a0_12 a0_13 a0_14 a0_15 (Go.bits .and .i64 x9_2 3)) a1) ≤ 0) = false := decide_eq_false c20
              clear c20
              by_cases c24 : (Go.bits .and .i64 (x9_2 / 4) 3) = (Go.bits .and .i64 x9_2 3)
              ·rw [if_pos c24] at H
               have c24b0 : ((Go.bits .and .i64 (x9_2 / 4) 3) == (Go.bits .and .i64 x9_2 3)) = true := beq_iff_eq.mpr c24
               have c24b1 : ((Go.bits .and .i64 (x9_2 / 4) 3) != (Go.bits .and .i64 x9_2 3)) = false := bne_eq_false_iff_eq.mpr c24
               clear c24
               by_cases c25 : (x9_2 / 16) = (Go.bits .and .i64 (x9_2 / 4) 3)
               ·rw [if_pos c25] at H
                have c25b0 : ((x9_2 / 16) == (Go.bits .and .i64 (x9_2 / 4) 3)) = true := beq_iff_eq.mpr c25
                have c25b1 : ((x9_2 / 16) != (Go.bits .and .i64 (x9_2 / 4) 3)) = false := bne_eq_false_iff_eq.mpr c25
                clear c25
                have H' := Aside0.mk H
                clear H
                have p26 : (0 ≤ (a1 : Int)) = True := eq_true (of_decide_eq_true (by first | (with_reducible assumption) | assumption))
                have q26 : ((a1 : Int) < 4) = True := eq_true (of_decide_eq_true (by first | (with_reducible assumption) | assumption))
                have p27 : (0 ≤ ((Go.bits .and .i64 x9_2 3) : Int)) = True := eq_true (of_decide_eq_true (by first | (with_reducible assumption) | assumption))
                have q27 : (((Go.bits .and .i64 x9_2 3) : Int) < 4) = True := eq_true (of_decide_eq_true (by first | (with_reducible assumption) | assumption))
                have hx28_0 : wr.cell? ⟨gb164, a1.toNat * 4 + (Go.bits .and .i64 x9_2 3).toNat, none⟩ = some (.int .i64 (ix4 (ix4 a0_0 a0_1 a0_2 a0_3 (Go.bits .and .i64 x9_2 3)) (ix4 a0_4 a0_5 a0_6 a0_7 (Go.bits .and .i64 x9_2 3)) (ix4 a0_8 a0_9 a0_10 a0_11 (Go.bits .and .i64 x9_2 3)) (ix4 a0_12 a0_13 a0_14 a0_15 (Go.bits .and .i64 x9_2 3)) a1)) := (blk_cell BK164.out (a1.toNat * 4 + (Go.bits .and .i64 x9_2 3).toNat)).trans (ix_44 (Value.int .i64) _ _ _ _ _ _ _ _ _ _ _ _ _ _ _ _ a1 (Go.bits .and .i64 x9_2 3)  (of_decide_eq_true (by first | (with_reducible assumption) | assumption)) (of_decide_eq_true (by first | (with_reducible assumption) | assumption))  (of_decide_eq_true (by first | (with_reducible assumption) | assumption)) (of_decide_eq_true (by first | (with_reducible assumption) | assumption)))
                go_wp2
                go_meet
                case rel => exact ⟨_, (false), (by first | rfl | (simp; done) | (simp [*]; done)), H', ⟨by have := HK1.out; have := HK2.out; first | omega | exact Nat.le_refl _⟩, ⟨by (with_reducible repeat (first | refine blk_drewN ?_ _ | refine blk_drew ?_ | refine blk_alloc ?_ _)); exact BK164.out⟩, ⟨by (with_reducible repeat (first | refine blk_drewN ?_ _ | refine blk_drew ?_ | refine blk_alloc ?_ _)); exact BK165.out⟩, ⟨by (with_reducible repeat (first | refine blk_drewN ?_ _ | refine blk_drew ?_ | refine blk_alloc ?_ _)); exact BK166.out⟩, ⟨by (with_reducible repeat (first | refine blk_drewN ?_ _ | refine blk_drew ?_ | refine blk_alloc ?_ _)); exact BK167.out⟩, ⟨by (with_reducible repeat (first | refine blk_drewN ?_ _ | refine blk_drew ?_ | refine blk_alloc ?_ _)); exact BK168.out⟩, ⟨by repeat (first | (with_reducible first | exact HB.out | apply below_alloc | apply pw_below_drewN | apply below_drew1 | refine below_set ?_ GE164.out | refine below_set ?_ GE165.out | refine below_set ?_ GE166.out | refine below_set ?_ GE167.out | refine below_set ?_ GE168.out) | exact HB.out)⟩⟩
               ·rw [if_neg c25] at H
                have c25b0 : ((x9_2 / 16) == (Go.bits .and .i64 (x9_2 / 4) 3)) = false := beq_eq_false_iff_ne.mpr c25
                have c25b1 : ((x9_2 / 16) != (Go.bits .and .i64 (x9_2 / 4) 3)) = true := bne_iff_ne.mpr c25
                by_cases c29 : 0 ≤ (Go.bits .and .i64 (x9_2 / 4) 3)
                ·rw [if_pos c29] at H
                 have c29b0 : decide (0 ≤ (Go.bits .and .i64 (x9_2 / 4) 3)) = true := decide_eq_true c29
                 clear c29
                 by_cases c30 : (Go.bits .and .i64 (x9_2 / 4) 3) < 4
                 ·rw [if_pos c30] at H
                  have c30b0 : decide ((Go.bits .and .i64 (x9_2 / 4) 3) < 4) = true := decide_eq_true c30
                  clear c30
                  by_cases c31 : 0 ≤ (x9_2 / 16)
                  ·rw [if_pos c31] at H
                   have c31b0 : decide (0 ≤ (x9_2 / 16)) = true := decide_eq_true c31
                   clear c31
                   by_cases c32 : (x9_2 / 16) < 4
                   ·rw [if_pos c32] at H
                    have c32b0 : decide ((x9_2 / 16) < 4) = true := decide_eq_true c32
                    clear c32
                    have H' := Aside0.mk H
                    clear H
                    have p33 : (0 ≤ (a1 : Int)) = True := eq_true (of_decide_eq_true (by first | (with_reducible assumption) | assumption))
                    have q33 : ((a1 : Int) < 4) = True := eq_true (of_decide_eq_true (by first | (with_reducible assumption) | assumption))
                    have p34 : (0 ≤ ((Go.bits .and .i64 x9_2 3) : Int)) = True := eq_true (of_decide_eq_true (by first | (with_reducible assumption) | assumption))
                    have q34 : (((Go.bits .and .i64 x9_2 3) : Int) < 4) = True := eq_true (of_decide_eq_true (by first | (with_reducible assumption) | assumption))
                    have hx35_0 : wr.cell? ⟨gb164, a1.toNat * 4 + (Go.bits .and .i64 x9_2 3).toNat, none⟩ = some (.int .i64 (ix4 (ix4 a0_0 a0_1 a0_2 a0_3 (Go.bits .and .i64 x9_2 3)) (ix4 a0_4 a0_5 a0_6 a0_7 (Go.bits .and .i64 x9_2 3)) (ix4 a0_8 a0_9 a0_10 a0_11 (Go.bits .and .i64 x9_2 3)) (ix4 a0_12 a0_13 a0_14 a0_15 (Go.bits .and .i64 x9_2 3)) a1)) := (blk_cell BK164.out (a1.toNat * 4 + (Go.bits .and .i64 x9_2 3).toNat)).trans (ix_44 (Value.int .i64) _ _ _ _ _ _ _ _ _ _ _ _ _ _ _ _ a1 (Go.bits .and .i64 x9_2 3)  (of_decide_eq_true (by first | (with_reducible assumption) | assumption)) (of_decide_eq_true (by first | (with_reducible assumption) | assumption))  (of_decide_eq_true (by first | (with_reducible assumption) | assumption)) (of_decide_eq_true (by first | (with_reducible assumption) | assumption)))
                    have p36 : (0 ≤ ((Go.bits .and .i64 (x9_2 / 4) 3) : Int)) = True := eq_true (of_decide_eq_true (by first | (with_reducible assumption) | assumption))
                    have q36 : (((Go.bits .and .i64 (x9_2 / 4) 3) : Int) < 4) = True := eq_true (of_decide_eq_true (by first | (with_reducible assumption) | assumption))
                    have p37 : (0 ≤ ((x9_2 / 16) : Int)) = True := eq_true (of_decide_eq_true (by first | (with_reducible assumption) | assumption))
                    have q37 : (((x9_2 / 16) : Int) < 4) = True := eq_true (of_decide_eq_true (by first | (with_reducible assumption) | assumption))
                    have hx38_0 : wr.cell? ⟨gb164, (Go.bits .and .i64 (x9_2 / 4) 3).toNat * 4 + (x9_2 / 16).toNat, none⟩ = some (.int .i64 (ix4 (ix4 a0_0 a0_1 a0_2 a0_3 (x9_2 / 16)) (ix4 a0_4 a0_5 a0_6 a0_7 (x9_2 / 16)) (ix4 a0_8 a0_9 a0_10 a0_11 (x9_2 / 16)) (ix4 a0_12 a0_13 a0_14 a0_15 (x9_2 / 16)) (Go.bits .and .i64 (x9_2 / 4) 3))) := (blk_cell BK164.out ((Go.bits .and .i64 (x9_2 / 4) 3).toNat * 4 + (x9_2 / 16).toNat)).trans (ix_44 (Value.int .i64) _ _ _ _ _ _ _ _ _ _ _ _ _ _ _ _ (Go.bits .and .i64 (x9_2 / 4) 3) (x9_2 / 16)  (of_decide_eq_true (by first | (with_reducible assumption) | assumption)) (of_decide_eq_true (by first | (with_reducible assumption) | assumption))  (of_decide_eq_true (by first | (with_reducible assumption) | assumption)) (of_decide_eq_true (by first | (with_reducible assumption) | assumption)))
                    go_wp2
                    go_meet
                    case rel => exact ⟨_, (decide ((ix4 (ix4 a0_0 a0_1 a0_2 a0_3 (x9_2 / 16)) (ix4 a0_4 a0_5 a0_6 a0_7 (x9_2 / 16)) (ix4 a0_8 a0_9 a0_10 a0_11 (x9_2 / 16)) (ix4 a0_12 a0_13 a0_14 a0_15 (x9_2 / 16)) (Go.bits .and .i64 (x9_2 / 4) 3)) ≤ 0)), (by first | rfl | (simp; done) | (simp [*]; done)), H', ⟨by have := HK1.out; have := HK2.out; first | omega | exact Nat.le_refl _⟩, ⟨by (with_reducible repeat (first | refine blk_drewN ?_ _ | refine blk_drew ?_ | refine blk_alloc ?_ _)); exact BK164.out⟩, ⟨by (with_reducible repeat (first | refine blk_drewN ?_ _ | refine blk_drew ?_ | refine blk_alloc ?_ _)); exact BK165.out⟩, ⟨by (with_reducible repeat (first | refine blk_drewN ?_ _ | refine blk_drew ?_ | refine blk_alloc ?_ _)); exact BK166.out⟩, ⟨by (with_reducible repeat (first | refine blk_drewN ?_ _ | refine blk_drew ?_ | refine blk_alloc ?_ _)); exact BK167.out⟩, ⟨by (with_reducible repeat (first | refine blk_drewN ?_ _ | refine blk_drew ?_ | refine blk_alloc ?_ _)); exact BK168.out⟩, ⟨by repeat (first | (with_reducible first | exact HB.out | apply below_alloc | apply pw_below_drewN | apply below_drew1 | refine below_set ?_ GE164.out | refine below_set ?_ GE165.out | refine below_set ?_ GE166.out | refine below_set ?_ GE167.out | refine below_set ?_ GE168.out) | exact HB.out)⟩⟩
                   ·rw [if_neg c32] at H
                    exact absurd H (by simp)
                  ·rw [if_neg c31] at H
                   exact absurd H (by simp)
                 ·rw [if_neg c30] at H
                  exact absurd H (by simp)
                ·rw [if_neg c29] at H
                 exact absurd H (by simp)
              ·rw [if_neg c24] at H
               have c24b0 : ((Go.bits .and .i64 (x9_2 / 4) 3) == (Go.bits .and .i64 x9_2 3)) = false := beq_eq_false_iff_ne.mpr c24
               have c24b1 : ((Go.bits .and .i64 (x9_2 / 4) 3) != (Go.bits .and .i64 x9_2 3)) = true := bne_iff_ne.mpr c24
               by_cases c39 : 0 ≤ (Go.bits .and .i64 (x9_2 / 4) 3)
               ·rw [if_pos c39] at H
                have c39b0 : decide (0 ≤ (Go.bits .and .i64 (x9_2 / 4) 3)) = true := decide_eq_true c39
                clear c39
                by_cases c40 : (Go.bits .and .i64 (x9_2 / 4) 3) < 4
                ·rw [if_pos c40] at H
                 have c40b0 : decide ((Go.bits .and .i64 (x9_2 / 4) 3) < 4) = true := decide_eq_true c40
                 clear c40
                 by_cases c41 : (ix4 (ix4 a0_0 a0_1 a0_2 a0_3 (Go.bits .and .i64 (x9_2 / 4) 3)) (ix4 a0_4 a0_5 a0_6 a0_7 (Go.bits .and .i64 (x9_2 / 4) 3)) (ix4 a0_8 a0_9 a0_10 a0_11 (Go.bits .and .i64 (x9_2 / 4) 3)) (ix4 a0_12 a0_13 a0_14 a0_15 (Go.bits .and .i64 (x9_2 / 4) 3)) (Go.bits .and .i64 x9_2 3)) ≤ 0
                 ·rw [if_pos c41] at H
                  have c41b0 : decide ((ix4 (ix4 a0_0 a0_1 a0_2 a0_3 (Go.bits .and .i64 (x9_2 / 4) 3)) (ix4 a0_4 a0_5 a0_6 a0_7 (Go.bits .and .i64 (x9_2 / 4) 3)) (ix4 a0_8 a0_9 a0_10 a0_11 (Go.bits .and .i64 (x9_2 / 4) 3)) (ix4 a0_12 a0_13 a0_14 a0_15 (Go.bits .and .i64 (x9_2 / 4) 3)) (Go.bits .and .i64 x9_2 3)) ≤ 0) = true := decide_eq_true c41
                  clear c41
                  have H' := Aside0.mk H
                  clear H
                  have p42 : (0 ≤ (a1 : Int)) = True := eq_true (of_decide_eq_true (by first | (with_reducible assumption) | assumption))
                  have q42 : ((a1 : Int) < 4) = True := eq_true (of_decide_eq_true (by first | (with_reducible assumption) | assumption))
                  have p43 : (0 ≤ ((Go.bits .and .i64 x9_2 3) : Int)) = True := eq_true (of_decide_eq_true (by first | (with_reducible assumption) | assumption))
                  have q43 : (((Go.bits .and .i64 x9_2 3) : Int) < 4) = True := eq_true (of_decide_eq_true (by first | (with_reducible assumption) | assumption))
                  have hx44_0 : wr.cell? ⟨gb164, a1.toNat * 4 + (Go.bits .and .i64 x9_2 3).toNat, none⟩ = some (.int .i64 (ix4 (ix4 a0_0 a0_1 a0_2 a0_3 (Go.bits .and .i64 x9_2 3)) (ix4 a0_4 a0_5 a0_6 a0_7 (Go.bits .and .i64 x9_2 3)) (ix4 a0_8 a0_9 a0_10 a0_11 (Go.bits .and .i64 x9_2 3)) (ix4 a0_12 a0_13 a0_14 a0_15 (Go.bits .and .i64 x9_2 3)) a1)) := (blk_cell BK164.out (a1.toNat * 4 + (Go.bits .and .i64 x9_2 3).toNat)).trans (ix_44 (Value.int .i64) _ _ _ _ _ _ _ _ _ _ _ _ _ _ _ _ a1 (Go.bits .and .i64 x9_2 3)  (of_decide_eq_true (by first | (with_reducible assumption) | assumption)) (of_decide_eq_true (by first | (with_reducible assumption) | assumption))  (of_decide_eq_true (by first | (with_reducible assumption) | assumption)) (of_decide_eq_true (by first | (with_reducible assumption) | assumption)))
                  have p45 : (0 ≤ ((Go.bits .and .i64 x9_2 3) : Int)) = True := eq_true (of_decide_eq_true (by first | (with_reducible assumption) | assumption))
                  have q45 : (((Go.bits .and .i64 x9_2 3) : Int) < 4) = True := eq_true (of_decide_eq_true (by first | (with_reducible assumption) | assumption))
                  have p46 : (0 ≤ ((Go.bits .and .i64 (x9_2 / 4) 3) : Int)) = True := eq_true (of_decide_eq_true (by first | (with_reducible assumption) | assumption))
                  have q46 : (((Go.bits .and .i64 (x9_2 / 4) 3) : Int) < 4) = True := eq_true (of_decide_eq_true (by first | (with_reducible assumption) | assumption))
                  have hx47_0 : wr.cell? ⟨gb164, (Go.bits .and .i64 x9_2 3).toNat * 4 + (Go.bits .and .i64 (x9_2 / 4) 3).toNat, none⟩ = some (.int .i64 (ix4 (ix4 a0_0 a0_1 a0_2 a0_3 (Go.bits .and .i64 (x9_2 / 4) 3)) (ix4 a0_4 a0_5 a0_6 a0_7 (Go.bits .and .i64 (x9_2 / 4) 3)) (ix4 a0_8 a0_9 a0_10 a0_11 (Go.bits .and .i64 (x9_2 / 4) 3)) (ix4 a0_12 a0_13 a0_14 a0_15 (Go.bits .and .i64 (x9_2 / 4) 3)) (Go.bits .and .i64 x9_2 3))) := (blk_cell BK164.out ((Go.bits .and .i64 x9_2 3).toNat * 4 + (Go.bits .and .i64 (x9_2 / 4) 3).toNat)).trans (ix_44 (Value.int .i64) _ _ _ _ _ _ _ _ _ _ _ _ _ _ _ _ (Go.bits .and .i64 x9_2 3) (Go.bits .and .i64 (x9_2 / 4) 3)  (of_decide_eq_true (by first | (with_reducible assumption) | assumption)) (of_decide_eq_true (by first | (with_reducible assumption) | assumption))  (of_decide_eq_true (by first | (with_reducible assumption) | assumption)) (of_decide_eq_true (by first | (with_reducible assumption) | assumption)))
                  go_wp2
                  go_meet
                  case rel => exact ⟨_, (true), (by first | rfl | (simp; done) | (simp [*]; done)), H', ⟨by have := HK1.out; have := HK2.out; first | omega | exact Nat.le_refl _⟩, ⟨by (with_reducible repeat (first | refine blk_drewN ?_ _ | refine blk_drew ?_ | refine blk_alloc ?_ _)); exact BK164.out⟩, ⟨by (with_reducible repeat (first | refine blk_drewN ?_ _ | refine blk_drew ?_ | refine blk_alloc ?_ _)); exact BK165.out⟩, ⟨by (with_reducible repeat (first | refine blk_drewN ?_ _ | refine blk_drew ?_ | refine blk_alloc ?_ _)); exact BK166.out⟩, ⟨by (with_reducible repeat (first | refine blk_drewN ?_ _ | refine blk_drew ?_ | refine blk_alloc ?_ _)); exact BK167.out⟩, ⟨by (with_reducible repeat (first | refine blk_drewN ?_ _ | refine blk_drew ?_ | refine blk_alloc ?_ _)); exact BK168.out⟩, ⟨by repeat (first | (with_reducible first | exact HB.out | apply below_alloc | apply pw_below_drewN | apply below_drew1 | refine below_set ?_ GE164.out | refine below_set ?_ GE165.out | refine below_set ?_ GE166.out | refine below_set ?_ GE167.out | refine below_set ?_ GE168.out) | exact HB.out)⟩⟩
                 ·rw [if_neg c41] at H
                  have c41b0 : decide ((ix4 (ix4 a0_0 a0_1 a0_2 a0_3 (Go.bits .and .i64 (x9_2 / 4) 3)) (ix4 a0_4 a0_5 a0_6 a0_7 (Go.bits .and .i64 (x9_2 / 4) 3)) (ix4 a0_8 a0_9 a0_10 a0_11 (Go.bits .and .i64 (x9_2 / 4) 3)) (ix4 a0_12 a0_13 a0_14 a0_15 (Go.bits .and .i64 (x9_2 / 4) 3)) (Go.bits .and .i64 x9_2 3)) ≤ 0) = false := decide_eq_false c41
                  clear c41
                  by_cases c48 : (x9_2 / 16) = (Go.bits .and .i64 (x9_2 / 4) 3)
                  ·rw [if_pos c48] at H
                   have c48b0 : ((x9_2 / 16) == (Go.bits .and .i64 (x9_2 / 4) 3)) = true := beq_iff_eq.mpr c48
                   have c48b1 : ((x9_2 / 16) != (Go.bits .and .i64 (x9_2 / 4) 3)) = false := bne_eq_false_iff_eq.mpr c48
                   clear c48
                   have H' := Aside0.mk H
                   clear H
                   have p49 : (0 ≤ (a1 : Int)) = True := eq_true (of_decide_eq_true (by first | (with_reducible assumption) | assumption))
                   have q49 : ((a1 : Int) < 4) = True := eq_true (of_decide_eq_true (by first | (with_reducible assumption) | assumption))
                   have p50 : (0 ≤ ((Go.bits .and .i64 x9_2 3) : Int)) = True := eq_true (of_decide_eq_true (by first | (with_reducible assumption) | assumption))
                   have q50 : (((Go.bits .and .i64 x9_2 3) : Int) < 4) = True := eq_true (of_decide_eq_true (by first | (with_reducible assumption) | assumption))
                   have hx51_0 : wr.cell? ⟨gb164, a1.toNat * 4 + (Go.bits .and .i64 x9_2 3).toNat, none⟩ = some (.int .i64 (ix4 (ix4 a0_0 a0_1 a0_2 a0_3 (Go.bits .and .i64 x9_2 3)) (ix4 a0_4 a0_5 a0_6 a0_7 (Go.bits .and .i64 x9_2 3)) (ix4 a0_8 a0_9 a0_10 a0_11 (Go.bits .and .i64 x9_2 3)) (ix4 a0_12 a0_13 a0_14 a0_15 (Go.bits .and .i64 x9_2 3)) a1)) := (blk_cell BK164.out (a1.toNat * 4 + (Go.bits .and .i64 x9_2 3).toNat)).trans (ix_44 (Value.int .i64) _ _ _ _ _ _ _ _ _ _ _ _ _ _ _ _ a1 (Go.bits .and .i64 x9_2 3)  (of_decide_eq_true (by first | (with_reducible assumption) | assumption)) (of_decide_eq_true (by first | (with_reducible assumption) | assumption))  (of_decide_eq_true (by first | (with_reducible assumption) | assumption)) (of_decide_eq_true (by first | (with_reducible assumption) | assumption)))
                   have p52 : (0 ≤ ((Go.bits .and .i64 x9_2 3) : Int)) = True := eq_true (of_decide_eq_true (by first | (with_reducible assumption) | assumption))
                   have q52 : (((Go.bits .and .i64 x9_2 3) : Int) < 4) = True := eq_true (of_decide_eq_true (by first | (with_reducible assumption) | assumption))
                   have p53 : (0 ≤ ((Go.bits .and .i64 (x9_2 / 4) 3) : Int)) = True := eq_true (of_decide_eq_true (by first | (with_reducible assumption) | assumption))
                   have q53 : (((Go.bits .and .i64 (x9_2 / 4) 3) : Int) < 4) = True := eq_true (of_decide_eq_true (by first | (with_reducible assumption) | assumption))
                   have hx54_0 : wr.cell? ⟨gb164, (Go.bits .and .i64 x9_2 3).toNat * 4 + (Go.bits .and .i64 (x9_2 / 4) 3).toNat, none⟩ = some (.int .i64 (ix4 (ix4 a0_0 a0_1 a0_2 a0_3 (Go.bits .and .i64 (x9_2 / 4) 3)) (ix4 a0_4 a0_5 a0_6 a0_7 (Go.bits .and .i64 (x9_2 / 4) 3)) (ix4 a0_8 a0_9 a0_10 a0_11 (Go.bits .and .i64 (x9_2 / 4) 3)) (ix4 a0_12 a0_13 a0_14 a0_15 (Go.bits .and .i64 (x9_2 / 4) 3)) (Go.bits .and .i64 x9_2 3))) := (blk_cell BK164.out ((Go.bits .and .i64 x9_2 3).toNat * 4 + (Go.bits .and .i64 (x9_2 / 4) 3).toNat)).trans (ix_44 (Value.int .i64) _ _ _ _ _ _ _ _ _ _ _ _ _ _ _ _ (Go.bits .and .i64 x9_2 3) (Go.bits .and .i64 (x9_2 / 4) 3)  (of_decide_eq_true (by first | (with_reducible assumption) | assumption)) (of_decide_eq_true (by first | (with_reducible assumption) | assumption))  (of_decide_eq_true (by first | (with_reducible assumption) | assumption)) (of_decide_eq_true (by first | (with_reducible assumption) | assumption)))
                   go_wp2
                   go_meet
                   case rel => exact ⟨_, (false), (by first | rfl | (simp; done) | (simp [*]; done)), H', ⟨by have := HK1.out; have := HK2.out; first | omega | exact Nat.le_refl _⟩, ⟨by (with_reducible repeat (first | refine blk_drewN ?_ _ | refine blk_drew ?_ | refine blk_alloc ?_ _)); exact BK164.out⟩, ⟨by (with_reducible repeat (first | refine blk_drewN ?_ _ | refine blk_drew ?_ | refine blk_alloc ?_ _)); exact BK165.out⟩, ⟨by (with_reducible repeat (first | refine blk_drewN ?_ _ | refine blk_drew ?_ | refine blk_alloc ?_ _)); exact BK166.out⟩, ⟨by (with_reducible repeat (first | refine blk_drewN ?_ _ | refine blk_drew ?_ | refine blk_alloc ?_ _)); exact BK167.out⟩, ⟨by (with_reducible repeat (first | refine blk_drewN ?_ _ | refine blk_drew ?_ | refine blk_alloc ?_ _)); exact BK168.out⟩, ⟨by repeat (first | (with_reducible first | exact HB.out | apply below_alloc | apply pw_below_drewN | apply below_drew1 | refine below_set ?_ GE164.out | refine below_set ?_ GE165.out | refine below_set ?_ GE166.out | refine below_set ?_ GE167.out | refine below_set ?_ GE168.out) | exact HB.out)⟩⟩
                  ·rw [if_neg c48] at H
                   have c48b0 : ((x9_2 / 16) == (Go.bits .and .i64 (x9_2 / 4) 3)) = false := beq_eq_false_iff_ne.mpr c48
                   have c48b1 : ((x9_2 / 16) != (Go.bits .and .i64 (x9_2 / 4) 3)) = true := bne_iff_ne.mpr c48
                   by_cases c55 : 0 ≤ (x9_2 / 16)
                   ·rw [if_pos c55] at H
                    have c55b0 : decide (0 ≤ (x9_2 / 16)) = true := decide_eq_true c55
                    clear c55
                    by_cases c56 : (x9_2 / 16) < 4
                    ·rw [if_pos c56] at H
                     have c56b0 : decide ((x9_2 / 16) < 4) = true := decide_eq_true c56
                     clear c56
                     have H' := Aside0.mk H
                     clear H
                     have p57 : (0 ≤ (a1 : Int)) = True := eq_true (of_decide_eq_true (by first | (with_reducible assumption) | assumption))
                     have q57 : ((a1 : Int) < 4) = True := eq_true (of_decide_eq_true (by first | (with_reducible assumption) | assumption))
                     have p58 : (0 ≤ ((Go.bits .and .i64 x9_2 3) : Int)) = True := eq_true (of_decide_eq_true (by first | (with_reducible assumption) | assumption))
                     have q58 : (((Go.bits .and .i64 x9_2 3) : Int) < 4) = True := eq_true (of_decide_eq_true (by first | (with_reducible assumption) | assumption))
                     have hx59_0 : wr.cell? ⟨gb164, a1.toNat * 4 + (Go.bits .and .i64 x9_2 3).toNat, none⟩ = some (.int .i64 (ix4 (ix4 a0_0 a0_1 a0_2 a0_3 (Go.bits .and .i64 x9_2 3)) (ix4 a0_4 a0_5 a0_6 a0_7 (Go.bits .and .i64 x9_2 3)) (ix4 a0_8 a0_9 a0_10 a0_11 (Go.bits .and .i64 x9_2 3)) (ix4 a0_12 a0_13 a0_14 a0_15 (Go.bits .and .i64 x9_2 3)) a1)) := (blk_cell BK164.out (a1.toNat * 4 + (Go.bits .and .i64 x9_2 3).toNat)).trans (ix_44 (Value.int .i64) _ _ _ _ _ _ _ _ _ _ _ _ _ _ _ _ a1 (Go.bits .and .i64 x9_2 3)  (of_decide_eq_true (by first | (with_reducible assumption) | assumption)) (of_decide_eq_true (by first | (with_reducible assumption) | assumption))  (of_decide_eq_true (by first | (with_reducible assumption) | assumption)) (of_decide_eq_true (by first | (with_reducible assumption) | assumption)))
                     have p60 : (0 ≤ ((Go.bits .and .i64 x9_2 3) : Int)) = True := eq_true (of_decide_eq_true (by first | (with_reducible assumption) | assumption))
                     have q60 : (((Go.bits .and .i64 x9_2 3) : Int) < 4) = True := eq_true (of_decide_eq_true (by first | (with_reducible assumption) | assumption))
                     have p61 : (0 ≤ ((Go.bits .and .i64 (x9_2 / 4) 3) : Int)) = True := eq_true (of_decide_eq_true (by first | (with_reducible assumption) | assumption))
                     have q61 : (((Go.bits .and .i64 (x9_2 / 4) 3) : Int) < 4) = True := eq_true (of_decide_eq_true (by first | (with_reducible assumption) | assumption))
                     have hx62_0 : wr.cell? ⟨gb164, (Go.bits .and .i64 x9_2 3).toNat * 4 + (Go.bits .and .i64 (x9_2 / 4) 3).toNat, none⟩ = some (.int .i64 (ix4 (ix4 a0_0 a0_1 a0_2 a0_3 (Go.bits .and .i64 (x9_2 / 4) 3)) (ix4 a0_4 a0_5 a0_6 a0_7 (Go.bits .and .i64 (x9_2 / 4) 3)) (ix4 a0_8 a0_9 a0_10 a0_11 (Go.bits .and .i64 (x9_2 / 4) 3)) (ix4 a0_12 a0_13 a0_14 a0_15 (Go.bits .and .i64 (x9_2 / 4) 3)) (Go.bits .and .i64 x9_2 3))) := (blk_cell BK164.out ((Go.bits .and .i64 x9_2 3).toNat * 4 + (Go.bits .and .i64 (x9_2 / 4) 3).toNat)).trans (ix_44 (Value.int .i64) _ _ _ _ _ _ _ _ _ _ _ _ _ _ _ _ (Go.bits .and .i64 x9_2 3) (Go.bits .and .i64 (x9_2 / 4) 3)  (of_decide_eq_true (by first | (with_reducible assumption) | assumption)) (of_decide_eq_true (by first | (with_reducible assumption) | assumption))  (of_decide_eq_true (by first | (with_reducible assumption) | assumption)) (of_decide_eq_true (by first | (with_reducible assumption) | assumption)))
                     have p63 : (0 ≤ ((Go.bits .and .i64 (x9_2 / 4) 3) : Int)) = True := eq_true (of_decide_eq_true (by first | (with_reducible assumption) | assumption))
                     have q63 : (((Go.bits .and .i64 (x9_2 / 4) 3) : Int) < 4) = True := eq_true (of_decide_eq_true (by first | (with_reducible assumption) | assumption))
                     have p64 : (0 ≤ ((x9_2 / 16) : Int)) = True := eq_true (of_decide_eq_true (by first | (with_reducible assumption) | assumption))
                     have q64 : (((x9_2 / 16) : Int) < 4) = True := eq_true (of_decide_eq_true (by first | (with_reducible assumption) | assumption))
                     have hx65_0 : wr.cell? ⟨gb164, (Go.bits .and .i64 (x9_2 / 4) 3).toNat * 4 + (x9_2 / 16).toNat, none⟩ = some (.int .i64 (ix4 (ix4 a0_0 a0_1 a0_2 a0_3 (x9_2 / 16)) (ix4 a0_4 a0_5 a0_6 a0_7 (x9_2 / 16)) (ix4 a0_8 a0_9 a0_10 a0_11 (x9_2 / 16)) (ix4 a0_12 a0_13 a0_14 a0_15 (x9_2 / 16)) (Go.bits .and .i64 (x9_2 / 4) 3))) := (blk_cell BK164.out ((Go.bits .and .i64 (x9_2 / 4) 3).toNat * 4 + (x9_2 / 16).toNat)).trans (ix_44 (Value.int .i64) _ _ _ _ _ _ _ _ _ _ _ _ _ _ _ _ (Go.bits .and .i64 (x9_2 / 4) 3) (x9_2 / 16)  (of_decide_eq_true (by first | (with_reducible assumption) | assumption)) (of_decide_eq_true (by first | (with_reducible assumption) | assumption))  (of_decide_eq_true (by first | (with_reducible assumption) | assumption)) (of_decide_eq_true (by first | (with_reducible assumption) | assumption)))
                     go_wp2
                     go_meet
                     case rel => exact ⟨_, (decide ((ix4 (ix4 a0_0 a0_1 a0_2 a0_3 (x9_2 / 16)) (ix4 a0_4 a0_5 a0_6 a0_7 (x9_2 / 16)) (ix4 a0_8 a0_9 a0_10 a0_11 (x9_2 / 16)) (ix4 a0_12 a0_13 a0_14 a0_15 (x9_2 / 16)) (Go.bits .and .i64 (x9_2 / 4) 3)) ≤ 0)), (by first | rfl | (simp; done) | (simp [*]; done)), H', ⟨by have := HK1.out; have := HK2.out; first | omega | exact Nat.le_refl _⟩, ⟨by (with_reducible repeat (first | refine blk_drewN ?_ _ | refine blk_drew ?_ | refine blk_alloc ?_ _)); exact BK164.out⟩, ⟨by (with_reducible repeat (first | refine blk_drewN ?_ _ | refine blk_drew ?_ | refine blk_alloc ?_ _)); exact BK165.out⟩, ⟨by (with_reducible repeat (first | refine blk_drewN ?_ _ | refine blk_drew ?_ | refine blk_alloc ?_ _)); exact BK166.out⟩, ⟨by (with_reducible repeat (first | refine blk_drewN ?_ _ | refine blk_drew ?_ | refine blk_alloc ?_ _)); exact BK167.out⟩, ⟨by (with_reducible repeat (first | refine blk_drewN ?_ _ | refine blk_drew ?_ | refine blk_alloc ?_ _)); exact BK168.out⟩, ⟨by repeat (first | (with_reducible first | exact HB.out | apply below_alloc | apply pw_below_drewN | apply below_drew1 | refine below_set ?_ GE164.out | refine below_set ?_ GE165.out | refine below_set ?_ GE166.out | refine below_set ?_ GE167.out | refine below_set ?_ GE168.out) | exact HB.out)⟩⟩
                    ·rw [if_neg c56] at H
                     exact absurd H (by simp)
                   ·rw [if_neg c55] at H
                    exact absurd H (by simp)
                ·rw [if_neg c40] at H
                 exact absurd H (by simp)
               ·rw [if_neg c39] at H
                exact absurd H (by simp)
            ·rw [if_neg c19] at H
             exact absurd H (by simp)
           ·rw [if_neg c18] at H
            exact absurd H (by simp)
          ·rw [if_neg c17] at H
           exact absurd H (by simp)
         ·rw [if_neg c16] at H
          exact absurd H (by simp)
       case rest =>
        clear HC14
        try clear c1
        try clear p1
        try clear q1
        try clear c2
        try clear p2
        try clear q2
        try clear hx2
        try clear c3
        try clear p3
        try clear q3
        try clear hx3
        try clear c4
        try clear p4
        try clear q4
        try clear hx4
        try clear c5
        try clear p5
        try clear q5
        try clear hx5
        try clear p6
        try clear q6
        try clear hx6
        try clear c8
        try clear c8b0
        try clear c9
        try clear c9b0
        try clear p10
        try clear q10
        try clear c13
        try clear c13b0
        try clear c15
        try clear c15b0
        try clear c15b1
        try clear c16
        try clear c16b0
        try clear c17
        try clear c17b0
        try clear c18
        try clear c18b0
        try clear c19
        try clear c19b0
        try clear c20
        try clear c20b0
        try clear p21
        try clear q21
        try clear p22
        try clear q22
        try clear hx23
        try clear c24
        try clear c24b0
        try clear c24b1
        try clear c25
        try clear c25b0
        try clear c25b1
        try clear p26
        try clear q26
        try clear p27
        try clear q27
        try clear hx28
        try clear c29
        try clear c29b0
        try clear c30
        try clear c30b0
        try clear c31
        try clear c31b0
        try clear c32
        try clear c32b0
        try clear p33
        try clear q33
        try clear p34
        try clear q34
        try clear hx35
        try clear p36
        try clear q36
        try clear p37
        try clear q37
        try clear hx38
        try clear c39
        try clear c39b0
        try clear c40
        try clear c40b0
        try clear c41
        try clear c41b0
        try clear p42
        try clear q42
        try clear p43
        try clear q43
        try clear hx44
        try clear p45
        try clear q45
        try clear p46
        try clear q46
        try clear hx47
        try clear c48
        try clear c48b0
        try clear c48b1
        try clear p49
        try clear q49
        try clear p50
        try clear q50
        try clear hx51
        try clear p52
        try clear q52
        try clear p53
        try clear q53
        try clear hx54
        try clear c55
        try clear c55b0
        try clear c56
        try clear c56b0
        try clear p57
        try clear q57
        try clear p58
        try clear q58
        try clear hx59
        try clear p60
        try clear q60
        try clear p61
        try clear q61
        try clear hx62
        try clear p63
        try clear q63
        try clear p64
        try clear q64
        try clear hx65
        try clear hx23_0
        try clear hx28_0
        try clear hx35_0
        try clear hx38_0
        try clear hx44_0
        try clear hx47_0
        try clear hx51_0
        try clear hx54_0
        try clear hx59_0
        try clear hx62_0
        try clear hx65_0
        try clear p1
        try clear p10
        try clear p2
        try clear p21
        try clear p22
        try clear p26
        try clear p27
        try clear p33
        try clear p34
        try clear p36
        try clear p37
        try clear p42
        try clear p43
        try clear p45
        try clear p46
        try clear p49
        try clear p50
        try clear p52
        try clear p53
        try clear p57
        try clear p58
        try clear p6
        try clear p60
        try clear p61
        try clear p63
        try clear p64
        try clear q1
        try clear q10
        try clear q21
        try clear q22
        try clear q26
        try clear q27
        try clear q33
        try clear q34
        try clear q36
        try clear q37
        try clear q42
        try clear q43
        try clear q45
        try clear q46
        try clear q49
        try clear q50
        try clear q52
        try clear q53
        try clear q57
        try clear q58
        try clear q60
        try clear q61
        try clear q63
        try clear q64
        obtain ⟨kq, x67_13, rfl, HA, HJ13, BK164, BK165, BK166, BK167, BK168, HB⟩ := hcut
        cases kq with
        | zero => exact absurd HA.out (by simp [watchwordlaw21_ways.j2])
        | succ kj13 =>
         have H := HA.out
         clear HA
         simp only [watchwordlaw21_ways.j2] at H
         by_cases c66 : x67_13 = true
         ·subst c66
          have H1 : (watchwordlaw21_ways.l1 kj13 a1 (wrap64 (x9_2 + 1)) a0_0 a0_1 a0_2 a0_3 a0_4 a0_5 a0_6 a0_7 a0_8 a0_9 a0_10 a0_11 a0_12 a0_13 a0_14 a0_15 x168000_2 x168001_2 x168002_2 x168003_2 x169000_2 x169001_2 x169002_2 x169003_2 x169004_2 x169005_2 x169006_2 x169007_2 x169008_2 x169009_2 x169010_2 x169011_2 x169012_2 x169013_2 x169014_2 x169015_2) = some (r1, r2, r3, r4, r5, r6, r7, r8, r9, r10, r11, r12, r13, r14, r15, r16, r17, r18, r19, r20) := by rw [if_pos rfl] at H; exact H
          clear H
          have H := H1
          clear H1
          have H' := Aside0.mk H
          clear H
          go_wp2
          go_roundg kj13
          case measure => have := HK1.out; have := HK2.out; have := HJ13.out; omega
          case rel => exact ⟨(wrap64 (x9_2 + 1)), (x168000_2), (x168001_2), (x168002_2), (x168003_2), (x169000_2), (x169001_2), (x169002_2), (x169003_2), (x169004_2), (x169005_2), (x169006_2), (x169007_2), (x169008_2), (x169009_2), (x169010_2), (x169011_2), (x169012_2), (x169013_2), (x169014_2), (x169015_2), (by first | rfl | (simp; done) | (simp [*]; done)), H', ⟨by have := HK1.out; have := HK2.out; have := HJ13.out; omega⟩, ⟨by (with_reducible repeat (first | refine blk_drewN ?_ _ | refine blk_drew ?_ | refine blk_alloc ?_ _)); exact BK164.out⟩, ⟨by (with_reducible repeat (first | refine blk_drewN ?_ _ | refine blk_drew ?_ | refine blk_alloc ?_ _)); exact BK165.out⟩, ⟨by (with_reducible repeat (first | refine blk_drewN ?_ _ | refine blk_drew ?_ | refine blk_alloc ?_ _)); exact BK166.out⟩, ⟨by (with_reducible repeat (first | refine blk_drewN ?_ _ | refine blk_drew ?_ | refine blk_alloc ?_ _)); exact BK167.out⟩, ⟨by (with_reducible repeat (first | refine blk_drewN ?_ _ | refine blk_drew ?_ | refine blk_alloc ?_ _)); exact BK168.out⟩, ⟨by repeat (first | (with_reducible first | exact HB.out | apply below_alloc | apply pw_below_drewN | apply below_drew1 | refine below_set ?_ GE164.out | refine below_set ?_ GE165.out | refine below_set ?_ GE166.out | refine below_set ?_ GE167.out | refine below_set ?_ GE168.out) | exact HB.out)⟩⟩
         ·replace c66 := Bool.eq_false_iff.mpr c66
          subst c66
          have H1 : (if 0 ≤ a1 then (if a1 < 4 then (if 0 ≤ (Go.bits .and .i64 x9_2 3) then (if (Go.bits .and .i64 x9_2 3) < 4 then (if (Go.bits .and .i64 (x9_2 / 4) 3) = (Go.bits .and .i64 x9_2 3) then (watchwordlaw21_ways.j3 kj13 a1 x9_2 (Go.bits .and .i64 x9_2 3) (Go.bits .and .i64 (x9_2 / 4) 3) (x9_2 / 16) (ix4 (ix4 a0_0 a0_1 a0_2 a0_3 (Go.bits .and .i64 x9_2 3)) (ix4 a0_4 a0_5 a0_6 a0_7 (Go.bits .and .i64 x9_2 3)) (ix4 a0_8 a0_9 a0_10 a0_11 (Go.bits .and .i64 x9_2 3)) (ix4 a0_12 a0_13 a0_14 a0_15 (Go.bits .and .i64 x9_2 3)) a1) a0_0 a0_1 a0_2 a0_3 a0_4 a0_5 a0_6 a0_7 a0_8 a0_9 a0_10 a0_11 a0_12 a0_13 a0_14 a0_15 x168000_2 x168001_2 x168002_2 x168003_2 x169000_2 x169001_2 x169002_2 x169003_2 x169004_2 x169005_2 x169006_2 x169007_2 x169008_2 x169009_2 x169010_2 x169011_2 x169012_2 x169013_2 x169014_2 x169015_2) else (if 0 ≤ (Go.bits .and .i64 (x9_2 / 4) 3) then (if (Go.bits .and .i64 (x9_2 / 4) 3) < 4 then (watchwordlaw21_ways.j3 kj13 a1 x9_2 (Go.bits .and .i64 x9_2 3) (Go.bits .and .i64 (x9_2 / 4) 3) (x9_2 / 16) (wrap64 ((ix4 (ix4 a0_0 a0_1 a0_2 a0_3 (Go.bits .and .i64 x9_2 3)) (ix4 a0_4 a0_5 a0_6 a0_7 (Go.bits .and .i64 x9_2 3)) (ix4 a0_8 a0_9 a0_10 a0_11 (Go.bits .and .i64 x9_2 3)) (ix4 a0_12 a0_13 a0_14 a0_15 (Go.bits .and .i64 x9_2 3)) a1) + (ix4 (ix4 a0_0 a0_1 a0_2 a0_3 (Go.bits .and .i64 (x9_2 / 4) 3)) (ix4 a0_4 a0_5 a0_6 a0_7 (Go.bits .and .i64 (x9_2 / 4) 3)) (ix4 a0_8 a0_9 a0_10 a0_11 (Go.bits .and .i64 (x9_2 / 4) 3)) (ix4 a0_12 a0_13 a0_14 a0_15 (Go.bits .and .i64 (x9_2 / 4) 3)) (Go.bits .and .i64 x9_2 3)))) a0_0 a0_1 a0_2 a0_3 a0_4 a0_5 a0_6 a0_7 a0_8 a0_9 a0_10 a0_11 a0_12 a0_13 a0_14 a0_15 x168000_2 x168001_2 x168002_2 x168003_2 x169000_2 x169001_2 x169002_2 x169003_2 x169004_2 x169005_2 x169006_2 x169007_2 x169008_2 x169009_2 x169010_2 x169011_2 x169012_2 x169013_2 x169014_2 x169015_2) else (none)) else (none))) else (none)) else (none)) else (none)) else (none)) = some (r1, r2, r3, r4, r5, r6, r7, r8, r9, r10, r11, r12, r13, r14, r15, r16, r17, r18, r19, r20) := by rw [if_neg (show ¬ (false = true) by decide)] at H; exact H
          clear H
          have H := H1
          clear H1
          by_cases c67 : 0 ≤ a1
          ·rw [if_pos c67] at H
           have c67b0 : decide (0 ≤ a1) = true := decide_eq_true c67
           clear c67
           by_cases c68 : a1 < 4
           ·rw [if_pos c68] at H
            have c68b0 : decide (a1 < 4) = true := decide_eq_true c68
            clear c68
            by_cases c69 : 0 ≤ (Go.bits .and .i64 x9_2 3)
            ·rw [if_pos c69] at H
             have c69b0 : decide (0 ≤ (Go.bits .and .i64 x9_2 3)) = true := decide_eq_true c69
             clear c69
             by_cases c70 : (Go.bits .and .i64 x9_2 3) < 4
             ·rw [if_pos c70] at H
              have c70b0 : decide ((Go.bits .and .i64 x9_2 3) < 4) = true := decide_eq_true c70
              clear c70
              have HC71 := Aside0.mk H
              clear H
              have p72 : (0 ≤ (a1 : Int)) = True := eq_true (of_decide_eq_true (by first | (with_reducible assumption) | assumption))
              have q72 : ((a1 : Int) < 4) = True := eq_true (of_decide_eq_true (by first | (with_reducible assumption) | assumption))
              have p73 : (0 ≤ ((Go.bits .and .i64 x9_2 3) : Int)) = True := eq_true (of_decide_eq_true (by first | (with_reducible assumption) | assumption))
              have q73 : (((Go.bits .and .i64 x9_2 3) : Int) < 4) = True := eq_true (of_decide_eq_true (by first | (with_reducible assumption) | assumption))
              have hx74_0 : wc.cell? ⟨gb164, a1.toNat * 4 + (Go.bits .and .i64 x9_2 3).toNat, none⟩ = some (.int .i64 (ix4 (ix4 a0_0 a0_1 a0_2 a0_3 (Go.bits .and .i64 x9_2 3)) (ix4 a0_4 a0_5 a0_6 a0_7 (Go.bits .and .i64 x9_2 3)) (ix4 a0_8 a0_9 a0_10 a0_11 (Go.bits .and .i64 x9_2 3)) (ix4 a0_12 a0_13 a0_14 a0_15 (Go.bits .and .i64 x9_2 3)) a1)) := (blk_cell BK164.out (a1.toNat * 4 + (Go.bits .and .i64 x9_2 3).toNat)).trans (ix_44 (Value.int .i64) _ _ _ _ _ _ _ _ _ _ _ _ _ _ _ _ a1 (Go.bits .and .i64 x9_2 3)  (of_decide_eq_true (by first | (with_reducible assumption) | assumption)) (of_decide_eq_true (by first | (with_reducible assumption) | assumption))  (of_decide_eq_true (by first | (with_reducible assumption) | assumption)) (of_decide_eq_true (by first | (with_reducible assumption) | assumption)))
              go_upto_if 75 with (fail)
              go_cut [13] (fun v13 wc => ∃ (kq : Nat) (x13_70 : Int), v13 = .int .i64 x13_70 ∧ Aside0 (watchwordlaw21_ways.j3 kq a1 x9_2 (Go.bits .and .i64 x9_2 3) (Go.bits .and .i64 (x9_2 / 4) 3) (x9_2 / 16) x13_70 a0_0 a0_1 a0_2 a0_3 a0_4 a0_5 a0_6 a0_7 a0_8 a0_9 a0_10 a0_11 a0_12 a0_13 a0_14 a0_15 x168000_2 x168001_2 x168002_2 x168003_2 x169000_2 x169001_2 x169002_2 x169003_2 x169004_2 x169005_2 x169006_2 x169007_2 x169008_2 x169009_2 x169010_2 x169011_2 x169012_2 x169013_2 x169014_2 x169015_2 = some (r1, r2, r3, r4, r5, r6, r7, r8, r9, r10, r11, r12, r13, r14, r15, r16, r17, r18, r19, r20)) ∧ Aside0 (kq ≤ kj13) ∧ Aside0 (wc.heap[gb164]? = some (.cells #[.int .i64 a0_0, .int .i64 a0_1, .int .i64 a0_2, .int .i64 a0_3, .int .i64 a0_4, .int .i64 a0_5, .int .i64 a0_6, .int .i64 a0_7, .int .i64 a0_8, .int .i64 a0_9, .int .i64 a0_10, .int .i64 a0_11, .int .i64 a0_12, .int .i64 a0_13, .int .i64 a0_14, .int .i64 a0_15] 23 (0, 0))) ∧ Aside0 (wc.heap[gb165]? = some (.cells #[.int .i64 0, .int .i64 0, .int .i64 0, .int .i64 0] 22 (0, 0))) ∧ Aside0 (wc.heap[gb166]? = some (.cells #[.bool false, .bool false, .bool false, .bool false, .bool false, .bool false, .bool false, .bool false, .bool false, .bool false, .bool false, .bool false, .bool false, .bool false, .bool false, .bool false] 36 (0, 0))) ∧ Aside0 (wc.heap[gb167]? = some (.cells #[.int .i64 x168000_2, .int .i64 x168001_2, .int .i64 x168002_2, .int .i64 x168003_2] 22 (0, 0))) ∧ Aside0 (wc.heap[gb168]? = some (.cells #[.bool x169000_2, .bool x169001_2, .bool x169002_2, .bool x169003_2, .bool x169004_2, .bool x169005_2, .bool x169006_2, .bool x169007_2, .bool x169008_2, .bool x169009_2, .bool x169010_2, .bool x169011_2, .bool x169012_2, .bool x169013_2, .bool x169014_2, .bool x169015_2] 36 (0, 0))) ∧ Aside0 (Below w.heap.size w wc))
              case first =>
               have H := HC71.out
               clear HC71
               by_cases c75 : (Go.bits .and .i64 (x9_2 / 4) 3) = (Go.bits .and .i64 x9_2 3)
               ·rw [if_pos c75] at H
                have c75b0 : ((Go.bits .and .i64 (x9_2 / 4) 3) == (Go.bits .and .i64 x9_2 3)) = true := beq_iff_eq.mpr c75
                have c75b1 : ((Go.bits .and .i64 (x9_2 / 4) 3) != (Go.bits .and .i64 x9_2 3)) = false := bne_eq_false_iff_eq.mpr c75
                clear c75
                (first | rw [c75b0] | (simp only [i64_w, i32_w]; rw [c75b0]) | skip)
                have H' := Aside0.mk H
                clear H
                go_wp2
                go_meet
                case rel => exact ⟨_, (ix4 (ix4 a0_0 a0_1 a0_2 a0_3 (Go.bits .and .i64 x9_2 3)) (ix4 a0_4 a0_5 a0_6 a0_7 (Go.bits .and .i64 x9_2 3)) (ix4 a0_8 a0_9 a0_10 a0_11 (Go.bits .and .i64 x9_2 3)) (ix4 a0_12 a0_13 a0_14 a0_15 (Go.bits .and .i64 x9_2 3)) a1), (by first | rfl | (simp; done) | (simp [*]; done)), H', ⟨by have := HK1.out; have := HK2.out; have := HJ13.out; first | omega | exact Nat.le_refl _⟩, ⟨by (with_reducible repeat (first | refine blk_drewN ?_ _ | refine blk_drew ?_ | refine blk_alloc ?_ _)); exact BK164.out⟩, ⟨by (with_reducible repeat (first | refine blk_drewN ?_ _ | refine blk_drew ?_ | refine blk_alloc ?_ _)); exact BK165.out⟩, ⟨by (with_reducible repeat (first | refine blk_drewN ?_ _ | refine blk_drew ?_ | refine blk_alloc ?_ _)); exact BK166.out⟩, ⟨by (with_reducible repeat (first | refine blk_drewN ?_ _ | refine blk_drew ?_ | refine blk_alloc ?_ _)); exact BK167.out⟩, ⟨by (with_reducible repeat (first | refine blk_drewN ?_ _ | refine blk_drew ?_ | refine blk_alloc ?_ _)); exact BK168.out⟩, ⟨by repeat (first | (with_reducible first | exact HB.out | apply below_alloc | apply pw_below_drewN | apply below_drew1 | refine below_set ?_ GE164.out | refine below_set ?_ GE165.out | refine below_set ?_ GE166.out | refine below_set ?_ GE167.out | refine below_set ?_ GE168.out) | exact HB.out)⟩⟩
               ·rw [if_neg c75] at H
                have c75b0 : ((Go.bits .and .i64 (x9_2 / 4) 3) == (Go.bits .and .i64 x9_2 3)) = false := beq_eq_false_iff_ne.mpr c75
                have c75b1 : ((Go.bits .and .i64 (x9_2 / 4) 3) != (Go.bits .and .i64 x9_2 3)) = true := bne_iff_ne.mpr c75
                (first | rw [c75b0] | (simp only [i64_w, i32_w]; rw [c75b0]) | skip)
                by_cases c76 : 0 ≤ (Go.bits .and .i64 (x9_2 / 4) 3)
                ·rw [if_pos c76] at H
                 have c76b0 : decide (0 ≤ (Go.bits .and .i64 (x9_2 / 4) 3)) = true := decide_eq_true c76
                 clear c76
                 by_cases c77 : (Go.bits .and .i64 (x9_2 / 4) 3) < 4
                 ·rw [if_pos c77] at H
                  have c77b0 : decide ((Go.bits .and .i64 (x9_2 / 4) 3) < 4) = true := decide_eq_true c77
                  clear c77
                  have H' := Aside0.mk H
                  clear H
                  have p78 : (0 ≤ ((Go.bits .and .i64 x9_2 3) : Int)) = True := eq_true (of_decide_eq_true (by first | (with_reducible assumption) | assumption))
                  have q78 : (((Go.bits .and .i64 x9_2 3) : Int) < 4) = True := eq_true (of_decide_eq_true (by first | (with_reducible assumption) | assumption))
                  have p79 : (0 ≤ ((Go.bits .and .i64 (x9_2 / 4) 3) : Int)) = True := eq_true (of_decide_eq_true (by first | (with_reducible assumption) | assumption))
                  have q79 : (((Go.bits .and .i64 (x9_2 / 4) 3) : Int) < 4) = True := eq_true (of_decide_eq_true (by first | (with_reducible assumption) | assumption))
                  have hx80_0 : wc.cell? ⟨gb164, (Go.bits .and .i64 x9_2 3).toNat * 4 + (Go.bits .and .i64 (x9_2 / 4) 3).toNat, none⟩ = some (.int .i64 (ix4 (ix4 a0_0 a0_1 a0_2 a0_3 (Go.bits .and .i64 (x9_2 / 4) 3)) (ix4 a0_4 a0_5 a0_6 a0_7 (Go.bits .and .i64 (x9_2 / 4) 3)) (ix4 a0_8 a0_9 a0_10 a0_11 (Go.bits .and .i64 (x9_2 / 4) 3)) (ix4 a0_12 a0_13 a0_14 a0_15 (Go.bits .and .i64 (x9_2 / 4) 3)) (Go.bits .and .i64 x9_2 3))) := (blk_cell BK164.out ((Go.bits .and .i64 x9_2 3).toNat * 4 + (Go.bits .and .i64 (x9_2 / 4) 3).toNat)).trans (ix_44 (Value.int .i64) _ _ _ _ _ _ _ _ _ _ _ _ _ _ _ _ (Go.bits .and .i64 x9_2 3) (Go.bits .and .i64 (x9_2 / 4) 3)  (of_decide_eq_true (by first | (with_reducible assumption) | assumption)) (of_decide_eq_true (by first | (with_reducible assumption) | assumption))  (of_decide_eq_true (by first | (with_reducible assumption) | assumption)) (of_decide_eq_true (by first | (with_reducible assumption) | assumption)))
                  go_wp2
                  go_meet
                  case rel => exact ⟨_, (wrap64 ((ix4 (ix4 a0_0 a0_1 a0_2 a0_3 (Go.bits .and .i64 x9_2 3)) (ix4 a0_4 a0_5 a0_6 a0_7 (Go.bits .and .i64 x9_2 3)) (ix4 a0_8 a0_9 a0_10 a0_11 (Go.bits .and .i64 x9_2 3)) (ix4 a0_12 a0_13 a0_14 a0_15 (Go.bits .and .i64 x9_2 3)) a1) + (ix4 (ix4 a0_0 a0_1 a0_2 a0_3 (Go.bits .and .i64 (x9_2 / 4) 3)) (ix4 a0_4 a0_5 a0_6 a0_7 (Go.bits .and .i64 (x9_2 / 4) 3)) (ix4 a0_8 a0_9 a0_10 a0_11 (Go.bits .and .i64 (x9_2 / 4) 3)) (ix4 a0_12 a0_13 a0_14 a0_15 (Go.bits .and .i64 (x9_2 / 4) 3)) (Go.bits .and .i64 x9_2 3)))), (by first | rfl | (simp; done) | (simp [*]; done)), H', ⟨by have := HK1.out; have := HK2.out; have := HJ13.out; first | omega | exact Nat.le_refl _⟩, ⟨by (with_reducible repeat (first | refine blk_drewN ?_ _ | refine blk_drew ?_ | refine blk_alloc ?_ _)); exact BK164.out⟩, ⟨by (with_reducible repeat (first | refine blk_drewN ?_ _ | refine blk_drew ?_ | refine blk_alloc ?_ _)); exact BK165.out⟩, ⟨by (with_reducible repeat (first | refine blk_drewN ?_ _ | refine blk_drew ?_ | refine blk_alloc ?_ _)); exact BK166.out⟩, ⟨by (with_reducible repeat (first | refine blk_drewN ?_ _ | refine blk_drew ?_ | refine blk_alloc ?_ _)); exact BK167.out⟩, ⟨by (with_reducible repeat (first | refine blk_drewN ?_ _ | refine blk_drew ?_ | refine blk_alloc ?_ _)); exact BK168.out⟩, ⟨by repeat (first | (with_reducible first | exact HB.out | apply below_alloc | apply pw_below_drewN | apply below_drew1 | refine below_set ?_ GE164.out | refine below_set ?_ GE165.out | refine below_set ?_ GE166.out | refine below_set ?_ GE167.out | refine below_set ?_ GE168.out) | exact HB.out)⟩⟩
                 ·rw [if_neg c77] at H
                  exact absurd H (by simp)
                ·rw [if_neg c76] at H
                 exact absurd H (by simp)
              case rest =>
               clear HC71
               try clear c1
               try clear p1
               try clear q1
               try clear c2
               try clear p2
               try clear q2
               try clear hx2
               try clear c3
               try clear p3
               try clear q3
               try clear hx3
               try clear c4
               try clear p4
               try clear q4
               try clear hx4
               try clear c5
               try clear p5
               try clear q5
               try clear hx5
               try clear c6
               try clear p6
               try clear q6
               try clear hx6
               try clear c7
               try clear p7
               try clear q7
               try clear hx7
               try clear c8
               try clear c8b0
               try clear hx8
               try clear c9
               try clear c9b0
               try clear p10
               try clear q10
               try clear c13
               try clear c13b0
               try clear c15
               try clear c15b0
               try clear c15b1
               try clear c16
               try clear c16b0
               try clear c17
               try clear c17b0
               try clear c18
               try clear c18b0
               try clear c19
               try clear c19b0
               try clear c20
               try clear c20b0
               try clear p21
               try clear q21
               try clear p22
               try clear q22
               try clear hx23
               try clear c24
               try clear c24b0
               try clear c24b1
               try clear c25
               try clear c25b0
               try clear c25b1
               try clear p26
               try clear q26
               try clear p27
               try clear q27
               try clear hx28
               try clear c29
               try clear c29b0
               try clear c30
               try clear c30b0
               try clear c31
               try clear c31b0
               try clear c32
               try clear c32b0
               try clear p33
               try clear q33
               try clear p34
               try clear q34
               try clear hx35
               try clear p36
               try clear q36
               try clear p37
               try clear q37
               try clear hx38
               try clear c39
               try clear c39b0
               try clear c40
               try clear c40b0
               try clear c41
               try clear c41b0
               try clear p42
               try clear q42
               try clear p43
               try clear q43
               try clear hx44
               try clear p45
               try clear q45
               try clear p46
               try clear q46
               try clear hx47
               try clear c48
               try clear c48b0
               try clear c48b1
               try clear p49
               try clear q49
               try clear p50
               try clear q50
               try clear hx51
               try clear p52
               try clear q52
               try clear p53
               try clear q53
               try clear hx54
               try clear c55
               try clear c55b0
               try clear c56
               try clear c56b0
               try clear p57
               try clear q57
               try clear p58
               try clear q58
               try clear hx59
               try clear p60
               try clear q60
               try clear p61
               try clear q61
               try clear hx62
               try clear p63
               try clear q63
               try clear p64
               try clear q64
               try clear hx65
               try clear c66
               try clear c67
               try clear c67b0
               try clear c68
               try clear c68b0
               try clear c69
               try clear c69b0
               try clear c70
               try clear c70b0
               try clear p72
               try clear q72
               try clear p73
               try clear q73
               try clear hx74
               try clear c75
               try clear c75b0
               try clear c75b1
               try clear c76
               try clear c76b0
               try clear c77
               try clear c77b0
               try clear p78
               try clear q78
               try clear p79
               try clear q79
               try clear hx80
               try clear hx23_0
               try clear hx28_0
               try clear hx35_0
               try clear hx38_0
               try clear hx44_0
               try clear hx47_0
               try clear hx51_0
               try clear hx54_0
               try clear hx59_0
               try clear hx62_0
               try clear hx65_0
               try clear hx74_0
               try clear hx80_0
               try clear p1
               try clear p10
               try clear p2
               try clear p21
               try clear p22
               try clear p26
               try clear p27
               try clear p3
               try clear p33
               try clear p34
               try clear p36
               try clear p37
               try clear p4
               try clear p42
               try clear p43
               try clear p45
               try clear p46
               try clear p49
               try clear p5
               try clear p50
               try clear p52
               try clear p53
               try clear p57
               try clear p58
               try clear p6
               try clear p60
               try clear p61
               try clear p63
               try clear p64
               try clear p72
               try clear p73
               try clear p78
               try clear p79
               try clear q1
               try clear q10
               try clear q2
               try clear q21
               try clear q22
               try clear q26
               try clear q27
               try clear q3
               try clear q33
               try clear q34
               try clear q36
               try clear q37
               try clear q4
               try clear q42
               try clear q43
               try clear q45
               try clear q46
               try clear q49
               try clear q5
               try clear q50
               try clear q52
               try clear q53
               try clear q57
               try clear q58
               try clear q6
               try clear q60
               try clear q61
               try clear q63
               try clear q64
               try clear q72
               try clear q73
               try clear q78
               try clear q79
               obtain ⟨kq, x13_70, rfl, HA, HJ70, BK164, BK165, BK166, BK167, BK168, HB⟩ := hcut
               cases kq with
               | zero => exact absurd HA.out (by simp [watchwordlaw21_ways.j3])
               | succ kj70 =>
                have H := HA.out
                clear HA
                simp only [watchwordlaw21_ways.j3] at H
                have HC81 := Aside0.mk H
                clear H
                go_upto_if 85 with (fail)
                go_cut [13] (fun v13 wc => ∃ (kq : Nat) (x13_80 : Int), v13 = .int .i64 x13_80 ∧ Aside0 (watchwordlaw21_ways.j4 kq a1 x9_2 (Go.bits .and .i64 x9_2 3) (x9_2 / 16) x13_80 a0_0 a0_1 a0_2 a0_3 a0_4 a0_5 a0_6 a0_7 a0_8 a0_9 a0_10 a0_11 a0_12 a0_13 a0_14 a0_15 x168000_2 x168001_2 x168002_2 x168003_2 x169000_2 x169001_2 x169002_2 x169003_2 x169004_2 x169005_2 x169006_2 x169007_2 x169008_2 x169009_2 x169010_2 x169011_2 x169012_2 x169013_2 x169014_2 x169015_2 = some (r1, r2, r3, r4, r5, r6, r7, r8, r9, r10, r11, r12, r13, r14, r15, r16, r17, r18, r19, r20)) ∧ Aside0 (kq ≤ kj70) ∧ Aside0 (wc.heap[gb164]? = some (.cells #[.int .i64 a0_0, .int .i64 a0_1, .int .i64 a0_2, .int .i64 a0_3, .int .i64 a0_4, .int .i64 a0_5, .int .i64 a0_6, .int .i64 a0_7, .int .i64 a0_8, .int .i64 a0_9, .int .i64 a0_10, .int .i64 a0_11, .int .i64 a0_12, .int .i64 a0_13, .int .i64 a0_14, .int .i64 a0_15] 23 (0, 0))) ∧ Aside0 (wc.heap[gb165]? = some (.cells #[.int .i64 0, .int .i64 0, .int .i64 0, .int .i64 0] 22 (0, 0))) ∧ Aside0 (wc.heap[gb166]? = some (.cells #[.bool false, .bool false, .bool false, .bool false, .bool false, .bool false, .bool false, .bool false, .bool false, .bool false, .bool false, .bool false, .bool false, .bool false, .bool false, .bool false] 36 (0, 0))) ∧ Aside0 (wc.heap[gb167]? = some (.cells #[.int .i64 x168000_2, .int .i64 x168001_2, .int .i64 x168002_2, .int .i64 x168003_2] 22 (0, 0))) ∧ Aside0 (wc.heap[gb168]? = some (.cells #[.bool x169000_2, .bool x169001_2, .bool x169002_2, .bool x169003_2, .bool x169004_2, .bool x169005_2, .bool x169006_2, .bool x169007_2, .bool x169008_2, .bool x169009_2, .bool x169010_2, .bool x169011_2, .bool x169012_2, .bool x169013_2, .bool x169014_2, .bool x169015_2] 36 (0, 0))) ∧ Aside0 (Below w.heap.size w wc))
                case first =>
                 have H := HC81.out
                 clear HC81
                 by_cases c82 : (x9_2 / 16) = (Go.bits .and .i64 (x9_2 / 4) 3)
                 ·rw [if_pos c82] at H
                  have c82b0 : ((x9_2 / 16) == (Go.bits .and .i64 (x9_2 / 4) 3)) = true := beq_iff_eq.mpr c82
                  have c82b1 : ((x9_2 / 16) != (Go.bits .and .i64 (x9_2 / 4) 3)) = false := bne_eq_false_iff_eq.mpr c82
                  clear c82
                  (first | rw [c82b0] | (simp only [i64_w, i32_w]; rw [c82b0]) | skip)
                  have H' := Aside0.mk H
                  clear H
                  go_wp2
                  go_meet
                  case rel => exact ⟨_, (x13_70), (by first | rfl | (simp; done) | (simp [*]; done)), H', ⟨by have := HK1.out; have := HK2.out; have := HJ13.out; have := HJ70.out; first | omega | exact Nat.le_refl _⟩, ⟨by (with_reducible repeat (first | refine blk_drewN ?_ _ | refine blk_drew ?_ | refine blk_alloc ?_ _)); exact BK164.out⟩, ⟨by (with_reducible repeat (first | refine blk_drewN ?_ _ | refine blk_drew ?_ | refine blk_alloc ?_ _)); exact BK165.out⟩, ⟨by (with_reducible repeat (first | refine blk_drewN ?_ _ | refine blk_drew ?_ | refine blk_alloc ?_ _)); exact BK166.out⟩, ⟨by (with_reducible repeat (first | refine blk_drewN ?_ _ | refine blk_drew ?_ | refine blk_alloc ?_ _)); exact BK167.out⟩, ⟨by (with_reducible repeat (first | refine blk_drewN ?_ _ | refine blk_drew ?_ | refine blk_alloc ?_ _)); exact BK168.out⟩, ⟨by repeat (first | (with_reducible first | exact HB.out | apply below_alloc | apply pw_below_drewN | apply below_drew1 | refine below_set ?_ GE164.out | refine below_set ?_ GE165.out | refine below_set ?_ GE166.out | refine below_set ?_ GE167.out | refine below_set ?_ GE168.out) | exact HB.out)⟩⟩
                 ·rw [if_neg c82] at H
                  have c82b0 : ((x9_2 / 16) == (Go.bits .and .i64 (x9_2 / 4) 3)) = false := beq_eq_false_iff_ne.mpr c82
                  have c82b1 : ((x9_2 / 16) != (Go.bits .and .i64 (x9_2 / 4) 3)) = true := bne_iff_ne.mpr c82
                  (first | rw [c82b0] | (simp only [i64_w, i32_w]; rw [c82b0]) | skip)
                  by_cases c83 : 0 ≤ (Go.bits .and .i64 (x9_2 / 4) 3)
                  ·rw [if_pos c83] at H
                   have c83b0 : decide (0 ≤ (Go.bits .and .i64 (x9_2 / 4) 3)) = true := decide_eq_true c83
                   clear c83
                   by_cases c84 : (Go.bits .and .i64 (x9_2 / 4) 3) < 4
                   ·rw [if_pos c84] at H
                    have c84b0 : decide ((Go.bits .and .i64 (x9_2 / 4) 3) < 4) = true := decide_eq_true c84
                    clear c84
                    by_cases c85 : 0 ≤ (x9_2 / 16)
                    ·rw [if_pos c85] at H
                     have c85b0 : decide (0 ≤ (x9_2 / 16)) = true := decide_eq_true c85
                     clear c85
                     by_cases c86 : (x9_2 / 16) < 4
                     ·rw [if_pos c86] at H
                      have c86b0 : decide ((x9_2 / 16) < 4) = true := decide_eq_true c86
                      clear c86
                      have H' := Aside0.mk H
                      clear H
                      have p87 : (0 ≤ ((Go.bits .and .i64 (x9_2 / 4) 3) : Int)) = True := eq_true (of_decide_eq_true (by first | (with_reducible assumption) | assumption))
                      have q87 : (((Go.bits .and .i64 (x9_2 / 4) 3) : Int) < 4) = True := eq_true (of_decide_eq_true (by first | (with_reducible assumption) | assumption))
                      have p88 : (0 ≤ ((x9_2 / 16) : Int)) = True := eq_true (of_decide_eq_true (by first | (with_reducible assumption) | assumption))
                      have q88 : (((x9_2 / 16) : Int) < 4) = True := eq_true (of_decide_eq_true (by first | (with_reducible assumption) | assumption))
                      have hx89_0 : wc.cell? ⟨gb164, (Go.bits .and .i64 (x9_2 / 4) 3).toNat * 4 + (x9_2 / 16).toNat, none⟩ = some (.int .i64 (ix4 (ix4 a0_0 a0_1 a0_2 a0_3 (x9_2 / 16)) (ix4 a0_4 a0_5 a0_6 a0_7 (x9_2 / 16)) (ix4 a0_8 a0_9 a0_10 a0_11 (x9_2 / 16)) (ix4 a0_12 a0_13 a0_14 a0_15 (x9_2 / 16)) (Go.bits .and .i64 (x9_2 / 4) 3))) := (blk_cell BK164.out ((Go.bits .and .i64 (x9_2 / 4) 3).toNat * 4 + (x9_2 / 16).toNat)).trans (ix_44 (Value.int .i64) _ _ _ _ _ _ _ _ _ _ _ _ _ _ _ _ (Go.bits .and .i64 (x9_2 / 4) 3) (x9_2 / 16)  (of_decide_eq_true (by first | (with_reducible assumption) | assumption)) (of_decide_eq_true (by first | (with_reducible assumption) | assumption))  (of_decide_eq_true (by first | (with_reducible assumption) | assumption)) (of_decide_eq_true (by first | (with_reducible assumption) | assumption)))
                      go_wp2
                      go_meet
                      case rel => exact ⟨_, (wrap64 (x13_70 + (ix4 (ix4 a0_0 a0_1 a0_2 a0_3 (x9_2 / 16)) (ix4 a0_4 a0_5 a0_6 a0_7 (x9_2 / 16)) (ix4 a0_8 a0_9 a0_10 a0_11 (x9_2 / 16)) (ix4 a0_12 a0_13 a0_14 a0_15 (x9_2 / 16)) (Go.bits .and .i64 (x9_2 / 4) 3)))), (by first | rfl | (simp; done) | (simp [*]; done)), H', ⟨by have := HK1.out; have := HK2.out; have := HJ13.out; have := HJ70.out; first | omega | exact Nat.le_refl _⟩, ⟨by (with_reducible repeat (first | refine blk_drewN ?_ _ | refine blk_drew ?_ | refine blk_alloc ?_ _)); exact BK164.out⟩, ⟨by (with_reducible repeat (first | refine blk_drewN ?_ _ | refine blk_drew ?_ | refine blk_alloc ?_ _)); exact BK165.out⟩, ⟨by (with_reducible repeat (first | refine blk_drewN ?_ _ | refine blk_drew ?_ | refine blk_alloc ?_ _)); exact BK166.out⟩, ⟨by (with_reducible repeat (first | refine blk_drewN ?_ _ | refine blk_drew ?_ | refine blk_alloc ?_ _)); exact BK167.out⟩, ⟨by (with_reducible repeat (first | refine blk_drewN ?_ _ | refine blk_drew ?_ | refine blk_alloc ?_ _)); exact BK168.out⟩, ⟨by repeat (first | (with_reducible first | exact HB.out | apply below_alloc | apply pw_below_drewN | apply below_drew1 | refine below_set ?_ GE164.out | refine below_set ?_ GE165.out | refine below_set ?_ GE166.out | refine below_set ?_ GE167.out | refine below_set ?_ GE168.out) | exact HB.out)⟩⟩
                     ·rw [if_neg c86] at H
                      exact absurd H (by simp)
                    ·rw [if_neg c85] at H
                     exact absurd H (by simp)
                   ·rw [if_neg c84] at H
                    exact absurd H (by simp)
                  ·rw [if_neg c83] at H
                   exact absurd H (by simp)
                case rest =>
                 clear HC81
                 try clear c1
                 try clear p1
                 try clear q1
                 try clear c2
                 try clear p2
                 try clear q2
                 try clear hx2
                 try clear c3
                 try clear p3
                 try clear q3
                 try clear hx3
                 try clear c4
                 try clear p4
                 try clear q4
                 try clear hx4
                 try clear c5
                 try clear p5
                 try clear q5
                 try clear hx5
                 try clear c6
                 try clear p6
                 try clear q6
                 try clear hx6
                 try clear c7
                 try clear p7
                 try clear q7
                 try clear hx7
                 try clear c8
                 try clear c8b0
                 try clear p8
                 try clear q8
                 try clear hx8
                 try clear c9
                 try clear c9b0
                 try clear p10
                 try clear q10
                 try clear c13
                 try clear c13b0
                 try clear c15
                 try clear c15b0
                 try clear c15b1
                 try clear c16
                 try clear c16b0
                 try clear c17
                 try clear c17b0
                 try clear c18
                 try clear c18b0
                 try clear c19
                 try clear c19b0
                 try clear c20
                 try clear c20b0
                 try clear p21
                 try clear q21
                 try clear p22
                 try clear q22
                 try clear hx23
                 try clear c24
                 try clear c24b0
                 try clear c24b1
                 try clear c25
                 try clear c25b0
                 try clear c25b1
                 try clear p26
                 try clear q26
                 try clear p27
                 try clear q27
                 try clear hx28
                 try clear c29
                 try clear c29b0
                 try clear c30
                 try clear c30b0
                 try clear c31
                 try clear c31b0
                 try clear c32
                 try clear c32b0
                 try clear p33
                 try clear q33
                 try clear p34
                 try clear q34
                 try clear hx35
                 try clear p36
                 try clear q36
                 try clear p37
                 try clear q37
                 try clear hx38
                 try clear c39
                 try clear c39b0
                 try clear c40
                 try clear c40b0
                 try clear c41
                 try clear c41b0
                 try clear p42
                 try clear q42
                 try clear p43
                 try clear q43
                 try clear hx44
                 try clear p45
                 try clear q45
                 try clear p46
                 try clear q46
                 try clear hx47
                 try clear c48
                 try clear c48b0
                 try clear c48b1
                 try clear p49
                 try clear q49
                 try clear p50
                 try clear q50
                 try clear hx51
                 try clear p52
                 try clear q52
                 try clear p53
                 try clear q53
                 try clear hx54
                 try clear c55
                 try clear c55b0
                 try clear c56
                 try clear c56b0
                 try clear p57
                 try clear q57
                 try clear p58
                 try clear q58
                 try clear hx59
                 try clear p60
                 try clear q60
                 try clear p61
                 try clear q61
                 try clear hx62
                 try clear p63
                 try clear q63
                 try clear p64
                 try clear q64
                 try clear hx65
                 try clear c66
                 try clear c67
                 try clear c67b0
                 try clear c68
                 try clear c68b0
                 try clear c69
                 try clear c69b0
                 try clear c70
                 try clear c70b0
                 try clear p72
                 try clear q72
                 try clear p73
                 try clear q73
                 try clear hx74
                 try clear c75
                 try clear c75b0
                 try clear c75b1
                 try clear c76
                 try clear c76b0
                 try clear c77
                 try clear c77b0
                 try clear p78
                 try clear q78
                 try clear p79
                 try clear q79
                 try clear hx80
                 try clear c82
                 try clear c82b0
                 try clear c82b1
                 try clear c83
                 try clear c83b0
                 try clear c84
                 try clear c84b0
                 try clear c85
                 try clear c85b0
                 try clear c86
                 try clear c86b0
                 try clear p87
                 try clear q87
                 try clear p88
                 try clear q88
                 try clear hx89
                 try clear hx23_0
                 try clear hx28_0
                 try clear hx35_0
                 try clear hx38_0
                 try clear hx44_0
                 try clear hx47_0
                 try clear hx51_0
                 try clear hx54_0
                 try clear hx59_0
                 try clear hx62_0
                 try clear hx65_0
                 try clear hx74_0
                 try clear hx80_0
                 try clear hx89_0
                 try clear p1
                 try clear p10
                 try clear p2
                 try clear p21
                 try clear p22
                 try clear p26
                 try clear p27
                 try clear p3
                 try clear p33
                 try clear p34
                 try clear p36
                 try clear p37
                 try clear p4
                 try clear p42
                 try clear p43
                 try clear p45
                 try clear p46
                 try clear p49
                 try clear p5
                 try clear p50
                 try clear p52
                 try clear p53
                 try clear p57
                 try clear p58
                 try clear p6
                 try clear p60
                 try clear p61
                 try clear p63
                 try clear p64
                 try clear p7
                 try clear p72
                 try clear p73
                 try clear p78
                 try clear p79
                 try clear p87
                 try clear p88
                 try clear q1
                 try clear q10
                 try clear q2
                 try clear q21
                 try clear q22
                 try clear q26
                 try clear q27
                 try clear q3
                 try clear q33
                 try clear q34
                 try clear q36
                 try clear q37
                 try clear q4
                 try clear q42
                 try clear q43
                 try clear q45
                 try clear q46
                 try clear q49
                 try clear q5
                 try clear q50
                 try clear q52
                 try clear q53
                 try clear q57
                 try clear q58
                 try clear q6
                 try clear q60
                 try clear q61
                 try clear q63
                 try clear q64
                 try clear q7
                 try clear q72
                 try clear q73
                 try clear q78
                 try clear q79
                 try clear q87
                 try clear q88
                 obtain ⟨kq, x13_80, rfl, HA, HJ80, BK164, BK165, BK166, BK167, BK168, HB⟩ := hcut
                 cases kq with
                 | zero => exact absurd HA.out (by simp [watchwordlaw21_ways.j4])
                 | succ kj80 =>
                  have H := HA.out
                  clear HA
                  simp only [watchwordlaw21_ways.j4] at H
                  have HC90 := Aside0.mk H
                  clear H
                  go_upto_region 17 with (fail)
                  go_cut [103] (fun v103 wc => ∃ (kq : Nat) (x103_89 : Bool), v103 = .bool x103_89 ∧ Aside0 (watchwordlaw21_ways.j5 kq a1 x9_2 (Go.bits .and .i64 x9_2 3) (x9_2 / 16) x13_80 x103_89 a0_0 a0_1 a0_2 a0_3 a0_4 a0_5 a0_6 a0_7 a0_8 a0_9 a0_10 a0_11 a0_12 a0_13 a0_14 a0_15 x168000_2 x168001_2 x168002_2 x168003_2 x169000_2 x169001_2 x169002_2 x169003_2 x169004_2 x169005_2 x169006_2 x169007_2 x169008_2 x169009_2 x169010_2 x169011_2 x169012_2 x169013_2 x169014_2 x169015_2 = some (r1, r2, r3, r4, r5, r6, r7, r8, r9, r10, r11, r12, r13, r14, r15, r16, r17, r18, r19, r20)) ∧ Aside0 (kq ≤ kj80) ∧ Aside0 (wc.heap[gb164]? = some (.cells #[.int .i64 a0_0, .int .i64 a0_1, .int .i64 a0_2, .int .i64 a0_3, .int .i64 a0_4, .int .i64 a0_5, .int .i64 a0_6, .int .i64 a0_7, .int .i64 a0_8, .int .i64 a0_9, .int .i64 a0_10, .int .i64 a0_11, .int .i64 a0_12, .int .i64 a0_13, .int .i64 a0_14, .int .i64 a0_15] 23 (0, 0))) ∧ Aside0 (wc.heap[gb165]? = some (.cells #[.int .i64 0, .int .i64 0, .int .i64 0, .int .i64 0] 22 (0, 0))) ∧ Aside0 (wc.heap[gb166]? = some (.cells #[.bool false, .bool false, .bool false, .bool false, .bool false, .bool false, .bool false, .bool false, .bool false, .bool false, .bool false, .bool false, .bool false, .bool false, .bool false, .bool false] 36 (0, 0))) ∧ Aside0 (wc.heap[gb167]? = some (.cells #[.int .i64 x168000_2, .int .i64 x168001_2, .int .i64 x168002_2, .int .i64 x168003_2] 22 (0, 0))) ∧ Aside0 (wc.heap[gb168]? = some (.cells #[.bool x169000_2, .bool x169001_2, .bool x169002_2, .bool x169003_2, .bool x169004_2, .bool x169005_2, .bool x169006_2, .bool x169007_2, .bool x169008_2, .bool x169009_2, .bool x169010_2, .bool x169011_2, .bool x169012_2, .bool x169013_2, .bool x169014_2, .bool x169015_2] 36 (0, 0))) ∧ Aside0 (Below w.heap.size w wc))
                  case first =>
                   have H := HC90.out
                   clear HC90
                   by_cases c91 : 0 ≤ (x9_2 / 16)
                   ·rw [if_pos c91] at H
                    have c91b0 : decide (0 ≤ (x9_2 / 16)) = true := decide_eq_true c91
                    clear c91
                    (first | rw [c91b0] | (simp only [i64_w, i32_w]; rw [c91b0]) | skip)
                    by_cases c92 : (x9_2 / 16) < 4
                    ·rw [if_pos c92] at H
                     have c92b0 : decide ((x9_2 / 16) < 4) = true := decide_eq_true c92
                     clear c92
                     by_cases c93 : (ix4 x168000_2 x168001_2 x168002_2 x168003_2 (x9_2 / 16)) < 0
                     ·rw [if_pos c93] at H
                      have c93b0 : decide ((ix4 x168000_2 x168001_2 x168002_2 x168003_2 (x9_2 / 16)) < 0) = true := decide_eq_true c93
                      clear c93
                      have H' := Aside0.mk H
                      clear H
                      have p94 : (0 ≤ ((x9_2 / 16) : Int)) = True := eq_true (of_decide_eq_true (by first | (with_reducible assumption) | assumption))
                      have q94 : (((x9_2 / 16) : Int) < 4) = True := eq_true (of_decide_eq_true (by first | (with_reducible assumption) | assumption))
                      have hx95_0 : wc.cell? ⟨gb167, (x9_2 / 16).toNat, none⟩ = some (.int .i64 (ix4 x168000_2 x168001_2 x168002_2 x168003_2 (x9_2 / 16))) := (blk_cell BK167.out ((x9_2 / 16).toNat)).trans (ix_4 (Value.int .i64) _ _ _ _ (x9_2 / 16) (of_decide_eq_true (by first | (with_reducible assumption) | assumption)) (of_decide_eq_true (by first | (with_reducible assumption) | assumption)))
                      go_wp2
                      go_meet
                      case rel => exact ⟨_, (true), (by first | rfl | (simp; done) | (simp [*]; done)), H', ⟨by have := HK1.out; have := HK2.out; have := HJ13.out; have := HJ70.out; have := HJ80.out; first | omega | exact Nat.le_refl _⟩, ⟨by (with_reducible repeat (first | refine blk_drewN ?_ _ | refine blk_drew ?_ | refine blk_alloc ?_ _)); exact BK164.out⟩, ⟨by (with_reducible repeat (first | refine blk_drewN ?_ _ | refine blk_drew ?_ | refine blk_alloc ?_ _)); exact BK165.out⟩, ⟨by (with_reducible repeat (first | refine blk_drewN ?_ _ | refine blk_drew ?_ | refine blk_alloc ?_ _)); exact BK166.out⟩, ⟨by (with_reducible repeat (first | refine blk_drewN ?_ _ | refine blk_drew ?_ | refine blk_alloc ?_ _)); exact BK167.out⟩, ⟨by (with_reducible repeat (first | refine blk_drewN ?_ _ | refine blk_drew ?_ | refine blk_alloc ?_ _)); exact BK168.out⟩, ⟨by repeat (first | (with_reducible first | exact HB.out | apply below_alloc | apply pw_below_drewN | apply below_drew1 | refine below_set ?_ GE164.out | refine below_set ?_ GE165.out | refine below_set ?_ GE166.out | refine below_set ?_ GE167.out | refine below_set ?_ GE168.out) | exact HB.out)⟩⟩
                     ·rw [if_neg c93] at H
                      have c93b0 : decide ((ix4 x168000_2 x168001_2 x168002_2 x168003_2 (x9_2 / 16)) < 0) = false := decide_eq_false c93
                      clear c93
                      have H' := Aside0.mk H
                      clear H
                      have p96 : (0 ≤ ((x9_2 / 16) : Int)) = True := eq_true (of_decide_eq_true (by first | (with_reducible assumption) | assumption))
                      have q96 : (((x9_2 / 16) : Int) < 4) = True := eq_true (of_decide_eq_true (by first | (with_reducible assumption) | assumption))
                      have hx97_0 : wc.cell? ⟨gb167, (x9_2 / 16).toNat, none⟩ = some (.int .i64 (ix4 x168000_2 x168001_2 x168002_2 x168003_2 (x9_2 / 16))) := (blk_cell BK167.out ((x9_2 / 16).toNat)).trans (ix_4 (Value.int .i64) _ _ _ _ (x9_2 / 16) (of_decide_eq_true (by first | (with_reducible assumption) | assumption)) (of_decide_eq_true (by first | (with_reducible assumption) | assumption)))
                      have p98 : (0 ≤ ((x9_2 / 16) : Int)) = True := eq_true (of_decide_eq_true (by first | (with_reducible assumption) | assumption))
                      have q98 : (((x9_2 / 16) : Int) < 4) = True := eq_true (of_decide_eq_true (by first | (with_reducible assumption) | assumption))
                      have hx99_0 : wc.cell? ⟨gb167, (x9_2 / 16).toNat, none⟩ = some (.int .i64 (ix4 x168000_2 x168001_2 x168002_2 x168003_2 (x9_2 / 16))) := (blk_cell BK167.out ((x9_2 / 16).toNat)).trans (ix_4 (Value.int .i64) _ _ _ _ (x9_2 / 16) (of_decide_eq_true (by first | (with_reducible assumption) | assumption)) (of_decide_eq_true (by first | (with_reducible assumption) | assumption)))
                      go_wp2
                      go_meet
                      case rel => exact ⟨_, (decide (x13_80 < (ix4 x168000_2 x168001_2 x168002_2 x168003_2 (x9_2 / 16)))), (by first | rfl | (simp; done) | (simp [*]; done)), H', ⟨by have := HK1.out; have := HK2.out; have := HJ13.out; have := HJ70.out; have := HJ80.out; first | omega | exact Nat.le_refl _⟩, ⟨by (with_reducible repeat (first | refine blk_drewN ?_ _ | refine blk_drew ?_ | refine blk_alloc ?_ _)); exact BK164.out⟩, ⟨by (with_reducible repeat (first | refine blk_drewN ?_ _ | refine blk_drew ?_ | refine blk_alloc ?_ _)); exact BK165.out⟩, ⟨by (with_reducible repeat (first | refine blk_drewN ?_ _ | refine blk_drew ?_ | refine blk_alloc ?_ _)); exact BK166.out⟩, ⟨by (with_reducible repeat (first | refine blk_drewN ?_ _ | refine blk_drew ?_ | refine blk_alloc ?_ _)); exact BK167.out⟩, ⟨by (with_reducible repeat (first | refine blk_drewN ?_ _ | refine blk_drew ?_ | refine blk_alloc ?_ _)); exact BK168.out⟩, ⟨by repeat (first | (with_reducible first | exact HB.out | apply below_alloc | apply pw_below_drewN | apply below_drew1 | refine below_set ?_ GE164.out | refine below_set ?_ GE165.out | refine below_set ?_ GE166.out | refine below_set ?_ GE167.out | refine below_set ?_ GE168.out) | exact HB.out)⟩⟩
                    ·rw [if_neg c92] at H
                     exact absurd H (by simp)
                   ·rw [if_neg c91] at H
                    exact absurd H (by simp)
                  case rest =>
                   clear HC90
                   try clear c1
                   try clear p1
                   try clear q1
                   try clear c2
                   try clear p2
                   try clear q2
                   try clear hx2
                   try clear c3
                   try clear p3
                   try clear q3
                   try clear hx3
                   try clear c4
                   try clear p4
                   try clear q4
                   try clear hx4
                   try clear c5
                   try clear p5
                   try clear q5
                   try clear hx5
                   try clear c6
                   try clear p6
                   try clear q6
                   try clear hx6
                   try clear c7
                   try clear p7
                   try clear q7
                   try clear hx7
                   try clear c8
                   try clear c8b0
                   try clear p8
                   try clear q8
                   try clear hx8
                   try clear c9
                   try clear c9b0
                   try clear p9
                   try clear q9
                   try clear hx9
                   try clear p10
                   try clear q10
                   try clear c13
                   try clear c13b0
                   try clear c15
                   try clear c15b0
                   try clear c15b1
                   try clear c16
                   try clear c16b0
                   try clear c17
                   try clear c17b0
                   try clear c18
                   try clear c18b0
                   try clear c19
                   try clear c19b0
                   try clear c20
                   try clear c20b0
                   try clear p21
                   try clear q21
                   try clear p22
                   try clear q22
                   try clear hx23
                   try clear c24
                   try clear c24b0
                   try clear c24b1
                   try clear c25
                   try clear c25b0
                   try clear c25b1
                   try clear p26
                   try clear q26
                   try clear p27
                   try clear q27
                   try clear hx28
                   try clear c29
                   try clear c29b0
                   try clear c30
                   try clear c30b0
                   try clear c31
                   try clear c31b0
                   try clear c32
                   try clear c32b0
                   try clear p33
                   try clear q33
                   try clear p34
                   try clear q34
                   try clear hx35
                   try clear p36
                   try clear q36
                   try clear p37
                   try clear q37
                   try clear hx38
                   try clear c39
                   try clear c39b0
                   try clear c40
                   try clear c40b0
                   try clear c41
                   try clear c41b0
                   try clear p42
                   try clear q42
                   try clear p43
                   try clear q43
                   try clear hx44
                   try clear p45
                   try clear q45
                   try clear p46
                   try clear q46
                   try clear hx47
                   try clear c48
                   try clear c48b0
                   try clear c48b1
                   try clear p49
                   try clear q49
                   try clear p50
                   try clear q50
                   try clear hx51
                   try clear p52
                   try clear q52
                   try clear p53
                   try clear q53
                   try clear hx54
                   try clear c55
                   try clear c55b0
                   try clear c56
                   try clear c56b0
                   try clear p57
                   try clear q57
                   try clear p58
                   try clear q58
                   try clear hx59
                   try clear p60
                   try clear q60
                   try clear p61
                   try clear q61
                   try clear hx62
                   try clear p63
                   try clear q63
                   try clear p64
                   try clear q64
                   try clear hx65
                   try clear c66
                   try clear c67
                   try clear c67b0
                   try clear c68
                   try clear c68b0
                   try clear c69
                   try clear c69b0
                   try clear c70
                   try clear c70b0
                   try clear p72
                   try clear q72
                   try clear p73
                   try clear q73
                   try clear hx74
                   try clear c75
                   try clear c75b0
                   try clear c75b1
                   try clear c76
                   try clear c76b0
                   try clear c77
                   try clear c77b0
                   try clear p78
                   try clear q78
                   try clear p79
                   try clear q79
                   try clear hx80
                   try clear c82
                   try clear c82b0
                   try clear c82b1
                   try clear c83
                   try clear c83b0
                   try clear c84
                   try clear c84b0
                   try clear c85
                   try clear c85b0
                   try clear c86
                   try clear c86b0
                   try clear p87
                   try clear q87
                   try clear p88
                   try clear q88
                   try clear hx89
                   try clear c91
                   try clear c91b0
                   try clear c92
                   try clear c92b0
                   try clear c93
                   try clear c93b0
                   try clear p94
                   try clear q94
                   try clear hx95
                   try clear p96
                   try clear q96
                   try clear hx97
                   try clear p98
                   try clear q98
                   try clear hx99
                   try clear hx23_0
                   try clear hx28_0
                   try clear hx35_0
                   try clear hx38_0
                   try clear hx44_0
                   try clear hx47_0
                   try clear hx51_0
                   try clear hx54_0
                   try clear hx59_0
                   try clear hx62_0
                   try clear hx65_0
                   try clear hx74_0
                   try clear hx80_0
                   try clear hx89_0
                   try clear hx95_0
                   try clear hx97_0
                   try clear hx99_0
                   try clear p1
                   try clear p10
                   try clear p2
                   try clear p21
                   try clear p22
                   try clear p26
                   try clear p27
                   try clear p3
                   try clear p33
                   try clear p34
                   try clear p36
                   try clear p37
                   try clear p4
                   try clear p42
                   try clear p43
                   try clear p45
                   try clear p46
                   try clear p49
                   try clear p5
                   try clear p50
                   try clear p52
                   try clear p53
                   try clear p57
                   try clear p58
                   try clear p6
                   try clear p60
                   try clear p61
                   try clear p63
                   try clear p64
                   try clear p7
                   try clear p72
                   try clear p73
                   try clear p78
                   try clear p79
                   try clear p8
                   try clear p87
                   try clear p88
                   try clear p94
                   try clear p96
                   try clear p98
                   try clear q1
                   try clear q10
                   try clear q2
                   try clear q21
                   try clear q22
                   try clear q26
                   try clear q27
                   try clear q3
                   try clear q33
                   try clear q34
                   try clear q36
                   try clear q37
                   try clear q4
                   try clear q42
                   try clear q43
                   try clear q45
                   try clear q46
                   try clear q49
                   try clear q5
                   try clear q50
                   try clear q52
                   try clear q53
                   try clear q57
                   try clear q58
                   try clear q6
                   try clear q60
                   try clear q61
                   try clear q63
                   try clear q64
                   try clear q7
                   try clear q72
                   try clear q73
                   try clear q78
                   try clear q79
                   try clear q8
                   try clear q87
                   try clear q88
                   try clear q94
                   try clear q96
                   try clear q98
                   obtain ⟨kq, x103_89, rfl, HA, HJ89, BK164, BK165, BK166, BK167, BK168, HB⟩ := hcut
                   cases kq with
                   | zero => exact absurd HA.out (by simp [watchwordlaw21_ways.j5])
                   | succ kj89 =>
                    have H := HA.out
                    clear HA
                    simp only [watchwordlaw21_ways.j5] at H
                    by_cases c100 : x103_89 = true
                    ·subst c100
                     have H1 : (if 0 ≤ (x9_2 / 16) then (if (x9_2 / 16) < 4 then (if x13_80 = (ix4 (up ((x9_2 / 16) == 0) x13_80 x168000_2) (up ((x9_2 / 16) == 1) x13_80 x168001_2) (up ((x9_2 / 16) == 2) x13_80 x168002_2) (up ((x9_2 / 16) == 3) x13_80 x168003_2) (x9_2 / 16)) then (if 0 ≤ (Go.bits .and .i64 x9_2 3) then (if (Go.bits .and .i64 x9_2 3) < 4 then (watchwordlaw21_ways.l1 kj89 a1 (wrap64 (x9_2 + 1)) a0_0 a0_1 a0_2 a0_3 a0_4 a0_5 a0_6 a0_7 a0_8 a0_9 a0_10 a0_11 a0_12 a0_13 a0_14 a0_15 (up ((x9_2 / 16) == 0) x13_80 x168000_2) (up ((x9_2 / 16) == 1) x13_80 x168001_2) (up ((x9_2 / 16) == 2) x13_80 x168002_2) (up ((x9_2 / 16) == 3) x13_80 x168003_2) (up ((x9_2 / 16) == 0 && (Go.bits .and .i64 x9_2 3) == 0) true (up ((x9_2 / 16) == 0) false x169000_2)) (up ((x9_2 / 16) == 0 && (Go.bits .and .i64 x9_2 3) == 1) true (up ((x9_2 / 16) == 0) false x169001_2)) (up ((x9_2 / 16) == 0 && (Go.bits .and .i64 x9_2 3) == 2) true (up ((x9_2 / 16) == 0) false x169002_2)) (up ((x9_2 / 16) == 0 && (Go.bits .and .i64 x9_2 3) == 3) true (up ((x9_2 / 16) == 0) false x169003_2)) (up ((x9_2 / 16) == 1 && (Go.bits .and .i64 x9_2 3) == 0) true (up ((x9_2 / 16) == 1) false x169004_2)) (up ((x9_2 / 16) == 1 && (Go.bits .and .i64 x9_2 3) == 1) true (up ((x9_2 / 16) == 1) false x169005_2)) (up ((x9_2 / 16) == 1 && (Go.bits .and .i64 x9_2 3) == 2) true (up ((x9_2 / 16) == 1) false x169006_2)) (up ((x9_2 / 16) == 1 && (Go.bits .and .i64 x9_2 3) == 3) true (up ((x9_2 / 16) == 1) false x169007_2)) (up ((x9_2 / 16) == 2 && (Go.bits .and .i64 x9_2 3) == 0) true (up ((x9_2 / 16) == 2) false x169008_2)) (up ((x9_2 / 16) == 2 && (Go.bits .and .i64 x9_2 3) == 1) true (up ((x9_2 / 16) == 2) false x169009_2)) (up ((x9_2 / 16) == 2 && (Go.bits .and .i64 x9_2 3) == 2) true (up ((x9_2 / 16) == 2) false x169010_2)) (up ((x9_2 / 16) == 2 && (Go.bits .and .i64 x9_2 3) == 3) true (up ((x9_2 / 16) == 2) false x169011_2)) (up ((x9_2 / 16) == 3 && (Go.bits .and .i64 x9_2 3) == 0) true (up ((x9_2 / 16) == 3) false x169012_2)) (up ((x9_2 / 16) == 3 && (Go.bits .and .i64 x9_2 3) == 1) true (up ((x9_2 / 16) == 3) false x169013_2)) (up ((x9_2 / 16) == 3 && (Go.bits .and .i64 x9_2 3) == 2) true (up ((x9_2 / 16) == 3) false x169014_2)) (up ((x9_2 / 16) == 3 && (Go.bits .and .i64 x9_2 3) == 3) true (up ((x9_2 / 16) == 3) false x169015_2))) else (none)) else (none)) else (watchwordlaw21_ways.l1 kj89 a1 (wrap64 (x9_2 + 1)) a0_0 a0_1 a0_2 a0_3 a0_4 a0_5 a0_6 a0_7 a0_8 a0_9 a0_10 a0_11 a0_12 a0_13 a0_14 a0_15 (up ((x9_2 / 16) == 0) x13_80 x168000_2) (up ((x9_2 / 16) == 1) x13_80 x168001_2) (up ((x9_2 / 16) == 2) x13_80 x168002_2) (up ((x9_2 / 16) == 3) x13_80 x168003_2) (up ((x9_2 / 16) == 0) false x169000_2) (up ((x9_2 / 16) == 0) false x169001_2) (up ((x9_2 / 16) == 0) false x169002_2) (up ((x9_2 / 16) == 0) false x169003_2) (up ((x9_2 / 16) == 1) false x169004_2) (up ((x9_2 / 16) == 1) false x169005_2) (up ((x9_2 / 16) == 1) false x169006_2) (up ((x9_2 / 16) == 1) false x169007_2) (up ((x9_2 / 16) == 2) false x169008_2) (up ((x9_2 / 16) == 2) false x169009_2) (up ((x9_2 / 16) == 2) false x169010_2) (up ((x9_2 / 16) == 2) false x169011_2) (up ((x9_2 / 16) == 3) false x169012_2) (up ((x9_2 / 16) == 3) false x169013_2) (up ((x9_2 / 16) == 3) false x169014_2) (up ((x9_2 / 16) == 3) false x169015_2))) else (none)) else (none)) = some (r1, r2, r3, r4, r5, r6, r7, r8, r9, r10, r11, r12, r13, r14, r15, r16, r17, r18, r19, r20) := by rw [if_pos rfl] at H; exact H
                     clear H
                     have H := H1
                     clear H1
                     by_cases c101 : 0 ≤ (x9_2 / 16)
                     ·rw [if_pos c101] at H
                      have c101b0 : decide (0 ≤ (x9_2 / 16)) = true := decide_eq_true c101
                      clear c101
                      by_cases c102 : (x9_2 / 16) < 4
                      ·rw [if_pos c102] at H
                       have c102b0 : decide ((x9_2 / 16) < 4) = true := decide_eq_true c102
                       clear c102
                       by_cases c103 : x13_80 = (ix4 (up ((x9_2 / 16) == 0) x13_80 x168000_2) (up ((x9_2 / 16) == 1) x13_80 x168001_2) (up ((x9_2 / 16) == 2) x13_80 x168002_2) (up ((x9_2 / 16) == 3) x13_80 x168003_2) (x9_2 / 16))
                       ·rw [if_pos c103] at H
                        have c103b0 : (x13_80 == (ix4 (up ((x9_2 / 16) == 0) x13_80 x168000_2) (up ((x9_2 / 16) == 1) x13_80 x168001_2) (up ((x9_2 / 16) == 2) x13_80 x168002_2) (up ((x9_2 / 16) == 3) x13_80 x168003_2) (x9_2 / 16))) = true := beq_iff_eq.mpr c103
                        have c103b1 : (x13_80 != (ix4 (up ((x9_2 / 16) == 0) x13_80 x168000_2) (up ((x9_2 / 16) == 1) x13_80 x168001_2) (up ((x9_2 / 16) == 2) x13_80 x168002_2) (up ((x9_2 / 16) == 3) x13_80 x168003_2) (x9_2 / 16))) = false := bne_eq_false_iff_eq.mpr c103
                        clear c103
                        by_cases c104 : 0 ≤ (Go.bits .and .i64 x9_2 3)
                        ·rw [if_pos c104] at H
                         have c104b0 : decide (0 ≤ (Go.bits .and .i64 x9_2 3)) = true := decide_eq_true c104
                         clear c104
                         by_cases c105 : (Go.bits .and .i64 x9_2 3) < 4
                         ·rw [if_pos c105] at H
                          have c105b0 : decide ((Go.bits .and .i64 x9_2 3) < 4) = true := decide_eq_true c105
                          clear c105
                          have H' := Aside0.mk H
                          clear H
                          have p106 : (0 ≤ ((x9_2 / 16) : Int)) = True := eq_true (of_decide_eq_true (by first | (with_reducible assumption) | assumption))
                          have q106 : (((x9_2 / 16) : Int) < 4) = True := eq_true (of_decide_eq_true (by first | (with_reducible assumption) | assumption))
                          have hs107 : wc.cell? ⟨gb167, (x9_2 / 16).toNat, none⟩ = some (.int .i64 (ix4 x168000_2 x168001_2 x168002_2 x168003_2 (x9_2 / 16))) := (blk_cell BK167.out ((x9_2 / 16).toNat)).trans (ix_4 (Value.int .i64) _ _ _ _ (x9_2 / 16) (of_decide_eq_true (by first | (with_reducible assumption) | assumption)) (of_decide_eq_true (by first | (with_reducible assumption) | assumption)))
                          have hfs107 := blk_frozen BK167.out ((x9_2 / 16).toNat)
                          go_wp2_with (first | ((with_reducible refine gate_store (t := 3) (p := 106) rfl ?_); refine store_event (t := 3) (p := 106) (v := ?vo_w108) (w1 := (wc.setCell ⟨gb167, (x9_2 / 16).toNat, none⟩ (.int .i64 x13_80))) ?hg ?ho ?hn ?hr ?_; (case ho => rfl); (case hg => rfl); (case hn => rfl); (case hr => first | (go_simp; done) | (go_simp; rfl)); intro w108 hw; have n0_ : Aside0 (w108.heap[gb164]? = some (.cells #[.int .i64 a0_0, .int .i64 a0_1, .int .i64 a0_2, .int .i64 a0_3, .int .i64 a0_4, .int .i64 a0_5, .int .i64 a0_6, .int .i64 a0_7, .int .i64 a0_8, .int .i64 a0_9, .int .i64 a0_10, .int .i64 a0_11, .int .i64 a0_12, .int .i64 a0_13, .int .i64 a0_14, .int .i64 a0_15] 23 (0, 0))) := ⟨(by rw [hw]; exact (by (with_reducible repeat (first | refine blk_drewN ?_ _ | refine blk_drew ?_ | refine blk_alloc ?_ _)); refine blk_far ?_ NB164_167.out _; (with_reducible repeat (first | refine blk_drewN ?_ _ | refine blk_drew ?_ | refine blk_alloc ?_ _)); exact BK164.out))⟩; have n1_ : Aside0 (w108.heap[gb165]? = some (.cells #[.int .i64 0, .int .i64 0, .int .i64 0, .int .i64 0] 22 (0, 0))) := ⟨(by rw [hw]; exact (by (with_reducible repeat (first | refine blk_drewN ?_ _ | refine blk_drew ?_ | refine blk_alloc ?_ _)); refine blk_far ?_ NB165_167.out _; (with_reducible repeat (first | refine blk_drewN ?_ _ | refine blk_drew ?_ | refine blk_alloc ?_ _)); exact BK165.out))⟩; have n2_ : Aside0 (w108.heap[gb166]? = some (.cells #[.bool false, .bool false, .bool false, .bool false, .bool false, .bool false, .bool false, .bool false, .bool false, .bool false, .bool false, .bool false, .bool false, .bool false, .bool false, .bool false] 36 (0, 0))) := ⟨(by rw [hw]; exact (by (with_reducible repeat (first | refine blk_drewN ?_ _ | refine blk_drew ?_ | refine blk_alloc ?_ _)); refine blk_far ?_ NB166_167.out _; (with_reducible repeat (first | refine blk_drewN ?_ _ | refine blk_drew ?_ | refine blk_alloc ?_ _)); exact BK166.out))⟩; have n3_ : Aside0 (w108.heap[gb167]? = some (.cells #[.int .i64 (up ((x9_2 / 16) == 0) x13_80 x168000_2), .int .i64 (up ((x9_2 / 16) == 1) x13_80 x168001_2), .int .i64 (up ((x9_2 / 16) == 2) x13_80 x168002_2), .int .i64 (up ((x9_2 / 16) == 3) x13_80 x168003_2)] 22 (0, 0))) := ⟨(by rw [hw]; exact (by (with_reducible repeat (first | refine blk_drewN ?_ _ | refine blk_drew ?_ | refine blk_alloc ?_ _)); refine blk_put (cs := #[.int .i64 x168000_2, .int .i64 x168001_2, .int .i64 x168002_2, .int .i64 x168003_2]) ?_ ((x9_2 / 16).toNat) _ (up_4 (Value.int .i64) _ _ _ _ (x9_2 / 16) x13_80 (of_decide_eq_true (by first | (with_reducible assumption) | assumption)) (of_decide_eq_true (by first | (with_reducible assumption) | assumption))); (with_reducible repeat (first | refine blk_drewN ?_ _ | refine blk_drew ?_ | refine blk_alloc ?_ _)); exact BK167.out))⟩; have n4_ : Aside0 (w108.heap[gb168]? = some (.cells #[.bool x169000_2, .bool x169001_2, .bool x169002_2, .bool x169003_2, .bool x169004_2, .bool x169005_2, .bool x169006_2, .bool x169007_2, .bool x169008_2, .bool x169009_2, .bool x169010_2, .bool x169011_2, .bool x169012_2, .bool x169013_2, .bool x169014_2, .bool x169015_2] 36 (0, 0))) := ⟨(by rw [hw]; exact (by (with_reducible repeat (first | refine blk_drewN ?_ _ | refine blk_drew ?_ | refine blk_alloc ?_ _)); refine blk_far ?_ NB168_167.out _; (with_reducible repeat (first | refine blk_drewN ?_ _ | refine blk_drew ?_ | refine blk_alloc ?_ _)); exact BK168.out))⟩; have n5_ : Aside0 (Below w.heap.size w w108) := ⟨(by rw [hw]; exact (by repeat (first | (with_reducible first | exact HB.out | apply below_alloc | apply pw_below_drewN | apply below_drew1 | refine below_set ?_ GE164.out | refine below_set ?_ GE165.out | refine below_set ?_ GE166.out | refine below_set ?_ GE167.out | refine below_set ?_ GE168.out) | exact HB.out)))⟩; clear hw; clear BK164; clear BK165; clear BK166; clear BK167; clear BK168; clear HB; have BK164 := n0_; have BK165 := n1_; have BK166 := n2_; have BK167 := n3_; have BK168 := n4_; have HB := n5_; clear n0_ n1_ n2_ n3_ n4_ n5_; have p109 : (0 ≤ ((x9_2 / 16) : Int)) = True := eq_true (of_decide_eq_true (by first | (with_reducible assumption) | assumption)); have q109 : (((x9_2 / 16) : Int) < 4) = True := eq_true (of_decide_eq_true (by first | (with_reducible assumption) | assumption)); have hs110 : w108.cell? ⟨gb168, (x9_2 / 16).toNat * 4, none⟩ = some (.bool (ix4 x169000_2 x169004_2 x169008_2 x169012_2 (x9_2 / 16))) := (blk_cell BK168.out ((x9_2 / 16).toNat * 4)).trans (ix_40 Value.bool _ _ _ _ _ _ _ _ _ _ _ _ _ _ _ _ (x9_2 / 16) (of_decide_eq_true (by first | (with_reducible assumption) | assumption)) (of_decide_eq_true (by first | (with_reducible assumption) | assumption))); have hfs110 := blk_frozen BK168.out ((x9_2 / 16).toNat * 4); have hs111 : w108.cell? ⟨gb168, (x9_2 / 16).toNat * 4 + 1, none⟩ = some (.bool (ix4 x169001_2 x169005_2 x169009_2 x169013_2 (x9_2 / 16))) := (blk_cell BK168.out ((x9_2 / 16).toNat * 4 + 1)).trans (ix_41 Value.bool _ _ _ _ _ _ _ _ _ _ _ _ _ _ _ _ (x9_2 / 16) (of_decide_eq_true (by first | (with_reducible assumption) | assumption)) (of_decide_eq_true (by first | (with_reducible assumption) | assumption))); have hfs111 := blk_frozen BK168.out ((x9_2 / 16).toNat * 4 + 1); have hs112 : w108.cell? ⟨gb168, (x9_2 / 16).toNat * 4 + 2, none⟩ = some (.bool (ix4 x169002_2 x169006_2 x169010_2 x169014_2 (x9_2 / 16))) := (blk_cell BK168.out ((x9_2 / 16).toNat * 4 + 2)).trans (ix_42 Value.bool _ _ _ _ _ _ _ _ _ _ _ _ _ _ _ _ (x9_2 / 16) (of_decide_eq_true (by first | (with_reducible assumption) | assumption)) (of_decide_eq_true (by first | (with_reducible assumption) | assumption))); have hfs112 := blk_frozen BK168.out ((x9_2 / 16).toNat * 4 + 2); have hs113 : w108.cell? ⟨gb168, (x9_2 / 16).toNat * 4 + 3, none⟩ = some (.bool (ix4 x169003_2 x169007_2 x169011_2 x169015_2 (x9_2 / 16))) := (blk_cell BK168.out ((x9_2 / 16).toNat * 4 + 3)).trans (ix_43 Value.bool _ _ _ _ _ _ _ _ _ _ _ _ _ _ _ _ (x9_2 / 16) (of_decide_eq_true (by first | (with_reducible assumption) | assumption)) (of_decide_eq_true (by first | (with_reducible assumption) | assumption))); have hfs113 := blk_frozen BK168.out ((x9_2 / 16).toNat * 4 + 3)) | ((with_reducible refine gate_store (t := 35) (p := 109) rfl ?_); refine store_event (t := 35) (p := 109) (v := ?vo_w114) (w1 := ((((w108.setCell ⟨gb168, (x9_2 / 16).toNat * 4, none⟩ (.bool false)).setCell ⟨gb168, (x9_2 / 16).toNat * 4 + 1, none⟩ (.bool false)).setCell ⟨gb168, (x9_2 / 16).toNat * 4 + 2, none⟩ (.bool false)).setCell ⟨gb168, (x9_2 / 16).toNat * 4 + 3, none⟩ (.bool false))) ?hg ?ho ?hn ?hr ?_; (case ho => rfl); (case hg => rfl); (case hn => rfl); (case hr => first | (go_simp; done) | (go_simp; rfl)); intro w114 hw; have n0_ : Aside0 (w114.heap[gb164]? = some (.cells #[.int .i64 a0_0, .int .i64 a0_1, .int .i64 a0_2, .int .i64 a0_3, .int .i64 a0_4, .int .i64 a0_5, .int .i64 a0_6, .int .i64 a0_7, .int .i64 a0_8, .int .i64 a0_9, .int .i64 a0_10, .int .i64 a0_11, .int .i64 a0_12, .int .i64 a0_13, .int .i64 a0_14, .int .i64 a0_15] 23 (0, 0))) := ⟨(by rw [hw]; exact (by (with_reducible repeat (first | refine blk_drewN ?_ _ | refine blk_drew ?_ | refine blk_alloc ?_ _)); refine blk_far ?_ NB164_168.out _; (with_reducible repeat (first | refine blk_drewN ?_ _ | refine blk_drew ?_ | refine blk_alloc ?_ _)); refine blk_far ?_ NB164_168.out _; (with_reducible repeat (first | refine blk_drewN ?_ _ | refine blk_drew ?_ | refine blk_alloc ?_ _)); refine blk_far ?_ NB164_168.out _; (with_reducible repeat (first | refine blk_drewN ?_ _ | refine blk_drew ?_ | refine blk_alloc ?_ _)); refine blk_far ?_ NB164_168.out _; (with_reducible repeat (first | refine blk_drewN ?_ _ | refine blk_drew ?_ | refine blk_alloc ?_ _)); exact BK164.out))⟩; have n1_ : Aside0 (w114.heap[gb165]? = some (.cells #[.int .i64 0, .int .i64 0, .int .i64 0, .int .i64 0] 22 (0, 0))) := ⟨(by rw [hw]; exact (by (with_reducible repeat (first | refine blk_drewN ?_ _ | refine blk_drew ?_ | refine blk_alloc ?_ _)); refine blk_far ?_ NB165_168.out _; (with_reducible repeat (first | refine blk_drewN ?_ _ | refine blk_drew ?_ | refine blk_alloc ?_ _)); refine blk_far ?_ NB165_168.out _; (with_reducible repeat (first | refine blk_drewN ?_ _ | refine blk_drew ?_ | refine blk_alloc ?_ _)); refine blk_far ?_ NB165_168.out _; (with_reducible repeat (first | refine blk_drewN ?_ _ | refine blk_drew ?_ | refine blk_alloc ?_ _)); refine blk_far ?_ NB165_168.out _; (with_reducible repeat (first | refine blk_drewN ?_ _ | refine blk_drew ?_ | refine blk_alloc ?_ _)); exact BK165.out))⟩; have n2_ : Aside0 (w114.heap[gb166]? = some (.cells #[.bool false, .bool false, .bool false, .bool false, .bool false, .bool false, .bool false, .bool false, .bool false, .bool false, .bool false, .bool false, .bool false, .bool false, .bool false, .bool false] 36 (0, 0))) := ⟨(by rw [hw]; exact (by (with_reducible repeat (first | refine blk_drewN ?_ _ | refine blk_drew ?_ | refine blk_alloc ?_ _)); refine blk_far ?_ NB166_168.out _; (with_reducible repeat (first | refine blk_drewN ?_ _ | refine blk_drew ?_ | refine blk_alloc ?_ _)); refine blk_far ?_ NB166_168.out _; (with_reducible repeat (first | refine blk_drewN ?_ _ | refine blk_drew ?_ | refine blk_alloc ?_ _)); refine blk_far ?_ NB166_168.out _; (with_reducible repeat (first | refine blk_drewN ?_ _ | refine blk_drew ?_ | refine blk_alloc ?_ _)); refine blk_far ?_ NB166_168.out _; (with_reducible repeat (first | refine blk_drewN ?_ _ | refine blk_drew ?_ | refine blk_alloc ?_ _)); exact BK166.out))⟩; have n3_ : Aside0 (w114.heap[gb167]? = some (.cells #[.int .i64 (up ((x9_2 / 16) == 0) x13_80 x168000_2), .int .i64 (up ((x9_2 / 16) == 1) x13_80 x168001_2), .int .i64 (up ((x9_2 / 16) == 2) x13_80 x168002_2), .int .i64 (up ((x9_2 / 16) == 3) x13_80 x168003_2)] 22 (0, 0))) := ⟨(by rw [hw]; exact (by (with_reducible repeat (first | refine blk_drewN ?_ _ | refine blk_drew ?_ | refine blk_alloc ?_ _)); refine blk_far ?_ NB167_168.out _; (with_reducible repeat (first | refine blk_drewN ?_ _ | refine blk_drew ?_ | refine blk_alloc ?_ _)); refine blk_far ?_ NB167_168.out _; (with_reducible repeat (first | refine blk_drewN ?_ _ | refine blk_drew ?_ | refine blk_alloc ?_ _)); refine blk_far ?_ NB167_168.out _; (with_reducible repeat (first | refine blk_drewN ?_ _ | refine blk_drew ?_ | refine blk_alloc ?_ _)); refine blk_far ?_ NB167_168.out _; (with_reducible repeat (first | refine blk_drewN ?_ _ | refine blk_drew ?_ | refine blk_alloc ?_ _)); exact BK167.out))⟩; have n4_ : Aside0 (w114.heap[gb168]? = some (.cells #[.bool (up ((x9_2 / 16) == 0) false x169000_2), .bool (up ((x9_2 / 16) == 0) false x169001_2), .bool (up ((x9_2 / 16) == 0) false x169002_2), .bool (up ((x9_2 / 16) == 0) false x169003_2), .bool (up ((x9_2 / 16) == 1) false x169004_2), .bool (up ((x9_2 / 16) == 1) false x169005_2), .bool (up ((x9_2 / 16) == 1) false x169006_2), .bool (up ((x9_2 / 16) == 1) false x169007_2), .bool (up ((x9_2 / 16) == 2) false x169008_2), .bool (up ((x9_2 / 16) == 2) false x169009_2), .bool (up ((x9_2 / 16) == 2) false x169010_2), .bool (up ((x9_2 / 16) == 2) false x169011_2), .bool (up ((x9_2 / 16) == 3) false x169012_2), .bool (up ((x9_2 / 16) == 3) false x169013_2), .bool (up ((x9_2 / 16) == 3) false x169014_2), .bool (up ((x9_2 / 16) == 3) false x169015_2)] 36 (0, 0))) := ⟨(by rw [hw]; exact (by (with_reducible repeat (first | refine blk_drewN ?_ _ | refine blk_drew ?_ | refine blk_alloc ?_ _)); refine blk_put (cs := #[.bool (up ((x9_2 / 16) == 0) false x169000_2), .bool (up ((x9_2 / 16) == 0) false x169001_2), .bool (up ((x9_2 / 16) == 0) false x169002_2), .bool x169003_2, .bool (up ((x9_2 / 16) == 1) false x169004_2), .bool (up ((x9_2 / 16) == 1) false x169005_2), .bool (up ((x9_2 / 16) == 1) false x169006_2), .bool x169007_2, .bool (up ((x9_2 / 16) == 2) false x169008_2), .bool (up ((x9_2 / 16) == 2) false x169009_2), .bool (up ((x9_2 / 16) == 2) false x169010_2), .bool x169011_2, .bool (up ((x9_2 / 16) == 3) false x169012_2), .bool (up ((x9_2 / 16) == 3) false x169013_2), .bool (up ((x9_2 / 16) == 3) false x169014_2), .bool x169015_2]) ?_ ((x9_2 / 16).toNat * 4 + 3) _ (upr_3 Value.bool _ _ _ _ _ _ _ _ _ _ _ _ _ _ _ _ (x9_2 / 16) false (of_decide_eq_true (by first | (with_reducible assumption) | assumption)) (of_decide_eq_true (by first | (with_reducible assumption) | assumption))); (with_reducible repeat (first | refine blk_drewN ?_ _ | refine blk_drew ?_ | refine blk_alloc ?_ _)); refine blk_put (cs := #[.bool (up ((x9_2 / 16) == 0) false x169000_2), .bool (up ((x9_2 / 16) == 0) false x169001_2), .bool x169002_2, .bool x169003_2, .bool (up ((x9_2 / 16) == 1) false x169004_2), .bool (up ((x9_2 / 16) == 1) false x169005_2), .bool x169006_2, .bool x169007_2, .bool (up ((x9_2 / 16) == 2) false x169008_2), .bool (up ((x9_2 / 16) == 2) false x169009_2), .bool x169010_2, .bool x169011_2, .bool (up ((x9_2 / 16) == 3) false x169012_2), .bool (up ((x9_2 / 16) == 3) false x169013_2), .bool x169014_2, .bool x169015_2]) ?_ ((x9_2 / 16).toNat * 4 + 2) _ (upr_2 Value.bool _ _ _ _ _ _ _ _ _ _ _ _ _ _ _ _ (x9_2 / 16) false (of_decide_eq_true (by first | (with_reducible assumption) | assumption)) (of_decide_eq_true (by first | (with_reducible assumption) | assumption))); (with_reducible repeat (first | refine blk_drewN ?_ _ | refine blk_drew ?_ | refine blk_alloc ?_ _)); refine blk_put (cs := #[.bool (up ((x9_2 / 16) == 0) false x169000_2), .bool x169001_2, .bool x169002_2, .bool x169003_2, .bool (up ((x9_2 / 16) == 1) false x169004_2), .bool x169005_2, .bool x169006_2, .bool x169007_2, .bool (up ((x9_2 / 16) == 2) false x169008_2), .bool x169009_2, .bool x169010_2, .bool x169011_2, .bool (up ((x9_2 / 16) == 3) false x169012_2), .bool x169013_2, .bool x169014_2, .bool x169015_2]) ?_ ((x9_2 / 16).toNat * 4 + 1) _ (upr_1 Value.bool _ _ _ _ _ _ _ _ _ _ _ _ _ _ _ _ (x9_2 / 16) false (of_decide_eq_true (by first | (with_reducible assumption) | assumption)) (of_decide_eq_true (by first | (with_reducible assumption) | assumption))); (with_reducible repeat (first | refine blk_drewN ?_ _ | refine blk_drew ?_ | refine blk_alloc ?_ _)); refine blk_put (cs := #[.bool x169000_2, .bool x169001_2, .bool x169002_2, .bool x169003_2, .bool x169004_2, .bool x169005_2, .bool x169006_2, .bool x169007_2, .bool x169008_2, .bool x169009_2, .bool x169010_2, .bool x169011_2, .bool x169012_2, .bool x169013_2, .bool x169014_2, .bool x169015_2]) ?_ ((x9_2 / 16).toNat * 4) _ (upr_0 Value.bool _ _ _ _ _ _ _ _ _ _ _ _ _ _ _ _ (x9_2 / 16) false (of_decide_eq_true (by first | (with_reducible assumption) | assumption)) (of_decide_eq_true (by first | (with_reducible assumption) | assumption))); (with_reducible repeat (first | refine blk_drewN ?_ _ | refine blk_drew ?_ | refine blk_alloc ?_ _)); exact BK168.out))⟩; have n5_ : Aside0 (Below w.heap.size w w114) := ⟨(by rw [hw]; exact (by repeat (first | (with_reducible first | exact HB.out | apply below_alloc | apply pw_below_drewN | apply below_drew1 | refine below_set ?_ GE164.out | refine below_set ?_ GE165.out | refine below_set ?_ GE166.out | refine below_set ?_ GE167.out | refine below_set ?_ GE168.out) | exact HB.out)))⟩; clear hw; clear BK164; clear BK165; clear BK166; clear BK167; clear BK168; clear HB; have BK164 := n0_; have BK165 := n1_; have BK166 := n2_; have BK167 := n3_; have BK168 := n4_; have HB := n5_; clear n0_ n1_ n2_ n3_ n4_ n5_; have p115 : (0 ≤ ((x9_2 / 16) : Int)) = True := eq_true (of_decide_eq_true (by first | (with_reducible assumption) | assumption)); have q115 : (((x9_2 / 16) : Int) < 4) = True := eq_true (of_decide_eq_true (by first | (with_reducible assumption) | assumption)); have hx116_0 : w114.cell? ⟨gb167, (x9_2 / 16).toNat, none⟩ = some (.int .i64 (ix4 (up ((x9_2 / 16) == 0) x13_80 x168000_2) (up ((x9_2 / 16) == 1) x13_80 x168001_2) (up ((x9_2 / 16) == 2) x13_80 x168002_2) (up ((x9_2 / 16) == 3) x13_80 x168003_2) (x9_2 / 16))) := (blk_cell BK167.out ((x9_2 / 16).toNat)).trans (ix_4 (Value.int .i64) _ _ _ _ (x9_2 / 16) (of_decide_eq_true (by first | (with_reducible assumption) | assumption)) (of_decide_eq_true (by first | (with_reducible assumption) | assumption))); have p117 : (0 ≤ ((x9_2 / 16) : Int)) = True := eq_true (of_decide_eq_true (by first | (with_reducible assumption) | assumption)); have q117 : (((x9_2 / 16) : Int) < 4) = True := eq_true (of_decide_eq_true (by first | (with_reducible assumption) | assumption)); have p118 : (0 ≤ ((Go.bits .and .i64 x9_2 3) : Int)) = True := eq_true (of_decide_eq_true (by first | (with_reducible assumption) | assumption)); have q118 : (((Go.bits .and .i64 x9_2 3) : Int) < 4) = True := eq_true (of_decide_eq_true (by first | (with_reducible assumption) | assumption)); have hs119 : w114.cell? ⟨gb168, (x9_2 / 16).toNat * 4 + (Go.bits .and .i64 x9_2 3).toNat, none⟩ = some (.bool (ix4 (ix4 (up ((x9_2 / 16) == 0) false x169000_2) (up ((x9_2 / 16) == 0) false x169001_2) (up ((x9_2 / 16) == 0) false x169002_2) (up ((x9_2 / 16) == 0) false x169003_2) (Go.bits .and .i64 x9_2 3)) (ix4 (up ((x9_2 / 16) == 1) false x169004_2) (up ((x9_2 / 16) == 1) false x169005_2) (up ((x9_2 / 16) == 1) false x169006_2) (up ((x9_2 / 16) == 1) false x169007_2) (Go.bits .and .i64 x9_2 3)) (ix4 (up ((x9_2 / 16) == 2) false x169008_2) (up ((x9_2 / 16) == 2) false x169009_2) (up ((x9_2 / 16) == 2) false x169010_2) (up ((x9_2 / 16) == 2) false x169011_2) (Go.bits .and .i64 x9_2 3)) (ix4 (up ((x9_2 / 16) == 3) false x169012_2) (up ((x9_2 / 16) == 3) false x169013_2) (up ((x9_2 / 16) == 3) false x169014_2) (up ((x9_2 / 16) == 3) false x169015_2) (Go.bits .and .i64 x9_2 3)) (x9_2 / 16))) := (blk_cell BK168.out ((x9_2 / 16).toNat * 4 + (Go.bits .and .i64 x9_2 3).toNat)).trans (ix_44 Value.bool _ _ _ _ _ _ _ _ _ _ _ _ _ _ _ _ (x9_2 / 16) (Go.bits .and .i64 x9_2 3)  (of_decide_eq_true (by first | (with_reducible assumption) | assumption)) (of_decide_eq_true (by first | (with_reducible assumption) | assumption))  (of_decide_eq_true (by first | (with_reducible assumption) | assumption)) (of_decide_eq_true (by first | (with_reducible assumption) | assumption))); have hfs119 := blk_frozen BK168.out ((x9_2 / 16).toNat * 4 + (Go.bits .and .i64 x9_2 3).toNat)) | ((with_reducible refine gate_store (t := 4) (p := 118) rfl ?_); refine store_event (t := 4) (p := 118) (v := ?vo_w120) (w1 := (w114.setCell ⟨gb168, (x9_2 / 16).toNat * 4 + (Go.bits .and .i64 x9_2 3).toNat, none⟩ (.bool true))) ?hg ?ho ?hn ?hr ?_; (case ho => rfl); (case hg => rfl); (case hn => rfl); (case hr => first | (go_simp; done) | (go_simp; rfl)); intro w120 hw; have n0_ : Aside0 (w120.heap[gb164]? = some (.cells #[.int .i64 a0_0, .int .i64 a0_1, .int .i64 a0_2, .int .i64 a0_3, .int .i64 a0_4, .int .i64 a0_5, .int .i64 a0_6, .int .i64 a0_7, .int .i64 a0_8, .int .i64 a0_9, .int .i64 a0_10, .int .i64 a0_11, .int .i64 a0_12, .int .i64 a0_13, .int .i64 a0_14, .int .i64 a0_15] 23 (0, 0))) := ⟨(by rw [hw]; exact (by (with_reducible repeat (first | refine blk_drewN ?_ _ | refine blk_drew ?_ | refine blk_alloc ?_ _)); refine blk_far ?_ NB164_168.out _; (with_reducible repeat (first | refine blk_drewN ?_ _ | refine blk_drew ?_ | refine blk_alloc ?_ _)); exact BK164.out))⟩; have n1_ : Aside0 (w120.heap[gb165]? = some (.cells #[.int .i64 0, .int .i64 0, .int .i64 0, .int .i64 0] 22 (0, 0))) := ⟨(by rw [hw]; exact (by (with_reducible repeat (first | refine blk_drewN ?_ _ | refine blk_drew ?_ | refine blk_alloc ?_ _)); refine blk_far ?_ NB165_168.out _; (with_reducible repeat (first | refine blk_drewN ?_ _ | refine blk_drew ?_ | refine blk_alloc ?_ _)); exact BK165.out))⟩; have n2_ : Aside0 (w120.heap[gb166]? = some (.cells #[.bool false, .bool false, .bool false, .bool false, .bool false, .bool false, .bool false, .bool false, .bool false, .bool false, .bool false, .bool false, .bool false, .bool false, .bool false, .bool false] 36 (0, 0))) := ⟨(by rw [hw]; exact (by (with_reducible repeat (first | refine blk_drewN ?_ _ | refine blk_drew ?_ | refine blk_alloc ?_ _)); refine blk_far ?_ NB166_168.out _; (with_reducible repeat (first | refine blk_drewN ?_ _ | refine blk_drew ?_ | refine blk_alloc ?_ _)); exact BK166.out))⟩; have n3_ : Aside0 (w120.heap[gb167]? = some (.cells #[.int .i64 (up ((x9_2 / 16) == 0) x13_80 x168000_2), .int .i64 (up ((x9_2 / 16) == 1) x13_80 x168001_2), .int .i64 (up ((x9_2 / 16) == 2) x13_80 x168002_2), .int .i64 (up ((x9_2 / 16) == 3) x13_80 x168003_2)] 22 (0, 0))) := ⟨(by rw [hw]; exact (by (with_reducible repeat (first | refine blk_drewN ?_ _ | refine blk_drew ?_ | refine blk_alloc ?_ _)); refine blk_far ?_ NB167_168.out _; (with_reducible repeat (first | refine blk_drewN ?_ _ | refine blk_drew ?_ | refine blk_alloc ?_ _)); exact BK167.out))⟩; have n4_ : Aside0 (w120.heap[gb168]? = some (.cells #[.bool (up ((x9_2 / 16) == 0 && (Go.bits .and .i64 x9_2 3) == 0) true (up ((x9_2 / 16) == 0) false x169000_2)), .bool (up ((x9_2 / 16) == 0 && (Go.bits .and .i64 x9_2 3) == 1) true (up ((x9_2 / 16) == 0) false x169001_2)), .bool (up ((x9_2 / 16) == 0 && (Go.bits .and .i64 x9_2 3) == 2) true (up ((x9_2 / 16) == 0) false x169002_2)), .bool (up ((x9_2 / 16) == 0 && (Go.bits .and .i64 x9_2 3) == 3) true (up ((x9_2 / 16) == 0) false x169003_2)), .bool (up ((x9_2 / 16) == 1 && (Go.bits .and .i64 x9_2 3) == 0) true (up ((x9_2 / 16) == 1) false x169004_2)), .bool (up ((x9_2 / 16) == 1 && (Go.bits .and .i64 x9_2 3) == 1) true (up ((x9_2 / 16) == 1) false x169005_2)), .bool (up ((x9_2 / 16) == 1 && (Go.bits .and .i64 x9_2 3) == 2) true (up ((x9_2 / 16) == 1) false x169006_2)), .bool (up ((x9_2 / 16) == 1 && (Go.bits .and .i64 x9_2 3) == 3) true (up ((x9_2 / 16) == 1) false x169007_2)), .bool (up ((x9_2 / 16) == 2 && (Go.bits .and .i64 x9_2 3) == 0) true (up ((x9_2 / 16) == 2) false x169008_2)), .bool (up ((x9_2 / 16) == 2 && (Go.bits .and .i64 x9_2 3) == 1) true (up ((x9_2 / 16) == 2) false x169009_2)), .bool (up ((x9_2 / 16) == 2 && (Go.bits .and .i64 x9_2 3) == 2) true (up ((x9_2 / 16) == 2) false x169010_2)), .bool (up ((x9_2 / 16) == 2 && (Go.bits .and .i64 x9_2 3) == 3) true (up ((x9_2 / 16) == 2) false x169011_2)), .bool (up ((x9_2 / 16) == 3 && (Go.bits .and .i64 x9_2 3) == 0) true (up ((x9_2 / 16) == 3) false x169012_2)), .bool (up ((x9_2 / 16) == 3 && (Go.bits .and .i64 x9_2 3) == 1) true (up ((x9_2 / 16) == 3) false x169013_2)), .bool (up ((x9_2 / 16) == 3 && (Go.bits .and .i64 x9_2 3) == 2) true (up ((x9_2 / 16) == 3) false x169014_2)), .bool (up ((x9_2 / 16) == 3 && (Go.bits .and .i64 x9_2 3) == 3) true (up ((x9_2 / 16) == 3) false x169015_2))] 36 (0, 0))) := ⟨(by rw [hw]; exact (by (with_reducible repeat (first | refine blk_drewN ?_ _ | refine blk_drew ?_ | refine blk_alloc ?_ _)); refine blk_put (cs := #[.bool (up ((x9_2 / 16) == 0) false x169000_2), .bool (up ((x9_2 / 16) == 0) false x169001_2), .bool (up ((x9_2 / 16) == 0) false x169002_2), .bool (up ((x9_2 / 16) == 0) false x169003_2), .bool (up ((x9_2 / 16) == 1) false x169004_2), .bool (up ((x9_2 / 16) == 1) false x169005_2), .bool (up ((x9_2 / 16) == 1) false x169006_2), .bool (up ((x9_2 / 16) == 1) false x169007_2), .bool (up ((x9_2 / 16) == 2) false x169008_2), .bool (up ((x9_2 / 16) == 2) false x169009_2), .bool (up ((x9_2 / 16) == 2) false x169010_2), .bool (up ((x9_2 / 16) == 2) false x169011_2), .bool (up ((x9_2 / 16) == 3) false x169012_2), .bool (up ((x9_2 / 16) == 3) false x169013_2), .bool (up ((x9_2 / 16) == 3) false x169014_2), .bool (up ((x9_2 / 16) == 3) false x169015_2)]) ?_ ((x9_2 / 16).toNat * 4 + (Go.bits .and .i64 x9_2 3).toNat) _ (up_44 Value.bool _ _ _ _ _ _ _ _ _ _ _ _ _ _ _ _ (x9_2 / 16) (Go.bits .and .i64 x9_2 3) true (of_decide_eq_true (by first | (with_reducible assumption) | assumption)) (of_decide_eq_true (by first | (with_reducible assumption) | assumption)) (of_decide_eq_true (by first | (with_reducible assumption) | assumption)) (of_decide_eq_true (by first | (with_reducible assumption) | assumption))); (with_reducible repeat (first | refine blk_drewN ?_ _ | refine blk_drew ?_ | refine blk_alloc ?_ _)); exact BK168.out))⟩; have n5_ : Aside0 (Below w.heap.size w w120) := ⟨(by rw [hw]; exact (by repeat (first | (with_reducible first | exact HB.out | apply below_alloc | apply pw_below_drewN | apply below_drew1 | refine below_set ?_ GE164.out | refine below_set ?_ GE165.out | refine below_set ?_ GE166.out | refine below_set ?_ GE167.out | refine below_set ?_ GE168.out) | exact HB.out)))⟩; clear hw; clear BK164; clear BK165; clear BK166; clear BK167; clear BK168; clear HB; have BK164 := n0_; have BK165 := n1_; have BK166 := n2_; have BK167 := n3_; have BK168 := n4_; have HB := n5_; clear n0_ n1_ n2_ n3_ n4_ n5_))
                          go_roundg kj89
                          case measure => have := HK1.out; have := HK2.out; have := HJ13.out; have := HJ70.out; have := HJ80.out; have := HJ89.out; omega
                          case rel => exact ⟨(wrap64 (x9_2 + 1)), (up ((x9_2 / 16) == 0) x13_80 x168000_2), (up ((x9_2 / 16) == 1) x13_80 x168001_2), (up ((x9_2 / 16) == 2) x13_80 x168002_2), (up ((x9_2 / 16) == 3) x13_80 x168003_2), (up ((x9_2 / 16) == 0 && (Go.bits .and .i64 x9_2 3) == 0) true (up ((x9_2 / 16) == 0) false x169000_2)), (up ((x9_2 / 16) == 0 && (Go.bits .and .i64 x9_2 3) == 1) true (up ((x9_2 / 16) == 0) false x169001_2)), (up ((x9_2 / 16) == 0 && (Go.bits .and .i64 x9_2 3) == 2) true (up ((x9_2 / 16) == 0) false x169002_2)), (up ((x9_2 / 16) == 0 && (Go.bits .and .i64 x9_2 3) == 3) true (up ((x9_2 / 16) == 0) false x169003_2)), (up ((x9_2 / 16) == 1 && (Go.bits .and .i64 x9_2 3) == 0) true (up ((x9_2 / 16) == 1) false x169004_2)), (up ((x9_2 / 16) == 1 && (Go.bits .and .i64 x9_2 3) == 1) true (up ((x9_2 / 16) == 1) false x169005_2)), (up ((x9_2 / 16) == 1 && (Go.bits .and .i64 x9_2 3) == 2) true (up ((x9_2 / 16) == 1) false x169006_2)), (up ((x9_2 / 16) == 1 && (Go.bits .and .i64 x9_2 3) == 3) true (up ((x9_2 / 16) == 1) false x169007_2)), (up ((x9_2 / 16) == 2 && (Go.bits .and .i64 x9_2 3) == 0) true (up ((x9_2 / 16) == 2) false x169008_2)), (up ((x9_2 / 16) == 2 && (Go.bits .and .i64 x9_2 3) == 1) true (up ((x9_2 / 16) == 2) false x169009_2)), (up ((x9_2 / 16) == 2 && (Go.bits .and .i64 x9_2 3) == 2) true (up ((x9_2 / 16) == 2) false x169010_2)), (up ((x9_2 / 16) == 2 && (Go.bits .and .i64 x9_2 3) == 3) true (up ((x9_2 / 16) == 2) false x169011_2)), (up ((x9_2 / 16) == 3 && (Go.bits .and .i64 x9_2 3) == 0) true (up ((x9_2 / 16) == 3) false x169012_2)), (up ((x9_2 / 16) == 3 && (Go.bits .and .i64 x9_2 3) == 1) true (up ((x9_2 / 16) == 3) false x169013_2)), (up ((x9_2 / 16) == 3 && (Go.bits .and .i64 x9_2 3) == 2) true (up ((x9_2 / 16) == 3) false x169014_2)), (up ((x9_2 / 16) == 3 && (Go.bits .and .i64 x9_2 3) == 3) true (up ((x9_2 / 16) == 3) false x169015_2)), (by first | rfl | (simp; done) | (simp [*]; done)), H', ⟨by have := HK1.out; have := HK2.out; have := HJ13.out; have := HJ70.out; have := HJ80.out; have := HJ89.out; omega⟩, ⟨by (with_reducible repeat (first | refine blk_drewN ?_ _ | refine blk_drew ?_ | refine blk_alloc ?_ _)); exact BK164.out⟩, ⟨by (with_reducible repeat (first | refine blk_drewN ?_ _ | refine blk_drew ?_ | refine blk_alloc ?_ _)); exact BK165.out⟩, ⟨by (with_reducible repeat (first | refine blk_drewN ?_ _ | refine blk_drew ?_ | refine blk_alloc ?_ _)); exact BK166.out⟩, ⟨by (with_reducible repeat (first | refine blk_drewN ?_ _ | refine blk_drew ?_ | refine blk_alloc ?_ _)); exact BK167.out⟩, ⟨by (with_reducible repeat (first | refine blk_drewN ?_ _ | refine blk_drew ?_ | refine blk_alloc ?_ _)); exact BK168.out⟩, ⟨by repeat (first | (with_reducible first | exact HB.out | apply below_alloc | apply pw_below_drewN | apply below_drew1 | refine below_set ?_ GE164.out | refine below_set ?_ GE165.out | refine below_set ?_ GE166.out | refine below_set ?_ GE167.out | refine below_set ?_ GE168.out) | exact HB.out)⟩⟩
                         ·rw [if_neg c105] at H
                          exact absurd H (by simp)
                        ·rw [if_neg c104] at H
                         exact absurd H (by simp)
                       ·rw [if_neg c103] at H
                        have c103b0 : (x13_80 == (ix4 (up ((x9_2 / 16) == 0) x13_80 x168000_2) (up ((x9_2 / 16) == 1) x13_80 x168001_2) (up ((x9_2 / 16) == 2) x13_80 x168002_2) (up ((x9_2 / 16) == 3) x13_80 x168003_2) (x9_2 / 16))) = false := beq_eq_false_iff_ne.mpr c103
                        have c103b1 : (x13_80 != (ix4 (up ((x9_2 / 16) == 0) x13_80 x168000_2) (up ((x9_2 / 16) == 1) x13_80 x168001_2) (up ((x9_2 / 16) == 2) x13_80 x168002_2) (up ((x9_2 / 16) == 3) x13_80 x168003_2) (x9_2 / 16))) = true := bne_iff_ne.mpr c103
                        have H' := Aside0.mk H
                        clear H
                        have p121 : (0 ≤ ((x9_2 / 16) : Int)) = True := eq_true (of_decide_eq_true (by first | (with_reducible assumption) | assumption))
                        have q121 : (((x9_2 / 16) : Int) < 4) = True := eq_true (of_decide_eq_true (by first | (with_reducible assumption) | assumption))
                        have hs122 : wc.cell? ⟨gb167, (x9_2 / 16).toNat, none⟩ = some (.int .i64 (ix4 x168000_2 x168001_2 x168002_2 x168003_2 (x9_2 / 16))) := (blk_cell BK167.out ((x9_2 / 16).toNat)).trans (ix_4 (Value.int .i64) _ _ _ _ (x9_2 / 16) (of_decide_eq_true (by first | (with_reducible assumption) | assumption)) (of_decide_eq_true (by first | (with_reducible assumption) | assumption)))
                        have hfs122 := blk_frozen BK167.out ((x9_2 / 16).toNat)
                        go_wp2_with (first | ((with_reducible refine gate_store (t := 3) (p := 106) rfl ?_); refine store_event (t := 3) (p := 106) (v := ?vo_w123) (w1 := (wc.setCell ⟨gb167, (x9_2 / 16).toNat, none⟩ (.int .i64 x13_80))) ?hg ?ho ?hn ?hr ?_; (case ho => rfl); (case hg => rfl); (case hn => rfl); (case hr => first | (go_simp; done) | (go_simp; rfl)); intro w123 hw; have n0_ : Aside0 (w123.heap[gb164]? = some (.cells #[.int .i64 a0_0, .int .i64 a0_1, .int .i64 a0_2, .int .i64 a0_3, .int .i64 a0_4, .int .i64 a0_5, .int .i64 a0_6, .int .i64 a0_7, .int .i64 a0_8, .int .i64 a0_9, .int .i64 a0_10, .int .i64 a0_11, .int .i64 a0_12, .int .i64 a0_13, .int .i64 a0_14, .int .i64 a0_15] 23 (0, 0))) := ⟨(by rw [hw]; exact (by (with_reducible repeat (first | refine blk_drewN ?_ _ | refine blk_drew ?_ | refine blk_alloc ?_ _)); refine blk_far ?_ NB164_167.out _; (with_reducible repeat (first | refine blk_drewN ?_ _ | refine blk_drew ?_ | refine blk_alloc ?_ _)); exact BK164.out))⟩; have n1_ : Aside0 (w123.heap[gb165]? = some (.cells #[.int .i64 0, .int .i64 0, .int .i64 0, .int .i64 0] 22 (0, 0))) := ⟨(by rw [hw]; exact (by (with_reducible repeat (first | refine blk_drewN ?_ _ | refine blk_drew ?_ | refine blk_alloc ?_ _)); refine blk_far ?_ NB165_167.out _; (with_reducible repeat (first | refine blk_drewN ?_ _ | refine blk_drew ?_ | refine blk_alloc ?_ _)); exact BK165.out))⟩; have n2_ : Aside0 (w123.heap[gb166]? = some (.cells #[.bool false, .bool false, .bool false, .bool false, .bool false, .bool false, .bool false, .bool false, .bool false, .bool false, .bool false, .bool false, .bool false, .bool false, .bool false, .bool false] 36 (0, 0))) := ⟨(by rw [hw]; exact (by (with_reducible repeat (first | refine blk_drewN ?_ _ | refine blk_drew ?_ | refine blk_alloc ?_ _)); refine blk_far ?_ NB166_167.out _; (with_reducible repeat (first | refine blk_drewN ?_ _ | refine blk_drew ?_ | refine blk_alloc ?_ _)); exact BK166.out))⟩; have n3_ : Aside0 (w123.heap[gb167]? = some (.cells #[.int .i64 (up ((x9_2 / 16) == 0) x13_80 x168000_2), .int .i64 (up ((x9_2 / 16) == 1) x13_80 x168001_2), .int .i64 (up ((x9_2 / 16) == 2) x13_80 x168002_2), .int .i64 (up ((x9_2 / 16) == 3) x13_80 x168003_2)] 22 (0, 0))) := ⟨(by rw [hw]; exact (by (with_reducible repeat (first | refine blk_drewN ?_ _ | refine blk_drew ?_ | refine blk_alloc ?_ _)); refine blk_put (cs := #[.int .i64 x168000_2, .int .i64 x168001_2, .int .i64 x168002_2, .int .i64 x168003_2]) ?_ ((x9_2 / 16).toNat) _ (up_4 (Value.int .i64) _ _ _ _ (x9_2 / 16) x13_80 (of_decide_eq_true (by first | (with_reducible assumption) | assumption)) (of_decide_eq_true (by first | (with_reducible assumption) | assumption))); (with_reducible repeat (first | refine blk_drewN ?_ _ | refine blk_drew ?_ | refine blk_alloc ?_ _)); exact BK167.out))⟩; have n4_ : Aside0 (w123.heap[gb168]? = some (.cells #[.bool x169000_2, .bool x169001_2, .bool x169002_2, .bool x169003_2, .bool x169004_2, .bool x169005_2, .bool x169006_2, .bool x169007_2, .bool x169008_2, .bool x169009_2, .bool x169010_2, .bool x169011_2, .bool x169012_2, .bool x169013_2, .bool x169014_2, .bool x169015_2] 36 (0, 0))) := ⟨(by rw [hw]; exact (by (with_reducible repeat (first | refine blk_drewN ?_ _ | refine blk_drew ?_ | refine blk_alloc ?_ _)); refine blk_far ?_ NB168_167.out _; (with_reducible repeat (first | refine blk_drewN ?_ _ | refine blk_drew ?_ | refine blk_alloc ?_ _)); exact BK168.out))⟩; have n5_ : Aside0 (Below w.heap.size w w123) := ⟨(by rw [hw]; exact (by repeat (first | (with_reducible first | exact HB.out | apply below_alloc | apply pw_below_drewN | apply below_drew1 | refine below_set ?_ GE164.out | refine below_set ?_ GE165.out | refine below_set ?_ GE166.out | refine below_set ?_ GE167.out | refine below_set ?_ GE168.out) | exact HB.out)))⟩; clear hw; clear BK164; clear BK165; clear BK166; clear BK167; clear BK168; clear HB; have BK164 := n0_; have BK165 := n1_; have BK166 := n2_; have BK167 := n3_; have BK168 := n4_; have HB := n5_; clear n0_ n1_ n2_ n3_ n4_ n5_; have p124 : (0 ≤ ((x9_2 / 16) : Int)) = True := eq_true (of_decide_eq_true (by first | (with_reducible assumption) | assumption)); have q124 : (((x9_2 / 16) : Int) < 4) = True := eq_true (of_decide_eq_true (by first | (with_reducible assumption) | assumption)); have hs125 : w123.cell? ⟨gb168, (x9_2 / 16).toNat * 4, none⟩ = some (.bool (ix4 x169000_2 x169004_2 x169008_2 x169012_2 (x9_2 / 16))) := (blk_cell BK168.out ((x9_2 / 16).toNat * 4)).trans (ix_40 Value.bool _ _ _ _ _ _ _ _ _ _ _ _ _ _ _ _ (x9_2 / 16) (of_decide_eq_true (by first | (with_reducible assumption) | assumption)) (of_decide_eq_true (by first | (with_reducible assumption) | assumption))); have hfs125 := blk_frozen BK168.out ((x9_2 / 16).toNat * 4); have hs126 : w123.cell? ⟨gb168, (x9_2 / 16).toNat * 4 + 1, none⟩ = some (.bool (ix4 x169001_2 x169005_2 x169009_2 x169013_2 (x9_2 / 16))) := (blk_cell BK168.out ((x9_2 / 16).toNat * 4 + 1)).trans (ix_41 Value.bool _ _ _ _ _ _ _ _ _ _ _ _ _ _ _ _ (x9_2 / 16) (of_decide_eq_true (by first | (with_reducible assumption) | assumption)) (of_decide_eq_true (by first | (with_reducible assumption) | assumption))); have hfs126 := blk_frozen BK168.out ((x9_2 / 16).toNat * 4 + 1); have hs127 : w123.cell? ⟨gb168, (x9_2 / 16).toNat * 4 + 2, none⟩ = some (.bool (ix4 x169002_2 x169006_2 x169010_2 x169014_2 (x9_2 / 16))) := (blk_cell BK168.out ((x9_2 / 16).toNat * 4 + 2)).trans (ix_42 Value.bool _ _ _ _ _ _ _ _ _ _ _ _ _ _ _ _ (x9_2 / 16) (of_decide_eq_true (by first | (with_reducible assumption) | assumption)) (of_decide_eq_true (by first | (with_reducible assumption) | assumption))); have hfs127 := blk_frozen BK168.out ((x9_2 / 16).toNat * 4 + 2); have hs128 : w123.cell? ⟨gb168, (x9_2 / 16).toNat * 4 + 3, none⟩ = some (.bool (ix4 x169003_2 x169007_2 x169011_2 x169015_2 (x9_2 / 16))) := (blk_cell BK168.out ((x9_2 / 16).toNat * 4 + 3)).trans (ix_43 Value.bool _ _ _ _ _ _ _ _ _ _ _ _ _ _ _ _ (x9_2 / 16) (of_decide_eq_true (by first | (with_reducible assumption) | assumption)) (of_decide_eq_true (by first | (with_reducible assumption) | assumption))); have hfs128 := blk_frozen BK168.out ((x9_2 / 16).toNat * 4 + 3)) | ((with_reducible refine gate_store (t := 35) (p := 109) rfl ?_); refine store_event (t := 35) (p := 109) (v := ?vo_w129) (w1 := ((((w123.setCell ⟨gb168, (x9_2 / 16).toNat * 4, none⟩ (.bool false)).setCell ⟨gb168, (x9_2 / 16).toNat * 4 + 1, none⟩ (.bool false)).setCell ⟨gb168, (x9_2 / 16).toNat * 4 + 2, none⟩ (.bool false)).setCell ⟨gb168, (x9_2 / 16).toNat * 4 + 3, none⟩ (.bool false))) ?hg ?ho ?hn ?hr ?_; (case ho => rfl); (case hg => rfl); (case hn => rfl); (case hr => first | (go_simp; done) | (go_simp; rfl)); intro w129 hw; have n0_ : Aside0 (w129.heap[gb164]? = some (.cells #[.int .i64 a0_0, .int .i64 a0_1, .int .i64 a0_2, .int .i64 a0_3, .int .i64 a0_4, .int .i64 a0_5, .int .i64 a0_6, .int .i64 a0_7, .int .i64 a0_8, .int .i64 a0_9, .int .i64 a0_10, .int .i64 a0_11, .int .i64 a0_12, .int .i64 a0_13, .int .i64 a0_14, .int .i64 a0_15] 23 (0, 0))) := ⟨(by rw [hw]; exact (by (with_reducible repeat (first | refine blk_drewN ?_ _ | refine blk_drew ?_ | refine blk_alloc ?_ _)); refine blk_far ?_ NB164_168.out _; (with_reducible repeat (first | refine blk_drewN ?_ _ | refine blk_drew ?_ | refine blk_alloc ?_ _)); refine blk_far ?_ NB164_168.out _; (with_reducible repeat (first | refine blk_drewN ?_ _ | refine blk_drew ?_ | refine blk_alloc ?_ _)); refine blk_far ?_ NB164_168.out _; (with_reducible repeat (first | refine blk_drewN ?_ _ | refine blk_drew ?_ | refine blk_alloc ?_ _)); refine blk_far ?_ NB164_168.out _; (with_reducible repeat (first | refine blk_drewN ?_ _ | refine blk_drew ?_ | refine blk_alloc ?_ _)); exact BK164.out))⟩; have n1_ : Aside0 (w129.heap[gb165]? = some (.cells #[.int .i64 0, .int .i64 0, .int .i64 0, .int .i64 0] 22 (0, 0))) := ⟨(by rw [hw]; exact (by (with_reducible repeat (first | refine blk_drewN ?_ _ | refine blk_drew ?_ | refine blk_alloc ?_ _)); refine blk_far ?_ NB165_168.out _; (with_reducible repeat (first | refine blk_drewN ?_ _ | refine blk_drew ?_ | refine blk_alloc ?_ _)); refine blk_far ?_ NB165_168.out _; (with_reducible repeat (first | refine blk_drewN ?_ _ | refine blk_drew ?_ | refine blk_alloc ?_ _)); refine blk_far ?_ NB165_168.out _; (with_reducible repeat (first | refine blk_drewN ?_ _ | refine blk_drew ?_ | refine blk_alloc ?_ _)); refine blk_far ?_ NB165_168.out _; (with_reducible repeat (first | refine blk_drewN ?_ _ | refine blk_drew ?_ | refine blk_alloc ?_ _)); exact BK165.out))⟩; have n2_ : Aside0 (w129.heap[gb166]? = some (.cells #[.bool false, .bool false, .bool false, .bool false, .bool false, .bool false, .bool false, .bool false, .bool false, .bool false, .bool false, .bool false, .bool false, .bool false, .bool false, .bool false] 36 (0, 0))) := ⟨(by rw [hw]; exact (by (with_reducible repeat (first | refine blk_drewN ?_ _ | refine blk_drew ?_ | refine blk_alloc ?_ _)); refine blk_far ?_ NB166_168.out _; (with_reducible repeat (first | refine blk_drewN ?_ _ | refine blk_drew ?_ | refine blk_alloc ?_ _)); refine blk_far ?_ NB166_168.out _; (with_reducible repeat (first | refine blk_drewN ?_ _ | refine blk_drew ?_ | refine blk_alloc ?_ _)); refine blk_far ?_ NB166_168.out _; (with_reducible repeat (first | refine blk_drewN ?_ _ | refine blk_drew ?_ | refine blk_alloc ?_ _)); refine blk_far ?_ NB166_168.out _; (with_reducible repeat (first | refine blk_drewN ?_ _ | refine blk_drew ?_ | refine blk_alloc ?_ _)); exact BK166.out))⟩; have n3_ : Aside0 (w129.heap[gb167]? = some (.cells #[.int .i64 (up ((x9_2 / 16) == 0) x13_80 x168000_2), .int .i64 (up ((x9_2 / 16) == 1) x13_80 x168001_2), .int .i64 (up ((x9_2 / 16) == 2) x13_80 x168002_2), .int .i64 (up ((x9_2 / 16) == 3) x13_80 x168003_2)] 22 (0, 0))) := ⟨(by rw [hw]; exact (by (with_reducible repeat (first | refine blk_drewN ?_ _ | refine blk_drew ?_ | refine blk_alloc ?_ _)); refine blk_far ?_ NB167_168.out _; (with_reducible repeat (first | refine blk_drewN ?_ _ | refine blk_drew ?_ | refine blk_alloc ?_ _)); refine blk_far ?_ NB167_168.out _; (with_reducible repeat (first | refine blk_drewN ?_ _ | refine blk_drew ?_ | refine blk_alloc ?_ _)); refine blk_far ?_ NB167_168.out _; (with_reducible repeat (first | refine blk_drewN ?_ _ | refine blk_drew ?_ | refine blk_alloc ?_ _)); refine blk_far ?_ NB167_168.out _; (with_reducible repeat (first | refine blk_drewN ?_ _ | refine blk_drew ?_ | refine blk_alloc ?_ _)); exact BK167.out))⟩; have n4_ : Aside0 (w129.heap[gb168]? = some (.cells #[.bool (up ((x9_2 / 16) == 0) false x169000_2), .bool (up ((x9_2 / 16) == 0) false x169001_2), .bool (up ((x9_2 / 16) == 0) false x169002_2), .bool (up ((x9_2 / 16) == 0) false x169003_2), .bool (up ((x9_2 / 16) == 1) false x169004_2), .bool (up ((x9_2 / 16) == 1) false x169005_2), .bool (up ((x9_2 / 16) == 1) false x169006_2), .bool (up ((x9_2 / 16) == 1) false x169007_2), .bool (up ((x9_2 / 16) == 2) false x169008_2), .bool (up ((x9_2 / 16) == 2) false x169009_2), .bool (up ((x9_2 / 16) == 2) false x169010_2), .bool (up ((x9_2 / 16) == 2) false x169011_2), .bool (up ((x9_2 / 16) == 3) false x169012_2), .bool (up ((x9_2 / 16) == 3) false x169013_2), .bool (up ((x9_2 / 16) == 3) false x169014_2), .bool (up ((x9_2 / 16) == 3) false x169015_2)] 36 (0, 0))) := ⟨(by rw [hw]; exact (by (with_reducible repeat (first | refine blk_drewN ?_ _ | refine blk_drew ?_ | refine blk_alloc ?_ _)); refine blk_put (cs := #[.bool (up ((x9_2 / 16) == 0) false x169000_2), .bool (up ((x9_2 / 16) == 0) false x169001_2), .bool (up ((x9_2 / 16) == 0) false x169002_2), .bool x169003_2, .bool (up ((x9_2 / 16) == 1) false x169004_2), .bool (up ((x9_2 / 16) == 1) false x169005_2), .bool (up ((x9_2 / 16) == 1) false x169006_2), .bool x169007_2, .bool (up ((x9_2 / 16) == 2) false x169008_2), .bool (up ((x9_2 / 16) == 2) false x169009_2), .bool (up ((x9_2 / 16) == 2) false x169010_2), .bool x169011_2, .bool (up ((x9_2 / 16) == 3) false x169012_2), .bool (up ((x9_2 / 16) == 3) false x169013_2), .bool (up ((x9_2 / 16) == 3) false x169014_2), .bool x169015_2]) ?_ ((x9_2 / 16).toNat * 4 + 3) _ (upr_3 Value.bool _ _ _ _ _ _ _ _ _ _ _ _ _ _ _ _ (x9_2 / 16) false (of_decide_eq_true (by first | (with_reducible assumption) | assumption)) (of_decide_eq_true (by first | (with_reducible assumption) | assumption))); (with_reducible repeat (first | refine blk_drewN ?_ _ | refine blk_drew ?_ | refine blk_alloc ?_ _)); refine blk_put (cs := #[.bool (up ((x9_2 / 16) == 0) false x169000_2), .bool (up ((x9_2 / 16) == 0) false x169001_2), .bool x169002_2, .bool x169003_2, .bool (up ((x9_2 / 16) == 1) false x169004_2), .bool (up ((x9_2 / 16) == 1) false x169005_2), .bool x169006_2, .bool x169007_2, .bool (up ((x9_2 / 16) == 2) false x169008_2), .bool (up ((x9_2 / 16) == 2) false x169009_2), .bool x169010_2, .bool x169011_2, .bool (up ((x9_2 / 16) == 3) false x169012_2), .bool (up ((x9_2 / 16) == 3) false x169013_2), .bool x169014_2, .bool x169015_2]) ?_ ((x9_2 / 16).toNat * 4 + 2) _ (upr_2 Value.bool _ _ _ _ _ _ _ _ _ _ _ _ _ _ _ _ (x9_2 / 16) false (of_decide_eq_true (by first | (with_reducible assumption) | assumption)) (of_decide_eq_true (by first | (with_reducible assumption) | assumption))); (with_reducible repeat (first | refine blk_drewN ?_ _ | refine blk_drew ?_ | refine blk_alloc ?_ _)); refine blk_put (cs := #[.bool (up ((x9_2 / 16) == 0) false x169000_2), .bool x169001_2, .bool x169002_2, .bool x169003_2, .bool (up ((x9_2 / 16) == 1) false x169004_2), .bool x169005_2, .bool x169006_2, .bool x169007_2, .bool (up ((x9_2 / 16) == 2) false x169008_2), .bool x169009_2, .bool x169010_2, .bool x169011_2, .bool (up ((x9_2 / 16) == 3) false x169012_2), .bool x169013_2, .bool x169014_2, .bool x169015_2]) ?_ ((x9_2 / 16).toNat * 4 + 1) _ (upr_1 Value.bool _ _ _ _ _ _ _ _ _ _ _ _ _ _ _ _ (x9_2 / 16) false (of_decide_eq_true (by first | (with_reducible assumption) | assumption)) (of_decide_eq_true (by first | (with_reducible assumption) | assumption))); (with_reducible repeat (first | refine blk_drewN ?_ _ | refine blk_drew ?_ | refine blk_alloc ?_ _)); refine blk_put (cs := #[.bool x169000_2, .bool x169001_2, .bool x169002_2, .bool x169003_2, .bool x169004_2, .bool x169005_2, .bool x169006_2, .bool x169007_2, .bool x169008_2, .bool x169009_2, .bool x169010_2, .bool x169011_2, .bool x169012_2, .bool x169013_2, .bool x169014_2, .bool x169015_2]) ?_ ((x9_2 / 16).toNat * 4) _ (upr_0 Value.bool _ _ _ _ _ _ _ _ _ _ _ _ _ _ _ _ (x9_2 / 16) false (of_decide_eq_true (by first | (with_reducible assumption) | assumption)) (of_decide_eq_true (by first | (with_reducible assumption) | assumption))); (with_reducible repeat (first | refine blk_drewN ?_ _ | refine blk_drew ?_ | refine blk_alloc ?_ _)); exact BK168.out))⟩; have n5_ : Aside0 (Below w.heap.size w w129) := ⟨(by rw [hw]; exact (by repeat (first | (with_reducible first | exact HB.out | apply below_alloc | apply pw_below_drewN | apply below_drew1 | refine below_set ?_ GE164.out | refine below_set ?_ GE165.out | refine below_set ?_ GE166.out | refine below_set ?_ GE167.out | refine below_set ?_ GE168.out) | exact HB.out)))⟩; clear hw; clear BK164; clear BK165; clear BK166; clear BK167; clear BK168; clear HB; have BK164 := n0_; have BK165 := n1_; have BK166 := n2_; have BK167 := n3_; have BK168 := n4_; have HB := n5_; clear n0_ n1_ n2_ n3_ n4_ n5_; have p130 : (0 ≤ ((x9_2 / 16) : Int)) = True := eq_true (of_decide_eq_true (by first | (with_reducible assumption) | assumption)); have q130 : (((x9_2 / 16) : Int) < 4) = True := eq_true (of_decide_eq_true (by first | (with_reducible assumption) | assumption)); have hx131_0 : w129.cell? ⟨gb167, (x9_2 / 16).toNat, none⟩ = some (.int .i64 (ix4 (up ((x9_2 / 16) == 0) x13_80 x168000_2) (up ((x9_2 / 16) == 1) x13_80 x168001_2) (up ((x9_2 / 16) == 2) x13_80 x168002_2) (up ((x9_2 / 16) == 3) x13_80 x168003_2) (x9_2 / 16))) := (blk_cell BK167.out ((x9_2 / 16).toNat)).trans (ix_4 (Value.int .i64) _ _ _ _ (x9_2 / 16) (of_decide_eq_true (by first | (with_reducible assumption) | assumption)) (of_decide_eq_true (by first | (with_reducible assumption) | assumption)))))
                        go_roundg kj89
                        case measure => have := HK1.out; have := HK2.out; have := HJ13.out; have := HJ70.out; have := HJ80.out; have := HJ89.out; omega
                        case rel => exact ⟨(wrap64 (x9_2 + 1)), (up ((x9_2 / 16) == 0) x13_80 x168000_2), (up ((x9_2 / 16) == 1) x13_80 x168001_2), (up ((x9_2 / 16) == 2) x13_80 x168002_2), (up ((x9_2 / 16) == 3) x13_80 x168003_2), (up ((x9_2 / 16) == 0) false x169000_2), (up ((x9_2 / 16) == 0) false x169001_2), (up ((x9_2 / 16) == 0) false x169002_2), (up ((x9_2 / 16) == 0) false x169003_2), (up ((x9_2 / 16) == 1) false x169004_2), (up ((x9_2 / 16) == 1) false x169005_2), (up ((x9_2 / 16) == 1) false x169006_2), (up ((x9_2 / 16) == 1) false x169007_2), (up ((x9_2 / 16) == 2) false x169008_2), (up ((x9_2 / 16) == 2) false x169009_2), (up ((x9_2 / 16) == 2) false x169010_2), (up ((x9_2 / 16) == 2) false x169011_2), (up ((x9_2 / 16) == 3) false x169012_2), (up ((x9_2 / 16) == 3) false x169013_2), (up ((x9_2 / 16) == 3) false x169014_2), (up ((x9_2 / 16) == 3) false x169015_2), (by first | rfl | (simp; done) | (simp [*]; done)), H', ⟨by have := HK1.out; have := HK2.out; have := HJ13.out; have := HJ70.out; have := HJ80.out; have := HJ89.out; omega⟩, ⟨by (with_reducible repeat (first | refine blk_drewN ?_ _ | refine blk_drew ?_ | refine blk_alloc ?_ _)); exact BK164.out⟩, ⟨by (with_reducible repeat (first | refine blk_drewN ?_ _ | refine blk_drew ?_ | refine blk_alloc ?_ _)); exact BK165.out⟩, ⟨by (with_reducible repeat (first | refine blk_drewN ?_ _ | refine blk_drew ?_ | refine blk_alloc ?_ _)); exact BK166.out⟩, ⟨by (with_reducible repeat (first | refine blk_drewN ?_ _ | refine blk_drew ?_ | refine blk_alloc ?_ _)); exact BK167.out⟩, ⟨by (with_reducible repeat (first | refine blk_drewN ?_ _ | refine blk_drew ?_ | refine blk_alloc ?_ _)); exact BK168.out⟩, ⟨by repeat (first | (with_reducible first | exact HB.out | apply below_alloc | apply pw_below_drewN | apply below_drew1 | refine below_set ?_ GE164.out | refine below_set ?_ GE165.out | refine below_set ?_ GE166.out | refine below_set ?_ GE167.out | refine below_set ?_ GE168.out) | exact HB.out)⟩⟩
                      ·rw [if_neg c102] at H
                       exact absurd H (by simp)
                     ·rw [if_neg c101] at H
                      exact absurd H (by simp)
                    ·replace c100 := Bool.eq_false_iff.mpr c100
                     subst c100
                     have H1 : (if 0 ≤ (x9_2 / 16) then (if (x9_2 / 16) < 4 then (if x13_80 = (ix4 x168000_2 x168001_2 x168002_2 x168003_2 (x9_2 / 16)) then (if 0 ≤ (Go.bits .and .i64 x9_2 3) then (if (Go.bits .and .i64 x9_2 3) < 4 then (watchwordlaw21_ways.l1 kj89 a1 (wrap64 (x9_2 + 1)) a0_0 a0_1 a0_2 a0_3 a0_4 a0_5 a0_6 a0_7 a0_8 a0_9 a0_10 a0_11 a0_12 a0_13 a0_14 a0_15 x168000_2 x168001_2 x168002_2 x168003_2 (up ((x9_2 / 16) == 0 && (Go.bits .and .i64 x9_2 3) == 0) true x169000_2) (up ((x9_2 / 16) == 0 && (Go.bits .and .i64 x9_2 3) == 1) true x169001_2) (up ((x9_2 / 16) == 0 && (Go.bits .and .i64 x9_2 3) == 2) true x169002_2) (up ((x9_2 / 16) == 0 && (Go.bits .and .i64 x9_2 3) == 3) true x169003_2) (up ((x9_2 / 16) == 1 && (Go.bits .and .i64 x9_2 3) == 0) true x169004_2) (up ((x9_2 / 16) == 1 && (Go.bits .and .i64 x9_2 3) == 1) true x169005_2) (up ((x9_2 / 16) == 1 && (Go.bits .and .i64 x9_2 3) == 2) true x169006_2) (up ((x9_2 / 16) == 1 && (Go.bits .and .i64 x9_2 3) == 3) true x169007_2) (up ((x9_2 / 16) == 2 && (Go.bits .and .i64 x9_2 3) == 0) true x169008_2) (up ((x9_2 / 16) == 2 && (Go.bits .and .i64 x9_2 3) == 1) true x169009_2) (up ((x9_2 / 16) == 2 && (Go.bits .and .i64 x9_2 3) == 2) true x169010_2) (up ((x9_2 / 16) == 2 && (Go.bits .and .i64 x9_2 3) == 3) true x169011_2) (up ((x9_2 / 16) == 3 && (Go.bits .and .i64 x9_2 3) == 0) true x169012_2) (up ((x9_2 / 16) == 3 && (Go.bits .and .i64 x9_2 3) == 1) true x169013_2) (up ((x9_2 / 16) == 3 && (Go.bits .and .i64 x9_2 3) == 2) true x169014_2) (up ((x9_2 / 16) == 3 && (Go.bits .and .i64 x9_2 3) == 3) true x169015_2)) else (none)) else (none)) else (watchwordlaw21_ways.l1 kj89 a1 (wrap64 (x9_2 + 1)) a0_0 a0_1 a0_2 a0_3 a0_4 a0_5 a0_6 a0_7 a0_8 a0_9 a0_10 a0_11 a0_12 a0_13 a0_14 a0_15 x168000_2 x168001_2 x168002_2 x168003_2 x169000_2 x169001_2 x169002_2 x169003_2 x169004_2 x169005_2 x169006_2 x169007_2 x169008_2 x169009_2 x169010_2 x169011_2 x169012_2 x169013_2 x169014_2 x169015_2)) else (none)) else (none)) = some (r1, r2, r3, r4, r5, r6, r7, r8, r9, r10, r11, r12, r13, r14, r15, r16, r17, r18, r19, r20) := by rw [if_neg (show ¬ (false = true) by decide)] at H; exact H
                     clear H
                     have H := H1
                     clear H1
                     by_cases c132 : 0 ≤ (x9_2 / 16)
                     ·rw [if_pos c132] at H
                      have c132b0 : decide (0 ≤ (x9_2 / 16)) = true := decide_eq_true c132
                      clear c132
                      by_cases c133 : (x9_2 / 16) < 4
                      ·rw [if_pos c133] at H
                       have c133b0 : decide ((x9_2 / 16) < 4) = true := decide_eq_true c133
                       clear c133
                       by_cases c134 : x13_80 = (ix4 x168000_2 x168001_2 x168002_2 x168003_2 (x9_2 / 16))
                       ·rw [if_pos c134] at H
                        have c134b0 : (x13_80 == (ix4 x168000_2 x168001_2 x168002_2 x168003_2 (x9_2 / 16))) = true := beq_iff_eq.mpr c134
                        have c134b1 : (x13_80 != (ix4 x168000_2 x168001_2 x168002_2 x168003_2 (x9_2 / 16))) = false := bne_eq_false_iff_eq.mpr c134
                        clear c134
                        by_cases c135 : 0 ≤ (Go.bits .and .i64 x9_2 3)
                        ·rw [if_pos c135] at H
                         have c135b0 : decide (0 ≤ (Go.bits .and .i64 x9_2 3)) = true := decide_eq_true c135
                         clear c135
                         by_cases c136 : (Go.bits .and .i64 x9_2 3) < 4
                         ·rw [if_pos c136] at H
                          have c136b0 : decide ((Go.bits .and .i64 x9_2 3) < 4) = true := decide_eq_true c136
                          clear c136
                          have H' := Aside0.mk H
                          clear H
                          have p137 : (0 ≤ ((x9_2 / 16) : Int)) = True := eq_true (of_decide_eq_true (by first | (with_reducible assumption) | assumption))
                          have q137 : (((x9_2 / 16) : Int) < 4) = True := eq_true (of_decide_eq_true (by first | (with_reducible assumption) | assumption))
                          have hx138_0 : wc.cell? ⟨gb167, (x9_2 / 16).toNat, none⟩ = some (.int .i64 (ix4 x168000_2 x168001_2 x168002_2 x168003_2 (x9_2 / 16))) := (blk_cell BK167.out ((x9_2 / 16).toNat)).trans (ix_4 (Value.int .i64) _ _ _ _ (x9_2 / 16) (of_decide_eq_true (by first | (with_reducible assumption) | assumption)) (of_decide_eq_true (by first | (with_reducible assumption) | assumption)))
                          have p139 : (0 ≤ ((x9_2 / 16) : Int)) = True := eq_true (of_decide_eq_true (by first | (with_reducible assumption) | assumption))
                          have q139 : (((x9_2 / 16) : Int) < 4) = True := eq_true (of_decide_eq_true (by first | (with_reducible assumption) | assumption))
                          have p140 : (0 ≤ ((Go.bits .and .i64 x9_2 3) : Int)) = True := eq_true (of_decide_eq_true (by first | (with_reducible assumption) | assumption))
                          have q140 : (((Go.bits .and .i64 x9_2 3) : Int) < 4) = True := eq_true (of_decide_eq_true (by first | (with_reducible assumption) | assumption))
                          have hs141 : wc.cell? ⟨gb168, (x9_2 / 16).toNat * 4 + (Go.bits .and .i64 x9_2 3).toNat, none⟩ = some (.bool (ix4 (ix4 x169000_2 x169001_2 x169002_2 x169003_2 (Go.bits .and .i64 x9_2 3)) (ix4 x169004_2 x169005_2 x169006_2 x169007_2 (Go.bits .and .i64 x9_2 3)) (ix4 x169008_2 x169009_2 x169010_2 x169011_2 (Go.bits .and .i64 x9_2 3)) (ix4 x169012_2 x169013_2 x169014_2 x169015_2 (Go.bits .and .i64 x9_2 3)) (x9_2 / 16))) := (blk_cell BK168.out ((x9_2 / 16).toNat * 4 + (Go.bits .and .i64 x9_2 3).toNat)).trans (ix_44 Value.bool _ _ _ _ _ _ _ _ _ _ _ _ _ _ _ _ (x9_2 / 16) (Go.bits .and .i64 x9_2 3)  (of_decide_eq_true (by first | (with_reducible assumption) | assumption)) (of_decide_eq_true (by first | (with_reducible assumption) | assumption))  (of_decide_eq_true (by first | (with_reducible assumption) | assumption)) (of_decide_eq_true (by first | (with_reducible assumption) | assumption)))
                          have hfs141 := blk_frozen BK168.out ((x9_2 / 16).toNat * 4 + (Go.bits .and .i64 x9_2 3).toNat)
                          go_wp2_with (first | ((with_reducible refine gate_store (t := 4) (p := 118) rfl ?_); refine store_event (t := 4) (p := 118) (v := ?vo_w142) (w1 := (wc.setCell ⟨gb168, (x9_2 / 16).toNat * 4 + (Go.bits .and .i64 x9_2 3).toNat, none⟩ (.bool true))) ?hg ?ho ?hn ?hr ?_; (case ho => rfl); (case hg => rfl); (case hn => rfl); (case hr => first | (go_simp; done) | (go_simp; rfl)); intro w142 hw; have n0_ : Aside0 (w142.heap[gb164]? = some (.cells #[.int .i64 a0_0, .int .i64 a0_1, .int .i64 a0_2, .int .i64 a0_3, .int .i64 a0_4, .int .i64 a0_5, .int .i64 a0_6, .int .i64 a0_7, .int .i64 a0_8, .int .i64 a0_9, .int .i64 a0_10, .int .i64 a0_11, .int .i64 a0_12, .int .i64 a0_13, .int .i64 a0_14, .int .i64 a0_15] 23 (0, 0))) := ⟨(by rw [hw]; exact (by (with_reducible repeat (first | refine blk_drewN ?_ _ | refine blk_drew ?_ | refine blk_alloc ?_ _)); refine blk_far ?_ NB164_168.out _; (with_reducible repeat (first | refine blk_drewN ?_ _ | refine blk_drew ?_ | refine blk_alloc ?_ _)); exact BK164.out))⟩; have n1_ : Aside0 (w142.heap[gb165]? = some (.cells #[.int .i64 0, .int .i64 0, .int .i64 0, .int .i64 0] 22 (0, 0))) := ⟨(by rw [hw]; exact (by (with_reducible repeat (first | refine blk_drewN ?_ _ | refine blk_drew ?_ | refine blk_alloc ?_ _)); refine blk_far ?_ NB165_168.out _; (with_reducible repeat (first | refine blk_drewN ?_ _ | refine blk_drew ?_ | refine blk_alloc ?_ _)); exact BK165.out))⟩; have n2_ : Aside0 (w142.heap[gb166]? = some (.cells #[.bool false, .bool false, .bool false, .bool false, .bool false, .bool false, .bool false, .bool false, .bool false, .bool false, .bool false, .bool false, .bool false, .bool false, .bool false, .bool false] 36 (0, 0))) := ⟨(by rw [hw]; exact (by (with_reducible repeat (first | refine blk_drewN ?_ _ | refine blk_drew ?_ | refine blk_alloc ?_ _)); refine blk_far ?_ NB166_168.out _; (with_reducible repeat (first | refine blk_drewN ?_ _ | refine blk_drew ?_ | refine blk_alloc ?_ _)); exact BK166.out))⟩; have n3_ : Aside0 (w142.heap[gb167]? = some (.cells #[.int .i64 x168000_2, .int .i64 x168001_2, .int .i64 x168002_2, .int .i64 x168003_2] 22 (0, 0))) := ⟨(by rw [hw]; exact (by (with_reducible repeat (first | refine blk_drewN ?_ _ | refine blk_drew ?_ | refine blk_alloc ?_ _)); refine blk_far ?_ NB167_168.out _; (with_reducible repeat (first | refine blk_drewN ?_ _ | refine blk_drew ?_ | refine blk_alloc ?_ _)); exact BK167.out))⟩; have n4_ : Aside0 (w142.heap[gb168]? = some (.cells #[.bool (up ((x9_2 / 16) == 0 && (Go.bits .and .i64 x9_2 3) == 0) true x169000_2), .bool (up ((x9_2 / 16) == 0 && (Go.bits .and .i64 x9_2 3) == 1) true x169001_2), .bool (up ((x9_2 / 16) == 0 && (Go.bits .and .i64 x9_2 3) == 2) true x169002_2), .bool (up ((x9_2 / 16) == 0 && (Go.bits .and .i64 x9_2 3) == 3) true x169003_2), .bool (up ((x9_2 / 16) == 1 && (Go.bits .and .i64 x9_2 3) == 0) true x169004_2), .bool (up ((x9_2 / 16) == 1 && (Go.bits .and .i64 x9_2 3) == 1) true x169005_2), .bool (up ((x9_2 / 16) == 1 && (Go.bits .and .i64 x9_2 3) == 2) true x169006_2), .bool (up ((x9_2 / 16) == 1 && (Go.bits .and .i64 x9_2 3) == 3) true x169007_2), .bool (up ((x9_2 / 16) == 2 && (Go.bits .and .i64 x9_2 3) == 0) true x169008_2), .bool (up ((x9_2 / 16) == 2 && (Go.bits .and .i64 x9_2 3) == 1) true x169009_2), .bool (up ((x9_2 / 16) == 2 && (Go.bits .and .i64 x9_2 3) == 2) true x169010_2), .bool (up ((x9_2 / 16) == 2 && (Go.bits .and .i64 x9_2 3) == 3) true x169011_2), .bool (up ((x9_2 / 16) == 3 && (Go.bits .and .i64 x9_2 3) == 0) true x169012_2), .bool (up ((x9_2 / 16) == 3 && (Go.bits .and .i64 x9_2 3) == 1) true x169013_2), .bool (up ((x9_2 / 16) == 3 && (Go.bits .and .i64 x9_2 3) == 2) true x169014_2), .bool (up ((x9_2 / 16) == 3 && (Go.bits .and .i64 x9_2 3) == 3) true x169015_2)] 36 (0, 0))) := ⟨(by rw [hw]; exact (by (with_reducible repeat (first | refine blk_drewN ?_ _ | refine blk_drew ?_ | refine blk_alloc ?_ _)); refine blk_put (cs := #[.bool x169000_2, .bool x169001_2, .bool x169002_2, .bool x169003_2, .bool x169004_2, .bool x169005_2, .bool x169006_2, .bool x169007_2, .bool x169008_2, .bool x169009_2, .bool x169010_2, .bool x169011_2, .bool x169012_2, .bool x169013_2, .bool x169014_2, .bool x169015_2]) ?_ ((x9_2 / 16).toNat * 4 + (Go.bits .and .i64 x9_2 3).toNat) _ (up_44 Value.bool _ _ _ _ _ _ _ _ _ _ _ _ _ _ _ _ (x9_2 / 16) (Go.bits .and .i64 x9_2 3) true (of_decide_eq_true (by first | (with_reducible assumption) | assumption)) (of_decide_eq_true (by first | (with_reducible assumption) | assumption)) (of_decide_eq_true (by first | (with_reducible assumption) | assumption)) (of_decide_eq_true (by first | (with_reducible assumption) | assumption))); (with_reducible repeat (first | refine blk_drewN ?_ _ | refine blk_drew ?_ | refine blk_alloc ?_ _)); exact BK168.out))⟩; have n5_ : Aside0 (Below w.heap.size w w142) := ⟨(by rw [hw]; exact (by repeat (first | (with_reducible first | exact HB.out | apply below_alloc | apply pw_below_drewN | apply below_drew1 | refine below_set ?_ GE164.out | refine below_set ?_ GE165.out | refine below_set ?_ GE166.out | refine below_set ?_ GE167.out | refine below_set ?_ GE168.out) | exact HB.out)))⟩; clear hw; clear BK164; clear BK165; clear BK166; clear BK167; clear BK168; clear HB; have BK164 := n0_; have BK165 := n1_; have BK166 := n2_; have BK167 := n3_; have BK168 := n4_; have HB := n5_; clear n0_ n1_ n2_ n3_ n4_ n5_))
                          go_roundg kj89
                          case measure => have := HK1.out; have := HK2.out; have := HJ13.out; have := HJ70.out; have := HJ80.out; have := HJ89.out; omega
                          case rel => exact ⟨(wrap64 (x9_2 + 1)), (x168000_2), (x168001_2), (x168002_2), (x168003_2), (up ((x9_2 / 16) == 0 && (Go.bits .and .i64 x9_2 3) == 0) true x169000_2), (up ((x9_2 / 16) == 0 && (Go.bits .and .i64 x9_2 3) == 1) true x169001_2), (up ((x9_2 / 16) == 0 && (Go.bits .and .i64 x9_2 3) == 2) true x169002_2), (up ((x9_2 / 16) == 0 && (Go.bits .and .i64 x9_2 3) == 3) true x169003_2), (up ((x9_2 / 16) == 1 && (Go.bits .and .i64 x9_2 3) == 0) true x169004_2), (up ((x9_2 / 16) == 1 && (Go.bits .and .i64 x9_2 3) == 1) true x169005_2), (up ((x9_2 / 16) == 1 && (Go.bits .and .i64 x9_2 3) == 2) true x169006_2), (up ((x9_2 / 16) == 1 && (Go.bits .and .i64 x9_2 3) == 3) true x169007_2), (up ((x9_2 / 16) == 2 && (Go.bits .and .i64 x9_2 3) == 0) true x169008_2), (up ((x9_2 / 16) == 2 && (Go.bits .and .i64 x9_2 3) == 1) true x169009_2), (up ((x9_2 / 16) == 2 && (Go.bits .and .i64 x9_2 3) == 2) true x169010_2), (up ((x9_2 / 16) == 2 && (Go.bits .and .i64 x9_2 3) == 3) true x169011_2), (up ((x9_2 / 16) == 3 && (Go.bits .and .i64 x9_2 3) == 0) true x169012_2), (up ((x9_2 / 16) == 3 && (Go.bits .and .i64 x9_2 3) == 1) true x169013_2), (up ((x9_2 / 16) == 3 && (Go.bits .and .i64 x9_2 3) == 2) true x169014_2), (up ((x9_2 / 16) == 3 && (Go.bits .and .i64 x9_2 3) == 3) true x169015_2), (by first | rfl | (simp; done) | (simp [*]; done)), H', ⟨by have := HK1.out; have := HK2.out; have := HJ13.out; have := HJ70.out; have := HJ80.out; have := HJ89.out; omega⟩, ⟨by (with_reducible repeat (first | refine blk_drewN ?_ _ | refine blk_drew ?_ | refine blk_alloc ?_ _)); exact BK164.out⟩, ⟨by (with_reducible repeat (first | refine blk_drewN ?_ _ | refine blk_drew ?_ | refine blk_alloc ?_ _)); exact BK165.out⟩, ⟨by (with_reducible repeat (first | refine blk_drewN ?_ _ | refine blk_drew ?_ | refine blk_alloc ?_ _)); exact BK166.out⟩, ⟨by (with_reducible repeat (first | refine blk_drewN ?_ _ | refine blk_drew ?_ | refine blk_alloc ?_ _)); exact BK167.out⟩, ⟨by (with_reducible repeat (first | refine blk_drewN ?_ _ | refine blk_drew ?_ | refine blk_alloc ?_ _)); exact BK168.out⟩, ⟨by repeat (first | (with_reducible first | exact HB.out | apply below_alloc | apply pw_below_drewN | apply below_drew1 | refine below_set ?_ GE164.out | refine below_set ?_ GE165.out | refine below_set ?_ GE166.out | refine below_set ?_ GE167.out | refine below_set ?_ GE168.out) | exact HB.out)⟩⟩
                         ·rw [if_neg c136] at H
                          exact absurd H (by simp)
                        ·rw [if_neg c135] at H
                         exact absurd H (by simp)
                       ·rw [if_neg c134] at H
                        have c134b0 : (x13_80 == (ix4 x168000_2 x168001_2 x168002_2 x168003_2 (x9_2 / 16))) = false := beq_eq_false_iff_ne.mpr c134
                        have c134b1 : (x13_80 != (ix4 x168000_2 x168001_2 x168002_2 x168003_2 (x9_2 / 16))) = true := bne_iff_ne.mpr c134
                        have H' := Aside0.mk H
                        clear H
                        have p143 : (0 ≤ ((x9_2 / 16) : Int)) = True := eq_true (of_decide_eq_true (by first | (with_reducible assumption) | assumption))
                        have q143 : (((x9_2 / 16) : Int) < 4) = True := eq_true (of_decide_eq_true (by first | (with_reducible assumption) | assumption))
                        have hx144_0 : wc.cell? ⟨gb167, (x9_2 / 16).toNat, none⟩ = some (.int .i64 (ix4 x168000_2 x168001_2 x168002_2 x168003_2 (x9_2 / 16))) := (blk_cell BK167.out ((x9_2 / 16).toNat)).trans (ix_4 (Value.int .i64) _ _ _ _ (x9_2 / 16) (of_decide_eq_true (by first | (with_reducible assumption) | assumption)) (of_decide_eq_true (by first | (with_reducible assumption) | assumption)))
                        go_wp2
                        go_roundg kj89
                        case measure => have := HK1.out; have := HK2.out; have := HJ13.out; have := HJ70.out; have := HJ80.out; have := HJ89.out; omega
                        case rel => exact ⟨(wrap64 (x9_2 + 1)), (x168000_2), (x168001_2), (x168002_2), (x168003_2), (x169000_2), (x169001_2), (x169002_2), (x169003_2), (x169004_2), (x169005_2), (x169006_2), (x169007_2), (x169008_2), (x169009_2), (x169010_2), (x169011_2), (x169012_2), (x169013_2), (x169014_2), (x169015_2), (by first | rfl | (simp; done) | (simp [*]; done)), H', ⟨by have := HK1.out; have := HK2.out; have := HJ13.out; have := HJ70.out; have := HJ80.out; have := HJ89.out; omega⟩, ⟨by (with_reducible repeat (first | refine blk_drewN ?_ _ | refine blk_drew ?_ | refine blk_alloc ?_ _)); exact BK164.out⟩, ⟨by (with_reducible repeat (first | refine blk_drewN ?_ _ | refine blk_drew ?_ | refine blk_alloc ?_ _)); exact BK165.out⟩, ⟨by (with_reducible repeat (first | refine blk_drewN ?_ _ | refine blk_drew ?_ | refine blk_alloc ?_ _)); exact BK166.out⟩, ⟨by (with_reducible repeat (first | refine blk_drewN ?_ _ | refine blk_drew ?_ | refine blk_alloc ?_ _)); exact BK167.out⟩, ⟨by (with_reducible repeat (first | refine blk_drewN ?_ _ | refine blk_drew ?_ | refine blk_alloc ?_ _)); exact BK168.out⟩, ⟨by repeat (first | (with_reducible first | exact HB.out | apply below_alloc | apply pw_below_drewN | apply below_drew1 | refine below_set ?_ GE164.out | refine below_set ?_ GE165.out | refine below_set ?_ GE166.out | refine below_set ?_ GE167.out | refine below_set ?_ GE168.out) | exact HB.out)⟩⟩
                      ·rw [if_neg c133] at H
                       exact absurd H (by simp)
                     ·rw [if_neg c132] at H
                      exact absurd H (by simp)
             ·rw [if_neg c70] at H
              exact absurd H (by simp)
            ·rw [if_neg c69] at H
             exact absurd H (by simp)
           ·rw [if_neg c68] at H
            exact absurd H (by simp)
          ·rw [if_neg c67] at H
           exact absurd H (by simp)
      ·rw [if_neg c13] at H
       have c13b0 : decide (x9_2 < 64) = false := decide_eq_false c13
       clear c13
       simp only [Option.some.injEq, Prod.mk.injEq] at H
       obtain ⟨rfl, rfl, rfl, rfl, rfl, rfl, rfl, rfl, rfl, rfl, rfl, rfl, rfl, rfl, rfl, rfl, rfl, rfl, rfl, rfl⟩ := H
       try go_wp2
       have n0_ := Aside0.mk (blk_drew BK164.out)
       have n1_ := Aside0.mk (blk_drew BK165.out)
       have n2_ := Aside0.mk (blk_drew BK166.out)
       have n3_ := Aside0.mk (blk_drew BK167.out)
       have n4_ := Aside0.mk (blk_drew BK168.out)
       have n5_ := Aside0.mk (below_drew1 HB.out)
       clear BK164
       clear BK165
       clear BK166
       clear BK167
       clear BK168
       clear HB
       have BK164 := n0_
       have BK165 := n1_
       have BK166 := n2_
       have BK167 := n3_
       have BK168 := n4_
       have HB := n5_
       clear n0_ n1_ n2_ n3_ n4_ n5_
       refine start_ (n := 4) (S := fun w' => w'.cell? ⟨gb167, 0, none⟩ = some (.int .i64 x168000_2) ∧ w'.cell? ⟨gb167, 1, none⟩ = some (.int .i64 x168001_2) ∧ w'.cell? ⟨gb167, 2, none⟩ = some (.int .i64 x168002_2) ∧ w'.cell? ⟨gb167, 3, none⟩ = some (.int .i64 x168003_2) ∧ w'.cell? ⟨gb168, 0, none⟩ = some (.bool x169000_2) ∧ w'.cell? ⟨gb168, 1, none⟩ = some (.bool x169001_2) ∧ w'.cell? ⟨gb168, 2, none⟩ = some (.bool x169002_2) ∧ w'.cell? ⟨gb168, 3, none⟩ = some (.bool x169003_2) ∧ w'.cell? ⟨gb168, 4, none⟩ = some (.bool x169004_2) ∧ w'.cell? ⟨gb168, 5, none⟩ = some (.bool x169005_2) ∧ w'.cell? ⟨gb168, 6, none⟩ = some (.bool x169006_2) ∧ w'.cell? ⟨gb168, 7, none⟩ = some (.bool x169007_2) ∧ w'.cell? ⟨gb168, 8, none⟩ = some (.bool x169008_2) ∧ w'.cell? ⟨gb168, 9, none⟩ = some (.bool x169009_2) ∧ w'.cell? ⟨gb168, 10, none⟩ = some (.bool x169010_2) ∧ w'.cell? ⟨gb168, 11, none⟩ = some (.bool x169011_2) ∧ w'.cell? ⟨gb168, 12, none⟩ = some (.bool x169012_2) ∧ w'.cell? ⟨gb168, 13, none⟩ = some (.bool x169013_2) ∧ w'.cell? ⟨gb168, 14, none⟩ = some (.bool x169014_2) ∧ w'.cell? ⟨gb168, 15, none⟩ = some (.bool x169015_2)) (ds := []) #[false, false, false, false] (by kernel_rfl) rfl rfl ⟨(blk_cell BK167.out 0).trans rfl, (blk_cell BK167.out 1).trans rfl, (blk_cell BK167.out 2).trans rfl, (blk_cell BK167.out 3).trans rfl, (blk_cell BK168.out 0).trans rfl, (blk_cell BK168.out 1).trans rfl, (blk_cell BK168.out 2).trans rfl, (blk_cell BK168.out 3).trans rfl, (blk_cell BK168.out 4).trans rfl, (blk_cell BK168.out 5).trans rfl, (blk_cell BK168.out 6).trans rfl, (blk_cell BK168.out 7).trans rfl, (blk_cell BK168.out 8).trans rfl, (blk_cell BK168.out 9).trans rfl, (blk_cell BK168.out 10).trans rfl, (blk_cell BK168.out 11).trans rfl, (blk_cell BK168.out 12).trans rfl, (blk_cell BK168.out 13).trans rfl, (blk_cell BK168.out 14).trans rfl, (blk_cell BK168.out 15).trans rfl⟩ (fun hHeld => ?_)
       generalize wr.drew = w145 at BK164 BK165 BK166 BK167 BK168 HB hHeld ⊢
       refine take_ (i := 0) (N := some 119) (v := ?_) (a' := ?_) #[true, false, false, false] rfl rfl (by kernel_rfl) (fun _ _ _ h => h) (Or.inl ⟨by rfl, ?_⟩) hHeld ?_ ?_
       rotate_left
       ·rintro w' ⟨s0, s1, s2, s3, s4, s5, s6, s7, s8, s9, s10, s11, s12, s13, s14, s15, s16, s17, s18, s19⟩
        go_simp
        with_reducible rfl
       rotate_left
       ·simp only [Act.put, List.setIfInBounds_toArray, List.set_cons_zero, List.set_cons_succ, i64_w, i32_w]
        rfl
       refine take_ (i := 1) (N := some 120) (v := ?_) (a' := ?_) #[true, true, false, false] rfl rfl (by kernel_rfl) (fun _ _ _ h => h) (Or.inl ⟨by rfl, ?_⟩) hHeld ?_ ?_
       rotate_left
       ·rintro w' ⟨s0, s1, s2, s3, s4, s5, s6, s7, s8, s9, s10, s11, s12, s13, s14, s15, s16, s17, s18, s19⟩
        go_simp
        with_reducible rfl
       rotate_left
       ·simp only [Act.put, List.setIfInBounds_toArray, List.set_cons_zero, List.set_cons_succ, i64_w, i32_w]
        rfl
       refine one_ (i := 2) (N := none) #[true, true, true, false] rfl rfl (by kernel_rfl) (by decide) (fun K hK => ?_)
       have hs146 : w145.cell? ⟨gb165, 0, none⟩ = some (.int .i64 0) := (blk_cell BK165.out 0).trans rfl
       have hfs146 := blk_frozen BK165.out 0
       have hns146_0 := NB164_165.out
       have hns146_2 := NB166_165.out
       have hns146_3 := NB167_165.out
       have hns146_4 := NB168_165.out
       have hms146_0 := NB165_164.out
       have hms146_2 := NB165_166.out
       have hms146_3 := NB165_167.out
       have hms146_4 := NB165_168.out
       have hs147 : w145.cell? ⟨gb165, 1, none⟩ = some (.int .i64 0) := (blk_cell BK165.out 1).trans rfl
       have hfs147 := blk_frozen BK165.out 1
       have hns147_0 := NB164_165.out
       have hns147_2 := NB166_165.out
       have hns147_3 := NB167_165.out
       have hns147_4 := NB168_165.out
       have hms147_0 := NB165_164.out
       have hms147_2 := NB165_166.out
       have hms147_3 := NB165_167.out
       have hms147_4 := NB165_168.out
       have hs148 : w145.cell? ⟨gb165, 2, none⟩ = some (.int .i64 0) := (blk_cell BK165.out 2).trans rfl
       have hfs148 := blk_frozen BK165.out 2
       have hns148_0 := NB164_165.out
       have hns148_2 := NB166_165.out
       have hns148_3 := NB167_165.out
       have hns148_4 := NB168_165.out
       have hms148_0 := NB165_164.out
       have hms148_2 := NB165_166.out
       have hms148_3 := NB165_167.out
       have hms148_4 := NB165_168.out
       have hs149 : w145.cell? ⟨gb165, 3, none⟩ = some (.int .i64 0) := (blk_cell BK165.out 3).trans rfl
       have hfs149 := blk_frozen BK165.out 3
       have hns149_0 := NB164_165.out
       have hns149_2 := NB166_165.out
       have hns149_3 := NB167_165.out
       have hns149_4 := NB168_165.out
       have hms149_0 := NB165_164.out
       have hms149_2 := NB165_166.out
       have hms149_3 := NB165_167.out
       have hms149_4 := NB165_168.out
       refine skip_ (w1 := ?_) (by rfl) rfl ?_ ?_
       rotate_left
       ·go_simp
        rfl
       refine hK.out _ _ ⟨((cell_far (p := ⟨gb165, _, none⟩) NB167_165.out _).trans (((cell_far (p := ⟨gb165, _, none⟩) NB167_165.out _).trans (((cell_far (p := ⟨gb165, _, none⟩) NB167_165.out _).trans (((cell_far (p := ⟨gb165, _, none⟩) NB167_165.out _).trans (hHeld.1)))))))), ((cell_far (p := ⟨gb165, _, none⟩) NB167_165.out _).trans (((cell_far (p := ⟨gb165, _, none⟩) NB167_165.out _).trans (((cell_far (p := ⟨gb165, _, none⟩) NB167_165.out _).trans (((cell_far (p := ⟨gb165, _, none⟩) NB167_165.out _).trans (hHeld.2.1)))))))), ((cell_far (p := ⟨gb165, _, none⟩) NB167_165.out _).trans (((cell_far (p := ⟨gb165, _, none⟩) NB167_165.out _).trans (((cell_far (p := ⟨gb165, _, none⟩) NB167_165.out _).trans (((cell_far (p := ⟨gb165, _, none⟩) NB167_165.out _).trans (hHeld.2.2.1)))))))), ((cell_far (p := ⟨gb165, _, none⟩) NB167_165.out _).trans (((cell_far (p := ⟨gb165, _, none⟩) NB167_165.out _).trans (((cell_far (p := ⟨gb165, _, none⟩) NB167_165.out _).trans (((cell_far (p := ⟨gb165, _, none⟩) NB167_165.out _).trans (hHeld.2.2.2.1)))))))), ((cell_far (p := ⟨gb165, _, none⟩) NB168_165.out _).trans (((cell_far (p := ⟨gb165, _, none⟩) NB168_165.out _).trans (((cell_far (p := ⟨gb165, _, none⟩) NB168_165.out _).trans (((cell_far (p := ⟨gb165, _, none⟩) NB168_165.out _).trans (hHeld.2.2.2.2.1)))))))), ((cell_far (p := ⟨gb165, _, none⟩) NB168_165.out _).trans (((cell_far (p := ⟨gb165, _, none⟩) NB168_165.out _).trans (((cell_far (p := ⟨gb165, _, none⟩) NB168_165.out _).trans (((cell_far (p := ⟨gb165, _, none⟩) NB168_165.out _).trans (hHeld.2.2.2.2.2.1)))))))), ((cell_far (p := ⟨gb165, _, none⟩) NB168_165.out _).trans (((cell_far (p := ⟨gb165, _, none⟩) NB168_165.out _).trans (((cell_far (p := ⟨gb165, _, none⟩) NB168_165.out _).trans (((cell_far (p := ⟨gb165, _, none⟩) NB168_165.out _).trans (hHeld.2.2.2.2.2.2.1)))))))), ((cell_far (p := ⟨gb165, _, none⟩) NB168_165.out _).trans (((cell_far (p := ⟨gb165, _, none⟩) NB168_165.out _).trans (((cell_far (p := ⟨gb165, _, none⟩) NB168_165.out _).trans (((cell_far (p := ⟨gb165, _, none⟩) NB168_165.out _).trans (hHeld.2.2.2.2.2.2.2.1)))))))), ((cell_far (p := ⟨gb165, _, none⟩) NB168_165.out _).trans (((cell_far (p := ⟨gb165, _, none⟩) NB168_165.out _).trans (((cell_far (p := ⟨gb165, _, none⟩) NB168_165.out _).trans (((cell_far (p := ⟨gb165, _, none⟩) NB168_165.out _).trans (hHeld.2.2.2.2.2.2.2.2.1)))))))), ((cell_far (p := ⟨gb165, _, none⟩) NB168_165.out _).trans (((cell_far (p := ⟨gb165, _, none⟩) NB168_165.out _).trans (((cell_far (p := ⟨gb165, _, none⟩) NB168_165.out _).trans (((cell_far (p := ⟨gb165, _, none⟩) NB168_165.out _).trans (hHeld.2.2.2.2.2.2.2.2.2.1)))))))), ((cell_far (p := ⟨gb165, _, none⟩) NB168_165.out _).trans (((cell_far (p := ⟨gb165, _, none⟩) NB168_165.out _).trans (((cell_far (p := ⟨gb165, _, none⟩) NB168_165.out _).trans (((cell_far (p := ⟨gb165, _, none⟩) NB168_165.out _).trans (hHeld.2.2.2.2.2.2.2.2.2.2.1)))))))), ((cell_far (p := ⟨gb165, _, none⟩) NB168_165.out _).trans (((cell_far (p := ⟨gb165, _, none⟩) NB168_165.out _).trans (((cell_far (p := ⟨gb165, _, none⟩) NB168_165.out _).trans (((cell_far (p := ⟨gb165, _, none⟩) NB168_165.out _).trans (hHeld.2.2.2.2.2.2.2.2.2.2.2.1)))))))), ((cell_far (p := ⟨gb165, _, none⟩) NB168_165.out _).trans (((cell_far (p := ⟨gb165, _, none⟩) NB168_165.out _).trans (((cell_far (p := ⟨gb165, _, none⟩) NB168_165.out _).trans (((cell_far (p := ⟨gb165, _, none⟩) NB168_165.out _).trans (hHeld.2.2.2.2.2.2.2.2.2.2.2.2.1)))))))), ((cell_far (p := ⟨gb165, _, none⟩) NB168_165.out _).trans (((cell_far (p := ⟨gb165, _, none⟩) NB168_165.out _).trans (((cell_far (p := ⟨gb165, _, none⟩) NB168_165.out _).trans (((cell_far (p := ⟨gb165, _, none⟩) NB168_165.out _).trans (hHeld.2.2.2.2.2.2.2.2.2.2.2.2.2.1)))))))), ((cell_far (p := ⟨gb165, _, none⟩) NB168_165.out _).trans (((cell_far (p := ⟨gb165, _, none⟩) NB168_165.out _).trans (((cell_far (p := ⟨gb165, _, none⟩) NB168_165.out _).trans (((cell_far (p := ⟨gb165, _, none⟩) NB168_165.out _).trans (hHeld.2.2.2.2.2.2.2.2.2.2.2.2.2.2.1)))))))), ((cell_far (p := ⟨gb165, _, none⟩) NB168_165.out _).trans (((cell_far (p := ⟨gb165, _, none⟩) NB168_165.out _).trans (((cell_far (p := ⟨gb165, _, none⟩) NB168_165.out _).trans (((cell_far (p := ⟨gb165, _, none⟩) NB168_165.out _).trans (hHeld.2.2.2.2.2.2.2.2.2.2.2.2.2.2.2.1)))))))), ((cell_far (p := ⟨gb165, _, none⟩) NB168_165.out _).trans (((cell_far (p := ⟨gb165, _, none⟩) NB168_165.out _).trans (((cell_far (p := ⟨gb165, _, none⟩) NB168_165.out _).trans (((cell_far (p := ⟨gb165, _, none⟩) NB168_165.out _).trans (hHeld.2.2.2.2.2.2.2.2.2.2.2.2.2.2.2.2.1)))))))), ((cell_far (p := ⟨gb165, _, none⟩) NB168_165.out _).trans (((cell_far (p := ⟨gb165, _, none⟩) NB168_165.out _).trans (((cell_far (p := ⟨gb165, _, none⟩) NB168_165.out _).trans (((cell_far (p := ⟨gb165, _, none⟩) NB168_165.out _).trans (hHeld.2.2.2.2.2.2.2.2.2.2.2.2.2.2.2.2.2.1)))))))), ((cell_far (p := ⟨gb165, _, none⟩) NB168_165.out _).trans (((cell_far (p := ⟨gb165, _, none⟩) NB168_165.out _).trans (((cell_far (p := ⟨gb165, _, none⟩) NB168_165.out _).trans (((cell_far (p := ⟨gb165, _, none⟩) NB168_165.out _).trans (hHeld.2.2.2.2.2.2.2.2.2.2.2.2.2.2.2.2.2.2.1)))))))), ((cell_far (p := ⟨gb165, _, none⟩) NB168_165.out _).trans (((cell_far (p := ⟨gb165, _, none⟩) NB168_165.out _).trans (((cell_far (p := ⟨gb165, _, none⟩) NB168_165.out _).trans (((cell_far (p := ⟨gb165, _, none⟩) NB168_165.out _).trans (hHeld.2.2.2.2.2.2.2.2.2.2.2.2.2.2.2.2.2.2.2))))))))⟩ (fun hHeld => ?_)
       clear hK K
       refine one_ (i := 3) (N := none) #[true, true, true, true] rfl rfl (by kernel_rfl) (by decide) (fun K hK => ?_)
       have hs150 : w145.cell? ⟨gb166, 0, none⟩ = some (.bool false) := (blk_cell BK166.out 0).trans rfl
       have hfs150 := blk_frozen BK166.out 0
       have hns150_0 := NB164_166.out
       have hns150_1 := NB165_166.out
       have hns150_3 := NB167_166.out
       have hns150_4 := NB168_166.out
       have hms150_0 := NB166_164.out
       have hms150_1 := NB166_165.out
       have hms150_3 := NB166_167.out
       have hms150_4 := NB166_168.out
       have hs151 : w145.cell? ⟨gb166, 1, none⟩ = some (.bool false) := (blk_cell BK166.out 1).trans rfl
       have hfs151 := blk_frozen BK166.out 1
       have hns151_0 := NB164_166.out
       have hns151_1 := NB165_166.out
       have hns151_3 := NB167_166.out
       have hns151_4 := NB168_166.out
       have hms151_0 := NB166_164.out
       have hms151_1 := NB166_165.out
       have hms151_3 := NB166_167.out
       have hms151_4 := NB166_168.out
       have hs152 : w145.cell? ⟨gb166, 2, none⟩ = some (.bool false) := (blk_cell BK166.out 2).trans rfl
       have hfs152 := blk_frozen BK166.out 2
       have hns152_0 := NB164_166.out
       have hns152_1 := NB165_166.out
       have hns152_3 := NB167_166.out
       have hns152_4 := NB168_166.out
       have hms152_0 := NB166_164.out
       have hms152_1 := NB166_165.out
       have hms152_3 := NB166_167.out
       have hms152_4 := NB166_168.out
       have hs153 : w145.cell? ⟨gb166, 3, none⟩ = some (.bool false) := (blk_cell BK166.out 3).trans rfl
       have hfs153 := blk_frozen BK166.out 3
       have hns153_0 := NB164_166.out
       have hns153_1 := NB165_166.out
       have hns153_3 := NB167_166.out
       have hns153_4 := NB168_166.out
       have hms153_0 := NB166_164.out
       have hms153_1 := NB166_165.out
       have hms153_3 := NB166_167.out
       have hms153_4 := NB166_168.out
       have hs154 : w145.cell? ⟨gb166, 4, none⟩ = some (.bool false) := (blk_cell BK166.out 4).trans rfl
       have hfs154 := blk_frozen BK166.out 4
       have hns154_0 := NB164_166.out
       have hns154_1 := NB165_166.out
       have hns154_3 := NB167_166.out
       have hns154_4 := NB168_166.out
       have hms154_0 := NB166_164.out
       have hms154_1 := NB166_165.out
       have hms154_3 := NB166_167.out
       have hms154_4 := NB166_168.out
       have hs155 : w145.cell? ⟨gb166, 5, none⟩ = some (.bool false) := (blk_cell BK166.out 5).trans rfl
       have hfs155 := blk_frozen BK166.out 5
       have hns155_0 := NB164_166.out
       have hns155_1 := NB165_166.out
       have hns155_3 := NB167_166.out
       have hns155_4 := NB168_166.out
       have hms155_0 := NB166_164.out
       have hms155_1 := NB166_165.out
       have hms155_3 := NB166_167.out
       have hms155_4 := NB166_168.out
       have hs156 : w145.cell? ⟨gb166, 6, none⟩ = some (.bool false) := (blk_cell BK166.out 6).trans rfl
       have hfs156 := blk_frozen BK166.out 6
       have hns156_0 := NB164_166.out
       have hns156_1 := NB165_166.out
       have hns156_3 := NB167_166.out
       have hns156_4 := NB168_166.out
       have hms156_0 := NB166_164.out
       have hms156_1 := NB166_165.out
       have hms156_3 := NB166_167.out
       have hms156_4 := NB166_168.out
       have hs157 : w145.cell? ⟨gb166, 7, none⟩ = some (.bool false) := (blk_cell BK166.out 7).trans rfl
       have hfs157 := blk_frozen BK166.out 7
       have hns157_0 := NB164_166.out
       have hns157_1 := NB165_166.out
       have hns157_3 := NB167_166.out
       have hns157_4 := NB168_166.out
       have hms157_0 := NB166_164.out
       have hms157_1 := NB166_165.out
       have hms157_3 := NB166_167.out
       have hms157_4 := NB166_168.out
       have hs158 : w145.cell? ⟨gb166, 8, none⟩ = some (.bool false) := (blk_cell BK166.out 8).trans rfl
       have hfs158 := blk_frozen BK166.out 8
       have hns158_0 := NB164_166.out
       have hns158_1 := NB165_166.out
       have hns158_3 := NB167_166.out
       have hns158_4 := NB168_166.out
       have hms158_0 := NB166_164.out
       have hms158_1 := NB166_165.out
       have hms158_3 := NB166_167.out
       have hms158_4 := NB166_168.out
       have hs159 : w145.cell? ⟨gb166, 9, none⟩ = some (.bool false) := (blk_cell BK166.out 9).trans rfl
       have hfs159 := blk_frozen BK166.out 9
       have hns159_0 := NB164_166.out
       have hns159_1 := NB165_166.out
       have hns159_3 := NB167_166.out
       have hns159_4 := NB168_166.out
       have hms159_0 := NB166_164.out
       have hms159_1 := NB166_165.out
       have hms159_3 := NB166_167.out
       have hms159_4 := NB166_168.out
       have hs160 : w145.cell? ⟨gb166, 10, none⟩ = some (.bool false) := (blk_cell BK166.out 10).trans rfl
       have hfs160 := blk_frozen BK166.out 10
       have hns160_0 := NB164_166.out
       have hns160_1 := NB165_166.out
       have hns160_3 := NB167_166.out
       have hns160_4 := NB168_166.out
       have hms160_0 := NB166_164.out
       have hms160_1 := NB166_165.out
       have hms160_3 := NB166_167.out
       have hms160_4 := NB166_168.out
       have hs161 : w145.cell? ⟨gb166, 11, none⟩ = some (.bool false) := (blk_cell BK166.out 11).trans rfl
       have hfs161 := blk_frozen BK166.out 11
       have hns161_0 := NB164_166.out
       have hns161_1 := NB165_166.out
       have hns161_3 := NB167_166.out
       have hns161_4 := NB168_166.out
       have hms161_0 := NB166_164.out
       have hms161_1 := NB166_165.out
       have hms161_3 := NB166_167.out
       have hms161_4 := NB166_168.out
       have hs162 : w145.cell? ⟨gb166, 12, none⟩ = some (.bool false) := (blk_cell BK166.out 12).trans rfl
       have hfs162 := blk_frozen BK166.out 12
       have hns162_0 := NB164_166.out
       have hns162_1 := NB165_166.out
       have hns162_3 := NB167_166.out
       have hns162_4 := NB168_166.out
       have hms162_0 := NB166_164.out
       have hms162_1 := NB166_165.out
       have hms162_3 := NB166_167.out
       have hms162_4 := NB166_168.out
       have hs163 : w145.cell? ⟨gb166, 13, none⟩ = some (.bool false) := (blk_cell BK166.out 13).trans rfl
       have hfs163 := blk_frozen BK166.out 13
       have hns163_0 := NB164_166.out
       have hns163_1 := NB165_166.out
       have hns163_3 := NB167_166.out
       have hns163_4 := NB168_166.out
       have hms163_0 := NB166_164.out
       have hms163_1 := NB166_165.out
       have hms163_3 := NB166_167.out
       have hms163_4 := NB166_168.out
       have hs164 : w145.cell? ⟨gb166, 14, none⟩ = some (.bool false) := (blk_cell BK166.out 14).trans rfl
       have hfs164 := blk_frozen BK166.out 14
       have hns164_0 := NB164_166.out
       have hns164_1 := NB165_166.out
       have hns164_3 := NB167_166.out
       have hns164_4 := NB168_166.out
       have hms164_0 := NB166_164.out
       have hms164_1 := NB166_165.out
       have hms164_3 := NB166_167.out
       have hms164_4 := NB166_168.out
       have hs165 : w145.cell? ⟨gb166, 15, none⟩ = some (.bool false) := (blk_cell BK166.out 15).trans rfl
       have hfs165 := blk_frozen BK166.out 15
       have hns165_0 := NB164_166.out
       have hns165_1 := NB165_166.out
       have hns165_3 := NB167_166.out
       have hns165_4 := NB168_166.out
       have hms165_0 := NB166_164.out
       have hms165_1 := NB166_165.out
       have hms165_3 := NB166_167.out
       have hms165_4 := NB166_168.out
       refine skip_ (w1 := ?_) (by rfl) rfl ?_ ?_
       rotate_left
       ·go_simp
        rfl
       refine hK.out _ _ ⟨((cell_far (p := ⟨gb166, _, none⟩) NB167_166.out _).trans (((cell_far (p := ⟨gb166, _, none⟩) NB167_166.out _).trans (((cell_far (p := ⟨gb166, _, none⟩) NB167_166.out _).trans (((cell_far (p := ⟨gb166, _, none⟩) NB167_166.out _).trans (((cell_far (p := ⟨gb166, _, none⟩) NB167_166.out _).trans (((cell_far (p := ⟨gb166, _, none⟩) NB167_166.out _).trans (((cell_far (p := ⟨gb166, _, none⟩) NB167_166.out _).trans (((cell_far (p := ⟨gb166, _, none⟩) NB167_166.out _).trans (((cell_far (p := ⟨gb166, _, none⟩) NB167_166.out _).trans (((cell_far (p := ⟨gb166, _, none⟩) NB167_166.out _).trans (((cell_far (p := ⟨gb166, _, none⟩) NB167_166.out _).trans (((cell_far (p := ⟨gb166, _, none⟩) NB167_166.out _).trans (((cell_far (p := ⟨gb166, _, none⟩) NB167_166.out _).trans (((cell_far (p := ⟨gb166, _, none⟩) NB167_166.out _).trans (((cell_far (p := ⟨gb166, _, none⟩) NB167_166.out _).trans (((cell_far (p := ⟨gb166, _, none⟩) NB167_166.out _).trans (hHeld.1)))))))))))))))))))))))))))))))), ((cell_far (p := ⟨gb166, _, none⟩) NB167_166.out _).trans (((cell_far (p := ⟨gb166, _, none⟩) NB167_166.out _).trans (((cell_far (p := ⟨gb166, _, none⟩) NB167_166.out _).trans (((cell_far (p := ⟨gb166, _, none⟩) NB167_166.out _).trans (((cell_far (p := ⟨gb166, _, none⟩) NB167_166.out _).trans (((cell_far (p := ⟨gb166, _, none⟩) NB167_166.out _).trans (((cell_far (p := ⟨gb166, _, none⟩) NB167_166.out _).trans (((cell_far (p := ⟨gb166, _, none⟩) NB167_166.out _).trans (((cell_far (p := ⟨gb166, _, none⟩) NB167_166.out _).trans (((cell_far (p := ⟨gb166, _, none⟩) NB167_166.out _).trans (((cell_far (p := ⟨gb166, _, none⟩) NB167_166.out _).trans (((cell_far (p := ⟨gb166, _, none⟩) NB167_166.out _).trans (((cell_far (p := ⟨gb166, _, none⟩) NB167_166.out _).trans (((cell_far (p := ⟨gb166, _, none⟩) NB167_166.out _).trans (((cell_far (p := ⟨gb166, _, none⟩) NB167_166.out _).trans (((cell_far (p := ⟨gb166, _, none⟩) NB167_166.out _).trans (hHeld.2.1)))))))))))))))))))))))))))))))), ((cell_far (p := ⟨gb166, _, none⟩) NB167_166.out _).trans (((cell_far (p := ⟨gb166, _, none⟩) NB167_166.out _).trans (((cell_far (p := ⟨gb166, _, none⟩) NB167_166.out _).trans (((cell_far (p := ⟨gb166, _, none⟩) NB167_166.out _).trans (((cell_far (p := ⟨gb166, _, none⟩) NB167_166.out _).trans (((cell_far (p := ⟨gb166, _, none⟩) NB167_166.out _).trans (((cell_far (p := ⟨gb166, _, none⟩) NB167_166.out _).trans (((cell_far (p := ⟨gb166, _, none⟩) NB167_166.out _).trans (((cell_far (p := ⟨gb166, _, none⟩) NB167_166.out _).trans (((cell_far (p := ⟨gb166, _, none⟩) NB167_166.out _).trans (((cell_far (p := ⟨gb166, _, none⟩) NB167_166.out _).trans (((cell_far (p := ⟨gb166, _, none⟩) NB167_166.out _).trans (((cell_far (p := ⟨gb166, _, none⟩) NB167_166.out _).trans (((cell_far (p := ⟨gb166, _, none⟩) NB167_166.out _).trans (((cell_far (p := ⟨gb166, _, none⟩) NB167_166.out _).trans (((cell_far (p := ⟨gb166, _, none⟩) NB167_166.out _).trans (hHeld.2.2.1)))))))))))))))))))))))))))))))), ((cell_far (p := ⟨gb166, _, none⟩) NB167_166.out _).trans (((cell_far (p := ⟨gb166, _, none⟩) NB167_166.out _).trans (((cell_far (p := ⟨gb166, _, none⟩) NB167_166.out _).trans (((cell_far (p := ⟨gb166, _, none⟩) NB167_166.out _).trans (((cell_far (p := ⟨gb166, _, none⟩) NB167_166.out _).trans (((cell_far (p := ⟨gb166, _, none⟩) NB167_166.out _).trans (((cell_far (p := ⟨gb166, _, none⟩) NB167_166.out _).trans (((cell_far (p := ⟨gb166, _, none⟩) NB167_166.out _).trans (((cell_far (p := ⟨gb166, _, none⟩) NB167_166.out _).trans (((cell_far (p := ⟨gb166, _, none⟩) NB167_166.out _).trans (((cell_far (p := ⟨gb166, _, none⟩) NB167_166.out _).trans (((cell_far (p := ⟨gb166, _, none⟩) NB167_166.out _).trans (((cell_far (p := ⟨gb166, _, none⟩) NB167_166.out _).trans (((cell_far (p := ⟨gb166, _, none⟩) NB167_166.out _).trans (((cell_far (p := ⟨gb166, _, none⟩) NB167_166.out _).trans (((cell_far (p := ⟨gb166, _, none⟩) NB167_166.out _).trans (hHeld.2.2.2.1)))))))))))))))))))))))))))))))), ((cell_far (p := ⟨gb166, _, none⟩) NB168_166.out _).trans (((cell_far (p := ⟨gb166, _, none⟩) NB168_166.out _).trans (((cell_far (p := ⟨gb166, _, none⟩) NB168_166.out _).trans (((cell_far (p := ⟨gb166, _, none⟩) NB168_166.out _).trans (((cell_far (p := ⟨gb166, _, none⟩) NB168_166.out _).trans (((cell_far (p := ⟨gb166, _, none⟩) NB168_166.out _).trans (((cell_far (p := ⟨gb166, _, none⟩) NB168_166.out _).trans (((cell_far (p := ⟨gb166, _, none⟩) NB168_166.out _).trans (((cell_far (p := ⟨gb166, _, none⟩) NB168_166.out _).trans (((cell_far (p := ⟨gb166, _, none⟩) NB168_166.out _).trans (((cell_far (p := ⟨gb166, _, none⟩) NB168_166.out _).trans (((cell_far (p := ⟨gb166, _, none⟩) NB168_166.out _).trans (((cell_far (p := ⟨gb166, _, none⟩) NB168_166.out _).trans (((cell_far (p := ⟨gb166, _, none⟩) NB168_166.out _).trans (((cell_far (p := ⟨gb166, _, none⟩) NB168_166.out _).trans (((cell_far (p := ⟨gb166, _, none⟩) NB168_166.out _).trans (hHeld.2.2.2.2.1)))))))))))))))))))))))))))))))), ((cell_far (p := ⟨gb166, _, none⟩) NB168_166.out _).trans (((cell_far (p := ⟨gb166, _, none⟩) NB168_166.out _).trans (((cell_far (p := ⟨gb166, _, none⟩) NB168_166.out _).trans (((cell_far (p := ⟨gb166, _, none⟩) NB168_166.out _).trans (((cell_far (p := ⟨gb166, _, none⟩) NB168_166.out _).trans (((cell_far (p := ⟨gb166, _, none⟩) NB168_166.out _).trans (((cell_far (p := ⟨gb166, _, none⟩) NB168_166.out _).trans (((cell_far (p := ⟨gb166, _, none⟩) NB168_166.out _).trans (((cell_far (p := ⟨gb166, _, none⟩) NB168_166.out _).trans (((cell_far (p := ⟨gb166, _, none⟩) NB168_166.out _).trans (((cell_far (p := ⟨gb166, _, none⟩) NB168_166.out _).trans (((cell_far (p := ⟨gb166, _, none⟩) NB168_166.out _).trans (((cell_far (p := ⟨gb166, _, none⟩) NB168_166.out _).trans (((cell_far (p := ⟨gb166, _, none⟩) NB168_166.out _).trans (((cell_far (p := ⟨gb166, _, none⟩) NB168_166.out _).trans (((cell_far (p := ⟨gb166, _, none⟩) NB168_166.out _).trans (hHeld.2.2.2.2.2.1)))))))))))))))))))))))))))))))), ((cell_far (p := ⟨gb166, _, none⟩) NB168_166.out _).trans (((cell_far (p := ⟨gb166, _, none⟩) NB168_166.out _).trans (((cell_far (p := ⟨gb166, _, none⟩) NB168_166.out _).trans (((cell_far (p := ⟨gb166, _, none⟩) NB168_166.out _).trans (((cell_far (p := ⟨gb166, _, none⟩) NB168_166.out _).trans (((cell_far (p := ⟨gb166, _, none⟩) NB168_166.out _).trans (((cell_far (p := ⟨gb166, _, none⟩) NB168_166.out _).trans (((cell_far (p := ⟨gb166, _, none⟩) NB168_166.out _).trans (((cell_far (p := ⟨gb166, _, none⟩) NB168_166.out _).trans (((cell_far (p := ⟨gb166, _, none⟩) NB168_166.out _).trans (((cell_far (p := ⟨gb166, _, none⟩) NB168_166.out _).trans (((cell_far (p := ⟨gb166, _, none⟩) NB168_166.out _).trans (((cell_far (p := ⟨gb166, _, none⟩) NB168_166.out _).trans (((cell_far (p := ⟨gb166, _, none⟩) NB168_166.out _).trans (((cell_far (p := ⟨gb166, _, none⟩) NB168_166.out _).trans (((cell_far (p := ⟨gb166, _, none⟩) NB168_166.out _).trans (hHeld.2.2.2.2.2.2.1)))))))))))))))))))))))))))))))), ((cell_far (p := ⟨gb166, _, none⟩) NB168_166.out _).trans (((cell_far (p := ⟨gb166, _, none⟩) NB168_166.out _).trans (((cell_far (p := ⟨gb166, _, none⟩) NB168_166.out _).trans (((cell_far (p := ⟨gb166, _, none⟩) NB168_166.out _).trans (((cell_far (p := ⟨gb166, _, none⟩) NB168_166.out _).trans (((cell_far (p := ⟨gb166, _, none⟩) NB168_166.out _).trans (((cell_far (p := ⟨gb166, _, none⟩) NB168_166.out _).trans (((cell_far (p := ⟨gb166, _, none⟩) NB168_166.out _).trans (((cell_far (p := ⟨gb166, _, none⟩) NB168_166.out _).trans (((cell_far (p := ⟨gb166, _, none⟩) NB168_166.out _).trans (((cell_far (p := ⟨gb166, _, none⟩) NB168_166.out _).trans (((cell_far (p := ⟨gb166, _, none⟩) NB168_166.out _).trans (((cell_far (p := ⟨gb166, _, none⟩) NB168_166.out _).trans (((cell_far (p := ⟨gb166, _, none⟩) NB168_166.out _).trans (((cell_far (p := ⟨gb166, _, none⟩) NB168_166.out _).trans (((cell_far (p := ⟨gb166, _, none⟩) NB168_166.out _).trans (hHeld.2.2.2.2.2.2.2.1)))))))))))))))))))))))))))))))), ((cell_far (p := ⟨gb166, _, none⟩) NB168_166.out _).trans (((cell_far (p := ⟨gb166, _, none⟩) NB168_166.out _).trans (((cell_far (p := ⟨gb166, _, none⟩) NB168_166.out _).trans (((cell_far (p := ⟨gb166, _, none⟩) NB168_166.out _).trans (((cell_far (p := ⟨gb166, _, none⟩) NB168_166.out _).trans (((cell_far (p := ⟨gb166, _, none⟩) NB168_166.out _).trans (((cell_far (p := ⟨gb166, _, none⟩) NB168_166.out _).trans (((cell_far (p := ⟨gb166, _, none⟩) NB168_166.out _).trans (((cell_far (p := ⟨gb166, _, none⟩) NB168_166.out _).trans (((cell_far (p := ⟨gb166, _, none⟩) NB168_166.out _).trans (((cell_far (p := ⟨gb166, _, none⟩) NB168_166.out _).trans (((cell_far (p := ⟨gb166, _, none⟩) NB168_166.out _).trans (((cell_far (p := ⟨gb166, _, none⟩) NB168_166.out _).trans (((cell_far (p := ⟨gb166, _, none⟩) NB168_166.out _).trans (((cell_far (p := ⟨gb166, _, none⟩) NB168_166.out _).trans (((cell_far (p := ⟨gb166, _, none⟩) NB168_166.out _).trans (hHeld.2.2.2.2.2.2.2.2.1)))))))))))))))))))))))))))))))), ((cell_far (p := ⟨gb166, _, none⟩) NB168_166.out _).trans (((cell_far (p := ⟨gb166, _, none⟩) NB168_166.out _).trans (((cell_far (p := ⟨gb166, _, none⟩) NB168_166.out _).trans (((cell_far (p := ⟨gb166, _, none⟩) NB168_166.out _).trans (((cell_far (p := ⟨gb166, _, none⟩) NB168_166.out _).trans (((cell_far (p := ⟨gb166, _, none⟩) NB168_166.out _).trans (((cell_far (p := ⟨gb166, _, none⟩) NB168_166.out _).trans (((cell_far (p := ⟨gb166, _, none⟩) NB168_166.out _).trans (((cell_far (p := ⟨gb166, _, none⟩) NB168_166.out _).trans (((cell_far (p := ⟨gb166, _, none⟩) NB168_166.out _).trans (((cell_far (p := ⟨gb166, _, none⟩) NB168_166.out _).trans (((cell_far (p := ⟨gb166, _, none⟩) NB168_166.out _).trans (((cell_far (p := ⟨gb166, _, none⟩) NB168_166.out _).trans (((cell_far (p := ⟨gb166, _, none⟩) NB168_166.out _).trans (((cell_far (p := ⟨gb166, _, none⟩) NB168_166.out _).trans (((cell_far (p := ⟨gb166, _, none⟩) NB168_166.out _).trans (hHeld.2.2.2.2.2.2.2.2.2.1)))))))))))))))))))))))))))))))), ((cell_far (p := ⟨gb166, _, none⟩) NB168_166.out _).trans (((cell_far (p := ⟨gb166, _, none⟩) NB168_166.out _).trans (((cell_far (p := ⟨gb166, _, none⟩) NB168_166.out _).trans (((cell_far (p := ⟨gb166, _, none⟩) NB168_166.out _).trans (((cell_far (p := ⟨gb166, _, none⟩) NB168_166.out _).trans (((cell_far (p := ⟨gb166, _, none⟩) NB168_166.out _).trans (((cell_far (p := ⟨gb166, _, none⟩) NB168_166.out _).trans (((cell_far (p := ⟨gb166, _, none⟩) NB168_166.out _).trans (((cell_far (p := ⟨gb166, _, none⟩) NB168_166.out _).trans (((cell_far (p := ⟨gb166, _, none⟩) NB168_166.out _).trans (((cell_far (p := ⟨gb166, _, none⟩) NB168_166.out _).trans (((cell_far (p := ⟨gb166, _, none⟩) NB168_166.out _).trans (((cell_far (p := ⟨gb166, _, none⟩) NB168_166.out _).trans (((cell_far (p := ⟨gb166, _, none⟩) NB168_166.out _).trans (((cell_far (p := ⟨gb166, _, none⟩) NB168_166.out _).trans (((cell_far (p := ⟨gb166, _, none⟩) NB168_166.out _).trans (hHeld.2.2.2.2.2.2.2.2.2.2.1)))))))))))))))))))))))))))))))), ((cell_far (p := ⟨gb166, _, none⟩) NB168_166.out _).trans (((cell_far (p := ⟨gb166, _, none⟩) NB168_166.out _).trans (((cell_far (p := ⟨gb166, _, none⟩) NB168_166.out _).trans (((cell_far (p := ⟨gb166, _, none⟩) NB168_166.out _).trans (((cell_far (p := ⟨gb166, _, none⟩) NB168_166.out _).trans (((cell_far (p := ⟨gb166, _, none⟩) NB168_166.out _).trans (((cell_far (p := ⟨gb166, _, none⟩) NB168_166.out _).trans (((cell_far (p := ⟨gb166, _, none⟩) NB168_166.out _).trans (((cell_far (p := ⟨gb166, _, none⟩) NB168_166.out _).trans (((cell_far (p := ⟨gb166, _, none⟩) NB168_166.out _).trans (((cell_far (p := ⟨gb166, _, none⟩) NB168_166.out _).trans (((cell_far (p := ⟨gb166, _, none⟩) NB168_166.out _).trans (((cell_far (p := ⟨gb166, _, none⟩) NB168_166.out _).trans (((cell_far (p := ⟨gb166, _, none⟩) NB168_166.out _).trans (((cell_far (p := ⟨gb166, _, none⟩) NB168_166.out _).trans (((cell_far (p := ⟨gb166, _, none⟩) NB168_166.out _).trans (hHeld.2.2.2.2.2.2.2.2.2.2.2.1)))))))))))))))))))))))))))))))), ((cell_far (p := ⟨gb166, _, none⟩) NB168_166.out _).trans (((cell_far (p := ⟨gb166, _, none⟩) NB168_166.out _).trans (((cell_far (p := ⟨gb166, _, none⟩) NB168_166.out _).trans (((cell_far (p := ⟨gb166, _, none⟩) NB168_166.out _).trans (((cell_far (p := ⟨gb166, _, none⟩) NB168_166.out _).trans (((cell_far (p := ⟨gb166, _, none⟩) NB168_166.out _).trans (((cell_far (p := ⟨gb166, _, none⟩) NB168_166.out _).trans (((cell_far (p := ⟨gb166, _, none⟩) NB168_166.out _).trans (((cell_far (p := ⟨gb166, _, none⟩) NB168_166.out _).trans (((cell_far (p := ⟨gb166, _, none⟩) NB168_166.out _).trans (((cell_far (p := ⟨gb166, _, none⟩) NB168_166.out _).trans (((cell_far (p := ⟨gb166, _, none⟩) NB168_166.out _).trans (((cell_far (p := ⟨gb166, _, none⟩) NB168_166.out _).trans (((cell_far (p := ⟨gb166, _, none⟩) NB168_166.out _).trans (((cell_far (p := ⟨gb166, _, none⟩) NB168_166.out _).trans (((cell_far (p := ⟨gb166, _, none⟩) NB168_166.out _).trans (hHeld.2.2.2.2.2.2.2.2.2.2.2.2.1)))))))))))))))))))))))))))))))), ((cell_far (p := ⟨gb166, _, none⟩) NB168_166.out _).trans (((cell_far (p := ⟨gb166, _, none⟩) NB168_166.out _).trans (((cell_far (p := ⟨gb166, _, none⟩) NB168_166.out _).trans (((cell_far (p := ⟨gb166, _, none⟩) NB168_166.out _).trans (((cell_far (p := ⟨gb166, _, none⟩) NB168_166.out _).trans (((cell_far (p := ⟨gb166, _, none⟩) NB168_166.out _).trans (((cell_far (p := ⟨gb166, _, none⟩) NB168_166.out _).trans (((cell_far (p := ⟨gb166, _, none⟩) NB168_166.out _).trans (((cell_far (p := ⟨gb166, _, none⟩) NB168_166.out _).trans (((cell_far (p := ⟨gb166, _, none⟩) NB168_166.out _).trans (((cell_far (p := ⟨gb166, _, none⟩) NB168_166.out _).trans (((cell_far (p := ⟨gb166, _, none⟩) NB168_166.out _).trans (((cell_far (p := ⟨gb166, _, none⟩) NB168_166.out _).trans (((cell_far (p := ⟨gb166, _, none⟩) NB168_166.out _).trans (((cell_far (p := ⟨gb166, _, none⟩) NB168_166.out _).trans (((cell_far (p := ⟨gb166, _, none⟩) NB168_166.out _).trans (hHeld.2.2.2.2.2.2.2.2.2.2.2.2.2.1)))))))))))))))))))))))))))))))), ((cell_far (p := ⟨gb166, _, none⟩) NB168_166.out _).trans (((cell_far (p := ⟨gb166, _, none⟩) NB168_166.out _).trans (((cell_far (p := ⟨gb166, _, none⟩) NB168_166.out _).trans (((cell_far (p := ⟨gb166, _, none⟩) NB168_166.out _).trans (((cell_far (p := ⟨gb166, _, none⟩) NB168_166.out _).trans (((cell_far (p := ⟨gb166, _, none⟩) NB168_166.out _).trans (((cell_far (p := ⟨gb166, _, none⟩) NB168_166.out _).trans (((cell_far (p := ⟨gb166, _, none⟩) NB168_166.out _).trans (((cell_far (p := ⟨gb166, _, none⟩) NB168_166.out _).trans (((cell_far (p := ⟨gb166, _, none⟩) NB168_166.out _).trans (((cell_far (p := ⟨gb166, _, none⟩) NB168_166.out _).trans (((cell_far (p := ⟨gb166, _, none⟩) NB168_166.out _).trans (((cell_far (p := ⟨gb166, _, none⟩) NB168_166.out _).trans (((cell_far (p := ⟨gb166, _, none⟩) NB168_166.out _).trans (((cell_far (p := ⟨gb166, _, none⟩) NB168_166.out _).trans (((cell_far (p := ⟨gb166, _, none⟩) NB168_166.out _).trans (hHeld.2.2.2.2.2.2.2.2.2.2.2.2.2.2.1)))))))))))))))))))))))))))))))), ((cell_far (p := ⟨gb166, _, none⟩) NB168_166.out _).trans (((cell_far (p := ⟨gb166, _, none⟩) NB168_166.out _).trans (((cell_far (p := ⟨gb166, _, none⟩) NB168_166.out _).trans (((cell_far (p := ⟨gb166, _, none⟩) NB168_166.out _).trans (((cell_far (p := ⟨gb166, _, none⟩) NB168_166.out _).trans (((cell_far (p := ⟨gb166, _, none⟩) NB168_166.out _).trans (((cell_far (p := ⟨gb166, _, none⟩) NB168_166.out _).trans (((cell_far (p := ⟨gb166, _, none⟩) NB168_166.out _).trans (((cell_far (p := ⟨gb166, _, none⟩) NB168_166.out _).trans (((cell_far (p := ⟨gb166, _, none⟩) NB168_166.out _).trans (((cell_far (p := ⟨gb166, _, none⟩) NB168_166.out _).trans (((cell_far (p := ⟨gb166, _, none⟩) NB168_166.out _).trans (((cell_far (p := ⟨gb166, _, none⟩) NB168_166.out _).trans (((cell_far (p := ⟨gb166, _, none⟩) NB168_166.out _).trans (((cell_far (p := ⟨gb166, _, none⟩) NB168_166.out _).trans (((cell_far (p := ⟨gb166, _, none⟩) NB168_166.out _).trans (hHeld.2.2.2.2.2.2.2.2.2.2.2.2.2.2.2.1)))))))))))))))))))))))))))))))), ((cell_far (p := ⟨gb166, _, none⟩) NB168_166.out _).trans (((cell_far (p := ⟨gb166, _, none⟩) NB168_166.out _).trans (((cell_far (p := ⟨gb166, _, none⟩) NB168_166.out _).trans (((cell_far (p := ⟨gb166, _, none⟩) NB168_166.out _).trans (((cell_far (p := ⟨gb166, _, none⟩) NB168_166.out _).trans (((cell_far (p := ⟨gb166, _, none⟩) NB168_166.out _).trans (((cell_far (p := ⟨gb166, _, none⟩) NB168_166.out _).trans (((cell_far (p := ⟨gb166, _, none⟩) NB168_166.out _).trans (((cell_far (p := ⟨gb166, _, none⟩) NB168_166.out _).trans (((cell_far (p := ⟨gb166, _, none⟩) NB168_166.out _).trans (((cell_far (p := ⟨gb166, _, none⟩) NB168_166.out _).trans (((cell_far (p := ⟨gb166, _, none⟩) NB168_166.out _).trans (((cell_far (p := ⟨gb166, _, none⟩) NB168_166.out _).trans (((cell_far (p := ⟨gb166, _, none⟩) NB168_166.out _).trans (((cell_far (p := ⟨gb166, _, none⟩) NB168_166.out _).trans (((cell_far (p := ⟨gb166, _, none⟩) NB168_166.out _).trans (hHeld.2.2.2.2.2.2.2.2.2.2.2.2.2.2.2.2.1)))))))))))))))))))))))))))))))), ((cell_far (p := ⟨gb166, _, none⟩) NB168_166.out _).trans (((cell_far (p := ⟨gb166, _, none⟩) NB168_166.out _).trans (((cell_far (p := ⟨gb166, _, none⟩) NB168_166.out _).trans (((cell_far (p := ⟨gb166, _, none⟩) NB168_166.out _).trans (((cell_far (p := ⟨gb166, _, none⟩) NB168_166.out _).trans (((cell_far (p := ⟨gb166, _, none⟩) NB168_166.out _).trans (((cell_far (p := ⟨gb166, _, none⟩) NB168_166.out _).trans (((cell_far (p := ⟨gb166, _, none⟩) NB168_166.out _).trans (((cell_far (p := ⟨gb166, _, none⟩) NB168_166.out _).trans (((cell_far (p := ⟨gb166, _, none⟩) NB168_166.out _).trans (((cell_far (p := ⟨gb166, _, none⟩) NB168_166.out _).trans (((cell_far (p := ⟨gb166, _, none⟩) NB168_166.out _).trans (((cell_far (p := ⟨gb166, _, none⟩) NB168_166.out _).trans (((cell_far (p := ⟨gb166, _, none⟩) NB168_166.out _).trans (((cell_far (p := ⟨gb166, _, none⟩) NB168_166.out _).trans (((cell_far (p := ⟨gb166, _, none⟩) NB168_166.out _).trans (hHeld.2.2.2.2.2.2.2.2.2.2.2.2.2.2.2.2.2.1)))))))))))))))))))))))))))))))), ((cell_far (p := ⟨gb166, _, none⟩) NB168_166.out _).trans (((cell_far (p := ⟨gb166, _, none⟩) NB168_166.out _).trans (((cell_far (p := ⟨gb166, _, none⟩) NB168_166.out _).trans (((cell_far (p := ⟨gb166, _, none⟩) NB168_166.out _).trans (((cell_far (p := ⟨gb166, _, none⟩) NB168_166.out _).trans (((cell_far (p := ⟨gb166, _, none⟩) NB168_166.out _).trans (((cell_far (p := ⟨gb166, _, none⟩) NB168_166.out _).trans (((cell_far (p := ⟨gb166, _, none⟩) NB168_166.out _).trans (((cell_far (p := ⟨gb166, _, none⟩) NB168_166.out _).trans (((cell_far (p := ⟨gb166, _, none⟩) NB168_166.out _).trans (((cell_far (p := ⟨gb166, _, none⟩) NB168_166.out _).trans (((cell_far (p := ⟨gb166, _, none⟩) NB168_166.out _).trans (((cell_far (p := ⟨gb166, _, none⟩) NB168_166.out _).trans (((cell_far (p := ⟨gb166, _, none⟩) NB168_166.out _).trans (((cell_far (p := ⟨gb166, _, none⟩) NB168_166.out _).trans (((cell_far (p := ⟨gb166, _, none⟩) NB168_166.out _).trans (hHeld.2.2.2.2.2.2.2.2.2.2.2.2.2.2.2.2.2.2.1)))))))))))))))))))))))))))))))), ((cell_far (p := ⟨gb166, _, none⟩) NB168_166.out _).trans (((cell_far (p := ⟨gb166, _, none⟩) NB168_166.out _).trans (((cell_far (p := ⟨gb166, _, none⟩) NB168_166.out _).trans (((cell_far (p := ⟨gb166, _, none⟩) NB168_166.out _).trans (((cell_far (p := ⟨gb166, _, none⟩) NB168_166.out _).trans (((cell_far (p := ⟨gb166, _, none⟩) NB168_166.out _).trans (((cell_far (p := ⟨gb166, _, none⟩) NB168_166.out _).trans (((cell_far (p := ⟨gb166, _, none⟩) NB168_166.out _).trans (((cell_far (p := ⟨gb166, _, none⟩) NB168_166.out _).trans (((cell_far (p := ⟨gb166, _, none⟩) NB168_166.out _).trans (((cell_far (p := ⟨gb166, _, none⟩) NB168_166.out _).trans (((cell_far (p := ⟨gb166, _, none⟩) NB168_166.out _).trans (((cell_far (p := ⟨gb166, _, none⟩) NB168_166.out _).trans (((cell_far (p := ⟨gb166, _, none⟩) NB168_166.out _).trans (((cell_far (p := ⟨gb166, _, none⟩) NB168_166.out _).trans (((cell_far (p := ⟨gb166, _, none⟩) NB168_166.out _).trans (hHeld.2.2.2.2.2.2.2.2.2.2.2.2.2.2.2.2.2.2.2))))))))))))))))))))))))))))))))⟩ (fun hHeld => ?_)
       clear hK K
       refine done_ (by kernel_rfl) ?_
       try go_wp2
       refine bodyPost_ret (results_cc rfl _ _ gb165 gb166 22 36 #[.int .i64 x168000_2, .int .i64 x168001_2, .int .i64 x168002_2, .int .i64 x168003_2] #[.bool x169000_2, .bool x169001_2, .bool x169002_2, .bool x169003_2, .bool x169004_2, .bool x169005_2, .bool x169006_2, .bool x169007_2, .bool x169008_2, .bool x169009_2, .bool x169010_2, .bool x169011_2, .bool x169012_2, .bool x169013_2, .bool x169014_2, .bool x169015_2] (0, 0) (0, 0) _ _ rfl (by (with_reducible repeat (first | refine blk_drewN ?_ _ | refine blk_drew ?_ | refine blk_alloc ?_ _)); refine blk_far ?_ NB165_166.out _; (with_reducible repeat (first | refine blk_drewN ?_ _ | refine blk_drew ?_ | refine blk_alloc ?_ _)); refine blk_far ?_ NB165_166.out _; (with_reducible repeat (first | refine blk_drewN ?_ _ | refine blk_drew ?_ | refine blk_alloc ?_ _)); refine blk_far ?_ NB165_166.out _; (with_reducible repeat (first | refine blk_drewN ?_ _ | refine blk_drew ?_ | refine blk_alloc ?_ _)); refine blk_far ?_ NB165_166.out _; (with_reducible repeat (first | refine blk_drewN ?_ _ | refine blk_drew ?_ | refine blk_alloc ?_ _)); refine blk_far ?_ NB165_166.out _; (with_reducible repeat (first | refine blk_drewN ?_ _ | refine blk_drew ?_ | refine blk_alloc ?_ _)); refine blk_far ?_ NB165_166.out _; (with_reducible repeat (first | refine blk_drewN ?_ _ | refine blk_drew ?_ | refine blk_alloc ?_ _)); refine blk_far ?_ NB165_166.out _; (with_reducible repeat (first | refine blk_drewN ?_ _ | refine blk_drew ?_ | refine blk_alloc ?_ _)); refine blk_far ?_ NB165_166.out _; (with_reducible repeat (first | refine blk_drewN ?_ _ | refine blk_drew ?_ | refine blk_alloc ?_ _)); refine blk_far ?_ NB165_166.out _; (with_reducible repeat (first | refine blk_drewN ?_ _ | refine blk_drew ?_ | refine blk_alloc ?_ _)); refine blk_far ?_ NB165_166.out _; (with_reducible repeat (first | refine blk_drewN ?_ _ | refine blk_drew ?_ | refine blk_alloc ?_ _)); refine blk_far ?_ NB165_166.out _; (with_reducible repeat (first | refine blk_drewN ?_ _ | refine blk_drew ?_ | refine blk_alloc ?_ _)); refine blk_far ?_ NB165_166.out _; (with_reducible repeat (first | refine blk_drewN ?_ _ | refine blk_drew ?_ | refine blk_alloc ?_ _)); refine blk_far ?_ NB165_166.out _; (with_reducible repeat (first | refine blk_drewN ?_ _ | refine blk_drew ?_ | refine blk_alloc ?_ _)); refine blk_far ?_ NB165_166.out _; (with_reducible repeat (first | refine blk_drewN ?_ _ | refine blk_drew ?_ | refine blk_alloc ?_ _)); refine blk_far ?_ NB165_166.out _; (with_reducible repeat (first | refine blk_drewN ?_ _ | refine blk_drew ?_ | refine blk_alloc ?_ _)); refine blk_far ?_ NB165_166.out _; (with_reducible repeat (first | refine blk_drewN ?_ _ | refine blk_drew ?_ | refine blk_alloc ?_ _)); refine blk_put (cs := #[.int .i64 x168000_2, .int .i64 x168001_2, .int .i64 x168002_2, .int .i64 0]) ?_ 3 _ rfl; (with_reducible repeat (first | refine blk_drewN ?_ _ | refine blk_drew ?_ | refine blk_alloc ?_ _)); refine blk_put (cs := #[.int .i64 x168000_2, .int .i64 x168001_2, .int .i64 0, .int .i64 0]) ?_ 2 _ rfl; (with_reducible repeat (first | refine blk_drewN ?_ _ | refine blk_drew ?_ | refine blk_alloc ?_ _)); refine blk_put (cs := #[.int .i64 x168000_2, .int .i64 0, .int .i64 0, .int .i64 0]) ?_ 1 _ rfl; (with_reducible repeat (first | refine blk_drewN ?_ _ | refine blk_drew ?_ | refine blk_alloc ?_ _)); refine blk_put (cs := #[.int .i64 0, .int .i64 0, .int .i64 0, .int .i64 0]) ?_ 0 _ rfl; (with_reducible repeat (first | refine blk_drewN ?_ _ | refine blk_drew ?_ | refine blk_alloc ?_ _)); exact BK165.out) Try.underlying22 rfl (by kernel_rfl) rfl (by (with_reducible repeat (first | refine blk_drewN ?_ _ | refine blk_drew ?_ | refine blk_alloc ?_ _)); refine blk_put (cs := #[.bool x169000_2, .bool x169001_2, .bool x169002_2, .bool x169003_2, .bool x169004_2, .bool x169005_2, .bool x169006_2, .bool x169007_2, .bool x169008_2, .bool x169009_2, .bool x169010_2, .bool x169011_2, .bool x169012_2, .bool x169013_2, .bool x169014_2, .bool false]) ?_ 15 _ rfl; (with_reducible repeat (first | refine blk_drewN ?_ _ | refine blk_drew ?_ | refine blk_alloc ?_ _)); refine blk_put (cs := #[.bool x169000_2, .bool x169001_2, .bool x169002_2, .bool x169003_2, .bool x169004_2, .bool x169005_2, .bool x169006_2, .bool x169007_2, .bool x169008_2, .bool x169009_2, .bool x169010_2, .bool x169011_2, .bool x169012_2, .bool x169013_2, .bool false, .bool false]) ?_ 14 _ rfl; (with_reducible repeat (first | refine blk_drewN ?_ _ | refine blk_drew ?_ | refine blk_alloc ?_ _)); refine blk_put (cs := #[.bool x169000_2, .bool x169001_2, .bool x169002_2, .bool x169003_2, .bool x169004_2, .bool x169005_2, .bool x169006_2, .bool x169007_2, .bool x169008_2, .bool x169009_2, .bool x169010_2, .bool x169011_2, .bool x169012_2, .bool false, .bool false, .bool false]) ?_ 13 _ rfl; (with_reducible repeat (first | refine blk_drewN ?_ _ | refine blk_drew ?_ | refine blk_alloc ?_ _)); refine blk_put (cs := #[.bool x169000_2, .bool x169001_2, .bool x169002_2, .bool x169003_2, .bool x169004_2, .bool x169005_2, .bool x169006_2, .bool x169007_2, .bool x169008_2, .bool x169009_2, .bool x169010_2, .bool x169011_2, .bool false, .bool false, .bool false, .bool false]) ?_ 12 _ rfl; (with_reducible repeat (first | refine blk_drewN ?_ _ | refine blk_drew ?_ | refine blk_alloc ?_ _)); refine blk_put (cs := #[.bool x169000_2, .bool x169001_2, .bool x169002_2, .bool x169003_2, .bool x169004_2, .bool x169005_2, .bool x169006_2, .bool x169007_2, .bool x169008_2, .bool x169009_2, .bool x169010_2, .bool false, .bool false, .bool false, .bool false, .bool false]) ?_ 11 _ rfl; (with_reducible repeat (first | refine blk_drewN ?_ _ | refine blk_drew ?_ | refine blk_alloc ?_ _)); refine blk_put (cs := #[.bool x169000_2, .bool x169001_2, .bool x169002_2, .bool x169003_2, .bool x169004_2, .bool x169005_2, .bool x169006_2, .bool x169007_2, .bool x169008_2, .bool x169009_2, .bool false, .bool false, .bool false, .bool false, .bool false, .bool false]) ?_ 10 _ rfl; (with_reducible repeat (first | refine blk_drewN ?_ _ | refine blk_drew ?_ | refine blk_alloc ?_ _)); refine blk_put (cs := #[.bool x169000_2, .bool x169001_2, .bool x169002_2, .bool x169003_2, .bool x169004_2, .bool x169005_2, .bool x169006_2, .bool x169007_2, .bool x169008_2, .bool false, .bool false, .bool false, .bool false, .bool false, .bool false, .bool false]) ?_ 9 _ rfl; (with_reducible repeat (first | refine blk_drewN ?_ _ | refine blk_drew ?_ | refine blk_alloc ?_ _)); refine blk_put (cs := #[.bool x169000_2, .bool x169001_2, .bool x169002_2, .bool x169003_2, .bool x169004_2, .bool x169005_2, .bool x169006_2, .bool x169007_2, .bool false, .bool false, .bool false, .bool false, .bool false, .bool false, .bool false, .bool false]) ?_ 8 _ rfl; (with_reducible repeat (first | refine blk_drewN ?_ _ | refine blk_drew ?_ | refine blk_alloc ?_ _)); refine blk_put (cs := #[.bool x169000_2, .bool x169001_2, .bool x169002_2, .bool x169003_2, .bool x169004_2, .bool x169005_2, .bool x169006_2, .bool false, .bool false, .bool false, .bool false, .bool false, .bool false, .bool false, .bool false, .bool false]) ?_ 7 _ rfl; (with_reducible repeat (first | refine blk_drewN ?_ _ | refine blk_drew ?_ | refine blk_alloc ?_ _)); refine blk_put (cs := #[.bool x169000_2, .bool x169001_2, .bool x169002_2, .bool x169003_2, .bool x169004_2, .bool x169005_2, .bool false, .bool false, .bool false, .bool false, .bool false, .bool false, .bool false, .bool false, .bool false, .bool false]) ?_ 6 _ rfl; (with_reducible repeat (first | refine blk_drewN ?_ _ | refine blk_drew ?_ | refine blk_alloc ?_ _)); refine blk_put (cs := #[.bool x169000_2, .bool x169001_2, .bool x169002_2, .bool x169003_2, .bool x169004_2, .bool false, .bool false, .bool false, .bool false, .bool false, .bool false, .bool false, .bool false, .bool false, .bool false, .bool false]) ?_ 5 _ rfl; (with_reducible repeat (first | refine blk_drewN ?_ _ | refine blk_drew ?_ | refine blk_alloc ?_ _)); refine blk_put (cs := #[.bool x169000_2, .bool x169001_2, .bool x169002_2, .bool x169003_2, .bool false, .bool false, .bool false, .bool false, .bool false, .bool false, .bool false, .bool false, .bool false, .bool false, .bool false, .bool false]) ?_ 4 _ rfl; (with_reducible repeat (first | refine blk_drewN ?_ _ | refine blk_drew ?_ | refine blk_alloc ?_ _)); refine blk_put (cs := #[.bool x169000_2, .bool x169001_2, .bool x169002_2, .bool false, .bool false, .bool false, .bool false, .bool false, .bool false, .bool false, .bool false, .bool false, .bool false, .bool false, .bool false, .bool false]) ?_ 3 _ rfl; (with_reducible repeat (first | refine blk_drewN ?_ _ | refine blk_drew ?_ | refine blk_alloc ?_ _)); refine blk_put (cs := #[.bool x169000_2, .bool x169001_2, .bool false, .bool false, .bool false, .bool false, .bool false, .bool false, .bool false, .bool false, .bool false, .bool false, .bool false, .bool false, .bool false, .bool false]) ?_ 2 _ rfl; (with_reducible repeat (first | refine blk_drewN ?_ _ | refine blk_drew ?_ | refine blk_alloc ?_ _)); refine blk_put (cs := #[.bool x169000_2, .bool false, .bool false, .bool false, .bool false, .bool false, .bool false, .bool false, .bool false, .bool false, .bool false, .bool false, .bool false, .bool false, .bool false, .bool false]) ?_ 1 _ rfl; (with_reducible repeat (first | refine blk_drewN ?_ _ | refine blk_drew ?_ | refine blk_alloc ?_ _)); refine blk_put (cs := #[.bool false, .bool false, .bool false, .bool false, .bool false, .bool false, .bool false, .bool false, .bool false, .bool false, .bool false, .bool false, .bool false, .bool false, .bool false, .bool false]) ?_ 0 _ rfl; (with_reducible repeat (first | refine blk_drewN ?_ _ | refine blk_drew ?_ | refine blk_alloc ?_ _)); refine blk_far ?_ NB166_165.out _; (with_reducible repeat (first | refine blk_drewN ?_ _ | refine blk_drew ?_ | refine blk_alloc ?_ _)); refine blk_far ?_ NB166_165.out _; (with_reducible repeat (first | refine blk_drewN ?_ _ | refine blk_drew ?_ | refine blk_alloc ?_ _)); refine blk_far ?_ NB166_165.out _; (with_reducible repeat (first | refine blk_drewN ?_ _ | refine blk_drew ?_ | refine blk_alloc ?_ _)); refine blk_far ?_ NB166_165.out _; (with_reducible repeat (first | refine blk_drewN ?_ _ | refine blk_drew ?_ | refine blk_alloc ?_ _)); exact BK166.out) Try.underlying36 rfl (by kernel_rfl)) rfl ?_
       exact ⟨by first | rfl | (simp [errW_none, errW_some] <;> rfl) | (simp [*, errW_none, errW_some] <;> rfl), by repeat (first | (with_reducible first | exact HB.out | apply below_alloc | apply pw_below_drewN | apply below_drew1 | refine below_set ?_ GE164.out | refine below_set ?_ GE165.out | refine below_set ?_ GE166.out | refine below_set ?_ GE167.out | refine below_set ?_ GE168.out) | exact HB.out)⟩

end Go.Proofs.Ytjbejbehbjhecaa.Q21n
