/- Written by a program of this session out of the print of the loaded functions: each Go function as a plain function, and that its call comes to it; for a law, the row out of its plain statement. -/
import Derived.Test.YtjbejbehbjhecaaQ21x0
import Derived.Test.YtjbejbehbjhecaaQ21x136
namespace Go.Proofs.Ytjbejbehbjhecaa.Q21
open Go.RowKit Go.Proofs.YtjbejbehbjhecaaW.PrintWords Go.Proofs.YtjbejbehbjhecaaW.PrintLast Go.Proofs.YtjbejbehbjhecaaW.PrintMore
attribute [local go_sem] max2_int min2_int max_two min_two max_three min_three max_four min_four   -- for this text's walks alone
set_option linter.unusedVariables false
set_option linter.unusedSimpArgs false

/-! ### paths_sums: function 28 -/
mutual
def paths_sums.l0 : Nat → Int → Int → Int → Int → Int → Int → Int → Int → Int → Int → Int → Int → Int → Int → Int → Int → Int → Int → Int → Int → Int → Int → Int → Int → Int → Int → Int → Int → Int → Int → Int → Int → Int → Option (Int × Int × Int × Int × Int × Int × Int × Int × Int × Int × Int × Int × Int × Int × Int × Int)
 | 0, _, _, _, _, _, _, _, _, _, _, _, _, _, _, _, _, _, _, _, _, _, _, _, _, _, _, _, _, _, _, _, _, _ => none
 | k + 1, x9, x104000, x104001, x104002, x104003, x104004, x104005, x104006, x104007, x104008, x104009, x104010, x104011, x104012, x104013, x104014, x104015, x106000, x106001, x106002, x106003, x106004, x106005, x106006, x106007, x106008, x106009, x106010, x106011, x106012, x106013, x106014, x106015 => if x9 < 4 then (paths_sums.l1 k x9 x9 0 x104000 x104001 x104002 x104003 x104004 x104005 x104006 x104007 x104008 x104009 x104010 x104011 x104012 x104013 x104014 x104015 x106000 x106001 x106002 x106003 x106004 x106005 x106006 x106007 x106008 x106009 x106010 x106011 x106012 x106013 x106014 x106015) else (paths_sums.l2 k 0 x106000 x106001 x106002 x106003 x106004 x106005 x106006 x106007 x106008 x106009 x106010 x106011 x106012 x106013 x106014 x106015)
def paths_sums.l1 : Nat → Int → Int → Int → Int → Int → Int → Int → Int → Int → Int → Int → Int → Int → Int → Int → Int → Int → Int → Int → Int → Int → Int → Int → Int → Int → Int → Int → Int → Int → Int → Int → Int → Int → Int → Int → Option (Int × Int × Int × Int × Int × Int × Int × Int × Int × Int × Int × Int × Int × Int × Int × Int)
 | 0, _, _, _, _, _, _, _, _, _, _, _, _, _, _, _, _, _, _, _, _, _, _, _, _, _, _, _, _, _, _, _, _, _, _, _ => none
 | k + 1, x4, x9, x12, x104000, x104001, x104002, x104003, x104004, x104005, x104006, x104007, x104008, x104009, x104010, x104011, x104012, x104013, x104014, x104015, x106000, x106001, x106002, x106003, x106004, x106005, x106006, x106007, x106008, x106009, x106010, x106011, x106012, x106013, x106014, x106015 => if x12 < 4 then (if x4 = x12 then (paths_sums.l1 k x4 x9 (wrap64 (x12 + 1)) x104000 x104001 x104002 x104003 x104004 x104005 x104006 x104007 x104008 x104009 x104010 x104011 x104012 x104013 x104014 x104015 x106000 x106001 x106002 x106003 x106004 x106005 x106006 x106007 x106008 x106009 x106010 x106011 x106012 x106013 x106014 x106015) else (if 0 ≤ x4 then (if x4 < 4 then (if 0 ≤ x12 then ((paths_step.f (ix4 (ix4 x104000 x104001 x104002 x104003 x12) (ix4 x104004 x104005 x104006 x104007 x12) (ix4 x104008 x104009 x104010 x104011 x12) (ix4 x104012 x104013 x104014 x104015 x12) x4)).bind fun t106 => (paths_sums.l1 k x4 x9 (wrap64 (x12 + 1)) x104000 x104001 x104002 x104003 x104004 x104005 x104006 x104007 x104008 x104009 x104010 x104011 x104012 x104013 x104014 x104015 (up (x4 == 0 && x12 == 0) t106 x106000) (up (x4 == 0 && x12 == 1) t106 x106001) (up (x4 == 0 && x12 == 2) t106 x106002) (up (x4 == 0 && x12 == 3) t106 x106003) (up (x4 == 1 && x12 == 0) t106 x106004) (up (x4 == 1 && x12 == 1) t106 x106005) (up (x4 == 1 && x12 == 2) t106 x106006) (up (x4 == 1 && x12 == 3) t106 x106007) (up (x4 == 2 && x12 == 0) t106 x106008) (up (x4 == 2 && x12 == 1) t106 x106009) (up (x4 == 2 && x12 == 2) t106 x106010) (up (x4 == 2 && x12 == 3) t106 x106011) (up (x4 == 3 && x12 == 0) t106 x106012) (up (x4 == 3 && x12 == 1) t106 x106013) (up (x4 == 3 && x12 == 2) t106 x106014) (up (x4 == 3 && x12 == 3) t106 x106015))) else (none)) else (none)) else (none))) else (paths_sums.l0 k (wrap64 (x9 + 1)) x104000 x104001 x104002 x104003 x104004 x104005 x104006 x104007 x104008 x104009 x104010 x104011 x104012 x104013 x104014 x104015 x106000 x106001 x106002 x106003 x106004 x106005 x106006 x106007 x106008 x106009 x106010 x106011 x106012 x106013 x106014 x106015)
def paths_sums.l2 : Nat → Int → Int → Int → Int → Int → Int → Int → Int → Int → Int → Int → Int → Int → Int → Int → Int → Int → Option (Int × Int × Int × Int × Int × Int × Int × Int × Int × Int × Int × Int × Int × Int × Int × Int)
 | 0, _, _, _, _, _, _, _, _, _, _, _, _, _, _, _, _, _ => none
 | k + 1, x32, x106000, x106001, x106002, x106003, x106004, x106005, x106006, x106007, x106008, x106009, x106010, x106011, x106012, x106013, x106014, x106015 => if x32 < 4 then (paths_sums.l3 k x32 x32 0 x106000 x106001 x106002 x106003 x106004 x106005 x106006 x106007 x106008 x106009 x106010 x106011 x106012 x106013 x106014 x106015) else (some (x106000, x106001, x106002, x106003, x106004, x106005, x106006, x106007, x106008, x106009, x106010, x106011, x106012, x106013, x106014, x106015))
def paths_sums.l3 : Nat → Int → Int → Int → Int → Int → Int → Int → Int → Int → Int → Int → Int → Int → Int → Int → Int → Int → Int → Int → Option (Int × Int × Int × Int × Int × Int × Int × Int × Int × Int × Int × Int × Int × Int × Int × Int)
 | 0, _, _, _, _, _, _, _, _, _, _, _, _, _, _, _, _, _, _, _ => none
 | k + 1, x6, x32, x35, x106000, x106001, x106002, x106003, x106004, x106005, x106006, x106007, x106008, x106009, x106010, x106011, x106012, x106013, x106014, x106015 => if x35 < 4 then (paths_sums.l4 k x6 x35 x32 x35 0 x106000 x106001 x106002 x106003 x106004 x106005 x106006 x106007 x106008 x106009 x106010 x106011 x106012 x106013 x106014 x106015) else (paths_sums.l2 k (wrap64 (x32 + 1)) x106000 x106001 x106002 x106003 x106004 x106005 x106006 x106007 x106008 x106009 x106010 x106011 x106012 x106013 x106014 x106015)
def paths_sums.l4 : Nat → Int → Int → Int → Int → Int → Int → Int → Int → Int → Int → Int → Int → Int → Int → Int → Int → Int → Int → Int → Int → Int → Option (Int × Int × Int × Int × Int × Int × Int × Int × Int × Int × Int × Int × Int × Int × Int × Int)
 | 0, _, _, _, _, _, _, _, _, _, _, _, _, _, _, _, _, _, _, _, _, _ => none
 | k + 1, x6, x7, x32, x35, x38, x106000, x106001, x106002, x106003, x106004, x106005, x106006, x106007, x106008, x106009, x106010, x106011, x106012, x106013, x106014, x106015 => if x38 < 4 then (if 0 ≤ x7 then (if x7 < 4 then (if 0 ≤ x38 then (if 0 ≤ x6 then (if x6 < 4 then (paths_sums.l4 k x6 x7 x32 x35 (wrap64 (x38 + 1)) (up (x7 == 0 && x38 == 0) (mn (ix4 (ix4 x106000 x106001 x106002 x106003 x38) (ix4 x106004 x106005 x106006 x106007 x38) (ix4 x106008 x106009 x106010 x106011 x38) (ix4 x106012 x106013 x106014 x106015 x38) x7) (wrap64 ((ix4 (ix4 x106000 x106001 x106002 x106003 x6) (ix4 x106004 x106005 x106006 x106007 x6) (ix4 x106008 x106009 x106010 x106011 x6) (ix4 x106012 x106013 x106014 x106015 x6) x7) + (ix4 (ix4 x106000 x106001 x106002 x106003 x38) (ix4 x106004 x106005 x106006 x106007 x38) (ix4 x106008 x106009 x106010 x106011 x38) (ix4 x106012 x106013 x106014 x106015 x38) x6)))) x106000) (up (x7 == 0 && x38 == 1) (mn (ix4 (ix4 x106000 x106001 x106002 x106003 x38) (ix4 x106004 x106005 x106006 x106007 x38) (ix4 x106008 x106009 x106010 x106011 x38) (ix4 x106012 x106013 x106014 x106015 x38) x7) (wrap64 ((ix4 (ix4 x106000 x106001 x106002 x106003 x6) (ix4 x106004 x106005 x106006 x106007 x6) (ix4 x106008 x106009 x106010 x106011 x6) (ix4 x106012 x106013 x106014 x106015 x6) x7) + (ix4 (ix4 x106000 x106001 x106002 x106003 x38) (ix4 x106004 x106005 x106006 x106007 x38) (ix4 x106008 x106009 x106010 x106011 x38) (ix4 x106012 x106013 x106014 x106015 x38) x6)))) x106001) (up (x7 == 0 && x38 == 2) (mn (ix4 (ix4 x106000 x106001 x106002 x106003 x38) (ix4 x106004 x106005 x106006 x106007 x38) (ix4 x106008 x106009 x106010 x106011 x38) (ix4 x106012 x106013 x106014 x106015 x38) x7) (wrap64 ((ix4 (ix4 x106000 x106001 x106002 x106003 x6) (ix4 x106004 x106005 x106006 x106007 x6) (ix4 x106008 x106009 x106010 x106011 x6) (ix4 x106012 x106013 x106014 x106015 x6) x7) + (ix4 (ix4 x106000 x106001 x106002 x106003 x38) (ix4 x106004 x106005 x106006 x106007 x38) (ix4 x106008 x106009 x106010 x106011 x38) (ix4 x106012 x106013 x106014 x106015 x38) x6)))) x106002) (up (x7 == 0 && x38 == 3) (mn (ix4 (ix4 x106000 x106001 x106002 x106003 x38) (ix4 x106004 x106005 x106006 x106007 x38) (ix4 x106008 x106009 x106010 x106011 x38) (ix4 x106012 x106013 x106014 x106015 x38) x7) (wrap64 ((ix4 (ix4 x106000 x106001 x106002 x106003 x6) (ix4 x106004 x106005 x106006 x106007 x6) (ix4 x106008 x106009 x106010 x106011 x6) (ix4 x106012 x106013 x106014 x106015 x6) x7) + (ix4 (ix4 x106000 x106001 x106002 x106003 x38) (ix4 x106004 x106005 x106006 x106007 x38) (ix4 x106008 x106009 x106010 x106011 x38) (ix4 x106012 x106013 x106014 x106015 x38) x6)))) x106003) (up (x7 == 1 && x38 == 0) (mn (ix4 (ix4 x106000 x106001 x106002 x106003 x38) (ix4 x106004 x106005 x106006 x106007 x38) (ix4 x106008 x106009 x106010 x106011 x38) (ix4 x106012 x106013 x106014 x106015 x38) x7) (wrap64 ((ix4 (ix4 x106000 x106001 x106002 x106003 x6) (ix4 x106004 x106005 x106006 x106007 x6) (ix4 x106008 x106009 x106010 x106011 x6) (ix4 x106012 x106013 x106014 x106015 x6) x7) + (ix4 (ix4 x106000 x106001 x106002 x106003 x38) (ix4 x106004 x106005 x106006 x106007 x38) (ix4 x106008 x106009 x106010 x106011 x38) (ix4 x106012 x106013 x106014 x106015 x38) x6)))) x106004) (up (x7 == 1 && x38 == 1) (mn (ix4 (ix4 x106000 x106001 x106002 x106003 x38) (ix4 x106004 x106005 x106006 x106007 x38) (ix4 x106008 x106009 x106010 x106011 x38) (ix4 x106012 x106013 x106014 x106015 x38) x7) (wrap64 ((ix4 (ix4 x106000 x106001 x106002 x106003 x6) (ix4 x106004 x106005 x106006 x106007 x6) (ix4 x106008 x106009 x106010 x106011 x6) (ix4 x106012 x106013 x106014 x106015 x6) x7) + (ix4 (ix4 x106000 x106001 x106002 x106003 x38) (ix4 x106004 x106005 x106006 x106007 x38) (ix4 x106008 x106009 x106010 x106011 x38) (ix4 x106012 x106013 x106014 x106015 x38) x6)))) x106005) (up (x7 == 1 && x38 == 2) (mn (ix4 (ix4 x106000 x106001 x106002 x106003 x38) (ix4 x106004 x106005 x106006 x106007 x38) (ix4 x106008 x106009 x106010 x106011 x38) (ix4 x106012 x106013 x106014 x106015 x38) x7) (wrap64 ((ix4 (ix4 x106000 x106001 x106002 x106003 x6) (ix4 x106004 x106005 x106006 x106007 x6) (ix4 x106008 x106009 x106010 x106011 x6) (ix4 x106012 x106013 x106014 x106015 x6) x7) + (ix4 (ix4 x106000 x106001 x106002 x106003 x38) (ix4 x106004 x106005 x106006 x106007 x38) (ix4 x106008 x106009 x106010 x106011 x38) (ix4 x106012 x106013 x106014 x106015 x38) x6)))) x106006) (up (x7 == 1 && x38 == 3) (mn (ix4 (ix4 x106000 x106001 x106002 x106003 x38) (ix4 x106004 x106005 x106006 x106007 x38) (ix4 x106008 x106009 x106010 x106011 x38) (ix4 x106012 x106013 x106014 x106015 x38) x7) (wrap64 ((ix4 (ix4 x106000 x106001 x106002 x106003 x6) (ix4 x106004 x106005 x106006 x106007 x6) (ix4 x106008 x106009 x106010 x106011 x6) (ix4 x106012 x106013 x106014 x106015 x6) x7) + (ix4 (ix4 x106000 x106001 x106002 x106003 x38) (ix4 x106004 x106005 x106006 x106007 x38) (ix4 x106008 x106009 x106010 x106011 x38) (ix4 x106012 x106013 x106014 x106015 x38) x6)))) x106007) (up (x7 == 2 && x38 == 0) (mn (ix4 (ix4 x106000 x106001 x106002 x106003 x38) (ix4 x106004 x106005 x106006 x106007 x38) (ix4 x106008 x106009 x106010 x106011 x38) (ix4 x106012 x106013 x106014 x106015 x38) x7) (wrap64 ((ix4 (ix4 x106000 x106001 x106002 x106003 x6) (ix4 x106004 x106005 x106006 x106007 x6) (ix4 x106008 x106009 x106010 x106011 x6) (ix4 x106012 x106013 x106014 x106015 x6) x7) + (ix4 (ix4 x106000 x106001 x106002 x106003 x38) (ix4 x106004 x106005 x106006 x106007 x38) (ix4 x106008 x106009 x106010 x106011 x38) (ix4 x106012 x106013 x106014 x106015 x38) x6)))) x106008) (up (x7 == 2 && x38 == 1) (mn (ix4 (ix4 x106000 x106001 x106002 x106003 x38) (ix4 x106004 x106005 x106006 x106007 x38) (ix4 x106008 x106009 x106010 x106011 x38) (ix4 x106012 x106013 x106014 x106015 x38) x7) (wrap64 ((ix4 (ix4 x106000 x106001 x106002 x106003 x6) (ix4 x106004 x106005 x106006 x106007 x6) (ix4 x106008 x106009 x106010 x106011 x6) (ix4 x106012 x106013 x106014 x106015 x6) x7) + (ix4 (ix4 x106000 x106001 x106002 x106003 x38) (ix4 x106004 x106005 x106006 x106007 x38) (ix4 x106008 x106009 x106010 x106011 x38) (ix4 x106012 x106013 x106014 x106015 x38) x6)))) x106009) (up (x7 == 2 && x38 == 2) (mn (ix4 (ix4 x106000 x106001 x106002 x106003 x38) (ix4 x106004 x106005 x106006 x106007 x38) (ix4 x106008 x106009 x106010 x106011 x38) (ix4 x106012 x106013 x106014 x106015 x38) x7) (wrap64 ((ix4 (ix4 x106000 x106001 x106002 x106003 x6) (ix4 x106004 x106005 x106006 x106007 x6) (ix4 x106008 x106009 x106010 x106011 x6) (ix4 x106012 x106013 x106014 x106015 x6) x7) + (ix4 (ix4 x106000 x106001 x106002 x106003 x38) (ix4 x106004 x106005 x106006 x106007 x38) (ix4 x106008 x106009 x106010 x106011 x38) (ix4 x106012 x106013 x106014 x106015 x38) x6)))) x106010) (up (x7 == 2 && x38 == 3) (mn (ix4 (ix4 x106000 x106001 x106002 x106003 x38) (ix4 x106004 x106005 x106006 x106007 x38) (ix4 x106008 x106009 x106010 x106011 x38) (ix4 x106012 x106013 x106014 x106015 x38) x7) (wrap64 ((ix4 (ix4 x106000 x106001 x106002 x106003 x6) (ix4 x106004 x106005 x106006 x106007 x6) (ix4 x106008 x106009 x106010 x106011 x6) (ix4 x106012 x106013 x106014 x106015 x6) x7) + (ix4 (ix4 x106000 x106001 x106002 x106003 x38) (ix4 x106004 x106005 x106006 x106007 x38) (ix4 x106008 x106009 x106010 x106011 x38) (ix4 x106012 x106013 x106014 x106015 x38) x6)))) x106011) (up (x7 == 3 && x38 == 0) (mn (ix4 (ix4 x106000 x106001 x106002 x106003 x38) (ix4 x106004 x106005 x106006 x106007 x38) (ix4 x106008 x106009 x106010 x106011 x38) (ix4 x106012 x106013 x106014 x106015 x38) x7) (wrap64 ((ix4 (ix4 x106000 x106001 x106002 x106003 x6) (ix4 x106004 x106005 x106006 x106007 x6) (ix4 x106008 x106009 x106010 x106011 x6) (ix4 x106012 x106013 x106014 x106015 x6) x7) + (ix4 (ix4 x106000 x106001 x106002 x106003 x38) (ix4 x106004 x106005 x106006 x106007 x38) (ix4 x106008 x106009 x106010 x106011 x38) (ix4 x106012 x106013 x106014 x106015 x38) x6)))) x106012) (up (x7 == 3 && x38 == 1) (mn (ix4 (ix4 x106000 x106001 x106002 x106003 x38) (ix4 x106004 x106005 x106006 x106007 x38) (ix4 x106008 x106009 x106010 x106011 x38) (ix4 x106012 x106013 x106014 x106015 x38) x7) (wrap64 ((ix4 (ix4 x106000 x106001 x106002 x106003 x6) (ix4 x106004 x106005 x106006 x106007 x6) (ix4 x106008 x106009 x106010 x106011 x6) (ix4 x106012 x106013 x106014 x106015 x6) x7) + (ix4 (ix4 x106000 x106001 x106002 x106003 x38) (ix4 x106004 x106005 x106006 x106007 x38) (ix4 x106008 x106009 x106010 x106011 x38) (ix4 x106012 x106013 x106014 x106015 x38) x6)))) x106013) (up (x7 == 3 && x38 == 2) (mn (ix4 (ix4 x106000 x106001 x106002 x106003 x38) (ix4 x106004 x106005 x106006 x106007 x38) (ix4 x106008 x106009 x106010 x106011 x38) (ix4 x106012 x106013 x106014 x106015 x38) x7) (wrap64 ((ix4 (ix4 x106000 x106001 x106002 x106003 x6) (ix4 x106004 x106005 x106006 x106007 x6) (ix4 x106008 x106009 x106010 x106011 x6) (ix4 x106012 x106013 x106014 x106015 x6) x7) + (ix4 (ix4 x106000 x106001 x106002 x106003 x38) (ix4 x106004 x106005 x106006 x106007 x38) (ix4 x106008 x106009 x106010 x106011 x38) (ix4 x106012 x106013 x106014 x106015 x38) x6)))) x106014) (up (x7 == 3 && x38 == 3) (mn (ix4 (ix4 x106000 x106001 x106002 x106003 x38) (ix4 x106004 x106005 x106006 x106007 x38) (ix4 x106008 x106009 x106010 x106011 x38) (ix4 x106012 x106013 x106014 x106015 x38) x7) (wrap64 ((ix4 (ix4 x106000 x106001 x106002 x106003 x6) (ix4 x106004 x106005 x106006 x106007 x6) (ix4 x106008 x106009 x106010 x106011 x6) (ix4 x106012 x106013 x106014 x106015 x6) x7) + (ix4 (ix4 x106000 x106001 x106002 x106003 x38) (ix4 x106004 x106005 x106006 x106007 x38) (ix4 x106008 x106009 x106010 x106011 x38) (ix4 x106012 x106013 x106014 x106015 x38) x6)))) x106015)) else (none)) else (none)) else (none)) else (none)) else (none)) else (paths_sums.l3 k x6 x32 (wrap64 (x35 + 1)) x106000 x106001 x106002 x106003 x106004 x106005 x106006 x106007 x106008 x106009 x106010 x106011 x106012 x106013 x106014 x106015)
end
def paths_sums.f (k : Nat) (a0_0 : Int) (a0_1 : Int) (a0_2 : Int) (a0_3 : Int) (a0_4 : Int) (a0_5 : Int) (a0_6 : Int) (a0_7 : Int) (a0_8 : Int) (a0_9 : Int) (a0_10 : Int) (a0_11 : Int) (a0_12 : Int) (a0_13 : Int) (a0_14 : Int) (a0_15 : Int) : Option (Int × Int × Int × Int × Int × Int × Int × Int × Int × Int × Int × Int × Int × Int × Int × Int) := paths_sums.l0 k 0 a0_0 a0_1 a0_2 a0_3 a0_4 a0_5 a0_6 a0_7 a0_8 a0_9 a0_10 a0_11 a0_12 a0_13 a0_14 a0_15 0 0 0 0 0 0 0 0 0 0 0 0 0 0 0 0
theorem paths_sums.mono_l : ∀ k, (∀ y0 y1 y2 y3 y4 y5 y6 y7 y8 y9 y10 y11 y12 y13 y14 y15 y16 y17 y18 y19 y20 y21 y22 y23 y24 y25 y26 y27 y28 y29 y30 y31 y32, LeO (paths_sums.l0 k y0 y1 y2 y3 y4 y5 y6 y7 y8 y9 y10 y11 y12 y13 y14 y15 y16 y17 y18 y19 y20 y21 y22 y23 y24 y25 y26 y27 y28 y29 y30 y31 y32) (paths_sums.l0 (k + 1) y0 y1 y2 y3 y4 y5 y6 y7 y8 y9 y10 y11 y12 y13 y14 y15 y16 y17 y18 y19 y20 y21 y22 y23 y24 y25 y26 y27 y28 y29 y30 y31 y32)) ∧ (∀ y0 y1 y2 y3 y4 y5 y6 y7 y8 y9 y10 y11 y12 y13 y14 y15 y16 y17 y18 y19 y20 y21 y22 y23 y24 y25 y26 y27 y28 y29 y30 y31 y32 y33 y34, LeO (paths_sums.l1 k y0 y1 y2 y3 y4 y5 y6 y7 y8 y9 y10 y11 y12 y13 y14 y15 y16 y17 y18 y19 y20 y21 y22 y23 y24 y25 y26 y27 y28 y29 y30 y31 y32 y33 y34) (paths_sums.l1 (k + 1) y0 y1 y2 y3 y4 y5 y6 y7 y8 y9 y10 y11 y12 y13 y14 y15 y16 y17 y18 y19 y20 y21 y22 y23 y24 y25 y26 y27 y28 y29 y30 y31 y32 y33 y34)) ∧ (∀ y0 y1 y2 y3 y4 y5 y6 y7 y8 y9 y10 y11 y12 y13 y14 y15 y16, LeO (paths_sums.l2 k y0 y1 y2 y3 y4 y5 y6 y7 y8 y9 y10 y11 y12 y13 y14 y15 y16) (paths_sums.l2 (k + 1) y0 y1 y2 y3 y4 y5 y6 y7 y8 y9 y10 y11 y12 y13 y14 y15 y16)) ∧ (∀ y0 y1 y2 y3 y4 y5 y6 y7 y8 y9 y10 y11 y12 y13 y14 y15 y16 y17 y18, LeO (paths_sums.l3 k y0 y1 y2 y3 y4 y5 y6 y7 y8 y9 y10 y11 y12 y13 y14 y15 y16 y17 y18) (paths_sums.l3 (k + 1) y0 y1 y2 y3 y4 y5 y6 y7 y8 y9 y10 y11 y12 y13 y14 y15 y16 y17 y18)) ∧ (∀ y0 y1 y2 y3 y4 y5 y6 y7 y8 y9 y10 y11 y12 y13 y14 y15 y16 y17 y18 y19 y20, LeO (paths_sums.l4 k y0 y1 y2 y3 y4 y5 y6 y7 y8 y9 y10 y11 y12 y13 y14 y15 y16 y17 y18 y19 y20) (paths_sums.l4 (k + 1) y0 y1 y2 y3 y4 y5 y6 y7 y8 y9 y10 y11 y12 y13 y14 y15 y16 y17 y18 y19 y20))
 | 0 => ⟨fun _ _ _ _ _ _ _ _ _ _ _ _ _ _ _ _ _ _ _ _ _ _ _ _ _ _ _ _ _ _ _ _ _ r h => by simp [paths_sums.l0] at h, fun _ _ _ _ _ _ _ _ _ _ _ _ _ _ _ _ _ _ _ _ _ _ _ _ _ _ _ _ _ _ _ _ _ _ _ r h => by simp [paths_sums.l1] at h, fun _ _ _ _ _ _ _ _ _ _ _ _ _ _ _ _ _ r h => by simp [paths_sums.l2] at h, fun _ _ _ _ _ _ _ _ _ _ _ _ _ _ _ _ _ _ _ r h => by simp [paths_sums.l3] at h, fun _ _ _ _ _ _ _ _ _ _ _ _ _ _ _ _ _ _ _ _ _ r h => by simp [paths_sums.l4] at h⟩
 | k + 1 => by
  obtain ⟨ih0, ih1, ih2, ih3, ih4⟩ := paths_sums.mono_l k
  refine ⟨?_, ?_, ?_, ?_, ?_⟩
  ·intro y0 y1 y2 y3 y4 y5 y6 y7 y8 y9 y10 y11 y12 y13 y14 y15 y16 y17 y18 y19 y20 y21 y22 y23 y24 y25 y26 y27 y28 y29 y30 y31 y32
   unfold paths_sums.l0
   repeat' first
   | (with_reducible exact ih0 _ _ _ _ _ _ _ _ _ _ _ _ _ _ _ _ _ _ _ _ _ _ _ _ _ _ _ _ _ _ _ _ _)
   | (with_reducible exact ih1 _ _ _ _ _ _ _ _ _ _ _ _ _ _ _ _ _ _ _ _ _ _ _ _ _ _ _ _ _ _ _ _ _ _ _)
   | (with_reducible exact ih2 _ _ _ _ _ _ _ _ _ _ _ _ _ _ _ _ _)
   | (with_reducible exact ih3 _ _ _ _ _ _ _ _ _ _ _ _ _ _ _ _ _ _ _)
   | (with_reducible exact ih4 _ _ _ _ _ _ _ _ _ _ _ _ _ _ _ _ _ _ _ _ _)
   | (with_reducible exact LeO.refl _)
   | (with_reducible exact LeO.none _)
   | (with_reducible refine LeO.ite ?_ ?_)
   | (with_reducible refine LeO.bind ?_ (fun _ => ?_))
   | exact ih0 _ _ _ _ _ _ _ _ _ _ _ _ _ _ _ _ _ _ _ _ _ _ _ _ _ _ _ _ _ _ _ _ _
   | exact ih1 _ _ _ _ _ _ _ _ _ _ _ _ _ _ _ _ _ _ _ _ _ _ _ _ _ _ _ _ _ _ _ _ _ _ _
   | exact ih2 _ _ _ _ _ _ _ _ _ _ _ _ _ _ _ _ _
   | exact ih3 _ _ _ _ _ _ _ _ _ _ _ _ _ _ _ _ _ _ _
   | exact ih4 _ _ _ _ _ _ _ _ _ _ _ _ _ _ _ _ _ _ _ _ _
   | exact LeO.none _
   | refine LeO.ite ?_ ?_
   | refine LeO.bind ?_ (fun _ => ?_)
  ·intro y0 y1 y2 y3 y4 y5 y6 y7 y8 y9 y10 y11 y12 y13 y14 y15 y16 y17 y18 y19 y20 y21 y22 y23 y24 y25 y26 y27 y28 y29 y30 y31 y32 y33 y34
   unfold paths_sums.l1
   repeat' first
   | (with_reducible exact ih0 _ _ _ _ _ _ _ _ _ _ _ _ _ _ _ _ _ _ _ _ _ _ _ _ _ _ _ _ _ _ _ _ _)
   | (with_reducible exact ih1 _ _ _ _ _ _ _ _ _ _ _ _ _ _ _ _ _ _ _ _ _ _ _ _ _ _ _ _ _ _ _ _ _ _ _)
   | (with_reducible exact ih2 _ _ _ _ _ _ _ _ _ _ _ _ _ _ _ _ _)
   | (with_reducible exact ih3 _ _ _ _ _ _ _ _ _ _ _ _ _ _ _ _ _ _ _)
   | (with_reducible exact ih4 _ _ _ _ _ _ _ _ _ _ _ _ _ _ _ _ _ _ _ _ _)
   | (with_reducible exact LeO.refl _)
   | (with_reducible exact LeO.none _)
   | (with_reducible refine LeO.ite ?_ ?_)
   | (with_reducible refine LeO.bind ?_ (fun _ => ?_))
   | exact ih0 _ _ _ _ _ _ _ _ _ _ _ _ _ _ _ _ _ _ _ _ _ _ _ _ _ _ _ _ _ _ _ _ _
   | exact ih1 _ _ _ _ _ _ _ _ _ _ _ _ _ _ _ _ _ _ _ _ _ _ _ _ _ _ _ _ _ _ _ _ _ _ _
   | exact ih2 _ _ _ _ _ _ _ _ _ _ _ _ _ _ _ _ _
   | exact ih3 _ _ _ _ _ _ _ _ _ _ _ _ _ _ _ _ _ _ _
   | exact ih4 _ _ _ _ _ _ _ _ _ _ _ _ _ _ _ _ _ _ _ _ _
   | exact LeO.none _
   | refine LeO.ite ?_ ?_
   | refine LeO.bind ?_ (fun _ => ?_)
  ·intro y0 y1 y2 y3 y4 y5 y6 y7 y8 y9 y10 y11 y12 y13 y14 y15 y16
   unfold paths_sums.l2
   repeat' first
   | (with_reducible exact ih0 _ _ _ _ _ _ _ _ _ _ _ _ _ _ _ _ _ _ _ _ _ _ _ _ _ _ _ _ _ _ _ _ _)
   | (with_reducible exact ih1 _ _ _ _ _ _ _ _ _ _ _ _ _ _ _ _ _ _ _ _ _ _ _ _ _ _ _ _ _ _ _ _ _ _ _)
   | (with_reducible exact ih2 _ _ _ _ _ _ _ _ _ _ _ _ _ _ _ _ _)
   | (with_reducible exact ih3 _ _ _ _ _ _ _ _ _ _ _ _ _ _ _ _ _ _ _)
   | (with_reducible exact ih4 _ _ _ _ _ _ _ _ _ _ _ _ _ _ _ _ _ _ _ _ _)
   | (with_reducible exact LeO.refl _)
   | (with_reducible exact LeO.none _)
   | (with_reducible refine LeO.ite ?_ ?_)
   | (with_reducible refine LeO.bind ?_ (fun _ => ?_))
   | exact ih0 _ _ _ _ _ _ _ _ _ _ _ _ _ _ _ _ _ _ _ _ _ _ _ _ _ _ _ _ _ _ _ _ _
   | exact ih1 _ _ _ _ _ _ _ _ _ _ _ _ _ _ _ _ _ _ _ _ _ _ _ _ _ _ _ _ _ _ _ _ _ _ _
   | exact ih2 _ _ _ _ _ _ _ _ _ _ _ _ _ _ _ _ _
   | exact ih3 _ _ _ _ _ _ _ _ _ _ _ _ _ _ _ _ _ _ _
   | exact ih4 _ _ _ _ _ _ _ _ _ _ _ _ _ _ _ _ _ _ _ _ _
   | exact LeO.none _
   | refine LeO.ite ?_ ?_
   | refine LeO.bind ?_ (fun _ => ?_)
  ·intro y0 y1 y2 y3 y4 y5 y6 y7 y8 y9 y10 y11 y12 y13 y14 y15 y16 y17 y18
   unfold paths_sums.l3
   repeat' first
   | (with_reducible exact ih0 _ _ _ _ _ _ _ _ _ _ _ _ _ _ _ _ _ _ _ _ _ _ _ _ _ _ _ _ _ _ _ _ _)
   | (with_reducible exact ih1 _ _ _ _ _ _ _ _ _ _ _ _ _ _ _ _ _ _ _ _ _ _ _ _ _ _ _ _ _ _ _ _ _ _ _)
   | (with_reducible exact ih2 _ _ _ _ _ _ _ _ _ _ _ _ _ _ _ _ _)
   | (with_reducible exact ih3 _ _ _ _ _ _ _ _ _ _ _ _ _ _ _ _ _ _ _)
   | (with_reducible exact ih4 _ _ _ _ _ _ _ _ _ _ _ _ _ _ _ _ _ _ _ _ _)
   | (with_reducible exact LeO.refl _)
   | (with_reducible exact LeO.none _)
   | (with_reducible refine LeO.ite ?_ ?_)
   | (with_reducible refine LeO.bind ?_ (fun _ => ?_))
   | exact ih0 _ _ _ _ _ _ _ _ _ _ _ _ _ _ _ _ _ _ _ _ _ _ _ _ _ _ _ _ _ _ _ _ _
   | exact ih1 _ _ _ _ _ _ _ _ _ _ _ _ _ _ _ _ _ _ _ _ _ _ _ _ _ _ _ _ _ _ _ _ _ _ _
   | exact ih2 _ _ _ _ _ _ _ _ _ _ _ _ _ _ _ _ _
   | exact ih3 _ _ _ _ _ _ _ _ _ _ _ _ _ _ _ _ _ _ _
   | exact ih4 _ _ _ _ _ _ _ _ _ _ _ _ _ _ _ _ _ _ _ _ _
   | exact LeO.none _
   | refine LeO.ite ?_ ?_
   | refine LeO.bind ?_ (fun _ => ?_)
  ·intro y0 y1 y2 y3 y4 y5 y6 y7 y8 y9 y10 y11 y12 y13 y14 y15 y16 y17 y18 y19 y20
   unfold paths_sums.l4
   repeat' first
   | (with_reducible exact ih0 _ _ _ _ _ _ _ _ _ _ _ _ _ _ _ _ _ _ _ _ _ _ _ _ _ _ _ _ _ _ _ _ _)
   | (with_reducible exact ih1 _ _ _ _ _ _ _ _ _ _ _ _ _ _ _ _ _ _ _ _ _ _ _ _ _ _ _ _ _ _ _ _ _ _ _)
   | (with_reducible exact ih2 _ _ _ _ _ _ _ _ _ _ _ _ _ _ _ _ _)
   | (with_reducible exact ih3 _ _ _ _ _ _ _ _ _ _ _ _ _ _ _ _ _ _ _)
   | (with_reducible exact ih4 _ _ _ _ _ _ _ _ _ _ _ _ _ _ _ _ _ _ _ _ _)
   | (with_reducible exact LeO.refl _)
   | (with_reducible exact LeO.none _)
   | (with_reducible refine LeO.ite ?_ ?_)
   | (with_reducible refine LeO.bind ?_ (fun _ => ?_))
   | exact ih0 _ _ _ _ _ _ _ _ _ _ _ _ _ _ _ _ _ _ _ _ _ _ _ _ _ _ _ _ _ _ _ _ _
   | exact ih1 _ _ _ _ _ _ _ _ _ _ _ _ _ _ _ _ _ _ _ _ _ _ _ _ _ _ _ _ _ _ _ _ _ _ _
   | exact ih2 _ _ _ _ _ _ _ _ _ _ _ _ _ _ _ _ _
   | exact ih3 _ _ _ _ _ _ _ _ _ _ _ _ _ _ _ _ _ _ _
   | exact ih4 _ _ _ _ _ _ _ _ _ _ _ _ _ _ _ _ _ _ _ _ _
   | exact LeO.none _
   | refine LeO.ite ?_ ?_
   | refine LeO.bind ?_ (fun _ => ?_)
theorem paths_sums.mono : ∀ a0 a1 a2 a3 a4 a5 a6 a7 a8 a9 a10 a11 a12 a13 a14 a15 k, LeO (paths_sums.f k a0 a1 a2 a3 a4 a5 a6 a7 a8 a9 a10 a11 a12 a13 a14 a15) (paths_sums.f (k + 1) a0 a1 a2 a3 a4 a5 a6 a7 a8 a9 a10 a11 a12 a13 a14 a15) := by
 intro a0 a1 a2 a3 a4 a5 a6 a7 a8 a9 a10 a11 a12 a13 a14 a15 k
 obtain ⟨ih0, ih1, ih2, ih3, ih4⟩ := paths_sums.mono_l k
 unfold paths_sums.f
 repeat' first
   | (with_reducible exact ih0 _ _ _ _ _ _ _ _ _ _ _ _ _ _ _ _ _ _ _ _ _ _ _ _ _ _ _ _ _ _ _ _ _)
   | (with_reducible exact ih1 _ _ _ _ _ _ _ _ _ _ _ _ _ _ _ _ _ _ _ _ _ _ _ _ _ _ _ _ _ _ _ _ _ _ _)
   | (with_reducible exact ih2 _ _ _ _ _ _ _ _ _ _ _ _ _ _ _ _ _)
   | (with_reducible exact ih3 _ _ _ _ _ _ _ _ _ _ _ _ _ _ _ _ _ _ _)
   | (with_reducible exact ih4 _ _ _ _ _ _ _ _ _ _ _ _ _ _ _ _ _ _ _ _ _)
   | (with_reducible exact LeO.refl _)
   | (with_reducible exact LeO.none _)
   | (with_reducible refine LeO.ite ?_ ?_)
   | (with_reducible refine LeO.bind ?_ (fun _ => ?_))
   | exact ih0 _ _ _ _ _ _ _ _ _ _ _ _ _ _ _ _ _ _ _ _ _ _ _ _ _ _ _ _ _ _ _ _ _
   | exact ih1 _ _ _ _ _ _ _ _ _ _ _ _ _ _ _ _ _ _ _ _ _ _ _ _ _ _ _ _ _ _ _ _ _ _ _
   | exact ih2 _ _ _ _ _ _ _ _ _ _ _ _ _ _ _ _ _
   | exact ih3 _ _ _ _ _ _ _ _ _ _ _ _ _ _ _ _ _ _ _
   | exact ih4 _ _ _ _ _ _ _ _ _ _ _ _ _ _ _ _ _ _ _ _ _
   | exact LeO.none _
   | refine LeO.ite ?_ ?_
   | refine LeO.bind ?_ (fun _ => ?_)
def paths_sums.T9 : Bool × List (List Nat × List Nat) := (true, [([], []), ([], []), ([], []), ([], []), ([], []), ([2], [2]), ([5, 3], [3, 5]), ([6, 4], [4, 6]), ([7], [7]), ([8], [8]), ([0], [0]), ([10, 1, 0, 1, 2, 3, 4, 5, 6, 7, 8, 9], [1, 10]), ([11, 9, 9, 0, 1, 2, 3, 4, 5, 6, 7, 8, 9], [9, 11])])
def paths_sums.B9 : List Nat := [0, 0, 0, 0, 0, 4, 44, 124, 252, 508, 1, 2047, 4095]
theorem paths_sums.tab9 : rtab .any (opsOf Try.f28 9) = paths_sums.T9 := by kernel_rfl
theorem paths_sums.bits9 : waitsOk paths_sums.T9.2 paths_sums.B9 = true := by kernel_rfl
def paths_sums.T21 : Bool × List (List Nat × List Nat) := (true, [([], []), ([], []), ([], []), ([], []), ([2], [2]), ([4, 3], [3, 4]), ([5], [5]), ([], []), ([], []), ([7], [7]), ([9, 8], [8, 9]), ([10], [10]), ([], []), ([], []), ([12], [12]), ([14, 13], [13, 14]), ([15], [15]), ([11, 16], [11, 16]), ([6, 17], [6, 17]), ([0], [0]), ([19, 1, 0, 1, 2, 3, 4, 5, 6, 7, 8, 9, 10, 11, 12, 13, 14, 15, 16, 17, 18], [1, 19]), ([20, 18, 0, 1, 2, 3, 4, 5, 6, 7, 8, 9, 10, 11, 12, 13, 14, 15, 16, 17, 18], [18, 20])])
def paths_sums.B21 : List Nat := [0, 0, 0, 0, 4, 28, 60, 0, 0, 128, 896, 1920, 0, 0, 4096, 28672, 61440, 130944, 262140, 1, 1048575, 2097151]
theorem paths_sums.tab21 : rtab .any (opsOf Try.f28 21) = paths_sums.T21 := by kernel_rfl
theorem paths_sums.bits21 : waitsOk paths_sums.T21.2 paths_sums.B21 = true := by kernel_rfl
set_option maxHeartbeats 8000000 in
set_option maxRecDepth 100000 in
theorem paths_sums.calls (k : Nat) (g0_ : Nat) (a0_0 : Int) (a0_1 : Int) (a0_2 : Int) (a0_3 : Int) (a0_4 : Int) (a0_5 : Int) (a0_6 : Int) (a0_7 : Int) (a0_8 : Int) (a0_9 : Int) (a0_10 : Int) (a0_11 : Int) (a0_12 : Int) (a0_13 : Int) (a0_14 : Int) (a0_15 : Int) (r1 : Int) (r2 : Int) (r3 : Int) (r4 : Int) (r5 : Int) (r6 : Int) (r7 : Int) (r8 : Int) (r9 : Int) (r10 : Int) (r11 : Int) (r12 : Int) (r13 : Int) (r14 : Int) (r15 : Int) (r16 : Int) (w : World) (hb0 : w.heap[g0_]? = some (.cells #[.int .i64 a0_0, .int .i64 a0_1, .int .i64 a0_2, .int .i64 a0_3, .int .i64 a0_4, .int .i64 a0_5, .int .i64 a0_6, .int .i64 a0_7, .int .i64 a0_8, .int .i64 a0_9, .int .i64 a0_10, .int .i64 a0_11, .int .i64 a0_12, .int .i64 a0_13, .int .i64 a0_14, .int .i64 a0_15] 23 (0, 0))) (h : paths_sums.f k a0_0 a0_1 a0_2 a0_3 a0_4 a0_5 a0_6 a0_7 a0_8 a0_9 a0_10 a0_11 a0_12 a0_13 a0_14 a0_15 = some (r1, r2, r3, r4, r5, r6, r7, r8, r9, r10, r11, r12, r13, r14, r15, r16)) :
  Calls Try.prog 28 #[.pointer (some ⟨g0_, 0, none⟩)] w fun e w' => e = .returned (.agg #[.int .i64 r1, .int .i64 r2, .int .i64 r3, .int .i64 r4, .int .i64 r5, .int .i64 r6, .int .i64 r7, .int .i64 r8, .int .i64 r9, .int .i64 r10, .int .i64 r11, .int .i64 r12, .int .i64 r13, .int .i64 r14, .int .i64 r15, .int .i64 r16]) ∧ Below w.heap.size w w' := by
 have hu23 := Try.underlying23
 have BK103 := Aside0.mk hb0
 clear hb0
 have HB := Aside0.mk (Below.refl w.heap.size w)
 have H : (paths_sums.l0 k 0 a0_0 a0_1 a0_2 a0_3 a0_4 a0_5 a0_6 a0_7 a0_8 a0_9 a0_10 a0_11 a0_12 a0_13 a0_14 a0_15 0 0 0 0 0 0 0 0 0 0 0 0 0 0 0 0) = some (r1, r2, r3, r4, r5, r6, r7, r8, r9, r10, r11, r12, r13, r14, r15, r16) := h
 clear h
 have H' := Aside0.mk H
 clear H
 go_enter Try.func28, Try.ntmps28
 go_wp2_with (first | ((with_reducible refine gate_dst (N := 2) rfl ?_); refine box_event ?hg (N := 2) ?hd (cs := #[.int .i64 0, .int .i64 0, .int .i64 0, .int .i64 0, .int .i64 0, .int .i64 0, .int .i64 0, .int .i64 0, .int .i64 0, .int .i64 0, .int .i64 0, .int .i64 0, .int .i64 0, .int .i64 0, .int .i64 0, .int .i64 0]) (t := 23) ?hr ?_; (case hd => rfl); (case hg => rfl); (case hr => first | (go_simp; done) | (go_simp; rfl)); intro gb104 hg w2 hbox hb; have n0_ := Aside0.mk (blk_below (g := g0_) (o := .cells #[.int .i64 a0_0, .int .i64 a0_1, .int .i64 a0_2, .int .i64 a0_3, .int .i64 a0_4, .int .i64 a0_5, .int .i64 a0_6, .int .i64 a0_7, .int .i64 a0_8, .int .i64 a0_9, .int .i64 a0_10, .int .i64 a0_11, .int .i64 a0_12, .int .i64 a0_13, .int .i64 a0_14, .int .i64 a0_15] 23 (0, 0)) (by (with_reducible repeat (first | refine blk_drewN ?_ _ | refine blk_drew ?_ | refine blk_alloc ?_ _)); exact BK103.out) hb); have n1_ := Aside0.mk (below_step (by repeat (first | (with_reducible first | exact HB.out | apply below_alloc | apply pw_below_drewN | apply below_drew1 | refine below_set ?_ GE103.out) | exact HB.out)) hb); have n2_ := Aside0.mk (hbox); have n3_ := Aside0.mk ((by rw [hg]; exact (below_size (by repeat (first | (with_reducible first | exact HB.out | apply below_alloc | apply pw_below_drewN | apply below_drew1 | refine below_set ?_ GE103.out) | exact HB.out))) : w.heap.size ≤ gb104)); have n4_ := Aside0.mk ((by rw [hg]; exact (below_size (by repeat (first | (with_reducible first | exact HB.out | apply below_alloc | apply pw_below_drewN | apply below_drew1 | refine below_set ?_ GE103.out) | exact HB.out))) : w.heap.size ≤ gb104)); have n5_ := Aside0.mk ((by rw [hg]; exact Nat.ne_of_lt (blk_lt (g := g0_) (o := .cells #[.int .i64 a0_0, .int .i64 a0_1, .int .i64 a0_2, .int .i64 a0_3, .int .i64 a0_4, .int .i64 a0_5, .int .i64 a0_6, .int .i64 a0_7, .int .i64 a0_8, .int .i64 a0_9, .int .i64 a0_10, .int .i64 a0_11, .int .i64 a0_12, .int .i64 a0_13, .int .i64 a0_14, .int .i64 a0_15] 23 (0, 0)) (by (with_reducible repeat (first | refine blk_drewN ?_ _ | refine blk_drew ?_ | refine blk_alloc ?_ _)); exact BK103.out)) : g0_ ≠ gb104)); have n6_ := Aside0.mk ((by rw [hg]; exact Nat.ne_of_gt (blk_lt (g := g0_) (o := .cells #[.int .i64 a0_0, .int .i64 a0_1, .int .i64 a0_2, .int .i64 a0_3, .int .i64 a0_4, .int .i64 a0_5, .int .i64 a0_6, .int .i64 a0_7, .int .i64 a0_8, .int .i64 a0_9, .int .i64 a0_10, .int .i64 a0_11, .int .i64 a0_12, .int .i64 a0_13, .int .i64 a0_14, .int .i64 a0_15] 23 (0, 0)) (by (with_reducible repeat (first | refine blk_drewN ?_ _ | refine blk_drew ?_ | refine blk_alloc ?_ _)); exact BK103.out)) : gb104 ≠ g0_)); clear BK103; clear HB; have BK103 := n0_; have HB := n1_; have BK104 := n2_; have GW104 := n3_; have GE104 := n4_; have NB103_104 := n5_; have NB104_103 := n6_; clear n0_ n1_ n2_ n3_ n4_ n5_ n6_; clear hb hbox hg) | ((with_reducible refine gate_dst (N := 3) rfl ?_); refine box_event ?hg (N := 3) ?hd (cs := #[.int .i64 0, .int .i64 0, .int .i64 0, .int .i64 0, .int .i64 0, .int .i64 0, .int .i64 0, .int .i64 0, .int .i64 0, .int .i64 0, .int .i64 0, .int .i64 0, .int .i64 0, .int .i64 0, .int .i64 0, .int .i64 0]) (t := 23) ?hr ?_; (case hd => rfl); (case hg => rfl); (case hr => first | (go_simp; done) | (go_simp; rfl)); intro gb105 hg w3 hbox hb; have n0_ := Aside0.mk (blk_below (g := g0_) (o := .cells #[.int .i64 a0_0, .int .i64 a0_1, .int .i64 a0_2, .int .i64 a0_3, .int .i64 a0_4, .int .i64 a0_5, .int .i64 a0_6, .int .i64 a0_7, .int .i64 a0_8, .int .i64 a0_9, .int .i64 a0_10, .int .i64 a0_11, .int .i64 a0_12, .int .i64 a0_13, .int .i64 a0_14, .int .i64 a0_15] 23 (0, 0)) (by (with_reducible repeat (first | refine blk_drewN ?_ _ | refine blk_drew ?_ | refine blk_alloc ?_ _)); exact BK103.out) hb); have n1_ := Aside0.mk (blk_below (g := gb104) (o := .cells #[.int .i64 0, .int .i64 0, .int .i64 0, .int .i64 0, .int .i64 0, .int .i64 0, .int .i64 0, .int .i64 0, .int .i64 0, .int .i64 0, .int .i64 0, .int .i64 0, .int .i64 0, .int .i64 0, .int .i64 0, .int .i64 0] 23 (0, 0)) (by (with_reducible repeat (first | refine blk_drewN ?_ _ | refine blk_drew ?_ | refine blk_alloc ?_ _)); exact BK104.out) hb); have n2_ := Aside0.mk (below_step (by repeat (first | (with_reducible first | exact HB.out | apply below_alloc | apply pw_below_drewN | apply below_drew1 | refine below_set ?_ GE103.out | refine below_set ?_ GE104.out) | exact HB.out)) hb); have n3_ := Aside0.mk (hbox); have n4_ := Aside0.mk ((by rw [hg]; exact (below_size (by repeat (first | (with_reducible first | exact HB.out | apply below_alloc | apply pw_below_drewN | apply below_drew1 | refine below_set ?_ GE103.out | refine below_set ?_ GE104.out) | exact HB.out))) : w.heap.size ≤ gb105)); have n5_ := Aside0.mk ((by rw [hg]; exact (below_size (by repeat (first | (with_reducible first | exact HB.out | apply below_alloc | apply pw_below_drewN | apply below_drew1 | refine below_set ?_ GE103.out | refine below_set ?_ GE104.out) | exact HB.out))) : w.heap.size ≤ gb105)); have n6_ := Aside0.mk ((by rw [hg]; exact Nat.ne_of_lt (blk_lt (g := g0_) (o := .cells #[.int .i64 a0_0, .int .i64 a0_1, .int .i64 a0_2, .int .i64 a0_3, .int .i64 a0_4, .int .i64 a0_5, .int .i64 a0_6, .int .i64 a0_7, .int .i64 a0_8, .int .i64 a0_9, .int .i64 a0_10, .int .i64 a0_11, .int .i64 a0_12, .int .i64 a0_13, .int .i64 a0_14, .int .i64 a0_15] 23 (0, 0)) (by (with_reducible repeat (first | refine blk_drewN ?_ _ | refine blk_drew ?_ | refine blk_alloc ?_ _)); exact BK103.out)) : g0_ ≠ gb105)); have n7_ := Aside0.mk ((by rw [hg]; exact Nat.ne_of_gt (blk_lt (g := g0_) (o := .cells #[.int .i64 a0_0, .int .i64 a0_1, .int .i64 a0_2, .int .i64 a0_3, .int .i64 a0_4, .int .i64 a0_5, .int .i64 a0_6, .int .i64 a0_7, .int .i64 a0_8, .int .i64 a0_9, .int .i64 a0_10, .int .i64 a0_11, .int .i64 a0_12, .int .i64 a0_13, .int .i64 a0_14, .int .i64 a0_15] 23 (0, 0)) (by (with_reducible repeat (first | refine blk_drewN ?_ _ | refine blk_drew ?_ | refine blk_alloc ?_ _)); exact BK103.out)) : gb105 ≠ g0_)); have n8_ := Aside0.mk ((by rw [hg]; exact Nat.ne_of_lt (blk_lt (g := gb104) (o := .cells #[.int .i64 0, .int .i64 0, .int .i64 0, .int .i64 0, .int .i64 0, .int .i64 0, .int .i64 0, .int .i64 0, .int .i64 0, .int .i64 0, .int .i64 0, .int .i64 0, .int .i64 0, .int .i64 0, .int .i64 0, .int .i64 0] 23 (0, 0)) (by (with_reducible repeat (first | refine blk_drewN ?_ _ | refine blk_drew ?_ | refine blk_alloc ?_ _)); exact BK104.out)) : gb104 ≠ gb105)); have n9_ := Aside0.mk ((by rw [hg]; exact Nat.ne_of_gt (blk_lt (g := gb104) (o := .cells #[.int .i64 0, .int .i64 0, .int .i64 0, .int .i64 0, .int .i64 0, .int .i64 0, .int .i64 0, .int .i64 0, .int .i64 0, .int .i64 0, .int .i64 0, .int .i64 0, .int .i64 0, .int .i64 0, .int .i64 0, .int .i64 0] 23 (0, 0)) (by (with_reducible repeat (first | refine blk_drewN ?_ _ | refine blk_drew ?_ | refine blk_alloc ?_ _)); exact BK104.out)) : gb105 ≠ gb104)); clear BK103; clear BK104; clear HB; have BK103 := n0_; have BK104 := n1_; have HB := n2_; have BK105 := n3_; have GW105 := n4_; have GE105 := n5_; have NB103_105 := n6_; have NB105_103 := n7_; have NB104_105 := n8_; have NB105_104 := n9_; clear n0_ n1_ n2_ n3_ n4_ n5_ n6_ n7_ n8_ n9_; clear hb hbox hg))
 go_loopg [9] k (fun kq v9 w' => ∃ (x9_1 : Int) (x106000_1 : Int) (x106001_1 : Int) (x106002_1 : Int) (x106003_1 : Int) (x106004_1 : Int) (x106005_1 : Int) (x106006_1 : Int) (x106007_1 : Int) (x106008_1 : Int) (x106009_1 : Int) (x106010_1 : Int) (x106011_1 : Int) (x106012_1 : Int) (x106013_1 : Int) (x106014_1 : Int) (x106015_1 : Int), v9 = .int .i64 x9_1 ∧ Aside0 (paths_sums.l0 kq x9_1 a0_0 a0_1 a0_2 a0_3 a0_4 a0_5 a0_6 a0_7 a0_8 a0_9 a0_10 a0_11 a0_12 a0_13 a0_14 a0_15 x106000_1 x106001_1 x106002_1 x106003_1 x106004_1 x106005_1 x106006_1 x106007_1 x106008_1 x106009_1 x106010_1 x106011_1 x106012_1 x106013_1 x106014_1 x106015_1 = some (r1, r2, r3, r4, r5, r6, r7, r8, r9, r10, r11, r12, r13, r14, r15, r16)) ∧ Aside0 (kq ≤ k) ∧ Aside0 (w'.heap[g0_]? = some (.cells #[.int .i64 a0_0, .int .i64 a0_1, .int .i64 a0_2, .int .i64 a0_3, .int .i64 a0_4, .int .i64 a0_5, .int .i64 a0_6, .int .i64 a0_7, .int .i64 a0_8, .int .i64 a0_9, .int .i64 a0_10, .int .i64 a0_11, .int .i64 a0_12, .int .i64 a0_13, .int .i64 a0_14, .int .i64 a0_15] 23 (0, 0))) ∧ Aside0 (w'.heap[gb104]? = some (.cells #[.int .i64 0, .int .i64 0, .int .i64 0, .int .i64 0, .int .i64 0, .int .i64 0, .int .i64 0, .int .i64 0, .int .i64 0, .int .i64 0, .int .i64 0, .int .i64 0, .int .i64 0, .int .i64 0, .int .i64 0, .int .i64 0] 23 (0, 0))) ∧ Aside0 (w'.heap[gb105]? = some (.cells #[.int .i64 x106000_1, .int .i64 x106001_1, .int .i64 x106002_1, .int .i64 x106003_1, .int .i64 x106004_1, .int .i64 x106005_1, .int .i64 x106006_1, .int .i64 x106007_1, .int .i64 x106008_1, .int .i64 x106009_1, .int .i64 x106010_1, .int .i64 x106011_1, .int .i64 x106012_1, .int .i64 x106013_1, .int .i64 x106014_1, .int .i64 x106015_1] 23 (0, 0))) ∧ Aside0 (Below w.heap.size w w'))
 case atStart => exact ⟨(0), (0), (0), (0), (0), (0), (0), (0), (0), (0), (0), (0), (0), (0), (0), (0), (0), (by first | rfl | (simp; done) | (simp [*]; done)), H', ⟨Nat.le_refl _⟩, ⟨by (with_reducible repeat (first | refine blk_drewN ?_ _ | refine blk_drew ?_ | refine blk_alloc ?_ _)); exact BK103.out⟩, ⟨by (with_reducible repeat (first | refine blk_drewN ?_ _ | refine blk_drew ?_ | refine blk_alloc ?_ _)); exact BK104.out⟩, ⟨by (with_reducible repeat (first | refine blk_drewN ?_ _ | refine blk_drew ?_ | refine blk_alloc ?_ _)); exact BK105.out⟩, ⟨by repeat (first | (with_reducible first | exact HB.out | apply below_alloc | apply pw_below_drewN | apply below_drew1 | refine below_set ?_ GE103.out | refine below_set ?_ GE104.out | refine below_set ?_ GE105.out) | exact HB.out)⟩⟩
 case round =>
  clear H'
  try clear c2
  try clear p2
  obtain ⟨x9_1, x106000_1, x106001_1, x106002_1, x106003_1, x106004_1, x106005_1, x106006_1, x106007_1, x106008_1, x106009_1, x106010_1, x106011_1, x106012_1, x106013_1, x106014_1, x106015_1, rfl, HA, HK1, BK103, BK104, BK105, HB⟩ := hrel
  cases gk with
  | zero => exact absurd HA.out (by simp [paths_sums.l0])
  | succ k1 =>
   have H := HA.out
   clear HA
   simp only [paths_sums.l0] at H
   by_cases c4 : x9_1 < 4
   ·rw [if_pos c4] at H
    have c4b0 : decide (x9_1 < 4) = true := decide_eq_true c4
    clear c4
    have H' := Aside0.mk H
    clear H
    go_wp2
    go_loopg [12] k1 (fun kq v12 w' => ∃ (x12_2 : Int) (x106000_2 : Int) (x106001_2 : Int) (x106002_2 : Int) (x106003_2 : Int) (x106004_2 : Int) (x106005_2 : Int) (x106006_2 : Int) (x106007_2 : Int) (x106008_2 : Int) (x106009_2 : Int) (x106010_2 : Int) (x106011_2 : Int) (x106012_2 : Int) (x106013_2 : Int) (x106014_2 : Int) (x106015_2 : Int), v12 = .int .i64 x12_2 ∧ Aside0 (paths_sums.l1 kq x9_1 x9_1 x12_2 a0_0 a0_1 a0_2 a0_3 a0_4 a0_5 a0_6 a0_7 a0_8 a0_9 a0_10 a0_11 a0_12 a0_13 a0_14 a0_15 x106000_2 x106001_2 x106002_2 x106003_2 x106004_2 x106005_2 x106006_2 x106007_2 x106008_2 x106009_2 x106010_2 x106011_2 x106012_2 x106013_2 x106014_2 x106015_2 = some (r1, r2, r3, r4, r5, r6, r7, r8, r9, r10, r11, r12, r13, r14, r15, r16)) ∧ Aside0 (kq ≤ k1) ∧ Aside0 (w'.heap[g0_]? = some (.cells #[.int .i64 a0_0, .int .i64 a0_1, .int .i64 a0_2, .int .i64 a0_3, .int .i64 a0_4, .int .i64 a0_5, .int .i64 a0_6, .int .i64 a0_7, .int .i64 a0_8, .int .i64 a0_9, .int .i64 a0_10, .int .i64 a0_11, .int .i64 a0_12, .int .i64 a0_13, .int .i64 a0_14, .int .i64 a0_15] 23 (0, 0))) ∧ Aside0 (w'.heap[gb104]? = some (.cells #[.int .i64 0, .int .i64 0, .int .i64 0, .int .i64 0, .int .i64 0, .int .i64 0, .int .i64 0, .int .i64 0, .int .i64 0, .int .i64 0, .int .i64 0, .int .i64 0, .int .i64 0, .int .i64 0, .int .i64 0, .int .i64 0] 23 (0, 0))) ∧ Aside0 (w'.heap[gb105]? = some (.cells #[.int .i64 x106000_2, .int .i64 x106001_2, .int .i64 x106002_2, .int .i64 x106003_2, .int .i64 x106004_2, .int .i64 x106005_2, .int .i64 x106006_2, .int .i64 x106007_2, .int .i64 x106008_2, .int .i64 x106009_2, .int .i64 x106010_2, .int .i64 x106011_2, .int .i64 x106012_2, .int .i64 x106013_2, .int .i64 x106014_2, .int .i64 x106015_2] 23 (0, 0))) ∧ Aside0 (Below w.heap.size w w'))
    case atStart => exact ⟨(0), (x106000_1), (x106001_1), (x106002_1), (x106003_1), (x106004_1), (x106005_1), (x106006_1), (x106007_1), (x106008_1), (x106009_1), (x106010_1), (x106011_1), (x106012_1), (x106013_1), (x106014_1), (x106015_1), (by first | rfl | (simp; done) | (simp [*]; done)), H', ⟨Nat.le_refl _⟩, ⟨by (with_reducible repeat (first | refine blk_drewN ?_ _ | refine blk_drew ?_ | refine blk_alloc ?_ _)); exact BK103.out⟩, ⟨by (with_reducible repeat (first | refine blk_drewN ?_ _ | refine blk_drew ?_ | refine blk_alloc ?_ _)); exact BK104.out⟩, ⟨by (with_reducible repeat (first | refine blk_drewN ?_ _ | refine blk_drew ?_ | refine blk_alloc ?_ _)); exact BK105.out⟩, ⟨by repeat (first | (with_reducible first | exact HB.out | apply below_alloc | apply pw_below_drewN | apply below_drew1 | refine below_set ?_ GE103.out | refine below_set ?_ GE104.out | refine below_set ?_ GE105.out) | exact HB.out)⟩⟩
    case round =>
     clear H'
     try clear c2
     try clear p2
     try clear c4
     try clear c4b0
     try clear p2
     obtain ⟨x12_2, x106000_2, x106001_2, x106002_2, x106003_2, x106004_2, x106005_2, x106006_2, x106007_2, x106008_2, x106009_2, x106010_2, x106011_2, x106012_2, x106013_2, x106014_2, x106015_2, rfl, HA, HK2, BK103, BK104, BK105, HB⟩ := hrel
     cases gk with
     | zero => exact absurd HA.out (by simp [paths_sums.l1])
     | succ k2 =>
      have H := HA.out
      clear HA
      simp only [paths_sums.l1] at H
      by_cases c5 : x12_2 < 4
      ·rw [if_pos c5] at H
       have c5b0 : decide (x12_2 < 4) = true := decide_eq_true c5
       clear c5
       by_cases c6 : x9_1 = x12_2
       ·rw [if_pos c6] at H
        have c6b0 : (x9_1 == x12_2) = true := beq_iff_eq.mpr c6
        have c6b1 : (x9_1 != x12_2) = false := bne_eq_false_iff_eq.mpr c6
        clear c6
        have H' := Aside0.mk H
        clear H
        go_wp2
        go_roundg k2
        case measure => have := HK1.out; have := HK2.out; omega
        case rel => exact ⟨(wrap64 (x12_2 + 1)), (x106000_2), (x106001_2), (x106002_2), (x106003_2), (x106004_2), (x106005_2), (x106006_2), (x106007_2), (x106008_2), (x106009_2), (x106010_2), (x106011_2), (x106012_2), (x106013_2), (x106014_2), (x106015_2), (by first | rfl | (simp; done) | (simp [*]; done)), H', ⟨by have := HK1.out; have := HK2.out; omega⟩, ⟨by (with_reducible repeat (first | refine blk_drewN ?_ _ | refine blk_drew ?_ | refine blk_alloc ?_ _)); exact BK103.out⟩, ⟨by (with_reducible repeat (first | refine blk_drewN ?_ _ | refine blk_drew ?_ | refine blk_alloc ?_ _)); exact BK104.out⟩, ⟨by (with_reducible repeat (first | refine blk_drewN ?_ _ | refine blk_drew ?_ | refine blk_alloc ?_ _)); exact BK105.out⟩, ⟨by repeat (first | (with_reducible first | exact HB.out | apply below_alloc | apply pw_below_drewN | apply below_drew1 | refine below_set ?_ GE103.out | refine below_set ?_ GE104.out | refine below_set ?_ GE105.out) | exact HB.out)⟩⟩
       ·rw [if_neg c6] at H
        have c6b0 : (x9_1 == x12_2) = false := beq_eq_false_iff_ne.mpr c6
        have c6b1 : (x9_1 != x12_2) = true := bne_iff_ne.mpr c6
        by_cases c7 : 0 ≤ x9_1
        ·rw [if_pos c7] at H
         have c7b0 : decide (0 ≤ x9_1) = true := decide_eq_true c7
         clear c7
         by_cases c8 : x9_1 < 4
         ·rw [if_pos c8] at H
          have c8b0 : decide (x9_1 < 4) = true := decide_eq_true c8
          clear c8
          by_cases c9 : 0 ≤ x12_2
          ·rw [if_pos c9] at H
           have c9b0 : decide (0 ≤ x12_2) = true := decide_eq_true c9
           clear c9
           replace H := Option.bind_eq_some_iff.mp H
           obtain ⟨t106, A100, H⟩ := H
           replace H : (paths_sums.l1 k2 x9_1 x9_1 (wrap64 (x12_2 + 1)) a0_0 a0_1 a0_2 a0_3 a0_4 a0_5 a0_6 a0_7 a0_8 a0_9 a0_10 a0_11 a0_12 a0_13 a0_14 a0_15 (up (x9_1 == 0 && x12_2 == 0) t106 x106000_2) (up (x9_1 == 0 && x12_2 == 1) t106 x106001_2) (up (x9_1 == 0 && x12_2 == 2) t106 x106002_2) (up (x9_1 == 0 && x12_2 == 3) t106 x106003_2) (up (x9_1 == 1 && x12_2 == 0) t106 x106004_2) (up (x9_1 == 1 && x12_2 == 1) t106 x106005_2) (up (x9_1 == 1 && x12_2 == 2) t106 x106006_2) (up (x9_1 == 1 && x12_2 == 3) t106 x106007_2) (up (x9_1 == 2 && x12_2 == 0) t106 x106008_2) (up (x9_1 == 2 && x12_2 == 1) t106 x106009_2) (up (x9_1 == 2 && x12_2 == 2) t106 x106010_2) (up (x9_1 == 2 && x12_2 == 3) t106 x106011_2) (up (x9_1 == 3 && x12_2 == 0) t106 x106012_2) (up (x9_1 == 3 && x12_2 == 1) t106 x106013_2) (up (x9_1 == 3 && x12_2 == 2) t106 x106014_2) (up (x9_1 == 3 && x12_2 == 3) t106 x106015_2)) = some (r1, r2, r3, r4, r5, r6, r7, r8, r9, r10, r11, r12, r13, r14, r15, r16) := H
           have A10 := Aside0.mk A100
           clear A100
           have H' := Aside0.mk H
           clear H
           try go_wp2
           have n0_ := Aside0.mk (blk_drew BK103.out)
           have n1_ := Aside0.mk (blk_drew BK104.out)
           have n2_ := Aside0.mk (blk_drew BK105.out)
           have n3_ := Aside0.mk (below_drew1 HB.out)
           clear BK103
           clear BK104
           clear BK105
           clear HB
           have BK103 := n0_
           have BK104 := n1_
           have BK105 := n2_
           have HB := n3_
           clear n0_ n1_ n2_ n3_
           have p12 : (0 ≤ (x9_1 : Int)) = True := eq_true (of_decide_eq_true (by first | (with_reducible assumption) | assumption))
           have q12 : ((x9_1 : Int) < 4) = True := eq_true (of_decide_eq_true (by first | (with_reducible assumption) | assumption))
           have p13 : (0 ≤ (x12_2 : Int)) = True := eq_true (of_decide_eq_true (by first | (with_reducible assumption) | assumption))
           have q13 : ((x12_2 : Int) < 4) = True := eq_true (of_decide_eq_true (by first | (with_reducible assumption) | assumption))
           have p15 : (0 ≤ (x9_1 : Int)) = True := eq_true (of_decide_eq_true (by first | (with_reducible assumption) | assumption))
           have q15 : ((x9_1 : Int) < 4) = True := eq_true (of_decide_eq_true (by first | (with_reducible assumption) | assumption))
           refine start_ (n := 13) (S := fun w' => w'.cell? ⟨g0_, x9_1.toNat * 4 + x12_2.toNat, none⟩ = some (.int .i64 (ix4 (ix4 a0_0 a0_1 a0_2 a0_3 x12_2) (ix4 a0_4 a0_5 a0_6 a0_7 x12_2) (ix4 a0_8 a0_9 a0_10 a0_11 x12_2) (ix4 a0_12 a0_13 a0_14 a0_15 x12_2) x9_1))) (ds := []) #[false, false, false, false, false, false, false, false, false, false, false, false, false] (by kernel_rfl) rfl rfl ((blk_cell BK103.out (x9_1.toNat * 4 + x12_2.toNat)).trans (ix_44 (Value.int .i64) _ _ _ _ _ _ _ _ _ _ _ _ _ _ _ _ x9_1 x12_2  (of_decide_eq_true (by first | (with_reducible assumption) | assumption)) (of_decide_eq_true (by first | (with_reducible assumption) | assumption))  (of_decide_eq_true (by first | (with_reducible assumption) | assumption)) (of_decide_eq_true (by first | (with_reducible assumption) | assumption)))) (fun hHeld => ?_); refine with_tabW paths_sums.tab9 paths_sums.bits9 (fun HT_ HW_ => ?_)
           generalize wr.drew = w11 at BK103 BK104 BK105 HB hHeld ⊢
           refine pure_ (i := 0) (N := some 18) (v := ?_) (a' := ?_) #[true, false, false, false, false, false, false, false, false, false, false, false, false] rfl rfl (any_of HT_.out (by kernel_rfl)) (fun _ _ _ h => h) (Or.inl ⟨by rfl, ?_⟩) ?_ ?_
           rotate_left
           ·intro w'
            go_simp
            with_reducible rfl
           rotate_left
           ·simp only [Act.put, List.setIfInBounds_toArray, List.set_cons_zero, List.set_cons_succ, i64_w, i32_w]
            rfl
           refine pure_ (i := 1) (N := some 19) (v := ?_) (a' := ?_) #[true, true, false, false, false, false, false, false, false, false, false, false, false] rfl rfl (any_of HT_.out (by kernel_rfl)) (fun _ _ _ h => h) (Or.inl ⟨by rfl, ?_⟩) ?_ ?_
           rotate_left
           ·intro w'
            go_simp
            with_reducible rfl
           rotate_left
           ·simp only [Act.put, List.setIfInBounds_toArray, List.set_cons_zero, List.set_cons_succ, i64_w, i32_w]
            rfl
           refine pure_ (i := 2) (N := some 20) (v := ?_) (a' := ?_) #[true, true, true, false, false, false, false, false, false, false, false, false, false] rfl rfl (any_of HT_.out (by kernel_rfl)) (fun _ _ _ h => h) (Or.inl ⟨by rfl, ?_⟩) ?_ ?_
           rotate_left
           ·intro w'
            go_simp
            with_reducible rfl
           rotate_left
           ·simp only [Act.put, List.setIfInBounds_toArray, List.set_cons_zero, List.set_cons_succ, i64_w, i32_w]
            rfl
           refine pure_ (i := 3) (N := some 21) (v := ?_) (a' := ?_) #[true, true, true, true, false, false, false, false, false, false, false, false, false] rfl rfl (any_of HT_.out (by kernel_rfl)) (fun _ _ _ h => h) (Or.inl ⟨by rfl, ?_⟩) ?_ ?_
           rotate_left
           ·intro w'
            go_simp
            with_reducible rfl
           rotate_left
           ·simp only [Act.put, List.setIfInBounds_toArray, List.set_cons_zero, List.set_cons_succ, i64_w, i32_w]
            rfl
           refine pure_ (i := 4) (N := some 22) (v := ?_) (a' := ?_) #[true, true, true, true, true, false, false, false, false, false, false, false, false] rfl rfl (any_of HT_.out (by kernel_rfl)) (fun _ _ _ h => h) (Or.inl ⟨by rfl, ?_⟩) ?_ ?_
           rotate_left
           ·intro w'
            go_simp
            with_reducible rfl
           rotate_left
           ·simp only [Act.put, List.setIfInBounds_toArray, List.set_cons_zero, List.set_cons_succ, i64_w, i32_w]
            rfl
           refine pure_ (i := 5) (N := some 23) (v := ?_) (a' := ?_) #[true, true, true, true, true, true, false, false, false, false, false, false, false] rfl rfl (any_of HT_.out (by kernel_rfl)) (fun _ _ _ h => h) (Or.inl ⟨by rfl, ?_⟩) ?_ ?_
           rotate_left
           ·intro w'
            go_simp
            with_reducible rfl
           rotate_left
           ·simp only [Act.put, List.setIfInBounds_toArray, List.set_cons_zero, List.set_cons_succ, i64_w, i32_w]
            rfl
           refine pure_ (i := 6) (N := some 24) (v := ?_) (a' := ?_) #[true, true, true, true, true, true, true, false, false, false, false, false, false] rfl rfl (any_of HT_.out (by kernel_rfl)) (fun _ _ _ h => h) (Or.inl ⟨by rfl, ?_⟩) ?_ ?_
           rotate_left
           ·intro w'
            go_simp
            with_reducible rfl
           rotate_left
           ·simp only [Act.put, List.setIfInBounds_toArray, List.set_cons_zero, List.set_cons_succ, i64_w, i32_w]
            rfl
           refine pure_ (i := 7) (N := some 25) (v := ?_) (a' := ?_) #[true, true, true, true, true, true, true, true, false, false, false, false, false] rfl rfl (any_of HT_.out (by kernel_rfl)) (fun _ _ _ h => h) (Or.inl ⟨by rfl, ?_⟩) ?_ ?_
           rotate_left
           ·intro w'
            go_simp
            with_reducible rfl
           rotate_left
           ·simp only [Act.put, List.setIfInBounds_toArray, List.set_cons_zero, List.set_cons_succ, i64_w, i32_w]
            rfl
           refine pure_ (i := 10) (N := some 28) (v := ?_) (a' := ?_) #[true, true, true, true, true, true, true, true, false, false, true, false, false] rfl rfl (any_of HT_.out (by kernel_rfl)) (fun _ _ _ h => h) (Or.inl ⟨by rfl, ?_⟩) ?_ ?_
           rotate_left
           ·intro w'
            go_simp
            with_reducible rfl
           rotate_left
           ·simp only [Act.put, List.setIfInBounds_toArray, List.set_cons_zero, List.set_cons_succ, i64_w, i32_w]
            rfl
           refine take_ (i := 8) (N := some 26) (v := ?_) (a' := ?_) #[true, true, true, true, true, true, true, true, true, false, true, false, false] rfl rfl (take_ofW HT_.out HW_.out (by kernel_rfl)) (fun _ _ _ h => h) (Or.inl ⟨by rfl, ?_⟩) hHeld ?_ ?_
           rotate_left
           ·intro w' s0
            go_simp
            with_reducible rfl
           rotate_left
           ·simp only [Act.put, List.setIfInBounds_toArray, List.set_cons_zero, List.set_cons_succ, i64_w, i32_w]
            rfl
           refine one_ (i := 9) (N := some 27) #[true, true, true, true, true, true, true, true, true, true, true, false, false] rfl rfl (one_of HT_.out (by kernel_rfl)) (by decide) (fun K hK => ?_)
           refine goes_ Try.func36 (by kernel_rfl) rfl #[.int .i64 (ix4 (ix4 a0_0 a0_1 a0_2 a0_3 x12_2) (ix4 a0_4 a0_5 a0_6 a0_7 x12_2) (ix4 a0_8 a0_9 a0_10 a0_11 x12_2) (ix4 a0_12 a0_13 a0_14 a0_15 x12_2) x9_1)] (by rfl) rfl rfl (by (try simp only [List.map_toArray, List.map_cons, List.map_nil]); first | done | rfl | (simp only [List.length_drop, List.length_take]; rfl)) ?_
           with_reducible refine (paths_step.calls (ix4 (ix4 a0_0 a0_1 a0_2 a0_3 x12_2) (ix4 a0_4 a0_5 a0_6 a0_7 x12_2) (ix4 a0_8 a0_9 a0_10 a0_11 x12_2) (ix4 a0_12 a0_13 a0_14 a0_15 x12_2) x9_1) t106 _ A10.out).mono ?_
           rintro e w' ⟨rfl, ⟨nd, rfl⟩⟩
           refine ⟨_, rfl, ?_⟩
           have p16 : (0 ≤ (x12_2 : Int)) = True := eq_true (of_decide_eq_true (by first | (with_reducible assumption) | assumption))
           have q16 : ((x12_2 : Int) < 4) = True := eq_true (of_decide_eq_true (by first | (with_reducible assumption) | assumption))
           refine hK.out _ _ ((blk_cell BK103.out (x9_1.toNat * 4 + x12_2.toNat)).trans (ix_44 (Value.int .i64) _ _ _ _ _ _ _ _ _ _ _ _ _ _ _ _ x9_1 x12_2  (of_decide_eq_true (by first | (with_reducible assumption) | assumption)) (of_decide_eq_true (by first | (with_reducible assumption) | assumption))  (of_decide_eq_true (by first | (with_reducible assumption) | assumption)) (of_decide_eq_true (by first | (with_reducible assumption) | assumption)))) (fun hHeld => ?_)
           clear hK K
           refine norm_ (a' := ?_) ?_ ?_
           rotate_left
           ·show Act.put _ (some 27) _ = _
            simp only [Act.put, List.setIfInBounds_toArray, List.set_cons_zero, List.set_cons_succ, i64_w, i32_w]
            rfl
           refine pure_ (i := 11) (N := some 29) (v := ?_) (a' := ?_) #[true, true, true, true, true, true, true, true, true, true, true, true, false] rfl rfl (any_of HT_.out (by kernel_rfl)) (fun _ _ _ h => h) (Or.inl ⟨by rfl, ?_⟩) ?_ ?_
           rotate_left
           ·intro w'
            go_simp
            with_reducible rfl
           rotate_left
           ·simp only [Act.put, List.setIfInBounds_toArray, List.set_cons_zero, List.set_cons_succ, i64_w, i32_w]
            rfl
           refine one_ (i := 12) (N := none) #[true, true, true, true, true, true, true, true, true, true, true, true, true] rfl rfl (one_of HT_.out (by kernel_rfl)) (by decide) (fun K hK => ?_)
           have hs17 : w11.cell? ⟨gb105, x9_1.toNat * 4 + x12_2.toNat, none⟩ = some (.int .i64 (ix4 (ix4 x106000_2 x106001_2 x106002_2 x106003_2 x12_2) (ix4 x106004_2 x106005_2 x106006_2 x106007_2 x12_2) (ix4 x106008_2 x106009_2 x106010_2 x106011_2 x12_2) (ix4 x106012_2 x106013_2 x106014_2 x106015_2 x12_2) x9_1)) := (blk_cell BK105.out (x9_1.toNat * 4 + x12_2.toNat)).trans (ix_44 (Value.int .i64) _ _ _ _ _ _ _ _ _ _ _ _ _ _ _ _ x9_1 x12_2  (of_decide_eq_true (by first | (with_reducible assumption) | assumption)) (of_decide_eq_true (by first | (with_reducible assumption) | assumption))  (of_decide_eq_true (by first | (with_reducible assumption) | assumption)) (of_decide_eq_true (by first | (with_reducible assumption) | assumption)))
           have hfs17 := blk_frozen BK105.out (x9_1.toNat * 4 + x12_2.toNat)
           have hns17_0 := NB103_105.out
           have hns17_1 := NB104_105.out
           have hms17_0 := NB105_103.out
           have hms17_1 := NB105_104.out
           refine skip_ (w1 := ?_) (by rfl) rfl ?_ ?_
           rotate_left
           ·go_simp
            rfl
           refine hK.out _ _ (((cell_far (p := ⟨gb105, _, none⟩) NB103_105.out _).trans (hHeld))) (fun hHeld => ?_)
           clear hK K
           refine done_ (done_of HT_.out (by kernel_rfl)) ?_
           try go_wp2
           go_roundg k2
           case measure => have := HK1.out; have := HK2.out; omega
           case rel => exact ⟨(wrap64 (x12_2 + 1)), (up (x9_1 == 0 && x12_2 == 0) t106 x106000_2), (up (x9_1 == 0 && x12_2 == 1) t106 x106001_2), (up (x9_1 == 0 && x12_2 == 2) t106 x106002_2), (up (x9_1 == 0 && x12_2 == 3) t106 x106003_2), (up (x9_1 == 1 && x12_2 == 0) t106 x106004_2), (up (x9_1 == 1 && x12_2 == 1) t106 x106005_2), (up (x9_1 == 1 && x12_2 == 2) t106 x106006_2), (up (x9_1 == 1 && x12_2 == 3) t106 x106007_2), (up (x9_1 == 2 && x12_2 == 0) t106 x106008_2), (up (x9_1 == 2 && x12_2 == 1) t106 x106009_2), (up (x9_1 == 2 && x12_2 == 2) t106 x106010_2), (up (x9_1 == 2 && x12_2 == 3) t106 x106011_2), (up (x9_1 == 3 && x12_2 == 0) t106 x106012_2), (up (x9_1 == 3 && x12_2 == 1) t106 x106013_2), (up (x9_1 == 3 && x12_2 == 2) t106 x106014_2), (up (x9_1 == 3 && x12_2 == 3) t106 x106015_2), (by first | rfl | (simp; done) | (simp [*]; done)), H', ⟨by have := HK1.out; have := HK2.out; omega⟩, ⟨by (with_reducible repeat (first | refine blk_drewN ?_ _ | refine blk_drew ?_ | refine blk_alloc ?_ _)); refine blk_far ?_ NB103_105.out _; (with_reducible repeat (first | refine blk_drewN ?_ _ | refine blk_drew ?_ | refine blk_alloc ?_ _)); exact BK103.out⟩, ⟨by (with_reducible repeat (first | refine blk_drewN ?_ _ | refine blk_drew ?_ | refine blk_alloc ?_ _)); refine blk_far ?_ NB104_105.out _; (with_reducible repeat (first | refine blk_drewN ?_ _ | refine blk_drew ?_ | refine blk_alloc ?_ _)); exact BK104.out⟩, ⟨by (with_reducible repeat (first | refine blk_drewN ?_ _ | refine blk_drew ?_ | refine blk_alloc ?_ _)); refine blk_put (cs := #[.int .i64 x106000_2, .int .i64 x106001_2, .int .i64 x106002_2, .int .i64 x106003_2, .int .i64 x106004_2, .int .i64 x106005_2, .int .i64 x106006_2, .int .i64 x106007_2, .int .i64 x106008_2, .int .i64 x106009_2, .int .i64 x106010_2, .int .i64 x106011_2, .int .i64 x106012_2, .int .i64 x106013_2, .int .i64 x106014_2, .int .i64 x106015_2]) ?_ (x9_1.toNat * 4 + x12_2.toNat) _ (up_44 (Value.int .i64) _ _ _ _ _ _ _ _ _ _ _ _ _ _ _ _ x9_1 x12_2 t106 (of_decide_eq_true (by first | (with_reducible assumption) | assumption)) (of_decide_eq_true (by first | (with_reducible assumption) | assumption)) (of_decide_eq_true (by first | (with_reducible assumption) | assumption)) (of_decide_eq_true (by first | (with_reducible assumption) | assumption))); (with_reducible repeat (first | refine blk_drewN ?_ _ | refine blk_drew ?_ | refine blk_alloc ?_ _)); exact BK105.out⟩, ⟨by repeat (first | (with_reducible first | exact HB.out | apply below_alloc | apply pw_below_drewN | apply below_drew1 | refine below_set ?_ GE103.out | refine below_set ?_ GE104.out | refine below_set ?_ GE105.out) | exact HB.out)⟩⟩
          ·rw [if_neg c9] at H
           exact absurd H (by simp)
         ·rw [if_neg c8] at H
          exact absurd H (by simp)
        ·rw [if_neg c7] at H
         exact absurd H (by simp)
      ·rw [if_neg c5] at H
       have c5b0 : decide (x12_2 < 4) = false := decide_eq_false c5
       clear c5
       have H' := Aside0.mk H
       clear H
       go_wp2
       go_roundg k2
       case measure => have := HK1.out; have := HK2.out; omega
       case rel => exact ⟨(wrap64 (x9_1 + 1)), (x106000_2), (x106001_2), (x106002_2), (x106003_2), (x106004_2), (x106005_2), (x106006_2), (x106007_2), (x106008_2), (x106009_2), (x106010_2), (x106011_2), (x106012_2), (x106013_2), (x106014_2), (x106015_2), (by first | rfl | (simp; done) | (simp [*]; done)), H', ⟨by have := HK1.out; have := HK2.out; omega⟩, ⟨by (with_reducible repeat (first | refine blk_drewN ?_ _ | refine blk_drew ?_ | refine blk_alloc ?_ _)); exact BK103.out⟩, ⟨by (with_reducible repeat (first | refine blk_drewN ?_ _ | refine blk_drew ?_ | refine blk_alloc ?_ _)); exact BK104.out⟩, ⟨by (with_reducible repeat (first | refine blk_drewN ?_ _ | refine blk_drew ?_ | refine blk_alloc ?_ _)); exact BK105.out⟩, ⟨by repeat (first | (with_reducible first | exact HB.out | apply below_alloc | apply pw_below_drewN | apply below_drew1 | refine below_set ?_ GE103.out | refine below_set ?_ GE104.out | refine below_set ?_ GE105.out) | exact HB.out)⟩⟩
   ·rw [if_neg c4] at H
    have c4b0 : decide (x9_1 < 4) = false := decide_eq_false c4
    clear c4
    have H' := Aside0.mk H
    clear H
    go_wp2
    go_loopg [32] k1 (fun kq v32 w' => ∃ (x32_2 : Int) (x106000_2 : Int) (x106001_2 : Int) (x106002_2 : Int) (x106003_2 : Int) (x106004_2 : Int) (x106005_2 : Int) (x106006_2 : Int) (x106007_2 : Int) (x106008_2 : Int) (x106009_2 : Int) (x106010_2 : Int) (x106011_2 : Int) (x106012_2 : Int) (x106013_2 : Int) (x106014_2 : Int) (x106015_2 : Int), v32 = .int .i64 x32_2 ∧ Aside0 (paths_sums.l2 kq x32_2 x106000_2 x106001_2 x106002_2 x106003_2 x106004_2 x106005_2 x106006_2 x106007_2 x106008_2 x106009_2 x106010_2 x106011_2 x106012_2 x106013_2 x106014_2 x106015_2 = some (r1, r2, r3, r4, r5, r6, r7, r8, r9, r10, r11, r12, r13, r14, r15, r16)) ∧ Aside0 (kq ≤ k1) ∧ Aside0 (w'.heap[g0_]? = some (.cells #[.int .i64 a0_0, .int .i64 a0_1, .int .i64 a0_2, .int .i64 a0_3, .int .i64 a0_4, .int .i64 a0_5, .int .i64 a0_6, .int .i64 a0_7, .int .i64 a0_8, .int .i64 a0_9, .int .i64 a0_10, .int .i64 a0_11, .int .i64 a0_12, .int .i64 a0_13, .int .i64 a0_14, .int .i64 a0_15] 23 (0, 0))) ∧ Aside0 (w'.heap[gb104]? = some (.cells #[.int .i64 0, .int .i64 0, .int .i64 0, .int .i64 0, .int .i64 0, .int .i64 0, .int .i64 0, .int .i64 0, .int .i64 0, .int .i64 0, .int .i64 0, .int .i64 0, .int .i64 0, .int .i64 0, .int .i64 0, .int .i64 0] 23 (0, 0))) ∧ Aside0 (w'.heap[gb105]? = some (.cells #[.int .i64 x106000_2, .int .i64 x106001_2, .int .i64 x106002_2, .int .i64 x106003_2, .int .i64 x106004_2, .int .i64 x106005_2, .int .i64 x106006_2, .int .i64 x106007_2, .int .i64 x106008_2, .int .i64 x106009_2, .int .i64 x106010_2, .int .i64 x106011_2, .int .i64 x106012_2, .int .i64 x106013_2, .int .i64 x106014_2, .int .i64 x106015_2] 23 (0, 0))) ∧ Aside0 (Below w.heap.size w w'))
    case atStart => exact ⟨(0), (x106000_1), (x106001_1), (x106002_1), (x106003_1), (x106004_1), (x106005_1), (x106006_1), (x106007_1), (x106008_1), (x106009_1), (x106010_1), (x106011_1), (x106012_1), (x106013_1), (x106014_1), (x106015_1), (by first | rfl | (simp; done) | (simp [*]; done)), H', ⟨Nat.le_refl _⟩, ⟨by (with_reducible repeat (first | refine blk_drewN ?_ _ | refine blk_drew ?_ | refine blk_alloc ?_ _)); exact BK103.out⟩, ⟨by (with_reducible repeat (first | refine blk_drewN ?_ _ | refine blk_drew ?_ | refine blk_alloc ?_ _)); exact BK104.out⟩, ⟨by (with_reducible repeat (first | refine blk_drewN ?_ _ | refine blk_drew ?_ | refine blk_alloc ?_ _)); exact BK105.out⟩, ⟨by repeat (first | (with_reducible first | exact HB.out | apply below_alloc | apply pw_below_drewN | apply below_drew1 | refine below_set ?_ GE103.out | refine below_set ?_ GE104.out | refine below_set ?_ GE105.out) | exact HB.out)⟩⟩
    case round =>
     clear H'
     try clear p1
     try clear q1
     try clear c2
     try clear p2
     try clear c3
     try clear c4
     try clear c4b0
     try clear c5
     try clear c5b0
     try clear c6
     try clear c6b0
     try clear c6b1
     try clear p6
     try clear c7
     try clear c7b0
     try clear c8
     try clear c8b0
     try clear c9
     try clear c9b0
     try clear p12
     try clear q12
     try clear p13
     try clear q13
     try clear p15
     try clear q15
     try clear p16
     try clear q16
     try clear p12
     try clear p13
     try clear p15
     try clear p16
     try clear p2
     try clear q12
     try clear q13
     try clear q15
     try clear q16
     obtain ⟨x32_2, x106000_2, x106001_2, x106002_2, x106003_2, x106004_2, x106005_2, x106006_2, x106007_2, x106008_2, x106009_2, x106010_2, x106011_2, x106012_2, x106013_2, x106014_2, x106015_2, rfl, HA, HK2, BK103, BK104, BK105, HB⟩ := hrel
     cases gk with
     | zero => exact absurd HA.out (by simp [paths_sums.l2])
     | succ k2 =>
      have H := HA.out
      clear HA
      simp only [paths_sums.l2] at H
      by_cases c18 : x32_2 < 4
      ·rw [if_pos c18] at H
       have c18b0 : decide (x32_2 < 4) = true := decide_eq_true c18
       clear c18
       have H' := Aside0.mk H
       clear H
       go_wp2
       go_loopg [35] k2 (fun kq v35 w' => ∃ (x35_3 : Int) (x106000_3 : Int) (x106001_3 : Int) (x106002_3 : Int) (x106003_3 : Int) (x106004_3 : Int) (x106005_3 : Int) (x106006_3 : Int) (x106007_3 : Int) (x106008_3 : Int) (x106009_3 : Int) (x106010_3 : Int) (x106011_3 : Int) (x106012_3 : Int) (x106013_3 : Int) (x106014_3 : Int) (x106015_3 : Int), v35 = .int .i64 x35_3 ∧ Aside0 (paths_sums.l3 kq x32_2 x32_2 x35_3 x106000_3 x106001_3 x106002_3 x106003_3 x106004_3 x106005_3 x106006_3 x106007_3 x106008_3 x106009_3 x106010_3 x106011_3 x106012_3 x106013_3 x106014_3 x106015_3 = some (r1, r2, r3, r4, r5, r6, r7, r8, r9, r10, r11, r12, r13, r14, r15, r16)) ∧ Aside0 (kq ≤ k2) ∧ Aside0 (w'.heap[g0_]? = some (.cells #[.int .i64 a0_0, .int .i64 a0_1, .int .i64 a0_2, .int .i64 a0_3, .int .i64 a0_4, .int .i64 a0_5, .int .i64 a0_6, .int .i64 a0_7, .int .i64 a0_8, .int .i64 a0_9, .int .i64 a0_10, .int .i64 a0_11, .int .i64 a0_12, .int .i64 a0_13, .int .i64 a0_14, .int .i64 a0_15] 23 (0, 0))) ∧ Aside0 (w'.heap[gb104]? = some (.cells #[.int .i64 0, .int .i64 0, .int .i64 0, .int .i64 0, .int .i64 0, .int .i64 0, .int .i64 0, .int .i64 0, .int .i64 0, .int .i64 0, .int .i64 0, .int .i64 0, .int .i64 0, .int .i64 0, .int .i64 0, .int .i64 0] 23 (0, 0))) ∧ Aside0 (w'.heap[gb105]? = some (.cells #[.int .i64 x106000_3, .int .i64 x106001_3, .int .i64 x106002_3, .int .i64 x106003_3, .int .i64 x106004_3, .int .i64 x106005_3, .int .i64 x106006_3, .int .i64 x106007_3, .int .i64 x106008_3, .int .i64 x106009_3, .int .i64 x106010_3, .int .i64 x106011_3, .int .i64 x106012_3, .int .i64 x106013_3, .int .i64 x106014_3, .int .i64 x106015_3] 23 (0, 0))) ∧ Aside0 (Below w.heap.size w w'))
       case atStart => exact ⟨(0), (x106000_2), (x106001_2), (x106002_2), (x106003_2), (x106004_2), (x106005_2), (x106006_2), (x106007_2), (x106008_2), (x106009_2), (x106010_2), (x106011_2), (x106012_2), (x106013_2), (x106014_2), (x106015_2), (by first | rfl | (simp; done) | (simp [*]; done)), H', ⟨Nat.le_refl _⟩, ⟨by (with_reducible repeat (first | refine blk_drewN ?_ _ | refine blk_drew ?_ | refine blk_alloc ?_ _)); exact BK103.out⟩, ⟨by (with_reducible repeat (first | refine blk_drewN ?_ _ | refine blk_drew ?_ | refine blk_alloc ?_ _)); exact BK104.out⟩, ⟨by (with_reducible repeat (first | refine blk_drewN ?_ _ | refine blk_drew ?_ | refine blk_alloc ?_ _)); exact BK105.out⟩, ⟨by repeat (first | (with_reducible first | exact HB.out | apply below_alloc | apply pw_below_drewN | apply below_drew1 | refine below_set ?_ GE103.out | refine below_set ?_ GE104.out | refine below_set ?_ GE105.out) | exact HB.out)⟩⟩
       case round =>
        clear H'
        try clear c1
        try clear p1
        try clear q1
        try clear c2
        try clear p2
        try clear c3
        try clear c4
        try clear c4b0
        try clear c5
        try clear c5b0
        try clear c6
        try clear c6b0
        try clear c6b1
        try clear p6
        try clear c7
        try clear c7b0
        try clear c8
        try clear c8b0
        try clear c9
        try clear c9b0
        try clear p12
        try clear q12
        try clear p13
        try clear q13
        try clear p15
        try clear q15
        try clear p16
        try clear q16
        try clear c18
        try clear c18b0
        try clear p1
        try clear p12
        try clear p13
        try clear p15
        try clear p16
        try clear p2
        try clear p6
        try clear q1
        try clear q12
        try clear q13
        try clear q15
        try clear q16
        obtain ⟨x35_3, x106000_3, x106001_3, x106002_3, x106003_3, x106004_3, x106005_3, x106006_3, x106007_3, x106008_3, x106009_3, x106010_3, x106011_3, x106012_3, x106013_3, x106014_3, x106015_3, rfl, HA, HK3, BK103, BK104, BK105, HB⟩ := hrel
        cases gk with
        | zero => exact absurd HA.out (by simp [paths_sums.l3])
        | succ k3 =>
         have H := HA.out
         clear HA
         simp only [paths_sums.l3] at H
         by_cases c19 : x35_3 < 4
         ·rw [if_pos c19] at H
          have c19b0 : decide (x35_3 < 4) = true := decide_eq_true c19
          clear c19
          have H' := Aside0.mk H
          clear H
          go_wp2
          go_loopg [38] k3 (fun kq v38 w' => ∃ (x38_4 : Int) (x106000_4 : Int) (x106001_4 : Int) (x106002_4 : Int) (x106003_4 : Int) (x106004_4 : Int) (x106005_4 : Int) (x106006_4 : Int) (x106007_4 : Int) (x106008_4 : Int) (x106009_4 : Int) (x106010_4 : Int) (x106011_4 : Int) (x106012_4 : Int) (x106013_4 : Int) (x106014_4 : Int) (x106015_4 : Int), v38 = .int .i64 x38_4 ∧ Aside0 (paths_sums.l4 kq x32_2 x35_3 x32_2 x35_3 x38_4 x106000_4 x106001_4 x106002_4 x106003_4 x106004_4 x106005_4 x106006_4 x106007_4 x106008_4 x106009_4 x106010_4 x106011_4 x106012_4 x106013_4 x106014_4 x106015_4 = some (r1, r2, r3, r4, r5, r6, r7, r8, r9, r10, r11, r12, r13, r14, r15, r16)) ∧ Aside0 (kq ≤ k3) ∧ Aside0 (w'.heap[g0_]? = some (.cells #[.int .i64 a0_0, .int .i64 a0_1, .int .i64 a0_2, .int .i64 a0_3, .int .i64 a0_4, .int .i64 a0_5, .int .i64 a0_6, .int .i64 a0_7, .int .i64 a0_8, .int .i64 a0_9, .int .i64 a0_10, .int .i64 a0_11, .int .i64 a0_12, .int .i64 a0_13, .int .i64 a0_14, .int .i64 a0_15] 23 (0, 0))) ∧ Aside0 (w'.heap[gb104]? = some (.cells #[.int .i64 0, .int .i64 0, .int .i64 0, .int .i64 0, .int .i64 0, .int .i64 0, .int .i64 0, .int .i64 0, .int .i64 0, .int .i64 0, .int .i64 0, .int .i64 0, .int .i64 0, .int .i64 0, .int .i64 0, .int .i64 0] 23 (0, 0))) ∧ Aside0 (w'.heap[gb105]? = some (.cells #[.int .i64 x106000_4, .int .i64 x106001_4, .int .i64 x106002_4, .int .i64 x106003_4, .int .i64 x106004_4, .int .i64 x106005_4, .int .i64 x106006_4, .int .i64 x106007_4, .int .i64 x106008_4, .int .i64 x106009_4, .int .i64 x106010_4, .int .i64 x106011_4, .int .i64 x106012_4, .int .i64 x106013_4, .int .i64 x106014_4, .int .i64 x106015_4] 23 (0, 0))) ∧ Aside0 (Below w.heap.size w w'))
          case atStart => exact ⟨(0), (x106000_3), (x106001_3), (x106002_3), (x106003_3), (x106004_3), (x106005_3), (x106006_3), (x106007_3), (x106008_3), (x106009_3), (x106010_3), (x106011_3), (x106012_3), (x106013_3), (x106014_3), (x106015_3), (by first | rfl | (simp; done) | (simp [*]; done)), H', ⟨Nat.le_refl _⟩, ⟨by (with_reducible repeat (first | refine blk_drewN ?_ _ | refine blk_drew ?_ | refine blk_alloc ?_ _)); exact BK103.out⟩, ⟨by (with_reducible repeat (first | refine blk_drewN ?_ _ | refine blk_drew ?_ | refine blk_alloc ?_ _)); exact BK104.out⟩, ⟨by (with_reducible repeat (first | refine blk_drewN ?_ _ | refine blk_drew ?_ | refine blk_alloc ?_ _)); exact BK105.out⟩, ⟨by repeat (first | (with_reducible first | exact HB.out | apply below_alloc | apply pw_below_drewN | apply below_drew1 | refine below_set ?_ GE103.out | refine below_set ?_ GE104.out | refine below_set ?_ GE105.out) | exact HB.out)⟩⟩
          case round =>
           clear H'
           try clear c1
           try clear p1
           try clear q1
           try clear c2
           try clear p2
           try clear c3
           try clear c4
           try clear c4b0
           try clear c5
           try clear c5b0
           try clear c6
           try clear c6b0
           try clear c6b1
           try clear p6
           try clear c7
           try clear c7b0
           try clear c8
           try clear c8b0
           try clear c9
           try clear c9b0
           try clear p12
           try clear q12
           try clear p13
           try clear q13
           try clear p15
           try clear q15
           try clear p16
           try clear q16
           try clear c18
           try clear c18b0
           try clear c19
           try clear c19b0
           try clear p1
           try clear p12
           try clear p13
           try clear p15
           try clear p16
           try clear p2
           try clear p6
           try clear q1
           try clear q12
           try clear q13
           try clear q15
           try clear q16
           obtain ⟨x38_4, x106000_4, x106001_4, x106002_4, x106003_4, x106004_4, x106005_4, x106006_4, x106007_4, x106008_4, x106009_4, x106010_4, x106011_4, x106012_4, x106013_4, x106014_4, x106015_4, rfl, HA, HK4, BK103, BK104, BK105, HB⟩ := hrel
           cases gk with
           | zero => exact absurd HA.out (by simp [paths_sums.l4])
           | succ k4 =>
            have H := HA.out
            clear HA
            simp only [paths_sums.l4] at H
            by_cases c20 : x38_4 < 4
            ·rw [if_pos c20] at H
             have c20b0 : decide (x38_4 < 4) = true := decide_eq_true c20
             clear c20
             by_cases c21 : 0 ≤ x35_3
             ·rw [if_pos c21] at H
              have c21b0 : decide (0 ≤ x35_3) = true := decide_eq_true c21
              clear c21
              by_cases c22 : x35_3 < 4
              ·rw [if_pos c22] at H
               have c22b0 : decide (x35_3 < 4) = true := decide_eq_true c22
               clear c22
               by_cases c23 : 0 ≤ x38_4
               ·rw [if_pos c23] at H
                have c23b0 : decide (0 ≤ x38_4) = true := decide_eq_true c23
                clear c23
                by_cases c24 : 0 ≤ x32_2
                ·rw [if_pos c24] at H
                 have c24b0 : decide (0 ≤ x32_2) = true := decide_eq_true c24
                 clear c24
                 by_cases c25 : x32_2 < 4
                 ·rw [if_pos c25] at H
                  have c25b0 : decide (x32_2 < 4) = true := decide_eq_true c25
                  clear c25
                  obtain ⟨ji26, hji26⟩ : ∃ j_ : Int, (mn (ix4 (ix4 x106000_4 x106001_4 x106002_4 x106003_4 x38_4) (ix4 x106004_4 x106005_4 x106006_4 x106007_4 x38_4) (ix4 x106008_4 x106009_4 x106010_4 x106011_4 x38_4) (ix4 x106012_4 x106013_4 x106014_4 x106015_4 x38_4) x35_3) (wrap64 ((ix4 (ix4 x106000_4 x106001_4 x106002_4 x106003_4 x32_2) (ix4 x106004_4 x106005_4 x106006_4 x106007_4 x32_2) (ix4 x106008_4 x106009_4 x106010_4 x106011_4 x32_2) (ix4 x106012_4 x106013_4 x106014_4 x106015_4 x32_2) x35_3) + (ix4 (ix4 x106000_4 x106001_4 x106002_4 x106003_4 x38_4) (ix4 x106004_4 x106005_4 x106006_4 x106007_4 x38_4) (ix4 x106008_4 x106009_4 x106010_4 x106011_4 x38_4) (ix4 x106012_4 x106013_4 x106014_4 x106015_4 x38_4) x32_2)))) = j_ := ⟨_, rfl⟩
                  replace H : (paths_sums.l4 k4 x32_2 x35_3 x32_2 x35_3 (wrap64 (x38_4 + 1)) (up (x35_3 == 0 && x38_4 == 0) (ji26) x106000_4) (up (x35_3 == 0 && x38_4 == 1) (ji26) x106001_4) (up (x35_3 == 0 && x38_4 == 2) (ji26) x106002_4) (up (x35_3 == 0 && x38_4 == 3) (ji26) x106003_4) (up (x35_3 == 1 && x38_4 == 0) (ji26) x106004_4) (up (x35_3 == 1 && x38_4 == 1) (ji26) x106005_4) (up (x35_3 == 1 && x38_4 == 2) (ji26) x106006_4) (up (x35_3 == 1 && x38_4 == 3) (ji26) x106007_4) (up (x35_3 == 2 && x38_4 == 0) (ji26) x106008_4) (up (x35_3 == 2 && x38_4 == 1) (ji26) x106009_4) (up (x35_3 == 2 && x38_4 == 2) (ji26) x106010_4) (up (x35_3 == 2 && x38_4 == 3) (ji26) x106011_4) (up (x35_3 == 3 && x38_4 == 0) (ji26) x106012_4) (up (x35_3 == 3 && x38_4 == 1) (ji26) x106013_4) (up (x35_3 == 3 && x38_4 == 2) (ji26) x106014_4) (up (x35_3 == 3 && x38_4 == 3) (ji26) x106015_4)) = some (r1, r2, r3, r4, r5, r6, r7, r8, r9, r10, r11, r12, r13, r14, r15, r16) := by first | (rw [hji26] at H; exact H) | (simp only [hji26] at H ⊢; exact H)
                  have hji26_ : (if (wrap64 ((ix4 (ix4 x106000_4 x106001_4 x106002_4 x106003_4 x32_2) (ix4 x106004_4 x106005_4 x106006_4 x106007_4 x32_2) (ix4 x106008_4 x106009_4 x106010_4 x106011_4 x32_2) (ix4 x106012_4 x106013_4 x106014_4 x106015_4 x32_2) x35_3) + (ix4 (ix4 x106000_4 x106001_4 x106002_4 x106003_4 x38_4) (ix4 x106004_4 x106005_4 x106006_4 x106007_4 x38_4) (ix4 x106008_4 x106009_4 x106010_4 x106011_4 x38_4) (ix4 x106012_4 x106013_4 x106014_4 x106015_4 x38_4) x32_2))) < (ix4 (ix4 x106000_4 x106001_4 x106002_4 x106003_4 x38_4) (ix4 x106004_4 x106005_4 x106006_4 x106007_4 x38_4) (ix4 x106008_4 x106009_4 x106010_4 x106011_4 x38_4) (ix4 x106012_4 x106013_4 x106014_4 x106015_4 x38_4) x35_3) then (wrap64 ((ix4 (ix4 x106000_4 x106001_4 x106002_4 x106003_4 x32_2) (ix4 x106004_4 x106005_4 x106006_4 x106007_4 x32_2) (ix4 x106008_4 x106009_4 x106010_4 x106011_4 x32_2) (ix4 x106012_4 x106013_4 x106014_4 x106015_4 x32_2) x35_3) + (ix4 (ix4 x106000_4 x106001_4 x106002_4 x106003_4 x38_4) (ix4 x106004_4 x106005_4 x106006_4 x106007_4 x38_4) (ix4 x106008_4 x106009_4 x106010_4 x106011_4 x38_4) (ix4 x106012_4 x106013_4 x106014_4 x106015_4 x38_4) x32_2))) else (ix4 (ix4 x106000_4 x106001_4 x106002_4 x106003_4 x38_4) (ix4 x106004_4 x106005_4 x106006_4 x106007_4 x38_4) (ix4 x106008_4 x106009_4 x106010_4 x106011_4 x38_4) (ix4 x106012_4 x106013_4 x106014_4 x106015_4 x38_4) x35_3)) = ji26 := hji26
                  have H' := Aside0.mk H
                  clear H
                  try go_wp2
                  have n0_ := Aside0.mk (blk_drew BK103.out)
                  have n1_ := Aside0.mk (blk_drew BK104.out)
                  have n2_ := Aside0.mk (blk_drew BK105.out)
                  have n3_ := Aside0.mk (below_drew1 HB.out)
                  clear BK103
                  clear BK104
                  clear BK105
                  clear HB
                  have BK103 := n0_
                  have BK104 := n1_
                  have BK105 := n2_
                  have HB := n3_
                  clear n0_ n1_ n2_ n3_
                  have p28 : (0 ≤ (x35_3 : Int)) = True := eq_true (of_decide_eq_true (by first | (with_reducible assumption) | assumption))
                  have q28 : ((x35_3 : Int) < 4) = True := eq_true (of_decide_eq_true (by first | (with_reducible assumption) | assumption))
                  have p29 : (0 ≤ (x38_4 : Int)) = True := eq_true (of_decide_eq_true (by first | (with_reducible assumption) | assumption))
                  have q29 : ((x38_4 : Int) < 4) = True := eq_true (of_decide_eq_true (by first | (with_reducible assumption) | assumption))
                  have p31 : (0 ≤ (x35_3 : Int)) = True := eq_true (of_decide_eq_true (by first | (with_reducible assumption) | assumption))
                  have q31 : ((x35_3 : Int) < 4) = True := eq_true (of_decide_eq_true (by first | (with_reducible assumption) | assumption))
                  have p32 : (0 ≤ (x32_2 : Int)) = True := eq_true (of_decide_eq_true (by first | (with_reducible assumption) | assumption))
                  have q32 : ((x32_2 : Int) < 4) = True := eq_true (of_decide_eq_true (by first | (with_reducible assumption) | assumption))
                  have p34 : (0 ≤ (x32_2 : Int)) = True := eq_true (of_decide_eq_true (by first | (with_reducible assumption) | assumption))
                  have q34 : ((x32_2 : Int) < 4) = True := eq_true (of_decide_eq_true (by first | (with_reducible assumption) | assumption))
                  have p35 : (0 ≤ (x38_4 : Int)) = True := eq_true (of_decide_eq_true (by first | (with_reducible assumption) | assumption))
                  have q35 : ((x38_4 : Int) < 4) = True := eq_true (of_decide_eq_true (by first | (with_reducible assumption) | assumption))
                  have p37 : (0 ≤ (x35_3 : Int)) = True := eq_true (of_decide_eq_true (by first | (with_reducible assumption) | assumption))
                  have q37 : ((x35_3 : Int) < 4) = True := eq_true (of_decide_eq_true (by first | (with_reducible assumption) | assumption))
                  have p38 : (0 ≤ (x38_4 : Int)) = True := eq_true (of_decide_eq_true (by first | (with_reducible assumption) | assumption))
                  have q38 : ((x38_4 : Int) < 4) = True := eq_true (of_decide_eq_true (by first | (with_reducible assumption) | assumption))
                  refine start_ (n := 22) (S := fun w' => w'.cell? ⟨gb105, x35_3.toNat * 4 + x38_4.toNat, none⟩ = some (.int .i64 (ix4 (ix4 x106000_4 x106001_4 x106002_4 x106003_4 x38_4) (ix4 x106004_4 x106005_4 x106006_4 x106007_4 x38_4) (ix4 x106008_4 x106009_4 x106010_4 x106011_4 x38_4) (ix4 x106012_4 x106013_4 x106014_4 x106015_4 x38_4) x35_3)) ∧ w'.cell? ⟨gb105, x35_3.toNat * 4 + x32_2.toNat, none⟩ = some (.int .i64 (ix4 (ix4 x106000_4 x106001_4 x106002_4 x106003_4 x32_2) (ix4 x106004_4 x106005_4 x106006_4 x106007_4 x32_2) (ix4 x106008_4 x106009_4 x106010_4 x106011_4 x32_2) (ix4 x106012_4 x106013_4 x106014_4 x106015_4 x32_2) x35_3)) ∧ w'.cell? ⟨gb105, x32_2.toNat * 4 + x38_4.toNat, none⟩ = some (.int .i64 (ix4 (ix4 x106000_4 x106001_4 x106002_4 x106003_4 x38_4) (ix4 x106004_4 x106005_4 x106006_4 x106007_4 x38_4) (ix4 x106008_4 x106009_4 x106010_4 x106011_4 x38_4) (ix4 x106012_4 x106013_4 x106014_4 x106015_4 x38_4) x32_2))) (ds := [21]) #[false, false, false, false, false, false, false, false, false, false, false, false, false, false, false, false, false, false, false, false, false, false] (by kernel_rfl) rfl rfl ⟨(blk_cell BK105.out (x35_3.toNat * 4 + x38_4.toNat)).trans (ix_44 (Value.int .i64) _ _ _ _ _ _ _ _ _ _ _ _ _ _ _ _ x35_3 x38_4  (of_decide_eq_true (by first | (with_reducible assumption) | assumption)) (of_decide_eq_true (by first | (with_reducible assumption) | assumption))  (of_decide_eq_true (by first | (with_reducible assumption) | assumption)) (of_decide_eq_true (by first | (with_reducible assumption) | assumption))), (blk_cell BK105.out (x35_3.toNat * 4 + x32_2.toNat)).trans (ix_44 (Value.int .i64) _ _ _ _ _ _ _ _ _ _ _ _ _ _ _ _ x35_3 x32_2  (of_decide_eq_true (by first | (with_reducible assumption) | assumption)) (of_decide_eq_true (by first | (with_reducible assumption) | assumption))  (of_decide_eq_true (by first | (with_reducible assumption) | assumption)) (of_decide_eq_true (by first | (with_reducible assumption) | assumption))), (blk_cell BK105.out (x32_2.toNat * 4 + x38_4.toNat)).trans (ix_44 (Value.int .i64) _ _ _ _ _ _ _ _ _ _ _ _ _ _ _ _ x32_2 x38_4  (of_decide_eq_true (by first | (with_reducible assumption) | assumption)) (of_decide_eq_true (by first | (with_reducible assumption) | assumption))  (of_decide_eq_true (by first | (with_reducible assumption) | assumption)) (of_decide_eq_true (by first | (with_reducible assumption) | assumption)))⟩ (fun hHeld => ?_); refine with_tabW paths_sums.tab21 paths_sums.bits21 (fun HT_ HW_ => ?_)
                  generalize wr.drew = w27 at BK103 BK104 BK105 HB hHeld ⊢
                  refine pure_ (i := 0) (N := some 41) (v := ?_) (a' := ?_) #[true, false, false, false, false, false, false, false, false, false, false, false, false, false, false, false, false, false, false, false, false, false] rfl rfl (any_of HT_.out (by kernel_rfl)) (fun _ _ _ h => h) (Or.inl ⟨by rfl, ?_⟩) ?_ ?_
                  rotate_left
                  ·intro w'
                   go_simp
                   with_reducible rfl
                  rotate_left
                  ·simp only [Act.put, List.setIfInBounds_toArray, List.set_cons_zero, List.set_cons_succ, i64_w, i32_w]
                   rfl
                  refine pure_ (i := 1) (N := some 42) (v := ?_) (a' := ?_) #[true, true, false, false, false, false, false, false, false, false, false, false, false, false, false, false, false, false, false, false, false, false] rfl rfl (any_of HT_.out (by kernel_rfl)) (fun _ _ _ h => h) (Or.inl ⟨by rfl, ?_⟩) ?_ ?_
                  rotate_left
                  ·intro w'
                   go_simp
                   with_reducible rfl
                  rotate_left
                  ·simp only [Act.put, List.setIfInBounds_toArray, List.set_cons_zero, List.set_cons_succ, i64_w, i32_w]
                   rfl
                  refine pure_ (i := 2) (N := some 43) (v := ?_) (a' := ?_) #[true, true, true, false, false, false, false, false, false, false, false, false, false, false, false, false, false, false, false, false, false, false] rfl rfl (any_of HT_.out (by kernel_rfl)) (fun _ _ _ h => h) (Or.inl ⟨by rfl, ?_⟩) ?_ ?_
                  rotate_left
                  ·intro w'
                   go_simp
                   with_reducible rfl
                  rotate_left
                  ·simp only [Act.put, List.setIfInBounds_toArray, List.set_cons_zero, List.set_cons_succ, i64_w, i32_w]
                   rfl
                  refine pure_ (i := 3) (N := some 44) (v := ?_) (a' := ?_) #[true, true, true, true, false, false, false, false, false, false, false, false, false, false, false, false, false, false, false, false, false, false] rfl rfl (any_of HT_.out (by kernel_rfl)) (fun _ _ _ h => h) (Or.inl ⟨by rfl, ?_⟩) ?_ ?_
                  rotate_left
                  ·intro w'
                   go_simp
                   with_reducible rfl
                  rotate_left
                  ·simp only [Act.put, List.setIfInBounds_toArray, List.set_cons_zero, List.set_cons_succ, i64_w, i32_w]
                   rfl
                  refine pure_ (i := 4) (N := some 45) (v := ?_) (a' := ?_) #[true, true, true, true, true, false, false, false, false, false, false, false, false, false, false, false, false, false, false, false, false, false] rfl rfl (any_of HT_.out (by kernel_rfl)) (fun _ _ _ h => h) (Or.inl ⟨by rfl, ?_⟩) ?_ ?_
                  rotate_left
                  ·intro w'
                   go_simp
                   with_reducible rfl
                  rotate_left
                  ·simp only [Act.put, List.setIfInBounds_toArray, List.set_cons_zero, List.set_cons_succ, i64_w, i32_w]
                   rfl
                  refine pure_ (i := 5) (N := some 46) (v := ?_) (a' := ?_) #[true, true, true, true, true, true, false, false, false, false, false, false, false, false, false, false, false, false, false, false, false, false] rfl rfl (any_of HT_.out (by kernel_rfl)) (fun _ _ _ h => h) (Or.inl ⟨by rfl, ?_⟩) ?_ ?_
                  rotate_left
                  ·intro w'
                   go_simp
                   with_reducible rfl
                  rotate_left
                  ·simp only [Act.put, List.setIfInBounds_toArray, List.set_cons_zero, List.set_cons_succ, i64_w, i32_w]
                   rfl
                  refine pure_ (i := 7) (N := some 48) (v := ?_) (a' := ?_) #[true, true, true, true, true, true, false, true, false, false, false, false, false, false, false, false, false, false, false, false, false, false] rfl rfl (any_of HT_.out (by kernel_rfl)) (fun _ _ _ h => h) (Or.inl ⟨by rfl, ?_⟩) ?_ ?_
                  rotate_left
                  ·intro w'
                   go_simp
                   with_reducible rfl
                  rotate_left
                  ·simp only [Act.put, List.setIfInBounds_toArray, List.set_cons_zero, List.set_cons_succ, i64_w, i32_w]
                   rfl
                  refine pure_ (i := 8) (N := some 49) (v := ?_) (a' := ?_) #[true, true, true, true, true, true, false, true, true, false, false, false, false, false, false, false, false, false, false, false, false, false] rfl rfl (any_of HT_.out (by kernel_rfl)) (fun _ _ _ h => h) (Or.inl ⟨by rfl, ?_⟩) ?_ ?_
                  rotate_left
                  ·intro w'
                   go_simp
                   with_reducible rfl
                  rotate_left
                  ·simp only [Act.put, List.setIfInBounds_toArray, List.set_cons_zero, List.set_cons_succ, i64_w, i32_w]
                   rfl
                  refine pure_ (i := 9) (N := some 50) (v := ?_) (a' := ?_) #[true, true, true, true, true, true, false, true, true, true, false, false, false, false, false, false, false, false, false, false, false, false] rfl rfl (any_of HT_.out (by kernel_rfl)) (fun _ _ _ h => h) (Or.inl ⟨by rfl, ?_⟩) ?_ ?_
                  rotate_left
                  ·intro w'
                   go_simp
                   with_reducible rfl
                  rotate_left
                  ·simp only [Act.put, List.setIfInBounds_toArray, List.set_cons_zero, List.set_cons_succ, i64_w, i32_w]
                   rfl
                  refine pure_ (i := 10) (N := some 51) (v := ?_) (a' := ?_) #[true, true, true, true, true, true, false, true, true, true, true, false, false, false, false, false, false, false, false, false, false, false] rfl rfl (any_of HT_.out (by kernel_rfl)) (fun _ _ _ h => h) (Or.inl ⟨by rfl, ?_⟩) ?_ ?_
                  rotate_left
                  ·intro w'
                   go_simp
                   with_reducible rfl
                  rotate_left
                  ·simp only [Act.put, List.setIfInBounds_toArray, List.set_cons_zero, List.set_cons_succ, i64_w, i32_w]
                   rfl
                  refine pure_ (i := 12) (N := some 53) (v := ?_) (a' := ?_) #[true, true, true, true, true, true, false, true, true, true, true, false, true, false, false, false, false, false, false, false, false, false] rfl rfl (any_of HT_.out (by kernel_rfl)) (fun _ _ _ h => h) (Or.inl ⟨by rfl, ?_⟩) ?_ ?_
                  rotate_left
                  ·intro w'
                   go_simp
                   with_reducible rfl
                  rotate_left
                  ·simp only [Act.put, List.setIfInBounds_toArray, List.set_cons_zero, List.set_cons_succ, i64_w, i32_w]
                   rfl
                  refine pure_ (i := 13) (N := some 54) (v := ?_) (a' := ?_) #[true, true, true, true, true, true, false, true, true, true, true, false, true, true, false, false, false, false, false, false, false, false] rfl rfl (any_of HT_.out (by kernel_rfl)) (fun _ _ _ h => h) (Or.inl ⟨by rfl, ?_⟩) ?_ ?_
                  rotate_left
                  ·intro w'
                   go_simp
                   with_reducible rfl
                  rotate_left
                  ·simp only [Act.put, List.setIfInBounds_toArray, List.set_cons_zero, List.set_cons_succ, i64_w, i32_w]
                   rfl
                  refine pure_ (i := 14) (N := some 55) (v := ?_) (a' := ?_) #[true, true, true, true, true, true, false, true, true, true, true, false, true, true, true, false, false, false, false, false, false, false] rfl rfl (any_of HT_.out (by kernel_rfl)) (fun _ _ _ h => h) (Or.inl ⟨by rfl, ?_⟩) ?_ ?_
                  rotate_left
                  ·intro w'
                   go_simp
                   with_reducible rfl
                  rotate_left
                  ·simp only [Act.put, List.setIfInBounds_toArray, List.set_cons_zero, List.set_cons_succ, i64_w, i32_w]
                   rfl
                  refine pure_ (i := 15) (N := some 56) (v := ?_) (a' := ?_) #[true, true, true, true, true, true, false, true, true, true, true, false, true, true, true, true, false, false, false, false, false, false] rfl rfl (any_of HT_.out (by kernel_rfl)) (fun _ _ _ h => h) (Or.inl ⟨by rfl, ?_⟩) ?_ ?_
                  rotate_left
                  ·intro w'
                   go_simp
                   with_reducible rfl
                  rotate_left
                  ·simp only [Act.put, List.setIfInBounds_toArray, List.set_cons_zero, List.set_cons_succ, i64_w, i32_w]
                   rfl
                  refine pure_ (i := 19) (N := some 60) (v := ?_) (a' := ?_) #[true, true, true, true, true, true, false, true, true, true, true, false, true, true, true, true, false, false, false, true, false, false] rfl rfl (any_of HT_.out (by kernel_rfl)) (fun _ _ _ h => h) (Or.inl ⟨by rfl, ?_⟩) ?_ ?_
                  rotate_left
                  ·intro w'
                   go_simp
                   with_reducible rfl
                  rotate_left
                  ·simp only [Act.put, List.setIfInBounds_toArray, List.set_cons_zero, List.set_cons_succ, i64_w, i32_w]
                   rfl
                  refine take_ (i := 6) (N := some 47) (v := ?_) (a' := ?_) #[true, true, true, true, true, true, true, true, true, true, true, false, true, true, true, true, false, false, false, true, false, false] rfl rfl (take_ofW HT_.out HW_.out (by kernel_rfl)) (fun _ _ _ h => h) (Or.inl ⟨by rfl, ?_⟩) hHeld ?_ ?_
                  rotate_left
                  ·rintro w' ⟨s0, s1, s2⟩
                   go_simp
                   with_reducible rfl
                  rotate_left
                  ·simp only [Act.put, List.setIfInBounds_toArray, List.set_cons_zero, List.set_cons_succ, i64_w, i32_w]
                   rfl
                  refine take_ (i := 11) (N := some 52) (v := ?_) (a' := ?_) #[true, true, true, true, true, true, true, true, true, true, true, true, true, true, true, true, false, false, false, true, false, false] rfl rfl (take_ofW HT_.out HW_.out (by kernel_rfl)) (fun _ _ _ h => h) (Or.inl ⟨by rfl, ?_⟩) hHeld ?_ ?_
                  rotate_left
                  ·rintro w' ⟨s0, s1, s2⟩
                   go_simp
                   with_reducible rfl
                  rotate_left
                  ·simp only [Act.put, List.setIfInBounds_toArray, List.set_cons_zero, List.set_cons_succ, i64_w, i32_w]
                   rfl
                  refine take_ (i := 16) (N := some 57) (v := ?_) (a' := ?_) #[true, true, true, true, true, true, true, true, true, true, true, true, true, true, true, true, true, false, false, true, false, false] rfl rfl (take_ofW HT_.out HW_.out (by kernel_rfl)) (fun _ _ _ h => h) (Or.inl ⟨by rfl, ?_⟩) hHeld ?_ ?_
                  rotate_left
                  ·rintro w' ⟨s0, s1, s2⟩
                   go_simp
                   with_reducible rfl
                  rotate_left
                  ·simp only [Act.put, List.setIfInBounds_toArray, List.set_cons_zero, List.set_cons_succ, i64_w, i32_w]
                   rfl
                  refine pure_ (i := 17) (N := some 58) (v := ?_) (a' := ?_) #[true, true, true, true, true, true, true, true, true, true, true, true, true, true, true, true, true, true, false, true, false, false] rfl rfl (any_of HT_.out (by kernel_rfl)) (fun _ _ _ h => h) (Or.inl ⟨by rfl, ?_⟩) ?_ ?_
                  rotate_left
                  ·intro w'
                   go_simp
                   with_reducible rfl
                  rotate_left
                  ·simp only [Act.put, List.setIfInBounds_toArray, List.set_cons_zero, List.set_cons_succ, i64_w, i32_w]
                   rfl
                  refine pure_ (i := 18) (N := some 59) (v := ?_) (a' := ?_) #[true, true, true, true, true, true, true, true, true, true, true, true, true, true, true, true, true, true, true, true, false, false] rfl rfl (any_of HT_.out (by kernel_rfl)) (fun _ _ _ h => h) (Or.inl ⟨by rfl, ?_⟩) ?_ ?_
                  rotate_left
                  ·intro w'
                   go_simp
                   with_reducible rfl
                  rotate_left
                  ·simp only [Act.put, List.setIfInBounds_toArray, List.set_cons_zero, List.set_cons_succ, i64_w, i32_w]
                   rfl
                  refine pure_ (i := 20) (N := some 61) (v := ?_) (a' := ?_) #[true, true, true, true, true, true, true, true, true, true, true, true, true, true, true, true, true, true, true, true, true, false] rfl rfl (any_of HT_.out (by kernel_rfl)) (fun _ _ _ h => h) (Or.inl ⟨by rfl, ?_⟩) ?_ ?_
                  rotate_left
                  ·intro w'
                   go_simp
                   with_reducible rfl
                  rotate_left
                  ·simp only [Act.put, List.setIfInBounds_toArray, List.set_cons_zero, List.set_cons_succ, i64_w, i32_w]
                   rfl
                  refine last_ (i := 21) (N := none) #[true, true, true, true, true, true, true, true, true, true, true, true, true, true, true, true, true, true, true, true, true, true] rfl rfl (one_of HT_.out (by kernel_rfl)) (by decide) (fun K hK => ?_)
                  have hs39 : w27.cell? ⟨gb105, x35_3.toNat * 4 + x38_4.toNat, none⟩ = some (.int .i64 (ix4 (ix4 x106000_4 x106001_4 x106002_4 x106003_4 x38_4) (ix4 x106004_4 x106005_4 x106006_4 x106007_4 x38_4) (ix4 x106008_4 x106009_4 x106010_4 x106011_4 x38_4) (ix4 x106012_4 x106013_4 x106014_4 x106015_4 x38_4) x35_3)) := (blk_cell BK105.out (x35_3.toNat * 4 + x38_4.toNat)).trans (ix_44 (Value.int .i64) _ _ _ _ _ _ _ _ _ _ _ _ _ _ _ _ x35_3 x38_4  (of_decide_eq_true (by first | (with_reducible assumption) | assumption)) (of_decide_eq_true (by first | (with_reducible assumption) | assumption))  (of_decide_eq_true (by first | (with_reducible assumption) | assumption)) (of_decide_eq_true (by first | (with_reducible assumption) | assumption)))
                  have hfs39 := blk_frozen BK105.out (x35_3.toNat * 4 + x38_4.toNat)
                  have hns39_0 := NB103_105.out
                  have hns39_1 := NB104_105.out
                  have hms39_0 := NB105_103.out
                  have hms39_1 := NB105_104.out
                  refine skip_ (w1 := ?_) (by rfl) rfl ?_ ?_
                  rotate_left
                  ·go_simp
                   rfl
                  refine hK.out _ _ ?_
                  clear hK K
                  refine done_ (done_of HT_.out (by kernel_rfl)) ?_
                  try go_wp2
                  go_roundg k4
                  case measure => have := HK1.out; have := HK2.out; have := HK3.out; have := HK4.out; omega
                  case rel => exact ⟨(wrap64 (x38_4 + 1)), (up (x35_3 == 0 && x38_4 == 0) (ji26) x106000_4), (up (x35_3 == 0 && x38_4 == 1) (ji26) x106001_4), (up (x35_3 == 0 && x38_4 == 2) (ji26) x106002_4), (up (x35_3 == 0 && x38_4 == 3) (ji26) x106003_4), (up (x35_3 == 1 && x38_4 == 0) (ji26) x106004_4), (up (x35_3 == 1 && x38_4 == 1) (ji26) x106005_4), (up (x35_3 == 1 && x38_4 == 2) (ji26) x106006_4), (up (x35_3 == 1 && x38_4 == 3) (ji26) x106007_4), (up (x35_3 == 2 && x38_4 == 0) (ji26) x106008_4), (up (x35_3 == 2 && x38_4 == 1) (ji26) x106009_4), (up (x35_3 == 2 && x38_4 == 2) (ji26) x106010_4), (up (x35_3 == 2 && x38_4 == 3) (ji26) x106011_4), (up (x35_3 == 3 && x38_4 == 0) (ji26) x106012_4), (up (x35_3 == 3 && x38_4 == 1) (ji26) x106013_4), (up (x35_3 == 3 && x38_4 == 2) (ji26) x106014_4), (up (x35_3 == 3 && x38_4 == 3) (ji26) x106015_4), (by first | rfl | (simp; done) | (simp [*]; done)), H', ⟨by have := HK1.out; have := HK2.out; have := HK3.out; have := HK4.out; omega⟩, ⟨by (with_reducible repeat (first | refine blk_drewN ?_ _ | refine blk_drew ?_ | refine blk_alloc ?_ _)); refine blk_far ?_ NB103_105.out _; (with_reducible repeat (first | refine blk_drewN ?_ _ | refine blk_drew ?_ | refine blk_alloc ?_ _)); exact BK103.out⟩, ⟨by (with_reducible repeat (first | refine blk_drewN ?_ _ | refine blk_drew ?_ | refine blk_alloc ?_ _)); refine blk_far ?_ NB104_105.out _; (with_reducible repeat (first | refine blk_drewN ?_ _ | refine blk_drew ?_ | refine blk_alloc ?_ _)); exact BK104.out⟩, ⟨by (with_reducible repeat (first | refine blk_drewN ?_ _ | refine blk_drew ?_ | refine blk_alloc ?_ _)); refine blk_put (cs := #[.int .i64 x106000_4, .int .i64 x106001_4, .int .i64 x106002_4, .int .i64 x106003_4, .int .i64 x106004_4, .int .i64 x106005_4, .int .i64 x106006_4, .int .i64 x106007_4, .int .i64 x106008_4, .int .i64 x106009_4, .int .i64 x106010_4, .int .i64 x106011_4, .int .i64 x106012_4, .int .i64 x106013_4, .int .i64 x106014_4, .int .i64 x106015_4]) ?_ (x35_3.toNat * 4 + x38_4.toNat) _ (up_44 (Value.int .i64) _ _ _ _ _ _ _ _ _ _ _ _ _ _ _ _ x35_3 x38_4 ji26 (of_decide_eq_true (by first | (with_reducible assumption) | assumption)) (of_decide_eq_true (by first | (with_reducible assumption) | assumption)) (of_decide_eq_true (by first | (with_reducible assumption) | assumption)) (of_decide_eq_true (by first | (with_reducible assumption) | assumption))); (with_reducible repeat (first | refine blk_drewN ?_ _ | refine blk_drew ?_ | refine blk_alloc ?_ _)); exact BK105.out⟩, ⟨by repeat (first | (with_reducible first | exact HB.out | apply below_alloc | apply pw_below_drewN | apply below_drew1 | refine below_set ?_ GE103.out | refine below_set ?_ GE104.out | refine below_set ?_ GE105.out) | exact HB.out)⟩⟩
                 ·rw [if_neg c25] at H
                  exact absurd H (by simp)
                ·rw [if_neg c24] at H
                 exact absurd H (by simp)
               ·rw [if_neg c23] at H
                exact absurd H (by simp)
              ·rw [if_neg c22] at H
               exact absurd H (by simp)
             ·rw [if_neg c21] at H
              exact absurd H (by simp)
            ·rw [if_neg c20] at H
             have c20b0 : decide (x38_4 < 4) = false := decide_eq_false c20
             clear c20
             have H' := Aside0.mk H
             clear H
             go_wp2
             go_roundg k4
             case measure => have := HK1.out; have := HK2.out; have := HK3.out; have := HK4.out; omega
             case rel => exact ⟨(wrap64 (x35_3 + 1)), (x106000_4), (x106001_4), (x106002_4), (x106003_4), (x106004_4), (x106005_4), (x106006_4), (x106007_4), (x106008_4), (x106009_4), (x106010_4), (x106011_4), (x106012_4), (x106013_4), (x106014_4), (x106015_4), (by first | rfl | (simp; done) | (simp [*]; done)), H', ⟨by have := HK1.out; have := HK2.out; have := HK3.out; have := HK4.out; omega⟩, ⟨by (with_reducible repeat (first | refine blk_drewN ?_ _ | refine blk_drew ?_ | refine blk_alloc ?_ _)); exact BK103.out⟩, ⟨by (with_reducible repeat (first | refine blk_drewN ?_ _ | refine blk_drew ?_ | refine blk_alloc ?_ _)); exact BK104.out⟩, ⟨by (with_reducible repeat (first | refine blk_drewN ?_ _ | refine blk_drew ?_ | refine blk_alloc ?_ _)); exact BK105.out⟩, ⟨by repeat (first | (with_reducible first | exact HB.out | apply below_alloc | apply pw_below_drewN | apply below_drew1 | refine below_set ?_ GE103.out | refine below_set ?_ GE104.out | refine below_set ?_ GE105.out) | exact HB.out)⟩⟩
         ·rw [if_neg c19] at H
          have c19b0 : decide (x35_3 < 4) = false := decide_eq_false c19
          clear c19
          have H' := Aside0.mk H
          clear H
          go_wp2
          go_roundg k3
          case measure => have := HK1.out; have := HK2.out; have := HK3.out; omega
          case rel => exact ⟨(wrap64 (x32_2 + 1)), (x106000_3), (x106001_3), (x106002_3), (x106003_3), (x106004_3), (x106005_3), (x106006_3), (x106007_3), (x106008_3), (x106009_3), (x106010_3), (x106011_3), (x106012_3), (x106013_3), (x106014_3), (x106015_3), (by first | rfl | (simp; done) | (simp [*]; done)), H', ⟨by have := HK1.out; have := HK2.out; have := HK3.out; omega⟩, ⟨by (with_reducible repeat (first | refine blk_drewN ?_ _ | refine blk_drew ?_ | refine blk_alloc ?_ _)); exact BK103.out⟩, ⟨by (with_reducible repeat (first | refine blk_drewN ?_ _ | refine blk_drew ?_ | refine blk_alloc ?_ _)); exact BK104.out⟩, ⟨by (with_reducible repeat (first | refine blk_drewN ?_ _ | refine blk_drew ?_ | refine blk_alloc ?_ _)); exact BK105.out⟩, ⟨by repeat (first | (with_reducible first | exact HB.out | apply below_alloc | apply pw_below_drewN | apply below_drew1 | refine below_set ?_ GE103.out | refine below_set ?_ GE104.out | refine below_set ?_ GE105.out) | exact HB.out)⟩⟩
      ·rw [if_neg c18] at H
       have c18b0 : decide (x32_2 < 4) = false := decide_eq_false c18
       clear c18
       simp only [Option.some.injEq, Prod.mk.injEq] at H
       obtain ⟨rfl, rfl, rfl, rfl, rfl, rfl, rfl, rfl, rfl, rfl, rfl, rfl, rfl, rfl, rfl, rfl⟩ := H
       have hnb40 := NB105_103.out
       have hnc40 := NB103_105.out
       have hnb41 := NB105_104.out
       have hnc41 := NB104_105.out
       have hcz42_0 : wr.cell? ⟨gb105, 0, none⟩ = some (.int .i64 x106000_2) := (blk_cell BK105.out 0).trans rfl
       have hcz42_1 : wr.cell? ⟨gb105, 1, none⟩ = some (.int .i64 x106001_2) := (blk_cell BK105.out 1).trans rfl
       have hcz42_2 : wr.cell? ⟨gb105, 2, none⟩ = some (.int .i64 x106002_2) := (blk_cell BK105.out 2).trans rfl
       have hcz42_3 : wr.cell? ⟨gb105, 3, none⟩ = some (.int .i64 x106003_2) := (blk_cell BK105.out 3).trans rfl
       have hcz42_4 : wr.cell? ⟨gb105, 4, none⟩ = some (.int .i64 x106004_2) := (blk_cell BK105.out 4).trans rfl
       have hcz42_5 : wr.cell? ⟨gb105, 5, none⟩ = some (.int .i64 x106005_2) := (blk_cell BK105.out 5).trans rfl
       have hcz42_6 : wr.cell? ⟨gb105, 6, none⟩ = some (.int .i64 x106006_2) := (blk_cell BK105.out 6).trans rfl
       have hcz42_7 : wr.cell? ⟨gb105, 7, none⟩ = some (.int .i64 x106007_2) := (blk_cell BK105.out 7).trans rfl
       have hcz42_8 : wr.cell? ⟨gb105, 8, none⟩ = some (.int .i64 x106008_2) := (blk_cell BK105.out 8).trans rfl
       have hcz42_9 : wr.cell? ⟨gb105, 9, none⟩ = some (.int .i64 x106009_2) := (blk_cell BK105.out 9).trans rfl
       have hcz42_10 : wr.cell? ⟨gb105, 10, none⟩ = some (.int .i64 x106010_2) := (blk_cell BK105.out 10).trans rfl
       have hcz42_11 : wr.cell? ⟨gb105, 11, none⟩ = some (.int .i64 x106011_2) := (blk_cell BK105.out 11).trans rfl
       have hcz42_12 : wr.cell? ⟨gb105, 12, none⟩ = some (.int .i64 x106012_2) := (blk_cell BK105.out 12).trans rfl
       have hcz42_13 : wr.cell? ⟨gb105, 13, none⟩ = some (.int .i64 x106013_2) := (blk_cell BK105.out 13).trans rfl
       have hcz42_14 : wr.cell? ⟨gb105, 14, none⟩ = some (.int .i64 x106014_2) := (blk_cell BK105.out 14).trans rfl
       have hcz42_15 : wr.cell? ⟨gb105, 15, none⟩ = some (.int .i64 x106015_2) := (blk_cell BK105.out 15).trans rfl
       have hfz42_0 := blk_frozen BK105.out 0
       have hfz42_1 := blk_frozen BK105.out 1
       have hfz42_2 := blk_frozen BK105.out 2
       have hfz42_3 := blk_frozen BK105.out 3
       have hfz42_4 := blk_frozen BK105.out 4
       have hfz42_5 := blk_frozen BK105.out 5
       have hfz42_6 := blk_frozen BK105.out 6
       have hfz42_7 := blk_frozen BK105.out 7
       have hfz42_8 := blk_frozen BK105.out 8
       have hfz42_9 := blk_frozen BK105.out 9
       have hfz42_10 := blk_frozen BK105.out 10
       have hfz42_11 := blk_frozen BK105.out 11
       have hfz42_12 := blk_frozen BK105.out 12
       have hfz42_13 := blk_frozen BK105.out 13
       have hfz42_14 := blk_frozen BK105.out 14
       have hfz42_15 := blk_frozen BK105.out 15
       have hnb43 := NB104_103.out
       have hnc43 := NB103_104.out
       have hcz44_0 : wr.cell? ⟨gb104, 0, none⟩ = some (.int .i64 0) := (blk_cell BK104.out 0).trans rfl
       have hcz44_1 : wr.cell? ⟨gb104, 1, none⟩ = some (.int .i64 0) := (blk_cell BK104.out 1).trans rfl
       have hcz44_2 : wr.cell? ⟨gb104, 2, none⟩ = some (.int .i64 0) := (blk_cell BK104.out 2).trans rfl
       have hcz44_3 : wr.cell? ⟨gb104, 3, none⟩ = some (.int .i64 0) := (blk_cell BK104.out 3).trans rfl
       have hcz44_4 : wr.cell? ⟨gb104, 4, none⟩ = some (.int .i64 0) := (blk_cell BK104.out 4).trans rfl
       have hcz44_5 : wr.cell? ⟨gb104, 5, none⟩ = some (.int .i64 0) := (blk_cell BK104.out 5).trans rfl
       have hcz44_6 : wr.cell? ⟨gb104, 6, none⟩ = some (.int .i64 0) := (blk_cell BK104.out 6).trans rfl
       have hcz44_7 : wr.cell? ⟨gb104, 7, none⟩ = some (.int .i64 0) := (blk_cell BK104.out 7).trans rfl
       have hcz44_8 : wr.cell? ⟨gb104, 8, none⟩ = some (.int .i64 0) := (blk_cell BK104.out 8).trans rfl
       have hcz44_9 : wr.cell? ⟨gb104, 9, none⟩ = some (.int .i64 0) := (blk_cell BK104.out 9).trans rfl
       have hcz44_10 : wr.cell? ⟨gb104, 10, none⟩ = some (.int .i64 0) := (blk_cell BK104.out 10).trans rfl
       have hcz44_11 : wr.cell? ⟨gb104, 11, none⟩ = some (.int .i64 0) := (blk_cell BK104.out 11).trans rfl
       have hcz44_12 : wr.cell? ⟨gb104, 12, none⟩ = some (.int .i64 0) := (blk_cell BK104.out 12).trans rfl
       have hcz44_13 : wr.cell? ⟨gb104, 13, none⟩ = some (.int .i64 0) := (blk_cell BK104.out 13).trans rfl
       have hcz44_14 : wr.cell? ⟨gb104, 14, none⟩ = some (.int .i64 0) := (blk_cell BK104.out 14).trans rfl
       have hcz44_15 : wr.cell? ⟨gb104, 15, none⟩ = some (.int .i64 0) := (blk_cell BK104.out 15).trans rfl
       have hfz44_0 := blk_frozen BK104.out 0
       have hfz44_1 := blk_frozen BK104.out 1
       have hfz44_2 := blk_frozen BK104.out 2
       have hfz44_3 := blk_frozen BK104.out 3
       have hfz44_4 := blk_frozen BK104.out 4
       have hfz44_5 := blk_frozen BK104.out 5
       have hfz44_6 := blk_frozen BK104.out 6
       have hfz44_7 := blk_frozen BK104.out 7
       have hfz44_8 := blk_frozen BK104.out 8
       have hfz44_9 := blk_frozen BK104.out 9
       have hfz44_10 := blk_frozen BK104.out 10
       have hfz44_11 := blk_frozen BK104.out 11
       have hfz44_12 := blk_frozen BK104.out 12
       have hfz44_13 := blk_frozen BK104.out 13
       have hfz44_14 := blk_frozen BK104.out 14
       have hfz44_15 := blk_frozen BK104.out 15
       go_wp2_with (first | ((with_reducible refine gate_store (t := 23) (p := 2) rfl ?_); refine store_event (t := 23) (p := 2) (v := ?vo_w45) (w1 := ((((((((((((((((wr.setCell ⟨gb104, 0, none⟩ (.int .i64 x106000_2)).setCell ⟨gb104, 1, none⟩ (.int .i64 x106001_2)).setCell ⟨gb104, 2, none⟩ (.int .i64 x106002_2)).setCell ⟨gb104, 3, none⟩ (.int .i64 x106003_2)).setCell ⟨gb104, 4, none⟩ (.int .i64 x106004_2)).setCell ⟨gb104, 5, none⟩ (.int .i64 x106005_2)).setCell ⟨gb104, 6, none⟩ (.int .i64 x106006_2)).setCell ⟨gb104, 7, none⟩ (.int .i64 x106007_2)).setCell ⟨gb104, 8, none⟩ (.int .i64 x106008_2)).setCell ⟨gb104, 9, none⟩ (.int .i64 x106009_2)).setCell ⟨gb104, 10, none⟩ (.int .i64 x106010_2)).setCell ⟨gb104, 11, none⟩ (.int .i64 x106011_2)).setCell ⟨gb104, 12, none⟩ (.int .i64 x106012_2)).setCell ⟨gb104, 13, none⟩ (.int .i64 x106013_2)).setCell ⟨gb104, 14, none⟩ (.int .i64 x106014_2)).setCell ⟨gb104, 15, none⟩ (.int .i64 x106015_2))) ?hg ?ho ?hn ?hr ?_; (case ho => rfl); (case hg => rfl); (case hn => rfl); (case hr => first | (go_simp; done) | (go_simp; rfl)); intro w45 hw; have n0_ : Aside0 (w45.heap[g0_]? = some (.cells #[.int .i64 a0_0, .int .i64 a0_1, .int .i64 a0_2, .int .i64 a0_3, .int .i64 a0_4, .int .i64 a0_5, .int .i64 a0_6, .int .i64 a0_7, .int .i64 a0_8, .int .i64 a0_9, .int .i64 a0_10, .int .i64 a0_11, .int .i64 a0_12, .int .i64 a0_13, .int .i64 a0_14, .int .i64 a0_15] 23 (0, 0))) := ⟨(by rw [hw]; exact (by (with_reducible repeat (first | refine blk_drewN ?_ _ | refine blk_drew ?_ | refine blk_alloc ?_ _)); refine blk_far ?_ NB103_104.out _; (with_reducible repeat (first | refine blk_drewN ?_ _ | refine blk_drew ?_ | refine blk_alloc ?_ _)); refine blk_far ?_ NB103_104.out _; (with_reducible repeat (first | refine blk_drewN ?_ _ | refine blk_drew ?_ | refine blk_alloc ?_ _)); refine blk_far ?_ NB103_104.out _; (with_reducible repeat (first | refine blk_drewN ?_ _ | refine blk_drew ?_ | refine blk_alloc ?_ _)); refine blk_far ?_ NB103_104.out _; (with_reducible repeat (first | refine blk_drewN ?_ _ | refine blk_drew ?_ | refine blk_alloc ?_ _)); refine blk_far ?_ NB103_104.out _; (with_reducible repeat (first | refine blk_drewN ?_ _ | refine blk_drew ?_ | refine blk_alloc ?_ _)); refine blk_far ?_ NB103_104.out _; (with_reducible repeat (first | refine blk_drewN ?_ _ | refine blk_drew ?_ | refine blk_alloc ?_ _)); refine blk_far ?_ NB103_104.out _; (with_reducible repeat (first | refine blk_drewN ?_ _ | refine blk_drew ?_ | refine blk_alloc ?_ _)); refine blk_far ?_ NB103_104.out _; (with_reducible repeat (first | refine blk_drewN ?_ _ | refine blk_drew ?_ | refine blk_alloc ?_ _)); refine blk_far ?_ NB103_104.out _; (with_reducible repeat (first | refine blk_drewN ?_ _ | refine blk_drew ?_ | refine blk_alloc ?_ _)); refine blk_far ?_ NB103_104.out _; (with_reducible repeat (first | refine blk_drewN ?_ _ | refine blk_drew ?_ | refine blk_alloc ?_ _)); refine blk_far ?_ NB103_104.out _; (with_reducible repeat (first | refine blk_drewN ?_ _ | refine blk_drew ?_ | refine blk_alloc ?_ _)); refine blk_far ?_ NB103_104.out _; (with_reducible repeat (first | refine blk_drewN ?_ _ | refine blk_drew ?_ | refine blk_alloc ?_ _)); refine blk_far ?_ NB103_104.out _; (with_reducible repeat (first | refine blk_drewN ?_ _ | refine blk_drew ?_ | refine blk_alloc ?_ _)); refine blk_far ?_ NB103_104.out _; (with_reducible repeat (first | refine blk_drewN ?_ _ | refine blk_drew ?_ | refine blk_alloc ?_ _)); refine blk_far ?_ NB103_104.out _; (with_reducible repeat (first | refine blk_drewN ?_ _ | refine blk_drew ?_ | refine blk_alloc ?_ _)); refine blk_far ?_ NB103_104.out _; (with_reducible repeat (first | refine blk_drewN ?_ _ | refine blk_drew ?_ | refine blk_alloc ?_ _)); exact BK103.out))⟩; have n1_ : Aside0 (w45.heap[gb104]? = some (.cells #[.int .i64 x106000_2, .int .i64 x106001_2, .int .i64 x106002_2, .int .i64 x106003_2, .int .i64 x106004_2, .int .i64 x106005_2, .int .i64 x106006_2, .int .i64 x106007_2, .int .i64 x106008_2, .int .i64 x106009_2, .int .i64 x106010_2, .int .i64 x106011_2, .int .i64 x106012_2, .int .i64 x106013_2, .int .i64 x106014_2, .int .i64 x106015_2] 23 (0, 0))) := ⟨(by rw [hw]; exact (by (with_reducible repeat (first | refine blk_drewN ?_ _ | refine blk_drew ?_ | refine blk_alloc ?_ _)); refine blk_put (cs := #[.int .i64 x106000_2, .int .i64 x106001_2, .int .i64 x106002_2, .int .i64 x106003_2, .int .i64 x106004_2, .int .i64 x106005_2, .int .i64 x106006_2, .int .i64 x106007_2, .int .i64 x106008_2, .int .i64 x106009_2, .int .i64 x106010_2, .int .i64 x106011_2, .int .i64 x106012_2, .int .i64 x106013_2, .int .i64 x106014_2, .int .i64 0]) ?_ 15 _ rfl; (with_reducible repeat (first | refine blk_drewN ?_ _ | refine blk_drew ?_ | refine blk_alloc ?_ _)); refine blk_put (cs := #[.int .i64 x106000_2, .int .i64 x106001_2, .int .i64 x106002_2, .int .i64 x106003_2, .int .i64 x106004_2, .int .i64 x106005_2, .int .i64 x106006_2, .int .i64 x106007_2, .int .i64 x106008_2, .int .i64 x106009_2, .int .i64 x106010_2, .int .i64 x106011_2, .int .i64 x106012_2, .int .i64 x106013_2, .int .i64 0, .int .i64 0]) ?_ 14 _ rfl; (with_reducible repeat (first | refine blk_drewN ?_ _ | refine blk_drew ?_ | refine blk_alloc ?_ _)); refine blk_put (cs := #[.int .i64 x106000_2, .int .i64 x106001_2, .int .i64 x106002_2, .int .i64 x106003_2, .int .i64 x106004_2, .int .i64 x106005_2, .int .i64 x106006_2, .int .i64 x106007_2, .int .i64 x106008_2, .int .i64 x106009_2, .int .i64 x106010_2, .int .i64 x106011_2, .int .i64 x106012_2, .int .i64 0, .int .i64 0, .int .i64 0]) ?_ 13 _ rfl; (with_reducible repeat (first | refine blk_drewN ?_ _ | refine blk_drew ?_ | refine blk_alloc ?_ _)); refine blk_put (cs := #[.int .i64 x106000_2, .int .i64 x106001_2, .int .i64 x106002_2, .int .i64 x106003_2, .int .i64 x106004_2, .int .i64 x106005_2, .int .i64 x106006_2, .int .i64 x106007_2, .int .i64 x106008_2, .int .i64 x106009_2, .int .i64 x106010_2, .int .i64 x106011_2, .int .i64 0, .int .i64 0, .int .i64 0, .int .i64 0]) ?_ 12 _ rfl; (with_reducible repeat (first | refine blk_drewN ?_ _ | refine blk_drew ?_ | refine blk_alloc ?_ _)); refine blk_put (cs := #[.int .i64 x106000_2, .int .i64 x106001_2, .int .i64 x106002_2, .int .i64 x106003_2, .int .i64 x106004_2, .int .i64 x106005_2, .int .i64 x106006_2, .int .i64 x106007_2, .int .i64 x106008_2, .int .i64 x106009_2, .int .i64 x106010_2, .int .i64 0, .int .i64 0, .int .i64 0, .int .i64 0, .int .i64 0]) ?_ 11 _ rfl; (with_reducible repeat (first | refine blk_drewN ?_ _ | refine blk_drew ?_ | refine blk_alloc ?_ _)); refine blk_put (cs := #[.int .i64 x106000_2, .int .i64 x106001_2, .int .i64 x106002_2, .int .i64 x106003_2, .int .i64 x106004_2, .int .i64 x106005_2, .int .i64 x106006_2, .int .i64 x106007_2, .int .i64 x106008_2, .int .i64 x106009_2, .int .i64 0, .int .i64 0, .int .i64 0, .int .i64 0, .int .i64 0, .int .i64 0]) ?_ 10 _ rfl; (with_reducible repeat (first | refine blk_drewN ?_ _ | refine blk_drew ?_ | refine blk_alloc ?_ _)); refine blk_put (cs := #[.int .i64 x106000_2, .int .i64 x106001_2, .int .i64 x106002_2, .int .i64 x106003_2, .int .i64 x106004_2, .int .i64 x106005_2, .int .i64 x106006_2, .int .i64 x106007_2, .int .i64 x106008_2, .int .i64 0, .int .i64 0, .int .i64 0, .int .i64 0, .int .i64 0, .int .i64 0, .int .i64 0]) ?_ 9 _ rfl; (with_reducible repeat (first | refine blk_drewN ?_ _ | refine blk_drew ?_ | refine blk_alloc ?_ _)); refine blk_put (cs := #[.int .i64 x106000_2, .int .i64 x106001_2, .int .i64 x106002_2, .int .i64 x106003_2, .int .i64 x106004_2, .int .i64 x106005_2, .int .i64 x106006_2, .int .i64 x106007_2, .int .i64 0, .int .i64 0, .int .i64 0, .int .i64 0, .int .i64 0, .int .i64 0, .int .i64 0, .int .i64 0]) ?_ 8 _ rfl; (with_reducible repeat (first | refine blk_drewN ?_ _ | refine blk_drew ?_ | refine blk_alloc ?_ _)); refine blk_put (cs := #[.int .i64 x106000_2, .int .i64 x106001_2, .int .i64 x106002_2, .int .i64 x106003_2, .int .i64 x106004_2, .int .i64 x106005_2, .int .i64 x106006_2, .int .i64 0, .int .i64 0, .int .i64 0, .int .i64 0, .int .i64 0, .int .i64 0, .int .i64 0, .int .i64 0, .int .i64 0]) ?_ 7 _ rfl; (with_reducible repeat (first | refine blk_drewN ?_ _ | refine blk_drew ?_ | refine blk_alloc ?_ _)); refine blk_put (cs := #[.int .i64 x106000_2, .int .i64 x106001_2, .int .i64 x106002_2, .int .i64 x106003_2, .int .i64 x106004_2, .int .i64 x106005_2, .int .i64 0, .int .i64 0, .int .i64 0, .int .i64 0, .int .i64 0, .int .i64 0, .int .i64 0, .int .i64 0, .int .i64 0, .int .i64 0]) ?_ 6 _ rfl; (with_reducible repeat (first | refine blk_drewN ?_ _ | refine blk_drew ?_ | refine blk_alloc ?_ _)); refine blk_put (cs := #[.int .i64 x106000_2, .int .i64 x106001_2, .int .i64 x106002_2, .int .i64 x106003_2, .int .i64 x106004_2, .int .i64 0, .int .i64 0, .int .i64 0, .int .i64 0, .int .i64 0, .int .i64 0, .int .i64 0, .int .i64 0, .int .i64 0, .int .i64 0, .int .i64 0]) ?_ 5 _ rfl; (with_reducible repeat (first | refine blk_drewN ?_ _ | refine blk_drew ?_ | refine blk_alloc ?_ _)); refine blk_put (cs := #[.int .i64 x106000_2, .int .i64 x106001_2, .int .i64 x106002_2, .int .i64 x106003_2, .int .i64 0, .int .i64 0, .int .i64 0, .int .i64 0, .int .i64 0, .int .i64 0, .int .i64 0, .int .i64 0, .int .i64 0, .int .i64 0, .int .i64 0, .int .i64 0]) ?_ 4 _ rfl; (with_reducible repeat (first | refine blk_drewN ?_ _ | refine blk_drew ?_ | refine blk_alloc ?_ _)); refine blk_put (cs := #[.int .i64 x106000_2, .int .i64 x106001_2, .int .i64 x106002_2, .int .i64 0, .int .i64 0, .int .i64 0, .int .i64 0, .int .i64 0, .int .i64 0, .int .i64 0, .int .i64 0, .int .i64 0, .int .i64 0, .int .i64 0, .int .i64 0, .int .i64 0]) ?_ 3 _ rfl; (with_reducible repeat (first | refine blk_drewN ?_ _ | refine blk_drew ?_ | refine blk_alloc ?_ _)); refine blk_put (cs := #[.int .i64 x106000_2, .int .i64 x106001_2, .int .i64 0, .int .i64 0, .int .i64 0, .int .i64 0, .int .i64 0, .int .i64 0, .int .i64 0, .int .i64 0, .int .i64 0, .int .i64 0, .int .i64 0, .int .i64 0, .int .i64 0, .int .i64 0]) ?_ 2 _ rfl; (with_reducible repeat (first | refine blk_drewN ?_ _ | refine blk_drew ?_ | refine blk_alloc ?_ _)); refine blk_put (cs := #[.int .i64 x106000_2, .int .i64 0, .int .i64 0, .int .i64 0, .int .i64 0, .int .i64 0, .int .i64 0, .int .i64 0, .int .i64 0, .int .i64 0, .int .i64 0, .int .i64 0, .int .i64 0, .int .i64 0, .int .i64 0, .int .i64 0]) ?_ 1 _ rfl; (with_reducible repeat (first | refine blk_drewN ?_ _ | refine blk_drew ?_ | refine blk_alloc ?_ _)); refine blk_put (cs := #[.int .i64 0, .int .i64 0, .int .i64 0, .int .i64 0, .int .i64 0, .int .i64 0, .int .i64 0, .int .i64 0, .int .i64 0, .int .i64 0, .int .i64 0, .int .i64 0, .int .i64 0, .int .i64 0, .int .i64 0, .int .i64 0]) ?_ 0 _ rfl; (with_reducible repeat (first | refine blk_drewN ?_ _ | refine blk_drew ?_ | refine blk_alloc ?_ _)); exact BK104.out))⟩; have n2_ : Aside0 (w45.heap[gb105]? = some (.cells #[.int .i64 x106000_2, .int .i64 x106001_2, .int .i64 x106002_2, .int .i64 x106003_2, .int .i64 x106004_2, .int .i64 x106005_2, .int .i64 x106006_2, .int .i64 x106007_2, .int .i64 x106008_2, .int .i64 x106009_2, .int .i64 x106010_2, .int .i64 x106011_2, .int .i64 x106012_2, .int .i64 x106013_2, .int .i64 x106014_2, .int .i64 x106015_2] 23 (0, 0))) := ⟨(by rw [hw]; exact (by (with_reducible repeat (first | refine blk_drewN ?_ _ | refine blk_drew ?_ | refine blk_alloc ?_ _)); refine blk_far ?_ NB105_104.out _; (with_reducible repeat (first | refine blk_drewN ?_ _ | refine blk_drew ?_ | refine blk_alloc ?_ _)); refine blk_far ?_ NB105_104.out _; (with_reducible repeat (first | refine blk_drewN ?_ _ | refine blk_drew ?_ | refine blk_alloc ?_ _)); refine blk_far ?_ NB105_104.out _; (with_reducible repeat (first | refine blk_drewN ?_ _ | refine blk_drew ?_ | refine blk_alloc ?_ _)); refine blk_far ?_ NB105_104.out _; (with_reducible repeat (first | refine blk_drewN ?_ _ | refine blk_drew ?_ | refine blk_alloc ?_ _)); refine blk_far ?_ NB105_104.out _; (with_reducible repeat (first | refine blk_drewN ?_ _ | refine blk_drew ?_ | refine blk_alloc ?_ _)); refine blk_far ?_ NB105_104.out _; (with_reducible repeat (first | refine blk_drewN ?_ _ | refine blk_drew ?_ | refine blk_alloc ?_ _)); refine blk_far ?_ NB105_104.out _; (with_reducible repeat (first | refine blk_drewN ?_ _ | refine blk_drew ?_ | refine blk_alloc ?_ _)); refine blk_far ?_ NB105_104.out _; (with_reducible repeat (first | refine blk_drewN ?_ _ | refine blk_drew ?_ | refine blk_alloc ?_ _)); refine blk_far ?_ NB105_104.out _; (with_reducible repeat (first | refine blk_drewN ?_ _ | refine blk_drew ?_ | refine blk_alloc ?_ _)); refine blk_far ?_ NB105_104.out _; (with_reducible repeat (first | refine blk_drewN ?_ _ | refine blk_drew ?_ | refine blk_alloc ?_ _)); refine blk_far ?_ NB105_104.out _; (with_reducible repeat (first | refine blk_drewN ?_ _ | refine blk_drew ?_ | refine blk_alloc ?_ _)); refine blk_far ?_ NB105_104.out _; (with_reducible repeat (first | refine blk_drewN ?_ _ | refine blk_drew ?_ | refine blk_alloc ?_ _)); refine blk_far ?_ NB105_104.out _; (with_reducible repeat (first | refine blk_drewN ?_ _ | refine blk_drew ?_ | refine blk_alloc ?_ _)); refine blk_far ?_ NB105_104.out _; (with_reducible repeat (first | refine blk_drewN ?_ _ | refine blk_drew ?_ | refine blk_alloc ?_ _)); refine blk_far ?_ NB105_104.out _; (with_reducible repeat (first | refine blk_drewN ?_ _ | refine blk_drew ?_ | refine blk_alloc ?_ _)); refine blk_far ?_ NB105_104.out _; (with_reducible repeat (first | refine blk_drewN ?_ _ | refine blk_drew ?_ | refine blk_alloc ?_ _)); exact BK105.out))⟩; have n3_ : Aside0 (Below w.heap.size w w45) := ⟨(by rw [hw]; exact (by repeat (first | (with_reducible first | exact HB.out | apply below_alloc | apply pw_below_drewN | apply below_drew1 | refine below_set ?_ GE103.out | refine below_set ?_ GE104.out | refine below_set ?_ GE105.out) | exact HB.out)))⟩; clear hw; clear BK103; clear BK104; clear BK105; clear HB; have BK103 := n0_; have BK104 := n1_; have BK105 := n2_; have HB := n3_; clear n0_ n1_ n2_ n3_))
       refine bodyPost_ret (results_cell_row rfl _ _ gb104 23 #[.int .i64 x106000_2, .int .i64 x106001_2, .int .i64 x106002_2, .int .i64 x106003_2, .int .i64 x106004_2, .int .i64 x106005_2, .int .i64 x106006_2, .int .i64 x106007_2, .int .i64 x106008_2, .int .i64 x106009_2, .int .i64 x106010_2, .int .i64 x106011_2, .int .i64 x106012_2, .int .i64 x106013_2, .int .i64 x106014_2, .int .i64 x106015_2] (0, 0) _ rfl (by (with_reducible repeat (first | refine blk_drewN ?_ _ | refine blk_drew ?_ | refine blk_alloc ?_ _)); exact BK104.out) Try.underlying23 rfl (by kernel_rfl)) rfl ?_
       exact ⟨by first | rfl | (simp [errW_none, errW_some] <;> rfl) | (simp [*, errW_none, errW_some] <;> rfl), by repeat (first | (with_reducible first | exact HB.out | apply below_alloc | apply pw_below_drewN | apply below_drew1 | refine below_set ?_ GE103.out | refine below_set ?_ GE104.out | refine below_set ?_ GE105.out) | exact HB.out)⟩

end Go.Proofs.Ytjbejbehbjhecaa.Q21
