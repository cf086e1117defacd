/- Written by a program of this session (out of what the print wrote for this seat): the functions' walks, packed. -/
import Derived.Test.YtjbejbehbjhecaaZ20x0
namespace Go.Proofs.Ytjbejbehbjhecaa.Q20
open Go.RowKit Go.Proofs.YtjbejbehbjhecaaW.PrintWords Go.Proofs.YtjbejbehbjhecaaW.PrintLast Go.Proofs.YtjbejbehbjhecaaW.PrintMore
attribute [local go_sem] max2_int min2_int max_two min_two max_three min_three max_four min_four   -- for this text's walks alone
set_option linter.unusedVariables false
set_option linter.unusedSimpArgs false

/-! ### api_Lsa_39: function 39 -/
def api_Lsa_39.f (k : Nat) (l0 : List (S57))  : Option (Bool) := (api_Lsa_43.f k l0).bind fun t117 => (some (decide (t117 ≥ 0)))
theorem api_Lsa_39.mono : ∀ a0 k, LeO (api_Lsa_39.f k a0) (api_Lsa_39.f (k + 1) a0) := by
 intro a0 k
 unfold api_Lsa_39.f
 repeat' first
   | (with_reducible exact api_Lsa_43.mono _ _)
   | (with_reducible exact LeO.refl _)
   | (with_reducible exact LeO.none _)
   | (with_reducible refine LeO.ite ?_ ?_)
   | (with_reducible refine LeO.bind ?_ (fun _ => ?_))
   | exact api_Lsa_43.mono _ _
   | exact LeO.none _
   | refine LeO.ite ?_ ?_
   | refine LeO.bind ?_ (fun _ => ?_)
set_option maxHeartbeats 8000000 in
set_option maxRecDepth 100000 in
theorem api_Lsa_39.calls (k : Nat) (A0 : Option Addr) (c0 : Nat) (l0 : List (S57))  (r : Bool) (w : World) (hr0 : Kd.C k57 w A0 l0.length l0) (hc0 : l0.length ≤ c0) (h : api_Lsa_39.f k l0 = some r) :
  Calls Try.prog 39 #[.slice A0 l0.length c0, .func (.func 37) #[] #[]] w fun e w' => e = .returned (.bool r) ∧ Below w.heap.size w w' := by
 have HR0 := Aside0.mk hr0
 have HC0 := Aside0.mk hc0
 clear hr0 hc0
 have HB := Aside0.mk (Below.refl w.heap.size w)
 have H : ((api_Lsa_43.f k l0).bind fun t117 => (some (decide (t117 ≥ 0)))) = some r := h
 clear h
 replace H := Option.bind_eq_some_iff.mp H
 obtain ⟨t117, A30, H⟩ := H
 replace H : (some (decide (t117 ≥ 0))) = some r := H
 have A3 := Aside0.mk A30
 clear A30
 obtain rfl := Option.some.inj H
 go_enter Try.func39, Try.ntmps39
 go_wp2_with (first | ((with_reducible refine gate_callee (f := 43) rfl ?_); refine goesL_ (some 7) rfl rfl Try.func43 (by kernel_rfl) rfl #[.slice A0 l0.length c0, .func (.func 37) #[] #[]] rfl (by (try simp only [List.map_toArray, List.map_cons, List.map_nil]); first | done | rfl | (simp only [List.length_drop, List.length_take]; rfl)) ?_; (with_reducible refine (api_Lsa_43.calls k _ _ l0  t117 _ ?side1 ?side2 A3.out).mono ?_); (case side1 => repeat (first | exact HR0.out | (with_reducible refine Kd.C_alloc ?_ _) | (with_reducible refine Kd.C_drewN ?_ _) | (with_reducible refine Kd.C_drew ?_))); (case side2 => exact HC0.out); rintro e w4 ⟨rfl, hb⟩; refine ⟨_, rfl, ?_⟩; have n0_ := Aside0.mk (below_step (by repeat (first | (with_reducible first | exact HB.out | apply below_alloc | apply pw_below_drewN | apply below_drew1) | exact HB.out)) hb); clear HB; have HB := n0_; clear n0_; (try clear hb); (try clear hb2); (try clear hk); (try clear hi)))
 go_ret
 exact ⟨by first | rfl | (simp [errW_none, errW_some] <;> rfl) | (simp [*, errW_none, errW_some] <;> rfl), by repeat (first | (with_reducible first | exact HB.out | apply below_alloc | apply pw_below_drewN | apply below_drew1) | exact HB.out)⟩

end Go.Proofs.Ytjbejbehbjhecaa.Q20
namespace Go.Proofs.Ytjbejbehbjhecaa.Q20
open Go.RowKit Go.Proofs.YtjbejbehbjhecaaW.PrintWords Go.Proofs.YtjbejbehbjhecaaW.PrintLast Go.Proofs.YtjbejbehbjhecaaW.PrintMore
attribute [local go_sem] max2_int min2_int max_two min_two max_three min_three max_four min_four   -- for this text's walks alone
set_option linter.unusedVariables false
set_option linter.unusedSimpArgs false

/-! ### store_May: function 32 -/
def store_May.f (k : Nat) (l0 : List (S57)) : Option (Bool) := (update_May.f k l0).bind fun t118 => (if t118 = true then ((api_Lsa_39.f k l0).bind fun t119 => (some (!t119))) else (some false))
theorem store_May.mono : ∀ a0 k, LeO (store_May.f k a0) (store_May.f (k + 1) a0) := by
 intro a0 k
 unfold store_May.f
 repeat' first
   | (with_reducible exact api_Lsa_39.mono _ _)
   | (with_reducible exact update_May.mono _ _)
   | (with_reducible exact LeO.refl _)
   | (with_reducible exact LeO.none _)
   | (with_reducible refine LeO.ite ?_ ?_)
   | (with_reducible refine LeO.bind ?_ (fun _ => ?_))
   | exact api_Lsa_39.mono _ _
   | exact update_May.mono _ _
   | exact LeO.none _
   | refine LeO.ite ?_ ?_
   | refine LeO.bind ?_ (fun _ => ?_)
set_option maxHeartbeats 8000000 in
set_option maxRecDepth 100000 in
theorem store_May.calls (k : Nat) (A0 : Option Addr) (c0 : Nat) (l0 : List (S57)) (r : Bool) (w : World) (hr0 : Kd.C k57 w A0 l0.length l0) (hc0 : l0.length ≤ c0) (h : store_May.f k l0 = some r) :
  Calls Try.prog 32 #[.slice A0 l0.length c0] w fun e w' => e = .returned (.bool r) ∧ Below w.heap.size w w' := by
 have HR0 := Aside0.mk hr0
 have HC0 := Aside0.mk hc0
 clear hr0 hc0
 have HB := Aside0.mk (Below.refl w.heap.size w)
 have H : ((update_May.f k l0).bind fun t118 => (if t118 = true then ((api_Lsa_39.f k l0).bind fun t119 => (some (!t119))) else (some false))) = some r := h
 clear h
 replace H := Option.bind_eq_some_iff.mp H
 obtain ⟨t118, A20, H⟩ := H
 replace H : (if t118 = true then ((api_Lsa_39.f k l0).bind fun t119 => (some (!t119))) else (some false)) = some r := H
 have A2 := Aside0.mk A20
 clear A20
 by_cases c3 : t118 = true
 ·subst c3
  have H1 : ((api_Lsa_39.f k l0).bind fun t119 => (some (!t119))) = some r := by rw [if_pos rfl] at H; exact H
  clear H
  have H := H1
  clear H1
  replace H := Option.bind_eq_some_iff.mp H
  obtain ⟨t119, A40, H⟩ := H
  replace H : (some (!t119)) = some r := H
  have A4 := Aside0.mk A40
  clear A40
  obtain rfl := Option.some.inj H
  go_enter Try.func32, Try.ntmps32
  go_wp2_with (first | ((with_reducible refine gate_callee (f := 38) rfl ?_); refine goesL_ (some 5) rfl rfl Try.func38 (by kernel_rfl) rfl #[.slice A0 l0.length c0] rfl (by (try simp only [List.map_toArray, List.map_cons, List.map_nil]); first | done | rfl | (simp only [List.length_drop, List.length_take]; rfl)) ?_; (with_reducible refine (update_May.calls k _ _ l0 true _ ?side1 ?side2 A2.out).mono ?_); (case side1 => repeat (first | exact HR0.out | (with_reducible refine Kd.C_alloc ?_ _) | (with_reducible refine Kd.C_drewN ?_ _) | (with_reducible refine Kd.C_drew ?_))); (case side2 => exact HC0.out); rintro e w5 ⟨rfl, hb⟩; refine ⟨_, rfl, ?_⟩; have n0_ := Aside0.mk (below_step (by repeat (first | (with_reducible first | exact HB.out | apply below_alloc | apply pw_below_drewN | apply below_drew1) | exact HB.out)) hb); clear HB; have HB := n0_; clear n0_; (try clear hb); (try clear hb2); (try clear hk); (try clear hi)) | (go_at_call 39; (with_reducible refine (api_Lsa_39.calls k _ _ l0  t119 _ ?side1 ?side2 A4.out).mono ?_); (case side1 => repeat (first | exact (Kd.C_below HR0.out HB.out) | (with_reducible refine Kd.C_alloc ?_ _) | (with_reducible refine Kd.C_drewN ?_ _) | (with_reducible refine Kd.C_drew ?_))); (case side2 => exact HC0.out); rintro e w6 ⟨rfl, hb⟩; have n0_ := Aside0.mk (below_step (by repeat (first | (with_reducible first | exact HB.out | apply below_alloc | apply pw_below_drewN | apply below_drew1) | exact HB.out)) hb); clear HB; have HB := n0_; clear n0_; (try clear hb); (try clear hb2); (try clear hk); (try clear hi)))
  go_ret
  exact ⟨by first | rfl | (simp [errW_none, errW_some] <;> rfl) | (simp [*, errW_none, errW_some] <;> rfl), by repeat (first | (with_reducible first | exact HB.out | apply below_alloc | apply pw_below_drewN | apply below_drew1) | exact HB.out)⟩
 ·replace c3 := Bool.eq_false_iff.mpr c3
  subst c3
  have H1 : (some false) = some r := by rw [if_neg (show ¬ (false = true) by decide)] at H; exact H
  clear H
  have H := H1
  clear H1
  obtain rfl := Option.some.inj H
  go_enter Try.func32, Try.ntmps32
  go_wp2_with (first | ((with_reducible refine gate_callee (f := 38) rfl ?_); refine goesL_ (some 5) rfl rfl Try.func38 (by kernel_rfl) rfl #[.slice A0 l0.length c0] rfl (by (try simp only [List.map_toArray, List.map_cons, List.map_nil]); first | done | rfl | (simp only [List.length_drop, List.length_take]; rfl)) ?_; (with_reducible refine (update_May.calls k _ _ l0 false _ ?side1 ?side2 A2.out).mono ?_); (case side1 => repeat (first | exact HR0.out | (with_reducible refine Kd.C_alloc ?_ _) | (with_reducible refine Kd.C_drewN ?_ _) | (with_reducible refine Kd.C_drew ?_))); (case side2 => exact HC0.out); rintro e w7 ⟨rfl, hb⟩; refine ⟨_, rfl, ?_⟩; have n0_ := Aside0.mk (below_step (by repeat (first | (with_reducible first | exact HB.out | apply below_alloc | apply pw_below_drewN | apply below_drew1) | exact HB.out)) hb); clear HB; have HB := n0_; clear n0_; (try clear hb); (try clear hb2); (try clear hk); (try clear hi)))
  go_ret
  exact ⟨by first | rfl | (simp [errW_none, errW_some] <;> rfl) | (simp [*, errW_none, errW_some] <;> rfl), by repeat (first | (with_reducible first | exact HB.out | apply below_alloc | apply pw_below_drewN | apply below_drew1) | exact HB.out)⟩

end Go.Proofs.Ytjbejbehbjhecaa.Q20
namespace Go.Proofs.Ytjbejbehbjhecaa.Q20
open Go.RowKit Go.Proofs.YtjbejbehbjhecaaW.PrintWords Go.Proofs.YtjbejbehbjhecaaW.PrintLast Go.Proofs.YtjbejbehbjhecaaW.PrintMore
attribute [local go_sem] max2_int min2_int max_two min_two max_three min_three max_four min_four   -- for this text's walks alone
set_option linter.unusedVariables false
set_option linter.unusedSimpArgs false

/-! ### graph_Of: function 21 -/
mutual
def graph_Of.l0 : Nat → List (S57) → Int → Int → Int → Int → Int → Int → Int → Int → Int → Int → Int → Int → Int → Int → Int → Int → Int → Int → Int → Int → Int → Int → Int → Int → Int → Int → Int → Int → Int → Int → Int → Int → Int → Int → Option (Int × Int × Int × Int × Int × Int × Int × Int × Int × Int × Int × Int × Int × Int × Int × Int × Int)
 | 0, _, _, _, _, _, _, _, _, _, _, _, _, _, _, _, _, _, _, _, _, _, _, _, _, _, _, _, _, _, _, _, _, _, _, _ => none
 | k + 1, x18, x19, x20, x123000, x123001, x123002, x123003, x123004, x123005, x123006, x123007, x123008, x123009, x123010, x123011, x123012, x123013, x123014, x123015, x124000, x124001, x124002, x124003, x124004, x124005, x124006, x124007, x124008, x124009, x124010, x124011, x124012, x124013, x124014, x124015 => if x20 < x19 then (if 0 ≤ x20 then (if x20 < (x18.length : Int) then (graph_Of.l1 k x18 x19 x20 ((rd_T57 x18 x20).f3) (((rd_T57 x18 x20).f3).length : Int) 0 x123000 x123001 x123002 x123003 x123004 x123005 x123006 x123007 x123008 x123009 x123010 x123011 x123012 x123013 x123014 x123015 x124000 x124001 x124002 x124003 x124004 x124005 x124006 x124007 x124008 x124009 x124010 x124011 x124012 x124013 x124014 x124015 ((rd_T57 x18 x20).f0) ((rd_T57 x18 x20).f1) ((rd_T57 x18 x20).f2) ((rd_T57 x18 x20).f3)) else (none)) else (none)) else (graph_Of.l2 k 0 x123000 x123001 x123002 x123003 x123004 x123005 x123006 x123007 x123008 x123009 x123010 x123011 x123012 x123013 x123014 x123015 x124000 x124001 x124002 x124003 x124004 x124005 x124006 x124007 x124008 x124009 x124010 x124011 x124012 x124013 x124014 x124015 x123000 x123001 x123002 x123003 x123004 x123005 x123006 x123007 x123008 x123009 x123010 x123011 x123012 x123013 x123014 x123015)
def graph_Of.l1 : Nat → List (S57) → Int → Int → List (S59) → Int → Int → Int → Int → Int → Int → Int → Int → Int → Int → Int → Int → Int → Int → Int → Int → Int → Int → Int → Int → Int → Int → Int → Int → Int → Int → Int → Int → Int → Int → Int → Int → Int → Int → Int → Int → Int → List (S59) → Option (Int × Int × Int × Int × Int × Int × Int × Int × Int × Int × Int × Int × Int × Int × Int × Int × Int)
 | 0, _, _, _, _, _, _, _, _, _, _, _, _, _, _, _, _, _, _, _, _, _, _, _, _, _, _, _, _, _, _, _, _, _, _, _, _, _, _, _, _, _, _ => none
 | k + 1, x18, x19, x20, x25, x26, x27, x123000, x123001, x123002, x123003, x123004, x123005, x123006, x123007, x123008, x123009, x123010, x123011, x123012, x123013, x123014, x123015, x124000, x124001, x124002, x124003, x124004, x124005, x124006, x124007, x124008, x124009, x124010, x124011, x124012, x124013, x124014, x124015, x126000, x126001, x126002, x126003 => if x27 < x26 then (if 0 ≤ x27 then (if x27 < (x25.length : Int) then (if 0 ≤ (wrap64 (x126000 - 1)) then (if (wrap64 (x126000 - 1)) < 4 then (if 0 ≤ (wrap64 (((rd_T59 x25 x27).f0) - 1)) then (if (wrap64 (((rd_T59 x25 x27).f0) - 1)) < 4 then (graph_Of.l1 k x18 x19 x20 x25 x26 (wrap64 (x27 + 1)) (up ((wrap64 (x126000 - 1)) == 0 && (wrap64 (((rd_T59 x25 x27).f0) - 1)) == 0) ((rd_T59 x25 x27).f1) x123000) (up ((wrap64 (x126000 - 1)) == 0 && (wrap64 (((rd_T59 x25 x27).f0) - 1)) == 1) ((rd_T59 x25 x27).f1) x123001) (up ((wrap64 (x126000 - 1)) == 0 && (wrap64 (((rd_T59 x25 x27).f0) - 1)) == 2) ((rd_T59 x25 x27).f1) x123002) (up ((wrap64 (x126000 - 1)) == 0 && (wrap64 (((rd_T59 x25 x27).f0) - 1)) == 3) ((rd_T59 x25 x27).f1) x123003) (up ((wrap64 (x126000 - 1)) == 1 && (wrap64 (((rd_T59 x25 x27).f0) - 1)) == 0) ((rd_T59 x25 x27).f1) x123004) (up ((wrap64 (x126000 - 1)) == 1 && (wrap64 (((rd_T59 x25 x27).f0) - 1)) == 1) ((rd_T59 x25 x27).f1) x123005) (up ((wrap64 (x126000 - 1)) == 1 && (wrap64 (((rd_T59 x25 x27).f0) - 1)) == 2) ((rd_T59 x25 x27).f1) x123006) (up ((wrap64 (x126000 - 1)) == 1 && (wrap64 (((rd_T59 x25 x27).f0) - 1)) == 3) ((rd_T59 x25 x27).f1) x123007) (up ((wrap64 (x126000 - 1)) == 2 && (wrap64 (((rd_T59 x25 x27).f0) - 1)) == 0) ((rd_T59 x25 x27).f1) x123008) (up ((wrap64 (x126000 - 1)) == 2 && (wrap64 (((rd_T59 x25 x27).f0) - 1)) == 1) ((rd_T59 x25 x27).f1) x123009) (up ((wrap64 (x126000 - 1)) == 2 && (wrap64 (((rd_T59 x25 x27).f0) - 1)) == 2) ((rd_T59 x25 x27).f1) x123010) (up ((wrap64 (x126000 - 1)) == 2 && (wrap64 (((rd_T59 x25 x27).f0) - 1)) == 3) ((rd_T59 x25 x27).f1) x123011) (up ((wrap64 (x126000 - 1)) == 3 && (wrap64 (((rd_T59 x25 x27).f0) - 1)) == 0) ((rd_T59 x25 x27).f1) x123012) (up ((wrap64 (x126000 - 1)) == 3 && (wrap64 (((rd_T59 x25 x27).f0) - 1)) == 1) ((rd_T59 x25 x27).f1) x123013) (up ((wrap64 (x126000 - 1)) == 3 && (wrap64 (((rd_T59 x25 x27).f0) - 1)) == 2) ((rd_T59 x25 x27).f1) x123014) (up ((wrap64 (x126000 - 1)) == 3 && (wrap64 (((rd_T59 x25 x27).f0) - 1)) == 3) ((rd_T59 x25 x27).f1) x123015) x124000 x124001 x124002 x124003 x124004 x124005 x124006 x124007 x124008 x124009 x124010 x124011 x124012 x124013 x124014 x124015 x126000 x126001 x126002 x126003) else (none)) else (none)) else (none)) else (none)) else (none)) else (none)) else (graph_Of.l0 k x18 x19 (wrap64 (x20 + 1)) x123000 x123001 x123002 x123003 x123004 x123005 x123006 x123007 x123008 x123009 x123010 x123011 x123012 x123013 x123014 x123015 x124000 x124001 x124002 x124003 x124004 x124005 x124006 x124007 x124008 x124009 x124010 x124011 x124012 x124013 x124014 x124015)
def graph_Of.l2 : Nat → Int → Int → Int → Int → Int → Int → Int → Int → Int → Int → Int → Int → Int → Int → Int → Int → Int → Int → Int → Int → Int → Int → Int → Int → Int → Int → Int → Int → Int → Int → Int → Int → Int → Int → Int → Int → Int → Int → Int → Int → Int → Int → Int → Int → Int → Int → Int → Int → Int → Option (Int × Int × Int × Int × Int × Int × Int × Int × Int × Int × Int × Int × Int × Int × Int × Int × Int)
 | 0, _, _, _, _, _, _, _, _, _, _, _, _, _, _, _, _, _, _, _, _, _, _, _, _, _, _, _, _, _, _, _, _, _, _, _, _, _, _, _, _, _, _, _, _, _, _, _, _, _ => none
 | k + 1, x44, x123000, x123001, x123002, x123003, x123004, x123005, x123006, x123007, x123008, x123009, x123010, x123011, x123012, x123013, x123014, x123015, x124000, x124001, x124002, x124003, x124004, x124005, x124006, x124007, x124008, x124009, x124010, x124011, x124012, x124013, x124014, x124015, x500044000, x500044001, x500044002, x500044003, x500044004, x500044005, x500044006, x500044007, x500044008, x500044009, x500044010, x500044011, x500044012, x500044013, x500044014, x500044015 => if x44 < 4 then (if 0 ≤ x44 then (graph_Of.l3 k x44 x44 0 x123000 x123001 x123002 x123003 x123004 x123005 x123006 x123007 x123008 x123009 x123010 x123011 x123012 x123013 x123014 x123015 x124000 x124001 x124002 x124003 x124004 x124005 x124006 x124007 x124008 x124009 x124010 x124011 x124012 x124013 x124014 x124015 x500044000 x500044001 x500044002 x500044003 x500044004 x500044005 x500044006 x500044007 x500044008 x500044009 x500044010 x500044011 x500044012 x500044013 x500044014 x500044015 (ix4 x500044000 x500044004 x500044008 x500044012 x44) (ix4 x500044001 x500044005 x500044009 x500044013 x44) (ix4 x500044002 x500044006 x500044010 x500044014 x44) (ix4 x500044003 x500044007 x500044011 x500044015 x44)) else (none)) else (some (x124000, x124001, x124002, x124003, x124004, x124005, x124006, x124007, x124008, x124009, x124010, x124011, x124012, x124013, x124014, x124015, 0))
def graph_Of.l3 : Nat → Int → Int → Int → Int → Int → Int → Int → Int → Int → Int → Int → Int → Int → Int → Int → Int → Int → Int → Int → Int → Int → Int → Int → Int → Int → Int → Int → Int → Int → Int → Int → Int → Int → Int → Int → Int → Int → Int → Int → Int → Int → Int → Int → Int → Int → Int → Int → Int → Int → Int → Int → Int → Int → Int → Int → Option (Int × Int × Int × Int × Int × Int × Int × Int × Int × Int × Int × Int × Int × Int × Int × Int × Int)
 | 0, _, _, _, _, _, _, _, _, _, _, _, _, _, _, _, _, _, _, _, _, _, _, _, _, _, _, _, _, _, _, _, _, _, _, _, _, _, _, _, _, _, _, _, _, _, _, _, _, _, _, _, _, _, _, _ => none
 | k + 1, x10, x44, x49, x123000, x123001, x123002, x123003, x123004, x123005, x123006, x123007, x123008, x123009, x123010, x123011, x123012, x123013, x123014, x123015, x124000, x124001, x124002, x124003, x124004, x124005, x124006, x124007, x124008, x124009, x124010, x124011, x124012, x124013, x124014, x124015, x500044000, x500044001, x500044002, x500044003, x500044004, x500044005, x500044006, x500044007, x500044008, x500044009, x500044010, x500044011, x500044012, x500044013, x500044014, x500044015, x500049000, x500049001, x500049002, x500049003 => if x49 < 4 then (if 0 ≤ x49 then (if 0 ≤ x10 then (if x10 < 4 then (if (ix4 (ix4 x123000 x123001 x123002 x123003 x10) (ix4 x123004 x123005 x123006 x123007 x10) (ix4 x123008 x123009 x123010 x123011 x10) (ix4 x123012 x123013 x123014 x123015 x10) x49) > 0 then (graph_Of.l3 k x10 x44 (wrap64 (x49 + 1)) x123000 x123001 x123002 x123003 x123004 x123005 x123006 x123007 x123008 x123009 x123010 x123011 x123012 x123013 x123014 x123015 (up (x10 == 0 && x49 == 0) (ix4 x500049000 x500049001 x500049002 x500049003 x49) x124000) (up (x10 == 0 && x49 == 1) (ix4 x500049000 x500049001 x500049002 x500049003 x49) x124001) (up (x10 == 0 && x49 == 2) (ix4 x500049000 x500049001 x500049002 x500049003 x49) x124002) (up (x10 == 0 && x49 == 3) (ix4 x500049000 x500049001 x500049002 x500049003 x49) x124003) (up (x10 == 1 && x49 == 0) (ix4 x500049000 x500049001 x500049002 x500049003 x49) x124004) (up (x10 == 1 && x49 == 1) (ix4 x500049000 x500049001 x500049002 x500049003 x49) x124005) (up (x10 == 1 && x49 == 2) (ix4 x500049000 x500049001 x500049002 x500049003 x49) x124006) (up (x10 == 1 && x49 == 3) (ix4 x500049000 x500049001 x500049002 x500049003 x49) x124007) (up (x10 == 2 && x49 == 0) (ix4 x500049000 x500049001 x500049002 x500049003 x49) x124008) (up (x10 == 2 && x49 == 1) (ix4 x500049000 x500049001 x500049002 x500049003 x49) x124009) (up (x10 == 2 && x49 == 2) (ix4 x500049000 x500049001 x500049002 x500049003 x49) x124010) (up (x10 == 2 && x49 == 3) (ix4 x500049000 x500049001 x500049002 x500049003 x49) x124011) (up (x10 == 3 && x49 == 0) (ix4 x500049000 x500049001 x500049002 x500049003 x49) x124012) (up (x10 == 3 && x49 == 1) (ix4 x500049000 x500049001 x500049002 x500049003 x49) x124013) (up (x10 == 3 && x49 == 2) (ix4 x500049000 x500049001 x500049002 x500049003 x49) x124014) (up (x10 == 3 && x49 == 3) (ix4 x500049000 x500049001 x500049002 x500049003 x49) x124015) x500044000 x500044001 x500044002 x500044003 x500044004 x500044005 x500044006 x500044007 x500044008 x500044009 x500044010 x500044011 x500044012 x500044013 x500044014 x500044015 x500049000 x500049001 x500049002 x500049003) else (graph_Of.l3 k x10 x44 (wrap64 (x49 + 1)) x123000 x123001 x123002 x123003 x123004 x123005 x123006 x123007 x123008 x123009 x123010 x123011 x123012 x123013 x123014 x123015 x124000 x124001 x124002 x124003 x124004 x124005 x124006 x124007 x124008 x124009 x124010 x124011 x124012 x124013 x124014 x124015 x500044000 x500044001 x500044002 x500044003 x500044004 x500044005 x500044006 x500044007 x500044008 x500044009 x500044010 x500044011 x500044012 x500044013 x500044014 x500044015 x500049000 x500049001 x500049002 x500049003)) else (none)) else (none)) else (none)) else (graph_Of.l2 k (wrap64 (x44 + 1)) x123000 x123001 x123002 x123003 x123004 x123005 x123006 x123007 x123008 x123009 x123010 x123011 x123012 x123013 x123014 x123015 x124000 x124001 x124002 x124003 x124004 x124005 x124006 x124007 x124008 x124009 x124010 x124011 x124012 x124013 x124014 x124015 x500044000 x500044001 x500044002 x500044003 x500044004 x500044005 x500044006 x500044007 x500044008 x500044009 x500044010 x500044011 x500044012 x500044013 x500044014 x500044015)
end
def graph_Of.f (k : Nat) (l0 : List (S57)) : Option (Int × Int × Int × Int × Int × Int × Int × Int × Int × Int × Int × Int × Int × Int × Int × Int × Int) := (store_May.f k l0).bind fun t121 => (if t121 = true then (graph_Of.l0 k l0 (l0.length : Int) 0 0 0 0 0 0 0 0 0 0 0 0 0 0 0 0 0 0 0 0 0 0 0 0 0 0 0 0 0 0 0 0 0) else (some (0, 0, 0, 0, 0, 0, 0, 0, 0, 0, 0, 0, 0, 0, 0, 0, 2000)))
theorem graph_Of.mono_l : ∀ k, (∀ y0 y1 y2 y3 y4 y5 y6 y7 y8 y9 y10 y11 y12 y13 y14 y15 y16 y17 y18 y19 y20 y21 y22 y23 y24 y25 y26 y27 y28 y29 y30 y31 y32 y33 y34, LeO (graph_Of.l0 k y0 y1 y2 y3 y4 y5 y6 y7 y8 y9 y10 y11 y12 y13 y14 y15 y16 y17 y18 y19 y20 y21 y22 y23 y24 y25 y26 y27 y28 y29 y30 y31 y32 y33 y34) (graph_Of.l0 (k + 1) y0 y1 y2 y3 y4 y5 y6 y7 y8 y9 y10 y11 y12 y13 y14 y15 y16 y17 y18 y19 y20 y21 y22 y23 y24 y25 y26 y27 y28 y29 y30 y31 y32 y33 y34)) ∧ (∀ y0 y1 y2 y3 y4 y5 y6 y7 y8 y9 y10 y11 y12 y13 y14 y15 y16 y17 y18 y19 y20 y21 y22 y23 y24 y25 y26 y27 y28 y29 y30 y31 y32 y33 y34 y35 y36 y37 y38 y39 y40 y41, LeO (graph_Of.l1 k y0 y1 y2 y3 y4 y5 y6 y7 y8 y9 y10 y11 y12 y13 y14 y15 y16 y17 y18 y19 y20 y21 y22 y23 y24 y25 y26 y27 y28 y29 y30 y31 y32 y33 y34 y35 y36 y37 y38 y39 y40 y41) (graph_Of.l1 (k + 1) y0 y1 y2 y3 y4 y5 y6 y7 y8 y9 y10 y11 y12 y13 y14 y15 y16 y17 y18 y19 y20 y21 y22 y23 y24 y25 y26 y27 y28 y29 y30 y31 y32 y33 y34 y35 y36 y37 y38 y39 y40 y41)) ∧ (∀ y0 y1 y2 y3 y4 y5 y6 y7 y8 y9 y10 y11 y12 y13 y14 y15 y16 y17 y18 y19 y20 y21 y22 y23 y24 y25 y26 y27 y28 y29 y30 y31 y32 y33 y34 y35 y36 y37 y38 y39 y40 y41 y42 y43 y44 y45 y46 y47 y48, LeO (graph_Of.l2 k y0 y1 y2 y3 y4 y5 y6 y7 y8 y9 y10 y11 y12 y13 y14 y15 y16 y17 y18 y19 y20 y21 y22 y23 y24 y25 y26 y27 y28 y29 y30 y31 y32 y33 y34 y35 y36 y37 y38 y39 y40 y41 y42 y43 y44 y45 y46 y47 y48) (graph_Of.l2 (k + 1) y0 y1 y2 y3 y4 y5 y6 y7 y8 y9 y10 y11 y12 y13 y14 y15 y16 y17 y18 y19 y20 y21 y22 y23 y24 y25 y26 y27 y28 y29 y30 y31 y32 y33 y34 y35 y36 y37 y38 y39 y40 y41 y42 y43 y44 y45 y46 y47 y48)) ∧ (∀ y0 y1 y2 y3 y4 y5 y6 y7 y8 y9 y10 y11 y12 y13 y14 y15 y16 y17 y18 y19 y20 y21 y22 y23 y24 y25 y26 y27 y28 y29 y30 y31 y32 y33 y34 y35 y36 y37 y38 y39 y40 y41 y42 y43 y44 y45 y46 y47 y48 y49 y50 y51 y52 y53 y54, LeO (graph_Of.l3 k y0 y1 y2 y3 y4 y5 y6 y7 y8 y9 y10 y11 y12 y13 y14 y15 y16 y17 y18 y19 y20 y21 y22 y23 y24 y25 y26 y27 y28 y29 y30 y31 y32 y33 y34 y35 y36 y37 y38 y39 y40 y41 y42 y43 y44 y45 y46 y47 y48 y49 y50 y51 y52 y53 y54) (graph_Of.l3 (k + 1) y0 y1 y2 y3 y4 y5 y6 y7 y8 y9 y10 y11 y12 y13 y14 y15 y16 y17 y18 y19 y20 y21 y22 y23 y24 y25 y26 y27 y28 y29 y30 y31 y32 y33 y34 y35 y36 y37 y38 y39 y40 y41 y42 y43 y44 y45 y46 y47 y48 y49 y50 y51 y52 y53 y54))
 | 0 => ⟨fun _ _ _ _ _ _ _ _ _ _ _ _ _ _ _ _ _ _ _ _ _ _ _ _ _ _ _ _ _ _ _ _ _ _ _ r h => by simp [graph_Of.l0] at h, fun _ _ _ _ _ _ _ _ _ _ _ _ _ _ _ _ _ _ _ _ _ _ _ _ _ _ _ _ _ _ _ _ _ _ _ _ _ _ _ _ _ _ r h => by simp [graph_Of.l1] at h, fun _ _ _ _ _ _ _ _ _ _ _ _ _ _ _ _ _ _ _ _ _ _ _ _ _ _ _ _ _ _ _ _ _ _ _ _ _ _ _ _ _ _ _ _ _ _ _ _ _ r h => by simp [graph_Of.l2] at h, fun _ _ _ _ _ _ _ _ _ _ _ _ _ _ _ _ _ _ _ _ _ _ _ _ _ _ _ _ _ _ _ _ _ _ _ _ _ _ _ _ _ _ _ _ _ _ _ _ _ _ _ _ _ _ _ r h => by simp [graph_Of.l3] at h⟩
 | k + 1 => by
  obtain ⟨ih0, ih1, ih2, ih3⟩ := graph_Of.mono_l k
  refine ⟨?_, ?_, ?_, ?_⟩
  ·intro y0 y1 y2 y3 y4 y5 y6 y7 y8 y9 y10 y11 y12 y13 y14 y15 y16 y17 y18 y19 y20 y21 y22 y23 y24 y25 y26 y27 y28 y29 y30 y31 y32 y33 y34
   unfold graph_Of.l0
   repeat' first
   | (with_reducible exact ih0 _ _ _ _ _ _ _ _ _ _ _ _ _ _ _ _ _ _ _ _ _ _ _ _ _ _ _ _ _ _ _ _ _ _ _)
   | (with_reducible exact ih1 _ _ _ _ _ _ _ _ _ _ _ _ _ _ _ _ _ _ _ _ _ _ _ _ _ _ _ _ _ _ _ _ _ _ _ _ _ _ _ _ _ _)
   | (with_reducible exact ih2 _ _ _ _ _ _ _ _ _ _ _ _ _ _ _ _ _ _ _ _ _ _ _ _ _ _ _ _ _ _ _ _ _ _ _ _ _ _ _ _ _ _ _ _ _ _ _ _ _)
   | (with_reducible exact ih3 _ _ _ _ _ _ _ _ _ _ _ _ _ _ _ _ _ _ _ _ _ _ _ _ _ _ _ _ _ _ _ _ _ _ _ _ _ _ _ _ _ _ _ _ _ _ _ _ _ _ _ _ _ _ _)
   | (with_reducible exact store_May.mono _ _)
   | (with_reducible exact LeO.refl _)
   | (with_reducible exact LeO.none _)
   | (with_reducible refine LeO.ite ?_ ?_)
   | (with_reducible refine LeO.bind ?_ (fun _ => ?_))
   | exact ih0 _ _ _ _ _ _ _ _ _ _ _ _ _ _ _ _ _ _ _ _ _ _ _ _ _ _ _ _ _ _ _ _ _ _ _
   | exact ih1 _ _ _ _ _ _ _ _ _ _ _ _ _ _ _ _ _ _ _ _ _ _ _ _ _ _ _ _ _ _ _ _ _ _ _ _ _ _ _ _ _ _
   | exact ih2 _ _ _ _ _ _ _ _ _ _ _ _ _ _ _ _ _ _ _ _ _ _ _ _ _ _ _ _ _ _ _ _ _ _ _ _ _ _ _ _ _ _ _ _ _ _ _ _ _
   | exact ih3 _ _ _ _ _ _ _ _ _ _ _ _ _ _ _ _ _ _ _ _ _ _ _ _ _ _ _ _ _ _ _ _ _ _ _ _ _ _ _ _ _ _ _ _ _ _ _ _ _ _ _ _ _ _ _
   | exact store_May.mono _ _
   | exact LeO.none _
   | refine LeO.ite ?_ ?_
   | refine LeO.bind ?_ (fun _ => ?_)
  ·intro y0 y1 y2 y3 y4 y5 y6 y7 y8 y9 y10 y11 y12 y13 y14 y15 y16 y17 y18 y19 y20 y21 y22 y23 y24 y25 y26 y27 y28 y29 y30 y31 y32 y33 y34 y35 y36 y37 y38 y39 y40 y41
   unfold graph_Of.l1
   repeat' first
   | (with_reducible exact ih0 _ _ _ _ _ _ _ _ _ _ _ _ _ _ _ _ _ _ _ _ _ _ _ _ _ _ _ _ _ _ _ _ _ _ _)
   | (with_reducible exact ih1 _ _ _ _ _ _ _ _ _ _ _ _ _ _ _ _ _ _ _ _ _ _ _ _ _ _ _ _ _ _ _ _ _ _ _ _ _ _ _ _ _ _)
   | (with_reducible exact ih2 _ _ _ _ _ _ _ _ _ _ _ _ _ _ _ _ _ _ _ _ _ _ _ _ _ _ _ _ _ _ _ _ _ _ _ _ _ _ _ _ _ _ _ _ _ _ _ _ _)
   | (with_reducible exact ih3 _ _ _ _ _ _ _ _ _ _ _ _ _ _ _ _ _ _ _ _ _ _ _ _ _ _ _ _ _ _ _ _ _ _ _ _ _ _ _ _ _ _ _ _ _ _ _ _ _ _ _ _ _ _ _)
   | (with_reducible exact store_May.mono _ _)
   | (with_reducible exact LeO.refl _)
   | (with_reducible exact LeO.none _)
   | (with_reducible refine LeO.ite ?_ ?_)
   | (with_reducible refine LeO.bind ?_ (fun _ => ?_))
   | exact ih0 _ _ _ _ _ _ _ _ _ _ _ _ _ _ _ _ _ _ _ _ _ _ _ _ _ _ _ _ _ _ _ _ _ _ _
   | exact ih1 _ _ _ _ _ _ _ _ _ _ _ _ _ _ _ _ _ _ _ _ _ _ _ _ _ _ _ _ _ _ _ _ _ _ _ _ _ _ _ _ _ _
   | exact ih2 _ _ _ _ _ _ _ _ _ _ _ _ _ _ _ _ _ _ _ _ _ _ _ _ _ _ _ _ _ _ _ _ _ _ _ _ _ _ _ _ _ _ _ _ _ _ _ _ _
   | exact ih3 _ _ _ _ _ _ _ _ _ _ _ _ _ _ _ _ _ _ _ _ _ _ _ _ _ _ _ _ _ _ _ _ _ _ _ _ _ _ _ _ _ _ _ _ _ _ _ _ _ _ _ _ _ _ _
   | exact store_May.mono _ _
   | exact LeO.none _
   | refine LeO.ite ?_ ?_
   | refine LeO.bind ?_ (fun _ => ?_)
  ·intro y0 y1 y2 y3 y4 y5 y6 y7 y8 y9 y10 y11 y12 y13 y14 y15 y16 y17 y18 y19 y20 y21 y22 y23 y24 y25 y26 y27 y28 y29 y30 y31 y32 y33 y34 y35 y36 y37 y38 y39 y40 y41 y42 y43 y44 y45 y46 y47 y48
   unfold graph_Of.l2
   repeat' first
   | (with_reducible exact ih0 _ _ _ _ _ _ _ _ _ _ _ _ _ _ _ _ _ _ _ _ _ _ _ _ _ _ _ _ _ _ _ _ _ _ _)
   | (with_reducible exact ih1 _ _ _ _ _ _ _ _ _ _ _ _ _ _ _ _ _ _ _ _ _ _ _ _ _ _ _ _ _ _ _ _ _ _ _ _ _ _ _ _ _ _)
   | (with_reducible exact ih2 _ _ _ _ _ _ _ _ _ _ _ _ _ _ _ _ _ _ _ _ _ _ _ _ _ _ _ _ _ _ _ _ _ _ _ _ _ _ _ _ _ _ _ _ _ _ _ _ _)
   | (with_reducible exact ih3 _ _ _ _ _ _ _ _ _ _ _ _ _ _ _ _ _ _ _ _ _ _ _ _ _ _ _ _ _ _ _ _ _ _ _ _ _ _ _ _ _ _ _ _ _ _ _ _ _ _ _ _ _ _ _)
   | (with_reducible exact store_May.mono _ _)
   | (with_reducible exact LeO.refl _)
   | (with_reducible exact LeO.none _)
   | (with_reducible refine LeO.ite ?_ ?_)
   | (with_reducible refine LeO.bind ?_ (fun _ => ?_))
   | exact ih0 _ _ _ _ _ _ _ _ _ _ _ _ _ _ _ _ _ _ _ _ _ _ _ _ _ _ _ _ _ _ _ _ _ _ _
   | exact ih1 _ _ _ _ _ _ _ _ _ _ _ _ _ _ _ _ _ _ _ _ _ _ _ _ _ _ _ _ _ _ _ _ _ _ _ _ _ _ _ _ _ _
   | exact ih2 _ _ _ _ _ _ _ _ _ _ _ _ _ _ _ _ _ _ _ _ _ _ _ _ _ _ _ _ _ _ _ _ _ _ _ _ _ _ _ _ _ _ _ _ _ _ _ _ _
   | exact ih3 _ _ _ _ _ _ _ _ _ _ _ _ _ _ _ _ _ _ _ _ _ _ _ _ _ _ _ _ _ _ _ _ _ _ _ _ _ _ _ _ _ _ _ _ _ _ _ _ _ _ _ _ _ _ _
   | exact store_May.mono _ _
   | exact LeO.none _
   | refine LeO.ite ?_ ?_
   | refine LeO.bind ?_ (fun _ => ?_)
  ·intro y0 y1 y2 y3 y4 y5 y6 y7 y8 y9 y10 y11 y12 y13 y14 y15 y16 y17 y18 y19 y20 y21 y22 y23 y24 y25 y26 y27 y28 y29 y30 y31 y32 y33 y34 y35 y36 y37 y38 y39 y40 y41 y42 y43 y44 y45 y46 y47 y48 y49 y50 y51 y52 y53 y54
   unfold graph_Of.l3
   repeat' first
   | (with_reducible exact ih0 _ _ _ _ _ _ _ _ _ _ _ _ _ _ _ _ _ _ _ _ _ _ _ _ _ _ _ _ _ _ _ _ _ _ _)
   | (with_reducible exact ih1 _ _ _ _ _ _ _ _ _ _ _ _ _ _ _ _ _ _ _ _ _ _ _ _ _ _ _ _ _ _ _ _ _ _ _ _ _ _ _ _ _ _)
   | (with_reducible exact ih2 _ _ _ _ _ _ _ _ _ _ _ _ _ _ _ _ _ _ _ _ _ _ _ _ _ _ _ _ _ _ _ _ _ _ _ _ _ _ _ _ _ _ _ _ _ _ _ _ _)
   | (with_reducible exact ih3 _ _ _ _ _ _ _ _ _ _ _ _ _ _ _ _ _ _ _ _ _ _ _ _ _ _ _ _ _ _ _ _ _ _ _ _ _ _ _ _ _ _ _ _ _ _ _ _ _ _ _ _ _ _ _)
   | (with_reducible exact store_May.mono _ _)
   | (with_reducible exact LeO.refl _)
   | (with_reducible exact LeO.none _)
   | (with_reducible refine LeO.ite ?_ ?_)
   | (with_reducible refine LeO.bind ?_ (fun _ => ?_))
   | exact ih0 _ _ _ _ _ _ _ _ _ _ _ _ _ _ _ _ _ _ _ _ _ _ _ _ _ _ _ _ _ _ _ _ _ _ _
   | exact ih1 _ _ _ _ _ _ _ _ _ _ _ _ _ _ _ _ _ _ _ _ _ _ _ _ _ _ _ _ _ _ _ _ _ _ _ _ _ _ _ _ _ _
   | exact ih2 _ _ _ _ _ _ _ _ _ _ _ _ _ _ _ _ _ _ _ _ _ _ _ _ _ _ _ _ _ _ _ _ _ _ _ _ _ _ _ _ _ _ _ _ _ _ _ _ _
   | exact ih3 _ _ _ _ _ _ _ _ _ _ _ _ _ _ _ _ _ _ _ _ _ _ _ _ _ _ _ _ _ _ _ _ _ _ _ _ _ _ _ _ _ _ _ _ _ _ _ _ _ _ _ _ _ _ _
   | exact store_May.mono _ _
   | exact LeO.none _
   | refine LeO.ite ?_ ?_
   | refine LeO.bind ?_ (fun _ => ?_)
theorem graph_Of.mono : ∀ a0 k, LeO (graph_Of.f k a0) (graph_Of.f (k + 1) a0) := by
 intro a0 k
 obtain ⟨ih0, ih1, ih2, ih3⟩ := graph_Of.mono_l k
 unfold graph_Of.f
 repeat' first
   | (with_reducible exact ih0 _ _ _ _ _ _ _ _ _ _ _ _ _ _ _ _ _ _ _ _ _ _ _ _ _ _ _ _ _ _ _ _ _ _ _)
   | (with_reducible exact ih1 _ _ _ _ _ _ _ _ _ _ _ _ _ _ _ _ _ _ _ _ _ _ _ _ _ _ _ _ _ _ _ _ _ _ _ _ _ _ _ _ _ _)
   | (with_reducible exact ih2 _ _ _ _ _ _ _ _ _ _ _ _ _ _ _ _ _ _ _ _ _ _ _ _ _ _ _ _ _ _ _ _ _ _ _ _ _ _ _ _ _ _ _ _ _ _ _ _ _)
   | (with_reducible exact ih3 _ _ _ _ _ _ _ _ _ _ _ _ _ _ _ _ _ _ _ _ _ _ _ _ _ _ _ _ _ _ _ _ _ _ _ _ _ _ _ _ _ _ _ _ _ _ _ _ _ _ _ _ _ _ _)
   | (with_reducible exact store_May.mono _ _)
   | (with_reducible exact LeO.refl _)
   | (with_reducible exact LeO.none _)
   | (with_reducible refine LeO.ite ?_ ?_)
   | (with_reducible refine LeO.bind ?_ (fun _ => ?_))
   | exact ih0 _ _ _ _ _ _ _ _ _ _ _ _ _ _ _ _ _ _ _ _ _ _ _ _ _ _ _ _ _ _ _ _ _ _ _
   | exact ih1 _ _ _ _ _ _ _ _ _ _ _ _ _ _ _ _ _ _ _ _ _ _ _ _ _ _ _ _ _ _ _ _ _ _ _ _ _ _ _ _ _ _
   | exact ih2 _ _ _ _ _ _ _ _ _ _ _ _ _ _ _ _ _ _ _ _ _ _ _ _ _ _ _ _ _ _ _ _ _ _ _ _ _ _ _ _ _ _ _ _ _ _ _ _ _
   | exact ih3 _ _ _ _ _ _ _ _ _ _ _ _ _ _ _ _ _ _ _ _ _ _ _ _ _ _ _ _ _ _ _ _ _ _ _ _ _ _ _ _ _ _ _ _ _ _ _ _ _ _ _ _ _ _ _
   | exact store_May.mono _ _
   | exact LeO.none _
   | refine LeO.ite ?_ ?_
   | refine LeO.bind ?_ (fun _ => ?_)
def graph_Of.T10 : Bool × List (List Nat × List Nat) := (true, [([], []), ([0], [0]), ([1], [1]), ([], []), ([3], [3]), ([4], [4]), ([], []), ([6], [6]), ([2], [2]), ([8, 5, 0, 1, 2, 3, 4, 5, 6, 7], [5, 8]), ([9, 7, 0, 1, 2, 3, 4, 5, 6, 7], [7, 9])])
def graph_Of.B10 : List Nat := [0, 1, 3, 0, 8, 24, 0, 64, 7, 511, 1023]
theorem graph_Of.tab10 : rtab .any (opsOf Try.f21 10) = graph_Of.T10 := by kernel_rfl
theorem graph_Of.bits10 : waitsOk graph_Of.T10.2 graph_Of.B10 = true := by kernel_rfl
set_option maxHeartbeats 8000000 in
set_option maxRecDepth 100000 in
theorem graph_Of.calls (k : Nat) (A0 : Option Addr) (c0 : Nat) (l0 : List (S57)) (r1 : Int) (r2 : Int) (r3 : Int) (r4 : Int) (r5 : Int) (r6 : Int) (r7 : Int) (r8 : Int) (r9 : Int) (r10 : Int) (r11 : Int) (r12 : Int) (r13 : Int) (r14 : Int) (r15 : Int) (r16 : Int) (r17 : Int) (w : World) (hr0 : Kd.C k57 w A0 l0.length l0) (hc0 : l0.length ≤ c0) (h : graph_Of.f k l0 = some (r1, r2, r3, r4, r5, r6, r7, r8, r9, r10, r11, r12, r13, r14, r15, r16, r17)) :
  Calls Try.prog 21 #[.slice A0 l0.length c0] w fun e w' => e = .returned (.tuple #[.agg #[.int .i64 r1, .int .i64 r2, .int .i64 r3, .int .i64 r4, .int .i64 r5, .int .i64 r6, .int .i64 r7, .int .i64 r8, .int .i64 r9, .int .i64 r10, .int .i64 r11, .int .i64 r12, .int .i64 r13, .int .i64 r14, .int .i64 r15, .int .i64 r16], .int .i64 r17]) ∧ Below w.heap.size w w' := by
 have hu23 := Try.underlying23
 have hu57 := Try.underlying57
 have hu59 := Try.underlying59
 have hu22 := Try.underlying22
 have HR0 := Aside0.mk hr0
 have HC0 := Aside0.mk hc0
 clear hr0 hc0
 have HB := Aside0.mk (Below.refl w.heap.size w)
 have H : ((store_May.f k l0).bind fun t121 => (if t121 = true then (graph_Of.l0 k l0 (l0.length : Int) 0 0 0 0 0 0 0 0 0 0 0 0 0 0 0 0 0 0 0 0 0 0 0 0 0 0 0 0 0 0 0 0 0) else (some (0, 0, 0, 0, 0, 0, 0, 0, 0, 0, 0, 0, 0, 0, 0, 0, 2000)))) = some (r1, r2, r3, r4, r5, r6, r7, r8, r9, r10, r11, r12, r13, r14, r15, r16, r17) := h
 clear h
 replace H := Option.bind_eq_some_iff.mp H
 obtain ⟨t121, A20, H⟩ := H
 replace H : (if t121 = true then (graph_Of.l0 k l0 (l0.length : Int) 0 0 0 0 0 0 0 0 0 0 0 0 0 0 0 0 0 0 0 0 0 0 0 0 0 0 0 0 0 0 0 0 0) else (some (0, 0, 0, 0, 0, 0, 0, 0, 0, 0, 0, 0, 0, 0, 0, 0, 2000))) = some (r1, r2, r3, r4, r5, r6, r7, r8, r9, r10, r11, r12, r13, r14, r15, r16, r17) := H
 have A2 := Aside0.mk A20
 clear A20
 by_cases c3 : t121 = true
 ·subst c3
  have H1 : (graph_Of.l0 k l0 (l0.length : Int) 0 0 0 0 0 0 0 0 0 0 0 0 0 0 0 0 0 0 0 0 0 0 0 0 0 0 0 0 0 0 0 0 0) = some (r1, r2, r3, r4, r5, r6, r7, r8, r9, r10, r11, r12, r13, r14, r15, r16, r17) := by rw [if_pos rfl] at H; exact H
  clear H
  have H := H1
  clear H1
  have H' := Aside0.mk H
  clear H
  go_enter Try.func21, Try.ntmps21
  go_wp2_with (first | ((with_reducible refine gate_dst (N := 2) rfl ?_); refine box_event ?hg (N := 2) ?hd (cs := #[.int .i64 0, .int .i64 0, .int .i64 0, .int .i64 0, .int .i64 0, .int .i64 0, .int .i64 0, .int .i64 0, .int .i64 0, .int .i64 0, .int .i64 0, .int .i64 0, .int .i64 0, .int .i64 0, .int .i64 0, .int .i64 0]) (t := 23) ?hr ?_; (case hd => rfl); (case hg => rfl); (case hr => first | (go_simp; done) | (go_simp; rfl)); intro gb120 hg w4 hbox hb; have n0_ := Aside0.mk (below_step (by repeat (first | (with_reducible first | exact HB.out | apply below_alloc | apply pw_below_drewN | apply below_drew1) | exact HB.out)) hb); have n1_ := Aside0.mk (hbox); have n2_ := Aside0.mk ((by rw [hg]; exact (below_size (by repeat (first | (with_reducible first | exact HB.out | apply below_alloc | apply pw_below_drewN | apply below_drew1) | exact HB.out))) : w.heap.size ≤ gb120)); have n3_ := Aside0.mk ((by rw [hg]; exact (below_size (by repeat (first | (with_reducible first | exact HB.out | apply below_alloc | apply pw_below_drewN | apply below_drew1) | exact HB.out))) : w.heap.size ≤ gb120)); clear HB; have HB := n0_; have BK120 := n1_; have GW120 := n2_; have GE120 := n3_; clear n0_ n1_ n2_ n3_; clear hb hbox hg) | ((with_reducible refine gate_callee (f := 32) rfl ?_); refine goesL_ (some 15) rfl rfl Try.func32 (by kernel_rfl) rfl #[.slice A0 l0.length c0] rfl (by (try simp only [List.map_toArray, List.map_cons, List.map_nil]); first | done | rfl | (simp only [List.length_drop, List.length_take]; rfl)) ?_; (with_reducible refine (store_May.calls k _ _ l0 true _ ?side1 ?side2 A2.out).mono ?_); (case side1 => repeat (first | exact (Kd.C_below HR0.out HB.out) | (with_reducible refine Kd.C_alloc ?_ _) | (with_reducible refine Kd.C_drewN ?_ _) | (with_reducible refine Kd.C_drew ?_))); (case side2 => exact HC0.out); rintro e w5 ⟨rfl, hb⟩; refine ⟨_, rfl, ?_⟩; have n0_ := Aside0.mk (blk_below (g := gb120) (o := .cells #[.int .i64 0, .int .i64 0, .int .i64 0, .int .i64 0, .int .i64 0, .int .i64 0, .int .i64 0, .int .i64 0, .int .i64 0, .int .i64 0, .int .i64 0, .int .i64 0, .int .i64 0, .int .i64 0, .int .i64 0, .int .i64 0] 23 (0, 0)) (by (with_reducible repeat (first | refine blk_drewN ?_ _ | refine blk_drew ?_ | refine blk_alloc ?_ _)); exact BK120.out) hb); have n1_ := Aside0.mk (below_step (by repeat (first | (with_reducible first | exact HB.out | apply below_alloc | apply pw_below_drewN | apply below_drew1 | refine below_set ?_ GE120.out) | exact HB.out)) hb); clear BK120; clear HB; have BK120 := n0_; have HB := n1_; clear n0_ n1_; (try clear hb); (try clear hb2); (try clear hk); (try clear hi)) | ((with_reducible refine gate_dst (N := 4) rfl ?_); refine box_event ?hg (N := 4) ?hd (cs := #[.int .i64 0, .int .i64 0, .int .i64 0, .int .i64 0, .int .i64 0, .int .i64 0, .int .i64 0, .int .i64 0, .int .i64 0, .int .i64 0, .int .i64 0, .int .i64 0, .int .i64 0, .int .i64 0, .int .i64 0, .int .i64 0]) (t := 23) ?hr ?_; (case hd => rfl); (case hg => rfl); (case hr => first | (go_simp; done) | (go_simp; rfl)); intro gb122 hg w6 hbox hb; have n0_ := Aside0.mk (blk_below (g := gb120) (o := .cells #[.int .i64 0, .int .i64 0, .int .i64 0, .int .i64 0, .int .i64 0, .int .i64 0, .int .i64 0, .int .i64 0, .int .i64 0, .int .i64 0, .int .i64 0, .int .i64 0, .int .i64 0, .int .i64 0, .int .i64 0, .int .i64 0] 23 (0, 0)) (by (with_reducible repeat (first | refine blk_drewN ?_ _ | refine blk_drew ?_ | refine blk_alloc ?_ _)); exact BK120.out) hb); have n1_ := Aside0.mk (below_step (by repeat (first | (with_reducible first | exact HB.out | apply below_alloc | apply pw_below_drewN | apply below_drew1 | refine below_set ?_ GE120.out) | exact HB.out)) hb); have n2_ := Aside0.mk (hbox); have n3_ := Aside0.mk ((by rw [hg]; exact (below_size (by repeat (first | (with_reducible first | exact HB.out | apply below_alloc | apply pw_below_drewN | apply below_drew1 | refine below_set ?_ GE120.out) | exact HB.out))) : w.heap.size ≤ gb122)); have n4_ := Aside0.mk ((by rw [hg]; exact (below_size (by repeat (first | (with_reducible first | exact HB.out | apply below_alloc | apply pw_below_drewN | apply below_drew1 | refine below_set ?_ GE120.out) | exact HB.out))) : w.heap.size ≤ gb122)); have n5_ := Aside0.mk ((by rw [hg]; exact Nat.ne_of_lt (blk_lt (g := gb120) (o := .cells #[.int .i64 0, .int .i64 0, .int .i64 0, .int .i64 0, .int .i64 0, .int .i64 0, .int .i64 0, .int .i64 0, .int .i64 0, .int .i64 0, .int .i64 0, .int .i64 0, .int .i64 0, .int .i64 0, .int .i64 0, .int .i64 0] 23 (0, 0)) (by (with_reducible repeat (first | refine blk_drewN ?_ _ | refine blk_drew ?_ | refine blk_alloc ?_ _)); exact BK120.out)) : gb120 ≠ gb122)); have n6_ := Aside0.mk ((by rw [hg]; exact Nat.ne_of_gt (blk_lt (g := gb120) (o := .cells #[.int .i64 0, .int .i64 0, .int .i64 0, .int .i64 0, .int .i64 0, .int .i64 0, .int .i64 0, .int .i64 0, .int .i64 0, .int .i64 0, .int .i64 0, .int .i64 0, .int .i64 0, .int .i64 0, .int .i64 0, .int .i64 0] 23 (0, 0)) (by (with_reducible repeat (first | refine blk_drewN ?_ _ | refine blk_drew ?_ | refine blk_alloc ?_ _)); exact BK120.out)) : gb122 ≠ gb120)); clear BK120; clear HB; have BK120 := n0_; have HB := n1_; have BK122 := n2_; have GW122 := n3_; have GE122 := n4_; have NB120_122 := n5_; have NB122_120 := n6_; clear n0_ n1_ n2_ n3_ n4_ n5_ n6_; clear hb hbox hg) | ((with_reducible refine gate_dst (N := 5) rfl ?_); refine box_event ?hg (N := 5) ?hd (cs := #[.int .i64 0, .int .i64 0, .int .i64 0, .int .i64 0, .int .i64 0, .int .i64 0, .int .i64 0, .int .i64 0, .int .i64 0, .int .i64 0, .int .i64 0, .int .i64 0, .int .i64 0, .int .i64 0, .int .i64 0, .int .i64 0]) (t := 23) ?hr ?_; (case hd => rfl); (case hg => rfl); (case hr => first | (go_simp; done) | (go_simp; rfl)); intro gb123 hg w7 hbox hb; have n0_ := Aside0.mk (blk_below (g := gb120) (o := .cells #[.int .i64 0, .int .i64 0, .int .i64 0, .int .i64 0, .int .i64 0, .int .i64 0, .int .i64 0, .int .i64 0, .int .i64 0, .int .i64 0, .int .i64 0, .int .i64 0, .int .i64 0, .int .i64 0, .int .i64 0, .int .i64 0] 23 (0, 0)) (by (with_reducible repeat (first | refine blk_drewN ?_ _ | refine blk_drew ?_ | refine blk_alloc ?_ _)); exact BK120.out) hb); have n1_ := Aside0.mk (blk_below (g := gb122) (o := .cells #[.int .i64 0, .int .i64 0, .int .i64 0, .int .i64 0, .int .i64 0, .int .i64 0, .int .i64 0, .int .i64 0, .int .i64 0, .int .i64 0, .int .i64 0, .int .i64 0, .int .i64 0, .int .i64 0, .int .i64 0, .int .i64 0] 23 (0, 0)) (by (with_reducible repeat (first | refine blk_drewN ?_ _ | refine blk_drew ?_ | refine blk_alloc ?_ _)); exact BK122.out) hb); have n2_ := Aside0.mk (below_step (by repeat (first | (with_reducible first | exact HB.out | apply below_alloc | apply pw_below_drewN | apply below_drew1 | refine below_set ?_ GE120.out | refine below_set ?_ GE122.out) | exact HB.out)) hb); have n3_ := Aside0.mk (hbox); have n4_ := Aside0.mk ((by rw [hg]; exact (below_size (by repeat (first | (with_reducible first | exact HB.out | apply below_alloc | apply pw_below_drewN | apply below_drew1 | refine below_set ?_ GE120.out | refine below_set ?_ GE122.out) | exact HB.out))) : w.heap.size ≤ gb123)); have n5_ := Aside0.mk ((by rw [hg]; exact (below_size (by repeat (first | (with_reducible first | exact HB.out | apply below_alloc | apply pw_below_drewN | apply below_drew1 | refine below_set ?_ GE120.out | refine below_set ?_ GE122.out) | exact HB.out))) : w.heap.size ≤ gb123)); have n6_ := Aside0.mk ((by rw [hg]; exact Nat.ne_of_lt (blk_lt (g := gb120) (o := .cells #[.int .i64 0, .int .i64 0, .int .i64 0, .int .i64 0, .int .i64 0, .int .i64 0, .int .i64 0, .int .i64 0, .int .i64 0, .int .i64 0, .int .i64 0, .int .i64 0, .int .i64 0, .int .i64 0, .int .i64 0, .int .i64 0] 23 (0, 0)) (by (with_reducible repeat (first | refine blk_drewN ?_ _ | refine blk_drew ?_ | refine blk_alloc ?_ _)); exact BK120.out)) : gb120 ≠ gb123)); have n7_ := Aside0.mk ((by rw [hg]; exact Nat.ne_of_gt (blk_lt (g := gb120) (o := .cells #[.int .i64 0, .int .i64 0, .int .i64 0, .int .i64 0, .int .i64 0, .int .i64 0, .int .i64 0, .int .i64 0, .int .i64 0, .int .i64 0, .int .i64 0, .int .i64 0, .int .i64 0, .int .i64 0, .int .i64 0, .int .i64 0] 23 (0, 0)) (by (with_reducible repeat (first | refine blk_drewN ?_ _ | refine blk_drew ?_ | refine blk_alloc ?_ _)); exact BK120.out)) : gb123 ≠ gb120)); have n8_ := Aside0.mk ((by rw [hg]; exact Nat.ne_of_lt (blk_lt (g := gb122) (o := .cells #[.int .i64 0, .int .i64 0, .int .i64 0, .int .i64 0, .int .i64 0, .int .i64 0, .int .i64 0, .int .i64 0, .int .i64 0, .int .i64 0, .int .i64 0, .int .i64 0, .int .i64 0, .int .i64 0, .int .i64 0, .int .i64 0] 23 (0, 0)) (by (with_reducible repeat (first | refine blk_drewN ?_ _ | refine blk_drew ?_ | refine blk_alloc ?_ _)); exact BK122.out)) : gb122 ≠ gb123)); have n9_ := Aside0.mk ((by rw [hg]; exact Nat.ne_of_gt (blk_lt (g := gb122) (o := .cells #[.int .i64 0, .int .i64 0, .int .i64 0, .int .i64 0, .int .i64 0, .int .i64 0, .int .i64 0, .int .i64 0, .int .i64 0, .int .i64 0, .int .i64 0, .int .i64 0, .int .i64 0, .int .i64 0, .int .i64 0, .int .i64 0] 23 (0, 0)) (by (with_reducible repeat (first | refine blk_drewN ?_ _ | refine blk_drew ?_ | refine blk_alloc ?_ _)); exact BK122.out)) : gb123 ≠ gb122)); clear BK120; clear BK122; clear HB; have BK120 := n0_; have BK122 := n1_; have HB := n2_; have BK123 := n3_; have GW123 := n4_; have GE123 := n5_; have NB120_123 := n6_; have NB123_120 := n7_; have NB122_123 := n8_; have NB123_122 := n9_; clear n0_ n1_ n2_ n3_ n4_ n5_ n6_ n7_ n8_ n9_; clear hb hbox hg))
  go_loopg [20] k (fun kq v20 w' => ∃ (x20_1 : Int) (x123000_1 : Int) (x123001_1 : Int) (x123002_1 : Int) (x123003_1 : Int) (x123004_1 : Int) (x123005_1 : Int) (x123006_1 : Int) (x123007_1 : Int) (x123008_1 : Int) (x123009_1 : Int) (x123010_1 : Int) (x123011_1 : Int) (x123012_1 : Int) (x123013_1 : Int) (x123014_1 : Int) (x123015_1 : Int), v20 = .int .i64 x20_1 ∧ Aside0 (graph_Of.l0 kq l0 (l0.length : Int) x20_1 x123000_1 x123001_1 x123002_1 x123003_1 x123004_1 x123005_1 x123006_1 x123007_1 x123008_1 x123009_1 x123010_1 x123011_1 x123012_1 x123013_1 x123014_1 x123015_1 0 0 0 0 0 0 0 0 0 0 0 0 0 0 0 0 = some (r1, r2, r3, r4, r5, r6, r7, r8, r9, r10, r11, r12, r13, r14, r15, r16, r17)) ∧ Aside0 (kq ≤ k) ∧ Aside0 (w'.heap[gb120]? = some (.cells #[.int .i64 0, .int .i64 0, .int .i64 0, .int .i64 0, .int .i64 0, .int .i64 0, .int .i64 0, .int .i64 0, .int .i64 0, .int .i64 0, .int .i64 0, .int .i64 0, .int .i64 0, .int .i64 0, .int .i64 0, .int .i64 0] 23 (0, 0))) ∧ Aside0 (w'.heap[gb122]? = some (.cells #[.int .i64 x123000_1, .int .i64 x123001_1, .int .i64 x123002_1, .int .i64 x123003_1, .int .i64 x123004_1, .int .i64 x123005_1, .int .i64 x123006_1, .int .i64 x123007_1, .int .i64 x123008_1, .int .i64 x123009_1, .int .i64 x123010_1, .int .i64 x123011_1, .int .i64 x123012_1, .int .i64 x123013_1, .int .i64 x123014_1, .int .i64 x123015_1] 23 (0, 0))) ∧ Aside0 (w'.heap[gb123]? = some (.cells #[.int .i64 0, .int .i64 0, .int .i64 0, .int .i64 0, .int .i64 0, .int .i64 0, .int .i64 0, .int .i64 0, .int .i64 0, .int .i64 0, .int .i64 0, .int .i64 0, .int .i64 0, .int .i64 0, .int .i64 0, .int .i64 0] 23 (0, 0))) ∧ Aside0 (Below w.heap.size w w'))
  case atStart => exact ⟨(0), (0), (0), (0), (0), (0), (0), (0), (0), (0), (0), (0), (0), (0), (0), (0), (0), (by first | rfl | (simp; done) | (simp [*]; done)), H', ⟨Nat.le_refl _⟩, ⟨by (with_reducible repeat (first | refine blk_drewN ?_ _ | refine blk_drew ?_ | refine blk_alloc ?_ _)); exact BK120.out⟩, ⟨by (with_reducible repeat (first | refine blk_drewN ?_ _ | refine blk_drew ?_ | refine blk_alloc ?_ _)); exact BK122.out⟩, ⟨by (with_reducible repeat (first | refine blk_drewN ?_ _ | refine blk_drew ?_ | refine blk_alloc ?_ _)); exact BK123.out⟩, ⟨by repeat (first | (with_reducible first | exact HB.out | apply below_alloc | apply pw_below_drewN | apply below_drew1 | refine below_set ?_ GE120.out | refine below_set ?_ GE122.out | refine below_set ?_ GE123.out) | exact HB.out)⟩⟩
  case round =>
   clear H'
   try clear c2
   try clear p2
   try clear c3
   obtain ⟨x20_1, x123000_1, x123001_1, x123002_1, x123003_1, x123004_1, x123005_1, x123006_1, x123007_1, x123008_1, x123009_1, x123010_1, x123011_1, x123012_1, x123013_1, x123014_1, x123015_1, rfl, HA, HK1, BK120, BK122, BK123, HB⟩ := hrel
   cases gk with
   | zero => exact absurd HA.out (by simp [graph_Of.l0])
   | succ k1 =>
    have H := HA.out
    clear HA
    simp only [graph_Of.l0] at H
    by_cases c8 : x20_1 < (l0.length : Int)
    ·rw [if_pos c8] at H
     have c8b0 : decide (x20_1 < (l0.length : Int)) = true := decide_eq_true c8
     clear c8
     by_cases c9 : 0 ≤ x20_1
     ·rw [if_pos c9] at H
      have c9b0 : decide (0 ≤ x20_1) = true := decide_eq_true c9
      clear c9
      by_cases c10 : x20_1 < (l0.length : Int)
      ·rw [if_pos c10] at H
       have c10b0 : decide (x20_1 < (l0.length : Int)) = true := decide_eq_true c10
       clear c10
       have H' := Aside0.mk H
       clear H
       have p124 : 0 ≤ (x20_1 : Int) := of_decide_eq_true (by first | (with_reducible assumption) | assumption)
       have q124 : x20_1 < (l0.length : Int) := of_decide_eq_true (by first | (with_reducible assumption) | assumption)
       obtain ⟨ad124, A124_3, c124_3, e124, hx124_0, hx124_1, hx124_2, hx124_3, hl124_3, hi124_3⟩ := at_T57 HR0.out x20_1 p124 q124
       cases e124
       replace hx124_0 := (HB.out.cell (World.block_lt_of_cell? w _ hx124_0)).trans hx124_0
       replace hx124_1 := (HB.out.cell (World.block_lt_of_cell? w _ hx124_1)).trans hx124_1
       replace hx124_2 := (HB.out.cell (World.block_lt_of_cell? w _ hx124_2)).trans hx124_2
       replace hx124_3 := (HB.out.cell (World.block_lt_of_cell? w _ hx124_3)).trans hx124_3
       have HR124_3 := Aside0.mk hi124_3
       have HC124_3 := Aside0.mk hl124_3
       clear hi124_3 hl124_3
       replace p124 := eq_true p124
       replace q124 := eq_true q124
       go_wp2_with (first | ((with_reducible refine gate_dst (N := 7) rfl ?_); refine box_event ?hg (N := 7) ?hd (cs := #[.int .i64 0, .int .i64 0, .int .i64 0, .slice none 0 0]) (t := 57) ?hr ?_; (case hd => rfl); (case hg => rfl); (case hr => first | (go_simp; done) | (go_simp; rfl)); intro gb125 hg w11 hbox hb; have n0_ := Aside0.mk (blk_below (g := gb120) (o := .cells #[.int .i64 0, .int .i64 0, .int .i64 0, .int .i64 0, .int .i64 0, .int .i64 0, .int .i64 0, .int .i64 0, .int .i64 0, .int .i64 0, .int .i64 0, .int .i64 0, .int .i64 0, .int .i64 0, .int .i64 0, .int .i64 0] 23 (0, 0)) (by (with_reducible repeat (first | refine blk_drewN ?_ _ | refine blk_drew ?_ | refine blk_alloc ?_ _)); exact BK120.out) hb); have n1_ := Aside0.mk (blk_below (g := gb122) (o := .cells #[.int .i64 x123000_1, .int .i64 x123001_1, .int .i64 x123002_1, .int .i64 x123003_1, .int .i64 x123004_1, .int .i64 x123005_1, .int .i64 x123006_1, .int .i64 x123007_1, .int .i64 x123008_1, .int .i64 x123009_1, .int .i64 x123010_1, .int .i64 x123011_1, .int .i64 x123012_1, .int .i64 x123013_1, .int .i64 x123014_1, .int .i64 x123015_1] 23 (0, 0)) (by (with_reducible repeat (first | refine blk_drewN ?_ _ | refine blk_drew ?_ | refine blk_alloc ?_ _)); exact BK122.out) hb); have n2_ := Aside0.mk (blk_below (g := gb123) (o := .cells #[.int .i64 0, .int .i64 0, .int .i64 0, .int .i64 0, .int .i64 0, .int .i64 0, .int .i64 0, .int .i64 0, .int .i64 0, .int .i64 0, .int .i64 0, .int .i64 0, .int .i64 0, .int .i64 0, .int .i64 0, .int .i64 0] 23 (0, 0)) (by (with_reducible repeat (first | refine blk_drewN ?_ _ | refine blk_drew ?_ | refine blk_alloc ?_ _)); exact BK123.out) hb); have n3_ := Aside0.mk (below_step (by repeat (first | (with_reducible first | exact HB.out | apply below_alloc | apply pw_below_drewN | apply below_drew1 | refine below_set ?_ GE120.out | refine below_set ?_ GE122.out | refine below_set ?_ GE123.out) | exact HB.out)) hb); have n4_ := Aside0.mk (hbox); have n5_ := Aside0.mk ((by rw [hg]; exact (below_size (by repeat (first | (with_reducible first | exact HB.out | apply below_alloc | apply pw_below_drewN | apply below_drew1 | refine below_set ?_ GE120.out | refine below_set ?_ GE122.out | refine below_set ?_ GE123.out) | exact HB.out))) : w.heap.size ≤ gb125)); have n6_ := Aside0.mk ((by rw [hg]; exact (below_size (by repeat (first | (with_reducible first | exact HB.out | apply below_alloc | apply pw_below_drewN | apply below_drew1 | refine below_set ?_ GE120.out | refine below_set ?_ GE122.out | refine below_set ?_ GE123.out) | exact HB.out))) : w.heap.size ≤ gb125)); have n7_ := Aside0.mk ((by rw [hg]; exact Nat.ne_of_lt (blk_lt (g := gb120) (o := .cells #[.int .i64 0, .int .i64 0, .int .i64 0, .int .i64 0, .int .i64 0, .int .i64 0, .int .i64 0, .int .i64 0, .int .i64 0, .int .i64 0, .int .i64 0, .int .i64 0, .int .i64 0, .int .i64 0, .int .i64 0, .int .i64 0] 23 (0, 0)) (by (with_reducible repeat (first | refine blk_drewN ?_ _ | refine blk_drew ?_ | refine blk_alloc ?_ _)); exact BK120.out)) : gb120 ≠ gb125)); have n8_ := Aside0.mk ((by rw [hg]; exact Nat.ne_of_gt (blk_lt (g := gb120) (o := .cells #[.int .i64 0, .int .i64 0, .int .i64 0, .int .i64 0, .int .i64 0, .int .i64 0, .int .i64 0, .int .i64 0, .int .i64 0, .int .i64 0, .int .i64 0, .int .i64 0, .int .i64 0, .int .i64 0, .int .i64 0, .int .i64 0] 23 (0, 0)) (by (with_reducible repeat (first | refine blk_drewN ?_ _ | refine blk_drew ?_ | refine blk_alloc ?_ _)); exact BK120.out)) : gb125 ≠ gb120)); have n9_ := Aside0.mk ((by rw [hg]; exact Nat.ne_of_lt (blk_lt (g := gb122) (o := .cells #[.int .i64 x123000_1, .int .i64 x123001_1, .int .i64 x123002_1, .int .i64 x123003_1, .int .i64 x123004_1, .int .i64 x123005_1, .int .i64 x123006_1, .int .i64 x123007_1, .int .i64 x123008_1, .int .i64 x123009_1, .int .i64 x123010_1, .int .i64 x123011_1, .int .i64 x123012_1, .int .i64 x123013_1, .int .i64 x123014_1, .int .i64 x123015_1] 23 (0, 0)) (by (with_reducible repeat (first | refine blk_drewN ?_ _ | refine blk_drew ?_ | refine blk_alloc ?_ _)); exact BK122.out)) : gb122 ≠ gb125)); have n10_ := Aside0.mk ((by rw [hg]; exact Nat.ne_of_gt (blk_lt (g := gb122) (o := .cells #[.int .i64 x123000_1, .int .i64 x123001_1, .int .i64 x123002_1, .int .i64 x123003_1, .int .i64 x123004_1, .int .i64 x123005_1, .int .i64 x123006_1, .int .i64 x123007_1, .int .i64 x123008_1, .int .i64 x123009_1, .int .i64 x123010_1, .int .i64 x123011_1, .int .i64 x123012_1, .int .i64 x123013_1, .int .i64 x123014_1, .int .i64 x123015_1] 23 (0, 0)) (by (with_reducible repeat (first | refine blk_drewN ?_ _ | refine blk_drew ?_ | refine blk_alloc ?_ _)); exact BK122.out)) : gb125 ≠ gb122)); have n11_ := Aside0.mk ((by rw [hg]; exact Nat.ne_of_lt (blk_lt (g := gb123) (o := .cells #[.int .i64 0, .int .i64 0, .int .i64 0, .int .i64 0, .int .i64 0, .int .i64 0, .int .i64 0, .int .i64 0, .int .i64 0, .int .i64 0, .int .i64 0, .int .i64 0, .int .i64 0, .int .i64 0, .int .i64 0, .int .i64 0] 23 (0, 0)) (by (with_reducible repeat (first | refine blk_drewN ?_ _ | refine blk_drew ?_ | refine blk_alloc ?_ _)); exact BK123.out)) : gb123 ≠ gb125)); have n12_ := Aside0.mk ((by rw [hg]; exact Nat.ne_of_gt (blk_lt (g := gb123) (o := .cells #[.int .i64 0, .int .i64 0, .int .i64 0, .int .i64 0, .int .i64 0, .int .i64 0, .int .i64 0, .int .i64 0, .int .i64 0, .int .i64 0, .int .i64 0, .int .i64 0, .int .i64 0, .int .i64 0, .int .i64 0, .int .i64 0] 23 (0, 0)) (by (with_reducible repeat (first | refine blk_drewN ?_ _ | refine blk_drew ?_ | refine blk_alloc ?_ _)); exact BK123.out)) : gb125 ≠ gb123)); clear BK120; clear BK122; clear BK123; clear HB; have BK120 := n0_; have BK122 := n1_; have BK123 := n2_; have HB := n3_; have BK125 := n4_; have GW125 := n5_; have GE125 := n6_; have NB120_125 := n7_; have NB125_120 := n8_; have NB122_125 := n9_; have NB125_122 := n10_; have NB123_125 := n11_; have NB125_123 := n12_; clear n0_ n1_ n2_ n3_ n4_ n5_ n6_ n7_ n8_ n9_ n10_ n11_ n12_; clear hb hbox hg; have hnb12 := NB125_120.out; have hnc12 := NB120_125.out; have hnb13 := NB125_122.out; have hnc13 := NB122_125.out; have hnb14 := NB125_123.out; have hnc14 := NB123_125.out; have hcz15_0 : w11.cell? ⟨gb125, 0, none⟩ = some (.int .i64 0) := (blk_cell BK125.out 0).trans rfl; have hcz15_1 : w11.cell? ⟨gb125, 1, none⟩ = some (.int .i64 0) := (blk_cell BK125.out 1).trans rfl; have hcz15_2 : w11.cell? ⟨gb125, 2, none⟩ = some (.int .i64 0) := (blk_cell BK125.out 2).trans rfl; have hcz15_3 : w11.cell? ⟨gb125, 3, none⟩ = some (.slice none 0 0) := (blk_cell BK125.out 3).trans rfl; have hfz15_0 := blk_frozen BK125.out 0; have hfz15_1 := blk_frozen BK125.out 1; have hfz15_2 := blk_frozen BK125.out 2; have hfz15_3 := blk_frozen BK125.out 3) | ((with_reducible refine gate_store (t := 57) (p := 7) rfl ?_); refine store_event (t := 57) (p := 7) (v := ?vo_w16) (w1 := ((((w11.setCell ⟨gb125, 0, none⟩ (.int .i64 ((rd_T57 l0 x20_1).f0))).setCell ⟨gb125, 1, none⟩ (.int .i64 ((rd_T57 l0 x20_1).f1))).setCell ⟨gb125, 2, none⟩ (.int .i64 ((rd_T57 l0 x20_1).f2))).setCell ⟨gb125, 3, none⟩ (.slice A124_3 ((rd_T57 l0 x20_1).f3).length c124_3))) ?hg ?ho ?hn ?hr ?_; (case ho => rfl); (case hg => rfl); (case hn => rfl); (case hr => first | (go_simp; done) | (go_simp; rfl)); intro w16 hw; have n0_ : Aside0 (w16.heap[gb120]? = some (.cells #[.int .i64 0, .int .i64 0, .int .i64 0, .int .i64 0, .int .i64 0, .int .i64 0, .int .i64 0, .int .i64 0, .int .i64 0, .int .i64 0, .int .i64 0, .int .i64 0, .int .i64 0, .int .i64 0, .int .i64 0, .int .i64 0] 23 (0, 0))) := ⟨(by rw [hw]; exact (by (with_reducible repeat (first | refine blk_drewN ?_ _ | refine blk_drew ?_ | refine blk_alloc ?_ _)); refine blk_far ?_ NB120_125.out _; (with_reducible repeat (first | refine blk_drewN ?_ _ | refine blk_drew ?_ | refine blk_alloc ?_ _)); refine blk_far ?_ NB120_125.out _; (with_reducible repeat (first | refine blk_drewN ?_ _ | refine blk_drew ?_ | refine blk_alloc ?_ _)); refine blk_far ?_ NB120_125.out _; (with_reducible repeat (first | refine blk_drewN ?_ _ | refine blk_drew ?_ | refine blk_alloc ?_ _)); refine blk_far ?_ NB120_125.out _; (with_reducible repeat (first | refine blk_drewN ?_ _ | refine blk_drew ?_ | refine blk_alloc ?_ _)); exact BK120.out))⟩; have n1_ : Aside0 (w16.heap[gb122]? = some (.cells #[.int .i64 x123000_1, .int .i64 x123001_1, .int .i64 x123002_1, .int .i64 x123003_1, .int .i64 x123004_1, .int .i64 x123005_1, .int .i64 x123006_1, .int .i64 x123007_1, .int .i64 x123008_1, .int .i64 x123009_1, .int .i64 x123010_1, .int .i64 x123011_1, .int .i64 x123012_1, .int .i64 x123013_1, .int .i64 x123014_1, .int .i64 x123015_1] 23 (0, 0))) := ⟨(by rw [hw]; exact (by (with_reducible repeat (first | refine blk_drewN ?_ _ | refine blk_drew ?_ | refine blk_alloc ?_ _)); refine blk_far ?_ NB122_125.out _; (with_reducible repeat (first | refine blk_drewN ?_ _ | refine blk_drew ?_ | refine blk_alloc ?_ _)); refine blk_far ?_ NB122_125.out _; (with_reducible repeat (first | refine blk_drewN ?_ _ | refine blk_drew ?_ | refine blk_alloc ?_ _)); refine blk_far ?_ NB122_125.out _; (with_reducible repeat (first | refine blk_drewN ?_ _ | refine blk_drew ?_ | refine blk_alloc ?_ _)); refine blk_far ?_ NB122_125.out _; (with_reducible repeat (first | refine blk_drewN ?_ _ | refine blk_drew ?_ | refine blk_alloc ?_ _)); exact BK122.out))⟩; have n2_ : Aside0 (w16.heap[gb123]? = some (.cells #[.int .i64 0, .int .i64 0, .int .i64 0, .int .i64 0, .int .i64 0, .int .i64 0, .int .i64 0, .int .i64 0, .int .i64 0, .int .i64 0, .int .i64 0, .int .i64 0, .int .i64 0, .int .i64 0, .int .i64 0, .int .i64 0] 23 (0, 0))) := ⟨(by rw [hw]; exact (by (with_reducible repeat (first | refine blk_drewN ?_ _ | refine blk_drew ?_ | refine blk_alloc ?_ _)); refine blk_far ?_ NB123_125.out _; (with_reducible repeat (first | refine blk_drewN ?_ _ | refine blk_drew ?_ | refine blk_alloc ?_ _)); refine blk_far ?_ NB123_125.out _; (with_reducible repeat (first | refine blk_drewN ?_ _ | refine blk_drew ?_ | refine blk_alloc ?_ _)); refine blk_far ?_ NB123_125.out _; (with_reducible repeat (first | refine blk_drewN ?_ _ | refine blk_drew ?_ | refine blk_alloc ?_ _)); refine blk_far ?_ NB123_125.out _; (with_reducible repeat (first | refine blk_drewN ?_ _ | refine blk_drew ?_ | refine blk_alloc ?_ _)); exact BK123.out))⟩; have n3_ : Aside0 (w16.heap[gb125]? = some (.cells #[.int .i64 ((rd_T57 l0 x20_1).f0), .int .i64 ((rd_T57 l0 x20_1).f1), .int .i64 ((rd_T57 l0 x20_1).f2), .slice A124_3 ((rd_T57 l0 x20_1).f3).length c124_3] 57 (0, 0))) := ⟨(by rw [hw]; exact (by (with_reducible repeat (first | refine blk_drewN ?_ _ | refine blk_drew ?_ | refine blk_alloc ?_ _)); refine blk_put (cs := #[.int .i64 ((rd_T57 l0 x20_1).f0), .int .i64 ((rd_T57 l0 x20_1).f1), .int .i64 ((rd_T57 l0 x20_1).f2), .slice none 0 0]) ?_ 3 _ rfl; (with_reducible repeat (first | refine blk_drewN ?_ _ | refine blk_drew ?_ | refine blk_alloc ?_ _)); refine blk_put (cs := #[.int .i64 ((rd_T57 l0 x20_1).f0), .int .i64 ((rd_T57 l0 x20_1).f1), .int .i64 0, .slice none 0 0]) ?_ 2 _ rfl; (with_reducible repeat (first | refine blk_drewN ?_ _ | refine blk_drew ?_ | refine blk_alloc ?_ _)); refine blk_put (cs := #[.int .i64 ((rd_T57 l0 x20_1).f0), .int .i64 0, .int .i64 0, .slice none 0 0]) ?_ 1 _ rfl; (with_reducible repeat (first | refine blk_drewN ?_ _ | refine blk_drew ?_ | refine blk_alloc ?_ _)); refine blk_put (cs := #[.int .i64 0, .int .i64 0, .int .i64 0, .slice none 0 0]) ?_ 0 _ rfl; (with_reducible repeat (first | refine blk_drewN ?_ _ | refine blk_drew ?_ | refine blk_alloc ?_ _)); exact BK125.out))⟩; have n4_ : Aside0 (Below w.heap.size w w16) := ⟨(by rw [hw]; exact (by repeat (first | (with_reducible first | exact HB.out | apply below_alloc | apply pw_below_drewN | apply below_drew1 | refine below_set ?_ GE120.out | refine below_set ?_ GE122.out | refine below_set ?_ GE123.out | refine below_set ?_ GE125.out) | exact HB.out)))⟩; clear hw; clear BK120; clear BK122; clear BK123; clear BK125; clear HB; have BK120 := n0_; have BK122 := n1_; have BK123 := n2_; have BK125 := n3_; have HB := n4_; clear n0_ n1_ n2_ n3_ n4_; have hcz17_0 : w16.cell? ⟨gb125, 0, none⟩ = some (.int .i64 ((rd_T57 l0 x20_1).f0)) := (blk_cell BK125.out 0).trans rfl; have hcz17_1 : w16.cell? ⟨gb125, 1, none⟩ = some (.int .i64 ((rd_T57 l0 x20_1).f1)) := (blk_cell BK125.out 1).trans rfl; have hcz17_2 : w16.cell? ⟨gb125, 2, none⟩ = some (.int .i64 ((rd_T57 l0 x20_1).f2)) := (blk_cell BK125.out 2).trans rfl; have hcz17_3 : w16.cell? ⟨gb125, 3, none⟩ = some (.slice A124_3 ((rd_T57 l0 x20_1).f3).length c124_3) := (blk_cell BK125.out 3).trans rfl; have hfz17_0 := blk_frozen BK125.out 0; have hfz17_1 := blk_frozen BK125.out 1; have hfz17_2 := blk_frozen BK125.out 2; have hfz17_3 := blk_frozen BK125.out 3))
       go_loopg [27] k1 (fun kq v27 w' => ∃ (x27_2 : Int) (x123000_2 : Int) (x123001_2 : Int) (x123002_2 : Int) (x123003_2 : Int) (x123004_2 : Int) (x123005_2 : Int) (x123006_2 : Int) (x123007_2 : Int) (x123008_2 : Int) (x123009_2 : Int) (x123010_2 : Int) (x123011_2 : Int) (x123012_2 : Int) (x123013_2 : Int) (x123014_2 : Int) (x123015_2 : Int), v27 = .int .i64 x27_2 ∧ Aside0 (graph_Of.l1 kq l0 (l0.length : Int) x20_1 ((rd_T57 l0 x20_1).f3) (((rd_T57 l0 x20_1).f3).length : Int) x27_2 x123000_2 x123001_2 x123002_2 x123003_2 x123004_2 x123005_2 x123006_2 x123007_2 x123008_2 x123009_2 x123010_2 x123011_2 x123012_2 x123013_2 x123014_2 x123015_2 0 0 0 0 0 0 0 0 0 0 0 0 0 0 0 0 ((rd_T57 l0 x20_1).f0) ((rd_T57 l0 x20_1).f1) ((rd_T57 l0 x20_1).f2) ((rd_T57 l0 x20_1).f3) = some (r1, r2, r3, r4, r5, r6, r7, r8, r9, r10, r11, r12, r13, r14, r15, r16, r17)) ∧ Aside0 (kq ≤ k1) ∧ Aside0 (w'.heap[gb120]? = some (.cells #[.int .i64 0, .int .i64 0, .int .i64 0, .int .i64 0, .int .i64 0, .int .i64 0, .int .i64 0, .int .i64 0, .int .i64 0, .int .i64 0, .int .i64 0, .int .i64 0, .int .i64 0, .int .i64 0, .int .i64 0, .int .i64 0] 23 (0, 0))) ∧ Aside0 (w'.heap[gb122]? = some (.cells #[.int .i64 x123000_2, .int .i64 x123001_2, .int .i64 x123002_2, .int .i64 x123003_2, .int .i64 x123004_2, .int .i64 x123005_2, .int .i64 x123006_2, .int .i64 x123007_2, .int .i64 x123008_2, .int .i64 x123009_2, .int .i64 x123010_2, .int .i64 x123011_2, .int .i64 x123012_2, .int .i64 x123013_2, .int .i64 x123014_2, .int .i64 x123015_2] 23 (0, 0))) ∧ Aside0 (w'.heap[gb123]? = some (.cells #[.int .i64 0, .int .i64 0, .int .i64 0, .int .i64 0, .int .i64 0, .int .i64 0, .int .i64 0, .int .i64 0, .int .i64 0, .int .i64 0, .int .i64 0, .int .i64 0, .int .i64 0, .int .i64 0, .int .i64 0, .int .i64 0] 23 (0, 0))) ∧ Aside0 (w'.heap[gb125]? = some (.cells #[.int .i64 ((rd_T57 l0 x20_1).f0), .int .i64 ((rd_T57 l0 x20_1).f1), .int .i64 ((rd_T57 l0 x20_1).f2), (.slice A124_3 ((rd_T57 l0 x20_1).f3).length c124_3)] 57 (0, 0))) ∧ Aside0 (Below w.heap.size w w'))
       case atStart => exact ⟨(0), (x123000_1), (x123001_1), (x123002_1), (x123003_1), (x123004_1), (x123005_1), (x123006_1), (x123007_1), (x123008_1), (x123009_1), (x123010_1), (x123011_1), (x123012_1), (x123013_1), (x123014_1), (x123015_1), (by first | rfl | (simp; done) | (simp [*]; done)), H', ⟨Nat.le_refl _⟩, ⟨by (with_reducible repeat (first | refine blk_drewN ?_ _ | refine blk_drew ?_ | refine blk_alloc ?_ _)); exact BK120.out⟩, ⟨by (with_reducible repeat (first | refine blk_drewN ?_ _ | refine blk_drew ?_ | refine blk_alloc ?_ _)); exact BK122.out⟩, ⟨by (with_reducible repeat (first | refine blk_drewN ?_ _ | refine blk_drew ?_ | refine blk_alloc ?_ _)); exact BK123.out⟩, ⟨by (with_reducible repeat (first | refine blk_drewN ?_ _ | refine blk_drew ?_ | refine blk_alloc ?_ _)); exact BK125.out⟩, ⟨by repeat (first | (with_reducible first | exact HB.out | apply below_alloc | apply pw_below_drewN | apply below_drew1 | refine below_set ?_ GE120.out | refine below_set ?_ GE122.out | refine below_set ?_ GE123.out | refine below_set ?_ GE125.out) | exact HB.out)⟩⟩
       case round =>
        clear H'
        try clear c1
        try clear p1
        try clear q1
        try clear hx1
        try clear c2
        try clear p2
        try clear c3
        try clear c8
        try clear c8b0
        try clear c9
        try clear c9b0
        try clear c10
        try clear c10b0
        try clear c12
        try clear p12
        try clear q12
        try clear hx12
        try clear c13
        try clear c14
        try clear hcz15_0
        try clear hcz15_1
        try clear hcz15_2
        try clear hcz15_3
        try clear hcz17_0
        try clear hcz17_1
        try clear hcz17_2
        try clear hcz17_3
        try clear hfz15_0
        try clear hfz15_1
        try clear hfz15_2
        try clear hfz15_3
        try clear hfz17_0
        try clear hfz17_1
        try clear hfz17_2
        try clear hfz17_3
        try clear hx124_0
        try clear hx124_1
        try clear hx124_2
        try clear hx124_3
        try clear p124
        try clear p2
        try clear q124
        obtain ⟨x27_2, x123000_2, x123001_2, x123002_2, x123003_2, x123004_2, x123005_2, x123006_2, x123007_2, x123008_2, x123009_2, x123010_2, x123011_2, x123012_2, x123013_2, x123014_2, x123015_2, rfl, HA, HK2, BK120, BK122, BK123, BK125, HB⟩ := hrel
        cases gk with
        | zero => exact absurd HA.out (by simp [graph_Of.l1])
        | succ k2 =>
         have H := HA.out
         clear HA
         simp only [graph_Of.l1] at H
         by_cases c18 : x27_2 < (((rd_T57 l0 x20_1).f3).length : Int)
         ·rw [if_pos c18] at H
          have c18b0 : decide (x27_2 < (((rd_T57 l0 x20_1).f3).length : Int)) = true := decide_eq_true c18
          clear c18
          by_cases c19 : 0 ≤ x27_2
          ·rw [if_pos c19] at H
           have c19b0 : decide (0 ≤ x27_2) = true := decide_eq_true c19
           clear c19
           by_cases c20 : x27_2 < (((rd_T57 l0 x20_1).f3).length : Int)
           ·rw [if_pos c20] at H
            have c20b0 : decide (x27_2 < (((rd_T57 l0 x20_1).f3).length : Int)) = true := decide_eq_true c20
            clear c20
            obtain ⟨ji21, hji21⟩ : ∃ j_ : Int, (wrap64 (((rd_T57 l0 x20_1).f0) - 1)) = j_ := ⟨_, rfl⟩
            replace H : (if 0 ≤ (ji21) then (if (ji21) < 4 then (if 0 ≤ (wrap64 (((rd_T59 ((rd_T57 l0 x20_1).f3) x27_2).f0) - 1)) then (if (wrap64 (((rd_T59 ((rd_T57 l0 x20_1).f3) x27_2).f0) - 1)) < 4 then (graph_Of.l1 k2 l0 (l0.length : Int) x20_1 ((rd_T57 l0 x20_1).f3) (((rd_T57 l0 x20_1).f3).length : Int) (wrap64 (x27_2 + 1)) (up ((ji21) == 0 && (wrap64 (((rd_T59 ((rd_T57 l0 x20_1).f3) x27_2).f0) - 1)) == 0) ((rd_T59 ((rd_T57 l0 x20_1).f3) x27_2).f1) x123000_2) (up ((ji21) == 0 && (wrap64 (((rd_T59 ((rd_T57 l0 x20_1).f3) x27_2).f0) - 1)) == 1) ((rd_T59 ((rd_T57 l0 x20_1).f3) x27_2).f1) x123001_2) (up ((ji21) == 0 && (wrap64 (((rd_T59 ((rd_T57 l0 x20_1).f3) x27_2).f0) - 1)) == 2) ((rd_T59 ((rd_T57 l0 x20_1).f3) x27_2).f1) x123002_2) (up ((ji21) == 0 && (wrap64 (((rd_T59 ((rd_T57 l0 x20_1).f3) x27_2).f0) - 1)) == 3) ((rd_T59 ((rd_T57 l0 x20_1).f3) x27_2).f1) x123003_2) (up ((ji21) == 1 && (wrap64 (((rd_T59 ((rd_T57 l0 x20_1).f3) x27_2).f0) - 1)) == 0) ((rd_T59 ((rd_T57 l0 x20_1).f3) x27_2).f1) x123004_2) (up ((ji21) == 1 && (wrap64 (((rd_T59 ((rd_T57 l0 x20_1).f3) x27_2).f0) - 1)) == 1) ((rd_T59 ((rd_T57 l0 x20_1).f3) x27_2).f1) x123005_2) (up ((ji21) == 1 && (wrap64 (((rd_T59 ((rd_T57 l0 x20_1).f3) x27_2).f0) - 1)) == 2) ((rd_T59 ((rd_T57 l0 x20_1).f3) x27_2).f1) x123006_2) (up ((ji21) == 1 && (wrap64 (((rd_T59 ((rd_T57 l0 x20_1).f3) x27_2).f0) - 1)) == 3) ((rd_T59 ((rd_T57 l0 x20_1).f3) x27_2).f1) x123007_2) (up ((ji21) == 2 && (wrap64 (((rd_T59 ((rd_T57 l0 x20_1).f3) x27_2).f0) - 1)) == 0) ((rd_T59 ((rd_T57 l0 x20_1).f3) x27_2).f1) x123008_2) (up ((ji21) == 2 && (wrap64 (((rd_T59 ((rd_T57 l0 x20_1).f3) x27_2).f0) - 1)) == 1) ((rd_T59 ((rd_T57 l0 x20_1).f3) x27_2).f1) x123009_2) (up ((ji21) == 2 && (wrap64 (((rd_T59 ((rd_T57 l0 x20_1).f3) x27_2).f0) - 1)) == 2) ((rd_T59 ((rd_T57 l0 x20_1).f3) x27_2).f1) x123010_2) (up ((ji21) == 2 && (wrap64 (((rd_T59 ((rd_T57 l0 x20_1).f3) x27_2).f0) - 1)) == 3) ((rd_T59 ((rd_T57 l0 x20_1).f3) x27_2).f1) x123011_2) (up ((ji21) == 3 && (wrap64 (((rd_T59 ((rd_T57 l0 x20_1).f3) x27_2).f0) - 1)) == 0) ((rd_T59 ((rd_T57 l0 x20_1).f3) x27_2).f1) x123012_2) (up ((ji21) == 3 && (wrap64 (((rd_T59 ((rd_T57 l0 x20_1).f3) x27_2).f0) - 1)) == 1) ((rd_T59 ((rd_T57 l0 x20_1).f3) x27_2).f1) x123013_2) (up ((ji21) == 3 && (wrap64 (((rd_T59 ((rd_T57 l0 x20_1).f3) x27_2).f0) - 1)) == 2) ((rd_T59 ((rd_T57 l0 x20_1).f3) x27_2).f1) x123014_2) (up ((ji21) == 3 && (wrap64 (((rd_T59 ((rd_T57 l0 x20_1).f3) x27_2).f0) - 1)) == 3) ((rd_T59 ((rd_T57 l0 x20_1).f3) x27_2).f1) x123015_2) 0 0 0 0 0 0 0 0 0 0 0 0 0 0 0 0 ((rd_T57 l0 x20_1).f0) ((rd_T57 l0 x20_1).f1) ((rd_T57 l0 x20_1).f2) ((rd_T57 l0 x20_1).f3)) else (none)) else (none)) else (none)) else (none)) = some (r1, r2, r3, r4, r5, r6, r7, r8, r9, r10, r11, r12, r13, r14, r15, r16, r17) := by first | (rw [hji21] at H; exact H) | (simp only [hji21] at H ⊢; exact H)
            have hji21w : (IntKind.i64.wrap (((rd_T57 l0 x20_1).f0) - 1)) = ji21 := (i64_w _).trans hji21
            by_cases c22 : 0 ≤ (ji21)
            ·rw [if_pos c22] at H
             have c22b0 : decide (0 ≤ (ji21)) = true := decide_eq_true c22
             clear c22
             by_cases c23 : (ji21) < 4
             ·rw [if_pos c23] at H
              have c23b0 : decide ((ji21) < 4) = true := decide_eq_true c23
              clear c23
              obtain ⟨ji24, hji24⟩ : ∃ j_ : Int, (wrap64 (((rd_T59 ((rd_T57 l0 x20_1).f3) x27_2).f0) - 1)) = j_ := ⟨_, rfl⟩
              replace H : (if 0 ≤ (ji24) then (if (ji24) < 4 then (graph_Of.l1 k2 l0 (l0.length : Int) x20_1 ((rd_T57 l0 x20_1).f3) (((rd_T57 l0 x20_1).f3).length : Int) (wrap64 (x27_2 + 1)) (up ((ji21) == 0 && (ji24) == 0) ((rd_T59 ((rd_T57 l0 x20_1).f3) x27_2).f1) x123000_2) (up ((ji21) == 0 && (ji24) == 1) ((rd_T59 ((rd_T57 l0 x20_1).f3) x27_2).f1) x123001_2) (up ((ji21) == 0 && (ji24) == 2) ((rd_T59 ((rd_T57 l0 x20_1).f3) x27_2).f1) x123002_2) (up ((ji21) == 0 && (ji24) == 3) ((rd_T59 ((rd_T57 l0 x20_1).f3) x27_2).f1) x123003_2) (up ((ji21) == 1 && (ji24) == 0) ((rd_T59 ((rd_T57 l0 x20_1).f3) x27_2).f1) x123004_2) (up ((ji21) == 1 && (ji24) == 1) ((rd_T59 ((rd_T57 l0 x20_1).f3) x27_2).f1) x123005_2) (up ((ji21) == 1 && (ji24) == 2) ((rd_T59 ((rd_T57 l0 x20_1).f3) x27_2).f1) x123006_2) (up ((ji21) == 1 && (ji24) == 3) ((rd_T59 ((rd_T57 l0 x20_1).f3) x27_2).f1) x123007_2) (up ((ji21) == 2 && (ji24) == 0) ((rd_T59 ((rd_T57 l0 x20_1).f3) x27_2).f1) x123008_2) (up ((ji21) == 2 && (ji24) == 1) ((rd_T59 ((rd_T57 l0 x20_1).f3) x27_2).f1) x123009_2) (up ((ji21) == 2 && (ji24) == 2) ((rd_T59 ((rd_T57 l0 x20_1).f3) x27_2).f1) x123010_2) (up ((ji21) == 2 && (ji24) == 3) ((rd_T59 ((rd_T57 l0 x20_1).f3) x27_2).f1) x123011_2) (up ((ji21) == 3 && (ji24) == 0) ((rd_T59 ((rd_T57 l0 x20_1).f3) x27_2).f1) x123012_2) (up ((ji21) == 3 && (ji24) == 1) ((rd_T59 ((rd_T57 l0 x20_1).f3) x27_2).f1) x123013_2) (up ((ji21) == 3 && (ji24) == 2) ((rd_T59 ((rd_T57 l0 x20_1).f3) x27_2).f1) x123014_2) (up ((ji21) == 3 && (ji24) == 3) ((rd_T59 ((rd_T57 l0 x20_1).f3) x27_2).f1) x123015_2) 0 0 0 0 0 0 0 0 0 0 0 0 0 0 0 0 ((rd_T57 l0 x20_1).f0) ((rd_T57 l0 x20_1).f1) ((rd_T57 l0 x20_1).f2) ((rd_T57 l0 x20_1).f3)) else (none)) else (none)) = some (r1, r2, r3, r4, r5, r6, r7, r8, r9, r10, r11, r12, r13, r14, r15, r16, r17) := by first | (rw [hji24] at H; exact H) | (simp only [hji24] at H ⊢; exact H)
              have hji24w : (IntKind.i64.wrap (((rd_T59 ((rd_T57 l0 x20_1).f3) x27_2).f0) - 1)) = ji24 := (i64_w _).trans hji24
              by_cases c25 : 0 ≤ (ji24)
              ·rw [if_pos c25] at H
               have c25b0 : decide (0 ≤ (ji24)) = true := decide_eq_true c25
               clear c25
               by_cases c26 : (ji24) < 4
               ·rw [if_pos c26] at H
                have c26b0 : decide ((ji24) < 4) = true := decide_eq_true c26
                clear c26
                have H' := Aside0.mk H
                clear H
                have p126 : 0 ≤ (x27_2 : Int) := of_decide_eq_true (by first | (with_reducible assumption) | assumption)
                have q126 : x27_2 < (((rd_T57 l0 x20_1).f3).length : Int) := of_decide_eq_true (by first | (with_reducible assumption) | assumption)
                obtain ⟨ad126, e126, hx126_0, hx126_1⟩ := at_T59 HR124_3.out x27_2 p126 q126
                cases e126
                replace hx126_0 := (HB.out.cell (World.block_lt_of_cell? w _ hx126_0)).trans hx126_0
                replace hx126_1 := (HB.out.cell (World.block_lt_of_cell? w _ hx126_1)).trans hx126_1
                replace p126 := eq_true p126
                replace q126 := eq_true q126
                try go_wp2_with (first | ((with_reducible refine gate_dst (N := 9) rfl ?_); refine box_event ?hg (N := 9) ?hd (cs := #[.int .i64 0, .int .i64 0]) (t := 59) ?hr ?_; (case hd => rfl); (case hg => rfl); (case hr => first | (go_simp; done) | (go_simp; rfl)); intro gb127 hg w27 hbox hb; have n0_ := Aside0.mk (blk_below (g := gb120) (o := .cells #[.int .i64 0, .int .i64 0, .int .i64 0, .int .i64 0, .int .i64 0, .int .i64 0, .int .i64 0, .int .i64 0, .int .i64 0, .int .i64 0, .int .i64 0, .int .i64 0, .int .i64 0, .int .i64 0, .int .i64 0, .int .i64 0] 23 (0, 0)) (by (with_reducible repeat (first | refine blk_drewN ?_ _ | refine blk_drew ?_ | refine blk_alloc ?_ _)); exact BK120.out) hb); have n1_ := Aside0.mk (blk_below (g := gb122) (o := .cells #[.int .i64 x123000_2, .int .i64 x123001_2, .int .i64 x123002_2, .int .i64 x123003_2, .int .i64 x123004_2, .int .i64 x123005_2, .int .i64 x123006_2, .int .i64 x123007_2, .int .i64 x123008_2, .int .i64 x123009_2, .int .i64 x123010_2, .int .i64 x123011_2, .int .i64 x123012_2, .int .i64 x123013_2, .int .i64 x123014_2, .int .i64 x123015_2] 23 (0, 0)) (by (with_reducible repeat (first | refine blk_drewN ?_ _ | refine blk_drew ?_ | refine blk_alloc ?_ _)); exact BK122.out) hb); have n2_ := Aside0.mk (blk_below (g := gb123) (o := .cells #[.int .i64 0, .int .i64 0, .int .i64 0, .int .i64 0, .int .i64 0, .int .i64 0, .int .i64 0, .int .i64 0, .int .i64 0, .int .i64 0, .int .i64 0, .int .i64 0, .int .i64 0, .int .i64 0, .int .i64 0, .int .i64 0] 23 (0, 0)) (by (with_reducible repeat (first | refine blk_drewN ?_ _ | refine blk_drew ?_ | refine blk_alloc ?_ _)); exact BK123.out) hb); have n3_ := Aside0.mk (blk_below (g := gb125) (o := .cells #[.int .i64 ((rd_T57 l0 x20_1).f0), .int .i64 ((rd_T57 l0 x20_1).f1), .int .i64 ((rd_T57 l0 x20_1).f2), .slice (some ad126) ((rd_T57 l0 x20_1).f3).length c124_3] 57 (0, 0)) (by (with_reducible repeat (first | refine blk_drewN ?_ _ | refine blk_drew ?_ | refine blk_alloc ?_ _)); exact BK125.out) hb); have n4_ := Aside0.mk (below_step (by repeat (first | (with_reducible first | exact HB.out | apply below_alloc | apply pw_below_drewN | apply below_drew1 | refine below_set ?_ GE120.out | refine below_set ?_ GE122.out | refine below_set ?_ GE123.out | refine below_set ?_ GE125.out) | exact HB.out)) hb); have n5_ := Aside0.mk (hbox); have n6_ := Aside0.mk ((by rw [hg]; exact (below_size (by repeat (first | (with_reducible first | exact HB.out | apply below_alloc | apply pw_below_drewN | apply below_drew1 | refine below_set ?_ GE120.out | refine below_set ?_ GE122.out | refine below_set ?_ GE123.out | refine below_set ?_ GE125.out) | exact HB.out))) : w.heap.size ≤ gb127)); have n7_ := Aside0.mk ((by rw [hg]; exact (below_size (by repeat (first | (with_reducible first | exact HB.out | apply below_alloc | apply pw_below_drewN | apply below_drew1 | refine below_set ?_ GE120.out | refine below_set ?_ GE122.out | refine below_set ?_ GE123.out | refine below_set ?_ GE125.out) | exact HB.out))) : w.heap.size ≤ gb127)); have n8_ := Aside0.mk ((by rw [hg]; exact Nat.ne_of_lt (blk_lt (g := gb120) (o := .cells #[.int .i64 0, .int .i64 0, .int .i64 0, .int .i64 0, .int .i64 0, .int .i64 0, .int .i64 0, .int .i64 0, .int .i64 0, .int .i64 0, .int .i64 0, .int .i64 0, .int .i64 0, .int .i64 0, .int .i64 0, .int .i64 0] 23 (0, 0)) (by (with_reducible repeat (first | refine blk_drewN ?_ _ | refine blk_drew ?_ | refine blk_alloc ?_ _)); exact BK120.out)) : gb120 ≠ gb127)); have n9_ := Aside0.mk ((by rw [hg]; exact Nat.ne_of_gt (blk_lt (g := gb120) (o := .cells #[.int .i64 0, .int .i64 0, .int .i64 0, .int .i64 0, .int .i64 0, .int .i64 0, .int .i64 0, .int .i64 0, .int .i64 0, .int .i64 0, .int .i64 0, .int .i64 0, .int .i64 0, .int .i64 0, .int .i64 0, .int .i64 0] 23 (0, 0)) (by (with_reducible repeat (first | refine blk_drewN ?_ _ | refine blk_drew ?_ | refine blk_alloc ?_ _)); exact BK120.out)) : gb127 ≠ gb120)); have n10_ := Aside0.mk ((by rw [hg]; exact Nat.ne_of_lt (blk_lt (g := gb122) (o := .cells #[.int .i64 x123000_2, .int .i64 x123001_2, .int .i64 x123002_2, .int .i64 x123003_2, .int .i64 x123004_2, .int .i64 x123005_2, .int .i64 x123006_2, .int .i64 x123007_2, .int .i64 x123008_2, .int .i64 x123009_2, .int .i64 x123010_2, .int .i64 x123011_2, .int .i64 x123012_2, .int .i64 x123013_2, .int .i64 x123014_2, .int .i64 x123015_2] 23 (0, 0)) (by (with_reducible repeat (first | refine blk_drewN ?_ _ | refine blk_drew ?_ | refine blk_alloc ?_ _)); exact BK122.out)) : gb122 ≠ gb127)); have n11_ := Aside0.mk ((by rw [hg]; exact Nat.ne_of_gt (blk_lt (g := gb122) (o := .cells #[.int .i64 x123000_2, .int .i64 x123001_2, .int .i64 x123002_2, .int .i64 x123003_2, .int .i64 x123004_2, .int .i64 x123005_2, .int .i64 x123006_2, .int .i64 x123007_2, .int .i64 x123008_2, .int .i64 x123009_2, .int .i64 x123010_2, .int .i64 x123011_2, .int .i64 x123012_2, .int .i64 x123013_2, .int .i64 x123014_2, .int .i64 x123015_2] 23 (0, 0)) (by (with_reducible repeat (first | refine blk_drewN ?_ _ | refine blk_drew ?_ | refine blk_alloc ?_ _)); exact BK122.out)) : gb127 ≠ gb122)); have n12_ := Aside0.mk ((by rw [hg]; exact Nat.ne_of_lt (blk_lt (g := gb123) (o := .cells #[.int .i64 0, .int .i64 0, .int .i64 0, .int .i64 0, .int .i64 0, .int .i64 0, .int .i64 0, .int .i64 0, .int .i64 0, .int .i64 0, .int .i64 0, .int .i64 0, .int .i64 0, .int .i64 0, .int .i64 0, .int .i64 0] 23 (0, 0)) (by (with_reducible repeat (first | refine blk_drewN ?_ _ | refine blk_drew ?_ | refine blk_alloc ?_ _)); exact BK123.out)) : gb123 ≠ gb127)); have n13_ := Aside0.mk ((by rw [hg]; exact Nat.ne_of_gt (blk_lt (g := gb123) (o := .cells #[.int .i64 0, .int .i64 0, .int .i64 0, .int .i64 0, .int .i64 0, .int .i64 0, .int .i64 0, .int .i64 0, .int .i64 0, .int .i64 0, .int .i64 0, .int .i64 0, .int .i64 0, .int .i64 0, .int .i64 0, .int .i64 0] 23 (0, 0)) (by (with_reducible repeat (first | refine blk_drewN ?_ _ | refine blk_drew ?_ | refine blk_alloc ?_ _)); exact BK123.out)) : gb127 ≠ gb123)); have n14_ := Aside0.mk ((by rw [hg]; exact Nat.ne_of_lt (blk_lt (g := gb125) (o := .cells #[.int .i64 ((rd_T57 l0 x20_1).f0), .int .i64 ((rd_T57 l0 x20_1).f1), .int .i64 ((rd_T57 l0 x20_1).f2), .slice (some ad126) ((rd_T57 l0 x20_1).f3).length c124_3] 57 (0, 0)) (by (with_reducible repeat (first | refine blk_drewN ?_ _ | refine blk_drew ?_ | refine blk_alloc ?_ _)); exact BK125.out)) : gb125 ≠ gb127)); have n15_ := Aside0.mk ((by rw [hg]; exact Nat.ne_of_gt (blk_lt (g := gb125) (o := .cells #[.int .i64 ((rd_T57 l0 x20_1).f0), .int .i64 ((rd_T57 l0 x20_1).f1), .int .i64 ((rd_T57 l0 x20_1).f2), .slice (some ad126) ((rd_T57 l0 x20_1).f3).length c124_3] 57 (0, 0)) (by (with_reducible repeat (first | refine blk_drewN ?_ _ | refine blk_drew ?_ | refine blk_alloc ?_ _)); exact BK125.out)) : gb127 ≠ gb125)); clear BK120; clear BK122; clear BK123; clear BK125; clear HB; have BK120 := n0_; have BK122 := n1_; have BK123 := n2_; have BK125 := n3_; have HB := n4_; have BK127 := n5_; have GW127 := n6_; have GE127 := n7_; have NB120_127 := n8_; have NB127_120 := n9_; have NB122_127 := n10_; have NB127_122 := n11_; have NB123_127 := n12_; have NB127_123 := n13_; have NB125_127 := n14_; have NB127_125 := n15_; clear n0_ n1_ n2_ n3_ n4_ n5_ n6_ n7_ n8_ n9_ n10_ n11_ n12_ n13_ n14_ n15_; clear hb hbox hg; have hnb28 := NB127_120.out; have hnc28 := NB120_127.out; have hnb29 := NB127_122.out; have hnc29 := NB122_127.out; have hnb30 := NB127_123.out; have hnc30 := NB123_127.out; have hnb31 := NB127_125.out; have hnc31 := NB125_127.out; have hcz32_0 : w27.cell? ⟨gb127, 0, none⟩ = some (.int .i64 0) := (blk_cell BK127.out 0).trans rfl; have hcz32_1 : w27.cell? ⟨gb127, 1, none⟩ = some (.int .i64 0) := (blk_cell BK127.out 1).trans rfl; have hfz32_0 := blk_frozen BK127.out 0; have hfz32_1 := blk_frozen BK127.out 1) | ((with_reducible refine gate_store (t := 59) (p := 9) rfl ?_); refine store_event (t := 59) (p := 9) (v := ?vo_w33) (w1 := ((w27.setCell ⟨gb127, 0, none⟩ (.int .i64 ((rd_T59 ((rd_T57 l0 x20_1).f3) x27_2).f0))).setCell ⟨gb127, 1, none⟩ (.int .i64 ((rd_T59 ((rd_T57 l0 x20_1).f3) x27_2).f1)))) ?hg ?ho ?hn ?hr ?_; (case ho => rfl); (case hg => rfl); (case hn => rfl); (case hr => first | (go_simp; done) | (go_simp; rfl)); intro w33 hw; have n0_ : Aside0 (w33.heap[gb120]? = some (.cells #[.int .i64 0, .int .i64 0, .int .i64 0, .int .i64 0, .int .i64 0, .int .i64 0, .int .i64 0, .int .i64 0, .int .i64 0, .int .i64 0, .int .i64 0, .int .i64 0, .int .i64 0, .int .i64 0, .int .i64 0, .int .i64 0] 23 (0, 0))) := ⟨(by rw [hw]; exact (by (with_reducible repeat (first | refine blk_drewN ?_ _ | refine blk_drew ?_ | refine blk_alloc ?_ _)); refine blk_far ?_ NB120_127.out _; (with_reducible repeat (first | refine blk_drewN ?_ _ | refine blk_drew ?_ | refine blk_alloc ?_ _)); refine blk_far ?_ NB120_127.out _; (with_reducible repeat (first | refine blk_drewN ?_ _ | refine blk_drew ?_ | refine blk_alloc ?_ _)); exact BK120.out))⟩; have n1_ : Aside0 (w33.heap[gb122]? = some (.cells #[.int .i64 x123000_2, .int .i64 x123001_2, .int .i64 x123002_2, .int .i64 x123003_2, .int .i64 x123004_2, .int .i64 x123005_2, .int .i64 x123006_2, .int .i64 x123007_2, .int .i64 x123008_2, .int .i64 x123009_2, .int .i64 x123010_2, .int .i64 x123011_2, .int .i64 x123012_2, .int .i64 x123013_2, .int .i64 x123014_2, .int .i64 x123015_2] 23 (0, 0))) := ⟨(by rw [hw]; exact (by (with_reducible repeat (first | refine blk_drewN ?_ _ | refine blk_drew ?_ | refine blk_alloc ?_ _)); refine blk_far ?_ NB122_127.out _; (with_reducible repeat (first | refine blk_drewN ?_ _ | refine blk_drew ?_ | refine blk_alloc ?_ _)); refine blk_far ?_ NB122_127.out _; (with_reducible repeat (first | refine blk_drewN ?_ _ | refine blk_drew ?_ | refine blk_alloc ?_ _)); exact BK122.out))⟩; have n2_ : Aside0 (w33.heap[gb123]? = some (.cells #[.int .i64 0, .int .i64 0, .int .i64 0, .int .i64 0, .int .i64 0, .int .i64 0, .int .i64 0, .int .i64 0, .int .i64 0, .int .i64 0, .int .i64 0, .int .i64 0, .int .i64 0, .int .i64 0, .int .i64 0, .int .i64 0] 23 (0, 0))) := ⟨(by rw [hw]; exact (by (with_reducible repeat (first | refine blk_drewN ?_ _ | refine blk_drew ?_ | refine blk_alloc ?_ _)); refine blk_far ?_ NB123_127.out _; (with_reducible repeat (first | refine blk_drewN ?_ _ | refine blk_drew ?_ | refine blk_alloc ?_ _)); refine blk_far ?_ NB123_127.out _; (with_reducible repeat (first | refine blk_drewN ?_ _ | refine blk_drew ?_ | refine blk_alloc ?_ _)); exact BK123.out))⟩; have n3_ : Aside0 (w33.heap[gb125]? = some (.cells #[.int .i64 ((rd_T57 l0 x20_1).f0), .int .i64 ((rd_T57 l0 x20_1).f1), .int .i64 ((rd_T57 l0 x20_1).f2), .slice (some ad126) ((rd_T57 l0 x20_1).f3).length c124_3] 57 (0, 0))) := ⟨(by rw [hw]; exact (by (with_reducible repeat (first | refine blk_drewN ?_ _ | refine blk_drew ?_ | refine blk_alloc ?_ _)); refine blk_far ?_ NB125_127.out _; (with_reducible repeat (first | refine blk_drewN ?_ _ | refine blk_drew ?_ | refine blk_alloc ?_ _)); refine blk_far ?_ NB125_127.out _; (with_reducible repeat (first | refine blk_drewN ?_ _ | refine blk_drew ?_ | refine blk_alloc ?_ _)); exact BK125.out))⟩; have n4_ : Aside0 (w33.heap[gb127]? = some (.cells #[.int .i64 ((rd_T59 ((rd_T57 l0 x20_1).f3) x27_2).f0), .int .i64 ((rd_T59 ((rd_T57 l0 x20_1).f3) x27_2).f1)] 59 (0, 0))) := ⟨(by rw [hw]; exact (by (with_reducible repeat (first | refine blk_drewN ?_ _ | refine blk_drew ?_ | refine blk_alloc ?_ _)); refine blk_put (cs := #[.int .i64 ((rd_T59 ((rd_T57 l0 x20_1).f3) x27_2).f0), .int .i64 0]) ?_ 1 _ rfl; (with_reducible repeat (first | refine blk_drewN ?_ _ | refine blk_drew ?_ | refine blk_alloc ?_ _)); refine blk_put (cs := #[.int .i64 0, .int .i64 0]) ?_ 0 _ rfl; (with_reducible repeat (first | refine blk_drewN ?_ _ | refine blk_drew ?_ | refine blk_alloc ?_ _)); exact BK127.out))⟩; have n5_ : Aside0 (Below w.heap.size w w33) := ⟨(by rw [hw]; exact (by repeat (first | (with_reducible first | exact HB.out | apply below_alloc | apply pw_below_drewN | apply below_drew1 | refine below_set ?_ GE120.out | refine below_set ?_ GE122.out | refine below_set ?_ GE123.out | refine below_set ?_ GE125.out | refine below_set ?_ GE127.out) | exact HB.out)))⟩; clear hw; clear BK120; clear BK122; clear BK123; clear BK125; clear BK127; clear HB; have BK120 := n0_; have BK122 := n1_; have BK123 := n2_; have BK125 := n3_; have BK127 := n4_; have HB := n5_; clear n0_ n1_ n2_ n3_ n4_ n5_))
                have n0_ := Aside0.mk (blk_drew BK120.out)
                have n1_ := Aside0.mk (blk_drew BK122.out)
                have n2_ := Aside0.mk (blk_drew BK123.out)
                have n3_ := Aside0.mk (blk_drew BK125.out)
                have n4_ := Aside0.mk (blk_drew BK127.out)
                have n5_ := Aside0.mk (below_drew1 HB.out)
                clear BK120
                clear BK122
                clear BK123
                clear BK125
                clear BK127
                clear HB
                have BK120 := n0_
                have BK122 := n1_
                have BK123 := n2_
                have BK125 := n3_
                have BK127 := n4_
                have HB := n5_
                clear n0_ n1_ n2_ n3_ n4_ n5_
                have p35 : (0 ≤ ((ji21) : Int)) = True := eq_true (of_decide_eq_true (by first | (with_reducible assumption) | assumption))
                have q35 : (((ji21) : Int) < 4) = True := eq_true (of_decide_eq_true (by first | (with_reducible assumption) | assumption))
                have p36 : (0 ≤ ((ji24) : Int)) = True := eq_true (of_decide_eq_true (by first | (with_reducible assumption) | assumption))
                have q36 : (((ji24) : Int) < 4) = True := eq_true (of_decide_eq_true (by first | (with_reducible assumption) | assumption))
                refine start_ (n := 11) (S := fun w' => w'.cell? ⟨gb125, 0, none⟩ = some (.int .i64 ((rd_T57 l0 x20_1).f0)) ∧ w'.cell? ⟨gb125, 1, none⟩ = some (.int .i64 ((rd_T57 l0 x20_1).f1)) ∧ w'.cell? ⟨gb125, 2, none⟩ = some (.int .i64 ((rd_T57 l0 x20_1).f2)) ∧ w'.cell? ⟨gb125, 3, none⟩ = some (.slice (some ad126) ((rd_T57 l0 x20_1).f3).length c124_3) ∧ w'.cell? ⟨gb127, 0, none⟩ = some (.int .i64 ((rd_T59 ((rd_T57 l0 x20_1).f3) x27_2).f0)) ∧ w'.cell? ⟨gb127, 1, none⟩ = some (.int .i64 ((rd_T59 ((rd_T57 l0 x20_1).f3) x27_2).f1))) (ds := []) #[false, false, false, false, false, false, false, false, false, false, false] (by kernel_rfl) rfl rfl ⟨(blk_cell BK125.out 0).trans rfl, (blk_cell BK125.out 1).trans rfl, (blk_cell BK125.out 2).trans rfl, (blk_cell BK125.out 3).trans rfl, (blk_cell BK127.out 0).trans rfl, (blk_cell BK127.out 1).trans rfl⟩ (fun hHeld => ?_); refine with_tabW graph_Of.tab10 graph_Of.bits10 (fun HT_ HW_ => ?_)
                generalize w33.drew = w34 at BK120 BK122 BK123 BK125 BK127 HB hHeld ⊢
                refine pure_ (i := 0) (N := some 31) (v := ?_) (a' := ?_) #[true, false, false, false, false, false, false, false, false, false, false] rfl rfl (any_of HT_.out (by kernel_rfl)) (fun _ _ _ h => h) (Or.inl ⟨by rfl, ?_⟩) ?_ ?_
                rotate_left
                ·intro w'
                 go_simp
                 with_reducible rfl
                rotate_left
                ·simp only [Act.put, List.setIfInBounds_toArray, List.set_cons_zero, List.set_cons_succ, i64_w, i32_w]
                 rfl
                refine pure_ (i := 3) (N := some 34) (v := ?_) (a' := ?_) #[true, false, false, true, false, false, false, false, false, false, false] rfl rfl (any_of HT_.out (by kernel_rfl)) (fun _ _ _ h => h) (Or.inl ⟨by rfl, ?_⟩) ?_ ?_
                rotate_left
                ·intro w'
                 go_simp
                 with_reducible rfl
                rotate_left
                ·simp only [Act.put, List.setIfInBounds_toArray, List.set_cons_zero, List.set_cons_succ, i64_w, i32_w]
                 rfl
                refine pure_ (i := 6) (N := some 37) (v := ?_) (a' := ?_) #[true, false, false, true, false, false, true, false, false, false, false] rfl rfl (any_of HT_.out (by kernel_rfl)) (fun _ _ _ h => h) (Or.inl ⟨by rfl, ?_⟩) ?_ ?_
                rotate_left
                ·intro w'
                 go_simp
                 with_reducible rfl
                rotate_left
                ·simp only [Act.put, List.setIfInBounds_toArray, List.set_cons_zero, List.set_cons_succ, i64_w, i32_w]
                 rfl
                refine take_ (i := 1) (N := some 32) (v := ?_) (a' := ?_) #[true, true, false, true, false, false, true, false, false, false, false] rfl rfl (take_ofW HT_.out HW_.out (by kernel_rfl)) (fun _ _ _ h => h) (Or.inl ⟨by rfl, ?_⟩) hHeld ?_ ?_
                rotate_left
                ·rintro w' ⟨s0, s1, s2, s3, s4, s5⟩
                 go_simp
                 with_reducible rfl
                rotate_left
                ·simp only [Act.put, List.setIfInBounds_toArray, List.set_cons_zero, List.set_cons_succ, i64_w, i32_w]
                 rfl
                refine pure_ (i := 2) (N := some 33) (v := ?_) (a' := ?_) #[true, true, true, true, false, false, true, false, false, false, false] rfl rfl (any_of HT_.out (by kernel_rfl)) (fun _ _ _ h => h) (Or.inl ⟨by rfl, ?_⟩) ?_ ?_
                rotate_left
                ·intro w'
                 go_simp
                 with_reducible rfl
                rotate_left
                ·simp only [Act.put, List.setIfInBounds_toArray, List.set_cons_zero, List.set_cons_succ, i64_w, i32_w]
                 rfl
                refine pure_ (i := 8) (N := some 39) (v := ?_) (a' := ?_) #[true, true, true, true, false, false, true, false, true, false, false] rfl rfl (any_of HT_.out (by kernel_rfl)) (fun _ _ _ h => h) (Or.inl ⟨by rfl, ?_⟩) ?_ ?_
                rotate_left
                ·intro w'
                 go_simp
                 with_reducible rfl
                rotate_left
                ·simp only [Act.put, List.setIfInBounds_toArray, List.set_cons_zero, List.set_cons_succ, i64_w, i32_w]
                 rfl
                refine take_ (i := 4) (N := some 35) (v := ?_) (a' := ?_) #[true, true, true, true, true, false, true, false, true, false, false] rfl rfl (take_ofW HT_.out HW_.out (by kernel_rfl)) (fun _ _ _ h => h) (Or.inl ⟨by rfl, ?_⟩) hHeld ?_ ?_
                rotate_left
                ·rintro w' ⟨s0, s1, s2, s3, s4, s5⟩
                 go_simp
                 with_reducible rfl
                rotate_left
                ·simp only [Act.put, List.setIfInBounds_toArray, List.set_cons_zero, List.set_cons_succ, i64_w, i32_w]
                 rfl
                refine pure_ (i := 5) (N := some 36) (v := ?_) (a' := ?_) #[true, true, true, true, true, true, true, false, true, false, false] rfl rfl (any_of HT_.out (by kernel_rfl)) (fun _ _ _ h => h) (Or.inl ⟨by rfl, ?_⟩) ?_ ?_
                rotate_left
                ·intro w'
                 go_simp
                 with_reducible rfl
                rotate_left
                ·simp only [Act.put, List.setIfInBounds_toArray, List.set_cons_zero, List.set_cons_succ, i64_w, i32_w]
                 rfl
                refine take_ (i := 7) (N := some 38) (v := ?_) (a' := ?_) #[true, true, true, true, true, true, true, true, true, false, false] rfl rfl (take_ofW HT_.out HW_.out (by kernel_rfl)) (fun _ _ _ h => h) (Or.inl ⟨by rfl, ?_⟩) hHeld ?_ ?_
                rotate_left
                ·rintro w' ⟨s0, s1, s2, s3, s4, s5⟩
                 go_simp
                 with_reducible rfl
                rotate_left
                ·simp only [Act.put, List.setIfInBounds_toArray, List.set_cons_zero, List.set_cons_succ, i64_w, i32_w]
                 rfl
                refine pure_ (i := 9) (N := some 40) (v := ?_) (a' := ?_) #[true, true, true, true, true, true, true, true, true, true, false] rfl rfl (any_of HT_.out (by kernel_rfl)) (fun _ _ _ h => h) (Or.inl ⟨by rfl, ?_⟩) ?_ ?_
                rotate_left
                ·intro w'
                 go_simp
                 with_reducible rfl
                rotate_left
                ·simp only [Act.put, List.setIfInBounds_toArray, List.set_cons_zero, List.set_cons_succ, i64_w, i32_w]
                 rfl
                refine one_ (i := 10) (N := none) #[true, true, true, true, true, true, true, true, true, true, true] rfl rfl (one_of HT_.out (by kernel_rfl)) (by decide) (fun K hK => ?_)
                have hs37 : w34.cell? ⟨gb122, (ji21).toNat * 4 + (ji24).toNat, none⟩ = some (.int .i64 (ix4 (ix4 x123000_2 x123001_2 x123002_2 x123003_2 (ji24)) (ix4 x123004_2 x123005_2 x123006_2 x123007_2 (ji24)) (ix4 x123008_2 x123009_2 x123010_2 x123011_2 (ji24)) (ix4 x123012_2 x123013_2 x123014_2 x123015_2 (ji24)) (ji21))) := (blk_cell BK122.out ((ji21).toNat * 4 + (ji24).toNat)).trans (ix_44 (Value.int .i64) _ _ _ _ _ _ _ _ _ _ _ _ _ _ _ _ (ji21) (ji24)  (of_decide_eq_true (by first | (with_reducible assumption) | assumption)) (of_decide_eq_true (by first | (with_reducible assumption) | assumption))  (of_decide_eq_true (by first | (with_reducible assumption) | assumption)) (of_decide_eq_true (by first | (with_reducible assumption) | assumption)))
                have hfs37 := blk_frozen BK122.out ((ji21).toNat * 4 + (ji24).toNat)
                have hns37_0 := NB120_122.out
                have hns37_2 := NB123_122.out
                have hns37_3 := NB125_122.out
                have hns37_4 := NB127_122.out
                have hms37_0 := NB122_120.out
                have hms37_2 := NB122_123.out
                have hms37_3 := NB122_125.out
                have hms37_4 := NB122_127.out
                refine skip_ (w1 := ?_) (by rfl) rfl ?_ ?_
                rotate_left
                ·go_simp
                 rfl
                refine hK.out _ _ ⟨((cell_far (p := ⟨gb122, _, none⟩) NB125_122.out _).trans (hHeld.1)), ((cell_far (p := ⟨gb122, _, none⟩) NB125_122.out _).trans (hHeld.2.1)), ((cell_far (p := ⟨gb122, _, none⟩) NB125_122.out _).trans (hHeld.2.2.1)), ((cell_far (p := ⟨gb122, _, none⟩) NB125_122.out _).trans (hHeld.2.2.2.1)), ((cell_far (p := ⟨gb122, _, none⟩) NB127_122.out _).trans (hHeld.2.2.2.2.1)), ((cell_far (p := ⟨gb122, _, none⟩) NB127_122.out _).trans (hHeld.2.2.2.2.2))⟩ (fun hHeld => ?_)
                clear hK K
                refine done_ (done_of HT_.out (by kernel_rfl)) ?_
                try go_wp2
                go_roundg k2
                case measure => have := HK1.out; have := HK2.out; omega
                case rel => exact ⟨(wrap64 (x27_2 + 1)), (up ((ji21) == 0 && (ji24) == 0) ((rd_T59 ((rd_T57 l0 x20_1).f3) x27_2).f1) x123000_2), (up ((ji21) == 0 && (ji24) == 1) ((rd_T59 ((rd_T57 l0 x20_1).f3) x27_2).f1) x123001_2), (up ((ji21) == 0 && (ji24) == 2) ((rd_T59 ((rd_T57 l0 x20_1).f3) x27_2).f1) x123002_2), (up ((ji21) == 0 && (ji24) == 3) ((rd_T59 ((rd_T57 l0 x20_1).f3) x27_2).f1) x123003_2), (up ((ji21) == 1 && (ji24) == 0) ((rd_T59 ((rd_T57 l0 x20_1).f3) x27_2).f1) x123004_2), (up ((ji21) == 1 && (ji24) == 1) ((rd_T59 ((rd_T57 l0 x20_1).f3) x27_2).f1) x123005_2), (up ((ji21) == 1 && (ji24) == 2) ((rd_T59 ((rd_T57 l0 x20_1).f3) x27_2).f1) x123006_2), (up ((ji21) == 1 && (ji24) == 3) ((rd_T59 ((rd_T57 l0 x20_1).f3) x27_2).f1) x123007_2), (up ((ji21) == 2 && (ji24) == 0) ((rd_T59 ((rd_T57 l0 x20_1).f3) x27_2).f1) x123008_2), (up ((ji21) == 2 && (ji24) == 1) ((rd_T59 ((rd_T57 l0 x20_1).f3) x27_2).f1) x123009_2), (up ((ji21) == 2 && (ji24) == 2) ((rd_T59 ((rd_T57 l0 x20_1).f3) x27_2).f1) x123010_2), (up ((ji21) == 2 && (ji24) == 3) ((rd_T59 ((rd_T57 l0 x20_1).f3) x27_2).f1) x123011_2), (up ((ji21) == 3 && (ji24) == 0) ((rd_T59 ((rd_T57 l0 x20_1).f3) x27_2).f1) x123012_2), (up ((ji21) == 3 && (ji24) == 1) ((rd_T59 ((rd_T57 l0 x20_1).f3) x27_2).f1) x123013_2), (up ((ji21) == 3 && (ji24) == 2) ((rd_T59 ((rd_T57 l0 x20_1).f3) x27_2).f1) x123014_2), (up ((ji21) == 3 && (ji24) == 3) ((rd_T59 ((rd_T57 l0 x20_1).f3) x27_2).f1) x123015_2), (by first | rfl | (simp; done) | (simp [*]; done)), H', ⟨by have := HK1.out; have := HK2.out; omega⟩, ⟨by (with_reducible repeat (first | refine blk_drewN ?_ _ | refine blk_drew ?_ | refine blk_alloc ?_ _)); refine blk_far ?_ NB120_122.out _; (with_reducible repeat (first | refine blk_drewN ?_ _ | refine blk_drew ?_ | refine blk_alloc ?_ _)); exact BK120.out⟩, ⟨by (with_reducible repeat (first | refine blk_drewN ?_ _ | refine blk_drew ?_ | refine blk_alloc ?_ _)); refine blk_put (cs := #[.int .i64 x123000_2, .int .i64 x123001_2, .int .i64 x123002_2, .int .i64 x123003_2, .int .i64 x123004_2, .int .i64 x123005_2, .int .i64 x123006_2, .int .i64 x123007_2, .int .i64 x123008_2, .int .i64 x123009_2, .int .i64 x123010_2, .int .i64 x123011_2, .int .i64 x123012_2, .int .i64 x123013_2, .int .i64 x123014_2, .int .i64 x123015_2]) ?_ ((ji21).toNat * 4 + (ji24).toNat) _ (up_44 (Value.int .i64) _ _ _ _ _ _ _ _ _ _ _ _ _ _ _ _ (ji21) (ji24) ((rd_T59 ((rd_T57 l0 x20_1).f3) x27_2).f1) (of_decide_eq_true (by first | (with_reducible assumption) | assumption)) (of_decide_eq_true (by first | (with_reducible assumption) | assumption)) (of_decide_eq_true (by first | (with_reducible assumption) | assumption)) (of_decide_eq_true (by first | (with_reducible assumption) | assumption))); (with_reducible repeat (first | refine blk_drewN ?_ _ | refine blk_drew ?_ | refine blk_alloc ?_ _)); exact BK122.out⟩, ⟨by (with_reducible repeat (first | refine blk_drewN ?_ _ | refine blk_drew ?_ | refine blk_alloc ?_ _)); refine blk_far ?_ NB123_122.out _; (with_reducible repeat (first | refine blk_drewN ?_ _ | refine blk_drew ?_ | refine blk_alloc ?_ _)); exact BK123.out⟩, ⟨by (with_reducible repeat (first | refine blk_drewN ?_ _ | refine blk_drew ?_ | refine blk_alloc ?_ _)); refine blk_far ?_ NB125_122.out _; (with_reducible repeat (first | refine blk_drewN ?_ _ | refine blk_drew ?_ | refine blk_alloc ?_ _)); exact BK125.out⟩, ⟨by repeat (first | (with_reducible first | exact HB.out | apply below_alloc | apply pw_below_drewN | apply below_drew1 | refine below_set ?_ GE120.out | refine below_set ?_ GE122.out | refine below_set ?_ GE123.out | refine below_set ?_ GE125.out | refine below_set ?_ GE127.out) | exact HB.out)⟩⟩
               ·rw [if_neg c26] at H
                exact absurd H (by simp)
              ·rw [if_neg c25] at H
               exact absurd H (by simp)
             ·rw [if_neg c23] at H
              exact absurd H (by simp)
            ·rw [if_neg c22] at H
             exact absurd H (by simp)
           ·rw [if_neg c20] at H
            exact absurd H (by simp)
          ·rw [if_neg c19] at H
           exact absurd H (by simp)
         ·rw [if_neg c18] at H
          have c18b0 : decide (x27_2 < (((rd_T57 l0 x20_1).f3).length : Int)) = false := decide_eq_false c18
          clear c18
          have H' := Aside0.mk H
          clear H
          go_wp2
          go_roundg k2
          case measure => have := HK1.out; have := HK2.out; omega
          case rel => exact ⟨(wrap64 (x20_1 + 1)), (x123000_2), (x123001_2), (x123002_2), (x123003_2), (x123004_2), (x123005_2), (x123006_2), (x123007_2), (x123008_2), (x123009_2), (x123010_2), (x123011_2), (x123012_2), (x123013_2), (x123014_2), (x123015_2), (by first | rfl | (simp; done) | (simp [*]; done)), H', ⟨by have := HK1.out; have := HK2.out; omega⟩, ⟨by (with_reducible repeat (first | refine blk_drewN ?_ _ | refine blk_drew ?_ | refine blk_alloc ?_ _)); exact BK120.out⟩, ⟨by (with_reducible repeat (first | refine blk_drewN ?_ _ | refine blk_drew ?_ | refine blk_alloc ?_ _)); exact BK122.out⟩, ⟨by (with_reducible repeat (first | refine blk_drewN ?_ _ | refine blk_drew ?_ | refine blk_alloc ?_ _)); exact BK123.out⟩, ⟨by repeat (first | (with_reducible first | exact HB.out | apply below_alloc | apply pw_below_drewN | apply below_drew1 | refine below_set ?_ GE120.out | refine below_set ?_ GE122.out | refine below_set ?_ GE123.out | refine below_set ?_ GE125.out) | exact HB.out)⟩⟩
      ·rw [if_neg c10] at H
       exact absurd H (by simp)
     ·rw [if_neg c9] at H
      exact absurd H (by simp)
    ·rw [if_neg c8] at H
     have c8b0 : decide (x20_1 < (l0.length : Int)) = false := decide_eq_false c8
     clear c8
     have H' := Aside0.mk H
     clear H
     have hnb38 := NB122_120.out
     have hnc38 := NB120_122.out
     have hnb39 := NB122_123.out
     have hnc39 := NB123_122.out
     obtain ⟨hcz40_0, hcz40_1, hcz40_2, hcz40_3, hcz40_4, hcz40_5, hcz40_6, hcz40_7, hcz40_8, hcz40_9, hcz40_10, hcz40_11, hcz40_12, hcz40_13, hcz40_14, hcz40_15⟩ := cells16 BK122.out
     have hfz40_0 := fun (j_ : Nat) => blk_frozen BK122.out j_
     go_wp2
     go_loopg [44] k1 (fun kq v44 w' => ∃ (x44_2 : Int) (x124000_2 : Int) (x124001_2 : Int) (x124002_2 : Int) (x124003_2 : Int) (x124004_2 : Int) (x124005_2 : Int) (x124006_2 : Int) (x124007_2 : Int) (x124008_2 : Int) (x124009_2 : Int) (x124010_2 : Int) (x124011_2 : Int) (x124012_2 : Int) (x124013_2 : Int) (x124014_2 : Int) (x124015_2 : Int), v44 = .int .i64 x44_2 ∧ Aside0 (graph_Of.l2 kq x44_2 x123000_1 x123001_1 x123002_1 x123003_1 x123004_1 x123005_1 x123006_1 x123007_1 x123008_1 x123009_1 x123010_1 x123011_1 x123012_1 x123013_1 x123014_1 x123015_1 x124000_2 x124001_2 x124002_2 x124003_2 x124004_2 x124005_2 x124006_2 x124007_2 x124008_2 x124009_2 x124010_2 x124011_2 x124012_2 x124013_2 x124014_2 x124015_2 x123000_1 x123001_1 x123002_1 x123003_1 x123004_1 x123005_1 x123006_1 x123007_1 x123008_1 x123009_1 x123010_1 x123011_1 x123012_1 x123013_1 x123014_1 x123015_1 = some (r1, r2, r3, r4, r5, r6, r7, r8, r9, r10, r11, r12, r13, r14, r15, r16, r17)) ∧ Aside0 (kq ≤ k1) ∧ Aside0 (w'.heap[gb120]? = some (.cells #[.int .i64 0, .int .i64 0, .int .i64 0, .int .i64 0, .int .i64 0, .int .i64 0, .int .i64 0, .int .i64 0, .int .i64 0, .int .i64 0, .int .i64 0, .int .i64 0, .int .i64 0, .int .i64 0, .int .i64 0, .int .i64 0] 23 (0, 0))) ∧ Aside0 (w'.heap[gb122]? = some (.cells #[.int .i64 x123000_1, .int .i64 x123001_1, .int .i64 x123002_1, .int .i64 x123003_1, .int .i64 x123004_1, .int .i64 x123005_1, .int .i64 x123006_1, .int .i64 x123007_1, .int .i64 x123008_1, .int .i64 x123009_1, .int .i64 x123010_1, .int .i64 x123011_1, .int .i64 x123012_1, .int .i64 x123013_1, .int .i64 x123014_1, .int .i64 x123015_1] 23 (0, 0))) ∧ Aside0 (w'.heap[gb123]? = some (.cells #[.int .i64 x124000_2, .int .i64 x124001_2, .int .i64 x124002_2, .int .i64 x124003_2, .int .i64 x124004_2, .int .i64 x124005_2, .int .i64 x124006_2, .int .i64 x124007_2, .int .i64 x124008_2, .int .i64 x124009_2, .int .i64 x124010_2, .int .i64 x124011_2, .int .i64 x124012_2, .int .i64 x124013_2, .int .i64 x124014_2, .int .i64 x124015_2] 23 (0, 0))) ∧ Aside0 (Below w.heap.size w w'))
     case atStart => exact ⟨(0), (0), (0), (0), (0), (0), (0), (0), (0), (0), (0), (0), (0), (0), (0), (0), (0), (by first | rfl | (simp; done) | (simp [*]; done)), H', ⟨Nat.le_refl _⟩, ⟨by (with_reducible repeat (first | refine blk_drewN ?_ _ | refine blk_drew ?_ | refine blk_alloc ?_ _)); exact BK120.out⟩, ⟨by (with_reducible repeat (first | refine blk_drewN ?_ _ | refine blk_drew ?_ | refine blk_alloc ?_ _)); exact BK122.out⟩, ⟨by (with_reducible repeat (first | refine blk_drewN ?_ _ | refine blk_drew ?_ | refine blk_alloc ?_ _)); exact BK123.out⟩, ⟨by repeat (first | (with_reducible first | exact HB.out | apply below_alloc | apply pw_below_drewN | apply below_drew1 | refine below_set ?_ GE120.out | refine below_set ?_ GE122.out | refine below_set ?_ GE123.out) | exact HB.out)⟩⟩
     case round =>
      clear H'
      try clear c1
      try clear p1
      try clear q1
      try clear hx1
      try clear c2
      try clear p2
      try clear c3
      try clear p3
      try clear q3
      try clear p6
      try clear c8
      try clear c8b0
      try clear c9
      try clear c9b0
      try clear c10
      try clear c10b0
      try clear c12
      try clear p12
      try clear q12
      try clear hx12
      try clear c13
      try clear c14
      try clear c18
      try clear c18b0
      try clear c19
      try clear c19b0
      try clear c20
      try clear c20b0
      try clear c21
      try clear c22
      try clear c22b0
      try clear c23
      try clear c23b0
      try clear c25
      try clear c25b0
      try clear c26
      try clear c26b0
      try clear c28
      try clear c29
      try clear c30
      try clear c31
      try clear c32
      try clear p35
      try clear q35
      try clear p36
      try clear q36
      try clear c38
      try clear c39
      try clear hcz15_0
      try clear hcz15_1
      try clear hcz15_2
      try clear hcz15_3
      try clear hcz17_0
      try clear hcz17_1
      try clear hcz17_2
      try clear hcz17_3
      try clear hcz32_0
      try clear hcz32_1
      try clear hcz40_0
      try clear hcz40_1
      try clear hcz40_10
      try clear hcz40_11
      try clear hcz40_12
      try clear hcz40_13
      try clear hcz40_14
      try clear hcz40_15
      try clear hcz40_2
      try clear hcz40_3
      try clear hcz40_4
      try clear hcz40_5
      try clear hcz40_6
      try clear hcz40_7
      try clear hcz40_8
      try clear hcz40_9
      try clear hfz15_0
      try clear hfz15_1
      try clear hfz15_2
      try clear hfz15_3
      try clear hfz17_0
      try clear hfz17_1
      try clear hfz17_2
      try clear hfz17_3
      try clear hfz32_0
      try clear hfz32_1
      try clear hfz40_0
      try clear hx124_0
      try clear hx124_1
      try clear hx124_2
      try clear hx124_3
      try clear hx126_0
      try clear hx126_1
      try clear p1
      try clear p12
      try clear p124
      try clear p126
      try clear p2
      try clear p35
      try clear p36
      try clear q1
      try clear q12
      try clear q124
      try clear q126
      try clear q35
      try clear q36
      obtain ⟨x44_2, x124000_2, x124001_2, x124002_2, x124003_2, x124004_2, x124005_2, x124006_2, x124007_2, x124008_2, x124009_2, x124010_2, x124011_2, x124012_2, x124013_2, x124014_2, x124015_2, rfl, HA, HK2, BK120, BK122, BK123, HB⟩ := hrel
      cases gk with
      | zero => exact absurd HA.out (by simp [graph_Of.l2])
      | succ k2 =>
       have H := HA.out
       clear HA
       simp only [graph_Of.l2] at H
       by_cases c41 : x44_2 < 4
       ·rw [if_pos c41] at H
        have c41b0 : decide (x44_2 < 4) = true := decide_eq_true c41
        clear c41
        by_cases c42 : 0 ≤ x44_2
        ·rw [if_pos c42] at H
         have c42b0 : decide (0 ≤ x44_2) = true := decide_eq_true c42
         clear c42
         have H' := Aside0.mk H
         clear H
         have p43 : (0 ≤ (x44_2 : Int)) = True := eq_true (of_decide_eq_true (by first | (with_reducible assumption) | assumption))
         have q43 : ((x44_2 : Int) < 4) = True := eq_true (of_decide_eq_true (by first | (with_reducible assumption) | assumption))
         have hv44 : ∀ w_ : World, (Instr.index 23 (.agg (#[.int .i64 x123000_1, .int .i64 x123001_1, .int .i64 x123002_1, .int .i64 x123003_1, .int .i64 x123004_1, .int .i64 x123005_1, .int .i64 x123006_1, .int .i64 x123007_1, .int .i64 x123008_1, .int .i64 x123009_1, .int .i64 x123010_1, .int .i64 x123011_1, .int .i64 x123012_1, .int .i64 x123013_1, .int .i64 x123014_1, .int .i64 x123015_1] : Array Value)) (.int .i64 x44_2)).run Try.prog w_ = .ok (.agg #[.int .i64 (ix4 x123000_1 x123004_1 x123008_1 x123012_1 x44_2), .int .i64 (ix4 x123001_1 x123005_1 x123009_1 x123013_1 x44_2), .int .i64 (ix4 x123002_1 x123006_1 x123010_1 x123014_1 x44_2), .int .i64 (ix4 x123003_1 x123007_1 x123011_1 x123015_1 x44_2)]) w_ := fun w_ => index_row Try.underlying23 (by kernel_rfl) Try.underlying22 (by kernel_rfl) (of_decide_eq_true (by first | (with_reducible assumption) | assumption)) (of_decide_eq_true (by first | (with_reducible assumption) | assumption)) (row_44 (Value.int .i64) _ _ _ _ _ _ _ _ _ _ _ _ _ _ _ _ x44_2 (of_decide_eq_true (by first | (with_reducible assumption) | assumption)) (of_decide_eq_true (by first | (with_reducible assumption) | assumption))) w_
         go_wp2_with (first | ((with_reducible refine gate_dst (N := 11) rfl ?_); refine box_event ?hg (N := 11) ?hd (cs := #[.int .i64 0, .int .i64 0, .int .i64 0, .int .i64 0]) (t := 22) ?hr ?_; (case hd => rfl); (case hg => rfl); (case hr => first | (go_simp; done) | (go_simp; rfl)); intro gb128 hg w45 hbox hb; have n0_ := Aside0.mk (blk_below (g := gb120) (o := .cells #[.int .i64 0, .int .i64 0, .int .i64 0, .int .i64 0, .int .i64 0, .int .i64 0, .int .i64 0, .int .i64 0, .int .i64 0, .int .i64 0, .int .i64 0, .int .i64 0, .int .i64 0, .int .i64 0, .int .i64 0, .int .i64 0] 23 (0, 0)) (by (with_reducible repeat (first | refine blk_drewN ?_ _ | refine blk_drew ?_ | refine blk_alloc ?_ _)); exact BK120.out) hb); have n1_ := Aside0.mk (blk_below (g := gb122) (o := .cells #[.int .i64 x123000_1, .int .i64 x123001_1, .int .i64 x123002_1, .int .i64 x123003_1, .int .i64 x123004_1, .int .i64 x123005_1, .int .i64 x123006_1, .int .i64 x123007_1, .int .i64 x123008_1, .int .i64 x123009_1, .int .i64 x123010_1, .int .i64 x123011_1, .int .i64 x123012_1, .int .i64 x123013_1, .int .i64 x123014_1, .int .i64 x123015_1] 23 (0, 0)) (by (with_reducible repeat (first | refine blk_drewN ?_ _ | refine blk_drew ?_ | refine blk_alloc ?_ _)); exact BK122.out) hb); have n2_ := Aside0.mk (blk_below (g := gb123) (o := .cells #[.int .i64 x124000_2, .int .i64 x124001_2, .int .i64 x124002_2, .int .i64 x124003_2, .int .i64 x124004_2, .int .i64 x124005_2, .int .i64 x124006_2, .int .i64 x124007_2, .int .i64 x124008_2, .int .i64 x124009_2, .int .i64 x124010_2, .int .i64 x124011_2, .int .i64 x124012_2, .int .i64 x124013_2, .int .i64 x124014_2, .int .i64 x124015_2] 23 (0, 0)) (by (with_reducible repeat (first | refine blk_drewN ?_ _ | refine blk_drew ?_ | refine blk_alloc ?_ _)); exact BK123.out) hb); have n3_ := Aside0.mk (below_step (by repeat (first | (with_reducible first | exact HB.out | apply below_alloc | apply pw_below_drewN | apply below_drew1 | refine below_set ?_ GE120.out | refine below_set ?_ GE122.out | refine below_set ?_ GE123.out) | exact HB.out)) hb); have n4_ := Aside0.mk (hbox); have n5_ := Aside0.mk ((by rw [hg]; exact (below_size (by repeat (first | (with_reducible first | exact HB.out | apply below_alloc | apply pw_below_drewN | apply below_drew1 | refine below_set ?_ GE120.out | refine below_set ?_ GE122.out | refine below_set ?_ GE123.out) | exact HB.out))) : w.heap.size ≤ gb128)); have n6_ := Aside0.mk ((by rw [hg]; exact (below_size (by repeat (first | (with_reducible first | exact HB.out | apply below_alloc | apply pw_below_drewN | apply below_drew1 | refine below_set ?_ GE120.out | refine below_set ?_ GE122.out | refine below_set ?_ GE123.out) | exact HB.out))) : w.heap.size ≤ gb128)); have n7_ := Aside0.mk ((by rw [hg]; exact Nat.ne_of_lt (blk_lt (g := gb120) (o := .cells #[.int .i64 0, .int .i64 0, .int .i64 0, .int .i64 0, .int .i64 0, .int .i64 0, .int .i64 0, .int .i64 0, .int .i64 0, .int .i64 0, .int .i64 0, .int .i64 0, .int .i64 0, .int .i64 0, .int .i64 0, .int .i64 0] 23 (0, 0)) (by (with_reducible repeat (first | refine blk_drewN ?_ _ | refine blk_drew ?_ | refine blk_alloc ?_ _)); exact BK120.out)) : gb120 ≠ gb128)); have n8_ := Aside0.mk ((by rw [hg]; exact Nat.ne_of_gt (blk_lt (g := gb120) (o := .cells #[.int .i64 0, .int .i64 0, .int .i64 0, .int .i64 0, .int .i64 0, .int .i64 0, .int .i64 0, .int .i64 0, .int .i64 0, .int .i64 0, .int .i64 0, .int .i64 0, .int .i64 0, .int .i64 0, .int .i64 0, .int .i64 0] 23 (0, 0)) (by (with_reducible repeat (first | refine blk_drewN ?_ _ | refine blk_drew ?_ | refine blk_alloc ?_ _)); exact BK120.out)) : gb128 ≠ gb120)); have n9_ := Aside0.mk ((by rw [hg]; exact Nat.ne_of_lt (blk_lt (g := gb122) (o := .cells #[.int .i64 x123000_1, .int .i64 x123001_1, .int .i64 x123002_1, .int .i64 x123003_1, .int .i64 x123004_1, .int .i64 x123005_1, .int .i64 x123006_1, .int .i64 x123007_1, .int .i64 x123008_1, .int .i64 x123009_1, .int .i64 x123010_1, .int .i64 x123011_1, .int .i64 x123012_1, .int .i64 x123013_1, .int .i64 x123014_1, .int .i64 x123015_1] 23 (0, 0)) (by (with_reducible repeat (first | refine blk_drewN ?_ _ | refine blk_drew ?_ | refine blk_alloc ?_ _)); exact BK122.out)) : gb122 ≠ gb128)); have n10_ := Aside0.mk ((by rw [hg]; exact Nat.ne_of_gt (blk_lt (g := gb122) (o := .cells #[.int .i64 x123000_1, .int .i64 x123001_1, .int .i64 x123002_1, .int .i64 x123003_1, .int .i64 x123004_1, .int .i64 x123005_1, .int .i64 x123006_1, .int .i64 x123007_1, .int .i64 x123008_1, .int .i64 x123009_1, .int .i64 x123010_1, .int .i64 x123011_1, .int .i64 x123012_1, .int .i64 x123013_1, .int .i64 x123014_1, .int .i64 x123015_1] 23 (0, 0)) (by (with_reducible repeat (first | refine blk_drewN ?_ _ | refine blk_drew ?_ | refine blk_alloc ?_ _)); exact BK122.out)) : gb128 ≠ gb122)); have n11_ := Aside0.mk ((by rw [hg]; exact Nat.ne_of_lt (blk_lt (g := gb123) (o := .cells #[.int .i64 x124000_2, .int .i64 x124001_2, .int .i64 x124002_2, .int .i64 x124003_2, .int .i64 x124004_2, .int .i64 x124005_2, .int .i64 x124006_2, .int .i64 x124007_2, .int .i64 x124008_2, .int .i64 x124009_2, .int .i64 x124010_2, .int .i64 x124011_2, .int .i64 x124012_2, .int .i64 x124013_2, .int .i64 x124014_2, .int .i64 x124015_2] 23 (0, 0)) (by (with_reducible repeat (first | refine blk_drewN ?_ _ | refine blk_drew ?_ | refine blk_alloc ?_ _)); exact BK123.out)) : gb123 ≠ gb128)); have n12_ := Aside0.mk ((by rw [hg]; exact Nat.ne_of_gt (blk_lt (g := gb123) (o := .cells #[.int .i64 x124000_2, .int .i64 x124001_2, .int .i64 x124002_2, .int .i64 x124003_2, .int .i64 x124004_2, .int .i64 x124005_2, .int .i64 x124006_2, .int .i64 x124007_2, .int .i64 x124008_2, .int .i64 x124009_2, .int .i64 x124010_2, .int .i64 x124011_2, .int .i64 x124012_2, .int .i64 x124013_2, .int .i64 x124014_2, .int .i64 x124015_2] 23 (0, 0)) (by (with_reducible repeat (first | refine blk_drewN ?_ _ | refine blk_drew ?_ | refine blk_alloc ?_ _)); exact BK123.out)) : gb128 ≠ gb123)); clear BK120; clear BK122; clear BK123; clear HB; have BK120 := n0_; have BK122 := n1_; have BK123 := n2_; have HB := n3_; have BK128 := n4_; have GW128 := n5_; have GE128 := n6_; have NB120_128 := n7_; have NB128_120 := n8_; have NB122_128 := n9_; have NB128_122 := n10_; have NB123_128 := n11_; have NB128_123 := n12_; clear n0_ n1_ n2_ n3_ n4_ n5_ n6_ n7_ n8_ n9_ n10_ n11_ n12_; clear hb hbox hg; have hnb46 := NB128_120.out; have hnc46 := NB120_128.out; have hnb47 := NB128_122.out; have hnc47 := NB122_128.out; have hnb48 := NB128_123.out; have hnc48 := NB123_128.out; have hcz49_0 : w45.cell? ⟨gb128, 0, none⟩ = some (.int .i64 0) := (blk_cell BK128.out 0).trans rfl; have hcz49_1 : w45.cell? ⟨gb128, 1, none⟩ = some (.int .i64 0) := (blk_cell BK128.out 1).trans rfl; have hcz49_2 : w45.cell? ⟨gb128, 2, none⟩ = some (.int .i64 0) := (blk_cell BK128.out 2).trans rfl; have hcz49_3 : w45.cell? ⟨gb128, 3, none⟩ = some (.int .i64 0) := (blk_cell BK128.out 3).trans rfl; have hfz49_0 := blk_frozen BK128.out 0; have hfz49_1 := blk_frozen BK128.out 1; have hfz49_2 := blk_frozen BK128.out 2; have hfz49_3 := blk_frozen BK128.out 3) | ((with_reducible refine gate_store (t := 22) (p := 11) rfl ?_); refine store_event (t := 22) (p := 11) (v := ?vo_w50) (w1 := ((((w45.setCell ⟨gb128, 0, none⟩ (.int .i64 (ix4 x123000_1 x123004_1 x123008_1 x123012_1 x44_2))).setCell ⟨gb128, 1, none⟩ (.int .i64 (ix4 x123001_1 x123005_1 x123009_1 x123013_1 x44_2))).setCell ⟨gb128, 2, none⟩ (.int .i64 (ix4 x123002_1 x123006_1 x123010_1 x123014_1 x44_2))).setCell ⟨gb128, 3, none⟩ (.int .i64 (ix4 x123003_1 x123007_1 x123011_1 x123015_1 x44_2)))) ?hg ?ho ?hn ?hr ?_; (case ho => rfl); (case hg => rfl); (case hn => rfl); (case hr => first | (go_simp; done) | (go_simp; rfl)); intro w50 hw; have n0_ : Aside0 (w50.heap[gb120]? = some (.cells #[.int .i64 0, .int .i64 0, .int .i64 0, .int .i64 0, .int .i64 0, .int .i64 0, .int .i64 0, .int .i64 0, .int .i64 0, .int .i64 0, .int .i64 0, .int .i64 0, .int .i64 0, .int .i64 0, .int .i64 0, .int .i64 0] 23 (0, 0))) := ⟨(by rw [hw]; exact (by (with_reducible repeat (first | refine blk_drewN ?_ _ | refine blk_drew ?_ | refine blk_alloc ?_ _)); refine blk_far ?_ NB120_128.out _; (with_reducible repeat (first | refine blk_drewN ?_ _ | refine blk_drew ?_ | refine blk_alloc ?_ _)); refine blk_far ?_ NB120_128.out _; (with_reducible repeat (first | refine blk_drewN ?_ _ | refine blk_drew ?_ | refine blk_alloc ?_ _)); refine blk_far ?_ NB120_128.out _; (with_reducible repeat (first | refine blk_drewN ?_ _ | refine blk_drew ?_ | refine blk_alloc ?_ _)); refine blk_far ?_ NB120_128.out _; (with_reducible repeat (first | refine blk_drewN ?_ _ | refine blk_drew ?_ | refine blk_alloc ?_ _)); exact BK120.out))⟩; have n1_ : Aside0 (w50.heap[gb122]? = some (.cells #[.int .i64 x123000_1, .int .i64 x123001_1, .int .i64 x123002_1, .int .i64 x123003_1, .int .i64 x123004_1, .int .i64 x123005_1, .int .i64 x123006_1, .int .i64 x123007_1, .int .i64 x123008_1, .int .i64 x123009_1, .int .i64 x123010_1, .int .i64 x123011_1, .int .i64 x123012_1, .int .i64 x123013_1, .int .i64 x123014_1, .int .i64 x123015_1] 23 (0, 0))) := ⟨(by rw [hw]; exact (by (with_reducible repeat (first | refine blk_drewN ?_ _ | refine blk_drew ?_ | refine blk_alloc ?_ _)); refine blk_far ?_ NB122_128.out _; (with_reducible repeat (first | refine blk_drewN ?_ _ | refine blk_drew ?_ | refine blk_alloc ?_ _)); refine blk_far ?_ NB122_128.out _; (with_reducible repeat (first | refine blk_drewN ?_ _ | refine blk_drew ?_ | refine blk_alloc ?_ _)); refine blk_far ?_ NB122_128.out _; (with_reducible repeat (first | refine blk_drewN ?_ _ | refine blk_drew ?_ | refine blk_alloc ?_ _)); refine blk_far ?_ NB122_128.out _; (with_reducible repeat (first | refine blk_drewN ?_ _ | refine blk_drew ?_ | refine blk_alloc ?_ _)); exact BK122.out))⟩; have n2_ : Aside0 (w50.heap[gb123]? = some (.cells #[.int .i64 x124000_2, .int .i64 x124001_2, .int .i64 x124002_2, .int .i64 x124003_2, .int .i64 x124004_2, .int .i64 x124005_2, .int .i64 x124006_2, .int .i64 x124007_2, .int .i64 x124008_2, .int .i64 x124009_2, .int .i64 x124010_2, .int .i64 x124011_2, .int .i64 x124012_2, .int .i64 x124013_2, .int .i64 x124014_2, .int .i64 x124015_2] 23 (0, 0))) := ⟨(by rw [hw]; exact (by (with_reducible repeat (first | refine blk_drewN ?_ _ | refine blk_drew ?_ | refine blk_alloc ?_ _)); refine blk_far ?_ NB123_128.out _; (with_reducible repeat (first | refine blk_drewN ?_ _ | refine blk_drew ?_ | refine blk_alloc ?_ _)); refine blk_far ?_ NB123_128.out _; (with_reducible repeat (first | refine blk_drewN ?_ _ | refine blk_drew ?_ | refine blk_alloc ?_ _)); refine blk_far ?_ NB123_128.out _; (with_reducible repeat (first | refine blk_drewN ?_ _ | refine blk_drew ?_ | refine blk_alloc ?_ _)); refine blk_far ?_ NB123_128.out _; (with_reducible repeat (first | refine blk_drewN ?_ _ | refine blk_drew ?_ | refine blk_alloc ?_ _)); exact BK123.out))⟩; have n3_ : Aside0 (w50.heap[gb128]? = some (.cells #[.int .i64 (ix4 x123000_1 x123004_1 x123008_1 x123012_1 x44_2), .int .i64 (ix4 x123001_1 x123005_1 x123009_1 x123013_1 x44_2), .int .i64 (ix4 x123002_1 x123006_1 x123010_1 x123014_1 x44_2), .int .i64 (ix4 x123003_1 x123007_1 x123011_1 x123015_1 x44_2)] 22 (0, 0))) := ⟨(by rw [hw]; exact (by (with_reducible repeat (first | refine blk_drewN ?_ _ | refine blk_drew ?_ | refine blk_alloc ?_ _)); refine blk_put (cs := #[.int .i64 (ix4 x123000_1 x123004_1 x123008_1 x123012_1 x44_2), .int .i64 (ix4 x123001_1 x123005_1 x123009_1 x123013_1 x44_2), .int .i64 (ix4 x123002_1 x123006_1 x123010_1 x123014_1 x44_2), .int .i64 0]) ?_ 3 _ rfl; (with_reducible repeat (first | refine blk_drewN ?_ _ | refine blk_drew ?_ | refine blk_alloc ?_ _)); refine blk_put (cs := #[.int .i64 (ix4 x123000_1 x123004_1 x123008_1 x123012_1 x44_2), .int .i64 (ix4 x123001_1 x123005_1 x123009_1 x123013_1 x44_2), .int .i64 0, .int .i64 0]) ?_ 2 _ rfl; (with_reducible repeat (first | refine blk_drewN ?_ _ | refine blk_drew ?_ | refine blk_alloc ?_ _)); refine blk_put (cs := #[.int .i64 (ix4 x123000_1 x123004_1 x123008_1 x123012_1 x44_2), .int .i64 0, .int .i64 0, .int .i64 0]) ?_ 1 _ rfl; (with_reducible repeat (first | refine blk_drewN ?_ _ | refine blk_drew ?_ | refine blk_alloc ?_ _)); refine blk_put (cs := #[.int .i64 0, .int .i64 0, .int .i64 0, .int .i64 0]) ?_ 0 _ rfl; (with_reducible repeat (first | refine blk_drewN ?_ _ | refine blk_drew ?_ | refine blk_alloc ?_ _)); exact BK128.out))⟩; have n4_ : Aside0 (Below w.heap.size w w50) := ⟨(by rw [hw]; exact (by repeat (first | (with_reducible first | exact HB.out | apply below_alloc | apply pw_below_drewN | apply below_drew1 | refine below_set ?_ GE120.out | refine below_set ?_ GE122.out | refine below_set ?_ GE123.out | refine below_set ?_ GE128.out) | exact HB.out)))⟩; clear hw; clear BK120; clear BK122; clear BK123; clear BK128; clear HB; have BK120 := n0_; have BK122 := n1_; have BK123 := n2_; have BK128 := n3_; have HB := n4_; clear n0_ n1_ n2_ n3_ n4_; have hcz51_0 : w50.cell? ⟨gb128, 0, none⟩ = some (.int .i64 (ix4 x123000_1 x123004_1 x123008_1 x123012_1 x44_2)) := (blk_cell BK128.out 0).trans rfl; have hcz51_1 : w50.cell? ⟨gb128, 1, none⟩ = some (.int .i64 (ix4 x123001_1 x123005_1 x123009_1 x123013_1 x44_2)) := (blk_cell BK128.out 1).trans rfl; have hcz51_2 : w50.cell? ⟨gb128, 2, none⟩ = some (.int .i64 (ix4 x123002_1 x123006_1 x123010_1 x123014_1 x44_2)) := (blk_cell BK128.out 2).trans rfl; have hcz51_3 : w50.cell? ⟨gb128, 3, none⟩ = some (.int .i64 (ix4 x123003_1 x123007_1 x123011_1 x123015_1 x44_2)) := (blk_cell BK128.out 3).trans rfl; have hfz51_0 := blk_frozen BK128.out 0; have hfz51_1 := blk_frozen BK128.out 1; have hfz51_2 := blk_frozen BK128.out 2; have hfz51_3 := blk_frozen BK128.out 3))
         go_loopg [49] k2 (fun kq v49 w' => ∃ (x49_3 : Int) (x124000_3 : Int) (x124001_3 : Int) (x124002_3 : Int) (x124003_3 : Int) (x124004_3 : Int) (x124005_3 : Int) (x124006_3 : Int) (x124007_3 : Int) (x124008_3 : Int) (x124009_3 : Int) (x124010_3 : Int) (x124011_3 : Int) (x124012_3 : Int) (x124013_3 : Int) (x124014_3 : Int) (x124015_3 : Int), v49 = .int .i64 x49_3 ∧ Aside0 (graph_Of.l3 kq x44_2 x44_2 x49_3 x123000_1 x123001_1 x123002_1 x123003_1 x123004_1 x123005_1 x123006_1 x123007_1 x123008_1 x123009_1 x123010_1 x123011_1 x123012_1 x123013_1 x123014_1 x123015_1 x124000_3 x124001_3 x124002_3 x124003_3 x124004_3 x124005_3 x124006_3 x124007_3 x124008_3 x124009_3 x124010_3 x124011_3 x124012_3 x124013_3 x124014_3 x124015_3 x123000_1 x123001_1 x123002_1 x123003_1 x123004_1 x123005_1 x123006_1 x123007_1 x123008_1 x123009_1 x123010_1 x123011_1 x123012_1 x123013_1 x123014_1 x123015_1 (ix4 x123000_1 x123004_1 x123008_1 x123012_1 x44_2) (ix4 x123001_1 x123005_1 x123009_1 x123013_1 x44_2) (ix4 x123002_1 x123006_1 x123010_1 x123014_1 x44_2) (ix4 x123003_1 x123007_1 x123011_1 x123015_1 x44_2) = some (r1, r2, r3, r4, r5, r6, r7, r8, r9, r10, r11, r12, r13, r14, r15, r16, r17)) ∧ Aside0 (kq ≤ k2) ∧ Aside0 (w'.heap[gb120]? = some (.cells #[.int .i64 0, .int .i64 0, .int .i64 0, .int .i64 0, .int .i64 0, .int .i64 0, .int .i64 0, .int .i64 0, .int .i64 0, .int .i64 0, .int .i64 0, .int .i64 0, .int .i64 0, .int .i64 0, .int .i64 0, .int .i64 0] 23 (0, 0))) ∧ Aside0 (w'.heap[gb122]? = some (.cells #[.int .i64 x123000_1, .int .i64 x123001_1, .int .i64 x123002_1, .int .i64 x123003_1, .int .i64 x123004_1, .int .i64 x123005_1, .int .i64 x123006_1, .int .i64 x123007_1, .int .i64 x123008_1, .int .i64 x123009_1, .int .i64 x123010_1, .int .i64 x123011_1, .int .i64 x123012_1, .int .i64 x123013_1, .int .i64 x123014_1, .int .i64 x123015_1] 23 (0, 0))) ∧ Aside0 (w'.heap[gb123]? = some (.cells #[.int .i64 x124000_3, .int .i64 x124001_3, .int .i64 x124002_3, .int .i64 x124003_3, .int .i64 x124004_3, .int .i64 x124005_3, .int .i64 x124006_3, .int .i64 x124007_3, .int .i64 x124008_3, .int .i64 x124009_3, .int .i64 x124010_3, .int .i64 x124011_3, .int .i64 x124012_3, .int .i64 x124013_3, .int .i64 x124014_3, .int .i64 x124015_3] 23 (0, 0))) ∧ Aside0 (w'.heap[gb128]? = some (.cells #[.int .i64 (ix4 x123000_1 x123004_1 x123008_1 x123012_1 x44_2), .int .i64 (ix4 x123001_1 x123005_1 x123009_1 x123013_1 x44_2), .int .i64 (ix4 x123002_1 x123006_1 x123010_1 x123014_1 x44_2), .int .i64 (ix4 x123003_1 x123007_1 x123011_1 x123015_1 x44_2)] 22 (0, 0))) ∧ Aside0 (Below w.heap.size w w'))
         case atStart => exact ⟨(0), (x124000_2), (x124001_2), (x124002_2), (x124003_2), (x124004_2), (x124005_2), (x124006_2), (x124007_2), (x124008_2), (x124009_2), (x124010_2), (x124011_2), (x124012_2), (x124013_2), (x124014_2), (x124015_2), (by first | rfl | (simp; done) | (simp [*]; done)), H', ⟨Nat.le_refl _⟩, ⟨by (with_reducible repeat (first | refine blk_drewN ?_ _ | refine blk_drew ?_ | refine blk_alloc ?_ _)); exact BK120.out⟩, ⟨by (with_reducible repeat (first | refine blk_drewN ?_ _ | refine blk_drew ?_ | refine blk_alloc ?_ _)); exact BK122.out⟩, ⟨by (with_reducible repeat (first | refine blk_drewN ?_ _ | refine blk_drew ?_ | refine blk_alloc ?_ _)); exact BK123.out⟩, ⟨by (with_reducible repeat (first | refine blk_drewN ?_ _ | refine blk_drew ?_ | refine blk_alloc ?_ _)); exact BK128.out⟩, ⟨by repeat (first | (with_reducible first | exact HB.out | apply below_alloc | apply pw_below_drewN | apply below_drew1 | refine below_set ?_ GE120.out | refine below_set ?_ GE122.out | refine below_set ?_ GE123.out | refine below_set ?_ GE128.out) | exact HB.out)⟩⟩
         case round =>
          clear H'
          try clear c1
          try clear p1
          try clear q1
          try clear hx1
          try clear c2
          try clear p2
          try clear c3
          try clear p3
          try clear q3
          try clear c4
          try clear p4
          try clear q4
          try clear p6
          try clear c8
          try clear c8b0
          try clear c9
          try clear c9b0
          try clear c10
          try clear c10b0
          try clear c12
          try clear p12
          try clear q12
          try clear hx12
          try clear c13
          try clear c14
          try clear c18
          try clear c18b0
          try clear c19
          try clear c19b0
          try clear c20
          try clear c20b0
          try clear c21
          try clear c22
          try clear c22b0
          try clear c23
          try clear c23b0
          try clear c25
          try clear c25b0
          try clear c26
          try clear c26b0
          try clear c28
          try clear c29
          try clear c30
          try clear c31
          try clear c32
          try clear p35
          try clear q35
          try clear p36
          try clear q36
          try clear c38
          try clear c39
          try clear c41
          try clear c41b0
          try clear c42
          try clear c42b0
          try clear p43
          try clear q43
          try clear c46
          try clear c47
          try clear c48
          try clear hcz15_0
          try clear hcz15_1
          try clear hcz15_2
          try clear hcz15_3
          try clear hcz17_0
          try clear hcz17_1
          try clear hcz17_2
          try clear hcz17_3
          try clear hcz32_0
          try clear hcz32_1
          try clear hcz40_0
          try clear hcz40_1
          try clear hcz40_10
          try clear hcz40_11
          try clear hcz40_12
          try clear hcz40_13
          try clear hcz40_14
          try clear hcz40_15
          try clear hcz40_2
          try clear hcz40_3
          try clear hcz40_4
          try clear hcz40_5
          try clear hcz40_6
          try clear hcz40_7
          try clear hcz40_8
          try clear hcz40_9
          try clear hcz49_0
          try clear hcz49_1
          try clear hcz49_2
          try clear hcz49_3
          try clear hcz51_0
          try clear hcz51_1
          try clear hcz51_2
          try clear hcz51_3
          try clear hfz15_0
          try clear hfz15_1
          try clear hfz15_2
          try clear hfz15_3
          try clear hfz17_0
          try clear hfz17_1
          try clear hfz17_2
          try clear hfz17_3
          try clear hfz32_0
          try clear hfz32_1
          try clear hfz40_0
          try clear hfz49_0
          try clear hfz49_1
          try clear hfz49_2
          try clear hfz49_3
          try clear hfz51_0
          try clear hfz51_1
          try clear hfz51_2
          try clear hfz51_3
          try clear hx124_0
          try clear hx124_1
          try clear hx124_2
          try clear hx124_3
          try clear hx126_0
          try clear hx126_1
          try clear p1
          try clear p12
          try clear p124
          try clear p126
          try clear p2
          try clear p3
          try clear p35
          try clear p36
          try clear p43
          try clear p6
          try clear q1
          try clear q12
          try clear q124
          try clear q126
          try clear q3
          try clear q35
          try clear q36
          try clear q43
          obtain ⟨x49_3, x124000_3, x124001_3, x124002_3, x124003_3, x124004_3, x124005_3, x124006_3, x124007_3, x124008_3, x124009_3, x124010_3, x124011_3, x124012_3, x124013_3, x124014_3, x124015_3, rfl, HA, HK3, BK120, BK122, BK123, BK128, HB⟩ := hrel
          cases gk with
          | zero => exact absurd HA.out (by simp [graph_Of.l3])
          | succ k3 =>
           have H := HA.out
           clear HA
           simp only [graph_Of.l3] at H
           by_cases c52 : x49_3 < 4
           ·rw [if_pos c52] at H
            have c52b0 : decide (x49_3 < 4) = true := decide_eq_true c52
            clear c52
            by_cases c53 : 0 ≤ x49_3
            ·rw [if_pos c53] at H
             have c53b0 : decide (0 ≤ x49_3) = true := decide_eq_true c53
             clear c53
             by_cases c54 : 0 ≤ x44_2
             ·rw [if_pos c54] at H
              have c54b0 : decide (0 ≤ x44_2) = true := decide_eq_true c54
              clear c54
              by_cases c55 : x44_2 < 4
              ·rw [if_pos c55] at H
               have c55b0 : decide (x44_2 < 4) = true := decide_eq_true c55
               clear c55
               by_cases c56 : (ix4 (ix4 x123000_1 x123001_1 x123002_1 x123003_1 x44_2) (ix4 x123004_1 x123005_1 x123006_1 x123007_1 x44_2) (ix4 x123008_1 x123009_1 x123010_1 x123011_1 x44_2) (ix4 x123012_1 x123013_1 x123014_1 x123015_1 x44_2) x49_3) > 0
               ·rw [if_pos c56] at H
                have c56b0 : decide (0 < (ix4 (ix4 x123000_1 x123001_1 x123002_1 x123003_1 x44_2) (ix4 x123004_1 x123005_1 x123006_1 x123007_1 x44_2) (ix4 x123008_1 x123009_1 x123010_1 x123011_1 x44_2) (ix4 x123012_1 x123013_1 x123014_1 x123015_1 x44_2) x49_3)) = true := decide_eq_true c56
                clear c56
                have H' := Aside0.mk H
                clear H
                have p57 : (0 ≤ (x49_3 : Int)) = True := eq_true (of_decide_eq_true (by first | (with_reducible assumption) | assumption))
                have q57 : ((x49_3 : Int) < 4) = True := eq_true (of_decide_eq_true (by first | (with_reducible assumption) | assumption))
                have hv58 : ∀ w_ : World, (Instr.index 22 (.agg (#[.int .i64 (ix4 x123000_1 x123004_1 x123008_1 x123012_1 x44_2), .int .i64 (ix4 x123001_1 x123005_1 x123009_1 x123013_1 x44_2), .int .i64 (ix4 x123002_1 x123006_1 x123010_1 x123014_1 x44_2), .int .i64 (ix4 x123003_1 x123007_1 x123011_1 x123015_1 x44_2)] : Array Value)) (.int .i64 x49_3)).run Try.prog w_ = .ok (.int .i64 (ix4 (ix4 x123000_1 x123004_1 x123008_1 x123012_1 x44_2) (ix4 x123001_1 x123005_1 x123009_1 x123013_1 x44_2) (ix4 x123002_1 x123006_1 x123010_1 x123014_1 x44_2) (ix4 x123003_1 x123007_1 x123011_1 x123015_1 x44_2) x49_3)) w_ := fun w_ => index_cell Try.underlying22 (by kernel_rfl) (by kernel_rfl) (by kernel_rfl) (of_decide_eq_true (by first | (with_reducible assumption) | assumption)) (of_decide_eq_true (by first | (with_reducible assumption) | assumption)) (ix_4 (Value.int .i64) _ _ _ _ x49_3 (of_decide_eq_true (by first | (with_reducible assumption) | assumption)) (of_decide_eq_true (by first | (with_reducible assumption) | assumption))) w_
                have p59 : (0 ≤ (x49_3 : Int)) = True := eq_true (of_decide_eq_true (by first | (with_reducible assumption) | assumption))
                have q59 : ((x49_3 : Int) < 4) = True := eq_true (of_decide_eq_true (by first | (with_reducible assumption) | assumption))
                have p60 : (0 ≤ (x44_2 : Int)) = True := eq_true (of_decide_eq_true (by first | (with_reducible assumption) | assumption))
                have q60 : ((x44_2 : Int) < 4) = True := eq_true (of_decide_eq_true (by first | (with_reducible assumption) | assumption))
                have hx61_0 : wr.cell? ⟨gb122, x49_3.toNat * 4 + x44_2.toNat, none⟩ = some (.int .i64 (ix4 (ix4 x123000_1 x123001_1 x123002_1 x123003_1 x44_2) (ix4 x123004_1 x123005_1 x123006_1 x123007_1 x44_2) (ix4 x123008_1 x123009_1 x123010_1 x123011_1 x44_2) (ix4 x123012_1 x123013_1 x123014_1 x123015_1 x44_2) x49_3)) := (blk_cell BK122.out (x49_3.toNat * 4 + x44_2.toNat)).trans (ix_44 (Value.int .i64) _ _ _ _ _ _ _ _ _ _ _ _ _ _ _ _ x49_3 x44_2  (of_decide_eq_true (by first | (with_reducible assumption) | assumption)) (of_decide_eq_true (by first | (with_reducible assumption) | assumption))  (of_decide_eq_true (by first | (with_reducible assumption) | assumption)) (of_decide_eq_true (by first | (with_reducible assumption) | assumption)))
                have p62 : (0 ≤ (x44_2 : Int)) = True := eq_true (of_decide_eq_true (by first | (with_reducible assumption) | assumption))
                have q62 : ((x44_2 : Int) < 4) = True := eq_true (of_decide_eq_true (by first | (with_reducible assumption) | assumption))
                have p63 : (0 ≤ (x49_3 : Int)) = True := eq_true (of_decide_eq_true (by first | (with_reducible assumption) | assumption))
                have q63 : ((x49_3 : Int) < 4) = True := eq_true (of_decide_eq_true (by first | (with_reducible assumption) | assumption))
                have hs64 : wr.cell? ⟨gb123, x44_2.toNat * 4 + x49_3.toNat, none⟩ = some (.int .i64 (ix4 (ix4 x124000_3 x124001_3 x124002_3 x124003_3 x49_3) (ix4 x124004_3 x124005_3 x124006_3 x124007_3 x49_3) (ix4 x124008_3 x124009_3 x124010_3 x124011_3 x49_3) (ix4 x124012_3 x124013_3 x124014_3 x124015_3 x49_3) x44_2)) := (blk_cell BK123.out (x44_2.toNat * 4 + x49_3.toNat)).trans (ix_44 (Value.int .i64) _ _ _ _ _ _ _ _ _ _ _ _ _ _ _ _ x44_2 x49_3  (of_decide_eq_true (by first | (with_reducible assumption) | assumption)) (of_decide_eq_true (by first | (with_reducible assumption) | assumption))  (of_decide_eq_true (by first | (with_reducible assumption) | assumption)) (of_decide_eq_true (by first | (with_reducible assumption) | assumption)))
                have hfs64 := blk_frozen BK123.out (x44_2.toNat * 4 + x49_3.toNat)
                go_wp2_with (first | ((with_reducible refine gate_store (t := 3) (p := 63) rfl ?_); refine store_event (t := 3) (p := 63) (v := ?vo_w65) (w1 := (wr.setCell ⟨gb123, x44_2.toNat * 4 + x49_3.toNat, none⟩ (.int .i64 (ix4 (ix4 x123000_1 x123004_1 x123008_1 x123012_1 x44_2) (ix4 x123001_1 x123005_1 x123009_1 x123013_1 x44_2) (ix4 x123002_1 x123006_1 x123010_1 x123014_1 x44_2) (ix4 x123003_1 x123007_1 x123011_1 x123015_1 x44_2) x49_3)))) ?hg ?ho ?hn ?hr ?_; (case ho => rfl); (case hg => rfl); (case hn => rfl); (case hr => first | (go_simp; done) | (go_simp; rfl)); intro w65 hw; have n0_ : Aside0 (w65.heap[gb120]? = some (.cells #[.int .i64 0, .int .i64 0, .int .i64 0, .int .i64 0, .int .i64 0, .int .i64 0, .int .i64 0, .int .i64 0, .int .i64 0, .int .i64 0, .int .i64 0, .int .i64 0, .int .i64 0, .int .i64 0, .int .i64 0, .int .i64 0] 23 (0, 0))) := ⟨(by rw [hw]; exact (by (with_reducible repeat (first | refine blk_drewN ?_ _ | refine blk_drew ?_ | refine blk_alloc ?_ _)); refine blk_far ?_ NB120_123.out _; (with_reducible repeat (first | refine blk_drewN ?_ _ | refine blk_drew ?_ | refine blk_alloc ?_ _)); exact BK120.out))⟩; have n1_ : Aside0 (w65.heap[gb122]? = some (.cells #[.int .i64 x123000_1, .int .i64 x123001_1, .int .i64 x123002_1, .int .i64 x123003_1, .int .i64 x123004_1, .int .i64 x123005_1, .int .i64 x123006_1, .int .i64 x123007_1, .int .i64 x123008_1, .int .i64 x123009_1, .int .i64 x123010_1, .int .i64 x123011_1, .int .i64 x123012_1, .int .i64 x123013_1, .int .i64 x123014_1, .int .i64 x123015_1] 23 (0, 0))) := ⟨(by rw [hw]; exact (by (with_reducible repeat (first | refine blk_drewN ?_ _ | refine blk_drew ?_ | refine blk_alloc ?_ _)); refine blk_far ?_ NB122_123.out _; (with_reducible repeat (first | refine blk_drewN ?_ _ | refine blk_drew ?_ | refine blk_alloc ?_ _)); exact BK122.out))⟩; have n2_ : Aside0 (w65.heap[gb123]? = some (.cells #[.int .i64 (up (x44_2 == 0 && x49_3 == 0) (ix4 (ix4 x123000_1 x123004_1 x123008_1 x123012_1 x44_2) (ix4 x123001_1 x123005_1 x123009_1 x123013_1 x44_2) (ix4 x123002_1 x123006_1 x123010_1 x123014_1 x44_2) (ix4 x123003_1 x123007_1 x123011_1 x123015_1 x44_2) x49_3) x124000_3), .int .i64 (up (x44_2 == 0 && x49_3 == 1) (ix4 (ix4 x123000_1 x123004_1 x123008_1 x123012_1 x44_2) (ix4 x123001_1 x123005_1 x123009_1 x123013_1 x44_2) (ix4 x123002_1 x123006_1 x123010_1 x123014_1 x44_2) (ix4 x123003_1 x123007_1 x123011_1 x123015_1 x44_2) x49_3) x124001_3), .int .i64 (up (x44_2 == 0 && x49_3 == 2) (ix4 (ix4 x123000_1 x123004_1 x123008_1 x123012_1 x44_2) (ix4 x123001_1 x123005_1 x123009_1 x123013_1 x44_2) (ix4 x123002_1 x123006_1 x123010_1 x123014_1 x44_2) (ix4 x123003_1 x123007_1 x123011_1 x123015_1 x44_2) x49_3) x124002_3), .int .i64 (up (x44_2 == 0 && x49_3 == 3) (ix4 (ix4 x123000_1 x123004_1 x123008_1 x123012_1 x44_2) (ix4 x123001_1 x123005_1 x123009_1 x123013_1 x44_2) (ix4 x123002_1 x123006_1 x123010_1 x123014_1 x44_2) (ix4 x123003_1 x123007_1 x123011_1 x123015_1 x44_2) x49_3) x124003_3), .int .i64 (up (x44_2 == 1 && x49_3 == 0) (ix4 (ix4 x123000_1 x123004_1 x123008_1 x123012_1 x44_2) (ix4 x123001_1 x123005_1 x123009_1 x123013_1 x44_2) (ix4 x123002_1 x123006_1 x123010_1 x123014_1 x44_2) (ix4 x123003_1 x123007_1 x123011_1 x123015_1 x44_2) x49_3) x124004_3), .int .i64 (up (x44_2 == 1 && x49_3 == 1) (ix4 (ix4 x123000_1 x123004_1 x123008_1 x123012_1 x44_2) (ix4 x123001_1 x123005_1 x123009_1 x123013_1 x44_2) (ix4 x123002_1 x123006_1 x123010_1 x123014_1 x44_2) (ix4 x123003_1 x123007_1 x123011_1 x123015_1 x44_2) x49_3) x124005_3), .int .i64 (up (x44_2 == 1 && x49_3 == 2) (ix4 (ix4 x123000_1 x123004_1 x123008_1 x123012_1 x44_2) (ix4 x123001_1 x123005_1 x123009_1 x123013_1 x44_2) (ix4 x123002_1 x123006_1 x123010_1 x123014_1 x44_2) (ix4 x123003_1 x123007_1 x123011_1 x123015_1 x44_2) x49_3) x124006_3), .int .i64 (up (x44_2 == 1 && x49_3 == 3) (ix4 (ix4 x123000_1 x123004_1 x123008_1 x123012_1 x44_2) (ix4 x123001_1 x123005_1 x123009_1 x123013_1 x44_2) (ix4 x123002_1 x123006_1 x123010_1 x123014_1 x44_2) (ix4 x123003_1 x123007_1 x123011_1 x123015_1 x44_2) x49_3) x124007_3), .int .i64 (up (x44_2 == 2 && x49_3 == 0) (ix4 (ix4 x123000_1 x123004_1 x123008_1 x123012_1 x44_2) (ix4 x123001_1 x123005_1 x123009_1 x123013_1 x44_2) (ix4 x123002_1 x123006_1 x123010_1 x123014_1 x44_2) (ix4 x123003_1 x123007_1 x123011_1 x123015_1 x44_2) x49_3) x124008_3), .int .i64 (up (x44_2 == 2 && x49_3 == 1) (ix4 (ix4 x123000_1 x123004_1 x123008_1 x123012_1 x44_2) (ix4 x123001_1 x123005_1 x123009_1 x123013_1 x44_2) (ix4 x123002_1 x123006_1 x123010_1 x123014_1 x44_2) (ix4 x123003_1 x123007_1 x123011_1 x123015_1 x44_2) x49_3) x124009_3), .int .i64 (up (x44_2 == 2 && x49_3 == 2) (ix4 (ix4 x123000_1 x123004_1 x123008_1 x123012_1 x44_2) (ix4 x123001_1 x123005_1 x123009_1 x123013_1 x44_2) (ix4 x123002_1 x123006_1 x123010_1 x123014_1 x44_2) (ix4 x123003_1 x123007_1 x123011_1 x123015_1 x44_2) x49_3) x124010_3), .int .i64 (up (x44_2 == 2 && x49_3 == 3) (ix4 (ix4 x123000_1 x123004_1 x123008_1 x123012_1 x44_2) (ix4 x123001_1 x123005_1 x123009_1 x123013_1 x44_2) (ix4 x123002_1 x123006_1 x123010_1 x123014_1 x44_2) (ix4 x123003_1 x123007_1 x123011_1 x123015_1 x44_2) x49_3) x124011_3), .int .i64 (up (x44_2 == 3 && x49_3 == 0) (ix4 (ix4 x123000_1 x123004_1 x123008_1 x123012_1 x44_2) (ix4 x123001_1 x123005_1 x123009_1 x123013_1 x44_2) (ix4 x123002_1 x123006_1 x123010_1 x123014_1 x44_2) (ix4 x123003_1 x123007_1 x123011_1 x123015_1 x44_2) x49_3) x124012_3), .int .i64 (up (x44_2 == 3 && x49_3 == 1) (ix4 (ix4 x123000_1 x123004_1 x123008_1 x123012_1 x44_2) (ix4 x123001_1 x123005_1 x123009_1 x123013_1 x44_2) (ix4 x123002_1 x123006_1 x123010_1 x123014_1 x44_2) (ix4 x123003_1 x123007_1 x123011_1 x123015_1 x44_2) x49_3) x124013_3), .int .i64 (up (x44_2 == 3 && x49_3 == 2) (ix4 (ix4 x123000_1 x123004_1 x123008_1 x123012_1 x44_2) (ix4 x123001_1 x123005_1 x123009_1 x123013_1 x44_2) (ix4 x123002_1 x123006_1 x123010_1 x123014_1 x44_2) (ix4 x123003_1 x123007_1 x123011_1 x123015_1 x44_2) x49_3) x124014_3), .int .i64 (up (x44_2 == 3 && x49_3 == 3) (ix4 (ix4 x123000_1 x123004_1 x123008_1 x123012_1 x44_2) (ix4 x123001_1 x123005_1 x123009_1 x123013_1 x44_2) (ix4 x123002_1 x123006_1 x123010_1 x123014_1 x44_2) (ix4 x123003_1 x123007_1 x123011_1 x123015_1 x44_2) x49_3) x124015_3)] 23 (0, 0))) := ⟨(by rw [hw]; exact (by (with_reducible repeat (first | refine blk_drewN ?_ _ | refine blk_drew ?_ | refine blk_alloc ?_ _)); refine blk_put (cs := #[.int .i64 x124000_3, .int .i64 x124001_3, .int .i64 x124002_3, .int .i64 x124003_3, .int .i64 x124004_3, .int .i64 x124005_3, .int .i64 x124006_3, .int .i64 x124007_3, .int .i64 x124008_3, .int .i64 x124009_3, .int .i64 x124010_3, .int .i64 x124011_3, .int .i64 x124012_3, .int .i64 x124013_3, .int .i64 x124014_3, .int .i64 x124015_3]) ?_ (x44_2.toNat * 4 + x49_3.toNat) _ (up_44 (Value.int .i64) _ _ _ _ _ _ _ _ _ _ _ _ _ _ _ _ x44_2 x49_3 (ix4 (ix4 x123000_1 x123004_1 x123008_1 x123012_1 x44_2) (ix4 x123001_1 x123005_1 x123009_1 x123013_1 x44_2) (ix4 x123002_1 x123006_1 x123010_1 x123014_1 x44_2) (ix4 x123003_1 x123007_1 x123011_1 x123015_1 x44_2) x49_3) (of_decide_eq_true (by first | (with_reducible assumption) | assumption)) (of_decide_eq_true (by first | (with_reducible assumption) | assumption)) (of_decide_eq_true (by first | (with_reducible assumption) | assumption)) (of_decide_eq_true (by first | (with_reducible assumption) | assumption))); (with_reducible repeat (first | refine blk_drewN ?_ _ | refine blk_drew ?_ | refine blk_alloc ?_ _)); exact BK123.out))⟩; have n3_ : Aside0 (w65.heap[gb128]? = some (.cells #[.int .i64 (ix4 x123000_1 x123004_1 x123008_1 x123012_1 x44_2), .int .i64 (ix4 x123001_1 x123005_1 x123009_1 x123013_1 x44_2), .int .i64 (ix4 x123002_1 x123006_1 x123010_1 x123014_1 x44_2), .int .i64 (ix4 x123003_1 x123007_1 x123011_1 x123015_1 x44_2)] 22 (0, 0))) := ⟨(by rw [hw]; exact (by (with_reducible repeat (first | refine blk_drewN ?_ _ | refine blk_drew ?_ | refine blk_alloc ?_ _)); refine blk_far ?_ NB128_123.out _; (with_reducible repeat (first | refine blk_drewN ?_ _ | refine blk_drew ?_ | refine blk_alloc ?_ _)); exact BK128.out))⟩; have n4_ : Aside0 (Below w.heap.size w w65) := ⟨(by rw [hw]; exact (by repeat (first | (with_reducible first | exact HB.out | apply below_alloc | apply pw_below_drewN | apply below_drew1 | refine below_set ?_ GE120.out | refine below_set ?_ GE122.out | refine below_set ?_ GE123.out | refine below_set ?_ GE128.out) | exact HB.out)))⟩; clear hw; clear BK120; clear BK122; clear BK123; clear BK128; clear HB; have BK120 := n0_; have BK122 := n1_; have BK123 := n2_; have BK128 := n3_; have HB := n4_; clear n0_ n1_ n2_ n3_ n4_))
                go_roundg k3
                case measure => have := HK1.out; have := HK2.out; have := HK3.out; omega
                case rel => exact ⟨(wrap64 (x49_3 + 1)), (up (x44_2 == 0 && x49_3 == 0) (ix4 (ix4 x123000_1 x123004_1 x123008_1 x123012_1 x44_2) (ix4 x123001_1 x123005_1 x123009_1 x123013_1 x44_2) (ix4 x123002_1 x123006_1 x123010_1 x123014_1 x44_2) (ix4 x123003_1 x123007_1 x123011_1 x123015_1 x44_2) x49_3) x124000_3), (up (x44_2 == 0 && x49_3 == 1) (ix4 (ix4 x123000_1 x123004_1 x123008_1 x123012_1 x44_2) (ix4 x123001_1 x123005_1 x123009_1 x123013_1 x44_2) (ix4 x123002_1 x123006_1 x123010_1 x123014_1 x44_2) (ix4 x123003_1 x123007_1 x123011_1 x123015_1 x44_2) x49_3) x124001_3), (up (x44_2 == 0 && x49_3 == 2) (ix4 (ix4 x123000_1 x123004_1 x123008_1 x123012_1 x44_2) (ix4 x123001_1 x123005_1 x123009_1 x123013_1 x44_2) (ix4 x123002_1 x123006_1 x123010_1 x123014_1 x44_2) (ix4 x123003_1 x123007_1 x123011_1 x123015_1 x44_2) x49_3) x124002_3), (up (x44_2 == 0 && x49_3 == 3) (ix4 (ix4 x123000_1 x123004_1 x123008_1 x123012_1 x44_2) (ix4 x123001_1 x123005_1 x123009_1 x123013_1 x44_2) (ix4 x123002_1 x123006_1 x123010_1 x123014_1 x44_2) (ix4 x123003_1 x123007_1 x123011_1 x123015_1 x44_2) x49_3) x124003_3), (up (x44_2 == 1 && x49_3 == 0) (ix4 (ix4 x123000_1 x123004_1 x123008_1 x123012_1 x44_2) (ix4 x123001_1 x123005_1 x123009_1 x123013_1 x44_2) (ix4 x123002_1 x123006_1 x123010_1 x123014_1 x44_2) (ix4 x123003_1 x123007_1 x123011_1 x123015_1 x44_2) x49_3) x124004_3), (up (x44_2 == 1 && x49_3 == 1) (ix4 (ix4 x123000_1 x123004_1 x123008_1 x123012_1 x44_2) (ix4 x123001_1 x123005_1 x123009_1 x123013_1 x44_2) (ix4 x123002_1 x123006_1 x123010_1 x123014_1 x44_2) (ix4 x123003_1 x123007_1 x123011_1 x123015_1 x44_2) x49_3) x124005_3), (up (x44_2 == 1 && x49_3 == 2) (ix4 (ix4 x123000_1 x123004_1 x123008_1 x123012_1 x44_2) (ix4 x123001_1 x123005_1 x123009_1 x123013_1 x44_2) (ix4 x123002_1 x123006_1 x123010_1 x123014_1 x44_2) (ix4 x123003_1 x123007_1 x123011_1 x123015_1 x44_2) x49_3) x124006_3), (up (x44_2 == 1 && x49_3 == 3) (ix4 (ix4 x123000_1 x123004_1 x123008_1 x123012_1 x44_2) (ix4 x123001_1 x123005_1 x123009_1 x123013_1 x44_2) (ix4 x123002_1 x123006_1 x123010_1 x123014_1 x44_2) (ix4 x123003_1 x123007_1 x123011_1 x123015_1 x44_2) x49_3) x124007_3), (up (x44_2 == 2 && x49_3 == 0) (ix4 (ix4 x123000_1 x123004_1 x123008_1 x123012_1 x44_2) (ix4 x123001_1 x123005_1 x123009_1 x123013_1 x44_2) (ix4 x123002_1 x123006_1 x123010_1 x123014_1 x44_2) (ix4 x123003_1 x123007_1 x123011_1 x123015_1 x44_2) x49_3) x124008_3), (up (x44_2 == 2 && x49_3 == 1) (ix4 (ix4 x123000_1 x123004_1 x123008_1 x123012_1 x44_2) (ix4 x123001_1 x123005_1 x123009_1 x123013_1 x44_2) (ix4 x123002_1 x123006_1 x123010_1 x123014_1 x44_2) (ix4 x123003_1 x123007_1 x123011_1 x123015_1 x44_2) x49_3) x124009_3), (up (x44_2 == 2 && x49_3 == 2) (ix4 (ix4 x123000_1 x123004_1 x123008_1 x123012_1 x44_2) (ix4 x123001_1 x123005_1 x123009_1 x123013_1 x44_2) (ix4 x123002_1 x123006_1 x123010_1 x123014_1 x44_2) (ix4 x123003_1 x123007_1 x123011_1 x123015_1 x44_2) x49_3) x124010_3), (up (x44_2 == 2 && x49_3 == 3) (ix4 (ix4 x123000_1 x123004_1 x123008_1 x123012_1 x44_2) (ix4 x123001_1 x123005_1 x123009_1 x123013_1 x44_2) (ix4 x123002_1 x123006_1 x123010_1 x123014_1 x44_2) (ix4 x123003_1 x123007_1 x123011_1 x123015_1 x44_2) x49_3) x124011_3), (up (x44_2 == 3 && x49_3 == 0) (ix4 (ix4 x123000_1 x123004_1 x123008_1 x123012_1 x44_2) (ix4 x123001_1 x123005_1 x123009_1 x123013_1 x44_2) (ix4 x123002_1 x123006_1 x123010_1 x123014_1 x44_2) (ix4 x123003_1 x123007_1 x123011_1 x123015_1 x44_2) x49_3) x124012_3), (up (x44_2 == 3 && x49_3 == 1) (ix4 (ix4 x123000_1 x123004_1 x123008_1 x123012_1 x44_2) (ix4 x123001_1 x123005_1 x123009_1 x123013_1 x44_2) (ix4 x123002_1 x123006_1 x123010_1 x123014_1 x44_2) (ix4 x123003_1 x123007_1 x123011_1 x123015_1 x44_2) x49_3) x124013_3), (up (x44_2 == 3 && x49_3 == 2) (ix4 (ix4 x123000_1 x123004_1 x123008_1 x123012_1 x44_2) (ix4 x123001_1 x123005_1 x123009_1 x123013_1 x44_2) (ix4 x123002_1 x123006_1 x123010_1 x123014_1 x44_2) (ix4 x123003_1 x123007_1 x123011_1 x123015_1 x44_2) x49_3) x124014_3), (up (x44_2 == 3 && x49_3 == 3) (ix4 (ix4 x123000_1 x123004_1 x123008_1 x123012_1 x44_2) (ix4 x123001_1 x123005_1 x123009_1 x123013_1 x44_2) (ix4 x123002_1 x123006_1 x123010_1 x123014_1 x44_2) (ix4 x123003_1 x123007_1 x123011_1 x123015_1 x44_2) x49_3) x124015_3), (by first | rfl | (simp; done) | (simp [*]; done)), H', ⟨by have := HK1.out; have := HK2.out; have := HK3.out; omega⟩, ⟨by (with_reducible repeat (first | refine blk_drewN ?_ _ | refine blk_drew ?_ | refine blk_alloc ?_ _)); exact BK120.out⟩, ⟨by (with_reducible repeat (first | refine blk_drewN ?_ _ | refine blk_drew ?_ | refine blk_alloc ?_ _)); exact BK122.out⟩, ⟨by (with_reducible repeat (first | refine blk_drewN ?_ _ | refine blk_drew ?_ | refine blk_alloc ?_ _)); exact BK123.out⟩, ⟨by (with_reducible repeat (first | refine blk_drewN ?_ _ | refine blk_drew ?_ | refine blk_alloc ?_ _)); exact BK128.out⟩, ⟨by repeat (first | (with_reducible first | exact HB.out | apply below_alloc | apply pw_below_drewN | apply below_drew1 | refine below_set ?_ GE120.out | refine below_set ?_ GE122.out | refine below_set ?_ GE123.out | refine below_set ?_ GE128.out) | exact HB.out)⟩⟩
               ·rw [if_neg c56] at H
                have c56b0 : decide (0 < (ix4 (ix4 x123000_1 x123001_1 x123002_1 x123003_1 x44_2) (ix4 x123004_1 x123005_1 x123006_1 x123007_1 x44_2) (ix4 x123008_1 x123009_1 x123010_1 x123011_1 x44_2) (ix4 x123012_1 x123013_1 x123014_1 x123015_1 x44_2) x49_3)) = false := decide_eq_false c56
                clear c56
                have H' := Aside0.mk H
                clear H
                have p66 : (0 ≤ (x49_3 : Int)) = True := eq_true (of_decide_eq_true (by first | (with_reducible assumption) | assumption))
                have q66 : ((x49_3 : Int) < 4) = True := eq_true (of_decide_eq_true (by first | (with_reducible assumption) | assumption))
                have hv67 : ∀ w_ : World, (Instr.index 22 (.agg (#[.int .i64 (ix4 x123000_1 x123004_1 x123008_1 x123012_1 x44_2), .int .i64 (ix4 x123001_1 x123005_1 x123009_1 x123013_1 x44_2), .int .i64 (ix4 x123002_1 x123006_1 x123010_1 x123014_1 x44_2), .int .i64 (ix4 x123003_1 x123007_1 x123011_1 x123015_1 x44_2)] : Array Value)) (.int .i64 x49_3)).run Try.prog w_ = .ok (.int .i64 (ix4 (ix4 x123000_1 x123004_1 x123008_1 x123012_1 x44_2) (ix4 x123001_1 x123005_1 x123009_1 x123013_1 x44_2) (ix4 x123002_1 x123006_1 x123010_1 x123014_1 x44_2) (ix4 x123003_1 x123007_1 x123011_1 x123015_1 x44_2) x49_3)) w_ := fun w_ => index_cell Try.underlying22 (by kernel_rfl) (by kernel_rfl) (by kernel_rfl) (of_decide_eq_true (by first | (with_reducible assumption) | assumption)) (of_decide_eq_true (by first | (with_reducible assumption) | assumption)) (ix_4 (Value.int .i64) _ _ _ _ x49_3 (of_decide_eq_true (by first | (with_reducible assumption) | assumption)) (of_decide_eq_true (by first | (with_reducible assumption) | assumption))) w_
                have p68 : (0 ≤ (x49_3 : Int)) = True := eq_true (of_decide_eq_true (by first | (with_reducible assumption) | assumption))
                have q68 : ((x49_3 : Int) < 4) = True := eq_true (of_decide_eq_true (by first | (with_reducible assumption) | assumption))
                have p69 : (0 ≤ (x44_2 : Int)) = True := eq_true (of_decide_eq_true (by first | (with_reducible assumption) | assumption))
                have q69 : ((x44_2 : Int) < 4) = True := eq_true (of_decide_eq_true (by first | (with_reducible assumption) | assumption))
                have hx70_0 : wr.cell? ⟨gb122, x49_3.toNat * 4 + x44_2.toNat, none⟩ = some (.int .i64 (ix4 (ix4 x123000_1 x123001_1 x123002_1 x123003_1 x44_2) (ix4 x123004_1 x123005_1 x123006_1 x123007_1 x44_2) (ix4 x123008_1 x123009_1 x123010_1 x123011_1 x44_2) (ix4 x123012_1 x123013_1 x123014_1 x123015_1 x44_2) x49_3)) := (blk_cell BK122.out (x49_3.toNat * 4 + x44_2.toNat)).trans (ix_44 (Value.int .i64) _ _ _ _ _ _ _ _ _ _ _ _ _ _ _ _ x49_3 x44_2  (of_decide_eq_true (by first | (with_reducible assumption) | assumption)) (of_decide_eq_true (by first | (with_reducible assumption) | assumption))  (of_decide_eq_true (by first | (with_reducible assumption) | assumption)) (of_decide_eq_true (by first | (with_reducible assumption) | assumption)))
                go_wp2
                go_roundg k3
                case measure => have := HK1.out; have := HK2.out; have := HK3.out; omega
                case rel => exact ⟨(wrap64 (x49_3 + 1)), (x124000_3), (x124001_3), (x124002_3), (x124003_3), (x124004_3), (x124005_3), (x124006_3), (x124007_3), (x124008_3), (x124009_3), (x124010_3), (x124011_3), (x124012_3), (x124013_3), (x124014_3), (x124015_3), (by first | rfl | (simp; done) | (simp [*]; done)), H', ⟨by have := HK1.out; have := HK2.out; have := HK3.out; omega⟩, ⟨by (with_reducible repeat (first | refine blk_drewN ?_ _ | refine blk_drew ?_ | refine blk_alloc ?_ _)); exact BK120.out⟩, ⟨by (with_reducible repeat (first | refine blk_drewN ?_ _ | refine blk_drew ?_ | refine blk_alloc ?_ _)); exact BK122.out⟩, ⟨by (with_reducible repeat (first | refine blk_drewN ?_ _ | refine blk_drew ?_ | refine blk_alloc ?_ _)); exact BK123.out⟩, ⟨by (with_reducible repeat (first | refine blk_drewN ?_ _ | refine blk_drew ?_ | refine blk_alloc ?_ _)); exact BK128.out⟩, ⟨by repeat (first | (with_reducible first | exact HB.out | apply below_alloc | apply pw_below_drewN | apply below_drew1 | refine below_set ?_ GE120.out | refine below_set ?_ GE122.out | refine below_set ?_ GE123.out | refine below_set ?_ GE128.out) | exact HB.out)⟩⟩
              ·rw [if_neg c55] at H
               exact absurd H (by simp)
             ·rw [if_neg c54] at H
              exact absurd H (by simp)
            ·rw [if_neg c53] at H
             exact absurd H (by simp)
           ·rw [if_neg c52] at H
            have c52b0 : decide (x49_3 < 4) = false := decide_eq_false c52
            clear c52
            have H' := Aside0.mk H
            clear H
            go_wp2
            go_roundg k3
            case measure => have := HK1.out; have := HK2.out; have := HK3.out; omega
            case rel => exact ⟨(wrap64 (x44_2 + 1)), (x124000_3), (x124001_3), (x124002_3), (x124003_3), (x124004_3), (x124005_3), (x124006_3), (x124007_3), (x124008_3), (x124009_3), (x124010_3), (x124011_3), (x124012_3), (x124013_3), (x124014_3), (x124015_3), (by first | rfl | (simp; done) | (simp [*]; done)), H', ⟨by have := HK1.out; have := HK2.out; have := HK3.out; omega⟩, ⟨by (with_reducible repeat (first | refine blk_drewN ?_ _ | refine blk_drew ?_ | refine blk_alloc ?_ _)); exact BK120.out⟩, ⟨by (with_reducible repeat (first | refine blk_drewN ?_ _ | refine blk_drew ?_ | refine blk_alloc ?_ _)); exact BK122.out⟩, ⟨by (with_reducible repeat (first | refine blk_drewN ?_ _ | refine blk_drew ?_ | refine blk_alloc ?_ _)); exact BK123.out⟩, ⟨by repeat (first | (with_reducible first | exact HB.out | apply below_alloc | apply pw_below_drewN | apply below_drew1 | refine below_set ?_ GE120.out | refine below_set ?_ GE122.out | refine below_set ?_ GE123.out | refine below_set ?_ GE128.out) | exact HB.out)⟩⟩
        ·rw [if_neg c42] at H
         exact absurd H (by simp)
       ·rw [if_neg c41] at H
        have c41b0 : decide (x44_2 < 4) = false := decide_eq_false c41
        clear c41
        simp only [Option.some.injEq, Prod.mk.injEq] at H
        obtain ⟨rfl, rfl, rfl, rfl, rfl, rfl, rfl, rfl, rfl, rfl, rfl, rfl, rfl, rfl, rfl, rfl, rfl⟩ := H
        have hnb71 := NB123_120.out
        have hnc71 := NB120_123.out
        have hnb72 := NB123_122.out
        have hnc72 := NB122_123.out
        obtain ⟨hcz73_0, hcz73_1, hcz73_2, hcz73_3, hcz73_4, hcz73_5, hcz73_6, hcz73_7, hcz73_8, hcz73_9, hcz73_10, hcz73_11, hcz73_12, hcz73_13, hcz73_14, hcz73_15⟩ := cells16 BK123.out
        have hfz73_0 := fun (j_ : Nat) => blk_frozen BK123.out j_
        have hnb74 := NB120_122.out
        have hnc74 := NB122_120.out
        obtain ⟨hcz75_0, hcz75_1, hcz75_2, hcz75_3, hcz75_4, hcz75_5, hcz75_6, hcz75_7, hcz75_8, hcz75_9, hcz75_10, hcz75_11, hcz75_12, hcz75_13, hcz75_14, hcz75_15⟩ := cells16 BK120.out
        have hfz75_0 := fun (j_ : Nat) => blk_frozen BK120.out j_
        go_wp2_with (first | ((with_reducible refine gate_store (t := 23) (p := 2) rfl ?_); refine store_event (t := 23) (p := 2) (v := ?vo_w76) (w1 := ((((((((((((((((wr.setCell ⟨gb120, 0, none⟩ (.int .i64 x124000_2)).setCell ⟨gb120, 1, none⟩ (.int .i64 x124001_2)).setCell ⟨gb120, 2, none⟩ (.int .i64 x124002_2)).setCell ⟨gb120, 3, none⟩ (.int .i64 x124003_2)).setCell ⟨gb120, 4, none⟩ (.int .i64 x124004_2)).setCell ⟨gb120, 5, none⟩ (.int .i64 x124005_2)).setCell ⟨gb120, 6, none⟩ (.int .i64 x124006_2)).setCell ⟨gb120, 7, none⟩ (.int .i64 x124007_2)).setCell ⟨gb120, 8, none⟩ (.int .i64 x124008_2)).setCell ⟨gb120, 9, none⟩ (.int .i64 x124009_2)).setCell ⟨gb120, 10, none⟩ (.int .i64 x124010_2)).setCell ⟨gb120, 11, none⟩ (.int .i64 x124011_2)).setCell ⟨gb120, 12, none⟩ (.int .i64 x124012_2)).setCell ⟨gb120, 13, none⟩ (.int .i64 x124013_2)).setCell ⟨gb120, 14, none⟩ (.int .i64 x124014_2)).setCell ⟨gb120, 15, none⟩ (.int .i64 x124015_2))) ?hg ?ho ?hn ?hr ?_; (case ho => rfl); (case hg => rfl); (case hn => rfl); (case hr => first | (go_simp; done) | (go_simp; rfl)); intro w76 hw; have n0_ : Aside0 (w76.heap[gb120]? = some (.cells #[.int .i64 x124000_2, .int .i64 x124001_2, .int .i64 x124002_2, .int .i64 x124003_2, .int .i64 x124004_2, .int .i64 x124005_2, .int .i64 x124006_2, .int .i64 x124007_2, .int .i64 x124008_2, .int .i64 x124009_2, .int .i64 x124010_2, .int .i64 x124011_2, .int .i64 x124012_2, .int .i64 x124013_2, .int .i64 x124014_2, .int .i64 x124015_2] 23 (0, 0))) := ⟨(by rw [hw]; exact (by (with_reducible repeat (first | refine blk_drewN ?_ _ | refine blk_drew ?_ | refine blk_alloc ?_ _)); refine blk_put (cs := #[.int .i64 x124000_2, .int .i64 x124001_2, .int .i64 x124002_2, .int .i64 x124003_2, .int .i64 x124004_2, .int .i64 x124005_2, .int .i64 x124006_2, .int .i64 x124007_2, .int .i64 x124008_2, .int .i64 x124009_2, .int .i64 x124010_2, .int .i64 x124011_2, .int .i64 x124012_2, .int .i64 x124013_2, .int .i64 x124014_2, .int .i64 0]) ?_ 15 _ rfl; (with_reducible repeat (first | refine blk_drewN ?_ _ | refine blk_drew ?_ | refine blk_alloc ?_ _)); refine blk_put (cs := #[.int .i64 x124000_2, .int .i64 x124001_2, .int .i64 x124002_2, .int .i64 x124003_2, .int .i64 x124004_2, .int .i64 x124005_2, .int .i64 x124006_2, .int .i64 x124007_2, .int .i64 x124008_2, .int .i64 x124009_2, .int .i64 x124010_2, .int .i64 x124011_2, .int .i64 x124012_2, .int .i64 x124013_2, .int .i64 0, .int .i64 0]) ?_ 14 _ rfl; (with_reducible repeat (first | refine blk_drewN ?_ _ | refine blk_drew ?_ | refine blk_alloc ?_ _)); refine blk_put (cs := #[.int .i64 x124000_2, .int .i64 x124001_2, .int .i64 x124002_2, .int .i64 x124003_2, .int .i64 x124004_2, .int .i64 x124005_2, .int .i64 x124006_2, .int .i64 x124007_2, .int .i64 x124008_2, .int .i64 x124009_2, .int .i64 x124010_2, .int .i64 x124011_2, .int .i64 x124012_2, .int .i64 0, .int .i64 0, .int .i64 0]) ?_ 13 _ rfl; (with_reducible repeat (first | refine blk_drewN ?_ _ | refine blk_drew ?_ | refine blk_alloc ?_ _)); refine blk_put (cs := #[.int .i64 x124000_2, .int .i64 x124001_2, .int .i64 x124002_2, .int .i64 x124003_2, .int .i64 x124004_2, .int .i64 x124005_2, .int .i64 x124006_2, .int .i64 x124007_2, .int .i64 x124008_2, .int .i64 x124009_2, .int .i64 x124010_2, .int .i64 x124011_2, .int .i64 0, .int .i64 0, .int .i64 0, .int .i64 0]) ?_ 12 _ rfl; (with_reducible repeat (first | refine blk_drewN ?_ _ | refine blk_drew ?_ | refine blk_alloc ?_ _)); refine blk_put (cs := #[.int .i64 x124000_2, .int .i64 x124001_2, .int .i64 x124002_2, .int .i64 x124003_2, .int .i64 x124004_2, .int .i64 x124005_2, .int .i64 x124006_2, .int .i64 x124007_2, .int .i64 x124008_2, .int .i64 x124009_2, .int .i64 x124010_2, .int .i64 0, .int .i64 0, .int .i64 0, .int .i64 0, .int .i64 0]) ?_ 11 _ rfl; (with_reducible repeat (first | refine blk_drewN ?_ _ | refine blk_drew ?_ | refine blk_alloc ?_ _)); refine blk_put (cs := #[.int .i64 x124000_2, .int .i64 x124001_2, .int .i64 x124002_2, .int .i64 x124003_2, .int .i64 x124004_2, .int .i64 x124005_2, .int .i64 x124006_2, .int .i64 x124007_2, .int .i64 x124008_2, .int .i64 x124009_2, .int .i64 0, .int .i64 0, .int .i64 0, .int .i64 0, .int .i64 0, .int .i64 0]) ?_ 10 _ rfl; (with_reducible repeat (first | refine blk_drewN ?_ _ | refine blk_drew ?_ | refine blk_alloc ?_ _)); refine blk_put (cs := #[.int .i64 x124000_2, .int .i64 x124001_2, .int .i64 x124002_2, .int .i64 x124003_2, .int .i64 x124004_2, .int .i64 x124005_2, .int .i64 x124006_2, .int .i64 x124007_2, .int .i64 x124008_2, .int .i64 0, .int .i64 0, .int .i64 0, .int .i64 0, .int .i64 0, .int .i64 0, .int .i64 0]) ?_ 9 _ rfl; (with_reducible repeat (first | refine blk_drewN ?_ _ | refine blk_drew ?_ | refine blk_alloc ?_ _)); refine blk_put (cs := #[.int .i64 x124000_2, .int .i64 x124001_2, .int .i64 x124002_2, .int .i64 x124003_2, .int .i64 x124004_2, .int .i64 x124005_2, .int .i64 x124006_2, .int .i64 x124007_2, .int .i64 0, .int .i64 0, .int .i64 0, .int .i64 0, .int .i64 0, .int .i64 0, .int .i64 0, .int .i64 0]) ?_ 8 _ rfl; (with_reducible repeat (first | refine blk_drewN ?_ _ | refine blk_drew ?_ | refine blk_alloc ?_ _)); refine blk_put (cs := #[.int .i64 x124000_2, .int .i64 x124001_2, .int .i64 x124002_2, .int .i64 x124003_2, .int .i64 x124004_2, .int .i64 x124005_2, .int .i64 x124006_2, .int .i64 0, .int .i64 0, .int .i64 0, .int .i64 0, .int .i64 0, .int .i64 0, .int .i64 0, .int .i64 0, .int .i64 0]) ?_ 7 _ rfl; (with_reducible repeat (first | refine blk_drewN ?_ _ | refine blk_drew ?_ | refine blk_alloc ?_ _)); refine blk_put (cs := #[.int .i64 x124000_2, .int .i64 x124001_2, .int .i64 x124002_2, .int .i64 x124003_2, .int .i64 x124004_2, .int .i64 x124005_2, .int .i64 0, .int .i64 0, .int .i64 0, .int .i64 0, .int .i64 0, .int .i64 0, .int .i64 0, .int .i64 0, .int .i64 0, .int .i64 0]) ?_ 6 _ rfl; (with_reducible repeat (first | refine blk_drewN ?_ _ | refine blk_drew ?_ | refine blk_alloc ?_ _)); refine blk_put (cs := #[.int .i64 x124000_2, .int .i64 x124001_2, .int .i64 x124002_2, .int .i64 x124003_2, .int .i64 x124004_2, .int .i64 0, .int .i64 0, .int .i64 0, .int .i64 0, .int .i64 0, .int .i64 0, .int .i64 0, .int .i64 0, .int .i64 0, .int .i64 0, .int .i64 0]) ?_ 5 _ rfl; (with_reducible repeat (first | refine blk_drewN ?_ _ | refine blk_drew ?_ | refine blk_alloc ?_ _)); refine blk_put (cs := #[.int .i64 x124000_2, .int .i64 x124001_2, .int .i64 x124002_2, .int .i64 x124003_2, .int .i64 0, .int .i64 0, .int .i64 0, .int .i64 0, .int .i64 0, .int .i64 0, .int .i64 0, .int .i64 0, .int .i64 0, .int .i64 0, .int .i64 0, .int .i64 0]) ?_ 4 _ rfl; (with_reducible repeat (first | refine blk_drewN ?_ _ | refine blk_drew ?_ | refine blk_alloc ?_ _)); refine blk_put (cs := #[.int .i64 x124000_2, .int .i64 x124001_2, .int .i64 x124002_2, .int .i64 0, .int .i64 0, .int .i64 0, .int .i64 0, .int .i64 0, .int .i64 0, .int .i64 0, .int .i64 0, .int .i64 0, .int .i64 0, .int .i64 0, .int .i64 0, .int .i64 0]) ?_ 3 _ rfl; (with_reducible repeat (first | refine blk_drewN ?_ _ | refine blk_drew ?_ | refine blk_alloc ?_ _)); refine blk_put (cs := #[.int .i64 x124000_2, .int .i64 x124001_2, .int .i64 0, .int .i64 0, .int .i64 0, .int .i64 0, .int .i64 0, .int .i64 0, .int .i64 0, .int .i64 0, .int .i64 0, .int .i64 0, .int .i64 0, .int .i64 0, .int .i64 0, .int .i64 0]) ?_ 2 _ rfl; (with_reducible repeat (first | refine blk_drewN ?_ _ | refine blk_drew ?_ | refine blk_alloc ?_ _)); refine blk_put (cs := #[.int .i64 x124000_2, .int .i64 0, .int .i64 0, .int .i64 0, .int .i64 0, .int .i64 0, .int .i64 0, .int .i64 0, .int .i64 0, .int .i64 0, .int .i64 0, .int .i64 0, .int .i64 0, .int .i64 0, .int .i64 0, .int .i64 0]) ?_ 1 _ rfl; (with_reducible repeat (first | refine blk_drewN ?_ _ | refine blk_drew ?_ | refine blk_alloc ?_ _)); refine blk_put (cs := #[.int .i64 0, .int .i64 0, .int .i64 0, .int .i64 0, .int .i64 0, .int .i64 0, .int .i64 0, .int .i64 0, .int .i64 0, .int .i64 0, .int .i64 0, .int .i64 0, .int .i64 0, .int .i64 0, .int .i64 0, .int .i64 0]) ?_ 0 _ rfl; (with_reducible repeat (first | refine blk_drewN ?_ _ | refine blk_drew ?_ | refine blk_alloc ?_ _)); exact BK120.out))⟩; have n1_ : Aside0 (w76.heap[gb122]? = some (.cells #[.int .i64 x123000_1, .int .i64 x123001_1, .int .i64 x123002_1, .int .i64 x123003_1, .int .i64 x123004_1, .int .i64 x123005_1, .int .i64 x123006_1, .int .i64 x123007_1, .int .i64 x123008_1, .int .i64 x123009_1, .int .i64 x123010_1, .int .i64 x123011_1, .int .i64 x123012_1, .int .i64 x123013_1, .int .i64 x123014_1, .int .i64 x123015_1] 23 (0, 0))) := ⟨(by rw [hw]; exact (by (with_reducible repeat (first | refine blk_drewN ?_ _ | refine blk_drew ?_ | refine blk_alloc ?_ _)); refine blk_far ?_ NB122_120.out _; (with_reducible repeat (first | refine blk_drewN ?_ _ | refine blk_drew ?_ | refine blk_alloc ?_ _)); refine blk_far ?_ NB122_120.out _; (with_reducible repeat (first | refine blk_drewN ?_ _ | refine blk_drew ?_ | refine blk_alloc ?_ _)); refine blk_far ?_ NB122_120.out _; (with_reducible repeat (first | refine blk_drewN ?_ _ | refine blk_drew ?_ | refine blk_alloc ?_ _)); refine blk_far ?_ NB122_120.out _; (with_reducible repeat (first | refine blk_drewN ?_ _ | refine blk_drew ?_ | refine blk_alloc ?_ _)); refine blk_far ?_ NB122_120.out _; (with_reducible repeat (first | refine blk_drewN ?_ _ | refine blk_drew ?_ | refine blk_alloc ?_ _)); refine blk_far ?_ NB122_120.out _; (with_reducible repeat (first | refine blk_drewN ?_ _ | refine blk_drew ?_ | refine blk_alloc ?_ _)); refine blk_far ?_ NB122_120.out _; (with_reducible repeat (first | refine blk_drewN ?_ _ | refine blk_drew ?_ | refine blk_alloc ?_ _)); refine blk_far ?_ NB122_120.out _; (with_reducible repeat (first | refine blk_drewN ?_ _ | refine blk_drew ?_ | refine blk_alloc ?_ _)); refine blk_far ?_ NB122_120.out _; (with_reducible repeat (first | refine blk_drewN ?_ _ | refine blk_drew ?_ | refine blk_alloc ?_ _)); refine blk_far ?_ NB122_120.out _; (with_reducible repeat (first | refine blk_drewN ?_ _ | refine blk_drew ?_ | refine blk_alloc ?_ _)); refine blk_far ?_ NB122_120.out _; (with_reducible repeat (first | refine blk_drewN ?_ _ | refine blk_drew ?_ | refine blk_alloc ?_ _)); refine blk_far ?_ NB122_120.out _; (with_reducible repeat (first | refine blk_drewN ?_ _ | refine blk_drew ?_ | refine blk_alloc ?_ _)); refine blk_far ?_ NB122_120.out _; (with_reducible repeat (first | refine blk_drewN ?_ _ | refine blk_drew ?_ | refine blk_alloc ?_ _)); refine blk_far ?_ NB122_120.out _; (with_reducible repeat (first | refine blk_drewN ?_ _ | refine blk_drew ?_ | refine blk_alloc ?_ _)); refine blk_far ?_ NB122_120.out _; (with_reducible repeat (first | refine blk_drewN ?_ _ | refine blk_drew ?_ | refine blk_alloc ?_ _)); refine blk_far ?_ NB122_120.out _; (with_reducible repeat (first | refine blk_drewN ?_ _ | refine blk_drew ?_ | refine blk_alloc ?_ _)); exact BK122.out))⟩; have n2_ : Aside0 (w76.heap[gb123]? = some (.cells #[.int .i64 x124000_2, .int .i64 x124001_2, .int .i64 x124002_2, .int .i64 x124003_2, .int .i64 x124004_2, .int .i64 x124005_2, .int .i64 x124006_2, .int .i64 x124007_2, .int .i64 x124008_2, .int .i64 x124009_2, .int .i64 x124010_2, .int .i64 x124011_2, .int .i64 x124012_2, .int .i64 x124013_2, .int .i64 x124014_2, .int .i64 x124015_2] 23 (0, 0))) := ⟨(by rw [hw]; exact (by (with_reducible repeat (first | refine blk_drewN ?_ _ | refine blk_drew ?_ | refine blk_alloc ?_ _)); refine blk_far ?_ NB123_120.out _; (with_reducible repeat (first | refine blk_drewN ?_ _ | refine blk_drew ?_ | refine blk_alloc ?_ _)); refine blk_far ?_ NB123_120.out _; (with_reducible repeat (first | refine blk_drewN ?_ _ | refine blk_drew ?_ | refine blk_alloc ?_ _)); refine blk_far ?_ NB123_120.out _; (with_reducible repeat (first | refine blk_drewN ?_ _ | refine blk_drew ?_ | refine blk_alloc ?_ _)); refine blk_far ?_ NB123_120.out _; (with_reducible repeat (first | refine blk_drewN ?_ _ | refine blk_drew ?_ | refine blk_alloc ?_ _)); refine blk_far ?_ NB123_120.out _; (with_reducible repeat (first | refine blk_drewN ?_ _ | refine blk_drew ?_ | refine blk_alloc ?_ _)); refine blk_far ?_ NB123_120.out _; (with_reducible repeat (first | refine blk_drewN ?_ _ | refine blk_drew ?_ | refine blk_alloc ?_ _)); refine blk_far ?_ NB123_120.out _; (with_reducible repeat (first | refine blk_drewN ?_ _ | refine blk_drew ?_ | refine blk_alloc ?_ _)); refine blk_far ?_ NB123_120.out _; (with_reducible repeat (first | refine blk_drewN ?_ _ | refine blk_drew ?_ | refine blk_alloc ?_ _)); refine blk_far ?_ NB123_120.out _; (with_reducible repeat (first | refine blk_drewN ?_ _ | refine blk_drew ?_ | refine blk_alloc ?_ _)); refine blk_far ?_ NB123_120.out _; (with_reducible repeat (first | refine blk_drewN ?_ _ | refine blk_drew ?_ | refine blk_alloc ?_ _)); refine blk_far ?_ NB123_120.out _; (with_reducible repeat (first | refine blk_drewN ?_ _ | refine blk_drew ?_ | refine blk_alloc ?_ _)); refine blk_far ?_ NB123_120.out _; (with_reducible repeat (first | refine blk_drewN ?_ _ | refine blk_drew ?_ | refine blk_alloc ?_ _)); refine blk_far ?_ NB123_120.out _; (with_reducible repeat (first | refine blk_drewN ?_ _ | refine blk_drew ?_ | refine blk_alloc ?_ _)); refine blk_far ?_ NB123_120.out _; (with_reducible repeat (first | refine blk_drewN ?_ _ | refine blk_drew ?_ | refine blk_alloc ?_ _)); refine blk_far ?_ NB123_120.out _; (with_reducible repeat (first | refine blk_drewN ?_ _ | refine blk_drew ?_ | refine blk_alloc ?_ _)); refine blk_far ?_ NB123_120.out _; (with_reducible repeat (first | refine blk_drewN ?_ _ | refine blk_drew ?_ | refine blk_alloc ?_ _)); exact BK123.out))⟩; have n3_ : Aside0 (Below w.heap.size w w76) := ⟨(by rw [hw]; exact (by repeat (first | (with_reducible first | exact HB.out | apply below_alloc | apply pw_below_drewN | apply below_drew1 | refine below_set ?_ GE120.out | refine below_set ?_ GE122.out | refine below_set ?_ GE123.out) | exact HB.out)))⟩; clear hw; clear BK120; clear BK122; clear BK123; clear HB; have BK120 := n0_; have BK122 := n1_; have BK123 := n2_; have HB := n3_; clear n0_ n1_ n2_ n3_))
        refine bodyPost_ret (results_ct rfl _ _ gb120 23 #[.int .i64 x124000_2, .int .i64 x124001_2, .int .i64 x124002_2, .int .i64 x124003_2, .int .i64 x124004_2, .int .i64 x124005_2, .int .i64 x124006_2, .int .i64 x124007_2, .int .i64 x124008_2, .int .i64 x124009_2, .int .i64 x124010_2, .int .i64 x124011_2, .int .i64 x124012_2, .int .i64 x124013_2, .int .i64 x124014_2, .int .i64 x124015_2] (0, 0) _ rfl (by (with_reducible repeat (first | refine blk_drewN ?_ _ | refine blk_drew ?_ | refine blk_alloc ?_ _)); exact BK120.out) Try.underlying23 rfl (by kernel_rfl)) rfl ?_
        exact ⟨by first | rfl | (simp [errW_none, errW_some] <;> rfl) | (simp [*, errW_none, errW_some] <;> rfl), by repeat (first | (with_reducible first | exact HB.out | apply below_alloc | apply pw_below_drewN | apply below_drew1 | refine below_set ?_ GE120.out | refine below_set ?_ GE122.out | refine below_set ?_ GE123.out) | exact HB.out)⟩
 ·replace c3 := Bool.eq_false_iff.mpr c3
  subst c3
  have H1 : (some (0, 0, 0, 0, 0, 0, 0, 0, 0, 0, 0, 0, 0, 0, 0, 0, 2000)) = some (r1, r2, r3, r4, r5, r6, r7, r8, r9, r10, r11, r12, r13, r14, r15, r16, r17) := by rw [if_neg (show ¬ (false = true) by decide)] at H; exact H
  clear H
  have H := H1
  clear H1
  simp only [Option.some.injEq, Prod.mk.injEq] at H
  obtain ⟨rfl, rfl, rfl, rfl, rfl, rfl, rfl, rfl, rfl, rfl, rfl, rfl, rfl, rfl, rfl, rfl, rfl⟩ := H
  go_enter Try.func21, Try.ntmps21
  go_wp2_with (first | ((with_reducible refine gate_dst (N := 2) rfl ?_); refine box_event ?hg (N := 2) ?hd (cs := #[.int .i64 0, .int .i64 0, .int .i64 0, .int .i64 0, .int .i64 0, .int .i64 0, .int .i64 0, .int .i64 0, .int .i64 0, .int .i64 0, .int .i64 0, .int .i64 0, .int .i64 0, .int .i64 0, .int .i64 0, .int .i64 0]) (t := 23) ?hr ?_; (case hd => rfl); (case hg => rfl); (case hr => first | (go_simp; done) | (go_simp; rfl)); intro gb120 hg w77 hbox hb; have n0_ := Aside0.mk (below_step (by repeat (first | (with_reducible first | exact HB.out | apply below_alloc | apply pw_below_drewN | apply below_drew1) | exact HB.out)) hb); have n1_ := Aside0.mk (hbox); have n2_ := Aside0.mk ((by rw [hg]; exact (below_size (by repeat (first | (with_reducible first | exact HB.out | apply below_alloc | apply pw_below_drewN | apply below_drew1) | exact HB.out))) : w.heap.size ≤ gb120)); have n3_ := Aside0.mk ((by rw [hg]; exact (below_size (by repeat (first | (with_reducible first | exact HB.out | apply below_alloc | apply pw_below_drewN | apply below_drew1) | exact HB.out))) : w.heap.size ≤ gb120)); clear HB; have HB := n0_; have BK120 := n1_; have GW120 := n2_; have GE120 := n3_; clear n0_ n1_ n2_ n3_; clear hb hbox hg) | ((with_reducible refine gate_callee (f := 32) rfl ?_); refine goesL_ (some 15) rfl rfl Try.func32 (by kernel_rfl) rfl #[.slice A0 l0.length c0] rfl (by (try simp only [List.map_toArray, List.map_cons, List.map_nil]); first | done | rfl | (simp only [List.length_drop, List.length_take]; rfl)) ?_; (with_reducible refine (store_May.calls k _ _ l0 false _ ?side1 ?side2 A2.out).mono ?_); (case side1 => repeat (first | exact (Kd.C_below HR0.out HB.out) | (with_reducible refine Kd.C_alloc ?_ _) | (with_reducible refine Kd.C_drewN ?_ _) | (with_reducible refine Kd.C_drew ?_))); (case side2 => exact HC0.out); rintro e w78 ⟨rfl, hb⟩; refine ⟨_, rfl, ?_⟩; have n0_ := Aside0.mk (blk_below (g := gb120) (o := .cells #[.int .i64 0, .int .i64 0, .int .i64 0, .int .i64 0, .int .i64 0, .int .i64 0, .int .i64 0, .int .i64 0, .int .i64 0, .int .i64 0, .int .i64 0, .int .i64 0, .int .i64 0, .int .i64 0, .int .i64 0, .int .i64 0] 23 (0, 0)) (by (with_reducible repeat (first | refine blk_drewN ?_ _ | refine blk_drew ?_ | refine blk_alloc ?_ _)); exact BK120.out) hb); have n1_ := Aside0.mk (below_step (by repeat (first | (with_reducible first | exact HB.out | apply below_alloc | apply pw_below_drewN | apply below_drew1 | refine below_set ?_ GE120.out) | exact HB.out)) hb); clear BK120; clear HB; have BK120 := n0_; have HB := n1_; clear n0_ n1_; (try clear hb); (try clear hb2); (try clear hk); (try clear hi); obtain ⟨hcz79_0, hcz79_1, hcz79_2, hcz79_3, hcz79_4, hcz79_5, hcz79_6, hcz79_7, hcz79_8, hcz79_9, hcz79_10, hcz79_11, hcz79_12, hcz79_13, hcz79_14, hcz79_15⟩ := cells16 BK120.out; have hfz79_0 := fun (j_ : Nat) => blk_frozen BK120.out j_) | ((with_reducible refine gate_store (t := 23) (p := 2) rfl ?_); refine store_event (t := 23) (p := 2) (v := ?vo_w80) (w1 := ((((((((((((((((w78.setCell ⟨gb120, 0, none⟩ (.int .i64 0)).setCell ⟨gb120, 1, none⟩ (.int .i64 0)).setCell ⟨gb120, 2, none⟩ (.int .i64 0)).setCell ⟨gb120, 3, none⟩ (.int .i64 0)).setCell ⟨gb120, 4, none⟩ (.int .i64 0)).setCell ⟨gb120, 5, none⟩ (.int .i64 0)).setCell ⟨gb120, 6, none⟩ (.int .i64 0)).setCell ⟨gb120, 7, none⟩ (.int .i64 0)).setCell ⟨gb120, 8, none⟩ (.int .i64 0)).setCell ⟨gb120, 9, none⟩ (.int .i64 0)).setCell ⟨gb120, 10, none⟩ (.int .i64 0)).setCell ⟨gb120, 11, none⟩ (.int .i64 0)).setCell ⟨gb120, 12, none⟩ (.int .i64 0)).setCell ⟨gb120, 13, none⟩ (.int .i64 0)).setCell ⟨gb120, 14, none⟩ (.int .i64 0)).setCell ⟨gb120, 15, none⟩ (.int .i64 0))) ?hg ?ho ?hn ?hr ?_; (case ho => rfl); (case hg => rfl); (case hn => rfl); (case hr => first | (go_simp; done) | (go_simp; rfl)); intro w80 hw; have n0_ : Aside0 (w80.heap[gb120]? = some (.cells #[.int .i64 0, .int .i64 0, .int .i64 0, .int .i64 0, .int .i64 0, .int .i64 0, .int .i64 0, .int .i64 0, .int .i64 0, .int .i64 0, .int .i64 0, .int .i64 0, .int .i64 0, .int .i64 0, .int .i64 0, .int .i64 0] 23 (0, 0))) := ⟨(by rw [hw]; exact (by (with_reducible repeat (first | refine blk_drewN ?_ _ | refine blk_drew ?_ | refine blk_alloc ?_ _)); refine blk_put (cs := #[.int .i64 0, .int .i64 0, .int .i64 0, .int .i64 0, .int .i64 0, .int .i64 0, .int .i64 0, .int .i64 0, .int .i64 0, .int .i64 0, .int .i64 0, .int .i64 0, .int .i64 0, .int .i64 0, .int .i64 0, .int .i64 0]) ?_ 15 _ rfl; (with_reducible repeat (first | refine blk_drewN ?_ _ | refine blk_drew ?_ | refine blk_alloc ?_ _)); refine blk_put (cs := #[.int .i64 0, .int .i64 0, .int .i64 0, .int .i64 0, .int .i64 0, .int .i64 0, .int .i64 0, .int .i64 0, .int .i64 0, .int .i64 0, .int .i64 0, .int .i64 0, .int .i64 0, .int .i64 0, .int .i64 0, .int .i64 0]) ?_ 14 _ rfl; (with_reducible repeat (first | refine blk_drewN ?_ _ | refine blk_drew ?_ | refine blk_alloc ?_ _)); refine blk_put (cs := #[.int .i64 0, .int .i64 0, .int .i64 0, .int .i64 0, .int .i64 0, .int .i64 0, .int .i64 0, .int .i64 0, .int .i64 0, .int .i64 0, .int .i64 0, .int .i64 0, .int .i64 0, .int .i64 0, .int .i64 0, .int .i64 0]) ?_ 13 _ rfl; (with_reducible repeat (first | refine blk_drewN ?_ _ | refine blk_drew ?_ | refine blk_alloc ?_ _)); refine blk_put (cs := #[.int .i64 0, .int .i64 0, .int .i64 0, .int .i64 0, .int .i64 0, .int .i64 0, .int .i64 0, .int .i64 0, .int .i64 0, .int .i64 0, .int .i64 0, .int .i64 0, .int .i64 0, .int .i64 0, .int .i64 0, .int .i64 0]) ?_ 12 _ rfl; (with_reducible repeat (first | refine blk_drewN ?_ _ | refine blk_drew ?_ | refine blk_alloc ?_ _)); refine blk_put (cs := #[.int .i64 0, .int .i64 0, .int .i64 0, .int .i64 0, .int .i64 0, .int .i64 0, .int .i64 0, .int .i64 0, .int .i64 0, .int .i64 0, .int .i64 0, .int .i64 0, .int .i64 0, .int .i64 0, .int .i64 0, .int .i64 0]) ?_ 11 _ rfl; (with_reducible repeat (first | refine blk_drewN ?_ _ | refine blk_drew ?_ | refine blk_alloc ?_ _)); refine blk_put (cs := #[.int .i64 0, .int .i64 0, .int .i64 0, .int .i64 0, .int .i64 0, .int .i64 0, .int .i64 0, .int .i64 0, .int .i64 0, .int .i64 0, .int .i64 0, .int .i64 0, .int .i64 0, .int .i64 0, .int .i64 0, .int .i64 0]) ?_ 10 _ rfl; (with_reducible repeat (first | refine blk_drewN ?_ _ | refine blk_drew ?_ | refine blk_alloc ?_ _)); refine blk_put (cs := #[.int .i64 0, .int .i64 0, .int .i64 0, .int .i64 0, .int .i64 0, .int .i64 0, .int .i64 0, .int .i64 0, .int .i64 0, .int .i64 0, .int .i64 0, .int .i64 0, .int .i64 0, .int .i64 0, .int .i64 0, .int .i64 0]) ?_ 9 _ rfl; (with_reducible repeat (first | refine blk_drewN ?_ _ | refine blk_drew ?_ | refine blk_alloc ?_ _)); refine blk_put (cs := #[.int .i64 0, .int .i64 0, .int .i64 0, .int .i64 0, .int .i64 0, .int .i64 0, .int .i64 0, .int .i64 0, .int .i64 0, .int .i64 0, .int .i64 0, .int .i64 0, .int .i64 0, .int .i64 0, .int .i64 0, .int .i64 0]) ?_ 8 _ rfl; (with_reducible repeat (first | refine blk_drewN ?_ _ | refine blk_drew ?_ | refine blk_alloc ?_ _)); refine blk_put (cs := #[.int .i64 0, .int .i64 0, .int .i64 0, .int .i64 0, .int .i64 0, .int .i64 0, .int .i64 0, .int .i64 0, .int .i64 0, .int .i64 0, .int .i64 0, .int .i64 0, .int .i64 0, .int .i64 0, .int .i64 0, .int .i64 0]) ?_ 7 _ rfl; (with_reducible repeat (first | refine blk_drewN ?_ _ | refine blk_drew ?_ | refine blk_alloc ?_ _)); refine blk_put (cs := #[.int .i64 0, .int .i64 0, .int .i64 0, .int .i64 0, .int .i64 0, .int .i64 0, .int .i64 0, .int .i64 0, .int .i64 0, .int .i64 0, .int .i64 0, .int .i64 0, .int .i64 0, .int .i64 0, .int .i64 0, .int .i64 0]) ?_ 6 _ rfl; (with_reducible repeat (first | refine blk_drewN ?_ _ | refine blk_drew ?_ | refine blk_alloc ?_ _)); refine blk_put (cs := #[.int .i64 0, .int .i64 0, .int .i64 0, .int .i64 0, .int .i64 0, .int .i64 0, .int .i64 0, .int .i64 0, .int .i64 0, .int .i64 0, .int .i64 0, .int .i64 0, .int .i64 0, .int .i64 0, .int .i64 0, .int .i64 0]) ?_ 5 _ rfl; (with_reducible repeat (first | refine blk_drewN ?_ _ | refine blk_drew ?_ | refine blk_alloc ?_ _)); refine blk_put (cs := #[.int .i64 0, .int .i64 0, .int .i64 0, .int .i64 0, .int .i64 0, .int .i64 0, .int .i64 0, .int .i64 0, .int .i64 0, .int .i64 0, .int .i64 0, .int .i64 0, .int .i64 0, .int .i64 0, .int .i64 0, .int .i64 0]) ?_ 4 _ rfl; (with_reducible repeat (first | refine blk_drewN ?_ _ | refine blk_drew ?_ | refine blk_alloc ?_ _)); refine blk_put (cs := #[.int .i64 0, .int .i64 0, .int .i64 0, .int .i64 0, .int .i64 0, .int .i64 0, .int .i64 0, .int .i64 0, .int .i64 0, .int .i64 0, .int .i64 0, .int .i64 0, .int .i64 0, .int .i64 0, .int .i64 0, .int .i64 0]) ?_ 3 _ rfl; (with_reducible repeat (first | refine blk_drewN ?_ _ | refine blk_drew ?_ | refine blk_alloc ?_ _)); refine blk_put (cs := #[.int .i64 0, .int .i64 0, .int .i64 0, .int .i64 0, .int .i64 0, .int .i64 0, .int .i64 0, .int .i64 0, .int .i64 0, .int .i64 0, .int .i64 0, .int .i64 0, .int .i64 0, .int .i64 0, .int .i64 0, .int .i64 0]) ?_ 2 _ rfl; (with_reducible repeat (first | refine blk_drewN ?_ _ | refine blk_drew ?_ | refine blk_alloc ?_ _)); refine blk_put (cs := #[.int .i64 0, .int .i64 0, .int .i64 0, .int .i64 0, .int .i64 0, .int .i64 0, .int .i64 0, .int .i64 0, .int .i64 0, .int .i64 0, .int .i64 0, .int .i64 0, .int .i64 0, .int .i64 0, .int .i64 0, .int .i64 0]) ?_ 1 _ rfl; (with_reducible repeat (first | refine blk_drewN ?_ _ | refine blk_drew ?_ | refine blk_alloc ?_ _)); refine blk_put (cs := #[.int .i64 0, .int .i64 0, .int .i64 0, .int .i64 0, .int .i64 0, .int .i64 0, .int .i64 0, .int .i64 0, .int .i64 0, .int .i64 0, .int .i64 0, .int .i64 0, .int .i64 0, .int .i64 0, .int .i64 0, .int .i64 0]) ?_ 0 _ rfl; (with_reducible repeat (first | refine blk_drewN ?_ _ | refine blk_drew ?_ | refine blk_alloc ?_ _)); exact BK120.out))⟩; have n1_ : Aside0 (Below w.heap.size w w80) := ⟨(by rw [hw]; exact (by repeat (first | (with_reducible first | exact HB.out | apply below_alloc | apply pw_below_drewN | apply below_drew1 | refine below_set ?_ GE120.out) | exact HB.out)))⟩; clear hw; clear BK120; clear HB; have BK120 := n0_; have HB := n1_; clear n0_ n1_))
  refine bodyPost_ret (results_ct rfl _ _ gb120 23 #[.int .i64 0, .int .i64 0, .int .i64 0, .int .i64 0, .int .i64 0, .int .i64 0, .int .i64 0, .int .i64 0, .int .i64 0, .int .i64 0, .int .i64 0, .int .i64 0, .int .i64 0, .int .i64 0, .int .i64 0, .int .i64 0] (0, 0) _ rfl (by (with_reducible repeat (first | refine blk_drewN ?_ _ | refine blk_drew ?_ | refine blk_alloc ?_ _)); exact BK120.out) Try.underlying23 rfl (by kernel_rfl)) rfl ?_
  exact ⟨by first | rfl | (simp [errW_none, errW_some] <;> rfl) | (simp [*, errW_none, errW_some] <;> rfl), by repeat (first | (with_reducible first | exact HB.out | apply below_alloc | apply pw_below_drewN | apply below_drew1 | refine below_set ?_ GE120.out) | exact HB.out)⟩

end Go.Proofs.Ytjbejbehbjhecaa.Q20
namespace Go.Proofs.Ytjbejbehbjhecaa.Q20
open Go.RowKit Go.Proofs.YtjbejbehbjhecaaW.PrintWords Go.Proofs.YtjbejbehbjhecaaW.PrintLast Go.Proofs.YtjbejbehbjhecaaW.PrintMore
attribute [local go_sem] max2_int min2_int max_two min_two max_three min_three max_four min_four   -- for this text's walks alone
set_option linter.unusedVariables false
set_option linter.unusedSimpArgs false

/-! ### graph_May: function 23 -/
mutual
def graph_May.l0 : Nat → Int → Int → Int → Int → Int → Int → Int → Int → Int → Int → Int → Int → Int → Int → Int → Int → Int → Option (Bool)
 | 0, _, _, _, _, _, _, _, _, _, _, _, _, _, _, _, _, _ => none
 | k + 1, x8, x500008000, x500008001, x500008002, x500008003, x500008004, x500008005, x500008006, x500008007, x500008008, x500008009, x500008010, x500008011, x500008012, x500008013, x500008014, x500008015 => if x8 < 4 then (if 0 ≤ x8 then (graph_May.l1 k x8 x8 0 x500008000 x500008001 x500008002 x500008003 x500008004 x500008005 x500008006 x500008007 x500008008 x500008009 x500008010 x500008011 x500008012 x500008013 x500008014 x500008015 (ix4 x500008000 x500008004 x500008008 x500008012 x8) (ix4 x500008001 x500008005 x500008009 x500008013 x8) (ix4 x500008002 x500008006 x500008010 x500008014 x8) (ix4 x500008003 x500008007 x500008011 x500008015 x8)) else (none)) else (some true)
def graph_May.l1 : Nat → Int → Int → Int → Int → Int → Int → Int → Int → Int → Int → Int → Int → Int → Int → Int → Int → Int → Int → Int → Int → Int → Int → Int → Option (Bool)
 | 0, _, _, _, _, _, _, _, _, _, _, _, _, _, _, _, _, _, _, _, _, _, _, _ => none
 | k + 1, x3, x8, x13, x500008000, x500008001, x500008002, x500008003, x500008004, x500008005, x500008006, x500008007, x500008008, x500008009, x500008010, x500008011, x500008012, x500008013, x500008014, x500008015, x500013000, x500013001, x500013002, x500013003 => if x13 < 4 then (if 0 ≤ x13 then (if (ix4 x500013000 x500013001 x500013002 x500013003 x13) < 0 then (some false) else (if (ix4 x500013000 x500013001 x500013002 x500013003 x13) > 65535 then (some false) else (if x3 = x13 then (if (ix4 x500013000 x500013001 x500013002 x500013003 x13) = 0 then (graph_May.l1 k x3 x8 (wrap64 (x13 + 1)) x500008000 x500008001 x500008002 x500008003 x500008004 x500008005 x500008006 x500008007 x500008008 x500008009 x500008010 x500008011 x500008012 x500008013 x500008014 x500008015 x500013000 x500013001 x500013002 x500013003) else (some false)) else (graph_May.l1 k x3 x8 (wrap64 (x13 + 1)) x500008000 x500008001 x500008002 x500008003 x500008004 x500008005 x500008006 x500008007 x500008008 x500008009 x500008010 x500008011 x500008012 x500008013 x500008014 x500008015 x500013000 x500013001 x500013002 x500013003)))) else (none)) else (graph_May.l0 k (wrap64 (x8 + 1)) x500008000 x500008001 x500008002 x500008003 x500008004 x500008005 x500008006 x500008007 x500008008 x500008009 x500008010 x500008011 x500008012 x500008013 x500008014 x500008015)
end
def graph_May.f (k : Nat) (a0_0 : Int) (a0_1 : Int) (a0_2 : Int) (a0_3 : Int) (a0_4 : Int) (a0_5 : Int) (a0_6 : Int) (a0_7 : Int) (a0_8 : Int) (a0_9 : Int) (a0_10 : Int) (a0_11 : Int) (a0_12 : Int) (a0_13 : Int) (a0_14 : Int) (a0_15 : Int) : Option (Bool) := graph_May.l0 k 0 a0_0 a0_1 a0_2 a0_3 a0_4 a0_5 a0_6 a0_7 a0_8 a0_9 a0_10 a0_11 a0_12 a0_13 a0_14 a0_15
theorem graph_May.mono_l : ∀ k, (∀ y0 y1 y2 y3 y4 y5 y6 y7 y8 y9 y10 y11 y12 y13 y14 y15 y16, LeO (graph_May.l0 k y0 y1 y2 y3 y4 y5 y6 y7 y8 y9 y10 y11 y12 y13 y14 y15 y16) (graph_May.l0 (k + 1) y0 y1 y2 y3 y4 y5 y6 y7 y8 y9 y10 y11 y12 y13 y14 y15 y16)) ∧ (∀ y0 y1 y2 y3 y4 y5 y6 y7 y8 y9 y10 y11 y12 y13 y14 y15 y16 y17 y18 y19 y20 y21 y22, LeO (graph_May.l1 k y0 y1 y2 y3 y4 y5 y6 y7 y8 y9 y10 y11 y12 y13 y14 y15 y16 y17 y18 y19 y20 y21 y22) (graph_May.l1 (k + 1) y0 y1 y2 y3 y4 y5 y6 y7 y8 y9 y10 y11 y12 y13 y14 y15 y16 y17 y18 y19 y20 y21 y22))
 | 0 => ⟨fun _ _ _ _ _ _ _ _ _ _ _ _ _ _ _ _ _ r h => by simp [graph_May.l0] at h, fun _ _ _ _ _ _ _ _ _ _ _ _ _ _ _ _ _ _ _ _ _ _ _ r h => by simp [graph_May.l1] at h⟩
 | k + 1 => by
  obtain ⟨ih0, ih1⟩ := graph_May.mono_l k
  refine ⟨?_, ?_⟩
  ·intro y0 y1 y2 y3 y4 y5 y6 y7 y8 y9 y10 y11 y12 y13 y14 y15 y16
   unfold graph_May.l0
   repeat' first
   | (with_reducible exact ih0 _ _ _ _ _ _ _ _ _ _ _ _ _ _ _ _ _)
   | (with_reducible exact ih1 _ _ _ _ _ _ _ _ _ _ _ _ _ _ _ _ _ _ _ _ _ _ _)
   | (with_reducible exact LeO.refl _)
   | (with_reducible exact LeO.none _)
   | (with_reducible refine LeO.ite ?_ ?_)
   | (with_reducible refine LeO.bind ?_ (fun _ => ?_))
   | exact ih0 _ _ _ _ _ _ _ _ _ _ _ _ _ _ _ _ _
   | exact ih1 _ _ _ _ _ _ _ _ _ _ _ _ _ _ _ _ _ _ _ _ _ _ _
   | exact LeO.none _
   | refine LeO.ite ?_ ?_
   | refine LeO.bind ?_ (fun _ => ?_)
  ·intro y0 y1 y2 y3 y4 y5 y6 y7 y8 y9 y10 y11 y12 y13 y14 y15 y16 y17 y18 y19 y20 y21 y22
   unfold graph_May.l1
   repeat' first
   | (with_reducible exact ih0 _ _ _ _ _ _ _ _ _ _ _ _ _ _ _ _ _)
   | (with_reducible exact ih1 _ _ _ _ _ _ _ _ _ _ _ _ _ _ _ _ _ _ _ _ _ _ _)
   | (with_reducible exact LeO.refl _)
   | (with_reducible exact LeO.none _)
   | (with_reducible refine LeO.ite ?_ ?_)
   | (with_reducible refine LeO.bind ?_ (fun _ => ?_))
   | exact ih0 _ _ _ _ _ _ _ _ _ _ _ _ _ _ _ _ _
   | exact ih1 _ _ _ _ _ _ _ _ _ _ _ _ _ _ _ _ _ _ _ _ _ _ _
   | exact LeO.none _
   | refine LeO.ite ?_ ?_
   | refine LeO.bind ?_ (fun _ => ?_)
theorem graph_May.mono : ∀ a0 a1 a2 a3 a4 a5 a6 a7 a8 a9 a10 a11 a12 a13 a14 a15 k, LeO (graph_May.f k a0 a1 a2 a3 a4 a5 a6 a7 a8 a9 a10 a11 a12 a13 a14 a15) (graph_May.f (k + 1) a0 a1 a2 a3 a4 a5 a6 a7 a8 a9 a10 a11 a12 a13 a14 a15) := by
 intro a0 a1 a2 a3 a4 a5 a6 a7 a8 a9 a10 a11 a12 a13 a14 a15 k
 obtain ⟨ih0, ih1⟩ := graph_May.mono_l k
 unfold graph_May.f
 repeat' first
   | (with_reducible exact ih0 _ _ _ _ _ _ _ _ _ _ _ _ _ _ _ _ _)
   | (with_reducible exact ih1 _ _ _ _ _ _ _ _ _ _ _ _ _ _ _ _ _ _ _ _ _ _ _)
   | (with_reducible exact LeO.refl _)
   | (with_reducible exact LeO.none _)
   | (with_reducible refine LeO.ite ?_ ?_)
   | (with_reducible refine LeO.bind ?_ (fun _ => ?_))
   | exact ih0 _ _ _ _ _ _ _ _ _ _ _ _ _ _ _ _ _
   | exact ih1 _ _ _ _ _ _ _ _ _ _ _ _ _ _ _ _ _ _ _ _ _ _ _
   | exact LeO.none _
   | refine LeO.ite ?_ ?_
   | refine LeO.bind ?_ (fun _ => ?_)
set_option maxHeartbeats 8000000 in
set_option maxRecDepth 100000 in
theorem graph_May.calls (k : Nat) (a0_0 : Int) (a0_1 : Int) (a0_2 : Int) (a0_3 : Int) (a0_4 : Int) (a0_5 : Int) (a0_6 : Int) (a0_7 : Int) (a0_8 : Int) (a0_9 : Int) (a0_10 : Int) (a0_11 : Int) (a0_12 : Int) (a0_13 : Int) (a0_14 : Int) (a0_15 : Int) (r : Bool) (w : World) (h : graph_May.f k a0_0 a0_1 a0_2 a0_3 a0_4 a0_5 a0_6 a0_7 a0_8 a0_9 a0_10 a0_11 a0_12 a0_13 a0_14 a0_15 = some r) :
  Calls Try.prog 23 #[.agg #[.int .i64 a0_0, .int .i64 a0_1, .int .i64 a0_2, .int .i64 a0_3, .int .i64 a0_4, .int .i64 a0_5, .int .i64 a0_6, .int .i64 a0_7, .int .i64 a0_8, .int .i64 a0_9, .int .i64 a0_10, .int .i64 a0_11, .int .i64 a0_12, .int .i64 a0_13, .int .i64 a0_14, .int .i64 a0_15]] w fun e w' => e = .returned (.bool r) ∧ Below w.heap.size w w' := by
 have hu23 := Try.underlying23
 have hu22 := Try.underlying22
 have HB := Aside0.mk (Below.refl w.heap.size w)
 have H : (graph_May.l0 k 0 a0_0 a0_1 a0_2 a0_3 a0_4 a0_5 a0_6 a0_7 a0_8 a0_9 a0_10 a0_11 a0_12 a0_13 a0_14 a0_15) = some r := h
 clear h
 have H' := Aside0.mk H
 clear H
 go_enter Try.func23, Try.ntmps23
 go_wp2_with (first | ((with_reducible refine gate_dst (N := 1) rfl ?_); refine box_event ?hg (N := 1) ?hd (cs := #[.int .i64 a0_0, .int .i64 a0_1, .int .i64 a0_2, .int .i64 a0_3, .int .i64 a0_4, .int .i64 a0_5, .int .i64 a0_6, .int .i64 a0_7, .int .i64 a0_8, .int .i64 a0_9, .int .i64 a0_10, .int .i64 a0_11, .int .i64 a0_12, .int .i64 a0_13, .int .i64 a0_14, .int .i64 a0_15]) (t := 23) ?hr ?_; (case hd => rfl); (case hg => rfl); (case hr => first | (go_simp; done) | (go_simp; rfl)); intro gb160 hg w2 hbox hb; have n0_ := Aside0.mk (below_step (by repeat (first | (with_reducible first | exact HB.out | apply below_alloc | apply pw_below_drewN | apply below_drew1) | exact HB.out)) hb); have n1_ := Aside0.mk (hbox); have n2_ := Aside0.mk ((by rw [hg]; exact (below_size (by repeat (first | (with_reducible first | exact HB.out | apply below_alloc | apply pw_below_drewN | apply below_drew1) | exact HB.out))) : w.heap.size ≤ gb160)); have n3_ := Aside0.mk ((by rw [hg]; exact (below_size (by repeat (first | (with_reducible first | exact HB.out | apply below_alloc | apply pw_below_drewN | apply below_drew1) | exact HB.out))) : w.heap.size ≤ gb160)); clear HB; have HB := n0_; have BK160 := n1_; have GW160 := n2_; have GE160 := n3_; clear n0_ n1_ n2_ n3_; clear hb hbox hg; obtain ⟨hcz3_0, hcz3_1, hcz3_2, hcz3_3, hcz3_4, hcz3_5, hcz3_6, hcz3_7, hcz3_8, hcz3_9, hcz3_10, hcz3_11, hcz3_12, hcz3_13, hcz3_14, hcz3_15⟩ := cells16 BK160.out; have hfz3_0 := fun (j_ : Nat) => blk_frozen BK160.out j_))
 go_loopg [8] k (fun kq v8 w' => ∃ (x8_1 : Int), v8 = .int .i64 x8_1 ∧ Aside0 (graph_May.l0 kq x8_1 a0_0 a0_1 a0_2 a0_3 a0_4 a0_5 a0_6 a0_7 a0_8 a0_9 a0_10 a0_11 a0_12 a0_13 a0_14 a0_15 = some r) ∧ Aside0 (kq ≤ k) ∧ Aside0 (w'.heap[gb160]? = some (.cells #[.int .i64 a0_0, .int .i64 a0_1, .int .i64 a0_2, .int .i64 a0_3, .int .i64 a0_4, .int .i64 a0_5, .int .i64 a0_6, .int .i64 a0_7, .int .i64 a0_8, .int .i64 a0_9, .int .i64 a0_10, .int .i64 a0_11, .int .i64 a0_12, .int .i64 a0_13, .int .i64 a0_14, .int .i64 a0_15] 23 (0, 0))) ∧ Aside0 (Below w.heap.size w w'))
 case atStart => exact ⟨(0), (by first | rfl | (simp; done) | (simp [*]; done)), H', ⟨Nat.le_refl _⟩, ⟨by (with_reducible repeat (first | refine blk_drewN ?_ _ | refine blk_drew ?_ | refine blk_alloc ?_ _)); exact BK160.out⟩, ⟨by repeat (first | (with_reducible first | exact HB.out | apply below_alloc | apply pw_below_drewN | apply below_drew1 | refine below_set ?_ GE160.out) | exact HB.out)⟩⟩
 case round =>
  clear H'
  try clear c2
  try clear p2
  try clear hcz3_0
  try clear hcz3_1
  try clear hcz3_10
  try clear hcz3_11
  try clear hcz3_12
  try clear hcz3_13
  try clear hcz3_14
  try clear hcz3_15
  try clear hcz3_2
  try clear hcz3_3
  try clear hcz3_4
  try clear hcz3_5
  try clear hcz3_6
  try clear hcz3_7
  try clear hcz3_8
  try clear hcz3_9
  try clear hfz3_0
  obtain ⟨x8_1, rfl, HA, HK1, BK160, HB⟩ := hrel
  cases gk with
  | zero => exact absurd HA.out (by simp [graph_May.l0])
  | succ k1 =>
   have H := HA.out
   clear HA
   simp only [graph_May.l0] at H
   by_cases c4 : x8_1 < 4
   ·rw [if_pos c4] at H
    have c4b0 : decide (x8_1 < 4) = true := decide_eq_true c4
    clear c4
    by_cases c5 : 0 ≤ x8_1
    ·rw [if_pos c5] at H
     have c5b0 : decide (0 ≤ x8_1) = true := decide_eq_true c5
     clear c5
     have H' := Aside0.mk H
     clear H
     have p6 : (0 ≤ (x8_1 : Int)) = True := eq_true (of_decide_eq_true (by first | (with_reducible assumption) | assumption))
     have q6 : ((x8_1 : Int) < 4) = True := eq_true (of_decide_eq_true (by first | (with_reducible assumption) | assumption))
     have hv7 : ∀ w_ : World, (Instr.index 23 (.agg (#[.int .i64 a0_0, .int .i64 a0_1, .int .i64 a0_2, .int .i64 a0_3, .int .i64 a0_4, .int .i64 a0_5, .int .i64 a0_6, .int .i64 a0_7, .int .i64 a0_8, .int .i64 a0_9, .int .i64 a0_10, .int .i64 a0_11, .int .i64 a0_12, .int .i64 a0_13, .int .i64 a0_14, .int .i64 a0_15] : Array Value)) (.int .i64 x8_1)).run Try.prog w_ = .ok (.agg #[.int .i64 (ix4 a0_0 a0_4 a0_8 a0_12 x8_1), .int .i64 (ix4 a0_1 a0_5 a0_9 a0_13 x8_1), .int .i64 (ix4 a0_2 a0_6 a0_10 a0_14 x8_1), .int .i64 (ix4 a0_3 a0_7 a0_11 a0_15 x8_1)]) w_ := fun w_ => index_row Try.underlying23 (by kernel_rfl) Try.underlying22 (by kernel_rfl) (of_decide_eq_true (by first | (with_reducible assumption) | assumption)) (of_decide_eq_true (by first | (with_reducible assumption) | assumption)) (row_44 (Value.int .i64) _ _ _ _ _ _ _ _ _ _ _ _ _ _ _ _ x8_1 (of_decide_eq_true (by first | (with_reducible assumption) | assumption)) (of_decide_eq_true (by first | (with_reducible assumption) | assumption))) w_
     go_wp2_with (first | ((with_reducible refine gate_dst (N := 4) rfl ?_); refine box_event ?hg (N := 4) ?hd (cs := #[.int .i64 0, .int .i64 0, .int .i64 0, .int .i64 0]) (t := 22) ?hr ?_; (case hd => rfl); (case hg => rfl); (case hr => first | (go_simp; done) | (go_simp; rfl)); intro gb161 hg w8 hbox hb; have n0_ := Aside0.mk (blk_below (g := gb160) (o := .cells #[.int .i64 a0_0, .int .i64 a0_1, .int .i64 a0_2, .int .i64 a0_3, .int .i64 a0_4, .int .i64 a0_5, .int .i64 a0_6, .int .i64 a0_7, .int .i64 a0_8, .int .i64 a0_9, .int .i64 a0_10, .int .i64 a0_11, .int .i64 a0_12, .int .i64 a0_13, .int .i64 a0_14, .int .i64 a0_15] 23 (0, 0)) (by (with_reducible repeat (first | refine blk_drewN ?_ _ | refine blk_drew ?_ | refine blk_alloc ?_ _)); exact BK160.out) hb); have n1_ := Aside0.mk (below_step (by repeat (first | (with_reducible first | exact HB.out | apply below_alloc | apply pw_below_drewN | apply below_drew1 | refine below_set ?_ GE160.out) | exact HB.out)) hb); have n2_ := Aside0.mk (hbox); have n3_ := Aside0.mk ((by rw [hg]; exact (below_size (by repeat (first | (with_reducible first | exact HB.out | apply below_alloc | apply pw_below_drewN | apply below_drew1 | refine below_set ?_ GE160.out) | exact HB.out))) : w.heap.size ≤ gb161)); have n4_ := Aside0.mk ((by rw [hg]; exact (below_size (by repeat (first | (with_reducible first | exact HB.out | apply below_alloc | apply pw_below_drewN | apply below_drew1 | refine below_set ?_ GE160.out) | exact HB.out))) : w.heap.size ≤ gb161)); have n5_ := Aside0.mk ((by rw [hg]; exact Nat.ne_of_lt (blk_lt (g := gb160) (o := .cells #[.int .i64 a0_0, .int .i64 a0_1, .int .i64 a0_2, .int .i64 a0_3, .int .i64 a0_4, .int .i64 a0_5, .int .i64 a0_6, .int .i64 a0_7, .int .i64 a0_8, .int .i64 a0_9, .int .i64 a0_10, .int .i64 a0_11, .int .i64 a0_12, .int .i64 a0_13, .int .i64 a0_14, .int .i64 a0_15] 23 (0, 0)) (by (with_reducible repeat (first | refine blk_drewN ?_ _ | refine blk_drew ?_ | refine blk_alloc ?_ _)); exact BK160.out)) : gb160 ≠ gb161)); have n6_ := Aside0.mk ((by rw [hg]; exact Nat.ne_of_gt (blk_lt (g := gb160) (o := .cells #[.int .i64 a0_0, .int .i64 a0_1, .int .i64 a0_2, .int .i64 a0_3, .int .i64 a0_4, .int .i64 a0_5, .int .i64 a0_6, .int .i64 a0_7, .int .i64 a0_8, .int .i64 a0_9, .int .i64 a0_10, .int .i64 a0_11, .int .i64 a0_12, .int .i64 a0_13, .int .i64 a0_14, .int .i64 a0_15] 23 (0, 0)) (by (with_reducible repeat (first | refine blk_drewN ?_ _ | refine blk_drew ?_ | refine blk_alloc ?_ _)); exact BK160.out)) : gb161 ≠ gb160)); clear BK160; clear HB; have BK160 := n0_; have HB := n1_; have BK161 := n2_; have GW161 := n3_; have GE161 := n4_; have NB160_161 := n5_; have NB161_160 := n6_; clear n0_ n1_ n2_ n3_ n4_ n5_ n6_; clear hb hbox hg; have hnb9 := NB161_160.out; have hnc9 := NB160_161.out; have hcz10_0 : w8.cell? ⟨gb161, 0, none⟩ = some (.int .i64 0) := (blk_cell BK161.out 0).trans rfl; have hcz10_1 : w8.cell? ⟨gb161, 1, none⟩ = some (.int .i64 0) := (blk_cell BK161.out 1).trans rfl; have hcz10_2 : w8.cell? ⟨gb161, 2, none⟩ = some (.int .i64 0) := (blk_cell BK161.out 2).trans rfl; have hcz10_3 : w8.cell? ⟨gb161, 3, none⟩ = some (.int .i64 0) := (blk_cell BK161.out 3).trans rfl; have hfz10_0 := blk_frozen BK161.out 0; have hfz10_1 := blk_frozen BK161.out 1; have hfz10_2 := blk_frozen BK161.out 2; have hfz10_3 := blk_frozen BK161.out 3) | ((with_reducible refine gate_store (t := 22) (p := 4) rfl ?_); refine store_event (t := 22) (p := 4) (v := ?vo_w11) (w1 := ((((w8.setCell ⟨gb161, 0, none⟩ (.int .i64 (ix4 a0_0 a0_4 a0_8 a0_12 x8_1))).setCell ⟨gb161, 1, none⟩ (.int .i64 (ix4 a0_1 a0_5 a0_9 a0_13 x8_1))).setCell ⟨gb161, 2, none⟩ (.int .i64 (ix4 a0_2 a0_6 a0_10 a0_14 x8_1))).setCell ⟨gb161, 3, none⟩ (.int .i64 (ix4 a0_3 a0_7 a0_11 a0_15 x8_1)))) ?hg ?ho ?hn ?hr ?_; (case ho => rfl); (case hg => rfl); (case hn => rfl); (case hr => first | (go_simp; done) | (go_simp; rfl)); intro w11 hw; have n0_ : Aside0 (w11.heap[gb160]? = some (.cells #[.int .i64 a0_0, .int .i64 a0_1, .int .i64 a0_2, .int .i64 a0_3, .int .i64 a0_4, .int .i64 a0_5, .int .i64 a0_6, .int .i64 a0_7, .int .i64 a0_8, .int .i64 a0_9, .int .i64 a0_10, .int .i64 a0_11, .int .i64 a0_12, .int .i64 a0_13, .int .i64 a0_14, .int .i64 a0_15] 23 (0, 0))) := ⟨(by rw [hw]; exact (by (with_reducible repeat (first | refine blk_drewN ?_ _ | refine blk_drew ?_ | refine blk_alloc ?_ _)); refine blk_far ?_ NB160_161.out _; (with_reducible repeat (first | refine blk_drewN ?_ _ | refine blk_drew ?_ | refine blk_alloc ?_ _)); refine blk_far ?_ NB160_161.out _; (with_reducible repeat (first | refine blk_drewN ?_ _ | refine blk_drew ?_ | refine blk_alloc ?_ _)); refine blk_far ?_ NB160_161.out _; (with_reducible repeat (first | refine blk_drewN ?_ _ | refine blk_drew ?_ | refine blk_alloc ?_ _)); refine blk_far ?_ NB160_161.out _; (with_reducible repeat (first | refine blk_drewN ?_ _ | refine blk_drew ?_ | refine blk_alloc ?_ _)); exact BK160.out))⟩; have n1_ : Aside0 (w11.heap[gb161]? = some (.cells #[.int .i64 (ix4 a0_0 a0_4 a0_8 a0_12 x8_1), .int .i64 (ix4 a0_1 a0_5 a0_9 a0_13 x8_1), .int .i64 (ix4 a0_2 a0_6 a0_10 a0_14 x8_1), .int .i64 (ix4 a0_3 a0_7 a0_11 a0_15 x8_1)] 22 (0, 0))) := ⟨(by rw [hw]; exact (by (with_reducible repeat (first | refine blk_drewN ?_ _ | refine blk_drew ?_ | refine blk_alloc ?_ _)); refine blk_put (cs := #[.int .i64 (ix4 a0_0 a0_4 a0_8 a0_12 x8_1), .int .i64 (ix4 a0_1 a0_5 a0_9 a0_13 x8_1), .int .i64 (ix4 a0_2 a0_6 a0_10 a0_14 x8_1), .int .i64 0]) ?_ 3 _ rfl; (with_reducible repeat (first | refine blk_drewN ?_ _ | refine blk_drew ?_ | refine blk_alloc ?_ _)); refine blk_put (cs := #[.int .i64 (ix4 a0_0 a0_4 a0_8 a0_12 x8_1), .int .i64 (ix4 a0_1 a0_5 a0_9 a0_13 x8_1), .int .i64 0, .int .i64 0]) ?_ 2 _ rfl; (with_reducible repeat (first | refine blk_drewN ?_ _ | refine blk_drew ?_ | refine blk_alloc ?_ _)); refine blk_put (cs := #[.int .i64 (ix4 a0_0 a0_4 a0_8 a0_12 x8_1), .int .i64 0, .int .i64 0, .int .i64 0]) ?_ 1 _ rfl; (with_reducible repeat (first | refine blk_drewN ?_ _ | refine blk_drew ?_ | refine blk_alloc ?_ _)); refine blk_put (cs := #[.int .i64 0, .int .i64 0, .int .i64 0, .int .i64 0]) ?_ 0 _ rfl; (with_reducible repeat (first | refine blk_drewN ?_ _ | refine blk_drew ?_ | refine blk_alloc ?_ _)); exact BK161.out))⟩; have n2_ : Aside0 (Below w.heap.size w w11) := ⟨(by rw [hw]; exact (by repeat (first | (with_reducible first | exact HB.out | apply below_alloc | apply pw_below_drewN | apply below_drew1 | refine below_set ?_ GE160.out | refine below_set ?_ GE161.out) | exact HB.out)))⟩; clear hw; clear BK160; clear BK161; clear HB; have BK160 := n0_; have BK161 := n1_; have HB := n2_; clear n0_ n1_ n2_; have hcz12_0 : w11.cell? ⟨gb161, 0, none⟩ = some (.int .i64 (ix4 a0_0 a0_4 a0_8 a0_12 x8_1)) := (blk_cell BK161.out 0).trans rfl; have hcz12_1 : w11.cell? ⟨gb161, 1, none⟩ = some (.int .i64 (ix4 a0_1 a0_5 a0_9 a0_13 x8_1)) := (blk_cell BK161.out 1).trans rfl; have hcz12_2 : w11.cell? ⟨gb161, 2, none⟩ = some (.int .i64 (ix4 a0_2 a0_6 a0_10 a0_14 x8_1)) := (blk_cell BK161.out 2).trans rfl; have hcz12_3 : w11.cell? ⟨gb161, 3, none⟩ = some (.int .i64 (ix4 a0_3 a0_7 a0_11 a0_15 x8_1)) := (blk_cell BK161.out 3).trans rfl; have hfz12_0 := blk_frozen BK161.out 0; have hfz12_1 := blk_frozen BK161.out 1; have hfz12_2 := blk_frozen BK161.out 2; have hfz12_3 := blk_frozen BK161.out 3))
     go_loopg [13] k1 (fun kq v13 w' => ∃ (x13_2 : Int), v13 = .int .i64 x13_2 ∧ Aside0 (graph_May.l1 kq x8_1 x8_1 x13_2 a0_0 a0_1 a0_2 a0_3 a0_4 a0_5 a0_6 a0_7 a0_8 a0_9 a0_10 a0_11 a0_12 a0_13 a0_14 a0_15 (ix4 a0_0 a0_4 a0_8 a0_12 x8_1) (ix4 a0_1 a0_5 a0_9 a0_13 x8_1) (ix4 a0_2 a0_6 a0_10 a0_14 x8_1) (ix4 a0_3 a0_7 a0_11 a0_15 x8_1) = some r) ∧ Aside0 (kq ≤ k1) ∧ Aside0 (w'.heap[gb160]? = some (.cells #[.int .i64 a0_0, .int .i64 a0_1, .int .i64 a0_2, .int .i64 a0_3, .int .i64 a0_4, .int .i64 a0_5, .int .i64 a0_6, .int .i64 a0_7, .int .i64 a0_8, .int .i64 a0_9, .int .i64 a0_10, .int .i64 a0_11, .int .i64 a0_12, .int .i64 a0_13, .int .i64 a0_14, .int .i64 a0_15] 23 (0, 0))) ∧ Aside0 (w'.heap[gb161]? = some (.cells #[.int .i64 (ix4 a0_0 a0_4 a0_8 a0_12 x8_1), .int .i64 (ix4 a0_1 a0_5 a0_9 a0_13 x8_1), .int .i64 (ix4 a0_2 a0_6 a0_10 a0_14 x8_1), .int .i64 (ix4 a0_3 a0_7 a0_11 a0_15 x8_1)] 22 (0, 0))) ∧ Aside0 (Below w.heap.size w w'))
     case atStart => exact ⟨(0), (by first | rfl | (simp; done) | (simp [*]; done)), H', ⟨Nat.le_refl _⟩, ⟨by (with_reducible repeat (first | refine blk_drewN ?_ _ | refine blk_drew ?_ | refine blk_alloc ?_ _)); exact BK160.out⟩, ⟨by (with_reducible repeat (first | refine blk_drewN ?_ _ | refine blk_drew ?_ | refine blk_alloc ?_ _)); exact BK161.out⟩, ⟨by repeat (first | (with_reducible first | exact HB.out | apply below_alloc | apply pw_below_drewN | apply below_drew1 | refine below_set ?_ GE160.out | refine below_set ?_ GE161.out) | exact HB.out)⟩⟩
     case round =>
      clear H'
      try clear c2
      try clear p2
      try clear c4
      try clear c4b0
      try clear c5
      try clear c5b0
      try clear p6
      try clear q6
      try clear c9
      try clear hcz10_0
      try clear hcz10_1
      try clear hcz10_2
      try clear hcz10_3
      try clear hcz12_0
      try clear hcz12_1
      try clear hcz12_2
      try clear hcz12_3
      try clear hcz3_0
      try clear hcz3_1
      try clear hcz3_10
      try clear hcz3_11
      try clear hcz3_12
      try clear hcz3_13
      try clear hcz3_14
      try clear hcz3_15
      try clear hcz3_2
      try clear hcz3_3
      try clear hcz3_4
      try clear hcz3_5
      try clear hcz3_6
      try clear hcz3_7
      try clear hcz3_8
      try clear hcz3_9
      try clear hfz10_0
      try clear hfz10_1
      try clear hfz10_2
      try clear hfz10_3
      try clear hfz12_0
      try clear hfz12_1
      try clear hfz12_2
      try clear hfz12_3
      try clear hfz3_0
      try clear p2
      try clear p6
      try clear q6
      obtain ⟨x13_2, rfl, HA, HK2, BK160, BK161, HB⟩ := hrel
      cases gk with
      | zero => exact absurd HA.out (by simp [graph_May.l1])
      | succ k2 =>
       have H := HA.out
       clear HA
       simp only [graph_May.l1] at H
       by_cases c13 : x13_2 < 4
       ·rw [if_pos c13] at H
        have c13b0 : decide (x13_2 < 4) = true := decide_eq_true c13
        clear c13
        by_cases c14 : 0 ≤ x13_2
        ·rw [if_pos c14] at H
         have c14b0 : decide (0 ≤ x13_2) = true := decide_eq_true c14
         clear c14
         by_cases c15 : (ix4 (ix4 a0_0 a0_4 a0_8 a0_12 x8_1) (ix4 a0_1 a0_5 a0_9 a0_13 x8_1) (ix4 a0_2 a0_6 a0_10 a0_14 x8_1) (ix4 a0_3 a0_7 a0_11 a0_15 x8_1) x13_2) < 0
         ·rw [if_pos c15] at H
          have c15b0 : decide ((ix4 (ix4 a0_0 a0_4 a0_8 a0_12 x8_1) (ix4 a0_1 a0_5 a0_9 a0_13 x8_1) (ix4 a0_2 a0_6 a0_10 a0_14 x8_1) (ix4 a0_3 a0_7 a0_11 a0_15 x8_1) x13_2) < 0) = true := decide_eq_true c15
          clear c15
          obtain rfl := Option.some.inj H
          have p16 : (0 ≤ (x13_2 : Int)) = True := eq_true (of_decide_eq_true (by first | (with_reducible assumption) | assumption))
          have q16 : ((x13_2 : Int) < 4) = True := eq_true (of_decide_eq_true (by first | (with_reducible assumption) | assumption))
          have hv17 : ∀ w_ : World, (Instr.index 22 (.agg (#[.int .i64 (ix4 a0_0 a0_4 a0_8 a0_12 x8_1), .int .i64 (ix4 a0_1 a0_5 a0_9 a0_13 x8_1), .int .i64 (ix4 a0_2 a0_6 a0_10 a0_14 x8_1), .int .i64 (ix4 a0_3 a0_7 a0_11 a0_15 x8_1)] : Array Value)) (.int .i64 x13_2)).run Try.prog w_ = .ok (.int .i64 (ix4 (ix4 a0_0 a0_4 a0_8 a0_12 x8_1) (ix4 a0_1 a0_5 a0_9 a0_13 x8_1) (ix4 a0_2 a0_6 a0_10 a0_14 x8_1) (ix4 a0_3 a0_7 a0_11 a0_15 x8_1) x13_2)) w_ := fun w_ => index_cell Try.underlying22 (by kernel_rfl) (by kernel_rfl) (by kernel_rfl) (of_decide_eq_true (by first | (with_reducible assumption) | assumption)) (of_decide_eq_true (by first | (with_reducible assumption) | assumption)) (ix_4 (Value.int .i64) _ _ _ _ x13_2 (of_decide_eq_true (by first | (with_reducible assumption) | assumption)) (of_decide_eq_true (by first | (with_reducible assumption) | assumption))) w_
          go_wp2
          go_ret
          exact ⟨by first | rfl | (simp [errW_none, errW_some] <;> rfl) | (simp [*, errW_none, errW_some] <;> rfl), by repeat (first | (with_reducible first | exact HB.out | apply below_alloc | apply pw_below_drewN | apply below_drew1 | refine below_set ?_ GE160.out | refine below_set ?_ GE161.out) | exact HB.out)⟩
         ·rw [if_neg c15] at H
          have c15b0 : decide ((ix4 (ix4 a0_0 a0_4 a0_8 a0_12 x8_1) (ix4 a0_1 a0_5 a0_9 a0_13 x8_1) (ix4 a0_2 a0_6 a0_10 a0_14 x8_1) (ix4 a0_3 a0_7 a0_11 a0_15 x8_1) x13_2) < 0) = false := decide_eq_false c15
          clear c15
          by_cases c18 : (ix4 (ix4 a0_0 a0_4 a0_8 a0_12 x8_1) (ix4 a0_1 a0_5 a0_9 a0_13 x8_1) (ix4 a0_2 a0_6 a0_10 a0_14 x8_1) (ix4 a0_3 a0_7 a0_11 a0_15 x8_1) x13_2) > 65535
          ·rw [if_pos c18] at H
           have c18b0 : decide (65535 < (ix4 (ix4 a0_0 a0_4 a0_8 a0_12 x8_1) (ix4 a0_1 a0_5 a0_9 a0_13 x8_1) (ix4 a0_2 a0_6 a0_10 a0_14 x8_1) (ix4 a0_3 a0_7 a0_11 a0_15 x8_1) x13_2)) = true := decide_eq_true c18
           clear c18
           obtain rfl := Option.some.inj H
           have p19 : (0 ≤ (x13_2 : Int)) = True := eq_true (of_decide_eq_true (by first | (with_reducible assumption) | assumption))
           have q19 : ((x13_2 : Int) < 4) = True := eq_true (of_decide_eq_true (by first | (with_reducible assumption) | assumption))
           have hv20 : ∀ w_ : World, (Instr.index 22 (.agg (#[.int .i64 (ix4 a0_0 a0_4 a0_8 a0_12 x8_1), .int .i64 (ix4 a0_1 a0_5 a0_9 a0_13 x8_1), .int .i64 (ix4 a0_2 a0_6 a0_10 a0_14 x8_1), .int .i64 (ix4 a0_3 a0_7 a0_11 a0_15 x8_1)] : Array Value)) (.int .i64 x13_2)).run Try.prog w_ = .ok (.int .i64 (ix4 (ix4 a0_0 a0_4 a0_8 a0_12 x8_1) (ix4 a0_1 a0_5 a0_9 a0_13 x8_1) (ix4 a0_2 a0_6 a0_10 a0_14 x8_1) (ix4 a0_3 a0_7 a0_11 a0_15 x8_1) x13_2)) w_ := fun w_ => index_cell Try.underlying22 (by kernel_rfl) (by kernel_rfl) (by kernel_rfl) (of_decide_eq_true (by first | (with_reducible assumption) | assumption)) (of_decide_eq_true (by first | (with_reducible assumption) | assumption)) (ix_4 (Value.int .i64) _ _ _ _ x13_2 (of_decide_eq_true (by first | (with_reducible assumption) | assumption)) (of_decide_eq_true (by first | (with_reducible assumption) | assumption))) w_
           go_wp2
           go_ret
           exact ⟨by first | rfl | (simp [errW_none, errW_some] <;> rfl) | (simp [*, errW_none, errW_some] <;> rfl), by repeat (first | (with_reducible first | exact HB.out | apply below_alloc | apply pw_below_drewN | apply below_drew1 | refine below_set ?_ GE160.out | refine below_set ?_ GE161.out) | exact HB.out)⟩
          ·rw [if_neg c18] at H
           have c18b0 : decide (65535 < (ix4 (ix4 a0_0 a0_4 a0_8 a0_12 x8_1) (ix4 a0_1 a0_5 a0_9 a0_13 x8_1) (ix4 a0_2 a0_6 a0_10 a0_14 x8_1) (ix4 a0_3 a0_7 a0_11 a0_15 x8_1) x13_2)) = false := decide_eq_false c18
           clear c18
           by_cases c21 : x8_1 = x13_2
           ·rw [if_pos c21] at H
            have c21b0 : (x8_1 == x13_2) = true := beq_iff_eq.mpr c21
            have c21b1 : (x8_1 != x13_2) = false := bne_eq_false_iff_eq.mpr c21
            clear c21
            by_cases c22 : (ix4 (ix4 a0_0 a0_4 a0_8 a0_12 x8_1) (ix4 a0_1 a0_5 a0_9 a0_13 x8_1) (ix4 a0_2 a0_6 a0_10 a0_14 x8_1) (ix4 a0_3 a0_7 a0_11 a0_15 x8_1) x13_2) = 0
            ·rw [if_pos c22] at H
             have c22b0 : ((ix4 (ix4 a0_0 a0_4 a0_8 a0_12 x8_1) (ix4 a0_1 a0_5 a0_9 a0_13 x8_1) (ix4 a0_2 a0_6 a0_10 a0_14 x8_1) (ix4 a0_3 a0_7 a0_11 a0_15 x8_1) x13_2) == 0) = true := beq_iff_eq.mpr c22
             have c22b1 : ((ix4 (ix4 a0_0 a0_4 a0_8 a0_12 x8_1) (ix4 a0_1 a0_5 a0_9 a0_13 x8_1) (ix4 a0_2 a0_6 a0_10 a0_14 x8_1) (ix4 a0_3 a0_7 a0_11 a0_15 x8_1) x13_2) != 0) = false := bne_eq_false_iff_eq.mpr c22
             clear c22
             have H' := Aside0.mk H
             clear H
             have p23 : (0 ≤ (x13_2 : Int)) = True := eq_true (of_decide_eq_true (by first | (with_reducible assumption) | assumption))
             have q23 : ((x13_2 : Int) < 4) = True := eq_true (of_decide_eq_true (by first | (with_reducible assumption) | assumption))
             have hv24 : ∀ w_ : World, (Instr.index 22 (.agg (#[.int .i64 (ix4 a0_0 a0_4 a0_8 a0_12 x8_1), .int .i64 (ix4 a0_1 a0_5 a0_9 a0_13 x8_1), .int .i64 (ix4 a0_2 a0_6 a0_10 a0_14 x8_1), .int .i64 (ix4 a0_3 a0_7 a0_11 a0_15 x8_1)] : Array Value)) (.int .i64 x13_2)).run Try.prog w_ = .ok (.int .i64 (ix4 (ix4 a0_0 a0_4 a0_8 a0_12 x8_1) (ix4 a0_1 a0_5 a0_9 a0_13 x8_1) (ix4 a0_2 a0_6 a0_10 a0_14 x8_1) (ix4 a0_3 a0_7 a0_11 a0_15 x8_1) x13_2)) w_ := fun w_ => index_cell Try.underlying22 (by kernel_rfl) (by kernel_rfl) (by kernel_rfl) (of_decide_eq_true (by first | (with_reducible assumption) | assumption)) (of_decide_eq_true (by first | (with_reducible assumption) | assumption)) (ix_4 (Value.int .i64) _ _ _ _ x13_2 (of_decide_eq_true (by first | (with_reducible assumption) | assumption)) (of_decide_eq_true (by first | (with_reducible assumption) | assumption))) w_
             go_wp2
             go_roundg k2
             case measure => have := HK1.out; have := HK2.out; omega
             case rel => exact ⟨(wrap64 (x13_2 + 1)), (by first | rfl | (simp; done) | (simp [*]; done)), H', ⟨by have := HK1.out; have := HK2.out; omega⟩, ⟨by (with_reducible repeat (first | refine blk_drewN ?_ _ | refine blk_drew ?_ | refine blk_alloc ?_ _)); exact BK160.out⟩, ⟨by (with_reducible repeat (first | refine blk_drewN ?_ _ | refine blk_drew ?_ | refine blk_alloc ?_ _)); exact BK161.out⟩, ⟨by repeat (first | (with_reducible first | exact HB.out | apply below_alloc | apply pw_below_drewN | apply below_drew1 | refine below_set ?_ GE160.out | refine below_set ?_ GE161.out) | exact HB.out)⟩⟩
            ·rw [if_neg c22] at H
             have c22b0 : ((ix4 (ix4 a0_0 a0_4 a0_8 a0_12 x8_1) (ix4 a0_1 a0_5 a0_9 a0_13 x8_1) (ix4 a0_2 a0_6 a0_10 a0_14 x8_1) (ix4 a0_3 a0_7 a0_11 a0_15 x8_1) x13_2) == 0) = false := beq_eq_false_iff_ne.mpr c22
             have c22b1 : ((ix4 (ix4 a0_0 a0_4 a0_8 a0_12 x8_1) (ix4 a0_1 a0_5 a0_9 a0_13 x8_1) (ix4 a0_2 a0_6 a0_10 a0_14 x8_1) (ix4 a0_3 a0_7 a0_11 a0_15 x8_1) x13_2) != 0) = true := bne_iff_ne.mpr c22
             obtain rfl := Option.some.inj H
             have p25 : (0 ≤ (x13_2 : Int)) = True := eq_true (of_decide_eq_true (by first | (with_reducible assumption) | assumption))
             have q25 : ((x13_2 : Int) < 4) = True := eq_true (of_decide_eq_true (by first | (with_reducible assumption) | assumption))
             have hv26 : ∀ w_ : World, (Instr.index 22 (.agg (#[.int .i64 (ix4 a0_0 a0_4 a0_8 a0_12 x8_1), .int .i64 (ix4 a0_1 a0_5 a0_9 a0_13 x8_1), .int .i64 (ix4 a0_2 a0_6 a0_10 a0_14 x8_1), .int .i64 (ix4 a0_3 a0_7 a0_11 a0_15 x8_1)] : Array Value)) (.int .i64 x13_2)).run Try.prog w_ = .ok (.int .i64 (ix4 (ix4 a0_0 a0_4 a0_8 a0_12 x8_1) (ix4 a0_1 a0_5 a0_9 a0_13 x8_1) (ix4 a0_2 a0_6 a0_10 a0_14 x8_1) (ix4 a0_3 a0_7 a0_11 a0_15 x8_1) x13_2)) w_ := fun w_ => index_cell Try.underlying22 (by kernel_rfl) (by kernel_rfl) (by kernel_rfl) (of_decide_eq_true (by first | (with_reducible assumption) | assumption)) (of_decide_eq_true (by first | (with_reducible assumption) | assumption)) (ix_4 (Value.int .i64) _ _ _ _ x13_2 (of_decide_eq_true (by first | (with_reducible assumption) | assumption)) (of_decide_eq_true (by first | (with_reducible assumption) | assumption))) w_
             go_wp2
             go_ret
             exact ⟨by first | rfl | (simp [errW_none, errW_some] <;> rfl) | (simp [*, errW_none, errW_some] <;> rfl), by repeat (first | (with_reducible first | exact HB.out | apply below_alloc | apply pw_below_drewN | apply below_drew1 | refine below_set ?_ GE160.out | refine below_set ?_ GE161.out) | exact HB.out)⟩
           ·rw [if_neg c21] at H
            have c21b0 : (x8_1 == x13_2) = false := beq_eq_false_iff_ne.mpr c21
            have c21b1 : (x8_1 != x13_2) = true := bne_iff_ne.mpr c21
            have H' := Aside0.mk H
            clear H
            have p27 : (0 ≤ (x13_2 : Int)) = True := eq_true (of_decide_eq_true (by first | (with_reducible assumption) | assumption))
            have q27 : ((x13_2 : Int) < 4) = True := eq_true (of_decide_eq_true (by first | (with_reducible assumption) | assumption))
            have hv28 : ∀ w_ : World, (Instr.index 22 (.agg (#[.int .i64 (ix4 a0_0 a0_4 a0_8 a0_12 x8_1), .int .i64 (ix4 a0_1 a0_5 a0_9 a0_13 x8_1), .int .i64 (ix4 a0_2 a0_6 a0_10 a0_14 x8_1), .int .i64 (ix4 a0_3 a0_7 a0_11 a0_15 x8_1)] : Array Value)) (.int .i64 x13_2)).run Try.prog w_ = .ok (.int .i64 (ix4 (ix4 a0_0 a0_4 a0_8 a0_12 x8_1) (ix4 a0_1 a0_5 a0_9 a0_13 x8_1) (ix4 a0_2 a0_6 a0_10 a0_14 x8_1) (ix4 a0_3 a0_7 a0_11 a0_15 x8_1) x13_2)) w_ := fun w_ => index_cell Try.underlying22 (by kernel_rfl) (by kernel_rfl) (by kernel_rfl) (of_decide_eq_true (by first | (with_reducible assumption) | assumption)) (of_decide_eq_true (by first | (with_reducible assumption) | assumption)) (ix_4 (Value.int .i64) _ _ _ _ x13_2 (of_decide_eq_true (by first | (with_reducible assumption) | assumption)) (of_decide_eq_true (by first | (with_reducible assumption) | assumption))) w_
            go_wp2
            go_roundg k2
            case measure => have := HK1.out; have := HK2.out; omega
            case rel => exact ⟨(wrap64 (x13_2 + 1)), (by first | rfl | (simp; done) | (simp [*]; done)), H', ⟨by have := HK1.out; have := HK2.out; omega⟩, ⟨by (with_reducible repeat (first | refine blk_drewN ?_ _ | refine blk_drew ?_ | refine blk_alloc ?_ _)); exact BK160.out⟩, ⟨by (with_reducible repeat (first | refine blk_drewN ?_ _ | refine blk_drew ?_ | refine blk_alloc ?_ _)); exact BK161.out⟩, ⟨by repeat (first | (with_reducible first | exact HB.out | apply below_alloc | apply pw_below_drewN | apply below_drew1 | refine below_set ?_ GE160.out | refine below_set ?_ GE161.out) | exact HB.out)⟩⟩
        ·rw [if_neg c14] at H
         exact absurd H (by simp)
       ·rw [if_neg c13] at H
        have c13b0 : decide (x13_2 < 4) = false := decide_eq_false c13
        clear c13
        have H' := Aside0.mk H
        clear H
        go_wp2
        go_roundg k2
        case measure => have := HK1.out; have := HK2.out; omega
        case rel => exact ⟨(wrap64 (x8_1 + 1)), (by first | rfl | (simp; done) | (simp [*]; done)), H', ⟨by have := HK1.out; have := HK2.out; omega⟩, ⟨by (with_reducible repeat (first | refine blk_drewN ?_ _ | refine blk_drew ?_ | refine blk_alloc ?_ _)); exact BK160.out⟩, ⟨by repeat (first | (with_reducible first | exact HB.out | apply below_alloc | apply pw_below_drewN | apply below_drew1 | refine below_set ?_ GE160.out | refine below_set ?_ GE161.out) | exact HB.out)⟩⟩
    ·rw [if_neg c5] at H
     exact absurd H (by simp)
   ·rw [if_neg c4] at H
    have c4b0 : decide (x8_1 < 4) = false := decide_eq_false c4
    clear c4
    obtain rfl := Option.some.inj H
    go_wp2
    go_ret
    exact ⟨by first | rfl | (simp [errW_none, errW_some] <;> rfl) | (simp [*, errW_none, errW_some] <;> rfl), by repeat (first | (with_reducible first | exact HB.out | apply below_alloc | apply pw_below_drewN | apply below_drew1 | refine below_set ?_ GE160.out) | exact HB.out)⟩

end Go.Proofs.Ytjbejbehbjhecaa.Q20
