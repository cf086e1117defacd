/- Written by a program of this session out of the print of the loaded functions: each Go function as a plain function, and that its call comes to it; for a law, the row out of its plain statement. -/
import Derived.Test.YtabjambabnbmnaaQ14x0
import Derived.Test.YtabjambabnbmnaaQ14x114
import Derived.Test.YtabjambabnbmnaaQ14x116
import Derived.Test.YtabjambabnbmnaaQ14x118
import Derived.Test.YtabjambabnbmnaaQ14x124
namespace Go.Proofs.Ytabjambabnbmnaa.Q14
open Go.RowKit Go.Proofs.YtabjambabnbmnaaW.PrintWords Go.Proofs.YtabjambabnbmnaaW.PrintLast Go.Proofs.YtabjambabnbmnaaW.PrintMore
attribute [local go_sem] max2_int min2_int max_two min_two max_three min_three max_four min_four   -- for this text's walks alone
set_option linter.unusedVariables false
set_option linter.unusedSimpArgs false

/-! ### watchwordlaw14_LastBoots: function 7 -/
def watchwordlaw14_LastBoots.f (k : Nat) (a0 : Int) (a1 : Int) (a2 : Int) : Option (Bool) := (watchwordlaw14_awake.f k).bind fun t348 => (if t348 = true then ((last_With.f k ([] : List (S24)) 1 1 (wrap64 ((wrap64 (1 + (Go.bits .and .i64 a0 4095))) + 1)) 1).bind fun bt349 => ((last_Newer.f k bt349.1 1 1 (wrap64 (1 + (Go.bits .and .i64 a0 4095))) (wrap64 (1 + (Go.bits .and .i64 a1 4095)))).bind fun bt353 => ((last_Newer.f k bt349.1 1 1 (wrap64 ((wrap64 (1 + (Go.bits .and .i64 a0 4095))) + 1)) (wrap64 (1 + (Go.bits .and .i64 a2 4095)))).bind fun bt355 => ((last_Newer.f k bt349.1 1 1 (wrap64 ((wrap64 (1 + (Go.bits .and .i64 a0 4095))) + 2)) 1).bind fun bt357 => ((last_Newer.f k bt349.1 1 5 (wrap64 (1 + (Go.bits .and .i64 a0 4095))) (wrap64 (1 + (Go.bits .and .i64 a1 4095)))).bind fun bt359 => ((watchwordlaw0_Num.f bt349.2).bind fun t361 => (if t361 = 0 then ((watchwordlaw0_Num.f bt353.2).bind fun t362 => (if t362 = 0 then ((watchwordlaw0_Num.f bt355.2).bind fun t363 => (if t363 = 0 then ((watchwordlaw0_Num.f bt357.2).bind fun t364 => (if t364 = 0 then ((watchwordlaw0_Num.f bt359.2).bind fun t365 => (if t365 = 0 then (if bt353.1 = true then (some false) else (if (bt355.1 == (decide ((wrap64 (1 + (Go.bits .and .i64 a2 4095))) > 1))) = true then (if bt357.1 = true then (some bt359.1) else (some false)) else (some false))) else (some false))) else (some false))) else (some false))) else (some false))) else (some false)))))))) else (some false))
theorem watchwordlaw14_LastBoots.mono : ∀ a0 a1 a2 k, LeO (watchwordlaw14_LastBoots.f k a0 a1 a2) (watchwordlaw14_LastBoots.f (k + 1) a0 a1 a2) := by
 intro a0 a1 a2 k
 unfold watchwordlaw14_LastBoots.f
 repeat' first
   | (with_reducible exact last_Newer.mono _ _ _ _ _ _)
   | (with_reducible exact last_With.mono _ _ _ _ _ _)
   | (with_reducible exact watchwordlaw14_awake.mono _)
   | (with_reducible exact LeO.refl _)
   | (with_reducible exact LeO.none _)
   | (with_reducible refine LeO.ite ?_ ?_)
   | (with_reducible refine LeO.bind ?_ (fun _ => ?_))
   | exact last_Newer.mono _ _ _ _ _ _
   | exact last_With.mono _ _ _ _ _ _
   | exact watchwordlaw14_awake.mono _
   | exact LeO.none _
   | refine LeO.ite ?_ ?_
   | refine LeO.bind ?_ (fun _ => ?_)
set_option maxHeartbeats 8000000 in
set_option maxRecDepth 100000 in
theorem watchwordlaw14_LastBoots.calls (k : Nat) (a0 : Int) (a1 : Int) (a2 : Int) (r : Bool) (w : World) (h : watchwordlaw14_LastBoots.f k a0 a1 a2 = some r) (hT : r = true) :
  Calls Try.prog 7 #[.int .i64 a0, .int .i64 a1, .int .i64 a2] w fun e w' => e = .returned (.bool r) ∧ Below w.heap.size w w' := by
 have hu24 := Try.underlying24
 have HB := Aside0.mk (Below.refl w.heap.size w)
 have HT := Aside0.mk hT
 clear hT
 have H : ((watchwordlaw14_awake.f k).bind fun t348 => (if t348 = true then ((last_With.f k ([] : List (S24)) 1 1 (wrap64 ((wrap64 (1 + (Go.bits .and .i64 a0 4095))) + 1)) 1).bind fun bt349 => ((last_Newer.f k bt349.1 1 1 (wrap64 (1 + (Go.bits .and .i64 a0 4095))) (wrap64 (1 + (Go.bits .and .i64 a1 4095)))).bind fun bt353 => ((last_Newer.f k bt349.1 1 1 (wrap64 ((wrap64 (1 + (Go.bits .and .i64 a0 4095))) + 1)) (wrap64 (1 + (Go.bits .and .i64 a2 4095)))).bind fun bt355 => ((last_Newer.f k bt349.1 1 1 (wrap64 ((wrap64 (1 + (Go.bits .and .i64 a0 4095))) + 2)) 1).bind fun bt357 => ((last_Newer.f k bt349.1 1 5 (wrap64 (1 + (Go.bits .and .i64 a0 4095))) (wrap64 (1 + (Go.bits .and .i64 a1 4095)))).bind fun bt359 => ((watchwordlaw0_Num.f bt349.2).bind fun t361 => (if t361 = 0 then ((watchwordlaw0_Num.f bt353.2).bind fun t362 => (if t362 = 0 then ((watchwordlaw0_Num.f bt355.2).bind fun t363 => (if t363 = 0 then ((watchwordlaw0_Num.f bt357.2).bind fun t364 => (if t364 = 0 then ((watchwordlaw0_Num.f bt359.2).bind fun t365 => (if t365 = 0 then (if bt353.1 = true then (some false) else (if (bt355.1 == (decide ((wrap64 (1 + (Go.bits .and .i64 a2 4095))) > 1))) = true then (if bt357.1 = true then (some bt359.1) else (some false)) else (some false))) else (some false))) else (some false))) else (some false))) else (some false))) else (some false)))))))) else (some false))) = some r := h
 clear h
 replace H := Option.bind_eq_some_iff.mp H
 obtain ⟨t348, A40, H⟩ := H
 replace H : (if t348 = true then ((last_With.f k ([] : List (S24)) 1 1 (wrap64 ((wrap64 (1 + (Go.bits .and .i64 a0 4095))) + 1)) 1).bind fun bt349 => ((last_Newer.f k bt349.1 1 1 (wrap64 (1 + (Go.bits .and .i64 a0 4095))) (wrap64 (1 + (Go.bits .and .i64 a1 4095)))).bind fun bt353 => ((last_Newer.f k bt349.1 1 1 (wrap64 ((wrap64 (1 + (Go.bits .and .i64 a0 4095))) + 1)) (wrap64 (1 + (Go.bits .and .i64 a2 4095)))).bind fun bt355 => ((last_Newer.f k bt349.1 1 1 (wrap64 ((wrap64 (1 + (Go.bits .and .i64 a0 4095))) + 2)) 1).bind fun bt357 => ((last_Newer.f k bt349.1 1 5 (wrap64 (1 + (Go.bits .and .i64 a0 4095))) (wrap64 (1 + (Go.bits .and .i64 a1 4095)))).bind fun bt359 => ((watchwordlaw0_Num.f bt349.2).bind fun t361 => (if t361 = 0 then ((watchwordlaw0_Num.f bt353.2).bind fun t362 => (if t362 = 0 then ((watchwordlaw0_Num.f bt355.2).bind fun t363 => (if t363 = 0 then ((watchwordlaw0_Num.f bt357.2).bind fun t364 => (if t364 = 0 then ((watchwordlaw0_Num.f bt359.2).bind fun t365 => (if t365 = 0 then (if bt353.1 = true then (some false) else (if (bt355.1 == (decide ((wrap64 (1 + (Go.bits .and .i64 a2 4095))) > 1))) = true then (if bt357.1 = true then (some bt359.1) else (some false)) else (some false))) else (some false))) else (some false))) else (some false))) else (some false))) else (some false)))))))) else (some false)) = some r := H
 have A4 := Aside0.mk A40
 clear A40
 by_cases c5 : t348 = true
 ·subst c5
  have H1 : ((last_With.f k ([] : List (S24)) 1 1 (wrap64 ((wrap64 (1 + (Go.bits .and .i64 a0 4095))) + 1)) 1).bind fun bt349 => ((last_Newer.f k bt349.1 1 1 (wrap64 (1 + (Go.bits .and .i64 a0 4095))) (wrap64 (1 + (Go.bits .and .i64 a1 4095)))).bind fun bt353 => ((last_Newer.f k bt349.1 1 1 (wrap64 ((wrap64 (1 + (Go.bits .and .i64 a0 4095))) + 1)) (wrap64 (1 + (Go.bits .and .i64 a2 4095)))).bind fun bt355 => ((last_Newer.f k bt349.1 1 1 (wrap64 ((wrap64 (1 + (Go.bits .and .i64 a0 4095))) + 2)) 1).bind fun bt357 => ((last_Newer.f k bt349.1 1 5 (wrap64 (1 + (Go.bits .and .i64 a0 4095))) (wrap64 (1 + (Go.bits .and .i64 a1 4095)))).bind fun bt359 => ((watchwordlaw0_Num.f bt349.2).bind fun t361 => (if t361 = 0 then ((watchwordlaw0_Num.f bt353.2).bind fun t362 => (if t362 = 0 then ((watchwordlaw0_Num.f bt355.2).bind fun t363 => (if t363 = 0 then ((watchwordlaw0_Num.f bt357.2).bind fun t364 => (if t364 = 0 then ((watchwordlaw0_Num.f bt359.2).bind fun t365 => (if t365 = 0 then (if bt353.1 = true then (some false) else (if (bt355.1 == (decide ((wrap64 (1 + (Go.bits .and .i64 a2 4095))) > 1))) = true then (if bt357.1 = true then (some bt359.1) else (some false)) else (some false))) else (some false))) else (some false))) else (some false))) else (some false))) else (some false)))))))) = some r := by rw [if_pos rfl] at H; exact H
  clear H
  have H := H1
  clear H1
  replace H := Option.bind_eq_some_iff.mp H
  obtain ⟨⟨t349, t352⟩, A60, H⟩ := H
  replace H : ((last_Newer.f k t349 1 1 (wrap64 (1 + (Go.bits .and .i64 a0 4095))) (wrap64 (1 + (Go.bits .and .i64 a1 4095)))).bind fun bt353 => ((last_Newer.f k t349 1 1 (wrap64 ((wrap64 (1 + (Go.bits .and .i64 a0 4095))) + 1)) (wrap64 (1 + (Go.bits .and .i64 a2 4095)))).bind fun bt355 => ((last_Newer.f k t349 1 1 (wrap64 ((wrap64 (1 + (Go.bits .and .i64 a0 4095))) + 2)) 1).bind fun bt357 => ((last_Newer.f k t349 1 5 (wrap64 (1 + (Go.bits .and .i64 a0 4095))) (wrap64 (1 + (Go.bits .and .i64 a1 4095)))).bind fun bt359 => ((watchwordlaw0_Num.f t352).bind fun t361 => (if t361 = 0 then ((watchwordlaw0_Num.f bt353.2).bind fun t362 => (if t362 = 0 then ((watchwordlaw0_Num.f bt355.2).bind fun t363 => (if t363 = 0 then ((watchwordlaw0_Num.f bt357.2).bind fun t364 => (if t364 = 0 then ((watchwordlaw0_Num.f bt359.2).bind fun t365 => (if t365 = 0 then (if bt353.1 = true then (some false) else (if (bt355.1 == (decide ((wrap64 (1 + (Go.bits .and .i64 a2 4095))) > 1))) = true then (if bt357.1 = true then (some bt359.1) else (some false)) else (some false))) else (some false))) else (some false))) else (some false))) else (some false))) else (some false))))))) = some r := H
  have A6 := Aside0.mk A60
  clear A60
  replace H := Option.bind_eq_some_iff.mp H
  obtain ⟨⟨t353, t354⟩, A70, H⟩ := H
  replace H : ((last_Newer.f k t349 1 1 (wrap64 ((wrap64 (1 + (Go.bits .and .i64 a0 4095))) + 1)) (wrap64 (1 + (Go.bits .and .i64 a2 4095)))).bind fun bt355 => ((last_Newer.f k t349 1 1 (wrap64 ((wrap64 (1 + (Go.bits .and .i64 a0 4095))) + 2)) 1).bind fun bt357 => ((last_Newer.f k t349 1 5 (wrap64 (1 + (Go.bits .and .i64 a0 4095))) (wrap64 (1 + (Go.bits .and .i64 a1 4095)))).bind fun bt359 => ((watchwordlaw0_Num.f t352).bind fun t361 => (if t361 = 0 then ((watchwordlaw0_Num.f t354).bind fun t362 => (if t362 = 0 then ((watchwordlaw0_Num.f bt355.2).bind fun t363 => (if t363 = 0 then ((watchwordlaw0_Num.f bt357.2).bind fun t364 => (if t364 = 0 then ((watchwordlaw0_Num.f bt359.2).bind fun t365 => (if t365 = 0 then (if t353 = true then (some false) else (if (bt355.1 == (decide ((wrap64 (1 + (Go.bits .and .i64 a2 4095))) > 1))) = true then (if bt357.1 = true then (some bt359.1) else (some false)) else (some false))) else (some false))) else (some false))) else (some false))) else (some false))) else (some false)))))) = some r := H
  have A7 := Aside0.mk A70
  clear A70
  replace H := Option.bind_eq_some_iff.mp H
  obtain ⟨⟨t355, t356⟩, A80, H⟩ := H
  replace H : ((last_Newer.f k t349 1 1 (wrap64 ((wrap64 (1 + (Go.bits .and .i64 a0 4095))) + 2)) 1).bind fun bt357 => ((last_Newer.f k t349 1 5 (wrap64 (1 + (Go.bits .and .i64 a0 4095))) (wrap64 (1 + (Go.bits .and .i64 a1 4095)))).bind fun bt359 => ((watchwordlaw0_Num.f t352).bind fun t361 => (if t361 = 0 then ((watchwordlaw0_Num.f t354).bind fun t362 => (if t362 = 0 then ((watchwordlaw0_Num.f t356).bind fun t363 => (if t363 = 0 then ((watchwordlaw0_Num.f bt357.2).bind fun t364 => (if t364 = 0 then ((watchwordlaw0_Num.f bt359.2).bind fun t365 => (if t365 = 0 then (if t353 = true then (some false) else (if (t355 == (decide ((wrap64 (1 + (Go.bits .and .i64 a2 4095))) > 1))) = true then (if bt357.1 = true then (some bt359.1) else (some false)) else (some false))) else (some false))) else (some false))) else (some false))) else (some false))) else (some false))))) = some r := H
  have A8 := Aside0.mk A80
  clear A80
  replace H := Option.bind_eq_some_iff.mp H
  obtain ⟨⟨t357, t358⟩, A90, H⟩ := H
  replace H : ((last_Newer.f k t349 1 5 (wrap64 (1 + (Go.bits .and .i64 a0 4095))) (wrap64 (1 + (Go.bits .and .i64 a1 4095)))).bind fun bt359 => ((watchwordlaw0_Num.f t352).bind fun t361 => (if t361 = 0 then ((watchwordlaw0_Num.f t354).bind fun t362 => (if t362 = 0 then ((watchwordlaw0_Num.f t356).bind fun t363 => (if t363 = 0 then ((watchwordlaw0_Num.f t358).bind fun t364 => (if t364 = 0 then ((watchwordlaw0_Num.f bt359.2).bind fun t365 => (if t365 = 0 then (if t353 = true then (some false) else (if (t355 == (decide ((wrap64 (1 + (Go.bits .and .i64 a2 4095))) > 1))) = true then (if t357 = true then (some bt359.1) else (some false)) else (some false))) else (some false))) else (some false))) else (some false))) else (some false))) else (some false)))) = some r := H
  have A9 := Aside0.mk A90
  clear A90
  replace H := Option.bind_eq_some_iff.mp H
  obtain ⟨⟨t359, t360⟩, A100, H⟩ := H
  replace H : ((watchwordlaw0_Num.f t352).bind fun t361 => (if t361 = 0 then ((watchwordlaw0_Num.f t354).bind fun t362 => (if t362 = 0 then ((watchwordlaw0_Num.f t356).bind fun t363 => (if t363 = 0 then ((watchwordlaw0_Num.f t358).bind fun t364 => (if t364 = 0 then ((watchwordlaw0_Num.f t360).bind fun t365 => (if t365 = 0 then (if t353 = true then (some false) else (if (t355 == (decide ((wrap64 (1 + (Go.bits .and .i64 a2 4095))) > 1))) = true then (if t357 = true then (some t359) else (some false)) else (some false))) else (some false))) else (some false))) else (some false))) else (some false))) else (some false))) = some r := H
  have A10 := Aside0.mk A100
  clear A100
  replace H := Option.bind_eq_some_iff.mp H
  obtain ⟨t361, A110, H⟩ := H
  replace H : (if t361 = 0 then ((watchwordlaw0_Num.f t354).bind fun t362 => (if t362 = 0 then ((watchwordlaw0_Num.f t356).bind fun t363 => (if t363 = 0 then ((watchwordlaw0_Num.f t358).bind fun t364 => (if t364 = 0 then ((watchwordlaw0_Num.f t360).bind fun t365 => (if t365 = 0 then (if t353 = true then (some false) else (if (t355 == (decide ((wrap64 (1 + (Go.bits .and .i64 a2 4095))) > 1))) = true then (if t357 = true then (some t359) else (some false)) else (some false))) else (some false))) else (some false))) else (some false))) else (some false))) else (some false)) = some r := H
  have A11 := Aside0.mk A110
  clear A110
  by_cases c12 : t361 = 0
  ·rw [if_pos c12] at H
   have c12b0 : (t361 == 0) = true := beq_iff_eq.mpr c12
   have c12b1 : (t361 != 0) = false := bne_eq_false_iff_eq.mpr c12
   clear c12
   replace H := Option.bind_eq_some_iff.mp H
   obtain ⟨t362, A130, H⟩ := H
   replace H : (if t362 = 0 then ((watchwordlaw0_Num.f t356).bind fun t363 => (if t363 = 0 then ((watchwordlaw0_Num.f t358).bind fun t364 => (if t364 = 0 then ((watchwordlaw0_Num.f t360).bind fun t365 => (if t365 = 0 then (if t353 = true then (some false) else (if (t355 == (decide ((wrap64 (1 + (Go.bits .and .i64 a2 4095))) > 1))) = true then (if t357 = true then (some t359) else (some false)) else (some false))) else (some false))) else (some false))) else (some false))) else (some false)) = some r := H
   have A13 := Aside0.mk A130
   clear A130
   by_cases c14 : t362 = 0
   ·rw [if_pos c14] at H
    have c14b0 : (t362 == 0) = true := beq_iff_eq.mpr c14
    have c14b1 : (t362 != 0) = false := bne_eq_false_iff_eq.mpr c14
    clear c14
    replace H := Option.bind_eq_some_iff.mp H
    obtain ⟨t363, A150, H⟩ := H
    replace H : (if t363 = 0 then ((watchwordlaw0_Num.f t358).bind fun t364 => (if t364 = 0 then ((watchwordlaw0_Num.f t360).bind fun t365 => (if t365 = 0 then (if t353 = true then (some false) else (if (t355 == (decide ((wrap64 (1 + (Go.bits .and .i64 a2 4095))) > 1))) = true then (if t357 = true then (some t359) else (some false)) else (some false))) else (some false))) else (some false))) else (some false)) = some r := H
    have A15 := Aside0.mk A150
    clear A150
    by_cases c16 : t363 = 0
    ·rw [if_pos c16] at H
     have c16b0 : (t363 == 0) = true := beq_iff_eq.mpr c16
     have c16b1 : (t363 != 0) = false := bne_eq_false_iff_eq.mpr c16
     clear c16
     replace H := Option.bind_eq_some_iff.mp H
     obtain ⟨t364, A170, H⟩ := H
     replace H : (if t364 = 0 then ((watchwordlaw0_Num.f t360).bind fun t365 => (if t365 = 0 then (if t353 = true then (some false) else (if (t355 == (decide ((wrap64 (1 + (Go.bits .and .i64 a2 4095))) > 1))) = true then (if t357 = true then (some t359) else (some false)) else (some false))) else (some false))) else (some false)) = some r := H
     have A17 := Aside0.mk A170
     clear A170
     by_cases c18 : t364 = 0
     ·rw [if_pos c18] at H
      have c18b0 : (t364 == 0) = true := beq_iff_eq.mpr c18
      have c18b1 : (t364 != 0) = false := bne_eq_false_iff_eq.mpr c18
      clear c18
      replace H := Option.bind_eq_some_iff.mp H
      obtain ⟨t365, A190, H⟩ := H
      replace H : (if t365 = 0 then (if t353 = true then (some false) else (if (t355 == (decide ((wrap64 (1 + (Go.bits .and .i64 a2 4095))) > 1))) = true then (if t357 = true then (some t359) else (some false)) else (some false))) else (some false)) = some r := H
      have A19 := Aside0.mk A190
      clear A190
      by_cases c20 : t365 = 0
      ·rw [if_pos c20] at H
       have c20b0 : (t365 == 0) = true := beq_iff_eq.mpr c20
       have c20b1 : (t365 != 0) = false := bne_eq_false_iff_eq.mpr c20
       clear c20
       by_cases c21 : t353 = true
       ·subst c21
        have H1 : (some false) = some r := by rw [if_pos rfl] at H; exact H
        clear H
        have H := H1
        clear H1
        exact absurd (Option.some.inj H) (by rw [HT.out]; decide)
       ·replace c21 := Bool.eq_false_iff.mpr c21
        subst c21
        have H1 : (if (t355 == (decide ((wrap64 (1 + (Go.bits .and .i64 a2 4095))) > 1))) = true then (if t357 = true then (some t359) else (some false)) else (some false)) = some r := by rw [if_neg (show ¬ (false = true) by decide)] at H; exact H
        clear H
        have H := H1
        clear H1
        by_cases c22 : (t355 == (decide ((wrap64 (1 + (Go.bits .and .i64 a2 4095))) > 1))) = true
        ·rw [if_pos c22] at H
         have c22b0 : (t355 == (decide ((wrap64 (1 + (Go.bits .and .i64 a2 4095))) > 1))) = true := c22
         (try (have c22b1 : decide (t355 = (decide ((wrap64 (1 + (Go.bits .and .i64 a2 4095))) > 1))) = true := by simpa using c22))
         (try (have c22b2 : (t355 == (decide ((wrap64 (1 + (Go.bits .and .i64 a2 4095))) > 1))) = true := by simpa using c22))
         clear c22
         by_cases c23 : t357 = true
         ·subst c23
          have H1 : (some t359) = some r := by rw [if_pos rfl] at H; exact H
          clear H
          have H := H1
          clear H1
          obtain rfl := Option.some.inj H
          go_enter Try.func7, Try.ntmps7
          go_wp2_with (first | ((with_reducible refine gate_callee (f := 24) rfl ?_); refine goesL_ (some 20) rfl rfl Try.func24 (by kernel_rfl) rfl #[] rfl (by (try simp only [List.map_toArray, List.map_cons, List.map_nil]); first | done | rfl | (simp only [List.length_drop, List.length_take]; rfl)) ?_; (with_reducible refine (watchwordlaw14_awake.calls k  true _ A4.out (by first | rfl | exact HT.out)).mono ?_); rintro e w24 ⟨rfl, hb⟩; refine ⟨_, rfl, ?_⟩; have n0_ := Aside0.mk (below_step (by repeat (first | (with_reducible first | exact HB.out | apply below_alloc | apply pw_below_drewN | apply below_drew1) | exact HB.out)) hb); clear HB; have HB := n0_; clear n0_; (try clear hb); (try clear hb2); (try clear hk); (try clear hi)) | ((with_reducible refine gate_callee (f := 16) rfl ?_); refine goesL_ (some 35) rfl rfl Try.func16 (by kernel_rfl) rfl #[.slice none 0 0, .agg #[.int .i64 1, .int .i64 1, .int .i64 (wrap64 ((wrap64 (1 + (Go.bits .and .i64 a0 4095))) + 1)), .int .i64 1]] rfl (by (try simp only [List.map_toArray, List.map_cons, List.map_nil]); first | done | rfl | (simp only [List.length_drop, List.length_take]; rfl)) ?_; (refine (last_With.calls k _ _ ([] : List (S24)) 1 1 (wrap64 ((wrap64 (1 + (Go.bits .and .i64 a0 4095))) + 1)) 1 t349 t352 _ ?side1 ?side2 A6.out).mono ?_); (case side1 => exact Kd.C_nil _ _); (case side2 => exact Nat.le_refl _); rintro e w25 ⟨v350, rfl, ho0, hb⟩; refine ⟨_, rfl, ?_⟩; have n0_ := Aside0.mk (Kd.R_lower ho0 (below_size (by repeat (first | (with_reducible first | exact HB.out | apply below_alloc | apply pw_below_drewN | apply below_drew1) | exact HB.out)))); have n1_ := Aside0.mk (below_step (by repeat (first | (with_reducible first | exact HB.out | apply below_alloc | apply pw_below_drewN | apply below_drew1) | exact HB.out)) hb); clear HB; have HO351 := n0_; have HB := n1_; clear n0_ n1_; (try clear hb); (try clear hb2); (try clear hk); (try clear hi); (try clear ho0); obtain ⟨Ao26, co26, eo26⟩ := Kd.R_slice HO351.out; subst eo26) | ((with_reducible refine gate_callee (f := 14) rfl ?_); refine goesL_ (some 43) rfl rfl Try.func14 (by kernel_rfl) rfl #[.slice Ao26 t349.length co26, .agg #[.int .i64 1, .int .i64 1, .int .i64 (wrap64 (1 + (Go.bits .and .i64 a0 4095))), .int .i64 (wrap64 (1 + (Go.bits .and .i64 a1 4095)))]] rfl (by (try simp only [List.map_toArray, List.map_cons, List.map_nil]); first | done | rfl | (simp only [List.length_drop, List.length_take]; rfl)) ?_; (with_reducible refine (last_Newer.calls k _ _ t349 1 1 (wrap64 (1 + (Go.bits .and .i64 a0 4095))) (wrap64 (1 + (Go.bits .and .i64 a1 4095))) false t354 _ ?side1 ?side2 A7.out).mono ?_); (case side1 => repeat (first | exact (Kd.R_reads' HO351.out).2.2 | (with_reducible refine Kd.C_alloc ?_ _) | (with_reducible refine Kd.C_drewN ?_ _) | (with_reducible refine Kd.C_drew ?_))); (case side2 => exact (Kd.R_reads' HO351.out).2.1); rintro e w27 ⟨rfl, hb⟩; refine ⟨_, rfl, ?_⟩; have n0_ := Aside0.mk (Kd.R_below (by (with_reducible repeat (first | apply Kd.R_alloc | apply Kd.R_drewN | apply Kd.R_drew)); exact HO351.out) hb); have n1_ := Aside0.mk (below_step (by repeat (first | (with_reducible first | exact HB.out | apply below_alloc | apply pw_below_drewN | apply below_drew1) | exact HB.out)) hb); clear HO351; clear HB; have HO351 := n0_; have HB := n1_; clear n0_ n1_; (try clear hb); (try clear hb2); (try clear hk); (try clear hi)) | ((with_reducible refine gate_callee (f := 14) rfl ?_); refine goesL_ (some 52) rfl rfl Try.func14 (by kernel_rfl) rfl #[.slice Ao26 t349.length co26, .agg #[.int .i64 1, .int .i64 1, .int .i64 (wrap64 ((wrap64 (1 + (Go.bits .and .i64 a0 4095))) + 1)), .int .i64 (wrap64 (1 + (Go.bits .and .i64 a2 4095)))]] rfl (by (try simp only [List.map_toArray, List.map_cons, List.map_nil]); first | done | rfl | (simp only [List.length_drop, List.length_take]; rfl)) ?_; (with_reducible refine (last_Newer.calls k _ _ t349 1 1 (wrap64 ((wrap64 (1 + (Go.bits .and .i64 a0 4095))) + 1)) (wrap64 (1 + (Go.bits .and .i64 a2 4095))) t355 t356 _ ?side1 ?side2 A8.out).mono ?_); (case side1 => repeat (first | exact (Kd.R_reads' HO351.out).2.2 | (with_reducible refine Kd.C_alloc ?_ _) | (with_reducible refine Kd.C_drewN ?_ _) | (with_reducible refine Kd.C_drew ?_))); (case side2 => exact (Kd.R_reads' HO351.out).2.1); rintro e w28 ⟨rfl, hb⟩; refine ⟨_, rfl, ?_⟩; have n0_ := Aside0.mk (Kd.R_below (by (with_reducible repeat (first | apply Kd.R_alloc | apply Kd.R_drewN | apply Kd.R_drew)); exact HO351.out) hb); have n1_ := Aside0.mk (below_step (by repeat (first | (with_reducible first | exact HB.out | apply below_alloc | apply pw_below_drewN | apply below_drew1) | exact HB.out)) hb); clear HO351; clear HB; have HO351 := n0_; have HB := n1_; clear n0_ n1_; (try clear hb); (try clear hb2); (try clear hk); (try clear hi)) | ((with_reducible refine gate_callee (f := 14) rfl ?_); refine goesL_ (some 60) rfl rfl Try.func14 (by kernel_rfl) rfl #[.slice Ao26 t349.length co26, .agg #[.int .i64 1, .int .i64 1, .int .i64 (wrap64 ((wrap64 (1 + (Go.bits .and .i64 a0 4095))) + 2)), .int .i64 1]] rfl (by (try simp only [List.map_toArray, List.map_cons, List.map_nil]); first | done | rfl | (simp only [List.length_drop, List.length_take]; rfl)) ?_; (with_reducible refine (last_Newer.calls k _ _ t349 1 1 (wrap64 ((wrap64 (1 + (Go.bits .and .i64 a0 4095))) + 2)) 1 true t358 _ ?side1 ?side2 A9.out).mono ?_); (case side1 => repeat (first | exact (Kd.R_reads' HO351.out).2.2 | (with_reducible refine Kd.C_alloc ?_ _) | (with_reducible refine Kd.C_drewN ?_ _) | (with_reducible refine Kd.C_drew ?_))); (case side2 => exact (Kd.R_reads' HO351.out).2.1); rintro e w29 ⟨rfl, hb⟩; refine ⟨_, rfl, ?_⟩; have n0_ := Aside0.mk (Kd.R_below (by (with_reducible repeat (first | apply Kd.R_alloc | apply Kd.R_drewN | apply Kd.R_drew)); exact HO351.out) hb); have n1_ := Aside0.mk (below_step (by repeat (first | (with_reducible first | exact HB.out | apply below_alloc | apply pw_below_drewN | apply below_drew1) | exact HB.out)) hb); clear HO351; clear HB; have HO351 := n0_; have HB := n1_; clear n0_ n1_; (try clear hb); (try clear hb2); (try clear hk); (try clear hi)) | ((with_reducible refine gate_callee (f := 14) rfl ?_); refine goesL_ (some 68) rfl rfl Try.func14 (by kernel_rfl) rfl #[.slice Ao26 t349.length co26, .agg #[.int .i64 1, .int .i64 5, .int .i64 (wrap64 (1 + (Go.bits .and .i64 a0 4095))), .int .i64 (wrap64 (1 + (Go.bits .and .i64 a1 4095)))]] rfl (by (try simp only [List.map_toArray, List.map_cons, List.map_nil]); first | done | rfl | (simp only [List.length_drop, List.length_take]; rfl)) ?_; (with_reducible refine (last_Newer.calls k _ _ t349 1 5 (wrap64 (1 + (Go.bits .and .i64 a0 4095))) (wrap64 (1 + (Go.bits .and .i64 a1 4095))) t359 t360 _ ?side1 ?side2 A10.out).mono ?_); (case side1 => repeat (first | exact (Kd.R_reads' HO351.out).2.2 | (with_reducible refine Kd.C_alloc ?_ _) | (with_reducible refine Kd.C_drewN ?_ _) | (with_reducible refine Kd.C_drew ?_))); (case side2 => exact (Kd.R_reads' HO351.out).2.1); rintro e w30 ⟨rfl, hb⟩; refine ⟨_, rfl, ?_⟩; have n0_ := Aside0.mk (Kd.R_below (by (with_reducible repeat (first | apply Kd.R_alloc | apply Kd.R_drewN | apply Kd.R_drew)); exact HO351.out) hb); have n1_ := Aside0.mk (below_step (by repeat (first | (with_reducible first | exact HB.out | apply below_alloc | apply pw_below_drewN | apply below_drew1) | exact HB.out)) hb); clear HO351; clear HB; have HO351 := n0_; have HB := n1_; clear n0_ n1_; (try clear hb); (try clear hb2); (try clear hk); (try clear hi)) | ((with_reducible refine gate_callee (f := 18) rfl ?_); refine goesL_ (some 72) rfl rfl Try.func18 (by kernel_rfl) rfl #[.int .i64 t352] rfl (by (try simp only [List.map_toArray, List.map_cons, List.map_nil]); first | done | rfl | (simp only [List.length_drop, List.length_take]; rfl)) ?_; (with_reducible refine (watchwordlaw0_Num.calls t352 t361 _ A11.out).mono ?_); rintro e w' ⟨rfl, ⟨nd, rfl⟩⟩; refine ⟨_, rfl, ?_⟩) | (go_at_call 18; (with_reducible refine (watchwordlaw0_Num.calls t354 t362 _ A13.out).mono ?_); rintro e w' ⟨rfl, ⟨nd, rfl⟩⟩) | (go_at_call 18; (with_reducible refine (watchwordlaw0_Num.calls t356 t363 _ A15.out).mono ?_); rintro e w' ⟨rfl, ⟨nd, rfl⟩⟩) | (go_at_call 18; (with_reducible refine (watchwordlaw0_Num.calls t358 t364 _ A17.out).mono ?_); rintro e w' ⟨rfl, ⟨nd, rfl⟩⟩) | (go_at_call 18; (with_reducible refine (watchwordlaw0_Num.calls t360 t365 _ A19.out).mono ?_); rintro e w' ⟨rfl, ⟨nd, rfl⟩⟩))
          go_ret
          exact ⟨by first | rfl | (simp [errW_none, errW_some] <;> rfl) | (simp [*, errW_none, errW_some] <;> rfl), by repeat (first | (with_reducible first | exact HB.out | apply below_alloc | apply pw_below_drewN | apply below_drew1) | exact HB.out)⟩
         ·replace c23 := Bool.eq_false_iff.mpr c23
          subst c23
          have H1 : (some false) = some r := by rw [if_neg (show ¬ (false = true) by decide)] at H; exact H
          clear H
          have H := H1
          clear H1
          exact absurd (Option.some.inj H) (by rw [HT.out]; decide)
        ·rw [if_neg c22] at H
         have c22b0 : (t355 == (decide ((wrap64 (1 + (Go.bits .and .i64 a2 4095))) > 1))) = false := by simpa using c22
         (try (have c22b1 : decide (t355 = (decide ((wrap64 (1 + (Go.bits .and .i64 a2 4095))) > 1))) = false := by simpa using c22))
         (try (have c22b2 : (t355 == (decide ((wrap64 (1 + (Go.bits .and .i64 a2 4095))) > 1))) = false := by simpa using c22))
         (try (have c22b3 : ¬ (t355 = (decide ((wrap64 (1 + (Go.bits .and .i64 a2 4095))) > 1))) := by simpa using c22))
         clear c22
         exact absurd (Option.some.inj H) (by rw [HT.out]; decide)
      ·rw [if_neg c20] at H
       have c20b0 : (t365 == 0) = false := beq_eq_false_iff_ne.mpr c20
       have c20b1 : (t365 != 0) = true := bne_iff_ne.mpr c20
       exact absurd (Option.some.inj H) (by rw [HT.out]; decide)
     ·rw [if_neg c18] at H
      have c18b0 : (t364 == 0) = false := beq_eq_false_iff_ne.mpr c18
      have c18b1 : (t364 != 0) = true := bne_iff_ne.mpr c18
      exact absurd (Option.some.inj H) (by rw [HT.out]; decide)
    ·rw [if_neg c16] at H
     have c16b0 : (t363 == 0) = false := beq_eq_false_iff_ne.mpr c16
     have c16b1 : (t363 != 0) = true := bne_iff_ne.mpr c16
     exact absurd (Option.some.inj H) (by rw [HT.out]; decide)
   ·rw [if_neg c14] at H
    have c14b0 : (t362 == 0) = false := beq_eq_false_iff_ne.mpr c14
    have c14b1 : (t362 != 0) = true := bne_iff_ne.mpr c14
    exact absurd (Option.some.inj H) (by rw [HT.out]; decide)
  ·rw [if_neg c12] at H
   have c12b0 : (t361 == 0) = false := beq_eq_false_iff_ne.mpr c12
   have c12b1 : (t361 != 0) = true := bne_iff_ne.mpr c12
   exact absurd (Option.some.inj H) (by rw [HT.out]; decide)
 ·replace c5 := Bool.eq_false_iff.mpr c5
  subst c5
  have H1 : (some false) = some r := by rw [if_neg (show ¬ (false = true) by decide)] at H; exact H
  clear H
  have H := H1
  clear H1
  exact absurd (Option.some.inj H) (by rw [HT.out]; decide)

/-- THE ONE PURE STATEMENT of watchwordlaw14_LastBoots: yours. -/
def watchwordlaw14_LastBoots.Pure : Prop := ∀ (a0 : Int) (a1 : Int) (a2 : Int), (Lit.int .i64 a0).wf = true → (Lit.int .i64 a1).wf = true → (Lit.int .i64 a2).wf = true → ∃ k, watchwordlaw14_LastBoots.f k a0 a1 a2 = some true
theorem watchwordlaw14_LastBoots.walk (P : watchwordlaw14_LastBoots.Pure) (a0 : Int) (a1 : Int) (a2 : Int) (w : World) (w0 : (Lit.int .i64 a0).wf = true) (w1 : (Lit.int .i64 a1).wf = true) (w2 : (Lit.int .i64 a2).wf = true) :
  Calls Try.prog 7 #[.int .i64 a0, .int .i64 a1, .int .i64 a2] w fun e w' => e = .returned (.bool true) ∧ Below w.heap.size w w' := by
 obtain ⟨k, h⟩ := P a0 a1 a2 w0 w1 w2
 refine (watchwordlaw14_LastBoots.calls k a0 a1 a2 true w h rfl).mono ?_
 rintro e w' ⟨rfl, hd⟩
 exact ⟨rfl, hd⟩

end Go.Proofs.Ytabjambabnbmnaa.Q14
