/- Written by a program of this session out of the print of the loaded functions: each Go function as a plain function, and that its call comes to it; for a law, the row out of its plain statement. -/
import Derived.Test.YtmcajcomoegkdaaQ10fx0
import Derived.Test.YtmcajcomoegkdaaQ10fx119
import Derived.Test.YtmcajcomoegkdaaQ10fx126
import Derived.Test.YtmcajcomoegkdaaQ10fx128
import Derived.Test.YtmcajcomoegkdaaQ10fx131
import Derived.Test.YtmcajcomoegkdaaQ10fx134
namespace Go.Proofs.Ytmcajcomoegkdaa.Q10f
open Go.RowKit Go.Proofs.YtmcajcomoegkdaaW.PrintWords Go.Proofs.YtmcajcomoegkdaaW.PrintLast Go.Proofs.YtmcajcomoegkdaaW.PrintMore
attribute [local go_sem] max2_int min2_int max_two min_two max_three min_three max_four min_four   -- for this text's walks alone
set_option linter.unusedVariables false
set_option linter.unusedSimpArgs false

/-! ### watchwordlaw10_UpdateForms: function 9 -/
theorem lit_event_ {P : Program} {ops : Array Oper} {rest : List Oper} {o : Oper} {a : Act} {Q : Exit → Act → World → Prop} {W : World} (hgd : o.guard = none) {N : Tmp} (_hd : o.dst = some N) {cs : Array Value} {t : TypeId} {n : Nat}
    (hrun : (execOp a.eval o).run P W = .ok (.value (.slice (some ⟨W.heap.size, 0, none⟩) n n)) (W.alloc (.cells cs t (0, 0))))
    (h : ∀ g, g = W.heap.size → ∀ w1, w1.heap[g]? = some (.cells cs t (0, 0)) → Below W.heap.size W w1 → wpList P ops Q rest (a.put o.dst (.slice (some ⟨g, 0, none⟩) n n)) w1) : wpList P ops Q (o :: rest) a W :=
  Kd.event_run hgd hrun (h _ rfl _ (blk_new W _) (below_alloc (Below.refl _ _) _))
mutual
def watchwordlaw10_UpdateForms.j0 : Nat → Int → List (S24) → Int → Int → Int → Int → Int → Int → Option (Bool)
 | 0, _, _, _, _, _, _, _, _ => none
 | k + 1, x1, x8, x207000, x207001, x207002, x208000, x208001, x208002 => (update_Put.f k x8).bind fun bt223 => ((update_Put.f k (([(⟨x207000, x207001, x207002, ([] : List (S49))⟩ : S24), (⟨x208000, x208001, x208002, ([] : List (S49))⟩ : S24)] : List (S24)))).bind fun bt228 => ((watchwordlaw0_Num.f bt228.2).bind fun t230 => (if t230 = 0 then (watchwordlaw10_UpdateForms.j1 k x1 x8 bt223.1 bt223.2 bt228.1 ((bt228.1.size : Int) != 19)) else (watchwordlaw10_UpdateForms.j1 k x1 x8 bt223.1 bt223.2 bt228.1 true))))
def watchwordlaw10_UpdateForms.j1 : Nat → Int → List (S24) → ByteArray → Int → ByteArray → Bool → Option (Bool)
 | 0, _, _, _, _, _, _ => none
 | k + 1, x1, x8, x9, x10, x11, x72 => if x72 = true then (some false) else (if 0 ≤ (wrap64 (Int.tmod (IntKind.u64.wrap (x1)) 19)) then (if (wrap64 (Int.tmod (IntKind.u64.wrap (x1)) 19)) ≤ (x11.size : Int) then ((update_Get.f k (x11.extract 0 ((wrap64 (Int.tmod (IntKind.u64.wrap (x1)) 19)) : Int).toNat)).bind fun bt231 => (if x11.size + 1 ≤ 9223372036854775807 then ((update_Get.f k (x11 ++ (⟨#[0]⟩ : ByteArray))).bind fun bt235 => (if 1 ≤ (x11.size : Int) then (if 1 + (x11.extract 1 x11.size).size ≤ 9223372036854775807 then ((update_Get.f k ((⟨#[1]⟩ : ByteArray) ++ (x11.extract 1 x11.size))).bind fun bt239 => ((update_Get.f k ((⟨#[3]⟩ : ByteArray) ++ (x11.extract 1 x11.size))).bind fun bt243 => (if 10 ≤ (x11.size : Int) then (if 1 + (x11.extract 10 x11.size).size ≤ 9223372036854775807 then (if 1 ≤ 10 then (if ((⟨#[2]⟩ : ByteArray) ++ (x11.extract 10 x11.size)).size + (x11.extract 1 10).size ≤ 9223372036854775807 then ((update_Get.f k (((⟨#[2]⟩ : ByteArray) ++ (x11.extract 10 x11.size)) ++ (x11.extract 1 10))).bind fun bt247 => ((update_May.f k x8).bind fun t251 => (if t251 = true then (some false) else (if x9.toList = ([] : List UInt8) then ((watchwordlaw0_Num.f x10).bind fun t252 => (if t252 = 1000 then ((watchwordlaw0_Num.f bt231.2).bind fun t253 => (if t253 = 1000 then ((watchwordlaw0_Num.f bt235.2).bind fun t254 => (if t254 = 1000 then ((watchwordlaw0_Num.f bt239.2).bind fun t255 => (if t255 = 1000 then ((watchwordlaw0_Num.f bt243.2).bind fun t256 => (if t256 = 1000 then ((watchwordlaw0_Num.f bt247.2).bind fun t257 => (some (t257 == 1000))) else (some false))) else (some false))) else (some false))) else (some false))) else (some false))) else (some false))))) else (none)) else (none)) else (none)) else (none)))) else (none)) else (none))) else (none))) else (none)) else (none))
end
def watchwordlaw10_UpdateForms.f (k : Nat) (a0 : Int) (a1 : Int) : Option (Bool) := (watchwordlaw10_awake.f k).bind fun t205 => (if t205 = true then (if (Int.tmod (IntKind.u64.wrap (a0)) 5) = 0 then (watchwordlaw10_UpdateForms.j0 k a1 (([(⟨0, 0, 0, ([] : List (S49))⟩ : S24)] : List (S24))) 1 5 0 3 6 0) else (if (Int.tmod (IntKind.u64.wrap (a0)) 5) = 1 then (watchwordlaw10_UpdateForms.j0 k a1 (([(⟨3, 6, 0, ([] : List (S49))⟩ : S24), (⟨1, 5, 0, ([] : List (S49))⟩ : S24)] : List (S24))) 1 5 0 3 6 0) else (if (Int.tmod (IntKind.u64.wrap (a0)) 5) = 2 then (watchwordlaw10_UpdateForms.j0 k a1 (([(⟨1, 5, 0, ([] : List (S49))⟩ : S24), (⟨1, 5, 0, ([] : List (S49))⟩ : S24)] : List (S24))) 1 5 0 3 6 0) else (if (Int.tmod (IntKind.u64.wrap (a0)) 5) = 3 then (watchwordlaw10_UpdateForms.j0 k a1 (([(⟨1, 5, 0, ([] : List (S49))⟩ : S24), (⟨2, 0, 0, ([] : List (S49))⟩ : S24), (⟨3, 6, 0, ([] : List (S49))⟩ : S24)] : List (S24))) 1 5 0 3 6 0) else (watchwordlaw10_UpdateForms.j0 k a1 (([(⟨1, 5, 0, ([] : List (S49))⟩ : S24), (⟨2, 1, 0, ([] : List (S49))⟩ : S24), (⟨3, 6, 0, ([] : List (S49))⟩ : S24), (⟨4, 1, 0, ([] : List (S49))⟩ : S24), (⟨4, 2, 0, ([] : List (S49))⟩ : S24)] : List (S24))) 1 5 0 3 6 0))))) else (some false))
theorem watchwordlaw10_UpdateForms.mono_l : ∀ k, (∀ y0 y1 y2 y3 y4 y5 y6 y7, LeO (watchwordlaw10_UpdateForms.j0 k y0 y1 y2 y3 y4 y5 y6 y7) (watchwordlaw10_UpdateForms.j0 (k + 1) y0 y1 y2 y3 y4 y5 y6 y7)) ∧ (∀ y0 y1 y2 y3 y4 y5, LeO (watchwordlaw10_UpdateForms.j1 k y0 y1 y2 y3 y4 y5) (watchwordlaw10_UpdateForms.j1 (k + 1) y0 y1 y2 y3 y4 y5))
 | 0 => ⟨fun _ _ _ _ _ _ _ _ r h => by simp [watchwordlaw10_UpdateForms.j0] at h, fun _ _ _ _ _ _ r h => by simp [watchwordlaw10_UpdateForms.j1] at h⟩
 | k + 1 => by
  obtain ⟨ih0, ih1⟩ := watchwordlaw10_UpdateForms.mono_l k
  refine ⟨?_, ?_⟩
  ·intro y0 y1 y2 y3 y4 y5 y6 y7
   unfold watchwordlaw10_UpdateForms.j0
   repeat' first
   | (with_reducible exact ih0 _ _ _ _ _ _ _ _)
   | (with_reducible exact ih1 _ _ _ _ _ _)
   | (with_reducible exact update_Get.mono _ _)
   | (with_reducible exact update_May.mono _ _)
   | (with_reducible exact update_Put.mono _ _)
   | (with_reducible exact watchwordlaw10_awake.mono _)
   | (with_reducible exact LeO.refl _)
   | (with_reducible exact LeO.none _)
   | (with_reducible refine LeO.ite ?_ ?_)
   | (with_reducible refine LeO.bind ?_ (fun _ => ?_))
   | exact ih0 _ _ _ _ _ _ _ _
   | exact ih1 _ _ _ _ _ _
   | exact update_Get.mono _ _
   | exact update_May.mono _ _
   | exact update_Put.mono _ _
   | exact watchwordlaw10_awake.mono _
   | exact LeO.none _
   | refine LeO.ite ?_ ?_
   | refine LeO.bind ?_ (fun _ => ?_)
  ·intro y0 y1 y2 y3 y4 y5
   unfold watchwordlaw10_UpdateForms.j1
   repeat' first
   | (with_reducible exact ih0 _ _ _ _ _ _ _ _)
   | (with_reducible exact ih1 _ _ _ _ _ _)
   | (with_reducible exact update_Get.mono _ _)
   | (with_reducible exact update_May.mono _ _)
   | (with_reducible exact update_Put.mono _ _)
   | (with_reducible exact watchwordlaw10_awake.mono _)
   | (with_reducible exact LeO.refl _)
   | (with_reducible exact LeO.none _)
   | (with_reducible refine LeO.ite ?_ ?_)
   | (with_reducible refine LeO.bind ?_ (fun _ => ?_))
   | exact ih0 _ _ _ _ _ _ _ _
   | exact ih1 _ _ _ _ _ _
   | exact update_Get.mono _ _
   | exact update_May.mono _ _
   | exact update_Put.mono _ _
   | exact watchwordlaw10_awake.mono _
   | exact LeO.none _
   | refine LeO.ite ?_ ?_
   | refine LeO.bind ?_ (fun _ => ?_)
theorem watchwordlaw10_UpdateForms.mono : ∀ a0 a1 k, LeO (watchwordlaw10_UpdateForms.f k a0 a1) (watchwordlaw10_UpdateForms.f (k + 1) a0 a1) := by
 intro a0 a1 k
 obtain ⟨ih0, ih1⟩ := watchwordlaw10_UpdateForms.mono_l k
 unfold watchwordlaw10_UpdateForms.f
 repeat' first
   | (with_reducible exact ih0 _ _ _ _ _ _ _ _)
   | (with_reducible exact ih1 _ _ _ _ _ _)
   | (with_reducible exact update_Get.mono _ _)
   | (with_reducible exact update_May.mono _ _)
   | (with_reducible exact update_Put.mono _ _)
   | (with_reducible exact watchwordlaw10_awake.mono _)
   | (with_reducible exact LeO.refl _)
   | (with_reducible exact LeO.none _)
   | (with_reducible refine LeO.ite ?_ ?_)
   | (with_reducible refine LeO.bind ?_ (fun _ => ?_))
   | exact ih0 _ _ _ _ _ _ _ _
   | exact ih1 _ _ _ _ _ _
   | exact update_Get.mono _ _
   | exact update_May.mono _ _
   | exact update_Put.mono _ _
   | exact watchwordlaw10_awake.mono _
   | exact LeO.none _
   | refine LeO.ite ?_ ?_
   | refine LeO.bind ?_ (fun _ => ?_)
def watchwordlaw10_UpdateForms.T14 : Bool × List (List Nat × List Nat) := (true, [([], []), ([0], [0]), ([1], [1]), ([], []), ([3], [3]), ([2, 4], [2, 4]), ([5], [5]), ([6], [6]), ([7], [7]), ([7], [7]), ([8, 6, 0, 1, 2, 3, 4, 5, 6, 7, 8], [8]), ([9, 10, 0, 1, 2, 3, 4, 5, 6, 7, 8, 9, 10], [9])])
def watchwordlaw10_UpdateForms.B14 : List Nat := [0, 1, 3, 0, 8, 31, 63, 127, 255, 255, 511, 2047]
theorem watchwordlaw10_UpdateForms.tab14 : rtab .any (opsOf Try.f9 14) = watchwordlaw10_UpdateForms.T14 := by kernel_rfl
theorem watchwordlaw10_UpdateForms.bits14 : waitsOk watchwordlaw10_UpdateForms.T14.2 watchwordlaw10_UpdateForms.B14 = true := by kernel_rfl
set_option maxHeartbeats 8000000 in
set_option maxRecDepth 100000 in
theorem watchwordlaw10_UpdateForms.calls (k : Nat) (a0 : Int) (a1 : Int) (r : Bool) (w : World) (h : watchwordlaw10_UpdateForms.f k a0 a1 = some r) (hT : r = true) :
  Calls Try.prog 9 #[.int .i64 a0, .int .i64 a1] w fun e w' => e = .returned (.bool r) ∧ Below w.heap.size w w' := by
 have hu24 := Try.underlying24
 have HB := Aside0.mk (Below.refl w.heap.size w)
 have HT := Aside0.mk hT
 clear hT
 have H : ((watchwordlaw10_awake.f k).bind fun t205 => (if t205 = true then (if (Int.tmod (IntKind.u64.wrap (a0)) 5) = 0 then (watchwordlaw10_UpdateForms.j0 k a1 (([(⟨0, 0, 0, ([] : List (S49))⟩ : S24)] : List (S24))) 1 5 0 3 6 0) else (if (Int.tmod (IntKind.u64.wrap (a0)) 5) = 1 then (watchwordlaw10_UpdateForms.j0 k a1 (([(⟨3, 6, 0, ([] : List (S49))⟩ : S24), (⟨1, 5, 0, ([] : List (S49))⟩ : S24)] : List (S24))) 1 5 0 3 6 0) else (if (Int.tmod (IntKind.u64.wrap (a0)) 5) = 2 then (watchwordlaw10_UpdateForms.j0 k a1 (([(⟨1, 5, 0, ([] : List (S49))⟩ : S24), (⟨1, 5, 0, ([] : List (S49))⟩ : S24)] : List (S24))) 1 5 0 3 6 0) else (if (Int.tmod (IntKind.u64.wrap (a0)) 5) = 3 then (watchwordlaw10_UpdateForms.j0 k a1 (([(⟨1, 5, 0, ([] : List (S49))⟩ : S24), (⟨2, 0, 0, ([] : List (S49))⟩ : S24), (⟨3, 6, 0, ([] : List (S49))⟩ : S24)] : List (S24))) 1 5 0 3 6 0) else (watchwordlaw10_UpdateForms.j0 k a1 (([(⟨1, 5, 0, ([] : List (S49))⟩ : S24), (⟨2, 1, 0, ([] : List (S49))⟩ : S24), (⟨3, 6, 0, ([] : List (S49))⟩ : S24), (⟨4, 1, 0, ([] : List (S49))⟩ : S24), (⟨4, 2, 0, ([] : List (S49))⟩ : S24)] : List (S24))) 1 5 0 3 6 0))))) else (some false))) = some r := h
 clear h
 replace H := Option.bind_eq_some_iff.mp H
 obtain ⟨t205, A30, H⟩ := H
 replace H : (if t205 = true then (if (Int.tmod (IntKind.u64.wrap (a0)) 5) = 0 then (watchwordlaw10_UpdateForms.j0 k a1 (([(⟨0, 0, 0, ([] : List (S49))⟩ : S24)] : List (S24))) 1 5 0 3 6 0) else (if (Int.tmod (IntKind.u64.wrap (a0)) 5) = 1 then (watchwordlaw10_UpdateForms.j0 k a1 (([(⟨3, 6, 0, ([] : List (S49))⟩ : S24), (⟨1, 5, 0, ([] : List (S49))⟩ : S24)] : List (S24))) 1 5 0 3 6 0) else (if (Int.tmod (IntKind.u64.wrap (a0)) 5) = 2 then (watchwordlaw10_UpdateForms.j0 k a1 (([(⟨1, 5, 0, ([] : List (S49))⟩ : S24), (⟨1, 5, 0, ([] : List (S49))⟩ : S24)] : List (S24))) 1 5 0 3 6 0) else (if (Int.tmod (IntKind.u64.wrap (a0)) 5) = 3 then (watchwordlaw10_UpdateForms.j0 k a1 (([(⟨1, 5, 0, ([] : List (S49))⟩ : S24), (⟨2, 0, 0, ([] : List (S49))⟩ : S24), (⟨3, 6, 0, ([] : List (S49))⟩ : S24)] : List (S24))) 1 5 0 3 6 0) else (watchwordlaw10_UpdateForms.j0 k a1 (([(⟨1, 5, 0, ([] : List (S49))⟩ : S24), (⟨2, 1, 0, ([] : List (S49))⟩ : S24), (⟨3, 6, 0, ([] : List (S49))⟩ : S24), (⟨4, 1, 0, ([] : List (S49))⟩ : S24), (⟨4, 2, 0, ([] : List (S49))⟩ : S24)] : List (S24))) 1 5 0 3 6 0))))) else (some false)) = some r := H
 have A3 := Aside0.mk A30
 clear A30
 by_cases c4 : t205 = true
 ·subst c4
  have H1 : (if (Int.tmod (IntKind.u64.wrap (a0)) 5) = 0 then (watchwordlaw10_UpdateForms.j0 k a1 (([(⟨0, 0, 0, ([] : List (S49))⟩ : S24)] : List (S24))) 1 5 0 3 6 0) else (if (Int.tmod (IntKind.u64.wrap (a0)) 5) = 1 then (watchwordlaw10_UpdateForms.j0 k a1 (([(⟨3, 6, 0, ([] : List (S49))⟩ : S24), (⟨1, 5, 0, ([] : List (S49))⟩ : S24)] : List (S24))) 1 5 0 3 6 0) else (if (Int.tmod (IntKind.u64.wrap (a0)) 5) = 2 then (watchwordlaw10_UpdateForms.j0 k a1 (([(⟨1, 5, 0, ([] : List (S49))⟩ : S24), (⟨1, 5, 0, ([] : List (S49))⟩ : S24)] : List (S24))) 1 5 0 3 6 0) else (if (Int.tmod (IntKind.u64.wrap (a0)) 5) = 3 then (watchwordlaw10_UpdateForms.j0 k a1 (([(⟨1, 5, 0, ([] : List (S49))⟩ : S24), (⟨2, 0, 0, ([] : List (S49))⟩ : S24), (⟨3, 6, 0, ([] : List (S49))⟩ : S24)] : List (S24))) 1 5 0 3 6 0) else (watchwordlaw10_UpdateForms.j0 k a1 (([(⟨1, 5, 0, ([] : List (S49))⟩ : S24), (⟨2, 1, 0, ([] : List (S49))⟩ : S24), (⟨3, 6, 0, ([] : List (S49))⟩ : S24), (⟨4, 1, 0, ([] : List (S49))⟩ : S24), (⟨4, 2, 0, ([] : List (S49))⟩ : S24)] : List (S24))) 1 5 0 3 6 0))))) = some r := by rw [if_pos rfl] at H; exact H
  clear H
  have H := H1
  clear H1
  obtain ⟨y208, hy208⟩ : ∃ y_ : List (S24), y_ = (([(⟨0, 0, 0, ([] : List (S49))⟩ : S24)] : List (S24))) := ⟨_, rfl⟩
  replace H : (if (Int.tmod (IntKind.u64.wrap (a0)) 5) = 0 then (watchwordlaw10_UpdateForms.j0 k a1 y208 1 5 0 3 6 0) else (if (Int.tmod (IntKind.u64.wrap (a0)) 5) = 1 then (watchwordlaw10_UpdateForms.j0 k a1 (([(⟨3, 6, 0, ([] : List (S49))⟩ : S24), (⟨1, 5, 0, ([] : List (S49))⟩ : S24)] : List (S24))) 1 5 0 3 6 0) else (if (Int.tmod (IntKind.u64.wrap (a0)) 5) = 2 then (watchwordlaw10_UpdateForms.j0 k a1 (([(⟨1, 5, 0, ([] : List (S49))⟩ : S24), (⟨1, 5, 0, ([] : List (S49))⟩ : S24)] : List (S24))) 1 5 0 3 6 0) else (if (Int.tmod (IntKind.u64.wrap (a0)) 5) = 3 then (watchwordlaw10_UpdateForms.j0 k a1 (([(⟨1, 5, 0, ([] : List (S49))⟩ : S24), (⟨2, 0, 0, ([] : List (S49))⟩ : S24), (⟨3, 6, 0, ([] : List (S49))⟩ : S24)] : List (S24))) 1 5 0 3 6 0) else (watchwordlaw10_UpdateForms.j0 k a1 (([(⟨1, 5, 0, ([] : List (S49))⟩ : S24), (⟨2, 1, 0, ([] : List (S49))⟩ : S24), (⟨3, 6, 0, ([] : List (S49))⟩ : S24), (⟨4, 1, 0, ([] : List (S49))⟩ : S24), (⟨4, 2, 0, ([] : List (S49))⟩ : S24)] : List (S24))) 1 5 0 3 6 0))))) = some r := by first | (rw [hy208]; with_reducible exact H) | (have H2_ := (Option.bind_some _ _).symm.trans H; rw [hy208]; with_reducible exact H2_) | (have H2_ := (Option.bind_some _ _).symm.trans H; with_reducible exact H2_) | with_reducible exact H | (rw [hy208]; exact H) | exact H
  have Ny208 := Aside0.mk hy208
  clear hy208
  obtain ⟨y211, hy211⟩ : ∃ y_ : List (S24), y_ = (([(⟨3, 6, 0, ([] : List (S49))⟩ : S24), (⟨1, 5, 0, ([] : List (S49))⟩ : S24)] : List (S24))) := ⟨_, rfl⟩
  replace H : (if (Int.tmod (IntKind.u64.wrap (a0)) 5) = 0 then (watchwordlaw10_UpdateForms.j0 k a1 y208 1 5 0 3 6 0) else (if (Int.tmod (IntKind.u64.wrap (a0)) 5) = 1 then (watchwordlaw10_UpdateForms.j0 k a1 y211 1 5 0 3 6 0) else (if (Int.tmod (IntKind.u64.wrap (a0)) 5) = 2 then (watchwordlaw10_UpdateForms.j0 k a1 (([(⟨1, 5, 0, ([] : List (S49))⟩ : S24), (⟨1, 5, 0, ([] : List (S49))⟩ : S24)] : List (S24))) 1 5 0 3 6 0) else (if (Int.tmod (IntKind.u64.wrap (a0)) 5) = 3 then (watchwordlaw10_UpdateForms.j0 k a1 (([(⟨1, 5, 0, ([] : List (S49))⟩ : S24), (⟨2, 0, 0, ([] : List (S49))⟩ : S24), (⟨3, 6, 0, ([] : List (S49))⟩ : S24)] : List (S24))) 1 5 0 3 6 0) else (watchwordlaw10_UpdateForms.j0 k a1 (([(⟨1, 5, 0, ([] : List (S49))⟩ : S24), (⟨2, 1, 0, ([] : List (S49))⟩ : S24), (⟨3, 6, 0, ([] : List (S49))⟩ : S24), (⟨4, 1, 0, ([] : List (S49))⟩ : S24), (⟨4, 2, 0, ([] : List (S49))⟩ : S24)] : List (S24))) 1 5 0 3 6 0))))) = some r := by first | (rw [hy211]; with_reducible exact H) | (have H2_ := (Option.bind_some _ _).symm.trans H; rw [hy211]; with_reducible exact H2_) | (have H2_ := (Option.bind_some _ _).symm.trans H; with_reducible exact H2_) | with_reducible exact H | (rw [hy211]; exact H) | exact H
  have Ny211 := Aside0.mk hy211
  clear hy211
  obtain ⟨y214, hy214⟩ : ∃ y_ : List (S24), y_ = (([(⟨1, 5, 0, ([] : List (S49))⟩ : S24), (⟨1, 5, 0, ([] : List (S49))⟩ : S24)] : List (S24))) := ⟨_, rfl⟩
  replace H : (if (Int.tmod (IntKind.u64.wrap (a0)) 5) = 0 then (watchwordlaw10_UpdateForms.j0 k a1 y208 1 5 0 3 6 0) else (if (Int.tmod (IntKind.u64.wrap (a0)) 5) = 1 then (watchwordlaw10_UpdateForms.j0 k a1 y211 1 5 0 3 6 0) else (if (Int.tmod (IntKind.u64.wrap (a0)) 5) = 2 then (watchwordlaw10_UpdateForms.j0 k a1 y214 1 5 0 3 6 0) else (if (Int.tmod (IntKind.u64.wrap (a0)) 5) = 3 then (watchwordlaw10_UpdateForms.j0 k a1 (([(⟨1, 5, 0, ([] : List (S49))⟩ : S24), (⟨2, 0, 0, ([] : List (S49))⟩ : S24), (⟨3, 6, 0, ([] : List (S49))⟩ : S24)] : List (S24))) 1 5 0 3 6 0) else (watchwordlaw10_UpdateForms.j0 k a1 (([(⟨1, 5, 0, ([] : List (S49))⟩ : S24), (⟨2, 1, 0, ([] : List (S49))⟩ : S24), (⟨3, 6, 0, ([] : List (S49))⟩ : S24), (⟨4, 1, 0, ([] : List (S49))⟩ : S24), (⟨4, 2, 0, ([] : List (S49))⟩ : S24)] : List (S24))) 1 5 0 3 6 0))))) = some r := by first | (rw [hy214]; with_reducible exact H) | (have H2_ := (Option.bind_some _ _).symm.trans H; rw [hy214]; with_reducible exact H2_) | (have H2_ := (Option.bind_some _ _).symm.trans H; with_reducible exact H2_) | with_reducible exact H | (rw [hy214]; exact H) | exact H
  have Ny214 := Aside0.mk hy214
  clear hy214
  obtain ⟨y217, hy217⟩ : ∃ y_ : List (S24), y_ = (([(⟨1, 5, 0, ([] : List (S49))⟩ : S24), (⟨2, 0, 0, ([] : List (S49))⟩ : S24), (⟨3, 6, 0, ([] : List (S49))⟩ : S24)] : List (S24))) := ⟨_, rfl⟩
  replace H : (if (Int.tmod (IntKind.u64.wrap (a0)) 5) = 0 then (watchwordlaw10_UpdateForms.j0 k a1 y208 1 5 0 3 6 0) else (if (Int.tmod (IntKind.u64.wrap (a0)) 5) = 1 then (watchwordlaw10_UpdateForms.j0 k a1 y211 1 5 0 3 6 0) else (if (Int.tmod (IntKind.u64.wrap (a0)) 5) = 2 then (watchwordlaw10_UpdateForms.j0 k a1 y214 1 5 0 3 6 0) else (if (Int.tmod (IntKind.u64.wrap (a0)) 5) = 3 then (watchwordlaw10_UpdateForms.j0 k a1 y217 1 5 0 3 6 0) else (watchwordlaw10_UpdateForms.j0 k a1 (([(⟨1, 5, 0, ([] : List (S49))⟩ : S24), (⟨2, 1, 0, ([] : List (S49))⟩ : S24), (⟨3, 6, 0, ([] : List (S49))⟩ : S24), (⟨4, 1, 0, ([] : List (S49))⟩ : S24), (⟨4, 2, 0, ([] : List (S49))⟩ : S24)] : List (S24))) 1 5 0 3 6 0))))) = some r := by first | (rw [hy217]; with_reducible exact H) | (have H2_ := (Option.bind_some _ _).symm.trans H; rw [hy217]; with_reducible exact H2_) | (have H2_ := (Option.bind_some _ _).symm.trans H; with_reducible exact H2_) | with_reducible exact H | (rw [hy217]; exact H) | exact H
  have Ny217 := Aside0.mk hy217
  clear hy217
  obtain ⟨y220, hy220⟩ : ∃ y_ : List (S24), y_ = (([(⟨1, 5, 0, ([] : List (S49))⟩ : S24), (⟨2, 1, 0, ([] : List (S49))⟩ : S24), (⟨3, 6, 0, ([] : List (S49))⟩ : S24), (⟨4, 1, 0, ([] : List (S49))⟩ : S24), (⟨4, 2, 0, ([] : List (S49))⟩ : S24)] : List (S24))) := ⟨_, rfl⟩
  replace H : (if (Int.tmod (IntKind.u64.wrap (a0)) 5) = 0 then (watchwordlaw10_UpdateForms.j0 k a1 y208 1 5 0 3 6 0) else (if (Int.tmod (IntKind.u64.wrap (a0)) 5) = 1 then (watchwordlaw10_UpdateForms.j0 k a1 y211 1 5 0 3 6 0) else (if (Int.tmod (IntKind.u64.wrap (a0)) 5) = 2 then (watchwordlaw10_UpdateForms.j0 k a1 y214 1 5 0 3 6 0) else (if (Int.tmod (IntKind.u64.wrap (a0)) 5) = 3 then (watchwordlaw10_UpdateForms.j0 k a1 y217 1 5 0 3 6 0) else (watchwordlaw10_UpdateForms.j0 k a1 y220 1 5 0 3 6 0))))) = some r := by first | (rw [hy220]; with_reducible exact H) | (have H2_ := (Option.bind_some _ _).symm.trans H; rw [hy220]; with_reducible exact H2_) | (have H2_ := (Option.bind_some _ _).symm.trans H; with_reducible exact H2_) | with_reducible exact H | (rw [hy220]; exact H) | exact H
  have Ny220 := Aside0.mk hy220
  clear hy220
  have HC5 := Aside0.mk H
  clear H
  go_enter Try.func9, Try.ntmps9
  go_upto_region 5 with (first | ((with_reducible refine gate_callee (f := 34) rfl ?_); refine goesL_ (some 23) rfl rfl Try.func34 (by kernel_rfl) rfl #[] rfl (by (try simp only [List.map_toArray, List.map_cons, List.map_nil]); first | done | rfl | (simp only [List.length_drop, List.length_take]; rfl)) ?_; (with_reducible refine (watchwordlaw10_awake.calls k  true _ A3.out (by first | rfl | exact HT.out)).mono ?_); rintro e w6 ⟨rfl, hb⟩; refine ⟨_, rfl, ?_⟩; have n0_ := Aside0.mk (below_step (by repeat (first | (with_reducible first | exact HB.out | apply below_alloc | apply pw_below_drewN | apply below_drew1) | exact HB.out)) hb); clear HB; have HB := n0_; clear n0_; (try clear hb); (try clear hb2); (try clear hk); (try clear hi)) | ((with_reducible refine gate_dst (N := 5) rfl ?_); (try (refine gate_guard (by rfl) ?_; dsimp only)); refine box_event ?hg (N := 5) ?hd (cs := #[.int .i64 0, .int .i64 0, .int .i64 0, .slice none 0 0]) (t := 24) ?hr ?_; (case hd => rfl); (case hg => rfl); (case hr => first | (go_simp; done) | (go_simp; rfl)); intro gb206 hg w7 hbox hb; have n0_ := Aside0.mk (below_step (by repeat (first | (with_reducible first | exact HB.out | apply below_alloc | apply pw_below_drewN | apply below_drew1) | exact HB.out)) hb); have n1_ := Aside0.mk (hbox); have n2_ := Aside0.mk ((by rw [hg]; exact (below_size (by repeat (first | (with_reducible first | exact HB.out | apply below_alloc | apply pw_below_drewN | apply below_drew1) | exact HB.out))) : w.heap.size ≤ gb206)); have n3_ := Aside0.mk ((by rw [hg]; exact (below_size (by repeat (first | (with_reducible first | exact HB.out | apply below_alloc | apply pw_below_drewN | apply below_drew1) | exact HB.out))) : w.heap.size ≤ gb206)); clear HB; have HB := n0_; have BK206 := n1_; have GW206 := n2_; have GE206 := n3_; clear n0_ n1_ n2_ n3_; clear hb hbox hg) | ((with_reducible refine gate_dst (N := 6) rfl ?_); (try (refine gate_guard (by rfl) ?_; dsimp only)); refine box_event ?hg (N := 6) ?hd (cs := #[.int .i64 0, .int .i64 0, .int .i64 0, .slice none 0 0]) (t := 24) ?hr ?_; (case hd => rfl); (case hg => rfl); (case hr => first | (go_simp; done) | (go_simp; rfl)); intro gb207 hg w8 hbox hb; have n0_ := Aside0.mk (blk_below (g := gb206) (o := .cells #[.int .i64 0, .int .i64 0, .int .i64 0, .slice none 0 0] 24 (0, 0)) (by (with_reducible repeat (first | refine blk_drewN ?_ _ | refine blk_drew ?_ | refine blk_alloc ?_ _)); exact BK206.out) hb); have n1_ := Aside0.mk (below_step (by repeat (first | (with_reducible first | exact HB.out | apply below_alloc | apply pw_below_drewN | apply below_drew1 | refine below_set ?_ GE206.out) | exact HB.out)) hb); have n2_ := Aside0.mk (hbox); have n3_ := Aside0.mk ((by rw [hg]; exact (below_size (by repeat (first | (with_reducible first | exact HB.out | apply below_alloc | apply pw_below_drewN | apply below_drew1 | refine below_set ?_ GE206.out) | exact HB.out))) : w.heap.size ≤ gb207)); have n4_ := Aside0.mk ((by rw [hg]; exact (below_size (by repeat (first | (with_reducible first | exact HB.out | apply below_alloc | apply pw_below_drewN | apply below_drew1 | refine below_set ?_ GE206.out) | exact HB.out))) : w.heap.size ≤ gb207)); have n5_ := Aside0.mk ((by rw [hg]; exact Nat.ne_of_lt (blk_lt (g := gb206) (o := .cells #[.int .i64 0, .int .i64 0, .int .i64 0, .slice none 0 0] 24 (0, 0)) (by (with_reducible repeat (first | refine blk_drewN ?_ _ | refine blk_drew ?_ | refine blk_alloc ?_ _)); exact BK206.out)) : gb206 ≠ gb207)); have n6_ := Aside0.mk ((by rw [hg]; exact Nat.ne_of_gt (blk_lt (g := gb206) (o := .cells #[.int .i64 0, .int .i64 0, .int .i64 0, .slice none 0 0] 24 (0, 0)) (by (with_reducible repeat (first | refine blk_drewN ?_ _ | refine blk_drew ?_ | refine blk_alloc ?_ _)); exact BK206.out)) : gb207 ≠ gb206)); clear BK206; clear HB; have BK206 := n0_; have HB := n1_; have BK207 := n2_; have GW207 := n3_; have GE207 := n4_; have NB206_207 := n5_; have NB207_206 := n6_; clear n0_ n1_ n2_ n3_ n4_ n5_ n6_; clear hb hbox hg; have hnb9 := NB206_207.out; have hnc9 := NB207_206.out; have hcz10_0 : w8.cell? ⟨gb206, 0, none⟩ = some (.int .i64 0) := (blk_cell BK206.out 0).trans rfl; have hcz10_1 : w8.cell? ⟨gb206, 1, none⟩ = some (.int .i64 0) := (blk_cell BK206.out 1).trans rfl; have hcz10_2 : w8.cell? ⟨gb206, 2, none⟩ = some (.int .i64 0) := (blk_cell BK206.out 2).trans rfl; have hcz10_3 : w8.cell? ⟨gb206, 3, none⟩ = some (.slice none 0 0) := (blk_cell BK206.out 3).trans rfl; have hfz10_0 := blk_frozen BK206.out 0; have hfz10_1 := blk_frozen BK206.out 1; have hfz10_2 := blk_frozen BK206.out 2; have hfz10_3 := blk_frozen BK206.out 3) | ((with_reducible refine gate_store (t := 24) (p := 5) rfl ?_); refine store_event (t := 24) (p := 5) (v := ?vo_w11) (w1 := ((((w8.setCell ⟨gb206, 0, none⟩ (.int .i64 1)).setCell ⟨gb206, 1, none⟩ (.int .i64 5)).setCell ⟨gb206, 2, none⟩ (.int .i64 0)).setCell ⟨gb206, 3, none⟩ (.slice none 0 0))) ?hg ?ho ?hn ?hr ?_; (case ho => rfl); (case hg => rfl); (case hn => rfl); (case hr => first | (go_simp; done) | (go_simp; rfl)); intro w11 hw; have n0_ : Aside0 (w11.heap[gb206]? = some (.cells #[.int .i64 1, .int .i64 5, .int .i64 0, .slice none 0 0] 24 (0, 0))) := ⟨(by rw [hw]; exact (by (with_reducible repeat (first | refine blk_drewN ?_ _ | refine blk_drew ?_ | refine blk_alloc ?_ _)); refine blk_put (cs := #[.int .i64 1, .int .i64 5, .int .i64 0, .slice none 0 0]) ?_ 3 _ rfl; (with_reducible repeat (first | refine blk_drewN ?_ _ | refine blk_drew ?_ | refine blk_alloc ?_ _)); refine blk_put (cs := #[.int .i64 1, .int .i64 5, .int .i64 0, .slice none 0 0]) ?_ 2 _ rfl; (with_reducible repeat (first | refine blk_drewN ?_ _ | refine blk_drew ?_ | refine blk_alloc ?_ _)); refine blk_put (cs := #[.int .i64 1, .int .i64 0, .int .i64 0, .slice none 0 0]) ?_ 1 _ rfl; (with_reducible repeat (first | refine blk_drewN ?_ _ | refine blk_drew ?_ | refine blk_alloc ?_ _)); refine blk_put (cs := #[.int .i64 0, .int .i64 0, .int .i64 0, .slice none 0 0]) ?_ 0 _ rfl; (with_reducible repeat (first | refine blk_drewN ?_ _ | refine blk_drew ?_ | refine blk_alloc ?_ _)); exact BK206.out))⟩; have n1_ : Aside0 (w11.heap[gb207]? = some (.cells #[.int .i64 0, .int .i64 0, .int .i64 0, .slice none 0 0] 24 (0, 0))) := ⟨(by rw [hw]; exact (by (with_reducible repeat (first | refine blk_drewN ?_ _ | refine blk_drew ?_ | refine blk_alloc ?_ _)); refine blk_far ?_ NB207_206.out _; (with_reducible repeat (first | refine blk_drewN ?_ _ | refine blk_drew ?_ | refine blk_alloc ?_ _)); refine blk_far ?_ NB207_206.out _; (with_reducible repeat (first | refine blk_drewN ?_ _ | refine blk_drew ?_ | refine blk_alloc ?_ _)); refine blk_far ?_ NB207_206.out _; (with_reducible repeat (first | refine blk_drewN ?_ _ | refine blk_drew ?_ | refine blk_alloc ?_ _)); refine blk_far ?_ NB207_206.out _; (with_reducible repeat (first | refine blk_drewN ?_ _ | refine blk_drew ?_ | refine blk_alloc ?_ _)); exact BK207.out))⟩; have n2_ : Aside0 (Below w.heap.size w w11) := ⟨(by rw [hw]; exact (by repeat (first | (with_reducible first | exact HB.out | apply below_alloc | apply pw_below_drewN | apply below_drew1 | refine below_set ?_ GE206.out | refine below_set ?_ GE207.out) | exact HB.out)))⟩; clear hw; clear BK206; clear BK207; clear HB; have BK206 := n0_; have BK207 := n1_; have HB := n2_; clear n0_ n1_ n2_; have hcz12_0 : w11.cell? ⟨gb207, 0, none⟩ = some (.int .i64 0) := (blk_cell BK207.out 0).trans rfl; have hcz12_1 : w11.cell? ⟨gb207, 1, none⟩ = some (.int .i64 0) := (blk_cell BK207.out 1).trans rfl; have hcz12_2 : w11.cell? ⟨gb207, 2, none⟩ = some (.int .i64 0) := (blk_cell BK207.out 2).trans rfl; have hcz12_3 : w11.cell? ⟨gb207, 3, none⟩ = some (.slice none 0 0) := (blk_cell BK207.out 3).trans rfl; have hfz12_0 := blk_frozen BK207.out 0; have hfz12_1 := blk_frozen BK207.out 1; have hfz12_2 := blk_frozen BK207.out 2; have hfz12_3 := blk_frozen BK207.out 3) | ((with_reducible refine gate_store (t := 24) (p := 6) rfl ?_); refine store_event (t := 24) (p := 6) (v := ?vo_w13) (w1 := ((((w11.setCell ⟨gb207, 0, none⟩ (.int .i64 3)).setCell ⟨gb207, 1, none⟩ (.int .i64 6)).setCell ⟨gb207, 2, none⟩ (.int .i64 0)).setCell ⟨gb207, 3, none⟩ (.slice none 0 0))) ?hg ?ho ?hn ?hr ?_; (case ho => rfl); (case hg => rfl); (case hn => rfl); (case hr => first | (go_simp; done) | (go_simp; rfl)); intro w13 hw; have n0_ : Aside0 (w13.heap[gb206]? = some (.cells #[.int .i64 1, .int .i64 5, .int .i64 0, .slice none 0 0] 24 (0, 0))) := ⟨(by rw [hw]; exact (by (with_reducible repeat (first | refine blk_drewN ?_ _ | refine blk_drew ?_ | refine blk_alloc ?_ _)); refine blk_far ?_ NB206_207.out _; (with_reducible repeat (first | refine blk_drewN ?_ _ | refine blk_drew ?_ | refine blk_alloc ?_ _)); refine blk_far ?_ NB206_207.out _; (with_reducible repeat (first | refine blk_drewN ?_ _ | refine blk_drew ?_ | refine blk_alloc ?_ _)); refine blk_far ?_ NB206_207.out _; (with_reducible repeat (first | refine blk_drewN ?_ _ | refine blk_drew ?_ | refine blk_alloc ?_ _)); refine blk_far ?_ NB206_207.out _; (with_reducible repeat (first | refine blk_drewN ?_ _ | refine blk_drew ?_ | refine blk_alloc ?_ _)); exact BK206.out))⟩; have n1_ : Aside0 (w13.heap[gb207]? = some (.cells #[.int .i64 3, .int .i64 6, .int .i64 0, .slice none 0 0] 24 (0, 0))) := ⟨(by rw [hw]; exact (by (with_reducible repeat (first | refine blk_drewN ?_ _ | refine blk_drew ?_ | refine blk_alloc ?_ _)); refine blk_put (cs := #[.int .i64 3, .int .i64 6, .int .i64 0, .slice none 0 0]) ?_ 3 _ rfl; (with_reducible repeat (first | refine blk_drewN ?_ _ | refine blk_drew ?_ | refine blk_alloc ?_ _)); refine blk_put (cs := #[.int .i64 3, .int .i64 6, .int .i64 0, .slice none 0 0]) ?_ 2 _ rfl; (with_reducible repeat (first | refine blk_drewN ?_ _ | refine blk_drew ?_ | refine blk_alloc ?_ _)); refine blk_put (cs := #[.int .i64 3, .int .i64 0, .int .i64 0, .slice none 0 0]) ?_ 1 _ rfl; (with_reducible repeat (first | refine blk_drewN ?_ _ | refine blk_drew ?_ | refine blk_alloc ?_ _)); refine blk_put (cs := #[.int .i64 0, .int .i64 0, .int .i64 0, .slice none 0 0]) ?_ 0 _ rfl; (with_reducible repeat (first | refine blk_drewN ?_ _ | refine blk_drew ?_ | refine blk_alloc ?_ _)); exact BK207.out))⟩; have n2_ : Aside0 (Below w.heap.size w w13) := ⟨(by rw [hw]; exact (by repeat (first | (with_reducible first | exact HB.out | apply below_alloc | apply pw_below_drewN | apply below_drew1 | refine below_set ?_ GE206.out | refine below_set ?_ GE207.out) | exact HB.out)))⟩; clear hw; clear BK206; clear BK207; clear HB; have BK206 := n0_; have BK207 := n1_; have HB := n2_; clear n0_ n1_ n2_) | ((with_reducible refine gate_dst (N := 28) rfl ?_); (try (refine gate_guard (by rfl) ?_; dsimp only)); refine Kd.S_lit k24 _ 24 ?hg (N := 28) ?hd (xs := ([(⟨0, 0, 0, ([] : List (S49))⟩ : S24)] : List (S24))) (inner := [.int .i64 0, .int .i64 0, .int .i64 0, .slice none 0 0]) (ok := fun _ => True) (okp := fun _ => True) ?hr ?hp (fun _ hk => hk) trivial (Below.refl _ _) (Nat.le_refl _) (by simp) ?_; (case hd => rfl); (case hg => rfl); (case hr => first | (go_simp; done) | (go_simp; rfl)); (case hp => exact (Reps.c4 (show Kd.M k24 _ _ _ (⟨0, 0, 0, ([] : List (S49))⟩ : S24) [.int .i64 0, .int .i64 0, .int .i64 0, .slice none 0 0] from (k24_mkM _ _ _ (⟨0, 0, 0, ([] : List (S49))⟩ : S24) (Kd.R_nil _ _ _ _ _))) (Reps.none _ _))); intro v209 w14 ho15 hb hg_ hnew_; clear hg_ hnew_; (first | rw [← Ny208.out] at ho15 | (simp only [Int.reduceToNat] at ho15; rw [← Ny208.out] at ho15)); have n0_ := Aside0.mk (Kd.S_lower (Kd.S_newB (Kd.S_newB ho15 (g := gb206) (o := .cells #[.int .i64 1, .int .i64 5, .int .i64 0, .slice none 0 0] 24 (0, 0)) (by (with_reducible repeat (first | refine blk_drewN ?_ _ | refine blk_drew ?_ | refine blk_alloc ?_ _)); exact BK206.out)) (g := gb207) (o := .cells #[.int .i64 3, .int .i64 6, .int .i64 0, .slice none 0 0] 24 (0, 0)) (by (with_reducible repeat (first | refine blk_drewN ?_ _ | refine blk_drew ?_ | refine blk_alloc ?_ _)); exact BK207.out)) (below_size (by repeat (first | (with_reducible first | exact HB.out | apply below_alloc | apply pw_below_drewN | apply below_drew1 | refine below_set ?_ GE206.out | refine below_set ?_ GE207.out) | exact HB.out)))); have n1_ := Aside0.mk (blk_below (g := gb206) (o := .cells #[.int .i64 1, .int .i64 5, .int .i64 0, .slice none 0 0] 24 (0, 0)) (by (with_reducible repeat (first | refine blk_drewN ?_ _ | refine blk_drew ?_ | refine blk_alloc ?_ _)); exact BK206.out) hb); have n2_ := Aside0.mk (blk_below (g := gb207) (o := .cells #[.int .i64 3, .int .i64 6, .int .i64 0, .slice none 0 0] 24 (0, 0)) (by (with_reducible repeat (first | refine blk_drewN ?_ _ | refine blk_drew ?_ | refine blk_alloc ?_ _)); exact BK207.out) hb); have n3_ := Aside0.mk (below_step (by repeat (first | (with_reducible first | exact HB.out | apply below_alloc | apply pw_below_drewN | apply below_drew1 | refine below_set ?_ GE206.out | refine below_set ?_ GE207.out) | exact HB.out)) hb); clear BK206; clear BK207; clear HB; have HO210 := n0_; have BK206 := n1_; have BK207 := n2_; have HB := n3_; clear n0_ n1_ n2_ n3_; clear hb ho15; have hcz16_0 : w14.cell? ⟨gb207, 0, none⟩ = some (.int .i64 3) := (blk_cell BK207.out 0).trans rfl; have hcz16_1 : w14.cell? ⟨gb207, 1, none⟩ = some (.int .i64 6) := (blk_cell BK207.out 1).trans rfl; have hcz16_2 : w14.cell? ⟨gb207, 2, none⟩ = some (.int .i64 0) := (blk_cell BK207.out 2).trans rfl; have hcz16_3 : w14.cell? ⟨gb207, 3, none⟩ = some (.slice none 0 0) := (blk_cell BK207.out 3).trans rfl; have hfz16_0 := blk_frozen BK207.out 0; have hfz16_1 := blk_frozen BK207.out 1; have hfz16_2 := blk_frozen BK207.out 2; have hfz16_3 := blk_frozen BK207.out 3; have hcz17_0 : w14.cell? ⟨gb206, 0, none⟩ = some (.int .i64 1) := (blk_cell BK206.out 0).trans rfl; have hcz17_1 : w14.cell? ⟨gb206, 1, none⟩ = some (.int .i64 5) := (blk_cell BK206.out 1).trans rfl; have hcz17_2 : w14.cell? ⟨gb206, 2, none⟩ = some (.int .i64 0) := (blk_cell BK206.out 2).trans rfl; have hcz17_3 : w14.cell? ⟨gb206, 3, none⟩ = some (.slice none 0 0) := (blk_cell BK206.out 3).trans rfl; have hfz17_0 := blk_frozen BK206.out 0; have hfz17_1 := blk_frozen BK206.out 1; have hfz17_2 := blk_frozen BK206.out 2; have hfz17_3 := blk_frozen BK206.out 3) | ((with_reducible refine gate_dst (N := 31) rfl ?_); (try (refine gate_guard (by rfl) ?_; dsimp only)); refine Kd.S_lit k24 _ 24 ?hg (N := 31) ?hd (xs := ([(⟨3, 6, 0, ([] : List (S49))⟩ : S24), (⟨1, 5, 0, ([] : List (S49))⟩ : S24)] : List (S24))) (inner := [.int .i64 3, .int .i64 6, .int .i64 0, .slice none 0 0, .int .i64 1, .int .i64 5, .int .i64 0, .slice none 0 0]) (ok := fun _ => True) (okp := fun _ => True) ?hr ?hp (fun _ hk => hk) trivial (Below.refl _ _) (Nat.le_refl _) (by simp) ?_; (case hd => rfl); (case hg => rfl); (case hr => first | (go_simp; done) | (go_simp; rfl)); (case hp => exact (Reps.c4 (show Kd.M k24 _ _ _ (⟨3, 6, 0, ([] : List (S49))⟩ : S24) [.int .i64 3, .int .i64 6, .int .i64 0, .slice none 0 0] from (k24_mkM _ _ _ (⟨3, 6, 0, ([] : List (S49))⟩ : S24) (Kd.R_nil _ _ _ _ _))) (Reps.c4 (show Kd.M k24 _ _ _ (⟨1, 5, 0, ([] : List (S49))⟩ : S24) [.int .i64 1, .int .i64 5, .int .i64 0, .slice none 0 0] from (k24_mkM _ _ _ (⟨1, 5, 0, ([] : List (S49))⟩ : S24) (Kd.R_nil _ _ _ _ _))) (Reps.none _ _)))); intro v212 w18 ho19 hb hg_ hnew_; clear hg_ hnew_; (first | rw [← Ny211.out] at ho19 | (simp only [Int.reduceToNat] at ho19; rw [← Ny211.out] at ho19)); have n0_ := Aside0.mk (Kd.S_elder' (by (with_reducible repeat (first | apply Kd.S_alloc | apply Kd.S_drewN | apply Kd.S_drew)); exact HO210.out) (Kd.S_base ho19) hb); have n1_ := Aside0.mk (Kd.S_lower (Kd.S_newB (Kd.S_newB (Kd.S_new' ho19 (Kd.S_lt (by (with_reducible repeat (first | apply Kd.S_alloc | apply Kd.S_drewN | apply Kd.S_drew)); exact HO210.out))) (g := gb206) (o := .cells #[.int .i64 1, .int .i64 5, .int .i64 0, .slice none 0 0] 24 (0, 0)) (by (with_reducible repeat (first | refine blk_drewN ?_ _ | refine blk_drew ?_ | refine blk_alloc ?_ _)); exact BK206.out)) (g := gb207) (o := .cells #[.int .i64 3, .int .i64 6, .int .i64 0, .slice none 0 0] 24 (0, 0)) (by (with_reducible repeat (first | refine blk_drewN ?_ _ | refine blk_drew ?_ | refine blk_alloc ?_ _)); exact BK207.out)) (below_size (by repeat (first | (with_reducible first | exact HB.out | apply below_alloc | apply pw_below_drewN | apply below_drew1 | refine below_set ?_ GE206.out | refine below_set ?_ GE207.out) | exact HB.out)))); have n2_ := Aside0.mk (blk_below (g := gb206) (o := .cells #[.int .i64 1, .int .i64 5, .int .i64 0, .slice none 0 0] 24 (0, 0)) (by (with_reducible repeat (first | refine blk_drewN ?_ _ | refine blk_drew ?_ | refine blk_alloc ?_ _)); exact BK206.out) hb); have n3_ := Aside0.mk (blk_below (g := gb207) (o := .cells #[.int .i64 3, .int .i64 6, .int .i64 0, .slice none 0 0] 24 (0, 0)) (by (with_reducible repeat (first | refine blk_drewN ?_ _ | refine blk_drew ?_ | refine blk_alloc ?_ _)); exact BK207.out) hb); have n4_ := Aside0.mk (below_step (by repeat (first | (with_reducible first | exact HB.out | apply below_alloc | apply pw_below_drewN | apply below_drew1 | refine below_set ?_ GE206.out | refine below_set ?_ GE207.out) | exact HB.out)) hb); clear HO210; clear BK206; clear BK207; clear HB; have HO210 := n0_; have HO213 := n1_; have BK206 := n2_; have BK207 := n3_; have HB := n4_; clear n0_ n1_ n2_ n3_ n4_; clear hb ho19; have hcz20_0 : w18.cell? ⟨gb206, 0, none⟩ = some (.int .i64 1) := (blk_cell BK206.out 0).trans rfl; have hcz20_1 : w18.cell? ⟨gb206, 1, none⟩ = some (.int .i64 5) := (blk_cell BK206.out 1).trans rfl; have hcz20_2 : w18.cell? ⟨gb206, 2, none⟩ = some (.int .i64 0) := (blk_cell BK206.out 2).trans rfl; have hcz20_3 : w18.cell? ⟨gb206, 3, none⟩ = some (.slice none 0 0) := (blk_cell BK206.out 3).trans rfl; have hfz20_0 := blk_frozen BK206.out 0; have hfz20_1 := blk_frozen BK206.out 1; have hfz20_2 := blk_frozen BK206.out 2; have hfz20_3 := blk_frozen BK206.out 3) | ((with_reducible refine gate_dst (N := 34) rfl ?_); (try (refine gate_guard (by rfl) ?_; dsimp only)); refine Kd.S_lit k24 _ 24 ?hg (N := 34) ?hd (xs := ([(⟨1, 5, 0, ([] : List (S49))⟩ : S24), (⟨1, 5, 0, ([] : List (S49))⟩ : S24)] : List (S24))) (inner := [.int .i64 1, .int .i64 5, .int .i64 0, .slice none 0 0, .int .i64 1, .int .i64 5, .int .i64 0, .slice none 0 0]) (ok := fun _ => True) (okp := fun _ => True) ?hr ?hp (fun _ hk => hk) trivial (Below.refl _ _) (Nat.le_refl _) (by simp) ?_; (case hd => rfl); (case hg => rfl); (case hr => first | (go_simp; done) | (go_simp; rfl)); (case hp => exact (Reps.c4 (show Kd.M k24 _ _ _ (⟨1, 5, 0, ([] : List (S49))⟩ : S24) [.int .i64 1, .int .i64 5, .int .i64 0, .slice none 0 0] from (k24_mkM _ _ _ (⟨1, 5, 0, ([] : List (S49))⟩ : S24) (Kd.R_nil _ _ _ _ _))) (Reps.c4 (show Kd.M k24 _ _ _ (⟨1, 5, 0, ([] : List (S49))⟩ : S24) [.int .i64 1, .int .i64 5, .int .i64 0, .slice none 0 0] from (k24_mkM _ _ _ (⟨1, 5, 0, ([] : List (S49))⟩ : S24) (Kd.R_nil _ _ _ _ _))) (Reps.none _ _)))); intro v215 w21 ho22 hb hg_ hnew_; clear hg_ hnew_; (first | rw [← Ny214.out] at ho22 | (simp only [Int.reduceToNat] at ho22; rw [← Ny214.out] at ho22)); have n0_ := Aside0.mk (Kd.S_elder' (by (with_reducible repeat (first | apply Kd.S_alloc | apply Kd.S_drewN | apply Kd.S_drew)); exact HO210.out) (Kd.S_base ho22) hb); have n1_ := Aside0.mk (Kd.S_elder' (by (with_reducible repeat (first | apply Kd.S_alloc | apply Kd.S_drewN | apply Kd.S_drew)); exact HO213.out) (Kd.S_base ho22) hb); have n2_ := Aside0.mk (Kd.S_lower (Kd.S_newB (Kd.S_newB (Kd.S_new' (Kd.S_new' ho22 (Kd.S_lt (by (with_reducible repeat (first | apply Kd.S_alloc | apply Kd.S_drewN | apply Kd.S_drew)); exact HO210.out))) (Kd.S_lt (by (with_reducible repeat (first | apply Kd.S_alloc | apply Kd.S_drewN | apply Kd.S_drew)); exact HO213.out))) (g := gb206) (o := .cells #[.int .i64 1, .int .i64 5, .int .i64 0, .slice none 0 0] 24 (0, 0)) (by (with_reducible repeat (first | refine blk_drewN ?_ _ | refine blk_drew ?_ | refine blk_alloc ?_ _)); exact BK206.out)) (g := gb207) (o := .cells #[.int .i64 3, .int .i64 6, .int .i64 0, .slice none 0 0] 24 (0, 0)) (by (with_reducible repeat (first | refine blk_drewN ?_ _ | refine blk_drew ?_ | refine blk_alloc ?_ _)); exact BK207.out)) (below_size (by repeat (first | (with_reducible first | exact HB.out | apply below_alloc | apply pw_below_drewN | apply below_drew1 | refine below_set ?_ GE206.out | refine below_set ?_ GE207.out) | exact HB.out)))); have n3_ := Aside0.mk (blk_below (g := gb206) (o := .cells #[.int .i64 1, .int .i64 5, .int .i64 0, .slice none 0 0] 24 (0, 0)) (by (with_reducible repeat (first | refine blk_drewN ?_ _ | refine blk_drew ?_ | refine blk_alloc ?_ _)); exact BK206.out) hb); have n4_ := Aside0.mk (blk_below (g := gb207) (o := .cells #[.int .i64 3, .int .i64 6, .int .i64 0, .slice none 0 0] 24 (0, 0)) (by (with_reducible repeat (first | refine blk_drewN ?_ _ | refine blk_drew ?_ | refine blk_alloc ?_ _)); exact BK207.out) hb); have n5_ := Aside0.mk (below_step (by repeat (first | (with_reducible first | exact HB.out | apply below_alloc | apply pw_below_drewN | apply below_drew1 | refine below_set ?_ GE206.out | refine below_set ?_ GE207.out) | exact HB.out)) hb); clear HO210; clear HO213; clear BK206; clear BK207; clear HB; have HO210 := n0_; have HO213 := n1_; have HO216 := n2_; have BK206 := n3_; have BK207 := n4_; have HB := n5_; clear n0_ n1_ n2_ n3_ n4_ n5_; clear hb ho22; have hcz23_0 : w21.cell? ⟨gb206, 0, none⟩ = some (.int .i64 1) := (blk_cell BK206.out 0).trans rfl; have hcz23_1 : w21.cell? ⟨gb206, 1, none⟩ = some (.int .i64 5) := (blk_cell BK206.out 1).trans rfl; have hcz23_2 : w21.cell? ⟨gb206, 2, none⟩ = some (.int .i64 0) := (blk_cell BK206.out 2).trans rfl; have hcz23_3 : w21.cell? ⟨gb206, 3, none⟩ = some (.slice none 0 0) := (blk_cell BK206.out 3).trans rfl; have hfz23_0 := blk_frozen BK206.out 0; have hfz23_1 := blk_frozen BK206.out 1; have hfz23_2 := blk_frozen BK206.out 2; have hfz23_3 := blk_frozen BK206.out 3; have hcz24_0 : w21.cell? ⟨gb207, 0, none⟩ = some (.int .i64 3) := (blk_cell BK207.out 0).trans rfl; have hcz24_1 : w21.cell? ⟨gb207, 1, none⟩ = some (.int .i64 6) := (blk_cell BK207.out 1).trans rfl; have hcz24_2 : w21.cell? ⟨gb207, 2, none⟩ = some (.int .i64 0) := (blk_cell BK207.out 2).trans rfl; have hcz24_3 : w21.cell? ⟨gb207, 3, none⟩ = some (.slice none 0 0) := (blk_cell BK207.out 3).trans rfl; have hfz24_0 := blk_frozen BK207.out 0; have hfz24_1 := blk_frozen BK207.out 1; have hfz24_2 := blk_frozen BK207.out 2; have hfz24_3 := blk_frozen BK207.out 3) | ((with_reducible refine gate_dst (N := 38) rfl ?_); (try (refine gate_guard (by rfl) ?_; dsimp only)); refine Kd.S_lit k24 _ 24 ?hg (N := 38) ?hd (xs := ([(⟨1, 5, 0, ([] : List (S49))⟩ : S24), (⟨2, 0, 0, ([] : List (S49))⟩ : S24), (⟨3, 6, 0, ([] : List (S49))⟩ : S24)] : List (S24))) (inner := [.int .i64 1, .int .i64 5, .int .i64 0, .slice none 0 0, .int .i64 2, .int .i64 0, .int .i64 0, .slice none 0 0, .int .i64 3, .int .i64 6, .int .i64 0, .slice none 0 0]) (ok := fun _ => True) (okp := fun _ => True) ?hr ?hp (fun _ hk => hk) trivial (Below.refl _ _) (Nat.le_refl _) (by simp) ?_; (case hd => rfl); (case hg => rfl); (case hr => first | (go_simp; done) | (go_simp; rfl)); (case hp => exact (Reps.c4 (show Kd.M k24 _ _ _ (⟨1, 5, 0, ([] : List (S49))⟩ : S24) [.int .i64 1, .int .i64 5, .int .i64 0, .slice none 0 0] from (k24_mkM _ _ _ (⟨1, 5, 0, ([] : List (S49))⟩ : S24) (Kd.R_nil _ _ _ _ _))) (Reps.c4 (show Kd.M k24 _ _ _ (⟨2, 0, 0, ([] : List (S49))⟩ : S24) [.int .i64 2, .int .i64 0, .int .i64 0, .slice none 0 0] from (k24_mkM _ _ _ (⟨2, 0, 0, ([] : List (S49))⟩ : S24) (Kd.R_nil _ _ _ _ _))) (Reps.c4 (show Kd.M k24 _ _ _ (⟨3, 6, 0, ([] : List (S49))⟩ : S24) [.int .i64 3, .int .i64 6, .int .i64 0, .slice none 0 0] from (k24_mkM _ _ _ (⟨3, 6, 0, ([] : List (S49))⟩ : S24) (Kd.R_nil _ _ _ _ _))) (Reps.none _ _))))); intro v218 w25 ho26 hb hg_ hnew_; clear hg_ hnew_; (first | rw [← Ny217.out] at ho26 | (simp only [Int.reduceToNat] at ho26; rw [← Ny217.out] at ho26)); have n0_ := Aside0.mk (Kd.S_elder' (by (with_reducible repeat (first | apply Kd.S_alloc | apply Kd.S_drewN | apply Kd.S_drew)); exact HO210.out) (Kd.S_base ho26) hb); have n1_ := Aside0.mk (Kd.S_elder' (by (with_reducible repeat (first | apply Kd.S_alloc | apply Kd.S_drewN | apply Kd.S_drew)); exact HO213.out) (Kd.S_base ho26) hb); have n2_ := Aside0.mk (Kd.S_elder' (by (with_reducible repeat (first | apply Kd.S_alloc | apply Kd.S_drewN | apply Kd.S_drew)); exact HO216.out) (Kd.S_base ho26) hb); have n3_ := Aside0.mk (Kd.S_lower (Kd.S_newB (Kd.S_newB (Kd.S_new' (Kd.S_new' (Kd.S_new' ho26 (Kd.S_lt (by (with_reducible repeat (first | apply Kd.S_alloc | apply Kd.S_drewN | apply Kd.S_drew)); exact HO210.out))) (Kd.S_lt (by (with_reducible repeat (first | apply Kd.S_alloc | apply Kd.S_drewN | apply Kd.S_drew)); exact HO213.out))) (Kd.S_lt (by (with_reducible repeat (first | apply Kd.S_alloc | apply Kd.S_drewN | apply Kd.S_drew)); exact HO216.out))) (g := gb206) (o := .cells #[.int .i64 1, .int .i64 5, .int .i64 0, .slice none 0 0] 24 (0, 0)) (by (with_reducible repeat (first | refine blk_drewN ?_ _ | refine blk_drew ?_ | refine blk_alloc ?_ _)); exact BK206.out)) (g := gb207) (o := .cells #[.int .i64 3, .int .i64 6, .int .i64 0, .slice none 0 0] 24 (0, 0)) (by (with_reducible repeat (first | refine blk_drewN ?_ _ | refine blk_drew ?_ | refine blk_alloc ?_ _)); exact BK207.out)) (below_size (by repeat (first | (with_reducible first | exact HB.out | apply below_alloc | apply pw_below_drewN | apply below_drew1 | refine below_set ?_ GE206.out | refine below_set ?_ GE207.out) | exact HB.out)))); have n4_ := Aside0.mk (blk_below (g := gb206) (o := .cells #[.int .i64 1, .int .i64 5, .int .i64 0, .slice none 0 0] 24 (0, 0)) (by (with_reducible repeat (first | refine blk_drewN ?_ _ | refine blk_drew ?_ | refine blk_alloc ?_ _)); exact BK206.out) hb); have n5_ := Aside0.mk (blk_below (g := gb207) (o := .cells #[.int .i64 3, .int .i64 6, .int .i64 0, .slice none 0 0] 24 (0, 0)) (by (with_reducible repeat (first | refine blk_drewN ?_ _ | refine blk_drew ?_ | refine blk_alloc ?_ _)); exact BK207.out) hb); have n6_ := Aside0.mk (below_step (by repeat (first | (with_reducible first | exact HB.out | apply below_alloc | apply pw_below_drewN | apply below_drew1 | refine below_set ?_ GE206.out | refine below_set ?_ GE207.out) | exact HB.out)) hb); clear HO210; clear HO213; clear HO216; clear BK206; clear BK207; clear HB; have HO210 := n0_; have HO213 := n1_; have HO216 := n2_; have HO219 := n3_; have BK206 := n4_; have BK207 := n5_; have HB := n6_; clear n0_ n1_ n2_ n3_ n4_ n5_ n6_; clear hb ho26; have hcz27_0 : w25.cell? ⟨gb206, 0, none⟩ = some (.int .i64 1) := (blk_cell BK206.out 0).trans rfl; have hcz27_1 : w25.cell? ⟨gb206, 1, none⟩ = some (.int .i64 5) := (blk_cell BK206.out 1).trans rfl; have hcz27_2 : w25.cell? ⟨gb206, 2, none⟩ = some (.int .i64 0) := (blk_cell BK206.out 2).trans rfl; have hcz27_3 : w25.cell? ⟨gb206, 3, none⟩ = some (.slice none 0 0) := (blk_cell BK206.out 3).trans rfl; have hfz27_0 := blk_frozen BK206.out 0; have hfz27_1 := blk_frozen BK206.out 1; have hfz27_2 := blk_frozen BK206.out 2; have hfz27_3 := blk_frozen BK206.out 3; have hcz28_0 : w25.cell? ⟨gb207, 0, none⟩ = some (.int .i64 3) := (blk_cell BK207.out 0).trans rfl; have hcz28_1 : w25.cell? ⟨gb207, 1, none⟩ = some (.int .i64 6) := (blk_cell BK207.out 1).trans rfl; have hcz28_2 : w25.cell? ⟨gb207, 2, none⟩ = some (.int .i64 0) := (blk_cell BK207.out 2).trans rfl; have hcz28_3 : w25.cell? ⟨gb207, 3, none⟩ = some (.slice none 0 0) := (blk_cell BK207.out 3).trans rfl; have hfz28_0 := blk_frozen BK207.out 0; have hfz28_1 := blk_frozen BK207.out 1; have hfz28_2 := blk_frozen BK207.out 2; have hfz28_3 := blk_frozen BK207.out 3) | ((with_reducible refine gate_dst (N := 44) rfl ?_); (try (refine gate_guard (by rfl) ?_; dsimp only)); refine Kd.S_lit k24 _ 24 ?hg (N := 44) ?hd (xs := ([(⟨1, 5, 0, ([] : List (S49))⟩ : S24), (⟨2, 1, 0, ([] : List (S49))⟩ : S24), (⟨3, 6, 0, ([] : List (S49))⟩ : S24), (⟨4, 1, 0, ([] : List (S49))⟩ : S24), (⟨4, 2, 0, ([] : List (S49))⟩ : S24)] : List (S24))) (inner := [.int .i64 1, .int .i64 5, .int .i64 0, .slice none 0 0, .int .i64 2, .int .i64 1, .int .i64 0, .slice none 0 0, .int .i64 3, .int .i64 6, .int .i64 0, .slice none 0 0, .int .i64 4, .int .i64 1, .int .i64 0, .slice none 0 0, .int .i64 4, .int .i64 2, .int .i64 0, .slice none 0 0]) (ok := fun _ => True) (okp := fun _ => True) ?hr ?hp (fun _ hk => hk) trivial (Below.refl _ _) (Nat.le_refl _) (by simp) ?_; (case hd => rfl); (case hg => rfl); (case hr => first | (go_simp; done) | (go_simp; rfl)); (case hp => exact (Reps.c4 (show Kd.M k24 _ _ _ (⟨1, 5, 0, ([] : List (S49))⟩ : S24) [.int .i64 1, .int .i64 5, .int .i64 0, .slice none 0 0] from (k24_mkM _ _ _ (⟨1, 5, 0, ([] : List (S49))⟩ : S24) (Kd.R_nil _ _ _ _ _))) (Reps.c4 (show Kd.M k24 _ _ _ (⟨2, 1, 0, ([] : List (S49))⟩ : S24) [.int .i64 2, .int .i64 1, .int .i64 0, .slice none 0 0] from (k24_mkM _ _ _ (⟨2, 1, 0, ([] : List (S49))⟩ : S24) (Kd.R_nil _ _ _ _ _))) (Reps.c4 (show Kd.M k24 _ _ _ (⟨3, 6, 0, ([] : List (S49))⟩ : S24) [.int .i64 3, .int .i64 6, .int .i64 0, .slice none 0 0] from (k24_mkM _ _ _ (⟨3, 6, 0, ([] : List (S49))⟩ : S24) (Kd.R_nil _ _ _ _ _))) (Reps.c4 (show Kd.M k24 _ _ _ (⟨4, 1, 0, ([] : List (S49))⟩ : S24) [.int .i64 4, .int .i64 1, .int .i64 0, .slice none 0 0] from (k24_mkM _ _ _ (⟨4, 1, 0, ([] : List (S49))⟩ : S24) (Kd.R_nil _ _ _ _ _))) (Reps.c4 (show Kd.M k24 _ _ _ (⟨4, 2, 0, ([] : List (S49))⟩ : S24) [.int .i64 4, .int .i64 2, .int .i64 0, .slice none 0 0] from (k24_mkM _ _ _ (⟨4, 2, 0, ([] : List (S49))⟩ : S24) (Kd.R_nil _ _ _ _ _))) (Reps.none _ _))))))); intro v221 w29 ho30 hb hg_ hnew_; clear hg_ hnew_; (first | rw [← Ny220.out] at ho30 | (simp only [Int.reduceToNat] at ho30; rw [← Ny220.out] at ho30)); have n0_ := Aside0.mk (Kd.S_elder' (by (with_reducible repeat (first | apply Kd.S_alloc | apply Kd.S_drewN | apply Kd.S_drew)); exact HO210.out) (Kd.S_base ho30) hb); have n1_ := Aside0.mk (Kd.S_elder' (by (with_reducible repeat (first | apply Kd.S_alloc | apply Kd.S_drewN | apply Kd.S_drew)); exact HO213.out) (Kd.S_base ho30) hb); have n2_ := Aside0.mk (Kd.S_elder' (by (with_reducible repeat (first | apply Kd.S_alloc | apply Kd.S_drewN | apply Kd.S_drew)); exact HO216.out) (Kd.S_base ho30) hb); have n3_ := Aside0.mk (Kd.S_elder' (by (with_reducible repeat (first | apply Kd.S_alloc | apply Kd.S_drewN | apply Kd.S_drew)); exact HO219.out) (Kd.S_base ho30) hb); have n4_ := Aside0.mk (Kd.S_lower (Kd.S_newB (Kd.S_newB (Kd.S_new' (Kd.S_new' (Kd.S_new' (Kd.S_new' ho30 (Kd.S_lt (by (with_reducible repeat (first | apply Kd.S_alloc | apply Kd.S_drewN | apply Kd.S_drew)); exact HO210.out))) (Kd.S_lt (by (with_reducible repeat (first | apply Kd.S_alloc | apply Kd.S_drewN | apply Kd.S_drew)); exact HO213.out))) (Kd.S_lt (by (with_reducible repeat (first | apply Kd.S_alloc | apply Kd.S_drewN | apply Kd.S_drew)); exact HO216.out))) (Kd.S_lt (by (with_reducible repeat (first | apply Kd.S_alloc | apply Kd.S_drewN | apply Kd.S_drew)); exact HO219.out))) (g := gb206) (o := .cells #[.int .i64 1, .int .i64 5, .int .i64 0, .slice none 0 0] 24 (0, 0)) (by (with_reducible repeat (first | refine blk_drewN ?_ _ | refine blk_drew ?_ | refine blk_alloc ?_ _)); exact BK206.out)) (g := gb207) (o := .cells #[.int .i64 3, .int .i64 6, .int .i64 0, .slice none 0 0] 24 (0, 0)) (by (with_reducible repeat (first | refine blk_drewN ?_ _ | refine blk_drew ?_ | refine blk_alloc ?_ _)); exact BK207.out)) (below_size (by repeat (first | (with_reducible first | exact HB.out | apply below_alloc | apply pw_below_drewN | apply below_drew1 | refine below_set ?_ GE206.out | refine below_set ?_ GE207.out) | exact HB.out)))); have n5_ := Aside0.mk (blk_below (g := gb206) (o := .cells #[.int .i64 1, .int .i64 5, .int .i64 0, .slice none 0 0] 24 (0, 0)) (by (with_reducible repeat (first | refine blk_drewN ?_ _ | refine blk_drew ?_ | refine blk_alloc ?_ _)); exact BK206.out) hb); have n6_ := Aside0.mk (blk_below (g := gb207) (o := .cells #[.int .i64 3, .int .i64 6, .int .i64 0, .slice none 0 0] 24 (0, 0)) (by (with_reducible repeat (first | refine blk_drewN ?_ _ | refine blk_drew ?_ | refine blk_alloc ?_ _)); exact BK207.out) hb); have n7_ := Aside0.mk (below_step (by repeat (first | (with_reducible first | exact HB.out | apply below_alloc | apply pw_below_drewN | apply below_drew1 | refine below_set ?_ GE206.out | refine below_set ?_ GE207.out) | exact HB.out)) hb); clear HO210; clear HO213; clear HO216; clear HO219; clear BK206; clear BK207; clear HB; have HO210 := n0_; have HO213 := n1_; have HO216 := n2_; have HO219 := n3_; have HO222 := n4_; have BK206 := n5_; have BK207 := n6_; have HB := n7_; clear n0_ n1_ n2_ n3_ n4_ n5_ n6_ n7_; clear hb ho30; obtain ⟨Ao210, co210, eo210⟩ := Kd.S_slice HO210.out; subst eo210; obtain ⟨Ao213, co213, eo213⟩ := Kd.S_slice HO213.out; subst eo213; obtain ⟨Ao216, co216, eo216⟩ := Kd.S_slice HO216.out; subst eo216; obtain ⟨Ao219, co219, eo219⟩ := Kd.S_slice HO219.out; subst eo219; obtain ⟨Ao222, co222, eo222⟩ := Kd.S_slice HO222.out; subst eo222) | ((with_reducible refine gate_dst (N := 45) rfl ?_); (try (refine gate_guard (by rfl) ?_; dsimp only)); refine lit_event_ ?hg (N := 45) ?hd (cs := #[(.slice Ao210 y208.length co210), (.slice Ao213 y211.length co213), (.slice Ao216 y214.length co216), (.slice Ao219 y217.length co219), (.slice Ao222 y220.length co222)]) (t := 52) (n := 5) ?hr ?_; (case hd => rfl); (case hg => rfl); (case hr => first | (go_simp; done) | (go_simp; rfl)); intro gb45 hg w45 hbox hb; have n0_ := Aside0.mk (Kd.S_below (by (with_reducible repeat (first | apply Kd.S_alloc | apply Kd.S_drewN | apply Kd.S_drew)); exact HO210.out) hb); have n1_ := Aside0.mk (Kd.S_below (by (with_reducible repeat (first | apply Kd.S_alloc | apply Kd.S_drewN | apply Kd.S_drew)); exact HO213.out) hb); have n2_ := Aside0.mk (Kd.S_below (by (with_reducible repeat (first | apply Kd.S_alloc | apply Kd.S_drewN | apply Kd.S_drew)); exact HO216.out) hb); have n3_ := Aside0.mk (Kd.S_below (by (with_reducible repeat (first | apply Kd.S_alloc | apply Kd.S_drewN | apply Kd.S_drew)); exact HO219.out) hb); have n4_ := Aside0.mk (Kd.S_below (by (with_reducible repeat (first | apply Kd.S_alloc | apply Kd.S_drewN | apply Kd.S_drew)); exact HO222.out) hb); have n5_ := Aside0.mk (blk_below (by (with_reducible repeat (first | refine blk_drewN ?_ _ | refine blk_drew ?_ | refine blk_alloc ?_ _)); exact BK206.out) hb); have n6_ := Aside0.mk (blk_below (by (with_reducible repeat (first | refine blk_drewN ?_ _ | refine blk_drew ?_ | refine blk_alloc ?_ _)); exact BK207.out) hb); have n7_ := Aside0.mk (below_step (by repeat (first | (with_reducible first | exact HB.out | apply below_alloc | apply pw_below_drewN | apply below_drew1 | refine below_set ?_ GE206.out | refine below_set ?_ GE207.out) | exact HB.out)) hb); clear HO210 HO213 HO216 HO219 HO222 BK206 BK207 HB; have HO210 := n0_; have HO213 := n1_; have HO216 := n2_; have HO219 := n3_; have HO222 := n4_; have BK206 := n5_; have BK207 := n6_; have HB := n7_; clear n0_ n1_ n2_ n3_ n4_ n5_ n6_ n7_; have hv45_0 : w45.cell? ⟨gb45, 0, none⟩ = some (.slice Ao210 y208.length co210) := (blk_cell hbox 0).trans rfl; have hv45_1 : w45.cell? ⟨gb45, 1, none⟩ = some (.slice Ao213 y211.length co213) := (blk_cell hbox 1).trans rfl; have hv45_2 : w45.cell? ⟨gb45, 2, none⟩ = some (.slice Ao216 y214.length co216) := (blk_cell hbox 2).trans rfl; have hv45_3 : w45.cell? ⟨gb45, 3, none⟩ = some (.slice Ao219 y217.length co219) := (blk_cell hbox 3).trans rfl; have hv45_4 : w45.cell? ⟨gb45, 4, none⟩ = some (.slice Ao222 y220.length co222) := (blk_cell hbox 4).trans rfl; clear hbox hb hg))
  (try simp only [Act.put, List.setIfInBounds_toArray, List.set_cons_zero, List.set_cons_succ])
  go_cut [8] (fun v8 wc => ∃ (kq : Nat) (x8_4 : List (S24)), Aside0 (watchwordlaw10_UpdateForms.j0 kq a1 x8_4 1 5 0 3 6 0 = some r) ∧ Aside0 (kq ≤ k) ∧ Aside0 (Kd.S k24 24 wc w.heap.size (fun k_ => k_ ≠ gb206 ∧ k_ ≠ gb207) v8 x8_4) ∧ Aside0 (wc.heap[gb206]? = some (.cells #[.int .i64 1, .int .i64 5, .int .i64 0, (.slice none 0 0)] 24 (0, 0))) ∧ Aside0 (wc.heap[gb207]? = some (.cells #[.int .i64 3, .int .i64 6, .int .i64 0, (.slice none 0 0)] 24 (0, 0))) ∧ Aside0 (Below w.heap.size w wc))
  case first =>
   have H := HC5.out
   clear HC5
   by_cases c31 : (Int.tmod (IntKind.u64.wrap (a0)) 5) = 0
   ·rw [if_pos c31] at H
    have c31b0 : ((Int.tmod (IntKind.u64.wrap (a0)) 5) == 0) = true := beq_iff_eq.mpr c31
    have c31b1 : ((Int.tmod (IntKind.u64.wrap (a0)) 5) != 0) = false := bne_eq_false_iff_eq.mpr c31
    clear c31
    (first | rw [c31b0] | (simp only [i64_w, i32_w]; rw [c31b0]) | skip)
    have H' := Aside0.mk H
    clear H
    have hq_ : Int.tmod (IntKind.u64.wrap (a0)) 5 = 0 := of_decide_eq_true (by simpa using c31b0)
    have hw_ : wrap64 (0) = 0 := by unfold wrap64; omega
    go_wp2
    go_meet
    case rel => exact ⟨_, (y208), H', ⟨by first | omega | exact Nat.le_refl _⟩, ⟨by (with_reducible repeat (first | apply Kd.S_alloc | apply Kd.S_drewN | apply Kd.S_drew)); exact Kd.S_mono HO210.out (fun _ hk => ⟨hk.1.1.1.1.1.2, hk.1.1.1.1.2⟩)⟩, ⟨by (with_reducible repeat (first | refine blk_drewN ?_ _ | refine blk_drew ?_ | refine blk_alloc ?_ _)); exact BK206.out⟩, ⟨by (with_reducible repeat (first | refine blk_drewN ?_ _ | refine blk_drew ?_ | refine blk_alloc ?_ _)); exact BK207.out⟩, ⟨by repeat (first | (with_reducible first | exact HB.out | apply below_alloc | apply pw_below_drewN | apply below_drew1 | refine below_set ?_ GE206.out | refine below_set ?_ GE207.out) | exact HB.out)⟩⟩
   ·rw [if_neg c31] at H
    have c31b0 : ((Int.tmod (IntKind.u64.wrap (a0)) 5) == 0) = false := beq_eq_false_iff_ne.mpr c31
    have c31b1 : ((Int.tmod (IntKind.u64.wrap (a0)) 5) != 0) = true := bne_iff_ne.mpr c31
    (first | rw [c31b0] | (simp only [i64_w, i32_w]; rw [c31b0]) | skip)
    by_cases c32 : (Int.tmod (IntKind.u64.wrap (a0)) 5) = 1
    ·rw [if_pos c32] at H
     have c32b0 : ((Int.tmod (IntKind.u64.wrap (a0)) 5) == 1) = true := beq_iff_eq.mpr c32
     have c32b1 : ((Int.tmod (IntKind.u64.wrap (a0)) 5) != 1) = false := bne_eq_false_iff_eq.mpr c32
     clear c32
     have H' := Aside0.mk H
     clear H
     have hq_ : Int.tmod (IntKind.u64.wrap (a0)) 5 = 1 := of_decide_eq_true (by simpa using c32b0)
     have hw_ : wrap64 (1) = 1 := by unfold wrap64; omega
     go_wp2
     go_meet
     case rel => exact ⟨_, (y211), H', ⟨by first | omega | exact Nat.le_refl _⟩, ⟨by (with_reducible repeat (first | apply Kd.S_alloc | apply Kd.S_drewN | apply Kd.S_drew)); exact Kd.S_mono HO213.out (fun _ hk => ⟨hk.1.1.1.1.2, hk.1.1.1.2⟩)⟩, ⟨by (with_reducible repeat (first | refine blk_drewN ?_ _ | refine blk_drew ?_ | refine blk_alloc ?_ _)); exact BK206.out⟩, ⟨by (with_reducible repeat (first | refine blk_drewN ?_ _ | refine blk_drew ?_ | refine blk_alloc ?_ _)); exact BK207.out⟩, ⟨by repeat (first | (with_reducible first | exact HB.out | apply below_alloc | apply pw_below_drewN | apply below_drew1 | refine below_set ?_ GE206.out | refine below_set ?_ GE207.out) | exact HB.out)⟩⟩
    ·rw [if_neg c32] at H
     have c32b0 : ((Int.tmod (IntKind.u64.wrap (a0)) 5) == 1) = false := beq_eq_false_iff_ne.mpr c32
     have c32b1 : ((Int.tmod (IntKind.u64.wrap (a0)) 5) != 1) = true := bne_iff_ne.mpr c32
     by_cases c33 : (Int.tmod (IntKind.u64.wrap (a0)) 5) = 2
     ·rw [if_pos c33] at H
      have c33b0 : ((Int.tmod (IntKind.u64.wrap (a0)) 5) == 2) = true := beq_iff_eq.mpr c33
      have c33b1 : ((Int.tmod (IntKind.u64.wrap (a0)) 5) != 2) = false := bne_eq_false_iff_eq.mpr c33
      clear c33
      have H' := Aside0.mk H
      clear H
      have hq_ : Int.tmod (IntKind.u64.wrap (a0)) 5 = 2 := of_decide_eq_true (by simpa using c33b0)
      have hw_ : wrap64 (2) = 2 := by unfold wrap64; omega
      go_wp2
      go_meet
      case rel => exact ⟨_, (y214), H', ⟨by first | omega | exact Nat.le_refl _⟩, ⟨by (with_reducible repeat (first | apply Kd.S_alloc | apply Kd.S_drewN | apply Kd.S_drew)); exact Kd.S_mono HO216.out (fun _ hk => ⟨hk.1.1.1.2, hk.1.1.2⟩)⟩, ⟨by (with_reducible repeat (first | refine blk_drewN ?_ _ | refine blk_drew ?_ | refine blk_alloc ?_ _)); exact BK206.out⟩, ⟨by (with_reducible repeat (first | refine blk_drewN ?_ _ | refine blk_drew ?_ | refine blk_alloc ?_ _)); exact BK207.out⟩, ⟨by repeat (first | (with_reducible first | exact HB.out | apply below_alloc | apply pw_below_drewN | apply below_drew1 | refine below_set ?_ GE206.out | refine below_set ?_ GE207.out) | exact HB.out)⟩⟩
     ·rw [if_neg c33] at H
      have c33b0 : ((Int.tmod (IntKind.u64.wrap (a0)) 5) == 2) = false := beq_eq_false_iff_ne.mpr c33
      have c33b1 : ((Int.tmod (IntKind.u64.wrap (a0)) 5) != 2) = true := bne_iff_ne.mpr c33
      by_cases c34 : (Int.tmod (IntKind.u64.wrap (a0)) 5) = 3
      ·rw [if_pos c34] at H
       have c34b0 : ((Int.tmod (IntKind.u64.wrap (a0)) 5) == 3) = true := beq_iff_eq.mpr c34
       have c34b1 : ((Int.tmod (IntKind.u64.wrap (a0)) 5) != 3) = false := bne_eq_false_iff_eq.mpr c34
       clear c34
       have H' := Aside0.mk H
       clear H
       have hq_ : Int.tmod (IntKind.u64.wrap (a0)) 5 = 3 := of_decide_eq_true (by simpa using c34b0)
       have hw_ : wrap64 (3) = 3 := by unfold wrap64; omega
       go_wp2
       go_meet
       case rel => exact ⟨_, (y217), H', ⟨by first | omega | exact Nat.le_refl _⟩, ⟨by (with_reducible repeat (first | apply Kd.S_alloc | apply Kd.S_drewN | apply Kd.S_drew)); exact Kd.S_mono HO219.out (fun _ hk => ⟨hk.1.1.2, hk.1.2⟩)⟩, ⟨by (with_reducible repeat (first | refine blk_drewN ?_ _ | refine blk_drew ?_ | refine blk_alloc ?_ _)); exact BK206.out⟩, ⟨by (with_reducible repeat (first | refine blk_drewN ?_ _ | refine blk_drew ?_ | refine blk_alloc ?_ _)); exact BK207.out⟩, ⟨by repeat (first | (with_reducible first | exact HB.out | apply below_alloc | apply pw_below_drewN | apply below_drew1 | refine below_set ?_ GE206.out | refine below_set ?_ GE207.out) | exact HB.out)⟩⟩
      ·rw [if_neg c34] at H
       have c34b0 : ((Int.tmod (IntKind.u64.wrap (a0)) 5) == 3) = false := beq_eq_false_iff_ne.mpr c34
       have c34b1 : ((Int.tmod (IntKind.u64.wrap (a0)) 5) != 3) = true := bne_iff_ne.mpr c34
       have H' := Aside0.mk H
       clear H
       have hq_ : Int.tmod (IntKind.u64.wrap (a0)) 5 = 4 := by
        have h0_ : 0 ≤ IntKind.u64.wrap a0 := by unfold IntKind.wrap; simp [IntKind.signed]; omega
        have h1_ := Int.tmod_nonneg 5 h0_
        have h2_ := Int.tmod_lt_of_pos (IntKind.u64.wrap a0) (show (0 : Int) < 5 by omega)
        omega
       have hw_ : wrap64 (4) = 4 := by unfold wrap64; omega
       go_wp2
       go_meet
       case rel => exact ⟨_, (y220), H', ⟨by first | omega | exact Nat.le_refl _⟩, ⟨by (with_reducible repeat (first | apply Kd.S_alloc | apply Kd.S_drewN | apply Kd.S_drew)); exact Kd.S_mono HO222.out (fun _ hk => ⟨hk.1.2, hk.2⟩)⟩, ⟨by (with_reducible repeat (first | refine blk_drewN ?_ _ | refine blk_drew ?_ | refine blk_alloc ?_ _)); exact BK206.out⟩, ⟨by (with_reducible repeat (first | refine blk_drewN ?_ _ | refine blk_drew ?_ | refine blk_alloc ?_ _)); exact BK207.out⟩, ⟨by repeat (first | (with_reducible first | exact HB.out | apply below_alloc | apply pw_below_drewN | apply below_drew1 | refine below_set ?_ GE206.out | refine below_set ?_ GE207.out) | exact HB.out)⟩⟩
  case rest =>
   clear HC5
   try clear p2
   try clear c3
   try clear c4
   try clear c9
   try clear c31
   try clear c31b0
   try clear c31b1
   try clear c32
   try clear c32b0
   try clear c32b1
   try clear c33
   try clear c33b0
   try clear c33b1
   try clear c34
   try clear c34b0
   try clear c34b1
   try clear hcz10_0
   try clear hcz10_1
   try clear hcz10_2
   try clear hcz10_3
   try clear hcz12_0
   try clear hcz12_1
   try clear hcz12_2
   try clear hcz12_3
   try clear hcz16_0
   try clear hcz16_1
   try clear hcz16_2
   try clear hcz16_3
   try clear hcz17_0
   try clear hcz17_1
   try clear hcz17_2
   try clear hcz17_3
   try clear hcz20_0
   try clear hcz20_1
   try clear hcz20_2
   try clear hcz20_3
   try clear hcz23_0
   try clear hcz23_1
   try clear hcz23_2
   try clear hcz23_3
   try clear hcz24_0
   try clear hcz24_1
   try clear hcz24_2
   try clear hcz24_3
   try clear hcz27_0
   try clear hcz27_1
   try clear hcz27_2
   try clear hcz27_3
   try clear hcz28_0
   try clear hcz28_1
   try clear hcz28_2
   try clear hcz28_3
   try clear hfz10_0
   try clear hfz10_1
   try clear hfz10_2
   try clear hfz10_3
   try clear hfz12_0
   try clear hfz12_1
   try clear hfz12_2
   try clear hfz12_3
   try clear hfz16_0
   try clear hfz16_1
   try clear hfz16_2
   try clear hfz16_3
   try clear hfz17_0
   try clear hfz17_1
   try clear hfz17_2
   try clear hfz17_3
   try clear hfz20_0
   try clear hfz20_1
   try clear hfz20_2
   try clear hfz20_3
   try clear hfz23_0
   try clear hfz23_1
   try clear hfz23_2
   try clear hfz23_3
   try clear hfz24_0
   try clear hfz24_1
   try clear hfz24_2
   try clear hfz24_3
   try clear hfz27_0
   try clear hfz27_1
   try clear hfz27_2
   try clear hfz27_3
   try clear hfz28_0
   try clear hfz28_1
   try clear hfz28_2
   try clear hfz28_3
   obtain ⟨kq, x8_4, HA, HJ4, HO_8, BK206, BK207, HB⟩ := hcut
   cases kq with
   | zero => exact absurd HA.out (by simp [watchwordlaw10_UpdateForms.j0])
   | succ kj4 =>
    have H := HA.out
    clear HA
    simp only [watchwordlaw10_UpdateForms.j0] at H
    replace H := Option.bind_eq_some_iff.mp H
    obtain ⟨⟨t223, t224⟩, A350, H⟩ := H
    replace H : ((update_Put.f kj4 (([(⟨1, 5, 0, ([] : List (S49))⟩ : S24), (⟨3, 6, 0, ([] : List (S49))⟩ : S24)] : List (S24)))).bind fun bt228 => ((watchwordlaw0_Num.f bt228.2).bind fun t230 => (if t230 = 0 then (watchwordlaw10_UpdateForms.j1 kj4 a1 x8_4 t223 t224 bt228.1 ((bt228.1.size : Int) != 19)) else (watchwordlaw10_UpdateForms.j1 kj4 a1 x8_4 t223 t224 bt228.1 true)))) = some r := H
    have A35 := Aside0.mk A350
    clear A350
    obtain ⟨y225, hy225⟩ : ∃ y_ : List (S24), y_ = (([(⟨1, 5, 0, ([] : List (S49))⟩ : S24), (⟨3, 6, 0, ([] : List (S49))⟩ : S24)] : List (S24))) := ⟨_, rfl⟩
    replace H : ((update_Put.f kj4 y225).bind fun bt228 => ((watchwordlaw0_Num.f bt228.2).bind fun t230 => (if t230 = 0 then (watchwordlaw10_UpdateForms.j1 kj4 a1 x8_4 t223 t224 bt228.1 ((bt228.1.size : Int) != 19)) else (watchwordlaw10_UpdateForms.j1 kj4 a1 x8_4 t223 t224 bt228.1 true)))) = some r := by first | (rw [hy225]; with_reducible exact H) | (have H2_ := (Option.bind_some _ _).symm.trans H; rw [hy225]; with_reducible exact H2_) | (have H2_ := (Option.bind_some _ _).symm.trans H; with_reducible exact H2_) | with_reducible exact H | (rw [hy225]; exact H) | exact H
    have Ny225 := Aside0.mk hy225
    clear hy225
    replace H := Option.bind_eq_some_iff.mp H
    obtain ⟨⟨t228, t229⟩, A360, H⟩ := H
    replace H : ((watchwordlaw0_Num.f t229).bind fun t230 => (if t230 = 0 then (watchwordlaw10_UpdateForms.j1 kj4 a1 x8_4 t223 t224 t228 ((t228.size : Int) != 19)) else (watchwordlaw10_UpdateForms.j1 kj4 a1 x8_4 t223 t224 t228 true))) = some r := H
    have A36 := Aside0.mk A360
    clear A360
    have HC37 := Aside0.mk H
    clear H
    obtain ⟨Ao38, co38, eo38⟩ := Kd.S_slice HO_8.out
    subst eo38
    go_upto_region 8 with (first | ((with_reducible refine gate_callee (f := 26) rfl ?_); refine goesL_ (some 55) rfl rfl Try.func26 (by kernel_rfl) rfl #[.slice Ao38 x8_4.length co38] rfl (by (try simp only [List.map_toArray, List.map_cons, List.map_nil]); first | done | rfl | (simp only [List.length_drop, List.length_take]; rfl)) ?_; (with_reducible refine (update_Put.calls kj4 _ _ x8_4 t223 t224 _ ?side1 ?side2 A35.out).mono ?_); (case side1 => repeat (first | exact (Kd.S_reads' HO_8.out).2.2 | (with_reducible refine Kd.C_alloc ?_ _) | (with_reducible refine Kd.C_drewN ?_ _) | (with_reducible refine Kd.C_drew ?_))); (case side2 => exact (Kd.S_reads' HO_8.out).2.1); rintro e w39 ⟨rfl, hb⟩; refine ⟨_, rfl, ?_⟩; have n0_ := Aside0.mk (Kd.S_below (by (with_reducible repeat (first | apply Kd.S_alloc | apply Kd.S_drewN | apply Kd.S_drew)); exact HO_8.out) hb); have n1_ := Aside0.mk (blk_below (g := gb206) (o := .cells #[.int .i64 1, .int .i64 5, .int .i64 0, .slice none 0 0] 24 (0, 0)) (by (with_reducible repeat (first | refine blk_drewN ?_ _ | refine blk_drew ?_ | refine blk_alloc ?_ _)); exact BK206.out) hb); have n2_ := Aside0.mk (blk_below (g := gb207) (o := .cells #[.int .i64 3, .int .i64 6, .int .i64 0, .slice none 0 0] 24 (0, 0)) (by (with_reducible repeat (first | refine blk_drewN ?_ _ | refine blk_drew ?_ | refine blk_alloc ?_ _)); exact BK207.out) hb); have n3_ := Aside0.mk (below_step (by repeat (first | (with_reducible first | exact HB.out | apply below_alloc | apply pw_below_drewN | apply below_drew1 | refine below_set ?_ GE206.out | refine below_set ?_ GE207.out) | exact HB.out)) hb); clear HO_8; clear BK206; clear BK207; clear HB; have HO_8 := n0_; have BK206 := n1_; have BK207 := n2_; have HB := n3_; clear n0_ n1_ n2_ n3_; (try clear hb); (try clear hb2); (try clear hk); (try clear hi); have hnb40 := NB206_207.out; have hnc40 := NB207_206.out; have hcz41_0 : w39.cell? ⟨gb206, 0, none⟩ = some (.int .i64 1) := (blk_cell BK206.out 0).trans rfl; have hcz41_1 : w39.cell? ⟨gb206, 1, none⟩ = some (.int .i64 5) := (blk_cell BK206.out 1).trans rfl; have hcz41_2 : w39.cell? ⟨gb206, 2, none⟩ = some (.int .i64 0) := (blk_cell BK206.out 2).trans rfl; have hcz41_3 : w39.cell? ⟨gb206, 3, none⟩ = some (.slice none 0 0) := (blk_cell BK206.out 3).trans rfl; have hfz41_0 := blk_frozen BK206.out 0; have hfz41_1 := blk_frozen BK206.out 1; have hfz41_2 := blk_frozen BK206.out 2; have hfz41_3 := blk_frozen BK206.out 3; have hcz42_0 : w39.cell? ⟨gb207, 0, none⟩ = some (.int .i64 3) := (blk_cell BK207.out 0).trans rfl; have hcz42_1 : w39.cell? ⟨gb207, 1, none⟩ = some (.int .i64 6) := (blk_cell BK207.out 1).trans rfl; have hcz42_2 : w39.cell? ⟨gb207, 2, none⟩ = some (.int .i64 0) := (blk_cell BK207.out 2).trans rfl; have hcz42_3 : w39.cell? ⟨gb207, 3, none⟩ = some (.slice none 0 0) := (blk_cell BK207.out 3).trans rfl; have hfz42_0 := blk_frozen BK207.out 0; have hfz42_1 := blk_frozen BK207.out 1; have hfz42_2 := blk_frozen BK207.out 2; have hfz42_3 := blk_frozen BK207.out 3) | ((with_reducible refine gate_dst (N := 61) rfl ?_); (try (refine gate_guard (by rfl) ?_; dsimp only)); refine Kd.S_lit k24 _ 24 ?hg (N := 61) ?hd (xs := ([(⟨1, 5, 0, ([] : List (S49))⟩ : S24), (⟨3, 6, 0, ([] : List (S49))⟩ : S24)] : List (S24))) (inner := [.int .i64 1, .int .i64 5, .int .i64 0, .slice none 0 0, .int .i64 3, .int .i64 6, .int .i64 0, .slice none 0 0]) (ok := fun _ => True) (okp := fun _ => True) ?hr ?hp (fun _ hk => hk) trivial (Below.refl _ _) (Nat.le_refl _) (by simp) ?_; (case hd => rfl); (case hg => rfl); (case hr => first | (go_simp; done) | (go_simp; rfl)); (case hp => exact (Reps.c4 (show Kd.M k24 _ _ _ (⟨1, 5, 0, ([] : List (S49))⟩ : S24) [.int .i64 1, .int .i64 5, .int .i64 0, .slice none 0 0] from (k24_mkM _ _ _ (⟨1, 5, 0, ([] : List (S49))⟩ : S24) (Kd.R_nil _ _ _ _ _))) (Reps.c4 (show Kd.M k24 _ _ _ (⟨3, 6, 0, ([] : List (S49))⟩ : S24) [.int .i64 3, .int .i64 6, .int .i64 0, .slice none 0 0] from (k24_mkM _ _ _ (⟨3, 6, 0, ([] : List (S49))⟩ : S24) (Kd.R_nil _ _ _ _ _))) (Reps.none _ _)))); intro v226 w43 ho44 hb hg_ hnew_; clear hg_ hnew_; (first | rw [← Ny225.out] at ho44 | (simp only [Int.reduceToNat] at ho44; rw [← Ny225.out] at ho44)); have n0_ := Aside0.mk (Kd.S_elder' (by (with_reducible repeat (first | apply Kd.S_alloc | apply Kd.S_drewN | apply Kd.S_drew)); exact HO_8.out) (Kd.S_base ho44) hb); have n1_ := Aside0.mk (Kd.S_lower (Kd.S_newB (Kd.S_newB (Kd.S_new' ho44 (Kd.S_lt (by (with_reducible repeat (first | apply Kd.S_alloc | apply Kd.S_drewN | apply Kd.S_drew)); exact HO_8.out))) (g := gb206) (o := .cells #[.int .i64 1, .int .i64 5, .int .i64 0, .slice none 0 0] 24 (0, 0)) (by (with_reducible repeat (first | refine blk_drewN ?_ _ | refine blk_drew ?_ | refine blk_alloc ?_ _)); exact BK206.out)) (g := gb207) (o := .cells #[.int .i64 3, .int .i64 6, .int .i64 0, .slice none 0 0] 24 (0, 0)) (by (with_reducible repeat (first | refine blk_drewN ?_ _ | refine blk_drew ?_ | refine blk_alloc ?_ _)); exact BK207.out)) (below_size (by repeat (first | (with_reducible first | exact HB.out | apply below_alloc | apply pw_below_drewN | apply below_drew1 | refine below_set ?_ GE206.out | refine below_set ?_ GE207.out) | exact HB.out)))); have n2_ := Aside0.mk (blk_below (g := gb206) (o := .cells #[.int .i64 1, .int .i64 5, .int .i64 0, .slice none 0 0] 24 (0, 0)) (by (with_reducible repeat (first | refine blk_drewN ?_ _ | refine blk_drew ?_ | refine blk_alloc ?_ _)); exact BK206.out) hb); have n3_ := Aside0.mk (blk_below (g := gb207) (o := .cells #[.int .i64 3, .int .i64 6, .int .i64 0, .slice none 0 0] 24 (0, 0)) (by (with_reducible repeat (first | refine blk_drewN ?_ _ | refine blk_drew ?_ | refine blk_alloc ?_ _)); exact BK207.out) hb); have n4_ := Aside0.mk (below_step (by repeat (first | (with_reducible first | exact HB.out | apply below_alloc | apply pw_below_drewN | apply below_drew1 | refine below_set ?_ GE206.out | refine below_set ?_ GE207.out) | exact HB.out)) hb); clear HO_8; clear BK206; clear BK207; clear HB; have HO_8 := n0_; have HO227 := n1_; have BK206 := n2_; have BK207 := n3_; have HB := n4_; clear n0_ n1_ n2_ n3_ n4_; clear hb ho44; obtain ⟨Ao45, co45, eo45⟩ := Kd.S_slice HO227.out; subst eo45) | ((with_reducible refine gate_callee (f := 26) rfl ?_); refine goesL_ (some 62) rfl rfl Try.func26 (by kernel_rfl) rfl #[.slice Ao45 y225.length co45] rfl (by (try simp only [List.map_toArray, List.map_cons, List.map_nil]); first | done | rfl | (simp only [List.length_drop, List.length_take]; rfl)) ?_; (with_reducible refine (update_Put.calls kj4 _ _ y225 t228 t229 _ ?side1 ?side2 A36.out).mono ?_); (case side1 => repeat (first | exact (Kd.S_reads' HO227.out).2.2 | (with_reducible refine Kd.C_alloc ?_ _) | (with_reducible refine Kd.C_drewN ?_ _) | (with_reducible refine Kd.C_drew ?_))); (case side2 => exact (Kd.S_reads' HO227.out).2.1); rintro e w46 ⟨rfl, hb⟩; refine ⟨_, rfl, ?_⟩; have n0_ := Aside0.mk (Kd.S_below (by (with_reducible repeat (first | apply Kd.S_alloc | apply Kd.S_drewN | apply Kd.S_drew)); exact HO_8.out) hb); have n1_ := Aside0.mk (Kd.S_below (by (with_reducible repeat (first | apply Kd.S_alloc | apply Kd.S_drewN | apply Kd.S_drew)); exact HO227.out) hb); have n2_ := Aside0.mk (blk_below (g := gb206) (o := .cells #[.int .i64 1, .int .i64 5, .int .i64 0, .slice none 0 0] 24 (0, 0)) (by (with_reducible repeat (first | refine blk_drewN ?_ _ | refine blk_drew ?_ | refine blk_alloc ?_ _)); exact BK206.out) hb); have n3_ := Aside0.mk (blk_below (g := gb207) (o := .cells #[.int .i64 3, .int .i64 6, .int .i64 0, .slice none 0 0] 24 (0, 0)) (by (with_reducible repeat (first | refine blk_drewN ?_ _ | refine blk_drew ?_ | refine blk_alloc ?_ _)); exact BK207.out) hb); have n4_ := Aside0.mk (below_step (by repeat (first | (with_reducible first | exact HB.out | apply below_alloc | apply pw_below_drewN | apply below_drew1 | refine below_set ?_ GE206.out | refine below_set ?_ GE207.out) | exact HB.out)) hb); clear HO_8; clear HO227; clear BK206; clear BK207; clear HB; have HO_8 := n0_; have HO227 := n1_; have BK206 := n2_; have BK207 := n3_; have HB := n4_; clear n0_ n1_ n2_ n3_ n4_; (try clear hb); (try clear hb2); (try clear hk); (try clear hi)))
    (try simp only [Act.put, List.setIfInBounds_toArray, List.set_cons_zero, List.set_cons_succ])
    go_cut [72] (fun v72 wc => ∃ (kq : Nat) (x72_36 : Bool), v72 = .bool x72_36 ∧ Aside0 (watchwordlaw10_UpdateForms.j1 kq a1 x8_4 t223 t224 t228 x72_36 = some r) ∧ Aside0 (kq ≤ kj4) ∧ Aside0 (Kd.S k24 24 wc w.heap.size (fun k_ => k_ ≠ gb206 ∧ k_ ≠ gb207) (.slice Ao38 x8_4.length co38) x8_4) ∧ Aside0 (wc.heap[gb206]? = some (.cells #[.int .i64 1, .int .i64 5, .int .i64 0, (.slice none 0 0)] 24 (0, 0))) ∧ Aside0 (wc.heap[gb207]? = some (.cells #[.int .i64 3, .int .i64 6, .int .i64 0, (.slice none 0 0)] 24 (0, 0))) ∧ Aside0 (Below w.heap.size w wc))
    case first =>
     have H := HC37.out
     clear HC37
     replace H := Option.bind_eq_some_iff.mp H
     obtain ⟨t230, A470, H⟩ := H
     replace H : (if t230 = 0 then (watchwordlaw10_UpdateForms.j1 kj4 a1 x8_4 t223 t224 t228 ((t228.size : Int) != 19)) else (watchwordlaw10_UpdateForms.j1 kj4 a1 x8_4 t223 t224 t228 true)) = some r := H
     have A47 := Aside0.mk A470
     clear A470
     by_cases c48 : t230 = 0
     ·rw [if_pos c48] at H
      have c48b0 : (t230 == 0) = true := beq_iff_eq.mpr c48
      have c48b1 : (t230 != 0) = false := bne_eq_false_iff_eq.mpr c48
      clear c48
      (first | rw [c48b0] | (simp only [i64_w, i32_w]; rw [c48b0]) | skip)
      have H' := Aside0.mk H
      clear H
      go_wp2_with (first | ((with_reducible refine gate_callee (f := 19) rfl ?_); refine goesL_ (some 66) rfl rfl Try.func19 (by kernel_rfl) rfl #[.int .i64 t229] rfl (by (try simp only [List.map_toArray, List.map_cons, List.map_nil]); first | done | rfl | (simp only [List.length_drop, List.length_take]; rfl)) ?_; (with_reducible refine (watchwordlaw0_Num.calls t229 t230 _ A47.out).mono ?_); rintro e w' ⟨rfl, ⟨nd, rfl⟩⟩; refine ⟨_, rfl, ?_⟩))
      go_meet
      case rel => exact ⟨_, (((t228.size : Int) != 19)), (by first | rfl | (simp; done) | (simp [*]; done)), H', ⟨by have := HJ4.out; first | omega | exact Nat.le_refl _⟩, ⟨by (with_reducible repeat (first | apply Kd.S_alloc | apply Kd.S_drewN | apply Kd.S_drew)); exact Kd.S_mono HO_8.out (fun _ hk => ⟨hk.1.1, hk.1.2⟩)⟩, ⟨by (with_reducible repeat (first | refine blk_drewN ?_ _ | refine blk_drew ?_ | refine blk_alloc ?_ _)); exact BK206.out⟩, ⟨by (with_reducible repeat (first | refine blk_drewN ?_ _ | refine blk_drew ?_ | refine blk_alloc ?_ _)); exact BK207.out⟩, ⟨by repeat (first | (with_reducible first | exact HB.out | apply below_alloc | apply pw_below_drewN | apply below_drew1 | refine below_set ?_ GE206.out | refine below_set ?_ GE207.out) | exact HB.out)⟩⟩
     ·rw [if_neg c48] at H
      have c48b0 : (t230 == 0) = false := beq_eq_false_iff_ne.mpr c48
      have c48b1 : (t230 != 0) = true := bne_iff_ne.mpr c48
      (first | rw [c48b0] | (simp only [i64_w, i32_w]; rw [c48b0]) | skip)
      exact absurd H (fun h_ => (by
       have hd_ : ∀ k_, watchwordlaw10_UpdateForms.j1 k_ a1 x8_4 t223 t224 t228 true = some r → False := by
        intro k_ h_
        cases k_ with
        | zero => exact absurd h_ (by simp [watchwordlaw10_UpdateForms.j1])
        | succ k_ =>
         simp only [watchwordlaw10_UpdateForms.j1, if_true] at h_
         exact absurd (Option.some.inj h_) (by rw [HT.out]; decide)
       exact hd_ _ h_))
    case rest =>
     clear HC37
     try clear c1
     try clear c2
     try clear p2
     try clear c3
     try clear c4
     try clear c9
     try clear c19
     try clear c26
     try clear c31
     try clear c31b0
     try clear c31b1
     try clear c32
     try clear c32b0
     try clear c32b1
     try clear c33
     try clear c33b0
     try clear c33b1
     try clear c34
     try clear c34b0
     try clear c34b1
     try clear c40
     try clear c48
     try clear c48b0
     try clear c48b1
     try clear hcz10_0
     try clear hcz10_1
     try clear hcz10_2
     try clear hcz10_3
     try clear hcz12_0
     try clear hcz12_1
     try clear hcz12_2
     try clear hcz12_3
     try clear hcz16_0
     try clear hcz16_1
     try clear hcz16_2
     try clear hcz16_3
     try clear hcz17_0
     try clear hcz17_1
     try clear hcz17_2
     try clear hcz17_3
     try clear hcz20_0
     try clear hcz20_1
     try clear hcz20_2
     try clear hcz20_3
     try clear hcz23_0
     try clear hcz23_1
     try clear hcz23_2
     try clear hcz23_3
     try clear hcz24_0
     try clear hcz24_1
     try clear hcz24_2
     try clear hcz24_3
     try clear hcz27_0
     try clear hcz27_1
     try clear hcz27_2
     try clear hcz27_3
     try clear hcz28_0
     try clear hcz28_1
     try clear hcz28_2
     try clear hcz28_3
     try clear hcz41_0
     try clear hcz41_1
     try clear hcz41_2
     try clear hcz41_3
     try clear hcz42_0
     try clear hcz42_1
     try clear hcz42_2
     try clear hcz42_3
     try clear hfz10_0
     try clear hfz10_1
     try clear hfz10_2
     try clear hfz10_3
     try clear hfz12_0
     try clear hfz12_1
     try clear hfz12_2
     try clear hfz12_3
     try clear hfz16_0
     try clear hfz16_1
     try clear hfz16_2
     try clear hfz16_3
     try clear hfz17_0
     try clear hfz17_1
     try clear hfz17_2
     try clear hfz17_3
     try clear hfz20_0
     try clear hfz20_1
     try clear hfz20_2
     try clear hfz20_3
     try clear hfz23_0
     try clear hfz23_1
     try clear hfz23_2
     try clear hfz23_3
     try clear hfz24_0
     try clear hfz24_1
     try clear hfz24_2
     try clear hfz24_3
     try clear hfz27_0
     try clear hfz27_1
     try clear hfz27_2
     try clear hfz27_3
     try clear hfz28_0
     try clear hfz28_1
     try clear hfz28_2
     try clear hfz28_3
     try clear hfz41_0
     try clear hfz41_1
     try clear hfz41_2
     try clear hfz41_3
     try clear hfz42_0
     try clear hfz42_1
     try clear hfz42_2
     try clear hfz42_3
     try clear p2
     obtain ⟨kq, x72_36, rfl, HA, HJ36, HO_8, BK206, BK207, HB⟩ := hcut
     cases kq with
     | zero => exact absurd HA.out (by simp [watchwordlaw10_UpdateForms.j1])
     | succ kj36 =>
      have H := HA.out
      clear HA
      simp only [watchwordlaw10_UpdateForms.j1] at H
      by_cases c49 : x72_36 = true
      ·subst c49
       have H1 : (some false) = some r := by rw [if_pos rfl] at H; exact H
       clear H
       have H := H1
       clear H1
       exact absurd (Option.some.inj H) (by rw [HT.out]; decide)
      ·replace c49 := Bool.eq_false_iff.mpr c49
       subst c49
       have H1 : (if 0 ≤ (wrap64 (Int.tmod (IntKind.u64.wrap (a1)) 19)) then (if (wrap64 (Int.tmod (IntKind.u64.wrap (a1)) 19)) ≤ (t228.size : Int) then ((update_Get.f kj36 (t228.extract 0 ((wrap64 (Int.tmod (IntKind.u64.wrap (a1)) 19)) : Int).toNat)).bind fun bt231 => (if t228.size + 1 ≤ 9223372036854775807 then ((update_Get.f kj36 (t228 ++ (⟨#[0]⟩ : ByteArray))).bind fun bt235 => (if 1 ≤ (t228.size : Int) then (if 1 + (t228.extract 1 t228.size).size ≤ 9223372036854775807 then ((update_Get.f kj36 ((⟨#[1]⟩ : ByteArray) ++ (t228.extract 1 t228.size))).bind fun bt239 => ((update_Get.f kj36 ((⟨#[3]⟩ : ByteArray) ++ (t228.extract 1 t228.size))).bind fun bt243 => (if 10 ≤ (t228.size : Int) then (if 1 + (t228.extract 10 t228.size).size ≤ 9223372036854775807 then (if 1 ≤ 10 then (if ((⟨#[2]⟩ : ByteArray) ++ (t228.extract 10 t228.size)).size + (t228.extract 1 10).size ≤ 9223372036854775807 then ((update_Get.f kj36 (((⟨#[2]⟩ : ByteArray) ++ (t228.extract 10 t228.size)) ++ (t228.extract 1 10))).bind fun bt247 => ((update_May.f kj36 x8_4).bind fun t251 => (if t251 = true then (some false) else (if t223.toList = ([] : List UInt8) then ((watchwordlaw0_Num.f t224).bind fun t252 => (if t252 = 1000 then ((watchwordlaw0_Num.f bt231.2).bind fun t253 => (if t253 = 1000 then ((watchwordlaw0_Num.f bt235.2).bind fun t254 => (if t254 = 1000 then ((watchwordlaw0_Num.f bt239.2).bind fun t255 => (if t255 = 1000 then ((watchwordlaw0_Num.f bt243.2).bind fun t256 => (if t256 = 1000 then ((watchwordlaw0_Num.f bt247.2).bind fun t257 => (some (t257 == 1000))) else (some false))) else (some false))) else (some false))) else (some false))) else (some false))) else (some false))))) else (none)) else (none)) else (none)) else (none)))) else (none)) else (none))) else (none))) else (none)) else (none)) = some r := by rw [if_neg (show ¬ (false = true) by decide)] at H; exact H
       clear H
       have H := H1
       clear H1
       obtain ⟨ji50, hji50⟩ : ∃ j_ : Int, (wrap64 (Int.tmod (IntKind.u64.wrap (a1)) 19)) = j_ := ⟨_, rfl⟩
       replace H : (if 0 ≤ (ji50) then (if (ji50) ≤ (t228.size : Int) then ((update_Get.f kj36 (t228.extract 0 ((ji50) : Int).toNat)).bind fun bt231 => (if t228.size + 1 ≤ 9223372036854775807 then ((update_Get.f kj36 (t228 ++ (⟨#[0]⟩ : ByteArray))).bind fun bt235 => (if 1 ≤ (t228.size : Int) then (if 1 + (t228.extract 1 t228.size).size ≤ 9223372036854775807 then ((update_Get.f kj36 ((⟨#[1]⟩ : ByteArray) ++ (t228.extract 1 t228.size))).bind fun bt239 => ((update_Get.f kj36 ((⟨#[3]⟩ : ByteArray) ++ (t228.extract 1 t228.size))).bind fun bt243 => (if 10 ≤ (t228.size : Int) then (if 1 + (t228.extract 10 t228.size).size ≤ 9223372036854775807 then (if 1 ≤ 10 then (if ((⟨#[2]⟩ : ByteArray) ++ (t228.extract 10 t228.size)).size + (t228.extract 1 10).size ≤ 9223372036854775807 then ((update_Get.f kj36 (((⟨#[2]⟩ : ByteArray) ++ (t228.extract 10 t228.size)) ++ (t228.extract 1 10))).bind fun bt247 => ((update_May.f kj36 x8_4).bind fun t251 => (if t251 = true then (some false) else (if t223.toList = ([] : List UInt8) then ((watchwordlaw0_Num.f t224).bind fun t252 => (if t252 = 1000 then ((watchwordlaw0_Num.f bt231.2).bind fun t253 => (if t253 = 1000 then ((watchwordlaw0_Num.f bt235.2).bind fun t254 => (if t254 = 1000 then ((watchwordlaw0_Num.f bt239.2).bind fun t255 => (if t255 = 1000 then ((watchwordlaw0_Num.f bt243.2).bind fun t256 => (if t256 = 1000 then ((watchwordlaw0_Num.f bt247.2).bind fun t257 => (some (t257 == 1000))) else (some false))) else (some false))) else (some false))) else (some false))) else (some false))) else (some false))))) else (none)) else (none)) else (none)) else (none)))) else (none)) else (none))) else (none))) else (none)) else (none)) = some r := by first | (rw [hji50] at H; exact H) | (simp only [hji50] at H ⊢; exact H)
       have hji50w : (IntKind.i64.wrap (Int.tmod (IntKind.u64.wrap (a1)) 19)) = ji50 := (i64_w _).trans hji50
       by_cases c51 : 0 ≤ (ji50)
       ·rw [if_pos c51] at H
        have c51b0 := eq_true c51
        have c51b1 : decide (0 ≤ (ji50)) = true := decide_eq_true c51
        clear c51
        by_cases c52 : (ji50) ≤ (t228.size : Int)
        ·rw [if_pos c52] at H
         have c52b0 := eq_true c52
         have c52b1 : decide ((ji50) ≤ (t228.size : Int)) = true := decide_eq_true c52
         clear c52
         replace H := Option.bind_eq_some_iff.mp H
         obtain ⟨⟨t231, t232⟩, A530, H⟩ := H
         replace H : (if t228.size + 1 ≤ 9223372036854775807 then ((update_Get.f kj36 (t228 ++ (⟨#[0]⟩ : ByteArray))).bind fun bt235 => (if 1 ≤ (t228.size : Int) then (if 1 + (t228.extract 1 t228.size).size ≤ 9223372036854775807 then ((update_Get.f kj36 ((⟨#[1]⟩ : ByteArray) ++ (t228.extract 1 t228.size))).bind fun bt239 => ((update_Get.f kj36 ((⟨#[3]⟩ : ByteArray) ++ (t228.extract 1 t228.size))).bind fun bt243 => (if 10 ≤ (t228.size : Int) then (if 1 + (t228.extract 10 t228.size).size ≤ 9223372036854775807 then (if 1 ≤ 10 then (if ((⟨#[2]⟩ : ByteArray) ++ (t228.extract 10 t228.size)).size + (t228.extract 1 10).size ≤ 9223372036854775807 then ((update_Get.f kj36 (((⟨#[2]⟩ : ByteArray) ++ (t228.extract 10 t228.size)) ++ (t228.extract 1 10))).bind fun bt247 => ((update_May.f kj36 x8_4).bind fun t251 => (if t251 = true then (some false) else (if t223.toList = ([] : List UInt8) then ((watchwordlaw0_Num.f t224).bind fun t252 => (if t252 = 1000 then ((watchwordlaw0_Num.f t232).bind fun t253 => (if t253 = 1000 then ((watchwordlaw0_Num.f bt235.2).bind fun t254 => (if t254 = 1000 then ((watchwordlaw0_Num.f bt239.2).bind fun t255 => (if t255 = 1000 then ((watchwordlaw0_Num.f bt243.2).bind fun t256 => (if t256 = 1000 then ((watchwordlaw0_Num.f bt247.2).bind fun t257 => (some (t257 == 1000))) else (some false))) else (some false))) else (some false))) else (some false))) else (some false))) else (some false))))) else (none)) else (none)) else (none)) else (none)))) else (none)) else (none))) else (none)) = some r := H
         have A53 := Aside0.mk A530
         clear A530
         by_cases c54 : t228.size + 1 ≤ 9223372036854775807
         ·rw [if_pos c54] at H
          have c54b0 := eq_true c54
          have c54b1 : decide (t228.size + 1 ≤ 9223372036854775807) = true := decide_eq_true c54
          try have c54b2 : (9223372036854775807 < t228.size + 1) = False := eq_false (Nat.not_lt.2 c54)
          replace H := Option.bind_eq_some_iff.mp H
          obtain ⟨⟨t235, t236⟩, A550, H⟩ := H
          replace H : (if 1 ≤ (t228.size : Int) then (if 1 + (t228.extract 1 t228.size).size ≤ 9223372036854775807 then ((update_Get.f kj36 ((⟨#[1]⟩ : ByteArray) ++ (t228.extract 1 t228.size))).bind fun bt239 => ((update_Get.f kj36 ((⟨#[3]⟩ : ByteArray) ++ (t228.extract 1 t228.size))).bind fun bt243 => (if 10 ≤ (t228.size : Int) then (if 1 + (t228.extract 10 t228.size).size ≤ 9223372036854775807 then (if 1 ≤ 10 then (if ((⟨#[2]⟩ : ByteArray) ++ (t228.extract 10 t228.size)).size + (t228.extract 1 10).size ≤ 9223372036854775807 then ((update_Get.f kj36 (((⟨#[2]⟩ : ByteArray) ++ (t228.extract 10 t228.size)) ++ (t228.extract 1 10))).bind fun bt247 => ((update_May.f kj36 x8_4).bind fun t251 => (if t251 = true then (some false) else (if t223.toList = ([] : List UInt8) then ((watchwordlaw0_Num.f t224).bind fun t252 => (if t252 = 1000 then ((watchwordlaw0_Num.f t232).bind fun t253 => (if t253 = 1000 then ((watchwordlaw0_Num.f t236).bind fun t254 => (if t254 = 1000 then ((watchwordlaw0_Num.f bt239.2).bind fun t255 => (if t255 = 1000 then ((watchwordlaw0_Num.f bt243.2).bind fun t256 => (if t256 = 1000 then ((watchwordlaw0_Num.f bt247.2).bind fun t257 => (some (t257 == 1000))) else (some false))) else (some false))) else (some false))) else (some false))) else (some false))) else (some false))))) else (none)) else (none)) else (none)) else (none)))) else (none)) else (none)) = some r := H
          have A55 := Aside0.mk A550
          clear A550
          by_cases c56 : 1 ≤ (t228.size : Int)
          ·rw [if_pos c56] at H
           have c56p : 1 ≤ t228.size := by omega
           have c56b0 := eq_true c56
           have c56b1 : decide (1 ≤ (t228.size : Int)) = true := decide_eq_true c56
           clear c56
           by_cases c57 : 1 + (t228.extract 1 t228.size).size ≤ 9223372036854775807
           ·rw [if_pos c57] at H
            (try (have c57p := c57; simp only [ByteArray.size_extract] at c57p))
            (try (have c57o := c57; simp only [ByteArray.size_extract, Nat.min_self] at c57o))
            have c57b0 := eq_true c57
            have c57b1 : decide (1 + (t228.extract 1 t228.size).size ≤ 9223372036854775807) = true := decide_eq_true c57
            (try (have c57f1 := c57b1; simp only [ByteArray.size_extract, Nat.min_self] at c57f1))
            try have c57b2 : (9223372036854775807 < 1 + (t228.extract 1 t228.size).size) = False := eq_false (Nat.not_lt.2 c57)
            try have c57e0 : (9223372036854775807 < t228.size) = False := eq_false (by have h_ := c57; simp only [ByteArray.size_append, ByteArray.size_extract] at h_; omega)
            (try (have c57z : (9223372036854775807 < 1 + (t228.extract 1 t228.size).size) = False := eq_false (Nat.not_lt.2 c57); simp only [ByteArray.size_append, ByteArray.size_extract, Nat.sub_zero] at c57z))
            replace H := Option.bind_eq_some_iff.mp H
            obtain ⟨⟨t239, t240⟩, A580, H⟩ := H
            replace H : ((update_Get.f kj36 ((⟨#[3]⟩ : ByteArray) ++ (t228.extract 1 t228.size))).bind fun bt243 => (if 10 ≤ (t228.size : Int) then (if 1 + (t228.extract 10 t228.size).size ≤ 9223372036854775807 then (if 1 ≤ 10 then (if ((⟨#[2]⟩ : ByteArray) ++ (t228.extract 10 t228.size)).size + (t228.extract 1 10).size ≤ 9223372036854775807 then ((update_Get.f kj36 (((⟨#[2]⟩ : ByteArray) ++ (t228.extract 10 t228.size)) ++ (t228.extract 1 10))).bind fun bt247 => ((update_May.f kj36 x8_4).bind fun t251 => (if t251 = true then (some false) else (if t223.toList = ([] : List UInt8) then ((watchwordlaw0_Num.f t224).bind fun t252 => (if t252 = 1000 then ((watchwordlaw0_Num.f t232).bind fun t253 => (if t253 = 1000 then ((watchwordlaw0_Num.f t236).bind fun t254 => (if t254 = 1000 then ((watchwordlaw0_Num.f t240).bind fun t255 => (if t255 = 1000 then ((watchwordlaw0_Num.f bt243.2).bind fun t256 => (if t256 = 1000 then ((watchwordlaw0_Num.f bt247.2).bind fun t257 => (some (t257 == 1000))) else (some false))) else (some false))) else (some false))) else (some false))) else (some false))) else (some false))))) else (none)) else (none)) else (none)) else (none))) = some r := H
            have A58 := Aside0.mk A580
            clear A580
            have c59b0 := eq_true (of_decide_eq_true (by first | (with_reducible assumption) | assumption) : 1 ≤ (t228.size : Int))
            replace H := Option.bind_eq_some_iff.mp H
            obtain ⟨⟨t243, t244⟩, A600, H⟩ := H
            replace H : (if 10 ≤ (t228.size : Int) then (if 1 + (t228.extract 10 t228.size).size ≤ 9223372036854775807 then (if 1 ≤ 10 then (if ((⟨#[2]⟩ : ByteArray) ++ (t228.extract 10 t228.size)).size + (t228.extract 1 10).size ≤ 9223372036854775807 then ((update_Get.f kj36 (((⟨#[2]⟩ : ByteArray) ++ (t228.extract 10 t228.size)) ++ (t228.extract 1 10))).bind fun bt247 => ((update_May.f kj36 x8_4).bind fun t251 => (if t251 = true then (some false) else (if t223.toList = ([] : List UInt8) then ((watchwordlaw0_Num.f t224).bind fun t252 => (if t252 = 1000 then ((watchwordlaw0_Num.f t232).bind fun t253 => (if t253 = 1000 then ((watchwordlaw0_Num.f t236).bind fun t254 => (if t254 = 1000 then ((watchwordlaw0_Num.f t240).bind fun t255 => (if t255 = 1000 then ((watchwordlaw0_Num.f t244).bind fun t256 => (if t256 = 1000 then ((watchwordlaw0_Num.f bt247.2).bind fun t257 => (some (t257 == 1000))) else (some false))) else (some false))) else (some false))) else (some false))) else (some false))) else (some false))))) else (none)) else (none)) else (none)) else (none)) = some r := H
            have A60 := Aside0.mk A600
            clear A600
            by_cases c61 : 10 ≤ (t228.size : Int)
            ·rw [if_pos c61] at H
             have c61p : 10 ≤ t228.size := by omega
             have c61b0 := eq_true c61
             have c61b1 : decide (10 ≤ (t228.size : Int)) = true := decide_eq_true c61
             clear c61
             by_cases c62 : 1 + (t228.extract 10 t228.size).size ≤ 9223372036854775807
             ·rw [if_pos c62] at H
              (try (have c62p := c62; simp only [ByteArray.size_extract] at c62p))
              (try (have c62o := c62; simp only [ByteArray.size_extract, Nat.min_self] at c62o))
              have c62b0 := eq_true c62
              have c62b1 : decide (1 + (t228.extract 10 t228.size).size ≤ 9223372036854775807) = true := decide_eq_true c62
              (try (have c62f1 := c62b1; simp only [ByteArray.size_extract, Nat.min_self] at c62f1))
              try have c62b2 : (9223372036854775807 < 1 + (t228.extract 10 t228.size).size) = False := eq_false (Nat.not_lt.2 c62)
              try have c62e0 : (9223372036854775807 < t228.size) = False := eq_false (by have h_ := c62; simp only [ByteArray.size_append, ByteArray.size_extract] at h_; omega)
              (try (have c62z : (9223372036854775807 < 1 + (t228.extract 10 t228.size).size) = False := eq_false (Nat.not_lt.2 c62); simp only [ByteArray.size_append, ByteArray.size_extract, Nat.sub_zero] at c62z))
              have c62q : (9223372036854775807 < 1 + (t228.size - 10)) = False := eq_false (by have h_ := c62; simp only [ByteArray.size_extract, Nat.min_self] at h_; omega)
              by_cases c63 : 1 ≤ 10
              ·rw [if_pos c63] at H
               have c63b0 := eq_true c63
               have c63b1 : decide (1 ≤ 10) = true := decide_eq_true c63
               clear c63
               have c64b0 := eq_true (of_decide_eq_true (by first | (with_reducible assumption) | assumption) : 10 ≤ (t228.size : Int))
               by_cases c65 : ((⟨#[2]⟩ : ByteArray) ++ (t228.extract 10 t228.size)).size + (t228.extract 1 10).size ≤ 9223372036854775807
               ·rw [if_pos c65] at H
                (try (have c65p := c65; simp only [ByteArray.size_extract] at c65p))
                (try (have c65o := c65; simp only [ByteArray.size_extract, Nat.min_self] at c65o))
                have c65b0 := eq_true c65
                have c65b1 : decide (((⟨#[2]⟩ : ByteArray) ++ (t228.extract 10 t228.size)).size + (t228.extract 1 10).size ≤ 9223372036854775807) = true := decide_eq_true c65
                (try (have c65f1 := c65b1; simp only [ByteArray.size_extract, Nat.min_self] at c65f1))
                try have c65b2 : (9223372036854775807 < ((⟨#[2]⟩ : ByteArray) ++ (t228.extract 10 t228.size)).size + (t228.extract 1 10).size) = False := eq_false (Nat.not_lt.2 c65)
                try have c65e0 : (9223372036854775807 < t228.size) = False := eq_false (by have h_ := c65; simp only [ByteArray.size_append, ByteArray.size_extract] at h_; have l0_ : (⟨#[2]⟩ : ByteArray).size = 1 := rfl; omega)
                (try (have c65y := c65; have l0_ : (⟨#[2]⟩ : ByteArray).size = 1 := rfl; simp [*] at c65y; have c65w := Nat.not_lt.2 c65y; clear c65y l0_))
                (try (have c65z : (9223372036854775807 < ((⟨#[2]⟩ : ByteArray) ++ (t228.extract 10 t228.size)).size + (t228.extract 1 10).size) = False := eq_false (Nat.not_lt.2 c65); simp only [(rfl : (⟨#[2]⟩ : ByteArray).size = 1), ByteArray.size_append, ByteArray.size_extract, Nat.sub_zero] at c65z))
                try have c65b3 : (9223372036854775807 < 1 + (t228.extract 10 t228.size).size + (t228.extract 1 10).size) = False := eq_false (by have h_ := c65; simp only [ByteArray.size_append] at h_; have l0_ : (⟨#[2]⟩ : ByteArray).size = 1 := rfl; omega)
                try have c65b4 : (9223372036854775807 < (⟨#[2]⟩ : ByteArray).size + (t228.extract 10 t228.size).size + (t228.extract 1 10).size) = False := eq_false (by have h_ := c65; simp only [ByteArray.size_append] at h_; have l0_ : (⟨#[2]⟩ : ByteArray).size = 1 := rfl; omega)
                have c65q0 : (9223372036854775807 < 1 + (t228.size - 10) + (min 10 t228.size - 1)) = False := eq_false (by have h_ := c65; simp only [ByteArray.size_append, ByteArray.size_extract, Nat.min_self] at h_; have l0_ : (⟨#[2]⟩ : ByteArray).size = 1 := rfl; have h1_ : 10 ≤ t228.size := (by omega); omega)
                have c65q1 : (9223372036854775807 < 1 + (t228.size - 10) + 9) = False := eq_false (by have h_ := c65; simp only [ByteArray.size_append, ByteArray.size_extract, Nat.min_self] at h_; have l0_ : (⟨#[2]⟩ : ByteArray).size = 1 := rfl; have h1_ : 10 ≤ t228.size := (by omega); omega)
                have c65q2 : (9223372036854775807 < 1 + (t228.size - 10) + (10 - 1)) = False := eq_false (by have h_ := c65; simp only [ByteArray.size_append, ByteArray.size_extract, Nat.min_self] at h_; have l0_ : (⟨#[2]⟩ : ByteArray).size = 1 := rfl; have h1_ : 10 ≤ t228.size := (by omega); omega)
                replace H := Option.bind_eq_some_iff.mp H
                obtain ⟨⟨t247, t248⟩, A660, H⟩ := H
                replace H : ((update_May.f kj36 x8_4).bind fun t251 => (if t251 = true then (some false) else (if t223.toList = ([] : List UInt8) then ((watchwordlaw0_Num.f t224).bind fun t252 => (if t252 = 1000 then ((watchwordlaw0_Num.f t232).bind fun t253 => (if t253 = 1000 then ((watchwordlaw0_Num.f t236).bind fun t254 => (if t254 = 1000 then ((watchwordlaw0_Num.f t240).bind fun t255 => (if t255 = 1000 then ((watchwordlaw0_Num.f t244).bind fun t256 => (if t256 = 1000 then ((watchwordlaw0_Num.f t248).bind fun t257 => (some (t257 == 1000))) else (some false))) else (some false))) else (some false))) else (some false))) else (some false))) else (some false)))) = some r := H
                have A66 := Aside0.mk A660
                clear A660
                replace H := Option.bind_eq_some_iff.mp H
                obtain ⟨t251, A670, H⟩ := H
                replace H : (if t251 = true then (some false) else (if t223.toList = ([] : List UInt8) then ((watchwordlaw0_Num.f t224).bind fun t252 => (if t252 = 1000 then ((watchwordlaw0_Num.f t232).bind fun t253 => (if t253 = 1000 then ((watchwordlaw0_Num.f t236).bind fun t254 => (if t254 = 1000 then ((watchwordlaw0_Num.f t240).bind fun t255 => (if t255 = 1000 then ((watchwordlaw0_Num.f t244).bind fun t256 => (if t256 = 1000 then ((watchwordlaw0_Num.f t248).bind fun t257 => (some (t257 == 1000))) else (some false))) else (some false))) else (some false))) else (some false))) else (some false))) else (some false))) = some r := H
                have A67 := Aside0.mk A670
                clear A670
                by_cases c68 : t251 = true
                ·subst c68
                 have H1 : (some false) = some r := by rw [if_pos rfl] at H; exact H
                 clear H
                 have H := H1
                 clear H1
                 exact absurd (Option.some.inj H) (by rw [HT.out]; decide)
                ·replace c68 := Bool.eq_false_iff.mpr c68
                 subst c68
                 have H1 : (if t223.toList = ([] : List UInt8) then ((watchwordlaw0_Num.f t224).bind fun t252 => (if t252 = 1000 then ((watchwordlaw0_Num.f t232).bind fun t253 => (if t253 = 1000 then ((watchwordlaw0_Num.f t236).bind fun t254 => (if t254 = 1000 then ((watchwordlaw0_Num.f t240).bind fun t255 => (if t255 = 1000 then ((watchwordlaw0_Num.f t244).bind fun t256 => (if t256 = 1000 then ((watchwordlaw0_Num.f t248).bind fun t257 => (some (t257 == 1000))) else (some false))) else (some false))) else (some false))) else (some false))) else (some false))) else (some false)) = some r := by rw [if_neg (show ¬ (false = true) by decide)] at H; exact H
                 clear H
                 have H := H1
                 clear H1
                 by_cases c69 : t223.toList = ([] : List UInt8)
                 ·rw [if_pos c69] at H
                  have c69b0 : (t223.toList == ([] : List UInt8)) = true := beq_iff_eq.mpr c69
                  have c69b1 : (t223.toList != ([] : List UInt8)) = false := bne_eq_false_iff_eq.mpr c69
                  clear c69
                  replace H := Option.bind_eq_some_iff.mp H
                  obtain ⟨t252, A700, H⟩ := H
                  replace H : (if t252 = 1000 then ((watchwordlaw0_Num.f t232).bind fun t253 => (if t253 = 1000 then ((watchwordlaw0_Num.f t236).bind fun t254 => (if t254 = 1000 then ((watchwordlaw0_Num.f t240).bind fun t255 => (if t255 = 1000 then ((watchwordlaw0_Num.f t244).bind fun t256 => (if t256 = 1000 then ((watchwordlaw0_Num.f t248).bind fun t257 => (some (t257 == 1000))) else (some false))) else (some false))) else (some false))) else (some false))) else (some false)) = some r := H
                  have A70 := Aside0.mk A700
                  clear A700
                  by_cases c71 : t252 = 1000
                  ·rw [if_pos c71] at H
                   have c71b0 : (t252 == 1000) = true := beq_iff_eq.mpr c71
                   have c71b1 : (t252 != 1000) = false := bne_eq_false_iff_eq.mpr c71
                   clear c71
                   replace H := Option.bind_eq_some_iff.mp H
                   obtain ⟨t253, A720, H⟩ := H
                   replace H : (if t253 = 1000 then ((watchwordlaw0_Num.f t236).bind fun t254 => (if t254 = 1000 then ((watchwordlaw0_Num.f t240).bind fun t255 => (if t255 = 1000 then ((watchwordlaw0_Num.f t244).bind fun t256 => (if t256 = 1000 then ((watchwordlaw0_Num.f t248).bind fun t257 => (some (t257 == 1000))) else (some false))) else (some false))) else (some false))) else (some false)) = some r := H
                   have A72 := Aside0.mk A720
                   clear A720
                   by_cases c73 : t253 = 1000
                   ·rw [if_pos c73] at H
                    have c73b0 : (t253 == 1000) = true := beq_iff_eq.mpr c73
                    have c73b1 : (t253 != 1000) = false := bne_eq_false_iff_eq.mpr c73
                    clear c73
                    replace H := Option.bind_eq_some_iff.mp H
                    obtain ⟨t254, A740, H⟩ := H
                    replace H : (if t254 = 1000 then ((watchwordlaw0_Num.f t240).bind fun t255 => (if t255 = 1000 then ((watchwordlaw0_Num.f t244).bind fun t256 => (if t256 = 1000 then ((watchwordlaw0_Num.f t248).bind fun t257 => (some (t257 == 1000))) else (some false))) else (some false))) else (some false)) = some r := H
                    have A74 := Aside0.mk A740
                    clear A740
                    by_cases c75 : t254 = 1000
                    ·rw [if_pos c75] at H
                     have c75b0 : (t254 == 1000) = true := beq_iff_eq.mpr c75
                     have c75b1 : (t254 != 1000) = false := bne_eq_false_iff_eq.mpr c75
                     clear c75
                     replace H := Option.bind_eq_some_iff.mp H
                     obtain ⟨t255, A760, H⟩ := H
                     replace H : (if t255 = 1000 then ((watchwordlaw0_Num.f t244).bind fun t256 => (if t256 = 1000 then ((watchwordlaw0_Num.f t248).bind fun t257 => (some (t257 == 1000))) else (some false))) else (some false)) = some r := H
                     have A76 := Aside0.mk A760
                     clear A760
                     by_cases c77 : t255 = 1000
                     ·rw [if_pos c77] at H
                      have c77b0 : (t255 == 1000) = true := beq_iff_eq.mpr c77
                      have c77b1 : (t255 != 1000) = false := bne_eq_false_iff_eq.mpr c77
                      clear c77
                      replace H := Option.bind_eq_some_iff.mp H
                      obtain ⟨t256, A780, H⟩ := H
                      replace H : (if t256 = 1000 then ((watchwordlaw0_Num.f t248).bind fun t257 => (some (t257 == 1000))) else (some false)) = some r := H
                      have A78 := Aside0.mk A780
                      clear A780
                      by_cases c79 : t256 = 1000
                      ·rw [if_pos c79] at H
                       have c79b0 : (t256 == 1000) = true := beq_iff_eq.mpr c79
                       have c79b1 : (t256 != 1000) = false := bne_eq_false_iff_eq.mpr c79
                       clear c79
                       replace H := Option.bind_eq_some_iff.mp H
                       obtain ⟨t257, A800, H⟩ := H
                       replace H : (some (t257 == 1000)) = some r := H
                       have A80 := Aside0.mk A800
                       clear A800
                       obtain rfl := Option.some.inj H
                       try go_wp2_with (first | ((with_reducible refine gate_callee (f := 28) rfl ?_); refine goesL_ (some 80) rfl rfl Try.func28 (by kernel_rfl) rfl #[.string (t228.extract 0 ((ji50) : Int).toNat)] rfl (by (try simp only [List.map_toArray, List.map_cons, List.map_nil]); first | done | (simp only [hji50]; rfl) | (simp only [hji50, ByteArray.size_extract, Nat.min_self]; done) | (simp only [hji50, ByteArray.size_extract, Nat.min_self]; rfl) | (simp only [ByteArray.size_extract, Nat.min_self]; done) | (simp only [ByteArray.size_extract, Nat.min_self]; rfl) | rfl | (simp only [List.length_drop, List.length_take]; rfl)) ?_; (with_reducible refine (update_Get.calls kj36 (t228.extract 0 ((ji50) : Int).toNat) t231 t232 _ A53.out).mono ?_); rintro e w81 ⟨v233, rfl, ho0, hb⟩; refine ⟨_, rfl, ?_⟩; have n0_ := Aside0.mk (Kd.S_elder' (by (with_reducible repeat (first | apply Kd.S_alloc | apply Kd.S_drewN | apply Kd.S_drew)); exact HO_8.out) (Kd.S_base ho0) hb); have n1_ := Aside0.mk (Kd.S_lower (Kd.S_newB (Kd.S_newB (Kd.S_new' ho0 (Kd.S_lt (by (with_reducible repeat (first | apply Kd.S_alloc | apply Kd.S_drewN | apply Kd.S_drew)); exact HO_8.out))) (g := gb206) (o := .cells #[.int .i64 1, .int .i64 5, .int .i64 0, .slice none 0 0] 24 (0, 0)) (by (with_reducible repeat (first | refine blk_drewN ?_ _ | refine blk_drew ?_ | refine blk_alloc ?_ _)); exact BK206.out)) (g := gb207) (o := .cells #[.int .i64 3, .int .i64 6, .int .i64 0, .slice none 0 0] 24 (0, 0)) (by (with_reducible repeat (first | refine blk_drewN ?_ _ | refine blk_drew ?_ | refine blk_alloc ?_ _)); exact BK207.out)) (below_size (by repeat (first | (with_reducible first | exact HB.out | apply below_alloc | apply pw_below_drewN | apply below_drew1 | refine below_set ?_ GE206.out | refine below_set ?_ GE207.out) | exact HB.out)))); have n2_ := Aside0.mk (blk_below (g := gb206) (o := .cells #[.int .i64 1, .int .i64 5, .int .i64 0, .slice none 0 0] 24 (0, 0)) (by (with_reducible repeat (first | refine blk_drewN ?_ _ | refine blk_drew ?_ | refine blk_alloc ?_ _)); exact BK206.out) hb); have n3_ := Aside0.mk (blk_below (g := gb207) (o := .cells #[.int .i64 3, .int .i64 6, .int .i64 0, .slice none 0 0] 24 (0, 0)) (by (with_reducible repeat (first | refine blk_drewN ?_ _ | refine blk_drew ?_ | refine blk_alloc ?_ _)); exact BK207.out) hb); have n4_ := Aside0.mk (below_step (by repeat (first | (with_reducible first | exact HB.out | apply below_alloc | apply pw_below_drewN | apply below_drew1 | refine below_set ?_ GE206.out | refine below_set ?_ GE207.out) | exact HB.out)) hb); clear HO_8; clear BK206; clear BK207; clear HB; have HO_8 := n0_; have HO234 := n1_; have BK206 := n2_; have BK207 := n3_; have HB := n4_; clear n0_ n1_ n2_ n3_ n4_; (try clear hb); (try clear hb2); (try clear hk); (try clear hi); (try clear ho0)) | ((with_reducible refine gate_callee (f := 28) rfl ?_); refine goesL_ (some 86) rfl rfl Try.func28 (by kernel_rfl) rfl #[.string (t228 ++ (⟨#[0]⟩ : ByteArray))] rfl (by (try simp only [List.map_toArray, List.map_cons, List.map_nil]); first | done | rfl | (simp only [List.length_drop, List.length_take]; rfl)) ?_; (with_reducible refine (update_Get.calls kj36 (t228 ++ (⟨#[0]⟩ : ByteArray)) t235 t236 _ A55.out).mono ?_); rintro e w82 ⟨v237, rfl, ho0, hb⟩; refine ⟨_, rfl, ?_⟩; have n0_ := Aside0.mk (Kd.S_elder' (by (with_reducible repeat (first | apply Kd.S_alloc | apply Kd.S_drewN | apply Kd.S_drew)); exact HO_8.out) (Kd.S_base ho0) hb); have n1_ := Aside0.mk (Kd.S_elder' (by (with_reducible repeat (first | apply Kd.S_alloc | apply Kd.S_drewN | apply Kd.S_drew)); exact HO234.out) (Kd.S_base ho0) hb); have n2_ := Aside0.mk (Kd.S_lower (Kd.S_newB (Kd.S_newB (Kd.S_new' (Kd.S_new' ho0 (Kd.S_lt (by (with_reducible repeat (first | apply Kd.S_alloc | apply Kd.S_drewN | apply Kd.S_drew)); exact HO_8.out))) (Kd.S_lt (by (with_reducible repeat (first | apply Kd.S_alloc | apply Kd.S_drewN | apply Kd.S_drew)); exact HO234.out))) (g := gb206) (o := .cells #[.int .i64 1, .int .i64 5, .int .i64 0, .slice none 0 0] 24 (0, 0)) (by (with_reducible repeat (first | refine blk_drewN ?_ _ | refine blk_drew ?_ | refine blk_alloc ?_ _)); exact BK206.out)) (g := gb207) (o := .cells #[.int .i64 3, .int .i64 6, .int .i64 0, .slice none 0 0] 24 (0, 0)) (by (with_reducible repeat (first | refine blk_drewN ?_ _ | refine blk_drew ?_ | refine blk_alloc ?_ _)); exact BK207.out)) (below_size (by repeat (first | (with_reducible first | exact HB.out | apply below_alloc | apply pw_below_drewN | apply below_drew1 | refine below_set ?_ GE206.out | refine below_set ?_ GE207.out) | exact HB.out)))); have n3_ := Aside0.mk (blk_below (g := gb206) (o := .cells #[.int .i64 1, .int .i64 5, .int .i64 0, .slice none 0 0] 24 (0, 0)) (by (with_reducible repeat (first | refine blk_drewN ?_ _ | refine blk_drew ?_ | refine blk_alloc ?_ _)); exact BK206.out) hb); have n4_ := Aside0.mk (blk_below (g := gb207) (o := .cells #[.int .i64 3, .int .i64 6, .int .i64 0, .slice none 0 0] 24 (0, 0)) (by (with_reducible repeat (first | refine blk_drewN ?_ _ | refine blk_drew ?_ | refine blk_alloc ?_ _)); exact BK207.out) hb); have n5_ := Aside0.mk (below_step (by repeat (first | (with_reducible first | exact HB.out | apply below_alloc | apply pw_below_drewN | apply below_drew1 | refine below_set ?_ GE206.out | refine below_set ?_ GE207.out) | exact HB.out)) hb); clear HO_8; clear HO234; clear BK206; clear BK207; clear HB; have HO_8 := n0_; have HO234 := n1_; have HO238 := n2_; have BK206 := n3_; have BK207 := n4_; have HB := n5_; clear n0_ n1_ n2_ n3_ n4_ n5_; (try clear hb); (try clear hb2); (try clear hk); (try clear hi); (try clear ho0)) | ((with_reducible refine gate_callee (f := 28) rfl ?_); refine goesL_ (some 93) rfl rfl Try.func28 (by kernel_rfl) rfl #[.string ((⟨#[1]⟩ : ByteArray) ++ (t228.extract 1 t228.size))] rfl (by (try simp only [List.map_toArray, List.map_cons, List.map_nil]); first | done | rfl | (simp only [List.length_drop, List.length_take]; rfl)) ?_; (with_reducible refine (update_Get.calls kj36 ((⟨#[1]⟩ : ByteArray) ++ (t228.extract 1 t228.size)) t239 t240 _ A58.out).mono ?_); rintro e w83 ⟨v241, rfl, ho0, hb⟩; refine ⟨_, rfl, ?_⟩; have n0_ := Aside0.mk (Kd.S_elder' (by (with_reducible repeat (first | apply Kd.S_alloc | apply Kd.S_drewN | apply Kd.S_drew)); exact HO_8.out) (Kd.S_base ho0) hb); have n1_ := Aside0.mk (Kd.S_elder' (by (with_reducible repeat (first | apply Kd.S_alloc | apply Kd.S_drewN | apply Kd.S_drew)); exact HO234.out) (Kd.S_base ho0) hb); have n2_ := Aside0.mk (Kd.S_elder' (by (with_reducible repeat (first | apply Kd.S_alloc | apply Kd.S_drewN | apply Kd.S_drew)); exact HO238.out) (Kd.S_base ho0) hb); have n3_ := Aside0.mk (Kd.S_lower (Kd.S_newB (Kd.S_newB (Kd.S_new' (Kd.S_new' (Kd.S_new' ho0 (Kd.S_lt (by (with_reducible repeat (first | apply Kd.S_alloc | apply Kd.S_drewN | apply Kd.S_drew)); exact HO_8.out))) (Kd.S_lt (by (with_reducible repeat (first | apply Kd.S_alloc | apply Kd.S_drewN | apply Kd.S_drew)); exact HO234.out))) (Kd.S_lt (by (with_reducible repeat (first | apply Kd.S_alloc | apply Kd.S_drewN | apply Kd.S_drew)); exact HO238.out))) (g := gb206) (o := .cells #[.int .i64 1, .int .i64 5, .int .i64 0, .slice none 0 0] 24 (0, 0)) (by (with_reducible repeat (first | refine blk_drewN ?_ _ | refine blk_drew ?_ | refine blk_alloc ?_ _)); exact BK206.out)) (g := gb207) (o := .cells #[.int .i64 3, .int .i64 6, .int .i64 0, .slice none 0 0] 24 (0, 0)) (by (with_reducible repeat (first | refine blk_drewN ?_ _ | refine blk_drew ?_ | refine blk_alloc ?_ _)); exact BK207.out)) (below_size (by repeat (first | (with_reducible first | exact HB.out | apply below_alloc | apply pw_below_drewN | apply below_drew1 | refine below_set ?_ GE206.out | refine below_set ?_ GE207.out) | exact HB.out)))); have n4_ := Aside0.mk (blk_below (g := gb206) (o := .cells #[.int .i64 1, .int .i64 5, .int .i64 0, .slice none 0 0] 24 (0, 0)) (by (with_reducible repeat (first | refine blk_drewN ?_ _ | refine blk_drew ?_ | refine blk_alloc ?_ _)); exact BK206.out) hb); have n5_ := Aside0.mk (blk_below (g := gb207) (o := .cells #[.int .i64 3, .int .i64 6, .int .i64 0, .slice none 0 0] 24 (0, 0)) (by (with_reducible repeat (first | refine blk_drewN ?_ _ | refine blk_drew ?_ | refine blk_alloc ?_ _)); exact BK207.out) hb); have n6_ := Aside0.mk (below_step (by repeat (first | (with_reducible first | exact HB.out | apply below_alloc | apply pw_below_drewN | apply below_drew1 | refine below_set ?_ GE206.out | refine below_set ?_ GE207.out) | exact HB.out)) hb); clear HO_8; clear HO234; clear HO238; clear BK206; clear BK207; clear HB; have HO_8 := n0_; have HO234 := n1_; have HO238 := n2_; have HO242 := n3_; have BK206 := n4_; have BK207 := n5_; have HB := n6_; clear n0_ n1_ n2_ n3_ n4_ n5_ n6_; (try clear hb); (try clear hb2); (try clear hk); (try clear hi); (try clear ho0)) | ((with_reducible refine gate_callee (f := 28) rfl ?_); refine goesL_ (some 100) rfl rfl Try.func28 (by kernel_rfl) rfl #[.string ((⟨#[3]⟩ : ByteArray) ++ (t228.extract 1 t228.size))] rfl (by (try simp only [List.map_toArray, List.map_cons, List.map_nil]); first | done | rfl | (simp only [List.length_drop, List.length_take]; rfl)) ?_; (with_reducible refine (update_Get.calls kj36 ((⟨#[3]⟩ : ByteArray) ++ (t228.extract 1 t228.size)) t243 t244 _ A60.out).mono ?_); rintro e w84 ⟨v245, rfl, ho0, hb⟩; refine ⟨_, rfl, ?_⟩; have n0_ := Aside0.mk (Kd.S_elder' (by (with_reducible repeat (first | apply Kd.S_alloc | apply Kd.S_drewN | apply Kd.S_drew)); exact HO_8.out) (Kd.S_base ho0) hb); have n1_ := Aside0.mk (Kd.S_elder' (by (with_reducible repeat (first | apply Kd.S_alloc | apply Kd.S_drewN | apply Kd.S_drew)); exact HO234.out) (Kd.S_base ho0) hb); have n2_ := Aside0.mk (Kd.S_elder' (by (with_reducible repeat (first | apply Kd.S_alloc | apply Kd.S_drewN | apply Kd.S_drew)); exact HO238.out) (Kd.S_base ho0) hb); have n3_ := Aside0.mk (Kd.S_elder' (by (with_reducible repeat (first | apply Kd.S_alloc | apply Kd.S_drewN | apply Kd.S_drew)); exact HO242.out) (Kd.S_base ho0) hb); have n4_ := Aside0.mk (Kd.S_lower (Kd.S_newB (Kd.S_newB (Kd.S_new' (Kd.S_new' (Kd.S_new' (Kd.S_new' ho0 (Kd.S_lt (by (with_reducible repeat (first | apply Kd.S_alloc | apply Kd.S_drewN | apply Kd.S_drew)); exact HO_8.out))) (Kd.S_lt (by (with_reducible repeat (first | apply Kd.S_alloc | apply Kd.S_drewN | apply Kd.S_drew)); exact HO234.out))) (Kd.S_lt (by (with_reducible repeat (first | apply Kd.S_alloc | apply Kd.S_drewN | apply Kd.S_drew)); exact HO238.out))) (Kd.S_lt (by (with_reducible repeat (first | apply Kd.S_alloc | apply Kd.S_drewN | apply Kd.S_drew)); exact HO242.out))) (g := gb206) (o := .cells #[.int .i64 1, .int .i64 5, .int .i64 0, .slice none 0 0] 24 (0, 0)) (by (with_reducible repeat (first | refine blk_drewN ?_ _ | refine blk_drew ?_ | refine blk_alloc ?_ _)); exact BK206.out)) (g := gb207) (o := .cells #[.int .i64 3, .int .i64 6, .int .i64 0, .slice none 0 0] 24 (0, 0)) (by (with_reducible repeat (first | refine blk_drewN ?_ _ | refine blk_drew ?_ | refine blk_alloc ?_ _)); exact BK207.out)) (below_size (by repeat (first | (with_reducible first | exact HB.out | apply below_alloc | apply pw_below_drewN | apply below_drew1 | refine below_set ?_ GE206.out | refine below_set ?_ GE207.out) | exact HB.out)))); have n5_ := Aside0.mk (blk_below (g := gb206) (o := .cells #[.int .i64 1, .int .i64 5, .int .i64 0, .slice none 0 0] 24 (0, 0)) (by (with_reducible repeat (first | refine blk_drewN ?_ _ | refine blk_drew ?_ | refine blk_alloc ?_ _)); exact BK206.out) hb); have n6_ := Aside0.mk (blk_below (g := gb207) (o := .cells #[.int .i64 3, .int .i64 6, .int .i64 0, .slice none 0 0] 24 (0, 0)) (by (with_reducible repeat (first | refine blk_drewN ?_ _ | refine blk_drew ?_ | refine blk_alloc ?_ _)); exact BK207.out) hb); have n7_ := Aside0.mk (below_step (by repeat (first | (with_reducible first | exact HB.out | apply below_alloc | apply pw_below_drewN | apply below_drew1 | refine below_set ?_ GE206.out | refine below_set ?_ GE207.out) | exact HB.out)) hb); clear HO_8; clear HO234; clear HO238; clear HO242; clear BK206; clear BK207; clear HB; have HO_8 := n0_; have HO234 := n1_; have HO238 := n2_; have HO242 := n3_; have HO246 := n4_; have BK206 := n5_; have BK207 := n6_; have HB := n7_; clear n0_ n1_ n2_ n3_ n4_ n5_ n6_ n7_; (try clear hb); (try clear hb2); (try clear hk); (try clear hi); (try clear ho0)))
                       have n0_ := Aside0.mk (Kd.S_drew HO_8.out)
                       have n1_ := Aside0.mk (Kd.S_drew HO234.out)
                       have n2_ := Aside0.mk (Kd.S_drew HO238.out)
                       have n3_ := Aside0.mk (Kd.S_drew HO242.out)
                       have n4_ := Aside0.mk (Kd.S_drew HO246.out)
                       have n5_ := Aside0.mk (blk_drew BK206.out)
                       have n6_ := Aside0.mk (blk_drew BK207.out)
                       have n7_ := Aside0.mk (below_drew1 HB.out)
                       clear HO_8
                       clear HO234
                       clear HO238
                       clear HO242
                       clear HO246
                       clear BK206
                       clear BK207
                       clear HB
                       have HO_8 := n0_
                       have HO234 := n1_
                       have HO238 := n2_
                       have HO242 := n3_
                       have HO246 := n4_
                       have BK206 := n5_
                       have BK207 := n6_
                       have HB := n7_
                       clear n0_ n1_ n2_ n3_ n4_ n5_ n6_ n7_
                       refine start_ (n := 12) (S := fun w' => True) (ds := []) #[false, false, false, false, false, false, false, false, false, false, false, false] (by kernel_rfl) rfl rfl trivial (fun hHeld => ?_); refine with_tabW watchwordlaw10_UpdateForms.tab14 watchwordlaw10_UpdateForms.bits14 (fun HT_ HW_ => ?_)
                       generalize w84.drew = w85 at HO_8 HO234 HO238 HO242 HO246 BK206 BK207 HB hHeld ⊢
                       refine pure_ (i := 0) (N := some 104) (v := ?_) (a' := ?_) #[true, false, false, false, false, false, false, false, false, false, false, false] rfl rfl (any_of HT_.out (by kernel_rfl)) (fun _ _ _ h => h) (Or.inl ⟨by rfl, ?_⟩) ?_ ?_
                       rotate_left
                       ·intro w'
                        go_simp
                        with_reducible rfl
                       rotate_left
                       ·simp only [Act.put, List.setIfInBounds_toArray, List.set_cons_zero, List.set_cons_succ, i64_w, i32_w]
                        rfl
                       refine pure_ (i := 1) (N := some 105) (v := ?_) (a' := ?_) #[true, true, false, false, false, false, false, false, false, false, false, false] rfl rfl (any_of HT_.out (by kernel_rfl)) (fun _ _ _ h => h) (Or.inl ⟨by rfl, ?_⟩) ?_ ?_
                       rotate_left
                       ·intro w'
                        go_simp
                        with_reducible rfl
                       rotate_left
                       ·simp only [Act.put, List.setIfInBounds_toArray, List.set_cons_zero, List.set_cons_succ, i64_w, i32_w]
                        rfl
                       refine pure_ (i := 2) (N := some 106) (v := ?_) (a' := ?_) #[true, true, true, false, false, false, false, false, false, false, false, false] rfl rfl (any_of HT_.out (by kernel_rfl)) (fun _ _ _ h => h) (Or.inl ⟨by rfl, ?_⟩) ?_ ?_
                       rotate_left
                       ·intro w'
                        go_simp
                        with_reducible rfl
                       rotate_left
                       ·simp only [Act.put, List.setIfInBounds_toArray, List.set_cons_zero, List.set_cons_succ, i64_w, i32_w]
                        rfl
                       refine pure_ (i := 3) (N := some 107) (v := ?_) (a' := ?_) #[true, true, true, true, false, false, false, false, false, false, false, false] rfl rfl (any_of HT_.out (by kernel_rfl)) (fun _ _ _ h => h) (Or.inl ⟨by rfl, ?_⟩) ?_ ?_
                       rotate_left
                       ·intro w'
                        go_simp
                        with_reducible rfl
                       rotate_left
                       ·simp only [Act.put, List.setIfInBounds_toArray, List.set_cons_zero, List.set_cons_succ, i64_w, i32_w]
                        rfl
                       refine pure_ (i := 4) (N := some 108) (v := ?_) (a' := ?_) #[true, true, true, true, true, false, false, false, false, false, false, false] rfl rfl (any_of HT_.out (by kernel_rfl)) (fun _ _ _ h => h) (Or.inl ⟨by rfl, ?_⟩) ?_ ?_
                       rotate_left
                       ·intro w'
                        go_simp
                        with_reducible rfl
                       rotate_left
                       ·simp only [Act.put, List.setIfInBounds_toArray, List.set_cons_zero, List.set_cons_succ, i64_w, i32_w]
                        rfl
                       refine pure_ (i := 5) (N := some 109) (v := ?_) (a' := ?_) #[true, true, true, true, true, true, false, false, false, false, false, false] rfl rfl (any_of HT_.out (by kernel_rfl)) (fun _ _ _ h => h) (Or.inl ⟨by rfl, ?_⟩) ?_ ?_
                       rotate_left
                       ·intro w'
                        go_simp
                        with_reducible rfl
                       rotate_left
                       ·simp only [Act.put, List.setIfInBounds_toArray, List.set_cons_zero, List.set_cons_succ, i64_w, i32_w]
                        rfl
                       refine one_ (i := 6) (N := some 110) #[true, true, true, true, true, true, true, false, false, false, false, false] rfl rfl (one_of HT_.out (by kernel_rfl)) (by decide) (fun K hK => ?_)
                       refine goes_ Try.func28 (by kernel_rfl) rfl #[.string (((⟨#[2]⟩ : ByteArray) ++ (t228.extract 10 t228.size)) ++ (t228.extract 1 10))] (by rfl) rfl rfl (by (try simp only [List.map_toArray, List.map_cons, List.map_nil]); first | done | rfl | (simp only [List.length_drop, List.length_take]; rfl)) ?_
                       with_reducible refine (update_Get.calls kj36 (((⟨#[2]⟩ : ByteArray) ++ (t228.extract 10 t228.size)) ++ (t228.extract 1 10)) t247 t248 _ A66.out).mono ?_
                       rintro e w86 ⟨v249, rfl, ho0, hb⟩
                       refine ⟨_, rfl, ?_⟩
                       have n0_ := Aside0.mk (Kd.S_elder' (by (with_reducible repeat (first | apply Kd.S_alloc | apply Kd.S_drewN | apply Kd.S_drew)); exact HO_8.out) (Kd.S_base ho0) hb)
                       have n1_ := Aside0.mk (Kd.S_elder' (by (with_reducible repeat (first | apply Kd.S_alloc | apply Kd.S_drewN | apply Kd.S_drew)); exact HO234.out) (Kd.S_base ho0) hb)
                       have n2_ := Aside0.mk (Kd.S_elder' (by (with_reducible repeat (first | apply Kd.S_alloc | apply Kd.S_drewN | apply Kd.S_drew)); exact HO238.out) (Kd.S_base ho0) hb)
                       have n3_ := Aside0.mk (Kd.S_elder' (by (with_reducible repeat (first | apply Kd.S_alloc | apply Kd.S_drewN | apply Kd.S_drew)); exact HO242.out) (Kd.S_base ho0) hb)
                       have n4_ := Aside0.mk (Kd.S_elder' (by (with_reducible repeat (first | apply Kd.S_alloc | apply Kd.S_drewN | apply Kd.S_drew)); exact HO246.out) (Kd.S_base ho0) hb)
                       have n5_ := Aside0.mk (Kd.S_lower (Kd.S_newB (Kd.S_newB (Kd.S_new' (Kd.S_new' (Kd.S_new' (Kd.S_new' (Kd.S_new' ho0 (Kd.S_lt (by (with_reducible repeat (first | apply Kd.S_alloc | apply Kd.S_drewN | apply Kd.S_drew)); exact HO_8.out))) (Kd.S_lt (by (with_reducible repeat (first | apply Kd.S_alloc | apply Kd.S_drewN | apply Kd.S_drew)); exact HO234.out))) (Kd.S_lt (by (with_reducible repeat (first | apply Kd.S_alloc | apply Kd.S_drewN | apply Kd.S_drew)); exact HO238.out))) (Kd.S_lt (by (with_reducible repeat (first | apply Kd.S_alloc | apply Kd.S_drewN | apply Kd.S_drew)); exact HO242.out))) (Kd.S_lt (by (with_reducible repeat (first | apply Kd.S_alloc | apply Kd.S_drewN | apply Kd.S_drew)); exact HO246.out))) (g := gb206) (o := .cells #[.int .i64 1, .int .i64 5, .int .i64 0, .slice none 0 0] 24 (0, 0)) (by (with_reducible repeat (first | refine blk_drewN ?_ _ | refine blk_drew ?_ | refine blk_alloc ?_ _)); exact BK206.out)) (g := gb207) (o := .cells #[.int .i64 3, .int .i64 6, .int .i64 0, .slice none 0 0] 24 (0, 0)) (by (with_reducible repeat (first | refine blk_drewN ?_ _ | refine blk_drew ?_ | refine blk_alloc ?_ _)); exact BK207.out)) (below_size (by repeat (first | (with_reducible first | exact HB.out | apply below_alloc | apply pw_below_drewN | apply below_drew1 | refine below_set ?_ GE206.out | refine below_set ?_ GE207.out) | exact HB.out))))
                       have n6_ := Aside0.mk (blk_below (g := gb206) (o := .cells #[.int .i64 1, .int .i64 5, .int .i64 0, .slice none 0 0] 24 (0, 0)) (by (with_reducible repeat (first | refine blk_drewN ?_ _ | refine blk_drew ?_ | refine blk_alloc ?_ _)); exact BK206.out) hb)
                       have n7_ := Aside0.mk (blk_below (g := gb207) (o := .cells #[.int .i64 3, .int .i64 6, .int .i64 0, .slice none 0 0] 24 (0, 0)) (by (with_reducible repeat (first | refine blk_drewN ?_ _ | refine blk_drew ?_ | refine blk_alloc ?_ _)); exact BK207.out) hb)
                       have n8_ := Aside0.mk (below_step (by repeat (first | (with_reducible first | exact HB.out | apply below_alloc | apply pw_below_drewN | apply below_drew1 | refine below_set ?_ GE206.out | refine below_set ?_ GE207.out) | exact HB.out)) hb)
                       clear HO_8
                       clear HO234
                       clear HO238
                       clear HO242
                       clear HO246
                       clear BK206
                       clear BK207
                       clear HB
                       have HO_8 := n0_
                       have HO234 := n1_
                       have HO238 := n2_
                       have HO242 := n3_
                       have HO246 := n4_
                       have HO250 := n5_
                       have BK206 := n6_
                       have BK207 := n7_
                       have HB := n8_
                       clear n0_ n1_ n2_ n3_ n4_ n5_ n6_ n7_ n8_
                       (try clear hb)
                       (try clear hb2)
                       (try clear hk)
                       (try clear hi)
                       (try clear ho0)
                       refine hK.out _ _ trivial (fun hHeld => ?_)
                       clear hK K
                       refine norm_ (a' := ?_) ?_ ?_
                       rotate_left
                       ·show Act.put _ (some 110) _ = _
                        simp only [Act.put, List.setIfInBounds_toArray, List.set_cons_zero, List.set_cons_succ, i64_w, i32_w]
                        rfl
                       refine pure_ (i := 7) (N := some 103) (v := ?_) (a' := ?_) #[true, true, true, true, true, true, true, true, false, false, false, false] rfl rfl (any_of HT_.out (by kernel_rfl)) (fun _ _ _ h => h) (Or.inl ⟨by rfl, ?_⟩) ?_ ?_
                       rotate_left
                       ·intro w'
                        go_simp
                        with_reducible rfl
                       rotate_left
                       ·simp only [Act.put, List.setIfInBounds_toArray, List.set_cons_zero, List.set_cons_succ, i64_w, i32_w]
                        rfl
                       refine pure_ (i := 8) (N := some 111) (v := ?_) (a' := ?_) #[true, true, true, true, true, true, true, true, true, false, false, false] rfl rfl (any_of HT_.out (by kernel_rfl)) (fun _ _ _ h => h) (Or.inl ⟨by rfl, ?_⟩) ?_ ?_
                       rotate_left
                       ·intro w'
                        go_simp
                        with_reducible rfl
                       rotate_left
                       ·simp only [Act.put, List.setIfInBounds_toArray, List.set_cons_zero, List.set_cons_succ, i64_w, i32_w]
                        rfl
                       refine pure_ (i := 9) (N := some 112) (v := ?_) (a' := ?_) #[true, true, true, true, true, true, true, true, true, true, false, false] rfl rfl (any_of HT_.out (by kernel_rfl)) (fun _ _ _ h => h) (Or.inl ⟨by rfl, ?_⟩) ?_ ?_
                       rotate_left
                       ·intro w'
                        go_simp
                        with_reducible rfl
                       rotate_left
                       ·simp only [Act.put, List.setIfInBounds_toArray, List.set_cons_zero, List.set_cons_succ, i64_w, i32_w]
                        rfl
                       refine pure_ (i := 10) (N := some 21) (v := ?_) (a' := ?_) #[true, true, true, true, true, true, true, true, true, true, true, false] rfl rfl (any_of HT_.out (by kernel_rfl)) (fun _ _ _ h => h) (Or.inl ⟨by rfl, ?_⟩) ?_ ?_
                       rotate_left
                       ·intro w'
                        go_simp
                        with_reducible rfl
                       rotate_left
                       ·simp only [Act.put, List.setIfInBounds_toArray, List.set_cons_zero, List.set_cons_succ, i64_w, i32_w]
                        rfl
                       refine pure_ (i := 11) (N := some 22) (v := ?_) (a' := ?_) #[true, true, true, true, true, true, true, true, true, true, true, true] rfl rfl (any_of HT_.out (by kernel_rfl)) (fun _ _ _ h => h) (Or.inl ⟨by rfl, ?_⟩) ?_ ?_
                       rotate_left
                       ·intro w'
                        go_simp
                        with_reducible rfl
                       rotate_left
                       ·simp only [Act.put, List.setIfInBounds_toArray, List.set_cons_zero, List.set_cons_succ, i64_w, i32_w]
                        rfl
                       refine done_ (done_of HT_.out (by kernel_rfl)) ?_
                       try go_wp2_with (first | ((with_reducible refine gate_callee (f := 31) rfl ?_); refine goesL_ (some 114) rfl rfl Try.func31 (by kernel_rfl) rfl #[.slice Ao38 x8_4.length co38] rfl (by (try simp only [List.map_toArray, List.map_cons, List.map_nil]); first | done | rfl | (simp only [List.length_drop, List.length_take]; rfl)) ?_; (with_reducible refine (update_May.calls kj36 _ _ x8_4 false _ ?side1 ?side2 A67.out).mono ?_); (case side1 => repeat (first | exact (Kd.S_reads' HO_8.out).2.2 | (with_reducible refine Kd.C_alloc ?_ _) | (with_reducible refine Kd.C_drewN ?_ _) | (with_reducible refine Kd.C_drew ?_))); (case side2 => exact (Kd.S_reads' HO_8.out).2.1); rintro e w87 ⟨rfl, hb⟩; refine ⟨_, rfl, ?_⟩; have n0_ := Aside0.mk (Kd.S_below (by (with_reducible repeat (first | apply Kd.S_alloc | apply Kd.S_drewN | apply Kd.S_drew)); exact HO_8.out) hb); have n1_ := Aside0.mk (Kd.S_below (by (with_reducible repeat (first | apply Kd.S_alloc | apply Kd.S_drewN | apply Kd.S_drew)); exact HO234.out) hb); have n2_ := Aside0.mk (Kd.S_below (by (with_reducible repeat (first | apply Kd.S_alloc | apply Kd.S_drewN | apply Kd.S_drew)); exact HO238.out) hb); have n3_ := Aside0.mk (Kd.S_below (by (with_reducible repeat (first | apply Kd.S_alloc | apply Kd.S_drewN | apply Kd.S_drew)); exact HO242.out) hb); have n4_ := Aside0.mk (Kd.S_below (by (with_reducible repeat (first | apply Kd.S_alloc | apply Kd.S_drewN | apply Kd.S_drew)); exact HO246.out) hb); have n5_ := Aside0.mk (Kd.S_below (by (with_reducible repeat (first | apply Kd.S_alloc | apply Kd.S_drewN | apply Kd.S_drew)); exact HO250.out) hb); have n6_ := Aside0.mk (blk_below (g := gb206) (o := .cells #[.int .i64 1, .int .i64 5, .int .i64 0, .slice none 0 0] 24 (0, 0)) (by (with_reducible repeat (first | refine blk_drewN ?_ _ | refine blk_drew ?_ | refine blk_alloc ?_ _)); exact BK206.out) hb); have n7_ := Aside0.mk (blk_below (g := gb207) (o := .cells #[.int .i64 3, .int .i64 6, .int .i64 0, .slice none 0 0] 24 (0, 0)) (by (with_reducible repeat (first | refine blk_drewN ?_ _ | refine blk_drew ?_ | refine blk_alloc ?_ _)); exact BK207.out) hb); have n8_ := Aside0.mk (below_step (by repeat (first | (with_reducible first | exact HB.out | apply below_alloc | apply pw_below_drewN | apply below_drew1 | refine below_set ?_ GE206.out | refine below_set ?_ GE207.out) | exact HB.out)) hb); clear HO_8; clear HO234; clear HO238; clear HO242; clear HO246; clear HO250; clear BK206; clear BK207; clear HB; have HO_8 := n0_; have HO234 := n1_; have HO238 := n2_; have HO242 := n3_; have HO246 := n4_; have HO250 := n5_; have BK206 := n6_; have BK207 := n7_; have HB := n8_; clear n0_ n1_ n2_ n3_ n4_ n5_ n6_ n7_ n8_; (try clear hb); (try clear hb2); (try clear hk); (try clear hi)) | (go_at_call 19; (with_reducible refine (watchwordlaw0_Num.calls t224 t252 _ A70.out).mono ?_); rintro e w' ⟨rfl, ⟨nd, rfl⟩⟩) | (go_at_call 19; (with_reducible refine (watchwordlaw0_Num.calls t232 t253 _ A72.out).mono ?_); rintro e w' ⟨rfl, ⟨nd, rfl⟩⟩) | (go_at_call 19; (with_reducible refine (watchwordlaw0_Num.calls t236 t254 _ A74.out).mono ?_); rintro e w' ⟨rfl, ⟨nd, rfl⟩⟩) | (go_at_call 19; (with_reducible refine (watchwordlaw0_Num.calls t240 t255 _ A76.out).mono ?_); rintro e w' ⟨rfl, ⟨nd, rfl⟩⟩) | (go_at_call 19; (with_reducible refine (watchwordlaw0_Num.calls t244 t256 _ A78.out).mono ?_); rintro e w' ⟨rfl, ⟨nd, rfl⟩⟩) | (go_at_call 19; (with_reducible refine (watchwordlaw0_Num.calls t248 t257 _ A80.out).mono ?_); rintro e w' ⟨rfl, ⟨nd, rfl⟩⟩))
                       go_ret
                       exact ⟨by first | rfl | (simp [errW_none, errW_some] <;> rfl) | (simp only [← hji50]; first | rfl | (simp [errW_none, errW_some] <;> rfl)) | (simp [*, errW_none, errW_some] <;> rfl), by repeat (first | (with_reducible first | exact HB.out | apply below_alloc | apply pw_below_drewN | apply below_drew1 | refine below_set ?_ GE206.out | refine below_set ?_ GE207.out) | exact HB.out)⟩
                      ·rw [if_neg c79] at H
                       have c79b0 : (t256 == 1000) = false := beq_eq_false_iff_ne.mpr c79
                       have c79b1 : (t256 != 1000) = true := bne_iff_ne.mpr c79
                       exact absurd (Option.some.inj H) (by rw [HT.out]; decide)
                     ·rw [if_neg c77] at H
                      have c77b0 : (t255 == 1000) = false := beq_eq_false_iff_ne.mpr c77
                      have c77b1 : (t255 != 1000) = true := bne_iff_ne.mpr c77
                      exact absurd (Option.some.inj H) (by rw [HT.out]; decide)
                    ·rw [if_neg c75] at H
                     have c75b0 : (t254 == 1000) = false := beq_eq_false_iff_ne.mpr c75
                     have c75b1 : (t254 != 1000) = true := bne_iff_ne.mpr c75
                     exact absurd (Option.some.inj H) (by rw [HT.out]; decide)
                   ·rw [if_neg c73] at H
                    have c73b0 : (t253 == 1000) = false := beq_eq_false_iff_ne.mpr c73
                    have c73b1 : (t253 != 1000) = true := bne_iff_ne.mpr c73
                    exact absurd (Option.some.inj H) (by rw [HT.out]; decide)
                  ·rw [if_neg c71] at H
                   have c71b0 : (t252 == 1000) = false := beq_eq_false_iff_ne.mpr c71
                   have c71b1 : (t252 != 1000) = true := bne_iff_ne.mpr c71
                   exact absurd (Option.some.inj H) (by rw [HT.out]; decide)
                 ·rw [if_neg c69] at H
                  have c69b0 : (t223.toList == ([] : List UInt8)) = false := beq_eq_false_iff_ne.mpr c69
                  have c69b1 : (t223.toList != ([] : List UInt8)) = true := bne_iff_ne.mpr c69
                  exact absurd (Option.some.inj H) (by rw [HT.out]; decide)
               ·rw [if_neg c65] at H
                exact absurd H (by simp)
              ·rw [if_neg c63] at H
               exact absurd H (by simp)
             ·rw [if_neg c62] at H
              exact absurd H (by simp)
            ·rw [if_neg c61] at H
             exact absurd H (by simp)
           ·rw [if_neg c57] at H
            exact absurd H (by simp)
          ·rw [if_neg c56] at H
           exact absurd H (by simp)
         ·rw [if_neg c54] at H
          exact absurd H (by simp)
        ·rw [if_neg c52] at H
         exact absurd H (by simp)
       ·rw [if_neg c51] at H
        exact absurd H (by simp)
 ·replace c4 := Bool.eq_false_iff.mpr c4
  subst c4
  have H1 : (some false) = some r := by rw [if_neg (show ¬ (false = true) by decide)] at H; exact H
  clear H
  have H := H1
  clear H1
  exact absurd (Option.some.inj H) (by rw [HT.out]; decide)

/-- THE ONE PURE STATEMENT of watchwordlaw10_UpdateForms: yours. -/
def watchwordlaw10_UpdateForms.Pure : Prop := ∀ (a0 : Int) (a1 : Int), (Lit.int .i64 a0).wf = true → (Lit.int .i64 a1).wf = true → ∃ k, watchwordlaw10_UpdateForms.f k a0 a1 = some true
theorem watchwordlaw10_UpdateForms.walk (P : watchwordlaw10_UpdateForms.Pure) (a0 : Int) (a1 : Int) (w : World) (w0 : (Lit.int .i64 a0).wf = true) (w1 : (Lit.int .i64 a1).wf = true) :
  Calls Try.prog 9 #[.int .i64 a0, .int .i64 a1] w fun e w' => e = .returned (.bool true) ∧ Below w.heap.size w w' := by
 obtain ⟨k, h⟩ := P a0 a1 w0 w1
 refine (watchwordlaw10_UpdateForms.calls k a0 a1 true w h rfl).mono ?_
 rintro e w' ⟨rfl, hd⟩
 exact ⟨rfl, hd⟩

end Go.Proofs.Ytmcajcomoegkdaa.Q10f
