/- HeadForms: for all two numbers, each of the heads that may not be is refused by head.Put with no bytes, and each of the texts that are none by head.Get; no condition beyond the row's own. -/
import Derived.Test.YtkfnbnfdcfcfpaaQ8x3
import Derived.Test.YtkfnbnfdcfcfpaaL8
namespace Go.Proofs.Ytkfnbnfdcfcfpaa.Pure
open Go.RowKit Go.Proofs.YtkfnbnfdcfcfpaaW.PrintWords Go.Proofs.YtkfnbnfdcfcfpaaW.PrintLast Go.Proofs.YtkfnbnfdcfcfpaaW.PrintMore Go.Proofs.Ytkfnbnfdcfcfpaa.Base Go.Proofs.Ytkfnbnfdcfcfpaa.Q8 Go.Proofs.Ytkfnbnfdcfcfpaa.L8
set_option linter.unusedVariables false

theorem mod10 (a : Int) : 0 ≤ wrap64 (Int.tmod (IntKind.u64.wrap a) 10) ∧ wrap64 (Int.tmod (IntKind.u64.wrap a) 10) < 10 := by
  have hw : IntKind.u64.wrap a = a % 18446744073709551616 := by simp [IntKind.wrap, IntKind.bits, IntKind.signed]
  rw [hw, Int.tmod_eq_emod_of_nonneg (by omega), wrap_id (by omega) (by omega)]
  omega
theorem texts_bad : ∀ i : Fin 10, watchwordlaw8_HeadForms.j0 100 (i.val : Int) (⟨#[]⟩ : ByteArray) 800 (strOfNums (hdr 5 4 20)) false = some true := by decide +kernel
theorem texts_none {i : Int} (h : 0 ≤ i ∧ i < 10) : watchwordlaw8_HeadForms.j0 100 i (⟨#[]⟩ : ByteArray) 800 (strOfNums (hdr 5 4 20)) false = some true := by
  have := texts_bad ⟨i.toNat, by omega⟩
  rwa [show (((⟨i.toNat, by omega⟩ : Fin 10).val : Nat) : Int) = i from by simp; omega] at this
theorem HeadForms : watchwordlaw8_HeadForms.Pure := by
  intro a0 a1 h0 h1
  refine ⟨100, ?_⟩
  have m0 := mod10 a0
  simp only [watchwordlaw8_HeadForms.f, awake_ok (show 100 ≤ 100 by decide), head_Put_f (show 1 ≤ 100 by decide), watchwordlaw0_Num.f, Option.bind_some, if_true, and1023]
  generalize wrap64 (Int.tmod (IntKind.u64.wrap a0) 10) = i at m0 ⊢
  obtain ⟨d, hd, d0, d1⟩ : ∃ d, d = 1 + a1 % 1024 ∧ 1 ≤ d ∧ d ≤ 1024 := ⟨_, rfl, by omega, by omega⟩
  rw [wrap_id (x := 1 + a1 % 1024) (by omega) (by omega), ← hd, wrap_id (x := -d) (by omega) (by omega), wrap_id (x := 5 + d) (by omega) (by omega), wrap_id (x := 4 + d) (by omega) (by omega), wrap_id (x := 12 - d) (by omega) (by omega), wrap_id (x := 512 + d) (by omega) (by omega)]
  simp only [List.length_cons, List.length_nil]
  rw [if_pos (by omega), if_pos (by omega), if_pos (by omega), if_pos (by omega)]
  have hgood : HeadOk 5 4 20 := by decide
  have hbad : ¬ HeadOk (rd [-d, 0, 2, 3, 5 + d, 4, 4, 4, 4, 4] i) (rd [1, 1, 1, 1, 1, 0, -d, 4 + d, 1, 1] i) (rd [20, 20, 20, 20, 20, 20, 20, 20, 12 - d, 512 + d] i) := by
    have : i = 0 ∨ i = 1 ∨ i = 2 ∨ i = 3 ∨ i = 4 ∨ i = 5 ∨ i = 6 ∨ i = 7 ∨ i = 8 ∨ i = 9 := by omega
    unfold HeadOk
    rcases this with rfl | rfl | rfl | rfl | rfl | rfl | rfl | rfl | rfl | rfl <;> simp [rd] <;> omega
  simp only [if_neg hbad, if_pos hgood, if_true]
  exact texts_none m0

end Go.Proofs.Ytkfnbnfdcfcfpaa.Pure
