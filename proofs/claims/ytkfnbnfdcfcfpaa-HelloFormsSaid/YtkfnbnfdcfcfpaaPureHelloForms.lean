/- HelloForms: for all two numbers, each of the lists that may not be is refused by hello.Put with no bytes and by hello.May, and each of the texts that are none by hello.Get; no condition beyond the row's own. -/
import Derived.Test.YtkfnbnfdcfcfpaaQ9x2
import Derived.Test.YtkfnbnfdcfcfpaaL9
namespace Go.Proofs.Ytkfnbnfdcfcfpaa.Pure
open Go.RowKit Go.Proofs.YtkfnbnfdcfcfpaaW.PrintWords Go.Proofs.YtkfnbnfdcfcfpaaW.PrintLast Go.Proofs.YtkfnbnfdcfcfpaaW.PrintMore Go.Proofs.Ytkfnbnfdcfcfpaa.Base Go.Proofs.Ytkfnbnfdcfcfpaa.Q9 Go.Proofs.Ytkfnbnfdcfcfpaa.L9
set_option linter.unusedVariables false

theorem hf_mod (a : Int) (m : Int) (hm : 1 ≤ m ∧ m ≤ 100) : 0 ≤ wrap64 (Int.tmod (IntKind.u64.wrap a) m) ∧ wrap64 (Int.tmod (IntKind.u64.wrap a) m) < m := by
  have hw : IntKind.u64.wrap a = a % 18446744073709551616 := by simp [IntKind.wrap, IntKind.bits, IntKind.signed]
  have h1 := Int.emod_nonneg (a % 18446744073709551616) (show m ≠ 0 by omega)
  have h2 := Int.emod_lt_of_pos (a % 18446744073709551616) (show 0 < m by omega)
  rw [hw, Int.tmod_eq_emod_of_nonneg (by omega), wrap_id (by omega) (by omega)]
  exact ⟨h1, h2⟩
def hf_texts : List ByteArray := [⟨#[]⟩, ⟨#[1]⟩, ⟨#[0, 1]⟩, ⟨#[1, 0]⟩, ⟨#[1, 5]⟩, ⟨#[2, 2, 1]⟩, ⟨#[2, 1, 1]⟩, ⟨#[1, 1, 2]⟩]
theorem hf_none : ∀ i : Fin 8, hello_Get.f 100 (rdOf ByteArray.empty hf_texts (i.val : Int)) = some ([], 900) := by decide +kernel
theorem hf_get {i : Int} (h : 0 ≤ i ∧ i < 8) : hello_Get.f 100 (rdOf ByteArray.empty hf_texts i) = some ([], 900) := by
  have := hf_none ⟨i.toNat, by omega⟩
  rwa [show (((⟨i.toNat, by omega⟩ : Fin 8).val : Nat) : Int) = i from by simp; omega] at this
theorem HelloForms : watchwordlaw9_HelloForms.Pure := by
  intro a0 a1 h0 h1
  refine ⟨100, ?_⟩
  have m0 := hf_mod a0 6 (by omega)
  have m1 := hf_mod a0 8 (by omega)
  simp only [watchwordlaw9_HelloForms.f, awake_ok (show 100 ≤ 100 by decide), watchwordlaw0_Num.f, Option.bind_some, if_true, and1023]
  generalize wrap64 (Int.tmod (IntKind.u64.wrap a0) 6) = i at m0 ⊢
  generalize wrap64 (Int.tmod (IntKind.u64.wrap a0) 8) = j at m1 ⊢
  obtain ⟨d, hd, d0, d1⟩ : ∃ d, d = 1 + a1 % 1024 ∧ 1 ≤ d ∧ d ≤ 1024 := ⟨_, rfl, by omega, by omega⟩
  rw [wrap_id (x := 1 + a1 % 1024) (by omega) (by omega), ← hd, wrap_id (x := -d) (by omega) (by omega), wrap_id (x := 4 + d) (by omega) (by omega)]
  have hbad : heard 0 (rd_L2 [[0], [-d], [4 + d], [1, 1], [3, 2], [1, 2, 3, 4, 4]] i) = false ∧ (rd_L2 [[0], [-d], [4 + d], [1, 1], [3, 2], [1, 2, 3, 4, 4]] i).length ≤ 5 := by
    have : i = 0 ∨ i = 1 ∨ i = 2 ∨ i = 3 ∨ i = 4 ∨ i = 5 := by omega
    rcases this with rfl | rfl | rfl | rfl | rfl | rfl <;> simp [rd_L2, heard] <;> omega
  obtain ⟨hb, hl⟩ := hbad
  have ht := hf_get m1
  unfold hf_texts at ht
  simp only [List.length_cons, List.length_nil]
  rw [if_pos (by omega), if_pos (by omega), hello_Put_f (by omega) (by omega), hello_May_f (by omega) (by omega), hb, Option.bind_some, if_pos (by omega), if_pos (by omega), ht]
  simp only [Option.bind_some, if_neg (show ¬ (false = true) by decide)]
  rw [if_pos empty_list]
  rfl

end Go.Proofs.Ytkfnbnfdcfcfpaa.Pure
