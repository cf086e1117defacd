/- HeadUnlike: for all four numbers, the heads that are drawn from them have the same bytes just where their types, routers and sizes are the same; no condition beyond the row's own. -/
import Derived.Test.YtkfnbnfdcfcfpaaQ8x4
import Derived.Test.YtkfnbnfdcfcfpaaL8
namespace Go.Proofs.Ytkfnbnfdcfcfpaa.Pure
open Go.RowKit Go.Proofs.YtkfnbnfdcfcfpaaW.PrintWords Go.Proofs.YtkfnbnfdcfcfpaaW.PrintLast Go.Proofs.Ytkfnbnfdcfcfpaa.Base Go.Proofs.Ytkfnbnfdcfcfpaa.Q8 Go.Proofs.Ytkfnbnfdcfcfpaa.L8
set_option linter.unusedVariables false

theorem mod3 (a : Int) : 0 ≤ wrap64 (Int.tmod (IntKind.u64.wrap a) 3) ∧ wrap64 (Int.tmod (IntKind.u64.wrap a) 3) < 3 := by
  have hw : IntKind.u64.wrap a = a % 18446744073709551616 := by simp [IntKind.wrap, IntKind.bits, IntKind.signed]
  rw [hw, Int.tmod_eq_emod_of_nonneg (by omega), wrap_id (by omega) (by omega)]
  omega
theorem kinds3 {i : Int} (h : 0 ≤ i ∧ i < 3) : rd [1, 4, 5] i = 1 ∨ rd [1, 4, 5] i = 4 ∨ rd [1, 4, 5] i = 5 := by
  have : i = 0 ∨ i = 1 ∨ i = 2 := by omega
  rcases this with rfl | rfl | rfl <;> decide
theorem hdr_inj {k r s k' r' s' : Int} (h : HeadOk k r s) (h' : HeadOk k' r' s') : (hdr k r s = hdr k' r' s') ↔ (k = k' ∧ r = r' ∧ s = s') := by
  constructor
  · intro e
    have e1 := get_hdr h []
    have e2 := get_hdr h' []
    rw [e, e2] at e1
    simp only [Prod.mk.injEq] at e1
    exact ⟨e1.1.symm, e1.2.1.symm, e1.2.2.1.symm⟩
  · rintro ⟨rfl, rfl, rfl⟩; rfl
theorem HeadUnlike : watchwordlaw8_HeadUnlike.Pure := by
  intro a0 a1 a2 a3 h0 h1 h2 h3
  refine ⟨100, ?_⟩
  have m0 := mod3 a0
  have m1 := mod3 a1
  have k0 := kinds3 m0
  have k1 := kinds3 m1
  simp only [watchwordlaw8_HeadUnlike.f, awake_ok (show 100 ≤ 100 by decide), head_Put_f (show 1 ≤ 100 by decide), watchwordlaw0_Num.f, Option.bind_some, if_true, and3, and255]
  generalize wrap64 (Int.tmod (IntKind.u64.wrap a0) 3) = i at m0 k0 ⊢
  generalize wrap64 (Int.tmod (IntKind.u64.wrap a1) 3) = j at m1 k1 ⊢
  generalize rd [1, 4, 5] i = p at k0 ⊢
  generalize rd [1, 4, 5] j = q at k1 ⊢
  rw [wrap_id (x := 1 + a0 / 256 % 4) (by omega) (by omega), wrap_id (x := 1 + a1 / 256 % 4) (by omega) (by omega), wrap_id (x := 12 + a2 % 256) (by omega) (by omega), wrap_id (x := 12 + a3 % 256) (by omega) (by omega)]
  have o0 : HeadOk p (1 + a0 / 256 % 4) (12 + a2 % 256) := ⟨k0, by omega⟩
  have o1 : HeadOk q (1 + a1 / 256 % 4) (12 + a3 % 256) := ⟨k1, by omega⟩
  simp only [if_pos o0, if_pos o1, if_true]
  simp only [List.length_cons, List.length_nil]
  rw [if_pos (by omega), if_pos (by omega), if_pos (by omega), if_pos (by omega)]
  have hb : ((strOfNums (hdr p (1 + a0 / 256 % 4) (12 + a2 % 256))).toList == (strOfNums (hdr q (1 + a1 / 256 % 4) (12 + a3 % 256))).toList) = decide (p = q ∧ 1 + a0 / 256 % 4 = 1 + a1 / 256 % 4 ∧ 12 + a2 % 256 = 12 + a3 % 256) := by
    rw [Bool.eq_iff_iff, beq_iff_eq, toList_iff, B_strOf (hdr_byt _ _ _), B_strOf (hdr_byt _ _ _), hdr_inj o0 o1, decide_eq_true_eq]
  rw [hb]
  by_cases e1 : p = q
  · rw [if_pos e1]
    by_cases e2 : 1 + a0 / 256 % 4 = 1 + a1 / 256 % 4
    · rw [if_pos e2]
      by_cases e3 : 12 + a2 % 256 = 12 + a3 % 256
      · simp [e1, e2, e3]
      · simp [e1, e2, e3]
    · rw [if_neg e2]
      simp [e1, e2]
  · rw [if_neg e1]
    simp [e1]

end Go.Proofs.Ytkfnbnfdcfcfpaa.Pure
