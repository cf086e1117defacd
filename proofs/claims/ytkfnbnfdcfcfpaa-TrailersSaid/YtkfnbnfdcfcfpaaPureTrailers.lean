/- Trailers: for any two trailers and any text, trailer.Put, trailer.Get and trailer.May answer what the document's own PutTrailer, GetTrailer and TrailerMay answer, and unlike trailers have unlike bytes; no condition beyond the row's own. -/
import Derived.Test.YtkfnbnfdcfcfpaaQ13x8
import Derived.Test.YtkfnbnfdcfcfpaaL13r
namespace Go.Proofs.Ytkfnbnfdcfcfpaa.Pure
open Go.RowKit Go.Proofs.YtkfnbnfdcfcfpaaW.PrintWords Go.Proofs.YtkfnbnfdcfcfpaaW.PrintLast Go.Proofs.YtkfnbnfdcfcfpaaW.PrintMore Go.Proofs.Ytkfnbnfdcfcfpaa.Base Go.Proofs.Ytkfnbnfdcfcfpaa.Q13 Go.Proofs.Ytkfnbnfdcfcfpaa.L13
set_option linter.unusedVariables false

theorem trl_same {a b c a' b' c' : Int} {t t' : ByteArray} (h : TrailOk a b c t) (h' : TrailOk a' b' c' t') :
    (strOfNums (trl a b c) ++ t).toList = (strOfNums (trl a' b' c') ++ t').toList ↔ (a = a' ∧ b = b' ∧ c = c' ∧ t.toList = t'.toList) := by
  constructor
  · intro e
    have e2 := B_inj ((toList_iff _ _).mp e)
    have g := get_trl h
    rw [e2, get_trl h'] at g
    simp only [Prod.mk.injEq] at g
    obtain ⟨rfl, rfl, rfl, rfl, _⟩ := g
    exact ⟨rfl, rfl, rfl, rfl⟩
  · rintro ⟨rfl, rfl, rfl, e⟩
    have : t = t' := B_inj ((toList_iff _ _).mp e)
    rw [this]
theorem Trailers : ∀ (a0_0 : Int) (a0_1 : Int) (a0_2 : Int) (a0_3 : ByteArray) (a1_0 : Int) (a1_1 : Int) (a1_2 : Int) (a1_3 : ByteArray) (a2 : ByteArray), (Lit.int .i64 a0_0).wf = true → (Lit.int .i64 a0_1).wf = true → (Lit.int .i64 a0_2).wf = true → a0_3.size ≤ 140737488351232 → (Lit.int .i64 a1_0).wf = true → (Lit.int .i64 a1_1).wf = true → (Lit.int .i64 a1_2).wf = true → a1_3.size ≤ 140737488351232 → a2.size ≤ 140737488351232 → ∃ k, watchwordlaw13_Trailers.f k a0_0 a0_1 a0_2 a0_3 a1_0 a1_1 a1_2 a1_3 a2 = some true := by
  intro a0 a1 a2 a3 b0 b1 b2 b3 s _ _ _ _ _ _ _ _ _
  refine ⟨101, ?_⟩
  have hn : ∀ b : Bool, (b != b) = false := by decide
  simp only [watchwordlaw13_Trailers.f, trailer_Put_f, ref_PutTrailer_f (show 8 ≤ 101 by decide), trailer_Get_f (show 8 ≤ 101 by decide), ref_GetTrailer_f (show 8 ≤ 101 by decide), trailer_May_f, ref_TrailerMay_f, watchwordlaw0_Num.f, Option.bind_some, if_true, beq_self_eq_true, Bool.not_true, Bool.or_false, hn, Bool.false_eq_true, if_false]
  simp only [watchwordlaw13_Trailers.j0, Bool.false_eq_true, if_false, watchwordlaw0_Num.f, Option.bind_some, awake_ok (show 100 ≤ 100 by decide)]
  unfold putTrailer
  by_cases h : TrailOk a0 a1 a2 a3
  · rw [if_pos h]
    by_cases h' : TrailOk b0 b1 b2 b3
    · rw [if_pos h', if_pos rfl, if_pos rfl]
      have e := trl_same h h'
      have hb : (((strOfNums (trl a0 a1 a2) ++ a3).toList == (strOfNums (trl b0 b1 b2) ++ b3).toList) == (a0 == b0 && (a1 == b1 && (a2 == b2 && (a3.toList == b3.toList))))) = true := by
        rw [beq_iff_eq, Bool.eq_iff_iff]
        simp only [beq_iff_eq, Bool.and_eq_true]
        exact e
      rw [if_pos hb]
    · rw [if_neg h', if_pos rfl, if_neg (by decide)]
  · rw [if_neg h, if_neg (by decide)]

end Go.Proofs.Ytkfnbnfdcfcfpaa.Pure
