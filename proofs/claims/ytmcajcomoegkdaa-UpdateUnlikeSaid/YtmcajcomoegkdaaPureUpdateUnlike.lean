/- UpdateUnlike: unlike lists of Lsas have unlike bytes; no condition beyond the row's own. -/
import Derived.Test.YtmcajcomoegkdaaQ10x111
import Derived.Test.YtmcajcomoegkdaaL10
import Derived.Test.YtmcajcomoegkdaaO10
namespace Go.Proofs.Ytmcajcomoegkdaa.Pure
open Go.RowKit Go.Proofs.YtmcajcomoegkdaaW.PrintWords Go.Proofs.YtmcajcomoegkdaaW.PrintLast Go.Proofs.YtmcajcomoegkdaaW.PrintMore Go.Proofs.Ytmcajcomoegkdaa.Base Go.Proofs.Ytmcajcomoegkdaa.Q10 Go.Proofs.Ytmcajcomoegkdaa.L10 Go.Proofs.Ytmcajcomoegkdaa.O10
set_option linter.unusedVariables false

theorem uu_num (x : Int) : watchwordlaw0_Num.f x = some x := rfl
theorem uu_same {l m : List S24} (h : upd 0 l = true) (h' : upd 0 m = true) : ((strOfNums (updB l)).toList == (strOfNums (updB m)).toList) = decide (l = m) := by
  rw [Bool.eq_iff_iff, beq_iff_eq, decide_eq_true_eq, toList_iff, B_strOf (updB_byt _), B_strOf (updB_byt _)]
  exact ⟨updB_inj h h', fun e => by rw [e]⟩
theorem UpdateUnlike : ∀ (l0 : List (S24)) (l1 : List (S24)), (l0.length * 48 ≤ 140737488351232 ∧ l0.length ≤ maxLen ∧ ∀ y ∈ l0, R24 y) → (l1.length * 48 ≤ 140737488351232 ∧ l1.length ≤ maxLen ∧ ∀ y ∈ l1, R24 y) → ∃ k, watchwordlaw10_UpdateUnlike.f k l0 l1 = some true := by
  intro l m hl hm
  refine ⟨l.length + m.length + 8796093022300, ?_⟩
  have hM : ∀ x ∈ l, x.f3.length < 8796093022209 := fun x hx => by have := (hl.2.2 x hx).2.2.2.1; omega
  have hM' : ∀ x ∈ m, x.f3.length < 8796093022209 := fun x hx => by have := (hm.2.2 x hx).2.2.2.1; omega
  have hn : l.length ≤ 9223372036854775807 := by omega
  have hn' : m.length ≤ 9223372036854775807 := by omega
  generalize hk : l.length + m.length + 8796093022300 = k
  obtain ⟨k, rfl⟩ : ∃ q, k = q + 1 := ⟨k - 1, by omega⟩
  have h1 : l.length + 8796093022209 < k := by omega
  have h2 : m.length + 8796093022209 < k := by omega
  clear hl hm hk
  simp only [watchwordlaw10_UpdateUnlike.f, awake_ok (show 800 ≤ k + 1 by omega), update_Put_f hn hM (by omega) (show l.length + 8796093022209 < k + 1 by omega) (by omega), update_Put_f hn' hM' (by omega) (show m.length + 8796093022209 < k + 1 by omega) (by omega), uu_num, Option.bind_some, if_true]
  by_cases h : upd 0 l = true
  · by_cases h' : upd 0 m = true
    · rw [if_pos h, if_pos h', if_pos rfl, show ((((strOfNums (updB m), (0 : Int)).2 : Int) != 0) : Bool) = false from rfl]
      simp only [watchwordlaw10_UpdateUnlike.j0, Bool.false_eq_true, if_false, SameU_f hn hM (by omega) h1, Option.bind_some, uu_same h h', beq_self_eq_true]
    · rw [if_pos h, if_neg h', if_pos rfl, show ((((⟨#[]⟩ : ByteArray), (1000 : Int)).2 != 0) : Bool) = true from rfl]
      simp only [watchwordlaw10_UpdateUnlike.j0, if_true, uu_num, Option.bind_some, empty_list]
      rw [if_neg (by decide)]; rfl
  · by_cases h' : upd 0 m = true
    · rw [if_neg h, if_pos h', if_neg (by decide)]
      simp only [watchwordlaw10_UpdateUnlike.j0, if_true, uu_num, Option.bind_some, empty_list]
      rw [if_neg (by decide)]
    · rw [if_neg h, if_neg h', if_neg (by decide)]
      simp only [watchwordlaw10_UpdateUnlike.j0, if_true, uu_num, Option.bind_some, empty_list]
      rw [if_neg (by decide), if_neg (by decide)]; rfl

end Go.Proofs.Ytmcajcomoegkdaa.Pure
