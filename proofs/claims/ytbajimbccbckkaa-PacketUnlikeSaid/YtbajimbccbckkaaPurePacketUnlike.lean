/- PacketUnlike: unlike packets have unlike bytes; no condition beyond the row's own. -/
import Derived.Test.YtbajimbccbckkaaQ12x106
import Derived.Test.YtbajimbccbckkaaL12
namespace Go.Proofs.Ytbajimbccbckkaa.Pure
open Go.RowKit Go.Proofs.YtbajimbccbckkaaW.PrintWords Go.Proofs.YtbajimbccbckkaaW.PrintLast Go.Proofs.YtbajimbccbckkaaW.PrintMore Go.Proofs.Ytbajimbccbckkaa.Base Go.Proofs.Ytbajimbccbckkaa.Q12 Go.Proofs.Ytbajimbccbckkaa.L12 Go.Proofs.Ytbajimbccbckkaa.O12
set_option linter.unusedVariables false

theorem pu_num (x : Int) : watchwordlaw0_Num.f x = some x := rfl
theorem pu_same {t r : Int} {xs : List Int} {us : List S45} {hs : List S47} {t' r' : Int} {xs' : List Int} {us' : List S45} {hs' : List S47} (h : PkOk t r xs us hs) (h' : PkOk t' r' xs' us' hs') :
    ((strOfNums (pbytes t r xs us hs)).toList == (strOfNums (pbytes t' r' xs' us' hs')).toList) = decide (t = t' ∧ r = r' ∧ xs = xs' ∧ us = us' ∧ hs = hs') := by
  rw [Bool.eq_iff_iff, beq_iff_eq, decide_eq_true_eq, toList_iff, B_strOf (pbytes_byt h), B_strOf (pbytes_byt h')]
  constructor
  · exact pbytes_inj h h'
  · rintro ⟨rfl, rfl, rfl, rfl, rfl⟩; rfl
theorem PacketUnlike : ∀ (a0_0 : Int) (a0_1 : Int) (l0_2 : List (Int)) (l0_3 : List (S45)) (l0_4 : List (S47)) (a1_0 : Int) (a1_1 : Int) (l1_2 : List (Int)) (l1_3 : List (S45)) (l1_4 : List (S47)), (Lit.int .i64 a0_0).wf = true → (Lit.int .i64 a0_1).wf = true → (l0_2.length * 8 ≤ 140737488351232 ∧ l0_2.length ≤ maxLen ∧ ∀ y ∈ l0_2, (Lit.int .i64 y).wf = true) → (l0_3.length * 48 ≤ 140737488351232 ∧ l0_3.length ≤ maxLen ∧ ∀ y ∈ l0_3, R45 y) → (l0_4.length * 32 ≤ 140737488351232 ∧ l0_4.length ≤ maxLen ∧ ∀ y ∈ l0_4, R47 y) → (Lit.int .i64 a1_0).wf = true → (Lit.int .i64 a1_1).wf = true → (l1_2.length * 8 ≤ 140737488351232 ∧ l1_2.length ≤ maxLen ∧ ∀ y ∈ l1_2, (Lit.int .i64 y).wf = true) → (l1_3.length * 48 ≤ 140737488351232 ∧ l1_3.length ≤ maxLen ∧ ∀ y ∈ l1_3, R45 y) → (l1_4.length * 32 ≤ 140737488351232 ∧ l1_4.length ≤ maxLen ∧ ∀ y ∈ l1_4, R47 y) → ∃ k, watchwordlaw12_PacketUnlike.f k a0_0 a0_1 l0_2 l0_3 l0_4 a1_0 a1_1 l1_2 l1_3 l1_4 = some true := by
  intro t r xs us hs t' r' xs' us' hs' _ _ hx hu hh _ _ hx' hu' hh'
  refine ⟨xs.length + us.length + hs.length + (xs'.length + us'.length + hs'.length) + 8796093025301, ?_⟩
  have hM : ∀ x ∈ us, x.f3.length < 8796093022209 := fun x hx => by have := (hu.2.2 x hx).2.2.2.1; omega
  have hM' : ∀ x ∈ us', x.f3.length < 8796093022209 := fun x hx => by have := (hu'.2.2 x hx).2.2.2.1; omega
  have h1 : xs.length ≤ 1000000000000000000 := by omega
  have h2 : us.length ≤ 1000000000000000000 := by omega
  have h3 : hs.length ≤ 1000000000000000000 := by omega
  have h1' : xs'.length ≤ 1000000000000000000 := by omega
  have h2' : us'.length ≤ 1000000000000000000 := by omega
  have h3' : hs'.length ≤ 1000000000000000000 := by omega
  generalize hk : xs.length + us.length + hs.length + (xs'.length + us'.length + hs'.length) + 8796093025301 = k0
  obtain ⟨k, rfl⟩ : ∃ q, k0 = q + 1 := ⟨k0 - 1, by omega⟩
  have hk1 : xs.length + us.length + hs.length + 8796093022209 < k := by omega
  have hk2 : xs'.length + us'.length + hs'.length + 8796093022209 < k := by omega
  have hk3 : 3000 ≤ k := by omega
  clear hx hu hh hx' hu' hh' hk
  simp only [watchwordlaw12_PacketUnlike.f, awake_ok (show 800 ≤ k + 1 by omega), packet_Put_f h1 h2 h3 hM (by omega) (show xs.length + us.length + hs.length + 8796093022209 < k + 1 by omega) (show 35 ≤ k + 1 by omega), packet_Put_f h1' h2' h3' hM' (by omega) (show xs'.length + us'.length + hs'.length + 8796093022209 < k + 1 by omega) (show 35 ≤ k + 1 by omega), pu_num, Option.bind_some, if_true]
  by_cases h : PkOk t r xs us hs
  · by_cases h' : PkOk t' r' xs' us' hs'
    · rw [if_pos h, if_pos h', if_pos rfl, show ((((strOfNums (pbytes t' r' xs' us' hs'), (0 : Int)).2 : Int) != 0) : Bool) = false from rfl]
      simp only [watchwordlaw12_PacketUnlike.j0, Bool.false_eq_true, if_false, SameP_f h1 h2 h3 hM (show 8796093022209 ≤ 9223372036854775807 by omega) hk1, Option.bind_some, pu_same h h', beq_self_eq_true]
    · rw [if_pos h, if_neg h', if_pos rfl, show ((((⟨#[]⟩ : ByteArray), (1200 : Int)).2 != 0) : Bool) = true from rfl]
      simp only [watchwordlaw12_PacketUnlike.j0, if_true, pu_num, Option.bind_some, empty_list]
      rw [if_neg (by decide)]; rfl
  · by_cases h' : PkOk t' r' xs' us' hs'
    · rw [if_neg h, if_pos h', if_neg (by decide)]
      simp only [watchwordlaw12_PacketUnlike.j0, if_true, pu_num, Option.bind_some, empty_list]
      rw [if_neg (by decide)]
    · rw [if_neg h, if_neg h', if_neg (by decide)]
      simp only [watchwordlaw12_PacketUnlike.j0, if_true, pu_num, Option.bind_some, empty_list]
      rw [if_neg (by decide), if_neg (by decide)]; rfl

end Go.Proofs.Ytbajimbccbckkaa.Pure
