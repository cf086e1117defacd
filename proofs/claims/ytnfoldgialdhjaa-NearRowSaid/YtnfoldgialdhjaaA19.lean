/- The layer 'near' is awake. -/
import Derived.Test.YtnfoldgialdhjaaQ19x123
import Derived.Test.YtnfoldgialdhjaaL19
namespace Go.Proofs.Ytnfoldgialdhjaa.L19
open Go.RowKit Go.Proofs.YtnfoldgialdhjaaW.PrintWords Go.Proofs.YtnfoldgialdhjaaW.PrintLast Go.Proofs.YtnfoldgialdhjaaW.PrintMore Go.Proofs.Ytnfoldgialdhjaa.Base Go.Proofs.Ytnfoldgialdhjaa.Q19
/-- The layer is awake. -/
theorem awake_ok {k : Nat} (hk : 100 ≤ k) : watchwordlaw19_awake.f k = some true :=
  at_rounds (g := fun k => watchwordlaw19_awake.f k) watchwordlaw19_awake.mono hk (by decide +kernel)
theorem nearOk_mk {a b c : Int} (h : (1 ≤ a ∧ a ≤ 4) ∧ (b = 1 ∨ b = 2) ∧ 1 ≤ c ∧ c ≤ 16) : NearOk (⟨a, b, c⟩ : S46) := h
theorem nearNo_mk {a b c : Int} (h : ¬ ((1 ≤ a ∧ a ≤ 4) ∧ (b = 1 ∨ b = 2) ∧ 1 ≤ c ∧ c ≤ 16)) : ¬ NearOk (⟨a, b, c⟩ : S46) := h
theorem rises_one {x : S46} (h : NearOk x) : rises nok nkey 0 [x] = true :=
  rises_cons.mpr ⟨⟨nok_iff.mpr h, (nkey_range (nok_iff.mpr h)).1⟩, rfl⟩
theorem rises_no {x : S46} (h : ¬ NearOk x) : rises nok nkey 0 [x] = false := by
  cases hh : rises nok nkey 0 [x] with
  | false => rfl
  | true => exact absurd (nok_iff.mp (rises_cons.mp hh).1.1) h
theorem drop_cons {α : Type} {l t : List α} {z : α} {i : Nat} (h : l.drop i = z :: t) : ∃ hi : i < l.length, l[i] = z ∧ l.drop (i + 1) = t := by
  have hi : i < l.length := by
    apply Nat.lt_of_not_le; intro hle
    rw [List.drop_of_length_le hle] at h; cases h
  rw [List.drop_eq_getElem_cons hi] at h
  injection h with h1 h2
  exact ⟨hi, h1, h2⟩
theorem u64_tmod (a : Int) (m : Int) (hm : 0 < m) : 0 ≤ Int.tmod (IntKind.u64.wrap a) m ∧ Int.tmod (IntKind.u64.wrap a) m < m := by
  have h0 : 0 ≤ IntKind.u64.wrap a := by
    show (0 : Int) ≤ a % _
    exact Int.emod_nonneg _ (by decide)
  rw [Int.tmod_eq_emod_of_nonneg h0]
  exact ⟨Int.emod_nonneg _ (by omega), Int.emod_lt_of_pos _ hm⟩

end Go.Proofs.Ytnfoldgialdhjaa.L19
