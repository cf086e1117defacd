/- The layer 'last' is awake; lists of one. -/
import Derived.Test.YtabjambabnbmnaaQ14x124
import Derived.Test.YtabjambabnbmnaaL14
namespace Go.Proofs.Ytabjambabnbmnaa.L14
open Go.RowKit Go.Proofs.YtabjambabnbmnaaW.PrintWords Go.Proofs.YtabjambabnbmnaaW.PrintLast Go.Proofs.YtabjambabnbmnaaW.PrintMore Go.Proofs.Ytabjambabnbmnaa.Base Go.Proofs.Ytabjambabnbmnaa.Q14
theorem lastOk_mk {a b c d : Int} (h : (1 ≤ a ∧ a ≤ 4) ∧ (b = 1 ∨ b = 4 ∨ b = 5) ∧ (1 ≤ c ∧ c ≤ 4294967295) ∧ 1 ≤ d ∧ d ≤ 4294967295) : LastOk (⟨a, b, c, d⟩ : S24) := h
theorem lastNo_mk {a b c d : Int} (h : ¬ ((1 ≤ a ∧ a ≤ 4) ∧ (b = 1 ∨ b = 4 ∨ b = 5) ∧ (1 ≤ c ∧ c ≤ 4294967295) ∧ 1 ≤ d ∧ d ≤ 4294967295)) : ¬ LastOk (⟨a, b, c, d⟩ : S24) := h
theorem and4095 (n : Int) : Go.bits .and .i64 n 4095 = n % 4096 := and_mask 12 (by decide) n
/-- The layer is awake. -/
theorem awake_ok {k : Nat} (hk : 100 ≤ k) : watchwordlaw14_awake.f k = some true :=
  at_rounds (g := fun k => watchwordlaw14_awake.f k) watchwordlaw14_awake.mono hk (by decide +kernel)
theorem with_nil {k : Nat} (hk : 60 < k) {x : S24} (h : LastOk x) : last_With.f k [] x.f0 x.f1 x.f2 x.f3 = some ([x], 0) := by
  rw [last_With_f (Nat.zero_le _) (by simpa using hk) x, if_pos ⟨rfl, lok_iff.mpr h⟩]; rfl
theorem newer_one_f {k : Nat} (hk : 61 < k) {x y : S24} (hy : LastOk y) (hx : LastOk x) : last_Newer.f k [y] x.f0 x.f1 x.f2 x.f3 = some (if lkey y = lkey x then newerThan x y else true, 0) := by
  have hy' := lok_iff.mpr hy
  rw [last_Newer_f (by simp) (by simp; omega) x, if_pos ⟨rises_cons.mpr ⟨⟨hy', (lkey_range hy').1⟩, rfl⟩, lok_iff.mpr hx⟩]
  unfold newerOf look
  by_cases h : lkey y = lkey x
  · rw [if_pos h, if_pos h]
  · rw [if_neg h, if_neg h]; rfl

end Go.Proofs.Ytabjambabnbmnaa.L14
