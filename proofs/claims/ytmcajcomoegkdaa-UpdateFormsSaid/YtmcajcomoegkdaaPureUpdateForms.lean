/- UpdateForms: rows of Lsas that may not be, bytes that are none; no condition beyond the row's own. -/
import Derived.Test.YtmcajcomoegkdaaQ10fx109
import Derived.Test.YtmcajcomoegkdaaBase
namespace Go.Proofs.Ytmcajcomoegkdaa.Pure
open Go.RowKit Go.Proofs.YtmcajcomoegkdaaW.PrintWords Go.Proofs.YtmcajcomoegkdaaW.PrintLast Go.Proofs.YtmcajcomoegkdaaW.PrintMore Go.Proofs.Ytmcajcomoegkdaa.Base Go.Proofs.Ytmcajcomoegkdaa.Q10f
set_option linter.unusedVariables false
set_option maxRecDepth 100000
def tx : ByteArray := ⟨#[2, 0, 1, 0, 0, 0, 5, 0, 16, 6, 0, 3, 0, 0, 0, 6, 0, 30, 9]⟩
theorem get_at {k : Nat} (hk : 800 ≤ k) {b : ByteArray} (h : update_Get.f 800 b = some ([], 1000)) : update_Get.f k b = some ([], 1000) :=
  at_rounds (g := fun k => update_Get.f k b) (update_Get.mono b) hk h
theorem put_at {k : Nat} (hk : 800 ≤ k) {l : List S24} {r : ByteArray × Int} (h : update_Put.f 800 l = some r) : update_Put.f k l = some r :=
  at_rounds (g := fun k => update_Put.f k l) (update_Put.mono l) hk h
theorem may_at {k : Nat} (hk : 800 ≤ k) {l : List S24} (h : update_May.f 800 l = some false) : update_May.f k l = some false :=
  at_rounds (g := fun k => update_May.f k l) (update_May.mono l) hk h
theorem awake_at {k : Nat} (hk : 800 ≤ k) : watchwordlaw10_awake.f k = some true :=
  at_rounds (g := fun k => watchwordlaw10_awake.f k) watchwordlaw10_awake.mono hk (by decide +kernel)
theorem cut_at {k : Nat} (hk : 800 ≤ k) : ∀ n, n < 19 → update_Get.f k (tx.extract 0 n) = some ([], 1000) := by
  intro n hn
  refine get_at hk ?_
  obtain rfl | rfl | rfl | rfl | rfl | rfl | rfl | rfl | rfl | rfl | rfl | rfl | rfl | rfl | rfl | rfl | rfl | rfl | rfl : n = 0 ∨ n = 1 ∨ n = 2 ∨ n = 3 ∨ n = 4 ∨ n = 5 ∨ n = 6 ∨ n = 7 ∨ n = 8 ∨ n = 9 ∨ n = 10 ∨ n = 11 ∨ n = 12 ∨ n = 13 ∨ n = 14 ∨ n = 15 ∨ n = 16 ∨ n = 17 ∨ n = 18 := by omega
  all_goals kernel_rfl
theorem num_at (x : Int) : watchwordlaw0_Num.f x = some x := rfl
theorem j1_at {k : Nat} (hk : 800 ≤ k) (x : Int) {l : List S24} (hl : update_May.f 800 l = some false) : watchwordlaw10_UpdateForms.j1 (k + 1) x l ⟨#[]⟩ 1000 tx false = some true := by
  have h0 : 0 ≤ IntKind.u64.wrap x := by unfold IntKind.wrap; simp [IntKind.signed]; omega
  have h1 := Int.tmod_nonneg 19 h0
  have h2 := Int.tmod_lt_of_pos (IntKind.u64.wrap x) (show (0 : Int) < 19 by omega)
  simp only [watchwordlaw10_UpdateForms.j1]
  generalize Int.tmod (IntKind.u64.wrap x) 19 = n at h1 h2
  have s1 : tx.size = 19 := rfl
  have s2 : (tx.extract 1 tx.size).size = 18 := rfl
  have s3 : (tx.extract 10 tx.size).size = 9 := rfl
  have s4 : ((⟨#[2]⟩ : ByteArray) ++ (tx.extract 10 tx.size)).size = 10 := rfl
  have s5 : (tx.extract 1 10).size = 9 := rfl
  rw [show wrap64 n = n from wrap_id (by omega) (by omega), if_neg (by decide), if_pos h1, if_pos (by rw [s1]; omega), cut_at hk n.toNat (by omega)]
  simp only [Option.bind_some]
  rw [if_pos (by rw [s1]; omega), get_at hk (show update_Get.f 800 (tx ++ (⟨#[0]⟩ : ByteArray)) = _ by kernel_rfl)]
  simp only [Option.bind_some]
  rw [if_pos (by rw [s1]; omega), if_pos (by rw [s2]; omega), get_at hk (show update_Get.f 800 ((⟨#[1]⟩ : ByteArray) ++ tx.extract 1 tx.size) = _ by kernel_rfl)]
  simp only [Option.bind_some]
  rw [get_at hk (show update_Get.f 800 ((⟨#[3]⟩ : ByteArray) ++ tx.extract 1 tx.size) = _ by kernel_rfl)]
  simp only [Option.bind_some]
  rw [if_pos (by rw [s1]; omega), if_pos (by rw [s3]; omega), if_pos (by decide), if_pos (by rw [s4, s5]; omega), get_at hk (show update_Get.f 800 (((⟨#[2]⟩ : ByteArray) ++ tx.extract 10 tx.size) ++ tx.extract 1 10) = _ by kernel_rfl)]
  simp only [Option.bind_some, num_at, may_at hk hl]
  rw [if_neg (by decide), if_pos ((toList_iff_lit _ _).2 rfl)]
  simp
theorem j0_at {k : Nat} (hk : 800 ≤ k) (x : Int) {l : List S24} (hl : update_May.f 800 l = some false) (hp : update_Put.f 800 l = some (⟨#[]⟩, 1000)) : watchwordlaw10_UpdateForms.j0 (k + 2) x l 1 5 0 3 6 0 = some true := by
  simp only [watchwordlaw10_UpdateForms.j0]
  rw [put_at (show 800 ≤ k + 1 by omega) hp, put_at (show 800 ≤ k + 1 by omega) (show update_Put.f 800 [(⟨1, 5, 0, []⟩ : S24), (⟨3, 6, 0, []⟩ : S24)] = some (tx, 0) by kernel_rfl)]
  simp only [Option.bind_some, num_at, if_true]
  exact j1_at hk x hl
theorem UpdateForms : watchwordlaw10_UpdateForms.Pure := by
  intro a0 a1 w0 w1
  obtain ⟨k, hk⟩ : ∃ k : Nat, 800 ≤ k := ⟨800, Nat.le_refl _⟩
  refine ⟨k + 2, ?_⟩
  unfold watchwordlaw10_UpdateForms.f
  rw [awake_at (by omega)]
  simp only [Option.bind_some, if_true]
  split
  · exact j0_at hk a1 (by kernel_rfl) (by kernel_rfl)
  · split
    · exact j0_at hk a1 (by kernel_rfl) (by kernel_rfl)
    · split
      · exact j0_at hk a1 (by kernel_rfl) (by kernel_rfl)
      · split
        · exact j0_at hk a1 (by kernel_rfl) (by kernel_rfl)
        · exact j0_at hk a1 (by kernel_rfl) (by kernel_rfl)
end Go.Proofs.Ytmcajcomoegkdaa.Pure
