/- UpdateBack: a list of Lsas comes back as it was; bytes that are a list come back as they stood; no condition beyond the row's own. -/
import Derived.Test.YtmcajcomoegkdaaQ10x110
import Derived.Test.YtmcajcomoegkdaaL10
import Derived.Test.YtmcajcomoegkdaaO10
namespace Go.Proofs.Ytmcajcomoegkdaa.Pure
open Go.RowKit Go.Proofs.YtmcajcomoegkdaaW.PrintWords Go.Proofs.YtmcajcomoegkdaaW.PrintLast Go.Proofs.YtmcajcomoegkdaaW.PrintMore Go.Proofs.Ytmcajcomoegkdaa.Base Go.Proofs.Ytmcajcomoegkdaa.Q10 Go.Proofs.Ytmcajcomoegkdaa.L10 Go.Proofs.Ytmcajcomoegkdaa.O10
set_option linter.unusedVariables false

theorem uk_num (x : Int) : watchwordlaw0_Num.f x = some x := rfl
theorem uk_j0 {b : ByteArray} (hb : b.size ≤ 281474976710656) {k : Nat} (hk : 720 ≤ k) : watchwordlaw10_UpdateBack.j0 k b = some true := by
  obtain ⟨k, rfl⟩ : ∃ m, k = m + 1 := ⟨k - 1, by omega⟩
  simp only [watchwordlaw10_UpdateBack.j0, update_Get_f hb (show 710 ≤ k by omega), Option.bind_some, uk_num]
  cases hg : getUpd (B b) with
  | none => simp only [tellU]; exact (if_neg (show ¬ ((1000 : Int) = 0) by decide)).trans rfl
  | some out =>
    obtain ⟨h1, h2⟩ := getUpd_some hg
    have h4 := upd_len h1
    have hM : ∀ x ∈ out, x.f3.length < 5 := fun x hx => by have := usOk_len (upd_ok out 0 h1 x hx); omega
    simp only [tellU]
    rw [if_pos trivial, update_Put_f (M := 5) (by omega) hM (by omega) (by omega) (by omega), if_pos h1, Option.bind_some, if_pos (show ((strOfNums (updB out), (0 : Int)).2 = 0) from rfl), update_May_f (M := 5) (by omega) hM (by omega) (by omega), h1]
    rw [if_pos ((toList_iff _ _).mpr (by rw [B_strOf (updB_byt out), h2]))]
    rfl
theorem updB_len {l : List S24} (h : upd 0 l = true) : (updB l).length ≤ 85 := by
  have h4 := upd_len h
  have : ∀ m : List S24, (∀ x ∈ m, UsOk x) → (m.flatMap ubytes).length ≤ 21 * m.length := by
    intro m
    induction m with
    | nil => intro _; simp
    | cons x m ih =>
      intro hm
      have h1 := ih (fun y hy => hm y (by simp [hy]))
      have h2 := usOk_len (hm x (by simp))
      rw [List.flatMap_cons, List.length_append, ubytes_len, List.length_cons]
      omega
  have h5 := this l (upd_ok l 0 h)
  unfold updB
  rw [List.length_append, e1_len]
  omega
theorem UpdateBack : ∀ (l0 : List (S24)) (a1 : ByteArray), (l0.length * 48 ≤ 140737488351232 ∧ l0.length ≤ maxLen ∧ ∀ y ∈ l0, R24 y) → a1.size ≤ 140737488351232 → ∃ k, watchwordlaw10_UpdateBack.f k l0 a1 = some true := by
  intro l b hl hb
  refine ⟨l.length + 8796093022300, ?_⟩
  have hM : ∀ x ∈ l, x.f3.length < 8796093022209 := fun x hx => by have := (hl.2.2 x hx).2.2.2.1; omega
  have hn : l.length ≤ 9223372036854775807 := by omega
  generalize hk : l.length + 8796093022300 = k
  have h1 : l.length + 8796093022209 < k := by omega
  clear hl hk
  simp only [watchwordlaw10_UpdateBack.f, awake_ok (show 800 ≤ k by omega), update_Put_f hn hM (by omega) h1 (by omega), uk_num, Option.bind_some, if_true, uk_j0 (show b.size ≤ 281474976710656 by omega) (show 720 ≤ k by omega)]
  by_cases h : upd 0 l = true
  · have hul := updB_len h
    rw [if_pos h]
    simp only [if_true]
    rw [update_Get_f (by rw [strOf_size]; omega) (show 710 ≤ k by omega), B_strOf (updB_byt l), getUpd_put h]
    simp only [tellU, Option.bind_some, if_true]
    rw [SameU_f hn hM (by omega) h1, decide_eq_true rfl]
    rfl
  · rw [if_neg h]; rw [if_neg (by decide)]

end Go.Proofs.Ytmcajcomoegkdaa.Pure
