/- ChainRolls: a new key that begins as the old one ends; no condition beyond the row's own. -/
import Derived.Test.YtabjambabnbmnaaQ5x111
import Derived.Test.YtabjambabnbmnaaA5
namespace Go.Proofs.Ytabjambabnbmnaa.Pure
open Go.RowKit Go.Proofs.YtabjambabnbmnaaW.PrintWords Go.Proofs.YtabjambabnbmnaaW.PrintLast Go.Proofs.YtabjambabnbmnaaW.PrintMore Go.Proofs.Ytabjambabnbmnaa.Base Go.Proofs.Ytabjambabnbmnaa.Q5 Go.Proofs.Ytabjambabnbmnaa.L5
set_option linter.unusedVariables false

theorem and63 (n : Int) : Go.bits .and .i64 n 63 = n % 64 := and_mask 6 (by decide) n
theorem and127 (n : Int) : Go.bits .and .i64 n 127 = n % 128 := and_mask 7 (by decide) n
/-- The old key and the new one. -/
def two (t : Int) : List S50 := [⟨1, ⟨#[111, 108, 100]⟩, 0, t, 0, t + 5⟩, ⟨2, ⟨#[110, 101, 119]⟩, t, 999, t - 5, 999⟩]
theorem kok_mk {a b c d e : Int} {s : ByteArray} (ha : 0 ≤ a ∧ a ≤ 255) (hs : 1 ≤ s.size ∧ s.size ≤ 32) (h : (0 ≤ b ∧ b ≤ 1048576) ∧ (0 ≤ c ∧ c ≤ 1048576) ∧ (0 ≤ d ∧ d ≤ 1048576) ∧ (0 ≤ e ∧ e ≤ 1048576)) : kok (⟨a, s, b, c, d, e⟩ : S50) = true :=
  kok_iff.mpr ⟨ha, hs, h⟩
def oldK (t : Int) : S50 := ⟨1, ⟨#[111, 108, 100]⟩, 0, t, 0, t + 5⟩
def newK (t : Int) : S50 := ⟨2, ⟨#[110, 101, 119]⟩, t, 999, t - 5, 999⟩
theorem two_ok {t : Int} (h : 10 ≤ t ∧ t ≤ 73) : chainOk (two t) = true := by
  refine chainOk_iff.mpr ⟨?_, Nat.le_of_lt (by show 2 < 4; decide)⟩
  have h1 : kok (oldK t) = true := kok_mk (by decide) (by decide) (by omega)
  have h2 : kok (newK t) = true := kok_mk (by decide) (by decide) (by omega)
  exact rises_cons.mpr ⟨⟨h1, show (-1 : Int) < 1 by decide⟩, rises_cons.mpr ⟨⟨h2, show (1 : Int) < 2 by decide⟩, rfl⟩⟩
theorem ChainRolls : watchwordlaw5_ChainRolls.Pure := by
  intro a0 a1 _ _
  refine ⟨200, ?_⟩
  have hd0 := Int.emod_nonneg a0 (show (64 : Int) ≠ 0 by decide)
  have hd1 := Int.emod_lt_of_pos a0 (show (0 : Int) < 64 by decide)
  have hx0 := Int.emod_nonneg a1 (show (128 : Int) ≠ 0 by decide)
  have hx1 := Int.emod_lt_of_pos a1 (show (0 : Int) < 128 by decide)
  unfold watchwordlaw5_ChainRolls.f
  rw [and63 a0, and127 a1]
  generalize a0 % 64 = d at hd0 hd1 ⊢
  generalize a1 % 128 = x at hx0 hx1 ⊢
  have w1 : wrap64 (10 + d) = 10 + d := wrap_id (by omega) (by omega)
  have w2 : wrap64 (10 + d + 5) = 10 + d + 5 := wrap_id (by omega) (by omega)
  have w3 : wrap64 (10 + d - 5) = 10 + d - 5 := wrap_id (by omega) (by omega)
  rw [w1, w2, w3, awake_ok (show 100 ≤ 200 by decide)]
  clear w1 w2 w3
  obtain ⟨t, ht⟩ : ∃ t, t = 10 + d := ⟨_, rfl⟩
  rw [← ht]
  have hok := two_ok (t := t) (by omega)
  have hs := chain_Send_f (l := two t) (k := 200) (by simp [two]) (by simp [two]) x
  have hp := chain_Accept_f (l := two t) (k := 200) (by simp [two]) (by simp [two]) (id := 1) (by decide) x
  have hq := chain_Accept_f (l := two t) (k := 200) (by simp [two]) (by simp [two]) (id := 2) (by decide) x
  rw [if_pos ⟨hok, by omega, by omega⟩] at hs hp hq
  have e1 : send x none (two t) = if x < t then some ⟨1, ⟨#[111, 108, 100]⟩, 0, t, 0, t + 5⟩ else some ⟨2, ⟨#[110, 101, 119]⟩, t, 999, t - 5, 999⟩ := by
    show send x (if (0 : Int) ≤ x ∧ x < t ∧ late none (oldK t) = true then some (oldK t) else none) [newK t] = if x < t then some (oldK t) else some (newK t)
    by_cases h : x < t
    · rw [if_pos h, if_pos ⟨by omega, h, rfl⟩]
      show (if t ≤ x ∧ x < 999 ∧ late (some (oldK t)) (newK t) = true then some (newK t) else some (oldK t)) = some (oldK t)
      rw [if_neg (fun hh => absurd hh.1 (by omega))]
    · rw [if_neg h, if_neg (fun hh => h hh.2.1)]
      show (if t ≤ x ∧ x < 999 ∧ late none (newK t) = true then some (newK t) else none) = some (newK t)
      rw [if_pos ⟨by omega, by omega, rfl⟩]
  have e2 : accept 1 x (two t) = if x < t + 5 then some ⟨1, ⟨#[111, 108, 100]⟩, 0, t, 0, t + 5⟩ else none := by
    have hl : L5.look kkey 1 (two t) = some ⟨1, ⟨#[111, 108, 100]⟩, 0, t, 0, t + 5⟩ := rfl
    unfold accept
    rw [hl]
    simp only
    by_cases h : x < t + 5
    · rw [if_pos h, if_neg (by omega)]
    · rw [if_neg h, if_pos (by omega)]
  have e3 : accept 2 x (two t) = if t - 5 ≤ x then some ⟨2, ⟨#[110, 101, 119]⟩, t, 999, t - 5, 999⟩ else none := by
    have hl : L5.look kkey 2 (two t) = some ⟨2, ⟨#[110, 101, 119]⟩, t, 999, t - 5, 999⟩ := rfl
    unfold accept
    rw [hl]
    simp only
    by_cases h : t - 5 ≤ x
    · rw [if_pos h, if_neg (by omega)]
    · rw [if_neg h, if_pos (by omega)]
  rw [e1] at hs
  rw [e2] at hp
  rw [e3] at hq
  unfold two at hs hp hq
  simp only [Option.bind_some, if_true, hs, hp, hq, watchwordlaw0_Num.f]
  clear hs hp hq e1 e2 e3 hok
  by_cases h1 : x < t
  · have h2 : x < t + 5 := by omega
    simp only [if_pos h1, if_pos h2, tup, decide_eq_true h1, decide_eq_true h2]
    by_cases h3 : t - 5 ≤ x
    · simp only [if_pos h3, tup, decide_eq_true (show x ≥ t - 5 from h3)]; rfl
    · simp only [if_neg h3, tup, decide_eq_false (show ¬ x ≥ t - 5 from h3)]; rfl
  · have h3 : t - 5 ≤ x := by omega
    simp only [if_neg h1, if_pos h3, tup, decide_eq_false h1, decide_eq_true (show x ≥ t - 5 from h3)]
    by_cases h2 : x < t + 5
    · simp only [if_pos h2, tup, decide_eq_true h2]; rfl
    · simp only [if_neg h2, tup, decide_eq_false h2]; rfl

end Go.Proofs.Ytabjambabnbmnaa.Pure
