/- NearDies: who is heard lives just DeadTime ticks, unless it is heard again; no condition beyond the row's own. -/
import Derived.Test.YtnfoldgialdhjaaQ19x104
import Derived.Test.YtnfoldgialdhjaaA19
namespace Go.Proofs.Ytnfoldgialdhjaa.Pure
open Go.RowKit Go.Proofs.YtnfoldgialdhjaaW.PrintWords Go.Proofs.YtnfoldgialdhjaaW.PrintLast Go.Proofs.YtnfoldgialdhjaaW.PrintMore Go.Proofs.Ytnfoldgialdhjaa.Base Go.Proofs.Ytnfoldgialdhjaa.Q19 Go.Proofs.Ytnfoldgialdhjaa.L19
set_option linter.unusedVariables false

/-- The list while one router is heard that has so many ticks left. -/
def one (r n : Int) : List S46 := if n = 0 then [] else [⟨r, 2, n⟩]
theorem one_len (r n : Int) : (one r n).length ≤ 1 := by unfold one; split <;> simp
theorem one_ok {r n : Int} (hr : 1 ≤ r ∧ r ≤ 4) (hn : 0 ≤ n ∧ n ≤ 16) : rises nok nkey 0 (one r n) = true := by
  unfold one
  by_cases h : n = 0
  · rw [if_pos h]; rfl
  · rw [if_neg h]; exact rises_one (nearOk_mk (by omega))
theorem one_heard {k : Nat} (hk : 30 < k) {r n : Int} (hr : 1 ≤ r ∧ r ≤ 4) (hn : 0 ≤ n ∧ n ≤ 16) : near_Heard.f k (one r n) r true = some (one r 16, n == 0, 0) := by
  have hl := one_len r n
  rw [near_Heard_f (by omega) (by omega), if_pos ⟨one_ok hr hn, hr⟩]
  unfold one turnedOf stOf
  by_cases h : n = 0
  · rw [if_pos h]; subst h; rfl
  · rw [if_neg h]
    have hk1 : nkey (⟨r, 2, n⟩ : S46) = r := rfl
    have hk2 : nkey (⟨r, 2, 16⟩ : S46) = r := rfl
    have h1 : ins nkey (⟨r, 2, 16⟩ : S46) [⟨r, 2, n⟩] = [⟨r, 2, 16⟩] := by
      unfold ins; rw [hk1, hk2, if_neg (by omega), if_pos rfl]
    have h2 : L19.look nkey r [(⟨r, 2, n⟩ : S46)] = some ⟨r, 2, n⟩ := by unfold L19.look; rw [hk1, if_pos rfl]
    have h3 : (n == 0) = false := by simpa using h
    simp only [if_true]
    rw [h1, h2, h3]; rfl
theorem one_tick {k : Nat} (hk : 30 < k) {r n : Int} (hr : 1 ≤ r ∧ r ≤ 4) (hn : 0 ≤ n ∧ n ≤ 16) : ∃ g : List Int, near_Tick.f k (one r n) = some (one r (mx 0 (n - 1)), g, 0) ∧ ((g.length : Int) == 1) = (n == 1) := by
  have hl := one_len r n
  rw [near_Tick_f (by omega) (by omega), if_pos (one_ok hr hn)]
  unfold one
  by_cases h : n = 0
  · subst h; exact ⟨[], rfl, rfl⟩
  · rw [if_neg h]
    refine ⟨tickGone [⟨r, 2, n⟩], ?_, ?_⟩
    · rw [tickOut_cons]
      simp only
      by_cases h1 : 1 < n
      · have hm : mx 0 (n - 1) = n - 1 := by unfold mx; rw [if_pos (by omega)]
        rw [if_pos h1, hm, if_neg (by omega)]; rfl
      · have hm : mx 0 (n - 1) = 0 := by unfold mx; rw [if_neg (by omega)]
        rw [if_neg h1, hm, if_pos rfl]; rfl
    · rw [tickGone_cons]
      simp only
      by_cases h1 : 1 < n
      · rw [if_pos h1]
        have : (n == 1) = false := beq_eq_false_iff_ne.mpr (by omega)
        rw [this]; rfl
      · rw [if_neg h1]
        have : n = 1 := by omega
        subst this; rfl
theorem one_full {k : Nat} (hk : 30 < k) {r n : Int} (hr : 1 ≤ r ∧ r ≤ 4) (hn : 0 ≤ n ∧ n ≤ 16) : ∃ g : List Int, near_Full.f k (one r n) = some g ∧ ((g.length : Int) == 1) = decide (n > 0) := by
  have hl := one_len r n
  rw [near_Full_f (by omega) (by omega)]
  refine ⟨_, rfl, ?_⟩
  unfold fullOf
  rw [if_pos (one_ok hr hn)]
  unfold one
  by_cases h : n = 0
  · subst h; rfl
  · rw [if_neg h, decide_eq_true (by omega)]; rfl
theorem dies_l {l : List Int} {r : Int} (hr : 1 ≤ r ∧ r ≤ 4) : ∀ (d k i : Nat) (n : Int), i + d = 40 → 3 * d + 100 ≤ k → 0 ≤ n ∧ n ≤ 16 → watchwordlaw19_NearDies.l0 k l r (one r n) n (i : Int) = some true := by
  intro d
  induction d with
  | zero =>
    intro k i n hi hk hn
    obtain ⟨k, rfl⟩ : ∃ m, k = m + 2 := ⟨k - 2, by omega⟩
    simp only [watchwordlaw19_NearDies.l0, watchwordlaw19_NearDies.j1]
    rw [decide_eq_false (by omega)]
    split <;> rfl
  | succ d ih =>
    intro k i n hi hk hn
    obtain ⟨k, rfl⟩ : ∃ m, k = m + 3 := ⟨k - 3, by omega⟩
    have h4 : wrap64 ((i : Int) + 1) = ((i + 1 : Nat) : Int) := next_wrap (by omega)
    have h5 : wrap64 (n - 1) = n - 1 := wrap_id (by omega) (by omega)
    have hmx : 0 ≤ mx 0 (n - 1) ∧ mx 0 (n - 1) ≤ 16 := by unfold mx; split <;> omega
    simp only [watchwordlaw19_NearDies.l0, watchwordlaw19_NearDies.j1, h4]
    by_cases hl : (i : Int) < (l.length : Int)
    · rw [if_pos hl, decide_eq_true (by omega), if_pos rfl, if_pos (by omega), if_pos hl]
      by_cases hc : Go.bits .and .i64 (rd l (i : Int)) 15 = 15
      · rw [if_pos hc]
        simp only [one_heard (show 30 < k + 1 by omega) hr hn, Option.bind_some, watchwordlaw0_Num.f, if_true, bne_self_eq_false, Bool.false_eq_true, if_false]
        exact ih (k + 1) (i + 1) 16 (by omega) (by omega) (by omega)
      · rw [if_neg hc]
        obtain ⟨g, hg, hgl⟩ := one_tick (k := k + 1) (by omega) hr hn
        simp only [hg, Option.bind_some, watchwordlaw0_Num.f, if_true, hgl, bne_self_eq_false, watchwordlaw19_NearDies.j2, Bool.false_eq_true, if_false, h5, h4]
        obtain ⟨u, hu, hul⟩ := one_full (k := k) (by omega) hr hmx
        simp only [hu, Option.bind_some, hul, bne_self_eq_false, Bool.false_eq_true, if_false]
        exact ih k (i + 1) _ (by omega) (by omega) hmx
    · rw [if_neg hl]; rfl
theorem NearDies : watchwordlaw19_NearDies.Pure := by
  intro a0 l _ _ _ _
  refine ⟨400, ?_⟩
  have ht := u64_tmod a0 4 (by decide)
  unfold watchwordlaw19_NearDies.f
  generalize Int.tmod (IntKind.u64.wrap a0) 4 = t at ht
  have w1 : wrap64 t = t := wrap_id (by omega) (by omega)
  have w2 : wrap64 (1 + t) = 1 + t := wrap_id (by omega) (by omega)
  rw [w1, w2, awake_ok (show 100 ≤ 400 by decide)]
  have hr : 1 ≤ 1 + t ∧ 1 + t ≤ 4 := by omega
  clear w1 w2
  have h0 : near_Heard.f 400 [] (1 + t) true = some (one (1 + t) 16, true, 0) := one_heard (by decide) hr (n := 0) (by omega)
  simp only [Option.bind_some, if_true, h0, watchwordlaw0_Num.f]
  exact dies_l hr 40 400 0 16 (by omega) (by omega) (by omega)

end Go.Proofs.Ytnfoldgialdhjaa.Pure
