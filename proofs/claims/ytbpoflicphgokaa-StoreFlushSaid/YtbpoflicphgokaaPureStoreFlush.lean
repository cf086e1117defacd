/- StoreFlush: an Lsa of the last age, and newer, takes its router's away; an older one of it does not; no condition beyond the row's own. -/
import Derived.Test.YtbpoflicphgokaaQ18x104
import Derived.Test.YtbpoflicphgokaaZ18x4
namespace Go.Proofs.Ytbpoflicphgokaa.Pure
open Go.RowKit Go.Proofs.YtbpoflicphgokaaW.PrintWords Go.Proofs.YtbpoflicphgokaaW.PrintMore Go.Proofs.Ytbpoflicphgokaa.Base Go.Proofs.Ytbpoflicphgokaa.Q18 Go.Proofs.Ytbpoflicphgokaa.L18 Go.Proofs.Ytbpoflicphgokaa.O18
set_option linter.unusedVariables false
set_option linter.unusedSimpArgs false
theorem flush_newer {y : S32} (hy : y.f2 < 60) {s : Int} : nwr (⟨y.f0, s, 60, y.f3⟩ : S32) y = decide (s ≥ y.f1) := by
  unfold nwr cmp3
  by_cases h : s = y.f1
  · subst h
    have hm : L18.mark (⟨y.f0, y.f1, 60, y.f3⟩ : S32) = L18.mark y := rfl
    rw [if_neg (by simp), hm, if_neg (by simp)]
    unfold gone
    rw [if_pos rfl, if_neg (by omega), decide_eq_true (by decide), decide_eq_true (by show y.f1 ≥ y.f1; omega)]
  · rw [if_pos h]
    unfold sgn
    by_cases h1 : s < y.f1
    · rw [if_pos (show (⟨y.f0, s, 60, y.f3⟩ : S32).f1 < y.f1 from h1), decide_eq_false (by decide), decide_eq_false (show ¬ s ≥ y.f1 by omega)]
    · rw [if_neg h1, if_pos (show y.f1 < s by omega), decide_eq_true (by decide), decide_eq_true (show s ≥ y.f1 by omega)]
theorem core {k M : Nat} (l0 : List S32) (a1 a2 : Int) (hl : l0.length ≤ 2932031007402) (hM : ∀ y ∈ l0, y.f3.length < M) (hM2 : M ≤ 9223372036854775807) (hk : l0.length + M + 600 ≤ k) :
    watchwordlaw18_StoreFlush.f k l0 a1 a2 = some true := by
  have hm := modq a1 4 (by omega)
  unfold watchwordlaw18_StoreFlush.f
  rw [awake_ok (by omega)]
  simp only [Option.bind_some, if_true]
  generalize wrap64 (Int.tmod (IntKind.u64.wrap a1) 4) = j at hm ⊢
  rw [show wrap64 (1 + j) = 1 + j by rw [wrap_id (by omega) (by omega)]]
  obtain ⟨k, rfl⟩ : ∃ q, k = q + 1 := ⟨k - 1, by omega⟩
  have ok : ∀ (r a b c : Int) (ls : List S56), watchwordlaw18_StoreFlush.j0 (k + 1) l0 a2 r true a b c ls = some true := by
    intro r a b c ls
    simp only [watchwordlaw18_StoreFlush.j0]; rw [if_pos trivial]
  by_cases hs : St l0 = true
  · have hF := Find_f hs (t := 1 + j) ⟨by omega, by omega⟩ (show 20 ≤ k + 1 by omega)
    cases hy : L18.look ukey (1 + j) l0 with
    | none =>
      rw [show (L18.look ukey (1 + j) l0) = none from hy] at hF
      rw [hF, may_st hs (by omega)]
      exact ok (1 + j) 0 0 0 []
    | some y =>
      rw [show (L18.look ukey (1 + j) l0) = some y from hy] at hF
      rw [hF, may_st hs (by omega)]
      show watchwordlaw18_StoreFlush.j0 (k + 1) l0 a2 (1 + j) (decide (y.f1 > 2147483547)) y.f0 y.f1 y.f2 y.f3 = some true
      by_cases hb : y.f1 > 2147483547
      · rw [decide_eq_true hb]; exact ok _ _ _ _ _
      · rw [decide_eq_false hb]
        obtain ⟨hmem, hkey⟩ := look_mem hy
        have hyk := (sok_iff.1 (rises_mem hs y hmem).1)
        have hu := hyk.1
        have hly := usOk_len hu
        have h4 := st_len hs
        have hq : Go.bits .and .i64 a2 3 = a2 % 4 := and3 a2
        have hz1 := hu.2.2.1
        have hz2 := hu.2.2.2.1
        simp only [watchwordlaw18_StoreFlush.j0]
        rw [if_neg (by decide), copyLsa_f (by omega), hq, show wrap64 (y.f1 + a2 % 4) = y.f1 + a2 % 4 by rw [wrap_id (by omega) (by omega)], show wrap64 (y.f1 + a2 % 4 - 1) = y.f1 + a2 % 4 - 1 by rw [wrap_id (by omega) (by omega)]]
        simp only [Option.bind_some]
        generalize hsv : mx 1 (y.f1 + a2 % 4 - 1) = s
        have hs1 : 1 ≤ s ∧ s ≤ 2147483647 := by
          unfold mx at hsv
          split at hsv <;> omega
        have hux : UsOk (⟨y.f0, s, 60, y.f3⟩ : S32) := ⟨hu.1, hu.2.1, hs1.1, hs1.2, by show (0 : Int) ≤ 60; decide, by show (60 : Int) ≤ 60; decide, hu.2.2.2.2.2.2⟩
        have hfk : y.f0 = 1 + j := hkey
        have hwith : store_With.f k l0 y.f0 s 60 y.f3 = some (withC l0 ⟨y.f0, s, 60, y.f3⟩) := With_f hs hux (by omega)
        have hlk : L18.look ukey (ukey (⟨y.f0, s, 60, y.f3⟩ : S32)) l0 = some y := by
          show L18.look ukey y.f0 l0 = some y
          rw [hfk]; exact hy
        have hC : withC l0 ⟨y.f0, s, 60, y.f3⟩ = if s ≥ y.f1 then (del y.f0 l0, true, 0) else (l0, false, 0) := by
          unfold withC
          rw [hlk]
          simp only [flush_newer hyk.2, decide_eq_true_eq, if_true]
          rfl
        rw [hwith, hC]
        by_cases hn : s ≥ y.f1
        · rw [if_pos hn]
          have hd : L18.look ukey (1 + j) (del y.f0 l0) = none := by rw [hfk]; exact look_del_self hs
          have hs3 : St (del y.f0 l0) = true := del_rises hs
          have hlen := del_length (l := l0) (q := y.f0) (y := y) hlk
          simp only [Option.bind_some, num_f]
          rw [Find_f hs3 ⟨by omega, by omega⟩ (by omega), hd]
          simp only [Option.bind_some, tellF, if_true]
          rw [decide_eq_true hn, if_pos (by decide), if_pos (by decide)]
          unfold watchwordlaw18_one.f
          rw [if_neg (by decide)]
          simp only [Option.bind_some]
          rw [show wrap64 (((l0.length : Nat) : Int) - 1) = (l0.length : Int) - 1 by rw [wrap_id (by omega) (by omega)], show wrap64 ((l0.length : Int) - 1 + 0) = (l0.length : Int) - 1 by rw [wrap_id (by omega) (by omega)]; omega]
          congr 1
          simp only [beq_iff_eq]
          omega
        · rw [if_neg hn]
          simp only [Option.bind_some, num_f]
          rw [Find_f hs ⟨by omega, by omega⟩ (by omega), hy]
          simp only [Option.bind_some, tellF, if_true]
          rw [decide_eq_false hn, if_pos (by decide), if_pos (by decide)]
          unfold watchwordlaw18_one.f
          rw [if_pos rfl]
          simp only [Option.bind_some]
          rw [show wrap64 (((l0.length : Nat) : Int) - 1) = (l0.length : Int) - 1 by rw [wrap_id (by omega) (by omega)], show wrap64 ((l0.length : Int) - 1 + 1) = (l0.length : Int) by rw [wrap_id (by omega) (by omega)]; omega]
          simp
  · have hf := Bool.eq_false_iff.mpr hs
    rw [Find_bad (by omega) hM hM2 (by omega) hf, May_f (by omega) hM hM2 (by omega)]
    simp only [Option.bind_some]
    rw [if_neg hs]
    exact ok _ _ _ _ _
theorem StoreFlush : ∀ (l0 : List (S32)) (a1 : Int) (a2 : Int), (l0.length * 48 ≤ 140737488351232 ∧ l0.length ≤ maxLen ∧ ∀ y ∈ l0, R32 y) → (Lit.int .i64 a1).wf = true → (Lit.int .i64 a2).wf = true → ∃ k, watchwordlaw18_StoreFlush.f k l0 a1 a2 = some true := by
  intro l0 a1 a2 h0 _ _
  obtain ⟨k, hk⟩ : ∃ k : Nat, l0.length + 8796093022209 + 600 ≤ k := ⟨_, Nat.le_refl _⟩
  exact ⟨k, core l0 a1 a2 (by have := h0.1; omega) (M := 8796093022209) (fun y hy => by have := (h0.2.2 y hy).2.2.2.1; omega) (by omega) hk⟩
end Go.Proofs.Ytbpoflicphgokaa.Pure
