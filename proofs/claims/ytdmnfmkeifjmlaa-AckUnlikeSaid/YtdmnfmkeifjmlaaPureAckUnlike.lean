/- AckUnlike: a list of heads and the list with one age, sum or serial of one head turned have unlike bytes of like length; no condition beyond the row's own. -/
import Derived.Test.YtdmnfmkeifjmlaaQ11x7
import Derived.Test.YtdmnfmkeifjmlaaL11
import Derived.Test.YtdmnfmkeifjmlaaO11
namespace Go.Proofs.Ytdmnfmkeifjmlaa.Pure
open Go.RowKit Go.Proofs.YtdmnfmkeifjmlaaW.PrintWords Go.Proofs.YtdmnfmkeifjmlaaW.PrintLast Go.Proofs.YtdmnfmkeifjmlaaW.PrintMore Go.Proofs.Ytdmnfmkeifjmlaa.Base Go.Proofs.Ytdmnfmkeifjmlaa.Q11 Go.Proofs.Ytdmnfmkeifjmlaa.L11 Go.Proofs.Ytdmnfmkeifjmlaa.O11
set_option linter.unusedVariables false

theorem au_flat_len (l : List S40) : (l.flatMap hbytes).length = 8 * l.length := by
  induction l with
  | nil => rfl
  | cons x l ih => rw [List.flatMap_cons, List.length_append, ih, hbytes_len, List.length_cons]; omega
theorem au_len (l : List S40) : (ackBytes l).length = 1 + 8 * l.length := by
  unfold ackBytes; rw [List.length_append, e1_len, au_flat_len]
theorem heads_set : ∀ (l : List S40) (p : Int) (i : Nat) (x : S40), heads p l = true → (h : i < l.length) → x.f0 = l[i].f0 → AckOk x.f0 x.f1 x.f2 x.f3 → heads p (l.set i x) = true
  | [], _, _, _, _, h, _, _ => absurd h (by simp)
  | y :: l, p, 0, x, hh, _, he, hx => by
    unfold heads at hh ⊢
    simp only [List.set_cons_zero]
    simp only [List.getElem_cons_zero] at he
    by_cases hc : AckOk y.f0 y.f1 y.f2 y.f3 ∧ p < y.f0
    · rw [if_pos hc] at hh
      show (if AckOk x.f0 x.f1 x.f2 x.f3 ∧ p < x.f0 then heads x.f0 l else false) = true
      rw [if_pos ⟨hx, by rw [he]; exact hc.2⟩, he]; exact hh
    · rw [if_neg hc] at hh; cases hh
  | y :: l, p, i + 1, x, hh, h, he, hx => by
    unfold heads at hh
    by_cases hc : AckOk y.f0 y.f1 y.f2 y.f3 ∧ p < y.f0
    · rw [if_pos hc] at hh
      show (if AckOk y.f0 y.f1 y.f2 y.f3 ∧ p < y.f0 then heads y.f0 (l.set i x) else false) = true
      rw [if_pos hc]
      exact heads_set l y.f0 i x hh (by simpa using h) (by simpa using he) hx
    · rw [if_neg hc] at hh; cases hh
theorem au_end {l : List S40} (h : heads 0 l = true) {k : Nat} (hk : 30 ≤ k) {i : Nat} (hi : i < l.length) {x : S40} (he : x.f0 = l[i].f0) (hx : AckOk x.f0 x.f1 x.f2 x.f3) (hne : x ≠ l[i]) :
    ((ack_Put.f k (l.set i x)).bind fun bt226 => ((watchwordlaw0_Num.f bt226.2).bind fun t228 => (if t228 = 0 then (if (strOfNums (ackBytes l)).toList = bt226.1.toList then (some false) else (some (((strOfNums (ackBytes l)).size : Int) == (bt226.1.size : Int)))) else (some false)))) = some true := by
  have hl := heads_len h
  have hs := heads_set l 0 i x h hi he hx
  have hb : ackBytes l ≠ ackBytes (l.set i x) := fun e => by
    have e1 := get_ack h
    rw [e, get_ack hs] at e1
    have e2 : l.set i x = l := (Prod.mk.inj e1).1
    apply hne
    have : (l.set i x)[i]'(by rw [List.length_set]; exact hi) = x := List.getElem_set_self _
    rw [← this]
    simp only [e2]
  rw [ack_Put_f (by rw [List.length_set]; omega) (by rw [List.length_set]; omega), if_pos hs]
  simp only [Option.bind_some, watchwordlaw0_Num.f, if_true]
  rw [if_neg (by rw [toList_iff, B_strOf (ackBytes_byt _), B_strOf (ackBytes_byt _)]; exact hb), strOf_size, strOf_size, au_len, au_len, List.length_set]
  simp
theorem au_mod (a : Int) (m : Int) (hm : 1 ≤ m ∧ m ≤ 100) : 0 ≤ wrap64 (Int.tmod (IntKind.u64.wrap a) m) ∧ wrap64 (Int.tmod (IntKind.u64.wrap a) m) < m := by
  have hw : IntKind.u64.wrap a = a % 18446744073709551616 := by simp [IntKind.wrap, IntKind.bits, IntKind.signed]
  have h1 := Int.emod_nonneg (a % 18446744073709551616) (show m ≠ 0 by omega)
  have h2 := Int.emod_lt_of_pos (a % 18446744073709551616) (show 0 < m by omega)
  rw [hw, Int.tmod_eq_emod_of_nonneg (by omega), wrap_id (by omega) (by omega)]
  exact ⟨h1, h2⟩
theorem AckUnlike : ∀ (l0 : List (S40)) (a1 : Int) (a2 : Int), (l0.length * 32 ≤ 140737488351232 ∧ l0.length ≤ maxLen ∧ ∀ y ∈ l0, R40 y) → (Lit.int .i64 a1).wf = true → (Lit.int .i64 a2).wf = true → ∃ k, watchwordlaw11_AckUnlike.f k l0 a1 a2 = some true := by
  intro l a1 a2 hl hw1 hw2
  refine ⟨l.length + 101, ?_⟩
  have hn : l.length ≤ 140737488351232 := by omega
  simp only [watchwordlaw11_AckUnlike.f, awake_ok (show 100 ≤ l.length + 101 by omega), ack_Put_f (show l.length ≤ 9223372036854775807 by omega) (show l.length < l.length + 101 by omega), watchwordlaw0_Num.f, Option.bind_some, if_true]
  by_cases h : heads 0 l = true
  · have h4 := heads_len h
    rw [if_pos h, if_pos rfl]
    simp only [watchwordlaw11_AckUnlike.j0, watchwordlaw0_Num.f, Option.bind_some, if_true, List.nil_append, List.length_nil]
    by_cases h0 : l.length = 0
    · rw [if_pos (by rw [h0]; rfl)]
    · have hw : IntKind.u64.wrap (l.length : Int) = (l.length : Int) := by
        have : IntKind.u64.wrap (l.length : Int) = (l.length : Int) % 18446744073709551616 := by simp [IntKind.wrap, IntKind.bits, IntKind.signed]
        omega
      rw [if_neg (by simp; intro e; apply h0; simp [e]), if_pos (by omega), hw, if_neg (by omega)]
      have m1 := au_mod a1 (l.length : Int) (by omega)
      generalize wrap64 (Int.tmod (IntKind.u64.wrap a1) (l.length : Int)) = j at m1 ⊢
      obtain ⟨i, rfl⟩ : ∃ i : Nat, j = (i : Int) := ⟨j.toNat, by omega⟩
      have hi : i < l.length := by omega
      have hx := heads_range l 0 h l[i] (by simp)
      obtain ⟨x1, x2, x3, x4, x5, x6, x7, x8⟩ := hx
      rw [rdH_at hi, Int.toNat_natCast]
      generalize hx : l[i] = x at x1 x2 x3 x4 x5 x6 x7 x8 ⊢
      have hz : 0 ≤ (i : Int) := by omega
      have hzi : (i : Int) < (l.length : Int) := by omega
      by_cases c0 : Int.tmod (IntKind.u64.wrap a2) 3 = 0
      · rw [if_pos c0, if_pos hz, if_pos hzi, wrap_id (x := x.f2 + 1) (by omega) (by omega)]
        have hm : Int.tmod (x.f2 + 1) 61 = (x.f2 + 1) % 61 := Int.tmod_eq_emod_of_nonneg (by omega)
        rw [hm]
        refine au_end h (by omega) hi (by rw [hx]) ⟨x1, x2, x3, x4, by dsimp only; omega, by dsimp only; omega, x7, x8⟩ ?_
        rw [hx]; intro e
        have := congrArg S40.f2 e
        dsimp only at this; omega
      rw [if_neg c0]
      by_cases c1 : Int.tmod (IntKind.u64.wrap a2) 3 = 1
      · rw [if_pos c1, if_pos hz, if_pos hzi, wrap_id (x := x.f3 + 1) (by omega) (by omega)]
        have hm : Int.tmod (x.f3 + 1) 65536 = (x.f3 + 1) % 65536 := Int.tmod_eq_emod_of_nonneg (by omega)
        rw [hm]
        refine au_end h (by omega) hi (by rw [hx]) ⟨x1, x2, x3, x4, x5, x6, by dsimp only; omega, by dsimp only; omega⟩ ?_
        rw [hx]; intro e
        have := congrArg S40.f3 e
        dsimp only at this; omega
      rw [if_neg c1, if_pos hz, if_pos hzi]
      have hm : Int.tmod x.f1 2147483647 = x.f1 % 2147483647 := Int.tmod_eq_emod_of_nonneg (by omega)
      rw [hm, wrap_id (x := 1 + x.f1 % 2147483647) (by omega) (by omega)]
      refine au_end h (by omega) hi (by rw [hx]) ⟨x1, x2, by dsimp only; omega, by dsimp only; omega, x5, x6, x7, x8⟩ ?_
      rw [hx]; intro e
      have := congrArg S40.f1 e
      dsimp only at this; omega
  · rw [if_neg h, if_neg (by decide)]
    simp only [watchwordlaw11_AckUnlike.j0, watchwordlaw0_Num.f, Option.bind_some, if_true]
    rw [if_neg (by decide), empty_list]
    rfl

end Go.Proofs.Ytdmnfmkeifjmlaa.Pure
