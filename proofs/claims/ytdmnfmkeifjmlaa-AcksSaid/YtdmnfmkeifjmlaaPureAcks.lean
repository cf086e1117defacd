/- Acks: any heads, bytes: the answers are the document's, and the heads stay, with the marked room behind them; no condition beyond the row's own. -/
import Derived.Test.YtdmnfmkeifjmlaaQ11ax103
import Derived.Test.YtdmnfmkeifjmlaaL11a
import Derived.Test.YtdmnfmkeifjmlaaO11a
namespace Go.Proofs.Ytdmnfmkeifjmlaa.Pure
open Go.RowKit Go.Proofs.YtdmnfmkeifjmlaaW.PrintWords Go.Proofs.YtdmnfmkeifjmlaaW.PrintLast Go.Proofs.YtdmnfmkeifjmlaaW.PrintMore Go.Proofs.Ytdmnfmkeifjmlaa.Base Go.Proofs.Ytdmnfmkeifjmlaa.Q11a Go.Proofs.Ytdmnfmkeifjmlaa.L11a Go.Proofs.Ytdmnfmkeifjmlaa.O11a
set_option linter.unusedVariables false

theorem ac_num (x : Int) : watchwordlaw0_Num.f x = some x := rfl
theorem ac_spoil : ∀ (d k i : Nat) (l : List S40), l.length ≤ 1000 → i + d = l.length → d < k → ∃ m, watchwordlaw0_SpoilLsaHeads.l0 k l (i : Int) = some m := by
  intro d
  induction d with
  | zero =>
    intro k i l hl hi hk
    obtain ⟨k, rfl⟩ : ∃ m, k = m + 1 := ⟨k - 1, by omega⟩
    simp only [watchwordlaw0_SpoilLsaHeads.l0]
    exact ⟨l, if_neg (by omega)⟩
  | succ d ih =>
    intro k i l hl hi hk
    obtain ⟨k, rfl⟩ : ∃ m, k = m + 1 := ⟨k - 1, by omega⟩
    have h4 : wrap64 ((i : Int) + 1) = ((i + 1 : Nat) : Int) := ra_nn rfl (by omega)
    simp only [watchwordlaw0_SpoilLsaHeads.l0, h4]
    rw [if_pos (by omega), if_pos (by omega)]
    exact ih k (i + 1) _ (by rw [List.length_set]; exact hl) (by rw [List.length_set]; omega) (by omega)
theorem ac_kept {l : List S40} (hn : l.length ≤ 4398046511000) {k : Nat} (hk : l.length < k) : watchwordlaw0_KeptLsaHeads.f k l l (l ++ [(⟨77777, 0, 0, 0⟩ : S40), (⟨77777, 0, 0, 0⟩ : S40)]) = some true := by
  have h0 : rd_T40 (l ++ [(⟨77777, 0, 0, 0⟩ : S40), (⟨77777, 0, 0, 0⟩ : S40)]) (l.length : Int) = ⟨77777, 0, 0, 0⟩ := by
    unfold rd_T40; rw [Int.toNat_natCast, List.getD_eq_getElem?_getD, List.getElem?_append_right (Nat.le_refl _), Nat.sub_self]; rfl
  have h1 : rd_T40 (l ++ [(⟨77777, 0, 0, 0⟩ : S40), (⟨77777, 0, 0, 0⟩ : S40)]) ((l.length + 1 : Nat) : Int) = ⟨77777, 0, 0, 0⟩ := by
    unfold rd_T40; rw [Int.toNat_natCast, List.getD_eq_getElem?_getD, List.getElem?_append_right (Nat.le_succ _), show l.length.succ - l.length = 1 by omega]; rfl
  have w : wrap64 ((l.length : Int) + 1) = ((l.length + 1 : Nat) : Int) := ra_nn rfl (by omega)
  have hl : (l ++ [(⟨77777, 0, 0, 0⟩ : S40), (⟨77777, 0, 0, 0⟩ : S40)]).length = l.length + 2 := by rw [List.length_append]; rfl
  unfold watchwordlaw0_KeptLsaHeads.f
  rw [SameH_f (by omega) hk, decide_eq_true rfl, Option.bind_some, if_pos rfl, w, h0, h1, hl, if_pos (by omega), if_pos (by omega), if_pos (by decide), if_pos (by omega), if_pos (by omega)]
  rfl
theorem getAck_len (b : List Int) : (getAck b).1.length ≤ 5 := by
  by_cases h : (getAck b).2 = 0
  · have := heads_len (getAck_ok h).1; omega
  · rw [getAck_no h]; exact Nat.zero_le _
theorem Acks : ∀ (l0 : List (S40)) (a1 : ByteArray), (l0.length * 32 ≤ 140737488351232 ∧ l0.length ≤ maxLen ∧ ∀ y ∈ l0, R40 y) → a1.size ≤ 140737488351232 → ∃ k, watchwordlaw11_Acks.f k l0 a1 = some true := by
  intro l b hl hb
  refine ⟨l.length + 801, ?_⟩
  have hn : l.length ≤ 4398046511000 := by omega
  have hn' : l.length ≤ 9223372036854775807 := by omega
  generalize hk : l.length + 801 = k0
  obtain ⟨k, rfl⟩ : ∃ q, k0 = q + 1 := ⟨k0 - 1, by omega⟩
  have h1 : l.length + 10 < k + 1 := by omega
  have h2 : l.length < k + 1 := by omega
  have h3 : l.length < k := by omega
  have h7 : 700 ≤ k := by omega
  clear hl hk
  have hz := getAck_len (B b)
  unfold watchwordlaw11_Acks.f
  rw [if_pos hn]
  simp only [watchwordlaw11_Acks.g, ac_num, Option.bind_some, ack_Put_f hn' h2, ref_PutAck_f hn' h1, ack_Get_f hb (show 30 ≤ k + 1 by omega), ref_GetAck_f hb (show 700 ≤ k + 1 by omega), refAck_eq (B_byt b), ack_May_f hn' h2, ref_AckMay_f hn' h2, if_true]
  generalize getAck (B b) = d at hz ⊢
  rw [SameH_f (show d.1.length ≤ 9223372036854775807 by omega) (show d.1.length < k + 1 by omega), decide_eq_true rfl]
  simp only [Option.bind_some, if_true, bne_self_eq_false]
  obtain ⟨m, hm⟩ := ac_spoil d.1.length k 0 d.1 (by omega) (by omega) (by omega)
  simp only [watchwordlaw11_Acks.j0, Bool.false_eq_true, if_false]
  rw [show watchwordlaw0_SpoilLsaHeads.f k d.1 = some m from hm, Option.bind_some, ac_kept hn h3, Option.bind_some, if_pos rfl, awake_ok (by omega), Option.bind_some]

end Go.Proofs.Ytdmnfmkeifjmlaa.Pure
