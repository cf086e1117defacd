/- Hellos: any list, bytes: the answers are the document's, and the list stays, with the marked room behind it: for lists and bytes of at most 1048576; no condition beyond the row's own. -/
import Derived.Test.YtkfnbnfdcfcfpaaQ9ax107
import Derived.Test.YtkfnbnfdcfcfpaaL9a
namespace Go.Proofs.Ytkfnbnfdcfcfpaa.Pure
open Go.RowKit Go.Proofs.YtkfnbnfdcfcfpaaW.PrintWords Go.Proofs.YtkfnbnfdcfcfpaaW.PrintLast Go.Proofs.YtkfnbnfdcfcfpaaW.PrintMore Go.Proofs.Ytkfnbnfdcfcfpaa.Base Go.Proofs.Ytkfnbnfdcfcfpaa.Q9a Go.Proofs.Ytkfnbnfdcfcfpaa.L9a
set_option linter.unusedVariables false

theorem hl_num (x : Int) : watchwordlaw0_Num.f x = some x := rfl
theorem hl_spoil : ∀ (d k i : Nat) (l : List Int), l.length ≤ 2000000 → i + d = l.length → d < k → ∃ m, watchwordlaw0_SpoilInts.l0 k l (i : Int) = some m := by
  intro d
  induction d with
  | zero =>
    intro k i l hl hi hk
    obtain ⟨k, rfl⟩ : ∃ m, k = m + 1 := ⟨k - 1, by omega⟩
    simp only [watchwordlaw0_SpoilInts.l0]
    exact ⟨l, if_neg (by omega)⟩
  | succ d ih =>
    intro k i l hl hi hk
    obtain ⟨k, rfl⟩ : ∃ m, k = m + 1 := ⟨k - 1, by omega⟩
    have h4 : wrap64 ((i : Int) + 1) = ((i + 1 : Nat) : Int) := by rw [wrap_id (by omega) (by omega)]; omega
    simp only [watchwordlaw0_SpoilInts.l0, h4]
    rw [if_pos (by omega), if_pos (by omega)]
    exact ih k (i + 1) _ (by rw [List.length_set]; exact hl) (by rw [List.length_set]; omega) (by omega)
theorem hl_kept {l : List Int} (hn : l.length ≤ 4398046511000) {k : Nat} (hk : l.length < k) : watchwordlaw0_KeptInts.f k l l (l ++ [(-7777), (-8888)]) = some true := by
  have h0 : rd (l ++ [(-7777), (-8888)]) (l.length : Int) = -7777 := by
    unfold rd; rw [Int.toNat_natCast, List.getD_eq_getElem?_getD, List.getElem?_append_right (Nat.le_refl _), Nat.sub_self]; rfl
  have h1 : rd (l ++ [(-7777), (-8888)]) ((l.length + 1 : Nat) : Int) = -8888 := by
    unfold rd; rw [Int.toNat_natCast, List.getD_eq_getElem?_getD, List.getElem?_append_right (Nat.le_succ _), show l.length.succ - l.length = 1 by omega]; rfl
  have w : wrap64 ((l.length : Int) + 1) = ((l.length + 1 : Nat) : Int) := by rw [wrap_id (by omega) (by omega)]; omega
  have hl : (l ++ [(-7777 : Int), (-8888)]).length = l.length + 2 := by rw [List.length_append]; rfl
  unfold watchwordlaw0_KeptInts.f
  rw [SameInts_f (by omega) hk, decide_eq_true rfl, Option.bind_some, if_pos rfl, w, h0, h1, hl, if_pos (by omega), if_pos (by omega), if_pos rfl, if_pos (by omega), if_pos (by omega)]
  rfl
theorem Hellos : ∀ (l0 : List (Int)) (a1 : ByteArray), (l0.length * 8 ≤ 140737488351232 ∧ l0.length ≤ maxLen ∧ ∀ y ∈ l0, (Lit.int .i64 y).wf = true) → l0.length ≤ 1048576 → a1.size ≤ 140737488351232 → a1.size ≤ 1048576 → ∃ k, watchwordlaw9_Hellos.f k l0 a1 = some true := by
  intro l b hl hl2 hb hb2
  refine ⟨3200000, ?_⟩
  have hn : l.length ≤ 4398046511000 := by omega
  have hn' : l.length ≤ 9223372036854775807 := by omega
  generalize hk : (3200000 : Nat) = k0
  obtain ⟨k, rfl⟩ : ∃ q, k0 = q + 1 := ⟨k0 - 1, by omega⟩
  have h2 : l.length < k + 1 := by omega
  have h3 : l.length < k := by omega
  have h7 : 2 * b.size + 5 < k + 1 := by omega
  have h8 : 2 * b.size + 1 < k + 1 := by omega
  have h9 : 100 ≤ k := by omega
  have hz : (getHello (B b)).1.length ≤ 1048576 := by
    unfold getHello
    split
    · rw [List.length_drop, B_len]; omega
    · exact Nat.zero_le _
  have h10 : 1048577 < k := by omega
  clear hl hk
  unfold watchwordlaw9_Hellos.f
  rw [if_pos hn]
  simp only [watchwordlaw9_Hellos.g, hl_num, Option.bind_some, hello_Put_f hn' h2, rh_Put_f hn' h2, hello_Get_f (show b.size ≤ 17592186044416 by omega) h8, rh_Get_f (show b.size ≤ 17592186044415 by omega) h7, hello_May_f hn' h2, rh_May_f hn' h2, if_true]
  generalize getHello (B b) = d at hz ⊢
  rw [SameInts_f (show d.1.length ≤ 9223372036854775807 by omega) (show d.1.length < k + 1 by omega), decide_eq_true rfl]
  simp only [Option.bind_some, if_true, bne_self_eq_false]
  obtain ⟨m, hm⟩ := hl_spoil d.1.length k 0 d.1 (by omega) (by omega) (by omega)
  simp only [watchwordlaw9_Hellos.j0, Bool.false_eq_true, if_false]
  rw [show watchwordlaw0_SpoilInts.f k d.1 = some m from hm, Option.bind_some, hl_kept hn h3, Option.bind_some, if_pos rfl, awake_ok h9, Option.bind_some]

end Go.Proofs.Ytkfnbnfdcfcfpaa.Pure
