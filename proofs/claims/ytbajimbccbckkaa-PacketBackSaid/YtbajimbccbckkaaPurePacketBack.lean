/- PacketBack: a packet comes back as it was, its bytes are at most 512; bytes that are a packet come back as they stood, others give an empty one; no condition beyond the row's own. -/
import Derived.Test.YtbajimbccbckkaaQ12x104
import Derived.Test.YtbajimbccbckkaaL12
namespace Go.Proofs.Ytbajimbccbckkaa.Pure
open Go.RowKit Go.Proofs.YtbajimbccbckkaaW.PrintWords Go.Proofs.YtbajimbccbckkaaW.PrintLast Go.Proofs.YtbajimbccbckkaaW.PrintMore Go.Proofs.Ytbajimbccbckkaa.Base Go.Proofs.Ytbajimbccbckkaa.Q12 Go.Proofs.Ytbajimbccbckkaa.L12 Go.Proofs.Ytbajimbccbckkaa.O12
set_option linter.unusedVariables false

theorem pk_num (x : Int) : watchwordlaw0_Num.f x = some x := rfl
theorem pk_links {t r : Int} {xs : List Int} {us : List S45} {hs : List S47} (h : PkOk t r xs us hs) : us.length ≤ 4 ∧ xs.length ≤ 4 ∧ hs.length ≤ 4 ∧ ∀ x ∈ us, x.f3.length < 5 := by
  rcases h.2 with ⟨_, g, rfl, rfl⟩ | ⟨_, g, rfl, rfl⟩ | ⟨_, g, rfl, rfl⟩
  · exact ⟨by simp, He.heard_len g, by simp, by simp⟩
  · exact ⟨upd_len g, by simp, by simp, fun x hx => by have := usOk_len (upd_ok us 0 g x hx); omega⟩
  · exact ⟨by simp, by simp, Ak.heads_len g, by simp⟩
theorem pk_j0 {b : ByteArray} (hb : b.size ≤ 140737488355328) {k : Nat} (hk : 3000 ≤ k) : watchwordlaw12_PacketBack.j0 k b = some true := by
  obtain ⟨k, rfl⟩ : ∃ m, k = m + 1 := ⟨k - 1, by omega⟩
  simp only [watchwordlaw12_PacketBack.j0, packet_Get_f hb (show 2000 ≤ k by omega), Option.bind_some, pk_num]
  cases hg : getPkt (B b) with
  | none =>
    simp only [tellP]
    refine (if_neg (show ¬ ((1200 : Int) = 0) by decide)).trans ?_
    rw [SameP_f (M := 1) (by simp) (by simp) (by simp) (by simp) (by omega) (by simp only [List.length_nil]; omega), decide_eq_true (⟨rfl, rfl, rfl, rfl, rfl⟩ : (0 : Int) = 0 ∧ (0 : Int) = 0 ∧ ([] : List Int) = [] ∧ ([] : List S45) = [] ∧ ([] : List S47) = [])]
    rfl
  | some z =>
    obtain ⟨t, r, xs, us, hs⟩ := z
    obtain ⟨h1, h2⟩ := getPkt_some hg
    obtain ⟨l1, l2, l3, l4⟩ := pk_links h1
    simp only [tellP, if_true]
    rw [packet_Put_f (M := 5) (by omega) (by omega) (by omega) l4 (by omega) (by omega) (by omega), if_pos h1, Option.bind_some, if_pos (show ((strOfNums (pbytes t r xs us hs), (0 : Int)).2 = 0) from rfl)]
    rw [show ((strOfNums (pbytes t r xs us hs), (0 : Int)).1.toList == b.toList) = true from beq_iff_eq.mpr ((toList_iff _ _).mpr (by rw [B_strOf (pbytes_byt h1), h2]))]
theorem PacketBack : ∀ (a0_0 : Int) (a0_1 : Int) (l0_2 : List (Int)) (l0_3 : List (S45)) (l0_4 : List (S47)) (a1 : ByteArray), (Lit.int .i64 a0_0).wf = true → (Lit.int .i64 a0_1).wf = true → (l0_2.length * 8 ≤ 140737488351232 ∧ l0_2.length ≤ maxLen ∧ ∀ y ∈ l0_2, (Lit.int .i64 y).wf = true) → (l0_3.length * 48 ≤ 140737488351232 ∧ l0_3.length ≤ maxLen ∧ ∀ y ∈ l0_3, R45 y) → (l0_4.length * 32 ≤ 140737488351232 ∧ l0_4.length ≤ maxLen ∧ ∀ y ∈ l0_4, R47 y) → a1.size ≤ 140737488351232 → ∃ k, watchwordlaw12_PacketBack.f k a0_0 a0_1 l0_2 l0_3 l0_4 a1 = some true := by
  intro t r xs us hs b _ _ hx hu hh hb
  refine ⟨xs.length + us.length + hs.length + 8796093025300, ?_⟩
  have hM : ∀ x ∈ us, x.f3.length < 8796093022209 := fun x hx => by have := (hu.2.2 x hx).2.2.2.1; omega
  have h1 : xs.length ≤ 1000000000000000000 := by omega
  have h2 : us.length ≤ 1000000000000000000 := by omega
  have h3 : hs.length ≤ 1000000000000000000 := by omega
  generalize hk : xs.length + us.length + hs.length + 8796093025300 = k
  have hk1 : xs.length + us.length + hs.length + 8796093022209 < k := by omega
  have hk2 : 3000 ≤ k := by omega
  clear hx hu hh hk
  simp only [watchwordlaw12_PacketBack.f, awake_ok (show 800 ≤ k by omega), packet_Put_f h1 h2 h3 hM (by omega) hk1 (by omega), pk_num, Option.bind_some, if_true, pk_j0 (show b.size ≤ 140737488355328 by omega) hk2]
  by_cases h : PkOk t r xs us hs
  · have hl := plist_len h
    have hp := pbytes_len t r xs us hs
    rw [if_pos h]
    simp only [if_true]
    rw [packet_Get_f (by rw [strOf_size]; omega) (show 2000 ≤ k by omega), B_strOf (pbytes_byt h), getPkt_put h]
    simp only [tellP, Option.bind_some, if_true]
    rw [SameP_f h1 h2 h3 hM (by omega) hk1, decide_eq_true ⟨rfl, rfl, rfl, rfl, rfl⟩]
    simp only [Option.bind_some, if_true, strOf_size]
    rw [if_neg (by omega)]
  · rw [if_neg h]; rw [if_neg (by decide)]

end Go.Proofs.Ytbajimbccbckkaa.Pure
