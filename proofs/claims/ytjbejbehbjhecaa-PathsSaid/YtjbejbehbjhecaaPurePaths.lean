/- Paths: the code's routes are the document's. -/
import Derived.Test.YtjbejbehbjhecaaZ21px5
namespace Go.Proofs.Ytjbejbehbjhecaa.Pure
open Go.RowKit Go.Proofs.YtjbejbehbjhecaaW.PrintWords Go.Proofs.YtjbejbehbjhecaaW.PrintMore Go.Proofs.Ytjbejbehbjhecaa.Base Go.Proofs.Ytjbejbehbjhecaa.Q21p Go.Proofs.Ytjbejbehbjhecaa.L21
set_option linter.unusedVariables false
set_option maxRecDepth 100000
theorem nxt {i : Nat} (h : i < 1000000) : wrap64 ((i : Int) + 1) = ((i + 1 : Nat) : Int) := by unfold wrap64; omega
theorem ints_self (l : List Int) (hl : l.length ≤ 4) : ∀ d i k, i + d = l.length → d < k → watchwordlaw0_SameInts.l0 k l l (i : Int) = some true
  | 0, i, k, h, hk => by
    obtain ⟨k, rfl⟩ : ∃ m, k = m + 1 := ⟨k - 1, by omega⟩
    simp only [watchwordlaw0_SameInts.l0]
    rw [if_neg (by omega)]
  | d + 1, i, k, h, hk => by
    obtain ⟨k, rfl⟩ : ∃ m, k = m + 1 := ⟨k - 1, by omega⟩
    simp only [watchwordlaw0_SameInts.l0]
    rw [if_pos (by omega), if_pos (by omega), if_pos (by omega), if_pos trivial, nxt (by omega)]
    exact ints_self l hl d (i + 1) k (by omega) (by omega)
theorem ints_f {k : Nat} (hk : 5 ≤ k) (l : List Int) (hl : l.length ≤ 4) : watchwordlaw0_SameInts.f k l l = some true := by
  unfold watchwordlaw0_SameInts.f
  rw [if_pos rfl]
  exact ints_self l hl l.length 0 k (by omega) (by omega)
theorem rt_mem {l : List S41} {i : Nat} (h : i < l.length) : rd_T41 l (i : Int) ∈ l := by
  unfold rd_T41
  rw [Int.toNat_natCast, List.getD_eq_getElem?_getD, List.getElem?_eq_getElem h]
  exact List.getElem_mem h
theorem routes_self (l : List S41) (hl : l.length ≤ 4) (hf : ∀ y ∈ l, y.f2.length ≤ 4) : ∀ d i k, i + d = l.length → d + 5 < k → watchwordlaw0_SameRoutes.l0 k l l (i : Int) = some true
  | 0, i, k, h, hk => by
    obtain ⟨k, rfl⟩ : ∃ m, k = m + 1 := ⟨k - 1, by omega⟩
    simp only [watchwordlaw0_SameRoutes.l0]
    rw [if_neg (by omega)]
  | d + 1, i, k, h, hk => by
    obtain ⟨k, rfl⟩ : ∃ m, k = m + 1 := ⟨k - 1, by omega⟩
    simp only [watchwordlaw0_SameRoutes.l0]
    rw [if_pos (by omega), if_pos (by omega), if_pos (by omega), if_pos trivial, if_pos trivial, ints_f (by omega) _ (hf _ (rt_mem (by omega))), nxt (by omega)]
    simp only [Option.bind_some, if_true]
    exact routes_self l hl hf d (i + 1) k (by omega) (by omega)
theorem same_self {k : Nat} (hk : 12 ≤ k) (l : List S41) (hl : l.length ≤ 4) (hf : ∀ y ∈ l, y.f2.length ≤ 4) : watchwordlaw0_SameRoutes.f k l l = some true := by
  unfold watchwordlaw0_SameRoutes.f
  rw [if_pos rfl]
  exact routes_self l hl hf l.length 0 k (by omega) (by omega)
theorem sfx_len : ∀ d, (sfx d).length = d
  | 0 => rfl
  | d + 1 => by show (sfx d).length + 1 = d + 1; rw [sfx_len d]
theorem firsts_len (c : Mat) (f t : Nat) : (firsts c f t 4).length ≤ 4 := by
  unfold firsts
  rw [List.length_map]
  exact Nat.le_trans (List.length_filter_le _ _) (Nat.le_of_eq (sfx_len 4))
theorem ans_short (c : Mat) (a : Int) : (ans c a).1.length ≤ 4 ∧ (∀ y ∈ (ans c a).1, y.f2.length ≤ 4) ∧ watchwordlaw0_Num.f (ans c a).2 = some (ans c a).2 := by
  unfold ans
  split
  · refine ⟨routes_len _ _ 4, fun y hy => ?_, num_ok⟩
    unfold routes at hy
    obtain ⟨t, _, ht⟩ := List.mem_filterMap.1 hy
    unfold route at ht
    split at ht
    · cases ht
    · cases ht; exact firsts_len c _ t
  · exact ⟨Nat.zero_le _, (fun y hy => by cases hy), num_bad⟩
theorem Routes_at {k : Nat} (hk : 200 ≤ k) (c : Mat) (a : Int) : paths_Routes.f k (c 0 0) (c 0 1) (c 0 2) (c 0 3) (c 1 0) (c 1 1) (c 1 2) (c 1 3) (c 2 0) (c 2 1) (c 2 2) (c 2 3) (c 3 0) (c 3 1) (c 3 2) (c 3 3) a = some (ans c a) := by
  obtain ⟨m, rfl⟩ : ∃ m, k = m + 200 := ⟨k - 200, by omega⟩
  exact Routes_f m c a
theorem core {k : Nat} (hk : 400 ≤ k) (a0 : Mat) (a1 : Int) : watchwordlaw21_Paths.f k (a0 0 0) (a0 0 1) (a0 0 2) (a0 0 3) (a0 1 0) (a0 1 1) (a0 1 2) (a0 1 3) (a0 2 0) (a0 2 1) (a0 2 2) (a0 2 3) (a0 3 0) (a0 3 1) (a0 3 2) (a0 3 3) a1 = some true := by
  obtain ⟨h1, h2, h3⟩ := ans_short a0 a1
  unfold watchwordlaw21_Paths.f
  rw [Routes_at (by omega) a0, refRoutes_at (by omega) a0]
  simp only [Option.bind_some]
  rw [same_self (by omega) _ h1 h2]
  simp only [Option.bind_some, if_true]
  rw [h3]
  simp only [Option.bind_some]
  rw [show ((ans a0 a1).2 != (ans a0 a1).2) = false by simp]
  obtain ⟨k, rfl⟩ : ∃ m, k = m + 1 := ⟨k - 1, by omega⟩
  simp only [watchwordlaw21_Paths.j0]
  rw [if_neg (by decide), if_pos ⟨by omega, fun y hy => by have := h2 y hy; omega⟩, awake_ok (by omega)]
  rfl
theorem Paths : ∀ (a0 : Nat → Nat → Int) (a1 : Int), (∀ i j, i < 4 → j < 4 → (Lit.int .i64 (a0 i j)).wf = true) → (Lit.int .i64 a1).wf = true → ∃ k, watchwordlaw21_Paths.f k (a0 0 0) (a0 0 1) (a0 0 2) (a0 0 3) (a0 1 0) (a0 1 1) (a0 1 2) (a0 1 3) (a0 2 0) (a0 2 1) (a0 2 2) (a0 2 3) (a0 3 0) (a0 3 1) (a0 3 2) (a0 3 3) a1 = some true := by
  intro a0 a1 _ _
  obtain ⟨k, hk⟩ : ∃ k : Nat, 400 ≤ k := ⟨400, Nat.le_refl _⟩
  exact ⟨k, core hk a0 a1⟩
end Go.Proofs.Ytjbejbehbjhecaa.Pure
