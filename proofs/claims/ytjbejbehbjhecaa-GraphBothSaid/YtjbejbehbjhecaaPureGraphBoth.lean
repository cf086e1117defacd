/- GraphBoth: a way that one end alone tells is none, of both ends it is there both ways, at its own cost; no condition beyond the row's own. -/
import Derived.Test.YtjbejbehbjhecaaQ20x109
import Derived.Test.YtjbejbehbjhecaaA20
import Derived.Test.YtjbejbehbjhecaaO20
namespace Go.Proofs.Ytjbejbehbjhecaa.Pure
open Go.RowKit Go.Proofs.YtjbejbehbjhecaaW.PrintWords Go.Proofs.YtjbejbehbjhecaaW.PrintMore Go.Proofs.Ytjbejbehbjhecaa.Base Go.Proofs.Ytjbejbehbjhecaa.Q20 Go.Proofs.Ytjbejbehbjhecaa.L20 Go.Proofs.Ytjbejbehbjhecaa.O20
set_option linter.unusedVariables false
set_option maxRecDepth 100000
def H0 (k : Nat) (l : List S57) (a : Nat) (m : Mat) := watchwordlaw20_GraphBoth.l0 k l (a : Int) (m 0 0) (m 0 1) (m 0 2) (m 0 3) (m 1 0) (m 1 1) (m 1 2) (m 1 3) (m 2 0) (m 2 1) (m 2 2) (m 2 3) (m 3 0) (m 3 1) (m 3 2) (m 3 3)
def H1 (k : Nat) (l : List S57) (a b : Nat) (m : Mat) := watchwordlaw20_GraphBoth.l1 k l (a : Int) (b : Int) (m 0 0) (m 0 1) (m 0 2) (m 0 3) (m 1 0) (m 1 1) (m 1 2) (m 1 3) (m 2 0) (m 2 1) (m 2 2) (m 2 3) (m 3 0) (m 3 1) (m 3 2) (m 3 3)
def H2 (k : Nat) (l : List S57) (i : Nat) (m : Mat) := watchwordlaw20_GraphBoth.l2 k l (i : Int) (m 0 0) (m 0 1) (m 0 2) (m 0 3) (m 1 0) (m 1 1) (m 1 2) (m 1 3) (m 2 0) (m 2 1) (m 2 2) (m 2 3) (m 3 0) (m 3 1) (m 3 2) (m 3 3)
def H3 (k : Nat) (l : List S57) (i j : Nat) (m : Mat) := watchwordlaw20_GraphBoth.l3 k l (i : Int) (j : Int) (m 0 0) (m 0 1) (m 0 2) (m 0 3) (m 1 0) (m 1 1) (m 1 2) (m 1 3) (m 2 0) (m 2 1) (m 2 2) (m 2 3) (m 3 0) (m 3 1) (m 3 2) (m 3 3)
theorem H1_all {l : List S57} {m : Mat} (hs : ∀ i j, (0 < m i j) ↔ (0 < m j i)) {a : Nat} (ha : a < 4) (k : Nat) : ∀ d b, b + d = 4 → H1 (k + 1 + d) l a b m = H0 k l (a + 1) m
  | 0, b, h => by
    obtain rfl : b = 4 := by omega
    unfold H1 H0
    simp only [watchwordlaw20_GraphBoth.l1]
    rw [if_neg (show ¬ (((4 : Nat) : Int) < 4) by decide), next4 ha]
  | d + 1, b, h => by
    refine Eq.trans ?_ (H1_all hs ha k d (b + 1) (by omega))
    have hb : b < 4 := by omega
    unfold H1
    rw [show k + 1 + (d + 1) = (k + 1 + d) + 1 from rfl]
    simp only [watchwordlaw20_GraphBoth.l1]
    rw [if_pos (show (b : Int) < 4 by omega), if_pos (show 0 ≤ (a : Int) by omega), if_pos (show (a : Int) < 4 by omega), if_pos (show 0 ≤ (b : Int) by omega), next4 hb, sel_at m ha hb, sel_at m hb ha,
      show decide (m a b > 0) = decide (m b a > 0) from decide_eq_decide.2 (hs a b), if_neg (by simp)]
theorem H0_all {l : List S57} {m : Mat} (hs : ∀ i j, (0 < m i j) ↔ (0 < m j i)) (k : Nat) : ∀ d a, a + d = 4 → H0 (k + 1 + 6 * d) l a m = H2 k l 0 m
  | 0, a, h => by
    obtain rfl : a = 4 := by omega
    unfold H0 H2
    rw [show k + 1 + 6 * 0 = k + 1 from rfl]
    simp only [watchwordlaw20_GraphBoth.l0]
    rw [if_neg (show ¬ (((4 : Nat) : Int) < 4) by decide)]
    rfl
  | d + 1, a, h => by
    have ha : a < 4 := by omega
    refine Eq.trans ?_ (H0_all hs k d (a + 1) (by omega))
    rw [← H1_all hs ha (k + 1 + 6 * d) 4 0 rfl, show k + 1 + 6 * (d + 1) = (k + 1 + 6 * d + 1 + 4) + 1 by omega]
    unfold H0 H1
    simp only [watchwordlaw20_GraphBoth.l0]
    rw [if_pos (show (a : Int) < 4 by omega)]
    rfl
theorem H3_all {l : List S57} (hok : ∀ x ∈ l, UsOk x) (hn : l.length ≤ 4) {m : Mat} {i : Nat} (hi : i < l.length)
    (hm : ∀ x ∈ (rd_T57 l (i : Int)).f3, ∀ a b : Nat, (a : Int) + 1 = (rd_T57 l (i : Int)).f0 → (b : Int) + 1 = x.f0 → m a b = 0 ∨ m a b = x.f1) (k : Nat) :
    ∀ d j, j + d = (rd_T57 l (i : Int)).f3.length → H3 (k + 1 + 2 * d) l i j m = H2 k l (i + 1) m
  | 0, j, h => by
    unfold H3 H2
    rw [show k + 1 + 2 * 0 = k + 1 from rfl]
    simp only [watchwordlaw20_GraphBoth.l3]
    rw [if_pos (by omega), if_pos (by omega), if_neg (by omega), show wrap64 ((i : Int) + 1) = ((i + 1 : Nat) : Int) by rw [wrap_id (by omega) (by omega)]; omega]
  | d + 1, j, h => by
    refine Eq.trans ?_ (H3_all hok hn hi hm k d (j + 1) (by omega))
    have hx := hok _ (rdU_mem hi)
    have hl := usOk_len hx
    have hj : j < (rd_T57 l (i : Int)).f3.length := by omega
    have hmem : rd_T59 (rd_T57 l (i : Int)).f3 (j : Int) ∈ (rd_T57 l (i : Int)).f3 := by rw [rdL_at hj]; exact List.getElem_mem hj
    have hy := links_range _ _ (usOk_links hx) _ hmem
    have hv := hm _ hmem
    unfold H3
    rw [show k + 1 + 2 * (d + 1) = (k + 1 + 2 * d) + 1 + 1 by omega]
    simp only [watchwordlaw20_GraphBoth.l3, watchwordlaw20_GraphBoth.j4]
    have r1 := hx.1
    have r2 := hx.2.1
    have y1 := hy.1
    have y2 := hy.2.1
    generalize rd_T59 (rd_T57 l (i : Int)).f3 (j : Int) = y at *
    obtain ⟨a, ha, ea⟩ : ∃ a : Nat, a < 4 ∧ (rd_T57 l (i : Int)).f0 = (a : Int) + 1 := ⟨((rd_T57 l (i : Int)).f0 - 1).toNat, by omega, by omega⟩
    obtain ⟨b, hb, eb⟩ : ∃ b : Nat, b < 4 ∧ y.f0 = (b : Int) + 1 := ⟨(y.f0 - 1).toNat, by omega, by omega⟩
    have hv := hv a b ea.symm eb.symm
    rw [ea, eb, if_pos (by omega), if_pos (by omega), if_pos (by omega), if_pos (by omega), if_neg (by omega), if_neg (by omega), if_neg (by omega), decide_eq_false (show ¬ (a : Int) + 1 > 4 by omega), if_neg (by simp), if_pos (by omega), if_pos (by omega),
      show wrap64 ((a : Int) + 1 - 1) = (a : Int) by unfold wrap64; omega, show wrap64 ((b : Int) + 1 - 1) = (b : Int) by unfold wrap64; omega, if_pos (by omega), if_pos (by omega), if_pos (by omega), if_pos (by omega), sel_at m ha hb,
      show wrap64 ((j : Int) + 1) = ((j + 1 : Nat) : Int) by rw [wrap_id (by omega) (by omega)]; omega]
    rcases hv with e | e
    · rw [if_pos e]
    · by_cases h0 : m a b = 0
      · rw [if_pos h0]
      · rw [if_neg h0, if_pos e]
theorem H2_all {l : List S57} (hok : ∀ x ∈ l, UsOk x) (hn : l.length ≤ 4) {m : Mat} (C : CostOk m)
    (hm : ∀ y ∈ l, ∀ x ∈ y.f3, ∀ a b : Nat, (a : Int) + 1 = y.f0 → (b : Int) + 1 = x.f0 → m a b = 0 ∨ m a b = x.f1) : ∀ d i k, i + d = l.length → 30 + 10 * d ≤ k → H2 k l i m = some true
  | 0, i, k, h, hk => by
    obtain ⟨k, rfl⟩ : ∃ q, k = q + 25 + 1 := ⟨k - 26, by omega⟩
    unfold H2
    simp only [watchwordlaw20_GraphBoth.l2]
    rw [if_neg (by omega), May_f k]
    show some (okM m) = some true
    rw [(okM_iff m).2 C]
  | d + 1, i, k, h, hk => by
    have hi : i < l.length := by omega
    have hmem := rdU_mem hi
    have hl := usOk_len (hok _ hmem)
    obtain ⟨q, hq⟩ : ∃ q, k = q + 1 + 2 * (rd_T57 l (i : Int)).f3.length + 1 := ⟨k - 2 - 2 * (rd_T57 l (i : Int)).f3.length, by omega⟩
    subst hq
    have h3 := H3_all hok hn hi (hm _ hmem) q (rd_T57 l (i : Int)).f3.length 0 (by omega)
    refine Eq.trans ?_ (h3.trans (H2_all hok hn C hm d (i + 1) q (by omega) (by omega)))
    unfold H2 H3
    simp only [watchwordlaw20_GraphBoth.l2]
    rw [if_pos (by omega)]
    rfl
theorem core {l : List S57} {M k : Nat} (hM : ∀ x ∈ l, x.f3.length < M) (hn : l.length ≤ 9223372036854775807) (hM2 : M ≤ 9223372036854775807) (h1 : l.length + M < k) (h2 : 1000 ≤ k) : watchwordlaw20_GraphBoth.f k l = some true := by
  unfold watchwordlaw20_GraphBoth.f
  rw [awake_ok (by omega), Of_f hn hM hM2 h1 (by omega)]
  simp only [Option.bind_some, if_true]
  unfold ofAns
  by_cases h : stOk l = true
  · rw [if_pos h]
    have hu : upd 0 l = true := by unfold stOk at h; revert h; cases upd 0 l <;> simp
    have hok := upd_ok l 0 hu
    have C := outOf_ok (toldA_ok l hok _ zero_ok)
    have hs : ∀ i j, (0 < outOf (toldA l fun _ _ => 0) i j) ↔ (0 < outOf (toldA l fun _ _ => 0) j i) := by
      intro i j
      unfold outOf
      generalize toldA l (fun _ _ => 0) i j = x
      generalize toldA l (fun _ _ => 0) j i = y
      split <;> split <;> omega
    have hm : ∀ y ∈ l, ∀ x ∈ y.f3, ∀ a b : Nat, (a : Int) + 1 = y.f0 → (b : Int) + 1 = x.f0 → outOf (toldA l fun _ _ => 0) a b = 0 ∨ outOf (toldA l fun _ _ => 0) a b = x.f1 := by
      intro y hy x hx a b ea eb
      unfold outOf
      split
      · exact .inr (told_link hu hy hx _ ea eb)
      · exact .inl rfl
    generalize outOf (toldA l fun _ _ => 0) = m at C hs hm
    simp only [tup17, num_ok, Option.bind_some, if_true]
    obtain ⟨q, rfl⟩ : ∃ q, k = q + 1 + 6 * 4 := ⟨k - 25, by omega⟩
    refine (H0_all hs q 4 0 rfl).trans (H2_all hok (upd_len hu) C hm l.length 0 q (by omega) ?_)
    have := upd_len hu
    omega
  · rw [if_neg h]
    simp [tup17, num_bad]
theorem GraphBoth : ∀ (l0 : List (S57)), (l0.length * 48 ≤ 140737488351232 ∧ l0.length ≤ maxLen ∧ ∀ y ∈ l0, R57 y) → ∃ k, watchwordlaw20_GraphBoth.f k l0 = some true := by
  intro l hl
  obtain ⟨M, hM, hM2⟩ : ∃ M : Nat, (∀ x ∈ l, x.f3.length < M) ∧ M ≤ 9223372036854775807 := ⟨8796093022209, fun x hx => by have := (hl.2.2 x hx).2.2.2.1; omega, by omega⟩
  exact ⟨l.length + M + 1000, core hM (by omega) hM2 (by omega) (by omega)⟩
end Go.Proofs.Ytjbejbehbjhecaa.Pure
