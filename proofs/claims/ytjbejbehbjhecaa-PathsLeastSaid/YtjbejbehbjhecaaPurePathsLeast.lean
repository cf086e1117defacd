/- PathsLeast: no way of at most three steps costs less than is told, each first router is one of such a way; no condition beyond the row's own. -/
import Derived.Test.YtjbejbehbjhecaaZ21nx3
import Derived.Test.YtjbejbehbjhecaaZ21nx4
namespace Go.Proofs.Ytjbejbehbjhecaa.Pure
open Go.RowKit Go.Proofs.YtjbejbehbjhecaaW.PrintWords Go.Proofs.YtjbejbehbjhecaaW.PrintMore Go.Proofs.Ytjbejbehbjhecaa.Base Go.Proofs.Ytjbejbehbjhecaa.Q21n Go.Proofs.Ytjbejbehbjhecaa.L21
set_option linter.unusedVariables false
set_option linter.unusedSimpArgs false
set_option maxRecDepth 100000
def P0 (k : Nat) (rs : List S41) (f at_ d : Nat) (B : Nat → Int) (F : Nat → Nat → Bool) := watchwordlaw21_PathsLeast.l0 k rs (f : Int) (at_ : Int) (d : Int) (B 0) (B 1) (B 2) (B 3) (F 0 0) (F 0 1) (F 0 2) (F 0 3) (F 1 0) (F 1 1) (F 1 2) (F 1 3) (F 2 0) (F 2 1) (F 2 2) (F 2 3) (F 3 0) (F 3 1) (F 3 2) (F 3 3)
def P1 (k : Nat) (rs : List S41) (f at_ d j a : Nat) (B : Nat → Int) (F : Nat → Nat → Bool) := watchwordlaw21_PathsLeast.l1 k rs (f : Int) (at_ : Int) (d : Int) (j : Int) (a : Int) (B 0) (B 1) (B 2) (B 3) (F 0 0) (F 0 1) (F 0 2) (F 0 3) (F 1 0) (F 1 1) (F 1 2) (F 1 3) (F 2 0) (F 2 1) (F 2 2) (F 2 3) (F 3 0) (F 3 1) (F 3 2) (F 3 3)
theorem rd_at {l : List S41} {i : Nat} {x : S41} {r : List S41} (h : l.drop i = x :: r) : rd_T41 l (i : Int) = x ∧ i < l.length := by
  have hi : i < l.length := by
    by_cases hi : i < l.length
    · exact hi
    · rw [List.drop_of_length_le (by omega)] at h; cases h
  refine ⟨?_, hi⟩
  unfold rd_T41
  rw [Int.toNat_natCast, List.getD_eq_getElem?_getD, List.getElem?_eq_getElem hi]
  rw [List.drop_eq_getElem_cons hi] at h
  exact (List.cons.inj h).1
theorem rd_int {l : List Int} {i : Nat} {x : Int} {r : List Int} (h : l.drop i = x :: r) : rd l (i : Int) = x ∧ i < l.length := by
  have hi : i < l.length := by
    by_cases hi : i < l.length
    · exact hi
    · rw [List.drop_of_length_le (by omega)] at h; cases h
  refine ⟨?_, hi⟩
  unfold rd
  rw [Int.toNat_natCast, List.getD_eq_getElem?_getD, List.getElem?_eq_getElem hi]
  rw [List.drop_eq_getElem_cons hi] at h
  exact (List.cons.inj h).1
theorem sel_b (F : Nat → Nat → Bool) {a b : Nat} (ha : a < 4) (hb : b < 4) :
    ix4 (ix4 (F 0 0) (F 0 1) (F 0 2) (F 0 3) (b : Int)) (ix4 (F 1 0) (F 1 1) (F 1 2) (F 1 3) (b : Int)) (ix4 (F 2 0) (F 2 1) (F 2 2) (F 2 3) (b : Int)) (ix4 (F 3 0) (F 3 1) (F 3 2) (F 3 3) (b : Int)) (a : Int) = F a b := by
  obtain rfl | rfl | rfl | rfl : a = 0 ∨ a = 1 ∨ a = 2 ∨ a = 3 := by omega
  all_goals (obtain rfl | rfl | rfl | rfl : b = 0 ∨ b = 1 ∨ b = 2 ∨ b = 3 := by omega)
  all_goals rfl
theorem nxt {b : Nat} (h : b ≤ 10) : wrap64 ((b : Int) + 1) = ((b + 1 : Nat) : Int) := by unfold wrap64; omega
theorem drop_next {α : Type} {l : List α} {i : Nat} {x : α} {r : List α} (h : l.drop i = x :: r) : l.drop (i + 1) = r := by
  rw [← List.drop_drop, h]; rfl
theorem P1_all {rs : List S41} {f at_ d : Nat} (hd : d < 4) (hrs : at_ < rs.length) (hl : rs.length ≤ 4) {c : Mat} {B : Nat → Int} {F : Nat → Nat → Bool} (hF : ∀ a, a < 4 → F d a = near c f d a) {x : S41} (hx : rd_T41 rs (at_ : Int) = x)
    (hx2 : x.f2 = firsts c f d 4) (hne : 1 ≤ x.f2.length) {K : Nat} (H : ∀ k, K ≤ k → P0 k rs f (at_ + 1) (d + 1) B F = some true) :
    ∀ q a j k, a + q = 4 → j ≤ a → x.f2.drop j = firsts c f d q → j ≤ x.f2.length → K + 1 + q ≤ k → P1 k rs f at_ d j a B F = some true
  | 0, a, j, k, h, hja, hj, hjl, hk => by
    obtain rfl : a = 4 := by omega
    obtain ⟨k, rfl⟩ : ∃ m, k = m + 1 := ⟨k - 1, by omega⟩
    have hjl2 : j = x.f2.length := by
      have := congrArg List.length hj
      rw [List.length_drop] at this
      have h0 : (firsts c f d 0).length = 0 := rfl
      omega
    unfold P1
    simp only [watchwordlaw21_PathsLeast.l1]
    rw [if_neg (show ¬ (((4 : Nat) : Int) < 4) by decide), if_pos (show 0 ≤ (at_ : Int) by omega), if_pos (show (at_ : Int) < (rs.length : Int) by omega), hx, if_pos (show (j : Int) = (x.f2.length : Int) by omega), if_neg (by omega), nxt (by omega), nxt (by omega)]
    exact H k (by omega)
  | q + 1, a, j, k, h, hja, hj, hjl, hk => by
    obtain ⟨k, rfl⟩ : ∃ m, k = m + 1 := ⟨k - 1, by omega⟩
    have ha : a < 4 := by omega
    have hs : sfx (q + 1) = a :: sfx q := by rw [show a = 3 - q by omega]; rfl
    unfold P1
    simp only [watchwordlaw21_PathsLeast.l1]
    rw [if_pos (show (a : Int) < 4 by omega), if_pos (show 0 ≤ (d : Int) by omega), if_pos (show (d : Int) < 4 by omega), if_pos (show 0 ≤ (a : Int) by omega), sel_b F hd ha, hF a ha, hx, if_pos (show 0 ≤ (at_ : Int) by omega), if_pos (show (at_ : Int) < (rs.length : Int) by omega), nxt (by omega)]
    by_cases hn : near c f d a = true
    · have hj2 : x.f2.drop j = ((a : Int) + 1) :: firsts c f d q := by
        rw [hj]; unfold firsts; rw [hs, List.filter_cons, if_pos hn]; rfl
      obtain ⟨e1, e2⟩ := rd_int hj2
      rw [if_pos hn, if_neg (by omega), if_pos (by omega), if_pos (by omega), e1, if_pos (by omega), nxt (by omega)]
      exact P1_all hd hrs hl hF hx hx2 hne H q (a + 1) (j + 1) k (by omega) (by omega) (drop_next hj2) (by omega) (by omega)
    · have hj2 : x.f2.drop j = firsts c f d q := by
        rw [hj]; unfold firsts; rw [hs, List.filter_cons, if_neg hn]
      rw [if_neg hn]
      exact P1_all hd hrs hl hF hx hx2 hne H q (a + 1) j k (by omega) (by omega) hj2 hjl (by omega)
theorem P0_all {c : Mat} (C : CostOk c) {f : Nat} (hf : f < 4) {B : Nat → Int} {F : Nat → Nat → Bool} (Wn : WI c f 64 B F) :
    ∀ q d at_ k, d + q = 4 → at_ ≤ d → (routes c f 4).drop at_ = routes c f q → at_ ≤ (routes c f 4).length → 1 + 10 * q ≤ k → P0 k (routes c f 4) f at_ d B F = some true
  | 0, d, at_, k, h, hja, hj, hjl, hk => by
    obtain rfl : d = 4 := by omega
    obtain ⟨k, rfl⟩ : ∃ m, k = m + 1 := ⟨k - 1, by omega⟩
    have hjl2 : at_ = (routes c f 4).length := by
      have := congrArg List.length hj
      rw [List.length_drop] at this
      have h0 : (routes c f 0).length = 0 := rfl
      omega
    unfold P0
    simp only [watchwordlaw21_PathsLeast.l0]
    rw [if_neg (show ¬ (((4 : Nat) : Int) < 4) by decide), ← hjl2]
    simp
  | q + 1, d, at_, k, h, hja, hj, hjl, hk => by
    obtain ⟨k, rfl⟩ : ∃ m, k = m + 3 := ⟨k - 3, by omega⟩
    have hd : d < 4 := by omega
    have hl := routes_len c f 4
    have hs : sfx (q + 1) = d :: sfx q := by rw [show d = 3 - q by omega]; rfl
    have hr : routes c f (q + 1) = match route c f d with | none => routes c f q | some x => x :: routes c f q := by
      unfold routes
      rw [hs, List.filterMap_cons]
      cases route c f d <;> rfl
    have skip (hn : route c f d = none) : watchwordlaw21_PathsLeast.j2 (k + 2) (routes c f 4) (f : Int) (at_ : Int) (d : Int) true (B 0) (B 1) (B 2) (B 3) (F 0 0) (F 0 1) (F 0 2) (F 0 3) (F 1 0) (F 1 1) (F 1 2) (F 1 3) (F 2 0) (F 2 1) (F 2 2) (F 2 3) (F 3 0) (F 3 1) (F 3 2) (F 3 3) = some true := by
      simp only [watchwordlaw21_PathsLeast.j2]
      rw [if_pos trivial, nxt (by omega)]
      rw [hr, hn] at hj
      exact P0_all C hf Wn q (d + 1) at_ (k + 1) (by omega) (by omega) hj hjl (by omega)
    unfold P0
    simp only [watchwordlaw21_PathsLeast.l0]
    rw [if_pos (show (d : Int) < 4 by omega)]
    by_cases e : d = f
    · rw [if_pos (show (d : Int) = (f : Int) by omega)]
      exact skip (by unfold route; rw [if_pos (.inl e)])
    · obtain ⟨w1, w2, w3⟩ := ways_done C hf Wn hd e
      rw [if_neg (show ¬ (d : Int) = (f : Int) by omega), if_pos (show 0 ≤ (d : Int) by omega), row_at B hd]
      by_cases hb : B d < 0
      · rw [decide_eq_true hb]
        exact skip (by unfold route; rw [if_pos (.inr (by by_cases z : 262144 ≤ ws c f d; exact z; exact absurd (w1.2 (by omega)) (by omega)))])
      · have hb0 : 0 ≤ B d := by omega
        have hw := w1.1 hb0
        rw [decide_eq_false hb]
        have hx : route c f d = some ⟨(d : Int) + 1, ws c f d, firsts c f d 4⟩ := by unfold route; rw [if_neg (by omega)]
        rw [hr, hx] at hj
        obtain ⟨g1, g2⟩ := rd_at hj
        have hne : 1 ≤ (firsts c f d 4).length := by
          obtain ⟨a, b, ha, hb', hl', hv, es⟩ := Wn.ex d hd hb0
          have hm := (Wn.mark d hd hb0 a ha).2 ⟨b, hb', hl', hv, es⟩
          rw [w3 hb0 a ha] at hm
          unfold firsts
          rw [List.length_map]
          have : a ∈ (sfx 4).filter (near c f d) := List.mem_filter.2 ⟨by
            rw [show sfx 4 = [0, 1, 2, 3] from rfl]
            obtain rfl | rfl | rfl | rfl : a = 0 ∨ a = 1 ∨ a = 2 ∨ a = 3 := by omega
            all_goals simp, hm⟩
          exact List.length_pos_of_mem this
        have H := P0_all C hf Wn q (d + 1) (at_ + 1)
        simp only [watchwordlaw21_PathsLeast.j2, watchwordlaw21_PathsLeast.j3]
        rw [if_neg (by decide), if_neg (by omega), if_pos (by omega), if_pos (by omega), g1, nxt (by omega), if_pos (by show (d : Int) + 1 = ((d + 1 : Nat) : Int); omega), if_pos (by omega), if_pos (by omega), row_at B hd, w2 hb0, show (ws c f d != ws c f d) = false by simp, if_neg (by decide)]
        exact P1_all hd g2 hl (w3 hb0) g1 rfl hne (fun k' hk' => H k' (by omega) (by omega) (drop_next hj) (by omega) hk') 4 0 0 k rfl (Nat.le_refl _) rfl (by omega) (by omega)
theorem Routes_at {k : Nat} (hk : 200 ≤ k) (c : Mat) (a : Int) : paths_Routes.f k (c 0 0) (c 0 1) (c 0 2) (c 0 3) (c 1 0) (c 1 1) (c 1 2) (c 1 3) (c 2 0) (c 2 1) (c 2 2) (c 2 3) (c 3 0) (c 3 1) (c 3 2) (c 3 3) a = some (ans c a) := by
  obtain ⟨q, rfl⟩ : ∃ q, k = q + 200 := ⟨k - 200, by omega⟩
  exact Routes_f q c a
theorem ways_at {k : Nat} (hk : 400 ≤ k) {f : Nat} (hf : f < 4) {c : Mat} (C : CostOk c) : ∃ B F, WI c f 64 B F ∧ watchwordlaw21_ways.f k (c 0 0) (c 0 1) (c 0 2) (c 0 3) (c 1 0) (c 1 1) (c 1 2) (c 1 3) (c 2 0) (c 2 1) (c 2 2) (c 2 3) (c 3 0) (c 3 1) (c 3 2) (c 3 3) (f : Int) = some (tup20 B F) := by
  obtain ⟨q, rfl⟩ : ∃ q, k = q + 400 := ⟨k - 400, by omega⟩
  exact ways_f q hf C
theorem core {k : Nat} (hk : 401 ≤ k + 1) (a0 : Mat) (a1 : Int) : watchwordlaw21_PathsLeast.f (k + 1) (a0 0 0) (a0 0 1) (a0 0 2) (a0 0 3) (a0 1 0) (a0 1 1) (a0 1 2) (a0 1 3) (a0 2 0) (a0 2 1) (a0 2 2) (a0 2 3) (a0 3 0) (a0 3 1) (a0 3 2) (a0 3 3) a1 = some true := by
  unfold watchwordlaw21_PathsLeast.f
  rw [awake_ok (by omega), Routes_at (by omega)]
  simp only [Option.bind_some, if_true]
  unfold ans
  by_cases h : okM a0 = true ∧ 1 ≤ a1 ∧ a1 ≤ 4
  · rw [if_pos h]
    obtain ⟨ho, h1, h4⟩ := h
    have C := (okM_iff a0).1 ho
    obtain ⟨f, hf, rfl⟩ : ∃ f : Nat, f < 4 ∧ a1 = (f : Int) + 1 := ⟨(a1 - 1).toNat, by omega, by omega⟩
    simp only [num_ok, Option.bind_some, if_true]
    rw [if_neg (by omega), show decide ((f : Int) + 1 > 4) = false from decide_eq_false (by omega), show ((f : Int) + 1 - 1).toNat = f by omega]
    simp only [watchwordlaw21_PathsLeast.j0]
    obtain ⟨B, F, Wn, e⟩ := ways_at (show 400 ≤ k by omega) hf C
    rw [if_neg (by decide), show wrap64 ((f : Int) + 1 - 1) = (f : Int) by unfold wrap64; omega, e]
    simp only [Option.bind_some, tup20]
    exact P0_all C hf Wn 4 0 0 _ rfl (Nat.le_refl _) rfl (Nat.zero_le _) (by omega)
  · rw [if_neg h]
    simp [num_bad]
theorem PathsLeast : ∀ (a0 : Nat → Nat → Int) (a1 : Int), (∀ i j, i < 4 → j < 4 → (Lit.int .i64 (a0 i j)).wf = true) → (Lit.int .i64 a1).wf = true → ∃ k, watchwordlaw21_PathsLeast.f k (a0 0 0) (a0 0 1) (a0 0 2) (a0 0 3) (a0 1 0) (a0 1 1) (a0 1 2) (a0 1 3) (a0 2 0) (a0 2 1) (a0 2 2) (a0 2 3) (a0 3 0) (a0 3 1) (a0 3 2) (a0 3 3) a1 = some true := by
  intro a0 a1 _ _
  obtain ⟨k, hk⟩ : ∃ k : Nat, 401 ≤ k + 1 := ⟨400, by omega⟩
  exact ⟨k + 1, core hk a0 a1⟩
end Go.Proofs.Ytjbejbehbjhecaa.Pure
