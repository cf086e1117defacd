/- LastRow: in any row a number is newer just where it is above all that were taken; the row stays one; no condition beyond the row's own. -/
import Derived.Test.YtabjambabnbmnaaQ14x106
import Derived.Test.YtabjambabnbmnaaA14
namespace Go.Proofs.Ytabjambabnbmnaa.Pure
open Go.RowKit Go.Proofs.YtabjambabnbmnaaW.PrintWords Go.Proofs.YtabjambabnbmnaaW.PrintLast Go.Proofs.YtabjambabnbmnaaW.PrintMore Go.Proofs.Ytabjambabnbmnaa.Base Go.Proofs.Ytabjambabnbmnaa.Q14 Go.Proofs.Ytabjambabnbmnaa.L14
set_option linter.unusedVariables false

theorem lr_next {i : Nat} (h : i ≤ 9223372036854775800) : wrap64 ((i : Int) + 1) = ((i + 1 : Nat) : Int) := by rw [wrap_id (by omega) (by omega)]; omega
theorem and3 (n : Int) : Go.bits .and .i64 n 3 = n % 4 := and_mask 2 (by decide) n
theorem and7 (n : Int) : Go.bits .and .i64 n 7 = n % 8 := and_mask 3 (by decide) n
theorem rd_set {st : List Int} {r q v : Int} (hr : 0 ≤ r ∧ r < (st.length : Int)) (hq : 0 ≤ q) : rd (st.set r.toNat v) q = if q = r then v else rd st q := by
  unfold rd
  rw [List.getD_eq_getElem?_getD, List.getD_eq_getElem?_getD, List.getElem?_set]
  by_cases h : q = r
  · subst h
    rw [if_pos rfl, if_pos rfl, if_pos (by omega)]; rfl
  · rw [if_neg h, if_neg (by omega)]
/-- The type of a place in the table. -/
def ty (t : Int) : Int := if t = 0 then 1 else if t = 1 then 4 else 5
/-- What the table says of a row. -/
def Tbl (ls : List S24) (st : List Int) : Prop := ∀ a t : Int, 0 ≤ a → a ≤ 3 → 0 ≤ t → t ≤ 2 → match L14.look lkey (8 * (a + 1) + ty t) ls with
  | none => rd st (4 * a + t) = 0
  | some y => (1 ≤ y.f2 ∧ y.f2 ≤ 4) ∧ (1 ≤ y.f3 ∧ y.f3 ≤ 8) ∧ rd st (4 * a + t) = 16 * y.f2 + y.f3
/-- One round, behind the reading. -/
theorem row_step {l : List Int} {k i : Nat} {ls : List S24} {st : List Int} {a t b c : Int} (hk : 200 < k) (hi : i < 40) (hm : rises lok lkey 0 ls = true) (hst : st.length = 16) (hT : Tbl ls st)
    (ha : 0 ≤ a ∧ a ≤ 3) (ht : 0 ≤ t ∧ t ≤ 2) (hb : 1 ≤ b ∧ b ≤ 4) (hc : 1 ≤ c ∧ c ≤ 8) (hn : ∀ ls' st', rises lok lkey 0 ls' = true → st'.length = 16 → Tbl ls' st' → watchwordlaw14_LastRow.l0 k l ls' st' ((i + 1 : Nat) : Int) = some true) :
    (last_Newer.f (k + 1) ls (1 + a) (ty t) b c).bind (fun bt210 => (watchwordlaw0_Num.f bt210.2).bind fun t212 => (if t212 = 0 then (if 0 ≤ 4 * a + t then (if 4 * a + t < (st.length : Int) then (watchwordlaw14_LastRow.j2 (k + 1) l ls st (i : Int) (4 * a + t) (16 * b + c) bt210.1 (bt210.1 != (decide (16 * b + c > rd st (4 * a + t)))) (1 + a) (ty t) b c) else (none)) else (none)) else (watchwordlaw14_LastRow.j2 (k + 1) l ls st (i : Int) (4 * a + t) (16 * b + c) bt210.1 true (1 + a) (ty t) b c))) = some true := by
  have hs := rises_short hm
  have hty : ty t = 1 ∨ ty t = 4 ∨ ty t = 5 := by
    unfold ty
    split
    · exact .inl rfl
    · split
      · exact .inr (.inl rfl)
      · exact .inr (.inr rfl)
  have hok : lok (⟨1 + a, ty t, b, c⟩ : S24) = true := lok_iff.mpr (lastOk_mk ⟨by omega, hty, by omega, by omega⟩)
  have hkx : lkey (⟨1 + a, ty t, b, c⟩ : S24) = 8 * (a + 1) + ty t := by show 8 * (1 + a) + ty t = 8 * (a + 1) + ty t; omega
  have hN := last_Newer_f (l := ls) (k := k + 1) (by omega) (by omega) (⟨1 + a, ty t, b, c⟩ : S24)
  have hN' : last_Newer.f (k + 1) ls (1 + a) (ty t) b c = some (newerOf ls ⟨1 + a, ty t, b, c⟩, 0) := by
    rw [if_pos ⟨hm, hok⟩] at hN; exact hN
  rw [hN']
  simp only [Option.bind_some, watchwordlaw0_Num.f]
  rw [if_pos trivial, if_pos (by omega), if_pos (by omega)]
  have hTa := hT a t ha.1 ha.2 ht.1 ht.2
  have hnew : newerOf ls ⟨1 + a, ty t, b, c⟩ = decide (16 * b + c > rd st (4 * a + t)) := by
    unfold newerOf
    rw [hkx]
    cases hq : L14.look lkey (8 * (a + 1) + ty t) ls with
    | none =>
      rw [hq] at hTa
      simp only at hTa ⊢
      rw [hTa]
      exact (decide_eq_true (by omega)).symm
    | some y =>
      rw [hq] at hTa
      simp only at hTa ⊢
      obtain ⟨y1, y2, y3⟩ := hTa
      rw [y3]
      unfold newerThan
      exact decide_eq_decide.mpr (by
        show (b > y.f2 ∨ b = y.f2 ∧ c > y.f3) ↔ 16 * b + c > 16 * y.f2 + y.f3
        omega)
  rw [hnew, watchwordlaw14_LastRow.j2, if_neg (by simp)]
  have h4 : wrap64 ((i : Int) + 1) = ((i + 1 : Nat) : Int) := lr_next (by omega)
  by_cases hv : 16 * b + c > rd st (4 * a + t)
  · rw [decide_eq_true hv, if_pos rfl]
    have hW := last_With_f (l := ls) (k := k) (by omega) (by omega) (⟨1 + a, ty t, b, c⟩ : S24)
    have hW' : last_With.f k ls (1 + a) (ty t) b c = some (ins lkey ⟨1 + a, ty t, b, c⟩ ls, 0) := by
      rw [if_pos ⟨hm, hok⟩] at hW; exact hW
    have hir := ins_rises hm hok (lkey_range hok).1
    have his := rises_short hir
    rw [hW']
    simp only [Option.bind_some, watchwordlaw0_Num.f]
    rw [if_pos trivial, last_May_f (by omega) (by omega), hir, Option.bind_some, if_pos rfl, if_pos (by omega), if_pos (by omega), h4]
    refine hn _ _ hir (by rw [List.length_set]; exact hst) ?_
    intro a' t' h1 h2 h3 h5
    rw [rd_set (by omega) (by omega)]
    by_cases he : a' = a ∧ t' = t
    · obtain ⟨rfl, rfl⟩ := he
      have hse := look_ins_self (ok := lok) (key := lkey) (x := (⟨1 + a', ty t', b, c⟩ : S24)) hm
      rw [hkx] at hse
      rw [hse, if_pos rfl]
      exact ⟨hb, hc, rfl⟩
    · have hne : 8 * (a' + 1) + ty t' ≠ lkey (⟨1 + a, ty t, b, c⟩ : S24) := by
        rw [hkx]
        intro hh
        apply he
        have h6 : t' = 0 ∨ t' = 1 ∨ t' = 2 := by omega
        have h7 : t = 0 ∨ t = 1 ∨ t = 2 := by omega
        unfold ty at hh
        rcases h6 with rfl | rfl | rfl <;> rcases h7 with rfl | rfl | rfl <;> simp at hh <;> omega
      rw [look_ins_other hne, if_neg (by omega)]
      exact hT a' t' h1 h2 h3 h5
  · rw [decide_eq_false hv, if_neg (by decide), h4]
    exact hn ls st hm hst hT
theorem row_l {l : List Int} : ∀ (d k i : Nat) (ls : List S24) (st : List Int), i + d = 40 → 3 * d + 300 < k → rises lok lkey 0 ls = true → st.length = 16 → Tbl ls st →
    watchwordlaw14_LastRow.l0 k l ls st (i : Int) = some true := by
  have fin : ∀ (k i : Nat) (ls : List S24) (st : List Int), 50 < k → watchwordlaw14_LastRow.j1 k l ls st (i : Int) false = some true := by
    intro k i ls st hk
    obtain ⟨k, rfl⟩ : ∃ m, k = m + 1 := ⟨k - 1, by omega⟩
    rw [watchwordlaw14_LastRow.j1, if_neg (by decide)]
  intro d
  induction d with
  | zero =>
    intro k i ls st hi hk _ _ _
    obtain ⟨k, rfl⟩ : ∃ m, k = m + 1 := ⟨k - 1, by omega⟩
    rw [watchwordlaw14_LastRow.l0, decide_eq_false (by omega)]
    split
    · exact fin k i ls st (by omega)
    · exact fin k i ls st (by omega)
  | succ d ih =>
    intro k i ls st hi hk hm hst hT
    obtain ⟨k, rfl⟩ : ∃ m, k = m + 3 := ⟨k - 3, by omega⟩
    rw [watchwordlaw14_LastRow.l0]
    by_cases hlt : (i : Int) < (l.length : Int)
    · rw [if_pos hlt, decide_eq_true (by omega), watchwordlaw14_LastRow.j1, if_pos rfl, if_pos (by omega), if_pos hlt]
      simp only [Option.bind_some, and3, and7]
      generalize rd l (i : Int) = r
      have a0 := Int.emod_nonneg r (show (4 : Int) ≠ 0 by decide)
      have a1 := Int.emod_lt_of_pos r (show (0 : Int) < 4 by decide)
      have u0 := Int.emod_nonneg (r / 4) (show (4 : Int) ≠ 0 by decide)
      have u1 := Int.emod_lt_of_pos (r / 4) (show (0 : Int) < 4 by decide)
      have b0 := Int.emod_nonneg (r / 16) (show (4 : Int) ≠ 0 by decide)
      have b1 := Int.emod_lt_of_pos (r / 16) (show (0 : Int) < 4 by decide)
      have c0 := Int.emod_nonneg (r / 64) (show (8 : Int) ≠ 0 by decide)
      have c1 := Int.emod_lt_of_pos (r / 64) (show (0 : Int) < 8 by decide)
      generalize r % 4 = a at a0 a1 ⊢
      generalize r / 4 % 4 = u at u0 u1 ⊢
      generalize r / 16 % 4 = b at b0 b1 ⊢
      generalize r / 64 % 8 = c at c0 c1 ⊢
      obtain ⟨t, ht, h1, h2⟩ : ∃ t : Int, (0 ≤ t ∧ t ≤ 2) ∧ rd [1, 4, 5, 4] u = ty t ∧ rd [0, 1, 2, 1] u = t := by
        have : u = 0 ∨ u = 1 ∨ u = 2 ∨ u = 3 := by omega
        rcases this with rfl | rfl | rfl | rfl
        · exact ⟨0, by decide, rfl, rfl⟩
        · exact ⟨1, by decide, rfl, rfl⟩
        · exact ⟨2, by decide, rfl, rfl⟩
        · exact ⟨1, by decide, rfl, rfl⟩
      have w1 : wrap64 (1 + a) = 1 + a := wrap_id (by omega) (by omega)
      have w2 : wrap64 (1 + b) = 1 + b := wrap_id (by omega) (by omega)
      have w3 : wrap64 (1 + c) = 1 + c := wrap_id (by omega) (by omega)
      have w4 : wrap64 (4 * a) = 4 * a := wrap_id (by omega) (by omega)
      have w5 : wrap64 (4 * a + t) = 4 * a + t := wrap_id (by omega) (by omega)
      have w6 : wrap64 (16 * (1 + b)) = 16 * (1 + b) := wrap_id (by omega) (by omega)
      have w7 : wrap64 (16 * (1 + b) + (1 + c)) = 16 * (1 + b) + (1 + c) := wrap_id (by omega) (by omega)
      rw [if_pos u0, if_pos (show u < (([1, 4, 5, 4] : List Int).length : Int) by show u < 4; exact u1), if_pos (show u < (([0, 1, 2, 1] : List Int).length : Int) by show u < 4; exact u1), h1, h2, w1, w2, w3, w4, w5, w6, w7]
      clear w1 w2 w3 w4 w5 w6 w7
      exact row_step (by omega) (by omega) hm hst hT ⟨a0, by omega⟩ ht (by omega) (by omega) (fun ls' st' q1 q2 q3 => ih k (i + 1) ls' st' (by omega) (by omega) q1 q2 q3)
    · rw [if_neg hlt]
      exact fin (k + 2) i ls st (by omega)
theorem LastRow : watchwordlaw14_LastRow.Pure := by
  intro l _ _ _
  refine ⟨600, ?_⟩
  unfold watchwordlaw14_LastRow.f
  rw [awake_ok (show 100 ≤ 600 by decide), Option.bind_some, if_pos rfl]
  refine row_l 40 600 0 [] _ (by omega) (by omega) rfl rfl ?_
  intro a t h1 h2 h3 h4
  show rd [0, 0, 0, 0, 0, 0, 0, 0, 0, 0, 0, 0, 0, 0, 0, 0] (4 * a + t) = 0
  have h5 : a = 0 ∨ a = 1 ∨ a = 2 ∨ a = 3 := by omega
  have h6 : t = 0 ∨ t = 1 ∨ t = 2 := by omega
  rcases h5 with rfl | rfl | rfl | rfl <;> rcases h6 with rfl | rfl | rfl <;> rfl

end Go.Proofs.Ytabjambabnbmnaa.Pure
