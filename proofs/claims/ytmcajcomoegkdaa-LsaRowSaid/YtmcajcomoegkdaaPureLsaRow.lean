/- LsaRow: Lsas one behind the other are taken one behind the other; no condition beyond the row's own. -/
import Derived.Test.YtmcajcomoegkdaaQ7rx107
import Derived.Test.YtmcajcomoegkdaaL7r
import Derived.Test.YtmcajcomoegkdaaO7r
namespace Go.Proofs.Ytmcajcomoegkdaa.Pure
open Go.RowKit Go.Proofs.YtmcajcomoegkdaaW.PrintWords Go.Proofs.YtmcajcomoegkdaaW.PrintLast Go.Proofs.YtmcajcomoegkdaaW.PrintMore Go.Proofs.Ytmcajcomoegkdaa.Base Go.Proofs.Ytmcajcomoegkdaa.Q7r Go.Proofs.Ytmcajcomoegkdaa.L7 Go.Proofs.Ytmcajcomoegkdaa.O7r
set_option linter.unusedVariables false
set_option maxRecDepth 100000
abbrev Fit (x : S24) : Prop := LsaOk x.f0 x.f1 x.f2 x.f3
abbrev ptS (x : S24) : List Int := putB x.f0 x.f1 x.f2 x.f3
def allS (w : List S24) : List Int := w.flatMap ptS
theorem allS_byt (w : List S24) : Byt (allS w) := by
  intro x hx
  unfold allS at hx
  obtain ⟨y, _, hy⟩ := List.mem_flatMap.1 hx
  exact putB_byt y.f0 y.f1 y.f2 y.f3 x hy
theorem pt_len {x : S24} (h : Fit x) : 9 ≤ (ptS x).length ∧ (ptS x).length ≤ 21 := by
  have h4 := links_len h.2.2.2.2.2.2
  have := putB_len x.f0 x.f1 x.f2 x.f3
  show 9 ≤ (putB x.f0 x.f1 x.f2 x.f3).length ∧ (putB x.f0 x.f1 x.f2 x.f3).length ≤ 21
  omega
theorem allS_cons (x : S24) (w : List S24) : allS (x :: w) = ptS x ++ allS w := by unfold allS; rw [List.flatMap_cons]
theorem allS_app (v w : List S24) : allS (v ++ w) = allS v ++ allS w := by unfold allS; rw [List.flatMap_append]
theorem allS_one (x : S24) : allS [x] = ptS x := by rw [allS_cons]; exact List.append_nil _
theorem allS_len : ∀ (w : List S24), (∀ x ∈ w, Fit x) → (allS w).length ≤ 21 * w.length
  | [], _ => Nat.le_refl _
  | x :: w, h => by
    have h1 := pt_len (h x (List.mem_cons_self ..))
    have h2 := allS_len w (fun y hy => h y (List.mem_cons_of_mem _ hy))
    rw [allS_cons, List.length_append, List.length_cons]
    omega
theorem rd_at {l : List S24} {i : Nat} (h : i < l.length) : rd_T24 l (i : Int) = l[i] := by
  unfold rd_T24; rw [Int.toNat_natCast, List.getD_eq_getElem?_getD, List.getElem?_eq_getElem h]; rfl
theorem lr_num (x : Int) : watchwordlaw0_Num.f x = some x := rfl
theorem row1 {w : List S24} (hw : ∀ x ∈ w, Fit x) (hn : w.length ≤ 2932031007317) : ∀ d i k, i + d = w.length → d + 1000 ≤ k →
    watchwordlaw7_LsaRow.l1 k (strOfNums (allS w)) w (((allS (w.take i)).length : Nat) : Int) (i : Int) = some true
  | 0, i, k, h, hk => by
    obtain ⟨k, rfl⟩ : ∃ m, k = m + 1 := ⟨k - 1, by omega⟩
    have hl := allS_len w hw
    obtain rfl : i = w.length := by omega
    have hz : (strOfNums (allS w)).size = (allS w).length := strOf_size _
    rw [List.take_length]
    simp only [watchwordlaw7_LsaRow.l1]
    rw [if_neg (by omega), lsa_Get_f (by rw [hz]; omega) (by omega) (by omega), if_pos (Int.natCast_nonneg _), Int.toNat_natCast, B_strOf (allS_byt w), List.drop_length, show getLsa [] = none from rfl]
    simp only [Option.bind_some, tellL]
    rw [if_pos (by rw [hz])]
    rfl
  | d + 1, i, k, h, hk => by
    obtain ⟨k, rfl⟩ : ∃ m, k = m + 1 := ⟨k - 1, by omega⟩
    have hi : i < w.length := by omega
    have hl := allS_len w hw
    have hz : (strOfNums (allS w)).size = (allS w).length := strOf_size _
    have hx : Fit w[i] := hw w[i] (List.getElem_mem hi)
    have hsp : allS w = allS (w.take i) ++ (ptS w[i] ++ allS (w.drop (i + 1))) := by
      rw [← allS_cons, ← List.drop_eq_getElem_cons hi, ← allS_app, List.take_append_drop]
    have hdrop : (allS w).drop (allS (w.take i)).length = ptS w[i] ++ allS (w.drop (i + 1)) := by
      conv => lhs; arg 2; rw [hsp]
      exact List.drop_left
    have hpre : (allS (w.take (i + 1))).length = (allS (w.take i)).length + (ptS w[i]).length := by
      rw [← List.take_append_getElem hi, allS_app, allS_one, List.length_append]
    have hall : (allS w).length = (allS (w.take i)).length + ((ptS w[i]).length + (allS (w.drop (i + 1))).length) := by
      conv => lhs; rw [hsp]
      rw [List.length_append, List.length_append]
    have hp := pt_len hx
    have hq : (ptS w[i]).length = 9 + 3 * w[i].f3.length := putB_len _ _ _ _
    have h4 := links_len hx.2.2.2.2.2.2
    simp only [watchwordlaw7_LsaRow.l1]
    rw [if_pos (by omega), lsa_Get_f (by rw [hz]; omega) (by omega) (by omega), if_pos (Int.natCast_nonneg _), Int.toNat_natCast, B_strOf (allS_byt w), hdrop, get_put hx]
    simp only [Option.bind_some, tellL, lr_num, if_true]
    rw [if_pos (Int.natCast_nonneg i), rd_at hi, SameLsa_f (show w[i].f3.length ≤ 9223372036854775807 by omega) (show w[i].f3.length < k by omega)]
    simp only [Option.bind_some, and_self, decide_true, if_true]
    rw [if_neg (by omega), if_neg (by rw [hz]; omega), show wrap64 ((i : Int) + 1) = ((i + 1 : Nat) : Int) by rw [wrap_id (by omega) (by omega)]; omega,
      show (((allS (w.take i)).length : Nat) : Int) + ((9 + 3 * w[i].f3.length : Nat) : Int) = (((allS (w.take (i + 1))).length : Nat) : Int) by omega]
    exact row1 hw hn d (i + 1) k (by omega) (by omega)
theorem nx {i : Nat} (h : i < 9223372036854775807) : wrap64 ((i : Int) + 1) = ((i + 1 : Nat) : Int) := by rw [wrap_id (by omega) (by omega)]; omega
theorem sum_le {a n p : Nat} (h : a ≤ 21 * n) (hn : n ≤ 2932031007317) (hp : p ≤ 21) : a + p ≤ 9223372036854775807 := by omega
theorem row0 {ls : List S24} (ha : ls.length ≤ 2932031007317) {M : Nat} (hM : ∀ y ∈ ls, y.f3.length ≤ M) (hM' : M ≤ 9223372036854775807) {K : Nat} (hK : ls.length + M + 2000 ≤ K) : ∀ d i k w, i + d = ls.length → d + K ≤ k → (∀ x ∈ w, Fit x) → w.length ≤ i →
    watchwordlaw7_LsaRow.l0 k ls (strOfNums (allS w)) w (i : Int) = some true
  | 0, i, k, w, h, hk, hw, hl => by
    obtain ⟨k, rfl⟩ : ∃ m, k = m + 1 := ⟨k - 1, by omega⟩
    simp only [watchwordlaw7_LsaRow.l0]
    rw [if_neg (by omega)]
    have h1 := row1 hw (by omega) w.length 0 k (by omega) (by omega)
    rw [List.take_zero, show (((allS []).length : Nat) : Int) = 0 from rfl] at h1
    exact h1
  | d + 1, i, k, w, h, hk, hw, hl => by
    obtain ⟨k, rfl⟩ : ∃ m, k = m + 1 := ⟨k - 1, by omega⟩
    have hi : i < ls.length := by omega
    have hii : (i : Int) < (ls.length : Int) := by omega
    have b0 : i < 9223372036854775807 := by omega
    have b5 : w.length < 2932031007402 := by omega
    have b6 : w.length ≤ 2932031007317 := by omega
    have b7 : d + K ≤ k := by omega
    have b8 : i + 1 + d = ls.length := by omega
    have b9 : w.length ≤ i + 1 := by omega
    have b10 : w.length + 1 ≤ i + 1 := by omega
    have b3 : 20 ≤ k := by omega
    have b11 : M < k := by omega
    have hy := hM ls[i] (List.getElem_mem hi)
    have b1 := Nat.le_trans hy hM'
    have b2 := Nat.lt_of_le_of_lt hy b11
    have hx : wrap64 ((i : Int) + 1) = ((i + 1 : Nat) : Int) := nx b0
    have hs := allS_len w hw
    have hz : (strOfNums (allS w)).size = (allS w).length := strOf_size _
    simp only [watchwordlaw7_LsaRow.l0]
    rw [if_pos hii, if_pos (Int.natCast_nonneg i), rd_at hi, lsa_Put_f b1 b2 b3, hx]
    by_cases hf : Fit ls[i]
    · have hp := pt_len hf
      have hzz : (strOfNums (ptS ls[i])).size = (ptS ls[i]).length := strOf_size _
      have hsum : (strOfNums (allS w)).size + (strOfNums (ptS ls[i])).size ≤ 9223372036854775807 := by rw [hz, hzz]; exact sum_le hs b6 hp.2
      rw [if_pos hf]
      simp only [Option.bind_some, lr_num, if_true]
      rw [if_pos hsum, if_pos hii, if_pos b5, strOf_append,
        show allS w ++ putB ls[i].f0 ls[i].f1 ls[i].f2 ls[i].f3 = allS (w ++ [ls[i]]) by rw [allS_app, allS_one]]
      exact row0 ha hM hM' hK d (i + 1) k (w ++ [ls[i]]) b8 b7 (fun x hx => by
        rcases List.mem_append.1 hx with g | g
        · exact hw x g
        · rw [List.mem_singleton.1 g]; exact hf) (by rw [List.length_append]; exact b10)
    · rw [if_neg hf]
      simp only [Option.bind_some, lr_num]
      rw [if_neg (by decide)]
      exact row0 ha hM hM' hK d (i + 1) k w b8 b7 hw b9
theorem core {k : Nat} {l : List S24} (hl : l.length ≤ 2932031007317) {M : Nat} (hM : ∀ y ∈ l, y.f3.length ≤ M) (hM' : M ≤ 9223372036854775807) (hk : 2 * l.length + M + 3000 ≤ k) : watchwordlaw7_LsaRow.f k l = some true := by
  simp only [watchwordlaw7_LsaRow.f]
  rw [awake_ok (by omega)]
  simp only [Option.bind_some, if_true]
  exact row0 hl hM hM' (Nat.le_refl _) l.length 0 k [] (by omega) (by omega) (fun x hx => by cases hx) (Nat.le_refl _)
theorem LsaRow : ∀ (l0 : List (S24)), (l0.length * 48 ≤ 140737488351232 ∧ l0.length ≤ maxLen ∧ ∀ y ∈ l0, R24 y) → ∃ k, watchwordlaw7_LsaRow.f k l0 = some true := by
  intro l h
  obtain ⟨k, hk⟩ : ∃ k : Nat, 2 * l.length + 8796093022208 + 3000 ≤ k := ⟨_, Nat.le_refl _⟩
  exact ⟨k, core (M := 8796093022208) (by omega) (fun y hy => by have := (h.2.2 y hy).2.2.2.1; omega) (by decide) hk⟩
end Go.Proofs.Ytmcajcomoegkdaa.Pure
