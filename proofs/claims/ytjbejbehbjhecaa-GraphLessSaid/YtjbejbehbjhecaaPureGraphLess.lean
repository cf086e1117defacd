/- GraphLess: without one router's Lsa there is no way over it, all others are as they were; no condition beyond the row's own. -/
import Derived.Test.YtjbejbehbjhecaaZ20x3
namespace Go.Proofs.Ytjbejbehbjhecaa.Pure
open Go.RowKit Go.Proofs.YtjbejbehbjhecaaW.PrintWords Go.Proofs.YtjbejbehbjhecaaW.PrintMore Go.Proofs.Ytjbejbehbjhecaa.Base Go.Proofs.Ytjbejbehbjhecaa.Q20 Go.Proofs.Ytjbejbehbjhecaa.L20 Go.Proofs.Ytjbejbehbjhecaa.O20
set_option linter.unusedVariables false
set_option linter.unusedSimpArgs false
set_option maxRecDepth 100000
/-! ### the document's own: LinksMay, LsaMay, bytes, Fletch, PutLsa, GetLsa, HeadOf -/
theorem ref_upTo (x a b : Int) : watchwordref1_upTo.f x a b = some (decide (a ≤ x ∧ x ≤ b)) := by
  unfold watchwordref1_upTo.f
  by_cases h : x ≥ a
  · rw [if_pos h]; simp [show a ≤ x from h]
  · rw [if_neg h]; simp [show ¬ a ≤ x from h]
theorem ref_router (x : Int) : watchwordref1_routerMay.f x = some (decide (1 ≤ x ∧ x ≤ 4)) := by
  unfold watchwordref1_routerMay.f; rw [ref_upTo]; rfl
theorem ref_Links_l {l : List S59} {rt : Int} (hn : l.length ≤ 9223372036854775807) : ∀ (d k i : Nat), i + d = l.length → d < k →
    watchwordref1_LinksMay.l0 k rt l (i : Int) = some (links rt (prevL l i) (l.drop i) && decide (l.length ≤ 4)) := by
  intro d
  induction d with
  | zero =>
    intro k i hi hk
    obtain ⟨k, rfl⟩ : ∃ m, k = m + 1 := ⟨k - 1, by omega⟩
    simp only [watchwordref1_LinksMay.l0]
    rw [if_neg (by omega), List.drop_of_length_le (by omega)]
    unfold links
    rw [Bool.true_and]
    congr 1
    rw [Bool.eq_iff_iff, decide_eq_true_eq, decide_eq_true_eq]
    omega
  | succ d ih =>
    intro k i hi hk
    obtain ⟨k, rfl⟩ : ∃ m, k = m + 1 := ⟨k - 1, by omega⟩
    have hlt : i < l.length := by omega
    have h4 : wrap64 ((i : Int) + 1) = ((i + 1 : Nat) : Int) := by rw [wrap_id (by omega) (by omega)]; omega
    have h5 : wrap64 ((i : Int) - 1) = (i : Int) - 1 := wrap_id (by omega) (by omega)
    have hr := ih k (i + 1) (by omega) (by omega)
    simp only [watchwordref1_LinksMay.l0, ref_router, ref_upTo, Option.bind_some, decide_eq_true_eq]
    rw [if_pos (by omega), if_pos (by omega), h4, h5, hr, prevL_succ, dropL_at hlt]
    generalize rd_T59 l (i : Int) = x
    by_cases c1 : 1 ≤ x.f0 ∧ x.f0 ≤ 4
    · rw [if_pos c1]
      by_cases c2 : x.f0 = rt
      · rw [if_pos c2]; unfold links; rw [if_neg (fun hh => hh.1.2.2.1 c2)]; rfl
      rw [if_neg c2]
      by_cases c3 : 1 ≤ x.f1 ∧ x.f1 ≤ 65535
      · rw [if_pos c3]
        have hok : LinkOk rt x := ⟨c1.1, c1.2, c2, c3.1, c3.2⟩
        by_cases h0 : (i : Int) > 0
        · rw [if_pos h0, if_pos (by omega), if_pos (by omega)]
          have hp : prevL l i = (rd_T59 l ((i : Int) - 1)).f0 := by unfold prevL; rw [if_neg (by omega)]
          by_cases hg : x.f0 ≤ (rd_T59 l ((i : Int) - 1)).f0
          · rw [if_pos hg]; unfold links; rw [if_neg (by rw [hp]; omega)]; rfl
          · rw [if_neg hg]; conv => rhs; unfold links
            rw [if_pos ⟨hok, by rw [hp]; omega⟩]
        · rw [if_neg h0]
          have hp : prevL l i = 0 := by unfold prevL; rw [if_pos (by omega)]
          conv => rhs; unfold links
          rw [if_pos ⟨hok, by rw [hp]; omega⟩]
      · rw [if_neg c3]; unfold links; rw [if_neg (fun hh => c3 ⟨hh.1.2.2.2.1, hh.1.2.2.2.2⟩)]; rfl
    · rw [if_neg c1]; unfold links; rw [if_neg (fun hh => c1 ⟨hh.1.1, hh.1.2.1⟩)]; rfl
theorem ref_Links_f {l : List S59} {rt : Int} (hn : l.length ≤ 9223372036854775807) {k : Nat} (hk : l.length < k) : watchwordref1_LinksMay.f k rt l = some (links rt 0 l) := by
  have h := ref_Links_l (rt := rt) hn l.length k 0 (by omega) hk
  unfold watchwordref1_LinksMay.f
  rw [show (0 : Int) = ((0 : Nat) : Int) from rfl, h]
  show some (links rt 0 l && decide (l.length ≤ 4)) = some (links rt 0 l)
  by_cases g : links rt 0 l = true
  · rw [g, decide_eq_true (links_len g)]; rfl
  · rw [Bool.eq_false_iff.mpr g]; rfl
theorem ref_May_f {r s g : Int} {l : List S59} (hn : l.length ≤ 9223372036854775807) {k : Nat} (hk : l.length < k) : watchwordref1_LsaMay.f k r s g l = some (decide (LsaOk r s g l)) := by
  simp only [watchwordref1_LsaMay.f, ref_Links_f hn hk, ref_router, ref_upTo, Option.bind_some, decide_eq_true_eq]
  by_cases h1 : 1 ≤ r ∧ r ≤ 4
  · rw [if_pos h1]
    by_cases h2 : 1 ≤ s ∧ s ≤ 2147483647
    · rw [if_pos h2]
      by_cases h3 : 0 ≤ g ∧ g ≤ 60
      · rw [if_pos h3]; unfold LsaOk; simp [h1.1, h1.2, h2.1, h2.2, h3.1, h3.2]
      · rw [if_neg h3, decide_eq_false (fun hh : LsaOk r s g l => h3 ⟨hh.2.2.2.2.1, hh.2.2.2.2.2.1⟩)]
    · rw [if_neg h2, decide_eq_false (fun hh : LsaOk r s g l => h2 ⟨hh.2.2.1, hh.2.2.2.1⟩)]
  · rw [if_neg h1, decide_eq_false (fun hh : LsaOk r s g l => h1 ⟨hh.1, hh.2.1⟩)]
/-! ### the document's own: UpdateMay, PutUpdate, GetUpdate; CopyLsas -/
theorem ref_UpdMay_l {l : List S57} {M : Nat} (hn : l.length ≤ 9223372036854775807) (hM : ∀ x ∈ l, x.f3.length < M) (hM2 : M ≤ 9223372036854775807) : ∀ (d k i : Nat), i + d = l.length → d + M + 10 < k →
    watchwordref9_UpdateMay.l0 k l (i : Int) = some (upd (prevU l i) (l.drop i) && decide (l.length ≤ 4)) := by
  intro d
  induction d with
  | zero =>
    intro k i hi hk
    obtain ⟨k, rfl⟩ : ∃ m, k = m + 1 := ⟨k - 1, by omega⟩
    simp only [watchwordref9_UpdateMay.l0]
    rw [if_neg (by omega), List.drop_of_length_le (by omega)]
    unfold upd
    rw [Bool.true_and]
    congr 1
    rw [Bool.eq_iff_iff, decide_eq_true_eq, decide_eq_true_eq]
    omega
  | succ d ih =>
    intro k i hi hk
    obtain ⟨k, rfl⟩ : ∃ m, k = m + 1 := ⟨k - 1, by omega⟩
    have hlt : i < l.length := by omega
    have h4 : wrap64 ((i : Int) + 1) = ((i + 1 : Nat) : Int) := by rw [wrap_id (by omega) (by omega)]; omega
    have h5 : wrap64 ((i : Int) - 1) = (i : Int) - 1 := wrap_id (by omega) (by omega)
    have hr := ih k (i + 1) (by omega) (by omega)
    have hm := hM _ (rdU_mem hlt)
    simp only [watchwordref9_UpdateMay.l0]
    rw [if_pos (by omega), if_pos (by omega), h4, h5, hr, prevU_succ, dropU_at hlt]
    generalize rd_T57 l (i : Int) = x at hm ⊢
    rw [ref_May_f (by omega) (show x.f3.length < k by omega)]
    simp only [Option.bind_some, decide_eq_true_eq]
    by_cases c1 : LsaOk x.f0 x.f1 x.f2 x.f3
    · rw [if_pos c1]
      have hok : UsOk x := c1
      have h1 := c1.1
      by_cases h0 : (i : Int) > 0
      · rw [if_pos h0, if_pos (by omega), if_pos (by omega)]
        have hp : prevU l i = (rd_T57 l ((i : Int) - 1)).f0 := by unfold prevU; rw [if_neg (by omega)]
        by_cases hg : x.f0 ≤ (rd_T57 l ((i : Int) - 1)).f0
        · rw [if_pos hg]; unfold upd; rw [if_neg (by rw [hp]; omega)]; rfl
        · rw [if_neg hg]; conv => rhs; unfold upd
          rw [if_pos ⟨hok, by rw [hp]; omega⟩]
      · rw [if_neg h0]
        have hp : prevU l i = 0 := by unfold prevU; rw [if_pos (by omega)]
        conv => rhs; unfold upd
        rw [if_pos ⟨hok, by rw [hp]; omega⟩]
    · rw [if_neg c1]; unfold upd; rw [if_neg (fun hh => c1 hh.1)]; rfl
theorem ref_UpdMay_f {l : List S57} {M : Nat} (hn : l.length ≤ 9223372036854775807) (hM : ∀ x ∈ l, x.f3.length < M) (hM2 : M ≤ 9223372036854775807) {k : Nat} (hk : l.length + M + 10 < k) :
    watchwordref9_UpdateMay.f k l = some (upd 0 l) := by
  have h := ref_UpdMay_l hn hM hM2 l.length k 0 (by omega) hk
  unfold watchwordref9_UpdateMay.f
  rw [show (0 : Int) = ((0 : Nat) : Int) from rfl, h]
  show some (upd 0 l && decide (l.length ≤ 4)) = some (upd 0 l)
  by_cases g : upd 0 l = true
  · rw [g, decide_eq_true (upd_len g)]; rfl
  · rw [Bool.eq_false_iff.mpr g]; rfl
theorem StoreMay_l {l : List S57} {M : Nat} (hn : l.length ≤ 9223372036854775807) (hM : ∀ x ∈ l, x.f3.length < M) (hM2 : M ≤ 9223372036854775807) : ∀ (d k i : Nat), i + d = l.length → d + l.length + M + 11 < k → watchwordref18_StoreMay.l0 k l (i : Int) = some (young (l.drop i) && upd 0 l) := by
  intro d
  induction d with
  | zero =>
    intro k i hi hk
    obtain ⟨k, rfl⟩ : ∃ m, k = m + 1 := ⟨k - 1, by omega⟩
    simp only [watchwordref18_StoreMay.l0]
    rw [if_neg (by omega), ref_UpdMay_f hn hM hM2 (by omega), List.drop_of_length_le (by omega)]
    rfl
  | succ d ih =>
    intro k i hi hk
    obtain ⟨k, rfl⟩ : ∃ m, k = m + 1 := ⟨k - 1, by omega⟩
    have hlt : i < l.length := by omega
    have h4 : wrap64 ((i : Int) + 1) = ((i + 1 : Nat) : Int) := by rw [wrap_id (by omega) (by omega)]; omega
    simp only [watchwordref18_StoreMay.l0]
    rw [if_pos (by omega), if_pos (by omega), h4, ih k (i + 1) (by omega) (by omega), dropU_at hlt]
    unfold young
    rw [List.all_cons]
    by_cases c : (rd_T57 l (i : Int)).f2 ≥ 60
    · rw [if_pos c, decide_eq_false (show ¬ (rd_T57 l (i : Int)).f2 < 60 by omega)]; rfl
    · rw [if_neg c, decide_eq_true (show (rd_T57 l (i : Int)).f2 < 60 by omega), Bool.true_and]
theorem StoreMay_f {l : List S57} {M : Nat} (hn : l.length ≤ 9223372036854775807) (hM : ∀ x ∈ l, x.f3.length < M) (hM2 : M ≤ 9223372036854775807) {k : Nat} (hk : 2 * l.length + M + 12 < k) : watchwordref18_StoreMay.f k l = some (stOk l) := by
  have h1 := StoreMay_l hn hM hM2 l.length k 0 (by omega) (by omega)
  unfold watchwordref18_StoreMay.f
  rw [show watchwordref18_StoreMay.l0 k l 0 = _ from h1, List.drop_zero, Bool.and_comm]
  rfl
/-! #### a list without one of its elements -/
abbrev cutAt (l : List S57) (i : Nat) : List S57 := l.take i ++ l.drop (i + 1)
theorem mem_cut {l : List S57} {i : Nat} {x : S57} (h : x ∈ cutAt l i) : x ∈ l := by
  rcases List.mem_append.1 h with h | h
  · exact List.mem_of_mem_take h
  · exact List.mem_of_mem_drop h
theorem cut_len (l : List S57) (i : Nat) : (cutAt l i).length ≤ l.length := by
  simp only [cutAt, List.length_append, List.length_take, List.length_drop]; omega
theorem upd_lower : ∀ {l : List S57} {p q : Int}, q ≤ p → upd p l = true → upd q l = true
  | [], _, _, _, _ => rfl
  | y :: l, p, q, hq, h => by
    unfold upd at h ⊢
    by_cases hc : UsOk y ∧ p < y.f0
    · rw [if_pos hc] at h
      rw [if_pos ⟨hc.1, by omega⟩]; exact h
    · rw [if_neg hc] at h; cases h
theorem upd_cut : ∀ {l : List S57} {p : Int} (i : Nat), upd p l = true → upd p (cutAt l i) = true
  | [], p, i, h => by simp [cutAt]; rfl
  | y :: l, p, 0, h => by
    unfold upd at h
    by_cases hc : UsOk y ∧ p < y.f0
    · rw [if_pos hc] at h
      exact upd_lower (by omega) h
    · rw [if_neg hc] at h; cases h
  | y :: l, p, i + 1, h => by
    unfold upd at h
    by_cases hc : UsOk y ∧ p < y.f0
    · rw [if_pos hc] at h
      show (if UsOk y ∧ p < y.f0 then upd y.f0 (cutAt l i) else false) = true
      rw [if_pos hc]; exact upd_cut i h
    · rw [if_neg hc] at h; cases h
theorem st_cut {l : List S57} (i : Nat) (h : stOk l = true) : stOk (cutAt l i) = true := by
  unfold stOk young at h ⊢
  rw [Bool.and_eq_true] at h ⊢
  refine ⟨upd_cut i h.1, ?_⟩
  rw [List.all_eq_true] at h ⊢
  exact fun x hx => h.2 x (mem_cut hx)
theorem lkA_gone {t d : Int} : ∀ {l : List S57} {p : Int} (i : Nat) (hi : i < l.length), upd p l = true → lkA (cutAt l i) l[i].f0 t d = d
  | [], _, i, hi, _ => by simp at hi
  | y :: l, p, 0, hi, h => by
    unfold upd at h
    by_cases hc : UsOk y ∧ p < y.f0
    · rw [if_pos hc] at h
      show lkA l y.f0 t d = d
      exact lkA_none l d (fun z hz => by have := upd_gt l y.f0 h z hz; omega)
    · rw [if_neg hc] at h; cases h
  | y :: l, p, i + 1, hi, h => by
    unfold upd at h
    by_cases hc : UsOk y ∧ p < y.f0
    · rw [if_pos hc] at h
      have hi' : i < l.length := by simpa using hi
      have := upd_gt l y.f0 h _ (List.getElem_mem hi')
      show lkA (cutAt l i) l[i].f0 t (if y.f0 = l[i].f0 then lnk y.f3 t d else d) = d
      rw [if_neg (by omega)]
      exact lkA_gone i hi' h
    · rw [if_neg hc] at h; cases h
theorem lkA_cut {r t : Int} : ∀ {l : List S57} (d : Int) (i : Nat) (hi : i < l.length), r ≠ l[i].f0 → lkA (cutAt l i) r t d = lkA l r t d
  | [], _, i, hi, _ => by simp at hi
  | y :: l, d, 0, hi, h => by
    show lkA l r t d = lkA l r t (if y.f0 = r then lnk y.f3 t d else d)
    rw [if_neg (fun e => h e.symm)]
  | y :: l, d, i + 1, hi, h => by
    have hi' : i < l.length := by simpa using hi
    show lkA (cutAt l i) r t (if y.f0 = r then lnk y.f3 t d else d) = lkA l r t (if y.f0 = r then lnk y.f3 t d else d)
    exact lkA_cut _ i hi' h
/-- What the costs come to. -/
theorem cut_costs {l : List S57} (h : upd 0 l = true) {q : Nat} (hq : q < l.length) {r : Nat} (hr : (r : Int) + 1 = l[q].f0) (i j : Nat) :
    outOf (toldA (cutAt l q) (fun _ _ => 0)) i j = if i = r ∨ j = r then 0 else outOf (toldA l (fun _ _ => 0)) i j := by
  have ok := upd_ok l 0 h
  have e1 : ∀ i j : Nat, toldA (cutAt l q) (fun _ _ => 0) i j = if i = r then 0 else toldA l (fun _ _ => 0) i j := by
    intro i j
    rw [toldA_at _ (fun x hx => ok x (mem_cut hx)), toldA_at _ ok]
    by_cases e : i = r
    · subst e; rw [if_pos rfl, hr]; exact lkA_gone q hq h
    · rw [if_neg e]; exact lkA_cut 0 q hq (by omega)
  unfold outOf
  rw [e1, e1]
  by_cases ei : i = r
  · have h1 : (i = r ∨ j = r) := Or.inl ei
    rw [if_pos ei]
    simp only [h1, if_true]
    split <;> first | rfl | (split <;> rfl)
  · by_cases ej : j = r
    · have h1 : (i = r ∨ j = r) := Or.inr ej
      simp only [h1, ej, if_true]
      rw [if_neg (by decide), if_pos (.inr trivial)]
    · have h1 : ¬ (i = r ∨ j = r) := by omega
      simp only [h1, ei, ej, if_false, or_self]
def L0 (k r i : Nat) (m o : Mat) := watchwordlaw20_GraphLess.l0 k (r : Int) (i : Int) (m 0 0) (m 0 1) (m 0 2) (m 0 3) (m 1 0) (m 1 1) (m 1 2) (m 1 3) (m 2 0) (m 2 1) (m 2 2) (m 2 3) (m 3 0) (m 3 1) (m 3 2) (m 3 3) (o 0 0) (o 0 1) (o 0 2) (o 0 3) (o 1 0) (o 1 1) (o 1 2) (o 1 3) (o 2 0) (o 2 1) (o 2 2) (o 2 3) (o 3 0) (o 3 1) (o 3 2) (o 3 3)
def L1 (k r i j : Nat) (m o : Mat) := watchwordlaw20_GraphLess.l1 k (r : Int) (i : Int) (j : Int) (m 0 0) (m 0 1) (m 0 2) (m 0 3) (m 1 0) (m 1 1) (m 1 2) (m 1 3) (m 2 0) (m 2 1) (m 2 2) (m 2 3) (m 3 0) (m 3 1) (m 3 2) (m 3 3) (o 0 0) (o 0 1) (o 0 2) (o 0 3) (o 1 0) (o 1 1) (o 1 2) (o 1 3) (o 2 0) (o 2 1) (o 2 2) (o 2 3) (o 3 0) (o 3 1) (o 3 2) (o 3 3)
theorem L1_step (k : Nat) {r i j : Nat} (hi : i < 4) (hj : j < 4) {m o : Mat} (h : o i j = if i = r ∨ j = r then 0 else m i j) : L1 (k + 2) r i j m o = L1 k r i (j + 1) m o := by
  unfold L1
  simp only [watchwordlaw20_GraphLess.l1]
  rw [if_pos (show (j : Int) < 4 by omega), if_pos (show 0 ≤ (i : Int) by omega), if_pos (show (i : Int) < 4 by omega), if_pos (show 0 ≤ (j : Int) by omega)]
  simp only [watchwordlaw20_GraphLess.j4]
  rw [sel_at m hi hj, sel_at o hi hj, next4 hj]
  have q1 := eq_true (show 0 ≤ (i : Int) by omega)
  have q2 := eq_true (show (i : Int) < 4 by omega)
  have q3 := eq_true (show 0 ≤ (j : Int) by omega)
  have q4 := eq_true (show (j : Int) < 4 by omega)
  simp only [q1, q2, q3, q4, if_true]
  by_cases ei : i = r
  · rw [if_pos (show (i : Int) = (r : Int) by omega), if_pos (by rw [h, if_pos (.inl ei)])]
  · rw [if_neg (show ¬ (i : Int) = (r : Int) by omega)]
    by_cases ej : j = r
    · rw [if_pos (show ((j : Int) == (r : Int)) = true by simp; omega), if_pos (by rw [h, if_pos (.inr ej)])]
    · rw [if_neg (show ¬ ((j : Int) == (r : Int)) = true by simp; omega), if_pos (by rw [h, if_neg (by omega)])]
theorem L1_all {r i : Nat} (hi : i < 4) {m o : Mat} (h : ∀ j, j < 4 → o i j = if i = r ∨ j = r then 0 else m i j) : ∀ d j k, j + d = 4 → L1 (k + 1 + 2 * d) r i j m o = L0 k r (i + 1) m o
  | 0, j, k, hj => by
    obtain rfl : j = 4 := by omega
    unfold L1 L0
    rw [show k + 1 + 2 * 0 = k + 1 from rfl]
    simp only [watchwordlaw20_GraphLess.l1]
    rw [if_neg (show ¬ (((4 : Nat) : Int) < 4) by decide), next4 hi]
  | d + 1, j, k, hj => by
    rw [show k + 1 + 2 * (d + 1) = k + 1 + 2 * d + 2 by omega, L1_step _ hi (by omega) (h j (by omega))]
    exact L1_all hi h d (j + 1) k (by omega)
theorem L0_all {r : Nat} {m o : Mat} (h : ∀ i j, i < 4 → j < 4 → o i j = if i = r ∨ j = r then 0 else m i j) : ∀ d i k, i + d = 4 → L0 (k + 1 + 10 * d) r i m o = some true
  | 0, i, k, hi => by
    obtain rfl : i = 4 := by omega
    unfold L0
    rw [show k + 1 + 10 * 0 = k + 1 from rfl]
    simp only [watchwordlaw20_GraphLess.l0]
    rw [if_neg (show ¬ (((4 : Nat) : Int) < 4) by decide)]
  | d + 1, i, k, hi => by
    have h1 : L0 (k + 1 + 10 * (d + 1)) r i m o = L1 (k + 1 + 10 * d + 1 + 2 * 4) r i 0 m o := by
      rw [show k + 1 + 10 * (d + 1) = (k + 1 + 10 * d + 1 + 2 * 4) + 1 by omega]
      unfold L0 L1
      simp only [watchwordlaw20_GraphLess.l0]
      rw [if_pos (show (i : Int) < 4 by omega)]
      rfl
    rw [h1, L1_all (show i < 4 by omega) (fun j hj => h i j (by omega) hj) 4 0 (k + 1 + 10 * d) rfl]
    exact L0_all h d (i + 1) k (by omega)
theorem gl_mod (a m : Int) (hm : 1 ≤ m ∧ m ≤ 100) : 0 ≤ wrap64 (Int.tmod (IntKind.u64.wrap a) m) ∧ wrap64 (Int.tmod (IntKind.u64.wrap a) m) < m := by
  have hw : IntKind.u64.wrap a = a % 18446744073709551616 := by simp [IntKind.wrap, IntKind.bits, IntKind.signed]
  have h1 := Int.emod_nonneg (a % 18446744073709551616) (show m ≠ 0 by omega)
  have h2 := Int.emod_lt_of_pos (a % 18446744073709551616) (show 0 < m by omega)
  rw [hw, Int.tmod_eq_emod_of_nonneg (by omega), wrap_id (by omega) (by omega)]
  exact ⟨h1, h2⟩
theorem core {k M : Nat} (l0 : List S57) (a1 : Int) (hn : l0.length ≤ 2932031007400) (hM : ∀ y ∈ l0, y.f3.length < M) (hM2 : M ≤ 9223372036854775807) (hk : 2 * l0.length + M + 300 ≤ k) :
    watchwordlaw20_GraphLess.f k l0 a1 = some true := by
  unfold watchwordlaw20_GraphLess.f
  rw [awake_ok (by omega), StoreMay_f (by omega) hM hM2 (by omega)]
  simp only [Option.bind_some, if_true]
  obtain ⟨k, rfl⟩ : ∃ q, k = q + 1 := ⟨k - 1, by omega⟩
  have tr : watchwordlaw20_GraphLess.j0 (k + 1) l0 a1 true = some true := by simp only [watchwordlaw20_GraphLess.j0]; rw [if_pos trivial]
  by_cases hs : stOk l0 = true
  · rw [if_pos hs]
    by_cases h0 : l0.length = 0
    · rw [show ((l0.length : Int) == 0) = true by simp [h0]]; exact tr
    · rw [show ((l0.length : Int) == 0) = false by simp [h0]]
      have hu : upd 0 l0 = true := by unfold stOk at hs; exact (Bool.and_eq_true _ _ ▸ hs).1
      have h4 := upd_len hu
      have hw : IntKind.u64.wrap (l0.length : Int) = (l0.length : Int) := by
        have : IntKind.u64.wrap (l0.length : Int) = (l0.length : Int) % 18446744073709551616 := by simp [IntKind.wrap, IntKind.bits, IntKind.signed]
        rw [this]; omega
      simp only [watchwordlaw20_GraphLess.j0]
      rw [if_neg (by decide), hw, if_neg (by omega)]
      have hq := gl_mod a1 (l0.length : Int) ⟨by omega, by omega⟩
      generalize wrap64 (Int.tmod (IntKind.u64.wrap a1) (l0.length : Int)) = z at hq ⊢
      obtain ⟨q, rfl⟩ : ∃ q : Nat, z = (q : Int) := ⟨z.toNat, by omega⟩
      have hql : q < l0.length := by omega
      have hok := upd_ok l0 0 hu _ (List.getElem_mem hql)
      obtain ⟨r, hr⟩ : ∃ r : Nat, (r : Int) + 1 = l0[q].f0 := ⟨(l0[q].f0 - 1).toNat, by have := hok.1; omega⟩
      have hL : lessOf l0 (q : Int) = cutAt l0 q := by unfold lessOf; rw [Int.toNat_natCast]
      have hcl := cut_len l0 q
      rw [if_pos (by omega), if_pos (by omega), if_pos (by omega), hL, Of_f (by omega) hM hM2 (by omega) (by omega), Of_f (by omega) (fun y hy => hM y (mem_cut hy)) hM2 (by omega) (by omega), rdU_at hql]
      unfold ofAns
      rw [if_pos hs, if_pos (st_cut q hs)]
      simp only [Option.bind_some, tup17, num_ok, if_true]
      rw [show ((0 : Int) != 0) = false from rfl, show wrap64 (l0[q].f0 - 1) = (r : Int) by have := hok.2.1; unfold wrap64; omega]
      obtain ⟨k, rfl⟩ : ∃ q, k = q + 1 := ⟨k - 1, by omega⟩
      simp only [watchwordlaw20_GraphLess.j1]
      rw [if_neg (by decide)]
      obtain ⟨k, rfl⟩ : ∃ q, k = q + 1 + 10 * 4 := ⟨k - 41, by omega⟩
      exact L0_all (m := outOf (toldA l0 (fun _ _ => 0))) (o := outOf (toldA (cutAt l0 q) (fun _ _ => 0))) (fun i j _ _ => cut_costs hu hql hr i j) 4 0 k rfl
  · rw [if_neg hs]; exact tr
theorem GraphLess : ∀ (l0 : List (S57)) (a1 : Int), (l0.length * 48 ≤ 140737488351232 ∧ l0.length ≤ maxLen ∧ ∀ y ∈ l0, R57 y) → (Lit.int .i64 a1).wf = true → ∃ k, watchwordlaw20_GraphLess.f k l0 a1 = some true := by
  intro l0 a1 h0 _
  obtain ⟨k, hk⟩ : ∃ k : Nat, 2 * l0.length + 8796093022209 + 300 ≤ k := ⟨_, Nat.le_refl _⟩
  exact ⟨k, core l0 a1 (by have := h0.1; omega) (M := 8796093022209) (fun y hy => by have := (h0.2.2 y hy).2.2.2.1; omega) (by omega) hk⟩
end Go.Proofs.Ytjbejbehbjhecaa.Pure
