/- Graphs: any Lsas, costs: what is told is what the document tells; no condition beyond the row's own. -/
import Derived.Test.YtjbejbehbjhecaaZ20x4
namespace Go.Proofs.Ytjbejbehbjhecaa.Pure
open Go.RowKit Go.Proofs.YtjbejbehbjhecaaW.PrintWords Go.Proofs.YtjbejbehbjhecaaW.PrintMore Go.Proofs.Ytjbejbehbjhecaa.Base Go.Proofs.Ytjbejbehbjhecaa.Q20 Go.Proofs.Ytjbejbehbjhecaa.L20 Go.Proofs.Ytjbejbehbjhecaa.O20
set_option linter.unusedVariables false
set_option linter.unusedSimpArgs false
set_option maxRecDepth 100000
/-! #### the document's: may these costs be -/
theorem r18_upTo (x a b : Int) : watchwordref18_upTo.f x a b = some (decide (a ≤ x ∧ x ≤ b)) := by
  unfold watchwordref18_upTo.f
  by_cases h : x ≥ a
  · rw [if_pos h]; congr 1; simp; intro _; omega
  · rw [if_neg h]; congr 1; simp; omega
def C0 (k a : Nat) (m : Mat) := watchwordref18_CostsMay.l0 k (a : Int) (m 0 0) (m 0 1) (m 0 2) (m 0 3) (m 1 0) (m 1 1) (m 1 2) (m 1 3) (m 2 0) (m 2 1) (m 2 2) (m 2 3) (m 3 0) (m 3 1) (m 3 2) (m 3 3)
def C1 (k a b : Nat) (m : Mat) := watchwordref18_CostsMay.l1 k (a : Int) (b : Int) (m 0 0) (m 0 1) (m 0 2) (m 0 3) (m 1 0) (m 1 1) (m 1 2) (m 1 3) (m 2 0) (m 2 1) (m 2 2) (m 2 3) (m 3 0) (m 3 1) (m 3 2) (m 3 3)
theorem C1_step (k : Nat) {a b : Nat} (ha : a < 4) (hb : b < 4) (m : Mat) : C1 (k + 1) a b m = if cellOk (a : Int) (b : Int) (m a b) = true then C1 k a (b + 1) m else some false := by
  unfold C1
  simp only [watchwordref18_CostsMay.l1]
  rw [if_pos (show (b : Int) < 4 by omega), if_pos (show 0 ≤ (a : Int) by omega), if_pos (show (a : Int) < 4 by omega), if_pos (show 0 ≤ (b : Int) by omega), sel_at m ha hb, r18_upTo, next4 hb]
  simp only [Option.bind_some, decide_eq_true_eq]
  by_cases h1 : 0 ≤ m a b ∧ m a b ≤ 65535
  · rw [if_pos h1]
    by_cases h2 : (a : Int) = (b : Int)
    · rw [if_pos h2]
      by_cases h3 : m a b = 0
      · rw [if_pos h3, if_pos (cellOk_iff.2 ⟨h1.1, h1.2, fun _ => h3⟩)]
      · rw [if_neg h3, if_neg (fun z => h3 ((cellOk_iff.1 z).2.2 h2))]
    · rw [if_neg h2, if_pos (cellOk_iff.2 ⟨h1.1, h1.2, fun e => absurd e h2⟩)]
  · rw [if_neg h1, if_neg (fun z => h1 ⟨(cellOk_iff.1 z).1, (cellOk_iff.1 z).2.1⟩)]
theorem C1_row (k : Nat) {a : Nat} (ha : a < 4) (m : Mat) : C1 (k + 5) a 0 m = if rowOk (a : Int) (m a 0) (m a 1) (m a 2) (m a 3) = true then C0 k (a + 1) m else some false := by
  rw [C1_step (k + 4) ha (by decide), C1_step (k + 3) ha (by decide), C1_step (k + 2) ha (by decide), C1_step (k + 1) ha (by decide)]
  have e : C1 (k + 1) a 4 m = C0 k (a + 1) m := by
    unfold C1 C0
    simp only [watchwordref18_CostsMay.l1]
    rw [if_neg (show ¬ (((4 : Nat) : Int) < 4) by decide), next4 ha]
  show (if cellOk (a : Int) 0 (m a 0) = true then (if cellOk (a : Int) 1 (m a 1) = true then (if cellOk (a : Int) 2 (m a 2) = true then (if cellOk (a : Int) 3 (m a 3) = true then C1 (k + 1) a 4 m else some false) else some false) else some false) else some false) = _
  rw [e]
  unfold rowOk
  cases cellOk (a : Int) 0 (m a 0) <;> cases cellOk (a : Int) 1 (m a 1) <;> cases cellOk (a : Int) 2 (m a 2) <;> cases cellOk (a : Int) 3 (m a 3) <;> simp
theorem CostsMay_f {k : Nat} (hk : 25 ≤ k) (m : Mat) : watchwordref18_CostsMay.f k (m 0 0) (m 0 1) (m 0 2) (m 0 3) (m 1 0) (m 1 1) (m 1 2) (m 1 3) (m 2 0) (m 2 1) (m 2 2) (m 2 3) (m 3 0) (m 3 1) (m 3 2) (m 3 3) = some (okM m) := by
  obtain ⟨k, rfl⟩ : ∃ q, k = q + 25 := ⟨k - 25, by omega⟩
  have s (k a : Nat) (h : a < 4) : C0 (k + 1) a m = C1 k a 0 m := by
    unfold C0 C1; simp only [watchwordref18_CostsMay.l0]; rw [if_pos (show (a : Int) < 4 by omega)]; rfl
  have e : C0 (k + 1) 4 m = some true := by
    unfold C0; simp only [watchwordref18_CostsMay.l0]; rw [if_neg (show ¬ (((4 : Nat) : Int) < 4) by decide)]
  show C0 (k + 25) 0 m = _
  rw [s (k + 24) 0 (by decide), C1_row (k + 19) (by decide), s (k + 18) 1 (by decide), C1_row (k + 13) (by decide), s (k + 12) 2 (by decide), C1_row (k + 7) (by decide), s (k + 6) 3 (by decide), C1_row (k + 1) (by decide), e]
  unfold okM okC
  show (if rowOk 0 (m 0 0) (m 0 1) (m 0 2) (m 0 3) = true then (if rowOk 1 (m 1 0) (m 1 1) (m 1 2) (m 1 3) = true then (if rowOk 2 (m 2 0) (m 2 1) (m 2 2) (m 2 3) = true then (if rowOk 3 (m 3 0) (m 3 1) (m 3 2) (m 3 3) = true then some true else some false) else some false) else some false) else some false) = _
  cases rowOk 0 (m 0 0) (m 0 1) (m 0 2) (m 0 3) <;> cases rowOk 1 (m 1 0) (m 1 1) (m 1 2) (m 1 3) <;> cases rowOk 2 (m 2 0) (m 2 1) (m 2 2) (m 2 3) <;> cases rowOk 3 (m 3 0) (m 3 1) (m 3 2) (m 3 3) <;> simp
/-! ### the document's own: LinksMay, LsaMay, bytes, Fletch, PutLsa, GetLsa, HeadOf -/
theorem ref_upTo (x a b : Int) : watchwordref1_upTo.f x a b = some (decide (a ≤ x ∧ x ≤ b)) := by
  unfold watchwordref1_upTo.f
  by_cases h : x ≥ a
  · rw [if_pos h]; simp [show a ≤ x from h]
  · rw [if_neg h]; simp [show ¬ a ≤ x from h]
theorem ref_router (x : Int) : watchwordref1_routerMay.f x = some (decide (1 ≤ x ∧ x ≤ 4)) := by
  unfold watchwordref1_routerMay.f; rw [ref_upTo]; rfl
theorem ref_Links_l {l : List S59} {rt : Int} (hn : l.length ≤ 9223372036854775807) : ∀ (d k i : Nat), i + d = l.length → d < k →
    watchwordref1_LinksMay.l0 k rt l (i : Int) = some (links rt (prevL l i) (l.drop i) && decide (l.length ≤ 4)) := by
  intro d
  induction d with
  | zero =>
    intro k i hi hk
    obtain ⟨k, rfl⟩ : ∃ m, k = m + 1 := ⟨k - 1, by omega⟩
    simp only [watchwordref1_LinksMay.l0]
    rw [if_neg (by omega), List.drop_of_length_le (by omega)]
    unfold links
    rw [Bool.true_and]
    congr 1
    rw [Bool.eq_iff_iff, decide_eq_true_eq, decide_eq_true_eq]
    omega
  | succ d ih =>
    intro k i hi hk
    obtain ⟨k, rfl⟩ : ∃ m, k = m + 1 := ⟨k - 1, by omega⟩
    have hlt : i < l.length := by omega
    have h4 : wrap64 ((i : Int) + 1) = ((i + 1 : Nat) : Int) := by rw [wrap_id (by omega) (by omega)]; omega
    have h5 : wrap64 ((i : Int) - 1) = (i : Int) - 1 := wrap_id (by omega) (by omega)
    have hr := ih k (i + 1) (by omega) (by omega)
    simp only [watchwordref1_LinksMay.l0, ref_router, ref_upTo, Option.bind_some, decide_eq_true_eq]
    rw [if_pos (by omega), if_pos (by omega), h4, h5, hr, prevL_succ, dropL_at hlt]
    generalize rd_T59 l (i : Int) = x
    by_cases c1 : 1 ≤ x.f0 ∧ x.f0 ≤ 4
    · rw [if_pos c1]
      by_cases c2 : x.f0 = rt
      · rw [if_pos c2]; unfold links; rw [if_neg (fun hh => hh.1.2.2.1 c2)]; rfl
      rw [if_neg c2]
      by_cases c3 : 1 ≤ x.f1 ∧ x.f1 ≤ 65535
      · rw [if_pos c3]
        have hok : LinkOk rt x := ⟨c1.1, c1.2, c2, c3.1, c3.2⟩
        by_cases h0 : (i : Int) > 0
        · rw [if_pos h0, if_pos (by omega), if_pos (by omega)]
          have hp : prevL l i = (rd_T59 l ((i : Int) - 1)).f0 := by unfold prevL; rw [if_neg (by omega)]
          by_cases hg : x.f0 ≤ (rd_T59 l ((i : Int) - 1)).f0
          · rw [if_pos hg]; unfold links; rw [if_neg (by rw [hp]; omega)]; rfl
          · rw [if_neg hg]; conv => rhs; unfold links
            rw [if_pos ⟨hok, by rw [hp]; omega⟩]
        · rw [if_neg h0]
          have hp : prevL l i = 0 := by unfold prevL; rw [if_pos (by omega)]
          conv => rhs; unfold links
          rw [if_pos ⟨hok, by rw [hp]; omega⟩]
      · rw [if_neg c3]; unfold links; rw [if_neg (fun hh => c3 ⟨hh.1.2.2.2.1, hh.1.2.2.2.2⟩)]; rfl
    · rw [if_neg c1]; unfold links; rw [if_neg (fun hh => c1 ⟨hh.1.1, hh.1.2.1⟩)]; rfl
theorem ref_Links_f {l : List S59} {rt : Int} (hn : l.length ≤ 9223372036854775807) {k : Nat} (hk : l.length < k) : watchwordref1_LinksMay.f k rt l = some (links rt 0 l) := by
  have h := ref_Links_l (rt := rt) hn l.length k 0 (by omega) hk
  unfold watchwordref1_LinksMay.f
  rw [show (0 : Int) = ((0 : Nat) : Int) from rfl, h]
  show some (links rt 0 l && decide (l.length ≤ 4)) = some (links rt 0 l)
  by_cases g : links rt 0 l = true
  · rw [g, decide_eq_true (links_len g)]; rfl
  · rw [Bool.eq_false_iff.mpr g]; rfl
theorem ref_May_f {r s g : Int} {l : List S59} (hn : l.length ≤ 9223372036854775807) {k : Nat} (hk : l.length < k) : watchwordref1_LsaMay.f k r s g l = some (decide (LsaOk r s g l)) := by
  simp only [watchwordref1_LsaMay.f, ref_Links_f hn hk, ref_router, ref_upTo, Option.bind_some, decide_eq_true_eq]
  by_cases h1 : 1 ≤ r ∧ r ≤ 4
  · rw [if_pos h1]
    by_cases h2 : 1 ≤ s ∧ s ≤ 2147483647
    · rw [if_pos h2]
      by_cases h3 : 0 ≤ g ∧ g ≤ 60
      · rw [if_pos h3]; unfold LsaOk; simp [h1.1, h1.2, h2.1, h2.2, h3.1, h3.2]
      · rw [if_neg h3, decide_eq_false (fun hh : LsaOk r s g l => h3 ⟨hh.2.2.2.2.1, hh.2.2.2.2.2.1⟩)]
    · rw [if_neg h2, decide_eq_false (fun hh : LsaOk r s g l => h2 ⟨hh.2.2.1, hh.2.2.2.1⟩)]
  · rw [if_neg h1, decide_eq_false (fun hh : LsaOk r s g l => h1 ⟨hh.1, hh.2.1⟩)]
/-! ### the document's own: UpdateMay, PutUpdate, GetUpdate; CopyLsas -/
theorem ref_UpdMay_l {l : List S57} {M : Nat} (hn : l.length ≤ 9223372036854775807) (hM : ∀ x ∈ l, x.f3.length < M) (hM2 : M ≤ 9223372036854775807) : ∀ (d k i : Nat), i + d = l.length → d + M + 10 < k →
    watchwordref9_UpdateMay.l0 k l (i : Int) = some (upd (prevU l i) (l.drop i) && decide (l.length ≤ 4)) := by
  intro d
  induction d with
  | zero =>
    intro k i hi hk
    obtain ⟨k, rfl⟩ : ∃ m, k = m + 1 := ⟨k - 1, by omega⟩
    simp only [watchwordref9_UpdateMay.l0]
    rw [if_neg (by omega), List.drop_of_length_le (by omega)]
    unfold upd
    rw [Bool.true_and]
    congr 1
    rw [Bool.eq_iff_iff, decide_eq_true_eq, decide_eq_true_eq]
    omega
  | succ d ih =>
    intro k i hi hk
    obtain ⟨k, rfl⟩ : ∃ m, k = m + 1 := ⟨k - 1, by omega⟩
    have hlt : i < l.length := by omega
    have h4 : wrap64 ((i : Int) + 1) = ((i + 1 : Nat) : Int) := by rw [wrap_id (by omega) (by omega)]; omega
    have h5 : wrap64 ((i : Int) - 1) = (i : Int) - 1 := wrap_id (by omega) (by omega)
    have hr := ih k (i + 1) (by omega) (by omega)
    have hm := hM _ (rdU_mem hlt)
    simp only [watchwordref9_UpdateMay.l0]
    rw [if_pos (by omega), if_pos (by omega), h4, h5, hr, prevU_succ, dropU_at hlt]
    generalize rd_T57 l (i : Int) = x at hm ⊢
    rw [ref_May_f (by omega) (show x.f3.length < k by omega)]
    simp only [Option.bind_some, decide_eq_true_eq]
    by_cases c1 : LsaOk x.f0 x.f1 x.f2 x.f3
    · rw [if_pos c1]
      have hok : UsOk x := c1
      have h1 := c1.1
      by_cases h0 : (i : Int) > 0
      · rw [if_pos h0, if_pos (by omega), if_pos (by omega)]
        have hp : prevU l i = (rd_T57 l ((i : Int) - 1)).f0 := by unfold prevU; rw [if_neg (by omega)]
        by_cases hg : x.f0 ≤ (rd_T57 l ((i : Int) - 1)).f0
        · rw [if_pos hg]; unfold upd; rw [if_neg (by rw [hp]; omega)]; rfl
        · rw [if_neg hg]; conv => rhs; unfold upd
          rw [if_pos ⟨hok, by rw [hp]; omega⟩]
      · rw [if_neg h0]
        have hp : prevU l i = 0 := by unfold prevU; rw [if_pos (by omega)]
        conv => rhs; unfold upd
        rw [if_pos ⟨hok, by rw [hp]; omega⟩]
    · rw [if_neg c1]; unfold upd; rw [if_neg (fun hh => c1 hh.1)]; rfl
theorem ref_UpdMay_f {l : List S57} {M : Nat} (hn : l.length ≤ 9223372036854775807) (hM : ∀ x ∈ l, x.f3.length < M) (hM2 : M ≤ 9223372036854775807) {k : Nat} (hk : l.length + M + 10 < k) :
    watchwordref9_UpdateMay.f k l = some (upd 0 l) := by
  have h := ref_UpdMay_l hn hM hM2 l.length k 0 (by omega) hk
  unfold watchwordref9_UpdateMay.f
  rw [show (0 : Int) = ((0 : Nat) : Int) from rfl, h]
  show some (upd 0 l && decide (l.length ≤ 4)) = some (upd 0 l)
  by_cases g : upd 0 l = true
  · rw [g, decide_eq_true (upd_len g)]; rfl
  · rw [Bool.eq_false_iff.mpr g]; rfl
theorem StoreMay_l {l : List S57} {M : Nat} (hn : l.length ≤ 9223372036854775807) (hM : ∀ x ∈ l, x.f3.length < M) (hM2 : M ≤ 9223372036854775807) : ∀ (d k i : Nat), i + d = l.length → d + l.length + M + 11 < k → watchwordref18_StoreMay.l0 k l (i : Int) = some (young (l.drop i) && upd 0 l) := by
  intro d
  induction d with
  | zero =>
    intro k i hi hk
    obtain ⟨k, rfl⟩ : ∃ m, k = m + 1 := ⟨k - 1, by omega⟩
    simp only [watchwordref18_StoreMay.l0]
    rw [if_neg (by omega), ref_UpdMay_f hn hM hM2 (by omega), List.drop_of_length_le (by omega)]
    rfl
  | succ d ih =>
    intro k i hi hk
    obtain ⟨k, rfl⟩ : ∃ m, k = m + 1 := ⟨k - 1, by omega⟩
    have hlt : i < l.length := by omega
    have h4 : wrap64 ((i : Int) + 1) = ((i + 1 : Nat) : Int) := by rw [wrap_id (by omega) (by omega)]; omega
    simp only [watchwordref18_StoreMay.l0]
    rw [if_pos (by omega), if_pos (by omega), h4, ih k (i + 1) (by omega) (by omega), dropU_at hlt]
    unfold young
    rw [List.all_cons]
    by_cases c : (rd_T57 l (i : Int)).f2 ≥ 60
    · rw [if_pos c, decide_eq_false (show ¬ (rd_T57 l (i : Int)).f2 < 60 by omega)]; rfl
    · rw [if_neg c, decide_eq_true (show (rd_T57 l (i : Int)).f2 < 60 by omega), Bool.true_and]
theorem find_l {l : List S57} {r : Int} (hn : l.length ≤ 9223372036854775807) : ∀ (d k i : Nat), i + d = l.length → d < k → ∃ z, watchwordref18_find.l0 k l r (i : Int) = some z ∧ ((z < 0 ∧ ∀ a ∈ l.drop i, a.f0 ≠ r) ∨ ∃ j : Nat, z = (j : Int) ∧ j < l.length ∧ (rd_T57 l (j : Int)).f0 = r) := by
  intro d
  induction d with
  | zero =>
    intro k i hi hk
    obtain ⟨k, rfl⟩ : ∃ m, k = m + 1 := ⟨k - 1, by omega⟩
    refine ⟨-1, ?_, .inl ⟨by omega, by rw [List.drop_of_length_le (by omega)]; intro a ha; cases ha⟩⟩
    simp only [watchwordref18_find.l0]
    rw [if_neg (by omega)]
  | succ d ih =>
    intro k i hi hk
    obtain ⟨k, rfl⟩ : ∃ m, k = m + 1 := ⟨k - 1, by omega⟩
    have hlt : i < l.length := by omega
    have h4 : wrap64 ((i : Int) + 1) = ((i + 1 : Nat) : Int) := by rw [wrap_id (by omega) (by omega)]; omega
    simp only [watchwordref18_find.l0]
    rw [if_pos (by omega), if_pos (by omega), h4]
    by_cases c : (rd_T57 l (i : Int)).f0 = r
    · rw [if_pos c]
      exact ⟨_, rfl, .inr ⟨i, rfl, hlt, c⟩⟩
    · rw [if_neg c]
      obtain ⟨z, hz, h⟩ := ih k (i + 1) (by omega) (by omega)
      refine ⟨z, hz, ?_⟩
      rcases h with ⟨h1, h2⟩ | h
      · refine .inl ⟨h1, ?_⟩
        rw [dropU_at hlt]
        intro a ha
        rcases List.mem_cons.mp ha with rfl | ha
        · exact c
        · exact h2 a ha
      · exact .inr h
theorem told_l {l : List S57} {t : Int} {j : Nat} (hj : j < l.length) (h4 : (rd_T57 l (j : Int)).f3.length ≤ 4) : ∀ (d k i : Nat), i + d = (rd_T57 l (j : Int)).f3.length → d < k → ∃ z, watchwordref18_told.l0 k l t (j : Int) (i : Int) = some z ∧ ((∃ x ∈ (rd_T57 l (j : Int)).f3.drop i, x.f0 = t ∧ z = x.f1) ∨ (z = 0 ∧ ∀ x ∈ (rd_T57 l (j : Int)).f3.drop i, x.f0 ≠ t)) := by
  intro d
  induction d with
  | zero =>
    intro k i hi hk
    obtain ⟨k, rfl⟩ : ∃ m, k = m + 1 := ⟨k - 1, by omega⟩
    refine ⟨0, ?_, .inr ⟨rfl, by rw [List.drop_of_length_le (by omega)]; intro a ha; cases ha⟩⟩
    simp only [watchwordref18_told.l0]
    rw [if_pos (by omega), if_pos (by omega), if_neg (by omega)]
  | succ d ih =>
    intro k i hi hk
    obtain ⟨k, rfl⟩ : ∃ m, k = m + 1 := ⟨k - 1, by omega⟩
    have hlt : i < (rd_T57 l (j : Int)).f3.length := by omega
    have h5 : wrap64 ((i : Int) + 1) = ((i + 1 : Nat) : Int) := by rw [wrap_id (by omega) (by omega)]; omega
    simp only [watchwordref18_told.l0]
    rw [if_pos (by omega), if_pos (by omega), if_pos (by omega), if_pos (by omega), h5]
    by_cases c : (rd_T59 (rd_T57 l (j : Int)).f3 (i : Int)).f0 = t
    · rw [if_pos c]
      exact ⟨_, rfl, .inl ⟨_, by rw [dropL_at hlt]; exact List.mem_cons_self .., c, rfl⟩⟩
    · rw [if_neg c]
      obtain ⟨z, hz, h⟩ := ih k (i + 1) (by omega) (by omega)
      refine ⟨z, hz, ?_⟩
      rw [dropL_at hlt]
      rcases h with ⟨x, hx, h1, h2⟩ | ⟨h1, h2⟩
      · exact .inl ⟨x, List.mem_cons_of_mem _ hx, h1, h2⟩
      · refine .inr ⟨h1, ?_⟩
        intro a ha
        rcases List.mem_cons.mp ha with rfl | ha
        · exact c
        · exact h2 a ha
theorem told_f {l : List S57} (hu : upd 0 l = true) {k : Nat} (hk : 10 < k) (r t : Int) : watchwordref18_told.f k l r t = some (lkA l r t 0) := by
  have hl := upd_len hu
  obtain ⟨z, hz, h⟩ := find_l (l := l) (r := r) (by omega) l.length k 0 (by omega) (by omega)
  unfold watchwordref18_told.f watchwordref18_find.f
  rw [show watchwordref18_find.l0 k l r 0 = some z from hz]
  simp only [Option.bind_some]
  rcases h with ⟨h1, h2⟩ | ⟨j, rfl, hj, hr⟩
  · rw [if_pos h1, lkA_none l 0 h2]
  · rw [if_neg (by omega)]
    have hm := rdU_mem hj
    have hok := upd_ok l 0 hu _ hm
    obtain ⟨y, hy, h⟩ := told_l (t := t) hj (usOk_len hok) (rd_T57 l (j : Int)).f3.length k 0 (by omega) (by have := usOk_len hok; omega)
    rw [show watchwordref18_told.l0 k l t (j : Int) 0 = some y from hy, ← hr, lkA_at l 0 0 hu _ hm]
    rw [List.drop_zero] at h
    rcases h with ⟨x, hx, rfl, rfl⟩ | ⟨rfl, h2⟩
    · rw [lnk_at _ 0 0 (usOk_links hok) x hx]
    · rw [lnk_none _ 0 h2]
def O0 (k : Nat) (l : List S57) (a : Nat) (o : Mat) := watchwordref18_GraphOf.l0 k l (a : Int) (o 0 0) (o 0 1) (o 0 2) (o 0 3) (o 1 0) (o 1 1) (o 1 2) (o 1 3) (o 2 0) (o 2 1) (o 2 2) (o 2 3) (o 3 0) (o 3 1) (o 3 2) (o 3 3)
def O1 (k : Nat) (l : List S57) (a b : Nat) (o : Mat) := watchwordref18_GraphOf.l1 k l (a : Int) (b : Int) (o 0 0) (o 0 1) (o 0 2) (o 0 3) (o 1 0) (o 1 1) (o 1 2) (o 1 3) (o 2 0) (o 2 1) (o 2 2) (o 2 3) (o 3 0) (o 3 1) (o 3 2) (o 3 3)
theorem O1_step {k : Nat} (hk : 11 < k) {l : List S57} (hu : upd 0 l = true) {a b : Nat} (ha : a < 4) (hb : b < 4) (o : Mat) :
    O1 (k + 1) l a b o = O1 k l a (b + 1) (if 0 < toldA l (fun _ _ => 0) b a then upd2 o a b (toldA l (fun _ _ => 0) a b) else o) := by
  have e (i j : Nat) : lkA l ((i : Int) + 1) ((j : Int) + 1) 0 = toldA l (fun _ _ => 0) i j := (toldA_at l (upd_ok l 0 hu) (fun _ _ => 0) i j).symm
  unfold O1
  simp only [watchwordref18_GraphOf.l1]
  rw [if_pos (show (b : Int) < 4 by omega), show wrap64 ((b : Int) + 1) = (b : Int) + 1 by unfold wrap64; omega, show wrap64 ((a : Int) + 1) = (a : Int) + 1 by unfold wrap64; omega, told_f hu (by omega), told_f hu (by omega), e, e]
  simp only [Option.bind_some]
  by_cases h : 0 < toldA l (fun _ _ => 0) b a
  · rw [if_pos (show toldA l (fun _ _ => 0) b a > 0 from h), if_pos h, if_pos (show 0 ≤ (a : Int) by omega), if_pos (show (a : Int) < 4 by omega), if_pos (show 0 ≤ (b : Int) by omega)]
    obtain ⟨u1, u2, u3, u4, u5, u6, u7, u8, u9, u10, u11, u12, u13, u14, u15, u16⟩ := ups o a b (toldA l (fun _ _ => 0) a b)
    rw [u1, u2, u3, u4, u5, u6, u7, u8, u9, u10, u11, u12, u13, u14, u15, u16]
    rfl
  · rw [if_neg (show ¬ toldA l (fun _ _ => 0) b a > 0 from h), if_neg h]
    rfl
theorem O1_row {k : Nat} (hk : 11 < k) {l : List S57} (hu : upd 0 l = true) {a : Nat} (ha : a < 4) : ∀ d b o, b + d = 4 → GFill (toldA l (fun _ _ => 0)) a b o → ∃ o', GFill (toldA l (fun _ _ => 0)) (a + 1) 0 o' ∧ O1 (k + 1 + d) l a b o = O0 k l (a + 1) o'
  | 0, b, o, h, F => ⟨o, fun i j hi hj => by
      rw [F i j hi hj]
      by_cases h1 : i < a ∨ (i = a ∧ j < b)
      · rw [if_pos h1, if_pos (by omega)]
      · rw [if_neg h1, if_neg (by omega)], by
      obtain rfl : b = 4 := by omega
      unfold O1 O0
      rw [show k + 1 + 0 = k + 1 from rfl]
      simp only [watchwordref18_GraphOf.l1]
      rw [if_neg (show ¬ (((4 : Nat) : Int) < 4) by decide), next4 ha]⟩
  | d + 1, b, o, h, F => by
    obtain ⟨o', F', e⟩ := O1_row hk hu ha d (b + 1) _ (by omega) (F.step (by omega))
    exact ⟨o', F', (O1_step (show 11 < k + 1 + d by omega) hu ha (by omega) o).trans e⟩
theorem O0_all {k : Nat} (hk : 11 < k) {l : List S57} (hu : upd 0 l = true) : ∀ d a o, a + d = 4 → GFill (toldA l (fun _ _ => 0)) a 0 o → O0 (k + 1 + 6 * d) l a o = some (tup17 (outOf (toldA l (fun _ _ => 0))) 0)
  | 0, a, o, h, F => by
    obtain rfl : a = 4 := by omega
    unfold O0
    rw [show k + 1 + 6 * 0 = k + 1 from rfl]
    simp only [watchwordref18_GraphOf.l0]
    rw [if_neg (show ¬ (((4 : Nat) : Int) < 4) by decide)]
    show some (tup17 o 0) = _
    congr 1
    exact tup17_congr (fun i j hi hj => by rw [F i j hi hj, if_pos (by omega)]) 0
  | d + 1, a, o, h, F => by
    obtain ⟨o1, F1, e1⟩ := O1_row (show 11 < k + 1 + 6 * d by omega) hu (show a < 4 by omega) 4 0 o rfl F
    have e2 : O0 ((k + 1 + 6 * d + 1 + 4) + 1) l a o = O1 (k + 1 + 6 * d + 1 + 4) l a 0 o := by
      unfold O0 O1; simp only [watchwordref18_GraphOf.l0]; rw [if_pos (show (a : Int) < 4 by omega)]; rfl
    rw [show k + 1 + 6 * (d + 1) = (k + 1 + 6 * d + 1 + 4) + 1 by omega, e2, e1]
    exact O0_all hk hu d (a + 1) o1 (by omega) F1
theorem GraphOf_f {l : List S57} {M : Nat} (hn : l.length ≤ 9223372036854775807) (hM : ∀ x ∈ l, x.f3.length < M) (hM2 : M ≤ 9223372036854775807) {k : Nat} (hk : 2 * l.length + M + 12 < k) (h100 : 100 ≤ k) : watchwordref18_GraphOf.f k l = some (ofAns l) := by
  have h1 := StoreMay_l hn hM hM2 l.length k 0 (by omega) (by omega)
  unfold watchwordref18_GraphOf.f watchwordref18_StoreMay.f ofAns
  rw [show (0 : Int) = ((0 : Nat) : Int) from rfl, h1, List.drop_zero, Bool.and_comm]
  simp only [Option.bind_some]
  rw [show (upd 0 l && young l) = stOk l from rfl]
  by_cases h : stOk l = true
  · rw [if_pos h, if_pos h]
    have hu : upd 0 l = true := by unfold stOk at h; revert h; cases upd 0 l <;> simp
    obtain ⟨q, rfl⟩ : ∃ q, k = q + 1 + 6 * 4 := ⟨k - 25, by omega⟩
    exact O0_all (show 11 < q by omega) hu 4 0 (fun _ _ => 0) rfl (fun i j hi hj => by rw [if_neg (by omega)])
  · rw [if_neg h, if_neg h]
    rfl
theorem May_at {k : Nat} (hk : 25 ≤ k) (m : Mat) : graph_May.f k (m 0 0) (m 0 1) (m 0 2) (m 0 3) (m 1 0) (m 1 1) (m 1 2) (m 1 3) (m 2 0) (m 2 1) (m 2 2) (m 2 3) (m 3 0) (m 3 1) (m 3 2) (m 3 3) = some (okM m) := by
  obtain ⟨k, rfl⟩ : ∃ q, k = q + 25 := ⟨k - 25, by omega⟩
  exact May_f k (m 0 0) (m 0 1) (m 0 2) (m 0 3) (m 1 0) (m 1 1) (m 1 2) (m 1 3) (m 2 0) (m 2 1) (m 2 2) (m 2 3) (m 3 0) (m 3 1) (m 3 2) (m 3 3)
theorem num_at (x : Int) : watchwordlaw0_Num.f x = some x := rfl
theorem core {l : List S57} {M k : Nat} (m : Mat) (hM : ∀ x ∈ l, x.f3.length < M) (hn : l.length ≤ 9223372036854775807) (hM2 : M ≤ 9223372036854775807) (h1 : 2 * l.length + M + 12 < k) (h2 : 1000 ≤ k) : watchwordlaw20_Graphs.f k l (m 0 0) (m 0 1) (m 0 2) (m 0 3) (m 1 0) (m 1 1) (m 1 2) (m 1 3) (m 2 0) (m 2 1) (m 2 2) (m 2 3) (m 3 0) (m 3 1) (m 3 2) (m 3 3) = some true := by
  unfold watchwordlaw20_Graphs.f
  rw [Of_f hn hM hM2 (by omega) (by omega), GraphOf_f hn hM hM2 h1 (by omega), May_at (by omega), CostsMay_f (by omega), awake_ok (by omega)]
  generalize ofAns l = z
  simp [num_at]
theorem Graphs : ∀ (l0 : List (S57)) (a1 : Nat → Nat → Int), (l0.length * 48 ≤ 140737488351232 ∧ l0.length ≤ maxLen ∧ ∀ y ∈ l0, R57 y) → (∀ i j, i < 4 → j < 4 → (Lit.int .i64 (a1 i j)).wf = true) → ∃ k, watchwordlaw20_Graphs.f k l0 (a1 0 0) (a1 0 1) (a1 0 2) (a1 0 3) (a1 1 0) (a1 1 1) (a1 1 2) (a1 1 3) (a1 2 0) (a1 2 1) (a1 2 2) (a1 2 3) (a1 3 0) (a1 3 1) (a1 3 2) (a1 3 3) = some true := by
  intro l a1 hl _
  obtain ⟨M, hM, hM2⟩ : ∃ M : Nat, (∀ x ∈ l, x.f3.length < M) ∧ M ≤ 9223372036854775807 := ⟨8796093022209, fun x hx => by have := (hl.2.2 x hx).2.2.2.1; omega, by omega⟩
  exact ⟨2 * l.length + M + 1000, core a1 hM (by omega) hM2 (by omega) (by omega)⟩
end Go.Proofs.Ytjbejbehbjhecaa.Pure
