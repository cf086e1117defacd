/- StoreAges: tick by tick each grows older, each is gone just behind its last tick; no condition beyond the row's own. -/
import Derived.Test.YtbpoflicphgokaaQ18x108
import Derived.Test.YtbpoflicphgokaaZ18x4
namespace Go.Proofs.Ytbpoflicphgokaa.Pure
open Go.RowKit Go.Proofs.YtbpoflicphgokaaW.PrintWords Go.Proofs.YtbpoflicphgokaaW.PrintMore Go.Proofs.Ytbpoflicphgokaa.Base Go.Proofs.Ytbpoflicphgokaa.Q18 Go.Proofs.Ytbpoflicphgokaa.L18 Go.Proofs.Ytbpoflicphgokaa.O18
set_option linter.unusedVariables false
set_option linter.unusedSimpArgs false
/-- What is there t ticks later, and who went just then. -/
def stage (t : Int) : List S32 → List S32
  | [] => []
  | x :: l => if x.f2 + t < 60 then (⟨x.f0, x.f1, x.f2 + t, x.f3⟩ : S32) :: stage t l else stage t l
def left (t : Int) : List S32 → List Int
  | [] => []
  | x :: l => if x.f2 + t = 60 then x.f0 :: left t l else left t l
theorem stage_zero : ∀ {l : List S32} {p : Int}, rises sok ukey p l = true → stage 0 l = l
  | [], _, _ => rfl
  | x :: l, p, h => by
    obtain ⟨⟨h1, h2⟩, h3⟩ := rises_cons.mp h
    have := (sok_iff.1 h1).2
    unfold stage
    rw [if_pos (by omega), stage_zero h3, Int.add_zero]
theorem stage_rises : ∀ {l : List S32} {p : Int} {t : Int}, 0 ≤ t → rises sok ukey p l = true → rises sok ukey p (stage t l) = true
  | [], _, _, _, _ => rfl
  | x :: l, p, t, ht, h => by
    obtain ⟨⟨h1, h2⟩, h3⟩ := rises_cons.mp h
    have hu := sok_iff.1 h1
    have hr : 0 ≤ x.f2 := hu.1.2.2.2.2.1
    unfold stage
    by_cases c : x.f2 + t < 60
    · rw [if_pos c]
      refine rises_cons.mpr ⟨⟨sok_iff.2 ⟨⟨hu.1.1, hu.1.2.1, hu.1.2.2.1, hu.1.2.2.2.1, by show 0 ≤ x.f2 + t; omega, by show x.f2 + t ≤ 60; omega, hu.1.2.2.2.2.2.2⟩, c⟩, h2⟩, stage_rises ht h3⟩
    · rw [if_neg c]; exact rises_lower (stage_rises ht h3) (by omega)
theorem old_stage : ∀ (l : List S32) (t : Int), oldOut (stage t l) = stage (t + 1) l ∧ oldGone (stage t l) = left (t + 1) l
  | [], _ => ⟨rfl, rfl⟩
  | x :: l, t => by
    obtain ⟨i1, i2⟩ := old_stage l t
    unfold stage left
    by_cases c : x.f2 + t < 60
    · rw [if_pos c]
      unfold oldOut oldGone
      show (if x.f2 + t + 1 < 60 then _ else _) = _ ∧ (if x.f2 + t + 1 < 60 then _ else _) = _
      by_cases c2 : x.f2 + t + 1 < 60
      · rw [if_pos c2, if_pos c2, if_pos (by omega), if_neg (by omega), i1, i2]
        refine ⟨?_, rfl⟩
        unfold agd
        rw [show x.f2 + (t + 1) = x.f2 + t + 1 by omega]
      · rw [if_neg c2, if_neg c2, if_neg (by omega), if_pos (by omega), i1, i2]; exact ⟨rfl, rfl⟩
    · rw [if_neg c, if_neg (by omega), if_neg (by omega)]; exact ⟨i1, i2⟩
theorem stage_end : ∀ {l : List S32} {p : Int}, rises sok ukey p l = true → stage 60 l = []
  | [], _, _ => rfl
  | x :: l, p, h => by
    obtain ⟨⟨h1, h2⟩, h3⟩ := rises_cons.mp h
    have hr : 0 ≤ x.f2 := (sok_iff.1 h1).1.2.2.2.2.1
    unfold stage
    rw [if_neg (by omega), stage_end h3]
theorem drop_cons {α : Type} {l : List α} {i : Nat} {x : α} {r : List α} (h : l.drop i = x :: r) : ∃ hi : i < l.length, l[i] = x ∧ l.drop (i + 1) = r := by
  have hi : i < l.length := by
    by_cases hi : i < l.length
    · exact hi
    · rw [List.drop_of_length_le (by omega)] at h; cases h
  refine ⟨hi, ?_, by rw [← List.drop_drop, h]; rfl⟩
  rw [List.drop_eq_getElem_cons hi] at h
  exact (List.cons.inj h).1
theorem rd_get {l : List Int} {i : Nat} (h : i < l.length) : rd l (i : Int) = l[i] := by
  unfold rd; rw [Int.toNat_natCast, List.getD_eq_getElem?_getD, List.getElem?_eq_getElem h]; rfl
theorem drop_end {α : Type} {l : List α} {i : Nat} (h : l.drop i = []) (hi : i ≤ l.length) : i = l.length := by
  have := congrArg List.length h
  rw [List.length_drop] at this
  have : ([] : List α).length = 0 := rfl
  omega
theorem l2_all {f bs : List S32} {gn : List Int} {t : Int} (ht : 1 ≤ t ∧ t ≤ 60) (h : St f = true) (hf0 : ∀ i (hi : i < f.length), f[i].f0 = (i : Int) + 1) {K : Nat} (H : ∀ k, K ≤ k → watchwordlaw18_StoreAges.l1 k bs f (wrap64 (t + 1)) = some true) :
    ∀ (d k i a m : Nat), i + d = f.length → K + 1 + d ≤ k → a ≤ bs.length → m ≤ gn.length → bs.drop a = stage t (f.drop i) → gn.drop m = left t (f.drop i) → bs.length ≤ 100 → gn.length ≤ 100 → watchwordlaw18_StoreAges.l2 k f t bs gn (a : Int) (m : Int) (i : Int) = some true := by
  have h4 := st_len h
  intro d
  induction d with
  | zero =>
    intro k i a m hi hk ha hm hb hg hb1 hg1
    obtain ⟨k, rfl⟩ : ∃ q, k = q + 1 := ⟨k - 1, by omega⟩
    rw [List.drop_of_length_le (l := f) (by omega)] at hb hg
    have e1 := drop_end hb ha
    have e2 := drop_end hg hm
    simp only [watchwordlaw18_StoreAges.l2]
    rw [if_neg (by omega), if_pos (by omega), if_pos (by omega)]
    exact H k (by omega)
  | succ d ih =>
    intro k i a m hi hk ha hm hb hg hb1 hg1
    obtain ⟨k, rfl⟩ : ∃ q, k = q + 1 := ⟨k - 1, by omega⟩
    have hlt : i < f.length := by omega
    have hu := sok_iff.1 (rises_ok h hlt)
    have hr : 0 ≤ f[i].f2 := hu.1.2.2.2.2.1
    have h0 := hf0 i hlt
    rw [List.drop_eq_getElem_cons hlt] at hb hg
    simp only [watchwordlaw18_StoreAges.l2]
    rw [if_pos (by omega), if_pos (by omega), rdU_at hlt, show wrap64 (f[i].f2 + t) = f[i].f2 + t by rw [wrap_id (by omega) (by omega)], nx (by omega)]
    unfold stage at hb
    unfold left at hg
    by_cases c : f[i].f2 + t < 60
    · rw [if_pos c] at hb
      rw [if_neg (by omega)] at hg
      obtain ⟨hal, e1, e2⟩ := drop_cons hb
      rw [if_pos c, if_neg (by omega), if_pos (by omega), if_pos (by omega), rdU_at hal, e1, if_pos (by show f[i].f0 = ((i + 1 : Nat) : Int); omega), if_pos rfl, nx (by omega)]
      exact ih k (i + 1) (a + 1) m (by omega) (by omega) (by omega) hm e2 hg hb1 hg1
    · rw [if_neg c] at hb
      rw [if_neg c]
      by_cases c2 : f[i].f2 + t = 60
      · rw [if_pos c2] at hg
        obtain ⟨hml, e1, e2⟩ := drop_cons hg
        rw [if_pos c2, if_neg (by omega), if_pos (by omega), if_pos (by omega), rd_get hml, e1, if_pos (by omega), nx (by omega)]
        exact ih k (i + 1) a (m + 1) (by omega) (by omega) ha (by omega) hb e2 hb1 hg1
      · rw [if_neg c2] at hg
        rw [if_neg c2]
        exact ih k (i + 1) a m (by omega) (by omega) ha hm hb hg hb1 hg1
theorem left_len : ∀ (t : Int) (l : List S32), (left t l).length ≤ l.length
  | _, [] => Nat.le_refl _
  | t, x :: l => by
    have := left_len t l
    unfold left
    split <;> simp only [List.length_cons] <;> omega
theorem l1_all {f : List S32} (h : St f = true) (hf0 : ∀ i (hi : i < f.length), f[i].f0 = (i : Int) + 1) : ∀ (d t k : Nat), t + d = 61 → 1 ≤ t → 300 + 10 * d ≤ k → watchwordlaw18_StoreAges.l1 k (stage ((t : Int) - 1) f) f (t : Int) = some true := by
  have h4 := st_len h
  intro d
  induction d with
  | zero =>
    intro t k ht h1 hk
    obtain rfl : t = 61 := by omega
    obtain ⟨k, rfl⟩ : ∃ q, k = q + 1 := ⟨k - 1, by omega⟩
    simp only [watchwordlaw18_StoreAges.l1]
    rw [if_neg (by decide), show (((61 : Nat) : Int) - 1) = 60 from rfl, stage_end h]
    rfl
  | succ d ih =>
    intro t k ht h1 hk
    obtain ⟨k, rfl⟩ : ∃ q, k = q + 1 := ⟨k - 1, by omega⟩
    have hs := stage_rises (t := (t : Int) - 1) (by omega) h
    obtain ⟨o1, o2⟩ := old_stage f ((t : Int) - 1)
    rw [show (t : Int) - 1 + 1 = (t : Int) by omega] at o1 o2
    have hs2 : St (stage (t : Int) f) = true := stage_rises (t := (t : Int)) (by omega) h
    have hl2 := st_len hs2
    have hl3 := left_len (t : Int) f
    simp only [watchwordlaw18_StoreAges.l1]
    rw [if_pos (by omega), Older_f hs (by omega), o1, o2]
    simp only [Option.bind_some, num_f, if_true]
    refine l2_all (K := 300 + 10 * d) ⟨by omega, by omega⟩ h hf0 (fun k' hk' => ?_) f.length k 0 0 0 (by omega) (by omega) (Nat.zero_le _) (Nat.zero_le _) rfl rfl (by omega) (by omega)
    have := ih (t + 1) k' (by omega) (by omega) hk'
    rw [show (((t + 1 : Nat) : Int) - 1) = (t : Int) by omega] at this
    rw [nx (by omega)]
    exact this
/-- The store at the start. -/
def mk18 (a : List Int) : List S32 := (List.range a.length).map fun (i : Nat) => (⟨(i : Int) + 1, 3, a.getD i 0, []⟩ : S32)
theorem mk18_len (a : List Int) : (mk18 a).length = a.length := by simp [mk18]
theorem mk18_at (a : List Int) {i : Nat} (h : i < (mk18 a).length) : (mk18 a)[i] = ⟨(i : Int) + 1, 3, a.getD i 0, []⟩ := by simp [mk18]
theorem mk18_snoc (a : List Int) (x : Int) : mk18 (a ++ [x]) = mk18 a ++ [⟨(a.length : Int) + 1, 3, x, []⟩] := by
  unfold mk18
  rw [List.length_append, show [x].length = 1 from rfl, List.range_succ, List.map_append]
  congr 1
  · apply List.map_congr_left
    intro i hi
    have hi' := List.mem_range.1 hi
    rw [List.getD_eq_getElem?_getD, List.getElem?_append_left hi', ← List.getD_eq_getElem?_getD]
  · simp [List.getD_eq_getElem?_getD]
theorem rises_of_get {l : List S32} : ∀ (p : Int), (∀ i (h : i < l.length), sok l[i] = true ∧ ukey l[i] = p + (i : Int) + 1) → rises sok ukey p l = true := by
  induction l with
  | nil => intro p _; rfl
  | cons x l ih =>
    intro p h
    have h0 := h 0 (by simp)
    simp only [List.getElem_cons_zero] at h0
    refine rises_cons.mpr ⟨⟨h0.1, by omega⟩, ih (ukey x) (fun i hi => ?_)⟩
    have := h (i + 1) (by simp; omega)
    simp only [List.getElem_cons_succ] at this
    exact ⟨this.1, by omega⟩
theorem mk18_st {a : List Int} (hl : a.length ≤ 4) (ha : ∀ x ∈ a, 0 ≤ x ∧ x < 60) : St (mk18 a) = true := by
  refine rises_of_get 0 (fun i h => ?_)
  have hi : i < a.length := by rw [mk18_len] at h; exact h
  rw [mk18_at a h]
  have hx : a.getD i 0 ∈ a := by rw [List.getD_eq_getElem?_getD, List.getElem?_eq_getElem hi]; exact List.getElem_mem hi
  have hr := ha _ hx
  refine ⟨sok_iff.2 ⟨⟨by show (1 : Int) ≤ (i : Int) + 1; omega, by show (i : Int) + 1 ≤ 4; omega, by show (1 : Int) ≤ 3; decide, by show (3 : Int) ≤ 2147483647; decide, hr.1, by show a.getD i 0 ≤ 60; omega, rfl⟩, hr.2⟩, by show (i : Int) + 1 = 0 + (i : Int) + 1; omega⟩
theorem j1_ok {a : List Int} (hl : a.length ≤ 4) (ha : ∀ x ∈ a, 0 ≤ x ∧ x < 60) {k : Nat} (hk : 1000 ≤ k) : watchwordlaw18_StoreAges.j1 k (mk18 a) = some true := by
  obtain ⟨k, rfl⟩ : ∃ q, k = q + 1 := ⟨k - 1, by omega⟩
  have h := mk18_st hl ha
  have h4 := st_len h
  have hL := st_links h
  simp only [watchwordlaw18_StoreAges.j1]
  rw [copyLsas_f (by omega) (fun x hx => by have := hL x hx; omega) (by omega)]
  simp only [Option.bind_some]
  have := l1_all h (fun i hi => by rw [mk18_at a hi]) 60 1 k (by omega) (by omega) (by omega)
  rw [show (((1 : Nat) : Int) - 1) = 0 from rfl, stage_zero h] at this
  exact this
theorem l0_all {l0 : List Int} (hn : l0.length ≤ 17592186043904) : ∀ (d k i : Nat) (a : List Int), i + d = l0.length → 1001 + d ≤ k → a.length = i → i ≤ 4 → (∀ x ∈ a, 0 ≤ x ∧ x < 60) → watchwordlaw18_StoreAges.l0 k l0 (mk18 a) (i : Int) = some true := by
  intro d
  induction d with
  | zero =>
    intro k i a hi hk ha h4 hr
    obtain ⟨k, rfl⟩ : ∃ q, k = q + 1 := ⟨k - 1, by omega⟩
    simp only [watchwordlaw18_StoreAges.l0]
    rw [if_neg (by omega)]
    exact j1_ok (by omega) hr (by omega)
  | succ d ih =>
    intro k i a hi hk ha h4 hr
    obtain ⟨k, rfl⟩ : ∃ q, k = q + 1 := ⟨k - 1, by omega⟩
    have hm := modq (rd l0 (i : Int)) 60 (by omega)
    simp only [watchwordlaw18_StoreAges.l0]
    rw [if_pos (by omega)]
    by_cases c : (i : Int) < 4
    · rw [if_pos c, if_pos (by omega), if_pos (by rw [mk18_len]; omega), nx (by omega)]
      have e := mk18_snoc a (wrap64 (Int.tmod (IntKind.u64.wrap (rd l0 (i : Int))) 60))
      rw [ha, show (i : Int) + 1 = ((i + 1 : Nat) : Int) by omega] at e
      rw [← e]
      refine ih k (i + 1) _ (by omega) (by omega) (by simp [ha]) (by omega) (fun x hx => ?_)
      rcases List.mem_append.1 hx with hx | hx
      · exact hr x hx
      · rw [List.mem_singleton.1 hx]; exact hm
    · rw [if_neg c]; exact j1_ok (by omega) hr (by omega)
theorem core {k : Nat} (l0 : List Int) (hn : l0.length ≤ 17592186043904) (hk : l0.length + 1100 ≤ k) : watchwordlaw18_StoreAges.f k l0 = some true := by
  unfold watchwordlaw18_StoreAges.f
  rw [awake_ok (by omega)]
  simp only [Option.bind_some, if_true]
  have e := l0_all hn l0.length k 0 [] (by omega) (by omega) rfl (by omega) (fun x hx => by cases hx)
  rw [show mk18 [] = [] from rfl] at e
  exact e
theorem StoreAges : ∀ (l0 : List (Int)), (l0.length * 8 ≤ 140737488351232 ∧ l0.length ≤ maxLen ∧ ∀ y ∈ l0, (Lit.int .i64 y).wf = true) → ∃ k, watchwordlaw18_StoreAges.f k l0 = some true := by
  intro l0 h0
  obtain ⟨k, hk⟩ : ∃ k : Nat, l0.length + 1100 ≤ k := ⟨_, Nat.le_refl _⟩
  exact ⟨k, core l0 (by have := h0.1; omega) hk⟩
end Go.Proofs.Ytbpoflicphgokaa.Pure
