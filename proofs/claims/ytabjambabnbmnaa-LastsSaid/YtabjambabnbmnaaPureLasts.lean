/- Lasts: any row, number: the answers are the document's, and the row stays, with the marked room behind it; no condition beyond the row's own. -/
import Derived.Test.YtabjambabnbmnaaZ14x2
import Derived.Test.YtabjambabnbmnaaZ14x3
namespace Go.Proofs.Ytabjambabnbmnaa.Pure
open Go.RowKit Go.Proofs.YtabjambabnbmnaaW.PrintWords Go.Proofs.YtabjambabnbmnaaW.PrintLast Go.Proofs.YtabjambabnbmnaaW.PrintMore Go.Proofs.Ytabjambabnbmnaa.Base Go.Proofs.Ytabjambabnbmnaa.Q14 Go.Proofs.Ytabjambabnbmnaa.L14 Go.Proofs.Ytabjambabnbmnaa.O14
set_option linter.unusedVariables false

theorem la_next {i : Nat} (h : i ≤ 9223372036854775800) : wrap64 ((i : Int) + 1) = ((i + 1 : Nat) : Int) := by rw [wrap_id (by omega) (by omega)]; omega
theorem la_num (x : Int) : watchwordlaw0_Num.f x = some x := rfl
theorem sameL_l {l : List S24} (hn : l.length ≤ 9223372036854775800) : ∀ (d k i : Nat), i + d = l.length → d < k → watchwordlaw0_SameLasts.l0 k l l (i : Int) = some true := by
  intro d
  induction d with
  | zero =>
    intro k i hi hk
    obtain ⟨k, rfl⟩ : ∃ m, k = m + 1 := ⟨k - 1, by omega⟩
    rw [watchwordlaw0_SameLasts.l0, if_neg (by omega)]
  | succ d ih =>
    intro k i hi hk
    obtain ⟨k, rfl⟩ : ∃ m, k = m + 1 := ⟨k - 1, by omega⟩
    have h4 : wrap64 ((i : Int) + 1) = ((i + 1 : Nat) : Int) := la_next (by omega)
    rw [watchwordlaw0_SameLasts.l0, if_pos (by omega), if_pos (by omega), if_pos (by omega), if_neg (by simp), h4]
    exact ih k (i + 1) (by omega) (by omega)
theorem sameL_f {l : List S24} (hn : l.length ≤ 9223372036854775800) {k : Nat} (hk : l.length < k) : watchwordlaw0_SameLasts.f k l l = some true := by
  unfold watchwordlaw0_SameLasts.f
  rw [if_pos rfl]; exact sameL_l hn l.length k 0 (by omega) hk
theorem upTo_f (a b c : Int) : watchwordref9_upTo.f a b c = some (decide (b ≤ a ∧ a ≤ c)) := by
  unfold watchwordref9_upTo.f
  by_cases h1 : a ≥ b
  · rw [if_pos h1]; simp only [show b ≤ a from h1, true_and]
  · rw [if_neg h1, decide_eq_false (by omega)]
theorem tmay_f (x : Int) : watchwordref1_TypeMay.f x = some (decide (x = 1 ∨ x = 4 ∨ x = 5)) := by
  unfold watchwordref1_TypeMay.f
  by_cases h1 : x = 1
  · simp [h1]
  · by_cases h4 : x = 4
    · simp [h4]
    · simp only [if_neg h1, if_neg h4, h1, h4, false_or]; rfl
theorem lastMay_f (x : S24) : watchwordref9_LastMay.f x.f0 x.f1 x.f2 x.f3 = some (lok x) := by
  simp only [watchwordref9_LastMay.f, watchwordref9_routerMay.f, watchwordref9_numberMay.f, upTo_f, tmay_f, Option.bind_some, decide_eq_true_eq]
  unfold lok LastOk
  by_cases h1 : 1 ≤ x.f0 ∧ x.f0 ≤ 4
  · by_cases h2 : x.f1 = 1 ∨ x.f1 = 4 ∨ x.f1 = 5
    · by_cases h3 : 1 ≤ x.f2 ∧ x.f2 ≤ 4294967295
      · simp [h1, h2, h3]
      · simp [h1, h2, h3]
    · simp [h1, h2]
  · simp [h1]
theorem key_wrap {x : S24} (h : lok x = true) : wrap64 (wrap64 (8 * x.f0) + x.f1) = lkey x := by
  have := lok_iff.mp h
  unfold LastOk at this
  have w0 : wrap64 (8 * x.f0) = 8 * x.f0 := wrap_id (by omega) (by omega)
  rw [w0]
  exact wrap_id (by omega) (by omega)
theorem refMay_l {l : List S24} (hn : l.length ≤ 9223372036854775800) : ∀ (d k i : Nat), i + d = l.length → d < k → (∀ h : 0 < i ∧ i - 1 < l.length, lok l[i - 1] = true) →
    watchwordref9_LastsMay.l0 k l (i : Int) = some (rises lok lkey (prevL l i) (l.drop i)) := by
  intro d
  induction d with
  | zero =>
    intro k i hi hk _
    obtain ⟨k, rfl⟩ : ∃ m, k = m + 1 := ⟨k - 1, by omega⟩
    rw [watchwordref9_LastsMay.l0, if_neg (by omega), List.drop_of_length_le (by omega)]
    rfl
  | succ d ih =>
    intro k i hi hk hp
    obtain ⟨k, rfl⟩ : ∃ m, k = m + 1 := ⟨k - 1, by omega⟩
    have hlt : i < l.length := by omega
    have h4 : wrap64 ((i : Int) + 1) = ((i + 1 : Nat) : Int) := la_next (by omega)
    have ih' := ih k (i + 1) (by omega) (by omega)
    rw [watchwordref9_LastsMay.l0]
    simp only [lastMay_f, Option.bind_some, rdL_at hlt, h4]
    rw [if_pos (by omega), if_pos (by omega), List.drop_eq_getElem_cons hlt]
    have hpn : prevL l (i + 1) = lkey l[i] := by unfold prevL; rw [dif_pos ⟨by omega, by omega⟩]; rfl
    rw [hpn] at ih'
    show (if lok l[i] = true then _ else _) = some (if lok l[i] = true ∧ prevL l i < lkey l[i] then rises lok lkey (lkey l[i]) (l.drop (i + 1)) else false)
    by_cases hc : lok l[i] = true
    · rw [if_pos hc]
      have hr := lkey_range hc
      have ihc := ih' (fun _ => hc)
      by_cases h0 : (i : Int) > 0
      · have h5 : wrap64 ((i : Int) - 1) = ((i - 1 : Nat) : Int) := by rw [wrap_id (by omega) (by omega)]; omega
        have hl1 : i - 1 < l.length := by omega
        have hq := hp ⟨by omega, hl1⟩
        rw [if_pos h0, h5, if_pos (by omega), if_pos (by omega), rdL_at hl1, key_wrap hc, key_wrap hq]
        have hpv : prevL l i = lkey l[i - 1] := by unfold prevL; rw [dif_pos ⟨by omega, hl1⟩]
        rw [hpv]
        by_cases hg : lkey l[i] ≤ lkey l[i - 1]
        · rw [if_pos hg, if_neg (by omega)]
        · rw [if_neg hg, if_pos ⟨hc, by omega⟩, ihc]
      · rw [if_neg h0]
        have hpv : prevL l i = 0 := by unfold prevL; rw [dif_neg (by omega)]
        rw [hpv, if_pos ⟨hc, by omega⟩, ihc]
    · rw [if_neg hc, if_neg (fun h => hc h.1)]
theorem refMay_f {l : List S24} (hn : l.length ≤ 9223372036854775800) {k : Nat} (hk : l.length < k) : watchwordref9_LastsMay.f k l = some (rises lok lkey 0 l) :=
  refMay_l hn l.length k 0 (by omega) hk (fun h => by omega)
theorem refNewer_l {l : List S24} {x : S24} (hx : lok x = true) (hn : l.length ≤ 1000) : ∀ (d k i : Nat) (p : Int), i + d = l.length → d < k → rises lok lkey p (l.drop i) = true →
    watchwordref9_NewerLast.l0 k l (i : Int) x.f0 x.f1 x.f2 x.f3 = some (newerOf (l.drop i) x, 0) := by
  have hx' := lok_iff.mp hx
  unfold LastOk at hx'
  intro d
  induction d with
  | zero =>
    intro k i p hi hk _
    obtain ⟨k, rfl⟩ : ∃ m, k = m + 1 := ⟨k - 1, by omega⟩
    rw [watchwordref9_NewerLast.l0, if_neg (by omega), List.drop_of_length_le (by omega)]
    rfl
  | succ d ih =>
    intro k i p hi hk hr
    obtain ⟨k, rfl⟩ : ∃ m, k = m + 1 := ⟨k - 1, by omega⟩
    have hlt : i < l.length := by omega
    have h4 : wrap64 ((i : Int) + 1) = ((i + 1 : Nat) : Int) := la_next (by omega)
    rw [List.drop_eq_getElem_cons hlt] at hr ⊢
    obtain ⟨⟨o1, o2⟩, o3⟩ := rises_cons.mp hr
    have hy := lok_iff.mp o1
    unfold LastOk at hy
    have ihb := ih k (i + 1) (lkey l[i]) (by omega) (by omega) o3
    have hL : L14.look lkey (lkey x) (l[i] :: l.drop (i + 1)) = if lkey l[i] = lkey x then some l[i] else L14.look lkey (lkey x) (l.drop (i + 1)) := rfl
    have hk1 : lkey l[i] = 8 * l[i].f0 + l[i].f1 := rfl
    have hk2 : lkey x = 8 * x.f0 + x.f1 := rfl
    rw [watchwordref9_NewerLast.l0, if_pos (by omega), if_pos (by omega), rdL_at hlt, h4]
    have hno : ¬ lkey l[i] = lkey x → watchwordref9_NewerLast.l0 k l ((i + 1 : Nat) : Int) x.f0 x.f1 x.f2 x.f3 = some (newerOf (l[i] :: l.drop (i + 1)) x, 0) := by
      intro h
      rw [ihb]; unfold newerOf; rw [hL, if_neg h]
    by_cases c1 : l[i].f0 = x.f0
    · rw [if_pos c1]
      by_cases c2 : l[i].f1 = x.f1
      · rw [if_pos c2]
        unfold newerOf
        rw [hL, if_pos (show lkey l[i] = lkey x by omega)]
        simp only
        unfold newerThan
        by_cases c3 : x.f2 > l[i].f2
        · rw [if_pos c3, decide_eq_true (.inl c3)]
        · rw [if_neg c3]
          by_cases c4 : x.f2 = l[i].f2
          · rw [if_pos c4]
            congr 2
            exact decide_eq_decide.mpr (by omega)
          · rw [if_neg c4, decide_eq_false (by omega)]
      · rw [if_neg c2]; exact hno (by omega)
    · rw [if_neg c1]; exact hno (by omega)
theorem refNewer_f {l : List S24} (hn : l.length ≤ 9223372036854775800) {k : Nat} (hk : l.length + 60 < k) (x : S24) :
    watchwordref9_NewerLast.f k l x.f0 x.f1 x.f2 x.f3 = some (if rises lok lkey 0 l = true ∧ lok x = true then (newerOf l x, 0) else (false, 1400)) := by
  obtain ⟨k, rfl⟩ : ∃ q, k = q + 1 := ⟨k - 1, by omega⟩
  have ht : watchwordref9_NewerLast.j0 (k + 1) l true x.f0 x.f1 x.f2 x.f3 = some (false, 1400) := by simp [watchwordref9_NewerLast.j0]
  simp only [watchwordref9_NewerLast.f, refMay_f hn (show l.length < k + 1 by omega), lastMay_f, Option.bind_some]
  by_cases h1 : rises lok lkey 0 l = true
  · have hs := rises_short h1
    rw [if_pos h1]
    by_cases h2 : lok x = true
    · rw [if_pos ⟨h1, h2⟩, h2]
      simp only [watchwordref9_NewerLast.j0, Bool.not_true, Bool.false_eq_true, if_false]
      exact refNewer_l (l := l) h2 (by omega) l.length k 0 0 (Nat.zero_add _) (by omega) h1
    · have h2' : lok x = false := by simpa using h2
      rw [if_neg (fun h => h2 h.2), h2']; exact ht
  · rw [if_neg h1, if_neg (fun h => h1 h.1)]; exact ht
/-- Once the number is in, the others follow. -/
theorem done_l {l : List S24} {x : S24} (hx : lok x = true) (hn : l.length ≤ 1000) : ∀ (d k i : Nat) (a : List S24), i + d = l.length → 2 * d < k → a.length ≤ i + 1 → (∀ y ∈ l.drop i, lok y = true ∧ lkey y ≠ lkey x) →
    watchwordref9_WithLast.l0 k l a true (i : Int) x.f0 x.f1 x.f2 x.f3 = some (a ++ l.drop i, 0) := by
  intro d
  induction d with
  | zero =>
    intro k i a hi hk _ _
    obtain ⟨k, rfl⟩ : ∃ m, k = m + 1 := ⟨k - 1, by omega⟩
    rw [watchwordref9_WithLast.l0, if_neg (by omega), if_pos rfl, List.drop_of_length_le (by omega), List.append_nil]
  | succ d ih =>
    intro k i a hi hk ha hne
    obtain ⟨k, rfl⟩ : ∃ m, k = m + 2 := ⟨k - 2, by omega⟩
    have hlt : i < l.length := by omega
    have hd := List.drop_eq_getElem_cons hlt
    have h4 : wrap64 ((i : Int) + 1) = ((i + 1 : Nat) : Int) := la_next (by omega)
    have hf := hne l[i] (by rw [hd]; exact List.mem_cons_self)
    rw [watchwordref9_WithLast.l0, if_pos (by omega), if_pos (by omega), if_pos rfl, rdL_at hlt, key_wrap hf.1, key_wrap hx, watchwordref9_WithLast.j2]
    simp only [rdL_at hlt, h4, Bool.false_eq_true, if_false]
    rw [if_neg hf.2, if_pos (by omega), if_pos (by omega), if_pos (by omega), ih k (i + 1) _ (by omega) (by omega) (by rw [List.length_append, List.length_singleton]; omega) (fun y hy => hne y (by rw [hd]; exact List.mem_cons_of_mem _ hy)), hd, List.append_assoc]
    rfl
theorem with_l {l : List S24} {x : S24} (hx : lok x = true) (hn : l.length ≤ 1000) : ∀ (d k i : Nat) (a : List S24) (p : Int), i + d = l.length → 2 * d < k → a.length ≤ i → rises lok lkey p (l.drop i) = true →
    watchwordref9_WithLast.l0 k l a false (i : Int) x.f0 x.f1 x.f2 x.f3 = some (a ++ ins lkey x (l.drop i), 0) := by
  have hxx : (⟨x.f0, x.f1, x.f2, x.f3⟩ : S24) = x := rfl
  intro d
  induction d with
  | zero =>
    intro k i a p hi hk ha hr
    obtain ⟨k, rfl⟩ : ∃ m, k = m + 1 := ⟨k - 1, by omega⟩
    rw [watchwordref9_WithLast.l0, if_neg (by omega), if_neg (by decide), if_pos (by omega), List.drop_of_length_le (by omega)]
    rfl
  | succ d ih =>
    intro k i a p hi hk ha hr
    obtain ⟨k, rfl⟩ : ∃ m, k = m + 2 := ⟨k - 2, by omega⟩
    have hlt : i < l.length := by omega
    have hd := List.drop_eq_getElem_cons hlt
    have h4 : wrap64 ((i : Int) + 1) = ((i + 1 : Nat) : Int) := la_next (by omega)
    rw [hd] at hr ⊢
    obtain ⟨⟨o1, o2⟩, o3⟩ := rises_cons.mp hr
    have hgt : ∀ y ∈ l.drop (i + 1), lok y = true ∧ lkey l[i] < lkey y := rises_mem o3
    rw [watchwordref9_WithLast.l0, if_pos (by omega), if_pos (by omega), if_neg (by decide), rdL_at hlt, key_wrap o1, key_wrap hx, watchwordref9_WithLast.j2]
    simp only [rdL_at hlt, h4, decide_eq_true_eq, hxx]
    have hI : ins lkey x (l[i] :: l.drop (i + 1)) = if lkey l[i] < lkey x then l[i] :: ins lkey x (l.drop (i + 1)) else if lkey l[i] = lkey x then x :: l.drop (i + 1) else x :: l[i] :: l.drop (i + 1) := rfl
    by_cases c1 : lkey l[i] < lkey x
    · rw [if_neg (show ¬ lkey l[i] ≥ lkey x by omega), if_neg (show ¬ lkey l[i] = lkey x by omega), if_pos (by omega), if_pos (by omega), if_pos (by omega), ih k (i + 1) _ (lkey l[i]) (by omega) (by omega) (by rw [List.length_append, List.length_singleton]; omega) o3, hI, if_pos c1, List.append_assoc]
      rfl
    · rw [if_pos (show lkey l[i] ≥ lkey x by omega), if_pos (by omega), Option.bind_some, hI, if_neg c1]
      by_cases c2 : lkey l[i] = lkey x
      · rw [if_pos c2, if_pos c2, done_l hx hn d k (i + 1) _ (by omega) (by omega) (by rw [List.length_append, List.length_singleton]; omega) (fun y hy => ⟨(hgt y hy).1, by have := (hgt y hy).2; omega⟩), List.append_assoc]
        rfl
      · rw [if_neg c2, if_neg c2, if_pos (by omega), if_pos (by omega), if_pos (by rw [List.length_append, List.length_singleton]; omega), done_l hx hn d k (i + 1) _ (by omega) (by omega) (by simp only [List.length_append, List.length_singleton]; omega) (fun y hy => ⟨(hgt y hy).1, by have := (hgt y hy).2; omega⟩), List.append_assoc, List.append_assoc]
        rfl
theorem refWith_f {l : List S24} (hn : l.length ≤ 9223372036854775800) {k : Nat} (hk : l.length + 100 < k) (x : S24) :
    watchwordref9_WithLast.f k l x.f0 x.f1 x.f2 x.f3 = some (if rises lok lkey 0 l = true ∧ lok x = true then (ins lkey x l, 0) else ([], 1400)) := by
  obtain ⟨k, rfl⟩ : ∃ q, k = q + 1 := ⟨k - 1, by omega⟩
  have ht : watchwordref9_WithLast.j0 (k + 1) l true x.f0 x.f1 x.f2 x.f3 = some ([], 1400) := by simp [watchwordref9_WithLast.j0]
  simp only [watchwordref9_WithLast.f, refMay_f hn (show l.length < k + 1 by omega), lastMay_f, Option.bind_some]
  by_cases h1 : rises lok lkey 0 l = true
  · have hs := rises_short h1
    rw [if_pos h1]
    by_cases h2 : lok x = true
    · rw [if_pos ⟨h1, h2⟩, h2]
      simp only [watchwordref9_WithLast.j0, Bool.not_true, Bool.false_eq_true, if_false]
      exact with_l (l := l) h2 (by omega) l.length k 0 [] 0 (Nat.zero_add _) (by omega) (Nat.le_refl _) h1
    · have h2' : lok x = false := by simpa using h2
      rw [if_neg (fun h => h2 h.2), h2']; exact ht
  · rw [if_neg h1, if_neg (fun h => h1 h.1)]; exact ht
theorem spoilL : ∀ (d k i : Nat) (l : List S24), l.length ≤ 1000 → i + d = l.length → d < k → ∃ m, watchwordlaw0_SpoilLasts.l0 k l (i : Int) = some m := by
  intro d
  induction d with
  | zero =>
    intro k i l hl hi hk
    obtain ⟨k, rfl⟩ : ∃ m, k = m + 1 := ⟨k - 1, by omega⟩
    simp only [watchwordlaw0_SpoilLasts.l0]
    exact ⟨l, if_neg (by omega)⟩
  | succ d ih =>
    intro k i l hl hi hk
    obtain ⟨k, rfl⟩ : ∃ m, k = m + 1 := ⟨k - 1, by omega⟩
    have h4 : wrap64 ((i : Int) + 1) = ((i + 1 : Nat) : Int) := la_next (by omega)
    simp only [watchwordlaw0_SpoilLasts.l0, h4]
    rw [if_pos (by omega), if_pos (by omega)]
    exact ih k (i + 1) _ (by rw [List.length_set]; exact hl) (by rw [List.length_set]; omega) (by omega)
theorem keptL {l : List S24} (hn : l.length ≤ 4398046511000) {k : Nat} (hk : l.length < k) : watchwordlaw0_KeptLasts.f k l l (l ++ [(⟨77777, 0, 0, 0⟩ : S24), (⟨77777, 0, 0, 0⟩ : S24)]) = some true := by
  have h0 : rd_T24 (l ++ [(⟨77777, 0, 0, 0⟩ : S24), (⟨77777, 0, 0, 0⟩ : S24)]) (l.length : Int) = ⟨77777, 0, 0, 0⟩ := by
    unfold rd_T24; rw [Int.toNat_natCast, List.getD_eq_getElem?_getD, List.getElem?_append_right (Nat.le_refl _), Nat.sub_self]; rfl
  have h1 : rd_T24 (l ++ [(⟨77777, 0, 0, 0⟩ : S24), (⟨77777, 0, 0, 0⟩ : S24)]) ((l.length + 1 : Nat) : Int) = ⟨77777, 0, 0, 0⟩ := by
    unfold rd_T24; rw [Int.toNat_natCast, List.getD_eq_getElem?_getD, List.getElem?_append_right (Nat.le_succ _), show l.length.succ - l.length = 1 by omega]; rfl
  have w : wrap64 ((l.length : Int) + 1) = ((l.length + 1 : Nat) : Int) := la_next (by omega)
  have hl : (l ++ [(⟨77777, 0, 0, 0⟩ : S24), (⟨77777, 0, 0, 0⟩ : S24)]).length = l.length + 2 := by rw [List.length_append]; rfl
  unfold watchwordlaw0_KeptLasts.f
  rw [sameL_f (by omega) hk, Option.bind_some, if_pos rfl, w, h0, h1, hl, if_pos (by omega), if_pos (by omega), if_pos (by decide), if_pos (by omega), if_pos (by omega)]
  rfl
theorem lasts_end {l a : List S24} {k : Nat} (hn : l.length ≤ 4398046511000) (hk : l.length + 1000 < k) (ha : a.length ≤ 1000) :
    watchwordlaw14_Lasts.j0 (k + 1) l (l ++ [(⟨77777, 0, 0, 0⟩ : S24), (⟨77777, 0, 0, 0⟩ : S24)]) l a false = some true := by
  obtain ⟨m1, h1⟩ := spoilL a.length k 0 a ha (by omega) (by omega)
  rw [watchwordlaw14_Lasts.j0, if_neg (by decide), show watchwordlaw0_SpoilLasts.f k a = some m1 from h1, Option.bind_some, keptL hn (by omega), Option.bind_some, if_pos rfl, awake_ok (by omega), Option.bind_some]
theorem Lasts : ∀ (l0 : List (S24)) (a1_0 : Int) (a1_1 : Int) (a1_2 : Int) (a1_3 : Int), (l0.length * 32 ≤ 140737488351232 ∧ l0.length ≤ maxLen ∧ ∀ y ∈ l0, R24 y) → (Lit.int .i64 a1_0).wf = true → (Lit.int .i64 a1_1).wf = true → (Lit.int .i64 a1_2).wf = true → (Lit.int .i64 a1_3).wf = true → ∃ k, watchwordlaw14_Lasts.f k l0 a1_0 a1_1 a1_2 a1_3 = some true := by
  intro l b0 b1 b2 b3 hl _ _ _ _
  refine ⟨l.length + 1003, ?_⟩
  have hn : l.length ≤ 4398046511000 := by omega
  clear hl
  have hn' : l.length ≤ 9223372036854775800 := by omega
  generalize hk : l.length + 1003 = k0
  obtain ⟨k, rfl⟩ : ∃ q, k0 = q + 1 := ⟨k0 - 1, by omega⟩
  have h1 : l.length + 100 < k + 1 := by omega
  have h2 : l.length < k + 1 := by omega
  have h3 : l.length + 60 < k + 1 := by omega
  have h4 : l.length + 3 < k + 1 := by omega
  have h5 : l.length + 1000 < k := by omega
  obtain ⟨x, rfl, rfl, rfl, rfl⟩ : ∃ x : S24, x.f0 = b0 ∧ x.f1 = b1 ∧ x.f2 = b2 ∧ x.f3 = b3 := ⟨⟨b0, b1, b2, b3⟩, rfl, rfl, rfl, rfl⟩
  have hA : (if rises lok lkey 0 l = true ∧ lok x = true then (ins lkey x l, (0 : Int)) else ([], 1400)).1.length ≤ 1000 := by
    by_cases h : rises lok lkey 0 l = true ∧ lok x = true
    · rw [if_pos h]
      have := rises_short h.1
      have := ins_length (key := lkey) l x
      show (ins lkey x l).length ≤ 1000
      omega
    · rw [if_neg h]; exact Nat.zero_le _
  unfold watchwordlaw14_Lasts.f
  rw [if_pos hn]
  unfold watchwordlaw14_Lasts.g
  rw [last_Newer_f hn' h3, refNewer_f hn' h3, last_With_f hn' h3, refWith_f hn' h1, last_May_f hn' h4, refMay_f hn' h2]
  generalize (if rises lok lkey 0 l = true ∧ lok x = true then (ins lkey x l, (0 : Int)) else ([], 1400)) = A at hA ⊢
  generalize (if rises lok lkey 0 l = true ∧ lok x = true then (newerOf l x, (0 : Int)) else (false, 1400)) = B
  generalize rises lok lkey 0 l = M
  clear hn' h1 h2 h3 h4
  simp only [Option.bind_some, la_num]
  rw [if_neg (by simp), if_pos trivial, sameL_f (by omega) (by omega), Option.bind_some, if_pos rfl, if_pos trivial]
  rw [show (M != M) = false by cases M <;> rfl]
  exact lasts_end hn h5 hA

end Go.Proofs.Ytabjambabnbmnaa.Pure
