/- Chains: any keys, key, number, time: the answers are the document's, and the keys stay, with the marked room behind them; no condition beyond the row's own. -/
import Derived.Test.YtabjambabnbmnaaZ5x4
namespace Go.Proofs.Ytabjambabnbmnaa.Pure
open Go.RowKit Go.Proofs.YtabjambabnbmnaaW.PrintWords Go.Proofs.YtabjambabnbmnaaW.PrintLast Go.Proofs.YtabjambabnbmnaaW.PrintMore Go.Proofs.Ytabjambabnbmnaa.Base Go.Proofs.Ytabjambabnbmnaa.Q5 Go.Proofs.Ytabjambabnbmnaa.L5 Go.Proofs.Ytabjambabnbmnaa.O5
set_option linter.unusedVariables false

theorem ck_num (x : Int) : watchwordlaw0_Num.f x = some x := rfl
theorem sameK_l {l : List S50} (hn : l.length ≤ 9223372036854775800) : ∀ (d k i : Nat), i + d = l.length → d < k → watchwordlaw0_SameKeys.l0 k l l (i : Int) = some true := by
  intro d
  induction d with
  | zero =>
    intro k i hi hk
    obtain ⟨k, rfl⟩ : ∃ m, k = m + 1 := ⟨k - 1, by omega⟩
    rw [watchwordlaw0_SameKeys.l0, if_neg (by omega)]
  | succ d ih =>
    intro k i hi hk
    obtain ⟨k, rfl⟩ : ∃ m, k = m + 1 := ⟨k - 1, by omega⟩
    have h4 : wrap64 ((i : Int) + 1) = ((i + 1 : Nat) : Int) := next_wrap (by omega)
    rw [watchwordlaw0_SameKeys.l0, if_pos (by omega), if_pos (by omega), if_pos (by omega), if_neg (by simp), h4]
    exact ih k (i + 1) (by omega) (by omega)
theorem sameK_f {l : List S50} (hn : l.length ≤ 9223372036854775800) {k : Nat} (hk : l.length < k) : watchwordlaw0_SameKeys.f k l l = some true := by
  unfold watchwordlaw0_SameKeys.f
  rw [if_pos rfl]; exact sameK_l hn l.length k 0 (by omega) hk
theorem upTo_f (a b c : Int) : watchwordref1_upTo.f a b c = some (decide (b ≤ a ∧ a ≤ c)) := by
  unfold watchwordref1_upTo.f
  by_cases h1 : a ≥ b
  · rw [if_pos h1]; simp only [show b ≤ a from h1, true_and]
  · rw [if_neg h1, decide_eq_false (by omega)]
theorem nowMay_f (a : Int) : watchwordref1_nowMay.f a = some (decide (0 ≤ a ∧ a ≤ 1048576)) := by
  unfold watchwordref1_nowMay.f
  rw [upTo_f]; rfl
theorem keyMay_f (x : S50) : watchwordref1_KeyMay.f x.f0 x.f1 x.f2 x.f3 x.f4 x.f5 = some (kok x) := by
  have hs : (1 ≤ (x.f1.size : Int) ∧ (x.f1.size : Int) ≤ 32) ↔ (1 ≤ x.f1.size ∧ x.f1.size ≤ 32) := by omega
  simp only [watchwordref1_KeyMay.f, upTo_f, nowMay_f, Option.bind_some, decide_eq_true_eq, hs]
  unfold kok KeyOk
  by_cases h1 : 0 ≤ x.f0 ∧ x.f0 ≤ 255
  · by_cases h2 : 1 ≤ x.f1.size ∧ x.f1.size ≤ 32
    · by_cases h3 : 0 ≤ x.f2 ∧ x.f2 ≤ 1048576
      · by_cases h4 : 0 ≤ x.f3 ∧ x.f3 ≤ 1048576
        · by_cases h5 : 0 ≤ x.f4 ∧ x.f4 ≤ 1048576
          · simp [h1, h2, h3, h4, h5]
          · simp [h1, h2, h3, h4, h5]
        · simp [h1, h2, h3, h4]
      · simp [h1, h2, h3]
    · simp [h1, h2]
  · simp [h1]
theorem refMay_l {l : List S50} (hn : l.length ≤ 9223372036854775800) : ∀ (d k i : Nat), i + d = l.length → d < k →
    watchwordref1_ChainMay.l0 k l (i : Int) = some (rises kok kkey (prevK l i) (l.drop i) && decide (l.length ≤ 4)) := by
  intro d
  induction d with
  | zero =>
    intro k i hi hk
    obtain ⟨k, rfl⟩ : ∃ m, k = m + 1 := ⟨k - 1, by omega⟩
    rw [watchwordref1_ChainMay.l0, if_neg (by omega), List.drop_of_length_le (by omega)]
    show some (decide ((l.length : Int) ≤ 4)) = some (true && decide (l.length ≤ 4))
    rw [Bool.true_and]; congr 1; exact decide_eq_decide.mpr (by omega)
  | succ d ih =>
    intro k i hi hk
    obtain ⟨k, rfl⟩ : ∃ m, k = m + 1 := ⟨k - 1, by omega⟩
    have hlt : i < l.length := by omega
    have h4 : wrap64 ((i : Int) + 1) = ((i + 1 : Nat) : Int) := next_wrap (by omega)
    have ih' := ih k (i + 1) (by omega) (by omega)
    rw [watchwordref1_ChainMay.l0]
    simp only [rdK_at hlt, keyMay_f, Option.bind_some, h4]
    rw [if_pos (by omega), if_pos (by omega), List.drop_eq_getElem_cons hlt]
    have hpn : prevK l (i + 1) = kkey l[i] := by unfold prevK; rw [dif_pos ⟨by omega, by omega⟩]; rfl
    rw [hpn] at ih'
    show _ = some ((if kok l[i] = true ∧ prevK l i < kkey l[i] then rises kok kkey (kkey l[i]) (l.drop (i + 1)) else false) && decide (l.length ≤ 4))
    by_cases hc : kok l[i] = true
    · rw [if_pos hc]
      have hr := kkey_range hc
      by_cases h0 : (i : Int) > 0
      · have h5 : wrap64 ((i : Int) - 1) = ((i - 1 : Nat) : Int) := by rw [wrap_id (by omega) (by omega)]; omega
        have hl1 : i - 1 < l.length := by omega
        rw [if_pos h0, h5, if_pos (by omega), if_pos (by omega), rdK_at hl1]
        have hpv : prevK l i = kkey l[i - 1] := by unfold prevK; rw [dif_pos ⟨by omega, hl1⟩]
        rw [hpv]
        unfold kkey at hr ih' ⊢
        by_cases hg : l[i].f0 ≤ l[i - 1].f0
        · rw [if_pos hg, if_neg (by omega), Bool.false_and]
        · rw [if_neg hg, if_pos ⟨hc, by omega⟩, ih']
      · rw [if_neg h0]
        have hpv : prevK l i = -1 := by unfold prevK; rw [dif_neg (by omega)]
        rw [hpv, if_pos ⟨hc, by omega⟩, ih']
    · rw [if_neg hc, if_neg (fun h => hc h.1), Bool.false_and]
theorem refMay_f {l : List S50} (hn : l.length ≤ 9223372036854775800) {k : Nat} (hk : l.length < k) : watchwordref1_ChainMay.f k l = some (chainOk l) :=
  refMay_l hn l.length k 0 (by omega) hk
/-- What is told of a whole row. -/
def toldK (a : List S50) : List S50 × Int := if (a.length : Int) > 4 then ([], 500) else (a, 0)
/-- Once the key is in, the others follow. -/
theorem done_l {l : List S50} {x : S50} (hn : l.length ≤ 1000) : ∀ (d k i : Nat) (a : List S50), i + d = l.length → 2 * d < k → a.length ≤ i + 1 → (∀ y ∈ l.drop i, y.f0 ≠ x.f0) →
    watchwordref1_WithKey.l0 k l a true (i : Int) x.f0 x.f1 x.f2 x.f3 x.f4 x.f5 = some (toldK (a ++ l.drop i)) := by
  intro d
  induction d with
  | zero =>
    intro k i a hi hk _ _
    obtain ⟨k, rfl⟩ : ∃ m, k = m + 1 := ⟨k - 1, by omega⟩
    rw [watchwordref1_WithKey.l0, if_neg (by omega), if_pos rfl, List.drop_of_length_le (by omega), List.append_nil]
    unfold toldK
    split <;> rfl
  | succ d ih =>
    intro k i a hi hk ha hne
    obtain ⟨k, rfl⟩ : ∃ m, k = m + 2 := ⟨k - 2, by omega⟩
    have hlt : i < l.length := by omega
    have hd := List.drop_eq_getElem_cons hlt
    have h4 : wrap64 ((i : Int) + 1) = ((i + 1 : Nat) : Int) := next_wrap (by omega)
    have hf := hne l[i] (by rw [hd]; exact List.mem_cons_self)
    rw [watchwordref1_WithKey.l0, if_pos (by omega), if_pos rfl, watchwordref1_WithKey.j2]
    simp only [rdK_at hlt, h4, Bool.false_eq_true, if_false]
    rw [if_pos (by omega), if_pos (by omega), if_neg hf, if_pos (by omega), ih k (i + 1) _ (by omega) (by omega) (by rw [List.length_append, List.length_singleton]; omega) (fun y hy => hne y (by rw [hd]; exact List.mem_cons_of_mem _ hy)), hd, List.append_assoc]
    rfl
theorem with_l {l : List S50} {x : S50} (hn : l.length ≤ 1000) : ∀ (d k i : Nat) (a : List S50) (p : Int), i + d = l.length → 2 * d < k → a.length ≤ i → rises kok kkey p (l.drop i) = true →
    watchwordref1_WithKey.l0 k l a false (i : Int) x.f0 x.f1 x.f2 x.f3 x.f4 x.f5 = some (toldK (a ++ ins kkey x (l.drop i))) := by
  have hx : (⟨x.f0, x.f1, x.f2, x.f3, x.f4, x.f5⟩ : S50) = x := rfl
  intro d
  induction d with
  | zero =>
    intro k i a p hi hk ha hr
    obtain ⟨k, rfl⟩ : ∃ m, k = m + 1 := ⟨k - 1, by omega⟩
    rw [watchwordref1_WithKey.l0, if_neg (by omega), if_neg (by decide), if_pos (by omega), List.drop_of_length_le (by omega), Option.bind_some]
    show _ = some (toldK (a ++ [x]))
    rw [hx]
    unfold toldK
    split <;> rfl
  | succ d ih =>
    intro k i a p hi hk ha hr
    obtain ⟨k, rfl⟩ : ∃ m, k = m + 2 := ⟨k - 2, by omega⟩
    have hlt : i < l.length := by omega
    have hd := List.drop_eq_getElem_cons hlt
    have h4 : wrap64 ((i : Int) + 1) = ((i + 1 : Nat) : Int) := next_wrap (by omega)
    rw [hd] at hr ⊢
    obtain ⟨⟨o1, o2⟩, o3⟩ := rises_cons.mp hr
    have hgt : ∀ y ∈ l.drop (i + 1), l[i].f0 < y.f0 := fun y hy => (rises_mem o3 y hy).2
    rw [watchwordref1_WithKey.l0, if_pos (by omega), if_neg (by decide), if_pos (by omega), rdK_at hlt, watchwordref1_WithKey.j2]
    simp only [rdK_at hlt, h4, decide_eq_true_eq, hx]
    have hI : ins kkey x (l[i] :: l.drop (i + 1)) = if l[i].f0 < x.f0 then l[i] :: ins kkey x (l.drop (i + 1)) else if l[i].f0 = x.f0 then x :: l.drop (i + 1) else x :: l[i] :: l.drop (i + 1) := rfl
    by_cases c1 : l[i].f0 < x.f0
    · rw [if_neg (by omega), if_pos (by omega), if_pos (by omega), if_neg (by omega), if_pos (by omega), ih k (i + 1) _ (kkey l[i]) (by omega) (by omega) (by rw [List.length_append, List.length_singleton]; omega) o3, hI, if_pos c1, List.append_assoc]
      rfl
    · rw [if_pos (by omega), if_pos (by omega), Option.bind_some, if_pos (by omega), if_pos (by omega), hI, if_neg c1]
      by_cases c2 : l[i].f0 = x.f0
      · rw [if_pos c2, if_pos c2, done_l hn d k (i + 1) _ (by omega) (by omega) (by rw [List.length_append, List.length_singleton]; omega) (fun y hy => by have := hgt y hy; omega), List.append_assoc]
        rfl
      · rw [if_neg c2, if_neg c2, if_pos (by rw [List.length_append, List.length_singleton]; omega), done_l hn d k (i + 1) _ (by omega) (by omega) (by simp only [List.length_append, List.length_singleton]; omega) (fun y hy => by have := hgt y hy; omega), List.append_assoc, List.append_assoc]
        rfl
theorem ins_len : ∀ {l : List S50} {p : Int} {x : S50}, rises kok kkey p l = true → (ins kkey x l).length = if (L5.look kkey (kkey x) l).isSome = true then l.length else l.length + 1 := by
  intro l
  induction l with
  | nil => intro p x _; rfl
  | cons y l ih =>
    intro p x h
    obtain ⟨⟨o1, o2⟩, o3⟩ := rises_cons.mp h
    have hI : ins kkey x (y :: l) = if kkey y < kkey x then y :: ins kkey x l else if kkey y = kkey x then x :: l else x :: y :: l := rfl
    have hL : L5.look kkey (kkey x) (y :: l) = if kkey y = kkey x then some y else L5.look kkey (kkey x) l := rfl
    rw [hI, hL]
    by_cases c1 : kkey y < kkey x
    · rw [if_pos c1, if_neg (show ¬ kkey y = kkey x by omega), List.length_cons, ih o3]
      split <;> rfl
    · rw [if_neg c1]
      by_cases c2 : kkey y = kkey x
      · rw [if_pos c2, if_pos c2]; rfl
      · rw [if_neg c2, if_neg (show ¬ kkey y = kkey x from c2), look_lt o3 (by omega)]; rfl
theorem withKey_f {l : List S50} (hn : l.length ≤ 9223372036854775800) {k : Nat} (hk : l.length + 30 < k) (x : S50) :
    watchwordref1_WithKey.f k l x.f0 x.f1 x.f2 x.f3 x.f4 x.f5 = some (withK l x) := by
  obtain ⟨k, rfl⟩ : ∃ q, k = q + 2 := ⟨k - 2, by omega⟩
  have ht : watchwordref1_WithKey.j0 (k + 2) l true x.f0 x.f1 x.f2 x.f3 x.f4 x.f5 = some ([], 500) := by simp [watchwordref1_WithKey.j0]
  simp only [watchwordref1_WithKey.f, refMay_f hn (show l.length < k + 2 by omega), keyMay_f, Option.bind_some]
  unfold withK
  by_cases h1 : chainOk l = true
  · rw [if_pos h1]
    obtain ⟨hr, hl4⟩ := chainOk_iff.mp h1
    by_cases h2 : kok x = true
    · rw [h2]
      simp only [watchwordref1_WithKey.j0, Bool.not_true, Bool.false_eq_true, if_false]
      have H : watchwordref1_WithKey.l0 (k + 1) l [] false 0 x.f0 x.f1 x.f2 x.f3 x.f4 x.f5 = some (toldK (ins kkey x l)) :=
        with_l (l := l) (x := x) (by omega) l.length (k + 1) 0 [] (-1) (Nat.zero_add _) (by omega) (Nat.le_refl _) hr
      rw [H]
      unfold toldK
      have hL := ins_len (x := x) hr
      by_cases h3 : (L5.look kkey (kkey x) l).isSome = true
      · rw [if_pos h3] at hL
        rw [if_neg (by omega), if_pos ⟨h1, trivial, .inl h3⟩]
      · rw [if_neg h3] at hL
        by_cases h4 : l.length = 4
        · rw [if_pos (by omega), if_neg (fun h => by
            rcases h.2.2 with h | h
            · exact h3 h
            · exact h h4)]
        · rw [if_neg (by omega), if_pos ⟨h1, trivial, .inr h4⟩]
    · have h2' : kok x = false := by simpa using h2
      rw [if_neg (fun h => h2 h.2.1), h2']; exact ht
  · rw [if_neg h1, if_neg (fun h => h1 h.1)]; exact ht
theorem refSend_l {l : List S50} {now : Int} (hn : l.length ≤ 1000) : ∀ (d k i : Nat) (b : Option S50) (q : Int), i + d = l.length → d < k → ((b = none ∧ q = -1) ∨ ∃ m, ∃ h : m < l.length, q = (m : Int) ∧ b = some l[m]) →
    watchwordref1_SendKey.l0 k l now q (i : Int) = some (tup (send now b (l.drop i))) := by
  intro d
  induction d with
  | zero =>
    intro k i b q hi hk hq
    obtain ⟨k, rfl⟩ : ∃ m, k = m + 1 := ⟨k - 1, by omega⟩
    rw [watchwordref1_SendKey.l0, if_neg (by omega), List.drop_of_length_le (by omega)]
    rcases hq with ⟨rfl, rfl⟩ | ⟨m, hm, rfl, rfl⟩
    · rfl
    · rw [if_neg (by omega), if_pos (by omega), if_pos (by omega), rdK_at hm]; rfl
  | succ d ih =>
    intro k i b q hi hk hq
    obtain ⟨k, rfl⟩ : ∃ m, k = m + 1 := ⟨k - 1, by omega⟩
    have hlt : i < l.length := by omega
    have h4 : wrap64 ((i : Int) + 1) = ((i + 1 : Nat) : Int) := next_wrap (by omega)
    have ihb := ih k (i + 1) b q (by omega) (by omega) hq
    have ihs := ih k (i + 1) (some l[i]) (i : Int) (by omega) (by omega) (.inr ⟨i, hlt, rfl, rfl⟩)
    rw [watchwordref1_SendKey.l0, if_pos (by omega), if_pos (by omega), rdK_at hlt, h4, List.drop_eq_getElem_cons hlt]
    show _ = some (tup (send now (if l[i].f2 ≤ now ∧ now < l[i].f3 ∧ late b l[i] = true then some l[i] else b) (l.drop (i + 1))))
    by_cases c1 : l[i].f2 ≤ now
    · rw [if_pos c1]
      by_cases c2 : now < l[i].f3
      · rw [if_pos c2]
        rcases hq with ⟨rfl, rfl⟩ | ⟨m, hm, rfl, rfl⟩
        · rw [if_pos (by omega), if_pos ⟨c1, c2, rfl⟩]; exact ihs
        · rw [if_neg (by omega), if_pos (by omega), if_pos (by omega), rdK_at hm]
          by_cases c3 : l[i].f2 ≥ l[m].f2
          · rw [if_pos c3, if_pos ⟨c1, c2, decide_eq_true c3⟩]; exact ihs
          · rw [if_neg c3, if_neg (fun h => c3 (of_decide_eq_true h.2.2))]; exact ihb
      · rw [if_neg c2, if_neg (fun h => c2 h.2.1)]; exact ihb
    · rw [if_neg c1, if_neg (fun h => c1 h.1)]; exact ihb
theorem sendKey_f {l : List S50} (hn : l.length ≤ 9223372036854775800) {k : Nat} (hk : l.length + 20 < k) (now : Int) :
    watchwordref1_SendKey.f k l now = some (if chainOk l = true ∧ 0 ≤ now ∧ now ≤ 1048576 then tup (send now none l) else tupForm) := by
  obtain ⟨k, rfl⟩ : ∃ q, k = q + 1 := ⟨k - 1, by omega⟩
  have ht : watchwordref1_SendKey.j0 (k + 1) l now true = some tupForm := by simp [watchwordref1_SendKey.j0, tupForm]
  simp only [watchwordref1_SendKey.f, refMay_f hn (show l.length < k + 1 by omega), nowMay_f, Option.bind_some]
  by_cases h1 : chainOk l = true
  · rw [if_pos h1]
    obtain ⟨hr, hl4⟩ := chainOk_iff.mp h1
    by_cases h2 : 0 ≤ now ∧ now ≤ 1048576
    · rw [if_pos ⟨h1, h2⟩, decide_eq_true h2]
      simp only [watchwordref1_SendKey.j0, Bool.not_true, Bool.false_eq_true, if_false]
      exact refSend_l (by omega) l.length k 0 none (-1) (by omega) (by omega) (.inl ⟨rfl, rfl⟩)
    · rw [if_neg (fun h => h2 h.2), decide_eq_false h2]; exact ht
  · rw [if_neg h1, if_neg (fun h => h1 h.1)]; exact ht
theorem refAccept_l {l : List S50} {id now : Int} (hn : l.length ≤ 1000) : ∀ (d k i : Nat) (p : Int), i + d = l.length → d < k → rises kok kkey p (l.drop i) = true →
    watchwordref1_AcceptKey.l0 k l id now (i : Int) = some (tup (accept id now (l.drop i))) := by
  intro d
  induction d with
  | zero =>
    intro k i p hi hk _
    obtain ⟨k, rfl⟩ : ∃ m, k = m + 1 := ⟨k - 1, by omega⟩
    rw [watchwordref1_AcceptKey.l0, if_neg (by omega), List.drop_of_length_le (by omega)]
    rfl
  | succ d ih =>
    intro k i p hi hk hr
    obtain ⟨k, rfl⟩ : ∃ m, k = m + 1 := ⟨k - 1, by omega⟩
    have hlt : i < l.length := by omega
    have h4 : wrap64 ((i : Int) + 1) = ((i + 1 : Nat) : Int) := next_wrap (by omega)
    rw [List.drop_eq_getElem_cons hlt] at hr ⊢
    obtain ⟨⟨o1, o2⟩, o3⟩ := rises_cons.mp hr
    have ihb := ih k (i + 1) (kkey l[i]) (by omega) (by omega) o3
    have hL : L5.look kkey id (l[i] :: l.drop (i + 1)) = if l[i].f0 = id then some l[i] else L5.look kkey id (l.drop (i + 1)) := rfl
    rw [watchwordref1_AcceptKey.l0, if_pos (by omega), if_pos (by omega), rdK_at hlt, h4]
    by_cases c1 : l[i].f0 = id
    · have hno : L5.look kkey id (l.drop (i + 1)) = none := look_lt o3 (by unfold kkey; omega)
      have h0 : accept id now (l.drop (i + 1)) = none := by unfold accept; rw [hno]
      rw [h0] at ihb
      rw [if_pos c1]
      unfold accept
      rw [hL, if_pos c1]
      simp only
      by_cases c2 : l[i].f4 ≤ now
      · rw [if_pos c2]
        by_cases c3 : now < l[i].f5
        · rw [if_pos c3, if_neg (by omega)]; rfl
        · rw [if_neg c3, if_pos (by omega)]; exact ihb
      · rw [if_neg c2, if_pos (by omega)]; exact ihb
    · have h0 : accept id now (l[i] :: l.drop (i + 1)) = accept id now (l.drop (i + 1)) := by unfold accept; rw [hL, if_neg c1]
      rw [if_neg c1, h0]; exact ihb
theorem acceptKey_f {l : List S50} (hn : l.length ≤ 9223372036854775800) {k : Nat} (hk : l.length + 20 < k) (id now : Int) :
    watchwordref1_AcceptKey.f k l id now = some (if chainOk l = true ∧ 0 ≤ now ∧ now ≤ 1048576 then tup (accept id now l) else tupForm) := by
  obtain ⟨k, rfl⟩ : ∃ q, k = q + 1 := ⟨k - 1, by omega⟩
  have ht : watchwordref1_AcceptKey.j0 (k + 1) l id now true = some tupForm := by simp [watchwordref1_AcceptKey.j0, tupForm]
  simp only [watchwordref1_AcceptKey.f, refMay_f hn (show l.length < k + 1 by omega), nowMay_f, Option.bind_some]
  by_cases h1 : chainOk l = true
  · rw [if_pos h1]
    obtain ⟨hr, hl4⟩ := chainOk_iff.mp h1
    by_cases h2 : 0 ≤ now ∧ now ≤ 1048576
    · rw [if_pos ⟨h1, h2⟩, decide_eq_true h2]
      simp only [watchwordref1_AcceptKey.j0, Bool.not_true, Bool.false_eq_true, if_false]
      exact refAccept_l (by omega) l.length k 0 (-1) (by omega) (by omega) hr
    · rw [if_neg (fun h => h2 h.2), decide_eq_false h2]; exact ht
  · rw [if_neg h1, if_neg (fun h => h1 h.1)]; exact ht
theorem spoilK : ∀ (d k i : Nat) (l : List S50), l.length ≤ 1000 → i + d = l.length → d < k → ∃ m, watchwordlaw0_SpoilKeys.l0 k l (i : Int) = some m := by
  intro d
  induction d with
  | zero =>
    intro k i l hl hi hk
    obtain ⟨k, rfl⟩ : ∃ m, k = m + 1 := ⟨k - 1, by omega⟩
    simp only [watchwordlaw0_SpoilKeys.l0]
    exact ⟨l, if_neg (by omega)⟩
  | succ d ih =>
    intro k i l hl hi hk
    obtain ⟨k, rfl⟩ : ∃ m, k = m + 1 := ⟨k - 1, by omega⟩
    have h4 : wrap64 ((i : Int) + 1) = ((i + 1 : Nat) : Int) := next_wrap (by omega)
    simp only [watchwordlaw0_SpoilKeys.l0, h4]
    rw [if_pos (by omega), if_pos (by omega)]
    exact ih k (i + 1) _ (by rw [List.length_set]; exact hl) (by rw [List.length_set]; omega) (by omega)
theorem keptK {l : List S50} (hn : l.length ≤ 2513169434900) {k : Nat} (hk : l.length < k) : watchwordlaw0_KeptKeys.f k l l (l ++ [(⟨77777, ⟨#[]⟩, 0, 0, 0, 0⟩ : S50), (⟨77777, ⟨#[]⟩, 0, 0, 0, 0⟩ : S50)]) = some true := by
  have h0 : rd_T50 (l ++ [(⟨77777, ⟨#[]⟩, 0, 0, 0, 0⟩ : S50), (⟨77777, ⟨#[]⟩, 0, 0, 0, 0⟩ : S50)]) (l.length : Int) = ⟨77777, ⟨#[]⟩, 0, 0, 0, 0⟩ := by
    unfold rd_T50; rw [Int.toNat_natCast, List.getD_eq_getElem?_getD, List.getElem?_append_right (Nat.le_refl _), Nat.sub_self]; rfl
  have h1 : rd_T50 (l ++ [(⟨77777, ⟨#[]⟩, 0, 0, 0, 0⟩ : S50), (⟨77777, ⟨#[]⟩, 0, 0, 0, 0⟩ : S50)]) ((l.length + 1 : Nat) : Int) = ⟨77777, ⟨#[]⟩, 0, 0, 0, 0⟩ := by
    unfold rd_T50; rw [Int.toNat_natCast, List.getD_eq_getElem?_getD, List.getElem?_append_right (Nat.le_succ _), show l.length.succ - l.length = 1 by omega]; rfl
  have w : wrap64 ((l.length : Int) + 1) = ((l.length + 1 : Nat) : Int) := next_wrap (by omega)
  have hl : (l ++ [(⟨77777, ⟨#[]⟩, 0, 0, 0, 0⟩ : S50), (⟨77777, ⟨#[]⟩, 0, 0, 0, 0⟩ : S50)]).length = l.length + 2 := by rw [List.length_append]; rfl
  have hm : ((⟨77777, ⟨#[]⟩, 0, 0, 0, 0⟩ : S50).f0 == 77777 && ((⟨77777, ⟨#[]⟩, 0, 0, 0, 0⟩ : S50).f1.toList.isEmpty && ((⟨77777, ⟨#[]⟩, 0, 0, 0, 0⟩ : S50).f2 == 0 && ((⟨77777, ⟨#[]⟩, 0, 0, 0, 0⟩ : S50).f3 == 0 && ((⟨77777, ⟨#[]⟩, 0, 0, 0, 0⟩ : S50).f4 == 0 && (⟨77777, ⟨#[]⟩, 0, 0, 0, 0⟩ : S50).f5 == 0))))) = true := by decide +kernel
  unfold watchwordlaw0_KeptKeys.f
  rw [sameK_f (by omega) hk, Option.bind_some, if_pos rfl, w, h0, h1, hl, if_pos (by omega), if_pos (by omega), if_pos hm, if_pos (by omega), if_pos (by omega), hm]
theorem chains_end {l a : List S50} {k : Nat} (hn : l.length ≤ 2513169434900) (hk : l.length + 1000 < k) (ha : a.length ≤ 1000) :
    watchwordlaw5_Chains.j0 (k + 1) l (l ++ [(⟨77777, ⟨#[]⟩, 0, 0, 0, 0⟩ : S50), (⟨77777, ⟨#[]⟩, 0, 0, 0, 0⟩ : S50)]) l a false = some true := by
  obtain ⟨m1, h1⟩ := spoilK a.length k 0 a ha (by omega) (by omega)
  rw [watchwordlaw5_Chains.j0, if_neg (by decide), show watchwordlaw0_SpoilKeys.f k a = some m1 from h1, Option.bind_some, keptK hn (by omega), Option.bind_some, if_pos rfl, awake_ok (by omega), Option.bind_some]
theorem Chains : ∀ (l0 : List (S50)) (a1_0 : Int) (a1_1 : ByteArray) (a1_2 : Int) (a1_3 : Int) (a1_4 : Int) (a1_5 : Int) (a2 : Int) (a3 : Int), (l0.length * 56 ≤ 140737488351232 ∧ l0.length ≤ maxLen ∧ ∀ y ∈ l0, R50 y) → (Lit.int .i64 a1_0).wf = true → a1_1.size ≤ 140737488351232 → (Lit.int .i64 a1_2).wf = true → (Lit.int .i64 a1_3).wf = true → (Lit.int .i64 a1_4).wf = true → (Lit.int .i64 a1_5).wf = true → (Lit.int .i64 a2).wf = true → (Lit.int .i64 a3).wf = true → ∃ k, watchwordlaw5_Chains.f k l0 a1_0 a1_1 a1_2 a1_3 a1_4 a1_5 a2 a3 = some true := by
  intro l b0 b1 b2 b3 b4 b5 id now hl _ _ _ _ _ _ hid _
  have h63 : -9223372036854775808 ≤ id ∧ id ≤ 9223372036854775807 := by
    have hid' : (decide ((-9223372036854775808 : Int) ≤ id) && decide (id ≤ (9223372036854775807 : Int))) = true := hid
    simpa using hid'
  refine ⟨l.length + 1003, ?_⟩
  have hn : l.length ≤ 2513169434900 := by omega
  clear hl
  have hn' : l.length ≤ 9223372036854775800 := by omega
  generalize hk : l.length + 1003 = k0
  obtain ⟨k, rfl⟩ : ∃ q, k0 = q + 1 := ⟨k0 - 1, by omega⟩
  have h1 : l.length + 30 < k + 1 := by omega
  have h2 : l.length < k + 1 := by omega
  have h3 : l.length + 20 < k + 1 := by omega
  have h5 : l.length + 1000 < k := by omega
  obtain ⟨x, rfl, rfl, rfl, rfl, rfl, rfl⟩ : ∃ x : S50, x.f0 = b0 ∧ x.f1 = b1 ∧ x.f2 = b2 ∧ x.f3 = b3 ∧ x.f4 = b4 ∧ x.f5 = b5 := ⟨⟨b0, b1, b2, b3, b4, b5⟩, rfl, rfl, rfl, rfl, rfl, rfl⟩
  have hA : (withK l x).1.length ≤ 1000 := by
    unfold withK
    by_cases h : chainOk l = true ∧ kok x = true ∧ ((L5.look kkey (kkey x) l).isSome = true ∨ l.length ≠ 4)
    · rw [if_pos h]
      have := (chainOk_iff.mp h.1).2
      have := ins_length (key := kkey) l x
      show (ins kkey x l).length ≤ 1000
      omega
    · rw [if_neg h]; exact Nat.zero_le _
  unfold watchwordlaw5_Chains.f
  rw [if_pos hn]
  unfold watchwordlaw5_Chains.g
  rw [chain_With_f hn' h3, withKey_f hn' h1, chain_Send_f hn' h3, sendKey_f hn' h3, chain_Accept_f hn' h3 h63, acceptKey_f hn' h3, chain_May_f hn' h2, refMay_f hn' h2]
  generalize withK l x = A at hA ⊢
  generalize (if chainOk l = true ∧ 0 ≤ now ∧ now ≤ 1048576 then tup (send now none l) else tupForm) = B
  generalize (if chainOk l = true ∧ 0 ≤ now ∧ now ≤ 1048576 then tup (accept id now l) else tupForm) = C
  generalize chainOk l = M
  clear hn' h1 h2 h3 h63
  simp only [Option.bind_some, ck_num]
  rw [sameK_f (by omega) (by omega), Option.bind_some, if_pos rfl, if_pos trivial, if_neg (by simp), if_pos trivial, if_neg (by simp), if_pos trivial]
  rw [show (M != M) = false by cases M <;> rfl]
  exact chains_end hn h5 hA

end Go.Proofs.Ytabjambabnbmnaa.Pure
