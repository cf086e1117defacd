/- Nears: any list, router: the answers are the document's, and the list stays, with the marked room behind it; no condition beyond the row's own. -/
import Derived.Test.YtnfoldgialdhjaaZ19x5
namespace Go.Proofs.Ytnfoldgialdhjaa.Pure
open Go.RowKit Go.Proofs.YtnfoldgialdhjaaW.PrintWords Go.Proofs.YtnfoldgialdhjaaW.PrintLast Go.Proofs.YtnfoldgialdhjaaW.PrintMore Go.Proofs.Ytnfoldgialdhjaa.Base Go.Proofs.Ytnfoldgialdhjaa.Q19 Go.Proofs.Ytnfoldgialdhjaa.L19 Go.Proofs.Ytnfoldgialdhjaa.O19
set_option linter.unusedVariables false

theorem nr_num (x : Int) : watchwordlaw0_Num.f x = some x := rfl
theorem sameN_l {l : List S46} (hn : l.length ≤ 9223372036854775800) : ∀ (d k i : Nat), i + d = l.length → d < k → watchwordlaw0_SameNears.l0 k l l (i : Int) = some true := by
  intro d
  induction d with
  | zero =>
    intro k i hi hk
    obtain ⟨k, rfl⟩ : ∃ m, k = m + 1 := ⟨k - 1, by omega⟩
    rw [watchwordlaw0_SameNears.l0, if_neg (by omega)]
  | succ d ih =>
    intro k i hi hk
    obtain ⟨k, rfl⟩ : ∃ m, k = m + 1 := ⟨k - 1, by omega⟩
    have h4 : wrap64 ((i : Int) + 1) = ((i + 1 : Nat) : Int) := next_wrap (by omega)
    rw [watchwordlaw0_SameNears.l0, if_pos (by omega), if_pos (by omega), if_pos (by omega), if_neg (by simp), h4]
    exact ih k (i + 1) (by omega) (by omega)
theorem sameN_f {l : List S46} (hn : l.length ≤ 9223372036854775800) {k : Nat} (hk : l.length < k) : watchwordlaw0_SameNears.f k l l = some true := by
  unfold watchwordlaw0_SameNears.f
  rw [if_pos rfl]; exact sameN_l hn l.length k 0 (by omega) hk
theorem sameI_l {l : List Int} (hn : l.length ≤ 9223372036854775800) : ∀ (d k i : Nat), i + d = l.length → d < k → watchwordlaw0_SameInts.l0 k l l (i : Int) = some true := by
  intro d
  induction d with
  | zero =>
    intro k i hi hk
    obtain ⟨k, rfl⟩ : ∃ m, k = m + 1 := ⟨k - 1, by omega⟩
    rw [watchwordlaw0_SameInts.l0, if_neg (by omega)]
  | succ d ih =>
    intro k i hi hk
    obtain ⟨k, rfl⟩ : ∃ m, k = m + 1 := ⟨k - 1, by omega⟩
    have h4 : wrap64 ((i : Int) + 1) = ((i + 1 : Nat) : Int) := next_wrap (by omega)
    rw [watchwordlaw0_SameInts.l0, if_pos (by omega), if_pos (by omega), if_pos (by omega), if_pos rfl, h4]
    exact ih k (i + 1) (by omega) (by omega)
theorem sameI_f {l : List Int} (hn : l.length ≤ 9223372036854775800) {k : Nat} (hk : l.length < k) : watchwordlaw0_SameInts.f k l l = some true := by
  unfold watchwordlaw0_SameInts.f
  rw [if_pos rfl]; exact sameI_l hn l.length k 0 (by omega) hk
theorem upTo_f (a b c : Int) : watchwordref18_upTo.f a b c = some (decide (b ≤ a ∧ a ≤ c)) := by
  unfold watchwordref18_upTo.f
  by_cases h1 : a ≥ b
  · rw [if_pos h1]; simp only [show b ≤ a from h1, true_and]
  · rw [if_neg h1, decide_eq_false (by omega)]
theorem rmay_f (a : Int) : watchwordref18_routerMay.f a = some (decide (1 ≤ a ∧ a ≤ 4)) := by
  unfold watchwordref18_routerMay.f
  rw [upTo_f]; rfl
theorem refMay_l {l : List S46} (hn : l.length ≤ 9223372036854775800) : ∀ (d k i : Nat), i + d = l.length → d < k →
    watchwordref18_NearsMay.l0 k l (i : Int) = some (rises nok nkey (prevN l i) (l.drop i)) := by
  intro d
  induction d with
  | zero =>
    intro k i hi hk
    obtain ⟨k, rfl⟩ : ∃ m, k = m + 1 := ⟨k - 1, by omega⟩
    rw [watchwordref18_NearsMay.l0, if_neg (by omega), List.drop_of_length_le (by omega)]
    rfl
  | succ d ih =>
    intro k i hi hk
    obtain ⟨k, rfl⟩ : ∃ m, k = m + 1 := ⟨k - 1, by omega⟩
    have hlt : i < l.length := by omega
    have h4 : wrap64 ((i : Int) + 1) = ((i + 1 : Nat) : Int) := next_wrap (by omega)
    have ih' := ih k (i + 1) (by omega) (by omega)
    rw [watchwordref18_NearsMay.l0]
    simp only [rmay_f, upTo_f, Option.bind_some, rdN_at hlt, h4]
    rw [if_pos (by omega), if_pos (by omega), List.drop_eq_getElem_cons hlt]
    have hpn : prevN l (i + 1) = nkey l[i] := by unfold prevN; rw [dif_pos ⟨by omega, by omega⟩]; rfl
    rw [hpn] at ih'
    show _ = some (if nok l[i] = true ∧ prevN l i < nkey l[i] then rises nok nkey (nkey l[i]) (l.drop (i + 1)) else false)
    have hT : nok l[i] = true → (if ((i : Nat) : Int) > 0 then if 0 ≤ wrap64 ((i : Int) - 1) then if wrap64 ((i : Int) - 1) < (l.length : Int) then if l[i].f0 ≤ (rd_T46 l (wrap64 ((i : Int) - 1))).f0 then some false else watchwordref18_NearsMay.l0 k l ((i + 1 : Nat) : Int) else none else none else watchwordref18_NearsMay.l0 k l ((i + 1 : Nat) : Int)) = some (if nok l[i] = true ∧ prevN l i < nkey l[i] then rises nok nkey (nkey l[i]) (l.drop (i + 1)) else false) := by
      intro hc
      have hr := nkey_range hc
      by_cases h0 : (i : Int) > 0
      · have h5 : wrap64 ((i : Int) - 1) = ((i - 1 : Nat) : Int) := by rw [wrap_id (by omega) (by omega)]; omega
        have hl1 : i - 1 < l.length := by omega
        rw [if_pos h0, h5, if_pos (by omega), if_pos (by omega), rdN_at hl1]
        have hpv : prevN l i = nkey l[i - 1] := by unfold prevN; rw [dif_pos ⟨by omega, hl1⟩]
        rw [hpv]
        unfold nkey at hr ih' ⊢
        by_cases hg : l[i].f0 ≤ l[i - 1].f0
        · rw [if_pos hg, if_neg (by omega)]
        · rw [if_neg hg, if_pos ⟨hc, by omega⟩, ih']
      · rw [if_neg h0]
        have hpv : prevN l i = 0 := by unfold prevN; rw [dif_neg (by omega)]
        rw [hpv, if_pos ⟨hc, by omega⟩, ih']
    have hno : ¬ NearOk l[i] → some false = some (if nok l[i] = true ∧ prevN l i < nkey l[i] then rises nok nkey (nkey l[i]) (l.drop (i + 1)) else false) := fun h => by rw [if_neg (fun hh => h (nok_iff.mp hh.1))]
    by_cases h1 : 1 ≤ l[i].f0 ∧ l[i].f0 ≤ 4
    · rw [if_pos (decide_eq_true h1)]
      by_cases h2 : l[i].f1 = 1
      · rw [if_pos h2]
        by_cases h3 : 1 ≤ l[i].f2 ∧ l[i].f2 ≤ 16
        · rw [if_pos (decide_eq_true h3)]; exact hT (nok_iff.mpr (by unfold NearOk; omega))
        · rw [decide_eq_false h3, if_neg (by decide)]; exact hno (by unfold NearOk; omega)
      · rw [if_neg h2]
        by_cases h2' : l[i].f1 = 2
        · rw [if_pos h2']
          by_cases h3 : 1 ≤ l[i].f2 ∧ l[i].f2 ≤ 16
          · rw [if_pos (decide_eq_true h3)]; exact hT (nok_iff.mpr (by unfold NearOk; omega))
          · rw [decide_eq_false h3, if_neg (by decide)]; exact hno (by unfold NearOk; omega)
        · rw [if_neg h2']; exact hno (by unfold NearOk; omega)
    · rw [if_neg (by simp only [decide_eq_true_eq]; exact h1)]; exact hno (fun h => h1 h.1)
theorem refMay_f {l : List S46} (hn : l.length ≤ 9223372036854775800) {k : Nat} (hk : l.length < k) : watchwordref18_NearsMay.f k l = some (rises nok nkey 0 l) :=
  refMay_l hn l.length k 0 (by omega) hk
/-- Once the router is in, the others follow. -/
theorem done_l {l : List S46} {r st : Int} {t : Bool} (hn : l.length ≤ 1000) : ∀ (d k i : Nat) (a : List S46), i + d = l.length → 2 * d < k → a.length ≤ i + 1 → (∀ x ∈ l.drop i, x.f0 ≠ r) →
    watchwordref18_HeardOf.l0 k l r a true t (i : Int) r st 16 = some (a ++ l.drop i, t, 0) := by
  intro d
  induction d with
  | zero =>
    intro k i a hi hk _ _
    obtain ⟨k, rfl⟩ : ∃ m, k = m + 1 := ⟨k - 1, by omega⟩
    rw [watchwordref18_HeardOf.l0, if_neg (by omega), if_pos rfl, List.drop_of_length_le (by omega), List.append_nil]
  | succ d ih =>
    intro k i a hi hk ha hne
    obtain ⟨k, rfl⟩ : ∃ m, k = m + 2 := ⟨k - 2, by omega⟩
    have hlt : i < l.length := by omega
    have hd := List.drop_eq_getElem_cons hlt
    have h4 : wrap64 ((i : Int) + 1) = ((i + 1 : Nat) : Int) := next_wrap (by omega)
    have hf := hne l[i] (by rw [hd]; exact List.mem_cons_self)
    rw [watchwordref18_HeardOf.l0, if_pos (by omega), if_pos rfl, watchwordref18_HeardOf.j3]
    simp only [rdN_at hlt, h4, Bool.false_eq_true, if_false]
    rw [if_pos (by omega), if_pos (by omega), if_neg hf, if_pos (by omega), ih k (i + 1) _ (by omega) (by omega) (by rw [List.length_append, List.length_singleton]; omega) (fun x hx => hne x (by rw [hd]; exact List.mem_cons_of_mem _ hx)), hd, List.append_assoc]
    rfl
theorem heard_l {l : List S46} {r st : Int} (hn : l.length ≤ 1000) : ∀ (d k i : Nat) (a : List S46) (p : Int), i + d = l.length → 2 * d < k → a.length ≤ i → rises nok nkey p (l.drop i) = true →
    watchwordref18_HeardOf.l0 k l r a false true (i : Int) r st 16 = some (a ++ ins nkey ⟨r, st, 16⟩ (l.drop i), turnedOf (l.drop i) r st, 0) := by
  have hkey : nkey (⟨r, st, 16⟩ : S46) = r := rfl
  intro d
  induction d with
  | zero =>
    intro k i a p hi hk ha hr
    obtain ⟨k, rfl⟩ : ∃ m, k = m + 1 := ⟨k - 1, by omega⟩
    rw [watchwordref18_HeardOf.l0, if_neg (by omega), if_neg (by decide), if_pos (by omega), List.drop_of_length_le (by omega)]
    rfl
  | succ d ih =>
    intro k i a p hi hk ha hr
    obtain ⟨k, rfl⟩ : ∃ m, k = m + 2 := ⟨k - 2, by omega⟩
    have hlt : i < l.length := by omega
    have hd := List.drop_eq_getElem_cons hlt
    have h4 : wrap64 ((i : Int) + 1) = ((i + 1 : Nat) : Int) := next_wrap (by omega)
    rw [hd] at hr ⊢
    obtain ⟨⟨o1, o2⟩, o3⟩ := rises_cons.mp hr
    have n1 : nkey l[i] = l[i].f0 := rfl
    have hgt : ∀ x ∈ l.drop (i + 1), l[i].f0 < x.f0 := fun x hx => (rises_mem o3 x hx).2
    rw [watchwordref18_HeardOf.l0, if_pos (by omega), if_neg (by decide), if_pos (by omega), rdN_at hlt, watchwordref18_HeardOf.j3]
    simp only [rdN_at hlt, h4, decide_eq_true_eq]
    have hI : ins nkey (⟨r, st, 16⟩ : S46) (l[i] :: l.drop (i + 1)) = if l[i].f0 < r then l[i] :: ins nkey ⟨r, st, 16⟩ (l.drop (i + 1)) else if l[i].f0 = r then ⟨r, st, 16⟩ :: l.drop (i + 1) else ⟨r, st, 16⟩ :: l[i] :: l.drop (i + 1) := rfl
    have hL : L19.look nkey r (l[i] :: l.drop (i + 1)) = if l[i].f0 = r then some l[i] else L19.look nkey r (l.drop (i + 1)) := rfl
    by_cases c1 : l[i].f0 < r
    · rw [if_neg (by omega), if_pos (by omega), if_pos (by omega), if_neg (by omega), if_pos (by omega), ih k (i + 1) _ (nkey l[i]) (by omega) (by omega) (by rw [List.length_append, List.length_singleton]; omega) o3, hI, if_pos c1, List.append_assoc]
      unfold turnedOf
      rw [hL, if_neg (show ¬ l[i].f0 = r by omega)]
      rfl
    · rw [if_pos (by omega), if_pos (by omega), Option.bind_some, if_pos (by omega), if_pos (by omega), hI, if_neg c1]
      unfold turnedOf
      rw [hL]
      by_cases c2 : l[i].f0 = r
      · rw [if_pos c2, if_pos c2, if_pos c2, done_l hn d k (i + 1) _ (by omega) (by omega) (by rw [List.length_append, List.length_singleton]; omega) (fun x hx => by have := hgt x hx; omega), List.append_assoc]
        rfl
      · have hno : L19.look nkey r (l.drop (i + 1)) = none := look_lt o3 (by omega)
        rw [if_neg c2, if_neg c2, if_neg c2, if_pos (by rw [List.length_append, List.length_singleton]; omega), done_l hn d k (i + 1) _ (by omega) (by omega) (by simp only [List.length_append, List.length_singleton]; omega) (fun x hx => by have := hgt x hx; omega), hno, List.append_assoc, List.append_assoc]
        rfl
theorem heardOf_f {l : List S46} (hn : l.length ≤ 9223372036854775800) {k : Nat} (hk : l.length + 30 < k) (r : Int) (both : Bool) :
    watchwordref18_HeardOf.f k l r both = some (if rises nok nkey 0 l = true ∧ 1 ≤ r ∧ r ≤ 4 then (ins nkey ⟨r, stOf both, 16⟩ l, turnedOf l r (stOf both), 0) else ([], false, 1900)) := by
  obtain ⟨k, rfl⟩ : ∃ q, k = q + 2 := ⟨k - 2, by omega⟩
  have ht : watchwordref18_HeardOf.j0 (k + 2) l r both true = some ([], false, 1900) := by simp [watchwordref18_HeardOf.j0]
  simp only [watchwordref18_HeardOf.f, refMay_f hn (show l.length < k + 2 by omega), rmay_f, Option.bind_some]
  by_cases h1 : rises nok nkey 0 l = true
  · have hs := rises_short h1
    rw [if_pos h1]
    by_cases h2 : 1 ≤ r ∧ r ≤ 4
    · rw [if_pos ⟨h1, h2⟩, decide_eq_true h2]
      simp only [watchwordref18_HeardOf.j0, watchwordref18_HeardOf.j1, Bool.not_true, Bool.false_eq_true, if_false]
      have H : ∀ st, watchwordref18_HeardOf.l0 k l r [] false true 0 r st 16 = some (ins nkey ⟨r, st, 16⟩ l, turnedOf l r st, 0) := fun st =>
        heard_l (l := l) (r := r) (st := st) (by omega) l.length k 0 [] 0 (Nat.zero_add _) (by omega) (Nat.le_refl _) h1
      cases both
      · exact H 1
      · exact H 2
    · rw [if_neg (fun h => h2 h.2), decide_eq_false h2]; exact ht
  · rw [if_neg h1, if_neg (fun h => h1 h.1)]; exact ht
theorem refTick_l {l : List S46} {p : Int} (hr : rises nok nkey p l = true) (hn : l.length ≤ 1000) : ∀ (d k i : Nat) (a : List S46) (g : List Int), i + d = l.length → d < k → a.length ≤ i → g.length ≤ i →
    watchwordref18_TickNears.l0 k l a g (i : Int) = some (a ++ tickOut (l.drop i), g ++ tickGone (l.drop i), 0) := by
  intro d
  induction d with
  | zero =>
    intro k i a g hi hk _ _
    obtain ⟨k, rfl⟩ : ∃ m, k = m + 1 := ⟨k - 1, by omega⟩
    rw [watchwordref18_TickNears.l0, if_neg (by omega), List.drop_of_length_le (by omega)]
    simp [tickOut, tickGone]
  | succ d ih =>
    intro k i a g hi hk ha hg
    obtain ⟨k, rfl⟩ : ∃ m, k = m + 1 := ⟨k - 1, by omega⟩
    have hlt : i < l.length := by omega
    have h4 : wrap64 ((i : Int) + 1) = ((i + 1 : Nat) : Int) := next_wrap (by omega)
    have hx := nok_iff.mp (rises_ok hr hlt)
    unfold NearOk at hx
    have h5 : wrap64 (l[i].f2 - 1) = l[i].f2 - 1 := wrap_id (by omega) (by omega)
    rw [watchwordref18_TickNears.l0]
    simp only [rdN_at hlt, h4, h5]
    clear h4 h5
    rw [if_pos (by omega), if_pos (by omega), List.drop_eq_getElem_cons hlt]
    by_cases hc : 1 < l[i].f2
    · rw [if_neg (by omega), if_pos (by omega), ih k (i + 1) _ g (by omega) (by omega) (by simp; omega) (by omega), tickOut_cons, tickGone_cons, if_pos hc, if_pos hc, List.append_assoc]
      rfl
    · rw [if_pos (by omega), if_pos (by omega), ih k (i + 1) a _ (by omega) (by omega) (by omega) (by simp; omega), tickOut_cons, tickGone_cons, if_neg hc, if_neg hc, List.append_assoc]
      rfl
theorem refTick_f {l : List S46} (hn : l.length ≤ 9223372036854775800) {k : Nat} (hk : l.length + 10 < k) :
    watchwordref18_TickNears.f k l = some (if rises nok nkey 0 l = true then (tickOut l, tickGone l, 0) else ([], [], 1900)) := by
  simp only [watchwordref18_TickNears.f, refMay_f hn (show l.length < k by omega), Option.bind_some]
  by_cases h1 : rises nok nkey 0 l = true
  · have hs := rises_short h1
    rw [if_pos h1, if_pos h1]
    have := refTick_l h1 (by omega) l.length k 0 [] [] (by omega) (by omega) (Nat.le_refl _) (Nat.le_refl _)
    simpa using this
  · rw [if_neg h1, if_neg h1]
theorem refFull_l {l : List S46} (hr : rises nok nkey 0 l = true) (hn : l.length ≤ 1000) : ∀ (d k i : Nat) (a : List Int), i + d = l.length → 2 * d + l.length + 5 < k → a.length ≤ i →
    watchwordref18_FullOf.l0 k l a (i : Int) = some (a ++ ((l.drop i).filter fun x => x.f1 == 2).map fun x => x.f0) := by
  intro d
  induction d with
  | zero =>
    intro k i a hi hk _
    obtain ⟨k, rfl⟩ : ∃ m, k = m + 2 := ⟨k - 2, by omega⟩
    rw [watchwordref18_FullOf.l0, if_neg (by omega), watchwordref18_FullOf.j1, if_neg (by decide), List.drop_of_length_le (by omega)]
    simp
  | succ d ih =>
    intro k i a hi hk ha
    obtain ⟨k, rfl⟩ : ∃ m, k = m + 2 := ⟨k - 2, by omega⟩
    have hlt : i < l.length := by omega
    have h4 : wrap64 ((i : Int) + 1) = ((i + 1 : Nat) : Int) := next_wrap (by omega)
    rw [watchwordref18_FullOf.l0, if_pos (by omega), refMay_f (by omega) (by omega), hr, Option.bind_some, watchwordref18_FullOf.j1, if_pos rfl, if_pos (by omega), if_pos (by omega), rdN_at hlt, h4, List.drop_eq_getElem_cons hlt, List.filter_cons]
    by_cases hc : l[i].f1 = 2
    · rw [if_pos hc, if_pos (by omega), ih k (i + 1) _ (by omega) (by omega) (by rw [List.length_append, List.length_singleton]; omega), if_pos (by simp [hc]), List.map_cons, List.append_assoc]
      rfl
    · rw [if_neg hc, ih k (i + 1) _ (by omega) (by omega) (by omega), if_neg (by simp [hc])]
theorem refFull_f {l : List S46} (hn : l.length ≤ 9223372036854775800) {k : Nat} (hk : l.length + 30 < k) : watchwordref18_FullOf.f k l = some (fullOf l) := by
  unfold watchwordref18_FullOf.f fullOf
  by_cases h1 : rises nok nkey 0 l = true
  · have hs := rises_short h1
    rw [if_pos h1]
    have := refFull_l h1 (by omega) l.length k 0 [] (by omega) (by omega) (Nat.le_refl _)
    simpa using this
  · obtain ⟨k, rfl⟩ : ∃ q, k = q + 2 := ⟨k - 2, by omega⟩
    have h1' : rises nok nkey 0 l = false := by simpa using h1
    rw [if_neg h1, watchwordref18_FullOf.l0, refMay_f hn (by omega), h1', Option.bind_some, watchwordref18_FullOf.j1]
    have h0 : watchwordref18_FullOf.j1 (k + 1) l [] 0 false = some [] := by rw [watchwordref18_FullOf.j1, if_neg (by decide)]
    simp only [Bool.false_eq_true, if_false, h0]
    split <;> rfl
theorem spoilN : ∀ (d k i : Nat) (l : List S46), l.length ≤ 1000 → i + d = l.length → d < k → ∃ m, watchwordlaw0_SpoilNears.l0 k l (i : Int) = some m := by
  intro d
  induction d with
  | zero =>
    intro k i l hl hi hk
    obtain ⟨k, rfl⟩ : ∃ m, k = m + 1 := ⟨k - 1, by omega⟩
    simp only [watchwordlaw0_SpoilNears.l0]
    exact ⟨l, if_neg (by omega)⟩
  | succ d ih =>
    intro k i l hl hi hk
    obtain ⟨k, rfl⟩ : ∃ m, k = m + 1 := ⟨k - 1, by omega⟩
    have h4 : wrap64 ((i : Int) + 1) = ((i + 1 : Nat) : Int) := next_wrap (by omega)
    simp only [watchwordlaw0_SpoilNears.l0, h4]
    rw [if_pos (by omega), if_pos (by omega)]
    exact ih k (i + 1) _ (by rw [List.length_set]; exact hl) (by rw [List.length_set]; omega) (by omega)
theorem spoilI : ∀ (d k i : Nat) (l : List Int), l.length ≤ 1000 → i + d = l.length → d < k → ∃ m, watchwordlaw0_SpoilInts.l0 k l (i : Int) = some m := by
  intro d
  induction d with
  | zero =>
    intro k i l hl hi hk
    obtain ⟨k, rfl⟩ : ∃ m, k = m + 1 := ⟨k - 1, by omega⟩
    simp only [watchwordlaw0_SpoilInts.l0]
    exact ⟨l, if_neg (by omega)⟩
  | succ d ih =>
    intro k i l hl hi hk
    obtain ⟨k, rfl⟩ : ∃ m, k = m + 1 := ⟨k - 1, by omega⟩
    have h4 : wrap64 ((i : Int) + 1) = ((i + 1 : Nat) : Int) := next_wrap (by omega)
    simp only [watchwordlaw0_SpoilInts.l0, h4]
    rw [if_pos (by omega), if_pos (by omega)]
    exact ih k (i + 1) _ (by rw [List.length_set]; exact hl) (by rw [List.length_set]; omega) (by omega)
theorem keptN {l : List S46} (hn : l.length ≤ 5864062014700) {k : Nat} (hk : l.length < k) : watchwordlaw0_KeptNears.f k l l (l ++ [(⟨77777, 0, 0⟩ : S46), (⟨77777, 0, 0⟩ : S46)]) = some true := by
  have h0 : rd_T46 (l ++ [(⟨77777, 0, 0⟩ : S46), (⟨77777, 0, 0⟩ : S46)]) (l.length : Int) = ⟨77777, 0, 0⟩ := by
    unfold rd_T46; rw [Int.toNat_natCast, List.getD_eq_getElem?_getD, List.getElem?_append_right (Nat.le_refl _), Nat.sub_self]; rfl
  have h1 : rd_T46 (l ++ [(⟨77777, 0, 0⟩ : S46), (⟨77777, 0, 0⟩ : S46)]) ((l.length + 1 : Nat) : Int) = ⟨77777, 0, 0⟩ := by
    unfold rd_T46; rw [Int.toNat_natCast, List.getD_eq_getElem?_getD, List.getElem?_append_right (Nat.le_succ _), show l.length.succ - l.length = 1 by omega]; rfl
  have w : wrap64 ((l.length : Int) + 1) = ((l.length + 1 : Nat) : Int) := next_wrap (by omega)
  have hl : (l ++ [(⟨77777, 0, 0⟩ : S46), (⟨77777, 0, 0⟩ : S46)]).length = l.length + 2 := by rw [List.length_append]; rfl
  unfold watchwordlaw0_KeptNears.f
  rw [sameN_f (by omega) hk, Option.bind_some, if_pos rfl, w, h0, h1, hl, if_pos (by omega), if_pos (by omega), if_pos (by decide), if_pos (by omega), if_pos (by omega)]
  rfl
theorem nears_end {l a c : List S46} {u : List Int} {k : Nat} (hn : l.length ≤ 5864062014700) (hk : l.length + 1000 < k) (ha : a.length ≤ 1000) (hc : c.length ≤ 1000) (hu : u.length ≤ 1000) :
    watchwordlaw19_Nears.j0 (k + 1) l (l ++ [(⟨77777, 0, 0⟩ : S46), (⟨77777, 0, 0⟩ : S46)]) l a c u false = some true := by
  obtain ⟨m1, h1⟩ := spoilN a.length k 0 a ha (by omega) (by omega)
  obtain ⟨m2, h2⟩ := spoilN c.length k 0 c hc (by omega) (by omega)
  obtain ⟨m3, h3⟩ := spoilI u.length k 0 u hu (by omega) (by omega)
  rw [watchwordlaw19_Nears.j0, if_neg (by decide), show watchwordlaw0_SpoilNears.f k a = some m1 from h1, Option.bind_some, show watchwordlaw0_SpoilNears.f k c = some m2 from h2, Option.bind_some, show watchwordlaw0_SpoilInts.f k u = some m3 from h3, Option.bind_some,
    keptN hn (by omega), Option.bind_some, if_pos rfl, awake_ok (by omega), Option.bind_some]
theorem Nears : ∀ (l0 : List (S46)) (a1 : Int) (a2 : Bool), (l0.length * 24 ≤ 140737488351232 ∧ l0.length ≤ maxLen ∧ ∀ y ∈ l0, R46 y) → (Lit.int .i64 a1).wf = true → ∃ k, watchwordlaw19_Nears.f k l0 a1 a2 = some true := by
  intro l r both hl _
  refine ⟨l.length + 1003, ?_⟩
  have hn : l.length ≤ 5864062014700 := by
    omega
  clear hl
  have hn' : l.length ≤ 9223372036854775800 := by omega
  generalize hk : l.length + 1003 = k0
  obtain ⟨k, rfl⟩ : ∃ q, k0 = q + 1 := ⟨k0 - 1, by omega⟩
  have h1 : l.length + 30 < k + 1 := by omega
  have h2 : l.length < k + 1 := by omega
  have h3 : l.length + 20 < k + 1 := by omega
  have h4 : l.length + 10 < k + 1 := by omega
  have h5 : l.length + 1000 < k := by omega
  have hA : (if rises nok nkey 0 l = true ∧ 1 ≤ r ∧ r ≤ 4 then (ins nkey ⟨r, stOf both, 16⟩ l, turnedOf l r (stOf both), (0 : Int)) else ([], false, 1900)).1.length ≤ 1000 := by
    by_cases h : rises nok nkey 0 l = true ∧ 1 ≤ r ∧ r ≤ 4
    · rw [if_pos h]
      have := rises_short h.1
      have := ins_length (key := nkey) l (⟨r, stOf both, 16⟩ : S46)
      show (ins nkey (⟨r, stOf both, 16⟩ : S46) l).length ≤ 1000
      omega
    · rw [if_neg h]; exact Nat.zero_le _
  have hC : (if rises nok nkey 0 l = true then (tickOut l, tickGone l, (0 : Int)) else ([], [], 1900)).1.length ≤ 1000 ∧ (if rises nok nkey 0 l = true then (tickOut l, tickGone l, (0 : Int)) else ([], [], 1900)).2.1.length ≤ 1000 := by
    by_cases h : rises nok nkey 0 l = true
    · rw [if_pos h]
      have := rises_short h
      have h6 := List.length_filter_le (fun x : S46 => decide (1 < x.f2)) l
      have h7 := List.length_filter_le (fun x : S46 => !decide (1 < x.f2)) l
      constructor
      · show (tickOut l).length ≤ 1000
        unfold tickOut; rw [List.length_map]; omega
      · show (tickGone l).length ≤ 1000
        unfold tickGone; rw [List.length_map]; omega
    · rw [if_neg h]; exact ⟨Nat.zero_le _, Nat.zero_le _⟩
  have hU : (fullOf l).length ≤ 1000 := by
    unfold fullOf
    by_cases h : rises nok nkey 0 l = true
    · rw [if_pos h, List.length_map]
      have := rises_short h
      have h6 := List.length_filter_le (fun x : S46 => x.f1 == 2) l
      omega
    · rw [if_neg h]; exact Nat.zero_le _
  unfold watchwordlaw19_Nears.f
  rw [if_pos hn]
  unfold watchwordlaw19_Nears.g
  rw [near_Heard_f hn' h3, heardOf_f hn' h1, near_Tick_f hn' h4, refTick_f hn' h4, near_Full_f hn' h4, refFull_f hn' h1, near_May_f hn' h2, refMay_f hn' h2]
  generalize (if rises nok nkey 0 l = true ∧ 1 ≤ r ∧ r ≤ 4 then (ins nkey ⟨r, stOf both, 16⟩ l, turnedOf l r (stOf both), (0 : Int)) else ([], false, 1900)) = A at hA ⊢
  generalize (if rises nok nkey 0 l = true then (tickOut l, tickGone l, (0 : Int)) else ([], [], 1900)) = C at hC ⊢
  generalize fullOf l = U at hU ⊢
  generalize rises nok nkey 0 l = M
  clear hn' h1 h2 h3 h4
  simp only [Option.bind_some, nr_num]
  rw [sameN_f (by omega) (by omega), Option.bind_some, if_pos rfl, if_neg (by simp), if_pos trivial, sameN_f (by omega) (by omega), Option.bind_some, if_pos rfl, sameI_f (by omega) (by omega), Option.bind_some, if_pos rfl, if_pos trivial, sameI_f (by omega) (by omega), Option.bind_some, if_pos rfl]
  rw [show (M != M) = false by cases M <;> rfl]
  exact nears_end hn h5 hA hC.1 hU

end Go.Proofs.Ytnfoldgialdhjaa.Pure
