/- NearStates: one that hears, and is heard, is full; as soon as it does not hear any more it is not; others are as they were; no condition beyond the row's own. -/
import Derived.Test.YtnfoldgialdhjaaQ19x106
import Derived.Test.YtnfoldgialdhjaaA19
import Derived.Test.YtnfoldgialdhjaaO19
namespace Go.Proofs.Ytnfoldgialdhjaa.Pure
open Go.RowKit Go.Proofs.YtnfoldgialdhjaaW.PrintWords Go.Proofs.YtnfoldgialdhjaaW.PrintLast Go.Proofs.YtnfoldgialdhjaaW.PrintMore Go.Proofs.Ytnfoldgialdhjaa.Base Go.Proofs.Ytnfoldgialdhjaa.Q19 Go.Proofs.Ytnfoldgialdhjaa.L19 Go.Proofs.Ytnfoldgialdhjaa.O19
set_option linter.unusedVariables false

/-- What the law comes to at its end. -/
theorem ends {l a : List S46} {r w : Int} {both t i : Bool} {k : Nat} (ha : rises nok nkey 0 a = true) (hk : a.length < k) (hi : i = both) (ht : t = (w != stOf both)) :
    watchwordlaw19_NearStates.l1 (k + 1) l r both a t i (l.length : Int) w (a.length : Int) = some true := by
  have hs := rises_short ha
  simp only [watchwordlaw19_NearStates.l1]
  rw [if_neg (by omega), hi, ht]
  have hm : near_May.f k a = some true := by rw [near_May_f (by omega) hk, ha]
  cases both <;> simp [hm, stOf]
/-- Behind the router: all others are as they were. -/
theorem behind {l a : List S46} {r w : Int} {both t i : Bool} (ha : rises nok nkey 0 a = true) (hl : l.length ≤ 1000) (hi : i = both) (ht : t = (w != stOf both)) :
    ∀ (d k n m : Nat), m + d = a.length → d + a.length + 10 < k → a.drop m = l.drop n → (∀ x ∈ a.drop m, x.f0 ≠ r) → n ≤ l.length →
    watchwordlaw19_NearStates.l1 k l r both a t i (n : Int) w (m : Int) = some true := by
  have hs := rises_short ha
  intro d
  induction d with
  | zero =>
    intro k n m hm hk he hne hnl
    obtain ⟨k, rfl⟩ : ∃ q, k = q + 1 := ⟨k - 1, by omega⟩
    have hm' : m = a.length := by omega
    have hn : n = l.length := by
      have h1 := congrArg List.length he
      rw [List.length_drop, List.length_drop] at h1; omega
    rw [hm', hn]
    exact ends ha (by omega) hi ht
  | succ d ih =>
    intro k n m hm hk he hne hnl
    obtain ⟨k, rfl⟩ : ∃ q, k = q + 1 := ⟨k - 1, by omega⟩
    have hlt : m < a.length := by omega
    have hd := List.drop_eq_getElem_cons hlt
    rw [hd] at he
    obtain ⟨hn, hx, hy⟩ := drop_cons he.symm
    have h4 : wrap64 ((m : Int) + 1) = ((m + 1 : Nat) : Int) := next_wrap (by omega)
    have h5 : wrap64 ((n : Int) + 1) = ((n + 1 : Nat) : Int) := next_wrap (by omega)
    have hf := hne a[m] (by rw [hd]; exact List.mem_cons_self)
    rw [watchwordlaw19_NearStates.l1]
    simp only [rdN_at hlt, rdN_at hn, h4, h5, hx]
    clear h4 h5
    rw [if_pos (by omega), if_pos (by omega), if_neg hf, if_neg (by omega), if_pos (by omega), if_pos (by omega)]
    simp only [beq_self_eq_true, Bool.not_true, Bool.or_false, Bool.false_eq_true, if_false]
    refine ih k (n + 1) (m + 1) (by omega) (by omega) hy.symm (fun x hx' => hne x ?_) (by omega)
    rw [hd]; exact List.mem_cons_of_mem _ hx'
/-- Ahead of the router. -/
theorem ahead {l a : List S46} {r : Int} {both t i : Bool} (ha : rises nok nkey 0 a = true) (hl : l.length ≤ 1000) (hi : i = both) :
    ∀ (d k n m : Nat) (p : Int), n + d = l.length → d + 2 * a.length + 20 < k → a.drop m = ins nkey ⟨r, stOf both, 16⟩ (l.drop n) → rises nok nkey p (l.drop n) = true → t = turnedOf (l.drop n) r (stOf both) →
    watchwordlaw19_NearStates.l1 k l r both a t i (n : Int) 0 (m : Int) = some true := by
  have hs := rises_short ha
  have hkey : nkey (⟨r, stOf both, 16⟩ : S46) = r := rfl
  intro d
  induction d with
  | zero =>
    intro k n m p hn hk he hr ht
    obtain ⟨k, rfl⟩ : ∃ q, k = q + 3 := ⟨k - 3, by omega⟩
    rw [List.drop_of_length_le (show l.length ≤ n by omega)] at he ht
    obtain ⟨hlt, hx, hy⟩ := drop_cons (show a.drop m = ⟨r, stOf both, 16⟩ :: [] from he)
    have hml : m + 1 = a.length := by
      have h1 := congrArg List.length hy
      rw [List.length_drop, List.length_nil] at h1; omega
    have h4 : wrap64 ((m : Int) + 1) = (a.length : Int) := by rw [next_wrap (by omega), hml]
    have hnl : (n : Int) = (l.length : Int) := by omega
    rw [watchwordlaw19_NearStates.l1]
    simp only [watchwordlaw19_NearStates.j2, watchwordlaw19_NearStates.j3, rdN_at hlt, h4, hx, hnl, if_true, Bool.false_eq_true, if_false]
    clear h4
    rw [if_pos (by omega), if_pos (by omega), if_neg (by omega), if_pos (by omega), if_pos (by omega)]
    have hw : t = ((0 : Int) != stOf both) := by rw [ht]; cases both <;> rfl
    obtain ⟨k, rfl⟩ : ∃ q, k = q + 1 := ⟨k - 1, by omega⟩
    exact ends ha (by omega) hi hw
  | succ d ih =>
    intro k n m p hn hk he hr ht
    obtain ⟨k, rfl⟩ : ∃ q, k = q + 3 := ⟨k - 3, by omega⟩
    have hnl : n < l.length := by omega
    have hd := List.drop_eq_getElem_cons hnl
    rw [hd] at he hr ht
    obtain ⟨⟨o1, o2⟩, o3⟩ := rises_cons.mp hr
    have hno : NearOk l[n] := nok_iff.mp o1
    unfold NearOk at hno
    have h5 : wrap64 ((n : Int) + 1) = ((n + 1 : Nat) : Int) := next_wrap (by omega)
    have n1 : nkey l[n] = l[n].f0 := rfl
    by_cases c1 : l[n].f0 < r
    · have he' : a.drop m = l[n] :: ins nkey ⟨r, stOf both, 16⟩ (l.drop (n + 1)) := by
        rw [he]; show (if nkey l[n] < nkey (⟨r, stOf both, 16⟩ : S46) then _ else _) = _
        rw [hkey, n1, if_pos c1]
      obtain ⟨hlt, hx, hy⟩ := drop_cons he'
      have h4 : wrap64 ((m : Int) + 1) = ((m + 1 : Nat) : Int) := next_wrap (by omega)
      have ht' : t = turnedOf (l.drop (n + 1)) r (stOf both) := by
        rw [ht]; unfold turnedOf
        have : L19.look nkey r (l[n] :: l.drop (n + 1)) = L19.look nkey r (l.drop (n + 1)) := by
          show (if nkey l[n] = r then _ else _) = _
          rw [n1, if_neg (show ¬ l[n].f0 = r by omega)]
        rw [this]
      show watchwordlaw19_NearStates.l1 ((k + 2) + 1) l r both a t i (n : Int) 0 (m : Int) = some true
      rw [watchwordlaw19_NearStates.l1]
      simp only [rdN_at hlt, rdN_at hnl, h4, h5, hx]
      clear h4 h5
      rw [if_pos (by omega), if_pos (by omega), if_neg (by omega), if_neg (by omega), if_pos (by omega), if_pos (by omega)]
      simp only [beq_self_eq_true, Bool.not_true, Bool.or_false, Bool.false_eq_true, if_false]
      exact ih (k + 2) (n + 1) (m + 1) (nkey l[n]) (by omega) (by omega) hy o3 ht'
    · by_cases c2 : l[n].f0 = r
      · have he' : a.drop m = ⟨r, stOf both, 16⟩ :: l.drop (n + 1) := by
          rw [he]; show (if nkey l[n] < nkey (⟨r, stOf both, 16⟩ : S46) then _ else if nkey l[n] = nkey (⟨r, stOf both, 16⟩ : S46) then _ else _) = _
          rw [hkey, n1, if_neg c1, if_pos c2]
        obtain ⟨hlt, hx, hy⟩ := drop_cons he'
        have h4 : wrap64 ((m : Int) + 1) = ((m + 1 : Nat) : Int) := next_wrap (by omega)
        have ht' : t = (l[n].f1 != stOf both) := by
          rw [ht]; unfold turnedOf
          have : L19.look nkey r (l[n] :: l.drop (n + 1)) = some l[n] := by
            show (if nkey l[n] = r then _ else _) = _
            rw [n1, if_pos c2]
          rw [this]
        rw [watchwordlaw19_NearStates.l1]
        simp only [watchwordlaw19_NearStates.j2, watchwordlaw19_NearStates.j3, rdN_at hlt, rdN_at hnl, h4, h5, hx, c2, beq_self_eq_true, if_true]
        clear h4 h5
        rw [if_pos (by omega), if_pos (by omega), if_pos (by omega), if_pos (by omega), if_pos (by omega), if_pos (by omega), if_pos (by omega), if_pos (by omega)]
        refine behind ha hl hi ht' (a.length - (m + 1)) k (n + 1) (m + 1) (by omega) (by omega) hy (fun x hx' => ?_) (by omega)
        rw [hy] at hx'
        have := (rises_mem o3 x hx').2
        unfold nkey at this; omega
      · have he' : a.drop m = ⟨r, stOf both, 16⟩ :: (l[n] :: l.drop (n + 1)) := by
          rw [he]; show (if nkey l[n] < nkey (⟨r, stOf both, 16⟩ : S46) then _ else if nkey l[n] = nkey (⟨r, stOf both, 16⟩ : S46) then _ else _) = _
          rw [hkey, n1, if_neg c1, if_neg c2]
        obtain ⟨hlt, hx, hy⟩ := drop_cons he'
        have h4 : wrap64 ((m : Int) + 1) = ((m + 1 : Nat) : Int) := next_wrap (by omega)
        have ht' : t = ((0 : Int) != stOf both) := by
          rw [ht]; unfold turnedOf
          have : L19.look nkey r (l[n] :: l.drop (n + 1)) = none := look_lt (p := r) (rises_cons.mpr ⟨⟨o1, by unfold nkey; omega⟩, o3⟩) (Int.le_refl _)
          rw [this]; cases both <;> rfl
        have hb2 : (l[n].f0 == r) = false := by simpa using c2
        rw [watchwordlaw19_NearStates.l1]
        simp only [watchwordlaw19_NearStates.j2, watchwordlaw19_NearStates.j3, rdN_at hlt, rdN_at hnl, h4, h5, hx, hb2, Bool.false_eq_true, if_false, if_true]
        clear h4 h5
        rw [if_pos (by omega), if_pos (by omega), if_pos (by omega), if_pos (by omega), if_pos (by omega), if_pos (by omega)]
        refine behind ha hl hi ht' (a.length - (m + 1)) k n (m + 1) (by omega) (by omega) (by rw [hy, hd]) (fun x hx' => ?_) (by omega)
        rw [hy] at hx'
        rcases List.mem_cons.mp hx' with rfl | hx'
        · exact c2
        · have := (rises_mem o3 x hx').2
          unfold nkey at this; omega
theorem full_l {l a : List S46} {r : Int} {both t : Bool} {u : List Int} (hu : u.length ≤ 1000) {q : Nat} {R : Option Bool} : ∀ (d k i : Nat) (x : Bool), i + d = u.length → d + q < k →
    (∀ k', q ≤ k' → watchwordlaw19_NearStates.l1 k' l r both a t (x || (u.drop i).any (· == r)) 0 0 0 = R) → watchwordlaw19_NearStates.l0 k l r both a t u x (i : Int) = R := by
  intro d
  induction d with
  | zero =>
    intro k i x hi hk h
    obtain ⟨k, rfl⟩ : ∃ m, k = m + 1 := ⟨k - 1, by omega⟩
    simp only [watchwordlaw19_NearStates.l0]
    rw [if_neg (by omega)]
    have := h k (by omega)
    rw [List.drop_of_length_le (by omega)] at this
    simpa using this
  | succ d ih =>
    intro k i x hi hk h
    obtain ⟨k, rfl⟩ : ∃ m, k = m + 1 := ⟨k - 1, by omega⟩
    have hlt : i < u.length := by omega
    have h4 : wrap64 ((i : Int) + 1) = ((i + 1 : Nat) : Int) := next_wrap (by omega)
    have hrd : rd u (i : Int) = u[i] := by unfold rd; rw [Int.toNat_natCast, List.getD_eq_getElem?_getD, List.getElem?_eq_getElem hlt]; rfl
    simp only [watchwordlaw19_NearStates.l0, h4, hrd]
    rw [if_pos (by omega)]
    rw [List.drop_eq_getElem_cons hlt, List.any_cons] at h
    by_cases hx : x = true
    · subst hx
      rw [if_pos rfl]
      exact ih k (i + 1) true (by omega) (by omega) (fun k' hk' => by simpa using h k' hk')
    · have hx' : x = false := by simpa using hx
      subst hx'
      rw [if_neg (by decide), if_pos (by omega)]
      exact ih k (i + 1) (u[i] == r) (by omega) (by omega) (fun k' hk' => by simpa using h k' hk')
theorem full_any : ∀ {l : List S46} {p r st : Int}, rises nok nkey p l = true → (((ins nkey (⟨r, st, 16⟩ : S46) l).filter fun x => x.f1 == 2).map fun x => x.f0).any (· == r) = (st == 2) := by
  have none_ : ∀ {l : List S46} {r : Int}, (∀ x ∈ l, x.f0 ≠ r) → ((l.filter fun x => x.f1 == 2).map fun x => x.f0).any (· == r) = false := by
    intro l r h
    rw [List.any_eq_false]
    intro y hy
    obtain ⟨x, hx, rfl⟩ := List.mem_map.mp hy
    have := h x (List.mem_filter.mp hx).1
    simpa using this
  have head_ : ∀ {l : List S46} {r st : Int}, (∀ x ∈ l, x.f0 ≠ r) → (((⟨r, st, 16⟩ :: l : List S46).filter fun x => x.f1 == 2).map fun x => x.f0).any (· == r) = (st == 2) := by
    intro l r st h
    rw [List.filter_cons]
    by_cases hs : st = 2
    · subst hs
      rw [if_pos (by rfl), List.map_cons, List.any_cons]; simp
    · have : (st == 2) = false := by simpa using hs
      simp only [this, Bool.false_eq_true, if_false]
      exact none_ h
  intro l
  induction l with
  | nil => intro p r st _; exact head_ (fun x hx => by cases hx)
  | cons y l ih =>
    intro p r st h
    obtain ⟨⟨o1, o2⟩, o3⟩ := rises_cons.mp h
    show (((if y.f0 < r then y :: ins nkey (⟨r, st, 16⟩ : S46) l else if y.f0 = r then ⟨r, st, 16⟩ :: l else ⟨r, st, 16⟩ :: y :: l).filter fun x => x.f1 == 2).map fun x => x.f0).any (· == r) = (st == 2)
    by_cases c1 : y.f0 < r
    · rw [if_pos c1, List.filter_cons]
      have := ih (r := r) (st := st) o3
      have hy : (y.f0 == r) = false := beq_eq_false_iff_ne.mpr (by omega)
      split
      · rw [List.map_cons, List.any_cons, hy, Bool.false_or]; exact this
      · exact this
    · rw [if_neg c1]
      have hgt : ∀ x ∈ l, y.f0 < x.f0 := fun x hx => (rises_mem o3 x hx).2
      by_cases c2 : y.f0 = r
      · rw [if_pos c2]; exact head_ (fun x hx => by have := hgt x hx; omega)
      · rw [if_neg c2]
        exact head_ (fun x hx => by
          rcases List.mem_cons.mp hx with rfl | hx
          · exact c2
          · have := hgt x hx; omega)
theorem NearStates : ∀ (l0 : List (S46)) (a1 : Int) (a2 : Bool), (l0.length * 24 ≤ 140737488351232 ∧ l0.length ≤ maxLen ∧ ∀ y ∈ l0, R46 y) → (Lit.int .i64 a1).wf = true → ∃ k, watchwordlaw19_NearStates.f k l0 a1 a2 = some true := by
  intro l r both hl _
  refine ⟨l.length + 401, ?_⟩
  have hn : l.length ≤ 5864062014800 := by omega
  unfold watchwordlaw19_NearStates.f
  rw [awake_ok (by omega), near_Heard_f (by omega) (by omega)]
  simp only [Option.bind_some, if_true, watchwordlaw0_Num.f]
  by_cases h : rises nok nkey 0 l = true ∧ 1 ≤ r ∧ r ≤ 4
  · obtain ⟨hr, h1⟩ := h
    have hs := rises_short hr
    have hok : nok (⟨r, stOf both, 16⟩ : S46) = true := nok_iff.mpr (nearOk_mk (by cases both <;> simp [stOf] <;> omega))
    have hi := ins_rises hr hok (nkey_range hok).1
    have hil := ins_length (key := nkey) l (⟨r, stOf both, 16⟩ : S46)
    simp only [if_pos (show rises nok nkey 0 l = true ∧ 1 ≤ r ∧ r ≤ 4 from ⟨hr, h1⟩), if_true]
    rw [near_Full_f (by omega) (by omega), Option.bind_some]
    have hf : fullOf (ins nkey (⟨r, stOf both, 16⟩ : S46) l) = ((ins nkey (⟨r, stOf both, 16⟩ : S46) l).filter fun x => x.f1 == 2).map fun x => x.f0 := by unfold fullOf; rw [if_pos hi]
    have hfl : (fullOf (ins nkey (⟨r, stOf both, 16⟩ : S46) l)).length ≤ 10 := by
      rw [hf, List.length_map]
      have := List.length_filter_le (fun x : S46 => x.f1 == 2) (ins nkey (⟨r, stOf both, 16⟩ : S46) l)
      omega
    refine full_l (q := 300) (by omega) _ _ 0 false (Nat.zero_add _) (by omega) (fun k' hk' => ?_)
    refine ahead hi (by omega) ?_ l.length k' 0 0 0 (by omega) (by omega) (by rfl) hr (by rfl)
    rw [Bool.false_or, List.drop_zero, hf, full_any hr]
    cases both <;> rfl
  · simp only [if_neg h]
    rw [if_neg (by decide)]
    rfl

end Go.Proofs.Ytnfoldgialdhjaa.Pure
