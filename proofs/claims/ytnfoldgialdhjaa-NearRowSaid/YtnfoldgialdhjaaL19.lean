/- What the functions of the layer 'near' come to, in plain lists. -/
import Derived.Test.YtnfoldgialdhjaaQ19x109
import Derived.Test.YtnfoldgialdhjaaQ19x111
import Derived.Test.YtnfoldgialdhjaaQ19x113
import Derived.Test.YtnfoldgialdhjaaBase
namespace Go.Proofs.Ytnfoldgialdhjaa.L19
open Go.RowKit Go.Proofs.YtnfoldgialdhjaaW.PrintWords Go.Proofs.YtnfoldgialdhjaaW.PrintLast Go.Proofs.YtnfoldgialdhjaaW.PrintMore Go.Proofs.Ytnfoldgialdhjaa.Base Go.Proofs.Ytnfoldgialdhjaa.Q19
set_option linter.unusedVariables false
set_option linter.unusedSimpArgs false
/-! ### Rising rows: lists whose elements are sound and whose keys rise; one put in its place -/
section
variable {α : Type}
def rises (ok : α → Bool) (key : α → Int) : Int → List α → Bool
  | _, [] => true
  | p, x :: l => if ok x = true ∧ p < key x then rises ok key (key x) l else false
def ins (key : α → Int) (x : α) : List α → List α
  | [] => [x]
  | y :: l => if key y < key x then y :: ins key x l else if key y = key x then x :: l else x :: y :: l
def look (key : α → Int) (q : Int) : List α → Option α
  | [] => none
  | y :: l => if key y = q then some y else look key q l
variable {ok : α → Bool} {key : α → Int}
theorem rises_cons {p : Int} {x : α} {l : List α} : rises ok key p (x :: l) = true ↔ (ok x = true ∧ p < key x) ∧ rises ok key (key x) l = true := by
  show (if ok x = true ∧ p < key x then rises ok key (key x) l else false) = true ↔ _
  by_cases h : ok x = true ∧ p < key x
  · rw [if_pos h]; exact ⟨fun h' => ⟨h, h'⟩, fun h' => h'.2⟩
  · rw [if_neg h]; constructor
    · intro h'; cases h'
    · intro h'; exact absurd h'.1 h
theorem rises_lower : ∀ {l : List α} {p q : Int}, rises ok key p l = true → q ≤ p → rises ok key q l = true
  | [], _, _, _, _ => rfl
  | x :: l, p, q, h, hq => by
    obtain ⟨⟨h1, h2⟩, h3⟩ := rises_cons.mp h
    exact rises_cons.mpr ⟨⟨h1, by omega⟩, h3⟩
theorem rises_mem : ∀ {l : List α} {p : Int}, rises ok key p l = true → ∀ x ∈ l, ok x = true ∧ p < key x
  | [], _, _, _, hx => by cases hx
  | y :: l, p, h, x, hx => by
    obtain ⟨⟨h1, h2⟩, h3⟩ := rises_cons.mp h
    rcases List.mem_cons.mp hx with rfl | hx
    · exact ⟨h1, h2⟩
    · have := rises_mem h3 x hx
      exact ⟨this.1, by omega⟩
theorem rises_length : ∀ {l : List α} {p : Int} (b : Int), rises ok key p l = true → (∀ x, ok x = true → key x ≤ b) → p ≤ b → (l.length : Int) ≤ b - p
  | [], p, b, _, _, hp => by simp; omega
  | x :: l, p, b, h, hb, hp => by
    obtain ⟨⟨h1, h2⟩, h3⟩ := rises_cons.mp h
    have := rises_length b h3 hb (hb x h1)
    simp only [List.length_cons]; omega
theorem rises_get : ∀ {l : List α} {p : Int}, rises ok key p l = true → ∀ {i j : Nat} (hi : i < j) (hj : j < l.length), key (l[i]'(by omega)) < key l[j]
  | [], _, _, _, _, _, hj => by simp at hj
  | x :: l, p, h, i, j, hi, hj => by
    obtain ⟨⟨h1, h2⟩, h3⟩ := rises_cons.mp h
    obtain ⟨j, rfl⟩ : ∃ m, j = m + 1 := ⟨j - 1, by omega⟩
    cases i with
    | zero =>
      simp only [List.getElem_cons_zero, List.getElem_cons_succ]
      exact (rises_mem h3 _ (List.getElem_mem _)).2
    | succ i =>
      simp only [List.getElem_cons_succ]
      exact rises_get h3 (by omega) (by simpa using hj)
theorem rises_ok {l : List α} {p : Int} (h : rises ok key p l = true) {i : Nat} (hi : i < l.length) : ok l[i] = true := (rises_mem h _ (List.getElem_mem hi)).1
theorem ins_rises : ∀ {l : List α} {p : Int} {x : α}, rises ok key p l = true → ok x = true → p < key x → rises ok key p (ins key x l) = true
  | [], p, x, _, h1, h2 => rises_cons.mpr ⟨⟨h1, h2⟩, rfl⟩
  | y :: l, p, x, h, h1, h2 => by
    obtain ⟨⟨a1, a2⟩, a3⟩ := rises_cons.mp h
    show rises ok key p (if key y < key x then y :: ins key x l else if key y = key x then x :: l else x :: y :: l) = true
    by_cases c1 : key y < key x
    · rw [if_pos c1]; exact rises_cons.mpr ⟨⟨a1, a2⟩, ins_rises a3 h1 c1⟩
    · rw [if_neg c1]
      by_cases c2 : key y = key x
      · rw [if_pos c2]; exact rises_cons.mpr ⟨⟨h1, h2⟩, rises_lower a3 (by omega)⟩
      · rw [if_neg c2]; exact rises_cons.mpr ⟨⟨h1, h2⟩, rises_cons.mpr ⟨⟨a1, by omega⟩, a3⟩⟩
theorem ins_length : ∀ (l : List α) (x : α), (ins key x l).length ≤ l.length + 1 ∧ 1 ≤ (ins key x l).length
  | [], x => by simp [ins]
  | y :: l, x => by
    have := ins_length l x
    unfold ins
    split
    · simp only [List.length_cons]; omega
    · split <;> simp only [List.length_cons] <;> omega
theorem look_lt : ∀ {l : List α} {p q : Int}, rises ok key p l = true → q ≤ p → look key q l = none
  | [], _, _, _, _ => rfl
  | x :: l, p, q, h, hq => by
    obtain ⟨⟨h1, h2⟩, h3⟩ := rises_cons.mp h
    unfold look
    rw [if_neg (by omega)]
    exact look_lt h3 (by omega)
theorem look_ins_self : ∀ {l : List α} {p : Int} {x : α}, rises ok key p l = true → look key (key x) (ins key x l) = some x
  | [], _, x, _ => by simp [ins, look]
  | y :: l, p, x, h => by
    obtain ⟨⟨h1, h2⟩, h3⟩ := rises_cons.mp h
    unfold ins
    by_cases c1 : key y < key x
    · rw [if_pos c1]; unfold look; rw [if_neg (by omega)]; exact look_ins_self h3
    · rw [if_neg c1]
      by_cases c2 : key y = key x
      · rw [if_pos c2]; unfold look; rw [if_pos rfl]
      · rw [if_neg c2]; unfold look; rw [if_pos rfl]
theorem look_ins_other : ∀ {l : List α} {x : α} {q : Int}, q ≠ key x → look key q (ins key x l) = look key q l
  | [], x, q, hq => by show (if key x = q then some x else look key q []) = _; rw [if_neg (by omega)]
  | y :: l, x, q, hq => by
    unfold ins
    by_cases c1 : key y < key x
    · rw [if_pos c1]; unfold look; rw [look_ins_other hq]
    · rw [if_neg c1]
      by_cases c2 : key y = key x
      · rw [if_pos c2]; unfold look; rw [if_neg (by omega), if_neg (by omega)]
      · rw [if_neg c2]; conv => lhs; unfold look
        rw [if_neg (by omega)]
theorem look_mem : ∀ {l : List α} {q : Int} {x : α}, look key q l = some x → x ∈ l ∧ key x = q
  | [], _, _, h => by cases h
  | y :: l, q, x, h => by
    unfold look at h
    by_cases c : key y = q
    · rw [if_pos c] at h; obtain rfl := Option.some.inj h; exact ⟨List.mem_cons_self, c⟩
    · rw [if_neg c] at h; have := look_mem h; exact ⟨List.mem_cons_of_mem _ this.1, this.2⟩
theorem look_none : ∀ {l : List α} {q : Int}, look key q l = none → ∀ x ∈ l, key x ≠ q
  | [], _, _, x, hx => by cases hx
  | y :: l, q, h, x, hx => by
    unfold look at h
    by_cases c : key y = q
    · rw [if_pos c] at h; cases h
    · rw [if_neg c] at h
      rcases List.mem_cons.mp hx with rfl | hx
      · exact c
      · exact look_none h x hx
/-- Where a key is, or would be. -/
structure Place (key : α → Int) (l : List α) (q : Int) (p : Nat) : Prop where
  le : p ≤ l.length
  lo : ∀ j (h : j < l.length), j < p → key l[j] < q
  hi : ∀ j (h : j < l.length), p ≤ j → q ≤ key l[j]
theorem place_of : ∀ {l : List α} {p : Int}, rises ok key p l = true → ∀ q, ∃ m, Place key l q m
  | [], _, _, q => ⟨0, by simp, fun _ h => by simp at h, fun _ h => by simp at h⟩
  | x :: l, p, h, q => by
    obtain ⟨⟨h1, h2⟩, h3⟩ := rises_cons.mp h
    by_cases c : key x < q
    · obtain ⟨m, hm⟩ := place_of h3 q
      refine ⟨m + 1, by simpa using hm.le, fun j hj h => ?_, fun j hj h => ?_⟩
      · cases j with
        | zero => exact c
        | succ j => exact hm.lo j (by simpa using hj) (by omega)
      · obtain ⟨j, rfl⟩ : ∃ m, j = m + 1 := ⟨j - 1, by omega⟩
        exact hm.hi j (by simpa using hj) (by omega)
    · refine ⟨0, Nat.zero_le _, fun j _ h => by omega, fun j hj _ => ?_⟩
      cases j with
      | zero => show q ≤ key x; omega
      | succ j =>
        have hj' : j < l.length := by simpa using hj
        have := (rises_mem h3 _ (List.getElem_mem hj')).2
        simp only [List.getElem_cons_succ]; omega
/-- Put in at its place. -/
theorem ins_place : ∀ {l : List α} {b : Int} {x : α} {m : Nat}, rises ok key b l = true → Place key l (key x) m →
    (∀ h : m < l.length, key l[m] = key x → ins key x l = l.set m x) ∧ ((∀ h : m < l.length, key l[m] ≠ key x) → ins key x l = l.take m ++ [x] ++ l.drop m)
  | [], _, x, m, _, P => by
    have := P.le
    obtain rfl : m = 0 := by simpa using this
    exact ⟨fun h => by simp at h, fun _ => rfl⟩
  | y :: l, b, x, m, h, P => by
    obtain ⟨⟨h1, h2⟩, h3⟩ := rises_cons.mp h
    cases m with
    | zero =>
      have c1 := P.hi 0 (by simp) (Nat.le_refl _)
      simp only [List.getElem_cons_zero] at c1
      refine ⟨fun _ e => ?_, fun e => ?_⟩
      · simp only [List.getElem_cons_zero] at e
        unfold ins; rw [if_neg (by omega), if_pos e]; rfl
      · have e := e (by simp)
        simp only [List.getElem_cons_zero] at e
        unfold ins; rw [if_neg (by omega), if_neg e]; rfl
    | succ m =>
      have c1 := P.lo 0 (by simp) (by omega)
      simp only [List.getElem_cons_zero] at c1
      have P' : Place key l (key x) m := ⟨by have := P.le; simpa using this, fun j hj hm => P.lo (j + 1) (by simpa using hj) (by omega), fun j hj hm => P.hi (j + 1) (by simpa using hj) (by omega)⟩
      have ih := ins_place h3 P'
      refine ⟨fun hl e => ?_, fun e => ?_⟩
      · simp only [List.getElem_cons_succ] at e
        unfold ins; rw [if_pos c1, ih.1 (by simpa using hl) e]; rfl
      · unfold ins; rw [if_pos c1, ih.2 (fun hl => by have := e (by simpa using hl); simpa using this)]; rfl
theorem look_place : ∀ {l : List α} {b q : Int} {m : Nat}, rises ok key b l = true → Place key l q m →
    (∀ h : m < l.length, key l[m] = q → look key q l = some l[m]) ∧ ((∀ h : m < l.length, key l[m] ≠ q) → look key q l = none)
  | [], _, q, m, _, P => ⟨fun h => by simp at h, fun _ => rfl⟩
  | y :: l, b, q, m, h, P => by
    obtain ⟨⟨h1, h2⟩, h3⟩ := rises_cons.mp h
    cases m with
    | zero =>
      have c1 := P.hi 0 (by simp) (Nat.le_refl _)
      simp only [List.getElem_cons_zero] at c1
      refine ⟨fun _ e => ?_, fun e => ?_⟩
      · simp only [List.getElem_cons_zero] at e
        unfold look; rw [if_pos e]; rfl
      · have e := e (by simp)
        simp only [List.getElem_cons_zero] at e
        unfold look; rw [if_neg e]
        exact look_lt h3 (by omega)
    | succ m =>
      have c1 := P.lo 0 (by simp) (by omega)
      simp only [List.getElem_cons_zero] at c1
      have P' : Place key l q m := ⟨by have := P.le; simpa using this, fun j hj hm => P.lo (j + 1) (by simpa using hj) (by omega), fun j hj hm => P.hi (j + 1) (by simpa using hj) (by omega)⟩
      have ih := look_place h3 P'
      refine ⟨fun hl e => ?_, fun e => ?_⟩
      · simp only [List.getElem_cons_succ] at e
        unfold look; rw [if_neg (by omega), ih.1 (by simpa using hl) e]; rfl
      · unfold look; rw [if_neg (by omega)]; exact ih.2 (fun hl => by have := e (by simpa using hl); simpa using this)
end
theorem mid_wraps {i j : Nat} (h : i + j ≤ 4000) : wrap64 ((i : Int) + (j : Int)) = ((i + j : Nat) : Int) ∧ IntKind.u64.wrap (((i + j : Nat) : Int)) = ((i + j : Nat) : Int) ∧ (((i + j : Nat) : Int)) / 2 = (((i + j) / 2 : Nat) : Int) ∧ wrap64 ((((i + j) / 2 : Nat) : Int)) = (((i + j) / 2 : Nat) : Int) ∧ wrap64 ((((i + j) / 2 : Nat) : Int) + 1) = (((i + j) / 2 + 1 : Nat) : Int) := by
  refine ⟨?_, IntWalk.u64_in _ ⟨by omega, by omega⟩, by omega, wrap_id (by omega) (by omega), ?_⟩
  · rw [wrap_id (by omega) (by omega)]; omega
  · rw [wrap_id (by omega) (by omega)]; omega
theorem next_wrap {i : Nat} (h : i ≤ 9223372036854775800) : wrap64 ((i : Int) + 1) = ((i + 1 : Nat) : Int) := by rw [wrap_id (by omega) (by omega)]; omega
/-! ### near: May, Heard, Tick, Full (S46: the struct Near) -/
instance : DecidableEq S46 := fun a b => decidable_of_iff (a.f0 = b.f0 ∧ a.f1 = b.f1 ∧ a.f2 = b.f2) (by cases a; cases b; simp)
def NearOk (x : S46) : Prop := (1 ≤ x.f0 ∧ x.f0 ≤ 4) ∧ (x.f1 = 1 ∨ x.f1 = 2) ∧ 1 ≤ x.f2 ∧ x.f2 ≤ 16
instance (x : S46) : Decidable (NearOk x) := by unfold NearOk; infer_instance
def nok (x : S46) : Bool := decide (NearOk x)
def nkey (x : S46) : Int := x.f0
theorem nok_iff {x : S46} : nok x = true ↔ NearOk x := by unfold nok; exact decide_eq_true_iff
theorem nkey_range {x : S46} (h : nok x = true) : 0 < nkey x ∧ nkey x ≤ 4 := by
  have := nok_iff.mp h
  unfold NearOk at this; unfold nkey; omega
theorem router_f (x : Int) : lsa_Router.f x = some (decide (1 ≤ x ∧ x ≤ 4)) := by
  unfold lsa_Router.f
  by_cases h1 : x ≥ 1
  · rw [if_pos h1]; simp only [h1, true_and]
  · rw [if_neg h1]; have : ¬ (1 ≤ x ∧ x ≤ 4) := by omega
    simp [this]
theorem rdN_at {l : List S46} {i : Nat} (h : i < l.length) : rd_T46 l (i : Int) = l[i] := by
  unfold rd_T46; rw [Int.toNat_natCast, List.getD_eq_getElem?_getD, List.getElem?_eq_getElem h]; rfl
def prevN (l : List S46) (i : Nat) : Int := if h : 0 < i ∧ i - 1 < l.length then nkey l[i - 1] else 0
theorem near_May_l {l : List S46} (hn : l.length ≤ 9223372036854775800) : ∀ (d k i : Nat), i + d = l.length → d < k →
    near_May.l0 k l l (l.length : Int) (i : Int) = some (rises nok nkey (prevN l i) (l.drop i)) := by
  intro d
  induction d with
  | zero =>
    intro k i hi hk
    obtain ⟨k, rfl⟩ : ∃ m, k = m + 1 := ⟨k - 1, by omega⟩
    simp only [near_May.l0]
    rw [if_neg (by omega), List.drop_of_length_le (by omega)]
    rfl
  | succ d ih =>
    intro k i hi hk
    obtain ⟨k, rfl⟩ : ∃ m, k = m + 1 := ⟨k - 1, by omega⟩
    have hlt : i < l.length := by omega
    have h4 : wrap64 ((i : Int) + 1) = ((i + 1 : Nat) : Int) := by rw [wrap_id (by omega) (by omega)]; omega
    have ih' := ih k (i + 1) (by omega) (by omega)
    simp only [near_May.l0, router_f, Option.bind_some, rdN_at hlt]
    rw [if_pos (by omega), if_pos (by omega), if_pos (by omega), h4, List.drop_eq_getElem_cons hlt]
    have hpn : prevN l (i + 1) = nkey l[i] := by unfold prevN; rw [dif_pos ⟨by omega, by omega⟩]; rfl
    rw [hpn] at ih'
    show _ = some (if nok l[i] = true ∧ prevN l i < nkey l[i] then rises nok nkey (nkey l[i]) (l.drop (i + 1)) else false)
    have hT : nok l[i] = true → (if ((i : Nat) : Int) > 0 then if 0 ≤ wrap64 ((i : Int) - 1) then if wrap64 ((i : Int) - 1) < (l.length : Int) then if (rd_T46 l (wrap64 ((i : Int) - 1))).f0 ≥ l[i].f0 then some false else near_May.l0 k l l (l.length : Int) ((i + 1 : Nat) : Int) else none else none else near_May.l0 k l l (l.length : Int) ((i + 1 : Nat) : Int)) = some (if nok l[i] = true ∧ prevN l i < nkey l[i] then rises nok nkey (nkey l[i]) (l.drop (i + 1)) else false) := by
      intro hc
      have hr := nkey_range hc
      by_cases h0 : (i : Int) > 0
      · have h5 : wrap64 ((i : Int) - 1) = ((i - 1 : Nat) : Int) := by rw [wrap_id (by omega) (by omega)]; omega
        have hl1 : i - 1 < l.length := by omega
        rw [if_pos h0, h5, if_pos (by omega), if_pos (by omega), rdN_at hl1]
        have hpv : prevN l i = nkey l[i - 1] := by unfold prevN; rw [dif_pos ⟨by omega, hl1⟩]
        rw [hpv]
        unfold nkey at hr ih' ⊢
        by_cases hg : l[i - 1].f0 ≥ l[i].f0
        · rw [if_pos hg, if_neg (by omega)]
        · rw [if_neg hg, if_pos ⟨hc, by omega⟩, ih']
      · rw [if_neg h0]
        have hpv : prevN l i = 0 := by unfold prevN; rw [dif_neg (by omega)]
        rw [hpv, if_pos ⟨hc, by omega⟩, ih']
    have hno : ¬ NearOk l[i] → some false = some (if nok l[i] = true ∧ prevN l i < nkey l[i] then rises nok nkey (nkey l[i]) (l.drop (i + 1)) else false) := fun h => by rw [if_neg (fun hh => h (nok_iff.mp hh.1))]
    by_cases h1 : 1 ≤ l[i].f0 ∧ l[i].f0 ≤ 4
    · rw [if_pos (decide_eq_true h1)]
      by_cases h2 : l[i].f1 = 1
      · rw [if_pos h2]
        by_cases h3 : l[i].f2 < 1
        · rw [if_pos h3]; exact hno (by unfold NearOk; omega)
        · rw [if_neg h3]
          by_cases h5 : l[i].f2 > 16
          · rw [if_pos h5]; exact hno (by unfold NearOk; omega)
          · rw [if_neg h5]; exact hT (nok_iff.mpr (by unfold NearOk; omega))
      · rw [if_neg h2]
        by_cases h2' : l[i].f1 = 2
        · rw [if_pos h2']
          by_cases h3 : l[i].f2 < 1
          · rw [if_pos h3]; exact hno (by unfold NearOk; omega)
          · rw [if_neg h3]
            by_cases h5 : l[i].f2 > 16
            · rw [if_pos h5]; exact hno (by unfold NearOk; omega)
            · rw [if_neg h5]; exact hT (nok_iff.mpr (by unfold NearOk; omega))
        · rw [if_neg h2']; exact hno (by unfold NearOk; omega)
    · rw [if_neg (by simp only [decide_eq_true_eq]; exact h1)]; exact hno (fun h => h1 h.1)
theorem near_May_f {l : List S46} (hn : l.length ≤ 9223372036854775800) {k : Nat} (hk : l.length < k) : near_May.f k l = some (rises nok nkey 0 l) :=
  near_May_l hn l.length k 0 (by omega) hk
theorem bs_l {l : List S46} {t p : Int} {m : Nat} (hr : rises nok nkey p l = true) (ht : 1 ≤ t ∧ t ≤ 4) (P : Place nkey l t m) (hn : l.length ≤ 1000) :
    ∀ (d k i j : Nat), i + d = j → d < k → i ≤ m → m ≤ j → j ≤ l.length →
    api_Near_int.l0 k l t (l.length : Int) (i : Int) (j : Int) = some ((m : Int), if h : m < l.length then decide (nkey l[m] = t) else false) := by
  intro d
  induction d using Nat.strongRecOn with
  | _ d ih =>
    intro k i j hij hk him hmj hjn
    obtain ⟨k, rfl⟩ : ∃ q, k = q + 1 := ⟨k - 1, by omega⟩
    have hw : ∀ {q : Nat} (h : q < l.length), near_Heard_1.f l[q].f0 l[q].f1 l[q].f2 t = some (nkey l[q] - t) := by
      intro q h
      have := nkey_range (rises_ok hr h)
      unfold nkey at this ⊢
      show some (wrap64 (l[q].f0 - t)) = _
      rw [wrap_id (by omega) (by omega)]
    simp only [api_Near_int.l0]
    by_cases h0 : i < j
    · have hh : (i + j) / 2 < l.length := by omega
      obtain ⟨e1, e2, e3, e4, e5⟩ := mid_wraps (i := i) (j := j) (by omega)
      simp only [e1, e2, e3, e4, e5, rdN_at hh]
      clear e1 e2 e3 e4 e5
      rw [if_pos (by omega), if_pos (by omega), if_pos (by omega)]
      simp only [hw hh, Option.bind_some]
      by_cases hc : nkey l[(i + j) / 2] - t < 0
      · rw [if_pos hc]
        have hm : (i + j) / 2 < m := by
          apply Nat.lt_of_not_le; intro hle
          have := P.hi _ hh hle; omega
        exact ih (j - ((i + j) / 2 + 1)) (by omega) k ((i + j) / 2 + 1) j (by omega) (by omega) (by omega) hmj hjn
      · rw [if_neg hc]
        have hm : m ≤ (i + j) / 2 := by
          apply Nat.le_of_not_lt; intro hlt
          have := P.lo _ hh hlt; omega
        exact ih ((i + j) / 2 - i) (by omega) k i ((i + j) / 2) (by omega) (by omega) him hm (by omega)
    · obtain rfl : i = m := by omega
      rw [if_neg (by omega)]
      by_cases hl : i < l.length
      · rw [if_pos (by omega), if_pos (by omega), if_pos (by omega)]
        simp only [rdN_at hl, hw hl, Option.bind_some, dif_pos hl]
        congr 2
        by_cases hc : nkey l[i] = t
        · rw [hc]; simp
        · have : nkey l[i] - t ≠ 0 := by omega
          simp [this, hc]
      · rw [if_neg (by omega), dif_neg hl]
theorem bs_f {l : List S46} {t p : Int} {m k : Nat} (hr : rises nok nkey p l = true) (ht : 1 ≤ t ∧ t ≤ 4) (P : Place nkey l t m) (hn : l.length ≤ 1000) (hk : l.length < k) :
    api_Near_int.f k l t = some ((m : Int), if h : m < l.length then decide (nkey l[m] = t) else false) :=
  bs_l hr ht P hn l.length k 0 l.length (by omega) hk (by omega) P.le (Nat.le_refl _)
theorem rises_short {l : List S46} (h : rises nok nkey 0 l = true) : l.length ≤ 4 := by
  have := rises_length 4 h (fun x hx => (nkey_range hx).2) (by omega)
  omega
theorem clone_f {l : List S46} (hn : l.length < 5864062014805) : api_Near_26.f l = some l := by
  simp [api_Near_26.f, hn]
/-- Was a router seen otherwise? -/
def turnedOf (l : List S46) (r st : Int) : Bool := match look nkey r l with | none => true | some y => y.f1 != st
def stOf (both : Bool) : Int := if both then 2 else 1
theorem heard_j1 {l : List S46} {k : Nat} (hk : l.length + 10 < k) (h1 : rises nok nkey 0 l = true) {r st : Int} (h2 : 1 ≤ r ∧ r ≤ 4) :
    near_Heard.j1 k l r r st 16 = some (ins nkey ⟨r, st, 16⟩ l, turnedOf l r st, 0) := by
  obtain ⟨k, rfl⟩ : ∃ q, k = q + 1 := ⟨k - 1, by omega⟩
  have hs := rises_short h1
  have hkey : nkey (⟨r, st, 16⟩ : S46) = r := rfl
  obtain ⟨m, P⟩ := place_of h1 r
  have P' : Place nkey l (nkey (⟨r, st, 16⟩ : S46)) m := P
  simp only [near_Heard.j1, clone_f (show l.length < 5864062014805 by omega), bs_f h1 h2 P (by omega) (show l.length < k by omega), Option.bind_some]
  have hI := ins_place h1 P'
  have hL := look_place h1 P
  unfold turnedOf
  by_cases hm : ∃ h : m < l.length, nkey l[m] = r
  · obtain ⟨hl, he⟩ := hm
    rw [dif_pos hl, decide_eq_true he, if_pos rfl, if_pos (by omega), if_pos (by omega), hI.1 hl he, hL.1 hl he, Int.toNat_natCast, rdN_at hl]
  · have hno : ∀ h : m < l.length, nkey l[m] ≠ r := fun h he => hm ⟨h, he⟩
    have : (if h : m < l.length then decide (nkey l[m] = r) else false) = false := by
      by_cases h : m < l.length
      · rw [dif_pos h]; exact decide_eq_false (hno h)
      · rw [dif_neg h]
    have hmn := P.le
    rw [this, if_neg (by decide), hI.2 hno, hL.2 hno]
    simp only [api_Near_29.f, Int.toNat_natCast]
    rw [if_pos ⟨by omega, by omega, by omega⟩]
    rfl
theorem near_Heard_f {l : List S46} (hn : l.length ≤ 9223372036854775800) {k : Nat} (hk : l.length + 20 < k) (r : Int) (both : Bool) :
    near_Heard.f k l r both = some (if rises nok nkey 0 l = true ∧ 1 ≤ r ∧ r ≤ 4 then (ins nkey ⟨r, stOf both, 16⟩ l, turnedOf l r (stOf both), 0) else ([], false, 1900)) := by
  obtain ⟨k, rfl⟩ : ∃ q, k = q + 1 := ⟨k - 1, by omega⟩
  have ht : near_Heard.j0 (k + 1) l r both true = some ([], false, 1900) := by simp [near_Heard.j0]
  simp only [near_Heard.f, near_May_f hn (show l.length < k + 1 by omega), router_f, Option.bind_some]
  by_cases h1 : rises nok nkey 0 l = true
  · rw [if_pos h1]
    by_cases h2 : 1 ≤ r ∧ r ≤ 4
    · rw [if_pos ⟨h1, h2⟩, decide_eq_true h2]
      simp only [near_Heard.j0, Bool.not_true, Bool.false_eq_true, if_false, heard_j1 (show l.length + 10 < k by omega) h1 h2]
      cases both <;> rfl
    · rw [if_neg (fun h => h2 h.2), decide_eq_false h2]; exact ht
  · rw [if_neg h1, if_neg (fun h => h1 h.1)]; exact ht
def tickOut (l : List S46) : List S46 := (l.filter fun x => decide (1 < x.f2)).map fun x => ⟨x.f0, x.f1, x.f2 - 1⟩
def tickGone (l : List S46) : List Int := (l.filter fun x => !decide (1 < x.f2)).map fun x => x.f0
theorem tickOut_cons (x : S46) (l : List S46) : tickOut (x :: l) = if 1 < x.f2 then ⟨x.f0, x.f1, x.f2 - 1⟩ :: tickOut l else tickOut l := by
  unfold tickOut; rw [List.filter_cons]
  by_cases h : 1 < x.f2
  · rw [if_pos (decide_eq_true h), if_pos h]; rfl
  · rw [if_neg (by simpa using h), if_neg h]
theorem tickGone_cons (x : S46) (l : List S46) : tickGone (x :: l) = if 1 < x.f2 then tickGone l else x.f0 :: tickGone l := by
  unfold tickGone; rw [List.filter_cons]
  by_cases h : 1 < x.f2
  · rw [if_neg (by simp [h]), if_pos h]
  · rw [if_pos (by simp [h]), if_neg h]; rfl
theorem tick_l {l : List S46} {p : Int} (hr : rises nok nkey p l = true) (hn : l.length ≤ 1000) : ∀ (d k i : Nat) (a : List S46) (g : List Int), i + d = l.length → d < k → a.length ≤ i → g.length ≤ i →
    near_Tick.l0 k a g l (l.length : Int) (i : Int) = some (a ++ tickOut (l.drop i), g ++ tickGone (l.drop i), 0) := by
  intro d
  induction d with
  | zero =>
    intro k i a g hi hk _ _
    obtain ⟨k, rfl⟩ : ∃ m, k = m + 1 := ⟨k - 1, by omega⟩
    simp only [near_Tick.l0]
    rw [if_neg (by omega), List.drop_of_length_le (by omega)]
    simp [tickOut, tickGone]
  | succ d ih =>
    intro k i a g hi hk ha hg
    obtain ⟨k, rfl⟩ : ∃ m, k = m + 1 := ⟨k - 1, by omega⟩
    have hlt : i < l.length := by omega
    have h4 : wrap64 ((i : Int) + 1) = ((i + 1 : Nat) : Int) := by rw [wrap_id (by omega) (by omega)]; omega
    have hx := nok_iff.mp (rises_ok hr hlt)
    unfold NearOk at hx
    have h5 : wrap64 (l[i].f2 - 1) = l[i].f2 - 1 := wrap_id (by omega) (by omega)
    simp only [near_Tick.l0, rdN_at hlt, h4, h5]
    clear h4 h5
    rw [if_pos (by omega), if_pos (by omega), if_pos (by omega), List.drop_eq_getElem_cons hlt]
    by_cases hc : 1 < l[i].f2
    · rw [if_pos (by omega), if_pos (by omega), ih k (i + 1) _ g (by omega) (by omega) (by simp; omega) (by omega), tickOut_cons, tickGone_cons, if_pos hc, if_pos hc, List.append_assoc]
      rfl
    · rw [if_neg (by omega), if_pos (by omega), ih k (i + 1) a _ (by omega) (by omega) (by omega) (by simp; omega), tickOut_cons, tickGone_cons, if_neg hc, if_neg hc, List.append_assoc]
      rfl
theorem near_Tick_f {l : List S46} (hn : l.length ≤ 9223372036854775800) {k : Nat} (hk : l.length + 10 < k) :
    near_Tick.f k l = some (if rises nok nkey 0 l = true then (tickOut l, tickGone l, 0) else ([], [], 1900)) := by
  simp only [near_Tick.f, near_May_f hn (show l.length < k by omega), Option.bind_some]
  by_cases h1 : rises nok nkey 0 l = true
  · have hs := rises_short h1
    rw [if_pos h1, if_pos h1]
    have := tick_l h1 (by omega) l.length k 0 [] [] (by omega) (by omega) (Nat.le_refl _) (Nat.le_refl _)
    simpa using this
  · rw [if_neg h1, if_neg h1]
theorem full1_f (a b c : Int) : near_Full_1.f a b c = some (b != 2) := rfl
theorem idx_l {l : List S46} (hn : l.length ≤ 1000) : ∀ (d k i : Nat), i + d = l.length → d < k → (∀ j (h : j < l.length), j < i → l[j].f1 = 2) →
    (api_Near_37.l0 k l (l.length : Int) (i : Int) = some (-1) ∧ ∀ x ∈ l, x.f1 = 2) ∨ ∃ m, ∃ h : m < l.length, api_Near_37.l0 k l (l.length : Int) (i : Int) = some (m : Int) ∧ l[m].f1 ≠ 2 ∧ ∀ j (h : j < l.length), j < m → l[j].f1 = 2 := by
  intro d
  induction d with
  | zero =>
    intro k i hi hk hb
    obtain ⟨k, rfl⟩ : ∃ m, k = m + 1 := ⟨k - 1, by omega⟩
    simp only [api_Near_37.l0]
    rw [if_neg (by omega)]
    refine .inl ⟨rfl, fun x hx => ?_⟩
    obtain ⟨j, hj, rfl⟩ := List.mem_iff_getElem.mp hx
    exact hb j hj (by omega)
  | succ d ih =>
    intro k i hi hk hb
    obtain ⟨k, rfl⟩ : ∃ m, k = m + 1 := ⟨k - 1, by omega⟩
    have hlt : i < l.length := by omega
    have h4 : wrap64 ((i : Int) + 1) = ((i + 1 : Nat) : Int) := by rw [wrap_id (by omega) (by omega)]; omega
    simp only [api_Near_37.l0, rdN_at hlt, h4, full1_f, Option.bind_some]
    rw [if_pos (by omega), if_pos (by omega), if_pos (by omega)]
    by_cases hc : l[i].f1 = 2
    · rw [if_neg (by simp [hc])]
      exact ih k (i + 1) (by omega) (by omega) (fun j hj hlt' => by
        by_cases e : j = i
        · subst e; exact hc
        · exact hb j hj (by omega))
    · rw [if_pos (by simp [hc])]
      exact .inr ⟨i, hlt, rfl, hc, hb⟩
theorem del_l {l : List S46} (hn : l.length ≤ 1000) : ∀ (d k i j : Nat) (c : List S46), j + d = l.length → d < k → i ≤ j → c.length = l.length → c.take i = (l.take j).filter (fun x => x.f1 == 2) → c.drop j = l.drop j →
    api_Near_32.l0 k c (i : Int) (j : Int) = some (l.filter fun x => x.f1 == 2) := by
  intro d
  induction d with
  | zero =>
    intro k i j c hj hk hij hcl ht hd
    obtain ⟨k, rfl⟩ : ∃ m, k = m + 1 := ⟨k - 1, by omega⟩
    simp only [api_Near_32.l0]
    rw [if_neg (by omega), if_pos (by omega), if_pos (by omega), Int.toNat_natCast, ht, List.take_of_length_le (by omega)]
  | succ d ih =>
    intro k i j c hj hk hij hcl ht hd
    obtain ⟨k, rfl⟩ : ∃ m, k = m + 1 := ⟨k - 1, by omega⟩
    have hlt : j < l.length := by omega
    have hltc : j < c.length := by omega
    have hel : c[j] = l[j] := by
      have h1 := List.drop_eq_getElem_cons hltc
      have h2 := List.drop_eq_getElem_cons hlt
      rw [h1, h2] at hd
      injection hd
    have hd' : c.drop (j + 1) = l.drop (j + 1) := by
      have h1 := List.drop_eq_getElem_cons hltc
      have h2 := List.drop_eq_getElem_cons hlt
      rw [h1, h2] at hd
      injection hd
    have h4 : wrap64 ((j : Int) + 1) = ((j + 1 : Nat) : Int) := by rw [wrap_id (by omega) (by omega)]; omega
    have h5 : wrap64 ((i : Int) + 1) = ((i + 1 : Nat) : Int) := by rw [wrap_id (by omega) (by omega)]; omega
    simp only [api_Near_32.l0, rdN_at hltc, h4, h5, full1_f, Option.bind_some, hel]
    clear h4 h5
    rw [if_pos (by omega), if_pos (by omega)]
    have htk : (l.take (j + 1)).filter (fun x => x.f1 == 2) = (l.take j).filter (fun x => x.f1 == 2) ++ [l[j]].filter (fun x => x.f1 == 2) := by
      rw [List.take_succ_eq_append_getElem hlt, List.filter_append]
    by_cases hc : l[j].f1 = 2
    · rw [if_neg (by simp [hc]), if_pos (by omega), if_pos (by omega)]
      have hx : (⟨l[j].f0, l[j].f1, l[j].f2⟩ : S46) = l[j] := rfl
      rw [hx, Int.toNat_natCast]
      refine ih k (i + 1) (j + 1) _ (by omega) (by omega) (by omega) (by rw [List.length_set]; exact hcl) ?_ ?_
      · rw [htk, ← ht, List.set_eq_take_append_cons_drop, if_pos (by omega), List.take_append, List.length_take, Nat.min_eq_left (by omega), show i + 1 - i = 1 by omega, List.take_of_length_le (by rw [List.length_take]; omega)]
        simp [hc]
      · rw [List.drop_set_of_lt (by omega)]; exact hd'
    · rw [if_pos (by simp [hc])]
      refine ih k i (j + 1) c (by omega) (by omega) (by omega) hcl ?_ hd'
      rw [htk, ht]; simp [hc]
theorem del_f {l : List S46} (hn : l.length ≤ 1000) {k : Nat} (hk : l.length < k) : api_Near_32.f k l = some (l.filter fun x => x.f1 == 2) := by
  unfold api_Near_32.f api_Near_37.f
  rcases idx_l hn l.length k 0 (by omega) hk (fun j h hj => by omega) with ⟨h, ha⟩ | ⟨m, hm, h, hne, hb⟩
  · have h' : api_Near_37.l0 k l (l.length : Int) 0 = some (-1) := h
    rw [h', Option.bind_some, if_pos rfl]
    congr 1
    exact (List.filter_eq_self.mpr fun x hx => by simp [ha x hx]).symm
  · have h' : api_Near_37.l0 k l (l.length : Int) 0 = some (m : Int) := h
    have h4 : wrap64 ((m : Int) + 1) = ((m + 1 : Nat) : Int) := by rw [wrap_id (by omega) (by omega)]; omega
    rw [h', Option.bind_some, if_neg (by omega), h4]
    refine del_l hn (l.length - (m + 1)) k m (m + 1) l (by omega) (by omega) (by omega) rfl ?_ rfl
    rw [List.take_succ_eq_append_getElem hm, List.filter_append]
    have h1 : (l.take m).filter (fun x => x.f1 == 2) = l.take m := List.filter_eq_self.mpr fun x hx => by
      obtain ⟨j, hj, rfl⟩ := List.mem_iff_getElem.mp hx
      rw [List.length_take] at hj
      rw [List.getElem_take]
      simp [hb j (by omega) (by omega)]
    rw [h1]; simp [hne]
theorem all_l {l : List S46} (hn : l.length ≤ 1000) : ∀ (d k i : Nat) (a : List Int), i + d = l.length → d < k → a.length ≤ i →
    near_All.l0 k a l (l.length : Int) (i : Int) = some (a ++ (l.drop i).map fun x => x.f0) := by
  intro d
  induction d with
  | zero =>
    intro k i a hi hk _
    obtain ⟨k, rfl⟩ : ∃ m, k = m + 1 := ⟨k - 1, by omega⟩
    simp only [near_All.l0]
    rw [if_neg (by omega), List.drop_of_length_le (by omega)]; simp
  | succ d ih =>
    intro k i a hi hk ha
    obtain ⟨k, rfl⟩ : ∃ m, k = m + 1 := ⟨k - 1, by omega⟩
    have hlt : i < l.length := by omega
    have h4 : wrap64 ((i : Int) + 1) = ((i + 1 : Nat) : Int) := by rw [wrap_id (by omega) (by omega)]; omega
    simp only [near_All.l0, rdN_at hlt, h4]
    rw [if_pos (by omega), if_pos (by omega), if_pos (by omega), if_pos (by omega), ih k (i + 1) _ (by omega) (by omega) (by simp; omega), List.drop_eq_getElem_cons hlt, List.map_cons, List.append_assoc]
    rfl
/-- The routers that are full. -/
def fullOf (l : List S46) : List Int := if rises nok nkey 0 l = true then (l.filter fun x => x.f1 == 2).map fun x => x.f0 else []
theorem near_Full_f {l : List S46} (hn : l.length ≤ 9223372036854775800) {k : Nat} (hk : l.length + 10 < k) : near_Full.f k l = some (fullOf l) := by
  simp only [near_Full.f, near_May_f hn (show l.length < k by omega), Option.bind_some]
  unfold fullOf
  by_cases h1 : rises nok nkey 0 l = true
  · have hs := rises_short h1
    have hfl := List.length_filter_le (fun x : S46 => x.f1 == 2) l
    rw [if_pos h1, if_pos h1]
    simp only [clone_f (show l.length < 5864062014805 by omega), del_f (show l.length ≤ 1000 by omega) (show l.length < k by omega), Option.bind_some, near_All.f]
    have := all_l (l := l.filter fun x => x.f1 == 2) (by omega) (l.filter fun x => x.f1 == 2).length k 0 [] (by omega) (by omega) (Nat.le_refl _)
    have h2 : near_All.l0 k [] (l.filter fun x => x.f1 == 2) ((l.filter fun x => x.f1 == 2).length : Int) 0 = some ([] ++ ((l.filter fun x => x.f1 == 2).drop 0).map fun x => x.f0) := this
    rw [h2]; simp
  · rw [if_neg h1, if_neg h1]

end Go.Proofs.Ytnfoldgialdhjaa.L19
