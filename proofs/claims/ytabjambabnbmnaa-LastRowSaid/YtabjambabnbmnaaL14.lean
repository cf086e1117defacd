/- What the functions of the layer 'last' come to, in plain lists. -/
import Derived.Test.YtabjambabnbmnaaQ14x114
import Derived.Test.YtabjambabnbmnaaQ14x116
import Derived.Test.YtabjambabnbmnaaBase
namespace Go.Proofs.Ytabjambabnbmnaa.L14
open Go.RowKit Go.Proofs.YtabjambabnbmnaaW.PrintWords Go.Proofs.YtabjambabnbmnaaW.PrintLast Go.Proofs.YtabjambabnbmnaaW.PrintMore Go.Proofs.Ytabjambabnbmnaa.Base Go.Proofs.Ytabjambabnbmnaa.Q14
set_option linter.unusedVariables false
set_option linter.unusedSimpArgs false
/-! ### Rising rows: lists whose elements are sound and whose keys rise; one put in its place -/
section
variable {α : Type}
def rises (ok : α → Bool) (key : α → Int) : Int → List α → Bool
  | _, [] => true
  | p, x :: l => if ok x = true ∧ p < key x then rises ok key (key x) l else false
def ins (key : α → Int) (x : α) : List α → List α
  | [] => [x]
  | y :: l => if key y < key x then y :: ins key x l else if key y = key x then x :: l else x :: y :: l
def look (key : α → Int) (q : Int) : List α → Option α
  | [] => none
  | y :: l => if key y = q then some y else look key q l
variable {ok : α → Bool} {key : α → Int}
theorem rises_cons {p : Int} {x : α} {l : List α} : rises ok key p (x :: l) = true ↔ (ok x = true ∧ p < key x) ∧ rises ok key (key x) l = true := by
  show (if ok x = true ∧ p < key x then rises ok key (key x) l else false) = true ↔ _
  by_cases h : ok x = true ∧ p < key x
  · rw [if_pos h]; exact ⟨fun h' => ⟨h, h'⟩, fun h' => h'.2⟩
  · rw [if_neg h]; constructor
    · intro h'; cases h'
    · intro h'; exact absurd h'.1 h
theorem rises_lower : ∀ {l : List α} {p q : Int}, rises ok key p l = true → q ≤ p → rises ok key q l = true
  | [], _, _, _, _ => rfl
  | x :: l, p, q, h, hq => by
    obtain ⟨⟨h1, h2⟩, h3⟩ := rises_cons.mp h
    exact rises_cons.mpr ⟨⟨h1, by omega⟩, h3⟩
theorem rises_mem : ∀ {l : List α} {p : Int}, rises ok key p l = true → ∀ x ∈ l, ok x = true ∧ p < key x
  | [], _, _, _, hx => by cases hx
  | y :: l, p, h, x, hx => by
    obtain ⟨⟨h1, h2⟩, h3⟩ := rises_cons.mp h
    rcases List.mem_cons.mp hx with rfl | hx
    · exact ⟨h1, h2⟩
    · have := rises_mem h3 x hx
      exact ⟨this.1, by omega⟩
theorem rises_length : ∀ {l : List α} {p : Int} (b : Int), rises ok key p l = true → (∀ x, ok x = true → key x ≤ b) → p ≤ b → (l.length : Int) ≤ b - p
  | [], p, b, _, _, hp => by simp; omega
  | x :: l, p, b, h, hb, hp => by
    obtain ⟨⟨h1, h2⟩, h3⟩ := rises_cons.mp h
    have := rises_length b h3 hb (hb x h1)
    simp only [List.length_cons]; omega
theorem rises_get : ∀ {l : List α} {p : Int}, rises ok key p l = true → ∀ {i j : Nat} (hi : i < j) (hj : j < l.length), key (l[i]'(by omega)) < key l[j]
  | [], _, _, _, _, _, hj => by simp at hj
  | x :: l, p, h, i, j, hi, hj => by
    obtain ⟨⟨h1, h2⟩, h3⟩ := rises_cons.mp h
    obtain ⟨j, rfl⟩ : ∃ m, j = m + 1 := ⟨j - 1, by omega⟩
    cases i with
    | zero =>
      simp only [List.getElem_cons_zero, List.getElem_cons_succ]
      exact (rises_mem h3 _ (List.getElem_mem _)).2
    | succ i =>
      simp only [List.getElem_cons_succ]
      exact rises_get h3 (by omega) (by simpa using hj)
theorem rises_ok {l : List α} {p : Int} (h : rises ok key p l = true) {i : Nat} (hi : i < l.length) : ok l[i] = true := (rises_mem h _ (List.getElem_mem hi)).1
theorem ins_rises : ∀ {l : List α} {p : Int} {x : α}, rises ok key p l = true → ok x = true → p < key x → rises ok key p (ins key x l) = true
  | [], p, x, _, h1, h2 => rises_cons.mpr ⟨⟨h1, h2⟩, rfl⟩
  | y :: l, p, x, h, h1, h2 => by
    obtain ⟨⟨a1, a2⟩, a3⟩ := rises_cons.mp h
    show rises ok key p (if key y < key x then y :: ins key x l else if key y = key x then x :: l else x :: y :: l) = true
    by_cases c1 : key y < key x
    · rw [if_pos c1]; exact rises_cons.mpr ⟨⟨a1, a2⟩, ins_rises a3 h1 c1⟩
    · rw [if_neg c1]
      by_cases c2 : key y = key x
      · rw [if_pos c2]; exact rises_cons.mpr ⟨⟨h1, h2⟩, rises_lower a3 (by omega)⟩
      · rw [if_neg c2]; exact rises_cons.mpr ⟨⟨h1, h2⟩, rises_cons.mpr ⟨⟨a1, by omega⟩, a3⟩⟩
theorem ins_length : ∀ (l : List α) (x : α), (ins key x l).length ≤ l.length + 1 ∧ 1 ≤ (ins key x l).length
  | [], x => by simp [ins]
  | y :: l, x => by
    have := ins_length l x
    unfold ins
    split
    · simp only [List.length_cons]; omega
    · split <;> simp only [List.length_cons] <;> omega
theorem look_lt : ∀ {l : List α} {p q : Int}, rises ok key p l = true → q ≤ p → look key q l = none
  | [], _, _, _, _ => rfl
  | x :: l, p, q, h, hq => by
    obtain ⟨⟨h1, h2⟩, h3⟩ := rises_cons.mp h
    unfold look
    rw [if_neg (by omega)]
    exact look_lt h3 (by omega)
theorem look_ins_self : ∀ {l : List α} {p : Int} {x : α}, rises ok key p l = true → look key (key x) (ins key x l) = some x
  | [], _, x, _ => by simp [ins, look]
  | y :: l, p, x, h => by
    obtain ⟨⟨h1, h2⟩, h3⟩ := rises_cons.mp h
    unfold ins
    by_cases c1 : key y < key x
    · rw [if_pos c1]; unfold look; rw [if_neg (by omega)]; exact look_ins_self h3
    · rw [if_neg c1]
      by_cases c2 : key y = key x
      · rw [if_pos c2]; unfold look; rw [if_pos rfl]
      · rw [if_neg c2]; unfold look; rw [if_pos rfl]
theorem look_ins_other : ∀ {l : List α} {x : α} {q : Int}, q ≠ key x → look key q (ins key x l) = look key q l
  | [], x, q, hq => by show (if key x = q then some x else look key q []) = _; rw [if_neg (by omega)]
  | y :: l, x, q, hq => by
    unfold ins
    by_cases c1 : key y < key x
    · rw [if_pos c1]; unfold look; rw [look_ins_other hq]
    · rw [if_neg c1]
      by_cases c2 : key y = key x
      · rw [if_pos c2]; unfold look; rw [if_neg (by omega), if_neg (by omega)]
      · rw [if_neg c2]; conv => lhs; unfold look
        rw [if_neg (by omega)]
theorem look_mem : ∀ {l : List α} {q : Int} {x : α}, look key q l = some x → x ∈ l ∧ key x = q
  | [], _, _, h => by cases h
  | y :: l, q, x, h => by
    unfold look at h
    by_cases c : key y = q
    · rw [if_pos c] at h; obtain rfl := Option.some.inj h; exact ⟨List.mem_cons_self, c⟩
    · rw [if_neg c] at h; have := look_mem h; exact ⟨List.mem_cons_of_mem _ this.1, this.2⟩
theorem look_none : ∀ {l : List α} {q : Int}, look key q l = none → ∀ x ∈ l, key x ≠ q
  | [], _, _, x, hx => by cases hx
  | y :: l, q, h, x, hx => by
    unfold look at h
    by_cases c : key y = q
    · rw [if_pos c] at h; cases h
    · rw [if_neg c] at h
      rcases List.mem_cons.mp hx with rfl | hx
      · exact c
      · exact look_none h x hx
/-- Where a key is, or would be. -/
structure Place (key : α → Int) (l : List α) (q : Int) (p : Nat) : Prop where
  le : p ≤ l.length
  lo : ∀ j (h : j < l.length), j < p → key l[j] < q
  hi : ∀ j (h : j < l.length), p ≤ j → q ≤ key l[j]
theorem place_of : ∀ {l : List α} {p : Int}, rises ok key p l = true → ∀ q, ∃ m, Place key l q m
  | [], _, _, q => ⟨0, by simp, fun _ h => by simp at h, fun _ h => by simp at h⟩
  | x :: l, p, h, q => by
    obtain ⟨⟨h1, h2⟩, h3⟩ := rises_cons.mp h
    by_cases c : key x < q
    · obtain ⟨m, hm⟩ := place_of h3 q
      refine ⟨m + 1, by simpa using hm.le, fun j hj h => ?_, fun j hj h => ?_⟩
      · cases j with
        | zero => exact c
        | succ j => exact hm.lo j (by simpa using hj) (by omega)
      · obtain ⟨j, rfl⟩ : ∃ m, j = m + 1 := ⟨j - 1, by omega⟩
        exact hm.hi j (by simpa using hj) (by omega)
    · refine ⟨0, Nat.zero_le _, fun j _ h => by omega, fun j hj _ => ?_⟩
      cases j with
      | zero => show q ≤ key x; omega
      | succ j =>
        have hj' : j < l.length := by simpa using hj
        have := (rises_mem h3 _ (List.getElem_mem hj')).2
        simp only [List.getElem_cons_succ]; omega
/-- Put in at its place. -/
theorem ins_place : ∀ {l : List α} {b : Int} {x : α} {m : Nat}, rises ok key b l = true → Place key l (key x) m →
    (∀ h : m < l.length, key l[m] = key x → ins key x l = l.set m x) ∧ ((∀ h : m < l.length, key l[m] ≠ key x) → ins key x l = l.take m ++ [x] ++ l.drop m)
  | [], _, x, m, _, P => by
    have := P.le
    obtain rfl : m = 0 := by simpa using this
    exact ⟨fun h => by simp at h, fun _ => rfl⟩
  | y :: l, b, x, m, h, P => by
    obtain ⟨⟨h1, h2⟩, h3⟩ := rises_cons.mp h
    cases m with
    | zero =>
      have c1 := P.hi 0 (by simp) (Nat.le_refl _)
      simp only [List.getElem_cons_zero] at c1
      refine ⟨fun _ e => ?_, fun e => ?_⟩
      · simp only [List.getElem_cons_zero] at e
        unfold ins; rw [if_neg (by omega), if_pos e]; rfl
      · have e := e (by simp)
        simp only [List.getElem_cons_zero] at e
        unfold ins; rw [if_neg (by omega), if_neg e]; rfl
    | succ m =>
      have c1 := P.lo 0 (by simp) (by omega)
      simp only [List.getElem_cons_zero] at c1
      have P' : Place key l (key x) m := ⟨by have := P.le; simpa using this, fun j hj hm => P.lo (j + 1) (by simpa using hj) (by omega), fun j hj hm => P.hi (j + 1) (by simpa using hj) (by omega)⟩
      have ih := ins_place h3 P'
      refine ⟨fun hl e => ?_, fun e => ?_⟩
      · simp only [List.getElem_cons_succ] at e
        unfold ins; rw [if_pos c1, ih.1 (by simpa using hl) e]; rfl
      · unfold ins; rw [if_pos c1, ih.2 (fun hl => by have := e (by simpa using hl); simpa using this)]; rfl
theorem look_place : ∀ {l : List α} {b q : Int} {m : Nat}, rises ok key b l = true → Place key l q m →
    (∀ h : m < l.length, key l[m] = q → look key q l = some l[m]) ∧ ((∀ h : m < l.length, key l[m] ≠ q) → look key q l = none)
  | [], _, q, m, _, P => ⟨fun h => by simp at h, fun _ => rfl⟩
  | y :: l, b, q, m, h, P => by
    obtain ⟨⟨h1, h2⟩, h3⟩ := rises_cons.mp h
    cases m with
    | zero =>
      have c1 := P.hi 0 (by simp) (Nat.le_refl _)
      simp only [List.getElem_cons_zero] at c1
      refine ⟨fun _ e => ?_, fun e => ?_⟩
      · simp only [List.getElem_cons_zero] at e
        unfold look; rw [if_pos e]; rfl
      · have e := e (by simp)
        simp only [List.getElem_cons_zero] at e
        unfold look; rw [if_neg e]
        exact look_lt h3 (by omega)
    | succ m =>
      have c1 := P.lo 0 (by simp) (by omega)
      simp only [List.getElem_cons_zero] at c1
      have P' : Place key l q m := ⟨by have := P.le; simpa using this, fun j hj hm => P.lo (j + 1) (by simpa using hj) (by omega), fun j hj hm => P.hi (j + 1) (by simpa using hj) (by omega)⟩
      have ih := look_place h3 P'
      refine ⟨fun hl e => ?_, fun e => ?_⟩
      · simp only [List.getElem_cons_succ] at e
        unfold look; rw [if_neg (by omega), ih.1 (by simpa using hl) e]; rfl
      · unfold look; rw [if_neg (by omega)]; exact ih.2 (fun hl => by have := e (by simpa using hl); simpa using this)
end
/-! ### last: one, row, May, Newer, With (S24: the struct Last) -/
instance : DecidableEq S24 := fun a b => decidable_of_iff (a.f0 = b.f0 ∧ a.f1 = b.f1 ∧ a.f2 = b.f2 ∧ a.f3 = b.f3) (by cases a; cases b; simp)
def LastOk (x : S24) : Prop := (1 ≤ x.f0 ∧ x.f0 ≤ 4) ∧ (x.f1 = 1 ∨ x.f1 = 4 ∨ x.f1 = 5) ∧ (1 ≤ x.f2 ∧ x.f2 ≤ 4294967295) ∧ 1 ≤ x.f3 ∧ x.f3 ≤ 4294967295
instance (x : S24) : Decidable (LastOk x) := by unfold LastOk; infer_instance
def lok (x : S24) : Bool := decide (LastOk x)
def lkey (x : S24) : Int := 8 * x.f0 + x.f1
theorem lok_iff {x : S24} : lok x = true ↔ LastOk x := by unfold lok; exact decide_eq_true_iff
theorem lkey_range {x : S24} (h : lok x = true) : 0 < lkey x ∧ lkey x ≤ 37 := by
  have := lok_iff.mp h
  unfold LastOk at this; unfold lkey; omega
theorem router_f (x : Int) : lsa_Router.f x = some (decide (1 ≤ x ∧ x ≤ 4)) := by
  unfold lsa_Router.f
  by_cases h1 : x ≥ 1
  · rw [if_pos h1]; simp only [h1, true_and]
  · rw [if_neg h1]; have : ¬ (1 ≤ x ∧ x ≤ 4) := by omega
    simp [this]
theorem type_f (x : Int) : head_Type.f x = some (decide (x = 1 ∨ x = 4 ∨ x = 5)) := by
  unfold head_Type.f
  by_cases h1 : x = 1
  · simp [h1]
  · by_cases h4 : x = 4
    · simp [h4]
    · simp only [if_neg h1, if_neg h4, h1, h4, false_or]; rfl
theorem boot_f (x : Int) : trailer_Boot.f x = some (decide (1 ≤ x ∧ x ≤ 4294967295)) := by
  unfold trailer_Boot.f
  by_cases h1 : x ≥ 1
  · rw [if_pos h1]; simp only [h1, true_and]
  · rw [if_neg h1]; have : ¬ (1 ≤ x ∧ x ≤ 4294967295) := by omega
    simp [this]
theorem count_f (x : Int) : trailer_Count.f x = some (decide (1 ≤ x ∧ x ≤ 4294967295)) := by
  unfold trailer_Count.f
  by_cases h1 : x ≥ 1
  · rw [if_pos h1]; simp only [h1, true_and]
  · rw [if_neg h1]; have : ¬ (1 ≤ x ∧ x ≤ 4294967295) := by omega
    simp [this]
theorem last_one_f (a b c d : Int) : last_one.f a b c d = some (lok ⟨a, b, c, d⟩) := by
  simp only [last_one.f, router_f, type_f, boot_f, count_f, Option.bind_some, decide_eq_true_eq]
  unfold lok LastOk
  by_cases h1 : 1 ≤ a ∧ a ≤ 4
  · by_cases h2 : b = 1 ∨ b = 4 ∨ b = 5
    · by_cases h3 : 1 ≤ c ∧ c ≤ 4294967295
      · simp [h1, h2, h3]
      · simp [h1, h2, h3]
    · simp [h1, h2]
  · simp [h1]
theorem or2_f {k : Nat} (hk : 3 ≤ k) (x y : Int) : cmp_Or_int.f k [x, y] = some (if x ≠ 0 then x else y) := by
  obtain ⟨k, rfl⟩ : ∃ m, k = m + 3 := ⟨k - 3, by omega⟩
  have w0 : wrap64 (0 + 1) = 1 := wrap_id (by omega) (by omega)
  have w1 : wrap64 (1 + 1) = 2 := wrap_id (by omega) (by omega)
  have r0 : rd [x, y] 0 = x := rfl
  have r1 : rd [x, y] 1 = y := rfl
  unfold cmp_Or_int.f
  simp only [cmp_Or_int.l0, List.length_cons, List.length_nil, r0, w0, r1, w1]
  by_cases hx : x = 0
  · by_cases hy : y = 0
    · simp [hx, hy]
    · simp [hx, hy]
  · simp [hx]
def rowv (a b : S24) : Int := if a.f0 - b.f0 ≠ 0 then a.f0 - b.f0 else a.f1 - b.f1
theorem last_row_f {k : Nat} (hk : 3 ≤ k) {a b : S24} (ha : lok a = true) (hb : lok b = true) : last_row.f k a.f0 a.f1 a.f2 a.f3 b.f0 b.f1 b.f2 b.f3 = some (rowv a b) := by
  have h1 := lok_iff.mp ha
  have h2 := lok_iff.mp hb
  unfold LastOk at h1 h2
  have w0 : wrap64 (a.f0 - b.f0) = a.f0 - b.f0 := wrap_id (by omega) (by omega)
  have w1 : wrap64 (a.f1 - b.f1) = a.f1 - b.f1 := wrap_id (by omega) (by omega)
  simp only [last_row.f, or2_f hk, Option.bind_some, w0, w1]
  rfl
theorem rowv_lt {a b : S24} (ha : lok a = true) (hb : lok b = true) : (rowv a b < 0 ↔ lkey a < lkey b) ∧ (rowv a b = 0 ↔ lkey a = lkey b) := by
  have h1 := lok_iff.mp ha
  have h2 := lok_iff.mp hb
  unfold LastOk at h1 h2
  unfold rowv lkey
  split <;> omega
theorem rdL_at {l : List S24} {i : Nat} (h : i < l.length) : rd_T24 l (i : Int) = l[i] := by
  unfold rd_T24; rw [Int.toNat_natCast, List.getD_eq_getElem?_getD, List.getElem?_eq_getElem h]; rfl
def prevL (l : List S24) (i : Nat) : Int := if h : 0 < i ∧ i - 1 < l.length then lkey l[i - 1] else 0
theorem last_May_l {l : List S24} (hn : l.length ≤ 9223372036854775800) : ∀ (d k i : Nat), i + d = l.length → d + 3 < k → (∀ h : 0 < i ∧ i - 1 < l.length, lok l[i - 1] = true) →
    last_May.l0 k l l (l.length : Int) (i : Int) = some (rises lok lkey (prevL l i) (l.drop i)) := by
  intro d
  induction d with
  | zero =>
    intro k i hi hk _
    obtain ⟨k, rfl⟩ : ∃ m, k = m + 1 := ⟨k - 1, by omega⟩
    simp only [last_May.l0]
    rw [if_neg (by omega), List.drop_of_length_le (by omega)]
    rfl
  | succ d ih =>
    intro k i hi hk hp
    obtain ⟨k, rfl⟩ : ∃ m, k = m + 1 := ⟨k - 1, by omega⟩
    have hlt : i < l.length := by omega
    have h4 : wrap64 ((i : Int) + 1) = ((i + 1 : Nat) : Int) := by rw [wrap_id (by omega) (by omega)]; omega
    have ih' := ih k (i + 1) (by omega) (by omega)
    simp only [last_May.l0, last_one_f, Option.bind_some, rdL_at hlt]
    rw [if_pos (by omega), if_pos (by omega), if_pos (by omega), h4, List.drop_eq_getElem_cons hlt]
    have hpn : prevL l (i + 1) = lkey l[i] := by unfold prevL; rw [dif_pos ⟨by omega, by omega⟩]; rfl
    rw [hpn] at ih'
    show (if lok l[i] = true then _ else _) = some (if lok l[i] = true ∧ prevL l i < lkey l[i] then rises lok lkey (lkey l[i]) (l.drop (i + 1)) else false)
    by_cases hc : lok l[i] = true
    · rw [if_pos hc]
      have hr := lkey_range hc
      have ihc := ih' (fun _ => hc)
      by_cases h0 : (i : Int) > 0
      · have h5 : wrap64 ((i : Int) - 1) = ((i - 1 : Nat) : Int) := by rw [wrap_id (by omega) (by omega)]; omega
        have hl1 : i - 1 < l.length := by omega
        have hq := hp ⟨by omega, hl1⟩
        rw [if_pos h0, h5, if_pos (by omega), if_pos (by omega)]
        simp only [rdL_at hl1, last_row_f (show 3 ≤ k by omega) hq hc, Option.bind_some]
        have hpv : prevL l i = lkey l[i - 1] := by unfold prevL; rw [dif_pos ⟨by omega, hl1⟩]
        have hs := rowv_lt hq hc
        rw [hpv]
        by_cases hg : rowv l[i - 1] l[i] ≥ 0
        · rw [if_pos hg, if_neg (by rintro ⟨_, h⟩; have := hs.1.mpr h; omega)]
        · rw [if_neg hg, if_pos ⟨hc, hs.1.mp (by omega)⟩, ihc]
      · rw [if_neg h0]
        have hpv : prevL l i = 0 := by unfold prevL; rw [dif_neg (by omega)]
        rw [hpv, if_pos ⟨hc, by omega⟩, ihc]
    · rw [if_neg hc, if_neg (fun h => hc h.1)]
theorem last_May_f {l : List S24} (hn : l.length ≤ 9223372036854775800) {k : Nat} (hk : l.length + 3 < k) : last_May.f k l = some (rises lok lkey 0 l) := by
  have := last_May_l hn l.length k 0 (by omega) hk (fun h => by omega)
  exact this
theorem bs_l {l : List S24} {x : S24} {p : Int} {m : Nat} (hr : rises lok lkey p l = true) (hx : lok x = true) (P : Place lkey l (lkey x) m) (hn : l.length ≤ 1000) :
    ∀ (d k i j : Nat), i + d = j → d + 4 < k → i ≤ m → m ≤ j → j ≤ l.length →
    api_Last_40.l0 k l (l.length : Int) (i : Int) (j : Int) x.f0 x.f1 x.f2 x.f3 = some ((m : Int), if h : m < l.length then decide (lkey l[m] = lkey x) else false) := by
  intro d
  induction d using Nat.strongRecOn with
  | _ d ih =>
    intro k i j hij hk him hmj hjn
    obtain ⟨k, rfl⟩ : ∃ q, k = q + 1 := ⟨k - 1, by omega⟩
    simp only [api_Last_40.l0]
    by_cases h0 : i < j
    · have e1 : wrap64 ((i : Int) + (j : Int)) = ((i + j : Nat) : Int) := by rw [wrap_id (by omega) (by omega)]; omega
      have e2 : IntKind.u64.wrap (((i + j : Nat) : Int)) = ((i + j : Nat) : Int) := IntWalk.u64_in _ ⟨by omega, by omega⟩
      have e3 : (((i + j : Nat) : Int)) / 2 = (((i + j) / 2 : Nat) : Int) := by omega
      have e4 : wrap64 ((((i + j) / 2 : Nat) : Int)) = (((i + j) / 2 : Nat) : Int) := wrap_id (by omega) (by omega)
      have hh : (i + j) / 2 < l.length := by omega
      have e5 : wrap64 ((((i + j) / 2 : Nat) : Int) + 1) = (((i + j) / 2 + 1 : Nat) : Int) := by rw [wrap_id (by omega) (by omega)]; omega
      have hok := rises_ok hr hh
      simp only [e1, e2, e3, e4, e5, rdL_at hh]
      clear e1 e2 e3 e4 e5
      rw [if_pos (by omega), if_pos (by omega), if_pos (by omega)]
      simp only [last_row_f (show 3 ≤ k by omega) hok hx, Option.bind_some]
      have hs := rowv_lt hok hx
      by_cases hc : rowv l[(i + j) / 2] x < 0
      · rw [if_pos hc]
        have hk' := hs.1.mp hc
        have hm : (i + j) / 2 < m := by
          apply Nat.lt_of_not_le; intro hle
          have := P.hi _ hh hle; omega
        exact ih (j - ((i + j) / 2 + 1)) (by omega) k ((i + j) / 2 + 1) j (by omega) (by omega) (by omega) hmj hjn
      · rw [if_neg hc]
        have hm : m ≤ (i + j) / 2 := by
          apply Nat.le_of_not_lt; intro hlt
          exact hc (hs.1.mpr (P.lo _ hh hlt))
        exact ih ((i + j) / 2 - i) (by omega) k i ((i + j) / 2) (by omega) (by omega) him hm (by omega)
    · obtain rfl : i = m := by omega
      rw [if_neg (by omega)]
      by_cases hl : i < l.length
      · have hok := rises_ok hr hl
        rw [if_pos (by omega), if_pos (by omega), if_pos (by omega)]
        simp only [rdL_at hl, last_row_f (show 3 ≤ k by omega) hok hx, Option.bind_some, dif_pos hl]
        have hs := (rowv_lt hok hx).2
        congr 2
        by_cases hc : lkey l[i] = lkey x
        · rw [hs.mpr hc]; simp [hc]
        · have : rowv l[i] x ≠ 0 := fun h => hc (hs.mp h)
          simp [this, hc]
      · rw [if_neg (by omega), dif_neg hl]
theorem bs_f {l : List S24} {x : S24} {p : Int} {m k : Nat} (hr : rises lok lkey p l = true) (hx : lok x = true) (P : Place lkey l (lkey x) m) (hn : l.length ≤ 1000) (hk : l.length + 4 < k) :
    api_Last_40.f k l x.f0 x.f1 x.f2 x.f3 = some ((m : Int), if h : m < l.length then decide (lkey l[m] = lkey x) else false) :=
  bs_l hr hx P hn l.length k 0 l.length (by omega) hk (by omega) P.le (Nat.le_refl _)
/-- Is x's number newer than y's? -/
def newerThan (x y : S24) : Bool := decide (x.f2 > y.f2 ∨ x.f2 = y.f2 ∧ x.f3 > y.f3)
def newerOf (l : List S24) (x : S24) : Bool := match look lkey (lkey x) l with | none => true | some y => newerThan x y
theorem rises_short {l : List S24} (h : rises lok lkey 0 l = true) : l.length ≤ 37 := by
  have := rises_length 37 h (fun x hx => (lkey_range hx).2) (by omega)
  omega
theorem last_Newer_f {l : List S24} (hn : l.length ≤ 9223372036854775800) {k : Nat} (hk : l.length + 60 < k) (x : S24) :
    last_Newer.f k l x.f0 x.f1 x.f2 x.f3 = some (if rises lok lkey 0 l = true ∧ lok x = true then (newerOf l x, 0) else (false, 1400)) := by
  obtain ⟨k, rfl⟩ : ∃ q, k = q + 1 := ⟨k - 1, by omega⟩
  have ht : last_Newer.j0 (k + 1) l true x.f0 x.f1 x.f2 x.f3 = some (false, 1400) := by simp [last_Newer.j0]
  simp only [last_Newer.f, last_May_f hn (show l.length + 3 < k + 1 by omega), last_one_f, Option.bind_some]
  by_cases h1 : rises lok lkey 0 l = true
  · rw [if_pos h1]
    have hs := rises_short h1
    by_cases h2 : lok x = true
    · rw [if_pos ⟨h1, h2⟩, h2]
      obtain ⟨m, P⟩ := place_of h1 (lkey x)
      simp only [last_Newer.j0, Bool.not_true, Bool.false_eq_true, if_false, bs_f h1 h2 P (by omega) (show l.length + 4 < k by omega), Option.bind_some]
      have hL := look_place h1 P
      unfold newerOf
      by_cases hm : ∃ h : m < l.length, lkey l[m] = lkey x
      · obtain ⟨hl, he⟩ := hm
        rw [dif_pos hl, decide_eq_true he, if_pos rfl, if_pos (by omega), if_pos (by omega), hL.1 hl he]
        have o1 := lok_iff.mp h2
        have o2 := lok_iff.mp (rises_ok h1 hl)
        unfold LastOk at o1 o2
        have w0 : wrap64 (x.f2 - l[m].f2) = x.f2 - l[m].f2 := wrap_id (by omega) (by omega)
        have w1 : wrap64 (x.f3 - l[m].f3) = x.f3 - l[m].f3 := wrap_id (by omega) (by omega)
        simp only [rdL_at hl, or2_f (show 3 ≤ k by omega), Option.bind_some, w0, w1]
        congr 2
        unfold newerThan
        apply decide_eq_decide.mpr
        split <;> omega
      · have hno : ∀ h : m < l.length, lkey l[m] ≠ lkey x := fun h he => hm ⟨h, he⟩
        rw [hL.2 hno]
        have : (if h : m < l.length then decide (lkey l[m] = lkey x) else false) = false := by
          by_cases h : m < l.length
          · rw [dif_pos h]; exact decide_eq_false (hno h)
          · rw [dif_neg h]
        rw [this, if_neg (by decide)]
    · have h2' : lok x = false := by simpa using h2
      rw [if_neg (fun h => h2 h.2), h2']; exact ht
  · rw [if_neg h1, if_neg (fun h => h1 h.1)]; exact ht
theorem clone_f {l : List S24} (hn : l.length < 4398046511104) : api_Last_44.f l = some l := by
  simp [api_Last_44.f, hn]
theorem last_With_f {l : List S24} (hn : l.length ≤ 9223372036854775800) {k : Nat} (hk : l.length + 60 < k) (x : S24) :
    last_With.f k l x.f0 x.f1 x.f2 x.f3 = some (if rises lok lkey 0 l = true ∧ lok x = true then (ins lkey x l, 0) else ([], 1400)) := by
  obtain ⟨k, rfl⟩ : ∃ q, k = q + 1 := ⟨k - 1, by omega⟩
  have ht : last_With.j0 (k + 1) l true x.f0 x.f1 x.f2 x.f3 = some ([], 1400) := by simp [last_With.j0]
  simp only [last_With.f, last_May_f hn (show l.length + 3 < k + 1 by omega), last_one_f, Option.bind_some]
  by_cases h1 : rises lok lkey 0 l = true
  · rw [if_pos h1]
    have hs := rises_short h1
    by_cases h2 : lok x = true
    · rw [if_pos ⟨h1, h2⟩, h2]
      obtain ⟨m, P⟩ := place_of h1 (lkey x)
      simp only [last_With.j0, Bool.not_true, Bool.false_eq_true, if_false, clone_f (show l.length < 4398046511104 by omega), bs_f h1 h2 P (by omega) (show l.length + 4 < k by omega), Option.bind_some]
      have hI := ins_place h1 P
      have hx : (⟨x.f0, x.f1, x.f2, x.f3⟩ : S24) = x := rfl
      by_cases hm : ∃ h : m < l.length, lkey l[m] = lkey x
      · obtain ⟨hl, he⟩ := hm
        rw [dif_pos hl, decide_eq_true he, if_pos rfl, if_pos (by omega), if_pos (by omega), hI.1 hl he, Int.toNat_natCast, hx]
      · have hno : ∀ h : m < l.length, lkey l[m] ≠ lkey x := fun h he => hm ⟨h, he⟩
        have : (if h : m < l.length then decide (lkey l[m] = lkey x) else false) = false := by
          by_cases h : m < l.length
          · rw [dif_pos h]; exact decide_eq_false (hno h)
          · rw [dif_neg h]
        have hmn := P.le
        rw [this, if_neg (by decide), hI.2 hno]
        simp only [api_Last_45.f, Int.toNat_natCast, hx]
        rw [if_pos ⟨by omega, by omega, by omega⟩]
        rfl
    · have h2' : lok x = false := by simpa using h2
      rw [if_neg (fun h => h2 h.2), h2']; exact ht
  · rw [if_neg h1, if_neg (fun h => h1 h.1)]; exact ht

end Go.Proofs.Ytabjambabnbmnaa.L14
