/- What the functions of the layer 'chain' come to, in plain lists. -/
import Derived.Test.YtabjambabnbmnaaQ5x126
import Derived.Test.YtabjambabnbmnaaQ5x128
import Derived.Test.YtabjambabnbmnaaQ5x130
import Derived.Test.YtabjambabnbmnaaBase
namespace Go.Proofs.Ytabjambabnbmnaa.L5
open Go.RowKit Go.Proofs.YtabjambabnbmnaaW.PrintWords Go.Proofs.YtabjambabnbmnaaW.PrintLast Go.Proofs.YtabjambabnbmnaaW.PrintMore Go.Proofs.Ytabjambabnbmnaa.Base Go.Proofs.Ytabjambabnbmnaa.Q5
set_option linter.unusedVariables false
set_option linter.unusedSimpArgs false
/-! ### Rising rows: lists whose elements are sound and whose keys rise; one put in its place -/
section
variable {α : Type}
def rises (ok : α → Bool) (key : α → Int) : Int → List α → Bool
  | _, [] => true
  | p, x :: l => if ok x = true ∧ p < key x then rises ok key (key x) l else false
def ins (key : α → Int) (x : α) : List α → List α
  | [] => [x]
  | y :: l => if key y < key x then y :: ins key x l else if key y = key x then x :: l else x :: y :: l
def look (key : α → Int) (q : Int) : List α → Option α
  | [] => none
  | y :: l => if key y = q then some y else look key q l
variable {ok : α → Bool} {key : α → Int}
theorem rises_cons {p : Int} {x : α} {l : List α} : rises ok key p (x :: l) = true ↔ (ok x = true ∧ p < key x) ∧ rises ok key (key x) l = true := by
  show (if ok x = true ∧ p < key x then rises ok key (key x) l else false) = true ↔ _
  by_cases h : ok x = true ∧ p < key x
  · rw [if_pos h]; exact ⟨fun h' => ⟨h, h'⟩, fun h' => h'.2⟩
  · rw [if_neg h]; constructor
    · intro h'; cases h'
    · intro h'; exact absurd h'.1 h
theorem rises_lower : ∀ {l : List α} {p q : Int}, rises ok key p l = true → q ≤ p → rises ok key q l = true
  | [], _, _, _, _ => rfl
  | x :: l, p, q, h, hq => by
    obtain ⟨⟨h1, h2⟩, h3⟩ := rises_cons.mp h
    exact rises_cons.mpr ⟨⟨h1, by omega⟩, h3⟩
theorem rises_mem : ∀ {l : List α} {p : Int}, rises ok key p l = true → ∀ x ∈ l, ok x = true ∧ p < key x
  | [], _, _, _, hx => by cases hx
  | y :: l, p, h, x, hx => by
    obtain ⟨⟨h1, h2⟩, h3⟩ := rises_cons.mp h
    rcases List.mem_cons.mp hx with rfl | hx
    · exact ⟨h1, h2⟩
    · have := rises_mem h3 x hx
      exact ⟨this.1, by omega⟩
theorem rises_length : ∀ {l : List α} {p : Int} (b : Int), rises ok key p l = true → (∀ x, ok x = true → key x ≤ b) → p ≤ b → (l.length : Int) ≤ b - p
  | [], p, b, _, _, hp => by simp; omega
  | x :: l, p, b, h, hb, hp => by
    obtain ⟨⟨h1, h2⟩, h3⟩ := rises_cons.mp h
    have := rises_length b h3 hb (hb x h1)
    simp only [List.length_cons]; omega
theorem rises_get : ∀ {l : List α} {p : Int}, rises ok key p l = true → ∀ {i j : Nat} (hi : i < j) (hj : j < l.length), key (l[i]'(by omega)) < key l[j]
  | [], _, _, _, _, _, hj => by simp at hj
  | x :: l, p, h, i, j, hi, hj => by
    obtain ⟨⟨h1, h2⟩, h3⟩ := rises_cons.mp h
    obtain ⟨j, rfl⟩ : ∃ m, j = m + 1 := ⟨j - 1, by omega⟩
    cases i with
    | zero =>
      simp only [List.getElem_cons_zero, List.getElem_cons_succ]
      exact (rises_mem h3 _ (List.getElem_mem _)).2
    | succ i =>
      simp only [List.getElem_cons_succ]
      exact rises_get h3 (by omega) (by simpa using hj)
theorem rises_ok {l : List α} {p : Int} (h : rises ok key p l = true) {i : Nat} (hi : i < l.length) : ok l[i] = true := (rises_mem h _ (List.getElem_mem hi)).1
theorem ins_rises : ∀ {l : List α} {p : Int} {x : α}, rises ok key p l = true → ok x = true → p < key x → rises ok key p (ins key x l) = true
  | [], p, x, _, h1, h2 => rises_cons.mpr ⟨⟨h1, h2⟩, rfl⟩
  | y :: l, p, x, h, h1, h2 => by
    obtain ⟨⟨a1, a2⟩, a3⟩ := rises_cons.mp h
    show rises ok key p (if key y < key x then y :: ins key x l else if key y = key x then x :: l else x :: y :: l) = true
    by_cases c1 : key y < key x
    · rw [if_pos c1]; exact rises_cons.mpr ⟨⟨a1, a2⟩, ins_rises a3 h1 c1⟩
    · rw [if_neg c1]
      by_cases c2 : key y = key x
      · rw [if_pos c2]; exact rises_cons.mpr ⟨⟨h1, h2⟩, rises_lower a3 (by omega)⟩
      · rw [if_neg c2]; exact rises_cons.mpr ⟨⟨h1, h2⟩, rises_cons.mpr ⟨⟨a1, by omega⟩, a3⟩⟩
theorem ins_length : ∀ (l : List α) (x : α), (ins key x l).length ≤ l.length + 1 ∧ 1 ≤ (ins key x l).length
  | [], x => by simp [ins]
  | y :: l, x => by
    have := ins_length l x
    unfold ins
    split
    · simp only [List.length_cons]; omega
    · split <;> simp only [List.length_cons] <;> omega
theorem look_lt : ∀ {l : List α} {p q : Int}, rises ok key p l = true → q ≤ p → look key q l = none
  | [], _, _, _, _ => rfl
  | x :: l, p, q, h, hq => by
    obtain ⟨⟨h1, h2⟩, h3⟩ := rises_cons.mp h
    unfold look
    rw [if_neg (by omega)]
    exact look_lt h3 (by omega)
theorem look_ins_self : ∀ {l : List α} {p : Int} {x : α}, rises ok key p l = true → look key (key x) (ins key x l) = some x
  | [], _, x, _ => by simp [ins, look]
  | y :: l, p, x, h => by
    obtain ⟨⟨h1, h2⟩, h3⟩ := rises_cons.mp h
    unfold ins
    by_cases c1 : key y < key x
    · rw [if_pos c1]; unfold look; rw [if_neg (by omega)]; exact look_ins_self h3
    · rw [if_neg c1]
      by_cases c2 : key y = key x
      · rw [if_pos c2]; unfold look; rw [if_pos rfl]
      · rw [if_neg c2]; unfold look; rw [if_pos rfl]
theorem look_ins_other : ∀ {l : List α} {x : α} {q : Int}, q ≠ key x → look key q (ins key x l) = look key q l
  | [], x, q, hq => by show (if key x = q then some x else look key q []) = _; rw [if_neg (by omega)]
  | y :: l, x, q, hq => by
    unfold ins
    by_cases c1 : key y < key x
    · rw [if_pos c1]; unfold look; rw [look_ins_other hq]
    · rw [if_neg c1]
      by_cases c2 : key y = key x
      · rw [if_pos c2]; unfold look; rw [if_neg (by omega), if_neg (by omega)]
      · rw [if_neg c2]; conv => lhs; unfold look
        rw [if_neg (by omega)]
theorem look_mem : ∀ {l : List α} {q : Int} {x : α}, look key q l = some x → x ∈ l ∧ key x = q
  | [], _, _, h => by cases h
  | y :: l, q, x, h => by
    unfold look at h
    by_cases c : key y = q
    · rw [if_pos c] at h; obtain rfl := Option.some.inj h; exact ⟨List.mem_cons_self, c⟩
    · rw [if_neg c] at h; have := look_mem h; exact ⟨List.mem_cons_of_mem _ this.1, this.2⟩
theorem look_none : ∀ {l : List α} {q : Int}, look key q l = none → ∀ x ∈ l, key x ≠ q
  | [], _, _, x, hx => by cases hx
  | y :: l, q, h, x, hx => by
    unfold look at h
    by_cases c : key y = q
    · rw [if_pos c] at h; cases h
    · rw [if_neg c] at h
      rcases List.mem_cons.mp hx with rfl | hx
      · exact c
      · exact look_none h x hx
/-- Where a key is, or would be. -/
structure Place (key : α → Int) (l : List α) (q : Int) (p : Nat) : Prop where
  le : p ≤ l.length
  lo : ∀ j (h : j < l.length), j < p → key l[j] < q
  hi : ∀ j (h : j < l.length), p ≤ j → q ≤ key l[j]
theorem place_of : ∀ {l : List α} {p : Int}, rises ok key p l = true → ∀ q, ∃ m, Place key l q m
  | [], _, _, q => ⟨0, by simp, fun _ h => by simp at h, fun _ h => by simp at h⟩
  | x :: l, p, h, q => by
    obtain ⟨⟨h1, h2⟩, h3⟩ := rises_cons.mp h
    by_cases c : key x < q
    · obtain ⟨m, hm⟩ := place_of h3 q
      refine ⟨m + 1, by simpa using hm.le, fun j hj h => ?_, fun j hj h => ?_⟩
      · cases j with
        | zero => exact c
        | succ j => exact hm.lo j (by simpa using hj) (by omega)
      · obtain ⟨j, rfl⟩ : ∃ m, j = m + 1 := ⟨j - 1, by omega⟩
        exact hm.hi j (by simpa using hj) (by omega)
    · refine ⟨0, Nat.zero_le _, fun j _ h => by omega, fun j hj _ => ?_⟩
      cases j with
      | zero => show q ≤ key x; omega
      | succ j =>
        have hj' : j < l.length := by simpa using hj
        have := (rises_mem h3 _ (List.getElem_mem hj')).2
        simp only [List.getElem_cons_succ]; omega
/-- Put in at its place. -/
theorem ins_place : ∀ {l : List α} {b : Int} {x : α} {m : Nat}, rises ok key b l = true → Place key l (key x) m →
    (∀ h : m < l.length, key l[m] = key x → ins key x l = l.set m x) ∧ ((∀ h : m < l.length, key l[m] ≠ key x) → ins key x l = l.take m ++ [x] ++ l.drop m)
  | [], _, x, m, _, P => by
    have := P.le
    obtain rfl : m = 0 := by simpa using this
    exact ⟨fun h => by simp at h, fun _ => rfl⟩
  | y :: l, b, x, m, h, P => by
    obtain ⟨⟨h1, h2⟩, h3⟩ := rises_cons.mp h
    cases m with
    | zero =>
      have c1 := P.hi 0 (by simp) (Nat.le_refl _)
      simp only [List.getElem_cons_zero] at c1
      refine ⟨fun _ e => ?_, fun e => ?_⟩
      · simp only [List.getElem_cons_zero] at e
        unfold ins; rw [if_neg (by omega), if_pos e]; rfl
      · have e := e (by simp)
        simp only [List.getElem_cons_zero] at e
        unfold ins; rw [if_neg (by omega), if_neg e]; rfl
    | succ m =>
      have c1 := P.lo 0 (by simp) (by omega)
      simp only [List.getElem_cons_zero] at c1
      have P' : Place key l (key x) m := ⟨by have := P.le; simpa using this, fun j hj hm => P.lo (j + 1) (by simpa using hj) (by omega), fun j hj hm => P.hi (j + 1) (by simpa using hj) (by omega)⟩
      have ih := ins_place h3 P'
      refine ⟨fun hl e => ?_, fun e => ?_⟩
      · simp only [List.getElem_cons_succ] at e
        unfold ins; rw [if_pos c1, ih.1 (by simpa using hl) e]; rfl
      · unfold ins; rw [if_pos c1, ih.2 (fun hl => by have := e (by simpa using hl); simpa using this)]; rfl
theorem look_place : ∀ {l : List α} {b q : Int} {m : Nat}, rises ok key b l = true → Place key l q m →
    (∀ h : m < l.length, key l[m] = q → look key q l = some l[m]) ∧ ((∀ h : m < l.length, key l[m] ≠ q) → look key q l = none)
  | [], _, q, m, _, P => ⟨fun h => by simp at h, fun _ => rfl⟩
  | y :: l, b, q, m, h, P => by
    obtain ⟨⟨h1, h2⟩, h3⟩ := rises_cons.mp h
    cases m with
    | zero =>
      have c1 := P.hi 0 (by simp) (Nat.le_refl _)
      simp only [List.getElem_cons_zero] at c1
      refine ⟨fun _ e => ?_, fun e => ?_⟩
      · simp only [List.getElem_cons_zero] at e
        unfold look; rw [if_pos e]; rfl
      · have e := e (by simp)
        simp only [List.getElem_cons_zero] at e
        unfold look; rw [if_neg e]
        exact look_lt h3 (by omega)
    | succ m =>
      have c1 := P.lo 0 (by simp) (by omega)
      simp only [List.getElem_cons_zero] at c1
      have P' : Place key l q m := ⟨by have := P.le; simpa using this, fun j hj hm => P.lo (j + 1) (by simpa using hj) (by omega), fun j hj hm => P.hi (j + 1) (by simpa using hj) (by omega)⟩
      have ih := look_place h3 P'
      refine ⟨fun hl e => ?_, fun e => ?_⟩
      · simp only [List.getElem_cons_succ] at e
        unfold look; rw [if_neg (by omega), ih.1 (by simpa using hl) e]; rfl
      · unfold look; rw [if_neg (by omega)]; exact ih.2 (fun hl => by have := e (by simpa using hl); simpa using this)
end
theorem mid_wraps {i j : Nat} (h : i + j ≤ 4000) : wrap64 ((i : Int) + (j : Int)) = ((i + j : Nat) : Int) ∧ IntKind.u64.wrap (((i + j : Nat) : Int)) = ((i + j : Nat) : Int) ∧ (((i + j : Nat) : Int)) / 2 = (((i + j) / 2 : Nat) : Int) ∧ wrap64 ((((i + j) / 2 : Nat) : Int)) = (((i + j) / 2 : Nat) : Int) ∧ wrap64 ((((i + j) / 2 : Nat) : Int) + 1) = (((i + j) / 2 + 1 : Nat) : Int) := by
  refine ⟨?_, IntWalk.u64_in _ ⟨by omega, by omega⟩, by omega, wrap_id (by omega) (by omega), ?_⟩
  · rw [wrap_id (by omega) (by omega)]; omega
  · rw [wrap_id (by omega) (by omega)]; omega
theorem next_wrap {i : Nat} (h : i ≤ 9223372036854775800) : wrap64 ((i : Int) + 1) = ((i + 1 : Nat) : Int) := by rw [wrap_id (by omega) (by omega)]; omega
/-! ### chain: May, With, Send, Accept (S50: the struct Key) -/
def KeyOk (x : S50) : Prop := (0 ≤ x.f0 ∧ x.f0 ≤ 255) ∧ (1 ≤ x.f1.size ∧ x.f1.size ≤ 32) ∧ (0 ≤ x.f2 ∧ x.f2 ≤ 1048576) ∧ (0 ≤ x.f3 ∧ x.f3 ≤ 1048576) ∧ (0 ≤ x.f4 ∧ x.f4 ≤ 1048576) ∧ (0 ≤ x.f5 ∧ x.f5 ≤ 1048576)
instance (x : S50) : Decidable (KeyOk x) := by unfold KeyOk; infer_instance
def kok (x : S50) : Bool := decide (KeyOk x)
def kkey (x : S50) : Int := x.f0
theorem kok_iff {x : S50} : kok x = true ↔ KeyOk x := by unfold kok; exact decide_eq_true_iff
theorem kkey_range {x : S50} (h : kok x = true) : -1 < kkey x ∧ kkey x ≤ 255 := by
  have := kok_iff.mp h
  unfold KeyOk at this; unfold kkey; omega
theorem now_f (x : Int) : chain_Now.f x = some (decide (0 ≤ x ∧ x ≤ 1048576)) := by
  unfold chain_Now.f
  by_cases h1 : x ≥ 0
  · rw [if_pos h1]; simp only [h1, true_and]
  · rw [if_neg h1]; have : ¬ (0 ≤ x ∧ x ≤ 1048576) := by omega
    simp [this]
theorem chain_Key_f (x : S50) : chain_Key.f x.f0 x.f1 x.f2 x.f3 x.f4 x.f5 = some (kok x) := by
  have hi : chain_Id.f x.f0 = some (decide (0 ≤ x.f0 ∧ x.f0 ≤ 255)) := by
    unfold chain_Id.f
    by_cases h1 : x.f0 ≥ 0
    · rw [if_pos h1]; simp only [h1, true_and]
    · rw [if_neg h1]; have : ¬ (0 ≤ x.f0 ∧ x.f0 ≤ 255) := by omega
      simp [this]
  have hs : mac_Secret.f x.f1 = some (decide (1 ≤ x.f1.size ∧ x.f1.size ≤ 32)) := by
    unfold mac_Secret.f
    by_cases h1 : (x.f1.size : Int) ≥ 1
    · rw [if_pos h1]; congr 1; exact decide_eq_decide.mpr (by omega)
    · rw [if_neg h1, decide_eq_false (by omega)]
  simp only [chain_Key.f, hi, hs, now_f, Option.bind_some, decide_eq_true_eq]
  unfold kok KeyOk
  by_cases h1 : 0 ≤ x.f0 ∧ x.f0 ≤ 255
  · by_cases h2 : 1 ≤ x.f1.size ∧ x.f1.size ≤ 32
    · by_cases h3 : 0 ≤ x.f2 ∧ x.f2 ≤ 1048576
      · by_cases h4 : 0 ≤ x.f3 ∧ x.f3 ≤ 1048576
        · by_cases h5 : 0 ≤ x.f4 ∧ x.f4 ≤ 1048576
          · simp [h1, h2, h3, h4, h5]
          · simp [h1, h2, h3, h4, h5]
        · simp [h1, h2, h3, h4]
      · simp [h1, h2, h3]
    · simp [h1, h2]
  · simp [h1]
theorem rdK_at {l : List S50} {i : Nat} (h : i < l.length) : rd_T50 l (i : Int) = l[i] := by
  unfold rd_T50; rw [Int.toNat_natCast, List.getD_eq_getElem?_getD, List.getElem?_eq_getElem h]; rfl
def prevK (l : List S50) (i : Nat) : Int := if h : 0 < i ∧ i - 1 < l.length then kkey l[i - 1] else -1
/-- May a chain be? -/
def chainOk (l : List S50) : Bool := rises kok kkey (-1) l && decide (l.length ≤ 4)
theorem chain_May_l {l : List S50} (hn : l.length ≤ 9223372036854775800) : ∀ (d k i : Nat), i + d = l.length → d < k →
    chain_May.l0 k l l (l.length : Int) (i : Int) = some (rises kok kkey (prevK l i) (l.drop i) && decide (l.length ≤ 4)) := by
  intro d
  induction d with
  | zero =>
    intro k i hi hk
    obtain ⟨k, rfl⟩ : ∃ m, k = m + 1 := ⟨k - 1, by omega⟩
    simp only [chain_May.l0]
    rw [if_neg (by omega), List.drop_of_length_le (by omega)]
    show some (decide ((l.length : Int) ≤ 4)) = some (true && decide (l.length ≤ 4))
    rw [Bool.true_and]; congr 1; exact decide_eq_decide.mpr (by omega)
  | succ d ih =>
    intro k i hi hk
    obtain ⟨k, rfl⟩ : ∃ m, k = m + 1 := ⟨k - 1, by omega⟩
    have hlt : i < l.length := by omega
    have h4 : wrap64 ((i : Int) + 1) = ((i + 1 : Nat) : Int) := by rw [wrap_id (by omega) (by omega)]; omega
    have ih' := ih k (i + 1) (by omega) (by omega)
    simp only [chain_May.l0, rdK_at hlt, chain_Key_f, Option.bind_some]
    rw [if_pos (by omega), if_pos (by omega), if_pos (by omega), h4, List.drop_eq_getElem_cons hlt]
    have hpn : prevK l (i + 1) = kkey l[i] := by unfold prevK; rw [dif_pos ⟨by omega, by omega⟩]; rfl
    rw [hpn] at ih'
    show _ = some ((if kok l[i] = true ∧ prevK l i < kkey l[i] then rises kok kkey (kkey l[i]) (l.drop (i + 1)) else false) && decide (l.length ≤ 4))
    by_cases hc : kok l[i] = true
    · rw [if_pos hc]
      have hr := kkey_range hc
      by_cases h0 : (i : Int) > 0
      · have h5 : wrap64 ((i : Int) - 1) = ((i - 1 : Nat) : Int) := by rw [wrap_id (by omega) (by omega)]; omega
        have hl1 : i - 1 < l.length := by omega
        rw [if_pos h0, h5, if_pos (by omega), if_pos (by omega), rdK_at hl1]
        have hpv : prevK l i = kkey l[i - 1] := by unfold prevK; rw [dif_pos ⟨by omega, hl1⟩]
        rw [hpv]
        unfold kkey at hr ih' ⊢
        by_cases hg : l[i - 1].f0 ≥ l[i].f0
        · rw [if_pos hg, if_neg (by omega), Bool.false_and]
        · rw [if_neg hg, if_pos ⟨hc, by omega⟩, ih']
      · rw [if_neg h0]
        have hpv : prevK l i = -1 := by unfold prevK; rw [dif_neg (by omega)]
        rw [hpv, if_pos ⟨hc, by omega⟩, ih']
    · rw [if_neg hc, if_neg (fun h => hc h.1), Bool.false_and]
theorem chain_May_f {l : List S50} (hn : l.length ≤ 9223372036854775800) {k : Nat} (hk : l.length < k) : chain_May.f k l = some (chainOk l) :=
  chain_May_l hn l.length k 0 (by omega) hk
theorem chainOk_iff {l : List S50} : chainOk l = true ↔ rises kok kkey (-1) l = true ∧ l.length ≤ 4 := by
  unfold chainOk; rw [Bool.and_eq_true, decide_eq_true_eq]
theorem bs_l {l : List S50} {t p : Int} {m : Nat} (hr : rises kok kkey p l = true) (ht : 0 ≤ t ∧ t ≤ 255) (P : Place kkey l t m) (hn : l.length ≤ 1000) :
    ∀ (d k i j : Nat), i + d = j → d < k → i ≤ m → m ≤ j → j ≤ l.length →
    api_Key_int.l0 k l t (l.length : Int) (i : Int) (j : Int) = some ((m : Int), if h : m < l.length then decide (kkey l[m] = t) else false) := by
  intro d
  induction d using Nat.strongRecOn with
  | _ d ih =>
    intro k i j hij hk him hmj hjn
    obtain ⟨k, rfl⟩ : ∃ q, k = q + 1 := ⟨k - 1, by omega⟩
    have hw : ∀ {q : Nat} (h : q < l.length), chain_at_1.f l[q].f0 l[q].f1 l[q].f2 l[q].f3 l[q].f4 l[q].f5 t = some (kkey l[q] - t) := by
      intro q h
      have := kkey_range (rises_ok hr h)
      unfold kkey at this ⊢
      show some (wrap64 (l[q].f0 - t)) = _
      rw [wrap_id (by omega) (by omega)]
    simp only [api_Key_int.l0]
    by_cases h0 : i < j
    · have hh : (i + j) / 2 < l.length := by omega
      obtain ⟨e1, e2, e3, e4, e5⟩ := mid_wraps (i := i) (j := j) (by omega)
      simp only [e1, e2, e3, e4, e5, rdK_at hh]
      clear e1 e2 e3 e4 e5
      rw [if_pos (by omega), if_pos (by omega), if_pos (by omega)]
      simp only [hw hh, Option.bind_some]
      by_cases hc : kkey l[(i + j) / 2] - t < 0
      · rw [if_pos hc]
        have hm : (i + j) / 2 < m := by
          apply Nat.lt_of_not_le; intro hle
          have := P.hi _ hh hle; omega
        exact ih (j - ((i + j) / 2 + 1)) (by omega) k ((i + j) / 2 + 1) j (by omega) (by omega) (by omega) hmj hjn
      · rw [if_neg hc]
        have hm : m ≤ (i + j) / 2 := by
          apply Nat.le_of_not_lt; intro hlt
          have := P.lo _ hh hlt; omega
        exact ih ((i + j) / 2 - i) (by omega) k i ((i + j) / 2) (by omega) (by omega) him hm (by omega)
    · obtain rfl : i = m := by omega
      rw [if_neg (by omega)]
      by_cases hl : i < l.length
      · rw [if_pos (by omega), if_pos (by omega), if_pos (by omega)]
        simp only [rdK_at hl, hw hl, Option.bind_some, dif_pos hl]
        congr 2
        by_cases hc : kkey l[i] = t
        · rw [hc]; simp
        · have : kkey l[i] - t ≠ 0 := by omega
          simp [this, hc]
      · rw [if_neg (by omega), dif_neg hl]
/-- A number that no key has: nothing is found, wherever the differences wrap to. -/
theorem bs_none_l {l : List S50} {t p : Int} (hr : rises kok kkey p l = true) (h63 : -9223372036854775808 ≤ t ∧ t ≤ 9223372036854775807) (ht : ¬ (0 ≤ t ∧ t ≤ 255)) (hn : l.length ≤ 1000) :
    ∀ (d k i j : Nat), i + d = j → d < k → j ≤ l.length → ∃ m : Nat, api_Key_int.l0 k l t (l.length : Int) (i : Int) (j : Int) = some ((m : Int), false) := by
  intro d
  induction d using Nat.strongRecOn with
  | _ d ih =>
    intro k i j hij hk hjn
    obtain ⟨k, rfl⟩ : ∃ q, k = q + 1 := ⟨k - 1, by omega⟩
    have hw : ∀ {q : Nat} (h : q < l.length), ∃ c : Int, chain_at_1.f l[q].f0 l[q].f1 l[q].f2 l[q].f3 l[q].f4 l[q].f5 t = some c ∧ c ≠ 0 := by
      intro q h
      have := kkey_range (rises_ok hr h)
      unfold kkey at this
      exact ⟨wrap64 (l[q].f0 - t), rfl, by unfold wrap64; omega⟩
    simp only [api_Key_int.l0]
    by_cases h0 : i < j
    · have hh : (i + j) / 2 < l.length := by omega
      obtain ⟨e1, e2, e3, e4, e5⟩ := mid_wraps (i := i) (j := j) (by omega)
      obtain ⟨c, hc, _⟩ := hw hh
      simp only [e1, e2, e3, e4, e5, rdK_at hh]
      clear e1 e2 e3 e4 e5
      rw [if_pos (by omega), if_pos (by omega), if_pos (by omega)]
      simp only [hc, Option.bind_some]
      split
      · exact ih (j - ((i + j) / 2 + 1)) (by omega) k ((i + j) / 2 + 1) j (by omega) (by omega) hjn
      · exact ih ((i + j) / 2 - i) (by omega) k i ((i + j) / 2) (by omega) (by omega) (by omega)
    · rw [if_neg (by omega)]
      by_cases hl : i < l.length
      · obtain ⟨c, hc, hc0⟩ := hw hl
        rw [if_pos (by omega), if_pos (by omega), if_pos (by omega)]
        simp only [rdK_at hl, hc, Option.bind_some]
        exact ⟨i, by simp [hc0]⟩
      · rw [if_neg (by omega)]
        exact ⟨i, rfl⟩
theorem at_f {l : List S50} {t : Int} {m k : Nat} (h : chainOk l = true) (ht : 0 ≤ t ∧ t ≤ 255) (P : Place kkey l t m) (hk : 10 < k) :
    chain_at.f k l t = some ((m : Int), if h : m < l.length then decide (kkey l[m] = t) else false) := by
  obtain ⟨hr, hl⟩ := chainOk_iff.mp h
  have := bs_l hr ht P (by omega) l.length k 0 l.length (by omega) (by omega) (by omega) P.le (Nat.le_refl _)
  have h' : api_Key_int.f k l t = some ((m : Int), if h : m < l.length then decide (kkey l[m] = t) else false) := this
  simp only [chain_at.f, h', Option.bind_some]
theorem at_none {l : List S50} {t : Int} {k : Nat} (h : chainOk l = true) (h63 : -9223372036854775808 ≤ t ∧ t ≤ 9223372036854775807) (ht : ¬ (0 ≤ t ∧ t ≤ 255)) (hk : 10 < k) :
    ∃ m : Nat, chain_at.f k l t = some ((m : Int), false) := by
  obtain ⟨hr, hl⟩ := chainOk_iff.mp h
  obtain ⟨m, hm⟩ := bs_none_l hr h63 ht (by omega) l.length k 0 l.length (by omega) (by omega) (Nat.le_refl _)
  have h' : api_Key_int.f k l t = some ((m : Int), false) := hm
  exact ⟨m, by simp only [chain_at.f, h', Option.bind_some]⟩
theorem clone_f {l : List S50} (hn : l.length < 2513169434916) : api_Key_48.f l = some l := by
  simp [api_Key_48.f, hn]
/-- A chain with a key, if there is room. -/
def withK (l : List S50) (x : S50) : List S50 × Int :=
  if chainOk l = true ∧ kok x = true ∧ ((look kkey (kkey x) l).isSome = true ∨ l.length ≠ 4) then (ins kkey x l, 0) else ([], 500)
theorem chain_With_f {l : List S50} (hn : l.length ≤ 9223372036854775800) {k : Nat} (hk : l.length + 20 < k) (x : S50) :
    chain_With.f k l x.f0 x.f1 x.f2 x.f3 x.f4 x.f5 = some (withK l x) := by
  obtain ⟨k, rfl⟩ : ∃ q, k = q + 1 := ⟨k - 1, by omega⟩
  have ht : chain_With.j0 (k + 1) l true x.f0 x.f1 x.f2 x.f3 x.f4 x.f5 = some ([], 500) := by simp [chain_With.j0]
  simp only [chain_With.f, chain_May_f hn (show l.length < k + 1 by omega), chain_Key_f, Option.bind_some]
  unfold withK
  by_cases h1 : chainOk l = true
  · rw [if_pos h1]
    obtain ⟨hr, hl4⟩ := chainOk_iff.mp h1
    by_cases h2 : kok x = true
    · rw [h2]
      have hid : 0 ≤ x.f0 ∧ x.f0 ≤ 255 := by have := kok_iff.mp h2; unfold KeyOk at this; omega
      obtain ⟨m, P⟩ := place_of hr (kkey x)
      simp only [chain_With.j0, Bool.not_true, Bool.false_eq_true, if_false, clone_f (show l.length < 2513169434916 by omega), at_f h1 hid P (show 10 < k by omega), Option.bind_some]
      have hI := ins_place hr P
      have hL := look_place hr P
      have hx : (⟨x.f0, x.f1, x.f2, x.f3, x.f4, x.f5⟩ : S50) = x := rfl
      by_cases hm : ∃ h : m < l.length, kkey l[m] = kkey x
      · obtain ⟨hl, he⟩ := hm
        have he' : kkey l[m] = x.f0 := he
        rw [dif_pos hl, decide_eq_true he', if_pos rfl, if_pos (by omega), if_pos (by omega), if_pos ⟨h1, trivial, .inl (by rw [hL.1 hl he]; rfl)⟩, hI.1 hl he, Int.toNat_natCast, hx]
      · have hno : ∀ h : m < l.length, kkey l[m] ≠ kkey x := fun h he => hm ⟨h, he⟩
        have : (if h : m < l.length then decide (kkey l[m] = x.f0) else false) = false := by
          by_cases h : m < l.length
          · rw [dif_pos h]; exact decide_eq_false (hno h)
          · rw [dif_neg h]
        have hmn := P.le
        rw [this, if_neg (by decide)]
        by_cases h4 : l.length = 4
        · have hno4 : ¬ ((look kkey (kkey x) l).isSome = true ∨ l.length ≠ 4) := by
            rw [hL.2 hno]; rintro (h | h)
            · cases h
            · exact h h4
          rw [if_pos (by omega), if_neg (fun h => hno4 h.2.2)]
        · rw [if_neg (by omega), if_pos ⟨h1, trivial, .inr h4⟩, hI.2 hno]
          simp only [api_Key_50.f, Int.toNat_natCast, hx]
          rw [if_pos ⟨by omega, by omega, by omega⟩]
          rfl
    · have h2' : kok x = false := by simpa using h2
      rw [if_neg (fun h => h2 h.2.1), h2']; exact ht
  · rw [if_neg h1, if_neg (fun h => h1 h.1)]; exact ht
/-- A key as it is told, or none (501). -/
def tup : Option S50 → Int × ByteArray × Int × Int × Int × Int × Int
  | none => (0, ⟨#[]⟩, 0, 0, 0, 0, 501)
  | some x => (x.f0, x.f1, x.f2, x.f3, x.f4, x.f5, 0)
def tupForm : Int × ByteArray × Int × Int × Int × Int × Int := (0, ⟨#[]⟩, 0, 0, 0, 0, 500)
/-- Is a key as late as the best one? -/
def late : Option S50 → S50 → Bool
  | none, _ => true
  | some y, x => decide (x.f2 ≥ y.f2)
/-- The key that is sent with. -/
def send (now : Int) : Option S50 → List S50 → Option S50
  | b, [] => b
  | b, x :: l => send now (if x.f2 ≤ now ∧ now < x.f3 ∧ late b x = true then some x else b) l
theorem send_l {l : List S50} {now : Int} (hn : l.length ≤ 1000) : ∀ (d k i : Nat) (b : Option S50), i + d = l.length → d < k →
    chain_Send.l0 k now (tup b).2.2.2.2.2.2 l (l.length : Int) (i : Int) (tup b).1 (tup b).2.1 (tup b).2.2.1 (tup b).2.2.2.1 (tup b).2.2.2.2.1 (tup b).2.2.2.2.2.1 = some (tup (send now b (l.drop i))) := by
  intro d
  induction d with
  | zero =>
    intro k i b hi hk
    obtain ⟨k, rfl⟩ : ∃ m, k = m + 1 := ⟨k - 1, by omega⟩
    simp only [chain_Send.l0]
    rw [if_neg (by omega), List.drop_of_length_le (by omega)]
    rfl
  | succ d ih =>
    intro k i b hi hk
    obtain ⟨k, rfl⟩ : ∃ m, k = m + 1 := ⟨k - 1, by omega⟩
    have hlt : i < l.length := by omega
    have h4 : wrap64 ((i : Int) + 1) = ((i + 1 : Nat) : Int) := by rw [wrap_id (by omega) (by omega)]; omega
    have ihs := ih k (i + 1) (some l[i]) (by omega) (by omega)
    have ihb := ih k (i + 1) b (by omega) (by omega)
    simp only [chain_Send.l0, rdK_at hlt, h4]
    rw [if_pos (by omega), if_pos (by omega), if_pos (by omega), List.drop_eq_getElem_cons hlt]
    show _ = some (tup (send now (if l[i].f2 ≤ now ∧ now < l[i].f3 ∧ late b l[i] = true then some l[i] else b) (l.drop (i + 1))))
    by_cases c1 : l[i].f2 ≤ now
    · rw [if_pos c1]
      by_cases c2 : now < l[i].f3
      · rw [if_pos c2]
        cases b with
        | none =>
          rw [if_neg (show ¬ ((tup (none : Option S50)).2.2.2.2.2.2 = 0) from (by decide : ¬ (501 : Int) = 0)), if_pos ⟨c1, c2, rfl⟩]; exact ihs
        | some y =>
          rw [if_pos (show (tup (some y)).2.2.2.2.2.2 = 0 from rfl)]
          by_cases c3 : l[i].f2 ≥ y.f2
          · rw [if_pos (show l[i].f2 ≥ (tup (some y)).2.2.1 from c3), if_pos ⟨c1, c2, decide_eq_true c3⟩]; exact ihs
          · rw [if_neg (show ¬ l[i].f2 ≥ (tup (some y)).2.2.1 from c3), if_neg (fun h => c3 (of_decide_eq_true h.2.2))]; exact ihb
      · rw [if_neg c2, if_neg (fun h => c2 h.2.1)]; exact ihb
    · rw [if_neg c1, if_neg (fun h => c1 h.1)]; exact ihb
theorem chain_Send_f {l : List S50} (hn : l.length ≤ 9223372036854775800) {k : Nat} (hk : l.length + 20 < k) (now : Int) :
    chain_Send.f k l now = some (if chainOk l = true ∧ 0 ≤ now ∧ now ≤ 1048576 then tup (send now none l) else tupForm) := by
  obtain ⟨k, rfl⟩ : ∃ q, k = q + 1 := ⟨k - 1, by omega⟩
  have ht : chain_Send.j0 (k + 1) l now true = some tupForm := by simp [chain_Send.j0, tupForm]
  simp only [chain_Send.f, chain_May_f hn (show l.length < k + 1 by omega), now_f, Option.bind_some]
  by_cases h1 : chainOk l = true
  · rw [if_pos h1]
    obtain ⟨hr, hl4⟩ := chainOk_iff.mp h1
    by_cases h2 : 0 ≤ now ∧ now ≤ 1048576
    · rw [if_pos ⟨h1, h2⟩, decide_eq_true h2]
      simp only [chain_Send.j0, Bool.not_true, Bool.false_eq_true, if_false]
      exact send_l (by omega) l.length k 0 none (by omega) (by omega)
    · rw [if_neg (fun h => h2 h.2), decide_eq_false h2]; exact ht
  · rw [if_neg h1, if_neg (fun h => h1 h.1)]; exact ht
/-- The key of a number, if it is accepted. -/
def accept (id now : Int) (l : List S50) : Option S50 := match look kkey id l with | none => none | some x => if x.f4 > now ∨ now ≥ x.f5 then none else some x
theorem chain_Accept_f {l : List S50} (hn : l.length ≤ 9223372036854775800) {k : Nat} (hk : l.length + 20 < k) {id : Int} (h63 : -9223372036854775808 ≤ id ∧ id ≤ 9223372036854775807) (now : Int) :
    chain_Accept.f k l id now = some (if chainOk l = true ∧ 0 ≤ now ∧ now ≤ 1048576 then tup (accept id now l) else tupForm) := by
  obtain ⟨k, rfl⟩ : ∃ q, k = q + 1 := ⟨k - 1, by omega⟩
  have ht : chain_Accept.j0 (k + 1) l id now true = some tupForm := by simp [chain_Accept.j0, tupForm]
  simp only [chain_Accept.f, chain_May_f hn (show l.length < k + 1 by omega), now_f, Option.bind_some]
  by_cases h1 : chainOk l = true
  · rw [if_pos h1]
    obtain ⟨hr, hl4⟩ := chainOk_iff.mp h1
    by_cases h2 : 0 ≤ now ∧ now ≤ 1048576
    · rw [if_pos ⟨h1, h2⟩, decide_eq_true h2]
      simp only [chain_Accept.j0, Bool.not_true, Bool.false_eq_true, if_false]
      unfold accept
      by_cases hid : 0 ≤ id ∧ id ≤ 255
      · obtain ⟨m, P⟩ := place_of hr id
        have hL := look_place hr P
        rw [at_f h1 hid P (show 10 < k by omega), Option.bind_some]
        by_cases hm : ∃ h : m < l.length, kkey l[m] = id
        · obtain ⟨hl, he⟩ := hm
          rw [hL.1 hl he]
          simp only [dif_pos hl, decide_eq_true he, if_true, rdK_at hl]
          rw [if_pos (by omega), if_pos (by omega)]
          by_cases c1 : l[m].f4 > now
          · rw [if_pos c1, if_pos (.inl c1)]; rfl
          · rw [if_neg c1]
            by_cases c2 : now ≥ l[m].f5
            · rw [if_pos c2, if_pos (.inr c2)]; rfl
            · rw [if_neg c2, if_neg (by omega)]; rfl
        · have hno : ∀ h : m < l.length, kkey l[m] ≠ id := fun h he => hm ⟨h, he⟩
          have : (if h : m < l.length then decide (kkey l[m] = id) else false) = false := by
            by_cases h : m < l.length
            · rw [dif_pos h]; exact decide_eq_false (hno h)
            · rw [dif_neg h]
          rw [hL.2 hno]
          simp only [this, Bool.false_eq_true, if_false]
          rfl
      · obtain ⟨m, hm⟩ := at_none (k := k) h1 h63 hid (by omega)
        have hnone : look kkey id l = none := by
          cases hq : look kkey id l with
          | none => rfl
          | some y =>
            have := look_mem hq
            have h2 := kkey_range (rises_mem hr y this.1).1
            omega
        rw [hm, hnone]; rfl
    · rw [if_neg (fun h => h2 h.2), decide_eq_false h2]; exact ht
  · rw [if_neg h1, if_neg (fun h => h1 h.1)]; exact ht

end Go.Proofs.Ytabjambabnbmnaa.L5
