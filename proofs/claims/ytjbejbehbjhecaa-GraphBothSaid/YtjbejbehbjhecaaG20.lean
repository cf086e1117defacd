/- Graphs: what a store tells, sts a matrix; the costs that both ends tell. -/
import Derived.Test.YtjbejbehbjhecaaL20
import Derived.Test.YtjbejbehbjhecaaQ20x121
namespace Go.Proofs.Ytjbejbehbjhecaa.L20
open Go.RowKit Go.Proofs.YtjbejbehbjhecaaW.PrintWords Go.Proofs.YtjbejbehbjhecaaW.PrintMore Go.Proofs.Ytjbejbehbjhecaa.Base Go.Proofs.Ytjbejbehbjhecaa.Q20
set_option linter.unusedVariables false
set_option linter.unusedSimpArgs false
set_option maxRecDepth 100000
/-! ### lsa: Links, May, body, Put, Get, Head (S59: the struct Link) -/
instance : DecidableEq S59 := fun a b => decidable_of_iff (a.f0 = b.f0 ∧ a.f1 = b.f1) (by cases a; cases b; simp)
def LinkOk (rt : Int) (x : S59) : Prop := 1 ≤ x.f0 ∧ x.f0 ≤ 4 ∧ x.f0 ≠ rt ∧ 1 ≤ x.f1 ∧ x.f1 ≤ 65535
instance (rt : Int) (x : S59) : Decidable (LinkOk rt x) := by unfold LinkOk; infer_instance
def links (rt : Int) : Int → List S59 → Bool
  | _, [] => true
  | p, x :: l => if LinkOk rt x ∧ p < x.f0 then links rt x.f0 l else false
theorem links_short {rt : Int} : ∀ (l : List S59) (p : Int), 0 ≤ p → links rt p l = true → l.length = 0 ∨ (l.length : Int) ≤ 4 - p
  | [], _, _, _ => .inl rfl
  | x :: l, p, h0, h => by
    unfold links at h
    by_cases hc : LinkOk rt x ∧ p < x.f0
    · rw [if_pos hc] at h
      have h4 := hc.1.2.1
      rcases links_short l x.f0 (by omega) h with h1 | h1
      · right; simp only [List.length_cons, h1]; omega
      · right; simp only [List.length_cons]; omega
    · rw [if_neg hc] at h; cases h
theorem links_len {rt : Int} {l : List S59} (h : links rt 0 l = true) : l.length ≤ 4 := by
  rcases links_short l 0 (by omega) h with h1 | h1 <;> omega
theorem links_range {rt : Int} : ∀ (l : List S59) (p : Int), links rt p l = true → ∀ x ∈ l, LinkOk rt x
  | [], _, _, _, hx => by cases hx
  | y :: l, p, h, x, hx => by
    unfold links at h
    by_cases hc : LinkOk rt y ∧ p < y.f0
    · rw [if_pos hc] at h
      rcases List.mem_cons.mp hx with rfl | hx
      · exact hc.1
      · exact links_range l y.f0 h x hx
    · rw [if_neg hc] at h; cases h
theorem rdL_at {l : List S59} {i : Nat} (h : i < l.length) : rd_T59 l (i : Int) = l[i] := by
  unfold rd_T59; rw [Int.toNat_natCast, List.getD_eq_getElem?_getD, List.getElem?_eq_getElem h]; rfl
def prevL (l : List S59) (i : Nat) : Int := if i = 0 then 0 else (rd_T59 l ((i : Int) - 1)).f0
theorem prevL_succ (l : List S59) (i : Nat) : prevL l (i + 1) = (rd_T59 l (i : Int)).f0 := by
  unfold prevL; rw [if_neg (by omega)]
  have : ((i + 1 : Nat) : Int) - 1 = (i : Int) := by omega
  rw [this]
theorem dropL_at {l : List S59} {i : Nat} (h : i < l.length) : l.drop i = rd_T59 l (i : Int) :: l.drop (i + 1) := by
  rw [List.drop_eq_getElem_cons h, rdL_at h]
theorem lsa_Router_f (x : Int) : lsa_Router.f x = some (decide (1 ≤ x ∧ x ≤ 4)) := by
  unfold lsa_Router.f
  by_cases h : x ≥ 1
  · rw [if_pos h]; simp [show (1 : Int) ≤ x from h]
  · rw [if_neg h]; simp [show ¬ (1 : Int) ≤ x from h]
theorem lsa_Links_l {l : List S59} {rt : Int} (hn : l.length ≤ 9223372036854775807) : ∀ (d k i : Nat), i + d = l.length → d < k →
    lsa_Links.l0 k l rt l (l.length : Int) (i : Int) = some (links rt (prevL l i) (l.drop i)) := by
  intro d
  induction d with
  | zero =>
    intro k i hi hk
    obtain ⟨k, rfl⟩ : ∃ m, k = m + 1 := ⟨k - 1, by omega⟩
    simp only [lsa_Links.l0]
    rw [if_neg (by omega), List.drop_of_length_le (by omega)]
    rfl
  | succ d ih =>
    intro k i hi hk
    obtain ⟨k, rfl⟩ : ∃ m, k = m + 1 := ⟨k - 1, by omega⟩
    have hlt : i < l.length := by omega
    have h4 : wrap64 ((i : Int) + 1) = ((i + 1 : Nat) : Int) := by rw [wrap_id (by omega) (by omega)]; omega
    have h5 : wrap64 ((i : Int) - 1) = (i : Int) - 1 := wrap_id (by omega) (by omega)
    have hr := ih k (i + 1) (by omega) (by omega)
    simp only [lsa_Links.l0, lsa_Router_f, Option.bind_some, decide_eq_true_eq]
    rw [if_pos (by omega), if_pos (by omega), if_pos (by omega), h4, h5, hr, prevL_succ, dropL_at hlt]
    generalize hx : rd_T59 l (i : Int) = x
    by_cases c1 : 1 ≤ x.f0 ∧ x.f0 ≤ 4
    · rw [if_pos c1]
      by_cases c2 : x.f0 = rt
      · rw [if_pos c2]; unfold links; rw [if_neg (fun hh => hh.1.2.2.1 c2)]
      rw [if_neg c2]
      by_cases c3 : x.f1 < 1
      · rw [if_pos c3]; unfold links; rw [if_neg (fun hh => by have := hh.1.2.2.2.1; omega)]
      rw [if_neg c3]
      by_cases c4 : x.f1 > 65535
      · rw [if_pos c4]; unfold links; rw [if_neg (fun hh => by have := hh.1.2.2.2.2; omega)]
      rw [if_neg c4]
      have hok : LinkOk rt x := ⟨c1.1, c1.2, c2, by omega, by omega⟩
      by_cases h0 : (i : Int) > 0
      · rw [if_pos h0, if_pos (by omega), if_pos (by omega)]
        have hp : prevL l i = (rd_T59 l ((i : Int) - 1)).f0 := by unfold prevL; rw [if_neg (by omega)]
        by_cases hg : (rd_T59 l ((i : Int) - 1)).f0 ≥ x.f0
        · rw [if_pos hg]; unfold links; rw [if_neg (by rw [hp]; omega)]
        · rw [if_neg hg]; conv => rhs; unfold links
          rw [if_pos ⟨hok, by rw [hp]; omega⟩]
      · rw [if_neg h0]
        have hp : prevL l i = 0 := by unfold prevL; rw [if_pos (by omega)]
        conv => rhs; unfold links
        rw [if_pos ⟨hok, by rw [hp]; omega⟩]
    · rw [if_neg c1]; unfold links; rw [if_neg (fun hh => c1 ⟨hh.1.1, hh.1.2.1⟩)]
theorem lsa_Links_f {l : List S59} {rt : Int} (hn : l.length ≤ 9223372036854775807) {k : Nat} (hk : l.length < k) : lsa_Links.f k l rt = some (links rt 0 l) :=
  lsa_Links_l hn l.length k 0 (by omega) hk
def LsaOk (r s g : Int) (l : List S59) : Prop := 1 ≤ r ∧ r ≤ 4 ∧ 1 ≤ s ∧ s ≤ 2147483647 ∧ 0 ≤ g ∧ g ≤ 60 ∧ links r 0 l = true
instance (r s g : Int) (l : List S59) : Decidable (LsaOk r s g l) := by unfold LsaOk; infer_instance
theorem lsa_May_f {r s g : Int} {l : List S59} (hn : l.length ≤ 9223372036854775807) {k : Nat} (hk : l.length < k) : lsa_May.f k r s g l = some (decide (LsaOk r s g l)) := by
  simp only [lsa_May.f, lsa_Links_f hn hk, lsa_Router_f, Option.bind_some]
  unfold lsa_Serial.f lsa_Age.f
  by_cases h1 : 1 ≤ r ∧ r ≤ 4
  · unfold LsaOk
    by_cases h3 : s ≥ 1
    · by_cases h4 : s ≤ 2147483647
      · by_cases h5 : g ≥ 0
        · by_cases h6 : g ≤ 60
          · simp [h1.1, h1.2, h3, h4, h5, h6]
          · simp [h1.1, h1.2, h3, h4, h5, h6]
        · simp [h1.1, h1.2, h3, h4, h5]
      · simp [h1.1, h1.2, h3, h4]
    · simp [h1.1, h1.2, h3]
  · rw [decide_eq_false h1, if_neg (by decide), decide_eq_false (fun hh : LsaOk r s g l => h1 ⟨hh.1, hh.2.1⟩)]
/-! ### update: May, Put, Get; SameLsas (S57: the struct Lsa) -/
def UsOk (x : S57) : Prop := LsaOk x.f0 x.f1 x.f2 x.f3
instance (x : S57) : Decidable (UsOk x) := by unfold UsOk; infer_instance
instance : DecidableEq S57 := fun a b => decidable_of_iff (a.f0 = b.f0 ∧ a.f1 = b.f1 ∧ a.f2 = b.f2 ∧ a.f3 = b.f3) (by cases a; cases b; simp)
def upd : Int → List S57 → Bool
  | _, [] => true
  | p, x :: l => if UsOk x ∧ p < x.f0 then upd x.f0 l else false
theorem upd_short : ∀ (l : List S57) (p : Int), 0 ≤ p → upd p l = true → l.length = 0 ∨ (l.length : Int) ≤ 4 - p
  | [], _, _, _ => .inl rfl
  | x :: l, p, h0, h => by
    unfold upd at h
    by_cases hc : UsOk x ∧ p < x.f0
    · rw [if_pos hc] at h
      have h4 := hc.1.2.1
      rcases upd_short l x.f0 (by omega) h with h1 | h1
      · right; simp only [List.length_cons, h1]; omega
      · right; simp only [List.length_cons]; omega
    · rw [if_neg hc] at h; cases h
theorem upd_len {l : List S57} (h : upd 0 l = true) : l.length ≤ 4 := by
  rcases upd_short l 0 (by omega) h with h1 | h1 <;> omega
theorem upd_ok : ∀ (l : List S57) (p : Int), upd p l = true → ∀ x ∈ l, UsOk x
  | [], _, _, _, hx => by cases hx
  | y :: l, p, h, x, hx => by
    unfold upd at h
    by_cases hc : UsOk y ∧ p < y.f0
    · rw [if_pos hc] at h
      rcases List.mem_cons.mp hx with rfl | hx
      · exact hc.1
      · exact upd_ok l y.f0 h x hx
    · rw [if_neg hc] at h; cases h
theorem usOk_len {x : S57} (h : UsOk x) : x.f3.length ≤ 4 := links_len h.2.2.2.2.2.2
theorem rdU_at {l : List S57} {i : Nat} (h : i < l.length) : rd_T57 l (i : Int) = l[i] := by
  unfold rd_T57; rw [Int.toNat_natCast, List.getD_eq_getElem?_getD, List.getElem?_eq_getElem h]; rfl
theorem rdU_mem {l : List S57} {i : Nat} (h : i < l.length) : rd_T57 l (i : Int) ∈ l := by rw [rdU_at h]; exact List.getElem_mem h
def prevU (l : List S57) (i : Nat) : Int := if i = 0 then 0 else (rd_T57 l ((i : Int) - 1)).f0
theorem prevU_succ (l : List S57) (i : Nat) : prevU l (i + 1) = (rd_T57 l (i : Int)).f0 := by
  unfold prevU; rw [if_neg (by omega)]
  have : ((i + 1 : Nat) : Int) - 1 = (i : Int) := by omega
  rw [this]
theorem dropU_at {l : List S57} {i : Nat} (h : i < l.length) : l.drop i = rd_T57 l (i : Int) :: l.drop (i + 1) := by
  rw [List.drop_eq_getElem_cons h, rdU_at h]
theorem update_May_l {l : List S57} {M : Nat} (hn : l.length ≤ 9223372036854775807) (hM : ∀ x ∈ l, x.f3.length < M) (hM2 : M ≤ 9223372036854775807) : ∀ (d k i : Nat), i + d = l.length → d + M < k →
    update_May.l0 k l l (l.length : Int) (i : Int) = some (upd (prevU l i) (l.drop i)) := by
  intro d
  induction d with
  | zero =>
    intro k i hi hk
    obtain ⟨k, rfl⟩ : ∃ m, k = m + 1 := ⟨k - 1, by omega⟩
    simp only [update_May.l0]
    rw [if_neg (by omega), List.drop_of_length_le (by omega)]
    rfl
  | succ d ih =>
    intro k i hi hk
    obtain ⟨k, rfl⟩ : ∃ m, k = m + 1 := ⟨k - 1, by omega⟩
    have hlt : i < l.length := by omega
    have h4 : wrap64 ((i : Int) + 1) = ((i + 1 : Nat) : Int) := by rw [wrap_id (by omega) (by omega)]; omega
    have h5 : wrap64 ((i : Int) - 1) = (i : Int) - 1 := wrap_id (by omega) (by omega)
    have hr := ih k (i + 1) (by omega) (by omega)
    have hm := hM _ (rdU_mem hlt)
    simp only [update_May.l0]
    rw [if_pos (by omega), if_pos (by omega), if_pos (by omega), h4, h5, hr, prevU_succ, dropU_at hlt]
    generalize rd_T57 l (i : Int) = x at hm ⊢
    rw [lsa_May_f (by omega) (show x.f3.length < k by omega)]
    simp only [Option.bind_some, decide_eq_true_eq]
    by_cases c1 : LsaOk x.f0 x.f1 x.f2 x.f3
    · rw [if_pos c1]
      have hok : UsOk x := c1
      have h1 := c1.1
      by_cases h0 : (i : Int) > 0
      · rw [if_pos h0, if_pos (by omega), if_pos (by omega)]
        have hp : prevU l i = (rd_T57 l ((i : Int) - 1)).f0 := by unfold prevU; rw [if_neg (by omega)]
        by_cases hg : (rd_T57 l ((i : Int) - 1)).f0 ≥ x.f0
        · rw [if_pos hg]; unfold upd; rw [if_neg (by rw [hp]; omega)]
        · rw [if_neg hg]; conv => rhs; unfold upd
          rw [if_pos ⟨hok, by rw [hp]; omega⟩]
      · rw [if_neg h0]
        have hp : prevU l i = 0 := by unfold prevU; rw [if_pos (by omega)]
        conv => rhs; unfold upd
        rw [if_pos ⟨hok, by rw [hp]; omega⟩]
    · rw [if_neg c1]; unfold upd; rw [if_neg (fun hh => c1 hh.1)]
theorem update_May_f {l : List S57} {M : Nat} (hn : l.length ≤ 9223372036854775807) (hM : ∀ x ∈ l, x.f3.length < M) (hM2 : M ≤ 9223372036854775807) {k : Nat} (hk : l.length + M < k) :
    update_May.f k l = some (upd 0 l) := update_May_l hn hM hM2 l.length k 0 (by omega) hk
/-! #### may this store be -/
def young (l : List S57) : Bool := l.all fun x => decide (x.f2 < 60)
def stOk (l : List S57) : Bool := upd 0 l && young l
theorem idx_l {l : List S57} (hn : l.length ≤ 9223372036854775807) : ∀ (d k i : Nat), i + d = l.length → d < k → ∃ r, api_Lsa_43.l0 k l (l.length : Int) (i : Int) = some r ∧ (decide (r ≥ 0) = !young (l.drop i)) := by
  intro d
  induction d with
  | zero =>
    intro k i hi hk
    obtain ⟨k, rfl⟩ : ∃ m, k = m + 1 := ⟨k - 1, by omega⟩
    refine ⟨-1, ?_, ?_⟩
    · simp only [api_Lsa_43.l0]; rw [if_neg (by omega)]
    · rw [List.drop_of_length_le (by omega)]; rfl
  | succ d ih =>
    intro k i hi hk
    obtain ⟨k, rfl⟩ : ∃ m, k = m + 1 := ⟨k - 1, by omega⟩
    have hlt : i < l.length := by omega
    have h4 : wrap64 ((i : Int) + 1) = ((i + 1 : Nat) : Int) := by rw [wrap_id (by omega) (by omega)]; omega
    obtain ⟨r, hr, hy⟩ := ih k (i + 1) (by omega) (by omega)
    simp only [api_Lsa_43.l0]
    rw [if_pos (by omega), if_pos (by omega), if_pos (by omega), h4, hr, dropU_at hlt]
    unfold store_May_1.f
    simp only [Option.bind_some, decide_eq_true_eq]
    by_cases c : (rd_T57 l (i : Int)).f2 ≥ 60
    · refine ⟨i, by rw [if_pos c], ?_⟩
      unfold young
      rw [List.all_cons, decide_eq_false (show ¬ (rd_T57 l (i : Int)).f2 < 60 by omega)]
      simp
    · refine ⟨r, by rw [if_neg c], ?_⟩
      rw [hy]
      unfold young
      rw [List.all_cons, decide_eq_true (show (rd_T57 l (i : Int)).f2 < 60 by omega), Bool.true_and]
theorem store_May_f {l : List S57} {M : Nat} (hn : l.length ≤ 9223372036854775807) (hM : ∀ x ∈ l, x.f3.length < M) (hM2 : M ≤ 9223372036854775807) {k : Nat} (hk : l.length + M < k) : store_May.f k l = some (stOk l) := by
  obtain ⟨r, hr, hy⟩ := idx_l hn l.length k 0 (by omega) (by omega)
  unfold store_May.f api_Lsa_39.f api_Lsa_43.f
  rw [update_May_f hn hM hM2 hk]
  simp only [Option.bind_some]
  rw [show api_Lsa_43.l0 k l (l.length : Int) 0 = some r from hr]
  simp only [Option.bind_some]
  rw [hy, List.drop_zero]
  unfold stOk
  cases upd 0 l <;> simp
/-! #### what is told -/
def toldL (r : Int) : List S59 → Mat → Mat
  | [], m => m
  | x :: l, m => toldL r l (upd2 m (r - 1).toNat (x.f0 - 1).toNat x.f1)
def toldA : List S57 → Mat → Mat
  | [], m => m
  | a :: l, m => toldA l (toldL a.f0 a.f3 m)
def outOf (m : Mat) : Mat := fun i j => if 0 < m j i then m i j else 0
abbrev R17 := Int × Int × Int × Int × Int × Int × Int × Int × Int × Int × Int × Int × Int × Int × Int × Int × Int
def tup17 (m : Mat) (e : Int) : R17 := (m 0 0, m 0 1, m 0 2, m 0 3, m 1 0, m 1 1, m 1 2, m 1 3, m 2 0, m 2 1, m 2 2, m 2 3, m 3 0, m 3 1, m 3 2, m 3 3, e)
theorem tup17_congr {m m' : Mat} (h : ∀ i j, i < 4 → j < 4 → m i j = m' i j) (e : Int) : tup17 m e = tup17 m' e := by
  unfold tup17
  simp only [h 0 0 (by decide) (by decide), h 0 1 (by decide) (by decide), h 0 2 (by decide) (by decide), h 0 3 (by decide) (by decide),
    h 1 0 (by decide) (by decide), h 1 1 (by decide) (by decide), h 1 2 (by decide) (by decide), h 1 3 (by decide) (by decide),
    h 2 0 (by decide) (by decide), h 2 1 (by decide) (by decide), h 2 2 (by decide) (by decide), h 2 3 (by decide) (by decide),
    h 3 0 (by decide) (by decide), h 3 1 (by decide) (by decide), h 3 2 (by decide) (by decide), h 3 3 (by decide) (by decide)]
def G2 (k a : Nat) (m o : Mat) := graph_Of.l2 k (a : Int) (m 0 0) (m 0 1) (m 0 2) (m 0 3) (m 1 0) (m 1 1) (m 1 2) (m 1 3) (m 2 0) (m 2 1) (m 2 2) (m 2 3) (m 3 0) (m 3 1) (m 3 2) (m 3 3) (o 0 0) (o 0 1) (o 0 2) (o 0 3) (o 1 0) (o 1 1) (o 1 2) (o 1 3) (o 2 0) (o 2 1) (o 2 2) (o 2 3) (o 3 0) (o 3 1) (o 3 2) (o 3 3) (m 0 0) (m 0 1) (m 0 2) (m 0 3) (m 1 0) (m 1 1) (m 1 2) (m 1 3) (m 2 0) (m 2 1) (m 2 2) (m 2 3) (m 3 0) (m 3 1) (m 3 2) (m 3 3)
def G3 (k a b : Nat) (m o : Mat) := graph_Of.l3 k (a : Int) (a : Int) (b : Int) (m 0 0) (m 0 1) (m 0 2) (m 0 3) (m 1 0) (m 1 1) (m 1 2) (m 1 3) (m 2 0) (m 2 1) (m 2 2) (m 2 3) (m 3 0) (m 3 1) (m 3 2) (m 3 3) (o 0 0) (o 0 1) (o 0 2) (o 0 3) (o 1 0) (o 1 1) (o 1 2) (o 1 3) (o 2 0) (o 2 1) (o 2 2) (o 2 3) (o 3 0) (o 3 1) (o 3 2) (o 3 3) (m 0 0) (m 0 1) (m 0 2) (m 0 3) (m 1 0) (m 1 1) (m 1 2) (m 1 3) (m 2 0) (m 2 1) (m 2 2) (m 2 3) (m 3 0) (m 3 1) (m 3 2) (m 3 3) (m a 0) (m a 1) (m a 2) (m a 3)
theorem G3_step (k : Nat) {a b : Nat} (ha : a < 4) (hb : b < 4) (m o : Mat) : G3 (k + 1) a b m o = G3 k a (b + 1) m (if 0 < m b a then upd2 o a b (m a b) else o) := by
  unfold G3
  simp only [graph_Of.l3]
  rw [if_pos (show (b : Int) < 4 by omega), if_pos (show 0 ≤ (b : Int) by omega), if_pos (show 0 ≤ (a : Int) by omega), if_pos (show (a : Int) < 4 by omega), next4 hb, sel_at m hb ha, row_at (fun j => m a j) hb]
  by_cases h : 0 < m b a
  · rw [if_pos (show m b a > 0 from h), if_pos h]
    obtain ⟨u1, u2, u3, u4, u5, u6, u7, u8, u9, u10, u11, u12, u13, u14, u15, u16⟩ := ups o a b (m a b)
    rw [u1, u2, u3, u4, u5, u6, u7, u8, u9, u10, u11, u12, u13, u14, u15, u16]
  · rw [if_neg (show ¬ m b a > 0 from h), if_neg h]
theorem G3_end (k : Nat) {a : Nat} (ha : a < 4) (m o : Mat) : G3 (k + 1) a 4 m o = G2 k (a + 1) m o := by
  unfold G3 G2
  simp only [graph_Of.l3]
  rw [if_neg (show ¬ (((4 : Nat) : Int) < 4) by decide), next4 ha]
theorem G2_step (k : Nat) {a : Nat} (ha : a < 4) (m o : Mat) : G2 (k + 1) a m o = G3 k a 0 m o := by
  unfold G3 G2
  simp only [graph_Of.l2]
  rw [if_pos (show (a : Int) < 4 by omega), if_pos (show 0 ≤ (a : Int) by omega), row_at (fun i => m i 0) ha, row_at (fun i => m i 1) ha, row_at (fun i => m i 2) ha, row_at (fun i => m i 3) ha]
  rfl
theorem G2_end (k : Nat) (m o : Mat) : G2 (k + 1) 4 m o = some (tup17 o 0) := by
  unfold G2
  simp only [graph_Of.l2]
  rw [if_neg (show ¬ (((4 : Nat) : Int) < 4) by decide)]
  rfl
def GFill (m : Mat) (a b : Nat) (o : Mat) : Prop := ∀ i j, i < 4 → j < 4 → o i j = if i < a ∨ (i = a ∧ j < b) then outOf m i j else 0
theorem GFill.step {m : Mat} {a b : Nat} (hb : b < 4) {o : Mat} (F : GFill m a b o) : GFill m a (b + 1) (if 0 < m b a then upd2 o a b (m a b) else o) := by
  intro i j hi hj
  have hF := F i j hi hj
  by_cases h : i = a ∧ j = b
  · obtain ⟨rfl, rfl⟩ := h
    rw [if_pos (show i < i ∨ i = i ∧ j < j + 1 from .inr ⟨rfl, by omega⟩)]
    unfold outOf
    by_cases h0 : 0 < m j i
    · rw [if_pos h0, if_pos h0]; unfold upd2; rw [if_pos ⟨rfl, rfl⟩]
    · rw [if_neg h0, if_neg h0, hF, if_neg (by omega)]
  · have e : (if 0 < m b a then upd2 o a b (m a b) else o) i j = o i j := by
      split
      · unfold upd2; rw [if_neg h]
      · rfl
    rw [e, hF]
    by_cases h1 : i < a ∨ (i = a ∧ j < b)
    · rw [if_pos h1, if_pos (by omega)]
    · rw [if_neg h1, if_neg (by omega)]
theorem gfill_row (k : Nat) {a : Nat} (ha : a < 4) (m : Mat) : ∀ d b o, b + d = 4 → GFill m a b o → ∃ o', GFill m (a + 1) 0 o' ∧ G3 (k + 1 + d) a b m o = G2 k (a + 1) m o'
  | 0, b, o, h, F => ⟨o, fun i j hi hj => by
      rw [F i j hi hj]
      by_cases h1 : i < a ∨ (i = a ∧ j < b)
      · rw [if_pos h1, if_pos (by omega)]
      · rw [if_neg h1, if_neg (by omega)], by
      obtain rfl : b = 4 := by omega
      exact G3_end k ha m o⟩
  | d + 1, b, o, h, F => by
    obtain ⟨o', F', e⟩ := gfill_row k ha m d (b + 1) _ (by omega) (F.step (by omega))
    exact ⟨o', F', (G3_step (k + 1 + d) ha (by omega) m o).trans e⟩
theorem gfill_all (k : Nat) (m : Mat) : ∀ d a o, a + d = 4 → GFill m a 0 o → G2 (k + 1 + 6 * d) a m o = some (tup17 (outOf m) 0)
  | 0, a, o, h, F => by
    obtain rfl : a = 4 := by omega
    rw [show k + 1 + 6 * 0 = k + 1 from rfl, G2_end]
    congr 1
    exact tup17_congr (fun i j hi hj => by rw [F i j hi hj, if_pos (by omega)]) 0
  | d + 1, a, o, h, F => by
    obtain ⟨o1, F1, e1⟩ := gfill_row (k + 1 + 6 * d) (show a < 4 by omega) m 4 0 o rfl F
    rw [show k + 1 + 6 * (d + 1) = (k + 1 + 6 * d + 1 + 4) + 1 by omega, G2_step _ (by omega), e1]
    exact gfill_all k m d (a + 1) o1 (by omega) F1
def T0 (k : Nat) (sts : List S57) (i : Nat) (m o : Mat) := graph_Of.l0 k sts (sts.length : Int) (i : Int) (m 0 0) (m 0 1) (m 0 2) (m 0 3) (m 1 0) (m 1 1) (m 1 2) (m 1 3) (m 2 0) (m 2 1) (m 2 2) (m 2 3) (m 3 0) (m 3 1) (m 3 2) (m 3 3) (o 0 0) (o 0 1) (o 0 2) (o 0 3) (o 1 0) (o 1 1) (o 1 2) (o 1 3) (o 2 0) (o 2 1) (o 2 2) (o 2 3) (o 3 0) (o 3 1) (o 3 2) (o 3 3)
def T1 (k : Nat) (sts : List S57) (i : Nat) (ls : List S59) (j : Nat) (m o : Mat) (r s g : Int) (l3 : List S59) := graph_Of.l1 k sts (sts.length : Int) (i : Int) ls (ls.length : Int) (j : Int) (m 0 0) (m 0 1) (m 0 2) (m 0 3) (m 1 0) (m 1 1) (m 1 2) (m 1 3) (m 2 0) (m 2 1) (m 2 2) (m 2 3) (m 3 0) (m 3 1) (m 3 2) (m 3 3) (o 0 0) (o 0 1) (o 0 2) (o 0 3) (o 1 0) (o 1 1) (o 1 2) (o 1 3) (o 2 0) (o 2 1) (o 2 2) (o 2 3) (o 3 0) (o 3 1) (o 3 2) (o 3 3) r s g l3
theorem T1_all {sts : List S57} {i : Nat} (hi : i < sts.length) (hn : sts.length ≤ 9223372036854775807) {ls : List S59} (hl : ls.length ≤ 4) {r s g : Int} (hr : 1 ≤ r ∧ r ≤ 4) (hx : ∀ x ∈ ls, 1 ≤ x.f0 ∧ x.f0 ≤ 4) (l3 : List S59) (o : Mat) (k : Nat) :
    ∀ d j m, j + d = ls.length → T1 (k + 1 + d) sts i ls j m o r s g l3 = T0 k sts (i + 1) (toldL r (ls.drop j) m) o
  | 0, j, m, h => by
    unfold T1 T0
    simp only [graph_Of.l1]
    rw [if_neg (by omega), List.drop_of_length_le (by omega), show wrap64 ((i : Int) + 1) = ((i + 1 : Nat) : Int) by rw [wrap_id (by omega) (by omega)]; omega]
    rfl
  | d + 1, j, m, h => by
    have hj : j < ls.length := by omega
    have hm := hx _ (by rw [rdL_at hj]; exact List.getElem_mem hj : rd_T59 ls (j : Int) ∈ ls)
    have ih := T1_all (s := s) (g := g) hi hn hl hr hx l3 o k d (j + 1) (upd2 m (r - 1).toNat ((rd_T59 ls (j : Int)).f0 - 1).toNat (rd_T59 ls (j : Int)).f1) (by omega)
    rw [dropL_at hj]
    refine Eq.trans ?_ ih
    unfold T1
    rw [show k + 1 + (d + 1) = (k + 1 + d) + 1 from rfl]
    simp only [graph_Of.l1]
    generalize rd_T59 ls (j : Int) = x at hm ⊢
    obtain ⟨a, ha, ea⟩ : ∃ a : Nat, a < 4 ∧ wrap64 (r - 1) = (a : Int) := ⟨(r - 1).toNat, by omega, by rw [wrap_id (by omega) (by omega)]; omega⟩
    obtain ⟨b, hb, eb⟩ : ∃ b : Nat, b < 4 ∧ wrap64 (x.f0 - 1) = (b : Int) := ⟨(x.f0 - 1).toNat, by omega, by rw [wrap_id (by omega) (by omega)]; omega⟩
    have e1 : (r - 1).toNat = a := by rw [wrap_id (by omega) (by omega)] at ea; omega
    have e2 : (x.f0 - 1).toNat = b := by rw [wrap_id (by omega) (by omega)] at eb; omega
    rw [ea, eb, e1, e2, if_pos (by omega), if_pos (show 0 ≤ (j : Int) by omega), if_pos (by omega), if_pos (show 0 ≤ (a : Int) by omega), if_pos (show (a : Int) < 4 by omega), if_pos (show 0 ≤ (b : Int) by omega), if_pos (show (b : Int) < 4 by omega),
      show wrap64 ((j : Int) + 1) = ((j + 1 : Nat) : Int) by rw [wrap_id (by omega) (by omega)]; omega]
    obtain ⟨u1, u2, u3, u4, u5, u6, u7, u8, u9, u10, u11, u12, u13, u14, u15, u16⟩ := ups m a b x.f1
    rw [u1, u2, u3, u4, u5, u6, u7, u8, u9, u10, u11, u12, u13, u14, u15, u16]
theorem T0_all {sts : List S57} (hn : sts.length ≤ 9223372036854775807) (hok : ∀ x ∈ sts, UsOk x) : ∀ d i k m, i + d = sts.length → 40 + 7 * d ≤ k → T0 k sts i m (fun _ _ => 0) = some (tup17 (outOf (toldA (sts.drop i) m)) 0)
  | 0, i, k, m, h, hk => by
    obtain ⟨k, rfl⟩ : ∃ q, k = q + 26 := ⟨k - 26, by omega⟩
    rw [List.drop_of_length_le (by omega)]
    unfold T0
    simp only [graph_Of.l0]
    rw [if_neg (by omega)]
    show G2 (k + 1 + 6 * 4) 0 m (fun _ _ => 0) = _
    exact gfill_all k m 4 0 (fun _ _ => 0) rfl (fun i j hi hj => by rw [if_neg (by omega)])
  | d + 1, i, k, m, h, hk => by
    have hi : i < sts.length := by omega
    have hx := hok _ (rdU_mem hi)
    have hl := usOk_len hx
    rw [dropU_at hi]
    obtain ⟨q, hq⟩ : ∃ q, k = q + 1 + (rd_T57 sts (i : Int)).f3.length + 1 := ⟨k - 2 - (rd_T57 sts (i : Int)).f3.length, by omega⟩
    subst hq
    have ih := T0_all hn hok d (i + 1) q (toldL (rd_T57 sts (i : Int)).f0 (rd_T57 sts (i : Int)).f3 m) (by omega) (by omega)
    refine Eq.trans ?_ ih
    have h1 := T1_all (s := (rd_T57 sts (i : Int)).f1) (g := (rd_T57 sts (i : Int)).f2) hi hn hl ⟨hx.1, hx.2.1⟩ (fun y hy => ⟨(links_range _ _ hx.2.2.2.2.2.2 y hy).1, (links_range _ _ hx.2.2.2.2.2.2 y hy).2.1⟩) (rd_T57 sts (i : Int)).f3 (fun _ _ => 0) q (rd_T57 sts (i : Int)).f3.length 0 m (by omega)
    rw [List.drop_zero] at h1
    refine Eq.trans ?_ h1
    unfold T0 T1
    simp only [graph_Of.l0]
    rw [if_pos (by omega), if_pos (by omega), if_pos (by omega)]
    rfl
/-- What Of answers. -/
def ofAns (l : List S57) : R17 := if stOk l = true then tup17 (outOf (toldA l (fun _ _ => 0))) 0 else tup17 (fun _ _ => 0) 2000
theorem Of_f {l : List S57} {M : Nat} (hn : l.length ≤ 9223372036854775807) (hM : ∀ x ∈ l, x.f3.length < M) (hM2 : M ≤ 9223372036854775807) {k : Nat} (hk : l.length + M < k) (h100 : 100 ≤ k) : graph_Of.f k l = some (ofAns l) := by
  unfold graph_Of.f ofAns
  rw [store_May_f hn hM hM2 hk]
  simp only [Option.bind_some]
  by_cases h : stOk l = true
  · rw [if_pos h, if_pos h]
    have h1 : upd 0 l = true := by unfold stOk at h; revert h; cases upd 0 l <;> simp
    have h4 := upd_len h1
    have h2 := T0_all hn (upd_ok l 0 h1) l.length 0 k (fun _ _ => 0) (by omega) (by omega)
    rw [List.drop_zero] at h2
    exact h2
  · rw [if_neg h, if_neg h]
    rfl
end Go.Proofs.Ytjbejbehbjhecaa.L20
