/- PathsTriangle: no route costs more than a link and a route behind it; with one cost less no route costs more, none is less by more than one. No condition beyond the row's own. -/
import Derived.Test.YtjbejbehbjhecaaZ21nx4
namespace Go.Proofs.Ytjbejbehbjhecaa.Pure
open Go.RowKit Go.Proofs.YtjbejbehbjhecaaW.PrintWords Go.Proofs.YtjbejbehbjhecaaW.PrintMore Go.Proofs.Ytjbejbehbjhecaa.Base Go.Proofs.Ytjbejbehbjhecaa.Q21n Go.Proofs.Ytjbejbehbjhecaa.L21
set_option linter.unusedVariables false
set_option linter.unusedSimpArgs false
set_option maxRecDepth 100000
/-! ### One cost less by one: no sum is more, none less by more than one -/
structure Dec (c d : Mat) : Prop where
  ex : (∀ i j, i < 4 → j < 4 → d i j = c i j) ∨ ∃ a b, a < 4 ∧ b < 4 ∧ 1 < c a b ∧ d a b = c a b - 1 ∧ ∀ i j, i < 4 → j < 4 → ¬ (i = a ∧ j = b) → d i j = c i j
theorem Dec.cell {c d : Mat} (D : Dec c d) {i j : Nat} (hi : i < 4) (hj : j < 4) : d i j = c i j ∨ (1 < c i j ∧ d i j = c i j - 1) := by
  rcases D.ex with h | ⟨a, b, ha, hb, h1, h2, h3⟩
  · exact .inl (h i j hi hj)
  · by_cases e : i = a ∧ j = b
    · obtain ⟨rfl, rfl⟩ := e; exact .inr ⟨h1, h2⟩
    · exact .inl (h3 i j hi hj e)
theorem Dec.ok {c d : Mat} (D : Dec c d) (C : CostOk c) : CostOk d := by
  refine ⟨fun i j hi hj => ?_, fun i hi => ?_⟩
  · have := C.range i j hi hj
    rcases D.cell hi hj with h | ⟨h1, h2⟩ <;> omega
  · have := C.diag i hi
    rcases D.cell hi hi with h | ⟨h1, h2⟩ <;> omega
theorem Dec.e {c d : Mat} (D : Dec c d) (C : CostOk c) {i j : Nat} (hi : i < 4) (hj : j < 4) : eOf d i j ≤ eOf c i j ∧ eOf c i j ≤ eOf d i j + 1 ∧ (eOf d i j < far → eOf c i j ≤ 65535) := by
  have r := C.range i j hi hj
  unfold eOf far
  by_cases e : i = j
  · rw [if_pos e, if_pos e]; omega
  · rw [if_neg e, if_neg e]
    rcases D.cell hi hj with h | ⟨h1, h2⟩
    · rw [h]; split <;> omega
    · rw [if_neg (show ¬ c i j = 0 by omega), if_neg (show ¬ d i j = 0 by omega)]; omega
theorem Dec.le {c d : Mat} (D : Dec c d) (C : CostOk c) {f t : Nat} (hf : f < 4) (ht : t < 4) : W (eOf d) f t ≤ W (eOf c) f t := by
  obtain ⟨x, y, hx, hy, h⟩ := W_at (eOf c) f t
  have h1 := W_le (eOf d) f t hx hy
  have := (D.e C hf hx).1
  have := (D.e C hx hy).1
  have := (D.e C hy ht).1
  omega
theorem Dec.near {c d : Mat} (D : Dec c d) (C : CostOk c) {f t : Nat} (hf : f < 4) (ht : t < 4) (h : W (eOf d) f t < far) : W (eOf c) f t < far := by
  have S := (D.ok C).steps
  obtain ⟨x, y, hx, hy, hw⟩ := W_at (eOf d) f t
  have n1 := S.nonneg f x hf hx
  have n2 := S.nonneg x y hx hy
  have n3 := S.nonneg y t hy ht
  have s1 := (D.e C hf hx).2.2 (by omega)
  have s2 := (D.e C hx hy).2.2 (by omega)
  have s3 := (D.e C hy ht).2.2 (by omega)
  have := W_le (eOf c) f t hx hy
  unfold far
  omega
theorem Dec.ge {c d : Mat} (D : Dec c d) (C : CostOk c) {f t : Nat} (hf : f < 4) (ht : t < 4) : W (eOf c) f t ≤ W (eOf d) f t + 1 := by
  have S := (D.ok C).steps
  obtain ⟨x, y, hx, hy, hw⟩ := W_at (eOf d) f t
  have n1 := S.nonneg f x hf hx
  have n2 := S.nonneg x y hx hy
  have n3 := S.nonneg y t hy ht
  have l1 := W_le (eOf c) f t hx hy
  have l2 := W_e C.steps hf ht
  have e1 := D.e C hf hx
  have e2 := D.e C hx hy
  have e3 := D.e C hy ht
  have e4 := D.e C hf ht
  have key : ∀ {i j : Nat}, i < 4 → j < 4 → eOf c i j = eOf d i j ∨ ∀ {p q : Nat}, p < 4 → q < 4 → eOf c p q = eOf d p q ∨ (p = i ∧ q = j) := by
    intro i j hi hj
    rcases D.ex with h | ⟨a, b, ha, hb, h1, h2, h3⟩
    · left; unfold eOf; rw [h i j hi hj]
    · by_cases e : i = a ∧ j = b
      · right
        obtain ⟨rfl, rfl⟩ := e
        intro p q hp hq
        by_cases e2 : p = i ∧ q = j
        · exact .inr e2
        · left; unfold eOf; rw [h3 p q hp hq e2]
      · left; unfold eOf; rw [h3 i j hi hj e]
  have self (S' : L21.Steps (eOf c)) : ∀ i, i < 4 → eOf c i i = eOf d i i := fun i hi => by rw [S'.self i hi, S.self i hi]
  rcases key hf hx with k1 | k1
  · rcases key hx hy with k2 | k2
    · omega
    · rcases k2 hy ht with k3 | ⟨rfl, rfl⟩
      · omega
      · have := self C.steps _ hy; omega
  · rcases k1 hx hy with k2 | ⟨rfl, rfl⟩
    · rcases k1 hy ht with k3 | ⟨rfl, rfl⟩
      · omega
      · omega
    · have s := self C.steps _ hx
      rcases k1 hx ht with k3 | ⟨-, rfl⟩
      · omega
      · omega
def T0 (k n f : Nat) (z : Int) (rs : List S41) (c : Mat) (v : Nat → Int) := watchwordlaw21_PathsTriangle.l0 k ((f : Int) + 1) z rs (n : Int) (c 0 0) (c 0 1) (c 0 2) (c 0 3) (c 1 0) (c 1 1) (c 1 2) (c 1 3) (c 2 0) (c 2 1) (c 2 2) (c 2 3) (c 3 0) (c 3 1) (c 3 2) (c 3 3) (v 0) (v 1) (v 2) (v 3) (v 4)
def T1 (k i f : Nat) (z : Int) (rs : List S41) (c : Mat) (v : Nat → Int) := watchwordlaw21_PathsTriangle.l1 k ((f : Int) + 1) z rs (i : Int) (c 0 0) (c 0 1) (c 0 2) (c 0 3) (c 1 0) (c 1 1) (c 1 2) (c 1 3) (c 2 0) (c 2 1) (c 2 2) (c 2 3) (c 3 0) (c 3 1) (c 3 2) (c 3 3) (v 0) (v 1) (v 2) (v 3) (v 4)
def T2 (k i j f : Nat) (z : Int) (rs : List S41) (c : Mat) (v : Nat → Int) := watchwordlaw21_PathsTriangle.l2 k ((f : Int) + 1) z rs (i : Int) (j : Int) (c 0 0) (c 0 1) (c 0 2) (c 0 3) (c 1 0) (c 1 1) (c 1 2) (c 1 3) (c 2 0) (c 2 1) (c 2 2) (c 2 3) (c 3 0) (c 3 1) (c 3 2) (c 3 3) (v 0) (v 1) (v 2) (v 3) (v 4)
def J4 (k f : Nat) (rs : List S41) (c : Mat) := watchwordlaw21_PathsTriangle.j4 k ((f : Int) + 1) rs (c 0 0) (c 0 1) (c 0 2) (c 0 3) (c 1 0) (c 1 1) (c 1 2) (c 1 3) (c 2 0) (c 2 1) (c 2 2) (c 2 3) (c 3 0) (c 3 1) (c 3 2) (c 3 3)
def T3 (k n : Nat) (rs qs : List S41) := watchwordlaw21_PathsTriangle.l3 k rs qs (n : Int)
theorem rd_at {l : List S41} {i : Nat} {x : S41} {r : List S41} (h : l.drop i = x :: r) : rd_T41 l (i : Int) = x ∧ i < l.length := by
  have hi : i < l.length := by
    by_cases hi : i < l.length
    · exact hi
    · rw [List.drop_of_length_le (by omega)] at h; cases h
  refine ⟨?_, hi⟩
  unfold rd_T41
  rw [Int.toNat_natCast, List.getD_eq_getElem?_getD, List.getElem?_eq_getElem hi]
  rw [List.drop_eq_getElem_cons hi] at h
  exact (List.cons.inj h).1
theorem drop_next {α : Type} {l : List α} {i : Nat} {x : α} {r : List α} (h : l.drop i = x :: r) : l.drop (i + 1) = r := by
  rw [← List.drop_drop, h]; rfl
theorem nxt {b : Nat} (h : b ≤ 10) : wrap64 ((b : Int) + 1) = ((b + 1 : Nat) : Int) := by unfold wrap64; omega
theorem prv {b : Nat} (h : b ≤ 10) : wrap64 (((b + 1 : Nat) : Int) - 1) = (b : Int) := by unfold wrap64; omega
theorem sel5 (v : Nat → Int) {j : Nat} (h : j < 5) : ix5 (v 0) (v 1) (v 2) (v 3) (v 4) (j : Int) = v j := by
  obtain rfl | rfl | rfl | rfl | rfl : j = 0 ∨ j = 1 ∨ j = 2 ∨ j = 3 ∨ j = 4 := by omega
  all_goals rfl
def up5 (v : Nat → Int) (t : Nat) (w : Int) : Nat → Int := fun j => if j = t then w else v j
theorem up5_at (v : Nat → Int) (t : Nat) (w : Int) (j : Nat) : up ((t : Int) == (j : Int)) w (v j) = up5 v t w j := by
  unfold up up5
  by_cases h : j = t
  · rw [if_pos h, if_pos (by simp; omega)]
  · rw [if_neg h, if_neg (by simp; omega)]
/-- What a router's place holds: its least sum, nothing where it is not reached or the router itself. -/
def cst (c : Mat) (f t : Nat) : Int := if t = f ∨ 262144 ≤ ws c f t then 0 else ws c f t
def fin (c : Mat) (f j : Nat) : Int := if j = 0 then 0 else cst c f (j - 1)
theorem e_pos {c : Mat} (C : CostOk c) {i j : Nat} (hi : i < 4) (hj : j < 4) (h : i ≠ j) : 1 ≤ eOf c i j := by
  have := C.range i j hi hj
  unfold eOf far
  rw [if_neg h]
  split <;> omega
theorem ws_pos {c : Mat} (C : CostOk c) {f t : Nat} (hf : f < 4) (ht : t < 4) (h : f ≠ t) : 1 ≤ ws c f t := by
  have S := C.steps
  obtain ⟨x, y, hx, hy, hw⟩ := W_at (eOf c) f t
  have n1 := S.nonneg f x hf hx
  have n2 := S.nonneg x y hx hy
  have n3 := S.nonneg y t hy ht
  show 1 ≤ W (eOf c) f t
  by_cases h1 : f = x
  · by_cases h2 : x = y
    · have := e_pos C hy ht (by omega); omega
    · have := e_pos C hx hy h2; omega
  · have := e_pos C hf hx h1; omega
theorem routes_next (c : Mat) (f : Nat) {d q : Nat} (h : d + (q + 1) = 4) : routes c f (q + 1) = match route c f d with | none => routes c f q | some x => x :: routes c f q := by
  obtain rfl : d = 3 - q := by omega
  unfold routes
  rw [show sfx (q + 1) = (3 - q) :: sfx q from rfl, List.filterMap_cons]
  cases route c f (3 - q) <;> rfl
theorem T0_all {c : Mat} {f : Nat} {z : Int} {K : Nat} (H : ∀ k, K ≤ k → T1 k 1 f z (routes c f 4) c (fin c f) = some true) :
    ∀ q d n k v, d + q = 4 → (routes c f 4).drop n = routes c f q → n ≤ (routes c f 4).length → (∀ j, j < 5 → v j = if j ≤ d then fin c f j else 0) → K + q + 1 ≤ k → T0 k n f z (routes c f 4) c v = some true
  | 0, d, n, k, v, h, hd, hn, hv, hk => by
    obtain rfl : d = 4 := by omega
    obtain ⟨k, rfl⟩ : ∃ m, k = m + 1 := ⟨k - 1, by omega⟩
    have hl : n = (routes c f 4).length := by
      have := congrArg List.length hd
      rw [List.length_drop] at this
      have h0 : (routes c f 0).length = 0 := rfl
      omega
    unfold T0
    simp only [watchwordlaw21_PathsTriangle.l0]
    rw [if_neg (by omega)]
    have e : ∀ j, j < 5 → v j = fin c f j := fun j hj => by rw [hv j hj, if_pos (by omega)]
    rw [e 0 (by decide), e 1 (by decide), e 2 (by decide), e 3 (by decide), e 4 (by decide)]
    exact H k (by omega)
  | q + 1, d, n, k, v, h, hd, hn, hv, hk => by
    rw [routes_next c f h] at hd
    have hl := routes_len c f 4
    cases hr : route c f d with
    | none =>
      rw [hr] at hd
      refine T0_all H q (d + 1) n k v (by omega) hd hn (fun j hj => ?_) (by omega)
      rw [hv j hj]
      by_cases e : j ≤ d
      · rw [if_pos e, if_pos (by omega)]
      · rw [if_neg e]
        by_cases e2 : j ≤ d + 1
        · rw [if_pos e2]
          obtain rfl : j = d + 1 := by omega
          unfold fin cst route at *
          by_cases e3 : d = f ∨ 262144 ≤ ws c f d
          · rw [if_neg (by omega), Nat.add_sub_cancel, if_pos e3]
          · rw [if_neg e3] at hr; cases hr
        · rw [if_neg e2]
    | some x =>
      rw [hr] at hd
      obtain ⟨g1, g2⟩ := rd_at hd
      obtain ⟨k, rfl⟩ : ∃ m, k = m + 1 := ⟨k - 1, by omega⟩
      have hx : x = ⟨(d : Int) + 1, ws c f d, firsts c f d 4⟩ ∧ ¬ (d = f ∨ 262144 ≤ ws c f d) := by
        unfold route at hr
        by_cases e3 : d = f ∨ 262144 ≤ ws c f d
        · rw [if_pos e3] at hr; cases hr
        · rw [if_neg e3] at hr; exact ⟨(Option.some.inj hr).symm, e3⟩
      obtain ⟨rfl, e3⟩ := hx
      unfold T0
      simp only [watchwordlaw21_PathsTriangle.l0]
      rw [if_pos (by omega), if_pos (by omega), g1]
      simp only
      rw [if_neg (by omega), if_neg (by omega), if_pos (by omega), if_pos (by omega), nxt (by omega)]
      have u := up5_at v (d + 1) (ws c f d)
      have u0 := u 0
      have u1 := u 1
      have u2 := u 2
      have u3 := u 3
      have u4 := u 4
      rw [show ((d + 1 : Nat) : Int) = (d : Int) + 1 by omega] at u0 u1 u2 u3 u4
      rw [show ((0 : Nat) : Int) = 0 from rfl] at u0
      rw [show ((1 : Nat) : Int) = 1 from rfl] at u1
      rw [show ((2 : Nat) : Int) = 2 from rfl] at u2
      rw [show ((3 : Nat) : Int) = 3 from rfl] at u3
      rw [show ((4 : Nat) : Int) = 4 from rfl] at u4
      rw [u0, u1, u2, u3, u4]
      refine T0_all H q (d + 1) (n + 1) k (up5 v (d + 1) (ws c f d)) (by omega) (drop_next hd) (by omega) (fun j hj => ?_) (by omega)
      unfold up5
      by_cases e : j = d + 1
      · subst e
        rw [if_pos rfl, if_pos (Nat.le_refl _)]
        unfold fin cst
        rw [if_neg (by omega), Nat.add_sub_cancel, if_neg e3]
      · rw [if_neg e, hv j hj]
        by_cases e2 : j ≤ d
        · rw [if_pos e2, if_pos (by omega)]
        · rw [if_neg e2, if_neg (by omega)]
/-- What a link tells of the places of its two ends. -/
theorem tri {c : Mat} (C : CostOk c) {f i j : Nat} (hf : f < 4) (hi : i < 4) (hj : j < 4) (hjf : j ≠ f) (hr : i = f ∨ 0 < cst c f i) (hc : 0 < c i j) : cst c f j ≠ 0 ∧ cst c f j ≤ cst c f i + c i j := by
  have ni : ws c f i < far := by
    rcases hr with rfl | hr
    · show W (eOf c) i i < far; rw [W_self C.steps hi]; decide
    · unfold cst at hr; unfold far
      by_cases e : i = f ∨ 262144 ≤ ws c f i
      · rw [if_pos e] at hr; omega
      · omega
  have nj : ws c f j < far := W_near C hf hi hj ni hc
  have ej : cst c f j = ws c f j := by unfold cst; unfold far at nj; rw [if_neg (by omega)]
  have ei : cst c f i = ws c f i := by
    unfold cst
    by_cases e : i = f
    · subst e; rw [if_pos (.inl rfl)]; exact (W_self C.steps hi).symm
    · unfold far at ni; rw [if_neg (by omega)]
  have p := ws_pos C hf hj (Ne.symm hjf)
  have s := W_step C.steps hf hi hj
  rw [(eOf_c C hi hc).1] at s
  rw [ej, ei]
  exact ⟨by omega, s⟩
theorem fin_succ (c : Mat) (f j : Nat) : fin c f (j + 1) = cst c f j := by unfold fin; rw [if_neg (by omega), Nat.add_sub_cancel]
theorem cst_range {c : Mat} (C : CostOk c) {f t : Nat} (hf : f < 4) (ht : t < 4) : 0 ≤ cst c f t ∧ cst c f t ≤ 262144 := by
  have := ws_range C hf ht
  unfold cst
  split <;> omega
theorem cst_self (c : Mat) (f : Nat) : cst c f f = 0 := by unfold cst; rw [if_pos (.inl rfl)]
theorem T2_step {c : Mat} (C : CostOk c) {f i j : Nat} (hf : f < 4) (hi : i < 4) (hj : j < 4) (k : Nat) (z : Int) (rs : List S41) : T2 (k + 1) (i + 1) (j + 1) f z rs c (fin c f) = T2 k (i + 1) (j + 1 + 1) f z rs c (fin c f) := by
  unfold T2
  simp only [watchwordlaw21_PathsTriangle.l2]
  rw [sel5 (fin c f) (show j + 1 < 5 by omega), sel5 (fin c f) (show i + 1 < 5 by omega), fin_succ c f i, fin_succ c f j, prv (show i ≤ 10 by omega), prv (show j ≤ 10 by omega), sel_at c hi hj, nxt (show j + 1 ≤ 10 by omega)]
  have hc := C.range i j hi hj
  have ri := cst_range C hf hi
  have rj := cst_range C hf hj
  rw [show wrap64 (cst c f i + c i j) = cst c f i + c i j by unfold wrap64; omega]
  have q1 := eq_true (show ((j + 1 : Nat) : Int) ≤ 4 by omega)
  have q2 := eq_true (show 0 ≤ (i : Int) by omega)
  have q3 := eq_true (show (i : Int) < 4 by omega)
  have q4 := eq_true (show 0 ≤ (j : Int) by omega)
  have q5 := eq_true (show (j : Int) < 4 by omega)
  have q6 := eq_true (show 0 ≤ ((j + 1 : Nat) : Int) by omega)
  have q7 := eq_true (show ((j + 1 : Nat) : Int) < 5 by omega)
  have q8 := eq_true (show 0 ≤ ((i + 1 : Nat) : Int) by omega)
  have q9 := eq_true (show ((i + 1 : Nat) : Int) < 5 by omega)
  simp only [q1, q2, q3, q4, q5, q6, q7, q8, q9, if_true]
  by_cases hif : i = f
  · have e1 := eq_true (show ((i + 1 : Nat) : Int) = (f : Int) + 1 by omega)
    by_cases hjf : j = f
    · have e2 := eq_true (show ((j + 1 : Nat) : Int) = (f : Int) + 1 by omega)
      simp only [e1, e2, if_true]
    · have e2 := eq_false (show ¬ ((j + 1 : Nat) : Int) = (f : Int) + 1 by omega)
      simp only [e1, e2, if_true, if_false]
      by_cases h : c i j > 0
      · obtain ⟨t1, t2⟩ := tri C hf hi hj hjf (.inl hif) h
        rw [if_pos h, if_neg t1, if_neg (by omega)]
      · rw [if_neg h]
  · have e1 := eq_false (show ¬ ((i + 1 : Nat) : Int) = (f : Int) + 1 by omega)
    by_cases hjf : j = f
    · have e2 := eq_true (show ((j + 1 : Nat) : Int) = (f : Int) + 1 by omega)
      simp only [e1, e2, if_true, if_false]
    · have e2 := eq_false (show ¬ ((j + 1 : Nat) : Int) = (f : Int) + 1 by omega)
      simp only [e1, e2, if_true, if_false]
      by_cases hr : cst c f i > 0
      · rw [if_pos hr]
        by_cases h : c i j > 0
        · obtain ⟨t1, t2⟩ := tri C hf hi hj hjf (.inr hr) h
          rw [if_pos h, if_neg t1, if_neg (by omega)]
        · rw [if_neg h]
      · rw [if_neg hr]
theorem T2_all {c : Mat} (C : CostOk c) {f i : Nat} (hf : f < 4) (hi : i < 4) (z : Int) (rs : List S41) : ∀ q j k, j + q = 4 → T2 (k + 1 + q) (i + 1) (j + 1) f z rs c (fin c f) = T1 k (i + 2) f z rs c (fin c f)
  | 0, j, k, h => by
    obtain rfl : j = 4 := by omega
    unfold T2 T1
    simp only [watchwordlaw21_PathsTriangle.l2]
    rw [if_neg (by omega), nxt (by omega)]
  | q + 1, j, k, h => by
    rw [show k + 1 + (q + 1) = k + 1 + q + 1 by omega, T2_step C hf hi (by omega)]
    exact T2_all C hf hi z rs q (j + 1) k (by omega)
theorem T1_all {c : Mat} (C : CostOk c) {f : Nat} (hf : f < 4) (z : Int) (rs : List S41) : ∀ q i k, i + q = 4 → T1 (k + 6 * q) (i + 1) f z rs c (fin c f) = T1 k 5 f z rs c (fin c f)
  | 0, i, k, h => by
    obtain rfl : i = 4 := by omega
    rfl
  | q + 1, i, k, h => by
    have h1 : T1 (k + 6 * (q + 1)) (i + 1) f z rs c (fin c f) = T2 (k + 6 * q + 1 + 4) (i + 1) (0 + 1) f z rs c (fin c f) := by
      rw [show k + 6 * (q + 1) = k + 6 * q + 1 + 4 + 1 by omega]
      unfold T1 T2
      simp only [watchwordlaw21_PathsTriangle.l1]
      rw [if_pos (by omega)]
      rfl
    rw [h1, T2_all C hf (by omega) z rs 4 0 (k + 6 * q) rfl]
    exact T1_all C hf z rs q (i + 1) k (by omega)
theorem T1_end (k f : Nat) (z : Int) (rs : List S41) (c : Mat) (v : Nat → Int) {a b : Nat} (ha : z % 4 = (a : Int)) (hb : z / 4 % 4 = (b : Int)) (hc : -9 ≤ c a b ∧ c a b ≤ 65535) :
    T1 (k + 1) 5 f z rs c v = if c a b > 1 then J4 k f rs (upd2 c a b (c a b - 1)) else J4 k f rs c := by
  unfold T1 J4
  simp only [watchwordlaw21_PathsTriangle.l1]
  rw [if_neg (by decide), show Go.bits .and .i64 z 3 = (a : Int) from (and3 z).trans ha, show Go.bits .and .i64 (z / 4) 3 = (b : Int) from (and3 _).trans hb, sel_at c (show a < 4 by omega) (show b < 4 by omega),
    if_pos (by omega), if_pos (by omega), if_pos (by omega), if_pos (by omega), show wrap64 (c a b - 1) = c a b - 1 by unfold wrap64; omega]
  obtain ⟨u1, u2, u3, u4, u5, u6, u7, u8, u9, u10, u11, u12, u13, u14, u15, u16⟩ := ups c a b (c a b - 1)
  rw [u1, u2, u3, u4, u5, u6, u7, u8, u9, u10, u11, u12, u13, u14, u15, u16]
theorem Routes_at {k : Nat} (hk : 200 ≤ k) (c : Mat) (a : Int) : paths_Routes.f k (c 0 0) (c 0 1) (c 0 2) (c 0 3) (c 1 0) (c 1 1) (c 1 2) (c 1 3) (c 2 0) (c 2 1) (c 2 2) (c 2 3) (c 3 0) (c 3 1) (c 3 2) (c 3 3) a = some (ans c a) := by
  obtain ⟨q, rfl⟩ : ∃ q, k = q + 200 := ⟨k - 200, by omega⟩
  exact Routes_f q c a
theorem both {c d : Mat} (D : Dec c d) (C : CostOk c) {f t : Nat} (hf : f < 4) (ht : t < 4) : (route c f t = none ∧ route d f t = none) ∨ ∃ x y, route c f t = some x ∧ route d f t = some y ∧ y.f0 = x.f0 ∧ y.f1 ≤ x.f1 ∧ x.f1 - 1 ≤ y.f1 ∧ 0 ≤ x.f1 ∧ x.f1 ≤ 262144 := by
  have l := D.le C hf ht
  have g := D.ge C hf ht
  have n := D.near C hf ht
  have r := ws_range C hf ht
  unfold far at n
  unfold route
  by_cases e : t = f ∨ 262144 ≤ ws c f t
  · left
    rw [if_pos e]
    refine ⟨rfl, ?_⟩
    rw [if_pos]
    rcases e with e | e
    · exact .inl e
    · right
      by_cases z : W (eOf d) f t < 262144
      · have := n z
        have e' : 262144 ≤ W (eOf c) f t := e
        omega
      · show 262144 ≤ W (eOf d) f t; omega
  · right
    rw [if_neg e, if_neg (show ¬ (t = f ∨ 262144 ≤ ws d f t) by
      intro z
      rcases z with z | z
      · exact e (.inl z)
      · have z' : 262144 ≤ W (eOf d) f t := z
        exact e (.inr (by show 262144 ≤ W (eOf c) f t; omega)))]
    exact ⟨_, _, rfl, rfl, rfl, l, by show W (eOf c) f t - 1 ≤ W (eOf d) f t; omega, r.1, r.2⟩
theorem same_len {c d : Mat} (D : Dec c d) (C : CostOk c) {f : Nat} (hf : f < 4) : ∀ q, q ≤ 4 → (routes d f q).length = (routes c f q).length
  | 0, _ => rfl
  | q + 1, h => by
    have ih := same_len D C hf q (by omega)
    rw [routes_next c f (d := 3 - q) (q := q) (by omega), routes_next d f (d := 3 - q) (q := q) (by omega)]
    rcases both D C hf (show 3 - q < 4 by omega) with ⟨h1, h2⟩ | ⟨x, y, h1, h2, _⟩
    · rw [h1, h2]; exact ih
    · rw [h1, h2]; show (routes d f q).length + 1 = (routes c f q).length + 1; omega
theorem T3_all {c d : Mat} (D : Dec c d) (C : CostOk c) {f : Nat} (hf : f < 4) : ∀ q n k, q ≤ 4 → (routes c f 4).drop n = routes c f q → (routes d f 4).drop n = routes d f q → n ≤ (routes c f 4).length → q + 1 ≤ k → T3 k n (routes c f 4) (routes d f 4) = some true
  | 0, n, k, h, hc, hd, hn, hk => by
    obtain ⟨k, rfl⟩ : ∃ m, k = m + 1 := ⟨k - 1, by omega⟩
    have hl : n = (routes c f 4).length := by
      have := congrArg List.length hc
      rw [List.length_drop] at this
      have h0 : (routes c f 0).length = 0 := rfl
      omega
    unfold T3
    simp only [watchwordlaw21_PathsTriangle.l3]
    rw [if_neg (by omega)]
  | q + 1, n, k, h, hc, hd, hn, hk => by
    rw [routes_next c f (d := 3 - q) (q := q) (by omega)] at hc
    rw [routes_next d f (d := 3 - q) (q := q) (by omega)] at hd
    rcases both D C hf (show 3 - q < 4 by omega) with ⟨h1, h2⟩ | ⟨x, y, h1, h2, b0, b1, b2, b3, b4⟩
    · rw [h1] at hc
      rw [h2] at hd
      exact T3_all D C hf q n k (by omega) hc hd hn (by omega)
    · rw [h1] at hc
      rw [h2] at hd
      obtain ⟨k, rfl⟩ : ∃ m, k = m + 1 := ⟨k - 1, by omega⟩
      obtain ⟨g1, g2⟩ := rd_at hc
      obtain ⟨g3, g4⟩ := rd_at hd
      have hl := routes_len c f 4
      unfold T3
      simp only [watchwordlaw21_PathsTriangle.l3]
      rw [g1, g3, if_pos (by omega), if_pos (by omega), if_pos (by omega), if_pos b0, if_neg (by omega), show wrap64 (x.f1 - 1) = x.f1 - 1 by unfold wrap64; omega, if_neg (by omega), nxt (by omega)]
      exact T3_all D C hf q (n + 1) k (by omega) (drop_next hc) (drop_next hd) (by omega) (by omega)
theorem J4_ok {c d : Mat} (D : Dec c d) (C : CostOk c) {f : Nat} (hf : f < 4) {k : Nat} (hk : 210 ≤ k) : J4 k f (routes c f 4) d = some true := by
  obtain ⟨k, rfl⟩ : ∃ m, k = m + 1 := ⟨k - 1, by omega⟩
  unfold J4
  simp only [watchwordlaw21_PathsTriangle.j4]
  rw [Routes_at (by omega) d]
  unfold ans
  rw [if_pos ⟨(okM_iff d).2 (D.ok C), by omega, by omega⟩, show ((f : Int) + 1 - 1).toNat = f by omega]
  simp only [Option.bind_some, num_ok]
  rw [if_pos trivial, same_len D C hf 4 (Nat.le_refl _), show ((((routes c f 4).length : Nat) : Int) != (((routes c f 4).length : Nat) : Int)) = false by simp]
  obtain ⟨k, rfl⟩ : ∃ m, k = m + 1 := ⟨k - 1, by omega⟩
  simp only [watchwordlaw21_PathsTriangle.j5]
  rw [if_neg (by decide)]
  exact T3_all D C hf 4 0 k (Nat.le_refl _) rfl rfl (Nat.zero_le _) (by omega)
theorem core {k : Nat} (hk : 500 ≤ k) (a0 : Mat) (a1 a2 : Int) : watchwordlaw21_PathsTriangle.f k (a0 0 0) (a0 0 1) (a0 0 2) (a0 0 3) (a0 1 0) (a0 1 1) (a0 1 2) (a0 1 3) (a0 2 0) (a0 2 1) (a0 2 2) (a0 2 3) (a0 3 0) (a0 3 1) (a0 3 2) (a0 3 3) a1 a2 = some true := by
  unfold watchwordlaw21_PathsTriangle.f
  rw [awake_ok (by omega), Routes_at (by omega) a0]
  simp only [Option.bind_some, if_true]
  unfold ans
  by_cases h : okM a0 = true ∧ 1 ≤ a1 ∧ a1 ≤ 4
  · rw [if_pos h]
    obtain ⟨ho, h1, h4⟩ := h
    have C := (okM_iff a0).1 ho
    obtain ⟨f, hf, rfl⟩ : ∃ f : Nat, f < 4 ∧ a1 = (f : Int) + 1 := ⟨(a1 - 1).toNat, by omega, by omega⟩
    simp only [num_ok, Option.bind_some, if_true]
    rw [if_neg (by omega), show decide ((f : Int) + 1 > 4) = false from decide_eq_false (by omega), show ((f : Int) + 1 - 1).toNat = f by omega]
    obtain ⟨k, rfl⟩ : ∃ m, k = m + 1 := ⟨k - 1, by omega⟩
    simp only [watchwordlaw21_PathsTriangle.j0]
    rw [if_neg (by decide)]
    obtain ⟨a, ha4, ha⟩ : ∃ a : Nat, a < 4 ∧ a2 % 4 = (a : Int) := ⟨(a2 % 4).toNat, by omega, by omega⟩
    obtain ⟨b, hb4, hb⟩ : ∃ b : Nat, b < 4 ∧ a2 / 4 % 4 = (b : Int) := ⟨(a2 / 4 % 4).toNat, by omega, by omega⟩
    have r := C.range a b ha4 hb4
    have H : ∀ k, 235 ≤ k → T1 k 1 f a2 (routes a0 f 4) a0 (fin a0 f) = some true := by
      intro k hk
      obtain ⟨k, rfl⟩ : ∃ m, k = m + 1 + 6 * 4 := ⟨k - 25, by omega⟩
      rw [T1_all C hf a2 _ 4 0 (k + 1) rfl, T1_end k f a2 _ a0 _ ha hb (by omega)]
      by_cases g : a0 a b > 1
      · rw [if_pos g]
        refine J4_ok ⟨.inr ⟨a, b, ha4, hb4, by omega, ?_, ?_⟩⟩ C hf (by omega)
        · unfold upd2; rw [if_pos ⟨rfl, rfl⟩]
        · intro i j _ _ e; unfold upd2; rw [if_neg e]
      · rw [if_neg g]
        exact J4_ok ⟨.inl fun _ _ _ _ => rfl⟩ C hf (by omega)
    exact T0_all H 4 0 0 k (fun _ => 0) rfl rfl (Nat.zero_le _) (fun j hj => by
      by_cases e : j ≤ 0
      · rw [if_pos e]; unfold fin; rw [if_pos (by omega)]
      · rw [if_neg e]) (by omega)
  · rw [if_neg h]
    simp [num_bad]
theorem PathsTriangle : ∀ (a0 : Nat → Nat → Int) (a1 : Int) (a2 : Int), (∀ i j, i < 4 → j < 4 → (Lit.int .i64 (a0 i j)).wf = true) → (Lit.int .i64 a1).wf = true → (Lit.int .i64 a2).wf = true → ∃ k, watchwordlaw21_PathsTriangle.f k (a0 0 0) (a0 0 1) (a0 0 2) (a0 0 3) (a0 1 0) (a0 1 1) (a0 1 2) (a0 1 3) (a0 2 0) (a0 2 1) (a0 2 2) (a0 2 3) (a0 3 0) (a0 3 1) (a0 3 2) (a0 3 3) a1 a2 = some true := by
  intro a0 a1 a2 _ _ _
  obtain ⟨k, hk⟩ : ∃ k : Nat, 500 ≤ k := ⟨500, Nat.le_refl _⟩
  exact ⟨k, core hk a0 a1 a2⟩
end Go.Proofs.Ytjbejbehbjhecaa.Pure
