/- Paths: what the printed functions compute, told by the matrix of costs: which costs may be, the least sums between any two. -/
import Derived.Test.YtjbejbehbjhecaaQ21x113
import Derived.Test.YtjbejbehbjhecaaBase
namespace Go.Proofs.Ytjbejbehbjhecaa.L21
open Go.RowKit Go.Proofs.YtjbejbehbjhecaaW.PrintWords Go.Proofs.YtjbejbehbjhecaaW.PrintMore Go.Proofs.Ytjbejbehbjhecaa.Base Go.Proofs.Ytjbejbehbjhecaa.Q21
set_option linter.unusedVariables false
set_option linter.unusedSimpArgs false
set_option maxRecDepth 100000
/-! ### Least sums between four: W is the least sum of three steps (a step from one to itself costs nothing) -/
structure Steps (e : Nat → Nat → Int) : Prop where
  self : ∀ i, i < 4 → e i i = 0
  nonneg : ∀ i j, i < 4 → j < 4 → 0 ≤ e i j
/-- The least of four. -/
def m4 (f : Nat → Int) : Int := min (min (f 0) (f 1)) (min (f 2) (f 3))
theorem m4_le (f : Nat → Int) {i : Nat} (h : i < 4) : m4 f ≤ f i := by
  unfold m4
  have : i = 0 ∨ i = 1 ∨ i = 2 ∨ i = 3 := by omega
  rcases this with rfl | rfl | rfl | rfl <;> omega
theorem m4_at (f : Nat → Int) : ∃ i, i < 4 ∧ m4 f = f i := by
  unfold m4
  by_cases h0 : min (min (f 0) (f 1)) (min (f 2) (f 3)) = f 0
  · exact ⟨0, by decide, h0⟩
  · by_cases h1 : min (min (f 0) (f 1)) (min (f 2) (f 3)) = f 1
    · exact ⟨1, by decide, h1⟩
    · by_cases h2 : min (min (f 0) (f 1)) (min (f 2) (f 3)) = f 2
      · exact ⟨2, by decide, h2⟩
      · exact ⟨3, by decide, by omega⟩
theorem m4_ge (f : Nat → Int) {b : Int} (h : ∀ i, i < 4 → b ≤ f i) : b ≤ m4 f := by
  obtain ⟨i, hi, e⟩ := m4_at f
  rw [e]; exact h i hi
def W (e : Nat → Nat → Int) (i j : Nat) : Int := m4 fun x => m4 fun y => e i x + e x y + e y j
theorem W_le (e : Nat → Nat → Int) (i j : Nat) {x y : Nat} (hx : x < 4) (hy : y < 4) : W e i j ≤ e i x + e x y + e y j :=
  Int.le_trans (m4_le _ hx) (m4_le (fun y => e i x + e x y + e y j) hy)
theorem W_at (e : Nat → Nat → Int) (i j : Nat) : ∃ x y, x < 4 ∧ y < 4 ∧ W e i j = e i x + e x y + e y j := by
  obtain ⟨x, hx, h1⟩ := m4_at fun x => m4 fun y => e i x + e x y + e y j
  obtain ⟨y, hy, h2⟩ := m4_at fun y => e i x + e x y + e y j
  exact ⟨x, y, hx, hy, h1.trans h2⟩
/-- Of five among four two are one: a way of four steps has a shorter one in it. -/
theorem shorter {e : Nat → Nat → Int} (S : Steps e) {f x y z j : Nat} (hf : f < 4) (hx : x < 4) (hy : y < 4) (hz : z < 4) (hj : j < 4) :
    ∃ x' y', x' < 4 ∧ y' < 4 ∧ e f x' + e x' y' + e y' j ≤ e f x + e x y + e y z + e z j ∧
      ∀ M : Int, 0 ≤ M → e f x ≤ M → e x y ≤ M → e y z ≤ M → e z j ≤ M → e f x' ≤ M ∧ e x' y' ≤ M ∧ e y' j ≤ M := by
  have n1 := S.nonneg f x hf hx
  have n2 := S.nonneg x y hx hy
  have n3 := S.nonneg y z hy hz
  have n4 := S.nonneg z j hz hj
  have sf := S.self f hf
  have sj := S.self j hj
  have : f = x ∨ x = y ∨ y = z ∨ z = j ∨ f = y ∨ x = z ∨ y = j ∨ f = z ∨ x = j ∨ f = j := by omega
  rcases this with rfl | rfl | rfl | rfl | rfl | rfl | rfl | rfl | rfl | rfl
  · exact ⟨y, z, hy, hz, by omega, fun M h0 h1 h2 h3 h4 => ⟨h2, h3, h4⟩⟩
  · exact ⟨x, z, hx, hz, by omega, fun M h0 h1 h2 h3 h4 => ⟨h1, h3, h4⟩⟩
  · exact ⟨x, y, hx, hy, by omega, fun M h0 h1 h2 h3 h4 => ⟨h1, h2, h4⟩⟩
  · exact ⟨x, y, hx, hy, by omega, fun M h0 h1 h2 h3 h4 => ⟨h1, h2, h3⟩⟩
  · exact ⟨z, j, hz, hj, by omega, fun M h0 h1 h2 h3 h4 => ⟨h3, h4, by omega⟩⟩
  · exact ⟨x, j, hx, hj, by omega, fun M h0 h1 h2 h3 h4 => ⟨h1, h4, by omega⟩⟩
  · exact ⟨x, y, hx, hy, by omega, fun M h0 h1 h2 h3 h4 => ⟨h1, h2, by omega⟩⟩
  · exact ⟨j, j, hj, hj, by omega, fun M h0 h1 h2 h3 h4 => ⟨h4, by omega, by omega⟩⟩
  · exact ⟨x, x, hx, hx, by omega, fun M h0 h1 h2 h3 h4 => ⟨h1, by omega, by omega⟩⟩
  · exact ⟨f, f, hf, hf, by omega, fun M h0 h1 h2 h3 h4 => ⟨by omega, by omega, by omega⟩⟩
theorem W_step {e : Nat → Nat → Int} (S : Steps e) {i k j : Nat} (hi : i < 4) (hk : k < 4) (hj : j < 4) : W e i j ≤ W e i k + e k j := by
  obtain ⟨x, y, hx, hy, h⟩ := W_at e i k
  obtain ⟨x', y', hx', hy', h', _⟩ := shorter S hi hx hy hk hj
  have := W_le e i j hx' hy'
  omega
theorem W_tri {e : Nat → Nat → Int} (S : Steps e) {i k j : Nat} (hi : i < 4) (hk : k < 4) (hj : j < 4) : W e i j ≤ W e i k + W e k j := by
  obtain ⟨x, y, hx, hy, h⟩ := W_at e k j
  have h1 := W_step S hi hk hx
  have h2 := W_step S hi hx hy
  have h3 := W_step S hi hy hj
  omega
theorem W_e {e : Nat → Nat → Int} (S : Steps e) {i j : Nat} (hi : i < 4) (hj : j < 4) : W e i j ≤ e i j := by
  have := W_le e i j hi hi
  have := S.self i hi
  omega
theorem W_nonneg {e : Nat → Nat → Int} (S : Steps e) {i j : Nat} (hi : i < 4) (hj : j < 4) : 0 ≤ W e i j := by
  obtain ⟨x, y, hx, hy, h⟩ := W_at e i j
  have := S.nonneg i x hi hx
  have := S.nonneg x y hx hy
  have := S.nonneg y j hy hj
  omega
theorem W_self {e : Nat → Nat → Int} (S : Steps e) {i : Nat} (hi : i < 4) : W e i i = 0 := by
  have h1 := W_e S hi hi
  have h2 := W_nonneg S hi hi
  have := S.self i hi
  omega
/-- One of the sums' rounds: ways over k. -/
def over (k : Nat) (m : Nat → Nat → Int) (i j : Nat) : Int := min (m i j) (m i k + m k j)
structure Upto (e : Nat → Nat → Int) (k : Nat) (m : Nat → Nat → Int) : Prop where
  self : ∀ i, i < 4 → m i i = 0
  ge : ∀ i j, i < 4 → j < 4 → W e i j ≤ m i j
  le : ∀ i j, i < 4 → j < 4 → m i j ≤ e i j
  tri : ∀ i q j, i < 4 → q < k → j < 4 → m i j ≤ m i q + m q j
theorem Upto.start {e : Nat → Nat → Int} (S : Steps e) : Upto e 0 e :=
  ⟨S.self, fun _ _ hi hj => W_e S hi hj, fun _ _ _ _ => Int.le_refl _, fun _ _ _ _ h _ => by omega⟩
theorem Upto.step {e m : Nat → Nat → Int} (S : Steps e) {k : Nat} (hk : k < 4) (U : Upto e k m) : Upto e (k + 1) (over k m) := by
  have nn : ∀ i j, i < 4 → j < 4 → 0 ≤ m i j := fun i j hi hj => Int.le_trans (W_nonneg S hi hj) (U.ge i j hi hj)
  have sk := U.self k hk
  refine ⟨fun i hi => ?_, fun i j hi hj => ?_, fun i j hi hj => ?_, fun i q j hi hq hj => ?_⟩
  · have := U.self i hi
    have := nn i k hi hk
    have := nn k i hk hi
    unfold over; omega
  · have h1 := U.ge i j hi hj
    have h2 := U.ge i k hi hk
    have h3 := U.ge k j hk hj
    have h4 := W_tri S hi hk hj
    unfold over; omega
  · have := U.le i j hi hj
    unfold over; omega
  · have a1 := nn i k hi hk
    have a2 := nn k j hk hj
    by_cases h : q = k
    · subst h
      unfold over
      omega
    · have hq' : q < k := by omega
      have b1 := nn k q hk (by omega)
      have b2 := nn q k (by omega) hk
      have t1 := U.tri i q j hi hq' hj
      have t2 := U.tri k q j hk hq' hj
      have t3 := U.tri i q k hi hq' hk
      unfold over
      omega
theorem Upto.done {e m : Nat → Nat → Int} (U : Upto e 4 m) {i j : Nat} (hi : i < 4) (hj : j < 4) : m i j = W e i j := by
  have h1 := U.ge i j hi hj
  obtain ⟨x, y, hx, hy, h⟩ := W_at e i j
  have t1 := U.tri i x j hi hx hj
  have t2 := U.tri x y j hx hy hj
  have l1 := U.le i x hi hx
  have l2 := U.le x y hx hy
  have l3 := U.le y j hy hj
  omega
/-! ### The document's least costs from one router: rounds of relaxing -/
def far : Int := 262144
/-- What a link costs: nothing from one to itself, far if there is none. -/
def eOf (c : Nat → Nat → Int) (i j : Nat) : Int := if i = j then 0 else if c i j = 0 then far else c i j
structure CostOk (c : Nat → Nat → Int) : Prop where
  range : ∀ i j, i < 4 → j < 4 → 0 ≤ c i j ∧ c i j ≤ 65535
  diag : ∀ i, i < 4 → c i i = 0
theorem CostOk.steps {c : Nat → Nat → Int} (C : CostOk c) : Steps (eOf c) := by
  refine ⟨fun i _ => by unfold eOf; rw [if_pos rfl], fun i j hi hj => ?_⟩
  have := C.range i j hi hj
  unfold eOf far
  split
  · omega
  · split <;> omega
theorem eOf_small {c : Nat → Nat → Int} (C : CostOk c) {i j : Nat} (hi : i < 4) (hj : j < 4) (h : eOf c i j < far) : eOf c i j ≤ 65535 := by
  have := C.range i j hi hj
  unfold eOf far at *
  split at h
  · rename_i h1; rw [if_pos h1]; omega
  · rename_i h1; rw [if_neg h1]
    split at h
    · omega
    · rename_i h2; rw [if_neg h2]; omega
theorem eOf_pos {c : Nat → Nat → Int} {i j : Nat} (h : eOf c i j < far) (hne : i ≠ j) : c i j ≠ 0 ∧ eOf c i j = c i j := by
  unfold eOf at *
  rw [if_neg hne] at h ⊢
  by_cases h0 : c i j = 0
  · rw [if_pos h0] at h; omega
  · exact ⟨h0, by rw [if_neg h0]⟩
theorem eOf_c {c : Nat → Nat → Int} (C : CostOk c) {i j : Nat} (hi : i < 4) (h : 0 < c i j) : eOf c i j = c i j ∧ i ≠ j := by
  have hne : i ≠ j := by rintro rfl; have := C.diag i hi; omega
  exact ⟨by unfold eOf; rw [if_neg hne, if_neg (by omega)], hne⟩
/-- A link behind a way that isn't far is not far. -/
theorem W_near {c : Nat → Nat → Int} (C : CostOk c) {f i j : Nat} (hf : f < 4) (hi : i < 4) (hj : j < 4) (h : W (eOf c) f i < far) (hc : 0 < c i j) : W (eOf c) f j < far := by
  have S := C.steps
  obtain ⟨x, y, hx, hy, hw⟩ := W_at (eOf c) f i
  have n1 := S.nonneg f x hf hx
  have n2 := S.nonneg x y hx hy
  have n3 := S.nonneg y i hy hi
  have s1 := eOf_small C hf hx (by omega)
  have s2 := eOf_small C hx hy (by omega)
  have s3 := eOf_small C hy hi (by omega)
  have s4 : eOf c i j ≤ 65535 := by rw [(eOf_c C hi hc).1]; exact (C.range i j hi hj).2
  obtain ⟨x', y', hx', hy', _, hM⟩ := shorter S hf hx hy hi hj
  obtain ⟨m1, m2, m3⟩ := hM 65535 (by decide) s1 s2 s3 s4
  have := W_le (eOf c) f j hx' hy'
  unfold far
  omega
def upd (d : Nat → Int) (j : Nat) (v : Int) : Nat → Int := fun q => if q = j then v else d q
/-- One step of relaxing. -/
def rlx (c : Nat → Nat → Int) (d : Nat → Int) (i j : Nat) : Nat → Int :=
  if 0 ≤ d i ∧ 0 < c i j ∧ (d j < 0 ∨ d i + c i j < d j) then upd d j (d i + c i j) else d
structure Good (c : Nat → Nat → Int) (f : Nat) (d : Nat → Int) : Prop where
  ge : ∀ j, j < 4 → 0 ≤ d j → W (eOf c) f j ≤ d j ∧ W (eOf c) f j < far
theorem Good.rlx {c : Nat → Nat → Int} (C : CostOk c) {f : Nat} (hf : f < 4) {d : Nat → Int} (G : Good c f d) {i j : Nat} (hi : i < 4) (hj : j < 4) : Good c f (rlx c d i j) := by
  unfold L21.rlx
  by_cases h : 0 ≤ d i ∧ 0 < c i j ∧ (d j < 0 ∨ d i + c i j < d j)
  · rw [if_pos h]
    refine ⟨fun q hq h0 => ?_⟩
    unfold upd at h0 ⊢
    by_cases e : q = j
    · subst e
      rw [if_pos rfl]
      obtain ⟨g1, g2⟩ := G.ge i hi h.1
      have h2 := W_step C.steps hf hi hq
      rw [(eOf_c C hi h.2.1).1] at h2
      exact ⟨by omega, W_near C hf hi hq g2 h.2.1⟩
    · rw [if_neg e] at h0 ⊢; exact G.ge q hq h0
  · rw [if_neg h]; exact G
/-- What is held stays held. -/
theorem rlx_keeps {c : Nat → Nat → Int} {d : Nat → Int} {i j q : Nat} {b : Int} (h : 0 ≤ d q ∧ d q ≤ b) : 0 ≤ rlx c d i j q ∧ rlx c d i j q ≤ b := by
  unfold rlx
  by_cases hc : 0 ≤ d i ∧ 0 < c i j ∧ (d j < 0 ∨ d i + c i j < d j)
  · rw [if_pos hc]; unfold upd
    by_cases e : q = j
    · subst e; rw [if_pos rfl]; omega
    · rw [if_neg e]; exact h
  · rw [if_neg hc]; exact h
theorem rlx_takes {c : Nat → Nat → Int} {d : Nat → Int} {i j : Nat} {b : Int} (h : 0 ≤ d i ∧ d i ≤ b) (hc : 0 < c i j) : 0 ≤ rlx c d i j j ∧ rlx c d i j j ≤ b + c i j := by
  unfold rlx
  by_cases h' : 0 ≤ d i ∧ 0 < c i j ∧ (d j < 0 ∨ d i + c i j < d j)
  · rw [if_pos h']; unfold upd; rw [if_pos rfl]; omega
  · rw [if_neg h']; omega
/-- The pairs that a round goes through, in its order: the n-th is (n / 4, n % 4). -/
def rl (c : Nat → Nat → Int) (d : Nat → Int) : Nat → (Nat → Int)
  | 0 => d
  | n + 1 => rlx c (rl c d n) (n / 4 % 4) (n % 4)
def V (e : Nat → Nat → Int) (f : Nat) : Nat → Nat → Int
  | 0, j => if j = f then 0 else far
  | r + 1, j => m4 fun i => V e f r i + e i j
theorem V_nonneg {e : Nat → Nat → Int} (S : Steps e) {f : Nat} : ∀ r j, j < 4 → 0 ≤ V e f r j
  | 0, j, _ => by unfold V far; split <;> omega
  | r + 1, j, hj => m4_ge _ fun i hi => by have := V_nonneg S (f := f) r i hi; have := S.nonneg i j hi hj; omega
theorem rl_good {c : Nat → Nat → Int} (C : CostOk c) {f : Nat} (hf : f < 4) {d : Nat → Int} (G : Good c f d) : ∀ n, Good c f (rl c d n)
  | 0 => G
  | n + 1 => (rl_good C hf G n).rlx C hf (by omega) (by omega)
theorem rl_add (c : Nat → Nat → Int) (d : Nat → Int) (m : Nat) (hm : m % 16 = 0) : ∀ n, rl c d (m + n) = rl c (rl c d m) n
  | 0 => rfl
  | n + 1 => by
    show rlx c (rl c d (m + n)) ((m + n) / 4 % 4) ((m + n) % 4) = rlx c (rl c (rl c d m) n) (n / 4 % 4) (n % 4)
    rw [rl_add c d m hm n, show (m + n) / 4 % 4 = n / 4 % 4 by omega, show (m + n) % 4 = n % 4 by omega]
theorem rl_keeps {c : Nat → Nat → Int} {d : Nat → Int} {q : Nat} {b : Int} (h : 0 ≤ d q ∧ d q ≤ b) : ∀ n, 0 ≤ rl c d n q ∧ rl c d n q ≤ b
  | 0 => h
  | n + 1 => rlx_keeps (rl_keeps h n)
theorem rl_upto {c : Nat → Nat → Int} {d : Nat → Int} {q : Nat} {b : Int} {m : Nat} (h : 0 ≤ rl c d m q ∧ rl c d m q ≤ b) : ∀ n, 0 ≤ rl c d (m + n) q ∧ rl c d (m + n) q ≤ b
  | 0 => h
  | n + 1 => rlx_keeps (rl_upto h n)
theorem rl_round {c : Nat → Nat → Int} (C : CostOk c) {f r : Nat} {d : Nat → Int} (h : ∀ j, j < 4 → V (eOf c) f r j < far → 0 ≤ d j ∧ d j ≤ V (eOf c) f r j) :
    ∀ j, j < 4 → V (eOf c) f (r + 1) j < far → 0 ≤ rl c d 16 j ∧ rl c d 16 j ≤ V (eOf c) f (r + 1) j := by
  intro j hj hv
  have S := C.steps
  obtain ⟨i, hi, e⟩ := m4_at fun i => V (eOf c) f r i + eOf c i j
  have e' : V (eOf c) f (r + 1) j = V (eOf c) f r i + eOf c i j := e
  rw [e'] at hv ⊢
  have n1 := V_nonneg S (f := f) r i hi
  have n2 := S.nonneg i j hi hj
  have hd := h i hi (by omega)
  by_cases hij : i = j
  · subst hij
    have := S.self i hi
    exact rl_keeps ⟨hd.1, by omega⟩ 16
  · obtain ⟨c1, c2⟩ := eOf_pos (c := c) (i := i) (j := j) (by omega) hij
    have c3 := C.range i j hi hj
    have hk := rl_keeps (c := c) (d := d) (q := i) hd (4 * i + j)
    have ht := rlx_takes (c := c) (j := j) hk (by omega)
    have hs : rl c d (4 * i + j + 1) = rlx c (rl c d (4 * i + j)) i j := by
      show rlx c (rl c d (4 * i + j)) ((4 * i + j) / 4 % 4) ((4 * i + j) % 4) = _
      rw [show (4 * i + j) / 4 % 4 = i by omega, show (4 * i + j) % 4 = j by omega]
    rw [← hs] at ht
    have := rl_upto ht (16 - (4 * i + j + 1))
    rw [show 4 * i + j + 1 + (16 - (4 * i + j + 1)) = 16 by omega] at this
    rw [c2]; exact this
/-- What the rounds come to. -/
theorem rl_done {c : Nat → Nat → Int} (C : CostOk c) {f : Nat} (hf : f < 4) {d : Nat → Int} (hd : d f = 0) (hn : ∀ j, j ≠ f → d j = -1) {j : Nat} (hj : j < 4) :
    (W (eOf c) f j < far → rl c d 64 j = W (eOf c) f j) ∧ (far ≤ W (eOf c) f j → rl c d 64 j < 0) := by
  have S := C.steps
  have G : Good c f d := ⟨fun q hq h0 => by
    by_cases e : q = f
    · subst e; have := W_self S hq; unfold far; omega
    · have := hn q e; omega⟩
  have G4 := rl_good C hf G 64
  have u0 : ∀ j, j < 4 → V (eOf c) f 0 j < far → 0 ≤ d j ∧ d j ≤ V (eOf c) f 0 j := by
    intro q hq hv
    unfold V at hv ⊢
    by_cases e : q = f
    · subst e; rw [if_pos rfl]; omega
    · rw [if_neg e] at hv; omega
  have e1 := rl_add c d 16 rfl 16
  have e2 := rl_add c d 32 rfl 16
  have e3 := rl_add c d 48 rfl 16
  have u1 := rl_round C u0
  have u2 := rl_round C u1
  have u3 := rl_round C u2
  have u4 := rl_round C u3
  rw [← e1] at u2 u3 u4
  rw [← e2] at u3 u4
  rw [← e3] at u4
  replace u4 : ∀ j, j < 4 → V (eOf c) f 4 j < far → 0 ≤ rl c d 64 j ∧ rl c d 64 j ≤ V (eOf c) f 4 j := u4
  refine ⟨fun hw => ?_, fun hw => ?_⟩
  · obtain ⟨x, y, hx, hy, h⟩ := W_at (eOf c) f j
    have v0 : V (eOf c) f 0 f = 0 := by unfold V; rw [if_pos rfl]
    have v1 : V (eOf c) f 1 x ≤ V (eOf c) f 0 f + eOf c f x := m4_le (fun i => V (eOf c) f 0 i + eOf c i x) hf
    have v2 : V (eOf c) f 2 y ≤ V (eOf c) f 1 x + eOf c x y := m4_le (fun i => V (eOf c) f 1 i + eOf c i y) hx
    have v3 : V (eOf c) f 3 j ≤ V (eOf c) f 2 y + eOf c y j := m4_le (fun i => V (eOf c) f 2 i + eOf c i j) hy
    have v4 : V (eOf c) f 4 j ≤ V (eOf c) f 3 j + eOf c j j := m4_le (fun i => V (eOf c) f 3 i + eOf c i j) hj
    have sj := S.self j hj
    have u := u4 j hj (by omega)
    have g := (G4.ge j hj u.1).1
    omega
  · by_cases h0 : 0 ≤ rl c d 64 j
    · have := (G4.ge j hj h0).2; omega
    · omega
abbrev Mat := Nat → Nat → Int
/-- Sixteen cells as a matrix. -/
def mk (c0 c1 c2 c3 c4 c5 c6 c7 c8 c9 c10 c11 c12 c13 c14 c15 : Int) : Mat := fun i j => match i, j with
  | 0, 0 => c0 | 0, 1 => c1 | 0, 2 => c2 | 0, 3 => c3
  | 1, 0 => c4 | 1, 1 => c5 | 1, 2 => c6 | 1, 3 => c7
  | 2, 0 => c8 | 2, 1 => c9 | 2, 2 => c10 | 2, 3 => c11
  | 3, 0 => c12 | 3, 1 => c13 | 3, 2 => c14 | 3, 3 => c15
  | _, _ => 0
theorem four {P : Nat → Prop} (h0 : P 0) (h1 : P 1) (h2 : P 2) (h3 : P 3) : ∀ i, i < 4 → P i := by
  intro i hi
  obtain rfl | rfl | rfl | rfl : i = 0 ∨ i = 1 ∨ i = 2 ∨ i = 3 := by omega
  all_goals assumption
/-! #### a matrix read and written -/
theorem sel_at (m : Mat) {a b : Nat} (ha : a < 4) (hb : b < 4) :
    ix4 (ix4 (m 0 0) (m 0 1) (m 0 2) (m 0 3) (b : Int)) (ix4 (m 1 0) (m 1 1) (m 1 2) (m 1 3) (b : Int)) (ix4 (m 2 0) (m 2 1) (m 2 2) (m 2 3) (b : Int)) (ix4 (m 3 0) (m 3 1) (m 3 2) (m 3 3) (b : Int)) (a : Int) = m a b := by
  obtain rfl | rfl | rfl | rfl : a = 0 ∨ a = 1 ∨ a = 2 ∨ a = 3 := by omega
  all_goals (obtain rfl | rfl | rfl | rfl : b = 0 ∨ b = 1 ∨ b = 2 ∨ b = 3 := by omega)
  all_goals rfl
theorem row_at (r : Nat → Int) {b : Nat} (hb : b < 4) : ix4 (r 0) (r 1) (r 2) (r 3) (b : Int) = r b := by
  obtain rfl | rfl | rfl | rfl : b = 0 ∨ b = 1 ∨ b = 2 ∨ b = 3 := by omega
  all_goals rfl
def upd2 (m : Mat) (a b : Nat) (v : Int) : Mat := fun i j => if i = a ∧ j = b then v else m i j
theorem up_at (m : Mat) (a b : Nat) (v : Int) (i j : Nat) : up (((a : Nat) : Int) == ((i : Nat) : Int) && ((b : Nat) : Int) == ((j : Nat) : Int)) v (m i j) = upd2 m a b v i j := by
  unfold up upd2
  by_cases h : i = a ∧ j = b
  · obtain ⟨rfl, rfl⟩ := h; simp
  · rw [if_neg h, if_neg]
    simp only [Bool.and_eq_true, beq_iff_eq, not_and]
    intro e1 e2; exact h ⟨by omega, by omega⟩
theorem ups (m : Mat) (a b : Nat) (v : Int) :
    up (((a : Nat) : Int) == 0 && ((b : Nat) : Int) == 0) v (m 0 0) = upd2 m a b v 0 0 ∧ up (((a : Nat) : Int) == 0 && ((b : Nat) : Int) == 1) v (m 0 1) = upd2 m a b v 0 1 ∧
    up (((a : Nat) : Int) == 0 && ((b : Nat) : Int) == 2) v (m 0 2) = upd2 m a b v 0 2 ∧ up (((a : Nat) : Int) == 0 && ((b : Nat) : Int) == 3) v (m 0 3) = upd2 m a b v 0 3 ∧
    up (((a : Nat) : Int) == 1 && ((b : Nat) : Int) == 0) v (m 1 0) = upd2 m a b v 1 0 ∧ up (((a : Nat) : Int) == 1 && ((b : Nat) : Int) == 1) v (m 1 1) = upd2 m a b v 1 1 ∧
    up (((a : Nat) : Int) == 1 && ((b : Nat) : Int) == 2) v (m 1 2) = upd2 m a b v 1 2 ∧ up (((a : Nat) : Int) == 1 && ((b : Nat) : Int) == 3) v (m 1 3) = upd2 m a b v 1 3 ∧
    up (((a : Nat) : Int) == 2 && ((b : Nat) : Int) == 0) v (m 2 0) = upd2 m a b v 2 0 ∧ up (((a : Nat) : Int) == 2 && ((b : Nat) : Int) == 1) v (m 2 1) = upd2 m a b v 2 1 ∧
    up (((a : Nat) : Int) == 2 && ((b : Nat) : Int) == 2) v (m 2 2) = upd2 m a b v 2 2 ∧ up (((a : Nat) : Int) == 2 && ((b : Nat) : Int) == 3) v (m 2 3) = upd2 m a b v 2 3 ∧
    up (((a : Nat) : Int) == 3 && ((b : Nat) : Int) == 0) v (m 3 0) = upd2 m a b v 3 0 ∧ up (((a : Nat) : Int) == 3 && ((b : Nat) : Int) == 1) v (m 3 1) = upd2 m a b v 3 1 ∧
    up (((a : Nat) : Int) == 3 && ((b : Nat) : Int) == 2) v (m 3 2) = upd2 m a b v 3 2 ∧ up (((a : Nat) : Int) == 3 && ((b : Nat) : Int) == 3) v (m 3 3) = upd2 m a b v 3 3 :=
  ⟨up_at m a b v 0 0, up_at m a b v 0 1, up_at m a b v 0 2, up_at m a b v 0 3, up_at m a b v 1 0, up_at m a b v 1 1, up_at m a b v 1 2, up_at m a b v 1 3,
   up_at m a b v 2 0, up_at m a b v 2 1, up_at m a b v 2 2, up_at m a b v 2 3, up_at m a b v 3 0, up_at m a b v 3 1, up_at m a b v 3 2, up_at m a b v 3 3⟩
theorem next4 {b : Nat} (h : b < 4) : wrap64 ((b : Int) + 1) = ((b + 1 : Nat) : Int) := by unfold wrap64; omega
/-! #### may these costs be -/
def cellOk (a b c : Int) : Bool := decide (0 ≤ c) && decide (c ≤ 65535) && (decide (a ≠ b) || decide (c = 0))
def rowOk (a r0 r1 r2 r3 : Int) : Bool := cellOk a 0 r0 && (cellOk a 1 r1 && (cellOk a 2 r2 && cellOk a 3 r3))
def okC (c0 c1 c2 c3 c4 c5 c6 c7 c8 c9 c10 c11 c12 c13 c14 c15 : Int) : Bool := rowOk 0 c0 c1 c2 c3 && (rowOk 1 c4 c5 c6 c7 && (rowOk 2 c8 c9 c10 c11 && rowOk 3 c12 c13 c14 c15))
def okM (m : Mat) : Bool := okC (m 0 0) (m 0 1) (m 0 2) (m 0 3) (m 1 0) (m 1 1) (m 1 2) (m 1 3) (m 2 0) (m 2 1) (m 2 2) (m 2 3) (m 3 0) (m 3 1) (m 3 2) (m 3 3)
theorem May_step (k : Nat) {a b r0 r1 r2 r3 c0 c1 c2 c3 c4 c5 c6 c7 c8 c9 c10 c11 c12 c13 c14 c15 : Int} (h0 : 0 ≤ b) (h4 : b < 4) :
    graph_May.l1 (k + 1) a a b c0 c1 c2 c3 c4 c5 c6 c7 c8 c9 c10 c11 c12 c13 c14 c15 r0 r1 r2 r3 = if cellOk a b (ix4 r0 r1 r2 r3 b) = true then graph_May.l1 k a a (wrap64 (b + 1)) c0 c1 c2 c3 c4 c5 c6 c7 c8 c9 c10 c11 c12 c13 c14 c15 r0 r1 r2 r3 else some false := by
  simp only [graph_May.l1]
  rw [if_pos h4, if_pos h0]
  generalize ix4 r0 r1 r2 r3 b = x
  unfold cellOk
  by_cases h1 : x < 0
  · rw [if_pos h1, if_neg (by simp; omega)]
  · rw [if_neg h1]
    by_cases h2 : x > 65535
    · rw [if_pos h2, if_neg (by simp; omega)]
    · rw [if_neg h2]
      by_cases h3 : a = b
      · rw [if_pos h3]
        by_cases h5 : x = 0
        · rw [if_pos h5, if_pos (by simp; omega)]
        · rw [if_neg h5, if_neg (by simp; omega)]
      · rw [if_neg h3, if_pos (by simp; omega)]
theorem May_row (k : Nat) {a r0 r1 r2 r3 c0 c1 c2 c3 c4 c5 c6 c7 c8 c9 c10 c11 c12 c13 c14 c15 : Int} :
    graph_May.l1 (k + 5) a a 0 c0 c1 c2 c3 c4 c5 c6 c7 c8 c9 c10 c11 c12 c13 c14 c15 r0 r1 r2 r3 = if rowOk a r0 r1 r2 r3 = true then graph_May.l0 k (wrap64 (a + 1)) c0 c1 c2 c3 c4 c5 c6 c7 c8 c9 c10 c11 c12 c13 c14 c15 else some false := by
  rw [May_step (k + 4) (by decide) (by decide), show wrap64 (0 + 1) = 1 by decide +kernel, show ix4 r0 r1 r2 r3 0 = r0 from rfl,
    May_step (k + 3) (by decide) (by decide), show wrap64 (1 + 1) = 2 by decide +kernel, show ix4 r0 r1 r2 r3 1 = r1 from rfl,
    May_step (k + 2) (by decide) (by decide), show wrap64 (2 + 1) = 3 by decide +kernel, show ix4 r0 r1 r2 r3 2 = r2 from rfl,
    May_step (k + 1) (by decide) (by decide), show wrap64 (3 + 1) = 4 by decide +kernel, show ix4 r0 r1 r2 r3 3 = r3 from rfl]
  simp only [graph_May.l1]
  rw [if_neg (show ¬ ((4 : Int) < 4) by decide)]
  unfold rowOk
  cases cellOk a 0 r0 <;> cases cellOk a 1 r1 <;> cases cellOk a 2 r2 <;> cases cellOk a 3 r3 <;> simp
theorem May_f (k : Nat) (c0 c1 c2 c3 c4 c5 c6 c7 c8 c9 c10 c11 c12 c13 c14 c15 : Int) : graph_May.f (k + 25) c0 c1 c2 c3 c4 c5 c6 c7 c8 c9 c10 c11 c12 c13 c14 c15 = some (okC c0 c1 c2 c3 c4 c5 c6 c7 c8 c9 c10 c11 c12 c13 c14 c15) := by
  unfold graph_May.f
  have s (k : Nat) (x : Int) (h0 : 0 ≤ x) (h4 : x < 4) : graph_May.l0 (k + 1) x c0 c1 c2 c3 c4 c5 c6 c7 c8 c9 c10 c11 c12 c13 c14 c15 = graph_May.l1 k x x 0 c0 c1 c2 c3 c4 c5 c6 c7 c8 c9 c10 c11 c12 c13 c14 c15 (ix4 c0 c4 c8 c12 x) (ix4 c1 c5 c9 c13 x) (ix4 c2 c6 c10 c14 x) (ix4 c3 c7 c11 c15 x) := by
    simp only [graph_May.l0]; rw [if_pos h4, if_pos h0]
  rw [s (k + 24) 0 (by decide) (by decide), May_row (k + 19), show wrap64 (0 + 1) = 1 by decide +kernel, s (k + 18) 1 (by decide) (by decide), May_row (k + 13), show wrap64 (1 + 1) = 2 by decide +kernel,
    s (k + 12) 2 (by decide) (by decide), May_row (k + 7), show wrap64 (2 + 1) = 3 by decide +kernel, s (k + 6) 3 (by decide) (by decide), May_row (k + 1), show wrap64 (3 + 1) = 4 by decide +kernel]
  simp only [graph_May.l0]
  rw [if_neg (show ¬ ((4 : Int) < 4) by decide)]
  unfold okC
  show (if rowOk 0 c0 c1 c2 c3 = true then (if rowOk 1 c4 c5 c6 c7 = true then (if rowOk 2 c8 c9 c10 c11 = true then (if rowOk 3 c12 c13 c14 c15 = true then some true else some false) else some false) else some false) else some false) = _
  cases rowOk 0 c0 c1 c2 c3 <;> cases rowOk 1 c4 c5 c6 c7 <;> cases rowOk 2 c8 c9 c10 c11 <;> cases rowOk 3 c12 c13 c14 c15 <;> simp
theorem cellOk_iff {a b c : Int} : cellOk a b c = true ↔ (0 ≤ c ∧ c ≤ 65535 ∧ (a = b → c = 0)) := by
  unfold cellOk
  simp only [Bool.and_eq_true, Bool.or_eq_true, decide_eq_true_eq]
  constructor
  · rintro ⟨⟨h1, h2⟩, h3⟩; exact ⟨h1, h2, fun e => h3.resolve_left (fun h => h e)⟩
  · rintro ⟨h1, h2, h3⟩; refine ⟨⟨h1, h2⟩, ?_⟩
    by_cases e : a = b
    · exact .inr (h3 e)
    · exact .inl e
theorem okM_iff (m : Mat) : okM m = true ↔ CostOk m := by
  unfold okM okC rowOk
  simp only [Bool.and_eq_true]
  constructor
  · rintro ⟨⟨a, b, d, e⟩, ⟨f, g, h, i⟩, ⟨j, k, l, n⟩, o, p, q, s⟩
    rw [cellOk_iff] at a b d e f g h i j k l n o p q s
    exact ⟨fun i' j' hi hj => four (P := fun i => 0 ≤ m i j' ∧ m i j' ≤ 65535) (four (P := fun j => 0 ≤ m 0 j ∧ m 0 j ≤ 65535) ⟨a.1, a.2.1⟩ ⟨b.1, b.2.1⟩ ⟨d.1, d.2.1⟩ ⟨e.1, e.2.1⟩ j' hj) (four (P := fun j => 0 ≤ m 1 j ∧ m 1 j ≤ 65535) ⟨f.1, f.2.1⟩ ⟨g.1, g.2.1⟩ ⟨h.1, h.2.1⟩ ⟨i.1, i.2.1⟩ j' hj)
      (four (P := fun j => 0 ≤ m 2 j ∧ m 2 j ≤ 65535) ⟨j.1, j.2.1⟩ ⟨k.1, k.2.1⟩ ⟨l.1, l.2.1⟩ ⟨n.1, n.2.1⟩ j' hj) (four (P := fun j => 0 ≤ m 3 j ∧ m 3 j ≤ 65535) ⟨o.1, o.2.1⟩ ⟨p.1, p.2.1⟩ ⟨q.1, q.2.1⟩ ⟨s.1, s.2.1⟩ j' hj) i' hi,
      four (P := fun i => m i i = 0) (a.2.2 rfl) (g.2.2 rfl) (l.2.2 rfl) (s.2.2 rfl)⟩
  · rintro ⟨r, d⟩
    have z (i j : Nat) (hi : i < 4) (hj : j < 4) (a b : Int) (hab : a = (i : Int)) (hb : b = (j : Int)) : cellOk a b (m i j) = true :=
      cellOk_iff.2 ⟨(r i j hi hj).1, (r i j hi hj).2, fun e => (show i = j by omega) ▸ d i hi⟩
    exact ⟨⟨z 0 0 (by decide) (by decide) _ _ rfl rfl, z 0 1 (by decide) (by decide) _ _ rfl rfl, z 0 2 (by decide) (by decide) _ _ rfl rfl, z 0 3 (by decide) (by decide) _ _ rfl rfl⟩,
      ⟨z 1 0 (by decide) (by decide) _ _ rfl rfl, z 1 1 (by decide) (by decide) _ _ rfl rfl, z 1 2 (by decide) (by decide) _ _ rfl rfl, z 1 3 (by decide) (by decide) _ _ rfl rfl⟩,
      ⟨z 2 0 (by decide) (by decide) _ _ rfl rfl, z 2 1 (by decide) (by decide) _ _ rfl rfl, z 2 2 (by decide) (by decide) _ _ rfl rfl, z 2 3 (by decide) (by decide) _ _ rfl rfl⟩,
      z 3 0 (by decide) (by decide) _ _ rfl rfl, z 3 1 (by decide) (by decide) _ _ rfl rfl, z 3 2 (by decide) (by decide) _ _ rfl rfl, z 3 3 (by decide) (by decide) _ _ rfl rfl⟩
/-- The only link, if it costs what none may, spoils all. -/
theorem May_bad (k : Nat) {r c : Nat} (hr : r < 4) (hc : c < 4) {v : Int} (hv : v < 0 ∨ 65535 < v) : okM (upd2 (fun _ _ => 0) r c v) = false := by
  rw [Bool.eq_false_iff]
  intro h
  have h1 := ((okM_iff _).1 h).range r c hr hc
  unfold upd2 at h1
  rw [if_pos ⟨rfl, rfl⟩] at h1
  omega
/-! #### the sums -/
abbrev R16 := Int × Int × Int × Int × Int × Int × Int × Int × Int × Int × Int × Int × Int × Int × Int × Int
def tup (m : Mat) : R16 := (m 0 0, m 0 1, m 0 2, m 0 3, m 1 0, m 1 1, m 1 2, m 1 3, m 2 0, m 2 1, m 2 2, m 2 3, m 3 0, m 3 1, m 3 2, m 3 3)
theorem tup_congr {m m' : Mat} (h : ∀ i j, i < 4 → j < 4 → m i j = m' i j) : tup m = tup m' := by
  unfold tup
  simp only [h 0 0 (by decide) (by decide), h 0 1 (by decide) (by decide), h 0 2 (by decide) (by decide), h 0 3 (by decide) (by decide),
    h 1 0 (by decide) (by decide), h 1 1 (by decide) (by decide), h 1 2 (by decide) (by decide), h 1 3 (by decide) (by decide),
    h 2 0 (by decide) (by decide), h 2 1 (by decide) (by decide), h 2 2 (by decide) (by decide), h 2 3 (by decide) (by decide),
    h 3 0 (by decide) (by decide), h 3 1 (by decide) (by decide), h 3 2 (by decide) (by decide), h 3 3 (by decide) (by decide)]
def L0 (k a : Nat) (m o : Mat) := paths_sums.l0 k (a : Int) (m 0 0) (m 0 1) (m 0 2) (m 0 3) (m 1 0) (m 1 1) (m 1 2) (m 1 3) (m 2 0) (m 2 1) (m 2 2) (m 2 3) (m 3 0) (m 3 1) (m 3 2) (m 3 3) (o 0 0) (o 0 1) (o 0 2) (o 0 3) (o 1 0) (o 1 1) (o 1 2) (o 1 3) (o 2 0) (o 2 1) (o 2 2) (o 2 3) (o 3 0) (o 3 1) (o 3 2) (o 3 3)
def L1 (k a b : Nat) (m o : Mat) := paths_sums.l1 k (a : Int) (a : Int) (b : Int) (m 0 0) (m 0 1) (m 0 2) (m 0 3) (m 1 0) (m 1 1) (m 1 2) (m 1 3) (m 2 0) (m 2 1) (m 2 2) (m 2 3) (m 3 0) (m 3 1) (m 3 2) (m 3 3) (o 0 0) (o 0 1) (o 0 2) (o 0 3) (o 1 0) (o 1 1) (o 1 2) (o 1 3) (o 2 0) (o 2 1) (o 2 2) (o 2 3) (o 3 0) (o 3 1) (o 3 2) (o 3 3)
def L2 (k v : Nat) (o : Mat) := paths_sums.l2 k (v : Int) (o 0 0) (o 0 1) (o 0 2) (o 0 3) (o 1 0) (o 1 1) (o 1 2) (o 1 3) (o 2 0) (o 2 1) (o 2 2) (o 2 3) (o 3 0) (o 3 1) (o 3 2) (o 3 3)
def L3 (k v a : Nat) (o : Mat) := paths_sums.l3 k (v : Int) (v : Int) (a : Int) (o 0 0) (o 0 1) (o 0 2) (o 0 3) (o 1 0) (o 1 1) (o 1 2) (o 1 3) (o 2 0) (o 2 1) (o 2 2) (o 2 3) (o 3 0) (o 3 1) (o 3 2) (o 3 3)
def L4 (k v a b : Nat) (o : Mat) := paths_sums.l4 k (v : Int) (a : Int) (v : Int) (a : Int) (b : Int) (o 0 0) (o 0 1) (o 0 2) (o 0 3) (o 1 0) (o 1 1) (o 1 2) (o 1 3) (o 2 0) (o 2 1) (o 2 2) (o 2 3) (o 3 0) (o 3 1) (o 3 2) (o 3 3)
theorem step_f (c : Int) : paths_step.f c = some (if c = 0 then 262144 else c) := by
  unfold paths_step.f; split <;> rfl
theorem L1_step (k : Nat) {a b : Nat} (ha : a < 4) (hb : b < 4) (m o : Mat) :
    L1 (k + 1) a b m o = L1 k a (b + 1) m (if a = b then o else upd2 o a b (if m a b = 0 then 262144 else m a b)) := by
  unfold L1
  simp only [paths_sums.l1]
  rw [if_pos (show ((b : Int) < 4) by omega), next4 hb]
  by_cases e : a = b
  · subst e
    rw [if_pos rfl, if_pos rfl]
  · rw [if_neg (show ¬ ((a : Int) = (b : Int)) by omega), if_neg e, if_pos (show 0 ≤ (a : Int) by omega), if_pos (show (a : Int) < 4 by omega), if_pos (show 0 ≤ (b : Int) by omega), sel_at m ha hb, step_f]
    simp only [Option.bind_some]
    obtain ⟨u1, u2, u3, u4, u5, u6, u7, u8, u9, u10, u11, u12, u13, u14, u15, u16⟩ := ups o a b (if m a b = 0 then 262144 else m a b)
    rw [u1, u2, u3, u4, u5, u6, u7, u8, u9, u10, u11, u12, u13, u14, u15, u16]
theorem L1_end (k a : Nat) (ha : a < 4) (m o : Mat) : L1 (k + 1) a 4 m o = L0 k (a + 1) m o := by
  unfold L1 L0
  simp only [paths_sums.l1]
  rw [if_neg (show ¬ (((4 : Nat) : Int) < 4) by decide), next4 ha]
theorem L0_step (k a : Nat) (ha : a < 4) (m o : Mat) : L0 (k + 1) a m o = L1 k a 0 m o := by
  unfold L1 L0
  simp only [paths_sums.l0]
  rw [if_pos (show ((a : Int) < 4) by omega)]
  rfl
theorem L0_end (k : Nat) (m o : Mat) : L0 (k + 1) 4 m o = L2 k 0 o := by
  unfold L2 L0
  simp only [paths_sums.l0]
  rw [if_neg (show ¬ (((4 : Nat) : Int) < 4) by decide)]
  rfl
/-- What the first rounds have filled: all rows below a, and of row a the places below b. -/
def Fill (c : Mat) (a b : Nat) (o : Mat) : Prop := ∀ i j, i < 4 → j < 4 → o i j = if i < a ∨ (i = a ∧ j < b) then eOf c i j else 0
theorem Fill.step {c : Mat} {a b : Nat} (hb : b < 4) {o : Mat} (F : Fill c a b o) : Fill c a (b + 1) (if a = b then o else upd2 o a b (if c a b = 0 then 262144 else c a b)) := by
  intro i j hi hj
  have hF := F i j hi hj
  by_cases e : a = b
  · rw [if_pos e, hF]
    by_cases h : i = a ∧ j = b
    · obtain ⟨rfl, rfl⟩ := h
      rw [if_neg (by omega), if_pos (by omega)]; unfold eOf; rw [if_pos e]
    · by_cases h1 : i < a ∨ (i = a ∧ j < b)
      · rw [if_pos h1, if_pos (by omega)]
      · rw [if_neg h1, if_neg (by omega)]
  · rw [if_neg e]
    unfold upd2
    by_cases h : i = a ∧ j = b
    · rw [if_pos h]
      obtain ⟨rfl, rfl⟩ := h
      rw [if_pos (show i < i ∨ i = i ∧ j < j + 1 from .inr ⟨rfl, by omega⟩)]; unfold eOf far; rw [if_neg e]
    · rw [if_neg h, hF]
      by_cases h1 : i < a ∨ (i = a ∧ j < b)
      · rw [if_pos h1, if_pos (by omega)]
      · rw [if_neg h1, if_neg (by omega)]
theorem fill_row (k : Nat) {a : Nat} (ha : a < 4) (m : Mat) : ∀ d b o, b + d = 4 → Fill m a b o → ∃ o', Fill m (a + 1) 0 o' ∧ L1 (k + 1 + d) a b m o = L0 k (a + 1) m o'
  | 0, b, o, h, F => ⟨o, fun i j hi hj => by
      rw [F i j hi hj]
      by_cases h1 : i < a ∨ (i = a ∧ j < b)
      · rw [if_pos h1, if_pos (by omega)]
      · rw [if_neg h1, if_neg (by omega)], by
      obtain rfl : b = 4 := by omega
      exact L1_end k a ha m o⟩
  | d + 1, b, o, h, F => by
    obtain ⟨o', F', e⟩ := fill_row k ha m d (b + 1) _ (by omega) (F.step (by omega))
    exact ⟨o', F', (L1_step (k + 1 + d) ha (by omega) m o).trans e⟩
theorem fill_all (k : Nat) (m : Mat) : ∀ d a o, a + d = 4 → Fill m a 0 o → ∃ o', (∀ i j, i < 4 → j < 4 → o' i j = eOf m i j) ∧ L0 (k + 1 + 6 * d) a m o = L2 k 0 o'
  | 0, a, o, h, F => ⟨o, fun i j hi hj => by rw [F i j hi hj, if_pos (by omega)], by
      obtain rfl : a = 4 := by omega
      exact L0_end k m o⟩
  | d + 1, a, o, h, F => by
    obtain ⟨o1, F1, e1⟩ := fill_row (k + 1 + 6 * d) (show a < 4 by omega) m 4 0 o rfl F
    obtain ⟨o', F', e⟩ := fill_all k m d (a + 1) o1 (by omega) F1
    refine ⟨o', F', ?_⟩
    rw [show k + 1 + 6 * (d + 1) = (k + 1 + 6 * d + 1 + 4) + 1 by omega, L0_step _ a (by omega), e1, e]
/-! the rounds over each router -/
theorem L4_step (k : Nat) {v a b : Nat} (hv : v < 4) (ha : a < 4) (hb : b < 4) (o : Mat) :
    L4 (k + 1) v a b o = L4 k v a (b + 1) (upd2 o a b (mn (o a b) (wrap64 (o a v + o v b)))) := by
  unfold L4
  simp only [paths_sums.l4]
  rw [if_pos (show ((b : Int) < 4) by omega), next4 hb, if_pos (show 0 ≤ (a : Int) by omega), if_pos (show (a : Int) < 4 by omega), if_pos (show 0 ≤ (b : Int) by omega), if_pos (show 0 ≤ (v : Int) by omega), if_pos (show (v : Int) < 4 by omega), sel_at o ha hb, sel_at o ha hv, sel_at o hv hb]
  obtain ⟨u1, u2, u3, u4, u5, u6, u7, u8, u9, u10, u11, u12, u13, u14, u15, u16⟩ := ups o a b (mn (o a b) (wrap64 (o a v + o v b)))
  rw [u1, u2, u3, u4, u5, u6, u7, u8, u9, u10, u11, u12, u13, u14, u15, u16]
theorem L4_end (k : Nat) {v a : Nat} (ha : a < 4) (o : Mat) : L4 (k + 1) v a 4 o = L3 k v (a + 1) o := by
  unfold L4 L3
  simp only [paths_sums.l4]
  rw [if_neg (show ¬ (((4 : Nat) : Int) < 4) by decide), next4 ha]
theorem L3_step (k : Nat) {v a : Nat} (ha : a < 4) (o : Mat) : L3 (k + 1) v a o = L4 k v a 0 o := by
  unfold L4 L3
  simp only [paths_sums.l3]
  rw [if_pos (show ((a : Int) < 4) by omega)]
  rfl
theorem L3_end (k : Nat) {v : Nat} (hv : v < 4) (o : Mat) : L3 (k + 1) v 4 o = L2 k (v + 1) o := by
  unfold L3 L2
  simp only [paths_sums.l3]
  rw [if_neg (show ¬ (((4 : Nat) : Int) < 4) by decide), next4 hv]
theorem L2_step (k : Nat) {v : Nat} (hv : v < 4) (o : Mat) : L2 (k + 1) v o = L3 k v 0 o := by
  unfold L3 L2
  simp only [paths_sums.l2]
  rw [if_pos (show ((v : Int) < 4) by omega)]
  rfl
theorem L2_end (k : Nat) (o : Mat) : L2 (k + 1) 4 o = some (tup o) := by
  unfold L2
  simp only [paths_sums.l2]
  rw [if_neg (show ¬ (((4 : Nat) : Int) < 4) by decide)]
  rfl
theorem mn_min (x y : Int) : mn x y = min x y := by unfold mn; split <;> omega
/-- One round, in the midst: what lies ahead of (a, b) has gone over v. -/
def Mid (v : Nat) (m : Mat) (a b : Nat) (o : Mat) : Prop := ∀ i j, i < 4 → j < 4 → o i j = if i < a ∨ (i = a ∧ j < b) then over v m i j else m i j
structure Bd (v : Nat) (m : Mat) : Prop where
  self : m v v = 0
  range : ∀ i j, i < 4 → j < 4 → 0 ≤ m i j ∧ m i j ≤ 262144
theorem Mid.step {v a b : Nat} (hv : v < 4) (ha : a < 4) (hb : b < 4) {m o : Mat} (B : Bd v m) (F : Mid v m a b o) : Mid v m a (b + 1) (upd2 o a b (mn (o a b) (wrap64 (o a v + o v b)))) := by
  intro i j hi hj
  have h1 : o a b = m a b := by rw [F a b ha hb, if_neg (by omega)]
  have r1 := B.range a v ha hv
  have r2 := B.range v b hv hb
  have r3 := B.range a b ha hb
  have hs := B.self
  have h2 : o a v = m a v := by
    rw [F a v ha hv]; split
    · unfold over; rw [hs]; omega
    · rfl
  have h3 : o v b = m v b := by
    rw [F v b hv hb]; split
    · unfold over; rw [hs]; omega
    · rfl
  rw [h1, h2, h3, mn_min, show wrap64 (m a v + m v b) = m a v + m v b by unfold wrap64; omega]
  unfold upd2
  by_cases h : i = a ∧ j = b
  · rw [if_pos h, if_pos (by omega)]
    obtain ⟨rfl, rfl⟩ := h
    rfl
  · rw [if_neg h, F i j hi hj]
    by_cases h1 : i < a ∨ (i = a ∧ j < b)
    · rw [if_pos h1, if_pos (by omega)]
    · rw [if_neg h1, if_neg (by omega)]
theorem mid_row (k : Nat) {v a : Nat} (hv : v < 4) (ha : a < 4) {m : Mat} (B : Bd v m) : ∀ d b o, b + d = 4 → Mid v m a b o → ∃ o', Mid v m (a + 1) 0 o' ∧ L4 (k + 1 + d) v a b o = L3 k v (a + 1) o'
  | 0, b, o, h, F => ⟨o, fun i j hi hj => by
      rw [F i j hi hj]
      by_cases h1 : i < a ∨ (i = a ∧ j < b)
      · rw [if_pos h1, if_pos (by omega)]
      · rw [if_neg h1, if_neg (by omega)], by
      obtain rfl : b = 4 := by omega
      exact L4_end k ha o⟩
  | d + 1, b, o, h, F => by
    obtain ⟨o', F', e⟩ := mid_row k hv ha B d (b + 1) _ (by omega) (F.step hv ha (by omega) B)
    exact ⟨o', F', (L4_step (k + 1 + d) hv ha (by omega) o).trans e⟩
theorem mid_all (k : Nat) {v : Nat} (hv : v < 4) {m : Mat} (B : Bd v m) : ∀ d a o, a + d = 4 → Mid v m a 0 o → ∃ o', (∀ i j, i < 4 → j < 4 → o' i j = over v m i j) ∧ L3 (k + 1 + 6 * d) v a o = L2 k (v + 1) o'
  | 0, a, o, h, F => ⟨o, fun i j hi hj => by rw [F i j hi hj, if_pos (by omega)], by
      obtain rfl : a = 4 := by omega
      exact L3_end k hv o⟩
  | d + 1, a, o, h, F => by
    obtain ⟨o1, F1, e1⟩ := mid_row (k + 1 + 6 * d) hv (show a < 4 by omega) B 4 0 o rfl F
    obtain ⟨o', F', e⟩ := mid_all k hv B d (a + 1) o1 (by omega) F1
    refine ⟨o', F', ?_⟩
    rw [show k + 1 + 6 * (d + 1) = (k + 1 + 6 * d + 1 + 4) + 1 by omega, L3_step _ (by omega), e1, e]
theorem Upto.ext {e m m' : Mat} {v : Nat} (hv : v ≤ 4) (U : Upto e v m) (h : ∀ i j, i < 4 → j < 4 → m' i j = m i j) : Upto e v m' :=
  ⟨fun i hi => by rw [h i i hi hi]; exact U.self i hi, fun i j hi hj => by rw [h i j hi hj]; exact U.ge i j hi hj, fun i j hi hj => by rw [h i j hi hj]; exact U.le i j hi hj,
   fun i q j hi hq hj => by rw [h i j hi hj, h i q hi (by omega), h q j (by omega) hj]; exact U.tri i q j hi hq hj⟩
theorem eOf_range {c : Mat} (C : CostOk c) {i j : Nat} (hi : i < 4) (hj : j < 4) : 0 ≤ eOf c i j ∧ eOf c i j ≤ 262144 := by
  have := C.range i j hi hj
  unfold eOf far
  split
  · omega
  · split <;> omega
theorem rounds (k : Nat) {c : Mat} (C : CostOk c) : ∀ d v o, v + d = 4 → Upto (eOf c) v o → ∃ o', Upto (eOf c) 4 o' ∧ L2 (k + 1 + 26 * d) v o = some (tup o')
  | 0, v, o, h, U => ⟨o, by obtain rfl : v = 4 := by omega
                            exact U, by
      obtain rfl : v = 4 := by omega
      exact L2_end k o⟩
  | d + 1, v, o, h, U => by
    have S := C.steps
    have hv : v < 4 := by omega
    have B : Bd v o := ⟨U.self v hv, fun i j hi hj => ⟨Int.le_trans (W_nonneg S hi hj) (U.ge i j hi hj), Int.le_trans (U.le i j hi hj) (eOf_range C hi hj).2⟩⟩
    obtain ⟨o1, h1, e1⟩ := mid_all (k + 1 + 26 * d) hv B 4 0 o rfl (fun i j hi hj => by rw [if_neg (by omega)])
    have U1 := Upto.ext (by omega) (U.step S hv) h1
    obtain ⟨o', U', e'⟩ := rounds k C d (v + 1) o1 (by omega) U1
    refine ⟨o', U', ?_⟩
    rw [show k + 1 + 26 * (d + 1) = (k + 1 + 26 * d + 1 + 6 * 4) + 1 by omega, L2_step _ hv, e1, e']
/-- The least sums. -/
theorem sums_f (k : Nat) {c : Mat} (C : CostOk c) : paths_sums.f (k + 130) (c 0 0) (c 0 1) (c 0 2) (c 0 3) (c 1 0) (c 1 1) (c 1 2) (c 1 3) (c 2 0) (c 2 1) (c 2 2) (c 2 3) (c 3 0) (c 3 1) (c 3 2) (c 3 3) = some (tup (W (eOf c))) := by
  have S := C.steps
  obtain ⟨o, ho, e⟩ := fill_all (k + 105) c 4 0 (fun _ _ => 0) rfl (fun i j hi hj => by rw [if_neg (by omega)])
  have U0 := Upto.ext (by decide) (Upto.start S) ho
  obtain ⟨o', U', e'⟩ := rounds k C 4 0 o rfl U0
  unfold paths_sums.f
  show L0 (k + 105 + 1 + 6 * 4) 0 c (fun _ _ => 0) = _
  rw [e, e', tup_congr (fun i j hi hj => U'.done hi hj)]
end Go.Proofs.Ytjbejbehbjhecaa.L21
