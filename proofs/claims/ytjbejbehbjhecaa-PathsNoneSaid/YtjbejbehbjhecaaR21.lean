/- Paths: the routes from a router, told by the least sums. -/
import Derived.Test.YtjbejbehbjhecaaL21
namespace Go.Proofs.Ytjbejbehbjhecaa.L21
open Go.RowKit Go.Proofs.YtjbejbehbjhecaaW.PrintWords Go.Proofs.YtjbejbehbjhecaaW.PrintMore Go.Proofs.Ytjbejbehbjhecaa.Base Go.Proofs.Ytjbejbehbjhecaa.Q21
set_option linter.unusedVariables false
set_option linter.unusedSimpArgs false
set_option maxRecDepth 100000
abbrev ws (c : Mat) : Mat := fun i j => W (eOf c) i j
/-- Is a the first router of a least way from f to t? -/
def near (c : Mat) (f t a : Nat) : Bool := decide (0 < c f a ∧ c f a + ws c a t = ws c f t)
def sfx : Nat → List Nat
  | 0 => []
  | d + 1 => (3 - d) :: sfx d
def firsts (c : Mat) (f t d : Nat) : List Int := ((sfx d).filter (near c f t)).map (fun (a : Nat) => (a : Int) + 1)
def route (c : Mat) (f t : Nat) : Option S41 := if t = f ∨ 262144 ≤ ws c f t then none else some ⟨(t : Int) + 1, ws c f t, firsts c f t 4⟩
def routes (c : Mat) (f d : Nat) : List S41 := (sfx d).filterMap (route c f)
def R1 (k f t a : Nat) (out : List S41) (sum tt cost : Int) (fs : List Int) (c s : Mat) := paths_Routes.l1 k (f : Int) out (t : Int) sum (t : Int) (a : Int) (c 0 0) (c 0 1) (c 0 2) (c 0 3) (c 1 0) (c 1 1) (c 1 2) (c 1 3) (c 2 0) (c 2 1) (c 2 2) (c 2 3) (c 3 0) (c 3 1) (c 3 2) (c 3 3) (s 0 0) (s 0 1) (s 0 2) (s 0 3) (s 1 0) (s 1 1) (s 1 2) (s 1 3) (s 2 0) (s 2 1) (s 2 2) (s 2 3) (s 3 0) (s 3 1) (s 3 2) (s 3 3) tt cost fs (s f 0) (s f 1) (s f 2) (s f 3) (c f 0) (c f 1) (c f 2) (c f 3)
def R0 (k f t : Nat) (out : List S41) (c s : Mat) := paths_Routes.l0 k (f : Int) out (t : Int) (c 0 0) (c 0 1) (c 0 2) (c 0 3) (c 1 0) (c 1 1) (c 1 2) (c 1 3) (c 2 0) (c 2 1) (c 2 2) (c 2 3) (c 3 0) (c 3 1) (c 3 2) (c 3 3) (s 0 0) (s 0 1) (s 0 2) (s 0 3) (s 1 0) (s 1 1) (s 1 2) (s 1 3) (s 2 0) (s 2 1) (s 2 2) (s 2 3) (s 3 0) (s 3 1) (s 3 2) (s 3 3) (s f 0) (s f 1) (s f 2) (s f 3)
theorem R1_step (k : Nat) {f t a : Nat} (hf : f < 4) (ht : t < 4) (ha : a < 4) (out : List S41) (sum tt cost : Int) (fs : List Int) (hl : fs.length ≤ 4) {c s : Mat} (C : CostOk c) (hs : ∀ i j, i < 4 → j < 4 → 0 ≤ s i j ∧ s i j ≤ 262144) :
    R1 (k + 1) f t a out sum tt cost fs c s = R1 k f t (a + 1) out sum tt cost (if 0 < c f a ∧ c f a + s a t = sum then fs ++ [(a : Int) + 1] else fs) c s := by
  have r := C.range f a hf ha
  have q := hs a t ha ht
  unfold R1
  simp only [paths_Routes.l1]
  rw [if_pos (show ((a : Int) < 4) by omega), if_pos (show 0 ≤ (a : Int) by omega), next4 ha, row_at (fun j => c f j) ha]
  by_cases h : 0 < c f a
  · rw [if_pos (show c f a > 0 from h), if_pos (show 0 ≤ (t : Int) by omega), if_pos (show (t : Int) < 4 by omega), sel_at s ha ht, show wrap64 (c f a + s a t) = c f a + s a t by unfold wrap64; omega]
    by_cases h2 : c f a + s a t = sum
    · rw [if_pos h2, if_pos (show fs.length < 17592186044416 by omega), if_pos ⟨h, h2⟩]
      rfl
    · rw [if_neg h2, if_neg (fun z => h2 z.2)]
  · rw [if_neg (show ¬ c f a > 0 from h), if_neg (fun z => h z.1)]
theorem R1_end (k : Nat) {f t : Nat} (ht : t < 4) (out : List S41) (ho : out.length ≤ 4) (sum tt cost : Int) (fs : List Int) (c s : Mat) :
    R1 (k + 1) f t 4 out sum tt cost fs c s = R0 k f (t + 1) (out ++ [⟨tt, cost, fs⟩]) c s := by
  unfold R1 R0
  simp only [paths_Routes.l1]
  rw [if_neg (show ¬ (((4 : Nat) : Int) < 4) by decide), if_pos (show out.length < 3518437208883 by omega), next4 ht]
theorem R0_step (k : Nat) {f t : Nat} (hf : f < 4) (ht : t < 4) (out : List S41) (c s : Mat) :
    R0 (k + 2) f t out c s = if t = f ∨ 262144 ≤ s f t then R0 k f (t + 1) out c s else R1 k f t 0 out (s f t) ((t : Int) + 1) (s f t) [] c s := by
  have hj (b : Bool) : paths_Routes.j2 (k + 1) (f : Int) out (t : Int) (s f t) (t : Int) b (c 0 0) (c 0 1) (c 0 2) (c 0 3) (c 1 0) (c 1 1) (c 1 2) (c 1 3) (c 2 0) (c 2 1) (c 2 2) (c 2 3) (c 3 0) (c 3 1) (c 3 2) (c 3 3) (s 0 0) (s 0 1) (s 0 2) (s 0 3) (s 1 0) (s 1 1) (s 1 2) (s 1 3) (s 2 0) (s 2 1) (s 2 2) (s 2 3) (s 3 0) (s 3 1) (s 3 2) (s 3 3) (s f 0) (s f 1) (s f 2) (s f 3) = if b = true then R0 k f (t + 1) out c s else R1 k f t 0 out (s f t) ((t : Int) + 1) (s f t) [] c s := by
    simp only [paths_Routes.j2]
    rw [if_pos (show 0 ≤ (f : Int) by omega), if_pos (show (f : Int) < 4 by omega), next4 ht, row_at (fun i => c i 0) hf, row_at (fun i => c i 1) hf, row_at (fun i => c i 2) hf, row_at (fun i => c i 3) hf]
    rfl
  unfold R0
  simp only [paths_Routes.l0]
  rw [if_pos (show ((t : Int) < 4) by omega), if_pos (show 0 ≤ (t : Int) by omega), row_at (fun j => s f j) ht, hj, hj]
  by_cases h : t = f
  · rw [if_pos (show (t : Int) = (f : Int) by omega), if_pos rfl, if_pos (.inl h)]
    rfl
  · rw [if_neg (show ¬ (t : Int) = (f : Int) by omega)]
    by_cases h2 : 262144 ≤ s f t
    · rw [if_pos (by simpa using h2), if_pos (.inr h2)]
      rfl
    · rw [if_neg (by simpa using h2), if_neg (by omega)]
theorem R0_end (k f : Nat) (out : List S41) (c s : Mat) : R0 (k + 1) f 4 out c s = some (out, 0) := by
  unfold R0
  simp only [paths_Routes.l0]
  rw [if_neg (show ¬ (((4 : Nat) : Int) < 4) by decide)]
theorem ws_range {c : Mat} (C : CostOk c) {i j : Nat} (hi : i < 4) (hj : j < 4) : 0 ≤ ws c i j ∧ ws c i j ≤ 262144 :=
  ⟨W_nonneg C.steps hi hj, Int.le_trans (W_e C.steps hi hj) (eOf_range C hi hj).2⟩
theorem R1_all (k : Nat) {f t : Nat} (hf : f < 4) (ht : t < 4) (out : List S41) (ho : out.length ≤ 4) (tt cost : Int) {c : Mat} (C : CostOk c) :
    ∀ d a fs, a + d = 4 → fs.length ≤ a → R1 (k + 1 + d) f t a out (ws c f t) tt cost fs c (ws c) = R0 k f (t + 1) (out ++ [⟨tt, cost, fs ++ firsts c f t d⟩]) c (ws c)
  | 0, a, fs, h, hl => by
    obtain rfl : a = 4 := by omega
    rw [show firsts c f t 0 = [] from rfl, List.append_nil]
    exact R1_end k ht out ho _ _ _ _ _ _
  | d + 1, a, fs, h, hl => by
    have h1 := R1_step (k + 1 + d) hf ht (show a < 4 by omega) out (ws c f t) tt cost fs (by omega) C (fun i j hi hj => ws_range C hi hj)
    have hn : (if 0 < c f a ∧ c f a + ws c a t = ws c f t then fs ++ [(a : Int) + 1] else fs).length ≤ a + 1 := by
      split
      · rw [List.length_append]; show fs.length + 1 ≤ a + 1; omega
      · omega
    have h2 := R1_all k hf ht out ho tt cost C d (a + 1) (if 0 < c f a ∧ c f a + ws c a t = ws c f t then fs ++ [(a : Int) + 1] else fs) (by omega) hn
    refine (h1.trans h2).trans ?_
    congr 4
    obtain rfl : a = 3 - d := by omega
    unfold firsts
    rw [show sfx (d + 1) = (3 - d) :: sfx d from rfl, List.filter_cons]
    by_cases hn : near c f t (3 - d) = true
    · rw [if_pos hn, if_pos (of_decide_eq_true hn)]
      simp
    · rw [if_neg hn, if_neg (fun z => hn (decide_eq_true z))]
theorem routes_len (c : Mat) (f d : Nat) : (routes c f d).length ≤ d := by
  unfold routes
  refine Nat.le_trans (List.length_filterMap_le _ _) ?_
  induction d with
  | zero => exact Nat.le_refl _
  | succ d ih => show (sfx d).length + 1 ≤ d + 1; omega
theorem R0_all {f : Nat} (hf : f < 4) {c : Mat} (C : CostOk c) : ∀ d t out k, t + d = 4 → out.length ≤ t → 1 + 7 * d ≤ k → R0 k f t out c (ws c) = some (out ++ routes c f d, 0)
  | 0, t, out, k, h, ho, hk => by
    obtain rfl : t = 4 := by omega
    obtain ⟨k, rfl⟩ : ∃ q, k = q + 1 := ⟨k - 1, by omega⟩
    rw [show routes c f 0 = [] from rfl, List.append_nil]
    exact R0_end k f out c _
  | d + 1, t, out, k, h, ho, hk => by
    obtain ⟨k, rfl⟩ : ∃ q, k = q + 7 := ⟨k - 7, by omega⟩
    have ht : t < 4 := by omega
    have h1 := R0_step (k + 5) hf ht out c (ws c)
    have hr : routes c f (d + 1) = match route c f t with | none => routes c f d | some x => x :: routes c f d := by
      obtain rfl : t = 3 - d := by omega
      unfold routes
      rw [show sfx (d + 1) = (3 - d) :: sfx d from rfl, List.filterMap_cons]
      cases route c f (3 - d) <;> rfl
    rw [show k + 7 = k + 5 + 2 from rfl, h1, hr]
    unfold route
    by_cases hb : t = f ∨ 262144 ≤ ws c f t
    · rw [if_pos hb, if_pos hb]
      exact R0_all hf C d (t + 1) out (k + 5) (by omega) (by omega) (by omega)
    · rw [if_neg hb, if_neg hb]
      have h2 := R1_all k hf ht out (by omega) ((t : Int) + 1) (ws c f t) C 4 0 [] rfl (by simp)
      rw [show k + 5 = k + 1 + 4 from rfl, h2, List.nil_append, R0_all hf C d (t + 1) _ k (by omega) (by simp; omega) (by omega), List.append_assoc]
      rfl
/-- What Routes answers. -/
def ans (c : Mat) (a : Int) : List S41 × Int := if okM c = true ∧ 1 ≤ a ∧ a ≤ 4 then (routes c (a - 1).toNat 4, 0) else ([], 2100)
theorem Router_f (a : Int) : lsa_Router.f a = some (decide (1 ≤ a ∧ a ≤ 4)) := by
  unfold lsa_Router.f
  by_cases h : a ≥ 1
  · rw [if_pos h]; congr 1; simp; intro _; omega
  · rw [if_neg h]; congr 1; simp; omega
theorem Routes_f (k : Nat) (c : Mat) (a : Int) : paths_Routes.f (k + 200) (c 0 0) (c 0 1) (c 0 2) (c 0 3) (c 1 0) (c 1 1) (c 1 2) (c 1 3) (c 2 0) (c 2 1) (c 2 2) (c 2 3) (c 3 0) (c 3 1) (c 3 2) (c 3 3) a = some (ans c a) := by
  unfold paths_Routes.f ans
  rw [show k + 200 = (k + 175) + 25 from rfl, May_f (k + 175), Router_f]
  have bad : paths_Routes.j0 (k + 175 + 25) a true (c 0 0) (c 0 1) (c 0 2) (c 0 3) (c 1 0) (c 1 1) (c 1 2) (c 1 3) (c 2 0) (c 2 1) (c 2 2) (c 2 3) (c 3 0) (c 3 1) (c 3 2) (c 3 3) = some ([], 2100) := by
    rw [show k + 175 + 25 = (k + 199) + 1 from rfl]; simp only [paths_Routes.j0]; rw [if_pos trivial]
  show (if okM c = true then (paths_Routes.j0 (k + 175 + 25) a (!decide (1 ≤ a ∧ a ≤ 4)) (c 0 0) (c 0 1) (c 0 2) (c 0 3) (c 1 0) (c 1 1) (c 1 2) (c 1 3) (c 2 0) (c 2 1) (c 2 2) (c 2 3) (c 3 0) (c 3 1) (c 3 2) (c 3 3)) else paths_Routes.j0 (k + 175 + 25) a true (c 0 0) (c 0 1) (c 0 2) (c 0 3) (c 1 0) (c 1 1) (c 1 2) (c 1 3) (c 2 0) (c 2 1) (c 2 2) (c 2 3) (c 3 0) (c 3 1) (c 3 2) (c 3 3)) = _
  by_cases ho : okM c = true
  · rw [if_pos ho]
    by_cases hr : 1 ≤ a ∧ a ≤ 4
    · rw [if_pos ⟨ho, hr⟩, show (!decide (1 ≤ a ∧ a ≤ 4)) = false by simp [hr]]
      have C := (okM_iff c).1 ho
      rw [show k + 175 + 25 = (k + 199) + 1 from rfl]
      simp only [paths_Routes.j0]
      rw [if_neg (by decide), show k + 199 = (k + 69) + 130 from rfl, sums_f (k + 69) C]
      obtain ⟨f, hf, rfl⟩ : ∃ f : Nat, f < 4 ∧ a = (f : Int) + 1 := ⟨(a - 1).toNat, by omega, by omega⟩
      rw [show wrap64 ((f : Int) + 1 - 1) = (f : Int) by unfold wrap64; omega, show ((f : Int) + 1 - 1).toNat = f by omega]
      simp only [Option.bind_some, tup]
      rw [if_pos (show 0 ≤ (f : Int) by omega), if_pos (show (f : Int) < 4 by omega), row_at (fun i => W (eOf c) i 0) hf, row_at (fun i => W (eOf c) i 1) hf, row_at (fun i => W (eOf c) i 2) hf, row_at (fun i => W (eOf c) i 3) hf]
      exact R0_all hf C 4 0 [] _ rfl (by simp) (by omega)
    · rw [if_neg (fun z => hr z.2), show (!decide (1 ≤ a ∧ a ≤ 4)) = true by simp only [Bool.not_eq_true', decide_eq_false_iff_not]; exact hr]
      exact bad
  · rw [if_neg ho, if_neg (fun z => ho z.1)]
    exact bad
end Go.Proofs.Ytjbejbehbjhecaa.L21
