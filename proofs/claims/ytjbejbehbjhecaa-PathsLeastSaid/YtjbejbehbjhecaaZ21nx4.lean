/- Written by a program of this session (out of what the print wrote for this seat): the functions' walks, packed. -/
import Derived.Test.YtjbejbehbjhecaaZ21nx3
namespace Go.Proofs.Ytjbejbehbjhecaa.L21
open Go.RowKit Go.Proofs.YtjbejbehbjhecaaW.PrintWords Go.Proofs.YtjbejbehbjhecaaW.PrintMore Go.Proofs.Ytjbejbehbjhecaa.Base Go.Proofs.Ytjbejbehbjhecaa.Q21n
set_option linter.unusedVariables false
set_option linter.unusedSimpArgs false
set_option maxRecDepth 100000
abbrev R20 := Int × Int × Int × Int × Bool × Bool × Bool × Bool × Bool × Bool × Bool × Bool × Bool × Bool × Bool × Bool × Bool × Bool × Bool × Bool
def tup20 (B : Nat → Int) (F : Nat → Nat → Bool) : R20 := (B 0, B 1, B 2, B 3, F 0 0, F 0 1, F 0 2, F 0 3, F 1 0, F 1 1, F 1 2, F 1 3, F 2 0, F 2 1, F 2 2, F 2 3, F 3 0, F 3 1, F 3 2, F 3 3)
def WL (k f n : Nat) (c : Mat) (B : Nat → Int) (F : Nat → Nat → Bool) := watchwordlaw21_ways.l1 k (f : Int) (n : Int) (c 0 0) (c 0 1) (c 0 2) (c 0 3) (c 1 0) (c 1 1) (c 1 2) (c 1 3) (c 2 0) (c 2 1) (c 2 2) (c 2 3) (c 3 0) (c 3 1) (c 3 2) (c 3 3) (B 0) (B 1) (B 2) (B 3) (F 0 0) (F 0 1) (F 0 2) (F 0 3) (F 1 0) (F 1 1) (F 1 2) (F 1 3) (F 2 0) (F 2 1) (F 2 2) (F 2 3) (F 3 0) (F 3 1) (F 3 2) (F 3 3)
theorem b_at (B : Nat → Int) (d : Nat) (s : Int) (q : Nat) : up (((d : Nat) : Int) == ((q : Nat) : Int)) s (B q) = upd B d s q := by
  unfold up upd
  by_cases h : q = d
  · subst h; simp
  · rw [if_neg h, if_neg]; simp only [beq_iff_eq]; omega
theorem f_at (F : Nat → Nat → Bool) (d a i j : Nat) : up (((d : Nat) : Int) == ((i : Nat) : Int) && ((a : Nat) : Int) == ((j : Nat) : Int)) true (up (((d : Nat) : Int) == ((i : Nat) : Int)) false (F i j)) = updB F d (fun j => decide (j = a)) i j := by
  unfold up updB
  by_cases h : i = d
  · subst h
    by_cases h2 : j = a
    · subst h2; simp
    · rw [if_pos rfl, if_neg, if_pos (by simp)]
      · exact (decide_eq_false h2).symm
      · simp only [Bool.and_eq_true, beq_iff_eq, not_and]; omega
  · rw [if_neg h, if_neg, if_neg]
    · simp only [beq_iff_eq]; omega
    · simp only [Bool.and_eq_true, beq_iff_eq, not_and]; omega
theorem g_at (F : Nat → Nat → Bool) (d a i j : Nat) : up (((d : Nat) : Int) == ((i : Nat) : Int) && ((a : Nat) : Int) == ((j : Nat) : Int)) true (F i j) = updB F d (fun j => F d j || decide (j = a)) i j := by
  unfold up updB
  by_cases h : i = d
  · subst h
    by_cases h2 : j = a
    · subst h2; simp
    · rw [if_pos rfl, if_neg]
      · show F i j = (F i j || decide (j = a))
        rw [decide_eq_false h2, Bool.or_false]
      · simp only [Bool.and_eq_true, beq_iff_eq, not_and]; omega
  · rw [if_neg h, if_neg]
    simp only [Bool.and_eq_true, beq_iff_eq, not_and]; omega
theorem b_all (B : Nat → Int) (d : Nat) (s : Int) : up (((d : Nat) : Int) == 0) s (B 0) = upd B d s 0 ∧ up (((d : Nat) : Int) == 1) s (B 1) = upd B d s 1 ∧ up (((d : Nat) : Int) == 2) s (B 2) = upd B d s 2 ∧ up (((d : Nat) : Int) == 3) s (B 3) = upd B d s 3 := ⟨b_at B d s 0, b_at B d s 1, b_at B d s 2, b_at B d s 3⟩
theorem f_all (F : Nat → Nat → Bool) (d a : Nat) : up (((d : Nat) : Int) == 0 && ((a : Nat) : Int) == 0) true (up (((d : Nat) : Int) == 0) false (F 0 0)) = updB F d (fun j => decide (j = a)) 0 0 ∧ up (((d : Nat) : Int) == 0 && ((a : Nat) : Int) == 1) true (up (((d : Nat) : Int) == 0) false (F 0 1)) = updB F d (fun j => decide (j = a)) 0 1 ∧ up (((d : Nat) : Int) == 0 && ((a : Nat) : Int) == 2) true (up (((d : Nat) : Int) == 0) false (F 0 2)) = updB F d (fun j => decide (j = a)) 0 2 ∧ up (((d : Nat) : Int) == 0 && ((a : Nat) : Int) == 3) true (up (((d : Nat) : Int) == 0) false (F 0 3)) = updB F d (fun j => decide (j = a)) 0 3 ∧ up (((d : Nat) : Int) == 1 && ((a : Nat) : Int) == 0) true (up (((d : Nat) : Int) == 1) false (F 1 0)) = updB F d (fun j => decide (j = a)) 1 0 ∧ up (((d : Nat) : Int) == 1 && ((a : Nat) : Int) == 1) true (up (((d : Nat) : Int) == 1) false (F 1 1)) = updB F d (fun j => decide (j = a)) 1 1 ∧ up (((d : Nat) : Int) == 1 && ((a : Nat) : Int) == 2) true (up (((d : Nat) : Int) == 1) false (F 1 2)) = updB F d (fun j => decide (j = a)) 1 2 ∧ up (((d : Nat) : Int) == 1 && ((a : Nat) : Int) == 3) true (up (((d : Nat) : Int) == 1) false (F 1 3)) = updB F d (fun j => decide (j = a)) 1 3 ∧ up (((d : Nat) : Int) == 2 && ((a : Nat) : Int) == 0) true (up (((d : Nat) : Int) == 2) false (F 2 0)) = updB F d (fun j => decide (j = a)) 2 0 ∧ up (((d : Nat) : Int) == 2 && ((a : Nat) : Int) == 1) true (up (((d : Nat) : Int) == 2) false (F 2 1)) = updB F d (fun j => decide (j = a)) 2 1 ∧ up (((d : Nat) : Int) == 2 && ((a : Nat) : Int) == 2) true (up (((d : Nat) : Int) == 2) false (F 2 2)) = updB F d (fun j => decide (j = a)) 2 2 ∧ up (((d : Nat) : Int) == 2 && ((a : Nat) : Int) == 3) true (up (((d : Nat) : Int) == 2) false (F 2 3)) = updB F d (fun j => decide (j = a)) 2 3 ∧ up (((d : Nat) : Int) == 3 && ((a : Nat) : Int) == 0) true (up (((d : Nat) : Int) == 3) false (F 3 0)) = updB F d (fun j => decide (j = a)) 3 0 ∧ up (((d : Nat) : Int) == 3 && ((a : Nat) : Int) == 1) true (up (((d : Nat) : Int) == 3) false (F 3 1)) = updB F d (fun j => decide (j = a)) 3 1 ∧ up (((d : Nat) : Int) == 3 && ((a : Nat) : Int) == 2) true (up (((d : Nat) : Int) == 3) false (F 3 2)) = updB F d (fun j => decide (j = a)) 3 2 ∧ up (((d : Nat) : Int) == 3 && ((a : Nat) : Int) == 3) true (up (((d : Nat) : Int) == 3) false (F 3 3)) = updB F d (fun j => decide (j = a)) 3 3 := ⟨f_at F d a 0 0, f_at F d a 0 1, f_at F d a 0 2, f_at F d a 0 3, f_at F d a 1 0, f_at F d a 1 1, f_at F d a 1 2, f_at F d a 1 3, f_at F d a 2 0, f_at F d a 2 1, f_at F d a 2 2, f_at F d a 2 3, f_at F d a 3 0, f_at F d a 3 1, f_at F d a 3 2, f_at F d a 3 3⟩
theorem g_all (F : Nat → Nat → Bool) (d a : Nat) : up (((d : Nat) : Int) == 0 && ((a : Nat) : Int) == 0) true (F 0 0) = updB F d (fun j => F d j || decide (j = a)) 0 0 ∧ up (((d : Nat) : Int) == 0 && ((a : Nat) : Int) == 1) true (F 0 1) = updB F d (fun j => F d j || decide (j = a)) 0 1 ∧ up (((d : Nat) : Int) == 0 && ((a : Nat) : Int) == 2) true (F 0 2) = updB F d (fun j => F d j || decide (j = a)) 0 2 ∧ up (((d : Nat) : Int) == 0 && ((a : Nat) : Int) == 3) true (F 0 3) = updB F d (fun j => F d j || decide (j = a)) 0 3 ∧ up (((d : Nat) : Int) == 1 && ((a : Nat) : Int) == 0) true (F 1 0) = updB F d (fun j => F d j || decide (j = a)) 1 0 ∧ up (((d : Nat) : Int) == 1 && ((a : Nat) : Int) == 1) true (F 1 1) = updB F d (fun j => F d j || decide (j = a)) 1 1 ∧ up (((d : Nat) : Int) == 1 && ((a : Nat) : Int) == 2) true (F 1 2) = updB F d (fun j => F d j || decide (j = a)) 1 2 ∧ up (((d : Nat) : Int) == 1 && ((a : Nat) : Int) == 3) true (F 1 3) = updB F d (fun j => F d j || decide (j = a)) 1 3 ∧ up (((d : Nat) : Int) == 2 && ((a : Nat) : Int) == 0) true (F 2 0) = updB F d (fun j => F d j || decide (j = a)) 2 0 ∧ up (((d : Nat) : Int) == 2 && ((a : Nat) : Int) == 1) true (F 2 1) = updB F d (fun j => F d j || decide (j = a)) 2 1 ∧ up (((d : Nat) : Int) == 2 && ((a : Nat) : Int) == 2) true (F 2 2) = updB F d (fun j => F d j || decide (j = a)) 2 2 ∧ up (((d : Nat) : Int) == 2 && ((a : Nat) : Int) == 3) true (F 2 3) = updB F d (fun j => F d j || decide (j = a)) 2 3 ∧ up (((d : Nat) : Int) == 3 && ((a : Nat) : Int) == 0) true (F 3 0) = updB F d (fun j => F d j || decide (j = a)) 3 0 ∧ up (((d : Nat) : Int) == 3 && ((a : Nat) : Int) == 1) true (F 3 1) = updB F d (fun j => F d j || decide (j = a)) 3 1 ∧ up (((d : Nat) : Int) == 3 && ((a : Nat) : Int) == 2) true (F 3 2) = updB F d (fun j => F d j || decide (j = a)) 3 2 ∧ up (((d : Nat) : Int) == 3 && ((a : Nat) : Int) == 3) true (F 3 3) = updB F d (fun j => F d j || decide (j = a)) 3 3 := ⟨g_at F d a 0 0, g_at F d a 0 1, g_at F d a 0 2, g_at F d a 0 3, g_at F d a 1 0, g_at F d a 1 1, g_at F d a 1 2, g_at F d a 1 3, g_at F d a 2 0, g_at F d a 2 1, g_at F d a 2 2, g_at F d a 2 3, g_at F d a 3 0, g_at F d a 3 1, g_at F d a 3 2, g_at F d a 3 3⟩
theorem j5_at (k : Nat) {f n a d : Nat} (ha : a < 4) (hd : d < 4) (hn : n < 64) (s : Int) (c : Mat) (B : Nat → Int) (F : Nat → Nat → Bool) :
    watchwordlaw21_ways.j5 (k + 1) (f : Int) (n : Int) (a : Int) (d : Int) s (decide (B d < 0 ∨ s < B d)) (c 0 0) (c 0 1) (c 0 2) (c 0 3) (c 1 0) (c 1 1) (c 1 2) (c 1 3) (c 2 0) (c 2 1) (c 2 2) (c 2 3) (c 3 0) (c 3 1) (c 3 2) (c 3 3) (B 0) (B 1) (B 2) (B 3) (F 0 0) (F 0 1) (F 0 2) (F 0 3) (F 1 0) (F 1 1) (F 1 2) (F 1 3) (F 2 0) (F 2 1) (F 2 2) (F 2 3) (F 3 0) (F 3 1) (F 3 2) (F 3 3) = WL k f (n + 1) c (B1 B d s) (F1 B F a d s) := by
  simp only [watchwordlaw21_ways.j5]
  have en : wrap64 ((n : Int) + 1) = ((n + 1 : Nat) : Int) := by unfold wrap64; omega
  obtain ⟨b0, b1, b2, b3⟩ := b_all B d s
  unfold WL B1 F1
  by_cases h : B d < 0 ∨ s < B d
  · rw [if_pos (decide_eq_true h), if_pos (show 0 ≤ (d : Int) by omega), if_pos (show (d : Int) < 4 by omega), b0, b1, b2, b3, row_at (upd B d s) hd, show upd B d s d = s by unfold upd; rw [if_pos rfl], if_pos rfl, if_pos (show 0 ≤ (a : Int) by omega), if_pos (show (a : Int) < 4 by omega), en, if_pos h, if_pos h]
    obtain ⟨f0, f1, f2, f3, f4, f5, f6, f7, f8, f9, f10, f11, f12, f13, f14, f15⟩ := f_all F d a
    rw [f0, f1, f2, f3, f4, f5, f6, f7, f8, f9, f10, f11, f12, f13, f14, f15]
  · rw [if_neg (by simpa using h), if_pos (show 0 ≤ (d : Int) by omega), if_pos (show (d : Int) < 4 by omega), row_at B hd, en, if_neg h, if_neg h]
    by_cases h2 : s = B d
    · rw [if_pos h2, if_pos h2, if_pos (show 0 ≤ (a : Int) by omega), if_pos (show (a : Int) < 4 by omega)]
      obtain ⟨g0, g1, g2, g3, g4, g5, g6, g7, g8, g9, g10, g11, g12, g13, g14, g15⟩ := g_all F d a
      rw [g0, g1, g2, g3, g4, g5, g6, g7, g8, g9, g10, g11, g12, g13, g14, g15]
    · rw [if_neg h2, if_neg h2]
theorem j4_at (k : Nat) {f n a d : Nat} (ha : a < 4) (hd : d < 4) (hn : n < 64) (s : Int) (c : Mat) (B : Nat → Int) (F : Nat → Nat → Bool) :
    watchwordlaw21_ways.j4 (k + 2) (f : Int) (n : Int) (a : Int) (d : Int) s (c 0 0) (c 0 1) (c 0 2) (c 0 3) (c 1 0) (c 1 1) (c 1 2) (c 1 3) (c 2 0) (c 2 1) (c 2 2) (c 2 3) (c 3 0) (c 3 1) (c 3 2) (c 3 3) (B 0) (B 1) (B 2) (B 3) (F 0 0) (F 0 1) (F 0 2) (F 0 3) (F 1 0) (F 1 1) (F 1 2) (F 1 3) (F 2 0) (F 2 1) (F 2 2) (F 2 3) (F 3 0) (F 3 1) (F 3 2) (F 3 3) = WL k f (n + 1) c (B1 B d s) (F1 B F a d s) := by
  rw [← j5_at k ha hd hn]
  simp only [watchwordlaw21_ways.j4]
  rw [if_pos (show 0 ≤ (d : Int) by omega), if_pos (show (d : Int) < 4 by omega), row_at B hd]
  by_cases h : B d < 0
  · rw [if_pos h, show decide (B d < 0 ∨ s < B d) = true from decide_eq_true (.inl h)]
  · rw [if_neg h, show decide (B d < 0 ∨ s < B d) = decide (s < B d) from decide_eq_decide.2 ⟨fun z => z.resolve_left h, .inr⟩]
theorem j2_take (k : Nat) {f n a b d : Nat} (hf : f < 4) (ha : a < 4) (hb : b < 4) (hd : d < 4) (hn : n < 64) {c : Mat} (C : CostOk c) (hv : Val c f a b d) (B : Nat → Int) (F : Nat → Nat → Bool) :
    watchwordlaw21_ways.j2 (k + 4) (f : Int) (n : Int) (a : Int) (b : Int) (d : Int) false (c 0 0) (c 0 1) (c 0 2) (c 0 3) (c 1 0) (c 1 1) (c 1 2) (c 1 3) (c 2 0) (c 2 1) (c 2 2) (c 2 3) (c 3 0) (c 3 1) (c 3 2) (c 3 3) (B 0) (B 1) (B 2) (B 3) (F 0 0) (F 0 1) (F 0 2) (F 0 3) (F 1 0) (F 1 1) (F 1 2) (F 1 3) (F 2 0) (F 2 1) (F 2 2) (F 2 3) (F 3 0) (F 3 1) (F 3 2) (F 3 3) = WL k f (n + 1) c (B1 B d (sm c f a b d)) (F1 B F a d (sm c f a b d)) := by
  have r1 := C.range f a hf ha
  have r2 := C.range a b ha hb
  have r3 := C.range b d hb hd
  obtain ⟨v1, v2, v3, v4⟩ := hv
  have e1 := (eOf_c C hf v2).1
  have S := C.steps
  have h3 : ∀ x : Int, x = eOf c f a + eOf c a b → watchwordlaw21_ways.j3 (k + 3) (f : Int) (n : Int) (a : Int) (b : Int) (d : Int) x (c 0 0) (c 0 1) (c 0 2) (c 0 3) (c 1 0) (c 1 1) (c 1 2) (c 1 3) (c 2 0) (c 2 1) (c 2 2) (c 2 3) (c 3 0) (c 3 1) (c 3 2) (c 3 3) (B 0) (B 1) (B 2) (B 3) (F 0 0) (F 0 1) (F 0 2) (F 0 3) (F 1 0) (F 1 1) (F 1 2) (F 1 3) (F 2 0) (F 2 1) (F 2 2) (F 2 3) (F 3 0) (F 3 1) (F 3 2) (F 3 3) = WL k f (n + 1) c (B1 B d (sm c f a b d)) (F1 B F a d (sm c f a b d)) := by
    intro x hx
    rw [← j4_at k ha hd hn]
    simp only [watchwordlaw21_ways.j3]
    by_cases h : d = b
    · rw [if_pos (show (d : Int) = (b : Int) by omega)]
      have : x = sm c f a b d := by unfold sm; rw [h, S.self b hb]; omega
      rw [this]
    · have e3 := (eOf_c C hb (v4.resolve_left h)).1
      have hlo : 0 ≤ x ∧ x ≤ 131070 := by
        rcases v3 with rfl | v3
        · rw [S.self b hb] at hx; omega
        · have := (eOf_c C ha v3).1; omega
      rw [if_neg (show ¬ (d : Int) = (b : Int) by omega), if_pos (show 0 ≤ (b : Int) by omega), if_pos (show (b : Int) < 4 by omega), if_pos (show 0 ≤ (d : Int) by omega), if_pos (show (d : Int) < 4 by omega), sel_at c hb hd,
        show wrap64 (x + c b d) = x + c b d by unfold wrap64; omega]
      have : x + c b d = sm c f a b d := by unfold sm; omega
      rw [this]
  simp only [watchwordlaw21_ways.j2]
  rw [if_neg (by decide), if_pos (show 0 ≤ (f : Int) by omega), if_pos (show (f : Int) < 4 by omega), if_pos (show 0 ≤ (a : Int) by omega), if_pos (show (a : Int) < 4 by omega), sel_at c hf ha]
  by_cases h : b = a
  · rw [if_pos (show (b : Int) = (a : Int) by omega)]
    exact h3 _ (by rw [h, S.self a ha]; omega)
  · have e2 := (eOf_c C ha (v3.resolve_left h)).1
    rw [if_neg (show ¬ (b : Int) = (a : Int) by omega), if_pos (show 0 ≤ (b : Int) by omega), if_pos (show (b : Int) < 4 by omega), sel_at c ha hb, show wrap64 (c f a + c a b) = c f a + c a b by unfold wrap64; omega]
    exact h3 _ (by omega)
theorem j2_skip (k : Nat) {f n : Nat} (hn : n < 64) (a b d : Int) (c : Mat) (B : Nat → Int) (F : Nat → Nat → Bool) : watchwordlaw21_ways.j2 (k + 1) (f : Int) (n : Int) a b d true (c 0 0) (c 0 1) (c 0 2) (c 0 3) (c 1 0) (c 1 1) (c 1 2) (c 1 3) (c 2 0) (c 2 1) (c 2 2) (c 2 3) (c 3 0) (c 3 1) (c 3 2) (c 3 3) (B 0) (B 1) (B 2) (B 3) (F 0 0) (F 0 1) (F 0 2) (F 0 3) (F 1 0) (F 1 1) (F 1 2) (F 1 3) (F 2 0) (F 2 1) (F 2 2) (F 2 3) (F 3 0) (F 3 1) (F 3 2) (F 3 3) = WL k f (n + 1) c B F := by
  simp only [watchwordlaw21_ways.j2]
  rw [if_pos trivial, show wrap64 ((n : Int) + 1) = ((n + 1 : Nat) : Int) by unfold wrap64; omega]
  rfl
theorem l1_at (k : Nat) {f a b d : Nat} (hf : f < 4) (ha : a < 4) (hb : b < 4) (hd : d < 4) (c : Mat) (B : Nat → Int) (F : Nat → Nat → Bool) [Decidable (Val c f a b d)] :
    WL (k + 1) f (at3 a b d) c B F = watchwordlaw21_ways.j2 k (f : Int) ((at3 a b d : Nat) : Int) (a : Int) (b : Int) (d : Int) (!decide (Val c f a b d)) (c 0 0) (c 0 1) (c 0 2) (c 0 3) (c 1 0) (c 1 1) (c 1 2) (c 1 3) (c 2 0) (c 2 1) (c 2 2) (c 2 3) (c 3 0) (c 3 1) (c 3 2) (c 3 3) (B 0) (B 1) (B 2) (B 3) (F 0 0) (F 0 1) (F 0 2) (F 0 3) (F 1 0) (F 1 1) (F 1 2) (F 1 3) (F 2 0) (F 2 1) (F 2 2) (F 2 3) (F 3 0) (F 3 1) (F 3 2) (F 3 3) := by
  unfold WL
  simp only [watchwordlaw21_ways.l1]
  rw [show Go.bits .and .i64 ((at3 a b d : Nat) : Int) 3 = (a : Int) from (and_mask 2 (by decide) _).trans (by unfold at3; omega), show Go.bits .and .i64 (((at3 a b d : Nat) : Int) / 4) 3 = (b : Int) from (and_mask 2 (by decide) _).trans (by unfold at3; omega),
    show ((at3 a b d : Nat) : Int) / 16 = (d : Int) by unfold at3; omega, if_pos (show ((at3 a b d : Nat) : Int) < 64 by unfold at3; omega)]
  rw [if_pos (show 0 ≤ (f : Int) by omega), if_pos (show (f : Int) < 4 by omega), if_pos (show 0 ≤ (a : Int) by omega), if_pos (show (a : Int) < 4 by omega), sel_at c hf ha]
  have Hb0 : 0 ≤ (b : Int) := by omega
  have Hb4 : (b : Int) < 4 := by omega
  have Hd0 : 0 ≤ (d : Int) := by omega
  have Hd4 : (d : Int) < 4 := by omega
  simp only [if_pos Hb0, if_pos Hb4, if_pos Hd0, if_pos Hd4, sel_at c ha hb, sel_at c hb hd]
  by_cases h1 : a = f
  · rw [if_pos (show (a : Int) = (f : Int) by omega), show (!decide (Val c f a b d)) = true by simp; intro z; exact absurd h1 z.1]
  · rw [if_neg (show ¬ (a : Int) = (f : Int) by omega)]
    by_cases h2 : c f a ≤ 0
    · rw [if_pos h2, show (!decide (Val c f a b d)) = true by simp; intro z; have := z.2.1; omega]
    · rw [if_neg h2]
      have last (hbb : b = a ∨ 0 < c a b) : (if (d : Int) = (b : Int) then watchwordlaw21_ways.j2 k (f : Int) ((at3 a b d : Nat) : Int) (a : Int) (b : Int) (d : Int) false (c 0 0) (c 0 1) (c 0 2) (c 0 3) (c 1 0) (c 1 1) (c 1 2) (c 1 3) (c 2 0) (c 2 1) (c 2 2) (c 2 3) (c 3 0) (c 3 1) (c 3 2) (c 3 3) (B 0) (B 1) (B 2) (B 3) (F 0 0) (F 0 1) (F 0 2) (F 0 3) (F 1 0) (F 1 1) (F 1 2) (F 1 3) (F 2 0) (F 2 1) (F 2 2) (F 2 3) (F 3 0) (F 3 1) (F 3 2) (F 3 3) else watchwordlaw21_ways.j2 k (f : Int) ((at3 a b d : Nat) : Int) (a : Int) (b : Int) (d : Int) (decide (c b d ≤ 0)) (c 0 0) (c 0 1) (c 0 2) (c 0 3) (c 1 0) (c 1 1) (c 1 2) (c 1 3) (c 2 0) (c 2 1) (c 2 2) (c 2 3) (c 3 0) (c 3 1) (c 3 2) (c 3 3) (B 0) (B 1) (B 2) (B 3) (F 0 0) (F 0 1) (F 0 2) (F 0 3) (F 1 0) (F 1 1) (F 1 2) (F 1 3) (F 2 0) (F 2 1) (F 2 2) (F 2 3) (F 3 0) (F 3 1) (F 3 2) (F 3 3)) = watchwordlaw21_ways.j2 k (f : Int) ((at3 a b d : Nat) : Int) (a : Int) (b : Int) (d : Int) (!decide (Val c f a b d)) (c 0 0) (c 0 1) (c 0 2) (c 0 3) (c 1 0) (c 1 1) (c 1 2) (c 1 3) (c 2 0) (c 2 1) (c 2 2) (c 2 3) (c 3 0) (c 3 1) (c 3 2) (c 3 3) (B 0) (B 1) (B 2) (B 3) (F 0 0) (F 0 1) (F 0 2) (F 0 3) (F 1 0) (F 1 1) (F 1 2) (F 1 3) (F 2 0) (F 2 1) (F 2 2) (F 2 3) (F 3 0) (F 3 1) (F 3 2) (F 3 3) := by
        by_cases h4 : d = b
        · rw [if_pos (show (d : Int) = (b : Int) by omega), show (!decide (Val c f a b d)) = false by simp; exact ⟨h1, by omega, hbb, .inl h4⟩]
        · rw [if_neg (show ¬ (d : Int) = (b : Int) by omega)]
          by_cases h5 : c b d ≤ 0
          · rw [decide_eq_true h5, show (!decide (Val c f a b d)) = true by simp; intro z; have := z.2.2.2.resolve_left h4; omega]
          · rw [decide_eq_false h5, show (!decide (Val c f a b d)) = false by simp; exact ⟨h1, by omega, hbb, .inr (by omega)⟩]
      by_cases h3 : b = a
      · rw [if_pos (show (b : Int) = (a : Int) by omega)]
        exact last (.inl h3)
      · rw [if_neg (show ¬ (b : Int) = (a : Int) by omega)]
        by_cases h5 : c a b ≤ 0
        · rw [if_pos h5, show (!decide (Val c f a b d)) = true by simp; intro z; have := z.2.2.1.resolve_left h3; omega]
        · rw [if_neg h5]
          exact last (.inr (by omega))
theorem WL_all {f : Nat} (hf : f < 4) {c : Mat} (C : CostOk c) : ∀ q n k B F, n + q = 64 → 1 + 6 * q ≤ k → WI c f n B F → ∃ B' F', WI c f 64 B' F' ∧ WL k f n c B F = some (tup20 B' F')
  | 0, n, k, B, F, h, hk, W => by
    obtain rfl : n = 64 := by omega
    obtain ⟨k, rfl⟩ : ∃ m, k = m + 1 := ⟨k - 1, by omega⟩
    refine ⟨B, F, W, ?_⟩
    unfold WL
    simp only [watchwordlaw21_ways.l1]
    rw [if_neg (show ¬ (((64 : Nat) : Int) < 64) by decide)]
    rfl
  | q + 1, n, k, B, F, h, hk, W => by
    obtain ⟨k, rfl⟩ : ∃ m, k = m + 5 := ⟨k - 5, by omega⟩
    obtain ⟨a, b, d, ha, hb, hd, rfl⟩ : ∃ a b d, a < 4 ∧ b < 4 ∧ d < 4 ∧ n = at3 a b d := ⟨n % 4, n / 4 % 4, n / 16, by omega, by omega, by omega, by unfold at3; omega⟩
    have hn : at3 a b d < 64 := by unfold at3; omega
    rcases Classical.em (Val c f a b d) with hv | hv
    · have h0 : 0 ≤ sm c f a b d := by
        have S := C.steps
        have := S.nonneg f a hf ha; have := S.nonneg a b ha hb; have := S.nonneg b d hb hd
        unfold sm; omega
      have e := @l1_at (k + 4) f a b d hf ha hb hd c B F (isTrue hv)
      rw [show (!@decide (Val c f a b d) (isTrue hv)) = false from rfl, j2_take k hf ha hb hd hn C hv] at e
      obtain ⟨B', F', W', e'⟩ := WL_all hf C q (at3 a b d + 1) k _ _ (by omega) (by omega) (W.take ha hb hd hv h0)
      exact ⟨B', F', W', e.trans e'⟩
    · have e := @l1_at (k + 4) f a b d hf ha hb hd c B F (isFalse hv)
      rw [show (!@decide (Val c f a b d) (isFalse hv)) = true from rfl, j2_skip (k + 3) hn] at e
      obtain ⟨B', F', W', e'⟩ := WL_all hf C q (at3 a b d + 1) (k + 3) _ _ (by omega) (by omega) (W.skip ha hb hv)
      exact ⟨B', F', W', e.trans e'⟩
theorem ways_f (k : Nat) {f : Nat} (hf : f < 4) {c : Mat} (C : CostOk c) : ∃ B F, WI c f 64 B F ∧ watchwordlaw21_ways.f (k + 400) (c 0 0) (c 0 1) (c 0 2) (c 0 3) (c 1 0) (c 1 1) (c 1 2) (c 1 3) (c 2 0) (c 2 1) (c 2 2) (c 2 3) (c 3 0) (c 3 1) (c 3 2) (c 3 3) (f : Int) = some (tup20 B F) := by
  obtain ⟨B, F, W, e⟩ := WL_all hf C 64 0 (k + 395) (fun _ => -1) (fun _ _ => false) rfl (by omega) (WI.start c f _)
  refine ⟨B, F, W, Eq.trans ?_ e⟩
  unfold watchwordlaw21_ways.f WL
  rw [show k + 400 = (k + 395) + 1 + 1 + 1 + 1 + 1 from rfl]
  have h1 : wrap64 (0 + 1) = 1 := by decide +kernel
  have h2 : wrap64 (1 + 1) = 2 := by decide +kernel
  have h3 : wrap64 (2 + 1) = 3 := by decide +kernel
  have h4 : wrap64 (3 + 1) = 4 := by decide +kernel
  rw [watchwordlaw21_ways.l0, if_pos (by decide), if_pos (by decide), h1, watchwordlaw21_ways.l0, if_pos (by decide), if_pos (by decide), h2, watchwordlaw21_ways.l0, if_pos (by decide), if_pos (by decide), h3, watchwordlaw21_ways.l0, if_pos (by decide), if_pos (by decide), h4, watchwordlaw21_ways.l0, if_neg (by decide)]
  rfl
end Go.Proofs.Ytjbejbehbjhecaa.L21
namespace Go.Proofs.Ytjbejbehbjhecaa.Opn
open Go.RowKit Go.Proofs.YtjbejbehbjhecaaW.PrintWords Go.Proofs.YtjbejbehbjhecaaW.PrintLast Go.Proofs.YtjbejbehbjhecaaW.PrintMore
open Go.Joins Go.ChangeShapes Go.WideShapes Go.Deep
set_option linter.unusedVariables false

/-- Whatever reads as_ data of type t, within reach, is told by the kind d; R is known of it. -/
def Opn {α : Type} (P : Program) (t : TypeId) (d : Kd α) (R : α → Prop) : Prop :=
  ∀ {H : Type} {enc : TypeId × Value → H} {w : World} {base : Nat} {spare : Nat → Bool} {held : Bool} {fuel : Nat} {cs : List Value} {x : DataW H × List MemPlace},
    DataW.trod enc P w base spare held fuel t cs = some x → (∀ n ∈ x.1.weights P t, n ≤ reachBytes) → ∃ a, d.K w a cs ∧ R a
theorem opn_int {P : Program} {t : TypeId} {k : IntKind} (ht : P.underlying t = some (.int k)) : Opn P t (Kd.int k) (fun a => (Lit.int k a).wf = true) := by
  intro H enc w base spare held fuel cs x h _
  obtain ⟨a, rfl, rfl, wa⟩ := DataW.trod_int ht h
  exact ⟨a, rfl, wa⟩
theorem opn_string {P : Program} {t : TypeId} (ht : P.underlying t = some .string) : Opn P t Kd.string (fun s => s.size ≤ 140737488351232) := by
  intro H enc w base spare held fuel cs x h hw
  obtain ⟨s, rfl, rfl, hs⟩ := DataW.trod_string ht h
  refine ⟨s, rfl, ?_⟩
  have := hw s.data.toList.length (by simp [DataW.weights])
  rw [Array.length_toList] at this
  exact this
theorem cells_at {w : World} {base : Nat} {a : Addr} {n : Nat} {cs : List Value} (h : w.cells? base a n = some cs) : ∀ i u, cs[i]? = some u → w.cell? (a.add i) = some u := by
  obtain ⟨_, hl, hat⟩ := World.cells?_some h
  intro i u hu
  have hi : i < n := by have := (List.getElem?_eq_some_iff.1 hu).1; omega
  rw [hat i hi]; exact hu
theorem opn_slice {α : Type} {P : Program} {t e : TypeId} {d : Kd α} {R : α → Prop} {B : Nat} (ht : P.underlying t = some (.slice e)) (hc : P.cellsOf e = d.sz) (hB : P.bytesOf e = B) (ho : Opn P e d R) :
    Opn P t (Kd.slice e d) (fun l => l.length * B ≤ 140737488351232 ∧ l.length ≤ maxLen ∧ ∀ a ∈ l, R a) := by
  intro H enc w base spare held fuel cs x h hw
  rcases open_slice ht h with ⟨rfl, rfl⟩ | ⟨ad, len, cap, m, n, D, Pl, rfl, hb, hl, hm, hmm, rfl, hi⟩
  · exact ⟨[], ⟨none, 0, rfl, Nat.le_refl _, rfl, by simp, fun h => absurd h (by simp)⟩, by simp, by simp [maxLen], fun a ha => by cases ha⟩
  · have hlm : len ≤ m := by rw [hmm]; split <;> omega
    have hwt : ∀ i, i < len → ∀ n ∈ (D i).weights P e, n ≤ reachBytes := by
      intro i hi' n hn
      refine hw n ?_
      simp only [DataW.weights, ht, List.mem_cons, List.mem_append]
      refine Or.inr (Or.inl ?_)
      have key : ∀ (l : List (DataW H)) (y : DataW H), y ∈ l → ∀ n ∈ y.weights P e, n ∈ DataW.weightsAll P e l := by
        intro l
        induction l with
        | nil => intro y hy; cases hy
        | cons z l ih =>
          intro y hy n hn
          simp only [DataW.weightsAll, List.mem_append]
          rcases List.mem_cons.mp hy with rfl | hy
          · exact Or.inl hn
          · exact Or.inr (ih y hy n hn)
      exact key _ (D i) (List.mem_map.mpr ⟨i, by simpa using hi', rfl⟩) n hn
    have hex : ∀ i, i < len → ∃ a cs', d.K w a cs' ∧ R a ∧ w.cells? base (ad.add (i * P.cellsOf e)) (P.cellsOf e) = some cs' := by
      intro i hi'
      obtain ⟨cs', h1, h2⟩ := hi i (by omega)
      obtain ⟨a, hK, hR⟩ := ho h2 (hwt i hi')
      exact ⟨a, cs', hK, hR, h1⟩
    have hw0 : len * B ≤ reachBytes := by
      have := hw ((((List.range len).map D).length + ((List.range (m - len)).map fun j => D (len + j)).length) * P.bytesOf e) (by simp [DataW.weights, ht])
      rw [hB] at this
      simp only [List.length_map, List.length_range] at this
      exact Nat.le_trans (Nat.mul_le_mul_right _ (by omega)) this
    obtain ⟨l, hll, hl2⟩ : ∃ l : List α, l.length = len ∧ ∀ i a, l[i]? = some a → ∃ cs', d.K w a cs' ∧ R a ∧ w.cells? base (ad.add (i * P.cellsOf e)) (P.cellsOf e) = some cs' := by
      clear hw0 hwt hw hlm hmm hm hl hi h
      induction len with
      | zero => exact ⟨[], rfl, fun i a h => by simp at h⟩
      | succ k ih =>
        obtain ⟨l, hll, hl2⟩ := ih (fun i hi' => hex i (by omega))
        obtain ⟨a, cs', h1, h2, h3⟩ := hex k (by omega)
        refine ⟨l ++ [a], by simp [hll], fun i b hb => ?_⟩
        by_cases hik : i < l.length
        · rw [List.getElem?_append_left hik] at hb
          exact hl2 i b hb
        · have hlt := (List.getElem?_eq_some_iff.1 hb).1
          rw [List.length_append, List.length_singleton] at hlt
          have : i = l.length := by omega
          subst this
          rw [List.getElem?_append_right (Nat.le_refl _)] at hb
          simp at hb
          subst hb
          rw [hll]
          exact ⟨cs', h1, h2, h3⟩
    have hmax : len ≤ maxLen := Nat.le_trans hl hm
    refine ⟨l, ⟨some ad, cap, by rw [hll], by omega, ⟨rfl, by rw [hll]; unfold maxLen at hmax; omega, fun _ => ⟨ad, rfl, fun j p hj => ?_⟩⟩⟩, by rw [hll]; exact hw0, by rw [hll]; exact hmax, fun a ha => ?_⟩
    · obtain ⟨cs', h1, _, h3⟩ := hl2 j p hj
      refine ⟨cs', d.K_len h1, h1, fun i u hu => ?_⟩
      have := cells_at h3 i u hu
      rw [Go.Deep.add_add, hc] at this
      exact this
    · obtain ⟨i, hi', rfl⟩ := List.mem_iff_getElem.mp ha
      obtain ⟨_, _, hR, _⟩ := hl2 i _ (List.getElem?_eq_getElem hi')
      exact hR
theorem wt_field {H : Type} {P : Program} {t f : TypeId} {fs : Array Field} {parts : List (DataW H)} {y : DataW H} {j : Nat} (ht : P.underlying t = some (.struct fs)) (hw : ∀ n ∈ (DataW.agg parts).weights P t, n ≤ reachBytes)
    (hf : (fs.toList.map (·.type))[j]? = some f) (hy : parts[j]? = some y) : ∀ n ∈ y.weights P f, n ≤ reachBytes := by
  intro n hn
  refine hw n ?_
  simp only [DataW.weights, ht]
  exact DataW.weights_mem_each hf hy n hn
theorem wt_arg {H : Type} {P : Program} {ts : List TypeId} {ds : List (DataW H)} {j : Nat} {t : TypeId} {d : DataW H} (h : (DataW.weightsEach P ts ds).all (· ≤ reachBytes) = true) (ht : ts[j]? = some t) (hd : ds[j]? = some d) : ∀ n ∈ d.weights P t, n ≤ reachBytes := by
  intro n hn
  have := List.all_eq_true.1 h _ (DataW.weights_mem_each ht hd n hn)
  simpa using this
section
variable {H : Type} {enc : TypeId × Value → H} {P : Program} {w : World} {base : Nat} {spare : Nat → Bool} {held : Bool}
theorem open_agg5 {r : Reach} {b0 : Nat} {t : TypeId} {f0 f1 f2 f3 f4 : Field} {v : Value} {d : DataW H} {p : List MemPlace} (hs : P.underlying t = some (.struct #[f0, f1, f2, f3, f4])) (hone : oneCellFields P #[f0, f1, f2, f3, f4] = true) (hC : P.cellsOf t = 5)
    (hv : Value.okWide P w r b0 t v) (h : DataW.Trod enc P w base spare held t v d p) :
    ∃ (v0 v1 v2 v3 v4 : Value) (y0 y1 y2 y3 y4 : DataW H × List MemPlace) (n : Nat), v = .agg #[v0, v1, v2, v3, v4] ∧ d = .agg [y0.1, y1.1, y2.1, y3.1, y4.1] ∧ p = y0.2 ++ (y1.2 ++ (y2.2 ++ (y3.2 ++ y4.2))) ∧
      DataW.trod enc P w base spare held n f0.type [v0] = some y0 ∧ DataW.trod enc P w base spare held n f1.type [v1] = some y1 ∧ DataW.trod enc P w base spare held n f2.type [v2] = some y2 ∧ DataW.trod enc P w base spare held n f3.type [v3] = some y3 ∧ DataW.trod enc P w base spare held n f4.type [v4] = some y4 := by
  obtain ⟨cs, rfl, hsz⟩ := okWide_struct hs hv
  obtain ⟨l⟩ := cs
  match l, hsz.trans hC with
  | [c0, c1, c2, c3, c4], _ =>
    obtain ⟨fuel, hf⟩ := h
    obtain ⟨xs, n, _, hx, _, hlen, hg⟩ := DataW.trod_struct hs hf
    obtain ⟨o0, k0⟩ := hone_of hone 0 f0 rfl
    obtain ⟨o1, k1⟩ := hone_of hone 1 f1 rfl
    obtain ⟨o2, k2⟩ := hone_of hone 2 f2 rfl
    obtain ⟨o3, k3⟩ := hone_of hone 3 f3 rfl
    obtain ⟨o4, k4⟩ := hone_of hone 4 f4 rfl
    match xs, hlen with
    | [y0, y1, y2, y3, y4], _ =>
      simp only [Prod.mk.injEq] at hx
      exact ⟨c0, c1, c2, c3, c4, y0, y1, y2, y3, y4, n, rfl, by simpa using hx.1, by simpa using hx.2, by simpa [Value.cells, o0, k0] using hg 0 f0 rfl, by simpa [Value.cells, o1, k1] using hg 1 f1 rfl, by simpa [Value.cells, o2, k2] using hg 2 f2 rfl, by simpa [Value.cells, o3, k3] using hg 3 f3 rfl, by simpa [Value.cells, o4, k4] using hg 4 f4 rfl⟩
theorem open_agg6 {r : Reach} {b0 : Nat} {t : TypeId} {f0 f1 f2 f3 f4 f5 : Field} {v : Value} {d : DataW H} {p : List MemPlace} (hs : P.underlying t = some (.struct #[f0, f1, f2, f3, f4, f5])) (hone : oneCellFields P #[f0, f1, f2, f3, f4, f5] = true) (hC : P.cellsOf t = 6)
    (hv : Value.okWide P w r b0 t v) (h : DataW.Trod enc P w base spare held t v d p) :
    ∃ (v0 v1 v2 v3 v4 v5 : Value) (y0 y1 y2 y3 y4 y5 : DataW H × List MemPlace) (n : Nat), v = .agg #[v0, v1, v2, v3, v4, v5] ∧ d = .agg [y0.1, y1.1, y2.1, y3.1, y4.1, y5.1] ∧ p = y0.2 ++ (y1.2 ++ (y2.2 ++ (y3.2 ++ (y4.2 ++ y5.2)))) ∧
      DataW.trod enc P w base spare held n f0.type [v0] = some y0 ∧ DataW.trod enc P w base spare held n f1.type [v1] = some y1 ∧ DataW.trod enc P w base spare held n f2.type [v2] = some y2 ∧ DataW.trod enc P w base spare held n f3.type [v3] = some y3 ∧ DataW.trod enc P w base spare held n f4.type [v4] = some y4 ∧ DataW.trod enc P w base spare held n f5.type [v5] = some y5 := by
  obtain ⟨cs, rfl, hsz⟩ := okWide_struct hs hv
  obtain ⟨l⟩ := cs
  match l, hsz.trans hC with
  | [c0, c1, c2, c3, c4, c5], _ =>
    obtain ⟨fuel, hf⟩ := h
    obtain ⟨xs, n, _, hx, _, hlen, hg⟩ := DataW.trod_struct hs hf
    obtain ⟨o0, k0⟩ := hone_of hone 0 f0 rfl
    obtain ⟨o1, k1⟩ := hone_of hone 1 f1 rfl
    obtain ⟨o2, k2⟩ := hone_of hone 2 f2 rfl
    obtain ⟨o3, k3⟩ := hone_of hone 3 f3 rfl
    obtain ⟨o4, k4⟩ := hone_of hone 4 f4 rfl
    obtain ⟨o5, k5⟩ := hone_of hone 5 f5 rfl
    match xs, hlen with
    | [y0, y1, y2, y3, y4, y5], _ =>
      simp only [Prod.mk.injEq] at hx
      exact ⟨c0, c1, c2, c3, c4, c5, y0, y1, y2, y3, y4, y5, n, rfl, by simpa using hx.1, by simpa using hx.2, by simpa [Value.cells, o0, k0] using hg 0 f0 rfl, by simpa [Value.cells, o1, k1] using hg 1 f1 rfl, by simpa [Value.cells, o2, k2] using hg 2 f2 rfl, by simpa [Value.cells, o3, k3] using hg 3 f3 rfl, by simpa [Value.cells, o4, k4] using hg 4 f4 rfl, by simpa [Value.cells, o5, k5] using hg 5 f5 rfl⟩
end

end Go.Proofs.Ytjbejbehbjhecaa.Opn
namespace Go.Proofs.Ytjbejbehbjhecaa.O21n
open Go.RowKit Go.Proofs.YtjbejbehbjhecaaW.PrintWords Go.Proofs.YtjbejbehbjhecaaW.PrintLast Go.Proofs.YtjbejbehbjhecaaW.PrintMore Go.Proofs.Ytjbejbehbjhecaa.Opn Go.Proofs.Ytjbejbehbjhecaa.Q21n
open Go.Joins Go.ChangeShapes Go.WideShapes Go.Deep
set_option linter.unusedVariables false

def R41 (x : S41) : Prop := (Lit.int .i64 x.f0).wf = true ∧ (Lit.int .i64 x.f1).wf = true ∧ (x.f2.length * 8 ≤ 140737488351232 ∧ x.f2.length ≤ maxLen ∧ ∀ y ∈ x.f2, (Lit.int .i64 y).wf = true)
set_option maxRecDepth 100000 in
theorem opn41 : Opn Try.prog 41 k41 R41 := by
  intro H enc w base spare held fuel cs x h hw
  obtain ⟨xs, n, _, rfl, hl, hlen, hf⟩ := DataW.trod_struct Try.underlying41 h
  have hl' : cs.length = 3 := hl.trans (by kernel_rfl)
  match cs, hl', xs, hlen with
  | [c0, c1, c2], _, [y0, y1, y2], _ =>
    have g0 : DataW.trod enc Try.prog w base spare held n 3 [c0] = some y0 := by
      have hk : Try.prog.cellsOf 3 = 1 := by kernel_rfl
      have z : DataW.trod enc Try.prog w base spare held n 3 ((([c0, c1, c2] : List Value).drop 0).take (Try.prog.cellsOf 3)) = some y0 := hf 0 _ rfl
      rw [hk] at z
      exact z
    obtain ⟨a0, e0, r0⟩ := (opn_int Try.underlying3) g0 (wt_field (j := 0) Try.underlying41 hw rfl rfl)
    have g1 : DataW.trod enc Try.prog w base spare held n 3 [c1] = some y1 := by
      have hk : Try.prog.cellsOf 3 = 1 := by kernel_rfl
      have z : DataW.trod enc Try.prog w base spare held n 3 ((([c0, c1, c2] : List Value).drop 1).take (Try.prog.cellsOf 3)) = some y1 := hf 1 _ rfl
      rw [hk] at z
      exact z
    obtain ⟨a1, e1, r1⟩ := (opn_int Try.underlying3) g1 (wt_field (j := 1) Try.underlying41 hw rfl rfl)
    have g2 : DataW.trod enc Try.prog w base spare held n 39 [c2] = some y2 := by
      have hk : Try.prog.cellsOf 39 = 1 := by kernel_rfl
      have z : DataW.trod enc Try.prog w base spare held n 39 ((([c0, c1, c2] : List Value).drop 2).take (Try.prog.cellsOf 39)) = some y2 := hf 2 _ rfl
      rw [hk] at z
      exact z
    obtain ⟨a2, e2, r2⟩ := (opn_slice (d := (Kd.int .i64)) (B := 8) Try.underlying39 (by kernel_rfl) (by kernel_rfl) (opn_int Try.underlying3)) g2 (wt_field (j := 2) Try.underlying41 hw rfl rfl)
    exact ⟨⟨a0, a1, a2⟩, ⟨[c0], [c1, c2], rfl, e0, ⟨[c1], [c2], rfl, e1, e2⟩⟩, ⟨r0, r1, r2⟩⟩

end Go.Proofs.Ytjbejbehbjhecaa.O21n
namespace Go.Proofs.Ytjbejbehbjhecaa.Opn
open Go.RowKit Go.Proofs.YtjbejbehbjhecaaW.PrintWords Go.Proofs.YtjbejbehbjhecaaW.PrintLast Go.Proofs.YtjbejbehbjhecaaW.PrintMore
open Go.Joins Go.ChangeShapes Go.WideShapes Go.Deep
set_option linter.unusedVariables false
section
variable {H : Type} {enc : TypeId × Value → H} {P : Program} {w : World} {base : Nat} {spare : Nat → Bool} {held : Bool}
theorem row_open {e e2 : TypeId} (he : P.underlying e = some (.array 4 e2)) (h2 : P.underlying e2 = some (.int .i64)) (hc2 : P.cellsOf e2 = 1) {m : Nat} {c0 c1 c2 c3 : Value} {y : DataW H × List MemPlace}
    (h : DataW.trod enc P w base spare held m e [c0, c1, c2, c3] = some y) : ∃ a : Nat → Int, c0 = .int .i64 (a 0) ∧ c1 = .int .i64 (a 1) ∧ c2 = .int .i64 (a 2) ∧ c3 = .int .i64 (a 3) ∧ ∀ j, j < 4 → (Lit.int .i64 (a j)).wf = true := by
  obtain ⟨xs, q, _, _, _, hlen, hg⟩ := DataW.trod_array he h
  match xs, hlen with
  | [y0, y1, y2, y3], _ =>
    have g0 : DataW.trod enc P w base spare held q e2 [c0] = some y0 := by have := hg 0 (by decide); rw [hc2] at this; exact this
    have g1 : DataW.trod enc P w base spare held q e2 [c1] = some y1 := by have := hg 1 (by decide); rw [hc2] at this; exact this
    have g2 : DataW.trod enc P w base spare held q e2 [c2] = some y2 := by have := hg 2 (by decide); rw [hc2] at this; exact this
    have g3 : DataW.trod enc P w base spare held q e2 [c3] = some y3 := by have := hg 3 (by decide); rw [hc2] at this; exact this
    obtain ⟨a0, e0, _, w0⟩ := DataW.trod_int h2 g0
    obtain ⟨a1, e1, _, w1⟩ := DataW.trod_int h2 g1
    obtain ⟨a2, e2, _, w2⟩ := DataW.trod_int h2 g2
    obtain ⟨a3, e3, _, w3⟩ := DataW.trod_int h2 g3
    refine ⟨fun j => match j with | 0 => a0 | 1 => a1 | 2 => a2 | _ => a3, by simpa using e0, by simpa using e1, by simpa using e2, by simpa using e3, fun j hj => ?_⟩
    obtain rfl | rfl | rfl | rfl : j = 0 ∨ j = 1 ∨ j = 2 ∨ j = 3 := by omega
    all_goals assumption
theorem open_arr {r : Reach} {b0 : Nat} {t e e2 : TypeId} {v : Value} {d : DataW H} {p : List MemPlace} (ht : P.underlying t = some (.array 4 e)) (he : P.underlying e = some (.array 4 e2)) (h2 : P.underlying e2 = some (.int .i64)) (hc : P.cellsOf t = 16) (hce : P.cellsOf e = 4) (hc2 : P.cellsOf e2 = 1)
    (hv : Value.okWide P w r b0 t v) (h : DataW.Trod enc P w base spare held t v d p) :
    ∃ a : Nat → Nat → Int, v = .agg #[.int .i64 (a 0 0), .int .i64 (a 0 1), .int .i64 (a 0 2), .int .i64 (a 0 3), .int .i64 (a 1 0), .int .i64 (a 1 1), .int .i64 (a 1 2), .int .i64 (a 1 3), .int .i64 (a 2 0), .int .i64 (a 2 1), .int .i64 (a 2 2), .int .i64 (a 2 3), .int .i64 (a 3 0), .int .i64 (a 3 1), .int .i64 (a 3 2), .int .i64 (a 3 3)] ∧
      ∀ i j, i < 4 → j < 4 → (Lit.int .i64 (a i j)).wf = true := by
  simp only [Value.okWide, ht] at hv
  obtain ⟨cs, rfl, hsz, _⟩ := hv
  obtain ⟨l⟩ := cs
  match l, hsz.trans hc with
  | [c0, c1, c2, c3, c4, c5, c6, c7, c8, c9, c10, c11, c12, c13, c14, c15], _ =>
    obtain ⟨fuel, hf⟩ := h
    obtain ⟨xs, q, _, _, _, hlen, hg⟩ := DataW.trod_array ht hf
    match xs, hlen with
    | [y0, y1, y2, y3], _ =>
      have g0 : DataW.trod enc P w base spare held q e [c0, c1, c2, c3] = some y0 := by have := hg 0 (by decide); rw [hce] at this; exact this
      have g1 : DataW.trod enc P w base spare held q e [c4, c5, c6, c7] = some y1 := by have := hg 1 (by decide); rw [hce] at this; exact this
      have g2 : DataW.trod enc P w base spare held q e [c8, c9, c10, c11] = some y2 := by have := hg 2 (by decide); rw [hce] at this; exact this
      have g3 : DataW.trod enc P w base spare held q e [c12, c13, c14, c15] = some y3 := by have := hg 3 (by decide); rw [hce] at this; exact this
      obtain ⟨a0, rfl, rfl, rfl, rfl, w0⟩ := row_open he h2 hc2 g0
      obtain ⟨a1, rfl, rfl, rfl, rfl, w1⟩ := row_open he h2 hc2 g1
      obtain ⟨a2, rfl, rfl, rfl, rfl, w2⟩ := row_open he h2 hc2 g2
      obtain ⟨a3, rfl, rfl, rfl, rfl, w3⟩ := row_open he h2 hc2 g3
      refine ⟨fun i => match i with | 0 => a0 | 1 => a1 | 2 => a2 | _ => a3, rfl, fun i j hi hj => ?_⟩
      obtain rfl | rfl | rfl | rfl : i = 0 ∨ i = 1 ∨ i = 2 ∨ i = 3 := by omega
      · exact w0 j hj
      · exact w1 j hj
      · exact w2 j hj
      · exact w3 j hj
end
end Go.Proofs.Ytjbejbehbjhecaa.Opn
