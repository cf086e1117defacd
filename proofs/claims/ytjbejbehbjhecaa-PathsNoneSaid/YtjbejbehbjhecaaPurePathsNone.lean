/- PathsNone: without links nobody is reached, with one link just who is at its end; no condition beyond the row's own. -/
import Derived.Test.YtjbejbehbjhecaaQ21x107
import Derived.Test.YtjbejbehbjhecaaA21
namespace Go.Proofs.Ytjbejbehbjhecaa.Pure
open Go.RowKit Go.Proofs.YtjbejbehbjhecaaW.PrintWords Go.Proofs.YtjbejbehbjhecaaW.PrintMore Go.Proofs.Ytjbejbehbjhecaa.Base Go.Proofs.Ytjbejbehbjhecaa.Q21 Go.Proofs.Ytjbejbehbjhecaa.L21
set_option linter.unusedVariables false
set_option maxRecDepth 100000
abbrev one (i j : Nat) (v : Int) : Mat := upd2 (fun _ _ => 0) i j v
theorem one_ok {i j : Nat} {v : Int} (hij : i ≠ j) (hv : 1 ≤ v ∧ v ≤ 1024) : CostOk (one i j v) :=
  ⟨fun a b _ _ => by
    unfold one upd2
    split
    · omega
    · show 0 ≤ (0 : Int) ∧ (0 : Int) ≤ 65535
      omega, fun a _ => by unfold one upd2; rw [if_neg (by omega)]⟩
theorem one_e {i j : Nat} {v : Int} (hv : 1 ≤ v ∧ v ≤ 1024) (a b : Nat) : eOf (one i j v) a b = if a = b then 0 else if a = i ∧ b = j then v else 262144 := by
  unfold eOf one upd2 far
  by_cases h : a = b
  · rw [if_pos h, if_pos h]
  · rw [if_neg h, if_neg h]
    by_cases h2 : a = i ∧ b = j
    · rw [if_pos h2, if_pos h2, if_neg (by omega)]
    · rw [if_neg h2, if_neg h2, if_pos rfl]
theorem one_W {i j : Nat} {v : Int} (hi : i < 4) (hj : j < 4) (hij : i ≠ j) (hv : 1 ≤ v ∧ v ≤ 1024) {f t : Nat} (hf : f < 4) (ht : t < 4) (hft : t ≠ f) :
    (¬ (f = i ∧ t = j) → 262144 ≤ ws (one i j v) f t) ∧ (f = i ∧ t = j → ws (one i j v) f t = v) := by
  have S := (one_ok hij hv).steps
  obtain ⟨x, y, hx, hy, h⟩ := W_at (eOf (one i j v)) f t
  have h1 := one_e (i := i) (j := j) hv f x
  have h2 := one_e (i := i) (j := j) hv x y
  have h3 := one_e (i := i) (j := j) hv y t
  have h4 := W_e S hf ht
  have h5 := one_e (i := i) (j := j) hv f t
  show (_ → _ ≤ W (eOf (one i j v)) f t) ∧ (_ → W (eOf (one i j v)) f t = v)
  generalize W (eOf (one i j v)) f t = w at *
  rw [h1, h2, h3] at h
  rw [h5] at h4
  clear h1 h2 h3 h5 S
  constructor
  · intro hn
    split at h <;> split at h <;> split at h <;> (try split at h) <;> (try split at h) <;> (try split at h) <;> omega
  · rintro ⟨rfl, rfl⟩
    rw [if_neg (by omega), if_pos ⟨rfl, rfl⟩] at h4
    split at h <;> split at h <;> split at h <;> (try split at h) <;> (try split at h) <;> (try split at h) <;> omega
theorem one_firsts {i j : Nat} {v : Int} (hi : i < 4) (hj : j < 4) (hij : i ≠ j) (hv : 1 ≤ v ∧ v ≤ 1024) : firsts (one i j v) i j 4 = [(j : Int) + 1] := by
  have hn : ∀ a ∈ [0, 1, 2, 3], near (one i j v) i j a = decide (a = j) := by
    intro a ha
    unfold near
    refine decide_eq_decide.2 ?_
    have hw := (one_W hi hj hij hv hi hj (Ne.symm hij)).2 ⟨rfl, rfl⟩
    have hs : ws (one i j v) j j = 0 := W_self (one_ok hij hv).steps hj
    constructor
    · rintro ⟨h0, _⟩
      by_cases e : a = j
      · exact e
      · exfalso
        have : one i j v i a = 0 := by unfold one upd2; rw [if_neg (fun z => e z.2)]
        omega
    · rintro rfl
      have : one i a v i a = v := by unfold one upd2; rw [if_pos ⟨rfl, rfl⟩]
      exact ⟨by omega, by rw [this, hs, hw]; omega⟩
  unfold firsts
  rw [show sfx 4 = [0, 1, 2, 3] from rfl, List.filter_congr hn]
  obtain rfl | rfl | rfl | rfl : j = 0 ∨ j = 1 ∨ j = 2 ∨ j = 3 := by omega
  all_goals rfl
theorem routes_one {i j : Nat} {v : Int} (hi : i < 4) (hj : j < 4) (hij : i ≠ j) (hv : 1 ≤ v ∧ v ≤ 1024) {f : Nat} (hf : f < 4) : routes (one i j v) f 4 = if f = i then [⟨(j : Int) + 1, v, [(j : Int) + 1]⟩] else [] := by
  have hr : ∀ t, t < 4 → route (one i j v) f t = if t = j ∧ f = i then some ⟨(j : Int) + 1, v, [(j : Int) + 1]⟩ else none := by
    intro t ht
    unfold route
    by_cases e : t = f
    · rw [if_pos (.inl e), if_neg (by omega)]
    · obtain ⟨w1, w2⟩ := one_W hi hj hij hv hf ht e
      by_cases h : f = i ∧ t = j
      · obtain ⟨rfl, rfl⟩ := h
        rw [w2 ⟨rfl, rfl⟩, if_neg (by omega), if_pos ⟨rfl, rfl⟩, one_firsts hi hj hij hv]
      · rw [if_pos (.inr (w1 h)), if_neg (fun z => h ⟨z.2, z.1⟩)]
  unfold routes
  rw [show sfx 4 = [0, 1, 2, 3] from rfl]
  simp only [List.filterMap_cons, List.filterMap_nil, hr 0 (by decide), hr 1 (by decide), hr 2 (by decide), hr 3 (by decide)]
  by_cases h : f = i
  · rw [if_pos h]
    obtain rfl | rfl | rfl | rfl : j = 0 ∨ j = 1 ∨ j = 2 ∨ j = 3 := by omega
    all_goals simp [h]
  · simp [h]
theorem zero_ans {f : Nat} (hf : f < 4) : ans (mk 0 0 0 0 0 0 0 0 0 0 0 0 0 0 0 0) ((f : Int) + 1) = ([], 0) := by
  obtain rfl | rfl | rfl | rfl : f = 0 ∨ f = 1 ∨ f = 2 ∨ f = 3 := by omega
  all_goals kernel_rfl
theorem one_ans {i j : Nat} {v : Int} (hi : i < 4) (hj : j < 4) (hij : i ≠ j) (hv : 1 ≤ v ∧ v ≤ 1024) {f : Nat} (hf : f < 4) : ans (one i j v) ((f : Int) + 1) = (if f = i then [⟨(j : Int) + 1, v, [(j : Int) + 1]⟩] else [], 0) := by
  unfold ans
  rw [if_pos ⟨(okM_iff _).2 (one_ok hij hv), by omega, by omega⟩, show ((f : Int) + 1 - 1).toNat = f by omega, routes_one hi hj hij hv hf]
theorem same_one (k : Nat) (x : Int) : watchwordlaw0_SameInts.f (k + 2) [x] [x] = some true := by
  unfold watchwordlaw0_SameInts.f
  simp [watchwordlaw0_SameInts.l0, show wrap64 1 = 1 by decide +kernel]
theorem PathsNone : watchwordlaw21_PathsNone.Pure := by
  intro a0 a1 a2 a3 w0 w1 w2 w3
  refine ⟨201, ?_⟩
  unfold watchwordlaw21_PathsNone.f
  rw [awake_ok (by decide)]
  simp only [Option.bind_some, if_true]
  rw [show Go.bits .and .i64 a0 3 = a0 % 4 from and_mask 2 (by decide) a0, show Go.bits .and .i64 a1 3 = a1 % 4 from and_mask 2 (by decide) a1, show Go.bits .and .i64 a3 3 = a3 % 4 from and_mask 2 (by decide) a3,
    show wrap64 (1 + a3 % 4) = a3 % 4 + 1 by unfold wrap64; omega]
  obtain ⟨i, hi, ei⟩ : ∃ r : Nat, r < 4 ∧ a0 % 4 = (r : Int) := ⟨(a0 % 4).toNat, by omega, by omega⟩
  obtain ⟨j, hj, ej⟩ : ∃ r : Nat, r < 4 ∧ a1 % 4 = (r : Int) := ⟨(a1 % 4).toNat, by omega, by omega⟩
  obtain ⟨f, hf, ef⟩ : ∃ r : Nat, r < 4 ∧ a3 % 4 = (r : Int) := ⟨(a3 % 4).toNat, by omega, by omega⟩
  rw [ei, ej, ef, Routes_c 1, zero_ans hf]
  simp only [Option.bind_some, num_ok, if_true]
  rw [show (((([] : List S41).length : Nat) : Int) != 0) = false from rfl]
  simp only [watchwordlaw21_PathsNone.j0]
  rw [if_neg (by decide)]
  by_cases hij : i = j
  · rw [if_pos (by omega)]
  · rw [if_neg (by omega), if_pos (by omega), if_pos (by omega), if_pos (by omega), if_pos (by omega),
      show Go.bits .and .i64 a2 1023 = a2 % 1024 from and_mask 10 (by decide) a2, show wrap64 (1 + a2 % 1024) = 1 + a2 % 1024 by unfold wrap64; omega]
    have hv : 1 ≤ 1 + a2 % 1024 ∧ 1 + a2 % 1024 ≤ 1024 := by omega
    generalize 1 + a2 % 1024 = v at hv
    obtain ⟨u1, u2, u3, u4, u5, u6, u7, u8, u9, u10, u11, u12, u13, u14, u15, u16⟩ := ups (fun _ _ => 0) i j v
    rw [u1, u2, u3, u4, u5, u6, u7, u8, u9, u10, u11, u12, u13, u14, u15, u16]
    rw [show paths_Routes.f 200 _ _ _ _ _ _ _ _ _ _ _ _ _ _ _ _ _ = some (ans (one i j v) ((f : Int) + 1)) from Routes_f 0 (one i j v) _, one_ans hi hj hij hv hf, sel_at (one i j v) hi hj,
      show one i j v i j = v by unfold one upd2; rw [if_pos ⟨rfl, rfl⟩], next4 hi, next4 hj]
    simp only [Option.bind_some, num_ok, if_true]
    by_cases h : f = i
    · rw [if_pos h]
      subst h
      simp [rd_T41, same_one 198]
    · rw [if_neg h]
      simp
      omega
end Go.Proofs.Ytjbejbehbjhecaa.Pure
