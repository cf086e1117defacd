/- Graphs: awake; what is told at a place; costs that may be. -/
import Derived.Test.YtjbejbehbjhecaaG20
import Derived.Test.YtjbejbehbjhecaaQ20x125
namespace Go.Proofs.Ytjbejbehbjhecaa.L20
open Go.RowKit Go.Proofs.YtjbejbehbjhecaaW.PrintWords Go.Proofs.YtjbejbehbjhecaaW.PrintMore Go.Proofs.Ytjbejbehbjhecaa.Base Go.Proofs.Ytjbejbehbjhecaa.Q20
set_option linter.unusedVariables false
set_option maxRecDepth 100000
theorem awake_ok {k : Nat} (hk : 100 ≤ k) : watchwordlaw20_awake.f k = some true :=
  at_rounds (g := fun k => watchwordlaw20_awake.f k) watchwordlaw20_awake.mono hk (by decide +kernel)
theorem num_ok : watchwordlaw0_Num.f 0 = some 0 := by decide +kernel
theorem num_bad : watchwordlaw0_Num.f 2000 = some 2000 := by decide +kernel
def lnk : List S59 → Int → Int → Int
  | [], _, d => d
  | x :: l, t, d => lnk l t (if x.f0 = t then x.f1 else d)
def lkA : List S57 → Int → Int → Int → Int
  | [], _, _, d => d
  | a :: l, r, t, d => lkA l r t (if a.f0 = r then lnk a.f3 t d else d)
theorem toldL_at {r : Int} (hr : 1 ≤ r) : ∀ (ls : List S59) (hx : ∀ x ∈ ls, 1 ≤ x.f0) (m : Mat) (i j : Nat), toldL r ls m i j = if (i : Int) + 1 = r then lnk ls ((j : Int) + 1) (m i j) else m i j
  | [], _, m, i, j => by unfold toldL lnk; split <;> rfl
  | x :: l, hx, m, i, j => by
    have h1 := hx x (List.mem_cons_self ..)
    unfold toldL
    rw [toldL_at hr l (fun y hy => hx y (List.mem_cons_of_mem _ hy))]
    by_cases h : (i : Int) + 1 = r
    · rw [if_pos h, if_pos h]
      show _ = lnk l _ _
      congr 1
      unfold upd2
      by_cases h2 : x.f0 = (j : Int) + 1
      · rw [if_pos (by omega), if_pos h2]
      · rw [if_neg (by omega), if_neg h2]
    · rw [if_neg h, if_neg h]
      unfold upd2
      rw [if_neg (by omega)]
theorem lnk_none {t : Int} : ∀ (ls : List S59) (d : Int), (∀ x ∈ ls, x.f0 ≠ t) → lnk ls t d = d
  | [], _, _ => rfl
  | x :: l, d, h => by
    unfold lnk
    rw [if_neg (h x (List.mem_cons_self ..))]
    exact lnk_none l d (fun y hy => h y (List.mem_cons_of_mem _ hy))
theorem links_gt {rt : Int} : ∀ (l : List S59) (p : Int), links rt p l = true → ∀ z ∈ l, p < z.f0
  | [], _, _, z, hz => by cases hz
  | y :: l, p, h, z, hz => by
    unfold links at h
    by_cases hc : LinkOk rt y ∧ p < y.f0
    · rw [if_pos hc] at h
      rcases List.mem_cons.mp hz with rfl | hz
      · exact hc.2
      · have := links_gt l y.f0 h z hz; omega
    · rw [if_neg hc] at h; cases h
theorem lnk_at {rt : Int} : ∀ (l : List S59) (p d : Int), links rt p l = true → ∀ x ∈ l, lnk l x.f0 d = x.f1
  | [], _, _, _, x, hx => by cases hx
  | y :: l, p, d, h, x, hx => by
    unfold links at h
    by_cases hc : LinkOk rt y ∧ p < y.f0
    · rw [if_pos hc] at h
      unfold lnk
      rcases List.mem_cons.mp hx with rfl | hx
      · rw [if_pos rfl]
        exact lnk_none l _ (fun z hz => by have := links_gt l x.f0 h z hz; omega)
      · exact lnk_at l y.f0 _ h x hx
    · rw [if_neg hc] at h; cases h
theorem upd_gt : ∀ (l : List S57) (p : Int), upd p l = true → ∀ z ∈ l, p < z.f0
  | [], _, _, z, hz => by cases hz
  | y :: l, p, h, z, hz => by
    unfold upd at h
    by_cases hc : UsOk y ∧ p < y.f0
    · rw [if_pos hc] at h
      rcases List.mem_cons.mp hz with rfl | hz
      · exact hc.2
      · have := upd_gt l y.f0 h z hz; omega
    · rw [if_neg hc] at h; cases h
theorem lkA_none {r t : Int} : ∀ (l : List S57) (d : Int), (∀ a ∈ l, a.f0 ≠ r) → lkA l r t d = d
  | [], _, _ => rfl
  | a :: l, d, h => by
    unfold lkA
    rw [if_neg (h a (List.mem_cons_self ..))]
    exact lkA_none l d (fun y hy => h y (List.mem_cons_of_mem _ hy))
theorem lkA_at {t : Int} : ∀ (l : List S57) (p d : Int), upd p l = true → ∀ a ∈ l, lkA l a.f0 t d = lnk a.f3 t d
  | [], _, _, _, a, ha => by cases ha
  | y :: l, p, d, h, a, ha => by
    unfold upd at h
    by_cases hc : UsOk y ∧ p < y.f0
    · rw [if_pos hc] at h
      unfold lkA
      rcases List.mem_cons.mp ha with rfl | ha
      · rw [if_pos rfl]
        exact lkA_none l _ (fun z hz => by have := upd_gt l a.f0 h z hz; omega)
      · have h2 := upd_gt l y.f0 h a ha
        rw [if_neg (by omega)]
        exact lkA_at l y.f0 d h a ha
    · rw [if_neg hc] at h; cases h
theorem usOk_links {x : S57} (h : UsOk x) : links x.f0 0 x.f3 = true := h.2.2.2.2.2.2
theorem toldA_at : ∀ (l : List S57) (hok : ∀ x ∈ l, UsOk x) (m : Mat) (i j : Nat), toldA l m i j = lkA l ((i : Int) + 1) ((j : Int) + 1) (m i j)
  | [], _, m, i, j => rfl
  | a :: l, hok, m, i, j => by
    have h1 := hok a (List.mem_cons_self ..)
    unfold toldA lkA
    rw [toldA_at l (fun y hy => hok y (List.mem_cons_of_mem _ hy)), toldL_at h1.1 _ (fun x hx => (links_range _ _ (usOk_links h1) x hx).1)]
    congr 1
    by_cases h : (i : Int) + 1 = a.f0
    · rw [if_pos h, if_pos h.symm]
    · rw [if_neg h, if_neg (fun e => h e.symm)]
theorem told_link {l : List S57} (h : upd 0 l = true) {a : S57} (ha : a ∈ l) {x : S59} (hx : x ∈ a.f3) (m : Mat) {i j : Nat} (hi : (i : Int) + 1 = a.f0) (hj : (j : Int) + 1 = x.f0) : toldA l m i j = x.f1 := by
  rw [toldA_at l (upd_ok l 0 h), hi, hj, lkA_at l 0 _ h a ha]
  exact lnk_at _ 0 _ (usOk_links (upd_ok l 0 h a ha)) x hx
theorem toldL_ok {r : Int} (hr : 1 ≤ r ∧ r ≤ 4) : ∀ (ls : List S59) (hx : ∀ x ∈ ls, LinkOk r x) (m : Mat), CostOk m → CostOk (toldL r ls m)
  | [], _, m, C => C
  | x :: l, hx, m, C => by
    have h1 := hx x (List.mem_cons_self ..)
    refine toldL_ok hr l (fun y hy => hx y (List.mem_cons_of_mem _ hy)) _ ⟨fun i j hi hj => ?_, fun i hi => ?_⟩
    · unfold upd2; split
      · exact ⟨by have := h1.2.2.2.1; omega, h1.2.2.2.2⟩
      · exact C.range i j hi hj
    · unfold upd2; rw [if_neg]
      · exact C.diag i hi
      · rintro ⟨e1, e2⟩
        have := h1.1; have := h1.2.2.1; omega
theorem toldA_ok : ∀ (l : List S57) (hok : ∀ x ∈ l, UsOk x) (m : Mat), CostOk m → CostOk (toldA l m)
  | [], _, m, C => C
  | a :: l, hok, m, C => by
    have h1 := hok a (List.mem_cons_self ..)
    exact toldA_ok l (fun y hy => hok y (List.mem_cons_of_mem _ hy)) _ (toldL_ok ⟨h1.1, h1.2.1⟩ _ (links_range _ _ (usOk_links h1)) m C)
theorem outOf_ok {m : Mat} (C : CostOk m) : CostOk (outOf m) :=
  ⟨fun i j hi hj => by unfold outOf; have := C.range i j hi hj; split <;> omega, fun i hi => by unfold outOf; rw [C.diag i hi]; simp⟩
theorem zero_ok : CostOk (fun _ _ => 0) := ⟨fun _ _ _ _ => by omega, fun _ _ => rfl⟩
end Go.Proofs.Ytjbejbehbjhecaa.L20
