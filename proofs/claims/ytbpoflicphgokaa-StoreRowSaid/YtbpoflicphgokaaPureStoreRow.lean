/- StoreRow: Lsas that come in any row leave the newest one of each router; no condition beyond the row's own. -/
import Derived.Test.YtbpoflicphgokaaQ18x103
import Derived.Test.YtbpoflicphgokaaZ18x4
namespace Go.Proofs.Ytbpoflicphgokaa.Pure
open Go.RowKit Go.Proofs.YtbpoflicphgokaaW.PrintWords Go.Proofs.YtbpoflicphgokaaW.PrintMore Go.Proofs.Ytbpoflicphgokaa.Base Go.Proofs.Ytbpoflicphgokaa.Q18 Go.Proofs.Ytbpoflicphgokaa.L18 Go.Proofs.Ytbpoflicphgokaa.O18
set_option linter.unusedVariables false
set_option linter.unusedSimpArgs false
theorem sel5 (v : Nat → Int) {j : Nat} (h : j < 5) : ix5 (v 0) (v 1) (v 2) (v 3) (v 4) (j : Int) = v j := by
  obtain rfl | rfl | rfl | rfl | rfl : j = 0 ∨ j = 1 ∨ j = 2 ∨ j = 3 ∨ j = 4 := by omega
  all_goals rfl
def up5 (v : Nat → Int) (t : Nat) (w : Int) : Nat → Int := fun j => if j = t then w else v j
theorem up5_at (v : Nat → Int) (t : Nat) (w : Int) (j : Nat) : up ((t : Int) == (j : Int)) w (v j) = up5 v t w j := by
  unfold up up5
  by_cases h : j = t
  · rw [if_pos h, if_pos (by simp; omega)]
  · rw [if_neg h, if_neg (by simp; omega)]
abbrev lsaOf (r s : Int) : S32 := ⟨r, s, 0, []⟩
/-- Of each router the newest one is there. -/
structure RI (l : List S32) (b : Nat → Int) : Prop where
  st : St l = true
  at_ : ∀ q : Nat, 1 ≤ q → q ≤ 4 → 0 ≤ b q ∧ b q ≤ 8 ∧ L18.look ukey (q : Int) l = if 0 < b q then some (lsaOf (q : Int) (b q)) else none
theorem row_newer (r s t : Int) : nwr (lsaOf r s) (lsaOf r t) = decide (s > t) := by
  unfold nwr cmp3
  by_cases h : s = t
  · subst h
    rw [if_neg (by simp), if_neg (by simp)]
    simp
  · rw [if_pos (show (lsaOf r s).f1 ≠ (lsaOf r t).f1 from h)]
    show decide (sgn s t > 0) = decide (s > t)
    unfold sgn
    by_cases h1 : s < t
    · rw [if_pos h1, decide_eq_false (by decide), decide_eq_false (by omega)]
    · rw [if_neg h1, if_pos (by omega), decide_eq_true (by decide), decide_eq_true (by omega)]
theorem ok_of {q : Nat} (h1 : 1 ≤ q) (h4 : q ≤ 4) {s : Int} (hs : 1 ≤ s ∧ s ≤ 8) : UsOk (lsaOf (q : Int) s) :=
  ⟨by show (1 : Int) ≤ (q : Int); omega, by show (q : Int) ≤ 4; omega, hs.1, by show s ≤ 2147483647; omega, by show (0 : Int) ≤ 0; decide, by show (0 : Int) ≤ 60; decide, rfl⟩
theorem RI.step {l : List S32} {b : Nat → Int} (I : RI l b) {q : Nat} (h1 : 1 ≤ q) (h4 : q ≤ 4) {s : Int} (hs : 1 ≤ s ∧ s ≤ 8) :
    ∃ m, withC l (lsaOf (q : Int) s) = (m, decide (s > b q), 0) ∧ RI m (up5 b q (mx (b q) s)) := by
  obtain ⟨b0, b8, hl⟩ := I.at_ q h1 h4
  have hu := ok_of h1 h4 hs
  have hins : St (ins ukey (lsaOf (q : Int) s) l) = true := ins_rises I.st (sok_iff.2 ⟨hu, by show (0 : Int) < 60; decide⟩) (by show (0 : Int) < (q : Int); omega)
  have hself : L18.look ukey (q : Int) (ins ukey (lsaOf (q : Int) s) l) = some (lsaOf (q : Int) s) := look_ins_self (x := lsaOf (q : Int) s) I.st
  by_cases c : s > b q
  · refine ⟨ins ukey (lsaOf (q : Int) s) l, ?_, hins, fun p p1 p4 => ?_⟩
    · unfold withC
      rw [show L18.look ukey (ukey (lsaOf (q : Int) s)) l = _ from hl]
      by_cases cb : 0 < b q
      · rw [if_pos cb, decide_eq_true c]
        simp only [row_newer, decide_eq_true c, if_true]
        rw [if_neg (by decide)]
      · rw [if_neg cb, decide_eq_true c]
        simp only
        rw [if_neg (by decide)]
    · unfold up5 mx
      by_cases e : p = q
      · subst e
        rw [if_pos rfl, if_pos (by omega)]
        exact ⟨by omega, by omega, by rw [hself, if_pos (by omega)]⟩
      · rw [if_neg e]
        obtain ⟨p0, p8, hp⟩ := I.at_ p p1 p4
        refine ⟨p0, p8, ?_⟩
        rw [look_ins_other (show (p : Int) ≠ ukey (lsaOf (q : Int) s) by show (p : Int) ≠ (q : Int); omega)]
        exact hp
  · refine ⟨l, ?_, I.st, fun p p1 p4 => ?_⟩
    · unfold withC
      rw [show L18.look ukey (ukey (lsaOf (q : Int) s)) l = _ from hl, if_pos (by omega), decide_eq_false c]
      simp only [row_newer, decide_eq_false c]
      rfl
    · unfold up5 mx
      by_cases e : p = q
      · subst e
        rw [if_pos rfl, if_neg (by omega)]
        exact ⟨b0, b8, hl⟩
      · rw [if_neg e]; exact I.at_ p p1 p4
theorem l1_all {l : List S32} {b : Nat → Int} (I : RI l b) : ∀ (d r k : Nat), r + d = 5 → 1 ≤ r → 300 + d ≤ k → watchwordlaw18_StoreRow.l1 k l (r : Int) (b 0) (b 1) (b 2) (b 3) (b 4) = some true := by
  intro d
  induction d with
  | zero =>
    intro r k hr h1 hk
    obtain rfl : r = 5 := by omega
    obtain ⟨k, rfl⟩ : ∃ q, k = q + 1 := ⟨k - 1, by omega⟩
    simp only [watchwordlaw18_StoreRow.l1]
    rw [if_neg (by decide), may_st I.st (by omega)]
    rfl
  | succ d ih =>
    intro r k hr h1 hk
    obtain ⟨k, rfl⟩ : ∃ q, k = q + 1 := ⟨k - 1, by omega⟩
    obtain ⟨b0, b8, hl⟩ := I.at_ r h1 (by omega)
    have hF := Find_f I.st (t := (r : Int)) ⟨by omega, by omega⟩ (show 20 ≤ k by omega)
    rw [show L18.look ukey (r : Int) l = _ from hl] at hF
    simp only [watchwordlaw18_StoreRow.l1]
    rw [if_pos (by omega), hF]
    by_cases c : 0 < b r
    · rw [if_pos c]
      show (if 0 ≤ (r : Int) then (if (r : Int) < 5 then (if (true != decide (ix5 (b 0) (b 1) (b 2) (b 3) (b 4) (r : Int) > 0)) = true then some false else if b r = ix5 (b 0) (b 1) (b 2) (b 3) (b 4) (r : Int) then _ else some false) else none) else none) = some true
      rw [sel5 b (by omega), if_pos (by omega), if_pos (by omega), decide_eq_true (show b r > 0 from c), if_neg (by decide), if_pos rfl, nx (by omega)]
      exact ih (r + 1) k (by omega) (by omega) (by omega)
    · rw [if_neg c]
      show (if 0 ≤ (r : Int) then (if (r : Int) < 5 then (if (false != decide (ix5 (b 0) (b 1) (b 2) (b 3) (b 4) (r : Int) > 0)) = true then some false else if 0 = ix5 (b 0) (b 1) (b 2) (b 3) (b 4) (r : Int) then _ else some false) else none) else none) = some true
      rw [sel5 b (by omega), if_pos (by omega), if_pos (by omega), decide_eq_false (show ¬ b r > 0 by omega), if_neg (by decide), if_pos (by omega), nx (by omega)]
      exact ih (r + 1) k (by omega) (by omega) (by omega)
theorem l0_all {l0 : List Int} (hn : l0.length ≤ 17592186043904) : ∀ (d k i : Nat) (l : List S32) (b : Nat → Int), RI l b → i + d = l0.length → 400 + 2 * d ≤ k → watchwordlaw18_StoreRow.l0 k l0 l (i : Int) (b 0) (b 1) (b 2) (b 3) (b 4) = some true := by
  intro d
  induction d with
  | zero =>
    intro k i l b I hi hk
    obtain ⟨k, rfl⟩ : ∃ q, k = q + 2 := ⟨k - 2, by omega⟩
    simp only [watchwordlaw18_StoreRow.l0]
    rw [if_neg (by omega)]
    simp only [watchwordlaw18_StoreRow.j1]
    rw [if_neg (by decide)]
    exact l1_all I 4 1 k (by omega) (by omega) (by omega)
  | succ d ih =>
    intro k i l b I hi hk
    obtain ⟨k, rfl⟩ : ∃ q, k = q + 2 := ⟨k - 2, by omega⟩
    simp only [watchwordlaw18_StoreRow.l0]
    rw [if_pos (by omega)]
    simp only [watchwordlaw18_StoreRow.j1]
    by_cases c : (i : Int) < 40
    · rw [decide_eq_true c, if_pos rfl, if_pos (by omega), if_pos (by omega)]
      generalize rd l0 (i : Int) = x
      rw [show Go.bits .and .i64 x 3 = x % 4 from and3 x, show Go.bits .and .i64 (x / 4) 7 = x / 4 % 8 from and_mask 3 (by decide) _]
      obtain ⟨q, hq, q1, q4⟩ : ∃ q : Nat, wrap64 (1 + x % 4) = (q : Int) ∧ 1 ≤ q ∧ q ≤ 4 := by
        refine ⟨(1 + x % 4).toNat, ?_, by omega, by omega⟩
        rw [wrap_id (by omega) (by omega)]; omega
      obtain ⟨s, hs, s1, s8⟩ : ∃ s : Int, wrap64 (1 + x / 4 % 8) = s ∧ 1 ≤ s ∧ s ≤ 8 := by
        refine ⟨1 + x / 4 % 8, ?_, by omega, by omega⟩
        rw [wrap_id (by omega) (by omega)]
      rw [hq, hs, sel5 b (by omega)]
      obtain ⟨m, hw, I'⟩ := I.step q1 q4 ⟨s1, s8⟩
      have hW : store_With.f k l (q : Int) s 0 [] = some (withC l (lsaOf (q : Int) s)) := With_f I.st (ok_of q1 q4 ⟨s1, s8⟩) (by omega)
      rw [hW, hw]
      simp only [Option.bind_some, num_f, if_true]
      rw [if_pos (by omega), if_pos (by omega), if_neg (by simp), nx (by omega)]
      have u := up5_at b q (mx (b q) s)
      have u0 := u 0
      have u1 := u 1
      have u2 := u 2
      have u3 := u 3
      have u4 := u 4
      rw [show ((0 : Nat) : Int) = 0 from rfl] at u0
      rw [show ((1 : Nat) : Int) = 1 from rfl] at u1
      rw [show ((2 : Nat) : Int) = 2 from rfl] at u2
      rw [show ((3 : Nat) : Int) = 3 from rfl] at u3
      rw [show ((4 : Nat) : Int) = 4 from rfl] at u4
      rw [u0, u1, u2, u3, u4]
      exact ih k (i + 1) m _ I' (by omega) (by omega)
    · rw [decide_eq_false c, if_neg (by decide)]
      exact l1_all I 4 1 k (by omega) (by omega) (by omega)
theorem core {k : Nat} (l0 : List Int) (hn : l0.length ≤ 17592186043904) (hk : 2 * l0.length + 500 ≤ k) : watchwordlaw18_StoreRow.f k l0 = some true := by
  unfold watchwordlaw18_StoreRow.f
  rw [awake_ok (by omega)]
  simp only [Option.bind_some, if_true]
  exact l0_all hn l0.length k 0 [] (fun _ => 0) ⟨rfl, fun q _ _ => ⟨Int.le_refl _, by decide, rfl⟩⟩ (by omega) (by omega)
theorem StoreRow : ∀ (l0 : List (Int)), (l0.length * 8 ≤ 140737488351232 ∧ l0.length ≤ maxLen ∧ ∀ y ∈ l0, (Lit.int .i64 y).wf = true) → ∃ k, watchwordlaw18_StoreRow.f k l0 = some true := by
  intro l0 h0
  obtain ⟨k, hk⟩ : ∃ k : Nat, 2 * l0.length + 500 ≤ k := ⟨_, Nat.le_refl _⟩
  exact ⟨k, core l0 (by have := h0.1; omega) hk⟩
end Go.Proofs.Ytbpoflicphgokaa.Pure
