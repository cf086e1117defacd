/- StoreNewest: what was taken is there, or gone; taken again it is not taken; others are as they were; no condition beyond the row's own. -/
import Derived.Test.YtbpoflicphgokaaQ18x106
import Derived.Test.YtbpoflicphgokaaZ18x4
namespace Go.Proofs.Ytbpoflicphgokaa.Pure
open Go.RowKit Go.Proofs.YtbpoflicphgokaaW.PrintWords Go.Proofs.YtbpoflicphgokaaW.PrintMore Go.Proofs.Ytbpoflicphgokaa.Base Go.Proofs.Ytbpoflicphgokaa.Q18 Go.Proofs.Ytbpoflicphgokaa.L18 Go.Proofs.Ytbpoflicphgokaa.O18
set_option linter.unusedVariables false
set_option linter.unusedSimpArgs false
/-- The other routers' are as they were. -/
theorem others {l m : List S32} (hl : St l = true) (hm : St m = true) {x : S32} (ho : ∀ q, q ≠ ukey x → L18.look ukey q m = L18.look ukey q l) : ∀ (d k i : Nat), i + d = l.length → 300 + d ≤ k →
    watchwordlaw18_StoreNewest.l0 k l m (i : Int) x.f0 x.f1 x.f2 x.f3 = some true := by
  have h4 := st_len hl
  intro d
  induction d with
  | zero =>
    intro k i hi hk
    obtain ⟨k, rfl⟩ : ∃ q, k = q + 1 := ⟨k - 1, by omega⟩
    simp only [watchwordlaw18_StoreNewest.l0]
    rw [if_neg (by omega), may_st hm (by omega)]
    rfl
  | succ d ih =>
    intro k i hi hk
    obtain ⟨k, rfl⟩ : ∃ q, k = q + 1 := ⟨k - 1, by omega⟩
    have hlt : i < l.length := by omega
    have hs := rises_ok hl hlt
    have hu := (sok_iff.1 hs).1
    have hn := ih k (i + 1) (by omega) (by omega)
    simp only [watchwordlaw18_StoreNewest.l0]
    rw [if_pos (by omega), if_pos (by omega), rdU_at hlt, Find_f hm ⟨hu.1, hu.2.1⟩ (by omega), nx (by omega)]
    simp only [Option.bind_some]
    by_cases c : l[i].f0 = x.f0
    · rw [if_pos c]; exact hn
    · rw [if_neg c, show L18.look ukey l[i].f0 m = some l[i] from (ho _ c).trans (look_at hl i hlt)]
      have hlen := usOk_len hu
      simp only [tellF, if_true]
      rw [same_lsa l[i] (by omega) (by omega)]
      simp only [Option.bind_some, if_true]
      exact hn
theorem core {k M : Nat} (l0 : List S32) (x : S32) (hl : l0.length ≤ 2932031007402) (hM : ∀ y ∈ l0, y.f3.length < M) (hM2 : M ≤ 9223372036854775807) (hx : x.f3.length ≤ 9223372036854775807) (hk : l0.length + M + x.f3.length + 600 ≤ k) :
    watchwordlaw18_StoreNewest.f k l0 x.f0 x.f1 x.f2 x.f3 = some true := by
  unfold watchwordlaw18_StoreNewest.f
  rw [awake_ok (by omega)]
  simp only [Option.bind_some, if_true]
  by_cases h : St l0 = true ∧ LsaOk x.f0 x.f1 x.f2 x.f3
  · obtain ⟨hs, hu⟩ := h
    have hu' : UsOk x := hu
    have hlx := usOk_len hu'
    have h4 := st_len hs
    have hs2 := with_st hs hu'
    rw [With_f hs hu' (by omega)]
    simp only [Option.bind_some, num_f]
    have j0 : ∀ m : List S32, St m = true → (∀ q, q ≠ ukey x → L18.look ukey q m = L18.look ukey q l0) → watchwordlaw18_StoreNewest.j0 k l0 m false x.f0 x.f1 x.f2 x.f3 = some true := by
      intro m hm ho
      obtain ⟨k, rfl⟩ : ∃ q, k = q + 1 := ⟨k - 1, by omega⟩
      simp only [watchwordlaw18_StoreNewest.j0]
      rw [if_neg (by decide)]
      exact others hs hm ho l0.length k 0 (by omega) (by omega)
    rcases with_cases hs hu' with e | ⟨hg, e⟩ | ⟨hg, e, y, hy⟩
    · rw [e]
      simp only [if_true]
      rw [if_neg (by decide), same_lsas hs (by omega)]
      rfl
    · rw [e] at hs2 ⊢
      simp only [if_true]
      have lk : L18.look ukey (ukey x) (ins ukey x l0) = some x := look_ins_self hs
      have e2 : withC (ins ukey x l0) x = (ins ukey x l0, false, 0) := by
        unfold withC; rw [lk]; simp only [nwr_self]; rfl
      rw [With_f hs2 hu' (by omega), e2]
      simp only [Option.bind_some]
      rw [show store_Find.f k (ins ukey x l0) x.f0 = some (tellF (L18.look ukey (ukey x) (ins ukey x l0))) from Find_f hs2 ⟨hu.1, hu.2.1⟩ (by omega), lk]
      simp only [Option.bind_some, num_f, tellF, if_true]
      rw [if_neg (by decide), same_lsas hs2 (by omega)]
      simp only [Option.bind_some, if_true]
      rw [decide_eq_true hg, if_neg (by decide), same_lsa x (by omega) (by omega)]
      simp only [Option.bind_some, Bool.not_true]
      exact j0 _ hs2 (fun q hq => look_ins_other hq)
    · rw [e] at hs2 ⊢
      simp only [if_true]
      have lk : L18.look ukey (ukey x) (del (ukey x) l0) = none := look_del_self hs
      have e2 : withC (del (ukey x) l0) x = (del (ukey x) l0, false, 0) := by
        unfold withC; rw [lk]; simp only [hg, if_true]
      rw [With_f hs2 hu' (by omega), e2]
      simp only [Option.bind_some]
      rw [show store_Find.f k (del (ukey x) l0) x.f0 = some (tellF (L18.look ukey (ukey x) (del (ukey x) l0))) from Find_f hs2 ⟨hu.1, hu.2.1⟩ (by omega), lk]
      simp only [Option.bind_some, num_f, tellF, if_true]
      rw [if_neg (by decide), same_lsas hs2 (by omega)]
      simp only [Option.bind_some, if_true]
      rw [decide_eq_false (show ¬ x.f2 < 60 by omega), if_neg (by decide), if_neg (by decide)]
      exact j0 _ hs2 (fun q hq => look_del_other hq)
  · rw [With_bad (by omega) hM hM2 (by omega) hx (by omega) (by omega) h]
    simp [num_f]
theorem StoreNewest : ∀ (l0 : List (S32)) (a1_0 : Int) (a1_1 : Int) (a1_2 : Int) (l1_3 : List (S56)), (l0.length * 48 ≤ 140737488351232 ∧ l0.length ≤ maxLen ∧ ∀ y ∈ l0, R32 y) → (Lit.int .i64 a1_0).wf = true → (Lit.int .i64 a1_1).wf = true → (Lit.int .i64 a1_2).wf = true → (l1_3.length * 16 ≤ 140737488351232 ∧ l1_3.length ≤ maxLen ∧ ∀ y ∈ l1_3, R56 y) → ∃ k, watchwordlaw18_StoreNewest.f k l0 a1_0 a1_1 a1_2 l1_3 = some true := by
  intro l0 a0 a1 a2 l1 h0 _ _ _ h1
  obtain ⟨k, hk⟩ : ∃ k : Nat, l0.length + 8796093022209 + l1.length + 600 ≤ k := ⟨_, Nat.le_refl _⟩
  exact ⟨k, core l0 ⟨a0, a1, a2, l1⟩ (by have := h0.1; omega) (M := 8796093022209) (fun y hy => by have := (h0.2.2 y hy).2.2.2.1; omega) (by omega) (by have := h1.1; show l1.length ≤ _; omega) hk⟩
end Go.Proofs.Ytbpoflicphgokaa.Pure
