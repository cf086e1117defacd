/- Lsas: any Lsa, bytes, place: the answers are the document's, the argument stays; no condition beyond the row's own. -/
import Derived.Test.YtmcajcomoegkdaaQ7x103
import Derived.Test.YtmcajcomoegkdaaZ7x4
import Derived.Test.YtmcajcomoegkdaaZ7x0
namespace Go.Proofs.Ytmcajcomoegkdaa.Pure
open Go.RowKit Go.Proofs.YtmcajcomoegkdaaW.PrintWords Go.Proofs.YtmcajcomoegkdaaW.PrintLast Go.Proofs.YtmcajcomoegkdaaW.PrintMore Go.Proofs.Ytmcajcomoegkdaa.Base Go.Proofs.Ytmcajcomoegkdaa.Q7 Go.Proofs.Ytmcajcomoegkdaa.L7 Go.Proofs.Ytmcajcomoegkdaa.R7 Go.Proofs.Ytmcajcomoegkdaa.O7
set_option linter.unusedVariables false

theorem ls_num (x : Int) : watchwordlaw0_Num.f x = some x := rfl
theorem ls_copy {r s g : Int} {l : List S49} (hl : l.length < 8796093022208) : watchwordlaw0_CopyLsa.f r s g l = some (r, s, g, l) := by
  simp only [watchwordlaw0_CopyLsa.f, Option.bind_some, List.length_nil, List.nil_append]
  rw [if_pos (by omega)]
theorem ls_spoil : ∀ (d k i : Nat) (l : List S49), l.length ≤ 1000 → i + d = l.length → d < k → ∃ m, watchwordlaw0_SpoilLinks.l0 k l (i : Int) = some m := by
  intro d
  induction d with
  | zero =>
    intro k i l hl hi hk
    obtain ⟨k, rfl⟩ : ∃ m, k = m + 1 := ⟨k - 1, by omega⟩
    simp only [watchwordlaw0_SpoilLinks.l0]
    exact ⟨l, if_neg (by omega)⟩
  | succ d ih =>
    intro k i l hl hi hk
    obtain ⟨k, rfl⟩ : ∃ m, k = m + 1 := ⟨k - 1, by omega⟩
    have h4 : wrap64 ((i : Int) + 1) = ((i + 1 : Nat) : Int) := wrap_nn rfl (by omega)
    simp only [watchwordlaw0_SpoilLinks.l0, h4]
    rw [if_pos (by omega), if_pos (by omega)]
    exact ih k (i + 1) _ (by rw [List.length_set]; exact hl) (by rw [List.length_set]; omega) (by omega)
theorem ls_spoil_f {l : List S49} (hl : l.length ≤ 4) {k : Nat} (hk : 5 ≤ k) : ∃ m, watchwordlaw0_SpoilLinks.f k l = some m :=
  ls_spoil l.length k 0 l (by omega) (by omega) (by omega)
theorem ls_tell {at_ : Int} {b : List Int} {c : Prop} [Decidable c] : (tellL at_ (if c then getLsa b else none)).2.2.2.1.length ≤ 4 := by
  by_cases h : c
  · rw [if_pos h]
    cases hg : getLsa b with
    | none => exact Nat.zero_le _
    | some z =>
      obtain ⟨r, s, g, l, sz⟩ := z
      exact links_len (get_some hg).1.2.2.2.2.2.2
  · rw [if_neg h]; exact Nat.zero_le _
theorem Lsas : ∀ (a0_0 : Int) (a0_1 : Int) (a0_2 : Int) (l0_3 : List (S49)) (a1 : ByteArray) (a2 : Int), (Lit.int .i64 a0_0).wf = true → (Lit.int .i64 a0_1).wf = true → (Lit.int .i64 a0_2).wf = true → (l0_3.length * 16 ≤ 140737488351232 ∧ l0_3.length ≤ maxLen ∧ ∀ y ∈ l0_3, R49 y) → a1.size ≤ 140737488351232 → (Lit.int .i64 a2).wf = true → ∃ k, watchwordlaw7_Lsas.f k a0_0 a0_1 a0_2 l0_3 a1 a2 = some true := by
  intro r s g l b p _ _ _ hl hb hp
  have hw : -9223372036854775808 ≤ p ∧ p ≤ 9223372036854775807 := by
    have h := hp; simp [Lit.wf, IntKind.min, IntKind.max, IntKind.signed, IntKind.bits] at h; omega
  refine ⟨l.length + 801, ?_⟩
  have hn : l.length < 8796093022208 := by omega
  generalize hk : l.length + 801 = k0
  obtain ⟨k, rfl⟩ : ∃ q, k0 = q + 1 := ⟨k0 - 1, by omega⟩
  have h1 : l.length + 10 < k := by omega
  have h2 : 700 ≤ k := by omega
  have hn' : l.length ≤ 9223372036854775807 := by omega
  clear hl hp hk
  simp only [watchwordlaw7_Lsas.f, ls_copy hn, ls_num, Option.bind_some, lsa_Put_f hn' (show l.length < k + 1 by omega) (show 20 ≤ k + 1 by omega), ref_Put_f hn' (show l.length + 10 < k + 1 by omega) (show 30 ≤ k + 1 by omega),
    lsa_Get_f (show b.size ≤ 281474976710656 by omega) hw (show 600 ≤ k + 1 by omega), ref_Get_f (show b.size ≤ 281474976710656 by omega) hw (show 600 ≤ k + 1 by omega),
    lsa_Head_f hn' (show l.length < k + 1 by omega) (show 20 ≤ k + 1 by omega), ref_Head_f hn' (show l.length + 10 < k + 1 by omega) (show 30 ≤ k + 1 by omega),
    lsa_May_f hn' (show l.length < k + 1 by omega), ref_May_f hn' (show l.length < k + 1 by omega), if_true]
  have hz := ls_tell (at_ := p) (b := (B b).drop p.toNat) (c := 0 ≤ p)
  generalize tellL p (if 0 ≤ p then getLsa ((B b).drop p.toNat) else none) = d at hz ⊢
  generalize (if LsaOk r s g l then (r, s, g, flSum (bodyB r s l), (0 : Int)) else (0, 0, 0, 0, 700)) = u
  rw [SameLsa_f (show d.2.2.2.1.length ≤ 9223372036854775807 by omega) (show d.2.2.2.1.length < k + 1 by omega), decide_eq_true ⟨rfl, rfl, rfl, rfl⟩]
  simp only [Option.bind_some, if_true, beq_self_eq_true, Bool.not_true, Bool.or_false, Bool.false_eq_true, if_false, bne_self_eq_false]
  obtain ⟨m, hm⟩ := ls_spoil_f hz (k := k) (by omega)
  simp only [watchwordlaw7_Lsas.j0, Bool.false_eq_true, if_false]
  rw [hm, Option.bind_some, SameLsa_f hn' (show l.length < k by omega), decide_eq_true ⟨rfl, rfl, rfl, rfl⟩, Option.bind_some, if_pos rfl, awake_ok h2, Option.bind_some]

end Go.Proofs.Ytmcajcomoegkdaa.Pure
