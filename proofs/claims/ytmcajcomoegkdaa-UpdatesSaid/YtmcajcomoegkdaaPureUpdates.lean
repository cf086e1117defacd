/- Updates: any Lsas, bytes: the answers are the document's, and the Lsas stay; no condition beyond the row's own. -/
import Derived.Test.YtmcajcomoegkdaaZ10ux4
import Derived.Test.YtmcajcomoegkdaaZ10ux0
namespace Go.Proofs.Ytmcajcomoegkdaa.Pure
open Go.RowKit Go.Proofs.YtmcajcomoegkdaaW.PrintWords Go.Proofs.YtmcajcomoegkdaaW.PrintLast Go.Proofs.YtmcajcomoegkdaaW.PrintMore Go.Proofs.Ytmcajcomoegkdaa.Base Go.Proofs.Ytmcajcomoegkdaa.Q10u Go.Proofs.Ytmcajcomoegkdaa.L10u Go.Proofs.Ytmcajcomoegkdaa.O10u
set_option linter.unusedVariables false

theorem up_num (x : Int) : watchwordlaw0_Num.f x = some x := rfl
theorem up_tell (z : Option (List S24)) (hz : ∀ out, z = some out → upd 0 out = true) : (tellU z).1.length ≤ 4 ∧ ∀ y ∈ (tellU z).1, y.f3.length ≤ 4 := by
  cases z with
  | none => exact ⟨Nat.zero_le _, fun y hy => by cases hy⟩
  | some out => exact ⟨upd_len (hz out rfl), fun y hy => usOk_len (upd_ok out 0 (hz out rfl) y hy)⟩
theorem Updates : ∀ (l0 : List (S24)) (a1 : ByteArray), (l0.length * 48 ≤ 140737488351232 ∧ l0.length ≤ maxLen ∧ ∀ y ∈ l0, R24 y) → a1.size ≤ 140737488351232 → ∃ k, watchwordlaw10_Updates.f k l0 a1 = some true := by
  intro l b hl hb
  refine ⟨l.length + 8796093025301, ?_⟩
  have hM : ∀ x ∈ l, x.f3.length < 8796093022208 := fun x hx => by have := (hl.2.2 x hx).2.2.2.1; omega
  have hn2 : l.length < 2932031007402 := by omega
  have hn : l.length ≤ 9223372036854775807 := by omega
  generalize hk : l.length + 8796093025301 = k0
  obtain ⟨k, rfl⟩ : ∃ q, k0 = q + 1 := ⟨k0 - 1, by omega⟩
  have h1 : l.length + 8796093022208 + 10 < k + 1 := by omega
  have h2 : l.length + 8796093022208 < k + 1 := by omega
  have h3 : l.length + 8796093022208 < k := by omega
  have h4 : 2000 ≤ k := by omega
  have h5 : l.length < k + 1 := by omega
  have hbs : b.size ≤ 281474976710656 := by omega
  clear hl hk hb
  have hz := up_tell (getUpd (B b)) (fun out h => (getUpd_some h).1)
  have e1 := update_Get_f hbs (show 710 ≤ k + 1 by omega)
  have e2 := ref_GetUpd_f hbs (show 1500 ≤ k + 1 by omega)
  rw [refUpd_eq (B_byt b)] at e2
  generalize tellU (getUpd (B b)) = d at hz e1 e2
  unfold watchwordlaw10_Updates.f
  rw [e1, Option.bind_some, if_pos ⟨by omega, fun y hy => by have := hz.2 y hy; omega⟩, copyLsas_f hn2 hM h5, Option.bind_some]
  simp only [watchwordlaw10_Updates.g, up_num, Option.bind_some, e1, e2, update_Put_f hn hM (show 8796093022208 ≤ 9223372036854775807 by omega) h2 (show 35 ≤ k + 1 by omega), ref_PutUpd_f hn hM (show 8796093022208 ≤ 9223372036854775807 by omega) h1 (show 50 ≤ k + 1 by omega),
    update_May_f hn hM (show 8796093022208 ≤ 9223372036854775807 by omega) h2, ref_UpdMay_f hn hM (show 8796093022208 ≤ 9223372036854775807 by omega) h1, if_true]
  have hd5 : ∀ x ∈ d.1, x.f3.length < 5 := fun x hx => by have := hz.2 x hx; omega
  rw [SameU_f (M := 5) (show d.1.length ≤ 9223372036854775807 by omega) hd5 (by omega) (show d.1.length + 5 < k + 1 by omega), decide_eq_true rfl]
  simp only [Option.bind_some, if_true, bne_self_eq_false]
  simp only [watchwordlaw10_Updates.j0, Bool.false_eq_true, if_false]
  rw [SameU_f (M := 5) (show d.1.length ≤ 9223372036854775807 by omega) hd5 (by omega) (show d.1.length + 5 < k by omega), Option.bind_some, SameU_f hn hM (show 8796093022208 ≤ 9223372036854775807 by omega) h3, decide_eq_true rfl, Option.bind_some, if_pos rfl, awake_ok (show 800 ≤ k by omega), Option.bind_some]

end Go.Proofs.Ytmcajcomoegkdaa.Pure
