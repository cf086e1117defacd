/- ChainForms: keys, chains and times that may not be, are told; no condition beyond the row's own. -/
import Derived.Test.YtabjambabnbmnaaQ5x110
import Derived.Test.YtabjambabnbmnaaA5
namespace Go.Proofs.Ytabjambabnbmnaa.Pure
open Go.RowKit Go.Proofs.YtabjambabnbmnaaW.PrintWords Go.Proofs.YtabjambabnbmnaaW.PrintLast Go.Proofs.YtabjambabnbmnaaW.PrintMore Go.Proofs.Ytabjambabnbmnaa.Base Go.Proofs.Ytabjambabnbmnaa.Q5 Go.Proofs.Ytabjambabnbmnaa.L5
set_option linter.unusedVariables false

theorem and1023'' (n : Int) : Go.bits .and .i64 n 1023 = n % 1024 := and_mask 10 (by decide) n
/-- A key that may be; four of them. -/
def gK (i : Int) : S50 := ⟨i, ⟨#[115]⟩, 0, 9, 0, 9⟩
def full4 : List S50 := [gK 10, gK 11, gK 12, gK 13]
theorem chainNo {b : S50} {l : List S50} (hb : ¬ KeyOk b) : ¬ chainOk (b :: l) = true := by
  intro h
  exact hb (kok_iff.mp (rises_cons.mp (chainOk_iff.mp h).1).1.1)
theorem l_step {d i : Int} {l : List S50} {b : S50} {k : Nat} (h : i < 4) (h0 : 0 ≤ i) (hl : i < (l.length : Int)) :
    watchwordlaw5_ChainForms.l0 (k + 1) d l i 3 ⟨#[115]⟩ 0 9 0 9 b.f0 b.f1 b.f2 b.f3 b.f4 b.f5 = watchwordlaw5_ChainForms.l0 k d (l.set i.toNat ⟨wrap64 (10 + i), (rd_T50 l i).f1, (rd_T50 l i).f2, (rd_T50 l i).f3, (rd_T50 l i).f4, (rd_T50 l i).f5⟩) (wrap64 (i + 1)) 3 ⟨#[115]⟩ 0 9 0 9 b.f0 b.f1 b.f2 b.f3 b.f4 b.f5 := by
  rw [watchwordlaw5_ChainForms.l0, if_pos h, if_pos h0, if_pos hl]
theorem forms_l {d : Int} {b : S50} : watchwordlaw5_ChainForms.j0 200 d 3 ⟨#[115]⟩ 0 9 0 9 b.f0 b.f1 b.f2 b.f3 b.f4 b.f5 = watchwordlaw5_ChainForms.l0 195 d full4 4 3 ⟨#[115]⟩ 0 9 0 9 b.f0 b.f1 b.f2 b.f3 b.f4 b.f5 := by
  rw [show (200 : Nat) = 199 + 1 from rfl, watchwordlaw5_ChainForms.j0]
  show watchwordlaw5_ChainForms.l0 (198 + 1) d [gK 3, gK 3, gK 3, gK 3] 0 3 ⟨#[115]⟩ 0 9 0 9 b.f0 b.f1 b.f2 b.f3 b.f4 b.f5 = _
  rw [l_step (by decide) (by decide) (by decide), show wrap64 (10 + 0) = 10 from wrap_id (by decide) (by decide), show wrap64 (0 + 1) = 1 from wrap_id (by decide) (by decide)]
  show watchwordlaw5_ChainForms.l0 (197 + 1) d [gK 10, gK 3, gK 3, gK 3] 1 3 ⟨#[115]⟩ 0 9 0 9 b.f0 b.f1 b.f2 b.f3 b.f4 b.f5 = _
  rw [l_step (by decide) (by decide) (by decide), show wrap64 (10 + 1) = 11 from wrap_id (by decide) (by decide), show wrap64 (1 + 1) = 2 from wrap_id (by decide) (by decide)]
  show watchwordlaw5_ChainForms.l0 (196 + 1) d [gK 10, gK 11, gK 3, gK 3] 2 3 ⟨#[115]⟩ 0 9 0 9 b.f0 b.f1 b.f2 b.f3 b.f4 b.f5 = _
  rw [l_step (by decide) (by decide) (by decide), show wrap64 (10 + 2) = 12 from wrap_id (by decide) (by decide), show wrap64 (2 + 1) = 3 from wrap_id (by decide) (by decide)]
  show watchwordlaw5_ChainForms.l0 (195 + 1) d [gK 10, gK 11, gK 12, gK 3] 3 3 ⟨#[115]⟩ 0 9 0 9 b.f0 b.f1 b.f2 b.f3 b.f4 b.f5 = _
  rw [l_step (by decide) (by decide) (by decide), show wrap64 (10 + 3) = 13 from wrap_id (by decide) (by decide), show wrap64 (3 + 1) = 4 from wrap_id (by decide) (by decide)]
  rfl
theorem forms_j0 {b : S50} {d : Int} (hd : 1 ≤ d ∧ d ≤ 1024) (hb : ¬ KeyOk b) : watchwordlaw5_ChainForms.j0 200 d 3 ⟨#[115]⟩ 0 9 0 9 b.f0 b.f1 b.f2 b.f3 b.f4 b.f5 = some true := by
  rw [forms_l]
  have hk : ¬ kok b = true := fun h => hb (kok_iff.mp h)
  have hc := chainNo (l := []) hb
  have hb' : (⟨b.f0, b.f1, b.f2, b.f3, b.f4, b.f5⟩ : S50) = b := rfl
  have w1 : wrap64 (-d) = -d := wrap_id (by omega) (by omega)
  have w2 : wrap64 (1048576 + d) = 1048576 + d := wrap_id (by omega) (by omega)
  have c4 : chainOk full4 = true := by decide +kernel
  have h1 : chain_With.f 194 [] b.f0 b.f1 b.f2 b.f3 b.f4 b.f5 = some ([], 500) := by
    rw [chain_With_f (by simp) (by simp)]; unfold withK; rw [if_neg (fun h => hk h.2.1)]
  have h2 : chain_With.f 194 [b] 3 ⟨#[115]⟩ 0 9 0 9 = some ([], 500) := by
    rw [show chain_With.f 194 [b] 3 ⟨#[115]⟩ 0 9 0 9 = chain_With.f 194 [b] (gK 3).f0 (gK 3).f1 (gK 3).f2 (gK 3).f3 (gK 3).f4 (gK 3).f5 from rfl, chain_With_f (by simp) (by simp)]; unfold withK; rw [if_neg (fun h => hc h.1)]
  have h3 : chain_Send.f 194 [b] 5 = some tupForm := by rw [chain_Send_f (by simp) (by simp), if_neg (fun h => hc h.1)]
  have h4 : chain_Accept.f 194 [b] 3 5 = some tupForm := by rw [chain_Accept_f (by simp) (by simp) (by decide), if_neg (fun h => hc h.1)]
  have h5 : chain_With.f 194 full4 3 ⟨#[115]⟩ 0 9 0 9 = some ([], 500) := by
    rw [show chain_With.f 194 full4 3 ⟨#[115]⟩ 0 9 0 9 = chain_With.f 194 full4 (gK 3).f0 (gK 3).f1 (gK 3).f2 (gK 3).f3 (gK 3).f4 (gK 3).f5 from rfl, chain_With_f (by decide) (by decide)]; unfold withK; rw [if_neg (fun h => by
      rcases h.2.2 with h | h
      · exact absurd h (by decide)
      · exact h rfl)]
  have h6 : chain_With.f 194 full4 (rd_T50 full4 2).f0 (rd_T50 full4 2).f1 (rd_T50 full4 2).f2 (rd_T50 full4 2).f3 (rd_T50 full4 2).f4 (rd_T50 full4 2).f5 = some (full4, 0) := by
    rw [chain_With_f (by decide) (by decide)]; unfold withK; rw [if_pos ⟨c4, by decide +kernel, .inl (by decide)⟩]; rfl
  have h7 : chain_Send.f 194 full4 (-d) = some tupForm := by rw [chain_Send_f (by decide) (by decide), if_neg (by omega)]
  have h8 : chain_Accept.f 194 full4 10 (1048576 + d) = some tupForm := by rw [chain_Accept_f (by decide) (by decide) (by decide), if_neg (by omega)]
  have h9 : chain_May.f 194 [b] = some false := by rw [chain_May_f (by simp) (by simp)]; simpa using hc
  have h10 : chain_May.f 194 [⟨3, ⟨#[115]⟩, 0, 9, 0, 9⟩, ⟨3, ⟨#[115]⟩, 0, 9, 0, 9⟩] = some false := by rw [chain_May_f (by simp) (by simp)]; decide +kernel
  have h11 : chain_May.f 194 full4 = some true := by rw [chain_May_f (by decide) (by decide), c4]
  have h12 : watchwordlaw0_SameKeys.f 194 full4 full4 = some true := by decide +kernel
  have hlen : (full4.length : Int) = 4 := rfl
  have hf : tupForm.2.2.2.2.2.2 = 500 := rfl
  rw [show (195 : Nat) = 194 + 1 from rfl, watchwordlaw5_ChainForms.l0, if_neg (by decide)]
  simp only [hb', h1, h2, h3, h4, h5, h6, h7, h8, h9, h10, h11, h12, w1, w2, hlen, hf, Option.bind_some, watchwordlaw0_Num.f, if_true, Bool.false_eq_true, if_false]
  rfl
theorem keyNo {a b c d e : Int} {s : ByteArray} (h : ¬ ((0 ≤ a ∧ a ≤ 255) ∧ (1 ≤ s.size ∧ s.size ≤ 32) ∧ (0 ≤ b ∧ b ≤ 1048576) ∧ (0 ≤ c ∧ c ≤ 1048576) ∧ (0 ≤ d ∧ d ≤ 1048576) ∧ (0 ≤ e ∧ e ≤ 1048576))) : ¬ KeyOk (⟨a, s, b, c, d, e⟩ : S50) := h
theorem ChainForms : watchwordlaw5_ChainForms.Pure := by
  intro a0 a1 _ _
  refine ⟨200, ?_⟩
  have hd0 := Int.emod_nonneg a1 (show (1024 : Int) ≠ 0 by decide)
  have hd1 := Int.emod_lt_of_pos a1 (show (0 : Int) < 1024 by decide)
  unfold watchwordlaw5_ChainForms.f
  rw [and1023'' a1]
  generalize a1 % 1024 = d at hd0 hd1 ⊢
  generalize Int.tmod (IntKind.u64.wrap a0) 12 = q
  have w1 : wrap64 (1 + d) = 1 + d := wrap_id (by omega) (by omega)
  have w2 : wrap64 (-(1 + d)) = -(1 + d) := wrap_id (by omega) (by omega)
  have w3 : wrap64 (255 + (1 + d)) = 255 + (1 + d) := wrap_id (by omega) (by omega)
  have w4 : wrap64 (1048576 + (1 + d)) = 1048576 + (1 + d) := wrap_id (by omega) (by omega)
  have w5 : wrap64 (32 + (1 + d)) = 32 + (1 + d) := wrap_id (by omega) (by omega)
  rw [w1, w2, w3, w4, w5, awake_ok (show 100 ≤ 200 by decide)]
  clear w1 w2 w3 w4 w5
  rw [Option.bind_some, if_pos rfl]
  have F : ∀ b : S50, ¬ KeyOk b → watchwordlaw5_ChainForms.j0 200 (1 + d) 3 ⟨#[115]⟩ 0 9 0 9 b.f0 b.f1 b.f2 b.f3 b.f4 b.f5 = some true := fun b h => forms_j0 (by omega) h
  by_cases c0 : q = 0
  · rw [if_pos c0]
    exact F ⟨-(1 + d), ⟨#[115]⟩, 0, 9, 0, 9⟩ (keyNo (by omega))
  rw [if_neg c0]
  by_cases c1 : q = 1
  · rw [if_pos c1]
    exact F ⟨255 + (1 + d), ⟨#[115]⟩, 0, 9, 0, 9⟩ (keyNo (by omega))
  rw [if_neg c1]
  by_cases c2 : q = 2
  · rw [if_pos c2]
    exact F ⟨3, ⟨#[]⟩, 0, 9, 0, 9⟩ (keyNo (fun h => absurd h.2.1.1 (by decide)))
  rw [if_neg c2]
  by_cases c3 : q = 3
  · rw [if_pos c3]
    rw [if_pos (by omega), if_pos (by omega)]
    refine F ⟨3, strOfNums (List.replicate (32 + (1 + d) : Int).toNat 0), 0, 9, 0, 9⟩ (keyNo (fun h => ?_))
    have h1 := h.2.1.2
    have h2 : (strOfNums (List.replicate (32 + (1 + d) : Int).toNat 0)).size = (32 + (1 + d) : Int).toNat := by
      rw [strOf_size, List.length_replicate]
    omega
  rw [if_neg c3]
  by_cases c4 : q = 4
  · rw [if_pos c4]
    exact F ⟨3, ⟨#[115]⟩, -(1 + d), 9, 0, 9⟩ (keyNo (by omega))
  rw [if_neg c4]
  by_cases c5 : q = 5
  · rw [if_pos c5]
    exact F ⟨3, ⟨#[115]⟩, 0, 1048576 + (1 + d), 0, 9⟩ (keyNo (by omega))
  rw [if_neg c5]
  by_cases c6 : q = 6
  · rw [if_pos c6]
    exact F ⟨3, ⟨#[115]⟩, 0, 9, 1048576 + (1 + d), 9⟩ (keyNo (by omega))
  rw [if_neg c6]
  by_cases c7 : q = 7
  · rw [if_pos c7]
    exact F ⟨3, ⟨#[115]⟩, 0, 9, 0, -(1 + d)⟩ (keyNo (by omega))
  rw [if_neg c7]
  by_cases c8 : q = 8
  · rw [if_pos c8]
    exact F ⟨3, ⟨#[115]⟩, 0, -(1 + d), 0, 9⟩ (keyNo (by omega))
  rw [if_neg c8]
  by_cases c9 : q = 9
  · rw [if_pos c9]
    exact F ⟨3, ⟨#[115]⟩, 1048576 + (1 + d), 9, 0, 9⟩ (keyNo (by omega))
  rw [if_neg c9]
  by_cases c10 : q = 10
  · rw [if_pos c10]
    exact F ⟨3, ⟨#[115]⟩, 0, 9, -(1 + d), 9⟩ (keyNo (by omega))
  rw [if_neg c10]
  exact F ⟨3, ⟨#[115]⟩, 0, 9, 0, 1048576 + (1 + d)⟩ (keyNo (by omega))

end Go.Proofs.Ytabjambabnbmnaa.Pure
