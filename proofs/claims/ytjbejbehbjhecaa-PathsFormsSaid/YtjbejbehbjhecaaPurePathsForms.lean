/- PathsForms: costs and routers that may not be; no condition beyond the row's own. -/
import Derived.Test.YtjbejbehbjhecaaQ21x105
import Derived.Test.YtjbejbehbjhecaaA21
namespace Go.Proofs.Ytjbejbehbjhecaa.Pure
open Go.RowKit Go.Proofs.YtjbejbehbjhecaaW.PrintWords Go.Proofs.YtjbejbehbjhecaaW.PrintMore Go.Proofs.Ytjbejbehbjhecaa.Base Go.Proofs.Ytjbejbehbjhecaa.Q21 Go.Proofs.Ytjbejbehbjhecaa.L21
set_option linter.unusedVariables false
set_option maxRecDepth 100000
theorem PathsForms : watchwordlaw21_PathsForms.Pure := by
  intro a0 a1 w0 w1
  refine ⟨200, ?_⟩
  have hz : ans (mk 0 0 0 0 0 0 0 0 0 0 0 0 0 0 0 0) 2 = ([], 0) := by kernel_rfl
  unfold watchwordlaw21_PathsForms.f
  rw [awake_f]
  simp only [Option.bind_some, if_true]
  rw [show Go.bits .and .i64 a0 3 = a0 % 4 from and_mask 2 (by decide) a0, show Go.bits .and .i64 (a0 / 4) 3 = a0 / 4 % 4 from and_mask 2 (by decide) _,
    show Go.bits .and .i64 (a0 / 16) 1 = a0 / 16 % 2 from and_mask 1 (by decide) _, show Go.bits .and .i64 a1 1023 = a1 % 1024 from and_mask 10 (by decide) a1]
  obtain ⟨r, hr, er⟩ : ∃ r : Nat, r < 4 ∧ a0 % 4 = (r : Int) := ⟨(a0 % 4).toNat, by omega, by omega⟩
  obtain ⟨c, hc, ec⟩ : ∃ c : Nat, c < 4 ∧ a0 / 4 % 4 = (c : Int) := ⟨(a0 / 4 % 4).toNat, by omega, by omega⟩
  rw [er, ec, show wrap64 (1 + a1 % 1024) = 1 + a1 % 1024 by unfold wrap64; omega, show wrap64 (-(1 + a1 % 1024)) = -(1 + a1 % 1024) by unfold wrap64; omega,
    show wrap64 (65535 + (1 + a1 % 1024)) = 65535 + (1 + a1 % 1024) by unfold wrap64; omega, show wrap64 (1 - (1 + a1 % 1024)) = 1 - (1 + a1 % 1024) by unfold wrap64; omega,
    show wrap64 (4 + (1 + a1 % 1024)) = 4 + (1 + a1 % 1024) by unfold wrap64; omega]
  have hv : ∃ v : Int, rd [-(1 + a1 % 1024), 65535 + (1 + a1 % 1024)] (a0 / 16 % 2) = v ∧ (v < 0 ∨ 65535 < v) := by
    have : a0 / 16 % 2 = 0 ∨ a0 / 16 % 2 = 1 := by omega
    rcases this with e | e <;> rw [e]
    · exact ⟨_, rfl, .inl (by show -(1 + a1 % 1024) < 0; omega)⟩
    · exact ⟨_, rfl, .inr (by show 65535 < 65535 + (1 + a1 % 1024); omega)⟩
  obtain ⟨v, ev, hv⟩ := hv
  rw [ev]
  obtain ⟨u1, u2, u3, u4, u5, u6, u7, u8, u9, u10, u11, u12, u13, u14, u15, u16⟩ := ups (fun _ _ => 0) r c v
  rw [if_pos (show 0 ≤ a0 / 16 % 2 by omega), if_pos (show a0 / 16 % 2 < (([-(1 + a1 % 1024), 65535 + (1 + a1 % 1024)].length : Nat) : Int) by show a0 / 16 % 2 < 2; omega), if_pos (show 0 ≤ (r : Int) by omega), if_pos (show (r : Int) < 4 by omega), if_pos (show 0 ≤ (c : Int) by omega), if_pos (show (c : Int) < 4 by omega)]
  rw [u1, u2, u3, u4, u5, u6, u7, u8, u9, u10, u11, u12, u13, u14, u15, u16]
  rw [Routes_c 0 0 0 0 0 0 0 0 0 0 0 0 0 0 0 0 0 2, hz, Routes_c 0 0 0 0 0 0 0 0 0 0 0 0 0 0 0 0 0 (1 - (1 + a1 % 1024)), ans_bad (c := mk 0 0 0 0 0 0 0 0 0 0 0 0 0 0 0 0) (a := 1 - (1 + a1 % 1024)) (by omega),
    Routes_c 0 0 0 0 0 0 0 0 0 0 0 0 0 0 0 0 0 (4 + (1 + a1 % 1024)), ans_bad (c := mk 0 0 0 0 0 0 0 0 0 0 0 0 0 0 0 0) (a := 4 + (1 + a1 % 1024)) (by omega)]
  rw [show paths_Routes.f 200 _ _ _ _ _ _ _ _ _ _ _ _ _ _ _ _ 1 = some (ans (upd2 (fun _ _ => 0) r c v) 1) from Routes_f 0 (upd2 (fun _ _ => 0) r c v) 1, ans_bad (by rw [May_bad 0 hr hc hv]; simp)]
  simp [num_ok, num_bad]
end Go.Proofs.Ytjbejbehbjhecaa.Pure
