/- The struct types of this family, opened: what reads as one is told as the print tells it. -/
import Derived.Test.YtabjambabnbmnaaQ5x0
import Derived.Test.YtabjambabnbmnaaOpn
namespace Go.Proofs.Ytabjambabnbmnaa.O5
open Go.RowKit Go.Proofs.YtabjambabnbmnaaW.PrintWords Go.Proofs.YtabjambabnbmnaaW.PrintLast Go.Proofs.YtabjambabnbmnaaW.PrintMore Go.Proofs.Ytabjambabnbmnaa.Opn Go.Proofs.Ytabjambabnbmnaa.Q5
open Go.Joins Go.ChangeShapes Go.WideShapes Go.Deep
set_option linter.unusedVariables false

def R50 (x : S50) : Prop := (Lit.int .i64 x.f0).wf = true ∧ x.f1.size ≤ 140737488351232 ∧ (Lit.int .i64 x.f2).wf = true ∧ (Lit.int .i64 x.f3).wf = true ∧ (Lit.int .i64 x.f4).wf = true ∧ (Lit.int .i64 x.f5).wf = true
set_option maxRecDepth 100000 in
theorem opn50 : Opn Try.prog 50 k50 R50 := by
  intro H enc w base spare held fuel cs x h hw
  obtain ⟨xs, n, _, rfl, hl, hlen, hf⟩ := DataW.trod_struct Try.underlying50 h
  have hl' : cs.length = 6 := hl.trans (by kernel_rfl)
  match cs, hl', xs, hlen with
  | [c0, c1, c2, c3, c4, c5], _, [y0, y1, y2, y3, y4, y5], _ =>
    have g0 : DataW.trod enc Try.prog w base spare held n 3 [c0] = some y0 := by
      have hk : Try.prog.cellsOf 3 = 1 := by kernel_rfl
      have z : DataW.trod enc Try.prog w base spare held n 3 ((([c0, c1, c2, c3, c4, c5] : List Value).drop 0).take (Try.prog.cellsOf 3)) = some y0 := hf 0 _ rfl
      rw [hk] at z
      exact z
    obtain ⟨a0, e0, r0⟩ := (opn_int Try.underlying3) g0 (wt_field (j := 0) Try.underlying50 hw rfl rfl)
    have g1 : DataW.trod enc Try.prog w base spare held n 9 [c1] = some y1 := by
      have hk : Try.prog.cellsOf 9 = 1 := by kernel_rfl
      have z : DataW.trod enc Try.prog w base spare held n 9 ((([c0, c1, c2, c3, c4, c5] : List Value).drop 1).take (Try.prog.cellsOf 9)) = some y1 := hf 1 _ rfl
      rw [hk] at z
      exact z
    obtain ⟨a1, e1, r1⟩ := (opn_string Try.underlying9) g1 (wt_field (j := 1) Try.underlying50 hw rfl rfl)
    have g2 : DataW.trod enc Try.prog w base spare held n 3 [c2] = some y2 := by
      have hk : Try.prog.cellsOf 3 = 1 := by kernel_rfl
      have z : DataW.trod enc Try.prog w base spare held n 3 ((([c0, c1, c2, c3, c4, c5] : List Value).drop 2).take (Try.prog.cellsOf 3)) = some y2 := hf 2 _ rfl
      rw [hk] at z
      exact z
    obtain ⟨a2, e2, r2⟩ := (opn_int Try.underlying3) g2 (wt_field (j := 2) Try.underlying50 hw rfl rfl)
    have g3 : DataW.trod enc Try.prog w base spare held n 3 [c3] = some y3 := by
      have hk : Try.prog.cellsOf 3 = 1 := by kernel_rfl
      have z : DataW.trod enc Try.prog w base spare held n 3 ((([c0, c1, c2, c3, c4, c5] : List Value).drop 3).take (Try.prog.cellsOf 3)) = some y3 := hf 3 _ rfl
      rw [hk] at z
      exact z
    obtain ⟨a3, e3, r3⟩ := (opn_int Try.underlying3) g3 (wt_field (j := 3) Try.underlying50 hw rfl rfl)
    have g4 : DataW.trod enc Try.prog w base spare held n 3 [c4] = some y4 := by
      have hk : Try.prog.cellsOf 3 = 1 := by kernel_rfl
      have z : DataW.trod enc Try.prog w base spare held n 3 ((([c0, c1, c2, c3, c4, c5] : List Value).drop 4).take (Try.prog.cellsOf 3)) = some y4 := hf 4 _ rfl
      rw [hk] at z
      exact z
    obtain ⟨a4, e4, r4⟩ := (opn_int Try.underlying3) g4 (wt_field (j := 4) Try.underlying50 hw rfl rfl)
    have g5 : DataW.trod enc Try.prog w base spare held n 3 [c5] = some y5 := by
      have hk : Try.prog.cellsOf 3 = 1 := by kernel_rfl
      have z : DataW.trod enc Try.prog w base spare held n 3 ((([c0, c1, c2, c3, c4, c5] : List Value).drop 5).take (Try.prog.cellsOf 3)) = some y5 := hf 5 _ rfl
      rw [hk] at z
      exact z
    obtain ⟨a5, e5, r5⟩ := (opn_int Try.underlying3) g5 (wt_field (j := 5) Try.underlying50 hw rfl rfl)
    exact ⟨⟨a0, a1, a2, a3, a4, a5⟩, ⟨[c0], [c1, c2, c3, c4, c5], rfl, e0, ⟨[c1], [c2, c3, c4, c5], rfl, e1, ⟨[c2], [c3, c4, c5], rfl, e2, ⟨[c3], [c4, c5], rfl, e3, ⟨[c4], [c5], rfl, e4, e5⟩⟩⟩⟩⟩, ⟨r0, r1, r2, r3, r4, r5⟩⟩

end Go.Proofs.Ytabjambabnbmnaa.O5
