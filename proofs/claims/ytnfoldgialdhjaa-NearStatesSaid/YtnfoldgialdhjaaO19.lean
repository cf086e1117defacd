/- The struct types of this family, opened: what reads as one is told as the print tells it. -/
import Derived.Test.YtnfoldgialdhjaaQ19x0
import Derived.Test.YtnfoldgialdhjaaOpn
namespace Go.Proofs.Ytnfoldgialdhjaa.O19
open Go.RowKit Go.Proofs.YtnfoldgialdhjaaW.PrintWords Go.Proofs.YtnfoldgialdhjaaW.PrintLast Go.Proofs.YtnfoldgialdhjaaW.PrintMore Go.Proofs.Ytnfoldgialdhjaa.Opn Go.Proofs.Ytnfoldgialdhjaa.Q19
open Go.Joins Go.ChangeShapes Go.WideShapes Go.Deep
set_option linter.unusedVariables false

def R46 (x : S46) : Prop := (Lit.int .i64 x.f0).wf = true ∧ (Lit.int .i64 x.f1).wf = true ∧ (Lit.int .i64 x.f2).wf = true
set_option maxRecDepth 100000 in
theorem opn46 : Opn Try.prog 46 k46 R46 := by
  intro H enc w base spare held fuel cs x h hw
  obtain ⟨xs, n, _, rfl, hl, hlen, hf⟩ := DataW.trod_struct Try.underlying46 h
  have hl' : cs.length = 3 := hl.trans (by kernel_rfl)
  match cs, hl', xs, hlen with
  | [c0, c1, c2], _, [y0, y1, y2], _ =>
    have g0 : DataW.trod enc Try.prog w base spare held n 3 [c0] = some y0 := by
      have hk : Try.prog.cellsOf 3 = 1 := by kernel_rfl
      have z : DataW.trod enc Try.prog w base spare held n 3 ((([c0, c1, c2] : List Value).drop 0).take (Try.prog.cellsOf 3)) = some y0 := hf 0 _ rfl
      rw [hk] at z
      exact z
    obtain ⟨a0, e0, r0⟩ := (opn_int Try.underlying3) g0 (wt_field (j := 0) Try.underlying46 hw rfl rfl)
    have g1 : DataW.trod enc Try.prog w base spare held n 3 [c1] = some y1 := by
      have hk : Try.prog.cellsOf 3 = 1 := by kernel_rfl
      have z : DataW.trod enc Try.prog w base spare held n 3 ((([c0, c1, c2] : List Value).drop 1).take (Try.prog.cellsOf 3)) = some y1 := hf 1 _ rfl
      rw [hk] at z
      exact z
    obtain ⟨a1, e1, r1⟩ := (opn_int Try.underlying3) g1 (wt_field (j := 1) Try.underlying46 hw rfl rfl)
    have g2 : DataW.trod enc Try.prog w base spare held n 3 [c2] = some y2 := by
      have hk : Try.prog.cellsOf 3 = 1 := by kernel_rfl
      have z : DataW.trod enc Try.prog w base spare held n 3 ((([c0, c1, c2] : List Value).drop 2).take (Try.prog.cellsOf 3)) = some y2 := hf 2 _ rfl
      rw [hk] at z
      exact z
    obtain ⟨a2, e2, r2⟩ := (opn_int Try.underlying3) g2 (wt_field (j := 2) Try.underlying46 hw rfl rfl)
    exact ⟨⟨a0, a1, a2⟩, ⟨[c0], [c1, c2], rfl, e0, ⟨[c1], [c2], rfl, e1, e2⟩⟩, ⟨r0, r1, r2⟩⟩

end Go.Proofs.Ytnfoldgialdhjaa.O19
