/- The struct types of this family, opened: what reads as one is told as the print tells it. -/
import Derived.Test.YtdmnfmkeifjmlaaQ17x0
import Derived.Test.YtdmnfmkeifjmlaaOpn
namespace Go.Proofs.Ytdmnfmkeifjmlaa.O17
open Go.RowKit Go.Proofs.YtdmnfmkeifjmlaaW.PrintWords Go.Proofs.YtdmnfmkeifjmlaaW.PrintLast Go.Proofs.YtdmnfmkeifjmlaaW.PrintMore Go.Proofs.Ytdmnfmkeifjmlaa.Opn Go.Proofs.Ytdmnfmkeifjmlaa.Q17
open Go.Joins Go.ChangeShapes Go.WideShapes Go.Deep
set_option linter.unusedVariables false

def R72 (x : S72) : Prop := (Lit.int .i64 x.f0).wf = true ∧ (Lit.int .i64 x.f1).wf = true
theorem opn72 : Opn Try.prog 72 k72 R72 := by
  intro H enc w base spare held fuel cs x h hw
  obtain ⟨xs, n, _, rfl, hl, hlen, hf⟩ := DataW.trod_struct Try.underlying72 h
  have hl' : cs.length = 2 := hl.trans (by kernel_rfl)
  match cs, hl', xs, hlen with
  | [c0, c1], _, [y0, y1], _ =>
    have g0 : DataW.trod enc Try.prog w base spare held n 3 [c0] = some y0 := by
      have hk : Try.prog.cellsOf 3 = 1 := by kernel_rfl
      have z : DataW.trod enc Try.prog w base spare held n 3 ((([c0, c1] : List Value).drop 0).take (Try.prog.cellsOf 3)) = some y0 := hf 0 _ rfl
      rw [hk] at z
      exact z
    obtain ⟨a0, e0, r0⟩ := (opn_int Try.underlying3) g0 (wt_field (j := 0) Try.underlying72 hw rfl rfl)
    have g1 : DataW.trod enc Try.prog w base spare held n 3 [c1] = some y1 := by
      have hk : Try.prog.cellsOf 3 = 1 := by kernel_rfl
      have z : DataW.trod enc Try.prog w base spare held n 3 ((([c0, c1] : List Value).drop 1).take (Try.prog.cellsOf 3)) = some y1 := hf 1 _ rfl
      rw [hk] at z
      exact z
    obtain ⟨a1, e1, r1⟩ := (opn_int Try.underlying3) g1 (wt_field (j := 1) Try.underlying72 hw rfl rfl)
    exact ⟨⟨a0, a1⟩, ⟨[c0], [c1], rfl, e0, e1⟩, ⟨r0, r1⟩⟩

end Go.Proofs.Ytdmnfmkeifjmlaa.O17
