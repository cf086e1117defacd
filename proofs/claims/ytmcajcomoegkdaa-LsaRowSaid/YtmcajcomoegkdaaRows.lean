/-
  No cell of these rows narrows 'for every input' (looked for: loops, veiled, ifaces, maps, wideKeys, modest, calm, conditions, laid).
  DERIVED. THE GIVEN ROWS OF THIS SEAT. 9 by the template 'for every input the law returns true; each argument reads behind the call as it read before'; 0 by the template 'total and deterministic' (their statements: YtmcajcomoegkdaaTotals.lean).
  GIVEN WITH THE SEED: the statements are not yours to turn. If you find one false, say at which input.
  Laid BY PROGRAM, IN A SANDBOX (cutbox-rows.mjs): the forced cells as the released guide's own fill.sh prints them over the translation bcae3867892f797b… (all of the seat's roots in one cut). By AI agents, Wed Nov 11 2026. No macro, syntax, notation, axiom, sorry.
-/
import Derived.Test.YtmcajcomoegkdaaChecked
import GoSem.Claim
import GoSem.ClaimJoined
import GoSem.ClaimMapViews
import Derived.JoinedTies
import Derived.KernelRfl
namespace Go.Proofs.Ytmcajcomoegkdaa
/- THE CELL 'sum', in the pinned program and in every row, IS THE sha256 OF THE DUMP (.gsa) THAT YtmcajcomoegkdaaProg.lean LOADS. Nothing in Lean hashes anything: it is a label: what it is worth is what the hold of that sum in a sandbox is worth. -/
noncomputable def Try.pinned : Pinned := { name := "ytmcajcomoegkdaa", sum := "bcae3867892f797b5a29d69fb2a9c714dce166a48fdab42e621a11fad4a9b4ed", checked := Try.checked }
namespace Rows
def none {H : Type} : Left H := { results := [], args := [] }

/-- 'watchwordlaw7.Lsas': WHATEVER THE INPUT: true; the input reads as it did. -/
def lsasSpec : ChangeSpec := { name := "lsas", fn := fun _ => fun
  | [d1, d2, d3] => { results := [.lit (.bool true)], args := [d1, d2, d3] }
  | _ => none }
def lsasRow : OpenClaim := { program := "ytmcajcomoegkdaa", sum := "bcae3867892f797b5a29d69fb2a9c714dce166a48fdab42e621a11fad4a9b4ed", func := "watchword/watchwordlaw7.Lsas", spec := "lsas", apart := false }
def LsasSaid : Prop := lsasRow.holds Try.pinned (OpenSpec.ofChange lsasSpec)

/-- ITS FALSE NEIGHBOUR: 'it returns false'. Refute it at one input. -/
def lsasWrong : ChangeSpec := { name := "lsas", fn := fun _ => fun
  | [d1, d2, d3] => { results := [.lit (.bool false)], args := [d1, d2, d3] }
  | _ => none }
def LsasWrongFalsely : Prop := lsasRow.holds Try.pinned (OpenSpec.ofChange lsasWrong)

/-- 'watchwordlaw7.LsaBack': WHATEVER THE INPUT: true; the input reads as it did. -/
def lsaBackSpec : ChangeSpec := { name := "lsaBack", fn := fun _ => fun
  | [d1, d2, d3] => { results := [.lit (.bool true)], args := [d1, d2, d3] }
  | _ => none }
def lsaBackRow : OpenClaim := { program := "ytmcajcomoegkdaa", sum := "bcae3867892f797b5a29d69fb2a9c714dce166a48fdab42e621a11fad4a9b4ed", func := "watchword/watchwordlaw7.LsaBack", spec := "lsaBack", apart := false }
def LsaBackSaid : Prop := lsaBackRow.holds Try.pinned (OpenSpec.ofChange lsaBackSpec)

/-- ITS FALSE NEIGHBOUR: 'it returns false'. Refute it at one input. -/
def lsaBackWrong : ChangeSpec := { name := "lsaBack", fn := fun _ => fun
  | [d1, d2, d3] => { results := [.lit (.bool false)], args := [d1, d2, d3] }
  | _ => none }
def LsaBackWrongFalsely : Prop := lsaBackRow.holds Try.pinned (OpenSpec.ofChange lsaBackWrong)

/-- 'watchwordlaw7.LsaForms': WHATEVER THE INPUT: true; the input reads as it did. -/
def lsaFormsSpec : ChangeSpec := { name := "lsaForms", fn := fun _ => fun
  | [d1, d2] => { results := [.lit (.bool true)], args := [d1, d2] }
  | _ => none }
def lsaFormsRow : OpenClaim := { program := "ytmcajcomoegkdaa", sum := "bcae3867892f797b5a29d69fb2a9c714dce166a48fdab42e621a11fad4a9b4ed", func := "watchword/watchwordlaw7.LsaForms", spec := "lsaForms", apart := false }
def LsaFormsSaid : Prop := lsaFormsRow.holds Try.pinned (OpenSpec.ofChange lsaFormsSpec)

/-- ITS FALSE NEIGHBOUR: 'it returns false'. Refute it at one input. -/
def lsaFormsWrong : ChangeSpec := { name := "lsaForms", fn := fun _ => fun
  | [d1, d2] => { results := [.lit (.bool false)], args := [d1, d2] }
  | _ => none }
def LsaFormsWrongFalsely : Prop := lsaFormsRow.holds Try.pinned (OpenSpec.ofChange lsaFormsWrong)

/-- 'watchwordlaw7.LsaUnlike': WHATEVER THE INPUT: true; the input reads as it did. -/
def lsaUnlikeSpec : ChangeSpec := { name := "lsaUnlike", fn := fun _ => fun
  | [d1, d2] => { results := [.lit (.bool true)], args := [d1, d2] }
  | _ => none }
def lsaUnlikeRow : OpenClaim := { program := "ytmcajcomoegkdaa", sum := "bcae3867892f797b5a29d69fb2a9c714dce166a48fdab42e621a11fad4a9b4ed", func := "watchword/watchwordlaw7.LsaUnlike", spec := "lsaUnlike", apart := false }
def LsaUnlikeSaid : Prop := lsaUnlikeRow.holds Try.pinned (OpenSpec.ofChange lsaUnlikeSpec)

/-- ITS FALSE NEIGHBOUR: 'it returns false'. Refute it at one input. -/
def lsaUnlikeWrong : ChangeSpec := { name := "lsaUnlike", fn := fun _ => fun
  | [d1, d2] => { results := [.lit (.bool false)], args := [d1, d2] }
  | _ => none }
def LsaUnlikeWrongFalsely : Prop := lsaUnlikeRow.holds Try.pinned (OpenSpec.ofChange lsaUnlikeWrong)

/-- 'watchwordlaw7.LsaRow': WHATEVER THE INPUT: true; the input reads as it did. -/
def lsaRowSpec : ChangeSpec := { name := "lsaRow", fn := fun _ => fun
  | [d] => { results := [.lit (.bool true)], args := [d] }
  | _ => none }
def lsaRowRow : OpenClaim := { program := "ytmcajcomoegkdaa", sum := "bcae3867892f797b5a29d69fb2a9c714dce166a48fdab42e621a11fad4a9b4ed", func := "watchword/watchwordlaw7.LsaRow", spec := "lsaRow", apart := false }
def LsaRowSaid : Prop := lsaRowRow.holds Try.pinned (OpenSpec.ofChange lsaRowSpec)

/-- ITS FALSE NEIGHBOUR: 'it returns false'. Refute it at one input. -/
def lsaRowWrong : ChangeSpec := { name := "lsaRow", fn := fun _ => fun
  | [d] => { results := [.lit (.bool false)], args := [d] }
  | _ => none }
def LsaRowWrongFalsely : Prop := lsaRowRow.holds Try.pinned (OpenSpec.ofChange lsaRowWrong)

/-- 'watchwordlaw10.Updates': WHATEVER THE INPUT: true; the input reads as it did. -/
def updatesSpec : ChangeSpec := { name := "updates", fn := fun _ => fun
  | [d1, d2] => { results := [.lit (.bool true)], args := [d1, d2] }
  | _ => none }
def updatesRow : OpenClaim := { program := "ytmcajcomoegkdaa", sum := "bcae3867892f797b5a29d69fb2a9c714dce166a48fdab42e621a11fad4a9b4ed", func := "watchword/watchwordlaw10.Updates", spec := "updates", apart := false }
def UpdatesSaid : Prop := updatesRow.holds Try.pinned (OpenSpec.ofChange updatesSpec)

/-- ITS FALSE NEIGHBOUR: 'it returns false'. Refute it at one input. -/
def updatesWrong : ChangeSpec := { name := "updates", fn := fun _ => fun
  | [d1, d2] => { results := [.lit (.bool false)], args := [d1, d2] }
  | _ => none }
def UpdatesWrongFalsely : Prop := updatesRow.holds Try.pinned (OpenSpec.ofChange updatesWrong)

/-- 'watchwordlaw10.UpdateForms': WHATEVER THE INPUT: true; the input reads as it did. -/
def updateFormsSpec : ChangeSpec := { name := "updateForms", fn := fun _ => fun
  | [d1, d2] => { results := [.lit (.bool true)], args := [d1, d2] }
  | _ => none }
def updateFormsRow : OpenClaim := { program := "ytmcajcomoegkdaa", sum := "bcae3867892f797b5a29d69fb2a9c714dce166a48fdab42e621a11fad4a9b4ed", func := "watchword/watchwordlaw10.UpdateForms", spec := "updateForms", apart := false }
def UpdateFormsSaid : Prop := updateFormsRow.holds Try.pinned (OpenSpec.ofChange updateFormsSpec)

/-- ITS FALSE NEIGHBOUR: 'it returns false'. Refute it at one input. -/
def updateFormsWrong : ChangeSpec := { name := "updateForms", fn := fun _ => fun
  | [d1, d2] => { results := [.lit (.bool false)], args := [d1, d2] }
  | _ => none }
def UpdateFormsWrongFalsely : Prop := updateFormsRow.holds Try.pinned (OpenSpec.ofChange updateFormsWrong)

/-- 'watchwordlaw10.UpdateBack': WHATEVER THE INPUT: true; the input reads as it did. -/
def updateBackSpec : ChangeSpec := { name := "updateBack", fn := fun _ => fun
  | [d1, d2] => { results := [.lit (.bool true)], args := [d1, d2] }
  | _ => none }
def updateBackRow : OpenClaim := { program := "ytmcajcomoegkdaa", sum := "bcae3867892f797b5a29d69fb2a9c714dce166a48fdab42e621a11fad4a9b4ed", func := "watchword/watchwordlaw10.UpdateBack", spec := "updateBack", apart := false }
def UpdateBackSaid : Prop := updateBackRow.holds Try.pinned (OpenSpec.ofChange updateBackSpec)

/-- ITS FALSE NEIGHBOUR: 'it returns false'. Refute it at one input. -/
def updateBackWrong : ChangeSpec := { name := "updateBack", fn := fun _ => fun
  | [d1, d2] => { results := [.lit (.bool false)], args := [d1, d2] }
  | _ => none }
def UpdateBackWrongFalsely : Prop := updateBackRow.holds Try.pinned (OpenSpec.ofChange updateBackWrong)

/-- 'watchwordlaw10.UpdateUnlike': WHATEVER THE INPUT: true; the input reads as it did. -/
def updateUnlikeSpec : ChangeSpec := { name := "updateUnlike", fn := fun _ => fun
  | [d1, d2] => { results := [.lit (.bool true)], args := [d1, d2] }
  | _ => none }
def updateUnlikeRow : OpenClaim := { program := "ytmcajcomoegkdaa", sum := "bcae3867892f797b5a29d69fb2a9c714dce166a48fdab42e621a11fad4a9b4ed", func := "watchword/watchwordlaw10.UpdateUnlike", spec := "updateUnlike", apart := false }
def UpdateUnlikeSaid : Prop := updateUnlikeRow.holds Try.pinned (OpenSpec.ofChange updateUnlikeSpec)

/-- ITS FALSE NEIGHBOUR: 'it returns false'. Refute it at one input. -/
def updateUnlikeWrong : ChangeSpec := { name := "updateUnlike", fn := fun _ => fun
  | [d1, d2] => { results := [.lit (.bool false)], args := [d1, d2] }
  | _ => none }
def UpdateUnlikeWrongFalsely : Prop := updateUnlikeRow.holds Try.pinned (OpenSpec.ofChange updateUnlikeWrong)

/- THE SECOND FORM. 'bulk': how many values and letters a reading holds, each counted each time it is reached (what is shared counts as often as it is met; a slice's spare places count too). A statement '..UptoSaid' is the law's where the arguments, and the package variables that the reading takes, are together of bulk at most 1048576: NARROWER than '..Said'. Prove '..Said' where nothing that the law and all that it calls make is longer than what came in: it says more and counts as full. Else prove '..UptoSaid'. A law counts once. -/
mutual
def uptoBulk {H : Type} : DataW H → Nat
  | .lit (.string bytes) => bytes.length + 1
  | .lit _ => 1
  | .nil => 1
  | .ptr d => uptoBulk d + 1
  | .slice elems spare => uptoBulkAll elems + uptoBulkAll spare + 1
  | .agg parts => uptoBulkAll parts + 1
  | .iface _ d => uptoBulk d + 1
  | .map entries => uptoBulkEntries entries + 1
  | .held _ => 1
def uptoBulkAll {H : Type} : List (DataW H) → Nat
  | [] => 0
  | d :: r => uptoBulk d + uptoBulkAll r
def uptoBulkEntries {H : Type} : List (Lit × DataW H) → Nat
  | [] => 0
  | x :: r => uptoBulkEntry x + uptoBulkEntries r
def uptoBulkEntry {H : Type} : Lit × DataW H → Nat
  | (.string bytes, d) => bytes.length + uptoBulk d + 1
  | (_, d) => uptoBulk d + 1
 end
def uptoSmall : (H : Type) → List (DataW H) → Bool := fun _ ds => decide (uptoBulkAll ds ≤ 1048576)
def OpenSpec.upto (s : _root_.Go.ChangeSpec) : _root_.Go.OpenSpec := { _root_.Go.OpenSpec.ofChange s with cond := some uptoSmall }

/-- 'watchwordlaw7.Lsas', WHERE WHAT IT READS IS OF BULK AT MOST 1048576: true; the input reads as it did. -/
def lsasUptoRow : OpenClaim := { program := "ytmcajcomoegkdaa", sum := "bcae3867892f797b5a29d69fb2a9c714dce166a48fdab42e621a11fad4a9b4ed", func := "watchword/watchwordlaw7.Lsas", spec := "lsas", apart := false, narrowed := true }
def LsasUptoSaid : Prop := lsasUptoRow.holds Try.pinned (OpenSpec.upto lsasSpec)

/-- 'watchwordlaw7.LsaBack', WHERE WHAT IT READS IS OF BULK AT MOST 1048576: true; the input reads as it did. -/
def lsaBackUptoRow : OpenClaim := { program := "ytmcajcomoegkdaa", sum := "bcae3867892f797b5a29d69fb2a9c714dce166a48fdab42e621a11fad4a9b4ed", func := "watchword/watchwordlaw7.LsaBack", spec := "lsaBack", apart := false, narrowed := true }
def LsaBackUptoSaid : Prop := lsaBackUptoRow.holds Try.pinned (OpenSpec.upto lsaBackSpec)

/-- 'watchwordlaw7.LsaForms', WHERE WHAT IT READS IS OF BULK AT MOST 1048576: true; the input reads as it did. -/
def lsaFormsUptoRow : OpenClaim := { program := "ytmcajcomoegkdaa", sum := "bcae3867892f797b5a29d69fb2a9c714dce166a48fdab42e621a11fad4a9b4ed", func := "watchword/watchwordlaw7.LsaForms", spec := "lsaForms", apart := false, narrowed := true }
def LsaFormsUptoSaid : Prop := lsaFormsUptoRow.holds Try.pinned (OpenSpec.upto lsaFormsSpec)

/-- 'watchwordlaw7.LsaUnlike', WHERE WHAT IT READS IS OF BULK AT MOST 1048576: true; the input reads as it did. -/
def lsaUnlikeUptoRow : OpenClaim := { program := "ytmcajcomoegkdaa", sum := "bcae3867892f797b5a29d69fb2a9c714dce166a48fdab42e621a11fad4a9b4ed", func := "watchword/watchwordlaw7.LsaUnlike", spec := "lsaUnlike", apart := false, narrowed := true }
def LsaUnlikeUptoSaid : Prop := lsaUnlikeUptoRow.holds Try.pinned (OpenSpec.upto lsaUnlikeSpec)

/-- 'watchwordlaw7.LsaRow', WHERE WHAT IT READS IS OF BULK AT MOST 1048576: true; the input reads as it did. -/
def lsaRowUptoRow : OpenClaim := { program := "ytmcajcomoegkdaa", sum := "bcae3867892f797b5a29d69fb2a9c714dce166a48fdab42e621a11fad4a9b4ed", func := "watchword/watchwordlaw7.LsaRow", spec := "lsaRow", apart := false, narrowed := true }
def LsaRowUptoSaid : Prop := lsaRowUptoRow.holds Try.pinned (OpenSpec.upto lsaRowSpec)

/-- 'watchwordlaw10.Updates', WHERE WHAT IT READS IS OF BULK AT MOST 1048576: true; the input reads as it did. -/
def updatesUptoRow : OpenClaim := { program := "ytmcajcomoegkdaa", sum := "bcae3867892f797b5a29d69fb2a9c714dce166a48fdab42e621a11fad4a9b4ed", func := "watchword/watchwordlaw10.Updates", spec := "updates", apart := false, narrowed := true }
def UpdatesUptoSaid : Prop := updatesUptoRow.holds Try.pinned (OpenSpec.upto updatesSpec)

/-- 'watchwordlaw10.UpdateForms', WHERE WHAT IT READS IS OF BULK AT MOST 1048576: true; the input reads as it did. -/
def updateFormsUptoRow : OpenClaim := { program := "ytmcajcomoegkdaa", sum := "bcae3867892f797b5a29d69fb2a9c714dce166a48fdab42e621a11fad4a9b4ed", func := "watchword/watchwordlaw10.UpdateForms", spec := "updateForms", apart := false, narrowed := true }
def UpdateFormsUptoSaid : Prop := updateFormsUptoRow.holds Try.pinned (OpenSpec.upto updateFormsSpec)

/-- 'watchwordlaw10.UpdateBack', WHERE WHAT IT READS IS OF BULK AT MOST 1048576: true; the input reads as it did. -/
def updateBackUptoRow : OpenClaim := { program := "ytmcajcomoegkdaa", sum := "bcae3867892f797b5a29d69fb2a9c714dce166a48fdab42e621a11fad4a9b4ed", func := "watchword/watchwordlaw10.UpdateBack", spec := "updateBack", apart := false, narrowed := true }
def UpdateBackUptoSaid : Prop := updateBackUptoRow.holds Try.pinned (OpenSpec.upto updateBackSpec)

/-- 'watchwordlaw10.UpdateUnlike', WHERE WHAT IT READS IS OF BULK AT MOST 1048576: true; the input reads as it did. -/
def updateUnlikeUptoRow : OpenClaim := { program := "ytmcajcomoegkdaa", sum := "bcae3867892f797b5a29d69fb2a9c714dce166a48fdab42e621a11fad4a9b4ed", func := "watchword/watchwordlaw10.UpdateUnlike", spec := "updateUnlike", apart := false, narrowed := true }
def UpdateUnlikeUptoSaid : Prop := updateUnlikeUptoRow.holds Try.pinned (OpenSpec.upto updateUnlikeSpec)

end Rows
end Go.Proofs.Ytmcajcomoegkdaa
