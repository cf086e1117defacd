/-
  No cell of these rows narrows 'for every input' (looked for: loops, veiled, ifaces, maps, wideKeys, modest, calm, conditions, laid).
  DERIVED. THE GIVEN ROWS OF THIS SEAT. 9 by the template 'for every input the law returns true; each argument reads behind the call as it read before'; 0 by the template 'total and deterministic' (their statements: YtdmnfmkeifjmlaaTotals.lean).
  GIVEN WITH THE SEED: the statements are not yours to turn. If you find one false, say at which input.
  Laid BY PROGRAM, IN A SANDBOX (cutbox-rows.mjs): the forced cells as the released guide's own fill.sh prints them over the translation b6ae4cd838288c70… (all of the seat's roots in one cut). By AI agents, Wed Nov 11 2026. No macro, syntax, notation, axiom, sorry.
-/
import Derived.Test.YtdmnfmkeifjmlaaChecked
import GoSem.Claim
import GoSem.ClaimJoined
import GoSem.ClaimMapViews
import Derived.JoinedTies
import Derived.KernelRfl
namespace Go.Proofs.Ytdmnfmkeifjmlaa
/- THE CELL 'sum', in the pinned program and in every row, IS THE sha256 OF THE DUMP (.gsa) THAT YtdmnfmkeifjmlaaProg.lean LOADS. Nothing in Lean hashes anything: it is a label: what it is worth is what the hold of that sum in a sandbox is worth. -/
noncomputable def Try.pinned : Pinned := { name := "ytdmnfmkeifjmlaa", sum := "b6ae4cd838288c70a5790d4a8d775ab2a9a37e755d4c6db988cb3178a9e14c22", checked := Try.checked }
namespace Rows
def none {H : Type} : Left H := { results := [], args := [] }

/-- 'watchwordlaw11.Acks': WHATEVER THE INPUT: true; the input reads as it did. -/
def acksSpec : ChangeSpec := { name := "acks", fn := fun _ => fun
  | [d1, d2] => { results := [.lit (.bool true)], args := [d1, d2] }
  | _ => none }
def acksRow : OpenClaim := { program := "ytdmnfmkeifjmlaa", sum := "b6ae4cd838288c70a5790d4a8d775ab2a9a37e755d4c6db988cb3178a9e14c22", func := "watchword/watchwordlaw11.Acks", spec := "acks", apart := false }
def AcksSaid : Prop := acksRow.holds Try.pinned (OpenSpec.ofChange acksSpec)

/-- ITS FALSE NEIGHBOUR: 'it returns false'. Refute it at one input. -/
def acksWrong : ChangeSpec := { name := "acks", fn := fun _ => fun
  | [d1, d2] => { results := [.lit (.bool false)], args := [d1, d2] }
  | _ => none }
def AcksWrongFalsely : Prop := acksRow.holds Try.pinned (OpenSpec.ofChange acksWrong)

/-- 'watchwordlaw11.AckForms': WHATEVER THE INPUT: true; the input reads as it did. -/
def ackFormsSpec : ChangeSpec := { name := "ackForms", fn := fun _ => fun
  | [d1, d2] => { results := [.lit (.bool true)], args := [d1, d2] }
  | _ => none }
def ackFormsRow : OpenClaim := { program := "ytdmnfmkeifjmlaa", sum := "b6ae4cd838288c70a5790d4a8d775ab2a9a37e755d4c6db988cb3178a9e14c22", func := "watchword/watchwordlaw11.AckForms", spec := "ackForms", apart := false }
def AckFormsSaid : Prop := ackFormsRow.holds Try.pinned (OpenSpec.ofChange ackFormsSpec)

/-- ITS FALSE NEIGHBOUR: 'it returns false'. Refute it at one input. -/
def ackFormsWrong : ChangeSpec := { name := "ackForms", fn := fun _ => fun
  | [d1, d2] => { results := [.lit (.bool false)], args := [d1, d2] }
  | _ => none }
def AckFormsWrongFalsely : Prop := ackFormsRow.holds Try.pinned (OpenSpec.ofChange ackFormsWrong)

/-- 'watchwordlaw11.AckBack': WHATEVER THE INPUT: true; the input reads as it did. -/
def ackBackSpec : ChangeSpec := { name := "ackBack", fn := fun _ => fun
  | [d1, d2] => { results := [.lit (.bool true)], args := [d1, d2] }
  | _ => none }
def ackBackRow : OpenClaim := { program := "ytdmnfmkeifjmlaa", sum := "b6ae4cd838288c70a5790d4a8d775ab2a9a37e755d4c6db988cb3178a9e14c22", func := "watchword/watchwordlaw11.AckBack", spec := "ackBack", apart := false }
def AckBackSaid : Prop := ackBackRow.holds Try.pinned (OpenSpec.ofChange ackBackSpec)

/-- ITS FALSE NEIGHBOUR: 'it returns false'. Refute it at one input. -/
def ackBackWrong : ChangeSpec := { name := "ackBack", fn := fun _ => fun
  | [d1, d2] => { results := [.lit (.bool false)], args := [d1, d2] }
  | _ => none }
def AckBackWrongFalsely : Prop := ackBackRow.holds Try.pinned (OpenSpec.ofChange ackBackWrong)

/-- 'watchwordlaw11.AckUnlike': WHATEVER THE INPUT: true; the input reads as it did. -/
def ackUnlikeSpec : ChangeSpec := { name := "ackUnlike", fn := fun _ => fun
  | [d1, d2, d3] => { results := [.lit (.bool true)], args := [d1, d2, d3] }
  | _ => none }
def ackUnlikeRow : OpenClaim := { program := "ytdmnfmkeifjmlaa", sum := "b6ae4cd838288c70a5790d4a8d775ab2a9a37e755d4c6db988cb3178a9e14c22", func := "watchword/watchwordlaw11.AckUnlike", spec := "ackUnlike", apart := false }
def AckUnlikeSaid : Prop := ackUnlikeRow.holds Try.pinned (OpenSpec.ofChange ackUnlikeSpec)

/-- ITS FALSE NEIGHBOUR: 'it returns false'. Refute it at one input. -/
def ackUnlikeWrong : ChangeSpec := { name := "ackUnlike", fn := fun _ => fun
  | [d1, d2, d3] => { results := [.lit (.bool false)], args := [d1, d2, d3] }
  | _ => none }
def AckUnlikeWrongFalsely : Prop := ackUnlikeRow.holds Try.pinned (OpenSpec.ofChange ackUnlikeWrong)

/-- 'watchwordlaw17.Newers': WHATEVER THE INPUT: true; the input reads as it did. -/
def newersSpec : ChangeSpec := { name := "newers", fn := fun _ => fun
  | [d1, d2] => { results := [.lit (.bool true)], args := [d1, d2] }
  | _ => none }
def newersRow : OpenClaim := { program := "ytdmnfmkeifjmlaa", sum := "b6ae4cd838288c70a5790d4a8d775ab2a9a37e755d4c6db988cb3178a9e14c22", func := "watchword/watchwordlaw17.Newers", spec := "newers", apart := false }
def NewersSaid : Prop := newersRow.holds Try.pinned (OpenSpec.ofChange newersSpec)

/-- ITS FALSE NEIGHBOUR: 'it returns false'. Refute it at one input. -/
def newersWrong : ChangeSpec := { name := "newers", fn := fun _ => fun
  | [d1, d2] => { results := [.lit (.bool false)], args := [d1, d2] }
  | _ => none }
def NewersWrongFalsely : Prop := newersRow.holds Try.pinned (OpenSpec.ofChange newersWrong)

/-- 'watchwordlaw17.NewerRow': WHATEVER THE INPUT: true; the input reads as it did. -/
def newerRowSpec : ChangeSpec := { name := "newerRow", fn := fun _ => fun
  | [d1, d2, d3] => { results := [.lit (.bool true)], args := [d1, d2, d3] }
  | _ => none }
def newerRowRow : OpenClaim := { program := "ytdmnfmkeifjmlaa", sum := "b6ae4cd838288c70a5790d4a8d775ab2a9a37e755d4c6db988cb3178a9e14c22", func := "watchword/watchwordlaw17.NewerRow", spec := "newerRow", apart := false }
def NewerRowSaid : Prop := newerRowRow.holds Try.pinned (OpenSpec.ofChange newerRowSpec)

/-- ITS FALSE NEIGHBOUR: 'it returns false'. Refute it at one input. -/
def newerRowWrong : ChangeSpec := { name := "newerRow", fn := fun _ => fun
  | [d1, d2, d3] => { results := [.lit (.bool false)], args := [d1, d2, d3] }
  | _ => none }
def NewerRowWrongFalsely : Prop := newerRowRow.holds Try.pinned (OpenSpec.ofChange newerRowWrong)

/-- 'watchwordlaw17.NewerForms': WHATEVER THE INPUT: true; the input reads as it did. -/
def newerFormsSpec : ChangeSpec := { name := "newerForms", fn := fun _ => fun
  | [d1, d2] => { results := [.lit (.bool true)], args := [d1, d2] }
  | _ => none }
def newerFormsRow : OpenClaim := { program := "ytdmnfmkeifjmlaa", sum := "b6ae4cd838288c70a5790d4a8d775ab2a9a37e755d4c6db988cb3178a9e14c22", func := "watchword/watchwordlaw17.NewerForms", spec := "newerForms", apart := false }
def NewerFormsSaid : Prop := newerFormsRow.holds Try.pinned (OpenSpec.ofChange newerFormsSpec)

/-- ITS FALSE NEIGHBOUR: 'it returns false'. Refute it at one input. -/
def newerFormsWrong : ChangeSpec := { name := "newerForms", fn := fun _ => fun
  | [d1, d2] => { results := [.lit (.bool false)], args := [d1, d2] }
  | _ => none }
def NewerFormsWrongFalsely : Prop := newerFormsRow.holds Try.pinned (OpenSpec.ofChange newerFormsWrong)

/-- 'watchwordlaw17.NewerAges': WHATEVER THE INPUT: true; the input reads as it did. -/
def newerAgesSpec : ChangeSpec := { name := "newerAges", fn := fun _ => fun
  | [d1, d2] => { results := [.lit (.bool true)], args := [d1, d2] }
  | _ => none }
def newerAgesRow : OpenClaim := { program := "ytdmnfmkeifjmlaa", sum := "b6ae4cd838288c70a5790d4a8d775ab2a9a37e755d4c6db988cb3178a9e14c22", func := "watchword/watchwordlaw17.NewerAges", spec := "newerAges", apart := false }
def NewerAgesSaid : Prop := newerAgesRow.holds Try.pinned (OpenSpec.ofChange newerAgesSpec)

/-- ITS FALSE NEIGHBOUR: 'it returns false'. Refute it at one input. -/
def newerAgesWrong : ChangeSpec := { name := "newerAges", fn := fun _ => fun
  | [d1, d2] => { results := [.lit (.bool false)], args := [d1, d2] }
  | _ => none }
def NewerAgesWrongFalsely : Prop := newerAgesRow.holds Try.pinned (OpenSpec.ofChange newerAgesWrong)

/-- 'watchwordlaw17.NewerLsas': WHATEVER THE INPUT: true; the input reads as it did. -/
def newerLsasSpec : ChangeSpec := { name := "newerLsas", fn := fun _ => fun
  | [d1, d2] => { results := [.lit (.bool true)], args := [d1, d2] }
  | _ => none }
def newerLsasRow : OpenClaim := { program := "ytdmnfmkeifjmlaa", sum := "b6ae4cd838288c70a5790d4a8d775ab2a9a37e755d4c6db988cb3178a9e14c22", func := "watchword/watchwordlaw17.NewerLsas", spec := "newerLsas", apart := false }
def NewerLsasSaid : Prop := newerLsasRow.holds Try.pinned (OpenSpec.ofChange newerLsasSpec)

/-- ITS FALSE NEIGHBOUR: 'it returns false'. Refute it at one input. -/
def newerLsasWrong : ChangeSpec := { name := "newerLsas", fn := fun _ => fun
  | [d1, d2] => { results := [.lit (.bool false)], args := [d1, d2] }
  | _ => none }
def NewerLsasWrongFalsely : Prop := newerLsasRow.holds Try.pinned (OpenSpec.ofChange newerLsasWrong)

/- THE SECOND FORM. 'bulk': how many values and letters a reading holds, each counted each time it is reached (what is shared counts as often as it is met; a slice's spare places count too). A statement '..UptoSaid' is the law's where the arguments, and the package variables that the reading takes, are together of bulk at most 1048576: NARROWER than '..Said'. Prove '..Said' where nothing that the law and all that it calls make is longer than what came in: it says more and counts as full. Else prove '..UptoSaid'. A law counts once. -/
mutual
def uptoBulk {H : Type} : DataW H → Nat
  | .lit (.string bytes) => bytes.length + 1
  | .lit _ => 1
  | .nil => 1
  | .ptr d => uptoBulk d + 1
  | .slice elems spare => uptoBulkAll elems + uptoBulkAll spare + 1
  | .agg parts => uptoBulkAll parts + 1
  | .iface _ d => uptoBulk d + 1
  | .map entries => uptoBulkEntries entries + 1
  | .held _ => 1
def uptoBulkAll {H : Type} : List (DataW H) → Nat
  | [] => 0
  | d :: r => uptoBulk d + uptoBulkAll r
def uptoBulkEntries {H : Type} : List (Lit × DataW H) → Nat
  | [] => 0
  | x :: r => uptoBulkEntry x + uptoBulkEntries r
def uptoBulkEntry {H : Type} : Lit × DataW H → Nat
  | (.string bytes, d) => bytes.length + uptoBulk d + 1
  | (_, d) => uptoBulk d + 1
 end
def uptoSmall : (H : Type) → List (DataW H) → Bool := fun _ ds => decide (uptoBulkAll ds ≤ 1048576)
def OpenSpec.upto (s : _root_.Go.ChangeSpec) : _root_.Go.OpenSpec := { _root_.Go.OpenSpec.ofChange s with cond := some uptoSmall }

/-- 'watchwordlaw11.Acks', WHERE WHAT IT READS IS OF BULK AT MOST 1048576: true; the input reads as it did. -/
def acksUptoRow : OpenClaim := { program := "ytdmnfmkeifjmlaa", sum := "b6ae4cd838288c70a5790d4a8d775ab2a9a37e755d4c6db988cb3178a9e14c22", func := "watchword/watchwordlaw11.Acks", spec := "acks", apart := false, narrowed := true }
def AcksUptoSaid : Prop := acksUptoRow.holds Try.pinned (OpenSpec.upto acksSpec)

/-- 'watchwordlaw11.AckForms', WHERE WHAT IT READS IS OF BULK AT MOST 1048576: true; the input reads as it did. -/
def ackFormsUptoRow : OpenClaim := { program := "ytdmnfmkeifjmlaa", sum := "b6ae4cd838288c70a5790d4a8d775ab2a9a37e755d4c6db988cb3178a9e14c22", func := "watchword/watchwordlaw11.AckForms", spec := "ackForms", apart := false, narrowed := true }
def AckFormsUptoSaid : Prop := ackFormsUptoRow.holds Try.pinned (OpenSpec.upto ackFormsSpec)

/-- 'watchwordlaw11.AckBack', WHERE WHAT IT READS IS OF BULK AT MOST 1048576: true; the input reads as it did. -/
def ackBackUptoRow : OpenClaim := { program := "ytdmnfmkeifjmlaa", sum := "b6ae4cd838288c70a5790d4a8d775ab2a9a37e755d4c6db988cb3178a9e14c22", func := "watchword/watchwordlaw11.AckBack", spec := "ackBack", apart := false, narrowed := true }
def AckBackUptoSaid : Prop := ackBackUptoRow.holds Try.pinned (OpenSpec.upto ackBackSpec)

/-- 'watchwordlaw11.AckUnlike', WHERE WHAT IT READS IS OF BULK AT MOST 1048576: true; the input reads as it did. -/
def ackUnlikeUptoRow : OpenClaim := { program := "ytdmnfmkeifjmlaa", sum := "b6ae4cd838288c70a5790d4a8d775ab2a9a37e755d4c6db988cb3178a9e14c22", func := "watchword/watchwordlaw11.AckUnlike", spec := "ackUnlike", apart := false, narrowed := true }
def AckUnlikeUptoSaid : Prop := ackUnlikeUptoRow.holds Try.pinned (OpenSpec.upto ackUnlikeSpec)

/-- 'watchwordlaw17.Newers', WHERE WHAT IT READS IS OF BULK AT MOST 1048576: true; the input reads as it did. -/
def newersUptoRow : OpenClaim := { program := "ytdmnfmkeifjmlaa", sum := "b6ae4cd838288c70a5790d4a8d775ab2a9a37e755d4c6db988cb3178a9e14c22", func := "watchword/watchwordlaw17.Newers", spec := "newers", apart := false, narrowed := true }
def NewersUptoSaid : Prop := newersUptoRow.holds Try.pinned (OpenSpec.upto newersSpec)

/-- 'watchwordlaw17.NewerRow', WHERE WHAT IT READS IS OF BULK AT MOST 1048576: true; the input reads as it did. -/
def newerRowUptoRow : OpenClaim := { program := "ytdmnfmkeifjmlaa", sum := "b6ae4cd838288c70a5790d4a8d775ab2a9a37e755d4c6db988cb3178a9e14c22", func := "watchword/watchwordlaw17.NewerRow", spec := "newerRow", apart := false, narrowed := true }
def NewerRowUptoSaid : Prop := newerRowUptoRow.holds Try.pinned (OpenSpec.upto newerRowSpec)

/-- 'watchwordlaw17.NewerForms', WHERE WHAT IT READS IS OF BULK AT MOST 1048576: true; the input reads as it did. -/
def newerFormsUptoRow : OpenClaim := { program := "ytdmnfmkeifjmlaa", sum := "b6ae4cd838288c70a5790d4a8d775ab2a9a37e755d4c6db988cb3178a9e14c22", func := "watchword/watchwordlaw17.NewerForms", spec := "newerForms", apart := false, narrowed := true }
def NewerFormsUptoSaid : Prop := newerFormsUptoRow.holds Try.pinned (OpenSpec.upto newerFormsSpec)

/-- 'watchwordlaw17.NewerAges', WHERE WHAT IT READS IS OF BULK AT MOST 1048576: true; the input reads as it did. -/
def newerAgesUptoRow : OpenClaim := { program := "ytdmnfmkeifjmlaa", sum := "b6ae4cd838288c70a5790d4a8d775ab2a9a37e755d4c6db988cb3178a9e14c22", func := "watchword/watchwordlaw17.NewerAges", spec := "newerAges", apart := false, narrowed := true }
def NewerAgesUptoSaid : Prop := newerAgesUptoRow.holds Try.pinned (OpenSpec.upto newerAgesSpec)

/-- 'watchwordlaw17.NewerLsas', WHERE WHAT IT READS IS OF BULK AT MOST 1048576: true; the input reads as it did. -/
def newerLsasUptoRow : OpenClaim := { program := "ytdmnfmkeifjmlaa", sum := "b6ae4cd838288c70a5790d4a8d775ab2a9a37e755d4c6db988cb3178a9e14c22", func := "watchword/watchwordlaw17.NewerLsas", spec := "newerLsas", apart := false, narrowed := true }
def NewerLsasUptoSaid : Prop := newerLsasUptoRow.holds Try.pinned (OpenSpec.upto newerLsasSpec)

end Rows
end Go.Proofs.Ytdmnfmkeifjmlaa
