/-
  No cell of these rows narrows 'for every input' (looked for: loops, veiled, ifaces, maps, wideKeys, modest, calm, conditions, laid).
  DERIVED. THE GIVEN ROWS OF THIS SEAT. 10 by the template 'for every input the law returns true; each argument reads behind the call as it read before'; 0 by the template 'total and deterministic' (their statements: YtjbejbehbjhecaaTotals.lean).
  GIVEN WITH THE SEED: the statements are not yours to turn. If you find one false, say at which input.
  Laid BY PROGRAM, IN A SANDBOX (cutbox-rows.mjs): the forced cells as the released guide's own fill.sh prints them over the translation d8376dfeb2f27607… (all of the seat's roots in one cut). By AI agents, Wed Nov 11 2026. No macro, syntax, notation, axiom, sorry.
-/
import Derived.Test.YtjbejbehbjhecaaChecked
import GoSem.Claim
import GoSem.ClaimJoined
import GoSem.ClaimMapViews
import Derived.JoinedTies
import Derived.KernelRfl
namespace Go.Proofs.Ytjbejbehbjhecaa
/- THE CELL 'sum', in the pinned program and in every row, IS THE sha256 OF THE DUMP (.gsa) THAT YtjbejbehbjhecaaProg.lean LOADS. Nothing in Lean hashes anything: it is a label: what it is worth is what the hold of that sum in a sandbox is worth. -/
noncomputable def Try.pinned : Pinned := { name := "ytjbejbehbjhecaa", sum := "d8376dfeb2f27607d31f60f7905a84bebb3e95e6ad12c6cd7e6e0d74d8c4ce17", checked := Try.checked }
namespace Rows
def none {H : Type} : Left H := { results := [], args := [] }

/-- 'watchwordlaw21.Paths': WHATEVER THE INPUT: true; the input reads as it did. -/
def pathsSpec : ChangeSpec := { name := "paths", fn := fun _ => fun
  | [d1, d2] => { results := [.lit (.bool true)], args := [d1, d2] }
  | _ => none }
def pathsRow : OpenClaim := { program := "ytjbejbehbjhecaa", sum := "d8376dfeb2f27607d31f60f7905a84bebb3e95e6ad12c6cd7e6e0d74d8c4ce17", func := "watchword/watchwordlaw21.Paths", spec := "paths", apart := false }
def PathsSaid : Prop := pathsRow.holds Try.pinned (OpenSpec.ofChange pathsSpec)

/-- ITS FALSE NEIGHBOUR: 'it returns false'. Refute it at one input. -/
def pathsWrong : ChangeSpec := { name := "paths", fn := fun _ => fun
  | [d1, d2] => { results := [.lit (.bool false)], args := [d1, d2] }
  | _ => none }
def PathsWrongFalsely : Prop := pathsRow.holds Try.pinned (OpenSpec.ofChange pathsWrong)

/-- 'watchwordlaw21.PathsLeast': WHATEVER THE INPUT: true; the input reads as it did. -/
def pathsLeastSpec : ChangeSpec := { name := "pathsLeast", fn := fun _ => fun
  | [d1, d2] => { results := [.lit (.bool true)], args := [d1, d2] }
  | _ => none }
def pathsLeastRow : OpenClaim := { program := "ytjbejbehbjhecaa", sum := "d8376dfeb2f27607d31f60f7905a84bebb3e95e6ad12c6cd7e6e0d74d8c4ce17", func := "watchword/watchwordlaw21.PathsLeast", spec := "pathsLeast", apart := false }
def PathsLeastSaid : Prop := pathsLeastRow.holds Try.pinned (OpenSpec.ofChange pathsLeastSpec)

/-- ITS FALSE NEIGHBOUR: 'it returns false'. Refute it at one input. -/
def pathsLeastWrong : ChangeSpec := { name := "pathsLeast", fn := fun _ => fun
  | [d1, d2] => { results := [.lit (.bool false)], args := [d1, d2] }
  | _ => none }
def PathsLeastWrongFalsely : Prop := pathsLeastRow.holds Try.pinned (OpenSpec.ofChange pathsLeastWrong)

/-- 'watchwordlaw21.PathsForms': WHATEVER THE INPUT: true; the input reads as it did. -/
def pathsFormsSpec : ChangeSpec := { name := "pathsForms", fn := fun _ => fun
  | [d1, d2] => { results := [.lit (.bool true)], args := [d1, d2] }
  | _ => none }
def pathsFormsRow : OpenClaim := { program := "ytjbejbehbjhecaa", sum := "d8376dfeb2f27607d31f60f7905a84bebb3e95e6ad12c6cd7e6e0d74d8c4ce17", func := "watchword/watchwordlaw21.PathsForms", spec := "pathsForms", apart := false }
def PathsFormsSaid : Prop := pathsFormsRow.holds Try.pinned (OpenSpec.ofChange pathsFormsSpec)

/-- ITS FALSE NEIGHBOUR: 'it returns false'. Refute it at one input. -/
def pathsFormsWrong : ChangeSpec := { name := "pathsForms", fn := fun _ => fun
  | [d1, d2] => { results := [.lit (.bool false)], args := [d1, d2] }
  | _ => none }
def PathsFormsWrongFalsely : Prop := pathsFormsRow.holds Try.pinned (OpenSpec.ofChange pathsFormsWrong)

/-- 'watchwordlaw21.PathsTriangle': WHATEVER THE INPUT: true; the input reads as it did. -/
def pathsTriangleSpec : ChangeSpec := { name := "pathsTriangle", fn := fun _ => fun
  | [d1, d2, d3] => { results := [.lit (.bool true)], args := [d1, d2, d3] }
  | _ => none }
def pathsTriangleRow : OpenClaim := { program := "ytjbejbehbjhecaa", sum := "d8376dfeb2f27607d31f60f7905a84bebb3e95e6ad12c6cd7e6e0d74d8c4ce17", func := "watchword/watchwordlaw21.PathsTriangle", spec := "pathsTriangle", apart := false }
def PathsTriangleSaid : Prop := pathsTriangleRow.holds Try.pinned (OpenSpec.ofChange pathsTriangleSpec)

/-- ITS FALSE NEIGHBOUR: 'it returns false'. Refute it at one input. -/
def pathsTriangleWrong : ChangeSpec := { name := "pathsTriangle", fn := fun _ => fun
  | [d1, d2, d3] => { results := [.lit (.bool false)], args := [d1, d2, d3] }
  | _ => none }
def PathsTriangleWrongFalsely : Prop := pathsTriangleRow.holds Try.pinned (OpenSpec.ofChange pathsTriangleWrong)

/-- 'watchwordlaw21.PathsNone': WHATEVER THE INPUT: true; the input reads as it did. -/
def pathsNoneSpec : ChangeSpec := { name := "pathsNone", fn := fun _ => fun
  | [d1, d2, d3, d4] => { results := [.lit (.bool true)], args := [d1, d2, d3, d4] }
  | _ => none }
def pathsNoneRow : OpenClaim := { program := "ytjbejbehbjhecaa", sum := "d8376dfeb2f27607d31f60f7905a84bebb3e95e6ad12c6cd7e6e0d74d8c4ce17", func := "watchword/watchwordlaw21.PathsNone", spec := "pathsNone", apart := false }
def PathsNoneSaid : Prop := pathsNoneRow.holds Try.pinned (OpenSpec.ofChange pathsNoneSpec)

/-- ITS FALSE NEIGHBOUR: 'it returns false'. Refute it at one input. -/
def pathsNoneWrong : ChangeSpec := { name := "pathsNone", fn := fun _ => fun
  | [d1, d2, d3, d4] => { results := [.lit (.bool false)], args := [d1, d2, d3, d4] }
  | _ => none }
def PathsNoneWrongFalsely : Prop := pathsNoneRow.holds Try.pinned (OpenSpec.ofChange pathsNoneWrong)

/-- 'watchwordlaw20.Graphs': WHATEVER THE INPUT: true; the input reads as it did. -/
def graphsSpec : ChangeSpec := { name := "graphs", fn := fun _ => fun
  | [d1, d2] => { results := [.lit (.bool true)], args := [d1, d2] }
  | _ => none }
def graphsRow : OpenClaim := { program := "ytjbejbehbjhecaa", sum := "d8376dfeb2f27607d31f60f7905a84bebb3e95e6ad12c6cd7e6e0d74d8c4ce17", func := "watchword/watchwordlaw20.Graphs", spec := "graphs", unfollowed := true, recurses := true, apart := false }
def GraphsSaid : Prop := graphsRow.holds Try.pinned (OpenSpec.ofChange graphsSpec)

/-- ITS FALSE NEIGHBOUR: 'it returns false'. Refute it at one input. -/
def graphsWrong : ChangeSpec := { name := "graphs", fn := fun _ => fun
  | [d1, d2] => { results := [.lit (.bool false)], args := [d1, d2] }
  | _ => none }
def GraphsWrongFalsely : Prop := graphsRow.holds Try.pinned (OpenSpec.ofChange graphsWrong)

/-- 'watchwordlaw20.GraphBoth': WHATEVER THE INPUT: true; the input reads as it did. -/
def graphBothSpec : ChangeSpec := { name := "graphBoth", fn := fun _ => fun
  | [d] => { results := [.lit (.bool true)], args := [d] }
  | _ => none }
def graphBothRow : OpenClaim := { program := "ytjbejbehbjhecaa", sum := "d8376dfeb2f27607d31f60f7905a84bebb3e95e6ad12c6cd7e6e0d74d8c4ce17", func := "watchword/watchwordlaw20.GraphBoth", spec := "graphBoth", unfollowed := true, recurses := true, apart := false }
def GraphBothSaid : Prop := graphBothRow.holds Try.pinned (OpenSpec.ofChange graphBothSpec)

/-- ITS FALSE NEIGHBOUR: 'it returns false'. Refute it at one input. -/
def graphBothWrong : ChangeSpec := { name := "graphBoth", fn := fun _ => fun
  | [d] => { results := [.lit (.bool false)], args := [d] }
  | _ => none }
def GraphBothWrongFalsely : Prop := graphBothRow.holds Try.pinned (OpenSpec.ofChange graphBothWrong)

/-- 'watchwordlaw20.GraphForms': WHATEVER THE INPUT: true; the input reads as it did. -/
def graphFormsSpec : ChangeSpec := { name := "graphForms", fn := fun _ => fun
  | [d1, d2] => { results := [.lit (.bool true)], args := [d1, d2] }
  | _ => none }
def graphFormsRow : OpenClaim := { program := "ytjbejbehbjhecaa", sum := "d8376dfeb2f27607d31f60f7905a84bebb3e95e6ad12c6cd7e6e0d74d8c4ce17", func := "watchword/watchwordlaw20.GraphForms", spec := "graphForms", unfollowed := true, recurses := true, apart := false }
def GraphFormsSaid : Prop := graphFormsRow.holds Try.pinned (OpenSpec.ofChange graphFormsSpec)

/-- ITS FALSE NEIGHBOUR: 'it returns false'. Refute it at one input. -/
def graphFormsWrong : ChangeSpec := { name := "graphForms", fn := fun _ => fun
  | [d1, d2] => { results := [.lit (.bool false)], args := [d1, d2] }
  | _ => none }
def GraphFormsWrongFalsely : Prop := graphFormsRow.holds Try.pinned (OpenSpec.ofChange graphFormsWrong)

/-- 'watchwordlaw20.GraphOne': WHATEVER THE INPUT: true; the input reads as it did. -/
def graphOneSpec : ChangeSpec := { name := "graphOne", fn := fun _ => fun
  | [d1, d2, d3, d4] => { results := [.lit (.bool true)], args := [d1, d2, d3, d4] }
  | _ => none }
def graphOneRow : OpenClaim := { program := "ytjbejbehbjhecaa", sum := "d8376dfeb2f27607d31f60f7905a84bebb3e95e6ad12c6cd7e6e0d74d8c4ce17", func := "watchword/watchwordlaw20.GraphOne", spec := "graphOne", unfollowed := true, recurses := true, apart := false }
def GraphOneSaid : Prop := graphOneRow.holds Try.pinned (OpenSpec.ofChange graphOneSpec)

/-- ITS FALSE NEIGHBOUR: 'it returns false'. Refute it at one input. -/
def graphOneWrong : ChangeSpec := { name := "graphOne", fn := fun _ => fun
  | [d1, d2, d3, d4] => { results := [.lit (.bool false)], args := [d1, d2, d3, d4] }
  | _ => none }
def GraphOneWrongFalsely : Prop := graphOneRow.holds Try.pinned (OpenSpec.ofChange graphOneWrong)

/-- 'watchwordlaw20.GraphLess': WHATEVER THE INPUT: true; the input reads as it did. -/
def graphLessSpec : ChangeSpec := { name := "graphLess", fn := fun _ => fun
  | [d1, d2] => { results := [.lit (.bool true)], args := [d1, d2] }
  | _ => none }
def graphLessRow : OpenClaim := { program := "ytjbejbehbjhecaa", sum := "d8376dfeb2f27607d31f60f7905a84bebb3e95e6ad12c6cd7e6e0d74d8c4ce17", func := "watchword/watchwordlaw20.GraphLess", spec := "graphLess", unfollowed := true, recurses := true, apart := false }
def GraphLessSaid : Prop := graphLessRow.holds Try.pinned (OpenSpec.ofChange graphLessSpec)

/-- ITS FALSE NEIGHBOUR: 'it returns false'. Refute it at one input. -/
def graphLessWrong : ChangeSpec := { name := "graphLess", fn := fun _ => fun
  | [d1, d2] => { results := [.lit (.bool false)], args := [d1, d2] }
  | _ => none }
def GraphLessWrongFalsely : Prop := graphLessRow.holds Try.pinned (OpenSpec.ofChange graphLessWrong)

/- THE SECOND FORM. 'bulk': how many values and letters a reading holds, each counted each time it is reached (what is shared counts as often as it is met; a slice's spare places count too). A statement '..UptoSaid' is the law's where the arguments, and the package variables that the reading takes, are together of bulk at most 1048576: NARROWER than '..Said'. Prove '..Said' where nothing that the law and all that it calls make is longer than what came in: it says more and counts as full. Else prove '..UptoSaid'. A law counts once. -/
mutual
def uptoBulk {H : Type} : DataW H → Nat
  | .lit (.string bytes) => bytes.length + 1
  | .lit _ => 1
  | .nil => 1
  | .ptr d => uptoBulk d + 1
  | .slice elems spare => uptoBulkAll elems + uptoBulkAll spare + 1
  | .agg parts => uptoBulkAll parts + 1
  | .iface _ d => uptoBulk d + 1
  | .map entries => uptoBulkEntries entries + 1
  | .held _ => 1
def uptoBulkAll {H : Type} : List (DataW H) → Nat
  | [] => 0
  | d :: r => uptoBulk d + uptoBulkAll r
def uptoBulkEntries {H : Type} : List (Lit × DataW H) → Nat
  | [] => 0
  | x :: r => uptoBulkEntry x + uptoBulkEntries r
def uptoBulkEntry {H : Type} : Lit × DataW H → Nat
  | (.string bytes, d) => bytes.length + uptoBulk d + 1
  | (_, d) => uptoBulk d + 1
 end
def uptoSmall : (H : Type) → List (DataW H) → Bool := fun _ ds => decide (uptoBulkAll ds ≤ 1048576)
def OpenSpec.upto (s : _root_.Go.ChangeSpec) : _root_.Go.OpenSpec := { _root_.Go.OpenSpec.ofChange s with cond := some uptoSmall }

/-- 'watchwordlaw21.Paths', WHERE WHAT IT READS IS OF BULK AT MOST 1048576: true; the input reads as it did. -/
def pathsUptoRow : OpenClaim := { program := "ytjbejbehbjhecaa", sum := "d8376dfeb2f27607d31f60f7905a84bebb3e95e6ad12c6cd7e6e0d74d8c4ce17", func := "watchword/watchwordlaw21.Paths", spec := "paths", apart := false, narrowed := true }
def PathsUptoSaid : Prop := pathsUptoRow.holds Try.pinned (OpenSpec.upto pathsSpec)

/-- 'watchwordlaw21.PathsLeast', WHERE WHAT IT READS IS OF BULK AT MOST 1048576: true; the input reads as it did. -/
def pathsLeastUptoRow : OpenClaim := { program := "ytjbejbehbjhecaa", sum := "d8376dfeb2f27607d31f60f7905a84bebb3e95e6ad12c6cd7e6e0d74d8c4ce17", func := "watchword/watchwordlaw21.PathsLeast", spec := "pathsLeast", apart := false, narrowed := true }
def PathsLeastUptoSaid : Prop := pathsLeastUptoRow.holds Try.pinned (OpenSpec.upto pathsLeastSpec)

/-- 'watchwordlaw21.PathsForms', WHERE WHAT IT READS IS OF BULK AT MOST 1048576: true; the input reads as it did. -/
def pathsFormsUptoRow : OpenClaim := { program := "ytjbejbehbjhecaa", sum := "d8376dfeb2f27607d31f60f7905a84bebb3e95e6ad12c6cd7e6e0d74d8c4ce17", func := "watchword/watchwordlaw21.PathsForms", spec := "pathsForms", apart := false, narrowed := true }
def PathsFormsUptoSaid : Prop := pathsFormsUptoRow.holds Try.pinned (OpenSpec.upto pathsFormsSpec)

/-- 'watchwordlaw21.PathsTriangle', WHERE WHAT IT READS IS OF BULK AT MOST 1048576: true; the input reads as it did. -/
def pathsTriangleUptoRow : OpenClaim := { program := "ytjbejbehbjhecaa", sum := "d8376dfeb2f27607d31f60f7905a84bebb3e95e6ad12c6cd7e6e0d74d8c4ce17", func := "watchword/watchwordlaw21.PathsTriangle", spec := "pathsTriangle", apart := false, narrowed := true }
def PathsTriangleUptoSaid : Prop := pathsTriangleUptoRow.holds Try.pinned (OpenSpec.upto pathsTriangleSpec)

/-- 'watchwordlaw21.PathsNone', WHERE WHAT IT READS IS OF BULK AT MOST 1048576: true; the input reads as it did. -/
def pathsNoneUptoRow : OpenClaim := { program := "ytjbejbehbjhecaa", sum := "d8376dfeb2f27607d31f60f7905a84bebb3e95e6ad12c6cd7e6e0d74d8c4ce17", func := "watchword/watchwordlaw21.PathsNone", spec := "pathsNone", apart := false, narrowed := true }
def PathsNoneUptoSaid : Prop := pathsNoneUptoRow.holds Try.pinned (OpenSpec.upto pathsNoneSpec)

/-- 'watchwordlaw20.Graphs', WHERE WHAT IT READS IS OF BULK AT MOST 1048576: true; the input reads as it did. -/
def graphsUptoRow : OpenClaim := { program := "ytjbejbehbjhecaa", sum := "d8376dfeb2f27607d31f60f7905a84bebb3e95e6ad12c6cd7e6e0d74d8c4ce17", func := "watchword/watchwordlaw20.Graphs", spec := "graphs", unfollowed := true, recurses := true, apart := false, narrowed := true }
def GraphsUptoSaid : Prop := graphsUptoRow.holds Try.pinned (OpenSpec.upto graphsSpec)

/-- 'watchwordlaw20.GraphBoth', WHERE WHAT IT READS IS OF BULK AT MOST 1048576: true; the input reads as it did. -/
def graphBothUptoRow : OpenClaim := { program := "ytjbejbehbjhecaa", sum := "d8376dfeb2f27607d31f60f7905a84bebb3e95e6ad12c6cd7e6e0d74d8c4ce17", func := "watchword/watchwordlaw20.GraphBoth", spec := "graphBoth", unfollowed := true, recurses := true, apart := false, narrowed := true }
def GraphBothUptoSaid : Prop := graphBothUptoRow.holds Try.pinned (OpenSpec.upto graphBothSpec)

/-- 'watchwordlaw20.GraphForms', WHERE WHAT IT READS IS OF BULK AT MOST 1048576: true; the input reads as it did. -/
def graphFormsUptoRow : OpenClaim := { program := "ytjbejbehbjhecaa", sum := "d8376dfeb2f27607d31f60f7905a84bebb3e95e6ad12c6cd7e6e0d74d8c4ce17", func := "watchword/watchwordlaw20.GraphForms", spec := "graphForms", unfollowed := true, recurses := true, apart := false, narrowed := true }
def GraphFormsUptoSaid : Prop := graphFormsUptoRow.holds Try.pinned (OpenSpec.upto graphFormsSpec)

/-- 'watchwordlaw20.GraphOne', WHERE WHAT IT READS IS OF BULK AT MOST 1048576: true; the input reads as it did. -/
def graphOneUptoRow : OpenClaim := { program := "ytjbejbehbjhecaa", sum := "d8376dfeb2f27607d31f60f7905a84bebb3e95e6ad12c6cd7e6e0d74d8c4ce17", func := "watchword/watchwordlaw20.GraphOne", spec := "graphOne", unfollowed := true, recurses := true, apart := false, narrowed := true }
def GraphOneUptoSaid : Prop := graphOneUptoRow.holds Try.pinned (OpenSpec.upto graphOneSpec)

/-- 'watchwordlaw20.GraphLess', WHERE WHAT IT READS IS OF BULK AT MOST 1048576: true; the input reads as it did. -/
def graphLessUptoRow : OpenClaim := { program := "ytjbejbehbjhecaa", sum := "d8376dfeb2f27607d31f60f7905a84bebb3e95e6ad12c6cd7e6e0d74d8c4ce17", func := "watchword/watchwordlaw20.GraphLess", spec := "graphLess", unfollowed := true, recurses := true, apart := false, narrowed := true }
def GraphLessUptoSaid : Prop := graphLessUptoRow.holds Try.pinned (OpenSpec.upto graphLessSpec)

end Rows
end Go.Proofs.Ytjbejbehbjhecaa
