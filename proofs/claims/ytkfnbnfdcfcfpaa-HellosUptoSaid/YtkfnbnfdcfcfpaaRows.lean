/-
  No cell of these rows narrows 'for every input' (looked for: loops, veiled, ifaces, maps, wideKeys, modest, calm, conditions, laid).
  DERIVED. THE GIVEN ROWS OF THIS SEAT. 11 by the template 'for every input the law returns true; each argument reads behind the call as it read before'; 0 by the template 'total and deterministic' (their statements: YtkfnbnfdcfcfpaaTotals.lean).
  GIVEN WITH THE SEED: the statements are not yours to turn. If you find one false, say at which input.
  Laid BY PROGRAM, IN A SANDBOX (cutbox-rows.mjs): the forced cells as the released guide's own fill.sh prints them over the translation 4261fc8f539b7f67… (all of the seat's roots in one cut). By AI agents, Wed Nov 11 2026. No macro, syntax, notation, axiom, sorry.
-/
import Derived.Test.YtkfnbnfdcfcfpaaChecked
import GoSem.Claim
import GoSem.ClaimJoined
import GoSem.ClaimMapViews
import Derived.JoinedTies
import Derived.KernelRfl
namespace Go.Proofs.Ytkfnbnfdcfcfpaa
/- THE CELL 'sum', in the pinned program and in every row, IS THE sha256 OF THE DUMP (.gsa) THAT YtkfnbnfdcfcfpaaProg.lean LOADS. Nothing in Lean hashes anything: it is a label: what it is worth is what the hold of that sum in a sandbox is worth. -/
noncomputable def Try.pinned : Pinned := { name := "ytkfnbnfdcfcfpaa", sum := "4261fc8f539b7f6707d71085aa61fb30c27c361e62cb0a305425f1ed4e0b08dc", checked := Try.checked }
namespace Rows
def none {H : Type} : Left H := { results := [], args := [] }

/-- 'watchwordlaw8.Heads': WHATEVER THE INPUT: true; the input reads as it did. -/
def headsSpec : ChangeSpec := { name := "heads", fn := fun _ => fun
  | [d1, d2, d3, d4] => { results := [.lit (.bool true)], args := [d1, d2, d3, d4] }
  | _ => none }
def headsRow : OpenClaim := { program := "ytkfnbnfdcfcfpaa", sum := "4261fc8f539b7f6707d71085aa61fb30c27c361e62cb0a305425f1ed4e0b08dc", func := "watchword/watchwordlaw8.Heads", spec := "heads", apart := false }
def HeadsSaid : Prop := headsRow.holds Try.pinned (OpenSpec.ofChange headsSpec)

/-- ITS FALSE NEIGHBOUR: 'it returns false'. Refute it at one input. -/
def headsWrong : ChangeSpec := { name := "heads", fn := fun _ => fun
  | [d1, d2, d3, d4] => { results := [.lit (.bool false)], args := [d1, d2, d3, d4] }
  | _ => none }
def HeadsWrongFalsely : Prop := headsRow.holds Try.pinned (OpenSpec.ofChange headsWrong)

/-- 'watchwordlaw8.HeadForms': WHATEVER THE INPUT: true; the input reads as it did. -/
def headFormsSpec : ChangeSpec := { name := "headForms", fn := fun _ => fun
  | [d1, d2] => { results := [.lit (.bool true)], args := [d1, d2] }
  | _ => none }
def headFormsRow : OpenClaim := { program := "ytkfnbnfdcfcfpaa", sum := "4261fc8f539b7f6707d71085aa61fb30c27c361e62cb0a305425f1ed4e0b08dc", func := "watchword/watchwordlaw8.HeadForms", spec := "headForms", apart := false }
def HeadFormsSaid : Prop := headFormsRow.holds Try.pinned (OpenSpec.ofChange headFormsSpec)

/-- ITS FALSE NEIGHBOUR: 'it returns false'. Refute it at one input. -/
def headFormsWrong : ChangeSpec := { name := "headForms", fn := fun _ => fun
  | [d1, d2] => { results := [.lit (.bool false)], args := [d1, d2] }
  | _ => none }
def HeadFormsWrongFalsely : Prop := headFormsRow.holds Try.pinned (OpenSpec.ofChange headFormsWrong)

/-- 'watchwordlaw8.HeadBack': WHATEVER THE INPUT: true; the input reads as it did. -/
def headBackSpec : ChangeSpec := { name := "headBack", fn := fun _ => fun
  | [d1, d2, d3, d4] => { results := [.lit (.bool true)], args := [d1, d2, d3, d4] }
  | _ => none }
def headBackRow : OpenClaim := { program := "ytkfnbnfdcfcfpaa", sum := "4261fc8f539b7f6707d71085aa61fb30c27c361e62cb0a305425f1ed4e0b08dc", func := "watchword/watchwordlaw8.HeadBack", spec := "headBack", apart := false }
def HeadBackSaid : Prop := headBackRow.holds Try.pinned (OpenSpec.ofChange headBackSpec)

/-- ITS FALSE NEIGHBOUR: 'it returns false'. Refute it at one input. -/
def headBackWrong : ChangeSpec := { name := "headBack", fn := fun _ => fun
  | [d1, d2, d3, d4] => { results := [.lit (.bool false)], args := [d1, d2, d3, d4] }
  | _ => none }
def HeadBackWrongFalsely : Prop := headBackRow.holds Try.pinned (OpenSpec.ofChange headBackWrong)

/-- 'watchwordlaw8.HeadUnlike': WHATEVER THE INPUT: true; the input reads as it did. -/
def headUnlikeSpec : ChangeSpec := { name := "headUnlike", fn := fun _ => fun
  | [d1, d2, d3, d4] => { results := [.lit (.bool true)], args := [d1, d2, d3, d4] }
  | _ => none }
def headUnlikeRow : OpenClaim := { program := "ytkfnbnfdcfcfpaa", sum := "4261fc8f539b7f6707d71085aa61fb30c27c361e62cb0a305425f1ed4e0b08dc", func := "watchword/watchwordlaw8.HeadUnlike", spec := "headUnlike", apart := false }
def HeadUnlikeSaid : Prop := headUnlikeRow.holds Try.pinned (OpenSpec.ofChange headUnlikeSpec)

/-- ITS FALSE NEIGHBOUR: 'it returns false'. Refute it at one input. -/
def headUnlikeWrong : ChangeSpec := { name := "headUnlike", fn := fun _ => fun
  | [d1, d2, d3, d4] => { results := [.lit (.bool false)], args := [d1, d2, d3, d4] }
  | _ => none }
def HeadUnlikeWrongFalsely : Prop := headUnlikeRow.holds Try.pinned (OpenSpec.ofChange headUnlikeWrong)

/-- 'watchwordlaw9.Hellos': WHATEVER THE INPUT: true; the input reads as it did. -/
def hellosSpec : ChangeSpec := { name := "hellos", fn := fun _ => fun
  | [d1, d2] => { results := [.lit (.bool true)], args := [d1, d2] }
  | _ => none }
def hellosRow : OpenClaim := { program := "ytkfnbnfdcfcfpaa", sum := "4261fc8f539b7f6707d71085aa61fb30c27c361e62cb0a305425f1ed4e0b08dc", func := "watchword/watchwordlaw9.Hellos", spec := "hellos", apart := false }
def HellosSaid : Prop := hellosRow.holds Try.pinned (OpenSpec.ofChange hellosSpec)

/-- ITS FALSE NEIGHBOUR: 'it returns false'. Refute it at one input. -/
def hellosWrong : ChangeSpec := { name := "hellos", fn := fun _ => fun
  | [d1, d2] => { results := [.lit (.bool false)], args := [d1, d2] }
  | _ => none }
def HellosWrongFalsely : Prop := hellosRow.holds Try.pinned (OpenSpec.ofChange hellosWrong)

/-- 'watchwordlaw9.HelloAll': WHATEVER THE INPUT: true; the input reads as it did. -/
def helloAllSpec : ChangeSpec := { name := "helloAll", fn := fun _ => fun
  | [d1, d2] => { results := [.lit (.bool true)], args := [d1, d2] }
  | _ => none }
def helloAllRow : OpenClaim := { program := "ytkfnbnfdcfcfpaa", sum := "4261fc8f539b7f6707d71085aa61fb30c27c361e62cb0a305425f1ed4e0b08dc", func := "watchword/watchwordlaw9.HelloAll", spec := "helloAll", apart := false }
def HelloAllSaid : Prop := helloAllRow.holds Try.pinned (OpenSpec.ofChange helloAllSpec)

/-- ITS FALSE NEIGHBOUR: 'it returns false'. Refute it at one input. -/
def helloAllWrong : ChangeSpec := { name := "helloAll", fn := fun _ => fun
  | [d1, d2] => { results := [.lit (.bool false)], args := [d1, d2] }
  | _ => none }
def HelloAllWrongFalsely : Prop := helloAllRow.holds Try.pinned (OpenSpec.ofChange helloAllWrong)

/-- 'watchwordlaw9.HelloForms': WHATEVER THE INPUT: true; the input reads as it did. -/
def helloFormsSpec : ChangeSpec := { name := "helloForms", fn := fun _ => fun
  | [d1, d2] => { results := [.lit (.bool true)], args := [d1, d2] }
  | _ => none }
def helloFormsRow : OpenClaim := { program := "ytkfnbnfdcfcfpaa", sum := "4261fc8f539b7f6707d71085aa61fb30c27c361e62cb0a305425f1ed4e0b08dc", func := "watchword/watchwordlaw9.HelloForms", spec := "helloForms", apart := false }
def HelloFormsSaid : Prop := helloFormsRow.holds Try.pinned (OpenSpec.ofChange helloFormsSpec)

/-- ITS FALSE NEIGHBOUR: 'it returns false'. Refute it at one input. -/
def helloFormsWrong : ChangeSpec := { name := "helloForms", fn := fun _ => fun
  | [d1, d2] => { results := [.lit (.bool false)], args := [d1, d2] }
  | _ => none }
def HelloFormsWrongFalsely : Prop := helloFormsRow.holds Try.pinned (OpenSpec.ofChange helloFormsWrong)

/-- 'watchwordlaw9.HelloUnlike': WHATEVER THE INPUT: true; the input reads as it did. -/
def helloUnlikeSpec : ChangeSpec := { name := "helloUnlike", fn := fun _ => fun
  | [d1, d2] => { results := [.lit (.bool true)], args := [d1, d2] }
  | _ => none }
def helloUnlikeRow : OpenClaim := { program := "ytkfnbnfdcfcfpaa", sum := "4261fc8f539b7f6707d71085aa61fb30c27c361e62cb0a305425f1ed4e0b08dc", func := "watchword/watchwordlaw9.HelloUnlike", spec := "helloUnlike", apart := false }
def HelloUnlikeSaid : Prop := helloUnlikeRow.holds Try.pinned (OpenSpec.ofChange helloUnlikeSpec)

/-- ITS FALSE NEIGHBOUR: 'it returns false'. Refute it at one input. -/
def helloUnlikeWrong : ChangeSpec := { name := "helloUnlike", fn := fun _ => fun
  | [d1, d2] => { results := [.lit (.bool false)], args := [d1, d2] }
  | _ => none }
def HelloUnlikeWrongFalsely : Prop := helloUnlikeRow.holds Try.pinned (OpenSpec.ofChange helloUnlikeWrong)

/-- 'watchwordlaw13.Trailers': WHATEVER THE INPUT: true; the input reads as it did. -/
def trailersSpec : ChangeSpec := { name := "trailers", fn := fun _ => fun
  | [d1, d2, d3] => { results := [.lit (.bool true)], args := [d1, d2, d3] }
  | _ => none }
def trailersRow : OpenClaim := { program := "ytkfnbnfdcfcfpaa", sum := "4261fc8f539b7f6707d71085aa61fb30c27c361e62cb0a305425f1ed4e0b08dc", func := "watchword/watchwordlaw13.Trailers", spec := "trailers", apart := false }
def TrailersSaid : Prop := trailersRow.holds Try.pinned (OpenSpec.ofChange trailersSpec)

/-- ITS FALSE NEIGHBOUR: 'it returns false'. Refute it at one input. -/
def trailersWrong : ChangeSpec := { name := "trailers", fn := fun _ => fun
  | [d1, d2, d3] => { results := [.lit (.bool false)], args := [d1, d2, d3] }
  | _ => none }
def TrailersWrongFalsely : Prop := trailersRow.holds Try.pinned (OpenSpec.ofChange trailersWrong)

/-- 'watchwordlaw13.TrailerForms': WHATEVER THE INPUT: true; the input reads as it did. -/
def trailerFormsSpec : ChangeSpec := { name := "trailerForms", fn := fun _ => fun
  | [d1, d2] => { results := [.lit (.bool true)], args := [d1, d2] }
  | _ => none }
def trailerFormsRow : OpenClaim := { program := "ytkfnbnfdcfcfpaa", sum := "4261fc8f539b7f6707d71085aa61fb30c27c361e62cb0a305425f1ed4e0b08dc", func := "watchword/watchwordlaw13.TrailerForms", spec := "trailerForms", apart := false }
def TrailerFormsSaid : Prop := trailerFormsRow.holds Try.pinned (OpenSpec.ofChange trailerFormsSpec)

/-- ITS FALSE NEIGHBOUR: 'it returns false'. Refute it at one input. -/
def trailerFormsWrong : ChangeSpec := { name := "trailerForms", fn := fun _ => fun
  | [d1, d2] => { results := [.lit (.bool false)], args := [d1, d2] }
  | _ => none }
def TrailerFormsWrongFalsely : Prop := trailerFormsRow.holds Try.pinned (OpenSpec.ofChange trailerFormsWrong)

/-- 'watchwordlaw13.TrailerBack': WHATEVER THE INPUT: true; the input reads as it did. -/
def trailerBackSpec : ChangeSpec := { name := "trailerBack", fn := fun _ => fun
  | [d1, d2] => { results := [.lit (.bool true)], args := [d1, d2] }
  | _ => none }
def trailerBackRow : OpenClaim := { program := "ytkfnbnfdcfcfpaa", sum := "4261fc8f539b7f6707d71085aa61fb30c27c361e62cb0a305425f1ed4e0b08dc", func := "watchword/watchwordlaw13.TrailerBack", spec := "trailerBack", apart := false }
def TrailerBackSaid : Prop := trailerBackRow.holds Try.pinned (OpenSpec.ofChange trailerBackSpec)

/-- ITS FALSE NEIGHBOUR: 'it returns false'. Refute it at one input. -/
def trailerBackWrong : ChangeSpec := { name := "trailerBack", fn := fun _ => fun
  | [d1, d2] => { results := [.lit (.bool false)], args := [d1, d2] }
  | _ => none }
def TrailerBackWrongFalsely : Prop := trailerBackRow.holds Try.pinned (OpenSpec.ofChange trailerBackWrong)

/- THE SECOND FORM. 'bulk': how many values and letters a reading holds, each counted each time it is reached (what is shared counts as often as it is met; a slice's spare places count too). A statement '..UptoSaid' is the law's where the arguments, and the package variables that the reading takes, are together of bulk at most 1048576: NARROWER than '..Said'. Prove '..Said' where nothing that the law and all that it calls make is longer than what came in: it says more and counts as full. Else prove '..UptoSaid'. A law counts once. -/
mutual
def uptoBulk {H : Type} : DataW H → Nat
  | .lit (.string bytes) => bytes.length + 1
  | .lit _ => 1
  | .nil => 1
  | .ptr d => uptoBulk d + 1
  | .slice elems spare => uptoBulkAll elems + uptoBulkAll spare + 1
  | .agg parts => uptoBulkAll parts + 1
  | .iface _ d => uptoBulk d + 1
  | .map entries => uptoBulkEntries entries + 1
  | .held _ => 1
def uptoBulkAll {H : Type} : List (DataW H) → Nat
  | [] => 0
  | d :: r => uptoBulk d + uptoBulkAll r
def uptoBulkEntries {H : Type} : List (Lit × DataW H) → Nat
  | [] => 0
  | x :: r => uptoBulkEntry x + uptoBulkEntries r
def uptoBulkEntry {H : Type} : Lit × DataW H → Nat
  | (.string bytes, d) => bytes.length + uptoBulk d + 1
  | (_, d) => uptoBulk d + 1
 end
def uptoSmall : (H : Type) → List (DataW H) → Bool := fun _ ds => decide (uptoBulkAll ds ≤ 1048576)
def OpenSpec.upto (s : _root_.Go.ChangeSpec) : _root_.Go.OpenSpec := { _root_.Go.OpenSpec.ofChange s with cond := some uptoSmall }

/-- 'watchwordlaw8.Heads', WHERE WHAT IT READS IS OF BULK AT MOST 1048576: true; the input reads as it did. -/
def headsUptoRow : OpenClaim := { program := "ytkfnbnfdcfcfpaa", sum := "4261fc8f539b7f6707d71085aa61fb30c27c361e62cb0a305425f1ed4e0b08dc", func := "watchword/watchwordlaw8.Heads", spec := "heads", apart := false, narrowed := true }
def HeadsUptoSaid : Prop := headsUptoRow.holds Try.pinned (OpenSpec.upto headsSpec)

/-- 'watchwordlaw8.HeadForms', WHERE WHAT IT READS IS OF BULK AT MOST 1048576: true; the input reads as it did. -/
def headFormsUptoRow : OpenClaim := { program := "ytkfnbnfdcfcfpaa", sum := "4261fc8f539b7f6707d71085aa61fb30c27c361e62cb0a305425f1ed4e0b08dc", func := "watchword/watchwordlaw8.HeadForms", spec := "headForms", apart := false, narrowed := true }
def HeadFormsUptoSaid : Prop := headFormsUptoRow.holds Try.pinned (OpenSpec.upto headFormsSpec)

/-- 'watchwordlaw8.HeadBack', WHERE WHAT IT READS IS OF BULK AT MOST 1048576: true; the input reads as it did. -/
def headBackUptoRow : OpenClaim := { program := "ytkfnbnfdcfcfpaa", sum := "4261fc8f539b7f6707d71085aa61fb30c27c361e62cb0a305425f1ed4e0b08dc", func := "watchword/watchwordlaw8.HeadBack", spec := "headBack", apart := false, narrowed := true }
def HeadBackUptoSaid : Prop := headBackUptoRow.holds Try.pinned (OpenSpec.upto headBackSpec)

/-- 'watchwordlaw8.HeadUnlike', WHERE WHAT IT READS IS OF BULK AT MOST 1048576: true; the input reads as it did. -/
def headUnlikeUptoRow : OpenClaim := { program := "ytkfnbnfdcfcfpaa", sum := "4261fc8f539b7f6707d71085aa61fb30c27c361e62cb0a305425f1ed4e0b08dc", func := "watchword/watchwordlaw8.HeadUnlike", spec := "headUnlike", apart := false, narrowed := true }
def HeadUnlikeUptoSaid : Prop := headUnlikeUptoRow.holds Try.pinned (OpenSpec.upto headUnlikeSpec)

/-- 'watchwordlaw9.Hellos', WHERE WHAT IT READS IS OF BULK AT MOST 1048576: true; the input reads as it did. -/
def hellosUptoRow : OpenClaim := { program := "ytkfnbnfdcfcfpaa", sum := "4261fc8f539b7f6707d71085aa61fb30c27c361e62cb0a305425f1ed4e0b08dc", func := "watchword/watchwordlaw9.Hellos", spec := "hellos", apart := false, narrowed := true }
def HellosUptoSaid : Prop := hellosUptoRow.holds Try.pinned (OpenSpec.upto hellosSpec)

/-- 'watchwordlaw9.HelloAll', WHERE WHAT IT READS IS OF BULK AT MOST 1048576: true; the input reads as it did. -/
def helloAllUptoRow : OpenClaim := { program := "ytkfnbnfdcfcfpaa", sum := "4261fc8f539b7f6707d71085aa61fb30c27c361e62cb0a305425f1ed4e0b08dc", func := "watchword/watchwordlaw9.HelloAll", spec := "helloAll", apart := false, narrowed := true }
def HelloAllUptoSaid : Prop := helloAllUptoRow.holds Try.pinned (OpenSpec.upto helloAllSpec)

/-- 'watchwordlaw9.HelloForms', WHERE WHAT IT READS IS OF BULK AT MOST 1048576: true; the input reads as it did. -/
def helloFormsUptoRow : OpenClaim := { program := "ytkfnbnfdcfcfpaa", sum := "4261fc8f539b7f6707d71085aa61fb30c27c361e62cb0a305425f1ed4e0b08dc", func := "watchword/watchwordlaw9.HelloForms", spec := "helloForms", apart := false, narrowed := true }
def HelloFormsUptoSaid : Prop := helloFormsUptoRow.holds Try.pinned (OpenSpec.upto helloFormsSpec)

/-- 'watchwordlaw9.HelloUnlike', WHERE WHAT IT READS IS OF BULK AT MOST 1048576: true; the input reads as it did. -/
def helloUnlikeUptoRow : OpenClaim := { program := "ytkfnbnfdcfcfpaa", sum := "4261fc8f539b7f6707d71085aa61fb30c27c361e62cb0a305425f1ed4e0b08dc", func := "watchword/watchwordlaw9.HelloUnlike", spec := "helloUnlike", apart := false, narrowed := true }
def HelloUnlikeUptoSaid : Prop := helloUnlikeUptoRow.holds Try.pinned (OpenSpec.upto helloUnlikeSpec)

/-- 'watchwordlaw13.Trailers', WHERE WHAT IT READS IS OF BULK AT MOST 1048576: true; the input reads as it did. -/
def trailersUptoRow : OpenClaim := { program := "ytkfnbnfdcfcfpaa", sum := "4261fc8f539b7f6707d71085aa61fb30c27c361e62cb0a305425f1ed4e0b08dc", func := "watchword/watchwordlaw13.Trailers", spec := "trailers", apart := false, narrowed := true }
def TrailersUptoSaid : Prop := trailersUptoRow.holds Try.pinned (OpenSpec.upto trailersSpec)

/-- 'watchwordlaw13.TrailerForms', WHERE WHAT IT READS IS OF BULK AT MOST 1048576: true; the input reads as it did. -/
def trailerFormsUptoRow : OpenClaim := { program := "ytkfnbnfdcfcfpaa", sum := "4261fc8f539b7f6707d71085aa61fb30c27c361e62cb0a305425f1ed4e0b08dc", func := "watchword/watchwordlaw13.TrailerForms", spec := "trailerForms", apart := false, narrowed := true }
def TrailerFormsUptoSaid : Prop := trailerFormsUptoRow.holds Try.pinned (OpenSpec.upto trailerFormsSpec)

/-- 'watchwordlaw13.TrailerBack', WHERE WHAT IT READS IS OF BULK AT MOST 1048576: true; the input reads as it did. -/
def trailerBackUptoRow : OpenClaim := { program := "ytkfnbnfdcfcfpaa", sum := "4261fc8f539b7f6707d71085aa61fb30c27c361e62cb0a305425f1ed4e0b08dc", func := "watchword/watchwordlaw13.TrailerBack", spec := "trailerBack", apart := false, narrowed := true }
def TrailerBackUptoSaid : Prop := trailerBackUptoRow.holds Try.pinned (OpenSpec.upto trailerBackSpec)

end Rows
end Go.Proofs.Ytkfnbnfdcfcfpaa
