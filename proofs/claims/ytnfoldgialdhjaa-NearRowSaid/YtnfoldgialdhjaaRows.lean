/-
  No cell of these rows narrows 'for every input' (looked for: loops, veiled, ifaces, maps, wideKeys, modest, calm, conditions, laid).
  DERIVED. THE GIVEN ROWS OF THIS SEAT. 5 by the template 'for every input the law returns true; each argument reads behind the call as it read before'; 0 by the template 'total and deterministic' (their statements: YtnfoldgialdhjaaTotals.lean).
  GIVEN WITH THE SEED: the statements are not yours to turn. If you find one false, say at which input.
  Laid BY PROGRAM, IN A SANDBOX (cutbox-rows.mjs): the forced cells as the released guide's own fill.sh prints them over the translation bf2dc9f3559d0b98… (all of the seat's roots in one cut). By AI agents, Wed Nov 11 2026. No macro, syntax, notation, axiom, sorry.
-/
import Derived.Test.YtnfoldgialdhjaaChecked
import GoSem.Claim
import GoSem.ClaimJoined
import GoSem.ClaimMapViews
import Derived.JoinedTies
import Derived.KernelRfl
namespace Go.Proofs.Ytnfoldgialdhjaa
/- THE CELL 'sum', in the pinned program and in every row, IS THE sha256 OF THE DUMP (.gsa) THAT YtnfoldgialdhjaaProg.lean LOADS. Nothing in Lean hashes anything: it is a label: what it is worth is what the hold of that sum in a sandbox is worth. -/
noncomputable def Try.pinned : Pinned := { name := "ytnfoldgialdhjaa", sum := "bf2dc9f3559d0b9819f7ad37e7b28bed39a396cf4d77f810e0f9c54cf317b248", checked := Try.checked }
namespace Rows
def none {H : Type} : Left H := { results := [], args := [] }

/-- 'watchwordlaw19.Nears': WHATEVER THE INPUT: true; the input reads as it did. -/
def nearsSpec : ChangeSpec := { name := "nears", fn := fun _ => fun
  | [d1, d2, d3] => { results := [.lit (.bool true)], args := [d1, d2, d3] }
  | _ => none }
def nearsRow : OpenClaim := { program := "ytnfoldgialdhjaa", sum := "bf2dc9f3559d0b9819f7ad37e7b28bed39a396cf4d77f810e0f9c54cf317b248", func := "watchword/watchwordlaw19.Nears", spec := "nears", inPlace := ["slices.overlaps[watchword/api.Near]"], unfollowed := true, recurses := true, apart := false }
def NearsSaid : Prop := nearsRow.holds Try.pinned (OpenSpec.ofChange nearsSpec)

/-- ITS FALSE NEIGHBOUR: 'it returns false'. Refute it at one input. -/
def nearsWrong : ChangeSpec := { name := "nears", fn := fun _ => fun
  | [d1, d2, d3] => { results := [.lit (.bool false)], args := [d1, d2, d3] }
  | _ => none }
def NearsWrongFalsely : Prop := nearsRow.holds Try.pinned (OpenSpec.ofChange nearsWrong)

/-- 'watchwordlaw19.NearDies': WHATEVER THE INPUT: true; the input reads as it did. -/
def nearDiesSpec : ChangeSpec := { name := "nearDies", fn := fun _ => fun
  | [d1, d2] => { results := [.lit (.bool true)], args := [d1, d2] }
  | _ => none }
def nearDiesRow : OpenClaim := { program := "ytnfoldgialdhjaa", sum := "bf2dc9f3559d0b9819f7ad37e7b28bed39a396cf4d77f810e0f9c54cf317b248", func := "watchword/watchwordlaw19.NearDies", spec := "nearDies", inPlace := ["slices.overlaps[watchword/api.Near]"], unfollowed := true, recurses := true, apart := false }
def NearDiesSaid : Prop := nearDiesRow.holds Try.pinned (OpenSpec.ofChange nearDiesSpec)

/-- ITS FALSE NEIGHBOUR: 'it returns false'. Refute it at one input. -/
def nearDiesWrong : ChangeSpec := { name := "nearDies", fn := fun _ => fun
  | [d1, d2] => { results := [.lit (.bool false)], args := [d1, d2] }
  | _ => none }
def NearDiesWrongFalsely : Prop := nearDiesRow.holds Try.pinned (OpenSpec.ofChange nearDiesWrong)

/-- 'watchwordlaw19.NearForms': WHATEVER THE INPUT: true; the input reads as it did. -/
def nearFormsSpec : ChangeSpec := { name := "nearForms", fn := fun _ => fun
  | [d1, d2] => { results := [.lit (.bool true)], args := [d1, d2] }
  | _ => none }
def nearFormsRow : OpenClaim := { program := "ytnfoldgialdhjaa", sum := "bf2dc9f3559d0b9819f7ad37e7b28bed39a396cf4d77f810e0f9c54cf317b248", func := "watchword/watchwordlaw19.NearForms", spec := "nearForms", inPlace := ["slices.overlaps[watchword/api.Near]"], unfollowed := true, recurses := true, apart := false }
def NearFormsSaid : Prop := nearFormsRow.holds Try.pinned (OpenSpec.ofChange nearFormsSpec)

/-- ITS FALSE NEIGHBOUR: 'it returns false'. Refute it at one input. -/
def nearFormsWrong : ChangeSpec := { name := "nearForms", fn := fun _ => fun
  | [d1, d2] => { results := [.lit (.bool false)], args := [d1, d2] }
  | _ => none }
def NearFormsWrongFalsely : Prop := nearFormsRow.holds Try.pinned (OpenSpec.ofChange nearFormsWrong)

/-- 'watchwordlaw19.NearStates': WHATEVER THE INPUT: true; the input reads as it did. -/
def nearStatesSpec : ChangeSpec := { name := "nearStates", fn := fun _ => fun
  | [d1, d2, d3] => { results := [.lit (.bool true)], args := [d1, d2, d3] }
  | _ => none }
def nearStatesRow : OpenClaim := { program := "ytnfoldgialdhjaa", sum := "bf2dc9f3559d0b9819f7ad37e7b28bed39a396cf4d77f810e0f9c54cf317b248", func := "watchword/watchwordlaw19.NearStates", spec := "nearStates", inPlace := ["slices.overlaps[watchword/api.Near]"], unfollowed := true, recurses := true, apart := false }
def NearStatesSaid : Prop := nearStatesRow.holds Try.pinned (OpenSpec.ofChange nearStatesSpec)

/-- ITS FALSE NEIGHBOUR: 'it returns false'. Refute it at one input. -/
def nearStatesWrong : ChangeSpec := { name := "nearStates", fn := fun _ => fun
  | [d1, d2, d3] => { results := [.lit (.bool false)], args := [d1, d2, d3] }
  | _ => none }
def NearStatesWrongFalsely : Prop := nearStatesRow.holds Try.pinned (OpenSpec.ofChange nearStatesWrong)

/-- 'watchwordlaw19.NearRow': WHATEVER THE INPUT: true; the input reads as it did. -/
def nearRowSpec : ChangeSpec := { name := "nearRow", fn := fun _ => fun
  | [d] => { results := [.lit (.bool true)], args := [d] }
  | _ => none }
def nearRowRow : OpenClaim := { program := "ytnfoldgialdhjaa", sum := "bf2dc9f3559d0b9819f7ad37e7b28bed39a396cf4d77f810e0f9c54cf317b248", func := "watchword/watchwordlaw19.NearRow", spec := "nearRow", inPlace := ["slices.overlaps[watchword/api.Near]"], unfollowed := true, recurses := true, apart := false }
def NearRowSaid : Prop := nearRowRow.holds Try.pinned (OpenSpec.ofChange nearRowSpec)

/-- ITS FALSE NEIGHBOUR: 'it returns false'. Refute it at one input. -/
def nearRowWrong : ChangeSpec := { name := "nearRow", fn := fun _ => fun
  | [d] => { results := [.lit (.bool false)], args := [d] }
  | _ => none }
def NearRowWrongFalsely : Prop := nearRowRow.holds Try.pinned (OpenSpec.ofChange nearRowWrong)

/- THE SECOND FORM. 'bulk': how many values and letters a reading holds, each counted each time it is reached (what is shared counts as often as it is met; a slice's spare places count too). A statement '..UptoSaid' is the law's where the arguments, and the package variables that the reading takes, are together of bulk at most 1048576: NARROWER than '..Said'. Prove '..Said' where nothing that the law and all that it calls make is longer than what came in: it says more and counts as full. Else prove '..UptoSaid'. A law counts once. -/
mutual
def uptoBulk {H : Type} : DataW H → Nat
  | .lit (.string bytes) => bytes.length + 1
  | .lit _ => 1
  | .nil => 1
  | .ptr d => uptoBulk d + 1
  | .slice elems spare => uptoBulkAll elems + uptoBulkAll spare + 1
  | .agg parts => uptoBulkAll parts + 1
  | .iface _ d => uptoBulk d + 1
  | .map entries => uptoBulkEntries entries + 1
  | .held _ => 1
def uptoBulkAll {H : Type} : List (DataW H) → Nat
  | [] => 0
  | d :: r => uptoBulk d + uptoBulkAll r
def uptoBulkEntries {H : Type} : List (Lit × DataW H) → Nat
  | [] => 0
  | x :: r => uptoBulkEntry x + uptoBulkEntries r
def uptoBulkEntry {H : Type} : Lit × DataW H → Nat
  | (.string bytes, d) => bytes.length + uptoBulk d + 1
  | (_, d) => uptoBulk d + 1
 end
def uptoSmall : (H : Type) → List (DataW H) → Bool := fun _ ds => decide (uptoBulkAll ds ≤ 1048576)
def OpenSpec.upto (s : _root_.Go.ChangeSpec) : _root_.Go.OpenSpec := { _root_.Go.OpenSpec.ofChange s with cond := some uptoSmall }

/-- 'watchwordlaw19.Nears', WHERE WHAT IT READS IS OF BULK AT MOST 1048576: true; the input reads as it did. -/
def nearsUptoRow : OpenClaim := { program := "ytnfoldgialdhjaa", sum := "bf2dc9f3559d0b9819f7ad37e7b28bed39a396cf4d77f810e0f9c54cf317b248", func := "watchword/watchwordlaw19.Nears", spec := "nears", inPlace := ["slices.overlaps[watchword/api.Near]"], unfollowed := true, recurses := true, apart := false, narrowed := true }
def NearsUptoSaid : Prop := nearsUptoRow.holds Try.pinned (OpenSpec.upto nearsSpec)

/-- 'watchwordlaw19.NearDies', WHERE WHAT IT READS IS OF BULK AT MOST 1048576: true; the input reads as it did. -/
def nearDiesUptoRow : OpenClaim := { program := "ytnfoldgialdhjaa", sum := "bf2dc9f3559d0b9819f7ad37e7b28bed39a396cf4d77f810e0f9c54cf317b248", func := "watchword/watchwordlaw19.NearDies", spec := "nearDies", inPlace := ["slices.overlaps[watchword/api.Near]"], unfollowed := true, recurses := true, apart := false, narrowed := true }
def NearDiesUptoSaid : Prop := nearDiesUptoRow.holds Try.pinned (OpenSpec.upto nearDiesSpec)

/-- 'watchwordlaw19.NearForms', WHERE WHAT IT READS IS OF BULK AT MOST 1048576: true; the input reads as it did. -/
def nearFormsUptoRow : OpenClaim := { program := "ytnfoldgialdhjaa", sum := "bf2dc9f3559d0b9819f7ad37e7b28bed39a396cf4d77f810e0f9c54cf317b248", func := "watchword/watchwordlaw19.NearForms", spec := "nearForms", inPlace := ["slices.overlaps[watchword/api.Near]"], unfollowed := true, recurses := true, apart := false, narrowed := true }
def NearFormsUptoSaid : Prop := nearFormsUptoRow.holds Try.pinned (OpenSpec.upto nearFormsSpec)

/-- 'watchwordlaw19.NearStates', WHERE WHAT IT READS IS OF BULK AT MOST 1048576: true; the input reads as it did. -/
def nearStatesUptoRow : OpenClaim := { program := "ytnfoldgialdhjaa", sum := "bf2dc9f3559d0b9819f7ad37e7b28bed39a396cf4d77f810e0f9c54cf317b248", func := "watchword/watchwordlaw19.NearStates", spec := "nearStates", inPlace := ["slices.overlaps[watchword/api.Near]"], unfollowed := true, recurses := true, apart := false, narrowed := true }
def NearStatesUptoSaid : Prop := nearStatesUptoRow.holds Try.pinned (OpenSpec.upto nearStatesSpec)

/-- 'watchwordlaw19.NearRow', WHERE WHAT IT READS IS OF BULK AT MOST 1048576: true; the input reads as it did. -/
def nearRowUptoRow : OpenClaim := { program := "ytnfoldgialdhjaa", sum := "bf2dc9f3559d0b9819f7ad37e7b28bed39a396cf4d77f810e0f9c54cf317b248", func := "watchword/watchwordlaw19.NearRow", spec := "nearRow", inPlace := ["slices.overlaps[watchword/api.Near]"], unfollowed := true, recurses := true, apart := false, narrowed := true }
def NearRowUptoSaid : Prop := nearRowUptoRow.holds Try.pinned (OpenSpec.upto nearRowSpec)

end Rows
end Go.Proofs.Ytnfoldgialdhjaa
