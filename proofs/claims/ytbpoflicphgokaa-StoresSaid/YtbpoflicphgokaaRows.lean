/-
  No cell of these rows narrows 'for every input' (looked for: loops, veiled, ifaces, maps, wideKeys, modest, calm, conditions, laid).
  DERIVED. THE GIVEN ROWS OF THIS SEAT. 6 by the template 'for every input the law returns true; each argument reads behind the call as it read before'; 0 by the template 'total and deterministic' (their statements: YtbpoflicphgokaaTotals.lean).
  GIVEN WITH THE SEED: the statements are not yours to turn. If you find one false, say at which input.
  Laid BY PROGRAM, IN A SANDBOX (cutbox-rows.mjs): the forced cells as the released guide's own fill.sh prints them over the translation 58ec95727be6444e… (all of the seat's roots in one cut). By AI agents, Wed Nov 11 2026. No macro, syntax, notation, axiom, sorry.
-/
import Derived.Test.YtbpoflicphgokaaChecked
import GoSem.Claim
import GoSem.ClaimJoined
import GoSem.ClaimMapViews
import Derived.JoinedTies
import Derived.KernelRfl
namespace Go.Proofs.Ytbpoflicphgokaa
/- THE CELL 'sum', in the pinned program and in every row, IS THE sha256 OF THE DUMP (.gsa) THAT YtbpoflicphgokaaProg.lean LOADS. Nothing in Lean hashes anything: it is a label: what it is worth is what the hold of that sum in a sandbox is worth. -/
noncomputable def Try.pinned : Pinned := { name := "ytbpoflicphgokaa", sum := "58ec95727be6444eed759d3a9a129db911646bf528f1e8ae89a6468b1792bb68", checked := Try.checked }
namespace Rows
def none {H : Type} : Left H := { results := [], args := [] }

/-- 'watchwordlaw18.StoreRow': WHATEVER THE INPUT: true; the input reads as it did. -/
def storeRowSpec : ChangeSpec := { name := "storeRow", fn := fun _ => fun
  | [d] => { results := [.lit (.bool true)], args := [d] }
  | _ => none }
def storeRowRow : OpenClaim := { program := "ytbpoflicphgokaa", sum := "58ec95727be6444eed759d3a9a129db911646bf528f1e8ae89a6468b1792bb68", func := "watchword/watchwordlaw18.StoreRow", spec := "storeRow", inPlace := ["slices.overlaps[watchword/api.Lsa]"], unfollowed := true, recurses := true, apart := false }
def StoreRowSaid : Prop := storeRowRow.holds Try.pinned (OpenSpec.ofChange storeRowSpec)

/-- ITS FALSE NEIGHBOUR: 'it returns false'. Refute it at one input. -/
def storeRowWrong : ChangeSpec := { name := "storeRow", fn := fun _ => fun
  | [d] => { results := [.lit (.bool false)], args := [d] }
  | _ => none }
def StoreRowWrongFalsely : Prop := storeRowRow.holds Try.pinned (OpenSpec.ofChange storeRowWrong)

/-- 'watchwordlaw18.StoreFlush': WHATEVER THE INPUT: true; the input reads as it did. -/
def storeFlushSpec : ChangeSpec := { name := "storeFlush", fn := fun _ => fun
  | [d1, d2, d3] => { results := [.lit (.bool true)], args := [d1, d2, d3] }
  | _ => none }
def storeFlushRow : OpenClaim := { program := "ytbpoflicphgokaa", sum := "58ec95727be6444eed759d3a9a129db911646bf528f1e8ae89a6468b1792bb68", func := "watchword/watchwordlaw18.StoreFlush", spec := "storeFlush", inPlace := ["slices.overlaps[watchword/api.Lsa]"], unfollowed := true, recurses := true, apart := false }
def StoreFlushSaid : Prop := storeFlushRow.holds Try.pinned (OpenSpec.ofChange storeFlushSpec)

/-- ITS FALSE NEIGHBOUR: 'it returns false'. Refute it at one input. -/
def storeFlushWrong : ChangeSpec := { name := "storeFlush", fn := fun _ => fun
  | [d1, d2, d3] => { results := [.lit (.bool false)], args := [d1, d2, d3] }
  | _ => none }
def StoreFlushWrongFalsely : Prop := storeFlushRow.holds Try.pinned (OpenSpec.ofChange storeFlushWrong)

/-- 'watchwordlaw18.Stores': WHATEVER THE INPUT: true; the input reads as it did. -/
def storesSpec : ChangeSpec := { name := "stores", fn := fun _ => fun
  | [d1, d2, d3] => { results := [.lit (.bool true)], args := [d1, d2, d3] }
  | _ => none }
def storesRow : OpenClaim := { program := "ytbpoflicphgokaa", sum := "58ec95727be6444eed759d3a9a129db911646bf528f1e8ae89a6468b1792bb68", func := "watchword/watchwordlaw18.Stores", spec := "stores", inPlace := ["slices.overlaps[watchword/api.Lsa]"], unfollowed := true, recurses := true, apart := false }
def StoresSaid : Prop := storesRow.holds Try.pinned (OpenSpec.ofChange storesSpec)

/-- ITS FALSE NEIGHBOUR: 'it returns false'. Refute it at one input. -/
def storesWrong : ChangeSpec := { name := "stores", fn := fun _ => fun
  | [d1, d2, d3] => { results := [.lit (.bool false)], args := [d1, d2, d3] }
  | _ => none }
def StoresWrongFalsely : Prop := storesRow.holds Try.pinned (OpenSpec.ofChange storesWrong)

/-- 'watchwordlaw18.StoreNewest': WHATEVER THE INPUT: true; the input reads as it did. -/
def storeNewestSpec : ChangeSpec := { name := "storeNewest", fn := fun _ => fun
  | [d1, d2] => { results := [.lit (.bool true)], args := [d1, d2] }
  | _ => none }
def storeNewestRow : OpenClaim := { program := "ytbpoflicphgokaa", sum := "58ec95727be6444eed759d3a9a129db911646bf528f1e8ae89a6468b1792bb68", func := "watchword/watchwordlaw18.StoreNewest", spec := "storeNewest", inPlace := ["slices.overlaps[watchword/api.Lsa]"], unfollowed := true, recurses := true, apart := false }
def StoreNewestSaid : Prop := storeNewestRow.holds Try.pinned (OpenSpec.ofChange storeNewestSpec)

/-- ITS FALSE NEIGHBOUR: 'it returns false'. Refute it at one input. -/
def storeNewestWrong : ChangeSpec := { name := "storeNewest", fn := fun _ => fun
  | [d1, d2] => { results := [.lit (.bool false)], args := [d1, d2] }
  | _ => none }
def StoreNewestWrongFalsely : Prop := storeNewestRow.holds Try.pinned (OpenSpec.ofChange storeNewestWrong)

/-- 'watchwordlaw18.StoreForms': WHATEVER THE INPUT: true; the input reads as it did. -/
def storeFormsSpec : ChangeSpec := { name := "storeForms", fn := fun _ => fun
  | [d] => { results := [.lit (.bool true)], args := [d] }
  | _ => none }
def storeFormsRow : OpenClaim := { program := "ytbpoflicphgokaa", sum := "58ec95727be6444eed759d3a9a129db911646bf528f1e8ae89a6468b1792bb68", func := "watchword/watchwordlaw18.StoreForms", spec := "storeForms", inPlace := ["slices.overlaps[watchword/api.Lsa]"], unfollowed := true, recurses := true, apart := false }
def StoreFormsSaid : Prop := storeFormsRow.holds Try.pinned (OpenSpec.ofChange storeFormsSpec)

/-- ITS FALSE NEIGHBOUR: 'it returns false'. Refute it at one input. -/
def storeFormsWrong : ChangeSpec := { name := "storeForms", fn := fun _ => fun
  | [d] => { results := [.lit (.bool false)], args := [d] }
  | _ => none }
def StoreFormsWrongFalsely : Prop := storeFormsRow.holds Try.pinned (OpenSpec.ofChange storeFormsWrong)

/-- 'watchwordlaw18.StoreAges': WHATEVER THE INPUT: true; the input reads as it did. -/
def storeAgesSpec : ChangeSpec := { name := "storeAges", fn := fun _ => fun
  | [d] => { results := [.lit (.bool true)], args := [d] }
  | _ => none }
def storeAgesRow : OpenClaim := { program := "ytbpoflicphgokaa", sum := "58ec95727be6444eed759d3a9a129db911646bf528f1e8ae89a6468b1792bb68", func := "watchword/watchwordlaw18.StoreAges", spec := "storeAges", inPlace := ["slices.overlaps[watchword/api.Lsa]"], unfollowed := true, recurses := true, apart := false }
def StoreAgesSaid : Prop := storeAgesRow.holds Try.pinned (OpenSpec.ofChange storeAgesSpec)

/-- ITS FALSE NEIGHBOUR: 'it returns false'. Refute it at one input. -/
def storeAgesWrong : ChangeSpec := { name := "storeAges", fn := fun _ => fun
  | [d] => { results := [.lit (.bool false)], args := [d] }
  | _ => none }
def StoreAgesWrongFalsely : Prop := storeAgesRow.holds Try.pinned (OpenSpec.ofChange storeAgesWrong)

/- THE SECOND FORM. 'bulk': how many values and letters a reading holds, each counted each time it is reached (what is shared counts as often as it is met; a slice's spare places count too). A statement '..UptoSaid' is the law's where the arguments, and the package variables that the reading takes, are together of bulk at most 1048576: NARROWER than '..Said'. Prove '..Said' where nothing that the law and all that it calls make is longer than what came in: it says more and counts as full. Else prove '..UptoSaid'. A law counts once. -/
mutual
def uptoBulk {H : Type} : DataW H → Nat
  | .lit (.string bytes) => bytes.length + 1
  | .lit _ => 1
  | .nil => 1
  | .ptr d => uptoBulk d + 1
  | .slice elems spare => uptoBulkAll elems + uptoBulkAll spare + 1
  | .agg parts => uptoBulkAll parts + 1
  | .iface _ d => uptoBulk d + 1
  | .map entries => uptoBulkEntries entries + 1
  | .held _ => 1
def uptoBulkAll {H : Type} : List (DataW H) → Nat
  | [] => 0
  | d :: r => uptoBulk d + uptoBulkAll r
def uptoBulkEntries {H : Type} : List (Lit × DataW H) → Nat
  | [] => 0
  | x :: r => uptoBulkEntry x + uptoBulkEntries r
def uptoBulkEntry {H : Type} : Lit × DataW H → Nat
  | (.string bytes, d) => bytes.length + uptoBulk d + 1
  | (_, d) => uptoBulk d + 1
 end
def uptoSmall : (H : Type) → List (DataW H) → Bool := fun _ ds => decide (uptoBulkAll ds ≤ 1048576)
def OpenSpec.upto (s : _root_.Go.ChangeSpec) : _root_.Go.OpenSpec := { _root_.Go.OpenSpec.ofChange s with cond := some uptoSmall }

/-- 'watchwordlaw18.StoreRow', WHERE WHAT IT READS IS OF BULK AT MOST 1048576: true; the input reads as it did. -/
def storeRowUptoRow : OpenClaim := { program := "ytbpoflicphgokaa", sum := "58ec95727be6444eed759d3a9a129db911646bf528f1e8ae89a6468b1792bb68", func := "watchword/watchwordlaw18.StoreRow", spec := "storeRow", inPlace := ["slices.overlaps[watchword/api.Lsa]"], unfollowed := true, recurses := true, apart := false, narrowed := true }
def StoreRowUptoSaid : Prop := storeRowUptoRow.holds Try.pinned (OpenSpec.upto storeRowSpec)

/-- 'watchwordlaw18.StoreFlush', WHERE WHAT IT READS IS OF BULK AT MOST 1048576: true; the input reads as it did. -/
def storeFlushUptoRow : OpenClaim := { program := "ytbpoflicphgokaa", sum := "58ec95727be6444eed759d3a9a129db911646bf528f1e8ae89a6468b1792bb68", func := "watchword/watchwordlaw18.StoreFlush", spec := "storeFlush", inPlace := ["slices.overlaps[watchword/api.Lsa]"], unfollowed := true, recurses := true, apart := false, narrowed := true }
def StoreFlushUptoSaid : Prop := storeFlushUptoRow.holds Try.pinned (OpenSpec.upto storeFlushSpec)

/-- 'watchwordlaw18.Stores', WHERE WHAT IT READS IS OF BULK AT MOST 1048576: true; the input reads as it did. -/
def storesUptoRow : OpenClaim := { program := "ytbpoflicphgokaa", sum := "58ec95727be6444eed759d3a9a129db911646bf528f1e8ae89a6468b1792bb68", func := "watchword/watchwordlaw18.Stores", spec := "stores", inPlace := ["slices.overlaps[watchword/api.Lsa]"], unfollowed := true, recurses := true, apart := false, narrowed := true }
def StoresUptoSaid : Prop := storesUptoRow.holds Try.pinned (OpenSpec.upto storesSpec)

/-- 'watchwordlaw18.StoreNewest', WHERE WHAT IT READS IS OF BULK AT MOST 1048576: true; the input reads as it did. -/
def storeNewestUptoRow : OpenClaim := { program := "ytbpoflicphgokaa", sum := "58ec95727be6444eed759d3a9a129db911646bf528f1e8ae89a6468b1792bb68", func := "watchword/watchwordlaw18.StoreNewest", spec := "storeNewest", inPlace := ["slices.overlaps[watchword/api.Lsa]"], unfollowed := true, recurses := true, apart := false, narrowed := true }
def StoreNewestUptoSaid : Prop := storeNewestUptoRow.holds Try.pinned (OpenSpec.upto storeNewestSpec)

/-- 'watchwordlaw18.StoreForms', WHERE WHAT IT READS IS OF BULK AT MOST 1048576: true; the input reads as it did. -/
def storeFormsUptoRow : OpenClaim := { program := "ytbpoflicphgokaa", sum := "58ec95727be6444eed759d3a9a129db911646bf528f1e8ae89a6468b1792bb68", func := "watchword/watchwordlaw18.StoreForms", spec := "storeForms", inPlace := ["slices.overlaps[watchword/api.Lsa]"], unfollowed := true, recurses := true, apart := false, narrowed := true }
def StoreFormsUptoSaid : Prop := storeFormsUptoRow.holds Try.pinned (OpenSpec.upto storeFormsSpec)

/-- 'watchwordlaw18.StoreAges', WHERE WHAT IT READS IS OF BULK AT MOST 1048576: true; the input reads as it did. -/
def storeAgesUptoRow : OpenClaim := { program := "ytbpoflicphgokaa", sum := "58ec95727be6444eed759d3a9a129db911646bf528f1e8ae89a6468b1792bb68", func := "watchword/watchwordlaw18.StoreAges", spec := "storeAges", inPlace := ["slices.overlaps[watchword/api.Lsa]"], unfollowed := true, recurses := true, apart := false, narrowed := true }
def StoreAgesUptoSaid : Prop := storeAgesUptoRow.holds Try.pinned (OpenSpec.upto storeAgesSpec)

end Rows
end Go.Proofs.Ytbpoflicphgokaa
