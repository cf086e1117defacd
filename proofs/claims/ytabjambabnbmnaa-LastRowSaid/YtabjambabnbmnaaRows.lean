/-
  No cell of these rows narrows 'for every input' (looked for: loops, veiled, ifaces, maps, wideKeys, modest, calm, conditions, laid).
  DERIVED. THE GIVEN ROWS OF THIS SEAT. 10 by the template 'for every input the law returns true; each argument reads behind the call as it read before'; 0 by the template 'total and deterministic' (their statements: YtabjambabnbmnaaTotals.lean).
  GIVEN WITH THE SEED: the statements are not yours to turn. If you find one false, say at which input.
  Laid BY PROGRAM, IN A SANDBOX (cutbox-rows.mjs): the forced cells as the released guide's own fill.sh prints them over the translation 4da2e2e532ea94ed… (all of the seat's roots in one cut). By AI agents, Wed Nov 11 2026. No macro, syntax, notation, axiom, sorry.
-/
import Derived.Test.YtabjambabnbmnaaChecked
import GoSem.Claim
import GoSem.ClaimJoined
import GoSem.ClaimMapViews
import Derived.JoinedTies
import Derived.KernelRfl
namespace Go.Proofs.Ytabjambabnbmnaa
/- THE CELL 'sum', in the pinned program and in every row, IS THE sha256 OF THE DUMP (.gsa) THAT YtabjambabnbmnaaProg.lean LOADS. Nothing in Lean hashes anything: it is a label: what it is worth is what the hold of that sum in a sandbox is worth. -/
noncomputable def Try.pinned : Pinned := { name := "ytabjambabnbmnaa", sum := "4da2e2e532ea94ed2af5bbac14676ab7e41bd02cce0b5b18edc21fb500854aef", checked := Try.checked }
namespace Rows
def none {H : Type} : Left H := { results := [], args := [] }

/-- 'watchwordlaw14.Lasts': WHATEVER THE INPUT: true; the input reads as it did. -/
def lastsSpec : ChangeSpec := { name := "lasts", fn := fun _ => fun
  | [d1, d2] => { results := [.lit (.bool true)], args := [d1, d2] }
  | _ => none }
def lastsRow : OpenClaim := { program := "ytabjambabnbmnaa", sum := "4da2e2e532ea94ed2af5bbac14676ab7e41bd02cce0b5b18edc21fb500854aef", func := "watchword/watchwordlaw14.Lasts", spec := "lasts", inPlace := ["slices.overlaps[watchword/api.Last]"], unfollowed := true, recurses := true, apart := false }
def LastsSaid : Prop := lastsRow.holds Try.pinned (OpenSpec.ofChange lastsSpec)

/-- ITS FALSE NEIGHBOUR: 'it returns false'. Refute it at one input. -/
def lastsWrong : ChangeSpec := { name := "lasts", fn := fun _ => fun
  | [d1, d2] => { results := [.lit (.bool false)], args := [d1, d2] }
  | _ => none }
def LastsWrongFalsely : Prop := lastsRow.holds Try.pinned (OpenSpec.ofChange lastsWrong)

/-- 'watchwordlaw14.LastOnce': WHATEVER THE INPUT: true; the input reads as it did. -/
def lastOnceSpec : ChangeSpec := { name := "lastOnce", fn := fun _ => fun
  | [d1, d2, d3] => { results := [.lit (.bool true)], args := [d1, d2, d3] }
  | _ => none }
def lastOnceRow : OpenClaim := { program := "ytabjambabnbmnaa", sum := "4da2e2e532ea94ed2af5bbac14676ab7e41bd02cce0b5b18edc21fb500854aef", func := "watchword/watchwordlaw14.LastOnce", spec := "lastOnce", inPlace := ["slices.overlaps[watchword/api.Last]"], unfollowed := true, recurses := true, apart := false }
def LastOnceSaid : Prop := lastOnceRow.holds Try.pinned (OpenSpec.ofChange lastOnceSpec)

/-- ITS FALSE NEIGHBOUR: 'it returns false'. Refute it at one input. -/
def lastOnceWrong : ChangeSpec := { name := "lastOnce", fn := fun _ => fun
  | [d1, d2, d3] => { results := [.lit (.bool false)], args := [d1, d2, d3] }
  | _ => none }
def LastOnceWrongFalsely : Prop := lastOnceRow.holds Try.pinned (OpenSpec.ofChange lastOnceWrong)

/-- 'watchwordlaw14.LastForms': WHATEVER THE INPUT: true; the input reads as it did. -/
def lastFormsSpec : ChangeSpec := { name := "lastForms", fn := fun _ => fun
  | [d1, d2] => { results := [.lit (.bool true)], args := [d1, d2] }
  | _ => none }
def lastFormsRow : OpenClaim := { program := "ytabjambabnbmnaa", sum := "4da2e2e532ea94ed2af5bbac14676ab7e41bd02cce0b5b18edc21fb500854aef", func := "watchword/watchwordlaw14.LastForms", spec := "lastForms", inPlace := ["slices.overlaps[watchword/api.Last]"], unfollowed := true, recurses := true, apart := false }
def LastFormsSaid : Prop := lastFormsRow.holds Try.pinned (OpenSpec.ofChange lastFormsSpec)

/-- ITS FALSE NEIGHBOUR: 'it returns false'. Refute it at one input. -/
def lastFormsWrong : ChangeSpec := { name := "lastForms", fn := fun _ => fun
  | [d1, d2] => { results := [.lit (.bool false)], args := [d1, d2] }
  | _ => none }
def LastFormsWrongFalsely : Prop := lastFormsRow.holds Try.pinned (OpenSpec.ofChange lastFormsWrong)

/-- 'watchwordlaw14.LastRow': WHATEVER THE INPUT: true; the input reads as it did. -/
def lastRowSpec : ChangeSpec := { name := "lastRow", fn := fun _ => fun
  | [d] => { results := [.lit (.bool true)], args := [d] }
  | _ => none }
def lastRowRow : OpenClaim := { program := "ytabjambabnbmnaa", sum := "4da2e2e532ea94ed2af5bbac14676ab7e41bd02cce0b5b18edc21fb500854aef", func := "watchword/watchwordlaw14.LastRow", spec := "lastRow", inPlace := ["slices.overlaps[watchword/api.Last]"], unfollowed := true, recurses := true, apart := false }
def LastRowSaid : Prop := lastRowRow.holds Try.pinned (OpenSpec.ofChange lastRowSpec)

/-- ITS FALSE NEIGHBOUR: 'it returns false'. Refute it at one input. -/
def lastRowWrong : ChangeSpec := { name := "lastRow", fn := fun _ => fun
  | [d] => { results := [.lit (.bool false)], args := [d] }
  | _ => none }
def LastRowWrongFalsely : Prop := lastRowRow.holds Try.pinned (OpenSpec.ofChange lastRowWrong)

/-- 'watchwordlaw14.LastBoots': WHATEVER THE INPUT: true; the input reads as it did. -/
def lastBootsSpec : ChangeSpec := { name := "lastBoots", fn := fun _ => fun
  | [d1, d2, d3] => { results := [.lit (.bool true)], args := [d1, d2, d3] }
  | _ => none }
def lastBootsRow : OpenClaim := { program := "ytabjambabnbmnaa", sum := "4da2e2e532ea94ed2af5bbac14676ab7e41bd02cce0b5b18edc21fb500854aef", func := "watchword/watchwordlaw14.LastBoots", spec := "lastBoots", inPlace := ["slices.overlaps[watchword/api.Last]"], unfollowed := true, recurses := true, apart := false }
def LastBootsSaid : Prop := lastBootsRow.holds Try.pinned (OpenSpec.ofChange lastBootsSpec)

/-- ITS FALSE NEIGHBOUR: 'it returns false'. Refute it at one input. -/
def lastBootsWrong : ChangeSpec := { name := "lastBoots", fn := fun _ => fun
  | [d1, d2, d3] => { results := [.lit (.bool false)], args := [d1, d2, d3] }
  | _ => none }
def LastBootsWrongFalsely : Prop := lastBootsRow.holds Try.pinned (OpenSpec.ofChange lastBootsWrong)

/-- 'watchwordlaw5.Chains': WHATEVER THE INPUT: true; the input reads as it did. -/
def chainsSpec : ChangeSpec := { name := "chains", fn := fun _ => fun
  | [d1, d2, d3, d4] => { results := [.lit (.bool true)], args := [d1, d2, d3, d4] }
  | _ => none }
def chainsRow : OpenClaim := { program := "ytabjambabnbmnaa", sum := "4da2e2e532ea94ed2af5bbac14676ab7e41bd02cce0b5b18edc21fb500854aef", func := "watchword/watchwordlaw5.Chains", spec := "chains", inPlace := ["slices.overlaps[watchword/api.Key]"], unfollowed := true, recurses := true, apart := false }
def ChainsSaid : Prop := chainsRow.holds Try.pinned (OpenSpec.ofChange chainsSpec)

/-- ITS FALSE NEIGHBOUR: 'it returns false'. Refute it at one input. -/
def chainsWrong : ChangeSpec := { name := "chains", fn := fun _ => fun
  | [d1, d2, d3, d4] => { results := [.lit (.bool false)], args := [d1, d2, d3, d4] }
  | _ => none }
def ChainsWrongFalsely : Prop := chainsRow.holds Try.pinned (OpenSpec.ofChange chainsWrong)

/-- 'watchwordlaw5.ChainTimes': WHATEVER THE INPUT: true; the input reads as it did. -/
def chainTimesSpec : ChangeSpec := { name := "chainTimes", fn := fun _ => fun
  | [d1, d2, d3] => { results := [.lit (.bool true)], args := [d1, d2, d3] }
  | _ => none }
def chainTimesRow : OpenClaim := { program := "ytabjambabnbmnaa", sum := "4da2e2e532ea94ed2af5bbac14676ab7e41bd02cce0b5b18edc21fb500854aef", func := "watchword/watchwordlaw5.ChainTimes", spec := "chainTimes", inPlace := ["slices.overlaps[watchword/api.Key]"], unfollowed := true, recurses := true, apart := false }
def ChainTimesSaid : Prop := chainTimesRow.holds Try.pinned (OpenSpec.ofChange chainTimesSpec)

/-- ITS FALSE NEIGHBOUR: 'it returns false'. Refute it at one input. -/
def chainTimesWrong : ChangeSpec := { name := "chainTimes", fn := fun _ => fun
  | [d1, d2, d3] => { results := [.lit (.bool false)], args := [d1, d2, d3] }
  | _ => none }
def ChainTimesWrongFalsely : Prop := chainTimesRow.holds Try.pinned (OpenSpec.ofChange chainTimesWrong)

/-- 'watchwordlaw5.ChainForms': WHATEVER THE INPUT: true; the input reads as it did. -/
def chainFormsSpec : ChangeSpec := { name := "chainForms", fn := fun _ => fun
  | [d1, d2] => { results := [.lit (.bool true)], args := [d1, d2] }
  | _ => none }
def chainFormsRow : OpenClaim := { program := "ytabjambabnbmnaa", sum := "4da2e2e532ea94ed2af5bbac14676ab7e41bd02cce0b5b18edc21fb500854aef", func := "watchword/watchwordlaw5.ChainForms", spec := "chainForms", inPlace := ["slices.overlaps[watchword/api.Key]"], unfollowed := true, recurses := true, apart := false }
def ChainFormsSaid : Prop := chainFormsRow.holds Try.pinned (OpenSpec.ofChange chainFormsSpec)

/-- ITS FALSE NEIGHBOUR: 'it returns false'. Refute it at one input. -/
def chainFormsWrong : ChangeSpec := { name := "chainForms", fn := fun _ => fun
  | [d1, d2] => { results := [.lit (.bool false)], args := [d1, d2] }
  | _ => none }
def ChainFormsWrongFalsely : Prop := chainFormsRow.holds Try.pinned (OpenSpec.ofChange chainFormsWrong)

/-- 'watchwordlaw5.ChainRolls': WHATEVER THE INPUT: true; the input reads as it did. -/
def chainRollsSpec : ChangeSpec := { name := "chainRolls", fn := fun _ => fun
  | [d1, d2] => { results := [.lit (.bool true)], args := [d1, d2] }
  | _ => none }
def chainRollsRow : OpenClaim := { program := "ytabjambabnbmnaa", sum := "4da2e2e532ea94ed2af5bbac14676ab7e41bd02cce0b5b18edc21fb500854aef", func := "watchword/watchwordlaw5.ChainRolls", spec := "chainRolls", inPlace := ["slices.overlaps[watchword/api.Key]"], unfollowed := true, recurses := true, apart := false }
def ChainRollsSaid : Prop := chainRollsRow.holds Try.pinned (OpenSpec.ofChange chainRollsSpec)

/-- ITS FALSE NEIGHBOUR: 'it returns false'. Refute it at one input. -/
def chainRollsWrong : ChangeSpec := { name := "chainRolls", fn := fun _ => fun
  | [d1, d2] => { results := [.lit (.bool false)], args := [d1, d2] }
  | _ => none }
def ChainRollsWrongFalsely : Prop := chainRollsRow.holds Try.pinned (OpenSpec.ofChange chainRollsWrong)

/-- 'watchwordlaw5.ChainRow': WHATEVER THE INPUT: true; the input reads as it did. -/
def chainRowSpec : ChangeSpec := { name := "chainRow", fn := fun _ => fun
  | [d] => { results := [.lit (.bool true)], args := [d] }
  | _ => none }
def chainRowRow : OpenClaim := { program := "ytabjambabnbmnaa", sum := "4da2e2e532ea94ed2af5bbac14676ab7e41bd02cce0b5b18edc21fb500854aef", func := "watchword/watchwordlaw5.ChainRow", spec := "chainRow", inPlace := ["slices.overlaps[watchword/api.Key]"], unfollowed := true, recurses := true, apart := false }
def ChainRowSaid : Prop := chainRowRow.holds Try.pinned (OpenSpec.ofChange chainRowSpec)

/-- ITS FALSE NEIGHBOUR: 'it returns false'. Refute it at one input. -/
def chainRowWrong : ChangeSpec := { name := "chainRow", fn := fun _ => fun
  | [d] => { results := [.lit (.bool false)], args := [d] }
  | _ => none }
def ChainRowWrongFalsely : Prop := chainRowRow.holds Try.pinned (OpenSpec.ofChange chainRowWrong)

/- THE SECOND FORM. 'bulk': how many values and letters a reading holds, each counted each time it is reached (what is shared counts as often as it is met; a slice's spare places count too). A statement '..UptoSaid' is the law's where the arguments, and the package variables that the reading takes, are together of bulk at most 1048576: NARROWER than '..Said'. Prove '..Said' where nothing that the law and all that it calls make is longer than what came in: it says more and counts as full. Else prove '..UptoSaid'. A law counts once. -/
mutual
def uptoBulk {H : Type} : DataW H → Nat
  | .lit (.string bytes) => bytes.length + 1
  | .lit _ => 1
  | .nil => 1
  | .ptr d => uptoBulk d + 1
  | .slice elems spare => uptoBulkAll elems + uptoBulkAll spare + 1
  | .agg parts => uptoBulkAll parts + 1
  | .iface _ d => uptoBulk d + 1
  | .map entries => uptoBulkEntries entries + 1
  | .held _ => 1
def uptoBulkAll {H : Type} : List (DataW H) → Nat
  | [] => 0
  | d :: r => uptoBulk d + uptoBulkAll r
def uptoBulkEntries {H : Type} : List (Lit × DataW H) → Nat
  | [] => 0
  | x :: r => uptoBulkEntry x + uptoBulkEntries r
def uptoBulkEntry {H : Type} : Lit × DataW H → Nat
  | (.string bytes, d) => bytes.length + uptoBulk d + 1
  | (_, d) => uptoBulk d + 1
 end
def uptoSmall : (H : Type) → List (DataW H) → Bool := fun _ ds => decide (uptoBulkAll ds ≤ 1048576)
def OpenSpec.upto (s : _root_.Go.ChangeSpec) : _root_.Go.OpenSpec := { _root_.Go.OpenSpec.ofChange s with cond := some uptoSmall }

/-- 'watchwordlaw14.Lasts', WHERE WHAT IT READS IS OF BULK AT MOST 1048576: true; the input reads as it did. -/
def lastsUptoRow : OpenClaim := { program := "ytabjambabnbmnaa", sum := "4da2e2e532ea94ed2af5bbac14676ab7e41bd02cce0b5b18edc21fb500854aef", func := "watchword/watchwordlaw14.Lasts", spec := "lasts", inPlace := ["slices.overlaps[watchword/api.Last]"], unfollowed := true, recurses := true, apart := false, narrowed := true }
def LastsUptoSaid : Prop := lastsUptoRow.holds Try.pinned (OpenSpec.upto lastsSpec)

/-- 'watchwordlaw14.LastOnce', WHERE WHAT IT READS IS OF BULK AT MOST 1048576: true; the input reads as it did. -/
def lastOnceUptoRow : OpenClaim := { program := "ytabjambabnbmnaa", sum := "4da2e2e532ea94ed2af5bbac14676ab7e41bd02cce0b5b18edc21fb500854aef", func := "watchword/watchwordlaw14.LastOnce", spec := "lastOnce", inPlace := ["slices.overlaps[watchword/api.Last]"], unfollowed := true, recurses := true, apart := false, narrowed := true }
def LastOnceUptoSaid : Prop := lastOnceUptoRow.holds Try.pinned (OpenSpec.upto lastOnceSpec)

/-- 'watchwordlaw14.LastForms', WHERE WHAT IT READS IS OF BULK AT MOST 1048576: true; the input reads as it did. -/
def lastFormsUptoRow : OpenClaim := { program := "ytabjambabnbmnaa", sum := "4da2e2e532ea94ed2af5bbac14676ab7e41bd02cce0b5b18edc21fb500854aef", func := "watchword/watchwordlaw14.LastForms", spec := "lastForms", inPlace := ["slices.overlaps[watchword/api.Last]"], unfollowed := true, recurses := true, apart := false, narrowed := true }
def LastFormsUptoSaid : Prop := lastFormsUptoRow.holds Try.pinned (OpenSpec.upto lastFormsSpec)

/-- 'watchwordlaw14.LastRow', WHERE WHAT IT READS IS OF BULK AT MOST 1048576: true; the input reads as it did. -/
def lastRowUptoRow : OpenClaim := { program := "ytabjambabnbmnaa", sum := "4da2e2e532ea94ed2af5bbac14676ab7e41bd02cce0b5b18edc21fb500854aef", func := "watchword/watchwordlaw14.LastRow", spec := "lastRow", inPlace := ["slices.overlaps[watchword/api.Last]"], unfollowed := true, recurses := true, apart := false, narrowed := true }
def LastRowUptoSaid : Prop := lastRowUptoRow.holds Try.pinned (OpenSpec.upto lastRowSpec)

/-- 'watchwordlaw14.LastBoots', WHERE WHAT IT READS IS OF BULK AT MOST 1048576: true; the input reads as it did. -/
def lastBootsUptoRow : OpenClaim := { program := "ytabjambabnbmnaa", sum := "4da2e2e532ea94ed2af5bbac14676ab7e41bd02cce0b5b18edc21fb500854aef", func := "watchword/watchwordlaw14.LastBoots", spec := "lastBoots", inPlace := ["slices.overlaps[watchword/api.Last]"], unfollowed := true, recurses := true, apart := false, narrowed := true }
def LastBootsUptoSaid : Prop := lastBootsUptoRow.holds Try.pinned (OpenSpec.upto lastBootsSpec)

/-- 'watchwordlaw5.Chains', WHERE WHAT IT READS IS OF BULK AT MOST 1048576: true; the input reads as it did. -/
def chainsUptoRow : OpenClaim := { program := "ytabjambabnbmnaa", sum := "4da2e2e532ea94ed2af5bbac14676ab7e41bd02cce0b5b18edc21fb500854aef", func := "watchword/watchwordlaw5.Chains", spec := "chains", inPlace := ["slices.overlaps[watchword/api.Key]"], unfollowed := true, recurses := true, apart := false, narrowed := true }
def ChainsUptoSaid : Prop := chainsUptoRow.holds Try.pinned (OpenSpec.upto chainsSpec)

/-- 'watchwordlaw5.ChainTimes', WHERE WHAT IT READS IS OF BULK AT MOST 1048576: true; the input reads as it did. -/
def chainTimesUptoRow : OpenClaim := { program := "ytabjambabnbmnaa", sum := "4da2e2e532ea94ed2af5bbac14676ab7e41bd02cce0b5b18edc21fb500854aef", func := "watchword/watchwordlaw5.ChainTimes", spec := "chainTimes", inPlace := ["slices.overlaps[watchword/api.Key]"], unfollowed := true, recurses := true, apart := false, narrowed := true }
def ChainTimesUptoSaid : Prop := chainTimesUptoRow.holds Try.pinned (OpenSpec.upto chainTimesSpec)

/-- 'watchwordlaw5.ChainForms', WHERE WHAT IT READS IS OF BULK AT MOST 1048576: true; the input reads as it did. -/
def chainFormsUptoRow : OpenClaim := { program := "ytabjambabnbmnaa", sum := "4da2e2e532ea94ed2af5bbac14676ab7e41bd02cce0b5b18edc21fb500854aef", func := "watchword/watchwordlaw5.ChainForms", spec := "chainForms", inPlace := ["slices.overlaps[watchword/api.Key]"], unfollowed := true, recurses := true, apart := false, narrowed := true }
def ChainFormsUptoSaid : Prop := chainFormsUptoRow.holds Try.pinned (OpenSpec.upto chainFormsSpec)

/-- 'watchwordlaw5.ChainRolls', WHERE WHAT IT READS IS OF BULK AT MOST 1048576: true; the input reads as it did. -/
def chainRollsUptoRow : OpenClaim := { program := "ytabjambabnbmnaa", sum := "4da2e2e532ea94ed2af5bbac14676ab7e41bd02cce0b5b18edc21fb500854aef", func := "watchword/watchwordlaw5.ChainRolls", spec := "chainRolls", inPlace := ["slices.overlaps[watchword/api.Key]"], unfollowed := true, recurses := true, apart := false, narrowed := true }
def ChainRollsUptoSaid : Prop := chainRollsUptoRow.holds Try.pinned (OpenSpec.upto chainRollsSpec)

/-- 'watchwordlaw5.ChainRow', WHERE WHAT IT READS IS OF BULK AT MOST 1048576: true; the input reads as it did. -/
def chainRowUptoRow : OpenClaim := { program := "ytabjambabnbmnaa", sum := "4da2e2e532ea94ed2af5bbac14676ab7e41bd02cce0b5b18edc21fb500854aef", func := "watchword/watchwordlaw5.ChainRow", spec := "chainRow", inPlace := ["slices.overlaps[watchword/api.Key]"], unfollowed := true, recurses := true, apart := false, narrowed := true }
def ChainRowUptoSaid : Prop := chainRowUptoRow.holds Try.pinned (OpenSpec.upto chainRowSpec)

end Rows
end Go.Proofs.Ytabjambabnbmnaa
