/-
  No cell of these rows narrows 'for every input' (looked for: loops, veiled, ifaces, maps, wideKeys, modest, calm, conditions, laid).
  DERIVED. THE GIVEN ROWS OF THIS SEAT. 7 by the template 'for every input the law returns true; each argument reads behind the call as it read before'; 0 by the template 'total and deterministic' (their statements: YtinddhlmgiahiaaTotals.lean).
  GIVEN WITH THE SEED: the statements are not yours to turn. If you find one false, say at which input.
  Laid BY PROGRAM, IN A SANDBOX (cutbox-rows.mjs): the forced cells as the released guide's own fill.sh prints them over the translation 6c3588f3ad068d77… (all of the seat's roots in one cut). By AI agents, Wed Nov 11 2026. No macro, syntax, notation, axiom, sorry.
-/
import Derived.Test.YtinddhlmgiahiaaChecked
import GoSem.Claim
import GoSem.ClaimJoined
import GoSem.ClaimMapViews
import Derived.JoinedTies
import Derived.KernelRfl
namespace Go.Proofs.Ytinddhlmgiahiaa
/- THE CELL 'sum', in the pinned program and in every row, IS THE sha256 OF THE DUMP (.gsa) THAT YtinddhlmgiahiaaProg.lean LOADS. Nothing in Lean hashes anything: it is a label: what it is worth is what the hold of that sum in a sandbox is worth. -/
noncomputable def Try.pinned : Pinned := { name := "ytinddhlmgiahiaa", sum := "6c3588f3ad068d77e270f557fa75824483ba4f812065b15122e5bb9910d977fc", checked := Try.checked }
namespace Rows
def none {H : Type} : Left H := { results := [], args := [] }

/-- 'routinglaw48.RibChecks': WHATEVER THE INPUT: true; the input reads as it did. -/
def ribChecksSpec : ChangeSpec := { name := "ribChecks", fn := fun _ => fun
  | [d1, d2, d3] => { results := [.lit (.bool true)], args := [d1, d2, d3] }
  | _ => none }
def ribChecksRow : OpenClaim := { program := "ytinddhlmgiahiaa", sum := "6c3588f3ad068d77e270f557fa75824483ba4f812065b15122e5bb9910d977fc", func := "routing/routinglaw48.RibChecks", spec := "ribChecks", inPlace := ["slices.overlaps[routing/api.Route]"], unfollowed := true, recurses := true, plainKeys := false, apart := false }
def RibChecksSaid : Prop := ribChecksRow.holds Try.pinned (OpenSpec.ofChange ribChecksSpec)

/-- ITS FALSE NEIGHBOUR: 'it returns false'. Refute it at one input. -/
def ribChecksWrong : ChangeSpec := { name := "ribChecks", fn := fun _ => fun
  | [d1, d2, d3] => { results := [.lit (.bool false)], args := [d1, d2, d3] }
  | _ => none }
def RibChecksWrongFalsely : Prop := ribChecksRow.holds Try.pinned (OpenSpec.ofChange ribChecksWrong)

/-- 'routinglaw48.RibPuts': WHATEVER THE INPUT: true; the input reads as it did. -/
def ribPutsSpec : ChangeSpec := { name := "ribPuts", fn := fun _ => fun
  | [d1, d2] => { results := [.lit (.bool true)], args := [d1, d2] }
  | _ => none }
def ribPutsRow : OpenClaim := { program := "ytinddhlmgiahiaa", sum := "6c3588f3ad068d77e270f557fa75824483ba4f812065b15122e5bb9910d977fc", func := "routing/routinglaw48.RibPuts", spec := "ribPuts", inPlace := ["slices.overlaps[routing/api.Route]"], unfollowed := true, recurses := true, plainKeys := false, apart := false }
def RibPutsSaid : Prop := ribPutsRow.holds Try.pinned (OpenSpec.ofChange ribPutsSpec)

/-- ITS FALSE NEIGHBOUR: 'it returns false'. Refute it at one input. -/
def ribPutsWrong : ChangeSpec := { name := "ribPuts", fn := fun _ => fun
  | [d1, d2] => { results := [.lit (.bool false)], args := [d1, d2] }
  | _ => none }
def RibPutsWrongFalsely : Prop := ribPutsRow.holds Try.pinned (OpenSpec.ofChange ribPutsWrong)

/-- 'routinglaw48.RibChanges': WHATEVER THE INPUT: true; the input reads as it did. -/
def ribChangesSpec : ChangeSpec := { name := "ribChanges", fn := fun _ => fun
  | [d1, d2] => { results := [.lit (.bool true)], args := [d1, d2] }
  | _ => none }
def ribChangesRow : OpenClaim := { program := "ytinddhlmgiahiaa", sum := "6c3588f3ad068d77e270f557fa75824483ba4f812065b15122e5bb9910d977fc", func := "routing/routinglaw48.RibChanges", spec := "ribChanges", inPlace := ["slices.overlaps[routing/api.Route]"], unfollowed := true, recurses := true, plainKeys := false, apart := false }
def RibChangesSaid : Prop := ribChangesRow.holds Try.pinned (OpenSpec.ofChange ribChangesSpec)

/-- ITS FALSE NEIGHBOUR: 'it returns false'. Refute it at one input. -/
def ribChangesWrong : ChangeSpec := { name := "ribChanges", fn := fun _ => fun
  | [d1, d2] => { results := [.lit (.bool false)], args := [d1, d2] }
  | _ => none }
def RibChangesWrongFalsely : Prop := ribChangesRow.holds Try.pinned (OpenSpec.ofChange ribChangesWrong)

/-- 'routinglaw48.RibLeast': WHATEVER THE INPUT: true; the input reads as it did. -/
def ribLeastSpec : ChangeSpec := { name := "ribLeast", fn := fun _ => fun
  | [d] => { results := [.lit (.bool true)], args := [d] }
  | _ => none }
def ribLeastRow : OpenClaim := { program := "ytinddhlmgiahiaa", sum := "6c3588f3ad068d77e270f557fa75824483ba4f812065b15122e5bb9910d977fc", func := "routing/routinglaw48.RibLeast", spec := "ribLeast", inPlace := ["slices.overlaps[routing/api.Route]"], unfollowed := true, recurses := true, plainKeys := false, apart := false }
def RibLeastSaid : Prop := ribLeastRow.holds Try.pinned (OpenSpec.ofChange ribLeastSpec)

/-- ITS FALSE NEIGHBOUR: 'it returns false'. Refute it at one input. -/
def ribLeastWrong : ChangeSpec := { name := "ribLeast", fn := fun _ => fun
  | [d] => { results := [.lit (.bool false)], args := [d] }
  | _ => none }
def RibLeastWrongFalsely : Prop := ribLeastRow.holds Try.pinned (OpenSpec.ofChange ribLeastWrong)

/-- 'routinglaw48.RibOrder': WHATEVER THE INPUT: true; the input reads as it did. -/
def ribOrderSpec : ChangeSpec := { name := "ribOrder", fn := fun _ => fun
  | [d] => { results := [.lit (.bool true)], args := [d] }
  | _ => none }
def ribOrderRow : OpenClaim := { program := "ytinddhlmgiahiaa", sum := "6c3588f3ad068d77e270f557fa75824483ba4f812065b15122e5bb9910d977fc", func := "routing/routinglaw48.RibOrder", spec := "ribOrder", inPlace := ["slices.overlaps[routing/api.Route]"], unfollowed := true, recurses := true, plainKeys := false, apart := false }
def RibOrderSaid : Prop := ribOrderRow.holds Try.pinned (OpenSpec.ofChange ribOrderSpec)

/-- ITS FALSE NEIGHBOUR: 'it returns false'. Refute it at one input. -/
def ribOrderWrong : ChangeSpec := { name := "ribOrder", fn := fun _ => fun
  | [d] => { results := [.lit (.bool false)], args := [d] }
  | _ => none }
def RibOrderWrongFalsely : Prop := ribOrderRow.holds Try.pinned (OpenSpec.ofChange ribOrderWrong)

/-- 'routinglaw48.RibReplaces': WHATEVER THE INPUT: true; the input reads as it did. -/
def ribReplacesSpec : ChangeSpec := { name := "ribReplaces", fn := fun _ => fun
  | [d1, d2, d3] => { results := [.lit (.bool true)], args := [d1, d2, d3] }
  | _ => none }
def ribReplacesRow : OpenClaim := { program := "ytinddhlmgiahiaa", sum := "6c3588f3ad068d77e270f557fa75824483ba4f812065b15122e5bb9910d977fc", func := "routing/routinglaw48.RibReplaces", spec := "ribReplaces", inPlace := ["slices.overlaps[routing/api.Route]"], unfollowed := true, recurses := true, plainKeys := false, apart := false }
def RibReplacesSaid : Prop := ribReplacesRow.holds Try.pinned (OpenSpec.ofChange ribReplacesSpec)

/-- ITS FALSE NEIGHBOUR: 'it returns false'. Refute it at one input. -/
def ribReplacesWrong : ChangeSpec := { name := "ribReplaces", fn := fun _ => fun
  | [d1, d2, d3] => { results := [.lit (.bool false)], args := [d1, d2, d3] }
  | _ => none }
def RibReplacesWrongFalsely : Prop := ribReplacesRow.holds Try.pinned (OpenSpec.ofChange ribReplacesWrong)

/-- 'routinglaw48.RibTurns': WHATEVER THE INPUT: true; the input reads as it did. -/
def ribTurnsSpec : ChangeSpec := { name := "ribTurns", fn := fun _ => fun
  | [d1, d2, d3] => { results := [.lit (.bool true)], args := [d1, d2, d3] }
  | _ => none }
def ribTurnsRow : OpenClaim := { program := "ytinddhlmgiahiaa", sum := "6c3588f3ad068d77e270f557fa75824483ba4f812065b15122e5bb9910d977fc", func := "routing/routinglaw48.RibTurns", spec := "ribTurns", inPlace := ["slices.overlaps[routing/api.Route]"], unfollowed := true, recurses := true, plainKeys := false, apart := false }
def RibTurnsSaid : Prop := ribTurnsRow.holds Try.pinned (OpenSpec.ofChange ribTurnsSpec)

/-- ITS FALSE NEIGHBOUR: 'it returns false'. Refute it at one input. -/
def ribTurnsWrong : ChangeSpec := { name := "ribTurns", fn := fun _ => fun
  | [d1, d2, d3] => { results := [.lit (.bool false)], args := [d1, d2, d3] }
  | _ => none }
def RibTurnsWrongFalsely : Prop := ribTurnsRow.holds Try.pinned (OpenSpec.ofChange ribTurnsWrong)

/- THE SECOND FORM. 'bulk': how many values and letters a reading holds, each counted each time it is reached (what is shared counts as often as it is met; a slice's spare places count too). A statement '..UptoSaid' is the law's where the arguments, and the package variables that the reading takes, are together of bulk at most 1048576: NARROWER than '..Said'. Prove '..Said' where nothing that the law and all that it calls make is longer than what came in: it says more and counts as full. Else prove '..UptoSaid'. A law counts once. -/
mutual
def uptoBulk {H : Type} : DataW H → Nat
  | .lit (.string bytes) => bytes.length + 1
  | .lit _ => 1
  | .nil => 1
  | .ptr d => uptoBulk d + 1
  | .slice elems spare => uptoBulkAll elems + uptoBulkAll spare + 1
  | .agg parts => uptoBulkAll parts + 1
  | .iface _ d => uptoBulk d + 1
  | .map entries => uptoBulkEntries entries + 1
  | .held _ => 1
def uptoBulkAll {H : Type} : List (DataW H) → Nat
  | [] => 0
  | d :: r => uptoBulk d + uptoBulkAll r
def uptoBulkEntries {H : Type} : List (Lit × DataW H) → Nat
  | [] => 0
  | x :: r => uptoBulkEntry x + uptoBulkEntries r
def uptoBulkEntry {H : Type} : Lit × DataW H → Nat
  | (.string bytes, d) => bytes.length + uptoBulk d + 1
  | (_, d) => uptoBulk d + 1
 end
def uptoSmall : (H : Type) → List (DataW H) → Bool := fun _ ds => decide (uptoBulkAll ds ≤ 1048576)
def OpenSpec.upto (s : _root_.Go.ChangeSpec) : _root_.Go.OpenSpec := { _root_.Go.OpenSpec.ofChange s with cond := some uptoSmall }

/-- 'routinglaw48.RibChecks', WHERE WHAT IT READS IS OF BULK AT MOST 1048576: true; the input reads as it did. -/
def ribChecksUptoRow : OpenClaim := { program := "ytinddhlmgiahiaa", sum := "6c3588f3ad068d77e270f557fa75824483ba4f812065b15122e5bb9910d977fc", func := "routing/routinglaw48.RibChecks", spec := "ribChecks", inPlace := ["slices.overlaps[routing/api.Route]"], unfollowed := true, recurses := true, plainKeys := false, apart := false, narrowed := true }
def RibChecksUptoSaid : Prop := ribChecksUptoRow.holds Try.pinned (OpenSpec.upto ribChecksSpec)

/-- 'routinglaw48.RibPuts', WHERE WHAT IT READS IS OF BULK AT MOST 1048576: true; the input reads as it did. -/
def ribPutsUptoRow : OpenClaim := { program := "ytinddhlmgiahiaa", sum := "6c3588f3ad068d77e270f557fa75824483ba4f812065b15122e5bb9910d977fc", func := "routing/routinglaw48.RibPuts", spec := "ribPuts", inPlace := ["slices.overlaps[routing/api.Route]"], unfollowed := true, recurses := true, plainKeys := false, apart := false, narrowed := true }
def RibPutsUptoSaid : Prop := ribPutsUptoRow.holds Try.pinned (OpenSpec.upto ribPutsSpec)

/-- 'routinglaw48.RibChanges', WHERE WHAT IT READS IS OF BULK AT MOST 1048576: true; the input reads as it did. -/
def ribChangesUptoRow : OpenClaim := { program := "ytinddhlmgiahiaa", sum := "6c3588f3ad068d77e270f557fa75824483ba4f812065b15122e5bb9910d977fc", func := "routing/routinglaw48.RibChanges", spec := "ribChanges", inPlace := ["slices.overlaps[routing/api.Route]"], unfollowed := true, recurses := true, plainKeys := false, apart := false, narrowed := true }
def RibChangesUptoSaid : Prop := ribChangesUptoRow.holds Try.pinned (OpenSpec.upto ribChangesSpec)

/-- 'routinglaw48.RibLeast', WHERE WHAT IT READS IS OF BULK AT MOST 1048576: true; the input reads as it did. -/
def ribLeastUptoRow : OpenClaim := { program := "ytinddhlmgiahiaa", sum := "6c3588f3ad068d77e270f557fa75824483ba4f812065b15122e5bb9910d977fc", func := "routing/routinglaw48.RibLeast", spec := "ribLeast", inPlace := ["slices.overlaps[routing/api.Route]"], unfollowed := true, recurses := true, plainKeys := false, apart := false, narrowed := true }
def RibLeastUptoSaid : Prop := ribLeastUptoRow.holds Try.pinned (OpenSpec.upto ribLeastSpec)

/-- 'routinglaw48.RibOrder', WHERE WHAT IT READS IS OF BULK AT MOST 1048576: true; the input reads as it did. -/
def ribOrderUptoRow : OpenClaim := { program := "ytinddhlmgiahiaa", sum := "6c3588f3ad068d77e270f557fa75824483ba4f812065b15122e5bb9910d977fc", func := "routing/routinglaw48.RibOrder", spec := "ribOrder", inPlace := ["slices.overlaps[routing/api.Route]"], unfollowed := true, recurses := true, plainKeys := false, apart := false, narrowed := true }
def RibOrderUptoSaid : Prop := ribOrderUptoRow.holds Try.pinned (OpenSpec.upto ribOrderSpec)

/-- 'routinglaw48.RibReplaces', WHERE WHAT IT READS IS OF BULK AT MOST 1048576: true; the input reads as it did. -/
def ribReplacesUptoRow : OpenClaim := { program := "ytinddhlmgiahiaa", sum := "6c3588f3ad068d77e270f557fa75824483ba4f812065b15122e5bb9910d977fc", func := "routing/routinglaw48.RibReplaces", spec := "ribReplaces", inPlace := ["slices.overlaps[routing/api.Route]"], unfollowed := true, recurses := true, plainKeys := false, apart := false, narrowed := true }
def RibReplacesUptoSaid : Prop := ribReplacesUptoRow.holds Try.pinned (OpenSpec.upto ribReplacesSpec)

/-- 'routinglaw48.RibTurns', WHERE WHAT IT READS IS OF BULK AT MOST 1048576: true; the input reads as it did. -/
def ribTurnsUptoRow : OpenClaim := { program := "ytinddhlmgiahiaa", sum := "6c3588f3ad068d77e270f557fa75824483ba4f812065b15122e5bb9910d977fc", func := "routing/routinglaw48.RibTurns", spec := "ribTurns", inPlace := ["slices.overlaps[routing/api.Route]"], unfollowed := true, recurses := true, plainKeys := false, apart := false, narrowed := true }
def RibTurnsUptoSaid : Prop := ribTurnsUptoRow.holds Try.pinned (OpenSpec.upto ribTurnsSpec)

end Rows
end Go.Proofs.Ytinddhlmgiahiaa
