/-
  No cell of these rows narrows 'for every input' (looked for: loops, veiled, ifaces, maps, wideKeys, modest, calm, conditions, laid).
  DERIVED. THE GIVEN ROWS OF THIS SEAT. 6 by the template 'for every input the law returns true; each argument reads behind the call as it read before'; 0 by the template 'total and deterministic' (their statements: YtcillieggklaaaaGreatTotals.lean).
  GIVEN WITH THE SEED: the statements are not yours to turn. If you find one false, say at which input.
  Laid BY PROGRAM, IN A SANDBOX (cutbox-rows.mjs): the forced cells as the released guide's own fill.sh prints them over the translation 975db3e23d578ef9… (all of the seat's roots in one cut). By AI agents, Wed Nov 11 2026. No macro, syntax, notation, axiom, sorry.
-/
import Derived.Test.YtcillieggklaaaaGreatChecked
import GoSem.Claim
import GoSem.ClaimJoined
import GoSem.ClaimMapViews
import Derived.JoinedTies
import Derived.KernelRfl
namespace Go.Proofs.YtcillieggklaaaaGreat
/- THE CELL 'sum', in the pinned program and in every row, IS THE sha256 OF THE DUMP (.gsa) THAT YtcillieggklaaaaGreatProg.lean LOADS. Nothing in Lean hashes anything: it is a label: what it is worth is what the hold of that sum in a sandbox is worth. -/
noncomputable def Tryz.pinned : Pinned := { name := "ytcillieggklaaaagreat", sum := "975db3e23d578ef913cb148978dbadcb1fbe351a2b8b31f7ecc3ffee0a627121", checked := Tryz.checked }
namespace Rows
def none {H : Type} : Left H := { results := [], args := [] }

/-- 'routinglaw12.IspfUpdates': WHATEVER THE INPUT: true; the input reads as it did. -/
def ispfUpdatesSpec : ChangeSpec := { name := "ispfUpdates", fn := fun _ => fun
  | [d1, d2, d3] => { results := [.lit (.bool true)], args := [d1, d2, d3] }
  | _ => none }
def ispfUpdatesRow : OpenClaim := { program := "ytcillieggklaaaagreat", sum := "975db3e23d578ef913cb148978dbadcb1fbe351a2b8b31f7ecc3ffee0a627121", func := "routing/routinglaw12.IspfUpdates", spec := "ispfUpdates", inPlace := ["slices.overlaps[int]", "slices.overlaps[routing/api.Edge]"], unfollowed := true, recurses := true, apart := false }
def IspfUpdatesSaid : Prop := ispfUpdatesRow.holds Tryz.pinned (OpenSpec.ofChange ispfUpdatesSpec)

/-- ITS FALSE NEIGHBOUR: 'it returns false'. Refute it at one input. -/
def ispfUpdatesWrong : ChangeSpec := { name := "ispfUpdates", fn := fun _ => fun
  | [d1, d2, d3] => { results := [.lit (.bool false)], args := [d1, d2, d3] }
  | _ => none }
def IspfUpdatesWrongFalsely : Prop := ispfUpdatesRow.holds Tryz.pinned (OpenSpec.ofChange ispfUpdatesWrong)

/-- 'routinglaw12.IspfEqual': WHATEVER THE INPUT: true; the input reads as it did. -/
def ispfEqualSpec : ChangeSpec := { name := "ispfEqual", fn := fun _ => fun
  | [d1, d2, d3] => { results := [.lit (.bool true)], args := [d1, d2, d3] }
  | _ => none }
def ispfEqualRow : OpenClaim := { program := "ytcillieggklaaaagreat", sum := "975db3e23d578ef913cb148978dbadcb1fbe351a2b8b31f7ecc3ffee0a627121", func := "routing/routinglaw12.IspfEqual", spec := "ispfEqual", inPlace := ["slices.overlaps[int]", "slices.overlaps[routing/api.Edge]"], unfollowed := true, recurses := true, apart := false }
def IspfEqualSaid : Prop := ispfEqualRow.holds Tryz.pinned (OpenSpec.ofChange ispfEqualSpec)

/-- ITS FALSE NEIGHBOUR: 'it returns false'. Refute it at one input. -/
def ispfEqualWrong : ChangeSpec := { name := "ispfEqual", fn := fun _ => fun
  | [d1, d2, d3] => { results := [.lit (.bool false)], args := [d1, d2, d3] }
  | _ => none }
def IspfEqualWrongFalsely : Prop := ispfEqualRow.holds Tryz.pinned (OpenSpec.ofChange ispfEqualWrong)

/-- 'routinglaw12.IspfCounts': WHATEVER THE INPUT: true; the input reads as it did. -/
def ispfCountsSpec : ChangeSpec := { name := "ispfCounts", fn := fun _ => fun
  | [d1, d2, d3] => { results := [.lit (.bool true)], args := [d1, d2, d3] }
  | _ => none }
def ispfCountsRow : OpenClaim := { program := "ytcillieggklaaaagreat", sum := "975db3e23d578ef913cb148978dbadcb1fbe351a2b8b31f7ecc3ffee0a627121", func := "routing/routinglaw12.IspfCounts", spec := "ispfCounts", inPlace := ["slices.overlaps[int]", "slices.overlaps[routing/api.Edge]"], unfollowed := true, recurses := true, apart := false }
def IspfCountsSaid : Prop := ispfCountsRow.holds Tryz.pinned (OpenSpec.ofChange ispfCountsSpec)

/-- ITS FALSE NEIGHBOUR: 'it returns false'. Refute it at one input. -/
def ispfCountsWrong : ChangeSpec := { name := "ispfCounts", fn := fun _ => fun
  | [d1, d2, d3] => { results := [.lit (.bool false)], args := [d1, d2, d3] }
  | _ => none }
def IspfCountsWrongFalsely : Prop := ispfCountsRow.holds Tryz.pinned (OpenSpec.ofChange ispfCountsWrong)

/-- 'routinglaw12.IspfAffected': WHATEVER THE INPUT: true; the input reads as it did. -/
def ispfAffectedSpec : ChangeSpec := { name := "ispfAffected", fn := fun _ => fun
  | [d1, d2] => { results := [.lit (.bool true)], args := [d1, d2] }
  | _ => none }
def ispfAffectedRow : OpenClaim := { program := "ytcillieggklaaaagreat", sum := "975db3e23d578ef913cb148978dbadcb1fbe351a2b8b31f7ecc3ffee0a627121", func := "routing/routinglaw12.IspfAffected", spec := "ispfAffected", inPlace := ["slices.overlaps[int]", "slices.overlaps[routing/api.Edge]"], unfollowed := true, recurses := true, apart := false }
def IspfAffectedSaid : Prop := ispfAffectedRow.holds Tryz.pinned (OpenSpec.ofChange ispfAffectedSpec)

/-- ITS FALSE NEIGHBOUR: 'it returns false'. Refute it at one input. -/
def ispfAffectedWrong : ChangeSpec := { name := "ispfAffected", fn := fun _ => fun
  | [d1, d2] => { results := [.lit (.bool false)], args := [d1, d2] }
  | _ => none }
def IspfAffectedWrongFalsely : Prop := ispfAffectedRow.holds Tryz.pinned (OpenSpec.ofChange ispfAffectedWrong)

/-- 'routinglaw12.IspfChanges': WHATEVER THE INPUT: true; the input reads as it did. -/
def ispfChangesSpec : ChangeSpec := { name := "ispfChanges", fn := fun _ => fun
  | [d1, d2] => { results := [.lit (.bool true)], args := [d1, d2] }
  | _ => none }
def ispfChangesRow : OpenClaim := { program := "ytcillieggklaaaagreat", sum := "975db3e23d578ef913cb148978dbadcb1fbe351a2b8b31f7ecc3ffee0a627121", func := "routing/routinglaw12.IspfChanges", spec := "ispfChanges", inPlace := ["slices.overlaps[int]", "slices.overlaps[routing/api.Edge]"], unfollowed := true, recurses := true, apart := false }
def IspfChangesSaid : Prop := ispfChangesRow.holds Tryz.pinned (OpenSpec.ofChange ispfChangesSpec)

/-- ITS FALSE NEIGHBOUR: 'it returns false'. Refute it at one input. -/
def ispfChangesWrong : ChangeSpec := { name := "ispfChanges", fn := fun _ => fun
  | [d1, d2] => { results := [.lit (.bool false)], args := [d1, d2] }
  | _ => none }
def IspfChangesWrongFalsely : Prop := ispfChangesRow.holds Tryz.pinned (OpenSpec.ofChange ispfChangesWrong)

/-- 'routinglaw12.IspfBack': WHATEVER THE INPUT: true; the input reads as it did. -/
def ispfBackSpec : ChangeSpec := { name := "ispfBack", fn := fun _ => fun
  | [d1, d2, d3] => { results := [.lit (.bool true)], args := [d1, d2, d3] }
  | _ => none }
def ispfBackRow : OpenClaim := { program := "ytcillieggklaaaagreat", sum := "975db3e23d578ef913cb148978dbadcb1fbe351a2b8b31f7ecc3ffee0a627121", func := "routing/routinglaw12.IspfBack", spec := "ispfBack", inPlace := ["slices.overlaps[int]", "slices.overlaps[routing/api.Edge]"], unfollowed := true, recurses := true, apart := false }
def IspfBackSaid : Prop := ispfBackRow.holds Tryz.pinned (OpenSpec.ofChange ispfBackSpec)

/-- ITS FALSE NEIGHBOUR: 'it returns false'. Refute it at one input. -/
def ispfBackWrong : ChangeSpec := { name := "ispfBack", fn := fun _ => fun
  | [d1, d2, d3] => { results := [.lit (.bool false)], args := [d1, d2, d3] }
  | _ => none }
def IspfBackWrongFalsely : Prop := ispfBackRow.holds Tryz.pinned (OpenSpec.ofChange ispfBackWrong)

/- THE SECOND FORM. 'bulk': how many values and letters a reading holds, each counted each time it is reached (what is shared counts as often as it is met; a slice's spare places count too). A statement '..UptoSaid' is the law's where the arguments, and the package variables that the reading takes, are together of bulk at most 1048576: NARROWER than '..Said'. Prove '..Said' where nothing that the law and all that it calls make is longer than what came in: it says more and counts as full. Else prove '..UptoSaid'. A law counts once. -/
mutual
def uptoBulk {H : Type} : DataW H → Nat
  | .lit (.string bytes) => bytes.length + 1
  | .lit _ => 1
  | .nil => 1
  | .ptr d => uptoBulk d + 1
  | .slice elems spare => uptoBulkAll elems + uptoBulkAll spare + 1
  | .agg parts => uptoBulkAll parts + 1
  | .iface _ d => uptoBulk d + 1
  | .map entries => uptoBulkEntries entries + 1
  | .held _ => 1
def uptoBulkAll {H : Type} : List (DataW H) → Nat
  | [] => 0
  | d :: r => uptoBulk d + uptoBulkAll r
def uptoBulkEntries {H : Type} : List (Lit × DataW H) → Nat
  | [] => 0
  | x :: r => uptoBulkEntry x + uptoBulkEntries r
def uptoBulkEntry {H : Type} : Lit × DataW H → Nat
  | (.string bytes, d) => bytes.length + uptoBulk d + 1
  | (_, d) => uptoBulk d + 1
 end
def uptoSmall : (H : Type) → List (DataW H) → Bool := fun _ ds => decide (uptoBulkAll ds ≤ 1048576)
def OpenSpec.upto (s : _root_.Go.ChangeSpec) : _root_.Go.OpenSpec := { _root_.Go.OpenSpec.ofChange s with cond := some uptoSmall }

/-- 'routinglaw12.IspfUpdates', WHERE WHAT IT READS IS OF BULK AT MOST 1048576: true; the input reads as it did. -/
def ispfUpdatesUptoRow : OpenClaim := { program := "ytcillieggklaaaagreat", sum := "975db3e23d578ef913cb148978dbadcb1fbe351a2b8b31f7ecc3ffee0a627121", func := "routing/routinglaw12.IspfUpdates", spec := "ispfUpdates", inPlace := ["slices.overlaps[int]", "slices.overlaps[routing/api.Edge]"], unfollowed := true, recurses := true, apart := false, narrowed := true }
def IspfUpdatesUptoSaid : Prop := ispfUpdatesUptoRow.holds Tryz.pinned (OpenSpec.upto ispfUpdatesSpec)

/-- 'routinglaw12.IspfEqual', WHERE WHAT IT READS IS OF BULK AT MOST 1048576: true; the input reads as it did. -/
def ispfEqualUptoRow : OpenClaim := { program := "ytcillieggklaaaagreat", sum := "975db3e23d578ef913cb148978dbadcb1fbe351a2b8b31f7ecc3ffee0a627121", func := "routing/routinglaw12.IspfEqual", spec := "ispfEqual", inPlace := ["slices.overlaps[int]", "slices.overlaps[routing/api.Edge]"], unfollowed := true, recurses := true, apart := false, narrowed := true }
def IspfEqualUptoSaid : Prop := ispfEqualUptoRow.holds Tryz.pinned (OpenSpec.upto ispfEqualSpec)

/-- 'routinglaw12.IspfCounts', WHERE WHAT IT READS IS OF BULK AT MOST 1048576: true; the input reads as it did. -/
def ispfCountsUptoRow : OpenClaim := { program := "ytcillieggklaaaagreat", sum := "975db3e23d578ef913cb148978dbadcb1fbe351a2b8b31f7ecc3ffee0a627121", func := "routing/routinglaw12.IspfCounts", spec := "ispfCounts", inPlace := ["slices.overlaps[int]", "slices.overlaps[routing/api.Edge]"], unfollowed := true, recurses := true, apart := false, narrowed := true }
def IspfCountsUptoSaid : Prop := ispfCountsUptoRow.holds Tryz.pinned (OpenSpec.upto ispfCountsSpec)

/-- 'routinglaw12.IspfAffected', WHERE WHAT IT READS IS OF BULK AT MOST 1048576: true; the input reads as it did. -/
def ispfAffectedUptoRow : OpenClaim := { program := "ytcillieggklaaaagreat", sum := "975db3e23d578ef913cb148978dbadcb1fbe351a2b8b31f7ecc3ffee0a627121", func := "routing/routinglaw12.IspfAffected", spec := "ispfAffected", inPlace := ["slices.overlaps[int]", "slices.overlaps[routing/api.Edge]"], unfollowed := true, recurses := true, apart := false, narrowed := true }
def IspfAffectedUptoSaid : Prop := ispfAffectedUptoRow.holds Tryz.pinned (OpenSpec.upto ispfAffectedSpec)

/-- 'routinglaw12.IspfChanges', WHERE WHAT IT READS IS OF BULK AT MOST 1048576: true; the input reads as it did. -/
def ispfChangesUptoRow : OpenClaim := { program := "ytcillieggklaaaagreat", sum := "975db3e23d578ef913cb148978dbadcb1fbe351a2b8b31f7ecc3ffee0a627121", func := "routing/routinglaw12.IspfChanges", spec := "ispfChanges", inPlace := ["slices.overlaps[int]", "slices.overlaps[routing/api.Edge]"], unfollowed := true, recurses := true, apart := false, narrowed := true }
def IspfChangesUptoSaid : Prop := ispfChangesUptoRow.holds Tryz.pinned (OpenSpec.upto ispfChangesSpec)

/-- 'routinglaw12.IspfBack', WHERE WHAT IT READS IS OF BULK AT MOST 1048576: true; the input reads as it did. -/
def ispfBackUptoRow : OpenClaim := { program := "ytcillieggklaaaagreat", sum := "975db3e23d578ef913cb148978dbadcb1fbe351a2b8b31f7ecc3ffee0a627121", func := "routing/routinglaw12.IspfBack", spec := "ispfBack", inPlace := ["slices.overlaps[int]", "slices.overlaps[routing/api.Edge]"], unfollowed := true, recurses := true, apart := false, narrowed := true }
def IspfBackUptoSaid : Prop := ispfBackUptoRow.holds Tryz.pinned (OpenSpec.upto ispfBackSpec)

end Rows
end Go.Proofs.YtcillieggklaaaaGreat
