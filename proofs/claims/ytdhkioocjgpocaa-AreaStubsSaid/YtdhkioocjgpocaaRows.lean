/-
  No cell of these rows narrows 'for every input' (looked for: loops, veiled, ifaces, maps, wideKeys, modest, calm, conditions, laid).
  DERIVED. THE GIVEN ROWS OF THIS SEAT. 5 by the template 'for every input the law returns true; each argument reads behind the call as it read before'; 0 by the template 'total and deterministic' (their statements: YtdhkioocjgpocaaTotals.lean).
  GIVEN WITH THE SEED: the statements are not yours to turn. If you find one false, say at which input.
  Laid BY PROGRAM, IN A SANDBOX (cutbox-rows.mjs): the forced cells as the released guide's own fill.sh prints them over the translation f8ac7dc12369ef5d… (all of the seat's roots in one cut). By AI agents, Wed Nov 11 2026. No macro, syntax, notation, axiom, sorry.
-/
import Derived.Test.YtdhkioocjgpocaaChecked
import GoSem.Claim
import GoSem.ClaimJoined
import GoSem.ClaimMapViews
import Derived.JoinedTies
import Derived.KernelRfl
namespace Go.Proofs.Ytdhkioocjgpocaa
/- THE CELL 'sum', in the pinned program and in every row, IS THE sha256 OF THE DUMP (.gsa) THAT YtdhkioocjgpocaaProg.lean LOADS. Nothing in Lean hashes anything: it is a label: what it is worth is what the hold of that sum in a sandbox is worth. -/
noncomputable def Try.pinned : Pinned := { name := "ytdhkioocjgpocaa", sum := "f8ac7dc12369ef5d0bf6dc235c08d62d247423f0c2d98dbefdeecefb717454e8", checked := Try.checked }
namespace Rows
def none {H : Type} : Left H := { results := [], args := [] }

/-- 'routinglaw31.AreaBuilds': WHATEVER THE INPUT: true; the input reads as it did. -/
def areaBuildsSpec : ChangeSpec := { name := "areaBuilds", fn := fun _ => fun
  | [d] => { results := [.lit (.bool true)], args := [d] }
  | _ => none }
def areaBuildsRow : OpenClaim := { program := "ytdhkioocjgpocaa", sum := "f8ac7dc12369ef5d0bf6dc235c08d62d247423f0c2d98dbefdeecefb717454e8", func := "routing/routinglaw31.AreaBuilds", spec := "areaBuilds", unfollowed := true, recurses := true, apart := false }
def AreaBuildsSaid : Prop := areaBuildsRow.holds Try.pinned (OpenSpec.ofChange areaBuildsSpec)

/-- ITS FALSE NEIGHBOUR: 'it returns false'. Refute it at one input. -/
def areaBuildsWrong : ChangeSpec := { name := "areaBuilds", fn := fun _ => fun
  | [d] => { results := [.lit (.bool false)], args := [d] }
  | _ => none }
def AreaBuildsWrongFalsely : Prop := areaBuildsRow.holds Try.pinned (OpenSpec.ofChange areaBuildsWrong)

/-- 'routinglaw31.AreaBoth': WHATEVER THE INPUT: true; the input reads as it did. -/
def areaBothSpec : ChangeSpec := { name := "areaBoth", fn := fun _ => fun
  | [d] => { results := [.lit (.bool true)], args := [d] }
  | _ => none }
def areaBothRow : OpenClaim := { program := "ytdhkioocjgpocaa", sum := "f8ac7dc12369ef5d0bf6dc235c08d62d247423f0c2d98dbefdeecefb717454e8", func := "routing/routinglaw31.AreaBoth", spec := "areaBoth", unfollowed := true, recurses := true, apart := false }
def AreaBothSaid : Prop := areaBothRow.holds Try.pinned (OpenSpec.ofChange areaBothSpec)

/-- ITS FALSE NEIGHBOUR: 'it returns false'. Refute it at one input. -/
def areaBothWrong : ChangeSpec := { name := "areaBoth", fn := fun _ => fun
  | [d] => { results := [.lit (.bool false)], args := [d] }
  | _ => none }
def AreaBothWrongFalsely : Prop := areaBothRow.holds Try.pinned (OpenSpec.ofChange areaBothWrong)

/-- 'routinglaw31.AreaOnly': WHATEVER THE INPUT: true; the input reads as it did. -/
def areaOnlySpec : ChangeSpec := { name := "areaOnly", fn := fun _ => fun
  | [d] => { results := [.lit (.bool true)], args := [d] }
  | _ => none }
def areaOnlyRow : OpenClaim := { program := "ytdhkioocjgpocaa", sum := "f8ac7dc12369ef5d0bf6dc235c08d62d247423f0c2d98dbefdeecefb717454e8", func := "routing/routinglaw31.AreaOnly", spec := "areaOnly", unfollowed := true, recurses := true, apart := false }
def AreaOnlySaid : Prop := areaOnlyRow.holds Try.pinned (OpenSpec.ofChange areaOnlySpec)

/-- ITS FALSE NEIGHBOUR: 'it returns false'. Refute it at one input. -/
def areaOnlyWrong : ChangeSpec := { name := "areaOnly", fn := fun _ => fun
  | [d] => { results := [.lit (.bool false)], args := [d] }
  | _ => none }
def AreaOnlyWrongFalsely : Prop := areaOnlyRow.holds Try.pinned (OpenSpec.ofChange areaOnlyWrong)

/-- 'routinglaw31.AreaFinds': WHATEVER THE INPUT: true; the input reads as it did. -/
def areaFindsSpec : ChangeSpec := { name := "areaFinds", fn := fun _ => fun
  | [d1, d2] => { results := [.lit (.bool true)], args := [d1, d2] }
  | _ => none }
def areaFindsRow : OpenClaim := { program := "ytdhkioocjgpocaa", sum := "f8ac7dc12369ef5d0bf6dc235c08d62d247423f0c2d98dbefdeecefb717454e8", func := "routing/routinglaw31.AreaFinds", spec := "areaFinds", unfollowed := true, recurses := true, apart := false }
def AreaFindsSaid : Prop := areaFindsRow.holds Try.pinned (OpenSpec.ofChange areaFindsSpec)

/-- ITS FALSE NEIGHBOUR: 'it returns false'. Refute it at one input. -/
def areaFindsWrong : ChangeSpec := { name := "areaFinds", fn := fun _ => fun
  | [d1, d2] => { results := [.lit (.bool false)], args := [d1, d2] }
  | _ => none }
def AreaFindsWrongFalsely : Prop := areaFindsRow.holds Try.pinned (OpenSpec.ofChange areaFindsWrong)

/-- 'routinglaw31.AreaStubs': WHATEVER THE INPUT: true; the input reads as it did. -/
def areaStubsSpec : ChangeSpec := { name := "areaStubs", fn := fun _ => fun
  | [d1, d2] => { results := [.lit (.bool true)], args := [d1, d2] }
  | _ => none }
def areaStubsRow : OpenClaim := { program := "ytdhkioocjgpocaa", sum := "f8ac7dc12369ef5d0bf6dc235c08d62d247423f0c2d98dbefdeecefb717454e8", func := "routing/routinglaw31.AreaStubs", spec := "areaStubs", unfollowed := true, recurses := true, apart := false }
def AreaStubsSaid : Prop := areaStubsRow.holds Try.pinned (OpenSpec.ofChange areaStubsSpec)

/-- ITS FALSE NEIGHBOUR: 'it returns false'. Refute it at one input. -/
def areaStubsWrong : ChangeSpec := { name := "areaStubs", fn := fun _ => fun
  | [d1, d2] => { results := [.lit (.bool false)], args := [d1, d2] }
  | _ => none }
def AreaStubsWrongFalsely : Prop := areaStubsRow.holds Try.pinned (OpenSpec.ofChange areaStubsWrong)

/- THE SECOND FORM. 'bulk': how many values and letters a reading holds, each counted each time it is reached (what is shared counts as often as it is met; a slice's spare places count too). A statement '..UptoSaid' is the law's where the arguments, and the package variables that the reading takes, are together of bulk at most 1048576: NARROWER than '..Said'. Prove '..Said' where nothing that the law and all that it calls make is longer than what came in: it says more and counts as full. Else prove '..UptoSaid'. A law counts once. -/
mutual
def uptoBulk {H : Type} : DataW H → Nat
  | .lit (.string bytes) => bytes.length + 1
  | .lit _ => 1
  | .nil => 1
  | .ptr d => uptoBulk d + 1
  | .slice elems spare => uptoBulkAll elems + uptoBulkAll spare + 1
  | .agg parts => uptoBulkAll parts + 1
  | .iface _ d => uptoBulk d + 1
  | .map entries => uptoBulkEntries entries + 1
  | .held _ => 1
def uptoBulkAll {H : Type} : List (DataW H) → Nat
  | [] => 0
  | d :: r => uptoBulk d + uptoBulkAll r
def uptoBulkEntries {H : Type} : List (Lit × DataW H) → Nat
  | [] => 0
  | x :: r => uptoBulkEntry x + uptoBulkEntries r
def uptoBulkEntry {H : Type} : Lit × DataW H → Nat
  | (.string bytes, d) => bytes.length + uptoBulk d + 1
  | (_, d) => uptoBulk d + 1
 end
def uptoSmall : (H : Type) → List (DataW H) → Bool := fun _ ds => decide (uptoBulkAll ds ≤ 1048576)
def OpenSpec.upto (s : _root_.Go.ChangeSpec) : _root_.Go.OpenSpec := { _root_.Go.OpenSpec.ofChange s with cond := some uptoSmall }

/-- 'routinglaw31.AreaBuilds', WHERE WHAT IT READS IS OF BULK AT MOST 1048576: true; the input reads as it did. -/
def areaBuildsUptoRow : OpenClaim := { program := "ytdhkioocjgpocaa", sum := "f8ac7dc12369ef5d0bf6dc235c08d62d247423f0c2d98dbefdeecefb717454e8", func := "routing/routinglaw31.AreaBuilds", spec := "areaBuilds", unfollowed := true, recurses := true, apart := false, narrowed := true }
def AreaBuildsUptoSaid : Prop := areaBuildsUptoRow.holds Try.pinned (OpenSpec.upto areaBuildsSpec)

/-- 'routinglaw31.AreaBoth', WHERE WHAT IT READS IS OF BULK AT MOST 1048576: true; the input reads as it did. -/
def areaBothUptoRow : OpenClaim := { program := "ytdhkioocjgpocaa", sum := "f8ac7dc12369ef5d0bf6dc235c08d62d247423f0c2d98dbefdeecefb717454e8", func := "routing/routinglaw31.AreaBoth", spec := "areaBoth", unfollowed := true, recurses := true, apart := false, narrowed := true }
def AreaBothUptoSaid : Prop := areaBothUptoRow.holds Try.pinned (OpenSpec.upto areaBothSpec)

/-- 'routinglaw31.AreaOnly', WHERE WHAT IT READS IS OF BULK AT MOST 1048576: true; the input reads as it did. -/
def areaOnlyUptoRow : OpenClaim := { program := "ytdhkioocjgpocaa", sum := "f8ac7dc12369ef5d0bf6dc235c08d62d247423f0c2d98dbefdeecefb717454e8", func := "routing/routinglaw31.AreaOnly", spec := "areaOnly", unfollowed := true, recurses := true, apart := false, narrowed := true }
def AreaOnlyUptoSaid : Prop := areaOnlyUptoRow.holds Try.pinned (OpenSpec.upto areaOnlySpec)

/-- 'routinglaw31.AreaFinds', WHERE WHAT IT READS IS OF BULK AT MOST 1048576: true; the input reads as it did. -/
def areaFindsUptoRow : OpenClaim := { program := "ytdhkioocjgpocaa", sum := "f8ac7dc12369ef5d0bf6dc235c08d62d247423f0c2d98dbefdeecefb717454e8", func := "routing/routinglaw31.AreaFinds", spec := "areaFinds", unfollowed := true, recurses := true, apart := false, narrowed := true }
def AreaFindsUptoSaid : Prop := areaFindsUptoRow.holds Try.pinned (OpenSpec.upto areaFindsSpec)

/-- 'routinglaw31.AreaStubs', WHERE WHAT IT READS IS OF BULK AT MOST 1048576: true; the input reads as it did. -/
def areaStubsUptoRow : OpenClaim := { program := "ytdhkioocjgpocaa", sum := "f8ac7dc12369ef5d0bf6dc235c08d62d247423f0c2d98dbefdeecefb717454e8", func := "routing/routinglaw31.AreaStubs", spec := "areaStubs", unfollowed := true, recurses := true, apart := false, narrowed := true }
def AreaStubsUptoSaid : Prop := areaStubsUptoRow.holds Try.pinned (OpenSpec.upto areaStubsSpec)

end Rows
end Go.Proofs.Ytdhkioocjgpocaa
