/-
  No cell of these rows narrows 'for every input' (looked for: loops, veiled, ifaces, maps, wideKeys, modest, calm, conditions, laid).
  DERIVED. THE GIVEN ROWS OF THIS SEAT. 5 by the template 'for every input the law returns true; each argument reads behind the call as it read before'; 0 by the template 'total and deterministic' (their statements: YtnkhlbljnmodbaaGreatTotals.lean).
  GIVEN WITH THE SEED: the statements are not yours to turn. If you find one false, say at which input.
  Laid BY PROGRAM, IN A SANDBOX (cutbox-rows.mjs): the forced cells as the released guide's own fill.sh prints them over the translation 75914be186306e24… (all of the seat's roots in one cut). By AI agents, Wed Nov 11 2026. No macro, syntax, notation, axiom, sorry.
-/
import Derived.Test.YtnkhlbljnmodbaaGreatChecked
import GoSem.Claim
import GoSem.ClaimJoined
import GoSem.ClaimMapViews
import Derived.JoinedTies
import Derived.KernelRfl
namespace Go.Proofs.YtnkhlbljnmodbaaGreat
/- THE CELL 'sum', in the pinned program and in every row, IS THE sha256 OF THE DUMP (.gsa) THAT YtnkhlbljnmodbaaGreatProg.lean LOADS. Nothing in Lean hashes anything: it is a label: what it is worth is what the hold of that sum in a sandbox is worth. -/
noncomputable def Tryz.pinned : Pinned := { name := "ytnkhlbljnmodbaagreat", sum := "75914be186306e24405d018b147628ea32ca06086b2ba74cab226f6c63a05aae", checked := Tryz.checked }
namespace Rows
def none {H : Type} : Left H := { results := [], args := [] }

/-- 'routinglaw13.LfaAll': WHATEVER THE INPUT: true; the input reads as it did. -/
def lfaAllSpec : ChangeSpec := { name := "lfaAll", fn := fun _ => fun
  | [d1, d2] => { results := [.lit (.bool true)], args := [d1, d2] }
  | _ => none }
def lfaAllRow : OpenClaim := { program := "ytnkhlbljnmodbaagreat", sum := "75914be186306e24405d018b147628ea32ca06086b2ba74cab226f6c63a05aae", func := "routing/routinglaw13.LfaAll", spec := "lfaAll", inPlace := ["slices.overlaps[int]"], unfollowed := true, recurses := true, apart := false }
def LfaAllSaid : Prop := lfaAllRow.holds Tryz.pinned (OpenSpec.ofChange lfaAllSpec)

/-- ITS FALSE NEIGHBOUR: 'it returns false'. Refute it at one input. -/
def lfaAllWrong : ChangeSpec := { name := "lfaAll", fn := fun _ => fun
  | [d1, d2] => { results := [.lit (.bool false)], args := [d1, d2] }
  | _ => none }
def LfaAllWrongFalsely : Prop := lfaAllRow.holds Tryz.pinned (OpenSpec.ofChange lfaAllWrong)

/-- 'routinglaw13.LfaSpaces': WHATEVER THE INPUT: true; the input reads as it did. -/
def lfaSpacesSpec : ChangeSpec := { name := "lfaSpaces", fn := fun _ => fun
  | [d1, d2, d3] => { results := [.lit (.bool true)], args := [d1, d2, d3] }
  | _ => none }
def lfaSpacesRow : OpenClaim := { program := "ytnkhlbljnmodbaagreat", sum := "75914be186306e24405d018b147628ea32ca06086b2ba74cab226f6c63a05aae", func := "routing/routinglaw13.LfaSpaces", spec := "lfaSpaces", inPlace := ["slices.overlaps[int]"], unfollowed := true, recurses := true, apart := false }
def LfaSpacesSaid : Prop := lfaSpacesRow.holds Tryz.pinned (OpenSpec.ofChange lfaSpacesSpec)

/-- ITS FALSE NEIGHBOUR: 'it returns false'. Refute it at one input. -/
def lfaSpacesWrong : ChangeSpec := { name := "lfaSpaces", fn := fun _ => fun
  | [d1, d2, d3] => { results := [.lit (.bool false)], args := [d1, d2, d3] }
  | _ => none }
def LfaSpacesWrongFalsely : Prop := lfaSpacesRow.holds Tryz.pinned (OpenSpec.ofChange lfaSpacesWrong)

/-- 'routinglaw13.LfaDownstream': WHATEVER THE INPUT: true; the input reads as it did. -/
def lfaDownstreamSpec : ChangeSpec := { name := "lfaDownstream", fn := fun _ => fun
  | [d1, d2] => { results := [.lit (.bool true)], args := [d1, d2] }
  | _ => none }
def lfaDownstreamRow : OpenClaim := { program := "ytnkhlbljnmodbaagreat", sum := "75914be186306e24405d018b147628ea32ca06086b2ba74cab226f6c63a05aae", func := "routing/routinglaw13.LfaDownstream", spec := "lfaDownstream", inPlace := ["slices.overlaps[int]"], unfollowed := true, recurses := true, apart := false }
def LfaDownstreamSaid : Prop := lfaDownstreamRow.holds Tryz.pinned (OpenSpec.ofChange lfaDownstreamSpec)

/-- ITS FALSE NEIGHBOUR: 'it returns false'. Refute it at one input. -/
def lfaDownstreamWrong : ChangeSpec := { name := "lfaDownstream", fn := fun _ => fun
  | [d1, d2] => { results := [.lit (.bool false)], args := [d1, d2] }
  | _ => none }
def LfaDownstreamWrongFalsely : Prop := lfaDownstreamRow.holds Tryz.pinned (OpenSpec.ofChange lfaDownstreamWrong)

/-- 'routinglaw13.LfaWalks': WHATEVER THE INPUT: true; the input reads as it did. -/
def lfaWalksSpec : ChangeSpec := { name := "lfaWalks", fn := fun _ => fun
  | [d1, d2, d3, d4, d5] => { results := [.lit (.bool true)], args := [d1, d2, d3, d4, d5] }
  | _ => none }
def lfaWalksRow : OpenClaim := { program := "ytnkhlbljnmodbaagreat", sum := "75914be186306e24405d018b147628ea32ca06086b2ba74cab226f6c63a05aae", func := "routing/routinglaw13.LfaWalks", spec := "lfaWalks", inPlace := ["slices.overlaps[int]"], unfollowed := true, recurses := true, apart := false }
def LfaWalksSaid : Prop := lfaWalksRow.holds Tryz.pinned (OpenSpec.ofChange lfaWalksSpec)

/-- ITS FALSE NEIGHBOUR: 'it returns false'. Refute it at one input. -/
def lfaWalksWrong : ChangeSpec := { name := "lfaWalks", fn := fun _ => fun
  | [d1, d2, d3, d4, d5] => { results := [.lit (.bool false)], args := [d1, d2, d3, d4, d5] }
  | _ => none }
def LfaWalksWrongFalsely : Prop := lfaWalksRow.holds Tryz.pinned (OpenSpec.ofChange lfaWalksWrong)

/-- 'routinglaw13.LfaWalk': WHATEVER THE INPUT: true; the input reads as it did. -/
def lfaWalkSpec : ChangeSpec := { name := "lfaWalk", fn := fun _ => fun
  | [d1, d2] => { results := [.lit (.bool true)], args := [d1, d2] }
  | _ => none }
def lfaWalkRow : OpenClaim := { program := "ytnkhlbljnmodbaagreat", sum := "75914be186306e24405d018b147628ea32ca06086b2ba74cab226f6c63a05aae", func := "routing/routinglaw13.LfaWalk", spec := "lfaWalk", inPlace := ["slices.overlaps[int]"], unfollowed := true, recurses := true, apart := false }
def LfaWalkSaid : Prop := lfaWalkRow.holds Tryz.pinned (OpenSpec.ofChange lfaWalkSpec)

/-- ITS FALSE NEIGHBOUR: 'it returns false'. Refute it at one input. -/
def lfaWalkWrong : ChangeSpec := { name := "lfaWalk", fn := fun _ => fun
  | [d1, d2] => { results := [.lit (.bool false)], args := [d1, d2] }
  | _ => none }
def LfaWalkWrongFalsely : Prop := lfaWalkRow.holds Tryz.pinned (OpenSpec.ofChange lfaWalkWrong)

/- THE SECOND FORM. 'bulk': how many values and letters a reading holds, each counted each time it is reached (what is shared counts as often as it is met; a slice's spare places count too). A statement '..UptoSaid' is the law's where the arguments, and the package variables that the reading takes, are together of bulk at most 1048576: NARROWER than '..Said'. Prove '..Said' where nothing that the law and all that it calls make is longer than what came in: it says more and counts as full. Else prove '..UptoSaid'. A law counts once. -/
mutual
def uptoBulk {H : Type} : DataW H → Nat
  | .lit (.string bytes) => bytes.length + 1
  | .lit _ => 1
  | .nil => 1
  | .ptr d => uptoBulk d + 1
  | .slice elems spare => uptoBulkAll elems + uptoBulkAll spare + 1
  | .agg parts => uptoBulkAll parts + 1
  | .iface _ d => uptoBulk d + 1
  | .map entries => uptoBulkEntries entries + 1
  | .held _ => 1
def uptoBulkAll {H : Type} : List (DataW H) → Nat
  | [] => 0
  | d :: r => uptoBulk d + uptoBulkAll r
def uptoBulkEntries {H : Type} : List (Lit × DataW H) → Nat
  | [] => 0
  | x :: r => uptoBulkEntry x + uptoBulkEntries r
def uptoBulkEntry {H : Type} : Lit × DataW H → Nat
  | (.string bytes, d) => bytes.length + uptoBulk d + 1
  | (_, d) => uptoBulk d + 1
 end
def uptoSmall : (H : Type) → List (DataW H) → Bool := fun _ ds => decide (uptoBulkAll ds ≤ 1048576)
def OpenSpec.upto (s : _root_.Go.ChangeSpec) : _root_.Go.OpenSpec := { _root_.Go.OpenSpec.ofChange s with cond := some uptoSmall }

/-- 'routinglaw13.LfaAll', WHERE WHAT IT READS IS OF BULK AT MOST 1048576: true; the input reads as it did. -/
def lfaAllUptoRow : OpenClaim := { program := "ytnkhlbljnmodbaagreat", sum := "75914be186306e24405d018b147628ea32ca06086b2ba74cab226f6c63a05aae", func := "routing/routinglaw13.LfaAll", spec := "lfaAll", inPlace := ["slices.overlaps[int]"], unfollowed := true, recurses := true, apart := false, narrowed := true }
def LfaAllUptoSaid : Prop := lfaAllUptoRow.holds Tryz.pinned (OpenSpec.upto lfaAllSpec)

/-- 'routinglaw13.LfaSpaces', WHERE WHAT IT READS IS OF BULK AT MOST 1048576: true; the input reads as it did. -/
def lfaSpacesUptoRow : OpenClaim := { program := "ytnkhlbljnmodbaagreat", sum := "75914be186306e24405d018b147628ea32ca06086b2ba74cab226f6c63a05aae", func := "routing/routinglaw13.LfaSpaces", spec := "lfaSpaces", inPlace := ["slices.overlaps[int]"], unfollowed := true, recurses := true, apart := false, narrowed := true }
def LfaSpacesUptoSaid : Prop := lfaSpacesUptoRow.holds Tryz.pinned (OpenSpec.upto lfaSpacesSpec)

/-- 'routinglaw13.LfaDownstream', WHERE WHAT IT READS IS OF BULK AT MOST 1048576: true; the input reads as it did. -/
def lfaDownstreamUptoRow : OpenClaim := { program := "ytnkhlbljnmodbaagreat", sum := "75914be186306e24405d018b147628ea32ca06086b2ba74cab226f6c63a05aae", func := "routing/routinglaw13.LfaDownstream", spec := "lfaDownstream", inPlace := ["slices.overlaps[int]"], unfollowed := true, recurses := true, apart := false, narrowed := true }
def LfaDownstreamUptoSaid : Prop := lfaDownstreamUptoRow.holds Tryz.pinned (OpenSpec.upto lfaDownstreamSpec)

/-- 'routinglaw13.LfaWalks', WHERE WHAT IT READS IS OF BULK AT MOST 1048576: true; the input reads as it did. -/
def lfaWalksUptoRow : OpenClaim := { program := "ytnkhlbljnmodbaagreat", sum := "75914be186306e24405d018b147628ea32ca06086b2ba74cab226f6c63a05aae", func := "routing/routinglaw13.LfaWalks", spec := "lfaWalks", inPlace := ["slices.overlaps[int]"], unfollowed := true, recurses := true, apart := false, narrowed := true }
def LfaWalksUptoSaid : Prop := lfaWalksUptoRow.holds Tryz.pinned (OpenSpec.upto lfaWalksSpec)

/-- 'routinglaw13.LfaWalk', WHERE WHAT IT READS IS OF BULK AT MOST 1048576: true; the input reads as it did. -/
def lfaWalkUptoRow : OpenClaim := { program := "ytnkhlbljnmodbaagreat", sum := "75914be186306e24405d018b147628ea32ca06086b2ba74cab226f6c63a05aae", func := "routing/routinglaw13.LfaWalk", spec := "lfaWalk", inPlace := ["slices.overlaps[int]"], unfollowed := true, recurses := true, apart := false, narrowed := true }
def LfaWalkUptoSaid : Prop := lfaWalkUptoRow.holds Tryz.pinned (OpenSpec.upto lfaWalkSpec)

end Rows
end Go.Proofs.YtnkhlbljnmodbaaGreat
