/-
  No cell of these rows narrows 'for every input' (looked for: loops, veiled, ifaces, maps, wideKeys, modest, calm, conditions, laid).
  DERIVED. THE GIVEN ROWS OF THIS SEAT. 6 by the template 'for every input the law returns true; each argument reads behind the call as it read before'; 0 by the template 'total and deterministic' (their statements: YtdebjffddkgfbaaTotals.lean).
  GIVEN WITH THE SEED: the statements are not yours to turn. If you find one false, say at which input.
  Laid BY PROGRAM, IN A SANDBOX (cutbox-rows.mjs): the forced cells as the released guide's own fill.sh prints them over the translation 7e73a8ef1425ce7a… (all of the seat's roots in one cut). By AI agents, Wed Nov 11 2026. No macro, syntax, notation, axiom, sorry.
-/
import Derived.Test.YtdebjffddkgfbaaChecked
import GoSem.Claim
import GoSem.ClaimJoined
import GoSem.ClaimMapViews
import Derived.JoinedTies
import Derived.KernelRfl
namespace Go.Proofs.Ytdebjffddkgfbaa
/- THE CELL 'sum', in the pinned program and in every row, IS THE sha256 OF THE DUMP (.gsa) THAT YtdebjffddkgfbaaProg.lean LOADS. Nothing in Lean hashes anything: it is a label: what it is worth is what the hold of that sum in a sandbox is worth. -/
noncomputable def Try.pinned : Pinned := { name := "ytdebjffddkgfbaa", sum := "7e73a8ef1425ce7a9fc0dbadb35aab9f22372f27da6d5beb36839d4c18fa8441", checked := Try.checked }
namespace Rows
def none {H : Type} : Left H := { results := [], args := [] }

/-- 'routinglaw05.CoverRange': WHATEVER THE INPUT: true; the input reads as it did. -/
def coverRangeSpec : ChangeSpec := { name := "coverRange", fn := fun _ => fun
  | [d1, d2] => { results := [.lit (.bool true)], args := [d1, d2] }
  | _ => none }
def coverRangeRow : OpenClaim := { program := "ytdebjffddkgfbaa", sum := "7e73a8ef1425ce7a9fc0dbadb35aab9f22372f27da6d5beb36839d4c18fa8441", func := "routing/routinglaw05.CoverRange", spec := "coverRange", unfollowed := true, recurses := true, apart := false }
def CoverRangeSaid : Prop := coverRangeRow.holds Try.pinned (OpenSpec.ofChange coverRangeSpec)

/-- ITS FALSE NEIGHBOUR: 'it returns false'. Refute it at one input. -/
def coverRangeWrong : ChangeSpec := { name := "coverRange", fn := fun _ => fun
  | [d1, d2] => { results := [.lit (.bool false)], args := [d1, d2] }
  | _ => none }
def CoverRangeWrongFalsely : Prop := coverRangeRow.holds Try.pinned (OpenSpec.ofChange coverRangeWrong)

/-- 'routinglaw05.CoverSummary': WHATEVER THE INPUT: true; the input reads as it did. -/
def coverSummarySpec : ChangeSpec := { name := "coverSummary", fn := fun _ => fun
  | [d] => { results := [.lit (.bool true)], args := [d] }
  | _ => none }
def coverSummaryRow : OpenClaim := { program := "ytdebjffddkgfbaa", sum := "7e73a8ef1425ce7a9fc0dbadb35aab9f22372f27da6d5beb36839d4c18fa8441", func := "routing/routinglaw05.CoverSummary", spec := "coverSummary", unfollowed := true, recurses := true, apart := false }
def CoverSummarySaid : Prop := coverSummaryRow.holds Try.pinned (OpenSpec.ofChange coverSummarySpec)

/-- ITS FALSE NEIGHBOUR: 'it returns false'. Refute it at one input. -/
def coverSummaryWrong : ChangeSpec := { name := "coverSummary", fn := fun _ => fun
  | [d] => { results := [.lit (.bool false)], args := [d] }
  | _ => none }
def CoverSummaryWrongFalsely : Prop := coverSummaryRow.holds Try.pinned (OpenSpec.ofChange coverSummaryWrong)

/-- 'routinglaw05.CoverSets': WHATEVER THE INPUT: true; the input reads as it did. -/
def coverSetsSpec : ChangeSpec := { name := "coverSets", fn := fun _ => fun
  | [d1, d2] => { results := [.lit (.bool true)], args := [d1, d2] }
  | _ => none }
def coverSetsRow : OpenClaim := { program := "ytdebjffddkgfbaa", sum := "7e73a8ef1425ce7a9fc0dbadb35aab9f22372f27da6d5beb36839d4c18fa8441", func := "routing/routinglaw05.CoverSets", spec := "coverSets", unfollowed := true, recurses := true, apart := false }
def CoverSetsSaid : Prop := coverSetsRow.holds Try.pinned (OpenSpec.ofChange coverSetsSpec)

/-- ITS FALSE NEIGHBOUR: 'it returns false'. Refute it at one input. -/
def coverSetsWrong : ChangeSpec := { name := "coverSets", fn := fun _ => fun
  | [d1, d2] => { results := [.lit (.bool false)], args := [d1, d2] }
  | _ => none }
def CoverSetsWrongFalsely : Prop := coverSetsRow.holds Try.pinned (OpenSpec.ofChange coverSetsWrong)

/-- 'routinglaw05.CoverMembers': WHATEVER THE INPUT: true; the input reads as it did. -/
def coverMembersSpec : ChangeSpec := { name := "coverMembers", fn := fun _ => fun
  | [d1, d2, d3] => { results := [.lit (.bool true)], args := [d1, d2, d3] }
  | _ => none }
def coverMembersRow : OpenClaim := { program := "ytdebjffddkgfbaa", sum := "7e73a8ef1425ce7a9fc0dbadb35aab9f22372f27da6d5beb36839d4c18fa8441", func := "routing/routinglaw05.CoverMembers", spec := "coverMembers", unfollowed := true, recurses := true, apart := false }
def CoverMembersSaid : Prop := coverMembersRow.holds Try.pinned (OpenSpec.ofChange coverMembersSpec)

/-- ITS FALSE NEIGHBOUR: 'it returns false'. Refute it at one input. -/
def coverMembersWrong : ChangeSpec := { name := "coverMembers", fn := fun _ => fun
  | [d1, d2, d3] => { results := [.lit (.bool false)], args := [d1, d2, d3] }
  | _ => none }
def CoverMembersWrongFalsely : Prop := coverMembersRow.holds Try.pinned (OpenSpec.ofChange coverMembersWrong)

/-- 'routinglaw05.CoverNormal': WHATEVER THE INPUT: true; the input reads as it did. -/
def coverNormalSpec : ChangeSpec := { name := "coverNormal", fn := fun _ => fun
  | [d] => { results := [.lit (.bool true)], args := [d] }
  | _ => none }
def coverNormalRow : OpenClaim := { program := "ytdebjffddkgfbaa", sum := "7e73a8ef1425ce7a9fc0dbadb35aab9f22372f27da6d5beb36839d4c18fa8441", func := "routing/routinglaw05.CoverNormal", spec := "coverNormal", unfollowed := true, recurses := true, apart := false }
def CoverNormalSaid : Prop := coverNormalRow.holds Try.pinned (OpenSpec.ofChange coverNormalSpec)

/-- ITS FALSE NEIGHBOUR: 'it returns false'. Refute it at one input. -/
def coverNormalWrong : ChangeSpec := { name := "coverNormal", fn := fun _ => fun
  | [d] => { results := [.lit (.bool false)], args := [d] }
  | _ => none }
def CoverNormalWrongFalsely : Prop := coverNormalRow.holds Try.pinned (OpenSpec.ofChange coverNormalWrong)

/-- 'routinglaw05.CoverCounts': WHATEVER THE INPUT: true; the input reads as it did. -/
def coverCountsSpec : ChangeSpec := { name := "coverCounts", fn := fun _ => fun
  | [d1, d2] => { results := [.lit (.bool true)], args := [d1, d2] }
  | _ => none }
def coverCountsRow : OpenClaim := { program := "ytdebjffddkgfbaa", sum := "7e73a8ef1425ce7a9fc0dbadb35aab9f22372f27da6d5beb36839d4c18fa8441", func := "routing/routinglaw05.CoverCounts", spec := "coverCounts", unfollowed := true, recurses := true, apart := false }
def CoverCountsSaid : Prop := coverCountsRow.holds Try.pinned (OpenSpec.ofChange coverCountsSpec)

/-- ITS FALSE NEIGHBOUR: 'it returns false'. Refute it at one input. -/
def coverCountsWrong : ChangeSpec := { name := "coverCounts", fn := fun _ => fun
  | [d1, d2] => { results := [.lit (.bool false)], args := [d1, d2] }
  | _ => none }
def CoverCountsWrongFalsely : Prop := coverCountsRow.holds Try.pinned (OpenSpec.ofChange coverCountsWrong)

/- THE SECOND FORM. 'bulk': how many values and letters a reading holds, each counted each time it is reached (what is shared counts as often as it is met; a slice's spare places count too). A statement '..UptoSaid' is the law's where the arguments, and the package variables that the reading takes, are together of bulk at most 1048576: NARROWER than '..Said'. Prove '..Said' where nothing that the law and all that it calls make is longer than what came in: it says more and counts as full. Else prove '..UptoSaid'. A law counts once. -/
mutual
def uptoBulk {H : Type} : DataW H → Nat
  | .lit (.string bytes) => bytes.length + 1
  | .lit _ => 1
  | .nil => 1
  | .ptr d => uptoBulk d + 1
  | .slice elems spare => uptoBulkAll elems + uptoBulkAll spare + 1
  | .agg parts => uptoBulkAll parts + 1
  | .iface _ d => uptoBulk d + 1
  | .map entries => uptoBulkEntries entries + 1
  | .held _ => 1
def uptoBulkAll {H : Type} : List (DataW H) → Nat
  | [] => 0
  | d :: r => uptoBulk d + uptoBulkAll r
def uptoBulkEntries {H : Type} : List (Lit × DataW H) → Nat
  | [] => 0
  | x :: r => uptoBulkEntry x + uptoBulkEntries r
def uptoBulkEntry {H : Type} : Lit × DataW H → Nat
  | (.string bytes, d) => bytes.length + uptoBulk d + 1
  | (_, d) => uptoBulk d + 1
 end
def uptoSmall : (H : Type) → List (DataW H) → Bool := fun _ ds => decide (uptoBulkAll ds ≤ 1048576)
def OpenSpec.upto (s : _root_.Go.ChangeSpec) : _root_.Go.OpenSpec := { _root_.Go.OpenSpec.ofChange s with cond := some uptoSmall }

/-- 'routinglaw05.CoverRange', WHERE WHAT IT READS IS OF BULK AT MOST 1048576: true; the input reads as it did. -/
def coverRangeUptoRow : OpenClaim := { program := "ytdebjffddkgfbaa", sum := "7e73a8ef1425ce7a9fc0dbadb35aab9f22372f27da6d5beb36839d4c18fa8441", func := "routing/routinglaw05.CoverRange", spec := "coverRange", unfollowed := true, recurses := true, apart := false, narrowed := true }
def CoverRangeUptoSaid : Prop := coverRangeUptoRow.holds Try.pinned (OpenSpec.upto coverRangeSpec)

/-- 'routinglaw05.CoverSummary', WHERE WHAT IT READS IS OF BULK AT MOST 1048576: true; the input reads as it did. -/
def coverSummaryUptoRow : OpenClaim := { program := "ytdebjffddkgfbaa", sum := "7e73a8ef1425ce7a9fc0dbadb35aab9f22372f27da6d5beb36839d4c18fa8441", func := "routing/routinglaw05.CoverSummary", spec := "coverSummary", unfollowed := true, recurses := true, apart := false, narrowed := true }
def CoverSummaryUptoSaid : Prop := coverSummaryUptoRow.holds Try.pinned (OpenSpec.upto coverSummarySpec)

/-- 'routinglaw05.CoverSets', WHERE WHAT IT READS IS OF BULK AT MOST 1048576: true; the input reads as it did. -/
def coverSetsUptoRow : OpenClaim := { program := "ytdebjffddkgfbaa", sum := "7e73a8ef1425ce7a9fc0dbadb35aab9f22372f27da6d5beb36839d4c18fa8441", func := "routing/routinglaw05.CoverSets", spec := "coverSets", unfollowed := true, recurses := true, apart := false, narrowed := true }
def CoverSetsUptoSaid : Prop := coverSetsUptoRow.holds Try.pinned (OpenSpec.upto coverSetsSpec)

/-- 'routinglaw05.CoverMembers', WHERE WHAT IT READS IS OF BULK AT MOST 1048576: true; the input reads as it did. -/
def coverMembersUptoRow : OpenClaim := { program := "ytdebjffddkgfbaa", sum := "7e73a8ef1425ce7a9fc0dbadb35aab9f22372f27da6d5beb36839d4c18fa8441", func := "routing/routinglaw05.CoverMembers", spec := "coverMembers", unfollowed := true, recurses := true, apart := false, narrowed := true }
def CoverMembersUptoSaid : Prop := coverMembersUptoRow.holds Try.pinned (OpenSpec.upto coverMembersSpec)

/-- 'routinglaw05.CoverNormal', WHERE WHAT IT READS IS OF BULK AT MOST 1048576: true; the input reads as it did. -/
def coverNormalUptoRow : OpenClaim := { program := "ytdebjffddkgfbaa", sum := "7e73a8ef1425ce7a9fc0dbadb35aab9f22372f27da6d5beb36839d4c18fa8441", func := "routing/routinglaw05.CoverNormal", spec := "coverNormal", unfollowed := true, recurses := true, apart := false, narrowed := true }
def CoverNormalUptoSaid : Prop := coverNormalUptoRow.holds Try.pinned (OpenSpec.upto coverNormalSpec)

/-- 'routinglaw05.CoverCounts', WHERE WHAT IT READS IS OF BULK AT MOST 1048576: true; the input reads as it did. -/
def coverCountsUptoRow : OpenClaim := { program := "ytdebjffddkgfbaa", sum := "7e73a8ef1425ce7a9fc0dbadb35aab9f22372f27da6d5beb36839d4c18fa8441", func := "routing/routinglaw05.CoverCounts", spec := "coverCounts", unfollowed := true, recurses := true, apart := false, narrowed := true }
def CoverCountsUptoSaid : Prop := coverCountsUptoRow.holds Try.pinned (OpenSpec.upto coverCountsSpec)

end Rows
end Go.Proofs.Ytdebjffddkgfbaa
