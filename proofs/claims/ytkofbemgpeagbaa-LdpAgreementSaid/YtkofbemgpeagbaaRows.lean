/-
  No cell of these rows narrows 'for every input' (looked for: loops, veiled, ifaces, maps, wideKeys, modest, calm, conditions, laid).
  DERIVED. THE GIVEN ROWS OF THIS SEAT. 4 by the template 'for every input the law returns true; each argument reads behind the call as it read before'; 0 by the template 'total and deterministic' (their statements: YtkofbemgpeagbaaTotals.lean).
  GIVEN WITH THE SEED: the statements are not yours to turn. If you find one false, say at which input.
  Laid BY PROGRAM, IN A SANDBOX (cutbox-rows.mjs): the forced cells as the released guide's own fill.sh prints them over the translation 93ad81f2180d8014… (all of the seat's roots in one cut). By AI agents, Wed Nov 11 2026. No macro, syntax, notation, axiom, sorry.
-/
import Derived.Test.YtkofbemgpeagbaaChecked
import GoSem.Claim
import GoSem.ClaimJoined
import GoSem.ClaimMapViews
import Derived.JoinedTies
import Derived.KernelRfl
namespace Go.Proofs.Ytkofbemgpeagbaa
/- THE CELL 'sum', in the pinned program and in every row, IS THE sha256 OF THE DUMP (.gsa) THAT YtkofbemgpeagbaaProg.lean LOADS. Nothing in Lean hashes anything: it is a label: what it is worth is what the hold of that sum in a sandbox is worth. -/
noncomputable def Try.pinned : Pinned := { name := "ytkofbemgpeagbaa", sum := "93ad81f2180d80148989c566c9e62b61e15b3234d308b7111ef0288881003897", checked := Try.checked }
namespace Rows
def none {H : Type} : Left H := { results := [], args := [] }

/-- 'routinglaw45.LdpCodes': WHATEVER THE INPUT: true; the input reads as it did. -/
def ldpCodesSpec : ChangeSpec := { name := "ldpCodes", fn := fun _ => fun
  | [d1, d2] => { results := [.lit (.bool true)], args := [d1, d2] }
  | _ => none }
def ldpCodesRow : OpenClaim := { program := "ytkofbemgpeagbaa", sum := "93ad81f2180d80148989c566c9e62b61e15b3234d308b7111ef0288881003897", func := "routing/routinglaw45.LdpCodes", spec := "ldpCodes", inPlace := ["slices.overlaps[uint32]", "slices.overlaps[routing/api.Binding]"], unfollowed := true, recurses := true, apart := false }
def LdpCodesSaid : Prop := ldpCodesRow.holds Try.pinned (OpenSpec.ofChange ldpCodesSpec)

/-- ITS FALSE NEIGHBOUR: 'it returns false'. Refute it at one input. -/
def ldpCodesWrong : ChangeSpec := { name := "ldpCodes", fn := fun _ => fun
  | [d1, d2] => { results := [.lit (.bool false)], args := [d1, d2] }
  | _ => none }
def LdpCodesWrongFalsely : Prop := ldpCodesRow.holds Try.pinned (OpenSpec.ofChange ldpCodesWrong)

/-- 'routinglaw45.LdpBack': WHATEVER THE INPUT: true; the input reads as it did. -/
def ldpBackSpec : ChangeSpec := { name := "ldpBack", fn := fun _ => fun
  | [d1, d2] => { results := [.lit (.bool true)], args := [d1, d2] }
  | _ => none }
def ldpBackRow : OpenClaim := { program := "ytkofbemgpeagbaa", sum := "93ad81f2180d80148989c566c9e62b61e15b3234d308b7111ef0288881003897", func := "routing/routinglaw45.LdpBack", spec := "ldpBack", inPlace := ["slices.overlaps[uint32]", "slices.overlaps[routing/api.Binding]"], unfollowed := true, recurses := true, apart := false }
def LdpBackSaid : Prop := ldpBackRow.holds Try.pinned (OpenSpec.ofChange ldpBackSpec)

/-- ITS FALSE NEIGHBOUR: 'it returns false'. Refute it at one input. -/
def ldpBackWrong : ChangeSpec := { name := "ldpBack", fn := fun _ => fun
  | [d1, d2] => { results := [.lit (.bool false)], args := [d1, d2] }
  | _ => none }
def LdpBackWrongFalsely : Prop := ldpBackRow.holds Try.pinned (OpenSpec.ofChange ldpBackWrong)

/-- 'routinglaw45.LdpLabels': WHATEVER THE INPUT: true; the input reads as it did. -/
def ldpLabelsSpec : ChangeSpec := { name := "ldpLabels", fn := fun _ => fun
  | [d1, d2, d3] => { results := [.lit (.bool true)], args := [d1, d2, d3] }
  | _ => none }
def ldpLabelsRow : OpenClaim := { program := "ytkofbemgpeagbaa", sum := "93ad81f2180d80148989c566c9e62b61e15b3234d308b7111ef0288881003897", func := "routing/routinglaw45.LdpLabels", spec := "ldpLabels", inPlace := ["slices.overlaps[uint32]", "slices.overlaps[routing/api.Binding]"], unfollowed := true, recurses := true, apart := false }
def LdpLabelsSaid : Prop := ldpLabelsRow.holds Try.pinned (OpenSpec.ofChange ldpLabelsSpec)

/-- ITS FALSE NEIGHBOUR: 'it returns false'. Refute it at one input. -/
def ldpLabelsWrong : ChangeSpec := { name := "ldpLabels", fn := fun _ => fun
  | [d1, d2, d3] => { results := [.lit (.bool false)], args := [d1, d2, d3] }
  | _ => none }
def LdpLabelsWrongFalsely : Prop := ldpLabelsRow.holds Try.pinned (OpenSpec.ofChange ldpLabelsWrong)

/-- 'routinglaw45.LdpAgreement': WHATEVER THE INPUT: true; the input reads as it did. -/
def ldpAgreementSpec : ChangeSpec := { name := "ldpAgreement", fn := fun _ => fun
  | [d] => { results := [.lit (.bool true)], args := [d] }
  | _ => none }
def ldpAgreementRow : OpenClaim := { program := "ytkofbemgpeagbaa", sum := "93ad81f2180d80148989c566c9e62b61e15b3234d308b7111ef0288881003897", func := "routing/routinglaw45.LdpAgreement", spec := "ldpAgreement", inPlace := ["slices.overlaps[uint32]", "slices.overlaps[routing/api.Binding]"], unfollowed := true, recurses := true, apart := false }
def LdpAgreementSaid : Prop := ldpAgreementRow.holds Try.pinned (OpenSpec.ofChange ldpAgreementSpec)

/-- ITS FALSE NEIGHBOUR: 'it returns false'. Refute it at one input. -/
def ldpAgreementWrong : ChangeSpec := { name := "ldpAgreement", fn := fun _ => fun
  | [d] => { results := [.lit (.bool false)], args := [d] }
  | _ => none }
def LdpAgreementWrongFalsely : Prop := ldpAgreementRow.holds Try.pinned (OpenSpec.ofChange ldpAgreementWrong)

/- THE SECOND FORM. 'bulk': how many values and letters a reading holds, each counted each time it is reached (what is shared counts as often as it is met; a slice's spare places count too). A statement '..UptoSaid' is the law's where the arguments, and the package variables that the reading takes, are together of bulk at most 1048576: NARROWER than '..Said'. Prove '..Said' where nothing that the law and all that it calls make is longer than what came in: it says more and counts as full. Else prove '..UptoSaid'. A law counts once. -/
mutual
def uptoBulk {H : Type} : DataW H → Nat
  | .lit (.string bytes) => bytes.length + 1
  | .lit _ => 1
  | .nil => 1
  | .ptr d => uptoBulk d + 1
  | .slice elems spare => uptoBulkAll elems + uptoBulkAll spare + 1
  | .agg parts => uptoBulkAll parts + 1
  | .iface _ d => uptoBulk d + 1
  | .map entries => uptoBulkEntries entries + 1
  | .held _ => 1
def uptoBulkAll {H : Type} : List (DataW H) → Nat
  | [] => 0
  | d :: r => uptoBulk d + uptoBulkAll r
def uptoBulkEntries {H : Type} : List (Lit × DataW H) → Nat
  | [] => 0
  | x :: r => uptoBulkEntry x + uptoBulkEntries r
def uptoBulkEntry {H : Type} : Lit × DataW H → Nat
  | (.string bytes, d) => bytes.length + uptoBulk d + 1
  | (_, d) => uptoBulk d + 1
 end
def uptoSmall : (H : Type) → List (DataW H) → Bool := fun _ ds => decide (uptoBulkAll ds ≤ 1048576)
def OpenSpec.upto (s : _root_.Go.ChangeSpec) : _root_.Go.OpenSpec := { _root_.Go.OpenSpec.ofChange s with cond := some uptoSmall }

/-- 'routinglaw45.LdpCodes', WHERE WHAT IT READS IS OF BULK AT MOST 1048576: true; the input reads as it did. -/
def ldpCodesUptoRow : OpenClaim := { program := "ytkofbemgpeagbaa", sum := "93ad81f2180d80148989c566c9e62b61e15b3234d308b7111ef0288881003897", func := "routing/routinglaw45.LdpCodes", spec := "ldpCodes", inPlace := ["slices.overlaps[uint32]", "slices.overlaps[routing/api.Binding]"], unfollowed := true, recurses := true, apart := false, narrowed := true }
def LdpCodesUptoSaid : Prop := ldpCodesUptoRow.holds Try.pinned (OpenSpec.upto ldpCodesSpec)

/-- 'routinglaw45.LdpBack', WHERE WHAT IT READS IS OF BULK AT MOST 1048576: true; the input reads as it did. -/
def ldpBackUptoRow : OpenClaim := { program := "ytkofbemgpeagbaa", sum := "93ad81f2180d80148989c566c9e62b61e15b3234d308b7111ef0288881003897", func := "routing/routinglaw45.LdpBack", spec := "ldpBack", inPlace := ["slices.overlaps[uint32]", "slices.overlaps[routing/api.Binding]"], unfollowed := true, recurses := true, apart := false, narrowed := true }
def LdpBackUptoSaid : Prop := ldpBackUptoRow.holds Try.pinned (OpenSpec.upto ldpBackSpec)

/-- 'routinglaw45.LdpLabels', WHERE WHAT IT READS IS OF BULK AT MOST 1048576: true; the input reads as it did. -/
def ldpLabelsUptoRow : OpenClaim := { program := "ytkofbemgpeagbaa", sum := "93ad81f2180d80148989c566c9e62b61e15b3234d308b7111ef0288881003897", func := "routing/routinglaw45.LdpLabels", spec := "ldpLabels", inPlace := ["slices.overlaps[uint32]", "slices.overlaps[routing/api.Binding]"], unfollowed := true, recurses := true, apart := false, narrowed := true }
def LdpLabelsUptoSaid : Prop := ldpLabelsUptoRow.holds Try.pinned (OpenSpec.upto ldpLabelsSpec)

/-- 'routinglaw45.LdpAgreement', WHERE WHAT IT READS IS OF BULK AT MOST 1048576: true; the input reads as it did. -/
def ldpAgreementUptoRow : OpenClaim := { program := "ytkofbemgpeagbaa", sum := "93ad81f2180d80148989c566c9e62b61e15b3234d308b7111ef0288881003897", func := "routing/routinglaw45.LdpAgreement", spec := "ldpAgreement", inPlace := ["slices.overlaps[uint32]", "slices.overlaps[routing/api.Binding]"], unfollowed := true, recurses := true, apart := false, narrowed := true }
def LdpAgreementUptoSaid : Prop := ldpAgreementUptoRow.holds Try.pinned (OpenSpec.upto ldpAgreementSpec)

end Rows
end Go.Proofs.Ytkofbemgpeagbaa
