/-
  No cell of these rows narrows 'for every input' (looked for: loops, veiled, ifaces, maps, wideKeys, modest, calm, conditions, laid).
  DERIVED. THE GIVEN ROWS OF THIS SEAT. 6 by the template 'for every input the law returns true; each argument reads behind the call as it read before'; 0 by the template 'total and deterministic' (their statements: YtfkcbglnadjnnaaTotals.lean).
  GIVEN WITH THE SEED: the statements are not yours to turn. If you find one false, say at which input.
  Laid BY PROGRAM, IN A SANDBOX (cutbox-rows.mjs): the forced cells as the released guide's own fill.sh prints them over the translation da545ae26feefea3… (all of the seat's roots in one cut). By AI agents, Wed Nov 11 2026. No macro, syntax, notation, axiom, sorry.
-/
import Derived.Test.YtfkcbglnadjnnaaChecked
import GoSem.Claim
import GoSem.ClaimJoined
import GoSem.ClaimMapViews
import Derived.JoinedTies
import Derived.KernelRfl
namespace Go.Proofs.Ytfkcbglnadjnnaa
/- THE CELL 'sum', in the pinned program and in every row, IS THE sha256 OF THE DUMP (.gsa) THAT YtfkcbglnadjnnaaProg.lean LOADS. Nothing in Lean hashes anything: it is a label: what it is worth is what the hold of that sum in a sandbox is worth. -/
noncomputable def Try.pinned : Pinned := { name := "ytfkcbglnadjnnaa", sum := "da545ae26feefea3b5f83a5d24caeb4ce1d19e92a2d185690653ffa52fe52898", checked := Try.checked }
namespace Rows
def none {H : Type} : Left H := { results := [], args := [] }

/-- 'routinglaw39.AdjinCheck': WHATEVER THE INPUT: true; the input reads as it did. -/
def adjinCheckSpec : ChangeSpec := { name := "adjinCheck", fn := fun _ => fun
  | [d] => { results := [.lit (.bool true)], args := [d] }
  | _ => none }
def adjinCheckRow : OpenClaim := { program := "ytfkcbglnadjnnaa", sum := "da545ae26feefea3b5f83a5d24caeb4ce1d19e92a2d185690653ffa52fe52898", func := "routing/routinglaw39.AdjinCheck", spec := "adjinCheck", unfollowed := true, recurses := true, apart := false }
def AdjinCheckSaid : Prop := adjinCheckRow.holds Try.pinned (OpenSpec.ofChange adjinCheckSpec)

/-- ITS FALSE NEIGHBOUR: 'it returns false'. Refute it at one input. -/
def adjinCheckWrong : ChangeSpec := { name := "adjinCheck", fn := fun _ => fun
  | [d] => { results := [.lit (.bool false)], args := [d] }
  | _ => none }
def AdjinCheckWrongFalsely : Prop := adjinCheckRow.holds Try.pinned (OpenSpec.ofChange adjinCheckWrong)

/-- 'routinglaw39.AdjinPut': WHATEVER THE INPUT: true; the input reads as it did. -/
def adjinPutSpec : ChangeSpec := { name := "adjinPut", fn := fun _ => fun
  | [d1, d2] => { results := [.lit (.bool true)], args := [d1, d2] }
  | _ => none }
def adjinPutRow : OpenClaim := { program := "ytfkcbglnadjnnaa", sum := "da545ae26feefea3b5f83a5d24caeb4ce1d19e92a2d185690653ffa52fe52898", func := "routing/routinglaw39.AdjinPut", spec := "adjinPut", unfollowed := true, recurses := true, apart := false }
def AdjinPutSaid : Prop := adjinPutRow.holds Try.pinned (OpenSpec.ofChange adjinPutSpec)

/-- ITS FALSE NEIGHBOUR: 'it returns false'. Refute it at one input. -/
def adjinPutWrong : ChangeSpec := { name := "adjinPut", fn := fun _ => fun
  | [d1, d2] => { results := [.lit (.bool false)], args := [d1, d2] }
  | _ => none }
def AdjinPutWrongFalsely : Prop := adjinPutRow.holds Try.pinned (OpenSpec.ofChange adjinPutWrong)

/-- 'routinglaw39.AdjinRemove': WHATEVER THE INPUT: true; the input reads as it did. -/
def adjinRemoveSpec : ChangeSpec := { name := "adjinRemove", fn := fun _ => fun
  | [d1, d2, d3] => { results := [.lit (.bool true)], args := [d1, d2, d3] }
  | _ => none }
def adjinRemoveRow : OpenClaim := { program := "ytfkcbglnadjnnaa", sum := "da545ae26feefea3b5f83a5d24caeb4ce1d19e92a2d185690653ffa52fe52898", func := "routing/routinglaw39.AdjinRemove", spec := "adjinRemove", unfollowed := true, recurses := true, apart := false }
def AdjinRemoveSaid : Prop := adjinRemoveRow.holds Try.pinned (OpenSpec.ofChange adjinRemoveSpec)

/-- ITS FALSE NEIGHBOUR: 'it returns false'. Refute it at one input. -/
def adjinRemoveWrong : ChangeSpec := { name := "adjinRemove", fn := fun _ => fun
  | [d1, d2, d3] => { results := [.lit (.bool false)], args := [d1, d2, d3] }
  | _ => none }
def AdjinRemoveWrongFalsely : Prop := adjinRemoveRow.holds Try.pinned (OpenSpec.ofChange adjinRemoveWrong)

/-- 'routinglaw39.AdjinOf': WHATEVER THE INPUT: true; the input reads as it did. -/
def adjinOfSpec : ChangeSpec := { name := "adjinOf", fn := fun _ => fun
  | [d1, d2] => { results := [.lit (.bool true)], args := [d1, d2] }
  | _ => none }
def adjinOfRow : OpenClaim := { program := "ytfkcbglnadjnnaa", sum := "da545ae26feefea3b5f83a5d24caeb4ce1d19e92a2d185690653ffa52fe52898", func := "routing/routinglaw39.AdjinOf", spec := "adjinOf", unfollowed := true, recurses := true, apart := false }
def AdjinOfSaid : Prop := adjinOfRow.holds Try.pinned (OpenSpec.ofChange adjinOfSpec)

/-- ITS FALSE NEIGHBOUR: 'it returns false'. Refute it at one input. -/
def adjinOfWrong : ChangeSpec := { name := "adjinOf", fn := fun _ => fun
  | [d1, d2] => { results := [.lit (.bool false)], args := [d1, d2] }
  | _ => none }
def AdjinOfWrongFalsely : Prop := adjinOfRow.holds Try.pinned (OpenSpec.ofChange adjinOfWrong)

/-- 'routinglaw39.AdjinKeeps': WHATEVER THE INPUT: true; the input reads as it did. -/
def adjinKeepsSpec : ChangeSpec := { name := "adjinKeeps", fn := fun _ => fun
  | [d1, d2] => { results := [.lit (.bool true)], args := [d1, d2] }
  | _ => none }
def adjinKeepsRow : OpenClaim := { program := "ytfkcbglnadjnnaa", sum := "da545ae26feefea3b5f83a5d24caeb4ce1d19e92a2d185690653ffa52fe52898", func := "routing/routinglaw39.AdjinKeeps", spec := "adjinKeeps", unfollowed := true, recurses := true, apart := false }
def AdjinKeepsSaid : Prop := adjinKeepsRow.holds Try.pinned (OpenSpec.ofChange adjinKeepsSpec)

/-- ITS FALSE NEIGHBOUR: 'it returns false'. Refute it at one input. -/
def adjinKeepsWrong : ChangeSpec := { name := "adjinKeeps", fn := fun _ => fun
  | [d1, d2] => { results := [.lit (.bool false)], args := [d1, d2] }
  | _ => none }
def AdjinKeepsWrongFalsely : Prop := adjinKeepsRow.holds Try.pinned (OpenSpec.ofChange adjinKeepsWrong)

/-- 'routinglaw39.AdjinRestart': WHATEVER THE INPUT: true; the input reads as it did. -/
def adjinRestartSpec : ChangeSpec := { name := "adjinRestart", fn := fun _ => fun
  | [d1, d2] => { results := [.lit (.bool true)], args := [d1, d2] }
  | _ => none }
def adjinRestartRow : OpenClaim := { program := "ytfkcbglnadjnnaa", sum := "da545ae26feefea3b5f83a5d24caeb4ce1d19e92a2d185690653ffa52fe52898", func := "routing/routinglaw39.AdjinRestart", spec := "adjinRestart", unfollowed := true, recurses := true, apart := false }
def AdjinRestartSaid : Prop := adjinRestartRow.holds Try.pinned (OpenSpec.ofChange adjinRestartSpec)

/-- ITS FALSE NEIGHBOUR: 'it returns false'. Refute it at one input. -/
def adjinRestartWrong : ChangeSpec := { name := "adjinRestart", fn := fun _ => fun
  | [d1, d2] => { results := [.lit (.bool false)], args := [d1, d2] }
  | _ => none }
def AdjinRestartWrongFalsely : Prop := adjinRestartRow.holds Try.pinned (OpenSpec.ofChange adjinRestartWrong)

/- THE SECOND FORM. 'bulk': how many values and letters a reading holds, each counted each time it is reached (what is shared counts as often as it is met; a slice's spare places count too). A statement '..UptoSaid' is the law's where the arguments, and the package variables that the reading takes, are together of bulk at most 1048576: NARROWER than '..Said'. Prove '..Said' where nothing that the law and all that it calls make is longer than what came in: it says more and counts as full. Else prove '..UptoSaid'. A law counts once. -/
mutual
def uptoBulk {H : Type} : DataW H → Nat
  | .lit (.string bytes) => bytes.length + 1
  | .lit _ => 1
  | .nil => 1
  | .ptr d => uptoBulk d + 1
  | .slice elems spare => uptoBulkAll elems + uptoBulkAll spare + 1
  | .agg parts => uptoBulkAll parts + 1
  | .iface _ d => uptoBulk d + 1
  | .map entries => uptoBulkEntries entries + 1
  | .held _ => 1
def uptoBulkAll {H : Type} : List (DataW H) → Nat
  | [] => 0
  | d :: r => uptoBulk d + uptoBulkAll r
def uptoBulkEntries {H : Type} : List (Lit × DataW H) → Nat
  | [] => 0
  | x :: r => uptoBulkEntry x + uptoBulkEntries r
def uptoBulkEntry {H : Type} : Lit × DataW H → Nat
  | (.string bytes, d) => bytes.length + uptoBulk d + 1
  | (_, d) => uptoBulk d + 1
 end
def uptoSmall : (H : Type) → List (DataW H) → Bool := fun _ ds => decide (uptoBulkAll ds ≤ 1048576)
def OpenSpec.upto (s : _root_.Go.ChangeSpec) : _root_.Go.OpenSpec := { _root_.Go.OpenSpec.ofChange s with cond := some uptoSmall }

/-- 'routinglaw39.AdjinCheck', WHERE WHAT IT READS IS OF BULK AT MOST 1048576: true; the input reads as it did. -/
def adjinCheckUptoRow : OpenClaim := { program := "ytfkcbglnadjnnaa", sum := "da545ae26feefea3b5f83a5d24caeb4ce1d19e92a2d185690653ffa52fe52898", func := "routing/routinglaw39.AdjinCheck", spec := "adjinCheck", unfollowed := true, recurses := true, apart := false, narrowed := true }
def AdjinCheckUptoSaid : Prop := adjinCheckUptoRow.holds Try.pinned (OpenSpec.upto adjinCheckSpec)

/-- 'routinglaw39.AdjinPut', WHERE WHAT IT READS IS OF BULK AT MOST 1048576: true; the input reads as it did. -/
def adjinPutUptoRow : OpenClaim := { program := "ytfkcbglnadjnnaa", sum := "da545ae26feefea3b5f83a5d24caeb4ce1d19e92a2d185690653ffa52fe52898", func := "routing/routinglaw39.AdjinPut", spec := "adjinPut", unfollowed := true, recurses := true, apart := false, narrowed := true }
def AdjinPutUptoSaid : Prop := adjinPutUptoRow.holds Try.pinned (OpenSpec.upto adjinPutSpec)

/-- 'routinglaw39.AdjinRemove', WHERE WHAT IT READS IS OF BULK AT MOST 1048576: true; the input reads as it did. -/
def adjinRemoveUptoRow : OpenClaim := { program := "ytfkcbglnadjnnaa", sum := "da545ae26feefea3b5f83a5d24caeb4ce1d19e92a2d185690653ffa52fe52898", func := "routing/routinglaw39.AdjinRemove", spec := "adjinRemove", unfollowed := true, recurses := true, apart := false, narrowed := true }
def AdjinRemoveUptoSaid : Prop := adjinRemoveUptoRow.holds Try.pinned (OpenSpec.upto adjinRemoveSpec)

/-- 'routinglaw39.AdjinOf', WHERE WHAT IT READS IS OF BULK AT MOST 1048576: true; the input reads as it did. -/
def adjinOfUptoRow : OpenClaim := { program := "ytfkcbglnadjnnaa", sum := "da545ae26feefea3b5f83a5d24caeb4ce1d19e92a2d185690653ffa52fe52898", func := "routing/routinglaw39.AdjinOf", spec := "adjinOf", unfollowed := true, recurses := true, apart := false, narrowed := true }
def AdjinOfUptoSaid : Prop := adjinOfUptoRow.holds Try.pinned (OpenSpec.upto adjinOfSpec)

/-- 'routinglaw39.AdjinKeeps', WHERE WHAT IT READS IS OF BULK AT MOST 1048576: true; the input reads as it did. -/
def adjinKeepsUptoRow : OpenClaim := { program := "ytfkcbglnadjnnaa", sum := "da545ae26feefea3b5f83a5d24caeb4ce1d19e92a2d185690653ffa52fe52898", func := "routing/routinglaw39.AdjinKeeps", spec := "adjinKeeps", unfollowed := true, recurses := true, apart := false, narrowed := true }
def AdjinKeepsUptoSaid : Prop := adjinKeepsUptoRow.holds Try.pinned (OpenSpec.upto adjinKeepsSpec)

/-- 'routinglaw39.AdjinRestart', WHERE WHAT IT READS IS OF BULK AT MOST 1048576: true; the input reads as it did. -/
def adjinRestartUptoRow : OpenClaim := { program := "ytfkcbglnadjnnaa", sum := "da545ae26feefea3b5f83a5d24caeb4ce1d19e92a2d185690653ffa52fe52898", func := "routing/routinglaw39.AdjinRestart", spec := "adjinRestart", unfollowed := true, recurses := true, apart := false, narrowed := true }
def AdjinRestartUptoSaid : Prop := adjinRestartUptoRow.holds Try.pinned (OpenSpec.upto adjinRestartSpec)

end Rows
end Go.Proofs.Ytfkcbglnadjnnaa
