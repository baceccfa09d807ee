/-
  No cell of these rows narrows 'for every input' (looked for: loops, veiled, ifaces, maps, wideKeys, modest, calm, conditions, laid).
  DERIVED. THE GIVEN ROWS OF THIS SEAT. 8 by the template 'for every input the law returns true; each argument reads behind the call as it read before'; 0 by the template 'total and deterministic' (their statements: YtplhnalfhblkgaaTotals.lean).
  GIVEN WITH THE SEED: the statements are not yours to turn. If you find one false, say at which input.
  Laid BY PROGRAM, IN A SANDBOX (cutbox-rows.mjs): the forced cells as the released guide's own fill.sh prints them over the translation 7990cbf7d169f770… (all of the seat's roots in one cut). By AI agents, Wed Nov 11 2026. No macro, syntax, notation, axiom, sorry.
-/
import Derived.Test.YtplhnalfhblkgaaChecked
import GoSem.Claim
import GoSem.ClaimJoined
import GoSem.ClaimMapViews
import Derived.JoinedTies
import Derived.KernelRfl
namespace Go.Proofs.Ytplhnalfhblkgaa
/- THE CELL 'sum', in the pinned program and in every row, IS THE sha256 OF THE DUMP (.gsa) THAT YtplhnalfhblkgaaProg.lean LOADS. Nothing in Lean hashes anything: it is a label: what it is worth is what the hold of that sum in a sandbox is worth. -/
noncomputable def Try.pinned : Pinned := { name := "ytplhnalfhblkgaa", sum := "7990cbf7d169f770d8a3211ef5691d703b1b3d7d1aee7693f35247ab6095988d", checked := Try.checked }
namespace Rows
def none {H : Type} : Left H := { results := [], args := [] }

/-- 'laws.FnExactMigrate': WHATEVER THE INPUT: true; the input reads as it did. -/
def fnExactMigrateSpec : ChangeSpec := { name := "fnExactMigrate", fn := fun _ => fun
  | [d1, d2] => { results := [.lit (.bool true)], args := [d1, d2] }
  | _ => none }
def fnExactMigrateRow : OpenClaim := { program := "ytplhnalfhblkgaa", sum := "7990cbf7d169f770d8a3211ef5691d703b1b3d7d1aee7693f35247ab6095988d", func := "loop.example/g00983/laws.FnExactMigrate", spec := "fnExactMigrate", unfollowed := true, recurses := true, apart := false }
def FnExactMigrateSaid : Prop := fnExactMigrateRow.holds Try.pinned (OpenSpec.ofChange fnExactMigrateSpec)

/-- ITS FALSE NEIGHBOUR: 'it returns false'. Refute it at one input. -/
def fnExactMigrateWrong : ChangeSpec := { name := "fnExactMigrate", fn := fun _ => fun
  | [d1, d2] => { results := [.lit (.bool false)], args := [d1, d2] }
  | _ => none }
def FnExactMigrateWrongFalsely : Prop := fnExactMigrateRow.holds Try.pinned (OpenSpec.ofChange fnExactMigrateWrong)

/-- 'laws.FnDelivered': WHATEVER THE INPUT: true; the input reads as it did. -/
def fnDeliveredSpec : ChangeSpec := { name := "fnDelivered", fn := fun _ => fun
  | [d] => { results := [.lit (.bool true)], args := [d] }
  | _ => none }
def fnDeliveredRow : OpenClaim := { program := "ytplhnalfhblkgaa", sum := "7990cbf7d169f770d8a3211ef5691d703b1b3d7d1aee7693f35247ab6095988d", func := "loop.example/g00983/laws.FnDelivered", spec := "fnDelivered", recurses := true, apart := false }
def FnDeliveredSaid : Prop := fnDeliveredRow.holds Try.pinned (OpenSpec.ofChange fnDeliveredSpec)

/-- ITS FALSE NEIGHBOUR: 'it returns false'. Refute it at one input. -/
def fnDeliveredWrong : ChangeSpec := { name := "fnDelivered", fn := fun _ => fun
  | [d] => { results := [.lit (.bool false)], args := [d] }
  | _ => none }
def FnDeliveredWrongFalsely : Prop := fnDeliveredRow.holds Try.pinned (OpenSpec.ofChange fnDeliveredWrong)

/-- 'laws.FnExactThenRules': WHATEVER THE INPUT: true; the input reads as it did. -/
def fnExactThenRulesSpec : ChangeSpec := { name := "fnExactThenRules", fn := fun _ => fun
  | [d1, d2, d3] => { results := [.lit (.bool true)], args := [d1, d2, d3] }
  | _ => none }
def fnExactThenRulesRow : OpenClaim := { program := "ytplhnalfhblkgaa", sum := "7990cbf7d169f770d8a3211ef5691d703b1b3d7d1aee7693f35247ab6095988d", func := "loop.example/g00983/laws.FnExactThenRules", spec := "fnExactThenRules", unfollowed := true, recurses := true, apart := false }
def FnExactThenRulesSaid : Prop := fnExactThenRulesRow.holds Try.pinned (OpenSpec.ofChange fnExactThenRulesSpec)

/-- ITS FALSE NEIGHBOUR: 'it returns false'. Refute it at one input. -/
def fnExactThenRulesWrong : ChangeSpec := { name := "fnExactThenRules", fn := fun _ => fun
  | [d1, d2, d3] => { results := [.lit (.bool false)], args := [d1, d2, d3] }
  | _ => none }
def FnExactThenRulesWrongFalsely : Prop := fnExactThenRulesRow.holds Try.pinned (OpenSpec.ofChange fnExactThenRulesWrong)

/-- 'laws.FnExactUpdateSome': WHATEVER THE INPUT: true; the input reads as it did. -/
def fnExactUpdateSomeSpec : ChangeSpec := { name := "fnExactUpdateSome", fn := fun _ => fun
  | [d1, d2, d3, d4] => { results := [.lit (.bool true)], args := [d1, d2, d3, d4] }
  | _ => none }
def fnExactUpdateSomeRow : OpenClaim := { program := "ytplhnalfhblkgaa", sum := "7990cbf7d169f770d8a3211ef5691d703b1b3d7d1aee7693f35247ab6095988d", func := "loop.example/g00983/laws.FnExactUpdateSome", spec := "fnExactUpdateSome", unfollowed := true, recurses := true, apart := false }
def FnExactUpdateSomeSaid : Prop := fnExactUpdateSomeRow.holds Try.pinned (OpenSpec.ofChange fnExactUpdateSomeSpec)

/-- ITS FALSE NEIGHBOUR: 'it returns false'. Refute it at one input. -/
def fnExactUpdateSomeWrong : ChangeSpec := { name := "fnExactUpdateSome", fn := fun _ => fun
  | [d1, d2, d3, d4] => { results := [.lit (.bool false)], args := [d1, d2, d3, d4] }
  | _ => none }
def FnExactUpdateSomeWrongFalsely : Prop := fnExactUpdateSomeRow.holds Try.pinned (OpenSpec.ofChange fnExactUpdateSomeWrong)

/-- 'laws.FnExactSendRound': WHATEVER THE INPUT: true; the input reads as it did. -/
def fnExactSendRoundSpec : ChangeSpec := { name := "fnExactSendRound", fn := fun _ => fun
  | [d1, d2, d3, d4] => { results := [.lit (.bool true)], args := [d1, d2, d3, d4] }
  | _ => none }
def fnExactSendRoundRow : OpenClaim := { program := "ytplhnalfhblkgaa", sum := "7990cbf7d169f770d8a3211ef5691d703b1b3d7d1aee7693f35247ab6095988d", func := "loop.example/g00983/laws.FnExactSendRound", spec := "fnExactSendRound", apart := false }
def FnExactSendRoundSaid : Prop := fnExactSendRoundRow.holds Try.pinned (OpenSpec.ofChange fnExactSendRoundSpec)

/-- ITS FALSE NEIGHBOUR: 'it returns false'. Refute it at one input. -/
def fnExactSendRoundWrong : ChangeSpec := { name := "fnExactSendRound", fn := fun _ => fun
  | [d1, d2, d3, d4] => { results := [.lit (.bool false)], args := [d1, d2, d3, d4] }
  | _ => none }
def FnExactSendRoundWrongFalsely : Prop := fnExactSendRoundRow.holds Try.pinned (OpenSpec.ofChange fnExactSendRoundWrong)

/-- 'laws.FnExactSameNode': WHATEVER THE INPUT: true; the input reads as it did. -/
def fnExactSameNodeSpec : ChangeSpec := { name := "fnExactSameNode", fn := fun _ => fun
  | [d1, d2] => { results := [.lit (.bool true)], args := [d1, d2] }
  | _ => none }
def fnExactSameNodeRow : OpenClaim := { program := "ytplhnalfhblkgaa", sum := "7990cbf7d169f770d8a3211ef5691d703b1b3d7d1aee7693f35247ab6095988d", func := "loop.example/g00983/laws.FnExactSameNode", spec := "fnExactSameNode", unfollowed := true, recurses := true, apart := false }
def FnExactSameNodeSaid : Prop := fnExactSameNodeRow.holds Try.pinned (OpenSpec.ofChange fnExactSameNodeSpec)

/-- ITS FALSE NEIGHBOUR: 'it returns false'. Refute it at one input. -/
def fnExactSameNodeWrong : ChangeSpec := { name := "fnExactSameNode", fn := fun _ => fun
  | [d1, d2] => { results := [.lit (.bool false)], args := [d1, d2] }
  | _ => none }
def FnExactSameNodeWrongFalsely : Prop := fnExactSameNodeRow.holds Try.pinned (OpenSpec.ofChange fnExactSameNodeWrong)

/-- 'laws.FnExactNodeOk': WHATEVER THE INPUT: true; the input reads as it did. -/
def fnExactNodeOkSpec : ChangeSpec := { name := "fnExactNodeOk", fn := fun _ => fun
  | [d] => { results := [.lit (.bool true)], args := [d] }
  | _ => none }
def fnExactNodeOkRow : OpenClaim := { program := "ytplhnalfhblkgaa", sum := "7990cbf7d169f770d8a3211ef5691d703b1b3d7d1aee7693f35247ab6095988d", func := "loop.example/g00983/laws.FnExactNodeOk", spec := "fnExactNodeOk", unfollowed := true, recurses := true, apart := false }
def FnExactNodeOkSaid : Prop := fnExactNodeOkRow.holds Try.pinned (OpenSpec.ofChange fnExactNodeOkSpec)

/-- ITS FALSE NEIGHBOUR: 'it returns false'. Refute it at one input. -/
def fnExactNodeOkWrong : ChangeSpec := { name := "fnExactNodeOk", fn := fun _ => fun
  | [d] => { results := [.lit (.bool false)], args := [d] }
  | _ => none }
def FnExactNodeOkWrongFalsely : Prop := fnExactNodeOkRow.holds Try.pinned (OpenSpec.ofChange fnExactNodeOkWrong)

/-- 'laws.FnExactSentBy': WHATEVER THE INPUT: true; the input reads as it did. -/
def fnExactSentBySpec : ChangeSpec := { name := "fnExactSentBy", fn := fun _ => fun
  | [d] => { results := [.lit (.bool true)], args := [d] }
  | _ => none }
def fnExactSentByRow : OpenClaim := { program := "ytplhnalfhblkgaa", sum := "7990cbf7d169f770d8a3211ef5691d703b1b3d7d1aee7693f35247ab6095988d", func := "loop.example/g00983/laws.FnExactSentBy", spec := "fnExactSentBy", unfollowed := true, recurses := true, apart := false }
def FnExactSentBySaid : Prop := fnExactSentByRow.holds Try.pinned (OpenSpec.ofChange fnExactSentBySpec)

/-- ITS FALSE NEIGHBOUR: 'it returns false'. Refute it at one input. -/
def fnExactSentByWrong : ChangeSpec := { name := "fnExactSentBy", fn := fun _ => fun
  | [d] => { results := [.lit (.bool false)], args := [d] }
  | _ => none }
def FnExactSentByWrongFalsely : Prop := fnExactSentByRow.holds Try.pinned (OpenSpec.ofChange fnExactSentByWrong)

/- THE SECOND FORM. 'bulk': how many values and letters a reading holds, each counted each time it is reached (what is shared counts as often as it is met; a slice's spare places count too). A statement '..UptoSaid' is the law's where the arguments, and the package variables that the reading takes, are together of bulk at most 1048576: NARROWER than '..Said'. Prove '..Said' where nothing that the law and all that it calls make is longer than what came in: it says more and counts as full. Else prove '..UptoSaid'. A law counts once. -/
mutual
def uptoBulk {H : Type} : DataW H → Nat
  | .lit (.string bytes) => bytes.length + 1
  | .lit _ => 1
  | .nil => 1
  | .ptr d => uptoBulk d + 1
  | .slice elems spare => uptoBulkAll elems + uptoBulkAll spare + 1
  | .agg parts => uptoBulkAll parts + 1
  | .iface _ d => uptoBulk d + 1
  | .map entries => uptoBulkEntries entries + 1
  | .held _ => 1
def uptoBulkAll {H : Type} : List (DataW H) → Nat
  | [] => 0
  | d :: r => uptoBulk d + uptoBulkAll r
def uptoBulkEntries {H : Type} : List (Lit × DataW H) → Nat
  | [] => 0
  | x :: r => uptoBulkEntry x + uptoBulkEntries r
def uptoBulkEntry {H : Type} : Lit × DataW H → Nat
  | (.string bytes, d) => bytes.length + uptoBulk d + 1
  | (_, d) => uptoBulk d + 1
 end
def uptoSmall : (H : Type) → List (DataW H) → Bool := fun _ ds => decide (uptoBulkAll ds ≤ 1048576)
def OpenSpec.upto (s : _root_.Go.ChangeSpec) : _root_.Go.OpenSpec := { _root_.Go.OpenSpec.ofChange s with cond := some uptoSmall }

/-- 'laws.FnExactMigrate', WHERE WHAT IT READS IS OF BULK AT MOST 1048576: true; the input reads as it did. -/
def fnExactMigrateUptoRow : OpenClaim := { program := "ytplhnalfhblkgaa", sum := "7990cbf7d169f770d8a3211ef5691d703b1b3d7d1aee7693f35247ab6095988d", func := "loop.example/g00983/laws.FnExactMigrate", spec := "fnExactMigrate", unfollowed := true, recurses := true, apart := false, narrowed := true }
def FnExactMigrateUptoSaid : Prop := fnExactMigrateUptoRow.holds Try.pinned (OpenSpec.upto fnExactMigrateSpec)

/-- 'laws.FnDelivered', WHERE WHAT IT READS IS OF BULK AT MOST 1048576: true; the input reads as it did. -/
def fnDeliveredUptoRow : OpenClaim := { program := "ytplhnalfhblkgaa", sum := "7990cbf7d169f770d8a3211ef5691d703b1b3d7d1aee7693f35247ab6095988d", func := "loop.example/g00983/laws.FnDelivered", spec := "fnDelivered", recurses := true, apart := false, narrowed := true }
def FnDeliveredUptoSaid : Prop := fnDeliveredUptoRow.holds Try.pinned (OpenSpec.upto fnDeliveredSpec)

/-- 'laws.FnExactThenRules', WHERE WHAT IT READS IS OF BULK AT MOST 1048576: true; the input reads as it did. -/
def fnExactThenRulesUptoRow : OpenClaim := { program := "ytplhnalfhblkgaa", sum := "7990cbf7d169f770d8a3211ef5691d703b1b3d7d1aee7693f35247ab6095988d", func := "loop.example/g00983/laws.FnExactThenRules", spec := "fnExactThenRules", unfollowed := true, recurses := true, apart := false, narrowed := true }
def FnExactThenRulesUptoSaid : Prop := fnExactThenRulesUptoRow.holds Try.pinned (OpenSpec.upto fnExactThenRulesSpec)

/-- 'laws.FnExactUpdateSome', WHERE WHAT IT READS IS OF BULK AT MOST 1048576: true; the input reads as it did. -/
def fnExactUpdateSomeUptoRow : OpenClaim := { program := "ytplhnalfhblkgaa", sum := "7990cbf7d169f770d8a3211ef5691d703b1b3d7d1aee7693f35247ab6095988d", func := "loop.example/g00983/laws.FnExactUpdateSome", spec := "fnExactUpdateSome", unfollowed := true, recurses := true, apart := false, narrowed := true }
def FnExactUpdateSomeUptoSaid : Prop := fnExactUpdateSomeUptoRow.holds Try.pinned (OpenSpec.upto fnExactUpdateSomeSpec)

/-- 'laws.FnExactSendRound', WHERE WHAT IT READS IS OF BULK AT MOST 1048576: true; the input reads as it did. -/
def fnExactSendRoundUptoRow : OpenClaim := { program := "ytplhnalfhblkgaa", sum := "7990cbf7d169f770d8a3211ef5691d703b1b3d7d1aee7693f35247ab6095988d", func := "loop.example/g00983/laws.FnExactSendRound", spec := "fnExactSendRound", apart := false, narrowed := true }
def FnExactSendRoundUptoSaid : Prop := fnExactSendRoundUptoRow.holds Try.pinned (OpenSpec.upto fnExactSendRoundSpec)

/-- 'laws.FnExactSameNode', WHERE WHAT IT READS IS OF BULK AT MOST 1048576: true; the input reads as it did. -/
def fnExactSameNodeUptoRow : OpenClaim := { program := "ytplhnalfhblkgaa", sum := "7990cbf7d169f770d8a3211ef5691d703b1b3d7d1aee7693f35247ab6095988d", func := "loop.example/g00983/laws.FnExactSameNode", spec := "fnExactSameNode", unfollowed := true, recurses := true, apart := false, narrowed := true }
def FnExactSameNodeUptoSaid : Prop := fnExactSameNodeUptoRow.holds Try.pinned (OpenSpec.upto fnExactSameNodeSpec)

/-- 'laws.FnExactNodeOk', WHERE WHAT IT READS IS OF BULK AT MOST 1048576: true; the input reads as it did. -/
def fnExactNodeOkUptoRow : OpenClaim := { program := "ytplhnalfhblkgaa", sum := "7990cbf7d169f770d8a3211ef5691d703b1b3d7d1aee7693f35247ab6095988d", func := "loop.example/g00983/laws.FnExactNodeOk", spec := "fnExactNodeOk", unfollowed := true, recurses := true, apart := false, narrowed := true }
def FnExactNodeOkUptoSaid : Prop := fnExactNodeOkUptoRow.holds Try.pinned (OpenSpec.upto fnExactNodeOkSpec)

/-- 'laws.FnExactSentBy', WHERE WHAT IT READS IS OF BULK AT MOST 1048576: true; the input reads as it did. -/
def fnExactSentByUptoRow : OpenClaim := { program := "ytplhnalfhblkgaa", sum := "7990cbf7d169f770d8a3211ef5691d703b1b3d7d1aee7693f35247ab6095988d", func := "loop.example/g00983/laws.FnExactSentBy", spec := "fnExactSentBy", unfollowed := true, recurses := true, apart := false, narrowed := true }
def FnExactSentByUptoSaid : Prop := fnExactSentByUptoRow.holds Try.pinned (OpenSpec.upto fnExactSentBySpec)

end Rows
end Go.Proofs.Ytplhnalfhblkgaa
