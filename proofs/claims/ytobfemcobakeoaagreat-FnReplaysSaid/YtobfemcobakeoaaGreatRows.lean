/-
  No cell of these rows narrows 'for every input' (looked for: loops, veiled, ifaces, maps, wideKeys, modest, calm, conditions, laid).
  DERIVED. THE GIVEN ROWS OF THIS SEAT. 9 by the template 'for every input the law returns true; each argument reads behind the call as it read before'; 0 by the template 'total and deterministic' (their statements: YtobfemcobakeoaaGreatTotals.lean).
  GIVEN WITH THE SEED: the statements are not yours to turn. If you find one false, say at which input.
  Laid BY PROGRAM, IN A SANDBOX (cutbox-rows.mjs): the forced cells as the released guide's own fill.sh prints them over the translation 1aa9bd28c7e1afbe… (all of the seat's roots in one cut). By AI agents, Wed Nov 11 2026. No macro, syntax, notation, axiom, sorry.
-/
import Derived.Test.YtobfemcobakeoaaGreatChecked
import GoSem.Claim
import GoSem.ClaimJoined
import GoSem.ClaimMapViews
import Derived.JoinedTies
import Derived.KernelRfl
namespace Go.Proofs.YtobfemcobakeoaaGreat
/- THE CELL 'sum', in the pinned program and in every row, IS THE sha256 OF THE DUMP (.gsa) THAT YtobfemcobakeoaaGreatProg.lean LOADS. Nothing in Lean hashes anything: it is a label: what it is worth is what the hold of that sum in a sandbox is worth. -/
noncomputable def Tryz.pinned : Pinned := { name := "ytobfemcobakeoaagreat", sum := "1aa9bd28c7e1afbeabdb3977bfc15cd5ed75c80405331a27ae862fe2488eb71c", checked := Tryz.checked }
namespace Rows
def none {H : Type} : Left H := { results := [], args := [] }

/-- 'laws.FnExactMigrateMem': WHATEVER THE INPUT: true; the input reads as it did. -/
def fnExactMigrateMemSpec : ChangeSpec := { name := "fnExactMigrateMem", fn := fun _ => fun
  | [d1, d2, d3] => { results := [.lit (.bool true)], args := [d1, d2, d3] }
  | _ => none }
def fnExactMigrateMemRow : OpenClaim := { program := "ytobfemcobakeoaagreat", sum := "1aa9bd28c7e1afbeabdb3977bfc15cd5ed75c80405331a27ae862fe2488eb71c", func := "loop.example/g00983/laws.FnExactMigrateMem", spec := "fnExactMigrateMem", unfollowed := true, recurses := true, apart := false }
def FnExactMigrateMemSaid : Prop := fnExactMigrateMemRow.holds Tryz.pinned (OpenSpec.ofChange fnExactMigrateMemSpec)

/-- ITS FALSE NEIGHBOUR: 'it returns false'. Refute it at one input. -/
def fnExactMigrateMemWrong : ChangeSpec := { name := "fnExactMigrateMem", fn := fun _ => fun
  | [d1, d2, d3] => { results := [.lit (.bool false)], args := [d1, d2, d3] }
  | _ => none }
def FnExactMigrateMemWrongFalsely : Prop := fnExactMigrateMemRow.holds Tryz.pinned (OpenSpec.ofChange fnExactMigrateMemWrong)

/-- 'laws.FnExactUplink': WHATEVER THE INPUT: true; the input reads as it did. -/
def fnExactUplinkSpec : ChangeSpec := { name := "fnExactUplink", fn := fun _ => fun
  | [d1, d2, d3] => { results := [.lit (.bool true)], args := [d1, d2, d3] }
  | _ => none }
def fnExactUplinkRow : OpenClaim := { program := "ytobfemcobakeoaagreat", sum := "1aa9bd28c7e1afbeabdb3977bfc15cd5ed75c80405331a27ae862fe2488eb71c", func := "loop.example/g00983/laws.FnExactUplink", spec := "fnExactUplink", unfollowed := true, recurses := true, apart := false }
def FnExactUplinkSaid : Prop := fnExactUplinkRow.holds Tryz.pinned (OpenSpec.ofChange fnExactUplinkSpec)

/-- ITS FALSE NEIGHBOUR: 'it returns false'. Refute it at one input. -/
def fnExactUplinkWrong : ChangeSpec := { name := "fnExactUplink", fn := fun _ => fun
  | [d1, d2, d3] => { results := [.lit (.bool false)], args := [d1, d2, d3] }
  | _ => none }
def FnExactUplinkWrongFalsely : Prop := fnExactUplinkRow.holds Tryz.pinned (OpenSpec.ofChange fnExactUplinkWrong)

/-- 'laws.FnBootKeeps': WHATEVER THE INPUT: true; the input reads as it did. -/
def fnBootKeepsSpec : ChangeSpec := { name := "fnBootKeeps", fn := fun _ => fun
  | [d] => { results := [.lit (.bool true)], args := [d] }
  | _ => none }
def fnBootKeepsRow : OpenClaim := { program := "ytobfemcobakeoaagreat", sum := "1aa9bd28c7e1afbeabdb3977bfc15cd5ed75c80405331a27ae862fe2488eb71c", func := "loop.example/g00983/laws.FnBootKeeps", spec := "fnBootKeeps", unfollowed := true, recurses := true, apart := false }
def FnBootKeepsSaid : Prop := fnBootKeepsRow.holds Tryz.pinned (OpenSpec.ofChange fnBootKeepsSpec)

/-- ITS FALSE NEIGHBOUR: 'it returns false'. Refute it at one input. -/
def fnBootKeepsWrong : ChangeSpec := { name := "fnBootKeeps", fn := fun _ => fun
  | [d] => { results := [.lit (.bool false)], args := [d] }
  | _ => none }
def FnBootKeepsWrongFalsely : Prop := fnBootKeepsRow.holds Tryz.pinned (OpenSpec.ofChange fnBootKeepsWrong)

/-- 'laws.FnNewNodes': WHATEVER THE INPUT: true; the input reads as it did. -/
def fnNewNodesSpec : ChangeSpec := { name := "fnNewNodes", fn := fun _ => fun
  | [d] => { results := [.lit (.bool true)], args := [d] }
  | _ => none }
def fnNewNodesRow : OpenClaim := { program := "ytobfemcobakeoaagreat", sum := "1aa9bd28c7e1afbeabdb3977bfc15cd5ed75c80405331a27ae862fe2488eb71c", func := "loop.example/g00983/laws.FnNewNodes", spec := "fnNewNodes", unfollowed := true, recurses := true, apart := false }
def FnNewNodesSaid : Prop := fnNewNodesRow.holds Tryz.pinned (OpenSpec.ofChange fnNewNodesSpec)

/-- ITS FALSE NEIGHBOUR: 'it returns false'. Refute it at one input. -/
def fnNewNodesWrong : ChangeSpec := { name := "fnNewNodes", fn := fun _ => fun
  | [d] => { results := [.lit (.bool false)], args := [d] }
  | _ => none }
def FnNewNodesWrongFalsely : Prop := fnNewNodesRow.holds Tryz.pinned (OpenSpec.ofChange fnNewNodesWrong)

/-- 'laws.FnCommits': WHATEVER THE INPUT: true; the input reads as it did. -/
def fnCommitsSpec : ChangeSpec := { name := "fnCommits", fn := fun _ => fun
  | [d] => { results := [.lit (.bool true)], args := [d] }
  | _ => none }
def fnCommitsRow : OpenClaim := { program := "ytobfemcobakeoaagreat", sum := "1aa9bd28c7e1afbeabdb3977bfc15cd5ed75c80405331a27ae862fe2488eb71c", func := "loop.example/g00983/laws.FnCommits", spec := "fnCommits", unfollowed := true, recurses := true, apart := false }
def FnCommitsSaid : Prop := fnCommitsRow.holds Tryz.pinned (OpenSpec.ofChange fnCommitsSpec)

/-- ITS FALSE NEIGHBOUR: 'it returns false'. Refute it at one input. -/
def fnCommitsWrong : ChangeSpec := { name := "fnCommits", fn := fun _ => fun
  | [d] => { results := [.lit (.bool false)], args := [d] }
  | _ => none }
def FnCommitsWrongFalsely : Prop := fnCommitsRow.holds Tryz.pinned (OpenSpec.ofChange fnCommitsWrong)

/-- 'laws.FnMigratedMem': WHATEVER THE INPUT: true; the input reads as it did. -/
def fnMigratedMemSpec : ChangeSpec := { name := "fnMigratedMem", fn := fun _ => fun
  | [d] => { results := [.lit (.bool true)], args := [d] }
  | _ => none }
def fnMigratedMemRow : OpenClaim := { program := "ytobfemcobakeoaagreat", sum := "1aa9bd28c7e1afbeabdb3977bfc15cd5ed75c80405331a27ae862fe2488eb71c", func := "loop.example/g00983/laws.FnMigratedMem", spec := "fnMigratedMem", unfollowed := true, recurses := true, apart := false }
def FnMigratedMemSaid : Prop := fnMigratedMemRow.holds Tryz.pinned (OpenSpec.ofChange fnMigratedMemSpec)

/-- ITS FALSE NEIGHBOUR: 'it returns false'. Refute it at one input. -/
def fnMigratedMemWrong : ChangeSpec := { name := "fnMigratedMem", fn := fun _ => fun
  | [d] => { results := [.lit (.bool false)], args := [d] }
  | _ => none }
def FnMigratedMemWrongFalsely : Prop := fnMigratedMemRow.holds Tryz.pinned (OpenSpec.ofChange fnMigratedMemWrong)

/-- 'laws.FnScenarios': WHATEVER THE INPUT: true; the input reads as it did. -/
def fnScenariosSpec : ChangeSpec := { name := "fnScenarios", fn := fun _ => fun
  | [d] => { results := [.lit (.bool true)], args := [d] }
  | _ => none }
def fnScenariosRow : OpenClaim := { program := "ytobfemcobakeoaagreat", sum := "1aa9bd28c7e1afbeabdb3977bfc15cd5ed75c80405331a27ae862fe2488eb71c", func := "loop.example/g00983/laws.FnScenarios", spec := "fnScenarios", unfollowed := true, recurses := true, apart := false }
def FnScenariosSaid : Prop := fnScenariosRow.holds Tryz.pinned (OpenSpec.ofChange fnScenariosSpec)

/-- ITS FALSE NEIGHBOUR: 'it returns false'. Refute it at one input. -/
def fnScenariosWrong : ChangeSpec := { name := "fnScenarios", fn := fun _ => fun
  | [d] => { results := [.lit (.bool false)], args := [d] }
  | _ => none }
def FnScenariosWrongFalsely : Prop := fnScenariosRow.holds Tryz.pinned (OpenSpec.ofChange fnScenariosWrong)

/-- 'laws.FnReplays': WHATEVER THE INPUT: true; the input reads as it did. -/
def fnReplaysSpec : ChangeSpec := { name := "fnReplays", fn := fun _ => fun
  | [d] => { results := [.lit (.bool true)], args := [d] }
  | _ => none }
def fnReplaysRow : OpenClaim := { program := "ytobfemcobakeoaagreat", sum := "1aa9bd28c7e1afbeabdb3977bfc15cd5ed75c80405331a27ae862fe2488eb71c", func := "loop.example/g00983/laws.FnReplays", spec := "fnReplays", unfollowed := true, recurses := true, apart := false }
def FnReplaysSaid : Prop := fnReplaysRow.holds Tryz.pinned (OpenSpec.ofChange fnReplaysSpec)

/-- ITS FALSE NEIGHBOUR: 'it returns false'. Refute it at one input. -/
def fnReplaysWrong : ChangeSpec := { name := "fnReplays", fn := fun _ => fun
  | [d] => { results := [.lit (.bool false)], args := [d] }
  | _ => none }
def FnReplaysWrongFalsely : Prop := fnReplaysRow.holds Tryz.pinned (OpenSpec.ofChange fnReplaysWrong)

/-- 'laws.FnActParts': WHATEVER THE INPUT: true; the input reads as it did. -/
def fnActPartsSpec : ChangeSpec := { name := "fnActParts", fn := fun _ => fun
  | [d] => { results := [.lit (.bool true)], args := [d] }
  | _ => none }
def fnActPartsRow : OpenClaim := { program := "ytobfemcobakeoaagreat", sum := "1aa9bd28c7e1afbeabdb3977bfc15cd5ed75c80405331a27ae862fe2488eb71c", func := "loop.example/g00983/laws.FnActParts", spec := "fnActParts", unfollowed := true, recurses := true, apart := false }
def FnActPartsSaid : Prop := fnActPartsRow.holds Tryz.pinned (OpenSpec.ofChange fnActPartsSpec)

/-- ITS FALSE NEIGHBOUR: 'it returns false'. Refute it at one input. -/
def fnActPartsWrong : ChangeSpec := { name := "fnActParts", fn := fun _ => fun
  | [d] => { results := [.lit (.bool false)], args := [d] }
  | _ => none }
def FnActPartsWrongFalsely : Prop := fnActPartsRow.holds Tryz.pinned (OpenSpec.ofChange fnActPartsWrong)

/- THE SECOND FORM. 'bulk': how many values and letters a reading holds, each counted each time it is reached (what is shared counts as often as it is met; a slice's spare places count too). A statement '..UptoSaid' is the law's where the arguments, and the package variables that the reading takes, are together of bulk at most 1048576: NARROWER than '..Said'. Prove '..Said' where nothing that the law and all that it calls make is longer than what came in: it says more and counts as full. Else prove '..UptoSaid'. A law counts once. -/
mutual
def uptoBulk {H : Type} : DataW H → Nat
  | .lit (.string bytes) => bytes.length + 1
  | .lit _ => 1
  | .nil => 1
  | .ptr d => uptoBulk d + 1
  | .slice elems spare => uptoBulkAll elems + uptoBulkAll spare + 1
  | .agg parts => uptoBulkAll parts + 1
  | .iface _ d => uptoBulk d + 1
  | .map entries => uptoBulkEntries entries + 1
  | .held _ => 1
def uptoBulkAll {H : Type} : List (DataW H) → Nat
  | [] => 0
  | d :: r => uptoBulk d + uptoBulkAll r
def uptoBulkEntries {H : Type} : List (Lit × DataW H) → Nat
  | [] => 0
  | x :: r => uptoBulkEntry x + uptoBulkEntries r
def uptoBulkEntry {H : Type} : Lit × DataW H → Nat
  | (.string bytes, d) => bytes.length + uptoBulk d + 1
  | (_, d) => uptoBulk d + 1
 end
def uptoSmall : (H : Type) → List (DataW H) → Bool := fun _ ds => decide (uptoBulkAll ds ≤ 1048576)
def OpenSpec.upto (s : _root_.Go.ChangeSpec) : _root_.Go.OpenSpec := { _root_.Go.OpenSpec.ofChange s with cond := some uptoSmall }

/-- 'laws.FnExactMigrateMem', WHERE WHAT IT READS IS OF BULK AT MOST 1048576: true; the input reads as it did. -/
def fnExactMigrateMemUptoRow : OpenClaim := { program := "ytobfemcobakeoaagreat", sum := "1aa9bd28c7e1afbeabdb3977bfc15cd5ed75c80405331a27ae862fe2488eb71c", func := "loop.example/g00983/laws.FnExactMigrateMem", spec := "fnExactMigrateMem", unfollowed := true, recurses := true, apart := false, narrowed := true }
def FnExactMigrateMemUptoSaid : Prop := fnExactMigrateMemUptoRow.holds Tryz.pinned (OpenSpec.upto fnExactMigrateMemSpec)

/-- 'laws.FnExactUplink', WHERE WHAT IT READS IS OF BULK AT MOST 1048576: true; the input reads as it did. -/
def fnExactUplinkUptoRow : OpenClaim := { program := "ytobfemcobakeoaagreat", sum := "1aa9bd28c7e1afbeabdb3977bfc15cd5ed75c80405331a27ae862fe2488eb71c", func := "loop.example/g00983/laws.FnExactUplink", spec := "fnExactUplink", unfollowed := true, recurses := true, apart := false, narrowed := true }
def FnExactUplinkUptoSaid : Prop := fnExactUplinkUptoRow.holds Tryz.pinned (OpenSpec.upto fnExactUplinkSpec)

/-- 'laws.FnBootKeeps', WHERE WHAT IT READS IS OF BULK AT MOST 1048576: true; the input reads as it did. -/
def fnBootKeepsUptoRow : OpenClaim := { program := "ytobfemcobakeoaagreat", sum := "1aa9bd28c7e1afbeabdb3977bfc15cd5ed75c80405331a27ae862fe2488eb71c", func := "loop.example/g00983/laws.FnBootKeeps", spec := "fnBootKeeps", unfollowed := true, recurses := true, apart := false, narrowed := true }
def FnBootKeepsUptoSaid : Prop := fnBootKeepsUptoRow.holds Tryz.pinned (OpenSpec.upto fnBootKeepsSpec)

/-- 'laws.FnNewNodes', WHERE WHAT IT READS IS OF BULK AT MOST 1048576: true; the input reads as it did. -/
def fnNewNodesUptoRow : OpenClaim := { program := "ytobfemcobakeoaagreat", sum := "1aa9bd28c7e1afbeabdb3977bfc15cd5ed75c80405331a27ae862fe2488eb71c", func := "loop.example/g00983/laws.FnNewNodes", spec := "fnNewNodes", unfollowed := true, recurses := true, apart := false, narrowed := true }
def FnNewNodesUptoSaid : Prop := fnNewNodesUptoRow.holds Tryz.pinned (OpenSpec.upto fnNewNodesSpec)

/-- 'laws.FnCommits', WHERE WHAT IT READS IS OF BULK AT MOST 1048576: true; the input reads as it did. -/
def fnCommitsUptoRow : OpenClaim := { program := "ytobfemcobakeoaagreat", sum := "1aa9bd28c7e1afbeabdb3977bfc15cd5ed75c80405331a27ae862fe2488eb71c", func := "loop.example/g00983/laws.FnCommits", spec := "fnCommits", unfollowed := true, recurses := true, apart := false, narrowed := true }
def FnCommitsUptoSaid : Prop := fnCommitsUptoRow.holds Tryz.pinned (OpenSpec.upto fnCommitsSpec)

/-- 'laws.FnMigratedMem', WHERE WHAT IT READS IS OF BULK AT MOST 1048576: true; the input reads as it did. -/
def fnMigratedMemUptoRow : OpenClaim := { program := "ytobfemcobakeoaagreat", sum := "1aa9bd28c7e1afbeabdb3977bfc15cd5ed75c80405331a27ae862fe2488eb71c", func := "loop.example/g00983/laws.FnMigratedMem", spec := "fnMigratedMem", unfollowed := true, recurses := true, apart := false, narrowed := true }
def FnMigratedMemUptoSaid : Prop := fnMigratedMemUptoRow.holds Tryz.pinned (OpenSpec.upto fnMigratedMemSpec)

/-- 'laws.FnScenarios', WHERE WHAT IT READS IS OF BULK AT MOST 1048576: true; the input reads as it did. -/
def fnScenariosUptoRow : OpenClaim := { program := "ytobfemcobakeoaagreat", sum := "1aa9bd28c7e1afbeabdb3977bfc15cd5ed75c80405331a27ae862fe2488eb71c", func := "loop.example/g00983/laws.FnScenarios", spec := "fnScenarios", unfollowed := true, recurses := true, apart := false, narrowed := true }
def FnScenariosUptoSaid : Prop := fnScenariosUptoRow.holds Tryz.pinned (OpenSpec.upto fnScenariosSpec)

/-- 'laws.FnReplays', WHERE WHAT IT READS IS OF BULK AT MOST 1048576: true; the input reads as it did. -/
def fnReplaysUptoRow : OpenClaim := { program := "ytobfemcobakeoaagreat", sum := "1aa9bd28c7e1afbeabdb3977bfc15cd5ed75c80405331a27ae862fe2488eb71c", func := "loop.example/g00983/laws.FnReplays", spec := "fnReplays", unfollowed := true, recurses := true, apart := false, narrowed := true }
def FnReplaysUptoSaid : Prop := fnReplaysUptoRow.holds Tryz.pinned (OpenSpec.upto fnReplaysSpec)

/-- 'laws.FnActParts', WHERE WHAT IT READS IS OF BULK AT MOST 1048576: true; the input reads as it did. -/
def fnActPartsUptoRow : OpenClaim := { program := "ytobfemcobakeoaagreat", sum := "1aa9bd28c7e1afbeabdb3977bfc15cd5ed75c80405331a27ae862fe2488eb71c", func := "loop.example/g00983/laws.FnActParts", spec := "fnActParts", unfollowed := true, recurses := true, apart := false, narrowed := true }
def FnActPartsUptoSaid : Prop := fnActPartsUptoRow.holds Tryz.pinned (OpenSpec.upto fnActPartsSpec)

end Rows
end Go.Proofs.YtobfemcobakeoaaGreat
