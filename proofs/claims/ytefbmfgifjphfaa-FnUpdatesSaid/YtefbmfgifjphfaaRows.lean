/-
  No cell of these rows narrows 'for every input' (looked for: loops, veiled, ifaces, maps, wideKeys, modest, calm, conditions, laid).
  DERIVED. THE GIVEN ROWS OF THIS SEAT. 8 by the template 'for every input the law returns true; each argument reads behind the call as it read before'; 0 by the template 'total and deterministic' (their statements: YtefbmfgifjphfaaTotals.lean).
  GIVEN WITH THE SEED: the statements are not yours to turn. If you find one false, say at which input.
  Laid BY PROGRAM, IN A SANDBOX (cutbox-rows.mjs): the forced cells as the released guide's own fill.sh prints them over the translation c5a7eda9067e7fca… (all of the seat's roots in one cut). By AI agents, Wed Nov 11 2026. No macro, syntax, notation, axiom, sorry.
-/
import Derived.Test.YtefbmfgifjphfaaChecked
import GoSem.Claim
import GoSem.ClaimJoined
import GoSem.ClaimMapViews
import Derived.JoinedTies
import Derived.KernelRfl
namespace Go.Proofs.Ytefbmfgifjphfaa
/- THE CELL 'sum', in the pinned program and in every row, IS THE sha256 OF THE DUMP (.gsa) THAT YtefbmfgifjphfaaProg.lean LOADS. Nothing in Lean hashes anything: it is a label: what it is worth is what the hold of that sum in a sandbox is worth. -/
noncomputable def Try.pinned : Pinned := { name := "ytefbmfgifjphfaa", sum := "c5a7eda9067e7fca09daf6d0857b8d5721834b9882f9acce23f9a39166163d19", checked := Try.checked }
namespace Rows
def none {H : Type} : Left H := { results := [], args := [] }

/-- 'laws.FnBanks': WHATEVER THE INPUT: true; the input reads as it did. -/
def fnBanksSpec : ChangeSpec := { name := "fnBanks", fn := fun _ => fun
  | [d] => { results := [.lit (.bool true)], args := [d] }
  | _ => none }
def fnBanksRow : OpenClaim := { program := "ytefbmfgifjphfaa", sum := "c5a7eda9067e7fca09daf6d0857b8d5721834b9882f9acce23f9a39166163d19", func := "loop.example/g00983/laws.FnBanks", spec := "fnBanks", unfollowed := true, recurses := true, apart := false }
def FnBanksSaid : Prop := fnBanksRow.holds Try.pinned (OpenSpec.ofChange fnBanksSpec)

/-- ITS FALSE NEIGHBOUR: 'it returns false'. Refute it at one input. -/
def fnBanksWrong : ChangeSpec := { name := "fnBanks", fn := fun _ => fun
  | [d] => { results := [.lit (.bool false)], args := [d] }
  | _ => none }
def FnBanksWrongFalsely : Prop := fnBanksRow.holds Try.pinned (OpenSpec.ofChange fnBanksWrong)

/-- 'laws.FnExactBanksOk': WHATEVER THE INPUT: true; the input reads as it did. -/
def fnExactBanksOkSpec : ChangeSpec := { name := "fnExactBanksOk", fn := fun _ => fun
  | [d] => { results := [.lit (.bool true)], args := [d] }
  | _ => none }
def fnExactBanksOkRow : OpenClaim := { program := "ytefbmfgifjphfaa", sum := "c5a7eda9067e7fca09daf6d0857b8d5721834b9882f9acce23f9a39166163d19", func := "loop.example/g00983/laws.FnExactBanksOk", spec := "fnExactBanksOk", unfollowed := true, recurses := true, apart := false }
def FnExactBanksOkSaid : Prop := fnExactBanksOkRow.holds Try.pinned (OpenSpec.ofChange fnExactBanksOkSpec)

/-- ITS FALSE NEIGHBOUR: 'it returns false'. Refute it at one input. -/
def fnExactBanksOkWrong : ChangeSpec := { name := "fnExactBanksOk", fn := fun _ => fun
  | [d] => { results := [.lit (.bool false)], args := [d] }
  | _ => none }
def FnExactBanksOkWrongFalsely : Prop := fnExactBanksOkRow.holds Try.pinned (OpenSpec.ofChange fnExactBanksOkWrong)

/-- 'laws.FnExactUpdateSteps': WHATEVER THE INPUT: true; the input reads as it did. -/
def fnExactUpdateStepsSpec : ChangeSpec := { name := "fnExactUpdateSteps", fn := fun _ => fun
  | [d1, d2, d3] => { results := [.lit (.bool true)], args := [d1, d2, d3] }
  | _ => none }
def fnExactUpdateStepsRow : OpenClaim := { program := "ytefbmfgifjphfaa", sum := "c5a7eda9067e7fca09daf6d0857b8d5721834b9882f9acce23f9a39166163d19", func := "loop.example/g00983/laws.FnExactUpdateSteps", spec := "fnExactUpdateSteps", unfollowed := true, recurses := true, apart := false }
def FnExactUpdateStepsSaid : Prop := fnExactUpdateStepsRow.holds Try.pinned (OpenSpec.ofChange fnExactUpdateStepsSpec)

/-- ITS FALSE NEIGHBOUR: 'it returns false'. Refute it at one input. -/
def fnExactUpdateStepsWrong : ChangeSpec := { name := "fnExactUpdateSteps", fn := fun _ => fun
  | [d1, d2, d3] => { results := [.lit (.bool false)], args := [d1, d2, d3] }
  | _ => none }
def FnExactUpdateStepsWrongFalsely : Prop := fnExactUpdateStepsRow.holds Try.pinned (OpenSpec.ofChange fnExactUpdateStepsWrong)

/-- 'laws.FnUpdates': WHATEVER THE INPUT: true; the input reads as it did. -/
def fnUpdatesSpec : ChangeSpec := { name := "fnUpdates", fn := fun _ => fun
  | [d] => { results := [.lit (.bool true)], args := [d] }
  | _ => none }
def fnUpdatesRow : OpenClaim := { program := "ytefbmfgifjphfaa", sum := "c5a7eda9067e7fca09daf6d0857b8d5721834b9882f9acce23f9a39166163d19", func := "loop.example/g00983/laws.FnUpdates", spec := "fnUpdates", unfollowed := true, recurses := true, apart := false }
def FnUpdatesSaid : Prop := fnUpdatesRow.holds Try.pinned (OpenSpec.ofChange fnUpdatesSpec)

/-- ITS FALSE NEIGHBOUR: 'it returns false'. Refute it at one input. -/
def fnUpdatesWrong : ChangeSpec := { name := "fnUpdates", fn := fun _ => fun
  | [d] => { results := [.lit (.bool false)], args := [d] }
  | _ => none }
def FnUpdatesWrongFalsely : Prop := fnUpdatesRow.holds Try.pinned (OpenSpec.ofChange fnUpdatesWrong)

/-- 'laws.FnExactActiveBank': WHATEVER THE INPUT: true; the input reads as it did. -/
def fnExactActiveBankSpec : ChangeSpec := { name := "fnExactActiveBank", fn := fun _ => fun
  | [d] => { results := [.lit (.bool true)], args := [d] }
  | _ => none }
def fnExactActiveBankRow : OpenClaim := { program := "ytefbmfgifjphfaa", sum := "c5a7eda9067e7fca09daf6d0857b8d5721834b9882f9acce23f9a39166163d19", func := "loop.example/g00983/laws.FnExactActiveBank", spec := "fnExactActiveBank", unfollowed := true, recurses := true, apart := false }
def FnExactActiveBankSaid : Prop := fnExactActiveBankRow.holds Try.pinned (OpenSpec.ofChange fnExactActiveBankSpec)

/-- ITS FALSE NEIGHBOUR: 'it returns false'. Refute it at one input. -/
def fnExactActiveBankWrong : ChangeSpec := { name := "fnExactActiveBank", fn := fun _ => fun
  | [d] => { results := [.lit (.bool false)], args := [d] }
  | _ => none }
def FnExactActiveBankWrongFalsely : Prop := fnExactActiveBankRow.holds Try.pinned (OpenSpec.ofChange fnExactActiveBankWrong)

/-- 'laws.FnExactUpdateSome': WHATEVER THE INPUT: true; the input reads as it did. -/
def fnExactUpdateSomeSpec : ChangeSpec := { name := "fnExactUpdateSome", fn := fun _ => fun
  | [d1, d2, d3, d4] => { results := [.lit (.bool true)], args := [d1, d2, d3, d4] }
  | _ => none }
def fnExactUpdateSomeRow : OpenClaim := { program := "ytefbmfgifjphfaa", sum := "c5a7eda9067e7fca09daf6d0857b8d5721834b9882f9acce23f9a39166163d19", func := "loop.example/g00983/laws.FnExactUpdateSome", spec := "fnExactUpdateSome", unfollowed := true, recurses := true, apart := false }
def FnExactUpdateSomeSaid : Prop := fnExactUpdateSomeRow.holds Try.pinned (OpenSpec.ofChange fnExactUpdateSomeSpec)

/-- ITS FALSE NEIGHBOUR: 'it returns false'. Refute it at one input. -/
def fnExactUpdateSomeWrong : ChangeSpec := { name := "fnExactUpdateSome", fn := fun _ => fun
  | [d1, d2, d3, d4] => { results := [.lit (.bool false)], args := [d1, d2, d3, d4] }
  | _ => none }
def FnExactUpdateSomeWrongFalsely : Prop := fnExactUpdateSomeRow.holds Try.pinned (OpenSpec.ofChange fnExactUpdateSomeWrong)

/-- 'laws.FnExactSentBy': WHATEVER THE INPUT: true; the input reads as it did. -/
def fnExactSentBySpec : ChangeSpec := { name := "fnExactSentBy", fn := fun _ => fun
  | [d] => { results := [.lit (.bool true)], args := [d] }
  | _ => none }
def fnExactSentByRow : OpenClaim := { program := "ytefbmfgifjphfaa", sum := "c5a7eda9067e7fca09daf6d0857b8d5721834b9882f9acce23f9a39166163d19", func := "loop.example/g00983/laws.FnExactSentBy", spec := "fnExactSentBy", unfollowed := true, recurses := true, apart := false }
def FnExactSentBySaid : Prop := fnExactSentByRow.holds Try.pinned (OpenSpec.ofChange fnExactSentBySpec)

/-- ITS FALSE NEIGHBOUR: 'it returns false'. Refute it at one input. -/
def fnExactSentByWrong : ChangeSpec := { name := "fnExactSentBy", fn := fun _ => fun
  | [d] => { results := [.lit (.bool false)], args := [d] }
  | _ => none }
def FnExactSentByWrongFalsely : Prop := fnExactSentByRow.holds Try.pinned (OpenSpec.ofChange fnExactSentByWrong)

/-- 'laws.FnExactNodeNew': WHATEVER THE INPUT: true; the input reads as it did. -/
def fnExactNodeNewSpec : ChangeSpec := { name := "fnExactNodeNew", fn := fun _ => fun
  | [d1, d2, d3, d4] => { results := [.lit (.bool true)], args := [d1, d2, d3, d4] }
  | _ => none }
def fnExactNodeNewRow : OpenClaim := { program := "ytefbmfgifjphfaa", sum := "c5a7eda9067e7fca09daf6d0857b8d5721834b9882f9acce23f9a39166163d19", func := "loop.example/g00983/laws.FnExactNodeNew", spec := "fnExactNodeNew", unfollowed := true, recurses := true, apart := false }
def FnExactNodeNewSaid : Prop := fnExactNodeNewRow.holds Try.pinned (OpenSpec.ofChange fnExactNodeNewSpec)

/-- ITS FALSE NEIGHBOUR: 'it returns false'. Refute it at one input. -/
def fnExactNodeNewWrong : ChangeSpec := { name := "fnExactNodeNew", fn := fun _ => fun
  | [d1, d2, d3, d4] => { results := [.lit (.bool false)], args := [d1, d2, d3, d4] }
  | _ => none }
def FnExactNodeNewWrongFalsely : Prop := fnExactNodeNewRow.holds Try.pinned (OpenSpec.ofChange fnExactNodeNewWrong)

/- THE SECOND FORM. 'bulk': how many values and letters a reading holds, each counted each time it is reached (what is shared counts as often as it is met; a slice's spare places count too). A statement '..UptoSaid' is the law's where the arguments, and the package variables that the reading takes, are together of bulk at most 1048576: NARROWER than '..Said'. Prove '..Said' where nothing that the law and all that it calls make is longer than what came in: it says more and counts as full. Else prove '..UptoSaid'. A law counts once. -/
mutual
def uptoBulk {H : Type} : DataW H → Nat
  | .lit (.string bytes) => bytes.length + 1
  | .lit _ => 1
  | .nil => 1
  | .ptr d => uptoBulk d + 1
  | .slice elems spare => uptoBulkAll elems + uptoBulkAll spare + 1
  | .agg parts => uptoBulkAll parts + 1
  | .iface _ d => uptoBulk d + 1
  | .map entries => uptoBulkEntries entries + 1
  | .held _ => 1
def uptoBulkAll {H : Type} : List (DataW H) → Nat
  | [] => 0
  | d :: r => uptoBulk d + uptoBulkAll r
def uptoBulkEntries {H : Type} : List (Lit × DataW H) → Nat
  | [] => 0
  | x :: r => uptoBulkEntry x + uptoBulkEntries r
def uptoBulkEntry {H : Type} : Lit × DataW H → Nat
  | (.string bytes, d) => bytes.length + uptoBulk d + 1
  | (_, d) => uptoBulk d + 1
 end
def uptoSmall : (H : Type) → List (DataW H) → Bool := fun _ ds => decide (uptoBulkAll ds ≤ 1048576)
def OpenSpec.upto (s : _root_.Go.ChangeSpec) : _root_.Go.OpenSpec := { _root_.Go.OpenSpec.ofChange s with cond := some uptoSmall }

/-- 'laws.FnBanks', WHERE WHAT IT READS IS OF BULK AT MOST 1048576: true; the input reads as it did. -/
def fnBanksUptoRow : OpenClaim := { program := "ytefbmfgifjphfaa", sum := "c5a7eda9067e7fca09daf6d0857b8d5721834b9882f9acce23f9a39166163d19", func := "loop.example/g00983/laws.FnBanks", spec := "fnBanks", unfollowed := true, recurses := true, apart := false, narrowed := true }
def FnBanksUptoSaid : Prop := fnBanksUptoRow.holds Try.pinned (OpenSpec.upto fnBanksSpec)

/-- 'laws.FnExactBanksOk', WHERE WHAT IT READS IS OF BULK AT MOST 1048576: true; the input reads as it did. -/
def fnExactBanksOkUptoRow : OpenClaim := { program := "ytefbmfgifjphfaa", sum := "c5a7eda9067e7fca09daf6d0857b8d5721834b9882f9acce23f9a39166163d19", func := "loop.example/g00983/laws.FnExactBanksOk", spec := "fnExactBanksOk", unfollowed := true, recurses := true, apart := false, narrowed := true }
def FnExactBanksOkUptoSaid : Prop := fnExactBanksOkUptoRow.holds Try.pinned (OpenSpec.upto fnExactBanksOkSpec)

/-- 'laws.FnExactUpdateSteps', WHERE WHAT IT READS IS OF BULK AT MOST 1048576: true; the input reads as it did. -/
def fnExactUpdateStepsUptoRow : OpenClaim := { program := "ytefbmfgifjphfaa", sum := "c5a7eda9067e7fca09daf6d0857b8d5721834b9882f9acce23f9a39166163d19", func := "loop.example/g00983/laws.FnExactUpdateSteps", spec := "fnExactUpdateSteps", unfollowed := true, recurses := true, apart := false, narrowed := true }
def FnExactUpdateStepsUptoSaid : Prop := fnExactUpdateStepsUptoRow.holds Try.pinned (OpenSpec.upto fnExactUpdateStepsSpec)

/-- 'laws.FnUpdates', WHERE WHAT IT READS IS OF BULK AT MOST 1048576: true; the input reads as it did. -/
def fnUpdatesUptoRow : OpenClaim := { program := "ytefbmfgifjphfaa", sum := "c5a7eda9067e7fca09daf6d0857b8d5721834b9882f9acce23f9a39166163d19", func := "loop.example/g00983/laws.FnUpdates", spec := "fnUpdates", unfollowed := true, recurses := true, apart := false, narrowed := true }
def FnUpdatesUptoSaid : Prop := fnUpdatesUptoRow.holds Try.pinned (OpenSpec.upto fnUpdatesSpec)

/-- 'laws.FnExactActiveBank', WHERE WHAT IT READS IS OF BULK AT MOST 1048576: true; the input reads as it did. -/
def fnExactActiveBankUptoRow : OpenClaim := { program := "ytefbmfgifjphfaa", sum := "c5a7eda9067e7fca09daf6d0857b8d5721834b9882f9acce23f9a39166163d19", func := "loop.example/g00983/laws.FnExactActiveBank", spec := "fnExactActiveBank", unfollowed := true, recurses := true, apart := false, narrowed := true }
def FnExactActiveBankUptoSaid : Prop := fnExactActiveBankUptoRow.holds Try.pinned (OpenSpec.upto fnExactActiveBankSpec)

/-- 'laws.FnExactUpdateSome', WHERE WHAT IT READS IS OF BULK AT MOST 1048576: true; the input reads as it did. -/
def fnExactUpdateSomeUptoRow : OpenClaim := { program := "ytefbmfgifjphfaa", sum := "c5a7eda9067e7fca09daf6d0857b8d5721834b9882f9acce23f9a39166163d19", func := "loop.example/g00983/laws.FnExactUpdateSome", spec := "fnExactUpdateSome", unfollowed := true, recurses := true, apart := false, narrowed := true }
def FnExactUpdateSomeUptoSaid : Prop := fnExactUpdateSomeUptoRow.holds Try.pinned (OpenSpec.upto fnExactUpdateSomeSpec)

/-- 'laws.FnExactSentBy', WHERE WHAT IT READS IS OF BULK AT MOST 1048576: true; the input reads as it did. -/
def fnExactSentByUptoRow : OpenClaim := { program := "ytefbmfgifjphfaa", sum := "c5a7eda9067e7fca09daf6d0857b8d5721834b9882f9acce23f9a39166163d19", func := "loop.example/g00983/laws.FnExactSentBy", spec := "fnExactSentBy", unfollowed := true, recurses := true, apart := false, narrowed := true }
def FnExactSentByUptoSaid : Prop := fnExactSentByUptoRow.holds Try.pinned (OpenSpec.upto fnExactSentBySpec)

/-- 'laws.FnExactNodeNew', WHERE WHAT IT READS IS OF BULK AT MOST 1048576: true; the input reads as it did. -/
def fnExactNodeNewUptoRow : OpenClaim := { program := "ytefbmfgifjphfaa", sum := "c5a7eda9067e7fca09daf6d0857b8d5721834b9882f9acce23f9a39166163d19", func := "loop.example/g00983/laws.FnExactNodeNew", spec := "fnExactNodeNew", unfollowed := true, recurses := true, apart := false, narrowed := true }
def FnExactNodeNewUptoSaid : Prop := fnExactNodeNewUptoRow.holds Try.pinned (OpenSpec.upto fnExactNodeNewSpec)

end Rows
end Go.Proofs.Ytefbmfgifjphfaa
