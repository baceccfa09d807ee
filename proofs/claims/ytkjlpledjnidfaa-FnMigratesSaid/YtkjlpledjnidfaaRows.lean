/-
  No cell of these rows narrows 'for every input' (looked for: loops, veiled, ifaces, maps, wideKeys, modest, calm, conditions, laid).
  DERIVED. THE GIVEN ROWS OF THIS SEAT. 12 by the template 'for every input the law returns true; each argument reads behind the call as it read before'; 0 by the template 'total and deterministic' (their statements: YtkjlpledjnidfaaTotals.lean).
  GIVEN WITH THE SEED: the statements are not yours to turn. If you find one false, say at which input.
  Laid BY PROGRAM, IN A SANDBOX (cutbox-rows.mjs): the forced cells as the released guide's own fill.sh prints them over the translation d6c9cd4631b98444… (all of the seat's roots in one cut). By AI agents, Wed Nov 11 2026. No macro, syntax, notation, axiom, sorry.
-/
import Derived.Test.YtkjlpledjnidfaaChecked
import GoSem.Claim
import GoSem.ClaimJoined
import GoSem.ClaimMapViews
import Derived.JoinedTies
import Derived.KernelRfl
namespace Go.Proofs.Ytkjlpledjnidfaa
/- THE CELL 'sum', in the pinned program and in every row, IS THE sha256 OF THE DUMP (.gsa) THAT YtkjlpledjnidfaaProg.lean LOADS. Nothing in Lean hashes anything: it is a label: what it is worth is what the hold of that sum in a sandbox is worth. -/
noncomputable def Try.pinned : Pinned := { name := "ytkjlpledjnidfaa", sum := "d6c9cd4631b98444574659b7d0e41cf391490717ac81e82bb63cc495b17ba27f", checked := Try.checked }
namespace Rows
def none {H : Type} : Left H := { results := [], args := [] }

/-- 'laws.FnBestPlans': WHATEVER THE INPUT: true; the input reads as it did. -/
def fnBestPlansSpec : ChangeSpec := { name := "fnBestPlans", fn := fun _ => fun
  | [d] => { results := [.lit (.bool true)], args := [d] }
  | _ => none }
def fnBestPlansRow : OpenClaim := { program := "ytkjlpledjnidfaa", sum := "d6c9cd4631b98444574659b7d0e41cf391490717ac81e82bb63cc495b17ba27f", func := "loop.example/g00983/laws.FnBestPlans", spec := "fnBestPlans", unfollowed := true, recurses := true, apart := false }
def FnBestPlansSaid : Prop := fnBestPlansRow.holds Try.pinned (OpenSpec.ofChange fnBestPlansSpec)

/-- ITS FALSE NEIGHBOUR: 'it returns false'. Refute it at one input. -/
def fnBestPlansWrong : ChangeSpec := { name := "fnBestPlans", fn := fun _ => fun
  | [d] => { results := [.lit (.bool false)], args := [d] }
  | _ => none }
def FnBestPlansWrongFalsely : Prop := fnBestPlansRow.holds Try.pinned (OpenSpec.ofChange fnBestPlansWrong)

/-- 'laws.FnExactUpdateSteps': WHATEVER THE INPUT: true; the input reads as it did. -/
def fnExactUpdateStepsSpec : ChangeSpec := { name := "fnExactUpdateSteps", fn := fun _ => fun
  | [d1, d2, d3] => { results := [.lit (.bool true)], args := [d1, d2, d3] }
  | _ => none }
def fnExactUpdateStepsRow : OpenClaim := { program := "ytkjlpledjnidfaa", sum := "d6c9cd4631b98444574659b7d0e41cf391490717ac81e82bb63cc495b17ba27f", func := "loop.example/g00983/laws.FnExactUpdateSteps", spec := "fnExactUpdateSteps", unfollowed := true, recurses := true, apart := false }
def FnExactUpdateStepsSaid : Prop := fnExactUpdateStepsRow.holds Try.pinned (OpenSpec.ofChange fnExactUpdateStepsSpec)

/-- ITS FALSE NEIGHBOUR: 'it returns false'. Refute it at one input. -/
def fnExactUpdateStepsWrong : ChangeSpec := { name := "fnExactUpdateSteps", fn := fun _ => fun
  | [d1, d2, d3] => { results := [.lit (.bool false)], args := [d1, d2, d3] }
  | _ => none }
def FnExactUpdateStepsWrongFalsely : Prop := fnExactUpdateStepsRow.holds Try.pinned (OpenSpec.ofChange fnExactUpdateStepsWrong)

/-- 'laws.FnMigrates': WHATEVER THE INPUT: true; the input reads as it did. -/
def fnMigratesSpec : ChangeSpec := { name := "fnMigrates", fn := fun _ => fun
  | [d] => { results := [.lit (.bool true)], args := [d] }
  | _ => none }
def fnMigratesRow : OpenClaim := { program := "ytkjlpledjnidfaa", sum := "d6c9cd4631b98444574659b7d0e41cf391490717ac81e82bb63cc495b17ba27f", func := "loop.example/g00983/laws.FnMigrates", spec := "fnMigrates", unfollowed := true, recurses := true, apart := false }
def FnMigratesSaid : Prop := fnMigratesRow.holds Try.pinned (OpenSpec.ofChange fnMigratesSpec)

/-- ITS FALSE NEIGHBOUR: 'it returns false'. Refute it at one input. -/
def fnMigratesWrong : ChangeSpec := { name := "fnMigrates", fn := fun _ => fun
  | [d] => { results := [.lit (.bool false)], args := [d] }
  | _ => none }
def FnMigratesWrongFalsely : Prop := fnMigratesRow.holds Try.pinned (OpenSpec.ofChange fnMigratesWrong)

/-- 'laws.FnExactRoundsNeeded': WHATEVER THE INPUT: true; the input reads as it did. -/
def fnExactRoundsNeededSpec : ChangeSpec := { name := "fnExactRoundsNeeded", fn := fun _ => fun
  | [d1, d2] => { results := [.lit (.bool true)], args := [d1, d2] }
  | _ => none }
def fnExactRoundsNeededRow : OpenClaim := { program := "ytkjlpledjnidfaa", sum := "d6c9cd4631b98444574659b7d0e41cf391490717ac81e82bb63cc495b17ba27f", func := "loop.example/g00983/laws.FnExactRoundsNeeded", spec := "fnExactRoundsNeeded", apart := false }
def FnExactRoundsNeededSaid : Prop := fnExactRoundsNeededRow.holds Try.pinned (OpenSpec.ofChange fnExactRoundsNeededSpec)

/-- ITS FALSE NEIGHBOUR: 'it returns false'. Refute it at one input. -/
def fnExactRoundsNeededWrong : ChangeSpec := { name := "fnExactRoundsNeeded", fn := fun _ => fun
  | [d1, d2] => { results := [.lit (.bool false)], args := [d1, d2] }
  | _ => none }
def FnExactRoundsNeededWrongFalsely : Prop := fnExactRoundsNeededRow.holds Try.pinned (OpenSpec.ofChange fnExactRoundsNeededWrong)

/-- 'laws.FnUpdates': WHATEVER THE INPUT: true; the input reads as it did. -/
def fnUpdatesSpec : ChangeSpec := { name := "fnUpdates", fn := fun _ => fun
  | [d] => { results := [.lit (.bool true)], args := [d] }
  | _ => none }
def fnUpdatesRow : OpenClaim := { program := "ytkjlpledjnidfaa", sum := "d6c9cd4631b98444574659b7d0e41cf391490717ac81e82bb63cc495b17ba27f", func := "loop.example/g00983/laws.FnUpdates", spec := "fnUpdates", unfollowed := true, recurses := true, apart := false }
def FnUpdatesSaid : Prop := fnUpdatesRow.holds Try.pinned (OpenSpec.ofChange fnUpdatesSpec)

/-- ITS FALSE NEIGHBOUR: 'it returns false'. Refute it at one input. -/
def fnUpdatesWrong : ChangeSpec := { name := "fnUpdates", fn := fun _ => fun
  | [d] => { results := [.lit (.bool false)], args := [d] }
  | _ => none }
def FnUpdatesWrongFalsely : Prop := fnUpdatesRow.holds Try.pinned (OpenSpec.ofChange fnUpdatesWrong)

/-- 'laws.FnExactReceiveAll': WHATEVER THE INPUT: true; the input reads as it did. -/
def fnExactReceiveAllSpec : ChangeSpec := { name := "fnExactReceiveAll", fn := fun _ => fun
  | [d1, d2, d3] => { results := [.lit (.bool true)], args := [d1, d2, d3] }
  | _ => none }
def fnExactReceiveAllRow : OpenClaim := { program := "ytkjlpledjnidfaa", sum := "d6c9cd4631b98444574659b7d0e41cf391490717ac81e82bb63cc495b17ba27f", func := "loop.example/g00983/laws.FnExactReceiveAll", spec := "fnExactReceiveAll", apart := false }
def FnExactReceiveAllSaid : Prop := fnExactReceiveAllRow.holds Try.pinned (OpenSpec.ofChange fnExactReceiveAllSpec)

/-- ITS FALSE NEIGHBOUR: 'it returns false'. Refute it at one input. -/
def fnExactReceiveAllWrong : ChangeSpec := { name := "fnExactReceiveAll", fn := fun _ => fun
  | [d1, d2, d3] => { results := [.lit (.bool false)], args := [d1, d2, d3] }
  | _ => none }
def FnExactReceiveAllWrongFalsely : Prop := fnExactReceiveAllRow.holds Try.pinned (OpenSpec.ofChange fnExactReceiveAllWrong)

/-- 'laws.FnExactBestWorth': WHATEVER THE INPUT: true; the input reads as it did. -/
def fnExactBestWorthSpec : ChangeSpec := { name := "fnExactBestWorth", fn := fun _ => fun
  | [d1, d2] => { results := [.lit (.bool true)], args := [d1, d2] }
  | _ => none }
def fnExactBestWorthRow : OpenClaim := { program := "ytkjlpledjnidfaa", sum := "d6c9cd4631b98444574659b7d0e41cf391490717ac81e82bb63cc495b17ba27f", func := "loop.example/g00983/laws.FnExactBestWorth", spec := "fnExactBestWorth", unfollowed := true, recurses := true, apart := false }
def FnExactBestWorthSaid : Prop := fnExactBestWorthRow.holds Try.pinned (OpenSpec.ofChange fnExactBestWorthSpec)

/-- ITS FALSE NEIGHBOUR: 'it returns false'. Refute it at one input. -/
def fnExactBestWorthWrong : ChangeSpec := { name := "fnExactBestWorth", fn := fun _ => fun
  | [d1, d2] => { results := [.lit (.bool false)], args := [d1, d2] }
  | _ => none }
def FnExactBestWorthWrongFalsely : Prop := fnExactBestWorthRow.holds Try.pinned (OpenSpec.ofChange fnExactBestWorthWrong)

/-- 'laws.FnExactActiveBank': WHATEVER THE INPUT: true; the input reads as it did. -/
def fnExactActiveBankSpec : ChangeSpec := { name := "fnExactActiveBank", fn := fun _ => fun
  | [d] => { results := [.lit (.bool true)], args := [d] }
  | _ => none }
def fnExactActiveBankRow : OpenClaim := { program := "ytkjlpledjnidfaa", sum := "d6c9cd4631b98444574659b7d0e41cf391490717ac81e82bb63cc495b17ba27f", func := "loop.example/g00983/laws.FnExactActiveBank", spec := "fnExactActiveBank", unfollowed := true, recurses := true, apart := false }
def FnExactActiveBankSaid : Prop := fnExactActiveBankRow.holds Try.pinned (OpenSpec.ofChange fnExactActiveBankSpec)

/-- ITS FALSE NEIGHBOUR: 'it returns false'. Refute it at one input. -/
def fnExactActiveBankWrong : ChangeSpec := { name := "fnExactActiveBank", fn := fun _ => fun
  | [d] => { results := [.lit (.bool false)], args := [d] }
  | _ => none }
def FnExactActiveBankWrongFalsely : Prop := fnExactActiveBankRow.holds Try.pinned (OpenSpec.ofChange fnExactActiveBankWrong)

/-- 'laws.FnOnce': WHATEVER THE INPUT: true; the input reads as it did. -/
def fnOnceSpec : ChangeSpec := { name := "fnOnce", fn := fun _ => fun
  | [d] => { results := [.lit (.bool true)], args := [d] }
  | _ => none }
def fnOnceRow : OpenClaim := { program := "ytkjlpledjnidfaa", sum := "d6c9cd4631b98444574659b7d0e41cf391490717ac81e82bb63cc495b17ba27f", func := "loop.example/g00983/laws.FnOnce", spec := "fnOnce", recurses := true, apart := false }
def FnOnceSaid : Prop := fnOnceRow.holds Try.pinned (OpenSpec.ofChange fnOnceSpec)

/-- ITS FALSE NEIGHBOUR: 'it returns false'. Refute it at one input. -/
def fnOnceWrong : ChangeSpec := { name := "fnOnce", fn := fun _ => fun
  | [d] => { results := [.lit (.bool false)], args := [d] }
  | _ => none }
def FnOnceWrongFalsely : Prop := fnOnceRow.holds Try.pinned (OpenSpec.ofChange fnOnceWrong)

/-- 'laws.FnExactBestChoice': WHATEVER THE INPUT: true; the input reads as it did. -/
def fnExactBestChoiceSpec : ChangeSpec := { name := "fnExactBestChoice", fn := fun _ => fun
  | [d1, d2] => { results := [.lit (.bool true)], args := [d1, d2] }
  | _ => none }
def fnExactBestChoiceRow : OpenClaim := { program := "ytkjlpledjnidfaa", sum := "d6c9cd4631b98444574659b7d0e41cf391490717ac81e82bb63cc495b17ba27f", func := "loop.example/g00983/laws.FnExactBestChoice", spec := "fnExactBestChoice", unfollowed := true, recurses := true, apart := false }
def FnExactBestChoiceSaid : Prop := fnExactBestChoiceRow.holds Try.pinned (OpenSpec.ofChange fnExactBestChoiceSpec)

/-- ITS FALSE NEIGHBOUR: 'it returns false'. Refute it at one input. -/
def fnExactBestChoiceWrong : ChangeSpec := { name := "fnExactBestChoice", fn := fun _ => fun
  | [d1, d2] => { results := [.lit (.bool false)], args := [d1, d2] }
  | _ => none }
def FnExactBestChoiceWrongFalsely : Prop := fnExactBestChoiceRow.holds Try.pinned (OpenSpec.ofChange fnExactBestChoiceWrong)

/-- 'laws.FnInOrder': WHATEVER THE INPUT: true; the input reads as it did. -/
def fnInOrderSpec : ChangeSpec := { name := "fnInOrder", fn := fun _ => fun
  | [d] => { results := [.lit (.bool true)], args := [d] }
  | _ => none }
def fnInOrderRow : OpenClaim := { program := "ytkjlpledjnidfaa", sum := "d6c9cd4631b98444574659b7d0e41cf391490717ac81e82bb63cc495b17ba27f", func := "loop.example/g00983/laws.FnInOrder", spec := "fnInOrder", recurses := true, apart := false }
def FnInOrderSaid : Prop := fnInOrderRow.holds Try.pinned (OpenSpec.ofChange fnInOrderSpec)

/-- ITS FALSE NEIGHBOUR: 'it returns false'. Refute it at one input. -/
def fnInOrderWrong : ChangeSpec := { name := "fnInOrder", fn := fun _ => fun
  | [d] => { results := [.lit (.bool false)], args := [d] }
  | _ => none }
def FnInOrderWrongFalsely : Prop := fnInOrderRow.holds Try.pinned (OpenSpec.ofChange fnInOrderWrong)

/-- 'laws.FnLinks': WHATEVER THE INPUT: true; the input reads as it did. -/
def fnLinksSpec : ChangeSpec := { name := "fnLinks", fn := fun _ => fun
  | [d] => { results := [.lit (.bool true)], args := [d] }
  | _ => none }
def fnLinksRow : OpenClaim := { program := "ytkjlpledjnidfaa", sum := "d6c9cd4631b98444574659b7d0e41cf391490717ac81e82bb63cc495b17ba27f", func := "loop.example/g00983/laws.FnLinks", spec := "fnLinks", recurses := true, apart := false }
def FnLinksSaid : Prop := fnLinksRow.holds Try.pinned (OpenSpec.ofChange fnLinksSpec)

/-- ITS FALSE NEIGHBOUR: 'it returns false'. Refute it at one input. -/
def fnLinksWrong : ChangeSpec := { name := "fnLinks", fn := fun _ => fun
  | [d] => { results := [.lit (.bool false)], args := [d] }
  | _ => none }
def FnLinksWrongFalsely : Prop := fnLinksRow.holds Try.pinned (OpenSpec.ofChange fnLinksWrong)

/- THE SECOND FORM. 'bulk': how many values and letters a reading holds, each counted each time it is reached (what is shared counts as often as it is met; a slice's spare places count too). A statement '..UptoSaid' is the law's where the arguments, and the package variables that the reading takes, are together of bulk at most 1048576: NARROWER than '..Said'. Prove '..Said' where nothing that the law and all that it calls make is longer than what came in: it says more and counts as full. Else prove '..UptoSaid'. A law counts once. -/
mutual
def uptoBulk {H : Type} : DataW H → Nat
  | .lit (.string bytes) => bytes.length + 1
  | .lit _ => 1
  | .nil => 1
  | .ptr d => uptoBulk d + 1
  | .slice elems spare => uptoBulkAll elems + uptoBulkAll spare + 1
  | .agg parts => uptoBulkAll parts + 1
  | .iface _ d => uptoBulk d + 1
  | .map entries => uptoBulkEntries entries + 1
  | .held _ => 1
def uptoBulkAll {H : Type} : List (DataW H) → Nat
  | [] => 0
  | d :: r => uptoBulk d + uptoBulkAll r
def uptoBulkEntries {H : Type} : List (Lit × DataW H) → Nat
  | [] => 0
  | x :: r => uptoBulkEntry x + uptoBulkEntries r
def uptoBulkEntry {H : Type} : Lit × DataW H → Nat
  | (.string bytes, d) => bytes.length + uptoBulk d + 1
  | (_, d) => uptoBulk d + 1
 end
def uptoSmall : (H : Type) → List (DataW H) → Bool := fun _ ds => decide (uptoBulkAll ds ≤ 1048576)
def OpenSpec.upto (s : _root_.Go.ChangeSpec) : _root_.Go.OpenSpec := { _root_.Go.OpenSpec.ofChange s with cond := some uptoSmall }

/-- 'laws.FnBestPlans', WHERE WHAT IT READS IS OF BULK AT MOST 1048576: true; the input reads as it did. -/
def fnBestPlansUptoRow : OpenClaim := { program := "ytkjlpledjnidfaa", sum := "d6c9cd4631b98444574659b7d0e41cf391490717ac81e82bb63cc495b17ba27f", func := "loop.example/g00983/laws.FnBestPlans", spec := "fnBestPlans", unfollowed := true, recurses := true, apart := false, narrowed := true }
def FnBestPlansUptoSaid : Prop := fnBestPlansUptoRow.holds Try.pinned (OpenSpec.upto fnBestPlansSpec)

/-- 'laws.FnExactUpdateSteps', WHERE WHAT IT READS IS OF BULK AT MOST 1048576: true; the input reads as it did. -/
def fnExactUpdateStepsUptoRow : OpenClaim := { program := "ytkjlpledjnidfaa", sum := "d6c9cd4631b98444574659b7d0e41cf391490717ac81e82bb63cc495b17ba27f", func := "loop.example/g00983/laws.FnExactUpdateSteps", spec := "fnExactUpdateSteps", unfollowed := true, recurses := true, apart := false, narrowed := true }
def FnExactUpdateStepsUptoSaid : Prop := fnExactUpdateStepsUptoRow.holds Try.pinned (OpenSpec.upto fnExactUpdateStepsSpec)

/-- 'laws.FnMigrates', WHERE WHAT IT READS IS OF BULK AT MOST 1048576: true; the input reads as it did. -/
def fnMigratesUptoRow : OpenClaim := { program := "ytkjlpledjnidfaa", sum := "d6c9cd4631b98444574659b7d0e41cf391490717ac81e82bb63cc495b17ba27f", func := "loop.example/g00983/laws.FnMigrates", spec := "fnMigrates", unfollowed := true, recurses := true, apart := false, narrowed := true }
def FnMigratesUptoSaid : Prop := fnMigratesUptoRow.holds Try.pinned (OpenSpec.upto fnMigratesSpec)

/-- 'laws.FnExactRoundsNeeded', WHERE WHAT IT READS IS OF BULK AT MOST 1048576: true; the input reads as it did. -/
def fnExactRoundsNeededUptoRow : OpenClaim := { program := "ytkjlpledjnidfaa", sum := "d6c9cd4631b98444574659b7d0e41cf391490717ac81e82bb63cc495b17ba27f", func := "loop.example/g00983/laws.FnExactRoundsNeeded", spec := "fnExactRoundsNeeded", apart := false, narrowed := true }
def FnExactRoundsNeededUptoSaid : Prop := fnExactRoundsNeededUptoRow.holds Try.pinned (OpenSpec.upto fnExactRoundsNeededSpec)

/-- 'laws.FnUpdates', WHERE WHAT IT READS IS OF BULK AT MOST 1048576: true; the input reads as it did. -/
def fnUpdatesUptoRow : OpenClaim := { program := "ytkjlpledjnidfaa", sum := "d6c9cd4631b98444574659b7d0e41cf391490717ac81e82bb63cc495b17ba27f", func := "loop.example/g00983/laws.FnUpdates", spec := "fnUpdates", unfollowed := true, recurses := true, apart := false, narrowed := true }
def FnUpdatesUptoSaid : Prop := fnUpdatesUptoRow.holds Try.pinned (OpenSpec.upto fnUpdatesSpec)

/-- 'laws.FnExactReceiveAll', WHERE WHAT IT READS IS OF BULK AT MOST 1048576: true; the input reads as it did. -/
def fnExactReceiveAllUptoRow : OpenClaim := { program := "ytkjlpledjnidfaa", sum := "d6c9cd4631b98444574659b7d0e41cf391490717ac81e82bb63cc495b17ba27f", func := "loop.example/g00983/laws.FnExactReceiveAll", spec := "fnExactReceiveAll", apart := false, narrowed := true }
def FnExactReceiveAllUptoSaid : Prop := fnExactReceiveAllUptoRow.holds Try.pinned (OpenSpec.upto fnExactReceiveAllSpec)

/-- 'laws.FnExactBestWorth', WHERE WHAT IT READS IS OF BULK AT MOST 1048576: true; the input reads as it did. -/
def fnExactBestWorthUptoRow : OpenClaim := { program := "ytkjlpledjnidfaa", sum := "d6c9cd4631b98444574659b7d0e41cf391490717ac81e82bb63cc495b17ba27f", func := "loop.example/g00983/laws.FnExactBestWorth", spec := "fnExactBestWorth", unfollowed := true, recurses := true, apart := false, narrowed := true }
def FnExactBestWorthUptoSaid : Prop := fnExactBestWorthUptoRow.holds Try.pinned (OpenSpec.upto fnExactBestWorthSpec)

/-- 'laws.FnExactActiveBank', WHERE WHAT IT READS IS OF BULK AT MOST 1048576: true; the input reads as it did. -/
def fnExactActiveBankUptoRow : OpenClaim := { program := "ytkjlpledjnidfaa", sum := "d6c9cd4631b98444574659b7d0e41cf391490717ac81e82bb63cc495b17ba27f", func := "loop.example/g00983/laws.FnExactActiveBank", spec := "fnExactActiveBank", unfollowed := true, recurses := true, apart := false, narrowed := true }
def FnExactActiveBankUptoSaid : Prop := fnExactActiveBankUptoRow.holds Try.pinned (OpenSpec.upto fnExactActiveBankSpec)

/-- 'laws.FnOnce', WHERE WHAT IT READS IS OF BULK AT MOST 1048576: true; the input reads as it did. -/
def fnOnceUptoRow : OpenClaim := { program := "ytkjlpledjnidfaa", sum := "d6c9cd4631b98444574659b7d0e41cf391490717ac81e82bb63cc495b17ba27f", func := "loop.example/g00983/laws.FnOnce", spec := "fnOnce", recurses := true, apart := false, narrowed := true }
def FnOnceUptoSaid : Prop := fnOnceUptoRow.holds Try.pinned (OpenSpec.upto fnOnceSpec)

/-- 'laws.FnExactBestChoice', WHERE WHAT IT READS IS OF BULK AT MOST 1048576: true; the input reads as it did. -/
def fnExactBestChoiceUptoRow : OpenClaim := { program := "ytkjlpledjnidfaa", sum := "d6c9cd4631b98444574659b7d0e41cf391490717ac81e82bb63cc495b17ba27f", func := "loop.example/g00983/laws.FnExactBestChoice", spec := "fnExactBestChoice", unfollowed := true, recurses := true, apart := false, narrowed := true }
def FnExactBestChoiceUptoSaid : Prop := fnExactBestChoiceUptoRow.holds Try.pinned (OpenSpec.upto fnExactBestChoiceSpec)

/-- 'laws.FnInOrder', WHERE WHAT IT READS IS OF BULK AT MOST 1048576: true; the input reads as it did. -/
def fnInOrderUptoRow : OpenClaim := { program := "ytkjlpledjnidfaa", sum := "d6c9cd4631b98444574659b7d0e41cf391490717ac81e82bb63cc495b17ba27f", func := "loop.example/g00983/laws.FnInOrder", spec := "fnInOrder", recurses := true, apart := false, narrowed := true }
def FnInOrderUptoSaid : Prop := fnInOrderUptoRow.holds Try.pinned (OpenSpec.upto fnInOrderSpec)

/-- 'laws.FnLinks', WHERE WHAT IT READS IS OF BULK AT MOST 1048576: true; the input reads as it did. -/
def fnLinksUptoRow : OpenClaim := { program := "ytkjlpledjnidfaa", sum := "d6c9cd4631b98444574659b7d0e41cf391490717ac81e82bb63cc495b17ba27f", func := "loop.example/g00983/laws.FnLinks", spec := "fnLinks", recurses := true, apart := false, narrowed := true }
def FnLinksUptoSaid : Prop := fnLinksUptoRow.holds Try.pinned (OpenSpec.upto fnLinksSpec)

end Rows
end Go.Proofs.Ytkjlpledjnidfaa
