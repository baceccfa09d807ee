/-
  No cell of these rows narrows 'for every input' (looked for: loops, veiled, ifaces, maps, wideKeys, modest, calm, conditions, laid).
  DERIVED. THE GIVEN ROWS OF THIS SEAT. 6 by the template 'for every input the law returns true; each argument reads behind the call as it read before'; 0 by the template 'total and deterministic' (their statements: YtniiebpibdkgjaaTotals.lean).
  GIVEN WITH THE SEED: the statements are not yours to turn. If you find one false, say at which input.
  Laid BY PROGRAM, IN A SANDBOX (cutbox-rows.mjs): the forced cells as the released guide's own fill.sh prints them over the translation 9b345956eaa0a5c1… (all of the seat's roots in one cut). By AI agents, Wed Nov 11 2026. No macro, syntax, notation, axiom, sorry.
-/
import Derived.Test.YtniiebpibdkgjaaChecked
import GoSem.Claim
import GoSem.ClaimJoined
import GoSem.ClaimMapViews
import Derived.JoinedTies
import Derived.KernelRfl
namespace Go.Proofs.Ytniiebpibdkgjaa
/- THE CELL 'sum', in the pinned program and in every row, IS THE sha256 OF THE DUMP (.gsa) THAT YtniiebpibdkgjaaProg.lean LOADS. Nothing in Lean hashes anything: it is a label: what it is worth is what the hold of that sum in a sandbox is worth. -/
noncomputable def Try.pinned : Pinned := { name := "ytniiebpibdkgjaa", sum := "9b345956eaa0a5c1f950c390191b9b7d606c776920df4a496483cdfe7b28a633", checked := Try.checked }
namespace Rows
def none {H : Type} : Left H := { results := [], args := [] }

/-- 'laws.FnExactWorkBefore': WHATEVER THE INPUT: true; the input reads as it did. -/
def fnExactWorkBeforeSpec : ChangeSpec := { name := "fnExactWorkBefore", fn := fun _ => fun
  | [d1, d2, d3] => { results := [.lit (.bool true)], args := [d1, d2, d3] }
  | _ => none }
def fnExactWorkBeforeRow : OpenClaim := { program := "ytniiebpibdkgjaa", sum := "9b345956eaa0a5c1f950c390191b9b7d606c776920df4a496483cdfe7b28a633", func := "loop.example/g00983/laws.FnExactWorkBefore", spec := "fnExactWorkBefore", apart := false }
def FnExactWorkBeforeSaid : Prop := fnExactWorkBeforeRow.holds Try.pinned (OpenSpec.ofChange fnExactWorkBeforeSpec)

/-- ITS FALSE NEIGHBOUR: 'it returns false'. Refute it at one input. -/
def fnExactWorkBeforeWrong : ChangeSpec := { name := "fnExactWorkBefore", fn := fun _ => fun
  | [d1, d2, d3] => { results := [.lit (.bool false)], args := [d1, d2, d3] }
  | _ => none }
def FnExactWorkBeforeWrongFalsely : Prop := fnExactWorkBeforeRow.holds Try.pinned (OpenSpec.ofChange fnExactWorkBeforeWrong)

/-- 'laws.FnExactJobsOk': WHATEVER THE INPUT: true; the input reads as it did. -/
def fnExactJobsOkSpec : ChangeSpec := { name := "fnExactJobsOk", fn := fun _ => fun
  | [d] => { results := [.lit (.bool true)], args := [d] }
  | _ => none }
def fnExactJobsOkRow : OpenClaim := { program := "ytniiebpibdkgjaa", sum := "9b345956eaa0a5c1f950c390191b9b7d606c776920df4a496483cdfe7b28a633", func := "loop.example/g00983/laws.FnExactJobsOk", spec := "fnExactJobsOk", unfollowed := true, recurses := true, apart := false }
def FnExactJobsOkSaid : Prop := fnExactJobsOkRow.holds Try.pinned (OpenSpec.ofChange fnExactJobsOkSpec)

/-- ITS FALSE NEIGHBOUR: 'it returns false'. Refute it at one input. -/
def fnExactJobsOkWrong : ChangeSpec := { name := "fnExactJobsOk", fn := fun _ => fun
  | [d] => { results := [.lit (.bool false)], args := [d] }
  | _ => none }
def FnExactJobsOkWrongFalsely : Prop := fnExactJobsOkRow.holds Try.pinned (OpenSpec.ofChange fnExactJobsOkWrong)

/-- 'laws.FnExactMissed': WHATEVER THE INPUT: true; the input reads as it did. -/
def fnExactMissedSpec : ChangeSpec := { name := "fnExactMissed", fn := fun _ => fun
  | [d1, d2] => { results := [.lit (.bool true)], args := [d1, d2] }
  | _ => none }
def fnExactMissedRow : OpenClaim := { program := "ytniiebpibdkgjaa", sum := "9b345956eaa0a5c1f950c390191b9b7d606c776920df4a496483cdfe7b28a633", func := "loop.example/g00983/laws.FnExactMissed", spec := "fnExactMissed", apart := false }
def FnExactMissedSaid : Prop := fnExactMissedRow.holds Try.pinned (OpenSpec.ofChange fnExactMissedSpec)

/-- ITS FALSE NEIGHBOUR: 'it returns false'. Refute it at one input. -/
def fnExactMissedWrong : ChangeSpec := { name := "fnExactMissed", fn := fun _ => fun
  | [d1, d2] => { results := [.lit (.bool false)], args := [d1, d2] }
  | _ => none }
def FnExactMissedWrongFalsely : Prop := fnExactMissedRow.holds Try.pinned (OpenSpec.ofChange fnExactMissedWrong)

/-- 'laws.FnExactFinishTicks': WHATEVER THE INPUT: true; the input reads as it did. -/
def fnExactFinishTicksSpec : ChangeSpec := { name := "fnExactFinishTicks", fn := fun _ => fun
  | [d1, d2] => { results := [.lit (.bool true)], args := [d1, d2] }
  | _ => none }
def fnExactFinishTicksRow : OpenClaim := { program := "ytniiebpibdkgjaa", sum := "9b345956eaa0a5c1f950c390191b9b7d606c776920df4a496483cdfe7b28a633", func := "loop.example/g00983/laws.FnExactFinishTicks", spec := "fnExactFinishTicks", unfollowed := true, recurses := true, apart := false }
def FnExactFinishTicksSaid : Prop := fnExactFinishTicksRow.holds Try.pinned (OpenSpec.ofChange fnExactFinishTicksSpec)

/-- ITS FALSE NEIGHBOUR: 'it returns false'. Refute it at one input. -/
def fnExactFinishTicksWrong : ChangeSpec := { name := "fnExactFinishTicks", fn := fun _ => fun
  | [d1, d2] => { results := [.lit (.bool false)], args := [d1, d2] }
  | _ => none }
def FnExactFinishTicksWrongFalsely : Prop := fnExactFinishTicksRow.holds Try.pinned (OpenSpec.ofChange fnExactFinishTicksWrong)

/-- 'laws.FnDeadlines': WHATEVER THE INPUT: true; the input reads as it did. -/
def fnDeadlinesSpec : ChangeSpec := { name := "fnDeadlines", fn := fun _ => fun
  | [d] => { results := [.lit (.bool true)], args := [d] }
  | _ => none }
def fnDeadlinesRow : OpenClaim := { program := "ytniiebpibdkgjaa", sum := "9b345956eaa0a5c1f950c390191b9b7d606c776920df4a496483cdfe7b28a633", func := "loop.example/g00983/laws.FnDeadlines", spec := "fnDeadlines", unfollowed := true, recurses := true, apart := false }
def FnDeadlinesSaid : Prop := fnDeadlinesRow.holds Try.pinned (OpenSpec.ofChange fnDeadlinesSpec)

/-- ITS FALSE NEIGHBOUR: 'it returns false'. Refute it at one input. -/
def fnDeadlinesWrong : ChangeSpec := { name := "fnDeadlines", fn := fun _ => fun
  | [d] => { results := [.lit (.bool false)], args := [d] }
  | _ => none }
def FnDeadlinesWrongFalsely : Prop := fnDeadlinesRow.holds Try.pinned (OpenSpec.ofChange fnDeadlinesWrong)

/-- 'laws.FnFinished': WHATEVER THE INPUT: true; the input reads as it did. -/
def fnFinishedSpec : ChangeSpec := { name := "fnFinished", fn := fun _ => fun
  | [d] => { results := [.lit (.bool true)], args := [d] }
  | _ => none }
def fnFinishedRow : OpenClaim := { program := "ytniiebpibdkgjaa", sum := "9b345956eaa0a5c1f950c390191b9b7d606c776920df4a496483cdfe7b28a633", func := "loop.example/g00983/laws.FnFinished", spec := "fnFinished", unfollowed := true, recurses := true, apart := false }
def FnFinishedSaid : Prop := fnFinishedRow.holds Try.pinned (OpenSpec.ofChange fnFinishedSpec)

/-- ITS FALSE NEIGHBOUR: 'it returns false'. Refute it at one input. -/
def fnFinishedWrong : ChangeSpec := { name := "fnFinished", fn := fun _ => fun
  | [d] => { results := [.lit (.bool false)], args := [d] }
  | _ => none }
def FnFinishedWrongFalsely : Prop := fnFinishedRow.holds Try.pinned (OpenSpec.ofChange fnFinishedWrong)

/- THE SECOND FORM. 'bulk': how many values and letters a reading holds, each counted each time it is reached (what is shared counts as often as it is met; a slice's spare places count too). A statement '..UptoSaid' is the law's where the arguments, and the package variables that the reading takes, are together of bulk at most 1048576: NARROWER than '..Said'. Prove '..Said' where nothing that the law and all that it calls make is longer than what came in: it says more and counts as full. Else prove '..UptoSaid'. A law counts once. -/
mutual
def uptoBulk {H : Type} : DataW H → Nat
  | .lit (.string bytes) => bytes.length + 1
  | .lit _ => 1
  | .nil => 1
  | .ptr d => uptoBulk d + 1
  | .slice elems spare => uptoBulkAll elems + uptoBulkAll spare + 1
  | .agg parts => uptoBulkAll parts + 1
  | .iface _ d => uptoBulk d + 1
  | .map entries => uptoBulkEntries entries + 1
  | .held _ => 1
def uptoBulkAll {H : Type} : List (DataW H) → Nat
  | [] => 0
  | d :: r => uptoBulk d + uptoBulkAll r
def uptoBulkEntries {H : Type} : List (Lit × DataW H) → Nat
  | [] => 0
  | x :: r => uptoBulkEntry x + uptoBulkEntries r
def uptoBulkEntry {H : Type} : Lit × DataW H → Nat
  | (.string bytes, d) => bytes.length + uptoBulk d + 1
  | (_, d) => uptoBulk d + 1
 end
def uptoSmall : (H : Type) → List (DataW H) → Bool := fun _ ds => decide (uptoBulkAll ds ≤ 1048576)
def OpenSpec.upto (s : _root_.Go.ChangeSpec) : _root_.Go.OpenSpec := { _root_.Go.OpenSpec.ofChange s with cond := some uptoSmall }

/-- 'laws.FnExactWorkBefore', WHERE WHAT IT READS IS OF BULK AT MOST 1048576: true; the input reads as it did. -/
def fnExactWorkBeforeUptoRow : OpenClaim := { program := "ytniiebpibdkgjaa", sum := "9b345956eaa0a5c1f950c390191b9b7d606c776920df4a496483cdfe7b28a633", func := "loop.example/g00983/laws.FnExactWorkBefore", spec := "fnExactWorkBefore", apart := false, narrowed := true }
def FnExactWorkBeforeUptoSaid : Prop := fnExactWorkBeforeUptoRow.holds Try.pinned (OpenSpec.upto fnExactWorkBeforeSpec)

/-- 'laws.FnExactJobsOk', WHERE WHAT IT READS IS OF BULK AT MOST 1048576: true; the input reads as it did. -/
def fnExactJobsOkUptoRow : OpenClaim := { program := "ytniiebpibdkgjaa", sum := "9b345956eaa0a5c1f950c390191b9b7d606c776920df4a496483cdfe7b28a633", func := "loop.example/g00983/laws.FnExactJobsOk", spec := "fnExactJobsOk", unfollowed := true, recurses := true, apart := false, narrowed := true }
def FnExactJobsOkUptoSaid : Prop := fnExactJobsOkUptoRow.holds Try.pinned (OpenSpec.upto fnExactJobsOkSpec)

/-- 'laws.FnExactMissed', WHERE WHAT IT READS IS OF BULK AT MOST 1048576: true; the input reads as it did. -/
def fnExactMissedUptoRow : OpenClaim := { program := "ytniiebpibdkgjaa", sum := "9b345956eaa0a5c1f950c390191b9b7d606c776920df4a496483cdfe7b28a633", func := "loop.example/g00983/laws.FnExactMissed", spec := "fnExactMissed", apart := false, narrowed := true }
def FnExactMissedUptoSaid : Prop := fnExactMissedUptoRow.holds Try.pinned (OpenSpec.upto fnExactMissedSpec)

/-- 'laws.FnExactFinishTicks', WHERE WHAT IT READS IS OF BULK AT MOST 1048576: true; the input reads as it did. -/
def fnExactFinishTicksUptoRow : OpenClaim := { program := "ytniiebpibdkgjaa", sum := "9b345956eaa0a5c1f950c390191b9b7d606c776920df4a496483cdfe7b28a633", func := "loop.example/g00983/laws.FnExactFinishTicks", spec := "fnExactFinishTicks", unfollowed := true, recurses := true, apart := false, narrowed := true }
def FnExactFinishTicksUptoSaid : Prop := fnExactFinishTicksUptoRow.holds Try.pinned (OpenSpec.upto fnExactFinishTicksSpec)

/-- 'laws.FnDeadlines', WHERE WHAT IT READS IS OF BULK AT MOST 1048576: true; the input reads as it did. -/
def fnDeadlinesUptoRow : OpenClaim := { program := "ytniiebpibdkgjaa", sum := "9b345956eaa0a5c1f950c390191b9b7d606c776920df4a496483cdfe7b28a633", func := "loop.example/g00983/laws.FnDeadlines", spec := "fnDeadlines", unfollowed := true, recurses := true, apart := false, narrowed := true }
def FnDeadlinesUptoSaid : Prop := fnDeadlinesUptoRow.holds Try.pinned (OpenSpec.upto fnDeadlinesSpec)

/-- 'laws.FnFinished', WHERE WHAT IT READS IS OF BULK AT MOST 1048576: true; the input reads as it did. -/
def fnFinishedUptoRow : OpenClaim := { program := "ytniiebpibdkgjaa", sum := "9b345956eaa0a5c1f950c390191b9b7d606c776920df4a496483cdfe7b28a633", func := "loop.example/g00983/laws.FnFinished", spec := "fnFinished", unfollowed := true, recurses := true, apart := false, narrowed := true }
def FnFinishedUptoSaid : Prop := fnFinishedUptoRow.holds Try.pinned (OpenSpec.upto fnFinishedSpec)

end Rows
end Go.Proofs.Ytniiebpibdkgjaa
