/-
  No cell of these rows narrows 'for every input' (looked for: loops, veiled, ifaces, maps, wideKeys, modest, calm, conditions, laid).
  DERIVED. THE GIVEN ROWS OF THIS SEAT. 5 by the template 'for every input the law returns true; each argument reads behind the call as it read before'; 0 by the template 'total and deterministic' (their statements: YtmapddgocpkgeaaGreatTotals.lean).
  GIVEN WITH THE SEED: the statements are not yours to turn. If you find one false, say at which input.
  Laid BY PROGRAM, IN A SANDBOX (cutbox-rows.mjs): the forced cells as the released guide's own fill.sh prints them over the translation d658a5222739de42… (all of the seat's roots in one cut). By AI agents, Wed Nov 11 2026. No macro, syntax, notation, axiom, sorry.
-/
import Derived.Test.YtmapddgocpkgeaaGreatChecked
import GoSem.Claim
import GoSem.ClaimJoined
import GoSem.ClaimMapViews
import Derived.JoinedTies
import Derived.KernelRfl
namespace Go.Proofs.YtmapddgocpkgeaaGreat
/- THE CELL 'sum', in the pinned program and in every row, IS THE sha256 OF THE DUMP (.gsa) THAT YtmapddgocpkgeaaGreatProg.lean LOADS. Nothing in Lean hashes anything: it is a label: what it is worth is what the hold of that sum in a sandbox is worth. -/
noncomputable def Tryz.pinned : Pinned := { name := "ytmapddgocpkgeaagreat", sum := "d658a5222739de424cd841de33a43027bea41d4164226453859f091746140ff9", checked := Tryz.checked }
namespace Rows
def none {H : Type} : Left H := { results := [], args := [] }

/-- 'laws.FnNodes': WHATEVER THE INPUT: true; the input reads as it did. -/
def fnNodesSpec : ChangeSpec := { name := "fnNodes", fn := fun _ => fun
  | [d] => { results := [.lit (.bool true)], args := [d] }
  | _ => none }
def fnNodesRow : OpenClaim := { program := "ytmapddgocpkgeaagreat", sum := "d658a5222739de424cd841de33a43027bea41d4164226453859f091746140ff9", func := "loop.example/g00983/laws.FnNodes", spec := "fnNodes", unfollowed := true, recurses := true, apart := false }
def FnNodesSaid : Prop := fnNodesRow.holds Tryz.pinned (OpenSpec.ofChange fnNodesSpec)

/-- ITS FALSE NEIGHBOUR: 'it returns false'. Refute it at one input. -/
def fnNodesWrong : ChangeSpec := { name := "fnNodes", fn := fun _ => fun
  | [d] => { results := [.lit (.bool false)], args := [d] }
  | _ => none }
def FnNodesWrongFalsely : Prop := fnNodesRow.holds Tryz.pinned (OpenSpec.ofChange fnNodesWrong)

/-- 'laws.FnExactTickNode': WHATEVER THE INPUT: true; the input reads as it did. -/
def fnExactTickNodeSpec : ChangeSpec := { name := "fnExactTickNode", fn := fun _ => fun
  | [d1, d2] => { results := [.lit (.bool true)], args := [d1, d2] }
  | _ => none }
def fnExactTickNodeRow : OpenClaim := { program := "ytmapddgocpkgeaagreat", sum := "d658a5222739de424cd841de33a43027bea41d4164226453859f091746140ff9", func := "loop.example/g00983/laws.FnExactTickNode", spec := "fnExactTickNode", unfollowed := true, recurses := true, apart := false }
def FnExactTickNodeSaid : Prop := fnExactTickNodeRow.holds Tryz.pinned (OpenSpec.ofChange fnExactTickNodeSpec)

/-- ITS FALSE NEIGHBOUR: 'it returns false'. Refute it at one input. -/
def fnExactTickNodeWrong : ChangeSpec := { name := "fnExactTickNode", fn := fun _ => fun
  | [d1, d2] => { results := [.lit (.bool false)], args := [d1, d2] }
  | _ => none }
def FnExactTickNodeWrongFalsely : Prop := fnExactTickNodeRow.holds Tryz.pinned (OpenSpec.ofChange fnExactTickNodeWrong)

/-- 'laws.FnExactDoAct': WHATEVER THE INPUT: true; the input reads as it did. -/
def fnExactDoActSpec : ChangeSpec := { name := "fnExactDoAct", fn := fun _ => fun
  | [d1, d2] => { results := [.lit (.bool true)], args := [d1, d2] }
  | _ => none }
def fnExactDoActRow : OpenClaim := { program := "ytmapddgocpkgeaagreat", sum := "d658a5222739de424cd841de33a43027bea41d4164226453859f091746140ff9", func := "loop.example/g00983/laws.FnExactDoAct", spec := "fnExactDoAct", unfollowed := true, recurses := true, apart := false }
def FnExactDoActSaid : Prop := fnExactDoActRow.holds Tryz.pinned (OpenSpec.ofChange fnExactDoActSpec)

/-- ITS FALSE NEIGHBOUR: 'it returns false'. Refute it at one input. -/
def fnExactDoActWrong : ChangeSpec := { name := "fnExactDoAct", fn := fun _ => fun
  | [d1, d2] => { results := [.lit (.bool false)], args := [d1, d2] }
  | _ => none }
def FnExactDoActWrongFalsely : Prop := fnExactDoActRow.holds Tryz.pinned (OpenSpec.ofChange fnExactDoActWrong)

/-- 'laws.FnExactRunActs': WHATEVER THE INPUT: true; the input reads as it did. -/
def fnExactRunActsSpec : ChangeSpec := { name := "fnExactRunActs", fn := fun _ => fun
  | [d1, d2] => { results := [.lit (.bool true)], args := [d1, d2] }
  | _ => none }
def fnExactRunActsRow : OpenClaim := { program := "ytmapddgocpkgeaagreat", sum := "d658a5222739de424cd841de33a43027bea41d4164226453859f091746140ff9", func := "loop.example/g00983/laws.FnExactRunActs", spec := "fnExactRunActs", unfollowed := true, recurses := true, apart := false }
def FnExactRunActsSaid : Prop := fnExactRunActsRow.holds Tryz.pinned (OpenSpec.ofChange fnExactRunActsSpec)

/-- ITS FALSE NEIGHBOUR: 'it returns false'. Refute it at one input. -/
def fnExactRunActsWrong : ChangeSpec := { name := "fnExactRunActs", fn := fun _ => fun
  | [d1, d2] => { results := [.lit (.bool false)], args := [d1, d2] }
  | _ => none }
def FnExactRunActsWrongFalsely : Prop := fnExactRunActsRow.holds Tryz.pinned (OpenSpec.ofChange fnExactRunActsWrong)

/-- 'laws.FnExactIsReplay': WHATEVER THE INPUT: true; the input reads as it did. -/
def fnExactIsReplaySpec : ChangeSpec := { name := "fnExactIsReplay", fn := fun _ => fun
  | [d1, d2, d3] => { results := [.lit (.bool true)], args := [d1, d2, d3] }
  | _ => none }
def fnExactIsReplayRow : OpenClaim := { program := "ytmapddgocpkgeaagreat", sum := "d658a5222739de424cd841de33a43027bea41d4164226453859f091746140ff9", func := "loop.example/g00983/laws.FnExactIsReplay", spec := "fnExactIsReplay", unfollowed := true, recurses := true, apart := false }
def FnExactIsReplaySaid : Prop := fnExactIsReplayRow.holds Tryz.pinned (OpenSpec.ofChange fnExactIsReplaySpec)

/-- ITS FALSE NEIGHBOUR: 'it returns false'. Refute it at one input. -/
def fnExactIsReplayWrong : ChangeSpec := { name := "fnExactIsReplay", fn := fun _ => fun
  | [d1, d2, d3] => { results := [.lit (.bool false)], args := [d1, d2, d3] }
  | _ => none }
def FnExactIsReplayWrongFalsely : Prop := fnExactIsReplayRow.holds Tryz.pinned (OpenSpec.ofChange fnExactIsReplayWrong)

/- THE SECOND FORM. 'bulk': how many values and letters a reading holds, each counted each time it is reached (what is shared counts as often as it is met; a slice's spare places count too). A statement '..UptoSaid' is the law's where the arguments, and the package variables that the reading takes, are together of bulk at most 1048576: NARROWER than '..Said'. Prove '..Said' where nothing that the law and all that it calls make is longer than what came in: it says more and counts as full. Else prove '..UptoSaid'. A law counts once. -/
mutual
def uptoBulk {H : Type} : DataW H → Nat
  | .lit (.string bytes) => bytes.length + 1
  | .lit _ => 1
  | .nil => 1
  | .ptr d => uptoBulk d + 1
  | .slice elems spare => uptoBulkAll elems + uptoBulkAll spare + 1
  | .agg parts => uptoBulkAll parts + 1
  | .iface _ d => uptoBulk d + 1
  | .map entries => uptoBulkEntries entries + 1
  | .held _ => 1
def uptoBulkAll {H : Type} : List (DataW H) → Nat
  | [] => 0
  | d :: r => uptoBulk d + uptoBulkAll r
def uptoBulkEntries {H : Type} : List (Lit × DataW H) → Nat
  | [] => 0
  | x :: r => uptoBulkEntry x + uptoBulkEntries r
def uptoBulkEntry {H : Type} : Lit × DataW H → Nat
  | (.string bytes, d) => bytes.length + uptoBulk d + 1
  | (_, d) => uptoBulk d + 1
 end
def uptoSmall : (H : Type) → List (DataW H) → Bool := fun _ ds => decide (uptoBulkAll ds ≤ 1048576)
def OpenSpec.upto (s : _root_.Go.ChangeSpec) : _root_.Go.OpenSpec := { _root_.Go.OpenSpec.ofChange s with cond := some uptoSmall }

/-- 'laws.FnNodes', WHERE WHAT IT READS IS OF BULK AT MOST 1048576: true; the input reads as it did. -/
def fnNodesUptoRow : OpenClaim := { program := "ytmapddgocpkgeaagreat", sum := "d658a5222739de424cd841de33a43027bea41d4164226453859f091746140ff9", func := "loop.example/g00983/laws.FnNodes", spec := "fnNodes", unfollowed := true, recurses := true, apart := false, narrowed := true }
def FnNodesUptoSaid : Prop := fnNodesUptoRow.holds Tryz.pinned (OpenSpec.upto fnNodesSpec)

/-- 'laws.FnExactTickNode', WHERE WHAT IT READS IS OF BULK AT MOST 1048576: true; the input reads as it did. -/
def fnExactTickNodeUptoRow : OpenClaim := { program := "ytmapddgocpkgeaagreat", sum := "d658a5222739de424cd841de33a43027bea41d4164226453859f091746140ff9", func := "loop.example/g00983/laws.FnExactTickNode", spec := "fnExactTickNode", unfollowed := true, recurses := true, apart := false, narrowed := true }
def FnExactTickNodeUptoSaid : Prop := fnExactTickNodeUptoRow.holds Tryz.pinned (OpenSpec.upto fnExactTickNodeSpec)

/-- 'laws.FnExactDoAct', WHERE WHAT IT READS IS OF BULK AT MOST 1048576: true; the input reads as it did. -/
def fnExactDoActUptoRow : OpenClaim := { program := "ytmapddgocpkgeaagreat", sum := "d658a5222739de424cd841de33a43027bea41d4164226453859f091746140ff9", func := "loop.example/g00983/laws.FnExactDoAct", spec := "fnExactDoAct", unfollowed := true, recurses := true, apart := false, narrowed := true }
def FnExactDoActUptoSaid : Prop := fnExactDoActUptoRow.holds Tryz.pinned (OpenSpec.upto fnExactDoActSpec)

/-- 'laws.FnExactRunActs', WHERE WHAT IT READS IS OF BULK AT MOST 1048576: true; the input reads as it did. -/
def fnExactRunActsUptoRow : OpenClaim := { program := "ytmapddgocpkgeaagreat", sum := "d658a5222739de424cd841de33a43027bea41d4164226453859f091746140ff9", func := "loop.example/g00983/laws.FnExactRunActs", spec := "fnExactRunActs", unfollowed := true, recurses := true, apart := false, narrowed := true }
def FnExactRunActsUptoSaid : Prop := fnExactRunActsUptoRow.holds Tryz.pinned (OpenSpec.upto fnExactRunActsSpec)

/-- 'laws.FnExactIsReplay', WHERE WHAT IT READS IS OF BULK AT MOST 1048576: true; the input reads as it did. -/
def fnExactIsReplayUptoRow : OpenClaim := { program := "ytmapddgocpkgeaagreat", sum := "d658a5222739de424cd841de33a43027bea41d4164226453859f091746140ff9", func := "loop.example/g00983/laws.FnExactIsReplay", spec := "fnExactIsReplay", unfollowed := true, recurses := true, apart := false, narrowed := true }
def FnExactIsReplayUptoSaid : Prop := fnExactIsReplayUptoRow.holds Tryz.pinned (OpenSpec.upto fnExactIsReplaySpec)

end Rows
end Go.Proofs.YtmapddgocpkgeaaGreat
