/-
  No cell of these rows narrows 'for every input' (looked for: loops, veiled, ifaces, maps, wideKeys, modest, calm, conditions, laid).
  DERIVED. THE GIVEN ROWS OF THIS SEAT. 12 by the template 'for every input the law returns true; each argument reads behind the call as it read before'; 0 by the template 'total and deterministic' (their statements: YtmnmafoojniclaaTotals.lean).
  GIVEN WITH THE SEED: the statements are not yours to turn. If you find one false, say at which input.
  Laid BY PROGRAM, IN A SANDBOX (cutbox-rows.mjs): the forced cells as the released guide's own fill.sh prints them over the translation 8672422b24f44ddc… (all of the seat's roots in one cut). By AI agents, Wed Nov 11 2026. No macro, syntax, notation, axiom, sorry.
-/
import Derived.Test.YtmnmafoojniclaaChecked
import GoSem.Claim
import GoSem.ClaimJoined
import GoSem.ClaimMapViews
import Derived.JoinedTies
import Derived.KernelRfl
namespace Go.Proofs.Ytmnmafoojniclaa
/- THE CELL 'sum', in the pinned program and in every row, IS THE sha256 OF THE DUMP (.gsa) THAT YtmnmafoojniclaaProg.lean LOADS. Nothing in Lean hashes anything: it is a label: what it is worth is what the hold of that sum in a sandbox is worth. -/
noncomputable def Try.pinned : Pinned := { name := "ytmnmafoojniclaa", sum := "8672422b24f44ddc117b2cc1096df13b35d230a7696e75a83cd403fd9b3e6779", checked := Try.checked }
namespace Rows
def none {H : Type} : Left H := { results := [], args := [] }

/-- 'laws.FnExactActOk': WHATEVER THE INPUT: true; the input reads as it did. -/
def fnExactActOkSpec : ChangeSpec := { name := "fnExactActOk", fn := fun _ => fun
  | [d] => { results := [.lit (.bool true)], args := [d] }
  | _ => none }
def fnExactActOkRow : OpenClaim := { program := "ytmnmafoojniclaa", sum := "8672422b24f44ddc117b2cc1096df13b35d230a7696e75a83cd403fd9b3e6779", func := "loop.example/g00983/laws.FnExactActOk", spec := "fnExactActOk", apart := false }
def FnExactActOkSaid : Prop := fnExactActOkRow.holds Try.pinned (OpenSpec.ofChange fnExactActOkSpec)

/-- ITS FALSE NEIGHBOUR: 'it returns false'. Refute it at one input. -/
def fnExactActOkWrong : ChangeSpec := { name := "fnExactActOk", fn := fun _ => fun
  | [d] => { results := [.lit (.bool false)], args := [d] }
  | _ => none }
def FnExactActOkWrongFalsely : Prop := fnExactActOkRow.holds Try.pinned (OpenSpec.ofChange fnExactActOkWrong)

/-- 'laws.FnExactPlansOk': WHATEVER THE INPUT: true; the input reads as it did. -/
def fnExactPlansOkSpec : ChangeSpec := { name := "fnExactPlansOk", fn := fun _ => fun
  | [d] => { results := [.lit (.bool true)], args := [d] }
  | _ => none }
def fnExactPlansOkRow : OpenClaim := { program := "ytmnmafoojniclaa", sum := "8672422b24f44ddc117b2cc1096df13b35d230a7696e75a83cd403fd9b3e6779", func := "loop.example/g00983/laws.FnExactPlansOk", spec := "fnExactPlansOk", unfollowed := true, recurses := true, apart := false }
def FnExactPlansOkSaid : Prop := fnExactPlansOkRow.holds Try.pinned (OpenSpec.ofChange fnExactPlansOkSpec)

/-- ITS FALSE NEIGHBOUR: 'it returns false'. Refute it at one input. -/
def fnExactPlansOkWrong : ChangeSpec := { name := "fnExactPlansOk", fn := fun _ => fun
  | [d] => { results := [.lit (.bool false)], args := [d] }
  | _ => none }
def FnExactPlansOkWrongFalsely : Prop := fnExactPlansOkRow.holds Try.pinned (OpenSpec.ofChange fnExactPlansOkWrong)

/-- 'laws.FnExactIdentityRules': WHATEVER THE INPUT: true; the input reads as it did. -/
def fnExactIdentityRulesSpec : ChangeSpec := { name := "fnExactIdentityRules", fn := fun _ => fun
  | [] => { results := [.lit (.bool true)], args := [] }
  | _ => none }
def fnExactIdentityRulesRow : OpenClaim := { program := "ytmnmafoojniclaa", sum := "8672422b24f44ddc117b2cc1096df13b35d230a7696e75a83cd403fd9b3e6779", func := "loop.example/g00983/laws.FnExactIdentityRules", spec := "fnExactIdentityRules", apart := false }
def FnExactIdentityRulesSaid : Prop := fnExactIdentityRulesRow.holds Try.pinned (OpenSpec.ofChange fnExactIdentityRulesSpec)

/-- ITS FALSE NEIGHBOUR: 'it returns false'. Refute it at one input. -/
def fnExactIdentityRulesWrong : ChangeSpec := { name := "fnExactIdentityRules", fn := fun _ => fun
  | [] => { results := [.lit (.bool false)], args := [] }
  | _ => none }
def FnExactIdentityRulesWrongFalsely : Prop := fnExactIdentityRulesRow.holds Try.pinned (OpenSpec.ofChange fnExactIdentityRulesWrong)

/-- 'laws.FnExactRulesOk': WHATEVER THE INPUT: true; the input reads as it did. -/
def fnExactRulesOkSpec : ChangeSpec := { name := "fnExactRulesOk", fn := fun _ => fun
  | [d] => { results := [.lit (.bool true)], args := [d] }
  | _ => none }
def fnExactRulesOkRow : OpenClaim := { program := "ytmnmafoojniclaa", sum := "8672422b24f44ddc117b2cc1096df13b35d230a7696e75a83cd403fd9b3e6779", func := "loop.example/g00983/laws.FnExactRulesOk", spec := "fnExactRulesOk", unfollowed := true, recurses := true, apart := false }
def FnExactRulesOkSaid : Prop := fnExactRulesOkRow.holds Try.pinned (OpenSpec.ofChange fnExactRulesOkSpec)

/-- ITS FALSE NEIGHBOUR: 'it returns false'. Refute it at one input. -/
def fnExactRulesOkWrong : ChangeSpec := { name := "fnExactRulesOk", fn := fun _ => fun
  | [d] => { results := [.lit (.bool false)], args := [d] }
  | _ => none }
def FnExactRulesOkWrongFalsely : Prop := fnExactRulesOkRow.holds Try.pinned (OpenSpec.ofChange fnExactRulesOkWrong)

/-- 'laws.FnExactDelivered': WHATEVER THE INPUT: true; the input reads as it did. -/
def fnExactDeliveredSpec : ChangeSpec := { name := "fnExactDelivered", fn := fun _ => fun
  | [d] => { results := [.lit (.bool true)], args := [d] }
  | _ => none }
def fnExactDeliveredRow : OpenClaim := { program := "ytmnmafoojniclaa", sum := "8672422b24f44ddc117b2cc1096df13b35d230a7696e75a83cd403fd9b3e6779", func := "loop.example/g00983/laws.FnExactDelivered", spec := "fnExactDelivered", apart := false }
def FnExactDeliveredSaid : Prop := fnExactDeliveredRow.holds Try.pinned (OpenSpec.ofChange fnExactDeliveredSpec)

/-- ITS FALSE NEIGHBOUR: 'it returns false'. Refute it at one input. -/
def fnExactDeliveredWrong : ChangeSpec := { name := "fnExactDelivered", fn := fun _ => fun
  | [d] => { results := [.lit (.bool false)], args := [d] }
  | _ => none }
def FnExactDeliveredWrongFalsely : Prop := fnExactDeliveredRow.holds Try.pinned (OpenSpec.ofChange fnExactDeliveredWrong)

/-- 'laws.FnExactReceive': WHATEVER THE INPUT: true; the input reads as it did. -/
def fnExactReceiveSpec : ChangeSpec := { name := "fnExactReceive", fn := fun _ => fun
  | [d1, d2] => { results := [.lit (.bool true)], args := [d1, d2] }
  | _ => none }
def fnExactReceiveRow : OpenClaim := { program := "ytmnmafoojniclaa", sum := "8672422b24f44ddc117b2cc1096df13b35d230a7696e75a83cd403fd9b3e6779", func := "loop.example/g00983/laws.FnExactReceive", spec := "fnExactReceive", apart := false }
def FnExactReceiveSaid : Prop := fnExactReceiveRow.holds Try.pinned (OpenSpec.ofChange fnExactReceiveSpec)

/-- ITS FALSE NEIGHBOUR: 'it returns false'. Refute it at one input. -/
def fnExactReceiveWrong : ChangeSpec := { name := "fnExactReceive", fn := fun _ => fun
  | [d1, d2] => { results := [.lit (.bool false)], args := [d1, d2] }
  | _ => none }
def FnExactReceiveWrongFalsely : Prop := fnExactReceiveRow.holds Try.pinned (OpenSpec.ofChange fnExactReceiveWrong)

/-- 'laws.FnExactBankOk': WHATEVER THE INPUT: true; the input reads as it did. -/
def fnExactBankOkSpec : ChangeSpec := { name := "fnExactBankOk", fn := fun _ => fun
  | [d] => { results := [.lit (.bool true)], args := [d] }
  | _ => none }
def fnExactBankOkRow : OpenClaim := { program := "ytmnmafoojniclaa", sum := "8672422b24f44ddc117b2cc1096df13b35d230a7696e75a83cd403fd9b3e6779", func := "loop.example/g00983/laws.FnExactBankOk", spec := "fnExactBankOk", unfollowed := true, recurses := true, apart := false }
def FnExactBankOkSaid : Prop := fnExactBankOkRow.holds Try.pinned (OpenSpec.ofChange fnExactBankOkSpec)

/-- ITS FALSE NEIGHBOUR: 'it returns false'. Refute it at one input. -/
def fnExactBankOkWrong : ChangeSpec := { name := "fnExactBankOk", fn := fun _ => fun
  | [d] => { results := [.lit (.bool false)], args := [d] }
  | _ => none }
def FnExactBankOkWrongFalsely : Prop := fnExactBankOkRow.holds Try.pinned (OpenSpec.ofChange fnExactBankOkWrong)

/-- 'laws.FnExactWorthOf': WHATEVER THE INPUT: true; the input reads as it did. -/
def fnExactWorthOfSpec : ChangeSpec := { name := "fnExactWorthOf", fn := fun _ => fun
  | [d1, d2] => { results := [.lit (.bool true)], args := [d1, d2] }
  | _ => none }
def fnExactWorthOfRow : OpenClaim := { program := "ytmnmafoojniclaa", sum := "8672422b24f44ddc117b2cc1096df13b35d230a7696e75a83cd403fd9b3e6779", func := "loop.example/g00983/laws.FnExactWorthOf", spec := "fnExactWorthOf", unfollowed := true, recurses := true, apart := false }
def FnExactWorthOfSaid : Prop := fnExactWorthOfRow.holds Try.pinned (OpenSpec.ofChange fnExactWorthOfSpec)

/-- ITS FALSE NEIGHBOUR: 'it returns false'. Refute it at one input. -/
def fnExactWorthOfWrong : ChangeSpec := { name := "fnExactWorthOf", fn := fun _ => fun
  | [d1, d2] => { results := [.lit (.bool false)], args := [d1, d2] }
  | _ => none }
def FnExactWorthOfWrongFalsely : Prop := fnExactWorthOfRow.holds Try.pinned (OpenSpec.ofChange fnExactWorthOfWrong)

/-- 'laws.FnBanks': WHATEVER THE INPUT: true; the input reads as it did. -/
def fnBanksSpec : ChangeSpec := { name := "fnBanks", fn := fun _ => fun
  | [d] => { results := [.lit (.bool true)], args := [d] }
  | _ => none }
def fnBanksRow : OpenClaim := { program := "ytmnmafoojniclaa", sum := "8672422b24f44ddc117b2cc1096df13b35d230a7696e75a83cd403fd9b3e6779", func := "loop.example/g00983/laws.FnBanks", spec := "fnBanks", unfollowed := true, recurses := true, apart := false }
def FnBanksSaid : Prop := fnBanksRow.holds Try.pinned (OpenSpec.ofChange fnBanksSpec)

/-- ITS FALSE NEIGHBOUR: 'it returns false'. Refute it at one input. -/
def fnBanksWrong : ChangeSpec := { name := "fnBanks", fn := fun _ => fun
  | [d] => { results := [.lit (.bool false)], args := [d] }
  | _ => none }
def FnBanksWrongFalsely : Prop := fnBanksRow.holds Try.pinned (OpenSpec.ofChange fnBanksWrong)

/-- 'laws.FnMoreEnergy': WHATEVER THE INPUT: true; the input reads as it did. -/
def fnMoreEnergySpec : ChangeSpec := { name := "fnMoreEnergy", fn := fun _ => fun
  | [d] => { results := [.lit (.bool true)], args := [d] }
  | _ => none }
def fnMoreEnergyRow : OpenClaim := { program := "ytmnmafoojniclaa", sum := "8672422b24f44ddc117b2cc1096df13b35d230a7696e75a83cd403fd9b3e6779", func := "loop.example/g00983/laws.FnMoreEnergy", spec := "fnMoreEnergy", unfollowed := true, recurses := true, apart := false }
def FnMoreEnergySaid : Prop := fnMoreEnergyRow.holds Try.pinned (OpenSpec.ofChange fnMoreEnergySpec)

/-- ITS FALSE NEIGHBOUR: 'it returns false'. Refute it at one input. -/
def fnMoreEnergyWrong : ChangeSpec := { name := "fnMoreEnergy", fn := fun _ => fun
  | [d] => { results := [.lit (.bool false)], args := [d] }
  | _ => none }
def FnMoreEnergyWrongFalsely : Prop := fnMoreEnergyRow.holds Try.pinned (OpenSpec.ofChange fnMoreEnergyWrong)

/-- 'laws.FnExactBanksOk': WHATEVER THE INPUT: true; the input reads as it did. -/
def fnExactBanksOkSpec : ChangeSpec := { name := "fnExactBanksOk", fn := fun _ => fun
  | [d] => { results := [.lit (.bool true)], args := [d] }
  | _ => none }
def fnExactBanksOkRow : OpenClaim := { program := "ytmnmafoojniclaa", sum := "8672422b24f44ddc117b2cc1096df13b35d230a7696e75a83cd403fd9b3e6779", func := "loop.example/g00983/laws.FnExactBanksOk", spec := "fnExactBanksOk", unfollowed := true, recurses := true, apart := false }
def FnExactBanksOkSaid : Prop := fnExactBanksOkRow.holds Try.pinned (OpenSpec.ofChange fnExactBanksOkSpec)

/-- ITS FALSE NEIGHBOUR: 'it returns false'. Refute it at one input. -/
def fnExactBanksOkWrong : ChangeSpec := { name := "fnExactBanksOk", fn := fun _ => fun
  | [d] => { results := [.lit (.bool false)], args := [d] }
  | _ => none }
def FnExactBanksOkWrongFalsely : Prop := fnExactBanksOkRow.holds Try.pinned (OpenSpec.ofChange fnExactBanksOkWrong)

/-- 'laws.FnExactLinkOk': WHATEVER THE INPUT: true; the input reads as it did. -/
def fnExactLinkOkSpec : ChangeSpec := { name := "fnExactLinkOk", fn := fun _ => fun
  | [d1, d2] => { results := [.lit (.bool true)], args := [d1, d2] }
  | _ => none }
def fnExactLinkOkRow : OpenClaim := { program := "ytmnmafoojniclaa", sum := "8672422b24f44ddc117b2cc1096df13b35d230a7696e75a83cd403fd9b3e6779", func := "loop.example/g00983/laws.FnExactLinkOk", spec := "fnExactLinkOk", apart := false }
def FnExactLinkOkSaid : Prop := fnExactLinkOkRow.holds Try.pinned (OpenSpec.ofChange fnExactLinkOkSpec)

/-- ITS FALSE NEIGHBOUR: 'it returns false'. Refute it at one input. -/
def fnExactLinkOkWrong : ChangeSpec := { name := "fnExactLinkOk", fn := fun _ => fun
  | [d1, d2] => { results := [.lit (.bool false)], args := [d1, d2] }
  | _ => none }
def FnExactLinkOkWrongFalsely : Prop := fnExactLinkOkRow.holds Try.pinned (OpenSpec.ofChange fnExactLinkOkWrong)

/- THE SECOND FORM. 'bulk': how many values and letters a reading holds, each counted each time it is reached (what is shared counts as often as it is met; a slice's spare places count too). A statement '..UptoSaid' is the law's where the arguments, and the package variables that the reading takes, are together of bulk at most 1048576: NARROWER than '..Said'. Prove '..Said' where nothing that the law and all that it calls make is longer than what came in: it says more and counts as full. Else prove '..UptoSaid'. A law counts once. -/
mutual
def uptoBulk {H : Type} : DataW H → Nat
  | .lit (.string bytes) => bytes.length + 1
  | .lit _ => 1
  | .nil => 1
  | .ptr d => uptoBulk d + 1
  | .slice elems spare => uptoBulkAll elems + uptoBulkAll spare + 1
  | .agg parts => uptoBulkAll parts + 1
  | .iface _ d => uptoBulk d + 1
  | .map entries => uptoBulkEntries entries + 1
  | .held _ => 1
def uptoBulkAll {H : Type} : List (DataW H) → Nat
  | [] => 0
  | d :: r => uptoBulk d + uptoBulkAll r
def uptoBulkEntries {H : Type} : List (Lit × DataW H) → Nat
  | [] => 0
  | x :: r => uptoBulkEntry x + uptoBulkEntries r
def uptoBulkEntry {H : Type} : Lit × DataW H → Nat
  | (.string bytes, d) => bytes.length + uptoBulk d + 1
  | (_, d) => uptoBulk d + 1
 end
def uptoSmall : (H : Type) → List (DataW H) → Bool := fun _ ds => decide (uptoBulkAll ds ≤ 1048576)
def OpenSpec.upto (s : _root_.Go.ChangeSpec) : _root_.Go.OpenSpec := { _root_.Go.OpenSpec.ofChange s with cond := some uptoSmall }

/-- 'laws.FnExactActOk', WHERE WHAT IT READS IS OF BULK AT MOST 1048576: true; the input reads as it did. -/
def fnExactActOkUptoRow : OpenClaim := { program := "ytmnmafoojniclaa", sum := "8672422b24f44ddc117b2cc1096df13b35d230a7696e75a83cd403fd9b3e6779", func := "loop.example/g00983/laws.FnExactActOk", spec := "fnExactActOk", apart := false, narrowed := true }
def FnExactActOkUptoSaid : Prop := fnExactActOkUptoRow.holds Try.pinned (OpenSpec.upto fnExactActOkSpec)

/-- 'laws.FnExactPlansOk', WHERE WHAT IT READS IS OF BULK AT MOST 1048576: true; the input reads as it did. -/
def fnExactPlansOkUptoRow : OpenClaim := { program := "ytmnmafoojniclaa", sum := "8672422b24f44ddc117b2cc1096df13b35d230a7696e75a83cd403fd9b3e6779", func := "loop.example/g00983/laws.FnExactPlansOk", spec := "fnExactPlansOk", unfollowed := true, recurses := true, apart := false, narrowed := true }
def FnExactPlansOkUptoSaid : Prop := fnExactPlansOkUptoRow.holds Try.pinned (OpenSpec.upto fnExactPlansOkSpec)

/-- 'laws.FnExactIdentityRules', WHERE WHAT IT READS IS OF BULK AT MOST 1048576: true; the input reads as it did. -/
def fnExactIdentityRulesUptoRow : OpenClaim := { program := "ytmnmafoojniclaa", sum := "8672422b24f44ddc117b2cc1096df13b35d230a7696e75a83cd403fd9b3e6779", func := "loop.example/g00983/laws.FnExactIdentityRules", spec := "fnExactIdentityRules", apart := false, narrowed := true }
def FnExactIdentityRulesUptoSaid : Prop := fnExactIdentityRulesUptoRow.holds Try.pinned (OpenSpec.upto fnExactIdentityRulesSpec)

/-- 'laws.FnExactRulesOk', WHERE WHAT IT READS IS OF BULK AT MOST 1048576: true; the input reads as it did. -/
def fnExactRulesOkUptoRow : OpenClaim := { program := "ytmnmafoojniclaa", sum := "8672422b24f44ddc117b2cc1096df13b35d230a7696e75a83cd403fd9b3e6779", func := "loop.example/g00983/laws.FnExactRulesOk", spec := "fnExactRulesOk", unfollowed := true, recurses := true, apart := false, narrowed := true }
def FnExactRulesOkUptoSaid : Prop := fnExactRulesOkUptoRow.holds Try.pinned (OpenSpec.upto fnExactRulesOkSpec)

/-- 'laws.FnExactDelivered', WHERE WHAT IT READS IS OF BULK AT MOST 1048576: true; the input reads as it did. -/
def fnExactDeliveredUptoRow : OpenClaim := { program := "ytmnmafoojniclaa", sum := "8672422b24f44ddc117b2cc1096df13b35d230a7696e75a83cd403fd9b3e6779", func := "loop.example/g00983/laws.FnExactDelivered", spec := "fnExactDelivered", apart := false, narrowed := true }
def FnExactDeliveredUptoSaid : Prop := fnExactDeliveredUptoRow.holds Try.pinned (OpenSpec.upto fnExactDeliveredSpec)

/-- 'laws.FnExactReceive', WHERE WHAT IT READS IS OF BULK AT MOST 1048576: true; the input reads as it did. -/
def fnExactReceiveUptoRow : OpenClaim := { program := "ytmnmafoojniclaa", sum := "8672422b24f44ddc117b2cc1096df13b35d230a7696e75a83cd403fd9b3e6779", func := "loop.example/g00983/laws.FnExactReceive", spec := "fnExactReceive", apart := false, narrowed := true }
def FnExactReceiveUptoSaid : Prop := fnExactReceiveUptoRow.holds Try.pinned (OpenSpec.upto fnExactReceiveSpec)

/-- 'laws.FnExactBankOk', WHERE WHAT IT READS IS OF BULK AT MOST 1048576: true; the input reads as it did. -/
def fnExactBankOkUptoRow : OpenClaim := { program := "ytmnmafoojniclaa", sum := "8672422b24f44ddc117b2cc1096df13b35d230a7696e75a83cd403fd9b3e6779", func := "loop.example/g00983/laws.FnExactBankOk", spec := "fnExactBankOk", unfollowed := true, recurses := true, apart := false, narrowed := true }
def FnExactBankOkUptoSaid : Prop := fnExactBankOkUptoRow.holds Try.pinned (OpenSpec.upto fnExactBankOkSpec)

/-- 'laws.FnExactWorthOf', WHERE WHAT IT READS IS OF BULK AT MOST 1048576: true; the input reads as it did. -/
def fnExactWorthOfUptoRow : OpenClaim := { program := "ytmnmafoojniclaa", sum := "8672422b24f44ddc117b2cc1096df13b35d230a7696e75a83cd403fd9b3e6779", func := "loop.example/g00983/laws.FnExactWorthOf", spec := "fnExactWorthOf", unfollowed := true, recurses := true, apart := false, narrowed := true }
def FnExactWorthOfUptoSaid : Prop := fnExactWorthOfUptoRow.holds Try.pinned (OpenSpec.upto fnExactWorthOfSpec)

/-- 'laws.FnBanks', WHERE WHAT IT READS IS OF BULK AT MOST 1048576: true; the input reads as it did. -/
def fnBanksUptoRow : OpenClaim := { program := "ytmnmafoojniclaa", sum := "8672422b24f44ddc117b2cc1096df13b35d230a7696e75a83cd403fd9b3e6779", func := "loop.example/g00983/laws.FnBanks", spec := "fnBanks", unfollowed := true, recurses := true, apart := false, narrowed := true }
def FnBanksUptoSaid : Prop := fnBanksUptoRow.holds Try.pinned (OpenSpec.upto fnBanksSpec)

/-- 'laws.FnMoreEnergy', WHERE WHAT IT READS IS OF BULK AT MOST 1048576: true; the input reads as it did. -/
def fnMoreEnergyUptoRow : OpenClaim := { program := "ytmnmafoojniclaa", sum := "8672422b24f44ddc117b2cc1096df13b35d230a7696e75a83cd403fd9b3e6779", func := "loop.example/g00983/laws.FnMoreEnergy", spec := "fnMoreEnergy", unfollowed := true, recurses := true, apart := false, narrowed := true }
def FnMoreEnergyUptoSaid : Prop := fnMoreEnergyUptoRow.holds Try.pinned (OpenSpec.upto fnMoreEnergySpec)

/-- 'laws.FnExactBanksOk', WHERE WHAT IT READS IS OF BULK AT MOST 1048576: true; the input reads as it did. -/
def fnExactBanksOkUptoRow : OpenClaim := { program := "ytmnmafoojniclaa", sum := "8672422b24f44ddc117b2cc1096df13b35d230a7696e75a83cd403fd9b3e6779", func := "loop.example/g00983/laws.FnExactBanksOk", spec := "fnExactBanksOk", unfollowed := true, recurses := true, apart := false, narrowed := true }
def FnExactBanksOkUptoSaid : Prop := fnExactBanksOkUptoRow.holds Try.pinned (OpenSpec.upto fnExactBanksOkSpec)

/-- 'laws.FnExactLinkOk', WHERE WHAT IT READS IS OF BULK AT MOST 1048576: true; the input reads as it did. -/
def fnExactLinkOkUptoRow : OpenClaim := { program := "ytmnmafoojniclaa", sum := "8672422b24f44ddc117b2cc1096df13b35d230a7696e75a83cd403fd9b3e6779", func := "loop.example/g00983/laws.FnExactLinkOk", spec := "fnExactLinkOk", apart := false, narrowed := true }
def FnExactLinkOkUptoSaid : Prop := fnExactLinkOkUptoRow.holds Try.pinned (OpenSpec.upto fnExactLinkOkSpec)

end Rows
end Go.Proofs.Ytmnmafoojniclaa
