/- The row of the law FnExactParseAct: for every input that can be read the law's function returns true, and each argument reads afterwards as it read before. No conditions beside the row's own. -/
import Derived.Test.YtefbmfgifjphfaaDoorRows
import Derived.Test.YtefbmfgifjphfaaDoorPFnExactParseActxL
import Derived.Test.YtefbmfgifjphfaaDoorPureFnExactParseAct
import Derived.WalkKit
import Derived.ProofKit
import Derived.OpenShut
import Derived.ShutString
import Derived.ChangeOld
import Derived.Below
import Derived.SizedLaws
import Derived.LaidMore
import Derived.LaidOnce
import Derived.MakeChecks
import Derived.Lib.LaidTab
import Derived.Stop.LaidErr
import Derived.Stop.Joined
import Derived.SevenTiedAt
import Derived.Test.YtefbmfgifjphfaaDoorCards
import Derived.Test.YtefbmfgifjphfaaDoorTie
namespace Go.Proofs.YtefbmfgifjphfaaDoor.fnExactParseAct
open Go.ChangeShapes Go.WideShapes Go.ChangeAt Go.RowKit Go.Proofs.YtefbmfgifjphfaaDoor.XOpen Go.Proofs.YtefbmfgifjphfaaDoor.PFnExactParseAct Go.Proofs.YtefbmfgifjphfaaDoorW.PrintWords
open Go.ChangeMaps (open_string shut_string)
set_option linter.unusedVariables false
theorem own : ownKnob Tryd.prog.godebug = none := by kernel_rfl
theorem laidOut : laidOutB Tryd.prog = true := by kernel_rfl
theorem door_met (os : Os) (args : Array Value) : laidMetH Tryd.prog Rows.fnExactParseActRow.laid ((World.doorLaid Tryd.prog 86 os).forCall (fun _ _ => 0) ⟨#[], args, []⟩).memory :=
  laidMetH_of_parts3 (fuel := 8) (laidMet_of_run' 8 (by kernel_rfl) (by kernel_rfl)) (by kernel_rfl) (by kernel_rfl)
theorem star_err : "*" ++ "errors.errorString" = "*errors.errorString" := by decide
theorem row_err (u : TypeId) (h : Tryd.prog.typeName? 3 u = some "*errors.errorString") : u = 121 :=
  typeName_ptr_named (nm := "errors.errorString") (by rw [star_err]; kernel_rfl) (by kernel_rfl) (by decide) u (by rw [star_err]; exact h)
set_option maxRecDepth 100000 in
theorem tab_of_laid {W : World} (h : laidMetH Tryd.prog Rows.fnExactParseActRow.laid W) : TabW W := by
  rw [Go.MakeChecks.laidMetH_plain _ _ _ (by kernel_rfl)] at h
  refine ⟨Lib.tabIs_of_head (g := 5) (by kernel_rfl) (t := 126) (by kernel_rfl) Tryd.underlying126 (by kernel_rfl) (by kernel_rfl) (by kernel_rfl) (h.tail.tail), Lib.tabIs_of_head (g := 0) (by kernel_rfl) (t := 76) (by kernel_rfl) Tryd.underlying76 (by kernel_rfl) (by kernel_rfl) (by kernel_rfl) (h.tail.tail.tail.tail.tail.tail), ?_, ?_⟩
  · obtain ⟨a, _, e, _⟩ := laid_sentinel (h.tail.tail.tail.tail) (g := 2) (by kernel_rfl) (by kernel_rfl) Tryd.underlying57 row_err Tryd.underlying121 Tryd.underlying123 rfl rfl Tryd.underlying9 (by kernel_rfl) (by kernel_rfl)
    exact ⟨_, _, e⟩
  · obtain ⟨a, _, e, _⟩ := laid_sentinel (h.tail.tail.tail) (g := 3) (by kernel_rfl) (by kernel_rfl) Tryd.underlying57 row_err Tryd.underlying121 Tryd.underlying123 rfl rfl Tryd.underlying9 (by kernel_rfl) (by kernel_rfl)
    exact ⟨_, _, e⟩
set_option maxRecDepth 100000 in
theorem lifted (os : Os) (started : os.Started) (H : Type) (enc : TypeId × Value → H) :
    ReturnsInHanded {} Tryd.checked os 6 .any (fun w args => (Rows.fnExactParseActSpec.pre enc Tryd.prog Tryd.f6 [] false w args ∧ laidMetH Tryd.prog Rows.fnExactParseActRow.laid w) ∧ sizedMet enc Tryd.prog Tryd.f6 (OpenSpec.ofChange Rows.fnExactParseActSpec) false w args) (Rows.fnExactParseActSpec.post enc Tryd.prog Tryd.f6 false true false false) := by
  refine returnsInHanded_of_change_and (C := Tryd.checked) (X := fun w _ => laidMetH Tryd.prog Rows.fnExactParseActRow.laid w) (fun _ _ _ hh h => h.of_heap hh) own started (by kernel_rfl) Tryd.func6
    (ChangeSpec.witness_shaped (enc := enc) (C := Tryd.checked) (os := os) (X := fun w _ => laidMetH Tryd.prog Rows.fnExactParseActRow.laid w) false (World.doorLaid Tryd.prog 86 os) #[.string ByteArray.empty] 8 rfl (World.shaped_of_RefB (by kernel_rfl) (by kernel_rfl)) (by kernel_rfl) (by kernel_rfl) (by kernel_rfl) (door_met os _)) ?_
  intro W base args ds gs before hval0 hW hcnd hsz0 hL _
  have htab := tab_of_laid hL
  have hval : ∀ (j : Nat) t v, Tryd.f6.params[j]? = some t → args[j]? = some v → Value.okWide Tryd.prog W .any base t v := hval0
  have hW' := hW
  obtain ⟨p, q, hA0, hV, rfl, hfz, hnd⟩ := hW
  have hA : DataW.TrodAll enc Tryd.prog W 0 (fun _ => true) true Tryd.f6.params.toList args.toList ds p := hA0
  rw [Tryd.params6] at hA hval
  obtain ⟨v0, vs0, d0, ds0, p0, q0, hargs, rfl, rfl, h0, r0⟩ := trodAll_cons hA
  obtain ⟨rfl, rfl, rfl⟩ := trodAll_nil r0
  obtain rfl : args = #[v0] := by cases args; simp_all
  obtain ⟨rfl, rfl⟩ := trodVars_none hV
  obtain ⟨a0, rfl, rfl, rfl, y0⟩ := open_string Tryd.underlying9 (hval 0 9 v0 rfl rfl) h0
  clear hA0 hval0 hsz0
  obtain ⟨k, h⟩ := Pure.FnExactParseAct a0 y0
  refine (laws_FnExactParseAct.calls k a0 true W h htab).mono fun e W' ⟨he, bel0⟩ => ?_
  have bel : Below W.heap.size W W' := bel0
  subst he
  exact ⟨_, rfl, _, _, _, [], _, [], hW', trodAll_mk1 (shut_bool Tryd.underlying4 _), (trodAll_cons_mk (shut_string Tryd.underlying9 y0) trodAll_mk0), rfl, bel.frame _, fun h => by cases h⟩
theorem over : Rows.fnExactParseActRow.holds Tryd.pinned (OpenSpec.ofChange Rows.fnExactParseActSpec) :=
  OpenClaim.holds_of_wide 6 Tryd.f6 rfl rfl rfl rfl rfl rfl rfl ⟨rfl, rfl, rfl, rfl, rfl⟩ rfl rfl rfl rfl rfl (by kernel_rfl) Tryd.func6 (by kernel_rfl)
    (of_decide_eq_true (by kernel_rfl)) (by unfold Func.isWrapper; first | (rw [if_pos (by decide +kernel)]; kernel_rfl) | (rw [if_neg (by decide +kernel)]; exact ⟨rfl, rfl⟩))
    (fun os started H enc _ => lifted os started H enc)
end Go.Proofs.YtefbmfgifjphfaaDoor.fnExactParseAct
namespace Go.Proofs.YtefbmfgifjphfaaDoor
/-- The row. -/
theorem fnExactParseAct_holds : Rows.FnExactParseActSaid := fnExactParseAct.over
/-- THE TIED CARD: the row, its listed tables tied to the program's text. -/
theorem fnExactParseAct_card : Rows.FnExactParseActCardSaid :=
  Claim7.holds_tied_plain_at .later [] _ true _ true fnExactParseAct_holds (fun _ h => by cases h) (by kernel_rfl) (fun _ h => by cases h) fnExactParseAct_row_tie rfl ⟨rfl, rfl⟩ (by kernel_rfl) rfl
    (fun f fn hf hfn => by
      obtain rfl : f = 6 := Option.some.inj ((show Tryd.prog.funcNamed Rows.fnExactParseActRow.func = some 6 by kernel_rfl).symm.trans hf) |>.symm
      obtain rfl : fn = Tryd.f6 := (Option.some.inj (Tryd.func6.symm.trans hfn)).symm
      exact ⟨by kernel_rfl, fun j t ht => by
        have hall : (Tryd.f6.params.all fun u => !Tryd.prog.wantsStandIn u) = true := by kernel_rfl
        have hm : t ∈ Tryd.f6.params := Array.mem_of_getElem? ht
        exact (show Tryd.prog.wantsStandIn t = false by simpa using (Array.all_eq_true_iff_forall_mem.1 hall) t hm)⟩)
    (by kernel_rfl)
#print axioms fnExactParseAct_card
end Go.Proofs.YtefbmfgifjphfaaDoor
