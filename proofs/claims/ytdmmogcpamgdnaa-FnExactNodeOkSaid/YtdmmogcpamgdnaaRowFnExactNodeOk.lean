/- The row of the law FnExactNodeOk: for every input that can be read the law's function returns true, and each argument reads afterwards as it read before. No conditions beside the row's own. -/
import Derived.Test.YtdmmogcpamgdnaaRows
import Derived.Test.YtdmmogcpamgdnaaPFnExactNodeOkxL
import Derived.Test.YtdmmogcpamgdnaaPureFnExactNodeOk
import Derived.WalkKit
import Derived.ProofKit
import Derived.OpenShut
import Derived.ShutString
import Derived.ChangeOld
import Derived.Below
import Derived.SizedLaws
namespace Go.Proofs.Ytdmmogcpamgdnaa.fnExactNodeOk
open Go.ChangeShapes Go.WideShapes Go.ChangeAt Go.RowKit Go.Proofs.Ytdmmogcpamgdnaa.XOpen Go.Proofs.Ytdmmogcpamgdnaa.PFnExactNodeOk Go.Proofs.YtdmmogcpamgdnaaW.PrintWords
open Go.ChangeMaps (open_string shut_string)
set_option linter.unusedVariables false
theorem own : ownKnob Try.prog.godebug = none := by kernel_rfl
theorem laidOut : laidOutB Try.prog = true := by kernel_rfl
set_option maxRecDepth 100000 in
theorem lifted (os : Os) (started : os.Started) (H : Type) (enc : TypeId × Value → H) :
    ReturnsInHanded {} Try.checked os 7 .any (Rows.fnExactNodeOkSpec.pre6 enc Try.prog Try.f7 Rows.fnExactNodeOkRow.domain false) (Rows.fnExactNodeOkSpec.post enc Try.prog Try.f7 false true false false) := by
  refine returnsInHanded_of_change_sized (C := Try.checked) own started (by kernel_rfl) Try.func7
    (ChangeSpec.witness6 (enc := enc) (C := Try.checked) false ⟨#[], #[(.agg #[(.slice none 0 0), (.slice none 0 0), (.slice none 0 0), (.int .i64 0), (.int .i64 0), (.int .i64 0), (.int .i64 0), (.int .i64 0), (.int .i64 0), (.int .i64 0), (.int .i64 0), (.slice none 0 0), (.int .i64 0)])], []⟩ 8 (by kernel_rfl) (by kernel_rfl) (by kernel_rfl) (by kernel_rfl)) ?_
  intro W base args ds gs before hval0 hW hcnd hsz0 _
  have hval : ∀ (j : Nat) t v, Try.f7.params[j]? = some t → args[j]? = some v → Value.okWide Try.prog W .any base t v := hval0
  have hW' := hW
  obtain ⟨p, q, hA0, hV, rfl, hfz, hnd⟩ := hW
  have hA : DataW.TrodAll enc Try.prog W 0 (fun _ => true) true Try.f7.params.toList args.toList ds p := hA0
  rw [Try.params7] at hA hval
  obtain ⟨v0, vs0, d0, ds0, p0, q0, hargs, rfl, rfl, h0, r0⟩ := trodAll_cons hA
  obtain ⟨rfl, rfl, rfl⟩ := trodAll_nil r0
  obtain rfl : args = #[v0] := by cases args; simp_all
  obtain ⟨rfl, rfl⟩ := trodVars_none hV
  have k0 := h0
  have lt0 : ∀ x ∈ p0, x.block < W.heap.size := by obtain ⟨m, hm⟩ := k0; exact DataW.trod_lt m _ _ _ hm
  obtain ⟨cs0, rfl, _⟩ := okWide_struct Try.underlying59 (hval 0 59 v0 rfl rfl)
  obtain ⟨fu0, hf0⟩ := h0
  obtain ⟨y0, hK0, hG0⟩ := opens59.out enc W _ _ _ _ _ hf0
  obtain ⟨cl0, hcl0⟩ : ∃ cl, cl = (Value.agg cs0).cells.toList := ⟨_, rfl⟩
  rw [← hcl0] at hK0
  obtain ⟨_, _, rfl, ⟨A0_0_0, c0_0_0, rfl, hc0_0_0, hr0_0_0⟩, ⟨_, _, rfl, ⟨A0_1, c0_1, rfl, hc0_1, hr0_1⟩, ⟨_, _, rfl, ⟨A0_2, c0_2, rfl, hc0_2, hr0_2⟩, ⟨_, _, rfl, rfl, ⟨_, _, rfl, ⟨_, _, rfl, rfl, ⟨_, _, rfl, rfl, ⟨_, _, rfl, rfl, rfl⟩⟩⟩, ⟨_, _, rfl, ⟨_, _, rfl, rfl, rfl⟩, ⟨_, _, rfl, ⟨_, _, rfl, rfl, ⟨A0_6_1_0, c0_6_1_0, rfl, hc0_6_1_0, hr0_6_1_0⟩⟩, rfl⟩⟩⟩⟩⟩⟩⟩ := hK0
  obtain rfl : cs0 = #[.slice A0_0_0 y0.f0.f0.length c0_0_0, .slice A0_1 y0.f1.length c0_1, .slice A0_2 y0.f2.length c0_2, .int .i64 y0.f3, .int .i64 y0.f4.f0, .int .i64 y0.f4.f1, .int .i64 y0.f4.f2, .int .i64 y0.f4.f3, .int .i64 y0.f5.f0, .int .i64 y0.f5.f1, .int .i64 y0.f6.f0, .slice A0_6_1_0 y0.f6.f1.f0.length c0_6_1_0, .int .i64 y0.f7] := by
    apply Array.toList_inj.1
    exact hcl0.symm
  clear hA0 hval0 hsz0
  obtain ⟨k, h⟩ := Pure.FnExactNodeOk y0.f0.f0 y0.f1 y0.f2 y0.f3 y0.f4.f0 y0.f4.f1 y0.f4.f2 y0.f4.f3 y0.f5.f0 y0.f5.f1 y0.f6.f0 y0.f6.f1.f0 y0.f7 hG0
  refine (laws_FnExactNodeOk.calls k _ _ y0.f0.f0 _ _ y0.f1 _ _ y0.f2 y0.f3 y0.f4.f0 y0.f4.f1 y0.f4.f2 y0.f4.f3 y0.f5.f0 y0.f5.f1 y0.f6.f0 _ _ y0.f6.f1.f0 y0.f7 true W hr0_0_0 hc0_0_0 hr0_1 hc0_1 hr0_2 hc0_2 hr0_6_1_0 hc0_6_1_0 h).mono fun e W' ⟨he, bel0⟩ => ?_
  have bel : Below W.heap.size W W' := bel0
  subst he
  exact ⟨_, rfl, _, _, _, [], _, [], hW', trodAll_mk1 (shut_bool Try.underlying4 _), (trodAll_cons_mk (Below.trod laidOut (by kernel_rfl) (of_decide_eq_true (by kernel_rfl)) k0 bel lt0) trodAll_mk0), rfl, bel.frame _, fun h => by cases h⟩
theorem over : Rows.fnExactNodeOkRow.holds Try.pinned (OpenSpec.ofChange Rows.fnExactNodeOkSpec) :=
  OpenClaim.holds_of_wide 7 Try.f7 rfl rfl rfl rfl rfl rfl rfl ⟨rfl, rfl, rfl, rfl, rfl⟩ rfl rfl rfl rfl rfl (by kernel_rfl) Try.func7 (by kernel_rfl)
    (of_decide_eq_true (by kernel_rfl)) (by unfold Func.isWrapper; first | (rw [if_pos (by decide +kernel)]; kernel_rfl) | (rw [if_neg (by decide +kernel)]; exact ⟨rfl, rfl⟩))
    (fun os started H enc _ => lifted os started H enc)
end Go.Proofs.Ytdmmogcpamgdnaa.fnExactNodeOk
namespace Go.Proofs.Ytdmmogcpamgdnaa
/-- The row. -/
theorem fnExactNodeOk_holds : Rows.FnExactNodeOkSaid := fnExactNodeOk.over
#print axioms fnExactNodeOk_holds
end Go.Proofs.Ytdmmogcpamgdnaa
