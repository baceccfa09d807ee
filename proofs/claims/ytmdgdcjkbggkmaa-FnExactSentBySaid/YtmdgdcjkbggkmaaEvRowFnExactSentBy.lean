/- The row of the law FnExactSentBy: for every input that can be read the law's function returns true, and each argument reads afterwards as it read before. No conditions beside the row's own. -/
import Derived.Test.YtmdgdcjkbggkmaaRows
import Derived.Test.YtmdgdcjkbggkmaaEvLFnExactSentBy
import Derived.Test.YtmdgdcjkbggkmaaPureFnExactSentBy
import Derived.WalkKit
import Derived.ProofKit
import Derived.OpenShut
import Derived.ShutString
import Derived.ChangeOld
import Derived.Below
import Derived.SizedLaws
namespace Go.Proofs.Ytmdgdcjkbggkmaa.fnExactSentBy
open Go.ChangeShapes Go.WideShapes Go.ChangeAt Go.RowKit Go.Proofs.YtmdgdcjkbggkmaaEv Go.Proofs.Ytmdgdcjkbggkmaa.Ev
open Go.ChangeMaps (open_string shut_string)
set_option linter.unusedVariables false
theorem own : ownKnob Try.prog.godebug = none := by kernel_rfl
theorem laidOut : laidOutB Try.prog = true := by kernel_rfl
set_option maxRecDepth 100000 in
theorem lifted (os : Os) (started : os.Started) (H : Type) (enc : TypeId × Value → H) :
    ReturnsInHanded {} Try.checked os 4 .any (Rows.fnExactSentBySpec.pre6 enc Try.prog Try.f4 Rows.fnExactSentByRow.domain false) (Rows.fnExactSentBySpec.post enc Try.prog Try.f4 false true false false) := by
  refine returnsInHanded_of_change_sized (C := Try.checked) own started (by kernel_rfl) Try.func4
    (ChangeSpec.witness6 (enc := enc) (C := Try.checked) false ⟨#[], #[(.agg #[.slice none 0 0, .slice none 0 0, .slice none 0 0, .int .i64 0, .int .i64 0, .int .i64 0, .int .i64 0, .int .i64 0, .int .i64 0, .int .i64 0, .int .i64 0, .slice none 0 0, .int .i64 0])], []⟩ 8 (by kernel_rfl) (by kernel_rfl) (by kernel_rfl) (by kernel_rfl)) ?_
  intro W base args ds gs before hval0 hW hcnd hsz0 _
  have hval : ∀ (j : Nat) t v, Try.f4.params[j]? = some t → args[j]? = some v → Value.okWide Try.prog W .any base t v := hval0
  have hW' := hW
  obtain ⟨p, q, hA0, hV, rfl, hfz, hnd⟩ := hW
  have hA : DataW.TrodAll enc Try.prog W 0 (fun _ => true) true Try.f4.params.toList args.toList ds p := hA0
  rw [Try.params4] at hA hval
  obtain ⟨v0, vs0, d0, ds0, p0, q0, hargs, rfl, rfl, h0, r0⟩ := trodAll_cons hA
  obtain ⟨rfl, rfl, rfl⟩ := trodAll_nil r0
  obtain rfl : args = #[v0] := by cases args; simp_all
  obtain ⟨rfl, rfl⟩ := trodVars_none hV
  have k0 := h0
  have lt0 : ∀ x ∈ p0, x.block < W.heap.size := by obtain ⟨m, hm⟩ := k0; exact DataW.trod_lt m _ _ _ hm
  obtain ⟨cs0, rfl, _⟩ := okWide_struct Try.underlying58 (hval 0 58 v0 rfl rfl)
  obtain ⟨fu0, hf0⟩ := h0
  obtain ⟨y0, hI0, hG0⟩ := op58.out enc W _ _ _ _ _ hf0
  clear hA0 hval0 hsz0
  have h := Pure.FnExactSentBy y0.f0.f0 y0.f1 y0.f2 y0.f3 y0.f4.f0 y0.f4.f1 y0.f4.f2 y0.f4.f3 y0.f5.f0 y0.f5.f1 y0.f6.f0 y0.f6.f1.f0 y0.f7 hG0
  have hs : SoundCall Try.prog C 4 (YtmdgdcjkbggkmaaEv.start C 69 [.agg [.sl 86 y0.f0.f0, .sl 3 y0.f1, .sl 3 y0.f2, .int .i64 y0.f3, .int .i64 y0.f4.f0, .int .i64 y0.f4.f1, .int .i64 y0.f4.f2, .int .i64 y0.f4.f3, .int .i64 y0.f5.f0, .int .i64 y0.f5.f1, .int .i64 y0.f6.f0, .sl 3 y0.f6.f1.f0, .int .i64 y0.f7]] []) 0 (.bool true) [] := (laws_FnExactSentBy.told y0.f0.f0 y0.f1 y0.f2 y0.f3 y0.f4.f0 y0.f4.f1 y0.f4.f2 y0.f4.f3 y0.f5.f0 y0.f5.f1 y0.f6.f0 y0.f6.f1.f0 y0.f7).ok true h
  refine (hs.law (w := W) rfl (by simp) (fun i v hi => ?_)).mono fun e W' ⟨v, he, ⟨N_, bs_, hv⟩, bel⟩ => ?_
  · match i, hi with
    | 0, hi => cases hi; exact ⟨_, rfl, ⟨cs0, rfl, hI0⟩⟩
    | i + 1, hi => simp at hi
  · have hv : v = .bool true := hv
    subst hv
    subst he
    exact ⟨_, rfl, _, _, _, [], _, [], hW', trodAll_mk1 (shut_bool Try.underlying4 _), (trodAll_cons_mk (Below.trod laidOut (by kernel_rfl) (of_decide_eq_true (by kernel_rfl)) k0 bel lt0) trodAll_mk0), rfl, bel.frame _, fun h => by cases h⟩
theorem over : Rows.fnExactSentByRow.holds Try.pinned (OpenSpec.ofChange Rows.fnExactSentBySpec) :=
  OpenClaim.holds_of_wide 4 Try.f4 rfl rfl rfl rfl rfl rfl rfl ⟨rfl, rfl, rfl, rfl, rfl⟩ rfl rfl rfl rfl rfl (by kernel_rfl) Try.func4 (by kernel_rfl)
    (of_decide_eq_true (by kernel_rfl)) (by unfold Func.isWrapper; first | (rw [if_pos (by decide +kernel)]; kernel_rfl) | (rw [if_neg (by decide +kernel)]; exact ⟨rfl, rfl⟩))
    (fun os started H enc _ => lifted os started H enc)
end Go.Proofs.Ytmdgdcjkbggkmaa.fnExactSentBy
namespace Go.Proofs.Ytmdgdcjkbggkmaa
/-- The row. -/
theorem fnExactSentBy_holds : Rows.FnExactSentBySaid := fnExactSentBy.over
#print axioms fnExactSentBy_holds
end Go.Proofs.Ytmdgdcjkbggkmaa
