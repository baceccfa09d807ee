/- The row of the law FnExactUpdateSome: for every input that can be read the law's function returns true, and each argument reads afterwards as it read before. No conditions beside the row's own. -/
import Derived.Test.YtefbmfgifjphfaaRows
import Derived.Test.YtefbmfgifjphfaaPFnExactUpdateSomexL
import Derived.Test.YtefbmfgifjphfaaPureFnExactUpdateSome
import Derived.WalkKit
import Derived.ProofKit
import Derived.OpenShut
import Derived.ShutString
import Derived.ChangeOld
import Derived.Below
import Derived.SizedLaws
namespace Go.Proofs.Ytefbmfgifjphfaa.fnExactUpdateSome
open Go.ChangeShapes Go.WideShapes Go.ChangeAt Go.RowKit Go.Proofs.Ytefbmfgifjphfaa.XOpen Go.Proofs.Ytefbmfgifjphfaa.PFnExactUpdateSome Go.Proofs.YtefbmfgifjphfaaW.PrintWords
open Go.ChangeMaps (open_string shut_string)
set_option linter.unusedVariables false
theorem own : ownKnob Try.prog.godebug = none := by kernel_rfl
theorem laidOut : laidOutB Try.prog = true := by kernel_rfl
set_option maxRecDepth 100000 in
theorem lifted (os : Os) (started : os.Started) (H : Type) (enc : TypeId × Value → H) :
    ReturnsInHanded {} Try.checked os 8 .any (Rows.fnExactUpdateSomeSpec.pre6 enc Try.prog Try.f8 Rows.fnExactUpdateSomeRow.domain false) (Rows.fnExactUpdateSomeSpec.post enc Try.prog Try.f8 false true false false) := by
  refine returnsInHanded_of_change_sized (C := Try.checked) own started (by kernel_rfl) Try.func8
    (ChangeSpec.witness6 (enc := enc) (C := Try.checked) false ⟨#[], #[(.agg #[(.int .i64 0), (.int .i64 0), (.slice none 0 0), (.int .i64 0), (.int .i64 0), (.slice none 0 0), (.int .i64 0)]), .int .i64 0, .slice none 0 0, .int .i64 0], []⟩ 8 (by kernel_rfl) (by kernel_rfl) (by kernel_rfl) (by kernel_rfl)) ?_
  intro W base args ds gs before hval0 hW hcnd hsz0 _
  have hval : ∀ (j : Nat) t v, Try.f8.params[j]? = some t → args[j]? = some v → Value.okWide Try.prog W .any base t v := hval0
  have hW' := hW
  obtain ⟨p, q, hA0, hV, rfl, hfz, hnd⟩ := hW
  have hA : DataW.TrodAll enc Try.prog W 0 (fun _ => true) true Try.f8.params.toList args.toList ds p := hA0
  rw [Try.params8] at hA hval
  obtain ⟨v0, vs0, d0, ds0, p0, q0, hargs, rfl, rfl, h0, r0⟩ := trodAll_cons hA
  obtain ⟨v1, vs1, d1, ds1, p1, q1, rfl, rfl, rfl, h1, r1⟩ := trodAll_cons r0
  obtain ⟨v2, vs2, d2, ds2, p2, q2, rfl, rfl, rfl, h2, r2⟩ := trodAll_cons r1
  obtain ⟨v3, vs3, d3, ds3, p3, q3, rfl, rfl, rfl, h3, r3⟩ := trodAll_cons r2
  obtain ⟨rfl, rfl, rfl⟩ := trodAll_nil r3
  obtain rfl : args = #[v0, v1, v2, v3] := by cases args; simp_all
  obtain ⟨rfl, rfl⟩ := trodVars_none hV
  have k0 := h0
  have lt0 : ∀ x ∈ p0, x.block < W.heap.size := by obtain ⟨m, hm⟩ := k0; exact DataW.trod_lt m _ _ _ hm
  obtain ⟨cs0, rfl, _⟩ := okWide_struct Try.underlying38 (hval 0 38 v0 rfl rfl)
  obtain ⟨fu0, hf0⟩ := h0
  obtain ⟨y0, hK0, hG0⟩ := opens38.out enc W _ _ _ _ _ hf0
  obtain ⟨cl0, hcl0⟩ : ∃ cl, cl = (Value.agg cs0).cells.toList := ⟨_, rfl⟩
  rw [← hcl0] at hK0
  obtain ⟨_, _, rfl, rfl, ⟨_, _, rfl, ⟨_, _, rfl, rfl, ⟨_, _, rfl, ⟨A0_1_1, c0_1_1, rfl, hc0_1_1, hr0_1_1⟩, rfl⟩⟩, ⟨_, _, rfl, rfl, ⟨_, _, rfl, ⟨A0_2_1, c0_2_1, rfl, hc0_2_1, hr0_2_1⟩, rfl⟩⟩⟩⟩ := hK0
  obtain rfl : cs0 = #[.int .i64 y0.f0, .int .i64 y0.f1.f0, .slice A0_1_1 y0.f1.f1.length c0_1_1, .int .i64 y0.f1.f2, .int .i64 y0.f2.f0, .slice A0_2_1 y0.f2.f1.length c0_2_1, .int .i64 y0.f2.f2] := by
    apply Array.toList_inj.1
    exact hcl0.symm
  obtain ⟨a1, rfl, rfl, rfl, w1⟩ := open_int Try.underlying3 (hval 1 3 v1 rfl rfl) h1
  have k2 := h2
  have lt2 : ∀ x ∈ p2, x.block < W.heap.size := by obtain ⟨m, hm⟩ := k2; exact DataW.trod_lt m _ _ _ hm
  obtain ⟨a2, len2, cap2, rfl⟩ := okWide_slice Try.underlying24 (hval 2 24 v2 rfl rfl)
  obtain ⟨fu2, hf2⟩ := h2
  obtain ⟨y2, hK2, hG2⟩ := (opens_slice Try.underlying24 (by kernel_rfl) (opens_int Try.underlying3)).out enc W _ _ _ _ _ hf2
  obtain ⟨cl2, hcl2⟩ : ∃ cl, cl = (Value.slice a2 len2 cap2).cells.toList := ⟨_, rfl⟩
  rw [← hcl2] at hK2
  obtain ⟨A2, c2, rfl, hc2, hr2⟩ := hK2
  injection hcl2 with e2
  injection e2 with e2_0 e2_1 e2_2
  subst e2_0 e2_1 e2_2
  obtain ⟨a3, rfl, rfl, rfl, w3⟩ := open_int Try.underlying3 (hval 3 3 v3 rfl rfl) h3
  clear hA0 hval0 hsz0
  obtain ⟨k, h⟩ := Pure.FnExactUpdateSome y0.f0 y0.f1.f0 y0.f1.f1 y0.f1.f2 y0.f2.f0 y0.f2.f1 y0.f2.f2 a1 y2 a3 hG0 w1 hG2 w3
  refine (laws_FnExactUpdateSome.calls k y0.f0 y0.f1.f0 _ _ y0.f1.f1 y0.f1.f2 y0.f2.f0 _ _ y0.f2.f1 y0.f2.f2 a1 _ _ y2 a3 true W hr0_1_1 hc0_1_1 hr0_2_1 hc0_2_1 hr2 hc2 h).mono fun e W' ⟨he, bel0⟩ => ?_
  have bel : Below W.heap.size W W' := bel0
  subst he
  exact ⟨_, rfl, _, _, _, [], _, [], hW', trodAll_mk1 (shut_bool Try.underlying4 _), (trodAll_cons_mk (Below.trod laidOut (by kernel_rfl) (of_decide_eq_true (by kernel_rfl)) k0 bel lt0) (trodAll_cons_mk (shut_int Try.underlying3 w1) (trodAll_cons_mk (Below.trod laidOut (by kernel_rfl) (of_decide_eq_true (by kernel_rfl)) k2 bel lt2) (trodAll_cons_mk (shut_int Try.underlying3 w3) trodAll_mk0)))), rfl, bel.frame _, fun h => by cases h⟩
theorem over : Rows.fnExactUpdateSomeRow.holds Try.pinned (OpenSpec.ofChange Rows.fnExactUpdateSomeSpec) :=
  OpenClaim.holds_of_wide 8 Try.f8 rfl rfl rfl rfl rfl rfl rfl ⟨rfl, rfl, rfl, rfl, rfl⟩ rfl rfl rfl rfl rfl (by kernel_rfl) Try.func8 (by kernel_rfl)
    (of_decide_eq_true (by kernel_rfl)) (by unfold Func.isWrapper; first | (rw [if_pos (by decide +kernel)]; kernel_rfl) | (rw [if_neg (by decide +kernel)]; exact ⟨rfl, rfl⟩))
    (fun os started H enc _ => lifted os started H enc)
end Go.Proofs.Ytefbmfgifjphfaa.fnExactUpdateSome
namespace Go.Proofs.Ytefbmfgifjphfaa
/-- The row. -/
theorem fnExactUpdateSome_holds : Rows.FnExactUpdateSomeSaid := fnExactUpdateSome.over
#print axioms fnExactUpdateSome_holds
end Go.Proofs.Ytefbmfgifjphfaa
