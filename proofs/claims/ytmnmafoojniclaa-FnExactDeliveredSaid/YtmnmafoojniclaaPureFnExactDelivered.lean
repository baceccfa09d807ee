/- The law FnExactDelivered in plain lists: the program's copy of what arrived is the reference's, a second call gives it again, and neither shares memory with the argument. Conditions: none beside those of the row. -/
import Derived.Test.YtmnmafoojniclaaHelpFnExactDelivered
namespace Go.Proofs.Ytmnmafoojniclaa.Pure
open Go.RowKit Go.Proofs.Ytmnmafoojniclaa.PFnExactDelivered Go.Proofs.Ytmnmafoojniclaa.XPure Go.Proofs.Ytmnmafoojniclaa.PureFnExactDelivered Go.Proofs.YtmnmafoojniclaaW.PrintWords
set_option linter.unusedSimpArgs false

theorem FnExactDelivered : laws_FnExactDelivered.Pure := by
  intro a l hG
  have hl : l.length ≤ 9223372036854775807 := hG.2.1
  have hw : wrap64 (1048576 - (l.length : Int)) = 1048576 - (l.length : Int) := wrap_in (by omega) (by omega)
  by_cases h : (1048576 - (l.length : Int)) < 0
  · refine ⟨0, ?_⟩
    simp only [laws_FnExactDelivered.f, laws_szLink.f, laws_szGateway.f, laws_szIntS.f, hw, h, Option.bind_some, ↓reduceIte, Int.reduceNeg, Int.reduceLT]
  · refine ⟨l.length + 1 + 1, ?_⟩
    have hk : l.length < l.length + 1 + 1 := by omega
    have e1 := toIntS_f l (by omega) _ hk
    have e2 := eqIntS_f l (by omega) _ hk
    have e3 := markIntS_f l (by omega) 1 (by omega) _ hk
    have e4 := markIntS_f l (by omega) 1 (by omega) (l.length + 1) (by omega)
    have e5 := heldIntS_f l.length (by omega) 1 (by omega) (l.length + 1) (by omega)
    have f1 := toIntS_f l (by omega) (l.length + 1) (by omega)
    have f2 := eqIntS_f l (by omega) (l.length + 1) (by omega)
    have n1 : ¬ ((1 + l.length : Nat) : Int) < 0 := by omega
    have n2 : 0 + l.length < 17592186044416 := by omega
    simp only [Int.natCast_one] at e3 e4 e5
    simp only [laws_FnExactDelivered.f, laws_FnExactDelivered.j0, laws_szLink.f, laws_szGateway.f, laws_szIntS.f, laws_toLink.f, laws_toGateway.f, laws_eqLink.f, laws_eqGateway.f, laws_markLink.f, laws_markGateway.f, spec_Delivered.f, impl_Delivered.f, slices_Clone_int_int.f,
      hw, h, n1, n2, e1, e2, e3, e4, e5, f1, f2, Option.bind_some, ↓reduceIte, List.nil_append, List.length_nil, Bool.not_true, Bool.false_eq_true]

end Go.Proofs.Ytmnmafoojniclaa.Pure
