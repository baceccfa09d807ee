/- The law FnExactReceive in plain lists: the program takes a packet as the reference does, gives the same again, and shares no memory with its arguments. Conditions: none beside those of the row. -/
import Derived.Test.YtmnmafoojniclaaHelpFnExactReceive
namespace Go.Proofs.Ytmnmafoojniclaa.Pure
open Go.RowKit Go.Proofs.Ytmnmafoojniclaa.PFnExactReceive Go.Proofs.Ytmnmafoojniclaa.XPure Go.Proofs.Ytmnmafoojniclaa.PureFnExactReceive Go.Proofs.YtmnmafoojniclaaW.PrintWords
set_option linter.unusedSimpArgs false

/-- What a gateway has behind a packet. -/
def got (l : List Int) (s v : Int) : List Int := if s = (l.length : Int) then (if (l.length : Int) < 255 then l ++ [v] else l) else l
theorem got_length (l : List Int) (s v : Int) : (got l s v).length ≤ l.length + 1 := by
  unfold got
  split
  · split
    · simp
    · omega
  · omega
theorem spec_f (l : List Int) (s v : Int) (hl : l.length ≤ 1048576) : spec_Receive.f l s v = some (got l s v, ((got l s v).length : Int)) := by
  simp only [spec_Receive.f, spec_l31Take.f, Option.bind_some, List.nil_append, List.length_nil]
  rw [if_pos (by omega), if_pos (c := l.length < 17592186044416) (by omega)]
  unfold got
  split
  · split <;> rfl
  · rfl
theorem impl_f (l : List Int) (s v : Int) (hl : l.length ≤ 1048576) : impl_Receive.f l s v = some (got l s v, ((got l s v).length : Int)) := by
  simp only [impl_Receive.f, clone_f l (by omega), Option.bind_some]
  rw [if_pos (c := l.length < 17592186044416) (by omega)]
  unfold got
  split
  · split <;> rfl
  · rfl
theorem FnExactReceive : laws_FnExactReceive.Pure := by
  intro l s v hG hP
  have hl : l.length ≤ 9223372036854775807 := hG.1
  have hw : wrap64 (1048576 - (l.length : Int)) = 1048576 - (l.length : Int) := wrap_in (by omega) (by omega)
  by_cases h : (1048576 - (l.length : Int)) < 0
  · refine ⟨0, ?_⟩
    simp only [laws_FnExactReceive.f, laws_szGateway.f, laws_szIntS.f, hw, h, Option.bind_some, ↓reduceIte, Int.reduceNeg, Int.reduceLT]
  · obtain ⟨k, hk⟩ : ∃ k, l.length + 1 < k := ⟨_, Nat.lt_succ_self _⟩
    have hg := got_length l s v
    have e5 := spec_f l s v (by omega)
    have e6 := impl_f l s v (by omega)
    generalize got l s v = g at hg e5 e6
    have e1 : ∀ k, l.length + 1 < k → laws_toIntS.f k l = some l := fun k hk => toIntS_f l (by omega) k (by omega)
    have e2 : ∀ k, l.length + 1 < k → laws_eqIntS.f k l l = some true := fun k hk => eqIntS_f l (by omega) k (by omega)
    have e3 : ∀ k, l.length + 1 < k → laws_eqIntS.f k g g = some true := fun k hk => eqIntS_f g (by omega) k (by omega)
    have e4 := fun k (hk : l.length + 1 < k) => markIntS_f l (by omega) 1 (by omega) k (show l.length < k by omega)
    have e7 := fun k (hk : l.length + 1 < k) => markIntS_f g (by omega) 1 (by omega) k (show g.length < k by omega)
    have e8 := fun k (hk : l.length + 1 < k) => heldIntS_f g.length (by omega) 1 (by omega) k (show g.length < k by omega)
    have n1 : ¬ ((1 + l.length : Nat) : Int) < 0 := by omega
    have n2 : ¬ ((1 + g.length : Nat) : Int) < 0 := by omega
    have n3 : ((g.length : Int) != (g.length : Int)) = false := by simp
    simp only [Int.natCast_one] at e4 e7 e8
    refine ⟨k + 1 + 1, ?_⟩
    simp (disch := omega) only [laws_FnExactReceive.f, laws_szGateway.f, laws_szIntS.f, laws_toGateway.f, laws_toPacket.f, laws_eqGateway.f, hw, h, e1, e2, e3, e5, e6, n3, Option.bind_some, ↓reduceIte]
    simp (disch := omega) only [laws_FnExactReceive.j0, laws_toGateway.f, laws_eqGateway.f, laws_markGateway.f, e1, e2, e3, e4, n1, n3, Option.bind_some, ↓reduceIte, Bool.false_eq_true]
    simp (disch := omega) only [laws_FnExactReceive.j1, laws_toGateway.f, laws_toPacket.f, laws_eqGateway.f, laws_markGateway.f, laws_heldGateway.f, e1, e3, e6, e7, e8, n2, Option.bind_some, ↓reduceIte, Bool.false_eq_true]

end Go.Proofs.Ytmnmafoojniclaa.Pure
