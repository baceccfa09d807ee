/- The law FnExactIdentityRules: the program's identity rules are the reference's, new at each call. No conditions: there is no argument, and the kernel runs it. -/
import Derived.Test.YtmnmafoojniclaaPFnExactIdentityRulesxL
import Derived.KernelRfl
namespace Go.Proofs.Ytmnmafoojniclaa.Pure
open Go.RowKit Go.Proofs.Ytmnmafoojniclaa.PFnExactIdentityRules

theorem FnExactIdentityRules : laws_FnExactIdentityRules.Pure := ⟨40, by kernel_rfl⟩

end Go.Proofs.Ytmnmafoojniclaa.Pure
