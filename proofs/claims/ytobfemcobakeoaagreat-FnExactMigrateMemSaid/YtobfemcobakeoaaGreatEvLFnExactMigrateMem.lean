/- How the arguments of FnExactMigrateMem are read, and what is left to be proved of it. No conditions. -/
import Derived.Test.YtobfemcobakeoaaGreatMEvF0
import Derived.Test.YtobfemcobakeoaaGreatLibO
namespace Go.Proofs.YtobfemcobakeoaaGreat.Ev
open Go.Proofs.YtobfemcobakeoaaGreatEv Go.RowKit
set_option linter.unusedVariables false
set_option maxRecDepth 100000
noncomputable section
open Go.ChangeShapes Go.WideShapes
def g153 : S153 → Prop := fun x_ => (fun n_ : Int => (Lit.int .i64 n_).wf = true) x_.f0 ∧ (fun n_ : Int => (Lit.int .i64 n_).wf = true) x_.f1 ∧ (fun n_ : Int => (Lit.int .i64 n_).wf = true) x_.f2
theorem op171 : OpensE Tryz.prog C 171 (fun x : S153 => leaves (C.enc 171 x)) g153 := opensE_struct (fun p_ : Int × Int × Int => (⟨p_.1, p_.2.1, p_.2.2⟩ : S153)) Tryz.underlying171 (by kernel_rfl) (opensEL_cons (P := Tryz.prog) (C := C) (off := 0) (m := 1) (n := 2) (k := 1) rfl (by kernel_rfl) rfl (opensE_int Tryz.underlying3) (opensEL_cons (P := Tryz.prog) (C := C) (off := 1) (m := 1) (n := 1) (k := 2) rfl (by kernel_rfl) rfl (opensE_int Tryz.underlying3) (opensEL_one (P := Tryz.prog) (C := C) (off := 2) (n := 1) rfl (by kernel_rfl) (opensE_int Tryz.underlying3)))) (fun _ => rfl) (fun _ h => h)
def g239 : S239 → Prop := fun x_ => (fun n_ : Int => (Lit.int .i64 n_).wf = true) x_.f0 ∧ (fun n_ : Int => (Lit.int .i64 n_).wf = true) x_.f1 ∧ (fun n_ : Int => (Lit.int .i64 n_).wf = true) x_.f2 ∧ g153 x_.f3
theorem op240 : OpensE Tryz.prog C 240 (fun x : S239 => leaves (C.enc 240 x)) g239 := opensE_struct (fun p_ : Int × Int × Int × S153 => (⟨p_.1, p_.2.1, p_.2.2.1, p_.2.2.2⟩ : S239)) Tryz.underlying240 (by kernel_rfl) (opensEL_cons (P := Tryz.prog) (C := C) (off := 0) (m := 1) (n := 5) (k := 1) rfl (by kernel_rfl) rfl (opensE_int Tryz.underlying3) (opensEL_cons (P := Tryz.prog) (C := C) (off := 1) (m := 1) (n := 4) (k := 2) rfl (by kernel_rfl) rfl (opensE_int Tryz.underlying3) (opensEL_cons (P := Tryz.prog) (C := C) (off := 2) (m := 1) (n := 3) (k := 3) rfl (by kernel_rfl) rfl (opensE_int Tryz.underlying3) (opensEL_one (P := Tryz.prog) (C := C) (off := 3) (n := 3) rfl (by kernel_rfl) op171)))) (fun _ => rfl) (fun _ h => h)
def g172 : S172 → Prop := fun x_ => (fun l_ : List S239 => l_.length ≤ maxLen ∧ ∀ x_ ∈ l_, g239 x_) x_.f0 ∧ g153 x_.f1
theorem op173 : OpensE Tryz.prog C 173 (fun x : S172 => leaves (C.enc 173 x)) g172 := opensE_struct (fun p_ : (List S239) × S153 => (⟨p_.1, p_.2⟩ : S172)) Tryz.underlying173 (by kernel_rfl) (opensEL_cons (P := Tryz.prog) (C := C) (off := 0) (m := 1) (n := 3) (k := 1) rfl (by kernel_rfl) rfl (opensE_slice (e := 240) G (g := g239) Tryz.underlying170 (by kernel_rfl) (Nat.lt_of_lt_of_eq (by decide : 0 < 6) (by kernel_rfl)) op240) (opensEL_one (P := Tryz.prog) (C := C) (off := 1) (n := 3) rfl (by kernel_rfl) op171)) (fun _ => rfl) (fun _ h => h)
def g23 : S23 → Prop := fun x_ => (fun l_ : List S172 => l_.length ≤ maxLen ∧ ∀ x_ ∈ l_, g172 x_) x_.f0
theorem op24 : OpensE Tryz.prog C 24 (fun x : S23 => [.sl 173 x.f0]) g23 := opensE_struct (fun p_ : (List S172) => (⟨p_⟩ : S23)) Tryz.underlying24 (by kernel_rfl) (opensEL_one (P := Tryz.prog) (C := C) (off := 0) (n := 1) rfl (by kernel_rfl) (opensE_slice (e := 173) G (g := g172) Tryz.underlying22 (by kernel_rfl) (Nat.lt_of_lt_of_eq (by decide : 0 < 4) (by kernel_rfl)) op173)) (fun _ => rfl) (fun _ h => h)
def g27 : S27 → Prop := fun x_ => (fun l_ : List S153 => l_.length ≤ maxLen ∧ ∀ x_ ∈ l_, g153 x_) x_.f0
theorem op28 : OpensE Tryz.prog C 28 (fun x : S27 => [.sl 171 x.f0]) g27 := opensE_struct (fun p_ : (List S153) => (⟨p_⟩ : S27)) Tryz.underlying28 (by kernel_rfl) (opensEL_one (P := Tryz.prog) (C := C) (off := 0) (n := 1) rfl (by kernel_rfl) (opensE_slice (e := 171) G (g := g153) Tryz.underlying26 (by kernel_rfl) (Nat.lt_of_lt_of_eq (by decide : 0 < 3) (by kernel_rfl)) op171)) (fun _ => rfl) (fun _ h => h)
/-- What is left to be proved of laws_FnExactMigrateMem, over numbers and lists. -/
def laws_FnExactMigrateMem.Pure : Prop := ∀ (a0 : List S172) (a1 : List Int) (a2 : List S153), g23 (⟨a0⟩ : S23) → (fun l_ : List Int => l_.length ≤ maxLen ∧ ∀ x_ ∈ l_, (fun n_ : Int => (Lit.int .i64 n_).wf = true) x_) a1 → g27 (⟨a2⟩ : S27) → laws_FnExactMigrateMem.f a0 a1 a2 = some true
end
end Go.Proofs.YtobfemcobakeoaaGreat.Ev
