/-
  Function 62 keeps the contract of function 57.
-/
import Derived.Test.YtkbdbimeiadcjaaSm57
set_option maxRecDepth 100000
namespace Go.Proofs.Ytkbdbimeiadcjaa
open Go.Sx
theorem eq62 : eqRun (ctx summ57) Try.f62 ks57 S57 = true := by kernel_rfl
theorem sum62 : SummOK Try.prog 62 (oneS (smS S57 ks57)) := oneS_ok (eqS_ok (ctx_fits _) summ57_ok Try.func62 (by kernel_rfl) eq62)
noncomputable def summ62 (f : Nat) : Option Summ := match Nat.beq f 62 with
  | true => some (oneS (smS S57 ks57))
  | false => summ57 f
theorem summ62_ok : ∀ f s, summ62 f = some s → SummOK Try.prog f s := by
  intro f s h
  unfold summ62 at h
  split at h
  · rename_i e
    have e := Nat.eq_of_beq_eq_true e
    subst e
    cases h
    exact sum62
  · exact summ57_ok f s h
end Go.Proofs.Ytkbdbimeiadcjaa
