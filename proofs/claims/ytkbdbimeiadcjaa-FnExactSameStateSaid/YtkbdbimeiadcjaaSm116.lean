/-
  Function 116 tells whether two numbers are the same.
-/
import Derived.Test.YtkbdbimeiadcjaaSum
set_option maxRecDepth 100000
namespace Go.Proofs.Ytkbdbimeiadcjaa
open Go.Sx
theorem eq116 : eqRun (ctx summ) Try.f116 two32 sameSm = true := by kernel_rfl
theorem sum116 : SummOK Try.prog 116 sameNS := sameN_ok inst00_ok (eqS_ok (ctx_fits _) summ_ok Try.func116 (by kernel_rfl) eq116)
noncomputable def summ116 (f : Nat) : Option Summ := match Nat.beq f 116 with
  | true => some sameNS
  | false => summ f
theorem summ116_ok : ∀ f s, summ116 f = some s → SummOK Try.prog f s := by
  intro f s h
  unfold summ116 at h
  split at h
  · rename_i e
    have e := Nat.eq_of_beq_eq_true e
    subst e
    cases h
    exact sum116
  · exact summ_ok f s h
end Go.Proofs.Ytkbdbimeiadcjaa
