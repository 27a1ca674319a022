/-
  Function 98 tells whether two numbers are the same.
-/
import Derived.Test.YtkbdbimeiadcjaaSm116
set_option maxRecDepth 100000
namespace Go.Proofs.Ytkbdbimeiadcjaa
open Go.Sx
theorem eq98 : eqRun (ctx summ116) Try.f98 two32 sameSm = true := by kernel_rfl
theorem sum98 : SummOK Try.prog 98 sameNS := sameN_ok inst00_ok (eqS_ok (ctx_fits _) summ116_ok Try.func98 (by kernel_rfl) eq98)
noncomputable def summ98 (f : Nat) : Option Summ := match Nat.beq f 98 with
  | true => some sameNS
  | false => summ116 f
theorem summ98_ok : ∀ f s, summ98 f = some s → SummOK Try.prog f s := by
  intro f s h
  unfold summ98 at h
  split at h
  · rename_i e
    have e := Nat.eq_of_beq_eq_true e
    subst e
    cases h
    exact sum98
  · exact summ116_ok f s h
end Go.Proofs.Ytkbdbimeiadcjaa
