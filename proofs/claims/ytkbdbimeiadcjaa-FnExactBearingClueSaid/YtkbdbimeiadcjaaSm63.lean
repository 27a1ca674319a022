/-
  Function 63 keeps the contract of function 58.
-/
import Derived.Test.YtkbdbimeiadcjaaSm58
set_option maxRecDepth 100000
namespace Go.Proofs.Ytkbdbimeiadcjaa
open Go.Sx
theorem eq63 : eqRun (ctx summ58) Try.f63 ks58 S58 = true := by kernel_rfl
theorem sum63 : SummOK Try.prog 63 (oneS (smS S58 ks58)) := oneS_ok (eqS_ok (ctx_fits _) summ58_ok Try.func63 (by kernel_rfl) eq63)
noncomputable def summ63 (f : Nat) : Option Summ := match Nat.beq f 63 with
  | true => some (oneS (smS S58 ks58))
  | false => summ58 f
theorem summ63_ok : ∀ f s, summ63 f = some s → SummOK Try.prog f s := by
  intro f s h
  unfold summ63 at h
  split at h
  · rename_i e
    have e := Nat.eq_of_beq_eq_true e
    subst e
    cases h
    exact sum63
  · exact summ58_ok f s h
end Go.Proofs.Ytkbdbimeiadcjaa
