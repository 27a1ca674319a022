/-
  Function 29 keeps the contract of function 90.
-/
import Derived.Test.YtlebefojmakjfaaSm90
set_option maxRecDepth 100000
namespace Go.Proofs.Ytlebefojmakjfaa
open Go.Sx
theorem eq29 : eqRun (ctx summ90) Try.f29 ks90 S90 = true := by kernel_rfl
theorem sum29 : SummOK Try.prog 29 (oneS (smS S90 ks90)) := oneS_ok (eqS_ok (ctx_fits _) summ90_ok Try.func29 (by kernel_rfl) eq29)
noncomputable def summ29 (f : Nat) : Option Summ := match Nat.beq f 29 with
  | true => some (oneS (smS S90 ks90))
  | false => summ90 f
theorem summ29_ok : ∀ f s, summ29 f = some s → SummOK Try.prog f s := by
  intro f s h
  unfold summ29 at h
  split at h
  · rename_i e
    have e := Nat.eq_of_beq_eq_true e
    subst e
    cases h
    exact sum29
  · exact summ90_ok f s h
end Go.Proofs.Ytlebefojmakjfaa
