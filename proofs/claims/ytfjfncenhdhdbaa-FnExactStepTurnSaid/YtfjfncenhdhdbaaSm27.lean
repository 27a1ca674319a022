/-
  Function 27 keeps the contract of function 65.
-/
import Derived.Test.YtfjfncenhdhdbaaSm65
set_option maxRecDepth 100000
namespace Go.Proofs.Ytfjfncenhdhdbaa
open Go.Sx
theorem eq27 : eqRun (ctx summ65) Try.f27 ks65 S65 = true := by kernel_rfl
theorem sum27 : SummOK Try.prog 27 (oneS (smS S65 ks65)) := oneS_ok (eqS_ok (ctx_fits _) summ65_ok Try.func27 (by kernel_rfl) eq27)
noncomputable def summ27 (f : Nat) : Option Summ := match Nat.beq f 27 with
  | true => some (oneS (smS S65 ks65))
  | false => summ65 f
theorem summ27_ok : ∀ f s, summ27 f = some s → SummOK Try.prog f s := by
  intro f s h
  unfold summ27 at h
  split at h
  · rename_i e
    have e := Nat.eq_of_beq_eq_true e
    subst e
    cases h
    exact sum27
  · exact summ65_ok f s h
end Go.Proofs.Ytfjfncenhdhdbaa
