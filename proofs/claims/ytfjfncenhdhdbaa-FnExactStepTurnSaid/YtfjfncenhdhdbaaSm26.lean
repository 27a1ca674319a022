/-
  Function 26 keeps the contract of function 64.
-/
import Derived.Test.YtfjfncenhdhdbaaSm64
set_option maxRecDepth 100000
namespace Go.Proofs.Ytfjfncenhdhdbaa
open Go.Sx
theorem eq26 : eqRun (ctx summ64) Try.f26 ks64 S64 = true := by kernel_rfl
theorem sum26 : SummOK Try.prog 26 (oneS (smS S64 ks64)) := oneS_ok (eqS_ok (ctx_fits _) summ64_ok Try.func26 (by kernel_rfl) eq26)
noncomputable def summ26 (f : Nat) : Option Summ := match Nat.beq f 26 with
  | true => some (oneS (smS S64 ks64))
  | false => summ64 f
theorem summ26_ok : ∀ f s, summ26 f = some s → SummOK Try.prog f s := by
  intro f s h
  unfold summ26 at h
  split at h
  · rename_i e
    have e := Nat.eq_of_beq_eq_true e
    subst e
    cases h
    exact sum26
  · exact summ64_ok f s h
end Go.Proofs.Ytfjfncenhdhdbaa
