/-
  Function 154 keeps the contract of function 148.
-/
import Derived.Test.YtgaejkfdinkpmaaSm148
set_option maxRecDepth 100000
namespace Go.Proofs.Ytgaejkfdinkpmaa
open Go.Sx
theorem eq154 : eqRun (ctx summ148) Try.f154 ks148 S148 = true := by kernel_rfl
theorem sum154 : SummOK Try.prog 154 (oneS (smS S148 ks148)) := oneS_ok (eqS_ok (ctx_fits _) summ148_ok Try.func154 (by kernel_rfl) eq154)
noncomputable def summ154 (f : Nat) : Option Summ := match Nat.beq f 154 with
  | true => some (oneS (smS S148 ks148))
  | false => summ148 f
theorem summ154_ok : ∀ f s, summ154 f = some s → SummOK Try.prog f s := by
  intro f s h
  unfold summ154 at h
  split at h
  · rename_i e
    have e := Nat.eq_of_beq_eq_true e
    subst e
    cases h
    exact sum154
  · exact summ148_ok f s h
end Go.Proofs.Ytgaejkfdinkpmaa
