/-
  The contract of function 23: that of function 21.
-/
import Derived.Test.YtgaejkfdinkpmaaV23
namespace Go.Proofs.Ytgaejkfdinkpmaa
open Go.Sx
theorem sum23 : SummOK Try.prog 23 (smL S21 2 pat21) := via23
noncomputable def summ23 (f : Nat) : Option Summ := match Nat.beq f 23 with
  | true => some (smL S21 2 pat21)
  | false => summ74 f
theorem summ23_ok : ∀ f s, summ23 f = some s → SummOK Try.prog f s := by
  intro f s h
  unfold summ23 at h
  split at h
  · rename_i e
    have e := Nat.eq_of_beq_eq_true e
    subst e
    cases h
    exact sum23
  · exact summ74_ok f s h
end Go.Proofs.Ytgaejkfdinkpmaa
