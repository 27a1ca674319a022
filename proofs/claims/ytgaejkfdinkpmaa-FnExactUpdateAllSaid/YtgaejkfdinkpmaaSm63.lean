/-
  The contract of function 63, over lists (its run over symbolic arguments, written out).
-/
import Derived.Test.YtgaejkfdinkpmaaSm61
set_option maxRecDepth 100000
namespace Go.Proofs.Ytgaejkfdinkpmaa
open Go.Sx
noncomputable def hn63 (r : Nat) : Option Hint :=
  match r with
  | 4 => some ⟨4, [0, 1, 7, 5, 9, 4, 8, 6, 10], [], [⟨false, 5, 0⟩], [.reg 0], [.reg 1, .reg 4, .reg 21], 0, 0, 0, 0, 0, [], [], []⟩
  | _ => none
noncomputable def S63v0 : SV := .w (.one (.bool (.lit 1)))
noncomputable def S63 : Sm := ⟨[], .leaf S63v0⟩
noncomputable def pat63 : List SV := [.w (.one (.ls 0 [8, 8, 8, 8, 8, 8, 8, 8] (.reg 0))), .w (.one (.ls 1 [8, 8, 8, 8, 8, 8, 8, 8] (.reg 0)))]
theorem sm63 : smRunL (ctx summ61) hn63 Try.f63 1 pat63 S63 = true := by kernel_rfl
theorem sum63 : SummOK Try.prog 63 (smL S63 1 pat63) := smL_ok (ctx_fits _) summ61_ok Try.func63 (by kernel_rfl) sm63
noncomputable def summ63 (f : Nat) : Option Summ := match Nat.beq f 63 with
  | true => some (smL S63 1 pat63)
  | false => summ61 f
theorem summ63_ok : ∀ f s, summ63 f = some s → SummOK Try.prog f s := by
  intro f s h
  unfold summ63 at h
  split at h
  · rename_i e
    have e := Nat.eq_of_beq_eq_true e
    subst e
    cases h
    exact sum63
  · exact summ61_ok f s h
end Go.Proofs.Ytgaejkfdinkpmaa
