/-
  The contract of function 47, over lists (its run over symbolic arguments, written out).
-/
import Derived.Test.YtgaejkfdinkpmaaSm19
set_option maxRecDepth 100000
namespace Go.Proofs.Ytgaejkfdinkpmaa
open Go.Sx
noncomputable def hn47 (r : Nat) : Option Hint :=
  match r with
  | 4 => some ⟨3, [0, 1, 7, 5, 9, 4, 8, 6, 10], [], [⟨false, 5, 0⟩], [.reg 0], [.reg 1, .reg 4, .reg 6], 0, 0, 0, 0, 0, [], [], [], 0⟩
  | _ => none
noncomputable def S47v0 : SV := .w (.one (.bool (.lit 1)))
noncomputable def S47 : Sm := ⟨[], .leaf S47v0⟩
noncomputable def pat47 : List SV := [.w (.one (.ls 0 [4] (.reg 0))), .w (.one (.ls 1 [4] (.reg 0)))]
theorem sm47 : smRunL (ctx summ19) hn47 Try.f47 1 pat47 S47 = true := by kernel_rfl
theorem sum47 : SummOK Try.prog 47 (smL S47 1 pat47) := smL_ok (ctx_fits _) summ19_ok Try.func47 (by kernel_rfl) sm47
noncomputable def summ47 (f : Nat) : Option Summ := match Nat.beq f 47 with
  | true => some (smL S47 1 pat47)
  | false => summ19 f
theorem summ47_ok : ∀ f s, summ47 f = some s → SummOK Try.prog f s := by
  intro f s h
  unfold summ47 at h
  split at h
  · rename_i e
    have e := Nat.eq_of_beq_eq_true e
    subst e
    cases h
    exact sum47
  · exact summ19_ok f s h
end Go.Proofs.Ytgaejkfdinkpmaa
