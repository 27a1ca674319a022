/-
  The contract of function 19, over lists (its run over symbolic arguments, written out).
-/
import Derived.Test.YtgaejkfdinkpmaaSm86
set_option maxRecDepth 100000
namespace Go.Proofs.Ytgaejkfdinkpmaa
open Go.Sx
noncomputable def hn19 (r : Nat) : Option Hint :=
  match r with
  | 4 => some ⟨4, [0, 1, 7, 5, 9, 4, 8, 6, 10], [], [⟨false, 5, 0⟩], [.reg 0], [.reg 1, .reg 4, .reg 9], 0, 0, 0, 0, 0, [], [], [], 0⟩
  | _ => none
noncomputable def S19v0 : SV := .w (.one (.bool (.lit 1)))
noncomputable def S19 : Sm := ⟨[], .leaf S19v0⟩
noncomputable def pat19 : List SV := [.w (.one (.ls 0 [3, 1, 1, 1] (.reg 0))), .w (.one (.ls 1 [3, 1, 1, 1] (.reg 0)))]
theorem sm19 : smRunL (ctx summ18) hn19 Try.f19 1 pat19 S19 = true := by kernel_rfl
theorem sum19 : SummOK Try.prog 19 (smL S19 1 pat19) := smL_ok (ctx_fits _) summ18_ok Try.func19 (by kernel_rfl) sm19
noncomputable def summ19 (f : Nat) : Option Summ := match Nat.beq f 19 with
  | true => some (smL S19 1 pat19)
  | false => summ18 f
theorem summ19_ok : ∀ f s, summ19 f = some s → SummOK Try.prog f s := by
  intro f s h
  unfold summ19 at h
  split at h
  · rename_i e
    have e := Nat.eq_of_beq_eq_true e
    subst e
    cases h
    exact sum19
  · exact summ18_ok f s h
end Go.Proofs.Ytgaejkfdinkpmaa
