/-
  The contract of function 74, over lists (its run over symbolic arguments, written out).
-/
import Derived.Test.YtgaejkfdinkpmaaSm21
set_option maxRecDepth 100000
namespace Go.Proofs.Ytgaejkfdinkpmaa
open Go.Sx
noncomputable def hn74 (r : Nat) : Option Hint :=
  match r with
  | 2 => some ⟨4, [0, 7, 5, 2, 6], [], [⟨false, 7, 0⟩], [.reg 0], [.reg 1, .reg 4, .reg 5, .reg 6, .reg 7, .reg 9], 0, 0, 0, 0, 0⟩
  | _ => none
noncomputable def S74d0 : List (Nat × D) := [q1 1 62 0, (2, ⟨70, [.lit 4, .lit 0, .lit 0, .reg 0]⟩), q2 4 15 2 1]
noncomputable def S74v0 : SV := .w (.one (.bool (.lit 0)))
noncomputable def S74v1 : SV := .w (.one (.bool (.lit 1)))
noncomputable def S74 : Sm := ⟨S74d0, .node 4 (.leaf S74v0) (.leaf S74v1)⟩
noncomputable def pat74 : List SV := [.w (.one (.ls 0 [8] (.reg 0)))]
theorem sm74 : smRunL (ctx summ21) hn74 Try.f74 1 pat74 S74 = true := by kernel_rfl
theorem sum74 : SummOK Try.prog 74 (smL S74 1 pat74) := smL_ok (ctx_fits _) summ21_ok Try.func74 (by kernel_rfl) sm74
noncomputable def summ74 (f : Nat) : Option Summ := match Nat.beq f 74 with
  | true => some (smL S74 1 pat74)
  | false => summ21 f
theorem summ74_ok : ∀ f s, summ74 f = some s → SummOK Try.prog f s := by
  intro f s h
  unfold summ74 at h
  split at h
  · rename_i e
    have e := Nat.eq_of_beq_eq_true e
    subst e
    cases h
    exact sum74
  · exact summ21_ok f s h
end Go.Proofs.Ytgaejkfdinkpmaa
