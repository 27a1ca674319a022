/-
  The contract of function 16, over lists (its run over symbolic arguments, written out).
-/
import Derived.Test.YtgaejkfdinkpmaaSm18
set_option maxRecDepth 100000
namespace Go.Proofs.Ytgaejkfdinkpmaa
open Go.Sx
noncomputable def hn16 (_ : Nat) : Option Hint := none
noncomputable def S16d0 : List (Nat × D) := [(1, ⟨70, [.lit 0, .lit 0, .lit 0, .reg 0]⟩), q1 2 62 0, q2 3 15 1 2, (12, ⟨15, [.lit 256, .reg 2]⟩), q1 13 37 12, (14, ⟨38, [.reg 3, .lit 1, .lit 0]⟩)]
noncomputable def S16v0 : SV := .w (.one (.bool (.lit 0)))
noncomputable def S16v1 : SV := .w (.one (.bool (.reg 13)))
noncomputable def S16 : Sm := ⟨S16d0, .node 14 (.leaf S16v0) (.leaf S16v1)⟩
noncomputable def pat16 : List SV := [.w (.one (.ls 0 [3, 1, 1, 1] (.reg 0)))]
theorem sm16 : smRunL (ctx summ18) hn16 Try.f16 1 pat16 S16 = true := by kernel_rfl
theorem sum16 : SummOK Try.prog 16 (smL S16 1 pat16) := smL_ok (ctx_fits _) summ18_ok Try.func16 (by kernel_rfl) sm16
noncomputable def summ16 (f : Nat) : Option Summ := match Nat.beq f 16 with
  | true => some (smL S16 1 pat16)
  | false => summ18 f
theorem summ16_ok : ∀ f s, summ16 f = some s → SummOK Try.prog f s := by
  intro f s h
  unfold summ16 at h
  split at h
  · rename_i e
    have e := Nat.eq_of_beq_eq_true e
    subst e
    cases h
    exact sum16
  · exact summ18_ok f s h
end Go.Proofs.Ytgaejkfdinkpmaa
