/-
  The contract of function 21, over lists (its run over symbolic arguments, written out).
-/
import Derived.Test.YtgaejkfdinkpmaaSum
set_option maxRecDepth 100000
namespace Go.Proofs.Ytgaejkfdinkpmaa
open Go.Sx
noncomputable def hn21 (r : Nat) : Option Hint :=
  match r with
  | 5 => some ⟨3, [0, 3, 7, 15, 23, 11, 19, 5, 9, 17, 25, 13, 21, 2, 4, 8, 16, 24, 12, 20, 6, 10, 18, 14, 22], [12], [⟨false, 4, 0⟩], [.reg 0, .reg 1], [.reg 2, .reg 15, .reg 16, .reg 17, .reg 18, .reg 19, .reg 20, .reg 21, .reg 22, .reg 23, .reg 24, .reg 25, .reg 26, .reg 27, .reg 28, .reg 30, .reg 31, .reg 34, .reg 35], 8, 0, 0, 0, 0⟩
  | _ => none
noncomputable def S21d0 : List (Nat × D) := [q1 2 62 0, (3, ⟨15, [.reg 2, .lit 2]⟩), (5, ⟨15, [.lit 32, .reg 2]⟩), q1 6 37 5, (7, ⟨38, [.reg 3, .lit 1, .lit 0]⟩), q1 8 37 6, (9, ⟨38, [.reg 8, .lit 1, .lit 0]⟩), q1 10 62 1, q2 11 14 2 10, (13, ⟨70, [.lit 3, .lit 0, .lit 0, .reg 0, .reg 1]⟩), q2 15 15 13 2, (16, ⟨63, [.reg 0, .reg 13, .lit 0]⟩), q2 17 1 16 16, (18, ⟨8, [.lit 0, .reg 17]⟩), q1 19 37 18, (20, ⟨38, [.reg 19, .lit 1, .lit 0]⟩), (21, ⟨63, [.reg 1, .reg 13, .lit 0]⟩), q2 22 1 21 21, (23, ⟨8, [.lit 0, .reg 22]⟩), q1 24 37 23, (25, ⟨38, [.reg 24, .lit 1, .lit 0]⟩)]
noncomputable def S21v0 : SV := .w (.one (.bool (.lit 0)))
noncomputable def S21v1 : SV := .w (.one (.bool (.lit 1)))
noncomputable def S21 : Sm := ⟨S21d0, .node 7 (.leaf S21v0) (.node 9 (.leaf S21v0) (.node 11 (.node 15 (.node 20 (.leaf S21v0) (.node 25 (.leaf S21v0) (.leaf S21v0))) (.leaf S21v1)) (.leaf S21v0)))⟩
noncomputable def pat21 : List SV := [.w (.agg [.ls 0 [8] (.reg 0), .ls 1 [8] (.reg 1)])]
theorem sm21 : smRunL (ctx summ) hn21 Try.f21 2 pat21 S21 = true := by kernel_rfl
theorem sum21 : SummOK Try.prog 21 (smL S21 2 pat21) := smL_ok (ctx_fits _) summ_ok Try.func21 (by kernel_rfl) sm21
noncomputable def summ21 (f : Nat) : Option Summ := match Nat.beq f 21 with
  | true => some (smL S21 2 pat21)
  | false => summ f
theorem summ21_ok : ∀ f s, summ21 f = some s → SummOK Try.prog f s := by
  intro f s h
  unfold summ21 at h
  split at h
  · rename_i e
    have e := Nat.eq_of_beq_eq_true e
    subst e
    cases h
    exact sum21
  · exact summ_ok f s h
end Go.Proofs.Ytgaejkfdinkpmaa
