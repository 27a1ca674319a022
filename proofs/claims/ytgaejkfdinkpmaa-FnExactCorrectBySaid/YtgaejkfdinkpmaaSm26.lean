/-
  The contract of function 26, over lists (its run over symbolic arguments, written out).
-/
import Derived.Test.YtgaejkfdinkpmaaSm75
set_option maxRecDepth 100000
namespace Go.Proofs.Ytgaejkfdinkpmaa
open Go.Sx
noncomputable def hn26 (r : Nat) : Option Hint :=
  match r with
  | 11 => some ⟨6, [0, 1, 7, 15, 31, 11, 19, 5, 9, 17, 33, 25, 13, 21, 37, 2, 4, 8, 16, 32, 24, 12, 20, 36, 6, 10, 18, 34, 14, 22, 30], [13], [⟨false, 7, 0⟩], [.reg 0, .reg 2], [.reg 39, .reg 43, .reg 44], 9, 0, 0, 2, 44⟩
  | _ => none
noncomputable def S26d0 : List (Nat × D) := [q1 3 62 0, (4, ⟨32, [.lit 3, .reg 3, .lit 1]⟩), (5, ⟨15, [.reg 3, .lit 2]⟩), (6, ⟨15, [.lit 32, .reg 3]⟩), q1 7 37 6, (8, ⟨38, [.reg 5, .lit 1, .lit 0]⟩), q1 9 37 7, (10, ⟨38, [.reg 9, .lit 1, .lit 0]⟩), q1 11 62 1, q2 12 14 3 11, (13, ⟨70, [.lit 3, .lit 0, .lit 0, .reg 0, .reg 1]⟩), q2 14 15 13 3, (25, ⟨38, [.reg 14, .lit 1, .lit 0]⟩), (26, ⟨38, [.reg 12, .reg 25, .lit 1]⟩), (27, ⟨38, [.reg 10, .lit 1, .reg 26]⟩), (28, ⟨38, [.reg 8, .lit 1, .reg 27]⟩), q2 29 8 2 2, (31, ⟨63, [.reg 0, .lit 0, .lit 0]⟩), q2 32 10 2 31, (33, ⟨63, [.reg 1, .lit 0, .lit 0]⟩), (34, ⟨63, [.reg 0, .reg 4, .lit 0]⟩), q2 35 10 34 2, (36, ⟨63, [.reg 1, .reg 4, .lit 0]⟩), (37, ⟨70, [.lit 6, .lit 0, .lit 0, .reg 0, .reg 2]⟩), (39, ⟨31, [.lit 3, .reg 37, .lit 1]⟩), (43, ⟨63, [.reg 0, .reg 39, .lit 0]⟩), (45, ⟨63, [.reg 1, .reg 37, .lit 0]⟩), (46, ⟨63, [.reg 1, .reg 39, .lit 0]⟩), q2 47 1 46 45, (48, ⟨63, [.reg 0, .reg 37, .lit 0]⟩), q2 49 1 2 48, q2 50 1 43 48, q2 51 3 49 50, q2 52 2 47 51, q2 53 0 45 52]
noncomputable def S26v0 : SV := .tup [(.one (.flt .f32 (.lit 0))), (.one (.int .i64 (.lit 1)))]
noncomputable def S26v1 : SV := .tup [(.one (.flt .f32 (.reg 33))), (.one (.int .i64 (.lit 0)))]
noncomputable def S26v2 : SV := .tup [(.one (.flt .f32 (.reg 36))), (.one (.int .i64 (.lit 0)))]
noncomputable def S26v3 : SV := .tup [(.one (.flt .f32 (.reg 53))), (.one (.int .i64 (.lit 0)))]
noncomputable def S26v4 : SV := .tup [(.one (.flt .f32 (.lit 0))), (.one (.int .i64 (.lit 2)))]
noncomputable def S26 : Sm := ⟨S26d0, .node 28 (.leaf S26v0) (.node 29 (.node 32 (.leaf S26v1) (.node 35 (.leaf S26v2) (.leaf S26v3))) (.leaf S26v4))⟩
noncomputable def pat26 : List SV := [.w (.agg [.ls 0 [8] (.reg 0), .ls 1 [8] (.reg 1)]), .w (.one (.flt .f32 (.reg 2)))]
theorem sm26 : smRunL (ctx summ75) hn26 Try.f26 3 pat26 S26 = true := by kernel_rfl
theorem sum26 : SummOK Try.prog 26 (smL S26 3 pat26) := smL_ok (ctx_fits _) summ75_ok Try.func26 (by kernel_rfl) sm26
noncomputable def summ26 (f : Nat) : Option Summ := match Nat.beq f 26 with
  | true => some (smL S26 3 pat26)
  | false => summ75 f
theorem summ26_ok : ∀ f s, summ26 f = some s → SummOK Try.prog f s := by
  intro f s h
  unfold summ26 at h
  split at h
  · rename_i e
    have e := Nat.eq_of_beq_eq_true e
    subst e
    cases h
    exact sum26
  · exact summ75_ok f s h
end Go.Proofs.Ytgaejkfdinkpmaa
