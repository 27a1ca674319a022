/-
  The contract of function 25, over lists (its run over symbolic arguments, written out).
-/
import Derived.Test.YtgaejkfdinkpmaaSm26
set_option maxRecDepth 100000
namespace Go.Proofs.Ytgaejkfdinkpmaa
open Go.Sx
noncomputable def hn25 (r : Nat) : Option Hint :=
  match r with
  | 5 => some ⟨3, [0, 3, 7, 15, 23, 11, 19, 5, 9, 17, 25, 13, 21, 2, 4, 8, 16, 24, 12, 20, 6, 10, 18, 14, 22], [13], [⟨false, 4, 0⟩], [.reg 0, .reg 1], [.reg 3, .reg 16, .reg 17, .reg 18, .reg 19, .reg 20, .reg 21, .reg 22, .reg 23, .reg 24, .reg 25, .reg 26, .reg 27, .reg 28, .reg 29, .reg 31, .reg 32, .reg 35, .reg 36], 8, 0, 0, 0, 0⟩
  | 11 => some ⟨6, [0, 1, 7, 15, 31, 11, 19, 27, 5, 9, 17, 33, 13, 21, 29, 2, 4, 16, 12, 28, 6, 10, 18, 34, 14, 22, 30], [13], [⟨false, 7, 0⟩], [.reg 0, .reg 2], [.reg 48, .reg 52, .reg 53], 15, 0, 0, 2, 53⟩
  | _ => none
noncomputable def S25d0 : List (Nat × D) := [q1 3 62 0, (4, ⟨15, [.reg 3, .lit 2]⟩), (6, ⟨15, [.lit 32, .reg 3]⟩), q1 7 37 6, (8, ⟨38, [.reg 4, .lit 1, .lit 0]⟩), q1 9 37 7, (10, ⟨38, [.reg 9, .lit 1, .lit 0]⟩), q1 11 62 1, q2 12 14 3 11, (14, ⟨70, [.lit 3, .lit 0, .lit 0, .reg 0, .reg 1]⟩), q2 16 15 14 3, (17, ⟨63, [.reg 0, .reg 14, .lit 0]⟩), q2 18 1 17 17, (19, ⟨8, [.lit 0, .reg 18]⟩), q1 20 37 19, (21, ⟨38, [.reg 20, .lit 1, .lit 0]⟩), (22, ⟨63, [.reg 1, .reg 14, .lit 0]⟩), q2 23 1 22 22, (24, ⟨8, [.lit 0, .reg 23]⟩), q1 25 37 24, (26, ⟨38, [.reg 25, .lit 1, .lit 0]⟩), q2 37 8 2 2, (39, ⟨63, [.reg 0, .lit 0, .lit 0]⟩), q2 40 10 2 39, (41, ⟨63, [.reg 1, .lit 0, .lit 0]⟩), (42, ⟨32, [.lit 3, .reg 3, .lit 1]⟩), (43, ⟨63, [.reg 0, .reg 42, .lit 0]⟩), q2 44 10 43 2, (45, ⟨63, [.reg 1, .reg 42, .lit 0]⟩), (46, ⟨70, [.lit 6, .lit 0, .lit 0, .reg 0, .reg 2]⟩), (48, ⟨31, [.lit 3, .reg 46, .lit 1]⟩), (52, ⟨63, [.reg 0, .reg 48, .lit 0]⟩), (54, ⟨63, [.reg 0, .reg 46, .lit 0]⟩), q2 55 1 2 54, q2 56 1 52 54, q2 57 3 55 56, (58, ⟨63, [.reg 1, .reg 46, .lit 0]⟩), (59, ⟨63, [.reg 1, .reg 48, .lit 0]⟩), q2 60 1 59 58, q2 61 2 60 57, q2 62 0 58 61]
noncomputable def S25v0 : SV := .tup [(.one (.flt .f32 (.lit 0))), (.one (.int .i64 (.lit 1)))]
noncomputable def S25v1 : SV := .tup [(.one (.flt .f32 (.reg 41))), (.one (.int .i64 (.lit 0)))]
noncomputable def S25v2 : SV := .tup [(.one (.flt .f32 (.reg 45))), (.one (.int .i64 (.lit 0)))]
noncomputable def S25v3 : SV := .tup [(.one (.flt .f32 (.reg 62))), (.one (.int .i64 (.lit 0)))]
noncomputable def S25v4 : SV := .tup [(.one (.flt .f32 (.lit 0))), (.one (.int .i64 (.lit 2)))]
noncomputable def S25 : Sm := ⟨S25d0, .node 8 (.leaf S25v0) (.node 10 (.leaf S25v0) (.node 12 (.node 16 (.node 21 (.leaf S25v0) (.node 26 (.leaf S25v0) (.leaf S25v0))) (.node 37 (.node 40 (.leaf S25v1) (.node 44 (.leaf S25v2) (.leaf S25v3))) (.leaf S25v4))) (.leaf S25v0)))⟩
noncomputable def pat25 : List SV := [.w (.agg [.ls 0 [8] (.reg 0), .ls 1 [8] (.reg 1)]), .w (.one (.flt .f32 (.reg 2)))]
theorem sm25 : smRunL (ctx summ26) hn25 Try.f25 3 pat25 S25 = true := by kernel_rfl
theorem sum25 : SummOK Try.prog 25 (smL S25 3 pat25) := smL_ok (ctx_fits _) summ26_ok Try.func25 (by kernel_rfl) sm25
noncomputable def summ25 (f : Nat) : Option Summ := match Nat.beq f 25 with
  | true => some (smL S25 3 pat25)
  | false => summ26 f
theorem summ25_ok : ∀ f s, summ25 f = some s → SummOK Try.prog f s := by
  intro f s h
  unfold summ25 at h
  split at h
  · rename_i e
    have e := Nat.eq_of_beq_eq_true e
    subst e
    cases h
    exact sum25
  · exact summ26_ok f s h
end Go.Proofs.Ytgaejkfdinkpmaa
