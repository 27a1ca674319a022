/-
  The contract of function 28, over lists (its run over symbolic arguments, written out).
-/
import Derived.Test.YtgaejkfdinkpmaaSm18
set_option maxRecDepth 100000
namespace Go.Proofs.Ytgaejkfdinkpmaa
open Go.Sx
noncomputable def hn28 (r : Nat) : Option Hint :=
  match r with
  | 7 => some ⟨7, [0, 1, 7, 15, 23, 11, 19, 27, 5, 17, 13, 21, 2, 4, 16, 12, 20, 6, 26, 14], [23, 19, 21, 24, 20, 22], [⟨false, 7, 0⟩, ⟨true, 24, 0⟩, ⟨true, 24, 1⟩, ⟨true, 24, 2⟩], [.reg 8, .reg 0, .reg 3, .reg 1, .reg 4, .reg 2, .reg 5], [.reg 40, .reg 73, .reg 89, .reg 74, .reg 77, .reg 78, .reg 79, .reg 86, .reg 75, .reg 80, .reg 81, .reg 82, .reg 87, .reg 76, .reg 83, .reg 84, .reg 85, .reg 88], 1, 0, 1, 0, 0⟩
  | _ => none
noncomputable def S28d0 : List (Nat × D) := [(9, ⟨8, [.lit 0, .reg 0]⟩), (10, ⟨8, [.lit 0, .reg 1]⟩), (11, ⟨8, [.lit 0, .reg 2]⟩), q2 12 1 0 0, (13, ⟨8, [.lit 0, .reg 12]⟩), q2 14 1 1 1, (15, ⟨8, [.lit 0, .reg 14]⟩), q2 16 1 2 2, (17, ⟨8, [.lit 0, .reg 16]⟩), (18, ⟨38, [.reg 15, .lit 1, .lit 0]⟩), (19, ⟨38, [.reg 13, .reg 18, .lit 0]⟩), q2 20 1 3 3, (21, ⟨8, [.lit 0, .reg 20]⟩), q2 22 1 4 4, (23, ⟨8, [.lit 0, .reg 22]⟩), q2 24 1 5 5, (25, ⟨8, [.lit 0, .reg 24]⟩), (26, ⟨38, [.reg 23, .lit 1, .lit 0]⟩), (27, ⟨38, [.reg 21, .reg 26, .lit 0]⟩), (28, ⟨15, [.reg 6, .lit 1]⟩), (30, ⟨15, [.lit 1000000, .reg 6]⟩), (32, ⟨38, [.reg 28, .lit 1, .lit 0]⟩), (33, ⟨15, [.reg 7, .lit 0]⟩), (35, ⟨15, [.lit 1000000, .reg 7]⟩), (37, ⟨38, [.reg 33, .lit 1, .lit 0]⟩), (39, ⟨70, [.lit 0, .lit 0, .lit 0, .reg 8]⟩), q1 40 62 8, q2 41 15 39 40, (50, ⟨15, [.lit 256, .reg 40]⟩), (52, ⟨38, [.reg 41, .lit 1, .lit 0]⟩), (54, ⟨14, [.lit 0, .reg 40]⟩), (55, ⟨63, [.reg 8, .lit 0, .lit 1]⟩), (56, ⟨63, [.reg 8, .lit 0, .lit 2]⟩), (57, ⟨63, [.reg 8, .lit 0, .lit 3]⟩), q1 58 25 55, q2 59 2 58 0, q2 60 0 59 3, q1 61 25 56, q2 62 2 61 1, q2 63 0 62 4, q1 64 25 57, q2 65 2 64 2, q2 66 0 65 5, (68, ⟨70, [.lit 7, .lit 1, .lit 1, .reg 60, .reg 63, .reg 66, .reg 8, .reg 0, .reg 3, .reg 1, .reg 4, .reg 2, .reg 5]⟩), (69, ⟨70, [.lit 7, .lit 2, .lit 1, .reg 60, .reg 63, .reg 66, .reg 8, .reg 0, .reg 3, .reg 1, .reg 4, .reg 2, .reg 5]⟩), (70, ⟨70, [.lit 7, .lit 3, .lit 1, .reg 60, .reg 63, .reg 66, .reg 8, .reg 0, .reg 3, .reg 1, .reg 4, .reg 2, .reg 5]⟩), q1 90 25 40, q2 91 3 68 90, q2 92 3 69 90, q2 93 3 70 90]
noncomputable def S28v0 : SV := .tup [(.agg [.flt .f32 (.lit 0), .flt .f32 (.lit 0), .flt .f32 (.lit 0)]), (.one (.int .i64 (.lit 1)))]
noncomputable def S28v1 : SV := .tup [(.agg [.flt .f32 (.lit 0), .flt .f32 (.lit 0), .flt .f32 (.lit 0)]), (.one (.int .i64 (.lit 6)))]
noncomputable def S28v2 : SV := .tup [(.agg [.flt .f32 (.reg 91), .flt .f32 (.reg 92), .flt .f32 (.reg 93)]), (.one (.int .i64 (.lit 0)))]
noncomputable def S28 : Sm := ⟨S28d0, .node 9 (.leaf S28v0) (.node 10 (.leaf S28v0) (.node 11 (.leaf S28v0) (.node 19 (.node 17 (.node 27 (.node 25 (.node 32 (.leaf S28v0) (.node 30 (.leaf S28v0) (.node 37 (.leaf S28v0) (.node 35 (.leaf S28v0) (.node 52 (.leaf S28v0) (.node 50 (.leaf S28v0) (.node 54 (.leaf S28v1) (.leaf S28v2)))))))) (.leaf S28v0)) (.leaf S28v0)) (.leaf S28v0)) (.leaf S28v0))))⟩
noncomputable def pat28 : List SV := [.w (.agg [.flt .f32 (.reg 0), .flt .f32 (.reg 1), .flt .f32 (.reg 2), .flt .f32 (.reg 3), .flt .f32 (.reg 4), .flt .f32 (.reg 5), .int .i64 (.reg 6), .int .i64 (.reg 7)]), .w (.one (.ls 0 [3, 1, 1, 1] (.reg 8)))]
theorem sm28 : smRunL (ctx summ18) hn28 Try.f28 9 pat28 S28 = true := by kernel_rfl
theorem sum28 : SummOK Try.prog 28 (smL S28 9 pat28) := smL_ok (ctx_fits _) summ18_ok Try.func28 (by kernel_rfl) sm28
noncomputable def summ28 (f : Nat) : Option Summ := match Nat.beq f 28 with
  | true => some (smL S28 9 pat28)
  | false => summ18 f
theorem summ28_ok : ∀ f s, summ28 f = some s → SummOK Try.prog f s := by
  intro f s h
  unfold summ28 at h
  split at h
  · rename_i e
    have e := Nat.eq_of_beq_eq_true e
    subst e
    cases h
    exact sum28
  · exact summ18_ok f s h
end Go.Proofs.Ytgaejkfdinkpmaa
