/-
  The contract of function 30, over lists (its run over symbolic arguments, written out).
-/
import Derived.Test.YtgaejkfdinkpmaaSm28
set_option maxRecDepth 100000
namespace Go.Proofs.Ytgaejkfdinkpmaa
open Go.Sx
noncomputable def hn30 (r : Nat) : Option Hint :=
  match r with
  | 7 => some ⟨7, [0, 1, 15, 31, 23, 11, 5, 17, 33, 25, 13, 21, 29, 2, 4, 16, 32, 12, 20, 6, 10, 18, 34, 26, 14, 22, 30], [19, 21, 20], [⟨false, 34, 0⟩, ⟨true, 21, 0⟩, ⟨true, 21, 1⟩, ⟨true, 21, 2⟩], [.reg 83, .reg 0, .reg 3, .reg 1, .reg 4, .reg 2, .reg 5], [.reg 84, .reg 90, .reg 107, .reg 92, .reg 95, .reg 96, .reg 97, .reg 104, .reg 93, .reg 98, .reg 99, .reg 100, .reg 105, .reg 94, .reg 101, .reg 102, .reg 103, .reg 106], 32, 0, 0, 0, 0⟩
  | _ => none
noncomputable def S30d0 : List (Nat × D) := [q2 9 1 0 0, (10, ⟨8, [.lit 0, .reg 9]⟩), q2 12 1 1 1, (13, ⟨8, [.lit 0, .reg 12]⟩), q2 15 1 2 2, (16, ⟨8, [.lit 0, .reg 15]⟩), (18, ⟨38, [.reg 16, .lit 1, .lit 0]⟩), (19, ⟨38, [.reg 13, .reg 18, .lit 0]⟩), (20, ⟨38, [.reg 10, .reg 19, .lit 0]⟩), q2 21 1 3 3, (22, ⟨8, [.lit 0, .reg 21]⟩), q2 24 1 4 4, (25, ⟨8, [.lit 0, .reg 24]⟩), q2 27 1 5 5, (28, ⟨8, [.lit 0, .reg 27]⟩), (30, ⟨38, [.reg 28, .lit 1, .lit 0]⟩), (31, ⟨38, [.reg 25, .reg 30, .lit 0]⟩), (32, ⟨38, [.reg 22, .reg 31, .lit 0]⟩), (33, ⟨8, [.lit 0, .reg 0]⟩), (34, ⟨8, [.lit 0, .reg 1]⟩), (35, ⟨8, [.lit 0, .reg 2]⟩), (36, ⟨15, [.reg 6, .lit 1]⟩), (38, ⟨15, [.lit 1000000, .reg 6]⟩), (40, ⟨38, [.reg 36, .lit 1, .lit 0]⟩), (41, ⟨15, [.reg 7, .lit 0]⟩), (43, ⟨15, [.lit 1000000, .reg 7]⟩), (45, ⟨38, [.reg 41, .lit 1, .lit 0]⟩), (46, ⟨38, [.reg 45, .lit 1, .lit 0]⟩), (47, ⟨38, [.reg 38, .lit 1, .reg 46]⟩), (48, ⟨38, [.reg 40, .lit 1, .reg 47]⟩), (49, ⟨38, [.reg 35, .lit 1, .reg 48]⟩), (50, ⟨38, [.reg 34, .lit 1, .reg 49]⟩), (51, ⟨38, [.reg 33, .lit 1, .reg 50]⟩), (52, ⟨38, [.reg 32, .reg 51, .lit 1]⟩), (53, ⟨38, [.reg 20, .reg 52, .lit 1]⟩), q1 55 62 8, (56, ⟨70, [.lit 0, .lit 0, .lit 0, .reg 8]⟩), q2 57 15 56 55, (66, ⟨15, [.lit 256, .reg 55]⟩), (68, ⟨38, [.reg 57, .lit 1, .lit 0]⟩), (70, ⟨14, [.lit 0, .reg 55]⟩), (71, ⟨63, [.reg 8, .lit 0, .lit 1]⟩), (72, ⟨63, [.reg 8, .lit 0, .lit 2]⟩), (73, ⟨63, [.reg 8, .lit 0, .lit 3]⟩), q1 74 25 71, q2 75 2 74 0, q2 76 0 75 3, q1 77 25 72, q2 78 2 77 1, q2 79 0 78 4, q1 80 25 73, q2 81 2 80 2, q2 82 0 81 5, (86, ⟨70, [.lit 7, .lit 1, .lit 1, .reg 76, .reg 79, .reg 82, .reg 8, .reg 0, .reg 3, .reg 1, .reg 4, .reg 2, .reg 5]⟩), (87, ⟨70, [.lit 7, .lit 2, .lit 1, .reg 76, .reg 79, .reg 82, .reg 8, .reg 0, .reg 3, .reg 1, .reg 4, .reg 2, .reg 5]⟩), (88, ⟨70, [.lit 7, .lit 3, .lit 1, .reg 76, .reg 79, .reg 82, .reg 8, .reg 0, .reg 3, .reg 1, .reg 4, .reg 2, .reg 5]⟩), q1 108 25 55, q2 109 3 86 108, q2 110 3 87 108, q2 111 3 88 108]
noncomputable def S30v0 : SV := .tup [(.agg [.flt .f32 (.lit 0), .flt .f32 (.lit 0), .flt .f32 (.lit 0)]), (.one (.int .i64 (.lit 1)))]
noncomputable def S30v1 : SV := .tup [(.agg [.flt .f32 (.lit 0), .flt .f32 (.lit 0), .flt .f32 (.lit 0)]), (.one (.int .i64 (.lit 6)))]
noncomputable def S30v2 : SV := .tup [(.agg [.flt .f32 (.reg 109), .flt .f32 (.reg 110), .flt .f32 (.reg 111)]), (.one (.int .i64 (.lit 0)))]
noncomputable def S30 : Sm := ⟨S30d0, .node 53 (.leaf S30v0) (.node 43 (.leaf S30v0) (.node 68 (.leaf S30v0) (.node 66 (.leaf S30v0) (.node 70 (.leaf S30v1) (.leaf S30v2)))))⟩
noncomputable def pat30 : List SV := [.w (.agg [.flt .f32 (.reg 0), .flt .f32 (.reg 1), .flt .f32 (.reg 2), .flt .f32 (.reg 3), .flt .f32 (.reg 4), .flt .f32 (.reg 5), .int .i64 (.reg 6), .int .i64 (.reg 7)]), .w (.one (.ls 0 [3, 1, 1, 1] (.reg 8)))]
theorem sm30 : smRunL (ctx summ28) hn30 Try.f30 9 pat30 S30 = true := by kernel_rfl
theorem sum30 : SummOK Try.prog 30 (smL S30 9 pat30) := smL_ok (ctx_fits _) summ28_ok Try.func30 (by kernel_rfl) sm30
noncomputable def summ30 (f : Nat) : Option Summ := match Nat.beq f 30 with
  | true => some (smL S30 9 pat30)
  | false => summ28 f
theorem summ30_ok : ∀ f s, summ30 f = some s → SummOK Try.prog f s := by
  intro f s h
  unfold summ30 at h
  split at h
  · rename_i e
    have e := Nat.eq_of_beq_eq_true e
    subst e
    cases h
    exact sum30
  · exact summ28_ok f s h
end Go.Proofs.Ytgaejkfdinkpmaa
