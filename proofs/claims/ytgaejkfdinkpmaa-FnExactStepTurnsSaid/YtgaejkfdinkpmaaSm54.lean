/-
  The contract of function 54, over lists (its run over symbolic arguments, written out).
-/
import Derived.Test.YtgaejkfdinkpmaaSm94
set_option maxRecDepth 100000
namespace Go.Proofs.Ytgaejkfdinkpmaa
open Go.Sx
noncomputable def hn54 (r : Nat) : Option Hint :=
  match r with
  | 4 => some ⟨2, [0, 1, 3, 7, 17, 13, 2, 16, 12, 6, 18, 14], [17, 16], [⟨false, 18, 0⟩, ⟨true, 16, 0⟩, ⟨true, 16, 1⟩, ⟨true, 16, 2⟩, ⟨true, 16, 3⟩], [.reg 4, .reg 5], [.reg 6, .reg 14, .reg 15, .reg 18, .reg 16, .reg 19, .reg 20, .reg 17, .reg 21, .reg 22, .reg 23, .reg 24, .reg 25, .reg 26, .reg 27, .reg 28, .reg 29, .reg 30, .reg 31, .reg 32, .reg 33, .reg 34, .reg 35, .reg 36, .reg 37, .reg 38, .reg 39, .reg 44, .reg 45, .reg 191, .reg 47, .reg 48, .reg 52, .reg 46, .reg 53, .reg 54, .reg 142, .reg 143, .reg 55, .reg 56, .reg 57, .reg 58, .reg 59, .reg 99, .reg 100, .reg 101, .reg 102, .reg 103, .reg 104, .reg 105, .reg 106, .reg 107, .reg 108, .reg 109, .reg 131, .reg 128, .reg 125, .reg 122, .reg 119, .reg 116, .reg 113, .reg 110, .reg 111, .reg 112, .reg 114, .reg 115, .reg 117, .reg 118, .reg 120, .reg 121, .reg 123, .reg 124, .reg 126, .reg 127, .reg 129, .reg 130, .reg 132, .reg 133, .reg 134, .reg 135, .reg 136, .reg 137, .reg 138, .reg 144, .reg 49, .reg 60, .reg 61, .reg 62, .reg 63, .reg 64, .reg 65, .reg 66, .reg 67, .reg 68, .reg 69, .reg 91, .reg 88, .reg 85, .reg 82, .reg 79, .reg 76, .reg 73, .reg 70, .reg 71, .reg 72, .reg 74, .reg 75, .reg 77, .reg 78, .reg 80, .reg 81, .reg 83, .reg 84, .reg 86, .reg 87, .reg 89, .reg 90, .reg 92, .reg 93, .reg 94, .reg 95, .reg 96, .reg 97, .reg 98, .reg 139, .reg 145, .reg 146, .reg 50, .reg 140, .reg 147, .reg 148, .reg 51, .reg 141, .reg 149, .reg 150, .reg 172, .reg 151, .reg 152, .reg 153, .reg 154, .reg 155, .reg 156, .reg 157, .reg 173, .reg 174, .reg 158, .reg 159, .reg 160, .reg 161, .reg 162, .reg 163, .reg 164, .reg 175, .reg 176, .reg 165, .reg 166, .reg 167, .reg 168, .reg 169, .reg 170, .reg 171, .reg 177, .reg 178, .reg 179, .reg 180, .reg 181, .reg 182, .reg 183, .reg 184, .reg 189, .reg 190, .reg 192, .reg 193, .reg 194, .reg 204, .reg 195, .reg 196, .reg 40, .reg 185, .reg 200, .reg 41, .reg 186, .reg 201, .reg 42, .reg 187, .reg 202, .reg 43, .reg 188, .reg 203], 1, 0, 0, false⟩
  | _ => none
noncomputable def S54d0 : List (Nat × D) := [q1 6 62 4, (7, ⟨15, [.lit 1000, .reg 6]⟩), (8, ⟨70, [.lit 2, .lit 0, .lit 0, .reg 0, .reg 1, .reg 2, .reg 3, .reg 4, .reg 5]⟩), (9, ⟨70, [.lit 2, .lit 1, .lit 0, .reg 0, .reg 1, .reg 2, .reg 3, .reg 4, .reg 5]⟩), (10, ⟨70, [.lit 2, .lit 2, .lit 0, .reg 0, .reg 1, .reg 2, .reg 3, .reg 4, .reg 5]⟩), (11, ⟨70, [.lit 2, .lit 3, .lit 0, .reg 0, .reg 1, .reg 2, .reg 3, .reg 4, .reg 5]⟩), (12, ⟨70, [.lit 2, .lit 4, .lit 0, .reg 0, .reg 1, .reg 2, .reg 3, .reg 4, .reg 5]⟩), q2 14 15 8 6]
noncomputable def S54v0 : SV := .tup [(.agg [.flt .f32 (.lit 0), .flt .f32 (.lit 0), .flt .f32 (.lit 0), .flt .f32 (.lit 0)]), (.one (.int .i64 (.lit 3)))]
noncomputable def S54v1 : SV := .tup [(.agg [.flt .f32 (.lit 0), .flt .f32 (.lit 0), .flt .f32 (.lit 0), .flt .f32 (.lit 0)]), (.one (.int .i64 (.lit 4)))]
noncomputable def S54v2 : SV := .tup [(.agg [.flt .f32 (.reg 9), .flt .f32 (.reg 10), .flt .f32 (.reg 11), .flt .f32 (.reg 12)]), (.one (.int .i64 (.lit 0)))]
noncomputable def S54 : Sm := ⟨S54d0, .node 7 (.leaf S54v0) (.node 14 (.leaf S54v1) (.leaf S54v2))⟩
noncomputable def pat54 : List SV := [.w (.agg [.flt .f32 (.reg 0), .flt .f32 (.reg 1), .flt .f32 (.reg 2), .flt .f32 (.reg 3)]), .w (.one (.ls 0 [8, 8, 8] (.reg 4))), .w (.one (.flt .f32 (.reg 5)))]
theorem sm54 : smRunL (ctx summ94) hn54 Try.f54 6 pat54 S54 = true := by kernel_rfl
theorem sum54 : SummOK Try.prog 54 (smL S54 6 pat54) := smL_ok (ctx_fits _) summ94_ok Try.func54 (by kernel_rfl) sm54
noncomputable def summ54 (f : Nat) : Option Summ := match Nat.beq f 54 with
  | true => some (smL S54 6 pat54)
  | false => summ94 f
theorem summ54_ok : ∀ f s, summ54 f = some s → SummOK Try.prog f s := by
  intro f s h
  unfold summ54 at h
  split at h
  · rename_i e
    have e := Nat.eq_of_beq_eq_true e
    subst e
    cases h
    exact sum54
  · exact summ94_ok f s h
end Go.Proofs.Ytgaejkfdinkpmaa
