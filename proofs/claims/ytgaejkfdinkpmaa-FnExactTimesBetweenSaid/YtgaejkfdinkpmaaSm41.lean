/-
  The contract of function 41, which hands back a list of its own (its run over symbolic arguments, written out).
-/
import Derived.Test.YtgaejkfdinkpmaaSm40
import Derived.Test.YtgaejkfdinkpmaaSxO
set_option maxRecDepth 100000
namespace Go.Proofs.Ytgaejkfdinkpmaa
open Go.Sx
noncomputable def hn41 (r : Nat) : Option Hint :=
  match r with
  | 7 => some ⟨0, [0, 1, 3, 7, 15, 31, 23, 11, 19, 27, 9, 17, 33, 25, 13, 21, 29, 2, 8, 16, 32, 24, 12, 20, 28, 10, 18, 34, 26, 14, 22, 30], [20, 22], [⟨false, 9, 0⟩, ⟨false, 8, 0⟩], [.reg 9, .reg 6], [.reg 78, .reg 76, .reg 80, .reg 83, .reg 81, .reg 82], 0, 1, 256, 3, 0, [], [], [], 9⟩
  | _ => none
noncomputable def S41d0 : List (Nat × D) := rdsN [[10,1,0,0],[11,8,1,20],[13,1,2,2],[14,8,1,26],[16,1,4,4],[17,8,1,32],[19,38,34,5,1],[20,38,28,38,1],[21,38,22,40,1],[22,1,6,6],[23,8,1,44],[25,1,8,8],[26,8,1,50],[28,1,10,10],[29,8,1,56],[31,38,58,5,1],[32,38,52,62,1],[33,38,46,64,1],[34,8,1,0],[35,8,1,2],[36,8,1,4],[37,15,12,5],[39,15,4000001,12],[41,38,74,5,1],[42,15,14,1],[44,15,4000001,14],[46,38,84,5,1],[47,38,92,5,1],[48,38,78,5,94],[49,38,82,5,96],[50,38,72,5,98],[51,38,70,5,100],[52,38,68,5,102],[53,38,66,104,5],[54,38,42,106,5],[56,15,16,1],[58,15,4000000001,16],[60,38,112,5,1],[61,38,120,5,1],[63,15,18,1],[65,15,4000000001,18],[67,38,126,5,1],[68,38,134,5,1],[70,31,13,16,12],[71,32,13,140,5],[72,35,13,142,12],[73,33,13,144,12],[74,70,1,1,146,1,18,12],[75,170,5],[78,15,18,148]]
noncomputable def S41v0 : SV := .tup [(.one (.raw (.slice none 0 0))), (.one (.int .i64 (.lit 1)))]
noncomputable def S41v1 : SV := .tup [(.one (.raw (.slice none 0 0))), (.one (.int .i64 (.lit 2)))]
noncomputable def S41v2 : SV := .tup [(.one (.gl 2 [3] (.reg 75))), (.one (.int .i64 (.lit 0)))]
noncomputable def S41v3 : SV := .tup [(.one (.raw (.slice none 0 0))), (.one (.int .i64 (.lit 3)))]
noncomputable def S41 : Sm := ⟨S41d0, .node 54 (.leaf S41v0) (.node 44 (.leaf S41v0) (.node 61 (.leaf S41v1) (.node 58 (.leaf S41v1) (.node 68 (.leaf S41v1) (.node 65 (.leaf S41v1) (.node 78 (.leaf S41v2) (.leaf S41v3)))))))⟩
noncomputable def pat41 : List SV := [.w (.agg [.flt .f32 (.reg 0), .flt .f32 (.reg 1), .flt .f32 (.reg 2), .flt .f32 (.reg 3), .flt .f32 (.reg 4), .flt .f32 (.reg 5), .int .i64 (.reg 6), .int .i64 (.reg 7)]), .w (.one (.int .i64 (.reg 8))), .w (.one (.int .i64 (.reg 9)))]
theorem sm41 : smRunG (ctx summ) hn41 Try.f41 10 pat41 S41 = true := by kernel_rfl
theorem mfn41 : MFnOK Try.prog 41 (smG S41 10 pat41) := smG_ok (ctx_fits _) summ_ok Try.func41 (by kernel_rfl) sm41
noncomputable def mks41 (f : Nat) : Option MK := match Nat.beq f 41 with
  | true => some (.fn (smG S41 10 pat41))
  | false => mks40 f
theorem mks41_ok : ∀ g m, mks41 g = some m → MKOK Try.prog g m := by
  intro g m h
  unfold mks41 at h
  split at h
  · rename_i e
    have e := Nat.eq_of_beq_eq_true e
    subst e
    cases h
    exact mfn41
  · exact mks40_ok g m h
end Go.Proofs.Ytgaejkfdinkpmaa
