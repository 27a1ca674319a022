/-
  The contract of function 40, which hands back a list of its own (its run over symbolic arguments, written out).
-/
import Derived.Test.YtgaejkfdinkpmaaSum
import Derived.Test.YtgaejkfdinkpmaaSxO
set_option maxRecDepth 100000
namespace Go.Proofs.Ytgaejkfdinkpmaa
open Go.Sx
noncomputable def hn40 (r : Nat) : Option Hint :=
  match r with
  | 7 => some ⟨0, [0, 1, 3, 7, 15, 31, 23, 11, 19, 27, 9, 17, 33, 25, 13, 29, 2, 8, 16, 32, 24, 20, 28, 10, 18, 26, 14, 22, 30], [20, 22], [⟨false, 9, 0⟩, ⟨false, 8, 0⟩], [.reg 9, .reg 6], [.reg 62, .reg 60, .reg 64, .reg 67, .reg 65, .reg 66], 0, 1, 256, 3, 0, [], [], [], 9⟩
  | _ => none
noncomputable def S40d0 : List (Nat × D) := rdsN [[10,8,1,0],[11,8,1,2],[12,8,1,4],[13,1,0,0],[14,8,1,26],[15,1,2,2],[16,8,1,30],[17,1,4,4],[18,8,1,34],[19,38,32,5,1],[20,38,28,38,1],[21,1,6,6],[22,8,1,42],[23,1,8,8],[24,8,1,46],[25,1,10,10],[26,8,1,50],[27,38,48,5,1],[28,38,44,54,1],[29,15,12,5],[31,15,4000001,12],[33,38,58,5,1],[34,15,14,1],[36,15,4000001,14],[38,38,68,5,1],[40,15,16,1],[42,15,4000000001,16],[44,38,80,5,1],[45,38,88,5,1],[47,15,18,1],[49,15,4000000001,18],[51,38,94,5,1],[52,38,102,5,1],[54,31,13,16,12],[55,32,13,108,5],[56,35,13,110,12],[57,33,13,112,12],[58,70,1,1,114,1,18,12],[59,170,5],[62,15,18,116]]
noncomputable def S40v0 : SV := .tup [(.one (.gl 2 [3] (.lit 0))), (.one (.int .i64 (.lit 1)))]
noncomputable def S40v1 : SV := .tup [(.one (.gl 2 [3] (.lit 0))), (.one (.int .i64 (.lit 2)))]
noncomputable def S40v2 : SV := .tup [(.one (.gl 2 [3] (.reg 59))), (.one (.int .i64 (.lit 0)))]
noncomputable def S40v3 : SV := .tup [(.one (.gl 2 [3] (.lit 0))), (.one (.int .i64 (.lit 3)))]
noncomputable def S40 : Sm := ⟨S40d0, .node 10 (.leaf S40v0) (.node 11 (.leaf S40v0) (.node 12 (.leaf S40v0) (.node 20 (.node 18 (.node 28 (.node 26 (.node 33 (.leaf S40v0) (.node 31 (.leaf S40v0) (.node 38 (.leaf S40v0) (.node 36 (.leaf S40v0) (.node 45 (.leaf S40v1) (.node 42 (.leaf S40v1) (.node 52 (.leaf S40v1) (.node 49 (.leaf S40v1) (.node 62 (.leaf S40v2) (.leaf S40v3)))))))))) (.leaf S40v0)) (.leaf S40v0)) (.leaf S40v0)) (.leaf S40v0))))⟩
noncomputable def pat40 : List SV := [.w (.agg [.flt .f32 (.reg 0), .flt .f32 (.reg 1), .flt .f32 (.reg 2), .flt .f32 (.reg 3), .flt .f32 (.reg 4), .flt .f32 (.reg 5), .int .i64 (.reg 6), .int .i64 (.reg 7)]), .w (.one (.int .i64 (.reg 8))), .w (.one (.int .i64 (.reg 9)))]
theorem sm40 : smRunG (ctx summ) hn40 Try.f40 10 pat40 S40 = true := by kernel_rfl
theorem mfn40 : MFnOK Try.prog 40 (smG S40 10 pat40) := smG_ok (ctx_fits _) summ_ok Try.func40 (by kernel_rfl) sm40
noncomputable def mks40 (f : Nat) : Option MK := match Nat.beq f 40 with
  | true => some (.fn (smG S40 10 pat40))
  | false => noMks f
theorem mks40_ok : ∀ g m, mks40 g = some m → MKOK Try.prog g m := by
  intro g m h
  unfold mks40 at h
  split at h
  · rename_i e
    have e := Nat.eq_of_beq_eq_true e
    subst e
    cases h
    exact mfn40
  · exact noMks_ok g m h
end Go.Proofs.Ytgaejkfdinkpmaa
