/-
  The contract of function 38, which hands back a list of its own (its run over symbolic arguments, written out).
-/
import Derived.Test.YtgaejkfdinkpmaaSm18
import Derived.Test.YtgaejkfdinkpmaaMk
import Derived.Test.YtgaejkfdinkpmaaSxO
set_option maxRecDepth 100000
namespace Go.Proofs.Ytgaejkfdinkpmaa
open Go.Sx
noncomputable def hn38 (r : Nat) : Option Hint :=
  match r with
  | 6 => some ⟨1, [0, 1, 3, 7, 15, 11, 9, 13, 2, 8, 12, 10, 18, 14], [20, 22], [⟨false, 10, 0⟩, ⟨false, 9, 0⟩], [.reg 8, .reg 9, .reg 7], [.reg 41, .reg 67, .reg 68, .reg 69, .reg 70, .reg 77, .reg 72, .reg 73, .reg 74, .reg 75, .reg 76], 1, 0, 0, 0, 0, [⟨62, [.reg 1]⟩, ⟨15, [.reg 0, .reg 5]⟩], [(6, false)], [], 10⟩
  | _ => none
noncomputable def S38d0 : List (Nat × D) := rdsN [[10,8,1,0],[11,8,1,2],[12,8,1,4],[13,1,0,0],[14,8,1,26],[15,1,2,2],[16,8,1,30],[17,1,4,4],[18,8,1,34],[19,38,32,5,1],[20,38,28,38,1],[21,1,6,6],[22,8,1,42],[23,1,8,8],[24,8,1,46],[25,1,10,10],[26,8,1,50],[27,38,48,5,1],[28,38,44,54,1],[29,15,12,5],[31,15,4000001,12],[33,38,58,5,1],[34,15,14,1],[36,15,4000001,14],[38,38,68,5,1],[40,70,1,1,1,16],[41,62,16],[42,15,80,82],[51,15,1025,82],[53,38,84,5,1],[55,15,18,1],[57,15,4000000001,18],[59,38,110,5,1],[60,38,118,5,1],[63,70,5,5,1,1,16,18,14]]
noncomputable def S38v0 : SV := .tup [(.one (.gl 110 [3, 1, 1, 1] (.lit 0))), (.one (.int .i64 (.lit 1)))]
noncomputable def S38v1 : SV := .tup [(.one (.gl 110 [3, 1, 1, 1] (.lit 0))), (.one (.int .i64 (.lit 2)))]
noncomputable def S38v2 : SV := .tup [(.one (.gl 110 [3, 1, 1, 1] (.reg 63))), (.one (.int .i64 (.lit 0)))]
noncomputable def S38 : Sm := ⟨S38d0, .node 10 (.leaf S38v0) (.node 11 (.leaf S38v0) (.node 12 (.leaf S38v0) (.node 20 (.node 18 (.node 28 (.node 26 (.node 33 (.leaf S38v0) (.node 31 (.leaf S38v0) (.node 38 (.leaf S38v0) (.node 36 (.leaf S38v0) (.node 53 (.leaf S38v0) (.node 51 (.leaf S38v0) (.node 60 (.leaf S38v1) (.node 57 (.leaf S38v1) (.leaf S38v2))))))))) (.leaf S38v0)) (.leaf S38v0)) (.leaf S38v0)) (.leaf S38v0))))⟩
noncomputable def pat38 : List SV := [.w (.agg [.flt .f32 (.reg 0), .flt .f32 (.reg 1), .flt .f32 (.reg 2), .flt .f32 (.reg 3), .flt .f32 (.reg 4), .flt .f32 (.reg 5), .int .i64 (.reg 6), .int .i64 (.reg 7)]), .w (.one (.ls 0 [3, 1, 1, 1] (.reg 8))), .w (.one (.int .i64 (.reg 9)))]
theorem sm38 : smRunG (ctx summ18) hn38 Try.f38 10 pat38 S38 = true := by kernel_rfl
theorem mfn38 : MFnOK Try.prog 38 (smG S38 10 pat38) := smG_ok (ctx_fits _) summ18_ok Try.func38 (by kernel_rfl) sm38
noncomputable def mks38 (f : Nat) : Option MK := match Nat.beq f 38 with
  | true => some (.fn (smG S38 10 pat38))
  | false => mks f
theorem mks38_ok : ∀ g m, mks38 g = some m → MKOK Try.prog g m := by
  intro g m h
  unfold mks38 at h
  split at h
  · rename_i e
    have e := Nat.eq_of_beq_eq_true e
    subst e
    cases h
    exact mfn38
  · exact mks_ok g m h
end Go.Proofs.Ytgaejkfdinkpmaa
