/-
  The contract of function 46, which hands back a list of its own (its run over symbolic arguments, written out).
-/
import Derived.Test.YtgaejkfdinkpmaaSm45
import Derived.Test.YtgaejkfdinkpmaaSxO
set_option maxRecDepth 100000
namespace Go.Proofs.Ytgaejkfdinkpmaa
open Go.Sx
noncomputable def hn46 (r : Nat) : Option Hint :=
  match r with
  | 5 => some ⟨1, [0, 3, 15, 11, 19, 9, 17, 4, 16, 20, 10, 18, 14], [19, 17, 16, 14], [⟨false, 20, 0⟩, ⟨false, 4, 0⟩], [.reg 0], [.reg 1, .reg 35, .reg 96, .reg 36, .reg 40, .reg 41, .reg 56, .reg 43, .reg 44, .reg 45, .reg 57, .reg 47, .reg 48, .reg 49, .reg 58, .reg 51, .reg 52, .reg 53, .reg 59, .reg 37, .reg 61, .reg 62, .reg 70, .reg 65, .reg 66, .reg 67, .reg 71, .reg 38, .reg 73, .reg 74, .reg 82, .reg 77, .reg 78, .reg 79, .reg 83, .reg 39, .reg 85, .reg 86, .reg 94, .reg 89, .reg 90, .reg 91, .reg 95], 0, 0, 0, 0, 0, [⟨77, [.lit 10, .lit 4, .reg 1, .reg 0, .reg 2]⟩], [(3, true)], [], 5⟩
  | 3 => some ⟨2, [0, 3, 7, 8, 6], [19, 17, 16, 14], [⟨false, 3, 0⟩, ⟨false, 8, 0⟩], [.reg 32], [.reg 98, .reg 102, .reg 103, .reg 104, .reg 105, .reg 106], 0, 1, 0, 0, 0, [], [], [], 0⟩
  | _ => none
noncomputable def S46d0 : List (Nat × D) := rdsN [[1,62,0],[2,70,1,1,1,0],[3,15,4,2],[12,15,1025,2],[14,38,6,5,1],[16,66,329],[17,66,273],[18,67,1,32],[19,67,36,34],[20,34,17,2],[21,66,40],[23,68,13,1,2,33],[24,34,17,46],[25,66,48],[28,67,38,42],[29,67,56,50],[32,70,5,5,1,58,0],[99,70,9,1,1,1,64],[107,36,13,198,262085],[108,34,17,214],[109,66,216],[111,68,13,1,214,33],[112,34,17,222],[113,66,224],[116,67,64,218],[117,67,232,226]]
noncomputable def S46v0 : SV := .tup [(.one (.raw (.slice none 0 0))), (.one (.int .i64 (.lit 1)))]
noncomputable def S46v1 : SV := .tup [(.one (.gl 5 [4] (.reg 117))), (.one (.int .i64 (.lit 0)))]
noncomputable def S46 : Sm := ⟨S46d0, .node 14 (.leaf S46v0) (.node 12 (.leaf S46v0) (.leaf S46v1))⟩
noncomputable def pat46 : List SV := [.w (.one (.ls 0 [3, 1, 1, 1] (.reg 0)))]
theorem sm46 : smRunG (ctx summ18) hn46 Try.f46 1 pat46 S46 = true := by kernel_rfl
theorem mfn46 : MFnOK Try.prog 46 (smG S46 1 pat46) := smG_ok (ctx_fits _) summ18_ok Try.func46 (by kernel_rfl) sm46
noncomputable def mks46 (f : Nat) : Option MK := match Nat.beq f 46 with
  | true => some (.fn (smG S46 1 pat46))
  | false => mks45 f
theorem mks46_ok : ∀ g m, mks46 g = some m → MKOK Try.prog g m := by
  intro g m h
  unfold mks46 at h
  split at h
  · rename_i e
    have e := Nat.eq_of_beq_eq_true e
    subst e
    cases h
    exact mfn46
  · exact mks45_ok g m h
end Go.Proofs.Ytgaejkfdinkpmaa
