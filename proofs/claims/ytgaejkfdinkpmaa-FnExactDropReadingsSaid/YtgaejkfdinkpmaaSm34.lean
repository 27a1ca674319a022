/-
  The contract of function 34, which hands back a list of its own (its run over symbolic arguments, written out).
-/
import Derived.Test.YtgaejkfdinkpmaaSm18
import Derived.Test.YtgaejkfdinkpmaaMk
import Derived.Test.YtgaejkfdinkpmaaSxO
set_option maxRecDepth 100000
namespace Go.Proofs.Ytgaejkfdinkpmaa
open Go.Sx
noncomputable def hn34 (r : Nat) : Option Hint :=
  match r with
  | 5 => some ⟨1, [0, 1, 7, 5, 9, 8, 12, 6, 10], [13], [⟨false, 7, 0⟩, ⟨false, 6, 0⟩], [.reg 0, .reg 1], [.reg 3, .reg 22, .reg 23, .reg 25, .reg 26, .reg 27, .reg 34, .reg 28, .reg 29, .reg 30, .reg 31, .reg 32, .reg 33], 0, 0, 0, 0, 0, [⟨62, [.reg 1]⟩, ⟨15, [.reg 0, .reg 4]⟩], [(5, false)], [], 7⟩
  | _ => none
noncomputable def S34d0 : List (Nat × D) := rdsN [[2,70,1,1,1,0],[3,62,0],[4,15,4,6],[13,15,1025,6],[15,38,8,5,1],[18,70,5,5,1,1,0,2]]
noncomputable def S34v0 : SV := .tup [(.one (.gl 110 [3, 1, 1, 1] (.lit 0))), (.one (.int .i64 (.lit 1)))]
noncomputable def S34v1 : SV := .tup [(.one (.gl 110 [3, 1, 1, 1] (.reg 18))), (.one (.int .i64 (.lit 0)))]
noncomputable def S34 : Sm := ⟨S34d0, .node 15 (.leaf S34v0) (.node 13 (.leaf S34v0) (.leaf S34v1))⟩
noncomputable def pat34 : List SV := [.w (.one (.ls 0 [3, 1, 1, 1] (.reg 0))), .w (.one (.int .u16 (.reg 1)))]
theorem sm34 : smRunG (ctx summ18) hn34 Try.f34 2 pat34 S34 = true := by kernel_rfl
theorem mfn34 : MFnOK Try.prog 34 (smG S34 2 pat34) := smG_ok (ctx_fits _) summ18_ok Try.func34 (by kernel_rfl) sm34
noncomputable def mks34 (f : Nat) : Option MK := match Nat.beq f 34 with
  | true => some (.fn (smG S34 2 pat34))
  | false => mks f
theorem mks34_ok : ∀ g m, mks34 g = some m → MKOK Try.prog g m := by
  intro g m h
  unfold mks34 at h
  split at h
  · rename_i e
    have e := Nat.eq_of_beq_eq_true e
    subst e
    cases h
    exact mfn34
  · exact mks_ok g m h
end Go.Proofs.Ytgaejkfdinkpmaa
