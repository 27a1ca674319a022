/-
  The contract of function 35, which hands back a list of its own (its run over symbolic arguments, written out).
-/
import Derived.Test.YtgaejkfdinkpmaaSm34
import Derived.Test.YtgaejkfdinkpmaaSxO
set_option maxRecDepth 100000
namespace Go.Proofs.Ytgaejkfdinkpmaa
open Go.Sx
noncomputable def hn35 (r : Nat) : Option Hint :=
  match r with
  | 5 => some ⟨1, [0, 1, 15, 11, 5, 9, 13, 12, 6, 10, 14], [13], [⟨false, 15, 0⟩, ⟨false, 6, 0⟩], [.reg 0, .reg 1], [.reg 2, .reg 22, .reg 27, .reg 28, .reg 29, .reg 30, .reg 33, .reg 23, .reg 24, .reg 25, .reg 26, .reg 31, .reg 32], 0, 0, 0, 0, 0, [⟨62, [.reg 1]⟩, ⟨15, [.reg 0, .reg 4]⟩], [(5, false)], [], 7⟩
  | _ => none
noncomputable def S35d0 : List (Nat × D) := rdsN [[2,62,0],[3,70,1,1,1,0],[4,15,6,4],[13,15,1025,4],[15,38,8,5,1],[18,70,5,5,1,1,0,2]]
noncomputable def S35v0 : SV := .tup [(.one (.raw (.slice none 0 0))), (.one (.int .i64 (.lit 1)))]
noncomputable def S35v1 : SV := .tup [(.one (.gl 110 [3, 1, 1, 1] (.reg 18))), (.one (.int .i64 (.lit 0)))]
noncomputable def S35 : Sm := ⟨S35d0, .node 15 (.leaf S35v0) (.node 13 (.leaf S35v0) (.leaf S35v1))⟩
noncomputable def pat35 : List SV := [.w (.one (.ls 0 [3, 1, 1, 1] (.reg 0))), .w (.one (.int .u16 (.reg 1)))]
theorem sm35 : smRunG (ctx summ18) hn35 Try.f35 2 pat35 S35 = true := by kernel_rfl
theorem mfn35 : MFnOK Try.prog 35 (smG S35 2 pat35) := smG_ok (ctx_fits _) summ18_ok Try.func35 (by kernel_rfl) sm35
noncomputable def mks35 (f : Nat) : Option MK := match Nat.beq f 35 with
  | true => some (.fn (smG S35 2 pat35))
  | false => mks34 f
theorem mks35_ok : ∀ g m, mks35 g = some m → MKOK Try.prog g m := by
  intro g m h
  unfold mks35 at h
  split at h
  · rename_i e
    have e := Nat.eq_of_beq_eq_true e
    subst e
    cases h
    exact mfn35
  · exact mks34_ok g m h
end Go.Proofs.Ytgaejkfdinkpmaa
