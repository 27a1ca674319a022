/-
  The contract of function 18, over lists (its run over symbolic arguments, written out).
-/
import Derived.Test.YtgaejkfdinkpmaaSm66
set_option maxRecDepth 100000
namespace Go.Proofs.Ytgaejkfdinkpmaa
open Go.Sx
noncomputable def hn18 (r : Nat) : Option Hint :=
  match r with
  | 2 => some ⟨0, [0, 7, 5, 2, 6], [], [⟨false, 7, 0⟩], [.reg 0], [.reg 1, .reg 4, .reg 5, .reg 11, .reg 9, .reg 17, .reg 18, .reg 19, .reg 21, .reg 22, .reg 25, .reg 26], 0, 0, 0, 0, 0, [], [], [], 0⟩
  | _ => none
noncomputable def S18d0 : List (Nat × D) := rdsN [[1,62,0],[2,70,1,1,1,0],[4,15,4,2],[5,63,0,4,1],[9,15,10,1],[11,15,4000000001,10],[12,37,22],[13,38,18,5,1],[14,38,26,5,1],[15,37,24],[16,38,30,5,1],[27,15,1025,2],[28,37,54]]
noncomputable def S18v0 : SV := .w (.one (.bool (.lit 0)))
noncomputable def S18v1 : SV := .w (.one (.bool (.reg 28)))
noncomputable def S18 : Sm := ⟨S18d0, .node 4 (.node 14 (.leaf S18v0) (.node 16 (.leaf S18v0) (.leaf S18v0))) (.leaf S18v1)⟩
noncomputable def pat18 : List SV := [.w (.one (.ls 0 [3, 1, 1, 1] (.reg 0)))]
theorem sm18 : smRunL (ctx summ66) hn18 Try.f18 1 pat18 S18 = true := by kernel_rfl
theorem sum18 : SummOK Try.prog 18 (smL S18 1 pat18) := smL_ok (ctx_fits _) summ66_ok Try.func18 (by kernel_rfl) sm18
noncomputable def summ18 (f : Nat) : Option Summ := match Nat.beq f 18 with
  | true => some (smL S18 1 pat18)
  | false => summ66 f
theorem summ18_ok : ∀ f s, summ18 f = some s → SummOK Try.prog f s := by
  intro f s h
  unfold summ18 at h
  split at h
  · rename_i e
    have e := Nat.eq_of_beq_eq_true e
    subst e
    cases h
    exact sum18
  · exact summ66_ok f s h
end Go.Proofs.Ytgaejkfdinkpmaa
