/-
  The contract of function 66, over lists (its run over symbolic arguments, written out).
-/
import Derived.Test.YtgaejkfdinkpmaaSum
set_option maxRecDepth 100000
namespace Go.Proofs.Ytgaejkfdinkpmaa
open Go.Sx
noncomputable def hn66 (r : Nat) : Option Hint :=
  match r with
  | 2 => some ⟨0, [0, 3, 2], [], [⟨false, 3, 0⟩], [.reg 0], [.reg 3, .reg 4, .reg 5, .reg 8, .reg 6, .reg 14, .reg 15, .reg 16, .reg 18, .reg 19, .reg 22, .reg 23], 0, 0, 0, 0, 0, [], [], [], 0⟩
  | _ => none
noncomputable def S66d0 : List (Nat × D) := rdsN [[1,70,1,1,1,0],[3,62,0],[4,15,2,6],[5,63,0,2,1],[6,15,10,1],[8,15,4000000001,10],[9,37,16],[10,38,12,5,1],[11,38,20,5,1],[12,37,18],[13,38,24,5,1],[24,15,1025,6],[25,37,48]]
noncomputable def S66v0 : SV := .w (.one (.bool (.lit 0)))
noncomputable def S66v1 : SV := .w (.one (.bool (.reg 25)))
noncomputable def S66 : Sm := ⟨S66d0, .node 4 (.node 11 (.leaf S66v0) (.node 13 (.leaf S66v0) (.leaf S66v0))) (.leaf S66v1)⟩
noncomputable def pat66 : List SV := [.w (.one (.ls 0 [3, 1, 1, 1] (.reg 0)))]
theorem sm66 : smRunL (ctx summ) hn66 Try.f66 1 pat66 S66 = true := by kernel_rfl
theorem sum66 : SummOK Try.prog 66 (smL S66 1 pat66) := smL_ok (ctx_fits _) summ_ok Try.func66 (by kernel_rfl) sm66
noncomputable def summ66 (f : Nat) : Option Summ := match Nat.beq f 66 with
  | true => some (smL S66 1 pat66)
  | false => summ f
theorem summ66_ok : ∀ f s, summ66 f = some s → SummOK Try.prog f s := by
  intro f s h
  unfold summ66 at h
  split at h
  · rename_i e
    have e := Nat.eq_of_beq_eq_true e
    subst e
    cases h
    exact sum66
  · exact summ_ok f s h
end Go.Proofs.Ytgaejkfdinkpmaa
