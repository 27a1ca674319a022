/-
  The run of function 84, a search with a function that has caught a number.
-/
import Derived.Test.YtgaejkfdinkpmaaSm32
import Derived.Test.YtgaejkfdinkpmaaSxO
set_option maxRecDepth 100000
namespace Go.Proofs.Ytgaejkfdinkpmaa
open Go.Sx
noncomputable def hn84 (r : Nat) : Option Hint :=
  match r with
  | 2 => some ⟨2, [0, 1, 7, 4, 8, 6], [], [⟨false, 8, 0⟩], [.reg 0, .reg 1], [.reg 3, .reg 6, .reg 7, .reg 11, .reg 13], 0, 0, 0, 0, 0, [], [], []⟩
  | _ => none
noncomputable def S84d0 : List (Nat × D) := rdsN [[3,62,0],[4,70,9,1,1,0,2],[6,15,8,6]]
noncomputable def S84v0 : SV := .w (.one (.int .i64 (.reg 4)))
noncomputable def S84v1 : SV := .w (.one (.int .i64 ((.lit (-1)))))
noncomputable def S84 : Sm := ⟨S84d0, .node 6 (.leaf S84v0) (.leaf S84v1)⟩
theorem sm84 : smRunC (ctx summ32) hn84 Try.f84 [3, 1, 1, 1] 85 S84 = true := by kernel_rfl
theorem sum84 : SummOK Try.prog 84 (valS 0 1 85 [3, 1, 1, 1]) := valS_ok (ctx_fits _) summ32_ok Try.func84 (by kernel_rfl) sm84 (idI := 2) (by kernel_rfl) (by kernel_rfl) (by kernel_rfl) (by kernel_rfl)
noncomputable def summ84 (f : Nat) : Option Summ := match Nat.beq f 84 with
  | true => some (valS 0 1 85 [3, 1, 1, 1])
  | false => summ32 f
theorem summ84_ok : ∀ f s, summ84 f = some s → SummOK Try.prog f s := by
  intro f s h
  unfold summ84 at h
  split at h
  · rename_i e
    have e := Nat.eq_of_beq_eq_true e
    subst e
    cases h
    exact sum84
  · exact summ32_ok f s h
end Go.Proofs.Ytgaejkfdinkpmaa
