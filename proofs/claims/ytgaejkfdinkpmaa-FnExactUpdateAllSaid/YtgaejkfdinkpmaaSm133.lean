/-
  The contract of function 133, over lists (its run over symbolic arguments, written out).
-/
import Derived.Test.YtgaejkfdinkpmaaSm105
set_option maxRecDepth 100000
namespace Go.Proofs.Ytgaejkfdinkpmaa
open Go.Sx
noncomputable def hn133 (r : Nat) : Option Hint :=
  match r with
  | 2 => some ⟨2, [0, 1, 7, 4, 8, 6], [], [⟨false, 8, 0⟩], [.reg 0], [.reg 1, .reg 4, .reg 8, .reg 22, .reg 23, .reg 11, .reg 31, .reg 32, .reg 12, .reg 37, .reg 10, .reg 28, .reg 29, .reg 9, .reg 25, .reg 26, .reg 7, .reg 19, .reg 20, .reg 6, .reg 16, .reg 17, .reg 34, .reg 35, .reg 5, .reg 13, .reg 14, .reg 48], 0, 0, 0, 0, 0, [], [], []⟩
  | _ => none
noncomputable def S133d0 : List (Nat × D) := rdsN [[1,62,0],[2,70,9,1,1,0],[4,15,4,2],[5,63,0,4,1],[6,63,0,4,5],[7,63,0,4,9],[8,63,0,4,13],[9,63,0,4,17],[10,63,0,4,21],[11,63,0,4,25],[12,63,0,4,29],[13,1,10,10],[14,8,1,26],[16,1,12,12],[17,8,1,32],[19,1,14,14],[20,8,1,38],[22,1,16,16],[23,8,1,44],[25,1,18,18],[26,8,1,50],[28,1,20,20],[29,8,1,56],[31,1,22,22],[32,8,1,62],[34,1,24,24],[35,8,1,68],[38,38,70,5,1],[39,38,64,76,1],[40,38,58,78,1],[41,38,52,80,1],[42,38,46,82,1],[43,38,40,84,1],[44,38,34,86,1],[45,38,28,88,1],[47,38,90,5,1]]
noncomputable def S133v0 : SV := .w (.one (.int .i64 (.reg 2)))
noncomputable def S133v1 : SV := .w (.one (.int .i64 ((.lit (-1)))))
noncomputable def S133 : Sm := ⟨S133d0, .node 4 (.node 47 (.leaf S133v0) (.leaf S133v0)) (.leaf S133v1)⟩
noncomputable def pat133 : List SV := [.w (.one (.ls 0 [8, 8, 8, 8, 8, 8, 8, 8] (.reg 0))), .w (.one (.raw (.func (.func 103) #[] #[])))]
theorem sm133 : smRunL (ctx summ105) hn133 Try.f133 1 pat133 S133 = true := by kernel_rfl
theorem sum133 : SummOK Try.prog 133 (smL S133 1 pat133) := smL_ok (ctx_fits _) summ105_ok Try.func133 (by kernel_rfl) sm133
noncomputable def summ133 (f : Nat) : Option Summ := match Nat.beq f 133 with
  | true => some (smL S133 1 pat133)
  | false => summ105 f
theorem summ133_ok : ∀ f s, summ133 f = some s → SummOK Try.prog f s := by
  intro f s h
  unfold summ133 at h
  split at h
  · rename_i e
    have e := Nat.eq_of_beq_eq_true e
    subst e
    cases h
    exact sum133
  · exact summ105_ok f s h
end Go.Proofs.Ytgaejkfdinkpmaa
