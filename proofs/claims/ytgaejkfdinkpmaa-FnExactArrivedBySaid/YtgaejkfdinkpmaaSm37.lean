/-
  The contract of function 37, which looks at a marked list.
-/
import Derived.Test.YtgaejkfdinkpmaaSm36
set_option maxRecDepth 100000
namespace Go.Proofs.Ytgaejkfdinkpmaa
open Go.Sx
noncomputable def hn37 (r : Nat) : Option Hint :=
  match r with
  | 2 => some ⟨6, [0, 1, 5, 4], [], [⟨false, 1, 0⟩, ⟨false, 5, 0⟩], [.reg 0], [.reg 5, .reg 6, .reg 7, .reg 8, .reg 11, .reg 10, .reg 12, .reg 13, .reg 16, .reg 15, .reg 17, .reg 18, .reg 21, .reg 20, .reg 22, .reg 23, .reg 25, .reg 26], 0, 1, 0, 0, 0, [], [], [], 0⟩
  | _ => none
noncomputable def S37d0 : List (Nat × D) := rdsN [[2,70,25,1,2,1,0],[3,170,5],[5,62,0],[6,15,6,10],[7,63,0,6,1],[8,14,4,14],[10,31,13,4,5],[11,63,0,6,5],[12,34,5,20],[13,14,22,24],[15,31,13,20,5],[16,63,0,6,9],[17,34,5,30],[18,14,32,34]]
noncomputable def S37v0 : SV := .w (.one (.int .i64 ((.lit (-1)))))
noncomputable def S37v1 : SV := .w (.one (.int .i64 (.reg 2)))
noncomputable def S37 : Sm := ⟨S37d0, .node 6 (.node 8 (.node 13 (.node 18 (.leaf S37v0) (.leaf S37v0)) (.leaf S37v0)) (.leaf S37v0)) (.leaf S37v1)⟩
theorem sm37 : smRunL (ctx summ19) hn37 Try.f37 2 [.c (.ls 0 [3, 1, 1, 1] (.reg 0)), .c (.int .i64 (.reg 1))] S37 = true := by kernel_rfl
theorem law37 : MarkLaw 5 6 := lawR mp36 (by kernel_rfl)
theorem sum37 : SummOK Try.prog 37 (heldS 5 [3, 1, 1, 1]) := heldS_ok (ctx_fits _) summ19_ok Try.func37 (by kernel_rfl) sm37 (by kernel_rfl) law37
noncomputable def summ37 (f : Nat) : Option Summ := match Nat.beq f 37 with
  | true => some (heldS 5 [3, 1, 1, 1])
  | false => summ19 f
theorem summ37_ok : ∀ f s, summ37 f = some s → SummOK Try.prog f s := by
  intro f s h
  unfold summ37 at h
  split at h
  · rename_i e
    have e := Nat.eq_of_beq_eq_true e
    subst e
    cases h
    exact sum37
  · exact summ19_ok f s h
noncomputable def mks36 (f : Nat) : Option MK := match Nat.beq f 36 with
  | true => some (.fn (markS 5 [3, 1, 1, 1] 110))
  | false => mks86 f
theorem mks36_ok : ∀ g m, mks36 g = some m → MKOK Try.prog g m := by
  intro g m h
  unfold mks36 at h
  split at h
  · rename_i e
    have e := Nat.eq_of_beq_eq_true e
    subst e
    cases h
    exact mfn36 _ law37
  · exact mks86_ok g m h
end Go.Proofs.Ytgaejkfdinkpmaa
