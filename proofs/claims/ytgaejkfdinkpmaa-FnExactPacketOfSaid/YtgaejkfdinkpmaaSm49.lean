/-
  The contract of function 49, which looks at a marked list.
-/
import Derived.Test.YtgaejkfdinkpmaaSm48
set_option maxRecDepth 100000
namespace Go.Proofs.Ytgaejkfdinkpmaa
open Go.Sx
noncomputable def hn49 (r : Nat) : Option Hint :=
  match r with
  | 2 => some ⟨7, [0, 1, 5, 4], [], [⟨false, 1, 0⟩, ⟨false, 5, 0⟩], [.reg 0], [.reg 5, .reg 6, .reg 7, .reg 8, .reg 9, .reg 11, .reg 12], 0, 1, 0, 0, 0, [], [], [], 0⟩
  | _ => none
noncomputable def S49d0 : List (Nat × D) := rdsN [[2,70,29,1,2,1,0],[3,170,5],[5,62,0],[6,15,6,10]]
noncomputable def S49v0 : SV := .w (.one (.int .i64 ((.lit (-1)))))
noncomputable def S49v1 : SV := .w (.one (.int .i64 (.reg 2)))
noncomputable def S49 : Sm := ⟨S49d0, .node 6 (.leaf S49v0) (.leaf S49v1)⟩
theorem sm49 : smRunL (ctx summ37) hn49 Try.f49 2 [.c (.ls 0 [4] (.reg 0)), .c (.int .i64 (.reg 1))] S49 = true := by kernel_rfl
theorem law49 : MarkLaw 6 7 := law8 mp48 (by kernel_rfl)
theorem sum49 : SummOK Try.prog 49 (heldS 6 [4]) := heldS_ok (ctx_fits _) summ37_ok Try.func49 (by kernel_rfl) sm49 (by kernel_rfl) law49
noncomputable def summ49 (f : Nat) : Option Summ := match Nat.beq f 49 with
  | true => some (heldS 6 [4])
  | false => summ37 f
theorem summ49_ok : ∀ f s, summ49 f = some s → SummOK Try.prog f s := by
  intro f s h
  unfold summ49 at h
  split at h
  · rename_i e
    have e := Nat.eq_of_beq_eq_true e
    subst e
    cases h
    exact sum49
  · exact summ37_ok f s h
noncomputable def mks48 (f : Nat) : Option MK := match Nat.beq f 48 with
  | true => some (.fn (markS 6 [4] 5))
  | false => mks36 f
theorem mks48_ok : ∀ g m, mks48 g = some m → MKOK Try.prog g m := by
  intro g m h
  unfold mks48 at h
  split at h
  · rename_i e
    have e := Nat.eq_of_beq_eq_true e
    subst e
    cases h
    exact mfn48 _ law49
  · exact mks36_ok g m h
end Go.Proofs.Ytgaejkfdinkpmaa
