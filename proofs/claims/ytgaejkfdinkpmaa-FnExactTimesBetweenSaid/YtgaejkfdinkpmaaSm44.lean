/-
  The contract of function 44, which looks at a marked list.
-/
import Derived.Test.YtgaejkfdinkpmaaSm43
set_option maxRecDepth 100000
namespace Go.Proofs.Ytgaejkfdinkpmaa
open Go.Sx
noncomputable def hn44 (r : Nat) : Option Hint :=
  match r with
  | 2 => some ⟨3, [0, 1, 5, 4], [], [⟨false, 1, 0⟩, ⟨false, 5, 0⟩], [.reg 0], [.reg 5, .reg 6, .reg 7, .reg 8, .reg 10, .reg 11], 0, 1, 0, 0, 0, [], [], [], 0⟩
  | _ => none
noncomputable def S44d0 : List (Nat × D) := rdsN [[2,70,13,1,2,1,0],[3,170,5],[5,62,0],[6,15,6,10]]
noncomputable def S44v0 : SV := .w (.one (.int .i64 ((.lit (-1)))))
noncomputable def S44v1 : SV := .w (.one (.int .i64 (.reg 2)))
noncomputable def S44 : Sm := ⟨S44d0, .node 6 (.leaf S44v0) (.leaf S44v1)⟩
theorem sm44 : smRunL (ctx summ42) hn44 Try.f44 2 [.c (.ls 0 [3] (.reg 0)), .c (.int .i64 (.reg 1))] S44 = true := by kernel_rfl
theorem law44 : MarkLaw 2 3 := law64 mp43 (by kernel_rfl)
theorem sum44 : SummOK Try.prog 44 (heldS 2 [3]) := heldS_ok (ctx_fits _) summ42_ok Try.func44 (by kernel_rfl) sm44 (by kernel_rfl) law44
noncomputable def summ44 (f : Nat) : Option Summ := match Nat.beq f 44 with
  | true => some (heldS 2 [3])
  | false => summ42 f
theorem summ44_ok : ∀ f s, summ44 f = some s → SummOK Try.prog f s := by
  intro f s h
  unfold summ44 at h
  split at h
  · rename_i e
    have e := Nat.eq_of_beq_eq_true e
    subst e
    cases h
    exact sum44
  · exact summ42_ok f s h
noncomputable def mks43 (f : Nat) : Option MK := match Nat.beq f 43 with
  | true => some (.fn (markS 2 [3] 2))
  | false => mks41 f
theorem mks43_ok : ∀ g m, mks43 g = some m → MKOK Try.prog g m := by
  intro g m h
  unfold mks43 at h
  split at h
  · rename_i e
    have e := Nat.eq_of_beq_eq_true e
    subst e
    cases h
    exact mfn43 _ law44
  · exact mks41_ok g m h
end Go.Proofs.Ytgaejkfdinkpmaa
