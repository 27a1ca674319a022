/-
  The contract of function 86, which lets elements of a list go.
-/
import Derived.Test.YtgaejkfdinkpmaaSm38
import Derived.Test.YtgaejkfdinkpmaaSxO
set_option maxRecDepth 100000
namespace Go.Proofs.Ytgaejkfdinkpmaa
open Go.Sx
noncomputable def hn86 (r : Nat) : Option Hint :=
  match r with
  | 2 => some ⟨2, [0, 1, 7, 4, 8, 6], [0], [⟨false, 8, 0⟩], [.reg 0, .reg 9, .reg 8], [.reg 12, .reg 15, .reg 16, .reg 20, .reg 21, .reg 22], 0, 0, 0, 0, 0, [], [], [], 0⟩
  | 5 => some ⟨3, [0, 1, 15, 11, 5, 9, 8, 12, 6, 10, 14], [0, 3], [⟨false, 6, 0⟩, ⟨false, 5, 0⟩, ⟨true, 0, 0⟩], [.reg 0, .reg 9, .reg 8], [.reg 12, .reg 36, .reg 37, .reg 41, .reg 42, .reg 50, .reg 49, .reg 45, .reg 38, .reg 46, .reg 39, .reg 47, .reg 40, .reg 48], 0, 0, 0, 0, 0, [⟨62, [.reg 3]⟩, ⟨15, [.reg 6, .reg 0]⟩, ⟨15, [.reg 0, .lit 0]⟩, ⟨15, [.reg 1, .reg 0]⟩, ⟨15, [.reg 1, .lit 0]⟩, ⟨62, [.reg 2]⟩, ⟨14, [.reg 6, .reg 11]⟩], [(7, false), (8, false), (9, true), (10, false), (12, true)], [], 0⟩
  | _ => none
theorem dr86 : delRun (ctx summ18) hn86 Try.f86 [3, 1, 1, 1] 110 88 2 3 = true := by kernel_rfl
theorem dl86 : DelLaw 1 2 3 := delLaw (by kernel_rfl) (by kernel_rfl) (by kernel_rfl)
theorem mfn86 : MFnOK Try.prog 86 (delS 1 88 110 [3, 1, 1, 1]) := delS_ok (ctx_fits _) summ18_ok Try.func86 (by kernel_rfl) dr86 dl86
noncomputable def mks86 (f : Nat) : Option MK := match Nat.beq f 86 with
  | true => some (.fn (delS 1 88 110 [3, 1, 1, 1]))
  | false => mks38 f
theorem mks86_ok : ∀ g m, mks86 g = some m → MKOK Try.prog g m := by
  intro g m h
  unfold mks86 at h
  split at h
  · rename_i e
    have e := Nat.eq_of_beq_eq_true e
    subst e
    cases h
    exact mfn86
  · exact mks38_ok g m h
end Go.Proofs.Ytgaejkfdinkpmaa
