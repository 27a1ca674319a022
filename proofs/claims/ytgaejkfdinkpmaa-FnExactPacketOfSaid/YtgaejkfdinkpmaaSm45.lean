/-
  The contract of function 45, which hands back a list of its own (its run over symbolic arguments, written out).
-/
import Derived.Test.YtgaejkfdinkpmaaSm18
import Derived.Test.YtgaejkfdinkpmaaMk
import Derived.Test.YtgaejkfdinkpmaaSxO
set_option maxRecDepth 100000
namespace Go.Proofs.Ytgaejkfdinkpmaa
open Go.Sx
noncomputable def hn45 (r : Nat) : Option Hint :=
  match r with
  | 4 => some ⟨1, [0, 3, 15, 11, 5, 17, 13, 4, 16, 12, 18, 14], [12], [⟨false, 5, 0⟩, ⟨false, 4, 0⟩], [.reg 0], [.reg 2, .reg 32, .reg 89, .reg 33, .reg 34, .reg 41, .reg 49, .reg 35, .reg 36, .reg 42, .reg 50, .reg 37, .reg 38, .reg 43, .reg 51, .reg 39, .reg 40, .reg 44, .reg 52, .reg 53, .reg 55, .reg 59, .reg 63, .reg 57, .reg 58, .reg 60, .reg 64, .reg 65, .reg 67, .reg 71, .reg 75, .reg 69, .reg 70, .reg 72, .reg 76, .reg 77, .reg 79, .reg 83, .reg 87, .reg 81, .reg 82, .reg 84, .reg 88], 0, 0, 0, 0, 0, [⟨77, [.lit 10, .lit 4, .reg 1, .reg 0, .reg 2]⟩], [(3, true)], [], 5⟩
  | 15 => some ⟨2, [0, 3, 15, 11, 19, 5, 9, 17, 13, 21, 4, 16, 12, 20, 10, 18, 14], [12], [⟨false, 9, 0⟩, ⟨false, 10, 0⟩], [.reg 29], [.reg 94, .reg 95, .reg 96, .reg 97, .reg 98, .reg 99], 4, 1, 0, 0, 0, [], [], [], 0⟩
  | _ => none
noncomputable def S45d0 : List (Nat × D) := rdsN [[1,70,1,1,1,0],[2,62,0],[3,15,2,4],[12,15,1025,4],[14,38,6,5,1],[16,34,17,4],[17,68,13,1,4,33],[18,34,17,34],[19,66,329],[20,66,273],[21,66,32],[22,66,36],[23,67,1,38],[24,67,46,40],[25,67,48,42],[26,67,50,44],[29,70,5,5,1,52,0],[91,70,9,1,1,1,58],[100,36,13,182,262085],[101,34,17,200],[102,68,13,1,200,33],[103,34,17,204],[104,66,202],[105,66,206],[108,67,58,208],[109,67,216,210]]
noncomputable def S45v0 : SV := .tup [(.one (.gl 5 [4] (.lit 0))), (.one (.int .i64 (.lit 1)))]
noncomputable def S45v1 : SV := .tup [(.one (.gl 5 [4] (.reg 109))), (.one (.int .i64 (.lit 0)))]
noncomputable def S45 : Sm := ⟨S45d0, .node 14 (.leaf S45v0) (.node 12 (.leaf S45v0) (.leaf S45v1))⟩
noncomputable def pat45 : List SV := [.w (.one (.ls 0 [3, 1, 1, 1] (.reg 0)))]
theorem sm45 : smRunG (ctx summ18) hn45 Try.f45 1 pat45 S45 = true := by kernel_rfl
theorem mfn45 : MFnOK Try.prog 45 (smG S45 1 pat45) := smG_ok (ctx_fits _) summ18_ok Try.func45 (by kernel_rfl) sm45
noncomputable def mks45 (f : Nat) : Option MK := match Nat.beq f 45 with
  | true => some (.fn (smG S45 1 pat45))
  | false => mks f
theorem mks45_ok : ∀ g m, mks45 g = some m → MKOK Try.prog g m := by
  intro g m h
  unfold mks45 at h
  split at h
  · rename_i e
    have e := Nat.eq_of_beq_eq_true e
    subst e
    cases h
    exact mfn45
  · exact mks_ok g m h
end Go.Proofs.Ytgaejkfdinkpmaa
