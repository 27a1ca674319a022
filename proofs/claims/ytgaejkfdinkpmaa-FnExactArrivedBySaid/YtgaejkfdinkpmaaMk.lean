/-
  The laws' conversions of lists: each hands back a list of its own that holds what the other holds.
-/
import Derived.Test.YtgaejkfdinkpmaaSum
import Derived.Test.YtgaejkfdinkpmaaSxO
set_option maxRecDepth 100000
set_option linter.unusedVariables false
namespace Go.Proofs.Ytgaejkfdinkpmaa
open Go.Sx
noncomputable def mk17 : MkD := mkDOf Try.f17 [3, 1, 1, 1] 25 110 110 3 4 6 7 11 14 15 20 21 7
theorem mk17_ok : MkOK (ctx summ) Try.f17 mk17 where
  body := by kernel_rfl
  fc := by kernel_rfl
  fB := by kernel_rfl
  nt := by kernel_rfl
  lt := ⟨of_decide_eq_true (by kernel_rfl), of_decide_eq_true (by kernel_rfl), of_decide_eq_true (by kernel_rfl), of_decide_eq_true (by kernel_rfl), of_decide_eq_true (by kernel_rfl), of_decide_eq_true (by kernel_rfl), of_decide_eq_true (by kernel_rfl)⟩
  tyOut := ⟨tyAt (ctx summ) 25, hasTy_eq (by kernel_rfl), by kernel_rfl⟩
  tyE := ⟨tyAt (ctx summ) 110, hasTy_eq (by kernel_rfl), by kernel_rfl⟩
  tyEl := ⟨tyAt (ctx summ) 110, hasTy_eq (by kernel_rfl), by kernel_rfl⟩
  p0 := piece_of (by kernel_rfl) (by kernel_rfl) (by kernel_rfl) (by kernel_rfl)
  p1 := piece_of (by kernel_rfl) (by kernel_rfl) (by kernel_rfl) ⟨by kernel_rfl, by kernel_rfl, by kernel_rfl⟩
  o1 := ⟨(mk17.R1[2]?).getD default, by kernel_rfl, by kernel_rfl, by kernel_rfl, by kernel_rfl⟩
  l1 := by kernel_rfl
  p1b := piece_of (by kernel_rfl) (by kernel_rfl) (by kernel_rfl) ⟨by kernel_rfl, by kernel_rfl⟩
  p2 := piece_of (by kernel_rfl) (by kernel_rfl) (by kernel_rfl) ⟨by kernel_rfl, by kernel_rfl, by kernel_rfl⟩
  p3 := piece_of (by kernel_rfl) (by kernel_rfl) (by kernel_rfl) ⟨by kernel_rfl, by kernel_rfl, by kernel_rfl, by kernel_rfl, by kernel_rfl, by kernel_rfl⟩
  p5 := piece_of (by kernel_rfl) (by kernel_rfl) (by kernel_rfl) ⟨by kernel_rfl, by kernel_rfl, by kernel_rfl, by kernel_rfl, by kernel_rfl, by kernel_rfl⟩
  l5 := by kernel_rfl
  o5a := ⟨(mk17.R5[mk17.m]?).getD default, by kernel_rfl, by kernel_rfl, by kernel_rfl, by kernel_rfl⟩
  o5b := ⟨(mk17.R5[mk17.m + 1]?).getD default, by kernel_rfl, by kernel_rfl, by kernel_rfl, by kernel_rfl⟩
  p4 := piece_of (by kernel_rfl) (by kernel_rfl) (by kernel_rfl) ⟨by kernel_rfl, by kernel_rfl, by kernel_rfl, by kernel_rfl⟩
  p6 := piece_of (by kernel_rfl) (by kernel_rfl) (by kernel_rfl) ⟨2, by kernel_rfl, by kernel_rfl, by decide⟩
theorem ks17_is : mk17.ks = [3, 1, 1, 1] := by kernel_rfl
theorem make17 : MakeOK Try.prog 17 [3, 1, 1, 1] 110 := by
  rw [← ks17_is]
  exact maker_ok (ctx_fits _) summ_ok Try.func17 (by kernel_rfl) mk17_ok
noncomputable def mks (f : Nat) : Option MK :=
  match Nat.beq f 17 with
  | true => some (.fn (copyG [3, 1, 1, 1] 110))
  | false =>
  none
theorem mks_ok : ∀ g m, mks g = some m → MKOK Try.prog g m := by
  intro g m h
  unfold mks at h
  split at h
  · rename_i e
    have e := Nat.eq_of_beq_eq_true e
    subst e
    cases h
    exact copyG_ok make17
  cases h
end Go.Proofs.Ytgaejkfdinkpmaa
