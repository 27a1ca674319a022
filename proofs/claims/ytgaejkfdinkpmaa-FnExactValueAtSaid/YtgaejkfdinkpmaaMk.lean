/-
  The laws' conversions of lists: each hands back a list of its own that holds what the other holds.
-/
import Derived.Test.YtgaejkfdinkpmaaSum
set_option maxRecDepth 100000
set_option linter.unusedVariables false
namespace Go.Proofs.Ytgaejkfdinkpmaa
open Go.Sx
noncomputable def mk17 : MkD := mkDOf Try.f17 [3, 1, 1, 1] 25 110 110 3 4 6 7 11 14 15 20 21 7
theorem mk17_ok : MkOK (ctx summ) Try.f17 mk17 where
  body := by kernel_rfl
  fc := by kernel_rfl
  fB := by kernel_rfl
  nt := by kernel_rfl
  lt := ⟨of_decide_eq_true (by kernel_rfl), of_decide_eq_true (by kernel_rfl), of_decide_eq_true (by kernel_rfl), of_decide_eq_true (by kernel_rfl), of_decide_eq_true (by kernel_rfl), of_decide_eq_true (by kernel_rfl), of_decide_eq_true (by kernel_rfl)⟩
  tyOut := ⟨tyAt (ctx summ) 25, hasTy_eq (by kernel_rfl), by kernel_rfl⟩
  tyE := ⟨tyAt (ctx summ) 110, hasTy_eq (by kernel_rfl), by kernel_rfl⟩
  tyEl := ⟨tyAt (ctx summ) 110, hasTy_eq (by kernel_rfl), by kernel_rfl⟩
  p0 := piece_of (by kernel_rfl) (by kernel_rfl) (by kernel_rfl) (by kernel_rfl)
  p1 := piece_of (by kernel_rfl) (by kernel_rfl) (by kernel_rfl) ⟨by kernel_rfl, by kernel_rfl, by kernel_rfl⟩
  o1 := ⟨(mk17.R1[2]?).getD default, by kernel_rfl, by kernel_rfl, by kernel_rfl, by kernel_rfl⟩
  l1 := by kernel_rfl
  p1b := piece_of (by kernel_rfl) (by kernel_rfl) (by kernel_rfl) ⟨by kernel_rfl, by kernel_rfl⟩
  p2 := piece_of (by kernel_rfl) (by kernel_rfl) (by kernel_rfl) ⟨by kernel_rfl, by kernel_rfl, by kernel_rfl⟩
  p3 := piece_of (by kernel_rfl) (by kernel_rfl) (by kernel_rfl) ⟨by kernel_rfl, by kernel_rfl, by kernel_rfl, by kernel_rfl, by kernel_rfl, by kernel_rfl⟩
  p5 := piece_of (by kernel_rfl) (by kernel_rfl) (by kernel_rfl) ⟨by kernel_rfl, by kernel_rfl, by kernel_rfl, by kernel_rfl, by kernel_rfl, by kernel_rfl⟩
  l5 := by kernel_rfl
  o5a := ⟨(mk17.R5[mk17.m]?).getD default, by kernel_rfl, by kernel_rfl, by kernel_rfl, by kernel_rfl⟩
  o5b := ⟨(mk17.R5[mk17.m + 1]?).getD default, by kernel_rfl, by kernel_rfl, by kernel_rfl, by kernel_rfl⟩
  p4 := piece_of (by kernel_rfl) (by kernel_rfl) (by kernel_rfl) ⟨by kernel_rfl, by kernel_rfl, by kernel_rfl, by kernel_rfl⟩
  p6 := piece_of (by kernel_rfl) (by kernel_rfl) (by kernel_rfl) ⟨2, by kernel_rfl, by kernel_rfl, by decide⟩
theorem ks17_is : mk17.ks = [3, 1, 1, 1] := by kernel_rfl
theorem make17 : MakeOK Try.prog 17 [3, 1, 1, 1] := by
  rw [← ks17_is]
  exact maker_ok (ctx_fits _) summ_ok Try.func17 (by kernel_rfl) mk17_ok
noncomputable def mk53 : MkD := mkDOf Try.f53 [8, 8, 8] 81 47 47 3 4 6 7 11 14 15 20 21 7
theorem mk53_ok : MkOK (ctx summ) Try.f53 mk53 where
  body := by kernel_rfl
  fc := by kernel_rfl
  fB := by kernel_rfl
  nt := by kernel_rfl
  lt := ⟨of_decide_eq_true (by kernel_rfl), of_decide_eq_true (by kernel_rfl), of_decide_eq_true (by kernel_rfl), of_decide_eq_true (by kernel_rfl), of_decide_eq_true (by kernel_rfl), of_decide_eq_true (by kernel_rfl), of_decide_eq_true (by kernel_rfl)⟩
  tyOut := ⟨tyAt (ctx summ) 81, hasTy_eq (by kernel_rfl), by kernel_rfl⟩
  tyE := ⟨tyAt (ctx summ) 47, hasTy_eq (by kernel_rfl), by kernel_rfl⟩
  tyEl := ⟨tyAt (ctx summ) 47, hasTy_eq (by kernel_rfl), by kernel_rfl⟩
  p0 := piece_of (by kernel_rfl) (by kernel_rfl) (by kernel_rfl) (by kernel_rfl)
  p1 := piece_of (by kernel_rfl) (by kernel_rfl) (by kernel_rfl) ⟨by kernel_rfl, by kernel_rfl, by kernel_rfl⟩
  o1 := ⟨(mk53.R1[2]?).getD default, by kernel_rfl, by kernel_rfl, by kernel_rfl, by kernel_rfl⟩
  l1 := by kernel_rfl
  p1b := piece_of (by kernel_rfl) (by kernel_rfl) (by kernel_rfl) ⟨by kernel_rfl, by kernel_rfl⟩
  p2 := piece_of (by kernel_rfl) (by kernel_rfl) (by kernel_rfl) ⟨by kernel_rfl, by kernel_rfl, by kernel_rfl⟩
  p3 := piece_of (by kernel_rfl) (by kernel_rfl) (by kernel_rfl) ⟨by kernel_rfl, by kernel_rfl, by kernel_rfl, by kernel_rfl, by kernel_rfl, by kernel_rfl⟩
  p5 := piece_of (by kernel_rfl) (by kernel_rfl) (by kernel_rfl) ⟨by kernel_rfl, by kernel_rfl, by kernel_rfl, by kernel_rfl, by kernel_rfl, by kernel_rfl⟩
  l5 := by kernel_rfl
  o5a := ⟨(mk53.R5[mk53.m]?).getD default, by kernel_rfl, by kernel_rfl, by kernel_rfl, by kernel_rfl⟩
  o5b := ⟨(mk53.R5[mk53.m + 1]?).getD default, by kernel_rfl, by kernel_rfl, by kernel_rfl, by kernel_rfl⟩
  p4 := piece_of (by kernel_rfl) (by kernel_rfl) (by kernel_rfl) ⟨by kernel_rfl, by kernel_rfl, by kernel_rfl, by kernel_rfl⟩
  p6 := piece_of (by kernel_rfl) (by kernel_rfl) (by kernel_rfl) ⟨2, by kernel_rfl, by kernel_rfl, by decide⟩
theorem ks53_is : mk53.ks = [8, 8, 8] := by kernel_rfl
theorem make53 : MakeOK Try.prog 53 [8, 8, 8] := by
  rw [← ks53_is]
  exact maker_ok (ctx_fits _) summ_ok Try.func53 (by kernel_rfl) mk53_ok
noncomputable def mk60 : MkD := mkDOf Try.f60 [8, 8, 8, 8, 8, 8, 8, 8] 99 146 146 3 4 6 7 11 14 15 20 21 7
theorem mk60_ok : MkOK (ctx summ) Try.f60 mk60 where
  body := by kernel_rfl
  fc := by kernel_rfl
  fB := by kernel_rfl
  nt := by kernel_rfl
  lt := ⟨of_decide_eq_true (by kernel_rfl), of_decide_eq_true (by kernel_rfl), of_decide_eq_true (by kernel_rfl), of_decide_eq_true (by kernel_rfl), of_decide_eq_true (by kernel_rfl), of_decide_eq_true (by kernel_rfl), of_decide_eq_true (by kernel_rfl)⟩
  tyOut := ⟨tyAt (ctx summ) 99, hasTy_eq (by kernel_rfl), by kernel_rfl⟩
  tyE := ⟨tyAt (ctx summ) 146, hasTy_eq (by kernel_rfl), by kernel_rfl⟩
  tyEl := ⟨tyAt (ctx summ) 146, hasTy_eq (by kernel_rfl), by kernel_rfl⟩
  p0 := piece_of (by kernel_rfl) (by kernel_rfl) (by kernel_rfl) (by kernel_rfl)
  p1 := piece_of (by kernel_rfl) (by kernel_rfl) (by kernel_rfl) ⟨by kernel_rfl, by kernel_rfl, by kernel_rfl⟩
  o1 := ⟨(mk60.R1[2]?).getD default, by kernel_rfl, by kernel_rfl, by kernel_rfl, by kernel_rfl⟩
  l1 := by kernel_rfl
  p1b := piece_of (by kernel_rfl) (by kernel_rfl) (by kernel_rfl) ⟨by kernel_rfl, by kernel_rfl⟩
  p2 := piece_of (by kernel_rfl) (by kernel_rfl) (by kernel_rfl) ⟨by kernel_rfl, by kernel_rfl, by kernel_rfl⟩
  p3 := piece_of (by kernel_rfl) (by kernel_rfl) (by kernel_rfl) ⟨by kernel_rfl, by kernel_rfl, by kernel_rfl, by kernel_rfl, by kernel_rfl, by kernel_rfl⟩
  p5 := piece_of (by kernel_rfl) (by kernel_rfl) (by kernel_rfl) ⟨by kernel_rfl, by kernel_rfl, by kernel_rfl, by kernel_rfl, by kernel_rfl, by kernel_rfl⟩
  l5 := by kernel_rfl
  o5a := ⟨(mk60.R5[mk60.m]?).getD default, by kernel_rfl, by kernel_rfl, by kernel_rfl, by kernel_rfl⟩
  o5b := ⟨(mk60.R5[mk60.m + 1]?).getD default, by kernel_rfl, by kernel_rfl, by kernel_rfl, by kernel_rfl⟩
  p4 := piece_of (by kernel_rfl) (by kernel_rfl) (by kernel_rfl) ⟨by kernel_rfl, by kernel_rfl, by kernel_rfl, by kernel_rfl⟩
  p6 := piece_of (by kernel_rfl) (by kernel_rfl) (by kernel_rfl) ⟨2, by kernel_rfl, by kernel_rfl, by decide⟩
theorem ks60_is : mk60.ks = [8, 8, 8, 8, 8, 8, 8, 8] := by kernel_rfl
theorem make60 : MakeOK Try.prog 60 [8, 8, 8, 8, 8, 8, 8, 8] := by
  rw [← ks60_is]
  exact maker_ok (ctx_fits _) summ_ok Try.func60 (by kernel_rfl) mk60_ok
noncomputable def mk72 : MkD := mkDOf Try.f72 [8] 29 38 38 3 4 6 7 11 14 15 19 20 6
theorem mk72_ok : MkOK (ctx summ) Try.f72 mk72 where
  body := by kernel_rfl
  fc := by kernel_rfl
  fB := by kernel_rfl
  nt := by kernel_rfl
  lt := ⟨of_decide_eq_true (by kernel_rfl), of_decide_eq_true (by kernel_rfl), of_decide_eq_true (by kernel_rfl), of_decide_eq_true (by kernel_rfl), of_decide_eq_true (by kernel_rfl), of_decide_eq_true (by kernel_rfl), of_decide_eq_true (by kernel_rfl)⟩
  tyOut := ⟨tyAt (ctx summ) 29, hasTy_eq (by kernel_rfl), by kernel_rfl⟩
  tyE := ⟨tyAt (ctx summ) 38, hasTy_eq (by kernel_rfl), by kernel_rfl⟩
  tyEl := ⟨tyAt (ctx summ) 38, hasTy_eq (by kernel_rfl), by kernel_rfl⟩
  p0 := piece_of (by kernel_rfl) (by kernel_rfl) (by kernel_rfl) (by kernel_rfl)
  p1 := piece_of (by kernel_rfl) (by kernel_rfl) (by kernel_rfl) ⟨by kernel_rfl, by kernel_rfl, by kernel_rfl⟩
  o1 := ⟨(mk72.R1[2]?).getD default, by kernel_rfl, by kernel_rfl, by kernel_rfl, by kernel_rfl⟩
  l1 := by kernel_rfl
  p1b := piece_of (by kernel_rfl) (by kernel_rfl) (by kernel_rfl) ⟨by kernel_rfl, by kernel_rfl⟩
  p2 := piece_of (by kernel_rfl) (by kernel_rfl) (by kernel_rfl) ⟨by kernel_rfl, by kernel_rfl, by kernel_rfl⟩
  p3 := piece_of (by kernel_rfl) (by kernel_rfl) (by kernel_rfl) ⟨by kernel_rfl, by kernel_rfl, by kernel_rfl, by kernel_rfl, by kernel_rfl, by kernel_rfl⟩
  p5 := piece_of (by kernel_rfl) (by kernel_rfl) (by kernel_rfl) ⟨by kernel_rfl, by kernel_rfl, by kernel_rfl, by kernel_rfl, by kernel_rfl, by kernel_rfl⟩
  l5 := by kernel_rfl
  o5a := ⟨(mk72.R5[mk72.m]?).getD default, by kernel_rfl, by kernel_rfl, by kernel_rfl, by kernel_rfl⟩
  o5b := ⟨(mk72.R5[mk72.m + 1]?).getD default, by kernel_rfl, by kernel_rfl, by kernel_rfl, by kernel_rfl⟩
  p4 := piece_of (by kernel_rfl) (by kernel_rfl) (by kernel_rfl) ⟨by kernel_rfl, by kernel_rfl, by kernel_rfl, by kernel_rfl⟩
  p6 := piece_of (by kernel_rfl) (by kernel_rfl) (by kernel_rfl) ⟨2, by kernel_rfl, by kernel_rfl, by decide⟩
theorem ks72_is : mk72.ks = [8] := by kernel_rfl
theorem make72 : MakeOK Try.prog 72 [8] := by
  rw [← ks72_is]
  exact maker_ok (ctx_fits _) summ_ok Try.func72 (by kernel_rfl) mk72_ok
def mks (f : Nat) : Option (List Nat) :=
  match Nat.beq f 17 with
  | true => some [3, 1, 1, 1]
  | false =>
  match Nat.beq f 53 with
  | true => some [8, 8, 8]
  | false =>
  match Nat.beq f 60 with
  | true => some [8, 8, 8, 8, 8, 8, 8, 8]
  | false =>
  match Nat.beq f 72 with
  | true => some [8]
  | false =>
  none
theorem mks_ok : ∀ g ks, mks g = some ks → MakeOK Try.prog g ks := by
  intro g ks h
  unfold mks at h
  split at h
  · rename_i e
    have e := Nat.eq_of_beq_eq_true e
    subst e
    cases h
    exact make17
  split at h
  · rename_i e
    have e := Nat.eq_of_beq_eq_true e
    subst e
    cases h
    exact make53
  split at h
  · rename_i e
    have e := Nat.eq_of_beq_eq_true e
    subst e
    cases h
    exact make60
  split at h
  · rename_i e
    have e := Nat.eq_of_beq_eq_true e
    subst e
    cases h
    exact make72
  cases h
end Go.Proofs.Ytgaejkfdinkpmaa
