/-
  Contracts: of functions without a Go body; of the laws' conversions, which hand back what they are handed; of the comparison of two numbers.
-/
import Derived.Test.YthfkcbegloccoaaCtx
namespace Go.Proofs.Ythfkcbegloccoaa
open Go.Sx
noncomputable def G0 : Ctx := ctx (fun _ => none)
theorem fits0 : G0.ok Try.prog := ctx_fits _
theorem sums0 : ∀ f s, G0.summ f = some s → SummOK Try.prog f s := fun _ _ h => by cases h
theorem sum163 : SummOK Try.prog 163 sqrtS := sqrtS_ok Try.func163 (by kernel_rfl) (by kernel_rfl) (by kernel_rfl) (by kernel_rfl)
noncomputable def ks28 : List Kd := (ksOf G0 12 25).getD []
theorem id28 : idRun G0 Try.f28 ks28 = true := by kernel_rfl
theorem sum28 : SummOK Try.prog 28 (idS ks28) := idS_ok fits0 sums0 Try.func28 (by kernel_rfl) id28
noncomputable def ks31 : List Kd := (ksOf G0 12 34).getD []
theorem id31 : idRun G0 Try.f31 ks31 = true := by kernel_rfl
theorem sum31 : SummOK Try.prog 31 (idS ks31) := idS_ok fits0 sums0 Try.func31 (by kernel_rfl) id31
noncomputable def ks44 : List Kd := (ksOf G0 12 23).getD []
theorem id44 : idRun G0 Try.f44 ks44 = true := by kernel_rfl
theorem sum44 : SummOK Try.prog 44 (idS ks44) := idS_ok fits0 sums0 Try.func44 (by kernel_rfl) id44
noncomputable def ks60 : List Kd := (ksOf G0 12 68).getD []
theorem id60 : idRun G0 Try.f60 ks60 = true := by kernel_rfl
theorem sum60 : SummOK Try.prog 60 (idS ks60) := idS_ok fits0 sums0 Try.func60 (by kernel_rfl) id60
noncomputable def ks63 : List Kd := (ksOf G0 12 35).getD []
theorem id63 : idRun G0 Try.f63 ks63 = true := by kernel_rfl
theorem sum63 : SummOK Try.prog 63 (idS ks63) := idS_ok fits0 sums0 Try.func63 (by kernel_rfl) id63
noncomputable def ks93 : List Kd := (ksOf G0 12 32).getD []
theorem id93 : idRun G0 Try.f93 ks93 = true := by kernel_rfl
theorem sum93 : SummOK Try.prog 93 (idS ks93) := idS_ok fits0 sums0 Try.func93 (by kernel_rfl) id93
noncomputable def ks117 : List Kd := (ksOf G0 12 67).getD []
theorem id117 : idRun G0 Try.f117 ks117 = true := by kernel_rfl
theorem sum117 : SummOK Try.prog 117 (idS ks117) := idS_ok fits0 sums0 Try.func117 (by kernel_rfl) id117
noncomputable def ks142 : List Kd := (ksOf G0 12 23).getD []
theorem id142 : idRun G0 Try.f142 ks142 = true := by kernel_rfl
theorem sum142 : SummOK Try.prog 142 (idS ks142) := idS_ok fits0 sums0 Try.func142 (by kernel_rfl) id142
theorem same52 : sameRun G0 Try.f52 .f64 = true := by kernel_rfl
theorem sum52 : SummOK Try.prog 52 (sameS .f64) := sameS_ok fits0 sums0 Try.func52 (by kernel_rfl) same52
noncomputable def summ (f : Nat) : Option Summ :=
  match Nat.beq f 163 with
  | true => some sqrtS
  | false =>
  match Nat.beq f 28 with
  | true => some (idS ks28)
  | false =>
  match Nat.beq f 31 with
  | true => some (idS ks31)
  | false =>
  match Nat.beq f 44 with
  | true => some (idS ks44)
  | false =>
  match Nat.beq f 60 with
  | true => some (idS ks60)
  | false =>
  match Nat.beq f 63 with
  | true => some (idS ks63)
  | false =>
  match Nat.beq f 93 with
  | true => some (idS ks93)
  | false =>
  match Nat.beq f 117 with
  | true => some (idS ks117)
  | false =>
  match Nat.beq f 142 with
  | true => some (idS ks142)
  | false =>
  match Nat.beq f 52 with
  | true => some (sameS .f64)
  | false =>
  none
theorem summ_ok : ∀ f s, summ f = some s → SummOK Try.prog f s := by
  intro f s h
  unfold summ at h
  split at h
  · rename_i e
    have e := Nat.eq_of_beq_eq_true e
    subst e
    cases h
    exact sum163
  split at h
  · rename_i e
    have e := Nat.eq_of_beq_eq_true e
    subst e
    cases h
    exact sum28
  split at h
  · rename_i e
    have e := Nat.eq_of_beq_eq_true e
    subst e
    cases h
    exact sum31
  split at h
  · rename_i e
    have e := Nat.eq_of_beq_eq_true e
    subst e
    cases h
    exact sum44
  split at h
  · rename_i e
    have e := Nat.eq_of_beq_eq_true e
    subst e
    cases h
    exact sum60
  split at h
  · rename_i e
    have e := Nat.eq_of_beq_eq_true e
    subst e
    cases h
    exact sum63
  split at h
  · rename_i e
    have e := Nat.eq_of_beq_eq_true e
    subst e
    cases h
    exact sum93
  split at h
  · rename_i e
    have e := Nat.eq_of_beq_eq_true e
    subst e
    cases h
    exact sum117
  split at h
  · rename_i e
    have e := Nat.eq_of_beq_eq_true e
    subst e
    cases h
    exact sum142
  split at h
  · rename_i e
    have e := Nat.eq_of_beq_eq_true e
    subst e
    cases h
    exact sum52
  cases h
end Go.Proofs.Ythfkcbegloccoaa
