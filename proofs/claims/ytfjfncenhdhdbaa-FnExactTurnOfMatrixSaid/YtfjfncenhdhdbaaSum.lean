/-
  Contracts: of functions without a Go body; of the laws' conversions, which hand back what they are handed; of the comparison of two numbers.
-/
import Derived.Test.YtfjfncenhdhdbaaCtx
namespace Go.Proofs.Ytfjfncenhdhdbaa
open Go.Sx
noncomputable def G0 : Ctx := ctx (fun _ => none)
theorem fits0 : G0.ok Try.prog := ctx_fits _
theorem sums0 : ∀ f s, G0.summ f = some s → SummOK Try.prog f s := fun _ _ h => by cases h
theorem sum68 : SummOK Try.prog 68 (intS 24) := roundEven_ok Try.func68 (by kernel_rfl) (by kernel_rfl) (by kernel_rfl) (by kernel_rfl)
theorem sum87 : SummOK Try.prog 87 fromBitsS := fromBits_ok Try.func87 (by kernel_rfl) (by kernel_rfl) (by kernel_rfl) (by kernel_rfl)
theorem sum89 : SummOK Try.prog 89 sqrtS := sqrtS_ok Try.func89 (by kernel_rfl) (by kernel_rfl) (by kernel_rfl) (by kernel_rfl)
theorem sum91 : SummOK Try.prog 91 (intS 23) := archFloor_ok Try.func91 (by kernel_rfl) (by kernel_rfl) (by kernel_rfl) (by kernel_rfl)
noncomputable def ks10 : List Kd := (ksOf G0 12 24).getD []
theorem id10 : idRun G0 Try.f10 ks10 = true := by kernel_rfl
theorem sum10 : SummOK Try.prog 10 (idS ks10) := idS_ok fits0 sums0 Try.func10 (by kernel_rfl) id10
noncomputable def ks14 : List Kd := (ksOf G0 12 23).getD []
theorem id14 : idRun G0 Try.f14 ks14 = true := by kernel_rfl
theorem sum14 : SummOK Try.prog 14 (idS ks14) := idS_ok fits0 sums0 Try.func14 (by kernel_rfl) id14
noncomputable def ks17 : List Kd := (ksOf G0 12 25).getD []
theorem id17 : idRun G0 Try.f17 ks17 = true := by kernel_rfl
theorem sum17 : SummOK Try.prog 17 (idS ks17) := idS_ok fits0 sums0 Try.func17 (by kernel_rfl) id17
noncomputable def ks45 : List Kd := (ksOf G0 12 23).getD []
theorem id45 : idRun G0 Try.f45 ks45 = true := by kernel_rfl
theorem sum45 : SummOK Try.prog 45 (idS ks45) := idS_ok fits0 sums0 Try.func45 (by kernel_rfl) id45
theorem same50 : sameRun G0 Try.f50 .f64 = true := by kernel_rfl
theorem sum50 : SummOK Try.prog 50 (sameS .f64) := sameS_ok fits0 sums0 Try.func50 (by kernel_rfl) same50
noncomputable def summ (f : Nat) : Option Summ :=
  match Nat.beq f 68 with
  | true => some (intS 24)
  | false =>
  match Nat.beq f 87 with
  | true => some fromBitsS
  | false =>
  match Nat.beq f 89 with
  | true => some sqrtS
  | false =>
  match Nat.beq f 91 with
  | true => some (intS 23)
  | false =>
  match Nat.beq f 10 with
  | true => some (idS ks10)
  | false =>
  match Nat.beq f 14 with
  | true => some (idS ks14)
  | false =>
  match Nat.beq f 17 with
  | true => some (idS ks17)
  | false =>
  match Nat.beq f 45 with
  | true => some (idS ks45)
  | false =>
  match Nat.beq f 50 with
  | true => some (sameS .f64)
  | false =>
  none
theorem summ_ok : ∀ f s, summ f = some s → SummOK Try.prog f s := by
  intro f s h
  unfold summ at h
  split at h
  · rename_i e
    have e := Nat.eq_of_beq_eq_true e
    subst e
    cases h
    exact sum68
  split at h
  · rename_i e
    have e := Nat.eq_of_beq_eq_true e
    subst e
    cases h
    exact sum87
  split at h
  · rename_i e
    have e := Nat.eq_of_beq_eq_true e
    subst e
    cases h
    exact sum89
  split at h
  · rename_i e
    have e := Nat.eq_of_beq_eq_true e
    subst e
    cases h
    exact sum91
  split at h
  · rename_i e
    have e := Nat.eq_of_beq_eq_true e
    subst e
    cases h
    exact sum10
  split at h
  · rename_i e
    have e := Nat.eq_of_beq_eq_true e
    subst e
    cases h
    exact sum14
  split at h
  · rename_i e
    have e := Nat.eq_of_beq_eq_true e
    subst e
    cases h
    exact sum17
  split at h
  · rename_i e
    have e := Nat.eq_of_beq_eq_true e
    subst e
    cases h
    exact sum45
  split at h
  · rename_i e
    have e := Nat.eq_of_beq_eq_true e
    subst e
    cases h
    exact sum50
  cases h
end Go.Proofs.Ytfjfncenhdhdbaa
