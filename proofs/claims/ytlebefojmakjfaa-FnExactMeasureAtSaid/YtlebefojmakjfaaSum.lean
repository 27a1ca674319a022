/-
  Contracts: of functions without a Go body; of the laws' conversions, which hand back what they are handed; of the comparison of two numbers.
-/
import Derived.Test.YtlebefojmakjfaaCtx
namespace Go.Proofs.Ytlebefojmakjfaa
open Go.Sx
noncomputable def G0 : Ctx := ctx (fun _ => none)
theorem fits0 : G0.ok Try.prog := ctx_fits _
theorem sums0 : ∀ f s, G0.summ f = some s → SummOK Try.prog f s := fun _ _ h => by cases h
theorem sum92 : SummOK Try.prog 92 (intS 24) := roundEven_ok Try.func92 (by kernel_rfl) (by kernel_rfl) (by kernel_rfl) (by kernel_rfl)
noncomputable def ks23 : List Kd := (ksOf G0 12 23).getD []
theorem id23 : idRun G0 Try.f23 ks23 = true := by kernel_rfl
theorem sum23 : SummOK Try.prog 23 (idS ks23) := idS_ok fits0 sums0 Try.func23 (by kernel_rfl) id23
noncomputable def ks31 : List Kd := (ksOf G0 12 38).getD []
theorem id31 : idRun G0 Try.f31 ks31 = true := by kernel_rfl
theorem sum31 : SummOK Try.prog 31 (idS ks31) := idS_ok fits0 sums0 Try.func31 (by kernel_rfl) id31
noncomputable def ks59 : List Kd := (ksOf G0 12 36).getD []
theorem id59 : idRun G0 Try.f59 ks59 = true := by kernel_rfl
theorem sum59 : SummOK Try.prog 59 (idS ks59) := idS_ok fits0 sums0 Try.func59 (by kernel_rfl) id59
noncomputable def ks98 : List Kd := (ksOf G0 12 124).getD []
theorem id98 : idRun G0 Try.f98 ks98 = true := by kernel_rfl
theorem sum98 : SummOK Try.prog 98 (idS ks98) := idS_ok fits0 sums0 Try.func98 (by kernel_rfl) id98
theorem same57 : sameRun G0 Try.f57 .f64 = true := by kernel_rfl
theorem sum57 : SummOK Try.prog 57 (sameS .f64) := sameS_ok fits0 sums0 Try.func57 (by kernel_rfl) same57
noncomputable def summ (f : Nat) : Option Summ :=
  match Nat.beq f 92 with
  | true => some (intS 24)
  | false =>
  match Nat.beq f 23 with
  | true => some (idS ks23)
  | false =>
  match Nat.beq f 31 with
  | true => some (idS ks31)
  | false =>
  match Nat.beq f 59 with
  | true => some (idS ks59)
  | false =>
  match Nat.beq f 98 with
  | true => some (idS ks98)
  | false =>
  match Nat.beq f 57 with
  | true => some (sameS .f64)
  | false =>
  none
theorem summ_ok : ∀ f s, summ f = some s → SummOK Try.prog f s := by
  intro f s h
  unfold summ at h
  split at h
  · rename_i e
    have e := Nat.eq_of_beq_eq_true e
    subst e
    cases h
    exact sum92
  split at h
  · rename_i e
    have e := Nat.eq_of_beq_eq_true e
    subst e
    cases h
    exact sum23
  split at h
  · rename_i e
    have e := Nat.eq_of_beq_eq_true e
    subst e
    cases h
    exact sum31
  split at h
  · rename_i e
    have e := Nat.eq_of_beq_eq_true e
    subst e
    cases h
    exact sum59
  split at h
  · rename_i e
    have e := Nat.eq_of_beq_eq_true e
    subst e
    cases h
    exact sum98
  split at h
  · rename_i e
    have e := Nat.eq_of_beq_eq_true e
    subst e
    cases h
    exact sum57
  cases h
end Go.Proofs.Ytlebefojmakjfaa
