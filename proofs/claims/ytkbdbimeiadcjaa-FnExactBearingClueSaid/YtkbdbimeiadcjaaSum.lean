/-
  Contracts: of functions without a Go body; of the laws' conversions, which hand back what they are handed; of the comparison of two numbers.
-/
import Derived.Test.YtkbdbimeiadcjaaCtx
namespace Go.Proofs.Ytkbdbimeiadcjaa
open Go.Sx
noncomputable def G0 : Ctx := ctx (fun _ => none)
theorem fits0 : G0.ok Try.prog := ctx_fits _
theorem sums0 : ∀ f s, G0.summ f = some s → SummOK Try.prog f s := fun _ _ h => by cases h
theorem sum101 : SummOK Try.prog 101 (intS 24) := roundEven_ok Try.func101 (by kernel_rfl) (by kernel_rfl) (by kernel_rfl) (by kernel_rfl)
theorem sum118 : SummOK Try.prog 118 (toBitsS .f32) := toBits32_ok Try.func118 (by kernel_rfl) (by kernel_rfl) (by kernel_rfl) (by kernel_rfl)
theorem sum119 : SummOK Try.prog 119 (fromBitsS .f64) := fromBits64_ok Try.func119 (by kernel_rfl) (by kernel_rfl) (by kernel_rfl) (by kernel_rfl)
theorem sum120 : SummOK Try.prog 120 (toBitsS .f64) := toBits64_ok Try.func120 (by kernel_rfl) (by kernel_rfl) (by kernel_rfl) (by kernel_rfl)
theorem sum121 : SummOK Try.prog 121 sqrtS := sqrtS_ok Try.func121 (by kernel_rfl) (by kernel_rfl) (by kernel_rfl) (by kernel_rfl)
theorem sum124 : SummOK Try.prog 124 (fromBitsS .f32) := fromBits32_ok Try.func124 (by kernel_rfl) (by kernel_rfl) (by kernel_rfl) (by kernel_rfl)
noncomputable def ks11 : List Kd := (ksOf G0 12 26).getD []
theorem id11 : idRun G0 Try.f11 ks11 = true := by kernel_rfl
theorem sum11 : SummOK Try.prog 11 (idS ks11) := idS_ok fits0 sums0 Try.func11 (by kernel_rfl) id11
noncomputable def ks14 : List Kd := (ksOf G0 12 34).getD []
theorem id14 : idRun G0 Try.f14 ks14 = true := by kernel_rfl
theorem sum14 : SummOK Try.prog 14 (idS ks14) := idS_ok fits0 sums0 Try.func14 (by kernel_rfl) id14
noncomputable def ks52 : List Kd := (ksOf G0 12 23).getD []
theorem id52 : idRun G0 Try.f52 ks52 = true := by kernel_rfl
theorem sum52 : SummOK Try.prog 52 (idS ks52) := idS_ok fits0 sums0 Try.func52 (by kernel_rfl) id52
noncomputable def ks53 : List Kd := (ksOf G0 12 24).getD []
theorem id53 : idRun G0 Try.f53 ks53 = true := by kernel_rfl
theorem sum53 : SummOK Try.prog 53 (idS ks53) := idS_ok fits0 sums0 Try.func53 (by kernel_rfl) id53
noncomputable def ks70 : List Kd := (ksOf G0 12 102).getD []
theorem id70 : idRun G0 Try.f70 ks70 = true := by kernel_rfl
theorem sum70 : SummOK Try.prog 70 (idS ks70) := idS_ok fits0 sums0 Try.func70 (by kernel_rfl) id70
noncomputable def ks96 : List Kd := (ksOf G0 12 23).getD []
theorem id96 : idRun G0 Try.f96 ks96 = true := by kernel_rfl
theorem sum96 : SummOK Try.prog 96 (idS ks96) := idS_ok fits0 sums0 Try.func96 (by kernel_rfl) id96
theorem same67 : sameRun G0 Try.f67 .f64 = true := by kernel_rfl
theorem sum67 : SummOK Try.prog 67 (sameS .f64) := sameS_ok fits0 sums0 Try.func67 (by kernel_rfl) same67
noncomputable def summ (f : Nat) : Option Summ :=
  match Nat.beq f 101 with
  | true => some (intS 24)
  | false =>
  match Nat.beq f 118 with
  | true => some (toBitsS .f32)
  | false =>
  match Nat.beq f 119 with
  | true => some (fromBitsS .f64)
  | false =>
  match Nat.beq f 120 with
  | true => some (toBitsS .f64)
  | false =>
  match Nat.beq f 121 with
  | true => some sqrtS
  | false =>
  match Nat.beq f 124 with
  | true => some (fromBitsS .f32)
  | false =>
  match Nat.beq f 11 with
  | true => some (idS ks11)
  | false =>
  match Nat.beq f 14 with
  | true => some (idS ks14)
  | false =>
  match Nat.beq f 52 with
  | true => some (idS ks52)
  | false =>
  match Nat.beq f 53 with
  | true => some (idS ks53)
  | false =>
  match Nat.beq f 70 with
  | true => some (idS ks70)
  | false =>
  match Nat.beq f 96 with
  | true => some (idS ks96)
  | false =>
  match Nat.beq f 67 with
  | true => some (sameS .f64)
  | false =>
  none
theorem summ_ok : ∀ f s, summ f = some s → SummOK Try.prog f s := by
  intro f s h
  unfold summ at h
  split at h
  · rename_i e
    have e := Nat.eq_of_beq_eq_true e
    subst e
    cases h
    exact sum101
  split at h
  · rename_i e
    have e := Nat.eq_of_beq_eq_true e
    subst e
    cases h
    exact sum118
  split at h
  · rename_i e
    have e := Nat.eq_of_beq_eq_true e
    subst e
    cases h
    exact sum119
  split at h
  · rename_i e
    have e := Nat.eq_of_beq_eq_true e
    subst e
    cases h
    exact sum120
  split at h
  · rename_i e
    have e := Nat.eq_of_beq_eq_true e
    subst e
    cases h
    exact sum121
  split at h
  · rename_i e
    have e := Nat.eq_of_beq_eq_true e
    subst e
    cases h
    exact sum124
  split at h
  · rename_i e
    have e := Nat.eq_of_beq_eq_true e
    subst e
    cases h
    exact sum11
  split at h
  · rename_i e
    have e := Nat.eq_of_beq_eq_true e
    subst e
    cases h
    exact sum14
  split at h
  · rename_i e
    have e := Nat.eq_of_beq_eq_true e
    subst e
    cases h
    exact sum52
  split at h
  · rename_i e
    have e := Nat.eq_of_beq_eq_true e
    subst e
    cases h
    exact sum53
  split at h
  · rename_i e
    have e := Nat.eq_of_beq_eq_true e
    subst e
    cases h
    exact sum70
  split at h
  · rename_i e
    have e := Nat.eq_of_beq_eq_true e
    subst e
    cases h
    exact sum96
  split at h
  · rename_i e
    have e := Nat.eq_of_beq_eq_true e
    subst e
    cases h
    exact sum67
  cases h
end Go.Proofs.Ytkbdbimeiadcjaa
