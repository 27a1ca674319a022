/-
  Contracts: of functions without a Go body; of the laws' conversions, which hand back what they are handed; of the comparison of two numbers.
-/
import Derived.Test.YtgaejkfdinkpmaaCtx
namespace Go.Proofs.Ytgaejkfdinkpmaa
open Go.Sx
noncomputable def G0 : Ctx := ctx (fun _ => none)
theorem fits0 : G0.ok Try.prog := ctx_fits _
theorem sums0 : ∀ f s, G0.summ f = some s → SummOK Try.prog f s := fun _ _ h => by cases h
theorem sum156 : SummOK Try.prog 156 sqrtS := sqrtS_ok Try.func156 (by kernel_rfl) (by kernel_rfl) (by kernel_rfl) (by kernel_rfl)
theorem sum162 : SummOK Try.prog 162 (fromBitsS .f64) := fromBits64_ok Try.func162 (by kernel_rfl) (by kernel_rfl) (by kernel_rfl) (by kernel_rfl)
theorem sum164 : SummOK Try.prog 164 (intS 23) := archFloor_ok Try.func164 (by kernel_rfl) (by kernel_rfl) (by kernel_rfl) (by kernel_rfl)
theorem sum172 : SummOK Try.prog 172 (toBitsS .f64) := toBits64_ok Try.func172 (by kernel_rfl) (by kernel_rfl) (by kernel_rfl) (by kernel_rfl)
noncomputable def ks29 : List Kd := (ksOf G0 12 46).getD []
theorem id29 : idRun G0 Try.f29 ks29 = true := by kernel_rfl
theorem sum29 : SummOK Try.prog 29 (idS ks29) := idS_ok fits0 sums0 Try.func29 (by kernel_rfl) id29
noncomputable def ks52 : List Kd := (ksOf G0 12 74).getD []
theorem id52 : idRun G0 Try.f52 ks52 = true := by kernel_rfl
theorem sum52 : SummOK Try.prog 52 (idS ks52) := idS_ok fits0 sums0 Try.func52 (by kernel_rfl) id52
noncomputable def ks59 : List Kd := (ksOf G0 12 89).getD []
theorem id59 : idRun G0 Try.f59 ks59 = true := by kernel_rfl
theorem sum59 : SummOK Try.prog 59 (idS ks59) := idS_ok fits0 sums0 Try.func59 (by kernel_rfl) id59
noncomputable def ks67 : List Kd := (ksOf G0 12 113).getD []
theorem id67 : idRun G0 Try.f67 ks67 = true := by kernel_rfl
theorem sum67 : SummOK Try.prog 67 (idS ks67) := idS_ok fits0 sums0 Try.func67 (by kernel_rfl) id67
noncomputable def ks79 : List Kd := (ksOf G0 12 44).getD []
theorem id79 : idRun G0 Try.f79 ks79 = true := by kernel_rfl
theorem sum79 : SummOK Try.prog 79 (idS ks79) := idS_ok fits0 sums0 Try.func79 (by kernel_rfl) id79
noncomputable def ks98 : List Kd := (ksOf G0 12 86).getD []
theorem id98 : idRun G0 Try.f98 ks98 = true := by kernel_rfl
theorem sum98 : SummOK Try.prog 98 (idS ks98) := idS_ok fits0 sums0 Try.func98 (by kernel_rfl) id98
noncomputable def ks99 : List Kd := (ksOf G0 12 87).getD []
theorem id99 : idRun G0 Try.f99 ks99 = true := by kernel_rfl
theorem sum99 : SummOK Try.prog 99 (idS ks99) := idS_ok fits0 sums0 Try.func99 (by kernel_rfl) id99
noncomputable def ks100 : List Kd := (ksOf G0 12 152).getD []
theorem id100 : idRun G0 Try.f100 ks100 = true := by kernel_rfl
theorem sum100 : SummOK Try.prog 100 (idS ks100) := idS_ok fits0 sums0 Try.func100 (by kernel_rfl) id100
noncomputable def ks112 : List Kd := (ksOf G0 12 107).getD []
theorem id112 : idRun G0 Try.f112 ks112 = true := by kernel_rfl
theorem sum112 : SummOK Try.prog 112 (idS ks112) := idS_ok fits0 sums0 Try.func112 (by kernel_rfl) id112
noncomputable def ks132 : List Kd := (ksOf G0 12 86).getD []
theorem id132 : idRun G0 Try.f132 ks132 = true := by kernel_rfl
theorem sum132 : SummOK Try.prog 132 (idS ks132) := idS_ok fits0 sums0 Try.func132 (by kernel_rfl) id132
theorem same27 : sameRun G0 Try.f27 .f64 = true := by kernel_rfl
theorem sum27 : SummOK Try.prog 27 (sameS .f64) := sameS_ok fits0 sums0 Try.func27 (by kernel_rfl) same27
noncomputable def summ (f : Nat) : Option Summ :=
  match Nat.beq f 156 with
  | true => some sqrtS
  | false =>
  match Nat.beq f 162 with
  | true => some (fromBitsS .f64)
  | false =>
  match Nat.beq f 164 with
  | true => some (intS 23)
  | false =>
  match Nat.beq f 172 with
  | true => some (toBitsS .f64)
  | false =>
  match Nat.beq f 29 with
  | true => some (idS ks29)
  | false =>
  match Nat.beq f 52 with
  | true => some (idS ks52)
  | false =>
  match Nat.beq f 59 with
  | true => some (idS ks59)
  | false =>
  match Nat.beq f 67 with
  | true => some (idS ks67)
  | false =>
  match Nat.beq f 79 with
  | true => some (idS ks79)
  | false =>
  match Nat.beq f 98 with
  | true => some (idS ks98)
  | false =>
  match Nat.beq f 99 with
  | true => some (idS ks99)
  | false =>
  match Nat.beq f 100 with
  | true => some (idS ks100)
  | false =>
  match Nat.beq f 112 with
  | true => some (idS ks112)
  | false =>
  match Nat.beq f 132 with
  | true => some (idS ks132)
  | false =>
  match Nat.beq f 27 with
  | true => some (sameS .f64)
  | false =>
  none
theorem summ_ok : ∀ f s, summ f = some s → SummOK Try.prog f s := by
  intro f s h
  unfold summ at h
  split at h
  · rename_i e
    have e := Nat.eq_of_beq_eq_true e
    subst e
    cases h
    exact sum156
  split at h
  · rename_i e
    have e := Nat.eq_of_beq_eq_true e
    subst e
    cases h
    exact sum162
  split at h
  · rename_i e
    have e := Nat.eq_of_beq_eq_true e
    subst e
    cases h
    exact sum164
  split at h
  · rename_i e
    have e := Nat.eq_of_beq_eq_true e
    subst e
    cases h
    exact sum172
  split at h
  · rename_i e
    have e := Nat.eq_of_beq_eq_true e
    subst e
    cases h
    exact sum29
  split at h
  · rename_i e
    have e := Nat.eq_of_beq_eq_true e
    subst e
    cases h
    exact sum52
  split at h
  · rename_i e
    have e := Nat.eq_of_beq_eq_true e
    subst e
    cases h
    exact sum59
  split at h
  · rename_i e
    have e := Nat.eq_of_beq_eq_true e
    subst e
    cases h
    exact sum67
  split at h
  · rename_i e
    have e := Nat.eq_of_beq_eq_true e
    subst e
    cases h
    exact sum79
  split at h
  · rename_i e
    have e := Nat.eq_of_beq_eq_true e
    subst e
    cases h
    exact sum98
  split at h
  · rename_i e
    have e := Nat.eq_of_beq_eq_true e
    subst e
    cases h
    exact sum99
  split at h
  · rename_i e
    have e := Nat.eq_of_beq_eq_true e
    subst e
    cases h
    exact sum100
  split at h
  · rename_i e
    have e := Nat.eq_of_beq_eq_true e
    subst e
    cases h
    exact sum112
  split at h
  · rename_i e
    have e := Nat.eq_of_beq_eq_true e
    subst e
    cases h
    exact sum132
  split at h
  · rename_i e
    have e := Nat.eq_of_beq_eq_true e
    subst e
    cases h
    exact sum27
  cases h
end Go.Proofs.Ytgaejkfdinkpmaa
