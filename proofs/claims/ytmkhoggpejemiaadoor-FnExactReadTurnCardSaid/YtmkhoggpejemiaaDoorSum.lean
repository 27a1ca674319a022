/-
  Contracts: of functions without a Go body; of the laws' conversions, which hand back what they are handed; of the comparison of two numbers.
-/
import Derived.Test.YtmkhoggpejemiaaDoorCtx
namespace Go.Proofs.YtmkhoggpejemiaaDoor
open Go.Sx
noncomputable def G0 : Ctx := ctx (fun _ => none)
theorem fits0 : G0.ok Tryd.prog := ctx_fits _
theorem sums0 : ∀ f s, G0.summ f = some s → SummOK Tryd.prog f s := fun _ _ h => by cases h
theorem sum49 : SummOK Tryd.prog 49 (toBitsS .f32) := toBits32_ok Tryd.func49 (by kernel_rfl) (by kernel_rfl) (by kernel_rfl) (by kernel_rfl)
theorem sum54 : SummOK Tryd.prog 54 (fromBitsS .f32) := fromBits32_ok Tryd.func54 (by kernel_rfl) (by kernel_rfl) (by kernel_rfl) (by kernel_rfl)
noncomputable def ks8 : List Kd := (ksOf G0 12 23).getD []
theorem id8 : idRun G0 Tryd.f8 ks8 = true := by kernel_rfl
theorem sum8 : SummOK Tryd.prog 8 (idS ks8) := idS_ok fits0 sums0 Tryd.func8 (by kernel_rfl) id8
noncomputable def ks11 : List Kd := (ksOf G0 12 31).getD []
theorem id11 : idRun G0 Tryd.f11 ks11 = true := by kernel_rfl
theorem sum11 : SummOK Tryd.prog 11 (idS ks11) := idS_ok fits0 sums0 Tryd.func11 (by kernel_rfl) id11
noncomputable def ks23 : List Kd := (ksOf G0 12 28).getD []
theorem id23 : idRun G0 Tryd.f23 ks23 = true := by kernel_rfl
theorem sum23 : SummOK Tryd.prog 23 (idS ks23) := idS_ok fits0 sums0 Tryd.func23 (by kernel_rfl) id23
noncomputable def ks24 : List Kd := (ksOf G0 12 29).getD []
theorem id24 : idRun G0 Tryd.f24 ks24 = true := by kernel_rfl
theorem sum24 : SummOK Tryd.prog 24 (idS ks24) := idS_ok fits0 sums0 Tryd.func24 (by kernel_rfl) id24
noncomputable def ks40 : List Kd := (ksOf G0 12 28).getD []
theorem id40 : idRun G0 Tryd.f40 ks40 = true := by kernel_rfl
theorem sum40 : SummOK Tryd.prog 40 (idS ks40) := idS_ok fits0 sums0 Tryd.func40 (by kernel_rfl) id40
theorem same30 : sameRun G0 Tryd.f30 .f64 = true := by kernel_rfl
theorem sum30 : SummOK Tryd.prog 30 (sameS .f64) := sameS_ok fits0 sums0 Tryd.func30 (by kernel_rfl) same30
noncomputable def summ (f : Nat) : Option Summ :=
  match Nat.beq f 49 with
  | true => some (toBitsS .f32)
  | false =>
  match Nat.beq f 54 with
  | true => some (fromBitsS .f32)
  | false =>
  match Nat.beq f 8 with
  | true => some (idS ks8)
  | false =>
  match Nat.beq f 11 with
  | true => some (idS ks11)
  | false =>
  match Nat.beq f 23 with
  | true => some (idS ks23)
  | false =>
  match Nat.beq f 24 with
  | true => some (idS ks24)
  | false =>
  match Nat.beq f 40 with
  | true => some (idS ks40)
  | false =>
  match Nat.beq f 30 with
  | true => some (sameS .f64)
  | false =>
  none
theorem summ_ok : ∀ f s, summ f = some s → SummOK Tryd.prog f s := by
  intro f s h
  unfold summ at h
  split at h
  · rename_i e
    have e := Nat.eq_of_beq_eq_true e
    subst e
    cases h
    exact sum49
  split at h
  · rename_i e
    have e := Nat.eq_of_beq_eq_true e
    subst e
    cases h
    exact sum54
  split at h
  · rename_i e
    have e := Nat.eq_of_beq_eq_true e
    subst e
    cases h
    exact sum8
  split at h
  · rename_i e
    have e := Nat.eq_of_beq_eq_true e
    subst e
    cases h
    exact sum11
  split at h
  · rename_i e
    have e := Nat.eq_of_beq_eq_true e
    subst e
    cases h
    exact sum23
  split at h
  · rename_i e
    have e := Nat.eq_of_beq_eq_true e
    subst e
    cases h
    exact sum24
  split at h
  · rename_i e
    have e := Nat.eq_of_beq_eq_true e
    subst e
    cases h
    exact sum40
  split at h
  · rename_i e
    have e := Nat.eq_of_beq_eq_true e
    subst e
    cases h
    exact sum30
  cases h
end Go.Proofs.YtmkhoggpejemiaaDoor
