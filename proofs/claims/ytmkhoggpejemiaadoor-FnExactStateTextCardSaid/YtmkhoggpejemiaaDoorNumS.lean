/-
  Contracts: of the functions that tell a number's text (each run once, its digits compared), of strings.Join.
-/
import Derived.Test.YtmkhoggpejemiaaDoorSm25
import Derived.Test.YtmkhoggpejemiaaDoorJoin
import Derived.Test.YtmkhoggpejemiaaDoorSxM
namespace Go.Proofs.YtmkhoggpejemiaaDoor
open Go.Sx
theorem nrS36 : numRun (ctx summ) Tryd.f36 = true := by kernel_rfl
theorem numS36 : SummOK Tryd.prog 36 numS := numS_ok (ctx_fits _) summ_ok Tryd.func36 (by kernel_rfl) nrS36
theorem nrS37 : numRun (ctx summ) Tryd.f37 = true := by kernel_rfl
theorem numS37 : SummOK Tryd.prog 37 numS := numS_ok (ctx_fits _) summ_ok Tryd.func37 (by kernel_rfl) nrS37
theorem joinS38 : JoinOK Tryd.prog 38 := fun bk o c xs sep w h1 h2 h3 h4 h5 => Any.strings_Join lays156 extra156 bk o c xs sep w h1 h2 h3 h4 h5
theorem sumJS : SummOK Tryd.prog 38 joinS := joinS_ok (ctx_fits summ) Tryd.func38 (by kernel_rfl) rfl joinS38
noncomputable def summNumS (f : Nat) : Option Summ :=
  match Nat.beq f 36 with
  | true => some numS
  | false =>
  match Nat.beq f 37 with
  | true => some numS
  | false =>
  match Nat.beq f 38 with
  | true => some joinS
  | false =>
  summ25 f
theorem summNumS_ok : ∀ f s, summNumS f = some s → SummOK Tryd.prog f s := by
  intro f s h
  unfold summNumS at h
  split at h
  · rename_i e
    have e := Nat.eq_of_beq_eq_true e
    subst e
    cases h
    exact numS36
  split at h
  · rename_i e
    have e := Nat.eq_of_beq_eq_true e
    subst e
    cases h
    exact numS37
  split at h
  · rename_i e
    have e := Nat.eq_of_beq_eq_true e
    subst e
    cases h
    exact sumJS
  exact summ25_ok f s h
end Go.Proofs.YtmkhoggpejemiaaDoor
