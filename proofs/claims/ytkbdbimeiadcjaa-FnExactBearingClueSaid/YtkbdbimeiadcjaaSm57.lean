/-
  The contract of function 57 (its run over symbolic arguments, written out).
-/
import Derived.Test.YtkbdbimeiadcjaaSm63
set_option maxRecDepth 100000
namespace Go.Proofs.Ytkbdbimeiadcjaa
open Go.Sx
def S57d0 : List (Nat × D) := [q2 1 1 0 0, (2, ⟨8, [.lit 0, .reg 1]⟩), q1 4 18 0, (5, ⟨7, [.reg 4, .lit 4618760256179416344]⟩), q1 6 24 5, (7, ⟨6, [.lit 4618760256179416344, .reg 6]⟩), q2 8 5 4 7, q1 9 19 8, (10, ⟨9, [.lit 1078530011, .reg 9]⟩), (11, ⟨9, [.reg 9, .lit 3226013659]⟩)]
def S57v0 : SV := .w (.one (.flt .f32 (.lit 1078530011)))
def S57v1 : SV := .w (.one (.flt .f32 (.lit 3226013659)))
def S57v2 : SV := .w (.one (.flt .f32 (.reg 9)))
def S57v3 : SV := .w (.one (.flt .f32 (.lit 2143289344)))
def S57 : Sm := ⟨S57d0, .node 2 (.node 10 (.leaf S57v0) (.node 11 (.leaf S57v1) (.leaf S57v2))) (.leaf S57v3)⟩
noncomputable def ks57 : List AK := (aksOf G0 [22]).getD []
theorem sm57 : smRun (ctx summ63) Try.f57 ks57 S57 = true := by kernel_rfl
theorem sum57 : SummOK Try.prog 57 (oneS (smS S57 ks57)) := oneS_ok (smS_ok (ctx_fits _) summ63_ok Try.func57 (by kernel_rfl) sm57)
noncomputable def summ57 (f : Nat) : Option Summ := match Nat.beq f 57 with
  | true => some (oneS (smS S57 ks57))
  | false => summ63 f
theorem summ57_ok : ∀ f s, summ57 f = some s → SummOK Try.prog f s := by
  intro f s h
  unfold summ57 at h
  split at h
  · rename_i e
    have e := Nat.eq_of_beq_eq_true e
    subst e
    cases h
    exact sum57
  · exact summ63_ok f s h
end Go.Proofs.Ytkbdbimeiadcjaa
