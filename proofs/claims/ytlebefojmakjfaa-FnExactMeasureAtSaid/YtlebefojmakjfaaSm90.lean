/-
  The contract of function 90 (its run over symbolic arguments, written out).
-/
import Derived.Test.YtlebefojmakjfaaSum
set_option maxRecDepth 100000
namespace Go.Proofs.Ytlebefojmakjfaa
open Go.Sx
def S90d0 : List (Nat × D) := [q1 1 18 0, q1 2 24 1, q2 3 8 0 0, (5, ⟨12, [.lit 4674736138332667904, .reg 2]⟩), (6, ⟨12, [.reg 2, .lit 13898108450065350656]⟩), q1 7 42 2]
def S90v0 : SV := .w (.one (.int .i16 (.lit 32767)))
def S90v1 : SV := .w (.one (.int .i16 ((.lit (-32768)))))
def S90v2 : SV := .w (.one (.int .i16 (.reg 7)))
def S90v3 : SV := .w (.one (.int .i16 (.lit 0)))
def S90 : Sm := ⟨S90d0, .node 3 (.node 5 (.leaf S90v0) (.node 6 (.leaf S90v1) (.leaf S90v2))) (.leaf S90v3)⟩
noncomputable def ks90 : List AK := (aksOf G0 [33]).getD []
theorem sm90 : smRun (ctx summ) Try.f90 ks90 S90 = true := by kernel_rfl
theorem sum90 : SummOK Try.prog 90 (oneS (smS S90 ks90)) := oneS_ok (smS_ok (ctx_fits _) summ_ok Try.func90 (by kernel_rfl) sm90)
noncomputable def summ90 (f : Nat) : Option Summ := match Nat.beq f 90 with
  | true => some (oneS (smS S90 ks90))
  | false => summ f
theorem summ90_ok : ∀ f s, summ90 f = some s → SummOK Try.prog f s := by
  intro f s h
  unfold summ90 at h
  split at h
  · rename_i e
    have e := Nat.eq_of_beq_eq_true e
    subst e
    cases h
    exact sum90
  · exact summ_ok f s h
end Go.Proofs.Ytlebefojmakjfaa
