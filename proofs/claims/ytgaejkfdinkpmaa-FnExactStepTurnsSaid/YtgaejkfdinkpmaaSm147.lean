/-
  The contract of function 147 (its run over symbolic arguments, written out).
-/
import Derived.Test.YtgaejkfdinkpmaaSum
set_option maxRecDepth 100000
namespace Go.Proofs.Ytgaejkfdinkpmaa
open Go.Sx
def S147d0 : List (Nat × D) := [q2 1 1 0 0, (2, ⟨8, [.lit 0, .reg 1]⟩), q1 4 18 0, (5, ⟨7, [.reg 4, .lit 4618760256179416344]⟩), q1 6 23 5, q2 7 5 5 6, (8, ⟨13, [.lit 4602678819172646912, .reg 7]⟩), (9, ⟨5, [.reg 7, .lit 4602678819172646912]⟩), q3 10 38 8 9 7, (11, ⟨12, [.lit 4598175219545276416, .reg 10]⟩), (12, ⟨5, [.lit 4602678819172646912, .reg 10]⟩), q3 13 38 11 12 10, (14, ⟨6, [.lit 4618760256179416344, .reg 13]⟩), q2 15 6 14 14, (16, ⟨7, [.reg 15, .lit 4643492690795692032]⟩), (17, ⟨6, [.reg 16, .lit 4607182418800017408]⟩), (18, ⟨5, [.lit 4607182418800017408, .reg 17]⟩), (19, ⟨7, [.reg 15, .lit 4641592734702895104]⟩), q2 20 6 19 18, (21, ⟨5, [.lit 4607182418800017408, .reg 20]⟩), (22, ⟨7, [.reg 15, .lit 4639692778610098176]⟩), q2 23 6 22 21, (24, ⟨5, [.lit 4607182418800017408, .reg 23]⟩), (25, ⟨7, [.reg 15, .lit 4637440978796412928]⟩), q2 26 6 25 24, (27, ⟨5, [.lit 4607182418800017408, .reg 26]⟩), (28, ⟨7, [.reg 15, .lit 4634766966517661696]⟩), q2 29 6 28 27, (30, ⟨5, [.lit 4607182418800017408, .reg 29]⟩), (31, ⟨7, [.reg 15, .lit 4631107791820423168]⟩), q2 32 6 31 30, (33, ⟨5, [.lit 4607182418800017408, .reg 32]⟩), (34, ⟨7, [.reg 15, .lit 4626322717216342016]⟩), q2 35 6 34 33, (36, ⟨5, [.lit 4607182418800017408, .reg 35]⟩), (37, ⟨7, [.reg 15, .lit 4618441417868443648]⟩), q2 38 6 37 36, (39, ⟨5, [.lit 4607182418800017408, .reg 38]⟩), q2 40 6 39 14, q1 41 17 40, q3 42 38 8 41 40, q1 43 19 42]
def S147v0 : SV := .w (.one (.flt .f32 (.reg 43)))
def S147v1 : SV := .w (.one (.flt .f32 (.lit 2143289344)))
def S147 : Sm := ⟨S147d0, .node 2 (.leaf S147v0) (.leaf S147v1)⟩
noncomputable def ks147 : List AK := (aksOf G0 [38]).getD []
theorem sm147 : smRun (ctx summ) Try.f147 ks147 S147 = true := by kernel_rfl
theorem sum147 : SummOK Try.prog 147 (oneS (smS S147 ks147)) := oneS_ok (smS_ok (ctx_fits _) summ_ok Try.func147 (by kernel_rfl) sm147)
noncomputable def summ147 (f : Nat) : Option Summ := match Nat.beq f 147 with
  | true => some (oneS (smS S147 ks147))
  | false => summ f
theorem summ147_ok : ∀ f s, summ147 f = some s → SummOK Try.prog f s := by
  intro f s h
  unfold summ147 at h
  split at h
  · rename_i e
    have e := Nat.eq_of_beq_eq_true e
    subst e
    cases h
    exact sum147
  · exact summ_ok f s h
end Go.Proofs.Ytgaejkfdinkpmaa
