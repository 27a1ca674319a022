/-
  The contract of function 148 (its run over symbolic arguments, written out).
-/
import Derived.Test.YtgaejkfdinkpmaaSm153
set_option maxRecDepth 100000
namespace Go.Proofs.Ytgaejkfdinkpmaa
open Go.Sx
def S148d0 : List (Nat × D) := [q2 1 1 0 0, (2, ⟨8, [.lit 0, .reg 1]⟩), q1 4 18 0, (5, ⟨7, [.reg 4, .lit 4618760256179416344]⟩), (6, ⟨4, [.reg 5, .lit 4598175219545276416]⟩), q1 7 23 6, q2 8 5 6 7, (9, ⟨13, [.lit 4602678819172646912, .reg 8]⟩), (10, ⟨5, [.reg 8, .lit 4602678819172646912]⟩), q3 11 38 9 10 8, (12, ⟨12, [.lit 4598175219545276416, .reg 11]⟩), (13, ⟨5, [.lit 4602678819172646912, .reg 11]⟩), q3 14 38 12 13 11, (15, ⟨6, [.lit 4618760256179416344, .reg 14]⟩), q2 16 6 15 15, (17, ⟨7, [.reg 16, .lit 4643492690795692032]⟩), (18, ⟨6, [.reg 17, .lit 4607182418800017408]⟩), (19, ⟨5, [.lit 4607182418800017408, .reg 18]⟩), (20, ⟨7, [.reg 16, .lit 4641592734702895104]⟩), q2 21 6 20 19, (22, ⟨5, [.lit 4607182418800017408, .reg 21]⟩), (23, ⟨7, [.reg 16, .lit 4639692778610098176]⟩), q2 24 6 23 22, (25, ⟨5, [.lit 4607182418800017408, .reg 24]⟩), (26, ⟨7, [.reg 16, .lit 4637440978796412928]⟩), q2 27 6 26 25, (28, ⟨5, [.lit 4607182418800017408, .reg 27]⟩), (29, ⟨7, [.reg 16, .lit 4634766966517661696]⟩), q2 30 6 29 28, (31, ⟨5, [.lit 4607182418800017408, .reg 30]⟩), (32, ⟨7, [.reg 16, .lit 4631107791820423168]⟩), q2 33 6 32 31, (34, ⟨5, [.lit 4607182418800017408, .reg 33]⟩), (35, ⟨7, [.reg 16, .lit 4626322717216342016]⟩), q2 36 6 35 34, (37, ⟨5, [.lit 4607182418800017408, .reg 36]⟩), (38, ⟨7, [.reg 16, .lit 4618441417868443648]⟩), q2 39 6 38 37, (40, ⟨5, [.lit 4607182418800017408, .reg 39]⟩), q2 41 6 40 15, q1 42 17 41, q3 43 38 9 42 41, q1 44 19 43]
def S148v0 : SV := .w (.one (.flt .f32 (.reg 44)))
def S148v1 : SV := .w (.one (.flt .f32 (.lit 2143289344)))
def S148 : Sm := ⟨S148d0, .node 2 (.leaf S148v0) (.leaf S148v1)⟩
noncomputable def ks148 : List AK := (aksOf G0 [38]).getD []
theorem sm148 : smRun (ctx summ153) Try.f148 ks148 S148 = true := by kernel_rfl
theorem sum148 : SummOK Try.prog 148 (oneS (smS S148 ks148)) := oneS_ok (smS_ok (ctx_fits _) summ153_ok Try.func148 (by kernel_rfl) sm148)
noncomputable def summ148 (f : Nat) : Option Summ := match Nat.beq f 148 with
  | true => some (oneS (smS S148 ks148))
  | false => summ153 f
theorem summ148_ok : ∀ f s, summ148 f = some s → SummOK Try.prog f s := by
  intro f s h
  unfold summ148 at h
  split at h
  · rename_i e
    have e := Nat.eq_of_beq_eq_true e
    subst e
    cases h
    exact sum148
  · exact summ153_ok f s h
end Go.Proofs.Ytgaejkfdinkpmaa
