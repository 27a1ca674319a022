/-
  The contract of function 58 (its run over symbolic arguments, written out).
-/
import Derived.Test.YtkbdbimeiadcjaaSum
set_option maxRecDepth 100000
namespace Go.Proofs.Ytkbdbimeiadcjaa
open Go.Sx
def S58d0 : List (Nat × D) := [q2 2 1 0 0, (3, ⟨8, [.lit 0, .reg 2]⟩), q2 5 1 1 1, (6, ⟨8, [.lit 0, .reg 5]⟩), q1 8 18 0, q1 9 22 8, q1 10 18 1, q1 11 22 10, q2 12 12 11 9, q3 13 38 12 11 9, q3 14 38 12 9 11, (15, ⟨11, [.lit 0, .reg 14]⟩), q2 16 7 13 14, q2 17 6 16 16, (18, ⟨4, [.lit 4607182418800017408, .reg 17]⟩), q1 19 20 18, (20, ⟨4, [.lit 4607182418800017408, .reg 19]⟩), q2 21 7 16 20, q2 22 6 21 21, (23, ⟨4, [.lit 4607182418800017408, .reg 22]⟩), q1 24 20 23, (25, ⟨4, [.lit 4607182418800017408, .reg 24]⟩), q2 26 7 21 25, q2 27 6 26 26, (28, ⟨4, [.lit 4607182418800017408, .reg 27]⟩), q1 29 20 28, (30, ⟨4, [.lit 4607182418800017408, .reg 29]⟩), q2 31 7 26 30, q2 32 6 31 31, (33, ⟨6, [.reg 32, .lit 0]⟩), (34, ⟨5, [.lit 4585925428558828667, .reg 33]⟩), q2 35 6 32 34, (36, ⟨5, [.lit 4586426698778222948, .reg 35]⟩), q2 37 6 32 36, (38, ⟨5, [.lit 4587023449039406616, .reg 37]⟩), q2 39 6 32 38, (40, ⟨5, [.lit 4587745830934523688, .reg 39]⟩), q2 41 6 32 40, (42, ⟨5, [.lit 4588638185040256542, .reg 41]⟩), q2 43 6 32 42, (44, ⟨5, [.lit 4589468260265693457, .reg 43]⟩), q2 45 6 32 44, (46, ⟨5, [.lit 4590207312512236308, .reg 45]⟩), q2 47 6 32 46, (48, ⟨5, [.lit 4591215111030249286, .reg 47]⟩), q2 49 6 32 48, (50, ⟨5, [.lit 4592670820000712476, .reg 49]⟩), q2 51 6 32 50, (52, ⟨5, [.lit 4594314991293244562, .reg 51]⟩), q2 53 6 32 52, (54, ⟨5, [.lit 4596373779694328218, .reg 53]⟩), q2 55 6 32 54, (56, ⟨5, [.lit 4599676419421066581, .reg 55]⟩), q2 57 6 32 56, (58, ⟨5, [.lit 4607182418800017408, .reg 57]⟩), (59, ⟨6, [.lit 4620693217682128896, .reg 31]⟩), q2 60 6 59 58, (61, ⟨5, [.lit 4609753056924675352, .reg 60]⟩), q3 62 38 12 61 60, (63, ⟨9, [.reg 1, .lit 0]⟩), (64, ⟨5, [.lit 4614256656552045848, .reg 62]⟩), q3 65 38 63 64 62, (66, ⟨9, [.reg 0, .lit 0]⟩), q1 67 17 65, q3 68 38 66 67 65, q1 69 19 68]
def S58v0 : SV := .w (.one (.flt .f32 (.lit 0)))
def S58v1 : SV := .w (.one (.flt .f32 (.reg 69)))
def S58v2 : SV := .w (.one (.flt .f32 (.lit 2143289344)))
def S58 : Sm := ⟨S58d0, .node 3 (.node 6 (.node 15 (.leaf S58v0) (.leaf S58v1)) (.leaf S58v2)) (.leaf S58v2)⟩
noncomputable def ks58 : List AK := (aksOf G0 [22, 22]).getD []
theorem sm58 : smRun (ctx summ) Try.f58 ks58 S58 = true := by kernel_rfl
theorem sum58 : SummOK Try.prog 58 (oneS (smS S58 ks58)) := oneS_ok (smS_ok (ctx_fits _) summ_ok Try.func58 (by kernel_rfl) sm58)
noncomputable def summ58 (f : Nat) : Option Summ := match Nat.beq f 58 with
  | true => some (oneS (smS S58 ks58))
  | false => summ f
theorem summ58_ok : ∀ f s, summ58 f = some s → SummOK Try.prog f s := by
  intro f s h
  unfold summ58 at h
  split at h
  · rename_i e
    have e := Nat.eq_of_beq_eq_true e
    subst e
    cases h
    exact sum58
  · exact summ_ok f s h
end Go.Proofs.Ytkbdbimeiadcjaa
