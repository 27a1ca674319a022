/-
  The contract of function 32, over lists (its run over symbolic arguments, written out).
-/
import Derived.Test.YtgaejkfdinkpmaaSm18
set_option maxRecDepth 100000
namespace Go.Proofs.Ytgaejkfdinkpmaa
open Go.Sx
noncomputable def hn32 (r : Nat) : Option Hint :=
  match r with
  | 8 => some ⟨1, [0, 1, 3, 7, 15, 31, 23, 19, 35, 27, 43, 9, 17, 33, 25, 41, 37, 2, 8, 16, 32, 24, 36, 28, 6, 10, 18, 34, 26, 42, 22, 38], [21, 20], [⟨false, 10, 0⟩], [.reg 8, .reg 9], [.reg 71, .reg 41, .reg 76, .reg 77, .reg 78], 1, 0, 0, 1, 0, [⟨62, [.reg 1]⟩, ⟨15, [.reg 0, .reg 3]⟩, ⟨63, [.reg 1, .reg 0, .lit 0]⟩, ⟨15, [.reg 2, .reg 5]⟩], [(4, true), (6, false)], []⟩
  | _ => none
noncomputable def S32d0 : List (Nat × D) := rdsN [[10,8,1,0],[11,8,1,2],[12,8,1,4],[13,1,0,0],[14,8,1,26],[15,1,2,2],[16,8,1,30],[17,1,4,4],[18,8,1,34],[19,38,32,5,1],[20,38,28,38,1],[21,1,6,6],[22,8,1,42],[23,1,8,8],[24,8,1,46],[25,1,10,10],[26,8,1,50],[27,38,48,5,1],[28,38,44,54,1],[29,15,12,5],[31,15,4000001,12],[33,38,58,5,1],[34,15,14,1],[36,15,4000001,14],[38,38,68,5,1],[40,70,1,1,1,16],[41,62,16],[42,15,80,82],[51,15,1025,82],[53,38,84,5,1],[55,15,18,1],[57,15,4000000001,18],[59,38,110,5,1],[60,38,118,5,1],[62,14,1,82],[64,63,16,1,1],[65,15,18,128],[66,32,13,82,5],[67,63,16,132,1],[68,15,134,18],[69,70,5,1,1,16,18],[71,31,13,138,5],[74,63,16,138,1],[77,63,16,142,1],[81,63,16,138,5],[82,63,16,138,9],[83,63,16,138,13],[84,25,162],[85,2,168,0],[86,0,170,6],[87,25,164],[88,2,174,2],[89,0,176,8],[90,25,166],[91,2,180,4],[92,0,182,10],[93,14,18,148],[94,63,16,142,5],[95,63,16,142,9],[96,63,16,142,13],[97,25,188],[98,2,194,0],[99,0,196,6],[100,25,190],[101,2,200,2],[102,0,202,8],[103,25,192],[104,2,206,4],[105,0,208,10],[106,32,13,18,148],[107,25,212],[108,32,13,154,148],[109,25,216],[110,3,214,218],[111,1,198,172],[112,2,222,220],[113,0,172,224],[114,1,204,178],[115,2,228,220],[116,0,178,230],[117,1,210,184],[118,2,234,220],[119,0,184,236]]
noncomputable def S32v0 : SV := .tup [(.agg [.flt .f32 (.lit 0), .flt .f32 (.lit 0), .flt .f32 (.lit 0)]), (.one (.int .i64 (.lit 1)))]
noncomputable def S32v1 : SV := .tup [(.agg [.flt .f32 (.lit 0), .flt .f32 (.lit 0), .flt .f32 (.lit 0)]), (.one (.int .i64 (.lit 2)))]
noncomputable def S32v2 : SV := .tup [(.agg [.flt .f32 (.lit 0), .flt .f32 (.lit 0), .flt .f32 (.lit 0)]), (.one (.int .i64 (.lit 6)))]
noncomputable def S32v3 : SV := .tup [(.agg [.flt .f32 (.reg 86), .flt .f32 (.reg 89), .flt .f32 (.reg 92)]), (.one (.int .i64 (.lit 0)))]
noncomputable def S32v4 : SV := .tup [(.agg [.flt .f32 (.reg 113), .flt .f32 (.reg 116), .flt .f32 (.reg 119)]), (.one (.int .i64 (.lit 0)))]
noncomputable def S32 : Sm := ⟨S32d0, .node 10 (.leaf S32v0) (.node 11 (.leaf S32v0) (.node 12 (.leaf S32v0) (.node 20 (.node 18 (.node 28 (.node 26 (.node 33 (.leaf S32v0) (.node 31 (.leaf S32v0) (.node 38 (.leaf S32v0) (.node 36 (.leaf S32v0) (.node 53 (.leaf S32v0) (.node 51 (.leaf S32v0) (.node 60 (.leaf S32v1) (.node 57 (.leaf S32v1) (.node 62 (.leaf S32v2) (.node 65 (.leaf S32v2) (.node 68 (.leaf S32v2) (.node 93 (.leaf S32v3) (.leaf S32v4))))))))))))) (.leaf S32v0)) (.leaf S32v0)) (.leaf S32v0)) (.leaf S32v0))))⟩
noncomputable def pat32 : List SV := [.w (.agg [.flt .f32 (.reg 0), .flt .f32 (.reg 1), .flt .f32 (.reg 2), .flt .f32 (.reg 3), .flt .f32 (.reg 4), .flt .f32 (.reg 5), .int .i64 (.reg 6), .int .i64 (.reg 7)]), .w (.one (.ls 0 [3, 1, 1, 1] (.reg 8))), .w (.one (.int .i64 (.reg 9)))]
theorem sm32 : smRunL (ctx summ18) hn32 Try.f32 10 pat32 S32 = true := by kernel_rfl
theorem sum32 : SummOK Try.prog 32 (smL S32 10 pat32) := smL_ok (ctx_fits _) summ18_ok Try.func32 (by kernel_rfl) sm32
noncomputable def summ32 (f : Nat) : Option Summ := match Nat.beq f 32 with
  | true => some (smL S32 10 pat32)
  | false => summ18 f
theorem summ32_ok : ∀ f s, summ32 f = some s → SummOK Try.prog f s := by
  intro f s h
  unfold summ32 at h
  split at h
  · rename_i e
    have e := Nat.eq_of_beq_eq_true e
    subst e
    cases h
    exact sum32
  · exact summ18_ok f s h
end Go.Proofs.Ytgaejkfdinkpmaa
