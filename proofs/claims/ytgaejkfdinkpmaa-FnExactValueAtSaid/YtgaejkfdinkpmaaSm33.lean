/-
  The contract of function 33, over lists (its run over symbolic arguments, written out).
-/
import Derived.Test.YtgaejkfdinkpmaaSm84
set_option maxRecDepth 100000
namespace Go.Proofs.Ytgaejkfdinkpmaa
open Go.Sx
noncomputable def hn33 (_ : Nat) : Option Hint := none
noncomputable def S33d0 : List (Nat × D) := rdsN [[10,1,0,0],[11,8,1,20],[13,1,2,2],[14,8,1,26],[16,1,4,4],[17,8,1,32],[19,38,34,5,1],[20,38,28,38,1],[21,38,22,40,1],[22,1,6,6],[23,8,1,44],[25,1,8,8],[26,8,1,50],[28,1,10,10],[29,8,1,56],[31,38,58,5,1],[32,38,52,62,1],[33,38,46,64,1],[34,8,1,0],[35,8,1,2],[36,8,1,4],[37,15,12,5],[39,15,4000001,12],[41,38,74,5,1],[42,15,14,1],[44,15,4000001,14],[46,38,84,5,1],[47,38,92,5,1],[48,38,78,5,94],[49,38,82,5,96],[50,38,72,5,98],[51,38,70,5,100],[52,38,68,5,102],[53,38,66,104,5],[54,38,42,106,5],[56,62,16],[57,70,1,1,1,16],[58,15,114,112],[67,15,1025,112],[69,38,116,5,1],[71,15,18,1],[73,15,4000000001,18],[75,38,142,5,1],[76,38,150,5,1],[78,14,1,112],[79,63,16,1,1],[80,15,18,158],[81,32,13,112,5],[82,63,16,162,1],[83,15,164,18],[84,70,5,1,1,16,18],[85,63,16,168,1],[86,14,18,170],[87,31,13,168,5],[88,38,166,5,1],[89,38,160,1,176],[90,38,156,5,178],[91,38,160,5,1],[92,38,156,1,182],[93,38,172,5,1],[94,38,166,1,186],[95,38,160,1,188],[96,38,156,1,190],[103,14,1,168],[104,38,206,5,1],[106,63,16,168,5],[107,63,16,168,9],[108,63,16,168,13],[109,25,212],[110,2,218,0],[111,0,220,6],[112,25,214],[113,2,224,2],[114,0,226,8],[115,25,216],[116,2,230,4],[117,0,232,10],[121,63,16,174,1],[125,63,16,174,5],[126,63,16,174,9],[127,63,16,174,13],[128,25,250],[129,2,256,0],[130,0,258,6],[131,25,252],[132,2,262,2],[133,0,264,8],[134,25,254],[135,2,268,4],[136,0,270,10],[137,32,13,18,170],[138,25,274],[139,32,13,242,170],[140,25,278],[141,3,276,280],[142,1,260,222],[143,2,284,282],[144,0,222,286],[145,1,266,228],[146,2,290,282]]
noncomputable def S33d1 : List (Nat × D) := rdsN [[147,0,228,292],[148,1,272,234],[149,2,296,282],[150,0,234,298]]
noncomputable def S33v0 : SV := .tup [(.agg [.flt .f32 (.lit 0), .flt .f32 (.lit 0), .flt .f32 (.lit 0)]), (.one (.int .i64 (.lit 1)))]
noncomputable def S33v1 : SV := .tup [(.agg [.flt .f32 (.lit 0), .flt .f32 (.lit 0), .flt .f32 (.lit 0)]), (.one (.int .i64 (.lit 2)))]
noncomputable def S33v2 : SV := .tup [(.agg [.flt .f32 (.lit 0), .flt .f32 (.lit 0), .flt .f32 (.lit 0)]), (.one (.int .i64 (.lit 6)))]
noncomputable def S33v3 : SV := .tup [(.agg [.flt .f32 (.reg 111), .flt .f32 (.reg 114), .flt .f32 (.reg 117)]), (.one (.int .i64 (.lit 0)))]
noncomputable def S33v4 : SV := .tup [(.agg [.flt .f32 (.reg 144), .flt .f32 (.reg 147), .flt .f32 (.reg 150)]), (.one (.int .i64 (.lit 0)))]
noncomputable def S33 : Sm := ⟨S33d0 ++ (S33d1), .node 54 (.leaf S33v0) (.node 44 (.leaf S33v0) (.node 69 (.leaf S33v0) (.node 67 (.leaf S33v0) (.node 76 (.leaf S33v1) (.node 73 (.leaf S33v1) (.node 90 (.leaf S33v2) (.node 92 (.leaf S33v2) (.node 96 (.node 104 (.leaf S33v3) (.leaf S33v3)) (.leaf S33v4)))))))))⟩
noncomputable def pat33 : List SV := [.w (.agg [.flt .f32 (.reg 0), .flt .f32 (.reg 1), .flt .f32 (.reg 2), .flt .f32 (.reg 3), .flt .f32 (.reg 4), .flt .f32 (.reg 5), .int .i64 (.reg 6), .int .i64 (.reg 7)]), .w (.one (.ls 0 [3, 1, 1, 1] (.reg 8))), .w (.one (.int .i64 (.reg 9)))]
theorem sm33 : smRunL (ctx summ84) hn33 Try.f33 10 pat33 S33 = true := by kernel_rfl
theorem sum33 : SummOK Try.prog 33 (smL S33 10 pat33) := smL_ok (ctx_fits _) summ84_ok Try.func33 (by kernel_rfl) sm33
noncomputable def summ33 (f : Nat) : Option Summ := match Nat.beq f 33 with
  | true => some (smL S33 10 pat33)
  | false => summ84 f
theorem summ33_ok : ∀ f s, summ33 f = some s → SummOK Try.prog f s := by
  intro f s h
  unfold summ33 at h
  split at h
  · rename_i e
    have e := Nat.eq_of_beq_eq_true e
    subst e
    cases h
    exact sum33
  · exact summ84_ok f s h
end Go.Proofs.Ytgaejkfdinkpmaa
