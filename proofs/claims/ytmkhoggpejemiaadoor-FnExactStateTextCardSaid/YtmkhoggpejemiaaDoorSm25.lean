/-
  The contract of function 25, over lists (its run over symbolic arguments, written out).
-/
import Derived.Test.YtmkhoggpejemiaaDoorSum
set_option maxRecDepth 100000
namespace Go.Proofs.YtmkhoggpejemiaaDoor
open Go.Sx
noncomputable def hn25 (_ : Nat) : Option Hint := none
noncomputable def S25d0 : List (Nat × D) := rdsN [[42,1,0,0],[43,8,1,84],[45,1,2,2],[46,8,1,90],[48,1,4,4],[49,8,1,96],[51,1,6,6],[52,8,1,102],[54,1,8,8],[55,8,1,108],[57,1,10,10],[58,8,1,114],[60,1,12,12],[61,8,1,120],[63,1,14,14],[64,8,1,126],[66,1,16,16],[67,8,1,132],[69,1,18,18],[70,8,1,138],[72,1,20,20],[73,8,1,144],[75,1,22,22],[76,8,1,150],[78,9,12,1],[79,8,1,14],[81,8,1,16],[83,8,1,18],[85,8,1,20],[87,8,1,22],[89,1,24,24],[90,8,1,178],[92,1,26,26],[93,8,1,184],[95,1,28,28],[96,8,1,190],[98,1,30,30],[99,8,1,196],[101,1,32,32],[102,8,1,202],[104,1,34,34],[105,8,1,208],[107,9,26,1],[108,8,1,28],[110,8,1,30],[112,8,1,32],[114,8,1,34],[116,1,36,36],[117,8,1,232],[119,1,38,38],[120,8,1,238],[122,1,40,40],[123,8,1,244],[125,1,42,42],[126,8,1,250],[128,1,44,44],[129,8,1,256],[131,1,46,46],[132,8,1,262],[134,9,40,1],[135,8,1,42],[137,8,1,44],[139,8,1,46],[141,1,48,48],[142,8,1,282],[144,1,50,50],[145,8,1,288],[147,1,52,52],[148,8,1,294],[150,1,54,54],[151,8,1,300],[153,1,56,56],[154,8,1,306],[156,1,58,58],[157,8,1,312],[159,9,54,1],[160,8,1,56],[162,8,1,58],[164,1,60,60],[165,8,1,328],[167,1,62,62],[168,8,1,334],[170,1,64,64],[171,8,1,340],[173,1,66,66],[174,8,1,346],[176,1,68,68],[177,8,1,352],[179,1,70,70],[180,8,1,358],[182,9,68,1],[183,8,1,70],[185,1,72,72],[186,8,1,370],[188,1,74,74],[189,8,1,376],[191,1,76,76],[192,8,1,382],[194,1,78,78],[195,8,1,388]]
noncomputable def S25d1 : List (Nat × D) := rdsN [[197,1,80,80],[198,8,1,394],[200,1,82,82],[201,8,1,400],[203,9,82,1]]
noncomputable def S25v0 : SV := .w (.one (.bool (.lit 0)))
noncomputable def S25v1 : SV := .w (.one (.bool (.lit 1)))
noncomputable def S25 : Sm := ⟨S25d0 ++ (S25d1), .node 43 (.node 46 (.node 49 (.node 52 (.node 55 (.node 58 (.node 61 (.node 64 (.node 67 (.node 70 (.node 73 (.node 76 (.node 78 (.leaf S25v0) (.node 79 (.node 81 (.node 83 (.node 85 (.node 87 (.node 90 (.node 93 (.node 96 (.node 99 (.node 102 (.node 105 (.node 107 (.leaf S25v0) (.node 108 (.node 110 (.node 112 (.node 114 (.node 117 (.node 120 (.node 123 (.node 126 (.node 129 (.node 132 (.node 134 (.leaf S25v0) (.node 135 (.node 137 (.node 139 (.node 142 (.node 145 (.node 148 (.node 151 (.node 154 (.node 157 (.node 159 (.leaf S25v0) (.node 160 (.node 162 (.node 165 (.node 168 (.node 171 (.node 174 (.node 177 (.node 180 (.node 182 (.leaf S25v0) (.node 183 (.node 186 (.node 189 (.node 192 (.node 195 (.node 198 (.node 201 (.node 203 (.leaf S25v0) (.leaf S25v1)) (.leaf S25v0)) (.leaf S25v0)) (.leaf S25v0)) (.leaf S25v0)) (.leaf S25v0)) (.leaf S25v0)) (.leaf S25v0))) (.leaf S25v0)) (.leaf S25v0)) (.leaf S25v0)) (.leaf S25v0)) (.leaf S25v0)) (.leaf S25v0)) (.leaf S25v0)) (.leaf S25v0))) (.leaf S25v0)) (.leaf S25v0)) (.leaf S25v0)) (.leaf S25v0)) (.leaf S25v0)) (.leaf S25v0)) (.leaf S25v0)) (.leaf S25v0)) (.leaf S25v0))) (.leaf S25v0)) (.leaf S25v0)) (.leaf S25v0)) (.leaf S25v0)) (.leaf S25v0)) (.leaf S25v0)) (.leaf S25v0)) (.leaf S25v0)) (.leaf S25v0)) (.leaf S25v0))) (.leaf S25v0)) (.leaf S25v0)) (.leaf S25v0)) (.leaf S25v0)) (.leaf S25v0)) (.leaf S25v0)) (.leaf S25v0)) (.leaf S25v0)) (.leaf S25v0)) (.leaf S25v0)) (.leaf S25v0))) (.leaf S25v0)) (.leaf S25v0)) (.leaf S25v0)) (.leaf S25v0)) (.leaf S25v0)) (.leaf S25v0)) (.leaf S25v0)) (.leaf S25v0)) (.leaf S25v0)) (.leaf S25v0)) (.leaf S25v0)) (.leaf S25v0)⟩
noncomputable def pat25 : List SV := [.w (.agg [.flt .f32 (.reg 0), .flt .f32 (.reg 1), .flt .f32 (.reg 2), .flt .f32 (.reg 3), .flt .f32 (.reg 4), .flt .f32 (.reg 5), .flt .f32 (.reg 6), .flt .f32 (.reg 7), .flt .f32 (.reg 8), .flt .f32 (.reg 9), .flt .f32 (.reg 10), .flt .f32 (.reg 11), .flt .f32 (.reg 12), .flt .f32 (.reg 13), .flt .f32 (.reg 14), .flt .f32 (.reg 15), .flt .f32 (.reg 16), .flt .f32 (.reg 17), .flt .f32 (.reg 18), .flt .f32 (.reg 19), .flt .f32 (.reg 20), .flt .f32 (.reg 21), .flt .f32 (.reg 22), .flt .f32 (.reg 23), .flt .f32 (.reg 24), .flt .f32 (.reg 25), .flt .f32 (.reg 26), .flt .f32 (.reg 27), .flt .f32 (.reg 28), .flt .f32 (.reg 29), .flt .f32 (.reg 30), .flt .f32 (.reg 31), .flt .f32 (.reg 32), .flt .f32 (.reg 33), .flt .f32 (.reg 34), .flt .f32 (.reg 35), .flt .f32 (.reg 36), .flt .f32 (.reg 37), .flt .f32 (.reg 38), .flt .f32 (.reg 39), .flt .f32 (.reg 40), .flt .f32 (.reg 41)])]
theorem sm25 : smRunL (ctx summ) hn25 Tryd.f25 42 pat25 S25 = true := by kernel_rfl
theorem sum25 : SummOK Tryd.prog 25 (smL S25 42 pat25) := smL_ok (ctx_fits _) summ_ok Tryd.func25 (by kernel_rfl) sm25
noncomputable def summ25 (f : Nat) : Option Summ := match Nat.beq f 25 with
  | true => some (smL S25 42 pat25)
  | false => summ f
theorem summ25_ok : ∀ f s, summ25 f = some s → SummOK Tryd.prog f s := by
  intro f s h
  unfold summ25 at h
  split at h
  · rename_i e
    have e := Nat.eq_of_beq_eq_true e
    subst e
    cases h
    exact sum25
  · exact summ_ok f s h
end Go.Proofs.YtmkhoggpejemiaaDoor
