/-
  FnExactStateText: for every input the law returns true, and each argument reads behind the call as it read before; the listed tables hold what the program's text lays. No other condition.
-/
import Derived.Test.YtmkhoggpejemiaaDoorNumS
import Derived.Test.YtmkhoggpejemiaaDoorRows
import Derived.Test.YtmkhoggpejemiaaDoorCards
import Derived.Test.YtmkhoggpejemiaaDoorTie
import Derived.ProofKit
import Derived.OpenShut
import Derived.Below
import Derived.LaidMore
import Derived.Stop.LaidErr
import Derived.Lib.LaidTab
import Derived.SevenTiedAt
import Derived.Stop.Joined
set_option linter.unusedVariables false
namespace Go.Proofs.YtmkhoggpejemiaaDoor.FnExactStateTextRow
open Go.Sx Go.ChangeShapes Go.WideShapes Go.ChangeAt Go.RowKit Go.WideMaps Go.WideElems
noncomputable def G : Ctx := ctx summNumS
theorem fits : G.ok Tryd.prog := ctx_fits _
theorem sums : ∀ f s, G.summ f = some s → SummOK Tryd.prog f s := summNumS_ok
noncomputable def ks : List AK := (aksOf G [31]).getD []
theorem ks_eq : aksOf G [31] = some ks := by kernel_rfl
theorem ks_len : ks.length = 1 := by kernel_rfl
theorem run_ok : lawOKT G Tryd.f4 ks = true := by kernel_rfl
theorem tys_ok : ∀ t ∈ ([31] : List Nat), Tryd.prog.readableRec t = true ∧ t < Tryd.prog.types.size := by
  intro t ht
  simp only [List.mem_cons, List.not_mem_nil, or_false] at ht
  rcases ht with rfl
  all_goals exact ⟨by kernel_rfl, of_decide_eq_true (by kernel_rfl)⟩
noncomputable def laidL : List (String × DataW Unit) := Rows.fnExactStateTextRow.laid
noncomputable def vname : String := ((laidL[1]?).map (·.1)).getD default
theorem door_met (os : Os) (args : Array Value) : laidMetH Tryd.prog laidL ((World.doorLaid Tryd.prog 400 os).forCall (fun _ _ => 0) ⟨#[], args, []⟩).memory :=
  laidMetH_of_parts3 (fuel := 8) (laidMet_of_run' 8 (by kernel_rfl) (by kernel_rfl)) (by kernel_rfl) (by kernel_rfl)
def tabL : List Nat := [0, 1, 56, 2, 57, 49, 28, 3, 61, 58, 42, 50, 38, 29, 17, 4, 62, 47, 59, 36, 45, 43, 51, 22, 53, 39, 33, 30, 24, 18, 12, 5, 63, 55, 48, 27, 60, 41, 37, 16, 46, 35, 44, 21, 52, 32, 23, 11, 54, 26, 40, 15, 34, 20, 31, 10, 25, 14, 19, 9, 13, 8, 7, 6]
theorem tabIs {W : World} (h : laidMetH Tryd.prog laidL W) : Lib.TabIs Tryd.prog W vname .u8 (tabL.map fun b => ((b : Nat) : Int)) := by
  rw [MakeChecks.laidMetH_plain _ _ _ (by kernel_rfl)] at h
  have h := laidMet.tail (h)
  exact Lib.tabIs_of_head (zs := tabL.map fun b => ((b : Nat) : Int)) (t := 140) (e := 5) (n := 64) (g := 8) (by kernel_rfl) (by kernel_rfl) Tryd.underlying140 Tryd.underlying5 (by kernel_rfl) (by kernel_rfl) h
theorem tab_ok {W : World} (h : laidMetH Tryd.prog laidL W) : TabOK W := by
  have ht := tabIs h
  have hc : ∀ j, j < tabL.length → W.cell? ⟨8, j, none⟩ = some (.int .u8 (tabL.getD j 0 : Nat)) := by
    intro j hj
    have := ht.cell (g := 8) (by kernel_rfl) j (by rw [List.length_map]; exact hj)
    rw [this]
    simp [List.getD_eq_getElem?_getD, List.getElem?_map, List.getElem?_eq_getElem hj]
  intro q hq
  have hq : q = (8, tabL) := List.mem_singleton.1 hq
  subst hq
  refine ⟨?_, hc⟩
  have h0 := hc 0 (by decide)
  unfold World.cell? at h0
  by_cases hlt : 8 < W.heap.size
  · exact hlt
  · rw [Array.getElem?_eq_none (show W.heap.size ≤ 8 by omega)] at h0
    cases h0
set_option maxRecDepth 100000 in
theorem lifted (os : Os) (started : os.Started) (H : Type) (enc : TypeId × Value → H) :
    ReturnsInHanded {} Tryd.checked os 4 .any (fun w args => (Rows.fnExactStateTextSpec.pre enc Tryd.prog Tryd.f4 [] false w args ∧ laidMetH Tryd.prog laidL w) ∧ sizedMet enc Tryd.prog Tryd.f4 (OpenSpec.ofChange Rows.fnExactStateTextSpec) false w args) (Rows.fnExactStateTextSpec.post enc Tryd.prog Tryd.f4 false true false false) := by
  refine returnsInHanded_of_change_and (C := Tryd.checked) (X := fun w _ => laidMetH Tryd.prog laidL w) (fun _ _ _ hh h => h.of_heap hh) own started (by kernel_rfl) Tryd.func4
    (ChangeSpec.witness_shaped (enc := enc) (C := Tryd.checked) (os := os) (X := fun w _ => laidMetH Tryd.prog laidL w) false (World.doorLaid Tryd.prog 400 os) #[.agg #[.float .f32 0, .float .f32 0, .float .f32 0, .float .f32 0, .float .f32 0, .float .f32 0, .float .f32 0, .float .f32 0, .float .f32 0, .float .f32 0, .float .f32 0, .float .f32 0, .float .f32 0, .float .f32 0, .float .f32 0, .float .f32 0, .float .f32 0, .float .f32 0, .float .f32 0, .float .f32 0, .float .f32 0, .float .f32 0, .float .f32 0, .float .f32 0, .float .f32 0, .float .f32 0, .float .f32 0, .float .f32 0, .float .f32 0, .float .f32 0, .float .f32 0, .float .f32 0, .float .f32 0, .float .f32 0, .float .f32 0, .float .f32 0, .float .f32 0, .float .f32 0, .float .f32 0, .float .f32 0, .float .f32 0, .float .f32 0]] 12 rfl (World.shaped_of_RefB (by kernel_rfl) (by kernel_rfl)) (by kernel_rfl) (by kernel_rfl) (by kernel_rfl) (door_met os _)) ?_
  intro W base args ds gs before hval0 hW _ _ hL _
  have hval : ∀ (j : Nat) t v, Tryd.f4.params[j]? = some t → args[j]? = some v → Value.okWide Tryd.prog W .any base t v := hval0
  have hW' := hW
  obtain ⟨p, q, hA0, hV, rfl, hfz, hnd⟩ := hW
  have hA : DataW.TrodAll enc Tryd.prog W 0 (fun _ => true) true [31] args.toList ds p := hA0
  obtain ⟨rfl, rfl⟩ := trodVars_none hV
  have hks := aksOf_fits fits ks_eq (fun j t v ht hv => hval j t v (by rw [Tryd.params4]; simpa using ht) (by simpa using hv)) hA
  have hlen : args.toList.length = 1 := by
    exact (As_len hks).trans ks_len
  have hfb : ∀ v ∈ args.toList, FB v := by
    intro v hv
    obtain ⟨j, hj⟩ := List.mem_iff_getElem?.1 hv
    have hjl : j < 1 := by
      have := (List.getElem?_eq_some_iff.1 hj).1
      omega
    have hpj : ∃ t, Tryd.f4.params[j]? = some t := by
      rw [Tryd.params4]
      exact ⟨_, Array.getElem?_eq_getElem (show j < (#[31] : Array Nat).size from hjl)⟩
    obtain ⟨t, ht⟩ := hpj
    exact okWide_FB (hval j t v ht (by rw [← Array.getElem?_toList]; exact hj))
  obtain ⟨d0, rfl⟩ : ∃ d0, ds = [d0] := by
    obtain ⟨v0, vs0, d0, ds0, p0, q0, h0a, h0b, h0c, h0, r0⟩ := trodAll_cons hA
    obtain ⟨ea, eb, ec⟩ := trodAll_nil r0
    exact ⟨d0, by simp_all⟩
  refine (run_trueT fits sums Tryd.func4 run_ok hks hfb W (tab_ok hL)).mono fun e W' ⟨he, bel⟩ => ?_
  subst he
  exact ⟨_, rfl, _, _, _, [], _, [], hW', trodAll_mk1 (shut_bool Tryd.underlying4 _), trodAll_below laidOut bel tys_ok hA, rfl, bel.frame _, fun h => by cases h⟩
theorem joined : joinedFacts Tryd.pinned.checked.prog 4 Tryd.f4 Rows.fnExactStateTextSpec Rows.fnExactStateTextRow = true := by
  unfold joinedFacts
  rw [enter_is, final_is, make_is]
  kernel_rfl
theorem named : Tryd.pinned.checked.prog.funcNamed Rows.fnExactStateTextRow.func = some 4 := by kernel_rfl
theorem over : Rows.fnExactStateTextRow.holds Tryd.pinned (OpenSpec.ofChange Rows.fnExactStateTextSpec) :=
  OpenClaim.holds_of_wide 4 Tryd.f4 rfl rfl rfl rfl rfl rfl rfl ⟨rfl, rfl, rfl, rfl, rfl⟩ rfl rfl rfl rfl rfl named Tryd.func4 joined
    (of_decide_eq_true (by kernel_rfl)) (by unfold Func.isWrapper; first | (rw [if_pos (by decide +kernel)]; kernel_rfl) | (rw [if_neg (by decide +kernel)]; exact ⟨rfl, rfl⟩))
    (fun os started H enc _ => lifted os started H enc)
end Go.Proofs.YtmkhoggpejemiaaDoor.FnExactStateTextRow
namespace Go.Proofs.YtmkhoggpejemiaaDoor
/-- THE STATEMENT: the row's card, its tables tied to the program's text. -/
theorem FnExactStateText_holds : Rows.FnExactStateTextCardSaid :=
  Claim7.holds_tied_plain_at .later [] [.data, .data, .data] true (true, "e472a02504361f30c7bc376e2f323f06eb7cea95633b30008157c1c66a6b7ead") true
    FnExactStateTextRow.over (fun _ h => by cases h) (by kernel_rfl) (fun _ h => by cases h) fnExactStateText_row_tie rfl ⟨rfl, rfl⟩ (by kernel_rfl) rfl
    (fun f fn hf hfn => by
      obtain rfl : f = 4 := Option.some.inj (FnExactStateTextRow.named.symm.trans hf) |>.symm
      obtain rfl : fn = Tryd.f4 := (Option.some.inj (Tryd.func4.symm.trans hfn)).symm
      exact ⟨by kernel_rfl, fun j t ht => by
        rw [Tryd.params4] at ht
        have hm : t ∈ [31] := by simpa using Array.mem_of_getElem? ht
        have hall : ([31].all fun u => !Tryd.prog.wantsStandIn u) = true := by kernel_rfl
        exact (show Tryd.prog.wantsStandIn t = false by simpa using List.all_eq_true.1 hall t hm)⟩)
    (by kernel_rfl)
#print axioms FnExactStateText_holds
end Go.Proofs.YtmkhoggpejemiaaDoor
