/-
  FnExactArrivedBy: for every input the law returns true, and each argument reads behind the call as it read before. No condition.
-/
import Derived.Test.YtgaejkfdinkpmaaCtx
import Derived.Test.YtgaejkfdinkpmaaSm37
import Derived.Test.YtgaejkfdinkpmaaRows
import Derived.ProofKit
import Derived.OpenShut
import Derived.Below
set_option linter.unusedVariables false
namespace Go.Proofs.Ytgaejkfdinkpmaa.FnExactArrivedByRow
open Go.Sx Go.ChangeShapes Go.WideShapes Go.ChangeAt Go.RowKit
noncomputable def G : Ctx := ctx summ37
theorem fits : G.ok Try.prog := ctx_fits _
theorem sums : ∀ f s, G.summ f = some s → SummOK Try.prog f s := summ37_ok
noncomputable def ks : List AL := (alsOf G [46, 22, 2]).getD []
theorem ks_eq : alsOf G [46, 22, 2] = some ks := by kernel_rfl
theorem run_ok : lawOKL G mks36 Try.f9 ks = true := by kernel_rfl
theorem tys_ok : ∀ t ∈ ([46, 22, 2] : List Nat), Try.prog.readableRec t = true ∧ t < Try.prog.types.size := by
  intro t ht
  simp only [List.mem_cons, List.not_mem_nil, or_false] at ht
  rcases ht with rfl | rfl | rfl
  all_goals exact ⟨by kernel_rfl, of_decide_eq_true (by kernel_rfl)⟩
set_option maxRecDepth 100000 in
theorem lifted (os : Os) (started : os.Started) (H : Type) (enc : TypeId × Value → H) :
    ReturnsInHanded {} Try.checked os 9 .any (Rows.fnExactArrivedBySpec.pre6 enc Try.prog Try.f9 Rows.fnExactArrivedByRow.domain false) (Rows.fnExactArrivedBySpec.post enc Try.prog Try.f9 false true false false) := by
  refine returnsInHanded_of_change (C := Try.checked) own started (by kernel_rfl) Try.func9
    (ChangeSpec.witness6 (enc := enc) (C := Try.checked) false ⟨#[], #[.agg #[.float .f32 0, .float .f32 0, .float .f32 0, .float .f32 0, .float .f32 0, .float .f32 0, .int .i64 0, .int .i64 0], .slice none 0 0, .int .i64 0], []⟩ 12 (by kernel_rfl) (by kernel_rfl) (by kernel_rfl) (by kernel_rfl)) ?_
  intro W base args ds gs before hval0 hW hcnd _
  have hval : ∀ (j : Nat) t v, Try.f9.params[j]? = some t → args[j]? = some v → Value.okWide Try.prog W .any base t v := hval0
  have hW' := hW
  obtain ⟨p, q, hA0, hV, rfl, hfz, hnd⟩ := hW
  have hA : DataW.TrodAll enc Try.prog W 0 (fun _ => true) true [46, 22, 2] args.toList ds p := hA0
  obtain ⟨rfl, rfl⟩ := trodVars_none hV
  have hks := alsOf_fits fits ks_eq (fun j t v ht hv => hval j t v (by rw [Try.params9]; simpa using ht) (by simpa using hv)) hA
  obtain ⟨d0, d1, d2, rfl⟩ : ∃ d0 d1 d2, ds = [d0, d1, d2] := by
    obtain ⟨v0, vs0, d0, ds0, p0, q0, h0a, h0b, h0c, h0, r0⟩ := trodAll_cons hA
    obtain ⟨v1, vs1, d1, ds1, p1, q1, h1a, h1b, h1c, h1, r1⟩ := trodAll_cons r0
    obtain ⟨v2, vs2, d2, ds2, p2, q2, h2a, h2b, h2c, h2, r2⟩ := trodAll_cons r1
    obtain ⟨ea, eb, ec⟩ := trodAll_nil r2
    exact ⟨d0, d1, d2, by simp_all⟩
  refine (run_trueL fits sums mks36_ok Try.func9 run_ok hks).mono fun e W' ⟨he, bel⟩ => ?_
  subst he
  exact ⟨_, rfl, _, _, _, [], _, [], hW', trodAll_mk1 (shut_bool Try.underlying4 _), trodAll_below laidOut bel tys_ok hA, rfl, bel.frame _, fun h => by cases h⟩
theorem joined : joinedFacts Try.pinned.checked.prog 9 Try.f9 Rows.fnExactArrivedBySpec Rows.fnExactArrivedByRow = true := by
  unfold joinedFacts
  rw [enter_is, final_is, make_is]
  kernel_rfl
theorem named : Try.pinned.checked.prog.funcNamed Rows.fnExactArrivedByRow.func = some 9 := by kernel_rfl
theorem over : Rows.fnExactArrivedByRow.holds Try.pinned (OpenSpec.ofChange Rows.fnExactArrivedBySpec) :=
  OpenClaim.holds_of_wide 9 Try.f9 rfl rfl rfl rfl rfl rfl rfl ⟨rfl, rfl, rfl, rfl, rfl⟩ rfl rfl rfl rfl rfl named Try.func9 joined
    (of_decide_eq_true (by kernel_rfl)) (by unfold Func.isWrapper; first | (rw [if_pos (by decide +kernel)]; kernel_rfl) | (rw [if_neg (by decide +kernel)]; exact ⟨rfl, rfl⟩))
    (fun os started H enc _ => lifted os started H enc)
end Go.Proofs.Ytgaejkfdinkpmaa.FnExactArrivedByRow
namespace Go.Proofs.Ytgaejkfdinkpmaa
/-- THE STATEMENT. -/
theorem FnExactArrivedBy_holds : Rows.FnExactArrivedBySaid := FnExactArrivedByRow.over
#print axioms FnExactArrivedBy_holds
end Go.Proofs.Ytgaejkfdinkpmaa
