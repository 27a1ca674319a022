/-
  FnExactReadTurn: for every input the law returns true, and each argument reads behind the call as it read before; the listed variables hold what the program's text lays. No other condition.
-/
import Derived.Test.YtmkhoggpejemiaaDoorRdB
import Derived.Test.YtmkhoggpejemiaaDoorRows
import Derived.Test.YtmkhoggpejemiaaDoorCards
import Derived.Test.YtmkhoggpejemiaaDoorTie
import Derived.ProofKit
import Derived.OpenShut
import Derived.Below
import Derived.LaidMore
import Derived.Lay
import Derived.HandedShaped
import Derived.ChangeMaps5
import Derived.LaidLaws
import Derived.Stop.LaidErr
import Derived.Lib.LaidTab
import Derived.SevenTiedAt
import Derived.Stop.Joined
set_option linter.unusedVariables false
namespace Go.Proofs.YtmkhoggpejemiaaDoor.FnExactReadTurnRow
open Go.Sx Go.ChangeShapes Go.WideShapes Go.ChangeAt Go.RowKit Go.WideMaps Go.WideElems
open Go.ChangeMaps (open_string shut_string)
noncomputable def G : Ctx := ctx summRd
theorem fits : G.ok Tryd.prog := ctx_fits _
theorem sums : ∀ f s, G.summ f = some s → SummOK Tryd.prog f s := summRd_ok
theorem run_ok : lawOKS G (mksRd 4) Tryd.f5 = true := by kernel_rfl
theorem tys_ok : ∀ t ∈ ([9] : List Nat), Tryd.prog.readableRec t = true ∧ t < Tryd.prog.types.size := by
  intro t ht
  simp only [List.mem_cons, List.not_mem_nil, or_false] at ht
  subst ht
  exact ⟨by kernel_rfl, of_decide_eq_true (by kernel_rfl)⟩
noncomputable def laidL : List (String × DataW Unit) := Rows.fnExactReadTurnRow.laid
noncomputable def vname : String := ((laidL[1]?).map (·.1)).getD default
def tabL : List Nat := [0, 1, 56, 2, 57, 49, 28, 3, 61, 58, 42, 50, 38, 29, 17, 4, 62, 47, 59, 36, 45, 43, 51, 22, 53, 39, 33, 30, 24, 18, 12, 5, 63, 55, 48, 27, 60, 41, 37, 16, 46, 35, 44, 21, 52, 32, 23, 11, 54, 26, 40, 15, 34, 20, 31, 10, 25, 14, 19, 9, 13, 8, 7, 6]
theorem plain {W : World} (h : laidMetH Tryd.prog laidL W) : laidMet Tryd.prog laidL W := by
  rw [MakeChecks.laidMetH_plain _ _ _ (by kernel_rfl)] at h
  exact h
theorem tabIs {W : World} (h : laidMet Tryd.prog laidL W) : Lib.TabIs Tryd.prog W vname .u8 (tabL.map fun b => ((b : Nat) : Int)) := by
  have h := laidMet.tail (h)
  exact Lib.tabIs_of_head (zs := tabL.map fun b => ((b : Nat) : Int)) (t := 140) (e := 5) (n := 64) (g := 8) (by kernel_rfl) (by kernel_rfl) Tryd.underlying140 Tryd.underlying5 (by kernel_rfl) (by kernel_rfl) h
theorem ifaceOf {W : World} {n nm : String} {d : DataW Unit} {r : List (String × DataW Unit)} {g ti : Nat} {ms : Array (String × TypeId)} (h : laidMet Tryd.prog ((n, .iface nm d) :: r) W) (hg : Tryd.prog.globalNamed n = some g) (ht : (Tryd.prog.globals[g]?).map (·.type) = some ti) (hi : Tryd.prog.underlying ti = some (.interface ms)) :
    ∃ u v, W.cell? ⟨g, 0, none⟩ = some (.iface u v) := by
  obtain ⟨ps, ⟨g0, t0, cs0, f0, p0, q0, hg0, ht0, hv0, hd0, _, e0⟩, _, hrows⟩ := h
  obtain rfl := Option.some.inj (hg.symm.trans hg0)
  obtain rfl := Option.some.inj (ht.symm.trans ht0)
  subst e0
  obtain ⟨l0⟩ := cs0
  obtain ⟨f1, u, v, e1, _, _⟩ := iface_of_trod hi hd0
  have e1 : l0 = [.iface u v] := e1
  subst e1
  have := World.var?_cell hg0 hv0 0
  exact ⟨u, v, by simpa using this⟩
theorem synC {W : World} (h : laidMet Tryd.prog laidL W) : ∃ u v, W.cell? ⟨3, 0, none⟩ = some (.iface u v) := by
  have h := laidMet.tail (laidMet.tail (laidMet.tail (laidMet.tail (laidMet.tail (h)))))
  exact ifaceOf h (by kernel_rfl) (ti := 89) (by kernel_rfl) Tryd.underlying89
theorem rngC {W : World} (h : laidMet Tryd.prog laidL W) : ∃ u v, W.cell? ⟨4, 0, none⟩ = some (.iface u v) := by
  have h := laidMet.tail (laidMet.tail (laidMet.tail (laidMet.tail (h))))
  exact ifaceOf h (by kernel_rfl) (ti := 89) (by kernel_rfl) Tryd.underlying89
theorem lt_of {W : World} {g o : Nat} {v : Value} (h : W.cell? ⟨g, o, none⟩ = some v) : g < W.heap.size := by
  unfold World.cell? at h
  by_cases hlt : g < W.heap.size
  · exact hlt
  · rw [Array.getElem?_eq_none (show W.heap.size ≤ g by omega)] at h
    cases h
theorem tab_ok {W : World} (hs : W.ShapedOpen Tryd.prog) (h0 : laidMetH Tryd.prog laidL W) : TabOK W := by
  have h := plain h0
  have ht := tabIs h
  have hc : ∀ j, j < tabL.length → W.cell? ⟨8, j, none⟩ = some (.int .u8 (tabL.getD j 0 : Nat)) := by
    intro j hj
    have := ht.cell (g := 8) (by kernel_rfl) j (by rw [List.length_map]; exact hj)
    rw [this]
    simp [List.getD_eq_getElem?_getD, List.getElem?_map, List.getElem?_eq_getElem hj]
  obtain ⟨m, hm⟩ := laysM146.s1_3 W hs
  have hm : W.cell? ⟨1, 0, none⟩ = some (.int .i64 m) := hm
  obtain ⟨u1, v1, h1⟩ := synC h
  obtain ⟨u2, v2, h2⟩ := rngC h
  refine ⟨fun q hq => ?_, fun q hq => ?_⟩
  · have hq : q = (8, tabL) := List.mem_singleton.1 hq
    subst hq
    exact ⟨lt_of (hc 0 (by decide)), hc⟩
  · have hq : q = (1, 0) ∨ q = (3, 1) ∨ q = (4, 1) := by
      have hq : q ∈ [((1 : Nat), (0 : Nat)), (3, 1), (4, 1)] := hq
      simpa using hq
    rcases hq with rfl | rfl | rfl
    · exact ⟨lt_of hm, _, hm, .inl ⟨rfl, m, rfl⟩⟩
    · exact ⟨lt_of h1, _, h1, .inr ⟨rfl, .inr ⟨u1, v1, rfl⟩⟩⟩
    · exact ⟨lt_of h2, _, h2, .inr ⟨rfl, .inr ⟨u2, v2, rfl⟩⟩⟩
theorem handed {H : Type} {enc : TypeId × Value → H} {a : Assume} {C : Checked} {os : Os} {f : FuncId} {fn : Func} {s : ChangeSpec} {conds : List PathCond} {apart fresh handsOn again : Bool} {X : World → Array Value → Prop}
    (hX : ∀ (w w' : World) (args : Array Value), w.heap = w'.heap → X w args → X w' args)
    (own : ownKnob C.prog.godebug = none) (started : os.Started) (noInit : C.prog.inits.idxOf? f = none) (hfn : C.prog.funcs[f]? = some fn)
    (witness : ∃ (w : World) (tape : Tape) (i : Input), w.os = os ∧ (w.forCall tape i).Shaped C.prog ∧ i.vars = [] ∧ Input.okWide C.prog (w.forCall tape i) .any w.heap.size f i ∧
      ((s.pre enc C.prog fn conds apart (w.forCall tape i).memory i.args ∧ X (w.forCall tape i).memory i.args) ∧ sizedMet enc C.prog fn (OpenSpec.ofChange s) apart (w.forCall tape i).memory i.args) ∧ a.holds C.prog (lone (Frame.enter C.prog f i.args .normal) [] (w.forCall tape i)))
    (contract : ∀ (W : World) (base : Nat) (args : Array Value) (ds gs : List (DataW H)) (before : List MemPlace),
      (∀ (j : Nat) t v, fn.params[j]? = some t → args[j]? = some v → Value.okWide C.prog W .any base t v) →
      DataW.Whole enc C.prog fn.params.toList s.vars apart W args.toList ds gs before → W.ShapedOpen C.prog → X W args →
      Calls C.prog f args W fun e W' => ∃ v, e = .returned v ∧ s.post enc C.prog fn apart fresh handsOn again W args v W') :
    ReturnsInHanded a C os f .any (fun w args => (s.pre enc C.prog fn conds apart w args ∧ X w args) ∧ sizedMet enc C.prog fn (OpenSpec.ofChange s) apart w args) (s.post enc C.prog fn apart fresh handsOn again) := by
  refine returnsInHanded_of_calls own started noInit witness ?_
  intro w tape i _ hsh _ hok hpre hholds
  obtain ⟨_, _, _, fn', hfn', _, _, _, _, hval⟩ := hok
  have e : fn' = fn := Option.some.inj (hfn'.symm.trans hfn)
  subst e
  obtain ⟨⟨⟨ds, gs, before, hw, hc⟩, hx⟩, hz⟩ := hpre
  have hw' := DataW.Whole.of_heap (w' := w.forCall tape i) (by rfl) hw
  refine (contract (w.forCall tape i) w.heap.size i.args ds gs before hval hw' hsh (hX _ _ _ (by rfl) hx)).mono fun e W' ⟨v, he, hp⟩ => ?_
  subst he
  exact ChangeSpec.post_blind hp
set_option maxRecDepth 100000 in
theorem lifted (os : Os) (started : os.Started) (H : Type) (enc : TypeId × Value → H) :
    ReturnsInHanded {} Tryd.checked os 5 .any (fun w args => (Rows.fnExactReadTurnSpec.pre enc Tryd.prog Tryd.f5 [] false w args ∧ laidMetH Tryd.prog laidL w) ∧ sizedMet enc Tryd.prog Tryd.f5 (OpenSpec.ofChange Rows.fnExactReadTurnSpec) false w args) (Rows.fnExactReadTurnSpec.post enc Tryd.prog Tryd.f5 false true false false) := by
  refine handed (C := Tryd.checked) (X := fun w _ => laidMetH Tryd.prog laidL w) (fun _ _ _ hh h => h.of_heap hh) own started (by kernel_rfl) Tryd.func5
    (ChangeSpec.witness_shaped (enc := enc) (C := Tryd.checked) (os := os) (X := fun w _ => laidMetH Tryd.prog laidL w) false (World.laidAll Tryd.prog os laidL) #[.string ⟨#[]⟩] 12 (World.laidAll_os _ _ _)
      (World.shaped_of_ZipB (by kernel_rfl) (by kernel_rfl)) (by kernel_rfl) (by kernel_rfl) (by kernel_rfl)
      (by rw [MakeChecks.laidMetH_plain _ _ _ (by kernel_rfl)]; exact laidMet_laidAll _ (by kernel_rfl) (by kernel_rfl))) ?_
  intro W base args ds gs before hval0 hW hsh hL
  have hval : ∀ (j : Nat) t v, Tryd.f5.params[j]? = some t → args[j]? = some v → Value.okWide Tryd.prog W .any base t v := hval0
  have hW' := hW
  obtain ⟨p, q, hA0, hV, rfl, hfz, hnd⟩ := hW
  have hA : DataW.TrodAll enc Tryd.prog W 0 (fun _ => true) true [9] args.toList ds p := hA0
  obtain ⟨rfl, rfl⟩ := trodVars_none hV
  have hA1 := hA
  obtain ⟨v0, d0, rfl, rfl, h0⟩ := trodAll_one hA1
  obtain ⟨s, rfl, hd, hp, hs⟩ := open_string Tryd.underlying9 (hval 0 9 v0 (by rw [Tryd.params5]; rfl) rfl) h0
  refine (run_trueS fits sums (mksRd_ok 4) Tryd.func5 run_ok (by unfold maxLen at hs; omega) W (tab_ok hsh hL)).mono fun e W' ⟨he, bel⟩ => ?_
  subst he
  exact ⟨_, rfl, _, _, _, [], _, [], hW', trodAll_mk1 (shut_bool Tryd.underlying4 _), trodAll_below laidOut bel tys_ok hA, rfl, bel.frame _, fun h => by cases h⟩
theorem joined : joinedFacts Tryd.pinned.checked.prog 5 Tryd.f5 Rows.fnExactReadTurnSpec Rows.fnExactReadTurnRow = true := by
  unfold joinedFacts
  rw [enter_is, final_is, make_is]
  kernel_rfl
theorem named : Tryd.pinned.checked.prog.funcNamed Rows.fnExactReadTurnRow.func = some 5 := by kernel_rfl
theorem over : Rows.fnExactReadTurnRow.holds Tryd.pinned (OpenSpec.ofChange Rows.fnExactReadTurnSpec) :=
  OpenClaim.holds_of_wide 5 Tryd.f5 rfl rfl rfl rfl rfl rfl rfl ⟨rfl, rfl, rfl, rfl, rfl⟩ rfl rfl rfl rfl rfl named Tryd.func5 joined
    (of_decide_eq_true (by kernel_rfl)) (by unfold Func.isWrapper; first | (rw [if_pos (by decide +kernel)]; kernel_rfl) | (rw [if_neg (by decide +kernel)]; exact ⟨rfl, rfl⟩))
    (fun os started H enc _ => lifted os started H enc)
end Go.Proofs.YtmkhoggpejemiaaDoor.FnExactReadTurnRow
namespace Go.Proofs.YtmkhoggpejemiaaDoor
/-- THE STATEMENT: the row's card, its variables tied to the program's text. -/
theorem FnExactReadTurn_holds : Rows.FnExactReadTurnCardSaid :=
  Claim7.holds_tied_plain_at .later [] [.data, .data, .data, .data, .sentinel, .sentinel, .pinned] true (true, "e472a02504361f30c7bc376e2f323f06eb7cea95633b30008157c1c66a6b7ead") true
    FnExactReadTurnRow.over (fun _ h => by cases h) (by kernel_rfl) (fun _ h => by cases h) fnExactReadTurn_row_tie rfl ⟨rfl, rfl⟩ (by kernel_rfl) rfl
    (fun f fn hf hfn => by
      obtain rfl : f = 5 := Option.some.inj (FnExactReadTurnRow.named.symm.trans hf) |>.symm
      obtain rfl : fn = Tryd.f5 := (Option.some.inj (Tryd.func5.symm.trans hfn)).symm
      exact ⟨by kernel_rfl, fun j t ht => by
        rw [Tryd.params5] at ht
        have hm : t ∈ [9] := by simpa using Array.mem_of_getElem? ht
        have hall : ([9].all fun u => !Tryd.prog.wantsStandIn u) = true := by kernel_rfl
        exact (show Tryd.prog.wantsStandIn t = false by simpa using List.all_eq_true.1 hall t hm)⟩)
    (by kernel_rfl)
#print axioms FnExactReadTurn_holds
end Go.Proofs.YtmkhoggpejemiaaDoor
