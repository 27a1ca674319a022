/-
  The executor's run of a function is the program's; a law out of such a run.
-/
import Derived.Test.YtlmeifacpedihaaSxB
import Derived.LoopN
import Derived.ProofKit
import Derived.OpenShut
set_option linter.unusedSimpArgs false
set_option linter.unusedVariables false
namespace Go.Sx
open Go.RowKit

def Tree.sat (ρ : Nat → Int) (L : Ex → St → Prop) : Tree → Prop
  | .leaf e st => L e st
  | .node r t f => if ρ r = 1 then t.sat ρ L else f.sat ρ L
  | .dead => True

theorem Tree.sat_mono {ρ : Nat → Int} {L L' : Ex → St → Prop} (h : ∀ e st, L e st → L' e st) : ∀ {t : Tree}, t.sat ρ L → t.sat ρ L'
  | .leaf e st, ht => h e st ht
  | .node r t f, ht => by
    unfold Tree.sat at *
    split
    · rename_i hr; rw [if_pos hr] at ht; exact Tree.sat_mono h ht
    · rename_i hr; rw [if_neg hr] at ht; exact Tree.sat_mono h ht
  | .dead, _ => trivial

/-- What each leaf owes. -/
def Leafs (ρ : Nat → Int) (w0 : World) (Q : Exit → Act → World → Prop) (μ : List Nat) (e : Ex) (st : St) : Prop :=
  ∀ μ' a w, μ <+: μ' → StRel ρ w0 μ' st a w → Q e.toExit a w

theorem Leafs.mono {ρ : Nat → Int} {w0 : World} {Q : Exit → Act → World → Prop} {μ μ' : List Nat} (hp : μ <+: μ') {e : Ex} {st : St} (h : Leafs ρ w0 Q μ e st) : Leafs ρ w0 Q μ' e st :=
  fun μ'' a w hp' hr => h μ'' a w (hp.trans hp') hr

theorem bind_spec {ρ : Nat → Int} {g : Tab → Ex → St → Option (Tab × Tree)} (hg : ∀ T e st T' t, g T e st = some (T', t) → Sat ρ T' → Sat ρ T) :
    ∀ (t : Tree) (T T' : Tab) (t' : Tree), t.bind g T = some (T', t') → Sat ρ T' → Sat ρ T ∧
      ∀ L, t'.sat ρ L → t.sat ρ (fun e st => ∃ T1 T2 t2, g T1 e st = some (T2, t2) ∧ Sat ρ T2 ∧ t2.sat ρ L)
  | .leaf e st, T, T', t', h, hs => ⟨hg _ _ _ _ _ h hs, fun _ hL => ⟨T, T', t', h, hs, hL⟩⟩
  | .dead, T, T', t', h, hs => by cases h; exact ⟨hs, fun _ _ => trivial⟩
  | .node r t f, T, T', t', h, hs => by
    unfold Tree.bind at h
    split at h
    · rename_i T1 t1 h1
      split at h
      · rename_i T2 f1 h2
        cases h
        obtain ⟨s1, k1⟩ := bind_spec hg f _ _ _ h2 hs
        obtain ⟨s0, k0⟩ := bind_spec hg t _ _ _ h1 s1
        refine ⟨s0, fun L hL => ?_⟩
        simp only [Tree.sat] at hL ⊢
        split
        · rename_i hr; rw [if_pos hr] at hL; exact k0 L hL
        · rename_i hr; rw [if_neg hr] at hL; exact k1 L hL
      · cases h
    · cases h

section
variable {P : Program} {ρ : Nat → Int} {Γ : Ctx}

theorem Facts.set {fa : Tr Bool} (h : Facts ρ fa) {r : Nat} {b : Bool} (hb : (ρ r == 1) = b) : Facts ρ (fa.set fuelT r b) := by
  intro r' b' h'
  rcases Tr.get_set_some _ _ _ _ _ _ h' with ⟨rfl, rfl⟩ | ⟨_, h''⟩
  · exact hb
  · exact h r' b' h''

/-- A way that parts. -/
theorem branch_spec {st : St} {r : Nat} {T T' : Tab} {g : Bool → Tab → St → Option (Tab × Tree)} {t : Tree} (h : branch st r T g = some (T', t)) (hs : Sat ρ T')
    (hg : ∀ b T st T' t, g b T st = some (T', t) → Sat ρ T' → Sat ρ T) :
    Sat ρ T ∧ ∀ w0 μ a w L, StRel ρ w0 μ st a w → t.sat ρ L → ∃ b T1 T2 t2 st1, (ρ r == 1) = b ∧ StRel ρ w0 μ st1 a w ∧ g b T1 st1 = some (T2, t2) ∧ Sat ρ T2 ∧ t2.sat ρ L := by
  unfold branch at h
  split at h
  · rename_i T1 t1 h1
    split at h
    · rename_i T2 t2 h2
      cases h
      have s1 := hg _ _ _ _ _ h2 hs
      refine ⟨hg _ _ _ _ _ h1 s1, fun w0 μ a w L hw hL => ?_⟩
      simp only [Tree.sat] at hL
      by_cases hr : ρ r = 1
      · rw [if_pos hr] at hL
        have hb : (ρ r == 1) = true := by simp [hr]
        exact ⟨true, _, _, _, { st with fa := st.fa.set fuelT r true }, hb, ⟨hw.defers, hw.fr, hw.wr, hw.fa.set hb⟩, h1, s1, hL⟩
      · rw [if_neg hr] at hL
        have hb : (ρ r == 1) = false := by simp [hr]
        exact ⟨false, _, _, _, { st with fa := st.fa.set fuelT r false }, hb, ⟨hw.defers, hw.fr, hw.wr, hw.fa.set hb⟩, h2, hs, hL⟩
    · cases h
  · cases h

/-! ### Results, frames -/
/-- What one result is read from. -/
def resVar (tmps : Array Value) : ResultVar → Sem Value
  | .tmp t => pure (tmps.getD t undef)
  | .cell b t => do loadVar t (← Go.asAddr (tmps.getD b undef))

theorem results_eq (F : Func) (tmps : Array Value) : results F tmps = (do
    let vs ← F.results.mapM (resVar tmps)
    pure (if h : vs.size = 1 then vs[0] else .tuple vs)) := rfl

theorem resultS_sound (hΓ : Γ.ok P) {st : St} {r : ResultVar} {x : SW} (h : resultS Γ st r = some x) {w0 : World} {μ : List Nat} {a : Act} {w : World} (hw : StRel ρ w0 μ st a w) :
    ∃ v, (resVar a.tmps r).run P w = .ok v w ∧ x.rel ρ μ v := by
  unfold resultS at h
  cases r with
  | tmp t =>
    simp only at h ⊢
    split at h
    · rename_i y hy
      cases h
      exact ⟨_, rfl, hw.fr.slot t _ hy⟩
    · cases h
  | cell b t =>
    simp only at h ⊢
    split at h
    · rename_i p hp
      split at h
      · rename_i y hy
        cases h
        obtain ⟨q, v, hq, hr, hv⟩ := loadS_sound hΓ hy hw.wr (hw.fr.slot b p hp)
        exact ⟨v, by simp [resVar, hq, Go.asAddr, hr], hv⟩
      · cases h
    · cases h

theorem resultsL_sound (hΓ : Γ.ok P) {st : St} {w0 : World} {μ : List Nat} {a : Act} {w : World} (hw : StRel ρ w0 μ st a w) :
    ∀ (rs : List ResultVar) (l : List SW), resultsL Γ st rs = some l →
      ∃ vs, (rs.mapM (resVar a.tmps)).run P w = .ok vs w ∧ swsRel ρ μ l vs
  | [], l, h => by cases h; exact ⟨[], rfl, trivial⟩
  | r :: rs, l, h => by
    unfold resultsL at h
    split at h
    · rename_i x m hx hm
      cases h
      obtain ⟨v, hv, hr⟩ := resultS_sound hΓ hx hw
      obtain ⟨vs, hvs, hrs⟩ := resultsL_sound hΓ hw rs m hm
      refine ⟨v :: vs, ?_, hr, hrs⟩
      rw [List.mapM_cons, Sem.run_bind, hv, Result.andThen_ok, Sem.run_bind, hvs]
      rfl
    · cases h

theorem resultsS_sound (hΓ : Γ.ok P) {st : St} {F : Func} {sv : SV} (h : resultsS Γ st F.results.toList = some sv) {w0 : World} {μ : List Nat} {a : Act} {w : World} (hw : StRel ρ w0 μ st a w) :
    ∃ v, (results F a.tmps).run P w = .ok v w ∧ sv.rel ρ μ v := by
  unfold resultsS at h
  have key : ∀ l, resultsL Γ st F.results.toList = some l → ∃ vs : List Value, swsRel ρ μ l vs ∧
      (results F a.tmps).run P w = .ok (if h : vs.toArray.size = 1 then vs.toArray[0] else .tuple vs.toArray) w := by
    intro l hl
    obtain ⟨vs, hvs, hr⟩ := resultsL_sound hΓ hw _ l hl
    refine ⟨vs, hr, ?_⟩
    rw [results_eq, Array.mapM_eq_mapM_toList, Sem.run_bind, Sem.run_map, hvs]
    rfl
  split at h
  · rename_i x hl
    cases h
    obtain ⟨vs, hr, hrun⟩ := key _ hl
    match vs, hr with
    | [v], hr => exact ⟨v, by simpa using hrun, hr.1⟩
  · rename_i l hne hl
    cases h
    obtain ⟨vs, hr, hrun⟩ := key _ hl
    refine ⟨.tuple vs.toArray, ?_, vs.toArray, rfl, hr⟩
    rw [hrun, dif_neg]
    intro h1
    have h1' : vs.length = 1 := by simpa using h1
    match vs, l, hr with
    | [v], [x], hr => exact hne x rfl
    | [v], [], hr => exact hr.elim
    | [v], _ :: _ :: _, hr => exact hr.2.elim
    | [], _, _ => simp at h1'
    | _ :: _ :: _, _, _ => simp at h1'
  · cases h

theorem frameOf_get : ∀ (l : List SV) (i t : Nat) (s : SV), (frameOf i l).get t = some s → ∃ j, t = i + j ∧ l[j]? = some s
  | [], _, _, _, h => by cases h
  | v :: l, i, t, s, h => by
    unfold frameOf at h
    rcases Tr.get_set_some _ _ _ _ _ _ h with ⟨rfl, rfl⟩ | ⟨_, h'⟩
    · exact ⟨0, rfl, rfl⟩
    · obtain ⟨j, hj, hs⟩ := frameOf_get l (i + 1) t s h'
      exact ⟨j + 1, by omega, by simpa using hs⟩

theorem svsRel_get {μ : List Nat} : ∀ {l : List SV} {vs : List Value} {n : Nat} {c : SV}, svsRel ρ μ l vs → l[n]? = some c → ∃ v, vs[n]? = some v ∧ c.rel ρ μ v
  | [], _, _, _, _, h => by simp at h
  | c :: _, v :: _, 0, _, h, hc => by simp at hc; subst hc; exact ⟨v, rfl, h.1⟩
  | _ :: _, _ :: _, n + 1, _, h, hc => by simpa using svsRel_get h.2 (by simpa using hc)
  | _ :: _, [], _, _, h, _ => h.elim

theorem svsRel_length {μ : List Nat} : ∀ {l : List SV} {vs : List Value}, svsRel ρ μ l vs → l.length = vs.length
  | [], [], _ => rfl
  | _ :: _, _ :: _, h => by simp [svsRel_length h.2]
  | [], _ :: _, h => h.elim
  | _ :: _, [], h => h.elim

theorem frame_enter {μ : List Nat} {args : List SV} {vs : Array Value} (h : svsRel ρ μ args vs.toList) (n : Nat) :
    FR ρ μ (args.length + (n - args.length)) (frameOf 0 args) (vs ++ Array.replicate (n - vs.size) undef) := by
  have hl := svsRel_length h
  simp at hl
  refine ⟨by simp [hl], fun t s hs => ?_⟩
  obtain ⟨j, rfl, hj⟩ := frameOf_get _ _ _ _ hs
  obtain ⟨v, hv, hr⟩ := svsRel_get h hj
  have hv' : vs[j]? = some v := by simpa using hv
  have hjl : j < vs.size := (Array.getElem?_eq_some_iff.1 hv').1
  rw [Nat.zero_add]
  have : (vs ++ Array.replicate (n - vs.size) undef).getD j undef = v := by
    rw [Array.getD_eq_getD_getElem?, Array.getElem?_append_left hjl, hv']; rfl
  rw [this]; exact hr
end
end Go.Sx

namespace Go.Sx
open Go.RowKit

/-- A call: what is handed back, and in what world. -/
def CallOK (P : Program) (f : FuncId) (args : Array Value) (w : World) (R : Value → World → Prop) : Prop :=
  match (callFunc f args).run P w with
  | .ok (.value v) w1 => R v w1
  | .ok (.enter g as) w1 => Calls P g as w1 fun e w2 => ∃ v, e = .returned v ∧ R v w2
  | _ => False

/-- A contract is kept. -/
def SummOK (P : Program) (f : Nat) (s : Summ) : Prop :=
  ∀ T fa args T1 v, s T fa args = some (T1, v) → ∀ ρ, Sat ρ T1 → Sat ρ T ∧
    ∀ μ (vs : Array Value) w, Facts ρ fa → svsRel ρ μ args vs.toList → CallOK P f vs w fun x w' => v.rel ρ μ x ∧ Below w.heap.size w w'

def RecOK (P : Program) (ρ : Nat → Int) (rec : Code → Tab → St → Option (Tab × Tree)) : Prop :=
  ∀ c T st T' t, rec c T st = some (T', t) → Sat ρ T' → Sat ρ T ∧
    ∀ w0 μ a w Q, StRel ρ w0 μ st a w → t.sat ρ (Leafs ρ w0 Q μ) → c.wp P Q a w

section
variable {P : Program} {ρ : Nat → Int} {Γ : Ctx}

theorem callFunc_body (hΓ : Γ.ok P) {g : Nat} {F : Func} {c : Code} (hF : Γ.fns.get g = some F) (hb : F.body = some c) (args : Array Value) (w : World) :
    (callFunc g args).run P w = .ok (.enter g args) w := by
  obtain ⟨h1, h2⟩ := hΓ.fns g F hF
  simp only [callFunc, Sem.run_bind, run_program, Result.andThen_ok, h1]
  rw [h2]
  simp [hb]

theorem WR.after {w0 : World} {μ : List Nat} {nb : Nat} {bs : Tr Blk} {w w' : World} (h : WR ρ w0 μ nb bs w) (hb : Below w.heap.size w w') : WR ρ w0 μ nb bs w' := by
  refine ⟨h.below.trans (hb.mono h.below.size), h.len, h.nodup, fun b hm => ?_, fun i B hi => ?_⟩
  · have := h.lo b hm
    have := hb.size
    omega
  · obtain ⟨b, cs, h1, h2, h3⟩ := h.blk i B hi
    exact ⟨b, cs, h1, by rw [hb.block b (h.lo b (List.mem_of_getElem? h1)).2]; exact h2, h3⟩

theorem callS_sound (hΓ : Γ.ok P) (hsum : ∀ f s, Γ.summ f = some s → SummOK P f s) {rec : Code → Tab → St → Option (Tab × Tree)} (hrec : RecOK P ρ rec)
    {k : Tab → St → SV → Option (Tab × Tree)} (hk : ∀ T st v T' t, k T st v = some (T', t) → Sat ρ T' → Sat ρ T)
    {T T' : Tab} {st : St} {g : Nat} {args : List SV} {t : Tree} (h : callS Γ rec T st g args k = some (T', t)) (hs : Sat ρ T') :
    Sat ρ T ∧ ∀ w0 μ a w (vs : Array Value) L, StRel ρ w0 μ st a w → svsRel ρ μ args vs.toList → t.sat ρ L →
      CallOK P g vs w fun x w' => ∃ μ' sv st2 T1 T2 t2, μ <+: μ' ∧ sv.rel ρ μ' x ∧ StRel ρ w0 μ' st2 a w' ∧ k T1 st2 sv = some (T2, t2) ∧ Sat ρ T2 ∧ t2.sat ρ L := by
  unfold callS at h
  split at h
  · rename_i s hsm
    split at h
    · rename_i T1 v hv
      have hs1 := hk _ _ _ _ _ h hs
      obtain ⟨h0, hc⟩ := hsum g s hsm _ _ _ _ _ hv ρ hs1
      refine ⟨h0, fun w0 μ a w vs L hw hvs hL => ?_⟩
      have := hc μ vs w hw.fa hvs
      unfold CallOK at *
      split at this
      · exact ⟨μ, v, st, _, _, _, List.prefix_refl _, this.1, ⟨hw.defers, hw.fr, hw.wr.after this.2, hw.fa⟩, h, hs, hL⟩
      · refine this.mono fun e w2 ⟨x, he, hx, hb⟩ => ⟨x, he, μ, v, st, _, _, _, List.prefix_refl _, hx, ⟨hw.defers, hw.fr, hw.wr.after hb, hw.fa⟩, h, hs, hL⟩
      · exact this.elim
    · cases h
  · split at h
    · rename_i F hF
      split at h
      · rename_i code hb
        split at h
        · rename_i T1 t1 hr
          obtain ⟨s1, hbind⟩ := bind_spec (ρ := ρ) (fun T e st2 T' t h1 hs' => by
            try dsimp only at h1
            split at h1
            · cases h1
            · split at h1
              · exact hk _ _ _ _ _ h1 hs'
              · cases h1) _ _ _ _ h hs
          obtain ⟨s0, hwp⟩ := hrec _ _ _ _ _ hr s1
          refine ⟨s0, fun w0 μ a w vs L hw hvs hL => ?_⟩
          unfold CallOK
          rw [callFunc_body hΓ hF hb]
          simp only
          obtain ⟨hFP, _⟩ := hΓ.fns g F hF
          refine calls_of_wp hFP hb (hwp w0 μ _ w _ ⟨rfl, frame_enter hvs _, hw.wr, hw.fa⟩ ?_)
          refine Tree.sat_mono ?_ (hbind L hL)
          rintro e s ⟨T1', T2, t2, hg, hs2, hsat⟩ μ' a' w' hp hw'
          cases e with
          | leave id => cases hg
          | normal =>
            dsimp only at hg
            split at hg
            · rename_i v hv
              obtain ⟨x, hx, hxr⟩ := resultsS_sound hΓ hv hw'
              exact ⟨hw'.defers, x, hx, x, rfl, μ', v, { s with nt := st.nt, fr := st.fr }, _, _, _, hp, hxr, ⟨hw.defers, hw.fr.mono hp, hw'.wr, hw'.fa⟩, hg, hs2, hsat⟩
            · cases hg
          | ret =>
            dsimp only at hg
            split at hg
            · rename_i v hv
              obtain ⟨x, hx, hxr⟩ := resultsS_sound hΓ hv hw'
              exact ⟨hw'.defers, x, hx, x, rfl, μ', v, { s with nt := st.nt, fr := st.fr }, _, _, _, hp, hxr, ⟨hw.defers, hw.fr.mono hp, hw'.wr, hw'.fa⟩, hg, hs2, hsat⟩
            · cases hg
        · cases h
      · cases h
    · cases h

theorem calleeS_spec {st : St} {c : Call} {g : Nat} {args : List SV} (h : calleeS st c = some (g, args)) {w0 : World} {μ : List Nat} {a : Act} {w : World} (hw : StRel ρ w0 μ st a w) (t : TypeId) :
    (do let d ← resolve a.eval c t; invoke d.target d.args : Sem Next) = callFunc g (c.args.map a.eval) ∧ svsRel ρ μ args (c.args.map a.eval).toList := by
  unfold calleeS at h
  split at h
  · rename_i f hf
    split at h
    · rename_i g' first cap hev
      split at h
      · rename_i h1 h2
        cases h
        have e := St.eval_rel hw f
        rw [hev] at e
        obtain ⟨e, _⟩ := e
        have e1 : first = #[] := by simpa using h1
        have e2 : cap = #[] := by simpa using h2
        subst e1 e2
        refine ⟨?_, by simpa using evals_rel hw c.args.toList⟩
        simp [resolve, hf, e, Deferred.ofValue, invoke]
      · cases h
    · cases h
  · cases h

theorem runS_sound (hΓ : Γ.ok P) (hsum : ∀ f s, Γ.summ f = some s → SummOK P f s) {rec : Code → Tab → St → Option (Tab × Tree)} (hrec : RecOK P ρ rec) {o : Oper}
    {fin : Tab → St → SV → Option (Tab × Tree)} (hk : ∀ T st v T' t, fin T st v = some (T', t) → Sat ρ T' → Sat ρ T)
    {T T' : Tab} {st : St} {t : Tree} (h : runS Γ rec o fin T st = some (T', t)) (hs : Sat ρ T') :
    Sat ρ T ∧ ∀ w0 μ a w (next : Act → World → Prop) Q, StRel ρ w0 μ st a w → t.sat ρ (Leafs ρ w0 Q μ) →
      (∀ μ' st2 x sv w2 T1 T2 t2, μ <+: μ' → StRel ρ w0 μ' st2 a w2 → sv.rel ρ μ' x → fin T1 st2 sv = some (T2, t2) → Sat ρ T2 → t2.sat ρ (Leafs ρ w0 Q μ) → next (a.put o.dst x) w2) →
      o.wp P a w next Q := by
  unfold runS at h
  split at h
  · rename_i T1 st1 v hop
    have s1 := hk _ _ _ _ _ h hs
    obtain ⟨s0, hc⟩ := opS_sound hΓ hop s1
    refine ⟨s0, fun w0 μ a w next Q hw hL hnext => ?_⟩
    obtain ⟨nx, μ', x, w', hp, hr, hg, hv, hw'⟩ := hc w0 μ a w hw
    unfold Oper.wp
    rw [hr]
    cases nx <;> simp only [Gives] at hg <;> first | (exact hg.elim) | skip
    · subst hg; exact hnext μ' st1 _ v w' _ _ _ hp hw' hv h hs hL
    · subst hg; exact hnext μ' st1 _ v w' _ _ _ hp hw' hv h hs hL
  · split at h
    · rename_i c ho
      split at h
      · rename_i g args hcal
        obtain ⟨s0, hc⟩ := callS_sound hΓ hsum hrec hk h hs
        refine ⟨s0, fun w0 μ a w next Q hw hL hnext => ?_⟩
        obtain ⟨e1, e2⟩ := calleeS_spec (ρ := ρ) hcal hw o.type
        have := hc w0 μ a w _ _ hw e2 hL
        unfold Oper.wp
        have hex : execOp a.eval o = callFunc g (c.args.map a.eval) := by
          rw [← e1]; simp only [execOp, ho]
        rw [hex]
        unfold CallOK at this
        generalize (callFunc g (c.args.map a.eval)).run P w = r at this
        unfold Oper.upon
        split at this
        · obtain ⟨μ', sv, st2, T1, T2, t2, hp, hv, hw2, hf, hs2, hL2⟩ := this
          exact hnext μ' st2 _ sv _ T1 T2 t2 hp hw2 hv hf hs2 hL2
        · simp only
          refine this.mono ?_
          rintro e w2 ⟨v, rfl, μ', sv, st2, T1, T2, t2, hp, hv, hw2, hf, hs2, hL2⟩
          exact hnext μ' st2 _ sv _ T1 T2 t2 hp hw2 hv hf hs2 hL2
        · exact this.elim
      · cases h
    · cases h

theorem guardS_spec {ops : Array Oper} {st : St} {j : Nat} {x : X} (h : guardS ops st j = some x) {w0 : World} {μ : List Nat} {a : Act} {w : World} (hw : StRel ρ w0 μ st a w) :
    yielded ops a.tmps j = some (x.ev ρ == 1) := by
  unfold guardS at h
  split at h
  · rename_i o ho
    split at h
    · rename_i d hd
      split at h
      · rename_i y hy
        cases h
        have e : a.tmps.getD d undef = .bool (x.ev ρ == 1) := hw.fr.slot d _ hy
        unfold yielded
        rw [ho]
        simp only [Option.bind_some, hd]
        rw [Array.getD_eq_getD_getElem?] at e
        cases ht : a.tmps[d]? with
        | none => rw [ht] at e; cases e
        | some v => rw [ht] at e; simp only [Option.getD_some] at e; subst e; rfl
      · cases h
    · cases h
  · cases h

theorem guardedS_sound (hΓ : Γ.ok P) (hsum : ∀ f s, Γ.summ f = some s → SummOK P f s) {rec : Code → Tab → St → Option (Tab × Tree)} (hrec : RecOK P ρ rec) {ops : Array Oper} {o : Oper}
    {fin : Tab → St → SV → Option (Tab × Tree)} (hk : ∀ T st v T' t, fin T st v = some (T', t) → Sat ρ T' → Sat ρ T)
    {T T' : Tab} {st : St} {t : Tree} (h : guardedS Γ rec ops o fin T st = some (T', t)) (hs : Sat ρ T') :
    Sat ρ T ∧ ∀ w0 μ a w (next : Act → World → Prop) Q, StRel ρ w0 μ st a w → t.sat ρ (Leafs ρ w0 Q μ) →
      (∀ μ' st2 x sv w2 T1 T2 t2, μ <+: μ' → StRel ρ w0 μ' st2 a w2 → sv.rel ρ μ' x → fin T1 st2 sv = some (T2, t2) → Sat ρ T2 → t2.sat ρ (Leafs ρ w0 Q μ) → next (a.put o.dst x) w2) →
      if Region.wanted o (yielded ops a.tmps) then o.wp P a w next Q else next (a.put o.dst undef) w := by
  unfold guardedS at h
  split at h
  · rename_i hg
    obtain ⟨s0, hr⟩ := runS_sound hΓ hsum hrec hk h hs
    refine ⟨s0, fun w0 μ a w next Q hw hL hnext => ?_⟩
    have hwant : Region.wanted o (yielded ops a.tmps) = true := by unfold Region.wanted; rw [hg]
    rw [if_pos hwant]
    exact hr w0 μ a w next Q hw hL hnext
  · rename_i j want hg
    split at h
    · rename_i x hx
      have wants : ∀ {w0 μ a w}, StRel ρ w0 μ st a w → Region.wanted o (yielded ops a.tmps) = ((x.ev ρ == 1) == want) := by
        intro w0 μ a w hw
        unfold Region.wanted; rw [hg]; simp only
        rw [guardS_spec hx hw]
        cases (x.ev ρ == 1) <;> cases want <;> rfl
      split at h
      · rename_i b hd
        split at h
        · rename_i hbw
          obtain ⟨s0, hr⟩ := runS_sound hΓ hsum hrec hk h hs
          refine ⟨s0, fun w0 μ a w next Q hw hL hnext => ?_⟩
          have h1 := decideX_spec s0 hw.fa x
          rw [hd] at h1; simp only at h1
          rw [if_pos (by rw [wants hw, h1]; exact hbw)]
          exact hr w0 μ a w next Q hw hL hnext
        · rename_i hbw
          have s0 := hk _ _ _ _ _ h hs
          refine ⟨s0, fun w0 μ a w next Q hw hL hnext => ?_⟩
          have h1 := decideX_spec s0 hw.fa x
          rw [hd] at h1; simp only at h1
          rw [if_neg (by rw [wants hw, h1, hbw]; exact Bool.false_ne_true)]
          exact hnext μ st undef .un w _ _ _ (List.prefix_refl _) hw trivial h hs hL
      · rename_i r p hd
        have hgs : ∀ (b : Bool) (T : Tab) (st : St) (T' : Tab) (t : Tree), (match (b == p) == want with
            | true => runS Γ rec o fin T st
            | false => fin T st .un) = some (T', t) → Sat ρ T' → Sat ρ T := by
          intro b T st T' t h1 hs'
          split at h1
          · exact (runS_sound hΓ hsum hrec hk h1 hs').1
          · exact hk _ _ _ _ _ h1 hs'
        obtain ⟨s0, hb⟩ := branch_spec h hs hgs
        refine ⟨s0, fun w0 μ a w next Q hw hL hnext => ?_⟩
        obtain ⟨b, T1, T2, t2, st1, hρ, hw1, h1, hs2, hL2⟩ := hb w0 μ a w _ hw hL
        have hx1 := decideX_spec s0 hw.fa x
        rw [hd] at hx1; simp only at hx1
        rw [hρ] at hx1
        split at h1
        · rename_i hbw
          rw [if_pos (by rw [wants hw, hx1]; exact hbw)]
          exact (runS_sound hΓ hsum hrec hk h1 hs2).2 w0 μ a w next Q hw1 hL2 hnext
        · rename_i hbw
          rw [if_neg (by rw [wants hw, hx1, hbw]; exact Bool.false_ne_true)]
          exact hnext μ st1 undef .un w _ _ _ (List.prefix_refl _) hw1 trivial h1 hs2 hL2
    · cases h

theorem opsS_sound (hΓ : Γ.ok P) (hsum : ∀ f s, Γ.summ f = some s → SummOK P f s) {rec : Code → Tab → St → Option (Tab × Tree)} (hrec : RecOK P ρ rec) {ops : Array Oper} :
    ∀ (l : List Oper) (k : Nat) (T T' : Tab) (st : St) (t : Tree), (∀ j, l[j]? = ops[k + j]?) → opsS Γ rec ops l T st = some (T', t) → Sat ρ T' →
    Sat ρ T ∧ ∀ w0 μ a w Q, StRel ρ w0 μ st a w → t.sat ρ (Leafs ρ w0 Q μ) → wpOps P ops Q (List.range' k l.length) a w
  | [], k, T, T', st, t, hl, h, hs => by
    cases h
    exact ⟨hs, fun w0 μ a w Q hw hL => hL μ a w (List.prefix_refl _) hw⟩
  | o :: rest, k, T, T', st, t, hl, h, hs => by
    have hl' : ∀ j, rest[j]? = ops[k + 1 + j]? := fun j => by
      have := hl (j + 1)
      rw [show k + 1 + j = k + (j + 1) by omega, ← this]; rfl
    have h0 : ops[k]? = some o := by have := hl 0; simpa using this.symm
    unfold opsS at h
    have hfin : ∀ (T : Tab) (st : St) (v : SV) (T' : Tab) (t : Tree), (match st.put o.dst v with
        | some st => opsS Γ rec ops rest T st
        | none => none) = some (T', t) → Sat ρ T' → Sat ρ T := by
      intro T st v T' t h1 hs'
      split at h1
      · exact (opsS_sound hΓ hsum hrec rest (k + 1) _ _ _ _ hl' h1 hs').1
      · cases h1
    obtain ⟨s0, hg⟩ := guardedS_sound hΓ hsum hrec hfin h hs
    refine ⟨s0, fun w0 μ a w Q hw hL => ?_⟩
    simp only [List.length_cons, List.range'_succ, wpOps, h0]
    have := hg w0 μ a w (wpOps P ops Q (List.range' (k + 1) rest.length)) Q hw hL ?_
    · split
      · rename_i hwant; rw [if_pos hwant] at this; exact .inl this
      · rename_i hwant; rw [if_neg hwant] at this; exact this
    · intro μ' st2 x sv w2 T1 T2 t2 hp hw2 hv hf hs2 hL2
      try dsimp only at hf
      split at hf
      · rename_i st3 hput
        exact (opsS_sound hΓ hsum hrec rest (k + 1) _ _ _ _ hl' hf hs2).2 w0 μ' _ w2 Q (St.put_rel hw2 hv hput) (Tree.sat_mono (fun e s h => Leafs.mono hp h) hL2)
      · cases hf

theorem loopS_sound {rec : Code → Tab → St → Option (Tab × Tree)} (hrec : RecOK P ρ rec) {c : Code} :
    ∀ (n : Nat) (T T' : Tab) (st : St) (t : Tree), loopS rec c n T st = some (T', t) → Sat ρ T' →
    Sat ρ T ∧ ∀ w0 μ a w Q, StRel ρ w0 μ st a w → t.sat ρ (Leafs ρ w0 Q μ) → Code.rounds P c Q n a w
  | 0, T, T', st, t, h, hs => by cases h
  | n + 1, T, T', st, t, h, hs => by
    unfold loopS at h
    split at h
    · rename_i T1 t1 h1
      obtain ⟨s1, hb⟩ := bind_spec (ρ := ρ) (fun T e st2 T' t h2 hs' => by
        cases e with
        | normal => exact (loopS_sound hrec n _ _ _ _ h2 hs').1
        | leave id => cases h2; exact hs'
        | ret => cases h2; exact hs') _ _ _ _ h hs
      obtain ⟨s0, hwp⟩ := hrec _ _ _ _ _ h1 s1
      refine ⟨s0, fun w0 μ a w Q hw hL => ?_⟩
      rw [rounds_succ]
      refine hwp w0 μ a w _ hw (Tree.sat_mono ?_ (hb _ hL))
      rintro e s ⟨T1', T2, t2, hg, hs2, hsat⟩ μ' a' w' hp hw'
      cases e with
      | normal => exact (loopS_sound hrec n _ _ _ _ hg hs2).2 w0 μ' a' w' Q hw' (Tree.sat_mono (fun e s h => Leafs.mono hp h) hsat)
      | leave id => cases hg; exact hsat μ' a' w' hp hw'
      | ret => cases hg; exact hsat μ' a' w' hp hw'
    · cases h

theorem codeS_sound (hΓ : Γ.ok P) (hsum : ∀ f s, Γ.summ f = some s → SummOK P f s) {rec : Code → Tab → St → Option (Tab × Tree)} (hrec : RecOK P ρ rec) : RecOK P ρ (codeS Γ rec) := by
  intro c T st T' t h hs
  unfold codeS at h
  split at h
  · cases h; exact ⟨hs, fun w0 μ a w Q hw hL => wp_skip (hL μ a w (List.prefix_refl _) hw)⟩
  · rename_i id ops
    obtain ⟨s0, hr⟩ := opsS_sound hΓ hsum hrec ops.toList 0 _ _ _ _ (fun j => by simp) h hs
    refine ⟨s0, fun w0 μ a w Q hw hL => wp_region ?_⟩
    have := hr w0 μ a w Q hw hL
    rw [← List.range_eq_range'] at this
    simpa using this
  · rename_i x y
    split at h
    · rename_i T1 t1 h1
      obtain ⟨s1, hb⟩ := bind_spec (ρ := ρ) (fun T e st2 T' t h2 hs' => by
        cases e with
        | normal => exact (hrec _ _ _ _ _ h2 hs').1
        | leave id => cases h2; exact hs'
        | ret => cases h2; exact hs') _ _ _ _ h hs
      obtain ⟨s0, hwp⟩ := hrec _ _ _ _ _ h1 s1
      refine ⟨s0, fun w0 μ a w Q hw hL => wp_seq (hwp w0 μ a w _ hw (Tree.sat_mono ?_ (hb _ hL)))⟩
      rintro e s ⟨T1', T2, t2, hg, hs2, hsat⟩ μ' a' w' hp hw'
      cases e with
      | normal => exact (hrec _ _ _ _ _ hg hs2).2 w0 μ' a' w' Q hw' (Tree.sat_mono (fun e s h => Leafs.mono hp h) hsat)
      | leave id => cases hg; exact hsat μ' a' w' hp hw'
      | ret => cases hg; exact hsat μ' a' w' hp hw'
    · cases h
  · rename_i c x y
    split at h
    · rename_i b hc
      have hev : ∀ {w0 μ a w}, StRel ρ w0 μ st a w → a.eval c = .bool (b.ev ρ == 1) := by
        intro w0 μ a w hw
        have := St.eval_rel hw c
        rw [hc] at this; exact this
      split at h
      · rename_i hd
        obtain ⟨s0, hwp⟩ := hrec _ _ _ _ _ h hs
        refine ⟨s0, fun w0 μ a w Q hw hL => ?_⟩
        have h1 := decideX_spec s0 hw.fa b
        rw [hd] at h1; simp only at h1
        exact wp_cond_true (by rw [hev hw, h1]) (hwp w0 μ a w Q hw hL)
      · rename_i hd
        obtain ⟨s0, hwp⟩ := hrec _ _ _ _ _ h hs
        refine ⟨s0, fun w0 μ a w Q hw hL => ?_⟩
        have h1 := decideX_spec s0 hw.fa b
        rw [hd] at h1; simp only at h1
        exact wp_cond_false (by rw [hev hw, h1]) (hwp w0 μ a w Q hw hL)
      · rename_i r p hd
        obtain ⟨s0, hb⟩ := branch_spec h hs (fun q T st T' t h1 hs' => by
          split at h1
          · exact (hrec _ _ _ _ _ h1 hs').1
          · exact (hrec _ _ _ _ _ h1 hs').1)
        refine ⟨s0, fun w0 μ a w Q hw hL => ?_⟩
        obtain ⟨q, T1, T2, t2, st1, hρ, hw1, h1, hs2, hL2⟩ := hb w0 μ a w _ hw hL
        have hx1 := decideX_spec s0 hw.fa b
        rw [hd] at hx1; simp only at hx1
        rw [hρ] at hx1
        split at h1
        · rename_i hq
          exact wp_cond_true (by rw [hev hw, hx1, hq]) ((hrec _ _ _ _ _ h1 hs2).2 w0 μ a w Q hw1 hL2)
        · rename_i hq
          exact wp_cond_false (by rw [hev hw, hx1, hq]) ((hrec _ _ _ _ _ h1 hs2).2 w0 μ a w Q hw1 hL2)
    · cases h
  · rename_i id c
    split at h
    · rename_i T1 t1 h1
      obtain ⟨s1, hb⟩ := bind_spec (ρ := ρ) (fun T e st2 T' t h2 hs' => by
        cases e with
        | normal => cases h2; exact hs'
        | leave j =>
          dsimp only at h2
          split at h2 <;> cases h2 <;> exact hs'
        | ret => cases h2; exact hs') _ _ _ _ h hs
      obtain ⟨s0, hwp⟩ := hrec _ _ _ _ _ h1 s1
      refine ⟨s0, fun w0 μ a w Q hw hL => wp_block (hwp w0 μ a w _ hw (Tree.sat_mono ?_ (hb _ hL)))⟩
      rintro e s ⟨T1', T2, t2, hg, hs2, hsat⟩ μ' a' w' hp hw'
      cases e with
      | normal => cases hg; exact hsat μ' a' w' hp hw'
      | leave j =>
        dsimp only at hg
        split at hg
        · rename_i hj
          cases hg
          have e := Nat.eq_of_beq_eq_true hj
          show Exit.inBlock id Q (.exit j) a' w'
          unfold Exit.inBlock
          simp only
          rw [if_pos e]
          exact hsat μ' a' w' hp hw'
        · rename_i hj
          cases hg
          have e : ¬ j = id := fun e => by subst e; rw [Nat.beq_refl] at hj; cases hj
          show Exit.inBlock id Q (.exit j) a' w'
          unfold Exit.inBlock
          simp only
          rw [if_neg e]
          exact hsat μ' a' w' hp hw'
      | ret => cases hg; exact hsat μ' a' w' hp hw'
    · cases h
  · rename_i c
    obtain ⟨s0, hr⟩ := loopS_sound hrec 400 _ _ _ _ h hs
    exact ⟨s0, fun w0 μ a w Q hw hL => wp_loop_rounds 400 (hr w0 μ a w Q hw hL)⟩
  · cases h; exact ⟨hs, fun w0 μ a w Q hw hL => wp_exit (hL μ a w (List.prefix_refl _) hw)⟩
  · cases h; exact ⟨hs, fun w0 μ a w Q hw hL => wp_label (hL μ a w (List.prefix_refl _) hw)⟩
  · cases h; exact ⟨hs, fun w0 μ a w Q hw hL => wp_ret (hL μ a w (List.prefix_refl _) hw)⟩
  · cases h

/-- THE EXECUTOR'S RUN IS THE PROGRAM'S. -/
theorem exec_sound (hΓ : Γ.ok P) (hsum : ∀ f s, Γ.summ f = some s → SummOK P f s) : ∀ n, RecOK P ρ (exec Γ n)
  | 0 => fun _ _ _ _ _ h => by cases h
  | n + 1 => codeS_sound hΓ hsum (exec_sound hΓ hsum n)
end
end Go.Sx

namespace Go.Sx
open Go.RowKit

/-! ### The registers' values -/
def Tr.chk {α : Type} (p : Nat → α → Bool) : Nat → Nat → Tr α → Bool
  | _, _, .nil => true
  | a, b, .node l v r =>
    (match v with | none => true | some x => p b x) && (Tr.chk p (2 * a) (a + b) l && Tr.chk p (2 * a) (2 * a + b) r)

theorem Tr.chk_spec {α : Type} {p : Nat → α → Bool} : ∀ (t : Tr α) (a b : Nat), Tr.chk p a b t = true → ∀ j x, t.get j = some x → p (a * j + b) x = true
  | .nil, _, _, _, _, _, h => by cases h
  | .node l v r, a, b, hc, j, x, h => by
    simp only [Tr.chk, Bool.and_eq_true] at hc
    obtain ⟨hv, hl, hr⟩ := hc
    rw [Tr.get_node] at h
    split at h
    · rename_i hj; subst hj; subst h; simpa using hv
    · split at h
      · rename_i hj hodd
        have := Tr.chk_spec l _ _ hl _ _ h
        have e : 2 * a * (j / 2) + (a + b) = a * j + b := by
          have : j = 2 * (j / 2) + 1 := by omega
          conv => rhs; rw [this, Nat.mul_add, Nat.mul_left_comm, ← Nat.mul_assoc]
          omega
        rw [← e]; exact this
      · rename_i hj heven
        have := Tr.chk_spec r _ _ hr _ _ h
        have e : 2 * a * (j / 2 - 1) + (2 * a + b) = a * j + b := by
          obtain ⟨m, hm⟩ : ∃ m, j = 2 * (m + 1) := ⟨j / 2 - 1, by omega⟩
          subst hm
          have : 2 * (m + 1) / 2 - 1 = m := by omega
          rw [this]
          have : a * (2 * (m + 1)) = 2 * a * m + 2 * a := by
            rw [Nat.mul_left_comm, ← Nat.mul_assoc, Nat.mul_add, Nat.mul_one]
          omega
        rw [← e]; exact this

def X.below (n : Nat) : X → Bool
  | .lit _ => true
  | .reg r => Nat.blt r n

def allBelow (n : Nat) : List X → Bool
  | [] => true
  | x :: l => x.below n && allBelow n l

/-- Each definition stands behind the inputs and names what stands ahead of it. -/
def goodTab (n0 : Nat) (T : Tab) : Bool := Tr.chk (fun r d => Nat.ble n0 r && allBelow r d.a) 1 0 T.defs

def approx (T : Tr D) (inp : Nat → Int) : Nat → Nat → Int
  | 0, r => inp r
  | k + 1, r => match T.get r with
    | none => inp r
    | some d => d.ev (approx T inp k)

theorem ev_congr {ρ ρ' : Nat → Int} {n : Nat} (h : ∀ s, s < n → ρ s = ρ' s) : ∀ {l : List X}, allBelow n l = true → l.map (X.ev ρ) = l.map (X.ev ρ')
  | [], _ => rfl
  | x :: l, hb => by
    simp only [allBelow, Bool.and_eq_true] at hb
    simp only [List.map_cons]
    rw [ev_congr h hb.2]
    congr 1
    cases x with
    | lit n => rfl
    | reg r =>
      have : r < n := by have := hb.1; simpa [X.below, Nat.blt_eq] using this
      exact h r this

theorem exists_rho {n0 : Nat} {T : Tab} (h : goodTab n0 T = true) (inp : Nat → Int) : ∃ ρ, (∀ r, r < n0 → ρ r = inp r) ∧ Sat ρ T := by
  have hd : ∀ r d, T.defs.get r = some d → n0 ≤ r ∧ allBelow r d.a = true := by
    intro r d hr
    have := Tr.chk_spec _ _ _ h r d hr
    simp only [Nat.one_mul, Nat.add_zero, Bool.and_eq_true] at this
    exact ⟨Nat.le_of_ble_eq_true this.1, this.2⟩
  have stable : ∀ r k, r < k → approx T.defs inp k r = approx T.defs inp (r + 1) r := by
    intro r
    induction r using Nat.strongRecOn with
    | _ r ih =>
      intro k hk
      obtain ⟨k, rfl⟩ : ∃ m, k = m + 1 := ⟨k - 1, by omega⟩
      simp only [approx]
      cases hr : T.defs.get r with
      | none => rfl
      | some d =>
        simp only
        unfold D.ev
        rw [ev_congr (n := r) (fun s hs => ?_) (hd r d hr).2]
        rw [ih s hs k (by omega), ih s hs r hs]
  refine ⟨fun r => approx T.defs inp (r + 1) r, fun r hr => ?_, fun r d hr => ?_⟩
  · simp only [approx]
    cases hg : T.defs.get r with
    | none => rfl
    | some d => have := (hd r d hg).1; omega
  · simp only
    rw [approx, hr]
    simp only
    unfold D.ev
    rw [ev_congr (n := r) (fun s hs => ?_) (hd r d hr).2]
    exact stable s r hs

/-! ### Inputs -/
inductive Kd where
  | int (k : IntKind)
  | flt (k : FloatKind)
  | bool

def Kd.sc (k : Kd) (r : Nat) : SC :=
  match k with
  | .int k => .int k (.reg r)
  | .flt k => .flt k (.reg r)
  | .bool => .bool (.reg r)

def Kd.fits : Kd → Value → Prop
  | .int k, v => ∃ n, v = .int k n
  | .flt k, v => ∃ b, v = .float k b
  | .bool, v => ∃ b, v = .bool b

def Ms : List Kd → List Value → Prop
  | [], [] => True
  | k :: l, v :: m => k.fits v ∧ Ms l m
  | _, _ => False

/-- What a register holds for an input. -/
def inOf : Value → Int
  | .int _ n => n
  | .float k b => canon k b
  | .bool b => b2i b
  | _ => 0

def symL : Nat → List Kd → List SC
  | _, [] => []
  | i, k :: l => k.sc i :: symL (i + 1) l

theorem Kd.rel {ρ : Nat → Int} {μ : List Nat} {k : Kd} {v : Value} {i : Nat} (h : k.fits v) (hr : ρ i = inOf v) : (k.sc i).rel ρ μ v := by
  cases k with
  | int k => obtain ⟨n, rfl⟩ := h; show Value.int _ _ = Value.int _ _; rw [show (X.reg i).ev ρ = ρ i from rfl, hr]; rfl
  | flt k => obtain ⟨b, rfl⟩ := h; exact ⟨b, rfl, by rw [show (X.reg i).ev ρ = ρ i from rfl, hr]; rfl⟩
  | bool => obtain ⟨b, rfl⟩ := h; show Value.bool _ = Value.bool _; rw [show (X.reg i).ev ρ = ρ i from rfl, hr]; show Value.bool b = _; rw [show inOf (.bool b) = b2i b from rfl, b2i_eq]

theorem symL_rel {ρ : Nat → Int} {μ : List Nat} : ∀ {ks : List Kd} {vs : List Value} {i : Nat}, Ms ks vs → (∀ j v, vs[j]? = some v → ρ (i + j) = inOf v) → cellsRel ρ μ (symL i ks) vs
  | [], [], _, _, _ => trivial
  | k :: ks, v :: vs, i, h, hr => by
    refine ⟨Kd.rel h.1 (by have := hr 0 v rfl; simpa using this), symL_rel h.2 fun j u hj => ?_⟩
    rw [show i + 1 + j = i + (j + 1) by omega]
    exact hr (j + 1) u (by simpa using hj)
  | [], _ :: _, _, h, _ => h.elim
  | _ :: _, [], _, h, _ => h.elim

theorem Ms_length : ∀ {ks : List Kd} {vs : List Value}, Ms ks vs → ks.length = vs.length
  | [], [], _ => rfl
  | _ :: _, _ :: _, h => by simp [Ms_length h.2]
  | [], _ :: _, h => h.elim
  | _ :: _, [], h => h.elim

/-- An argument: one value, or a struct or an array of values. -/
inductive AK where
  | one (k : Kd)
  | agg (l : List Kd)

def AK.size : AK → Nat
  | .one _ => 1
  | .agg l => l.length

def AK.fits : AK → Value → Prop
  | .one k, v => k.fits v
  | .agg l, v => ∃ cs : Array Value, v = .agg cs ∧ Ms l cs.toList

def AK.sv (i : Nat) : AK → SV
  | .one k => .c (k.sc i)
  | .agg l => .w (.agg (symL i l))

def As : List AK → List Value → Prop
  | [], [] => True
  | k :: l, v :: m => k.fits v ∧ As l m
  | _, _ => False

def symA : Nat → List AK → List SV
  | _, [] => []
  | i, k :: l => k.sv i :: symA (i + k.size) l

def sizeA : List AK → Nat
  | [] => 0
  | k :: l => k.size + sizeA l

/-- All inputs, one after the other. -/
def flat : List AK → List Value → List Value
  | k :: l, v :: m => (match k with | .one _ => [v] | .agg _ => v.cells.toList) ++ flat l m
  | _, _ => []

theorem symA_rel {ρ : Nat → Int} {μ : List Nat} : ∀ {ks : List AK} {vs : List Value} {i : Nat}, As ks vs → (∀ j v, (flat ks vs)[j]? = some v → ρ (i + j) = inOf v) → svsRel ρ μ (symA i ks) vs
  | [], [], _, _, _ => trivial
  | k :: ks, v :: vs, i, h, hr => by
    cases k with
    | one k =>
      refine ⟨Kd.rel h.1 (by have := hr 0 v rfl; simpa using this), symA_rel h.2 fun j u hj => ?_⟩
      rw [show i + (AK.one k).size + j = i + (j + 1) by show i + 1 + j = _; omega]
      exact hr (j + 1) u (by simpa [flat] using hj)
    | agg l =>
      obtain ⟨⟨cs, rfl, hm⟩, h2⟩ := h
      have hlen := Ms_length hm
      refine ⟨⟨cs, rfl, symL_rel hm fun j u hj => hr j u ?_⟩, symA_rel h2 fun j u hj => ?_⟩
      · simp only [flat]
        rw [List.getElem?_append_left (by have := (List.getElem?_eq_some_iff.1 hj).1; exact this)]
        exact hj
      · rw [show i + (AK.agg l).size + j = i + (l.length + j) by show i + l.length + j = _; omega]
        refine hr _ u ?_
        simp only [flat]
        show ((Value.agg cs).cells.toList ++ flat ks vs)[l.length + j]? = some u
        rw [hlen]
        show (cs.toList ++ flat ks vs)[cs.toList.length + j]? = some u
        rw [List.getElem?_append_right (by omega)]
        simpa using hj
  | [], _ :: _, _, h, _ => h.elim
  | _ :: _, [], _, h, _ => h.elim

theorem flat_length : ∀ {ks : List AK} {vs : List Value}, As ks vs → (flat ks vs).length = sizeA ks
  | [], [], _ => rfl
  | k :: ks, v :: vs, h => by
    cases k with
    | one k => simp [flat, sizeA, AK.size, flat_length h.2]; omega
    | agg l =>
      obtain ⟨⟨cs, rfl, hm⟩, h2⟩ := h
      have := Ms_length hm
      simp only [flat, sizeA, AK.size, List.length_append, flat_length h2]
      show cs.toList.length + _ = _
      omega
  | [], _ :: _, h => h.elim
  | _ :: _, [], h => h.elim

/-! ### All leaves true -/
def leafTrue (Γ : Ctx) (F : Func) (T : Tab) (st : St) : Bool :=
  match resultsS Γ st F.results.toList with
  | some (.w (.one (.bool x))) =>
    match decideX T st.fa x with
    | .known b => b
    | _ => false
  | _ => false

def allTrue (Γ : Ctx) (F : Func) (T : Tab) : Tree → Bool
  | .leaf .normal st => leafTrue Γ F T st
  | .leaf .ret st => leafTrue Γ F T st
  | .leaf (.leave _) _ => false
  | .node _ a b => match allTrue Γ F T a with
    | true => allTrue Γ F T b
    | false => false
  | .dead => true

def runF (Γ : Ctx) (F : Func) (ks : List AK) : Option (Tab × Tree) :=
  match F.body with
  | some c => exec Γ 400 c ⟨sizeA ks, .nil, .nil⟩ ⟨ks.length + (F.ntmps - ks.length), frameOf 0 (symA 0 ks), 0, .nil, .nil⟩
  | none => none

def lawOK (Γ : Ctx) (F : Func) (ks : List AK) : Bool :=
  match runF Γ F ks with
  | some (T, t) => match goodTab (sizeA ks) T with
    | true => allTrue Γ F T t
    | false => false
  | none => false

theorem symA_length : ∀ (ks : List AK) (i : Nat), (symA i ks).length = ks.length
  | [], _ => rfl
  | _ :: ks, i => by simp [symA, symA_length ks]

theorem leafTrue_spec {P : Program} {Γ : Ctx} (hΓ : Γ.ok P) {ρ : Nat → Int} {F : Func} {T : Tab} (hs : Sat ρ T) {st : St} (h : leafTrue Γ F T st = true) {w0 : World} {μ : List Nat} {a : Act} {w : World} (hw : StRel ρ w0 μ st a w) :
    ∃ v, (results F a.tmps).run P w = .ok v w ∧ v = .bool true := by
  unfold leafTrue at h
  split at h
  · rename_i x hr
    split at h
    · rename_i b hd
      subst h
      obtain ⟨v, hv, hrel⟩ := resultsS_sound hΓ hr hw
      refine ⟨v, hv, ?_⟩
      have h1 := decideX_spec hs hw.fa x
      rw [hd] at h1; simp only at h1
      have e : v = .bool (x.ev ρ == 1) := hrel
      rw [e, h1]
    · cases h
  · cases h

theorem allTrue_sat {P : Program} {Γ : Ctx} (hΓ : Γ.ok P) {ρ : Nat → Int} {F : Func} {T : Tab} (hs : Sat ρ T) (w0 : World) :
    ∀ {t : Tree}, allTrue Γ F T t = true → t.sat ρ (Leafs ρ w0 (bodyPost P F fun e w' => e = .returned (.bool true) ∧ Below w0.heap.size w0 w') [])
  | .leaf .normal st, h => fun μ a w _ hw => by
    obtain ⟨v, hv, rfl⟩ := leafTrue_spec hΓ hs h hw
    exact ⟨hw.defers, _, hv, rfl, hw.wr.below⟩
  | .leaf .ret st, h => fun μ a w _ hw => by
    obtain ⟨v, hv, rfl⟩ := leafTrue_spec hΓ hs h hw
    exact ⟨hw.defers, _, hv, rfl, hw.wr.below⟩
  | .leaf (.leave id) st, h => by cases h
  | .node r a b, h => by
    unfold allTrue at h
    split at h
    · rename_i ha
      simp only [Tree.sat]
      split
      · exact allTrue_sat hΓ hs w0 ha
      · exact allTrue_sat hΓ hs w0 h
    · cases h
  | .dead, _ => trivial

/-- A LAW OF THE PROGRAM OUT OF A RUN OF THE EXECUTOR. -/
theorem run_true {P : Program} {Γ : Ctx} (hΓ : Γ.ok P) (hsum : ∀ f s, Γ.summ f = some s → SummOK P f s) {f : Nat} {F : Func} (hF : P.funcs[f]? = some F) {ks : List AK}
    (hrun : lawOK Γ F ks = true) {vs : Array Value} (hvs : As ks vs.toList) (w : World) :
    Calls P f vs w fun e w' => e = .returned (.bool true) ∧ Below w.heap.size w w' := by
  unfold lawOK at hrun
  split at hrun
  · rename_i T t hr
    split at hrun
    · rename_i hg
      unfold runF at hr
      split at hr
      · rename_i c hb
        obtain ⟨ρ, hin, hs⟩ := exists_rho hg (fun r => ((flat ks vs.toList)[r]?.map inOf).getD 0)
        have hfl := flat_length hvs
        have hrel : svsRel ρ [] (symA 0 ks) vs.toList := symA_rel hvs fun j v hj => by
          have hlt := (List.getElem?_eq_some_iff.1 hj).1
          rw [Nat.zero_add, hin j (by omega), hj]; rfl
        obtain ⟨_, hwp⟩ := exec_sound (ρ := ρ) hΓ hsum 400 _ _ _ _ _ hr hs
        have hfr := frame_enter hrel F.ntmps
        rw [symA_length] at hfr
        refine calls_of_wp hF hb (hwp w [] _ w _ ⟨rfl, hfr, ⟨Below.refl _ _, rfl, List.nodup_nil, (fun b hb => by cases hb), (fun i B hi => by cases hi)⟩, (fun r b h => by cases h)⟩ ?_)
        exact allTrue_sat hΓ hs w hrun
      · cases hr
    · cases hrun
  · cases hrun
end Go.Sx

namespace Go.Sx
open Go.RowKit Go.WideShapes

/-! ### The type table's check -/
def tdCheck : TD → TypeDesc → Bool
  | .arr n e, .array n' e' => n == n' && e == e'
  | .slice e, .slice e' => e == e'
  | .ptr e, .pointer e' => e == e'
  | .struct fs, .struct F => (F.toList.map fun f => (f.offset, f.type)) == fs
  | .int k, .int k' => decide (k = k')
  | .float k, .float k' => decide (k = k')
  | .bool, .bool => true
  | .other, .struct _ => false
  | .other, .array _ _ => false
  | .other, _ => true
  | _, _ => false

theorem tdCheck_ok {d : TD} {t : TypeDesc} (h : tdCheck d t = true) : d.ok t := by
  cases d <;> cases t <;> simp [tdCheck] at h <;> simp [TD.ok, h]

def scZero : SC → Value → Bool
  | .int k (.lit n), .int k' m => decide (k = k') && ibeq n m
  | .flt k (.lit n), .float k' b => decide (k = k') && (ibeq n b && !(isN k b))
  | .bool (.lit n), .bool b => (n == 1) == b
  | .raw (.slice none 0 0), .slice none 0 0 => true
  | .raw (.pointer none), .pointer none => true
  | _, _ => false

theorem scZero_ok {c : SC} {v : Value} (h : scZero c v = true) (ρ : Nat → Int) (μ : List Nat) : c.rel ρ μ v := by
  unfold scZero at h
  split at h
  · simp only [Bool.and_eq_true, decide_eq_true_eq] at h
    obtain ⟨rfl, h⟩ := h
    rw [ibeq_eq h]; rfl
  · simp only [Bool.and_eq_true, decide_eq_true_eq, Bool.not_eq_true'] at h
    obtain ⟨rfl, h1, h2⟩ := h
    exact ⟨_, rfl, by rw [canon_num h2, ← ibeq_eq h1]; rfl⟩
  · simp only [beq_iff_eq] at h
    subst h; rfl
  · exact ⟨rfl, rfl⟩
  · exact ⟨rfl, rfl⟩
  · cases h

def zerosCheck : List SC → List Value → Bool
  | [], [] => true
  | c :: l, v :: m => scZero c v && zerosCheck l m
  | _, _ => false

theorem zerosCheck_ok : ∀ {l : List SC} {m : List Value}, zerosCheck l m = true → ∀ ρ μ, cellsRel ρ μ l m
  | [], [], _, _, _ => trivial
  | c :: l, v :: m, h, ρ, μ => by
    simp only [zerosCheck, Bool.and_eq_true] at h
    exact ⟨scZero_ok h.1 ρ μ, zerosCheck_ok h.2 ρ μ⟩
  | [], _ :: _, h, _, _ => by cases h
  | _ :: _, [], h, _, _ => by cases h

def tiCheck (P : Program) (t : Nat) (i : TI) : Bool :=
  match P.underlying t, P.info? t with
  | some d, some n =>
    match n.zero with
    | some z => tdCheck i.d d && (Nat.beq i.zero.length i.size && (Nat.beq n.size i.size && zerosCheck i.zero z.cells.toList))
    | none => false
  | _, _ => false

theorem tiCheck_ok {P : Program} {t : Nat} {i : TI} (h : tiCheck P t i = true) : i.ok P t := by
  unfold tiCheck at h
  split at h
  · rename_i d n hd hn
    split at h
    · rename_i z hz
      simp only [Bool.and_eq_true] at h
      obtain ⟨h1, h2, h3, h4⟩ := h
      exact ⟨⟨d, hd, tdCheck_ok h1⟩, Nat.eq_of_beq_eq_true h2, n, z, hn, Nat.eq_of_beq_eq_true h3, hz, zerosCheck_ok h4⟩
    · cases h
  · cases h

def tysCheck (P : Program) : List (Nat × TI) → Bool
  | [] => true
  | (t, i) :: l => tiCheck P t i && tysCheck P l

theorem tysCheck_ok {P : Program} : ∀ {l : List (Nat × TI)}, tysCheck P l = true → ∀ t i, (t, i) ∈ l → i.ok P t
  | [], _, _, _, h => by cases h
  | (t', i') :: l, hc, t, i, h => by
    simp only [tysCheck, Bool.and_eq_true] at hc
    cases h with
    | head => exact tiCheck_ok hc.1
    | tail _ h => exact tysCheck_ok hc.2 t i h

theorem ctx_ok {P : Program} {tys : List (Nat × TI)} {fns : List (Nat × Func)} {summ : Nat → Option Summ} (h1 : tysCheck P tys = true)
    (h2 : ∀ p ∈ fns, P.funcs[p.1]? = some p.2 ∧ (p.2.name == ("runtime.NumGoroutine" : String)) = false) :
    Ctx.ok P ⟨Tr.ofList fuelT tys, Tr.ofList fuelT fns, summ⟩ :=
  ⟨fun t i h => tysCheck_ok h1 t i (Tr.mem_ofList _ _ _ _ h), fun f F h => h2 _ (Tr.mem_ofList _ _ _ _ h)⟩

/-! ### Kinds of a flat type's cells -/
def repK : Nat → List Kd → List Kd
  | 0, _ => []
  | n + 1, l => l ++ repK n l

/-- The fields' kinds, one field behind the other without a gap. -/
def fieldsK (sz : Nat → Option Nat) (ks : Nat → Option (List Kd)) : Nat → List (Nat × Nat) → Option (List Kd)
  | _, [] => some []
  | o, (off, t) :: fs =>
    match ks t with
    | some l =>
      match fieldsK sz ks (o + l.length) fs with
      | some m => if off = o ∧ sz t = some l.length then some (l ++ m) else none
      | none => none
    | none => none

def ksOf (Γ : Ctx) : Nat → Nat → Option (List Kd)
  | 0, _ => none
  | d + 1, t =>
    match Γ.ty.get t with
    | some i =>
      match i.d with
      | .int k => some [.int k]
      | .float k => some [.flt k]
      | .bool => some [.bool]
      | .arr n e =>
        match ksOf Γ d e with
        | some l => if sizeT Γ e = some l.length ∧ i.size = n * l.length then some (repK n l) else none
        | none => none
      | .struct fs =>
        match fieldsK (sizeT Γ) (ksOf Γ d) 0 fs with
        | some l => if l.length = i.size then some l else none
        | none => none
      | _ => none
    | none => none

theorem Ms_append : ∀ {l l' : List Kd} {vs vs' : List Value}, Ms l vs → Ms l' vs' → Ms (l ++ l') (vs ++ vs')
  | [], _, [], _, _, h' => h'
  | _ :: _, _, _ :: _, _, h, h' => ⟨h.1, Ms_append h.2 h'⟩
  | [], _, _ :: _, _, h, _ => h.elim
  | _ :: _, _, [], _, h, _ => h.elim

theorem Ms_rep {l : List Kd} {s : Nat} (hs : l.length = s) : ∀ (n : Nat) (cs : List Value), cs.length = n * s → (∀ i, i < n → Ms l ((cs.drop (i * s)).take s)) → Ms (repK n l) cs
  | 0, cs, hl, _ => by
    have : cs = [] := by apply List.eq_nil_of_length_eq_zero; simpa using hl
    subst this; trivial
  | n + 1, cs, hl, h => by
    have h0 := h 0 (by omega)
    simp only [Nat.zero_mul, List.drop_zero] at h0
    rw [← List.take_append_drop s cs]
    refine Ms_append h0 (Ms_rep hs n _ (by rw [List.length_drop, hl, Nat.succ_mul]; omega) fun i hi => ?_)
    have := h (i + 1) (by omega)
    rw [List.drop_drop]
    rw [show s + i * s = (i + 1) * s by rw [Nat.succ_mul]; omega]
    exact this

theorem mapM_mem {α β : Type} {f : α → Option β} : ∀ {l : List α} {xs : List β}, l.mapM f = some xs → ∀ a ∈ l, ∃ x, f a = some x
  | [], _, _, _, h => by cases h
  | b :: l, xs, h, a, ha => by
    rw [List.mapM_cons] at h
    cases hb : f b with
    | none => rw [hb] at h; cases h
    | some y =>
      rw [hb] at h
      cases hl : l.mapM f with
      | none => rw [hl] at h; cases h
      | some ys =>
        cases ha with
        | head => exact ⟨y, hb⟩
        | tail _ ha => exact mapM_mem hl a ha

section
variable {P : Program} {Γ : Ctx} {H : Type} {enc : TypeId × Value → H}

theorem cellsOf_size {t : Nat} {i : TI} (h : i.ok P t) : P.cellsOf t = i.size := by
  obtain ⟨n, z, h1, h2, _, _⟩ := h.inf
  simp [Program.cellsOf, h1, h2]

theorem cellsOf_sizeT (hΓ : Γ.ok P) {t n : Nat} (h : sizeT Γ t = some n) : P.cellsOf t = n := by
  unfold sizeT at h
  split at h
  · rename_i i hi; cases h; exact cellsOf_size (hΓ.ty t i hi)
  · cases h

theorem trod_float {k : FloatKind} {w : World} {base : Nat} {spare : Nat → Bool} {held : Bool} {fuel : Nat} {t : TypeId} {cs : List Value} {x : DataW H × List MemPlace}
    (ht : P.underlying t = some (.float k)) (h : DataW.trod enc P w base spare held fuel t cs = some x) : ∃ n, cs = [.float k n] := by
  cases fuel with
  | zero => simp [DataW.trod] at h
  | succ n =>
    unfold DataW.trod at h
    rw [ht] at h
    split at h <;> simp_all

theorem fieldsK_ms (hΓ : Γ.ok P) {ks : Nat → Option (List Kd)} {cs : List Value} : ∀ (fs : List (Nat × Nat)) (o : Nat) (l : List Kd), fieldsK (sizeT Γ) ks o fs = some l →
    (∀ off t l, (off, t) ∈ fs → ks t = some l → Ms l ((cs.drop off).take (P.cellsOf t))) → Ms l ((cs.drop o).take l.length)
  | [], o, l, h, _ => by cases h; simp [Ms]
  | (off, t) :: fs, o, l, h, hall => by
    unfold fieldsK at h
    split at h
    · rename_i l1 h1
      split at h
      · rename_i m hm
        split at h
        · rename_i hc
          cases h
          obtain ⟨rfl, hsz⟩ := hc
          have hc1 := cellsOf_sizeT hΓ hsz
          have e1 := hall off t l1 List.mem_cons_self h1
          rw [hc1] at e1
          have e2 := fieldsK_ms hΓ fs _ m hm fun off' t' l' hmem hl' => hall off' t' l' (List.mem_cons_of_mem _ hmem) hl'
          rw [List.length_append, List.take_add, List.drop_drop]
          exact Ms_append e1 e2
        · cases h
      · cases h
    · cases h

theorem trod_kinds (hΓ : Γ.ok P) {W : World} {base : Nat} {spare : Nat → Bool} {held : Bool} : ∀ (d : Nat) (t : Nat) (ks : List Kd), ksOf Γ d t = some ks → ∀ (fuel : Nat) (cs : List Value) (x : DataW H × List MemPlace),
    DataW.trod enc P W base spare held fuel t cs = some x → Ms ks cs
  | 0, _, _, h, _, _, _, _ => by cases h
  | d + 1, t, ks, h, fuel, cs, x, hx => by
    unfold ksOf at h
    split at h
    · rename_i i hi
      have ok := hΓ.ty t i hi
      obtain ⟨u, hu, ho⟩ := ok.und
      have hsz := cellsOf_size ok
      split at h
      · rename_i k hid
        cases h
        rw [hid] at ho
        have ho' : u = .int k := ho
        subst ho'
        obtain ⟨n, rfl, _⟩ := DataW.trod_int hu hx
        exact ⟨⟨n, rfl⟩, trivial⟩
      · rename_i k hid
        cases h
        rw [hid] at ho
        have ho' : u = .float k := ho
        subst ho'
        obtain ⟨n, rfl⟩ := trod_float hu hx
        exact ⟨⟨n, rfl⟩, trivial⟩
      · rename_i hid
        cases h
        rw [hid] at ho
        have ho' : u = .bool := ho
        subst ho'
        obtain ⟨n, rfl, _⟩ := DataW.trod_bool hu hx
        exact ⟨⟨n, rfl⟩, trivial⟩
      · rename_i n e hid
        rw [hid] at ho
        have ho' : u = .array n e := ho
        subst ho'
        split at h
        · rename_i l hl
          split at h
          · rename_i hc
            cases h
            obtain ⟨hs, hn⟩ := hc
            obtain ⟨xs, m, _, _, hlen, hxl, hall⟩ := DataW.trod_array hu hx
            have hce := cellsOf_sizeT hΓ hs
            refine Ms_rep rfl n cs (by rw [hlen, hsz, hn]) fun j hj => ?_
            have := hall j hj
            rw [hce] at this
            have hj' : j < xs.length := by omega
            rw [List.getElem?_eq_getElem hj'] at this
            exact trod_kinds hΓ d e l hl m _ _ this
          · cases h
        · cases h
      · rename_i fs hid
        rw [hid] at ho
        obtain ⟨F, rfl, hF⟩ := ho
        split at h
        · rename_i l hl
          split at h
          · rename_i hc
            cases h
            obtain ⟨xs, m, _, _, hlen, hxl, hall⟩ := DataW.trod_struct hu hx
            have := fieldsK_ms (cs := cs) hΓ fs 0 _ hl fun off ft l' hmem hl' => by
              subst hF
              obtain ⟨f, hf, he⟩ := List.mem_map.1 hmem
              cases he
              obtain ⟨j, hj, hjf⟩ := List.mem_iff_getElem.1 hf
              have h1 : F[j]? = some f := by
                rw [← hjf]
                simp at hj
                simp [hj]
              have h2 := hall j f h1
              have hj' : j < xs.length := by simp at hj; omega
              rw [List.getElem?_eq_getElem hj'] at h2
              exact trod_kinds hΓ d f.type l' hl' m _ _ h2
            rw [List.drop_zero, hc, ← hsz, ← hlen, List.take_length] at this
            exact this
          · cases h
        · cases h
      · cases h
    · cases h

/-- The shape of an argument, out of its type. -/
def akOf (Γ : Ctx) (t : Nat) : Option AK :=
  match Γ.ty.get t with
  | some i =>
    match i.d with
    | .int k => some (.one (.int k))
    | .float k => some (.one (.flt k))
    | .bool => some (.one .bool)
    | .arr _ _ => match ksOf Γ 12 t with
      | some l => some (.agg l)
      | none => none
    | .struct _ => match ksOf Γ 12 t with
      | some l => some (.agg l)
      | none => none
    | _ => none
  | none => none

def aksOf (Γ : Ctx) : List Nat → Option (List AK)
  | [] => some []
  | t :: l =>
    match akOf Γ t, aksOf Γ l with
    | some k, some m => some (k :: m)
    | _, _ => none

theorem okWide_float {w : World} {r : Reach} {base : Nat} {t : TypeId} {v : Value} {k : FloatKind} (ht : P.underlying t = some (.float k)) (h : Value.okWide P w r base t v) : ∃ n, v = .float k n := by
  simp only [Value.okWide, ht, Cell.okWide, Cell.ok] at h
  cases v <;> simp_all

theorem akOf_fits (hΓ : Γ.ok P) {W : World} {base : Nat} {t : Nat} {k : AK} (h : akOf Γ t = some k) {v : Value} (hv : Value.okWide P W .any base t v)
    {b : Nat} {spare : Nat → Bool} {held : Bool} {d : DataW H} {ps : List MemPlace} (hr : DataW.Trod enc P W b spare held t v d ps) : k.fits v := by
  obtain ⟨fuel, hr⟩ := hr
  unfold akOf at h
  split at h
  · rename_i i hi
    have ok := hΓ.ty t i hi
    obtain ⟨u, hu, ho⟩ := ok.und
    split at h
    · rename_i k' hid
      cases h
      rw [hid] at ho
      have ho' : u = .int k' := ho
      subst ho'
      exact okWide_int hu hv
    · rename_i k' hid
      cases h
      rw [hid] at ho
      have ho' : u = .float k' := ho
      subst ho'
      exact okWide_float hu hv
    · rename_i hid
      cases h
      rw [hid] at ho
      have ho' : u = .bool := ho
      subst ho'
      exact okWide_bool hu hv
    · rename_i n e hid
      split at h
      · rename_i l hl
        cases h
        have hm := trod_kinds hΓ 12 t l hl fuel _ _ hr
        rw [hid] at ho
        have ho' : u = .array n e := ho
        subst ho'
        unfold Value.okWide at hv
        rw [hu] at hv
        obtain ⟨cs, rfl, _⟩ := hv
        exact ⟨cs, rfl, hm⟩
      · cases h
    · rename_i fs hid
      split at h
      · rename_i l hl
        cases h
        have hm := trod_kinds hΓ 12 t l hl fuel _ _ hr
        rw [hid] at ho
        obtain ⟨F, rfl, _⟩ := ho
        unfold Value.okWide at hv
        rw [hu] at hv
        obtain ⟨cs, rfl, _⟩ := hv
        exact ⟨cs, rfl, hm⟩
      · cases h
    · cases h
  · cases h

theorem aksOf_fits (hΓ : Γ.ok P) {W : World} {base : Nat} {b : Nat} {spare : Nat → Bool} {held : Bool} : ∀ {ts : List Nat} {ks : List AK} {vs : List Value} {ds : List (DataW H)} {ps : List MemPlace}, aksOf Γ ts = some ks →
    (∀ (j : Nat) t v, ts[j]? = some t → vs[j]? = some v → Value.okWide P W .any base t v) → DataW.TrodAll enc P W b spare held ts vs ds ps → As ks vs
  | [], ks, [], [], _, h, _, _ => by cases h; trivial
  | t :: ts, ks, v :: vs, d :: ds, ps, h, hv, hr => by
    unfold aksOf at h
    split at h
    · rename_i k m hk hm
      cases h
      obtain ⟨p, q, h1, h2, _⟩ := hr
      exact ⟨akOf_fits hΓ hk (hv 0 t v rfl rfl) h1, aksOf_fits hΓ hm (fun j t' v' ht hv' => hv (j + 1) t' v' (by simpa using ht) (by simpa using hv')) h2⟩
    · cases h
  | [], _, _ :: _, _, _, _, _, h => h.elim
  | [], _, [], _ :: _, _, _, _, h => h.elim
  | _ :: _, _, [], _, _, _, _, h => h.elim
  | _ :: _, _, _ :: _, [], _, _, _, h => h.elim

/-- Behind the call the arguments read as they did. -/
theorem trodAll_below (hl : laidOutB P = true) {W W' : World} (hb : Below W.heap.size W W') : ∀ {ts : List Nat} {vs : List Value} {ds : List (DataW H)} {ps : List MemPlace},
    (∀ t ∈ ts, P.readableRec t = true ∧ t < P.types.size) → DataW.TrodAll enc P W 0 (fun _ => true) true ts vs ds ps →
    DataW.TrodAll enc P W' 0 (fun b => decide (b < W.heap.size)) true ts vs ds ps
  | [], [], [], _, _, h => h
  | t :: ts, v :: vs, d :: ds, ps, ht, h => by
    obtain ⟨p, q, h1, h2, e⟩ := h
    have lt : ∀ x ∈ p, x.block < W.heap.size := by obtain ⟨m, hm⟩ := h1; exact DataW.trod_lt m _ _ _ hm
    exact ⟨p, q, Below.trod hl (ht t List.mem_cons_self).1 (ht t List.mem_cons_self).2 h1 hb lt, trodAll_below hl hb (fun t' h' => ht t' (List.mem_cons_of_mem _ h')) h2, e⟩
  | [], _ :: _, _, _, _, h => h.elim
  | [], [], _ :: _, _, _, h => h.elim
  | _ :: _, [], _, _, _, h => h.elim
  | _ :: _, _ :: _, [], _, _, h => h.elim
end
end Go.Sx
