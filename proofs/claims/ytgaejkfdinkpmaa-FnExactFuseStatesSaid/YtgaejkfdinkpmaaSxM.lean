/-
  Makers of lists; contracts and laws over lists.
-/
import Derived.Test.YtgaejkfdinkpmaaSxL
set_option linter.unusedSimpArgs false
set_option linter.unusedVariables false
namespace Go.Sx
noncomputable section
open Go.RowKit

/-! ### The arguments against a pattern -/
structure US where
  σ : Tr X
  qs : List Nat

def uX (n : Nat) (u : US) (p a : X) : Option US :=
  match p with
  | .lit _ => match p.beq a with
    | true => some u
    | false => none
  | .reg r =>
    match Nat.blt r n with
    | true =>
      match u.σ.get r with
      | some y => match y.beq a with
        | true => some u
        | false => none
      | none => some ⟨u.σ.set fuelT r a, u.qs⟩
    | false => none

def uC (n : Nat) (u : US) : SC → SC → Option US
  | .bool x, .bool y => uX n u x y
  | .int k x, .int k' y => match Nat.beq (kindNo k) (kindNo k') with
    | true => uX n u x y
    | false => none
  | .flt .f32 x, .flt .f32 y => uX n u x y
  | .flt .f64 x, .flt .f64 y => uX n u x y
  | .ls q ks x, .ls q' ks' y =>
    match Nat.beq q u.qs.length && natsBeq ks ks' with
    | true => uX n ⟨u.σ, u.qs ++ [q']⟩ x y
    | false => none
  | .raw (.func (.func f) a b), .raw (.func (.func g) c d) =>
    match Nat.beq f g && ((a.isEmpty && b.isEmpty) && (c.isEmpty && d.isEmpty)) with
    | true => some u
    | false => none
  | _, _ => none

def uCs (n : Nat) : US → List SC → List SC → Option US
  | u, [], [] => some u
  | u, p :: l, a :: m =>
    match uC n u p a with
    | some u1 => uCs n u1 l m
    | none => none
  | _, _, _ => none

def uV (n : Nat) (u : US) : SV → SV → Option US
  | .w (.one p), .w (.one a) => uC n u p a
  | .w (.agg l), .w (.agg m) => uCs n u l m
  | _, _ => none

def uVs (n : Nat) : US → List SV → List SV → Option US
  | u, [], [] => some u
  | u, p :: l, a :: m =>
    match uV n u p a with
    | some u1 => uVs n u1 l m
    | none => none
  | _, _, _ => none

/-- The contract. -/
def smL (S : Sm) (n : Nat) (pat : List SV) : Summ := fun T st args =>
  match uVs n ⟨.nil, []⟩ pat args with
  | some u =>
    match Nat.ble u.qs.length (n + 10), instDs S.ds u.σ T with
    | true, some (T1, σ) =>
      match instVT σ st.fa T1 S.vt with
      | some vt => some (T1, vt)
      | none => none
    | _, _ => none
  | none => none

def runL (Γ : Ctx) (hn : Nat → Option Hint) (mks : Nat → Option (List Nat)) (F : Func) (n : Nat) (pat : List SV) (fa : Tr Bool) (T : Tab) : Option (Tab × Tree) :=
  match F.body with
  | some c => execX Γ hn mks 400 c T ⟨pat.length + (F.ntmps - pat.length), frameOf 0 pat, n + 10, .nil, fa⟩
  | none => none

def smRunL (Γ : Ctx) (hn : Nat → Option Hint) (F : Func) (n : Nat) (pat : List SV) (S : Sm) : Bool :=
  match runL Γ hn (fun _ => none) F n pat .nil ⟨n, .nil, .nil⟩ with
  | some (T, t) =>
    match goodTab n T, dsOK T S.ds, Nat.blt n maxReg with
    | true, true, true =>
      match vtree T (leafRes Γ F) t with
      | some vt => vtBeq vt S.vt
      | none => false
    | _, _, _ => false
  | none => false

section
variable {ρ : Nat → Int}

/-- What is known stays known. -/
def US.le (u v : US) : Prop := (∀ r x, u.σ.get r = some x → v.σ.get r = some x) ∧ ∃ l, v.qs = u.qs ++ l
theorem US.le.refl (u : US) : u.le u := ⟨fun _ _ h => h, [], by simp⟩
theorem US.le.trans {a b c : US} (h : a.le b) (k : b.le c) : a.le c := by
  obtain ⟨h1, l, h2⟩ := h
  obtain ⟨k1, m, k2⟩ := k
  exact ⟨fun r x hr => k1 r x (h1 r x hr), l ++ m, by rw [k2, h2, List.append_assoc]⟩

def US.low (n : Nat) (u : US) : Prop := ∀ r x, u.σ.get r = some x → r < n

theorem uX_spec {n : Nat} (hn : n ≤ maxReg) {u u' : US} {p a : X} (h : uX n u p a = some u') : u.le u' ∧ u'.qs = u.qs ∧ (u.low n → u'.low n) ∧
    ∀ (v : US) (ρ' : Nat → Int), u'.le v → (∀ r x, v.σ.get r = some x → x.ev ρ = ρ' r) → p.ev ρ' = a.ev ρ := by
  unfold uX at h
  split at h
  · split at h
    · rename_i he
      cases h
      refine ⟨.refl _, rfl, fun h => h, fun v ρ' _ _ => ?_⟩
      rw [← X.beq_eq he]; rfl
    · cases h
  · rename_i r
    split at h
    · rename_i hr
      have hr : r < n := Nat.le_of_ble_eq_true hr
      split at h
      · rename_i y hy
        split at h
        · rename_i he
          cases h
          refine ⟨.refl _, rfl, fun h => h, fun v ρ' hle hv => ?_⟩
          rw [← X.beq_eq he]
          exact (hv r y (hle.1 r y hy)).symm
        · cases h
      · rename_i hy
        cases h
        have hb : r + 1 < 2 ^ fuelT := by unfold maxReg at hn; unfold fuelT; omega
        refine ⟨⟨fun s x hs => ?_, [], by simp⟩, rfl, fun hl s x hs => ?_, fun v ρ' hle hv => ?_⟩
        · have : s ≠ r := fun e => by rw [e, hy] at hs; cases hs
          show (u.σ.set fuelT r a).get s = some x
          rw [Tr.get_set_ne _ _ _ _ _ hb this]; exact hs
        · have hs : (u.σ.set fuelT r a).get s = some x := hs
          rcases Tr.get_set_some _ _ _ _ _ _ hs with ⟨rfl, _⟩ | ⟨_, hs⟩
          · exact hr
          · exact hl s x hs
        · exact (hv r a (hle.1 r a (Tr.get_set_same _ _ _ _ hb))).symm
    · cases h

/-- The lists' places, by the pattern's numbers. -/
def muQ (μ : Mu) (qs : List Nat) : Mu := fun i => if LB ≤ i then (match qs[i - LB]? with | some q => μ (LB + q) | none => none) else none

theorem uC_spec {n : Nat} (hn : n ≤ maxReg) {u u' : US} {p a : SC} (h : uC n u p a = some u') : u.le u' ∧ (u.low n → u'.low n) ∧
    ∀ (v : US) (ρ' : Nat → Int) (μ : Mu) (x : Value), u'.le v → (∀ r x, v.σ.get r = some x → x.ev ρ = ρ' r) → a.rel ρ μ x → p.rel ρ' (muQ μ v.qs) x := by
  unfold uC at h
  split at h
  · obtain ⟨h1, _, h3, h4⟩ := uX_spec (ρ := ρ) hn h
    exact ⟨h1, h3, fun v ρ' μ x hle hv hx => by show x = .bool _; rw [h4 v ρ' hle hv]; exact hx⟩
  · split at h
    · rename_i hk
      obtain ⟨h1, _, h3, h4⟩ := uX_spec (ρ := ρ) hn h
      exact ⟨h1, h3, fun v ρ' μ x hle hv hx => by show x = .int _ _; rw [h4 v ρ' hle hv, kindNo_inj hk]; exact hx⟩
    · cases h
  · obtain ⟨h1, _, h3, h4⟩ := uX_spec (ρ := ρ) hn h
    exact ⟨h1, h3, fun v ρ' μ x hle hv hx => let ⟨b, e, hb⟩ := hx; ⟨b, e, by rw [h4 v ρ' hle hv]; exact hb⟩⟩
  · obtain ⟨h1, _, h3, h4⟩ := uX_spec (ρ := ρ) hn h
    exact ⟨h1, h3, fun v ρ' μ x hle hv hx => let ⟨b, e, hb⟩ := hx; ⟨b, e, by rw [h4 v ρ' hle hv]; exact hb⟩⟩
  · rename_i q ks x' q' ks' y
    split at h
    · rename_i hk
      simp only [Bool.and_eq_true] at hk
      obtain ⟨h1, h2, h3, h4⟩ := uX_spec (ρ := ρ) hn h
      have hq := Nat.eq_of_beq_eq_true hk.1
      have hks := natsBeq_eq hk.2
      subst hks
      refine ⟨US.le.trans (b := ⟨u.σ, u.qs ++ [q']⟩) ⟨fun _ _ h => h, [q'], rfl⟩ h1, h3, fun v ρ' μ x hle hv hx => ?_⟩
      obtain ⟨pp, off, els, hp, he, hL, hd⟩ := hx
      refine ⟨pp, off, els, ?_, he, by rw [h4 v ρ' hle hv]; exact hL, hd⟩
      obtain ⟨_, l, hqs⟩ := hle
      rw [h2] at hqs
      unfold muQ
      rw [if_pos (by omega), Nat.add_sub_cancel_left, hqs, hq]
      have : ((u.qs ++ [q']) ++ l)[u.qs.length]? = some q' := by simp
      simp only [this]
      exact hp
    · cases h
  · split at h
    · rename_i hk
      simp only [Bool.and_eq_true] at hk
      obtain ⟨h1, ⟨h2, h3⟩, h4, h5⟩ := hk
      cases h
      refine ⟨.refl _, fun h => h, fun v ρ' μ x _ _ hx => ?_⟩
      rw [Nat.eq_of_beq_eq_true h1, Array.isEmpty_iff.1 h2, Array.isEmpty_iff.1 h3]
      rw [Array.isEmpty_iff.1 h4, Array.isEmpty_iff.1 h5] at hx
      exact hx
    · cases h
  · cases h

theorem uCs_spec {n : Nat} (hn : n ≤ maxReg) : ∀ {l m : List SC} {u u' : US}, uCs n u l m = some u' → u.le u' ∧ (u.low n → u'.low n) ∧
    ∀ (v : US) (ρ' : Nat → Int) (μ : Mu) (xs : List Value), u'.le v → (∀ r x, v.σ.get r = some x → x.ev ρ = ρ' r) → cellsRel ρ μ m xs → cellsRel ρ' (muQ μ v.qs) l xs
  | [], [], u, u', h => by
    cases h
    refine ⟨.refl _, fun h => h, fun v ρ' μ xs _ _ hx => ?_⟩
    cases xs with
    | nil => trivial
    | cons _ _ => exact hx.elim
  | p :: l, a :: m, u, u', h => by
    unfold uCs at h
    split at h
    · rename_i u1 h1
      obtain ⟨a1, a2, a3⟩ := uC_spec (ρ := ρ) hn h1
      obtain ⟨b1, b2, b3⟩ := uCs_spec hn h
      refine ⟨a1.trans b1, fun hl => b2 (a2 hl), fun v ρ' μ xs hle hv hx => ?_⟩
      cases xs with
      | nil => exact hx.elim
      | cons x xs => exact ⟨a3 v ρ' μ x (b1.trans hle) hv hx.1, b3 v ρ' μ xs hle hv hx.2⟩
    · cases h
  | [], _ :: _, _, _, h => by cases h
  | _ :: _, [], _, _, h => by cases h

theorem uV_spec {n : Nat} (hn : n ≤ maxReg) {u u' : US} {p a : SV} (h : uV n u p a = some u') : u.le u' ∧ (u.low n → u'.low n) ∧
    ∀ (v : US) (ρ' : Nat → Int) (μ : Mu) (x : Value), u'.le v → (∀ r x, v.σ.get r = some x → x.ev ρ = ρ' r) → a.rel ρ μ x → p.rel ρ' (muQ μ v.qs) x := by
  unfold uV at h
  split at h
  · exact uC_spec hn h
  · obtain ⟨h1, h2, h3⟩ := uCs_spec (ρ := ρ) hn h
    exact ⟨h1, h2, fun v ρ' μ x hle hv hx => let ⟨cs, e, hc⟩ := hx; ⟨cs, e, h3 v ρ' μ _ hle hv hc⟩⟩
  · cases h

theorem uVs_spec {n : Nat} (hn : n ≤ maxReg) : ∀ {l m : List SV} {u u' : US}, uVs n u l m = some u' → u.le u' ∧ (u.low n → u'.low n) ∧
    ∀ (v : US) (ρ' : Nat → Int) (μ : Mu) (xs : List Value), u'.le v → (∀ r x, v.σ.get r = some x → x.ev ρ = ρ' r) → svsRel ρ μ m xs → svsRel ρ' (muQ μ v.qs) l xs
  | [], [], u, u', h => by
    cases h
    refine ⟨.refl _, fun h => h, fun v ρ' μ xs _ _ hx => ?_⟩
    cases xs with
    | nil => trivial
    | cons _ _ => exact hx.elim
  | p :: l, a :: m, u, u', h => by
    unfold uVs at h
    split at h
    · rename_i u1 h1
      obtain ⟨a1, a2, a3⟩ := uV_spec (ρ := ρ) hn h1
      obtain ⟨b1, b2, b3⟩ := uVs_spec hn h
      refine ⟨a1.trans b1, fun hl => b2 (a2 hl), fun v ρ' μ xs hle hv hx => ?_⟩
      cases xs with
      | nil => exact hx.elim
      | cons x xs => exact ⟨a3 v ρ' μ x (b1.trans hle) hv hx.1, b3 v ρ' μ xs hle hv hx.2⟩
    · cases h
  | [], _ :: _, _, _, h => by cases h
  | _ :: _, [], _, _, h => by cases h

/-- All memory protected; lists lie in it. -/
theorem WR.lists {ρ ρ' : Nat → Int} {w0 : Base} {μ : Mu} {nb : Nat} {bs : Tr Blk} {w : World} (h : WR ρ w0 μ nb bs w) (qs : List Nat) : WR ρ' (Base.all w) (muQ μ qs) qs.length .nil w := by
  refine ⟨⟨rfl, rfl, rfl, Nat.le_refl _, fun _ _ => rfl⟩, (fun _ _ _ _ _ _ h => by cases h), (fun i _ hi => ?_), (fun _ _ _ h => by cases h), (fun _ _ h => by cases h), (fun i p hi hp => ?_), (fun q hq => ?_)⟩
  · unfold muQ; rw [if_neg (by omega)]
  · unfold muQ at hp
    rw [if_pos hi] at hp
    split at hp
    · rename_i q _
      exact ⟨(h.lst (LB + q) p (Nat.le_add_right _ _) hp).1, fun _ _ _ _ h => by cases h⟩
    · cases hp
  · unfold muQ
    rw [if_pos (by omega), Nat.add_sub_cancel_left, List.getElem?_eq_none (by omega)]

theorem WR.more {ρ : Nat → Int} {w0 : Base} {μ : Mu} {nb nb' : Nat} {bs : Tr Blk} {w : World} (h : WR ρ w0 μ nb bs w) (hle : nb ≤ nb') : WR ρ w0 μ nb' bs w :=
  ⟨h.kept, h.inj, fun i hi hi2 => h.top i (Nat.le_trans hle hi) hi2, h.lo, h.blk, h.lst, fun q hq => h.ltop q (Nat.le_trans hle hq)⟩
end

/-- A RUN OVER SYMBOLIC ARGUMENTS IS A CONTRACT. -/
theorem smL_ok {P : Program} {Γ : Ctx} (hΓ : Γ.ok P) (hsum : ∀ f s, Γ.summ f = some s → SummOK P f s) {hn : Nat → Option Hint} {f : Nat} {F : Func} (hF : P.funcs[f]? = some F) (hname : (F.name == "runtime.NumGoroutine") = false)
    {n : Nat} {pat : List SV} {S : Sm} (hrun : smRunL Γ hn F n pat S = true) : SummOK P f (smL S n pat) := by
  intro T st args T1 vt h ρ hs
  unfold smL at h
  split at h
  case h_2 => cases h
  rename_i u hu
  split at h
  case h_2 => cases h
  rename_i T2 σ hqn hinst
  split at h
  case h_2 => cases h
  rename_i vt' hvt'
  cases h
  unfold smRunL at hrun
  split at hrun
  case h_2 => cases hrun
  rename_i T0 t0 hr
  split at hrun
  case h_2 => cases hrun
  rename_i hg hds hlow
  split at hrun
  case h_2 => cases hrun
  rename_i vt0 hvt
  have hvte := vtBeq_eq hrun
  subst hvte
  have hlow : n ≤ maxReg := Nat.le_of_lt (Nat.le_of_ble_eq_true hlow)
  unfold runL at hr
  split at hr
  case h_2 => cases hr
  rename_i c hb
  obtain ⟨_, hul, husp⟩ := uVs_spec (ρ := ρ) hlow hu
  have hul := hul (fun r x h => by cases h)
  obtain ⟨ρ', hin, hs'⟩ := exists_rho hg (fun r => ((u.σ.get r).map (X.ev ρ)).getD 0)
  have hat : ∀ r x, u.σ.get r = some x → x.ev ρ = ρ' r := fun r x hr => by
    rw [hin r (hul r x hr), hr]; rfl
  obtain ⟨s0, hst⟩ := instDs_spec hs' S.ds _ _ _ _ (dsOK_spec hds) hinst hs
  have hstands := hst hat
  refine ⟨s0, fun w0 μ nb bs vs w hf _ hwr hvs => ?_⟩
  have hrel := husp u ρ' μ _ (.refl _) hat hvs
  obtain ⟨_, hwp⟩ := execX_sound hΓ hsum (fun _ _ h => by cases h) 400 ρ' _ _ _ _ _ hr hs'
  have hfr := frame_enter hrel F.ntmps
  have hqn := Nat.le_of_ble_eq_true hqn
  have hlen : args.length = pat.length ∧ vs.toList.length = pat.length := by
    have h1 := svsRel_length hvs
    have h2 := svsRel_length hrel
    omega
  refine callOK_of hΓ hF hname hb (calls_of_wp hF hb (hwp (Base.all w) (muQ μ u.qs) _ w _ ⟨rfl, hfr, (hwr.lists u.qs).more hqn, (fun r b h => by cases h)⟩ ?_))
  refine vtree_spec hvt _ fun e s v hv hpick => ?_
  intro μ' a' w' hp hw'
  obtain ⟨he, hv', hvn⟩ := leafRes_spec hv
  obtain ⟨x, hx, hxr⟩ := resultsS_sound hΓ hv' hw'
  have hxr' := settle_rel hs' hw'.fa (SV.rel_num (μ' := μ) hvn hxr)
  rw [← hpick] at hxr'
  have fin : bodyPost P F (fun e w2 => ∃ v, e = .returned v ∧ (vt.pick ρ).rel ρ μ v ∧ WR ρ w0 μ nb bs w2) .ret a' w' :=
    ⟨hw'.defers, x, hx, x, rfl, instVT_rel hstands hs hf hvt' hxr', hwr.after hw'.wr.kept.below⟩
  rcases he with rfl | rfl <;> exact fin
end
end Go.Sx

namespace Go.Sx
noncomputable section
open Go.RowKit

def tabL (S : Sm) : Tab := ⟨maxReg, Tr.ofList fuelT S.ds, .nil⟩

/-- Another contract, that says the same. -/
theorem smL_via {P : Program} {Γ : Ctx} (hΓ : Γ.ok P) (hsum : ∀ f s, Γ.summ f = some s → SummOK P f s) {hn : Nat → Option Hint} {f : Nat} {F : Func} (hF : P.funcs[f]? = some F) (hname : (F.name == "runtime.NumGoroutine") = false)
    {n : Nat} {pat : List SV} {S S2 : Sm} (hrun : smRunL Γ hn F n pat S = true) (hg2 : goodTab n (tabL S2) = true) (hd2 : dsOK (tabL S2) S2.ds = true)
    (hEq : ∀ (ρ1 ρ2 : Nat → Int) (μ : Mu) (x : Value), (∀ r, r < n → ρ1 r = ρ2 r) → (∀ r d, (r, d) ∈ S.ds → ρ1 r = d.ev ρ1) → (∀ r d, (r, d) ∈ S2.ds → ρ2 r = d.ev ρ2) → (S.vt.pick ρ1).rel ρ1 μ x → (S2.vt.pick ρ2).rel ρ2 μ x) :
    SummOK P f (smL S2 n pat) := by
  intro T st args T1 vt h ρ hs
  unfold smL at h
  split at h
  case h_2 => cases h
  rename_i u hu
  split at h
  case h_2 => cases h
  rename_i T2 σ hqn hinst
  split at h
  case h_2 => cases h
  rename_i vt' hvt'
  cases h
  unfold smRunL at hrun
  split at hrun
  case h_2 => cases hrun
  rename_i T0 t0 hr
  split at hrun
  case h_2 => cases hrun
  rename_i hg hds hlow
  split at hrun
  case h_2 => cases hrun
  rename_i vt0 hvt
  have hvte := vtBeq_eq hrun
  subst hvte
  have hlow : n ≤ maxReg := Nat.le_of_lt (Nat.le_of_ble_eq_true hlow)
  unfold runL at hr
  split at hr
  case h_2 => cases hr
  rename_i c hb
  obtain ⟨_, hul, husp⟩ := uVs_spec (ρ := ρ) hlow hu
  have hul := hul (fun r x h => by cases h)
  obtain ⟨ρ', hin, hs'⟩ := exists_rho hg (fun r => ((u.σ.get r).map (X.ev ρ)).getD 0)
  obtain ⟨ρ2, hin2, hs2⟩ := exists_rho hg2 (fun r => ((u.σ.get r).map (X.ev ρ)).getD 0)
  have hat : ∀ r x, u.σ.get r = some x → x.ev ρ = ρ' r := fun r x hr => by
    rw [hin r (hul r x hr), hr]; rfl
  have hat2 : ∀ r x, u.σ.get r = some x → x.ev ρ = ρ2 r := fun r x hr => by
    rw [hin2 r (hul r x hr), hr]; rfl
  obtain ⟨s0, hst⟩ := instDs_spec hs2 S2.ds _ _ _ _ (dsOK_spec hd2) hinst hs
  have hstands := hst hat2
  refine ⟨s0, fun w0 μ nb bs vs w hf _ hwr hvs => ?_⟩
  have hrel := husp u ρ' μ _ (.refl _) hat hvs
  obtain ⟨_, hwp⟩ := execX_sound hΓ hsum (fun _ _ h => by cases h) 400 ρ' _ _ _ _ _ hr hs'
  have hfr := frame_enter hrel F.ntmps
  have hqn := Nat.le_of_ble_eq_true hqn
  refine callOK_of hΓ hF hname hb (calls_of_wp hF hb (hwp (Base.all w) (muQ μ u.qs) _ w _ ⟨rfl, hfr, (hwr.lists u.qs).more hqn, (fun r b h => by cases h)⟩ ?_))
  refine vtree_spec hvt _ fun e s v hv hpick => ?_
  intro μ' a' w' hp hw'
  obtain ⟨he, hv', hvn⟩ := leafRes_spec hv
  obtain ⟨x, hx, hxr⟩ := resultsS_sound hΓ hv' hw'
  have hxr' := settle_rel hs' hw'.fa (SV.rel_num (μ' := μ) hvn hxr)
  rw [← hpick] at hxr'
  have hx2 := hEq ρ' ρ2 μ x (fun r hr => by rw [hin r hr, hin2 r hr]) (fun r d hd => hs' r d (dsOK_spec hds r d hd)) (fun r d hd => hs2 r d (dsOK_spec hd2 r d hd)) hxr'
  have fin : bodyPost P F (fun e w2 => ∃ v, e = .returned v ∧ (vt.pick ρ).rel ρ μ v ∧ WR ρ w0 μ nb bs w2) .ret a' w' :=
    ⟨hw'.defers, x, hx, x, rfl, instVT_rel hstands hs hf hvt' hx2, hwr.after hw'.wr.kept.below⟩
  rcases he with rfl | rfl <;> exact fin

/-- A loop that counts as long as a condition holds: it stops below the bound just where a number fails. -/
theorem fin_count {step : List Int → Option (List Int)} {n lo : Int} {C : Int → Prop} (hgo : ∀ i, lo ≤ i → i < n → C i → step [i] = some [i + 1]) (hstop : ∀ i, lo ≤ i → ¬ (i < n ∧ C i) → step [i] = none) :
    ∀ (m : Nat) (i : Int), lo ≤ i → (n - i).toNat < m → ∃ j, fin step [i] = [j] ∧ i ≤ j ∧ (∀ k, i ≤ k → k < j → k < n ∧ C k) ∧ ¬ (j < n ∧ C j) ∧ (∃ q, itn step q [i] = some [j] ∧ step [j] = none)
  | 0, i, _, h => by omega
  | m + 1, i, hlo, h => by
    by_cases hc : i < n ∧ C i
    · obtain ⟨j, h1, h2, h3, h4, q, h5, h6⟩ := fin_count hgo hstop m (i + 1) (by omega) (by omega)
      have hs := hgo i hlo hc.1 hc.2
      refine ⟨j, by rw [fin_next hs ⟨[j], q, h5, h6⟩]; exact h1, by omega, fun k hk1 hk2 => ?_, h4, q + 1, by unfold itn; rw [hs]; exact h5, h6⟩
      by_cases e : k = i
      · subst e; exact hc
      · exact h3 k (by omega) hk2
    · have hs := hstop i hlo hc
      exact ⟨i, fin_stop hs, Int.le_refl _, fun k h1 h2 => by omega, hc, 0, rfl, hs⟩

/-- It stops below the bound just where a number fails. -/
theorem fin_below {step : List Int → Option (List Int)} {n lo : Int} {C : Int → Prop} (hgo : ∀ i, lo ≤ i → i < n → C i → step [i] = some [i + 1]) (hstop : ∀ i, lo ≤ i → ¬ (i < n ∧ C i) → step [i] = none) :
    (fin step [lo]).getD 0 0 < n ↔ ∃ k, lo ≤ k ∧ k < n ∧ ¬ C k := by
  obtain ⟨j, h1, h2, h3, h4, _⟩ := fin_count hgo hstop _ lo (Int.le_refl _) (Nat.lt_succ_self _)
  rw [h1]
  show j < n ↔ _
  constructor
  · intro hj
    exact ⟨j, h2, hj, fun hc => h4 ⟨hj, hc⟩⟩
  · rintro ⟨k, k1, k2, k3⟩
    by_cases hj : j < n
    · exact hj
    · exact absurd (h3 k k1 (by omega)).2 k3
end
end Go.Sx
