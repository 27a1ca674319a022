/-
  Makers of lists; contracts and laws over lists.
-/
import Derived.Test.YtgaejkfdinkpmaaSxK
set_option linter.unusedSimpArgs false
set_option linter.unusedVariables false
namespace Go.Sx
noncomputable section
open Go.RowKit

/-! ### The arguments against a pattern -/
/-- Where a list lies: as a list of its own; all over a block; nowhere (it has no elements). -/
inductive Pl where
  | ls (q : Nat)
  | gl (i : Nat) (ks : List Nat) (x : X)
  | no (ks : List Nat)

structure US where
  σ : Tr X
  qs : List Pl

def plsOK (bs : Tr Blk) : List Pl → Bool
  | [] => true
  | .gl i ks x :: l =>
    (match bs.get i with
      | some B => cellsBeq B.cells [.many ks x]
      | none => false) && plsOK bs l
  | _ :: l => plsOK bs l

def uX (n : Nat) (u : US) (p a : X) : Option US :=
  match p with
  | .lit _ => match p.beq a with
    | true => some u
    | false => none
  | .reg r =>
    match Nat.blt r n with
    | true =>
      match u.σ.get r with
      | some y => match y.beq a with
        | true => some u
        | false => none
      | none => some ⟨u.σ.set fuelT r a, u.qs⟩
    | false => none

def uC (n : Nat) (u : US) : SC → SC → Option US
  | .bool x, .bool y => uX n u x y
  | .int k x, .int k' y => match Nat.beq (kindNo k) (kindNo k') with
    | true => uX n u x y
    | false => none
  | .flt .f32 x, .flt .f32 y => uX n u x y
  | .flt .f64 x, .flt .f64 y => uX n u x y
  | .ls q ks x, .ls q' ks' y =>
    match Nat.beq q u.qs.length && natsBeq ks ks' with
    | true => uX n ⟨u.σ, u.qs ++ [.ls q']⟩ x y
    | false => none
  | .ls q ks x, .gl i ks' y =>
    match Nat.beq q u.qs.length && natsBeq ks ks' with
    | true => uX n ⟨u.σ, u.qs ++ [.gl i ks' y]⟩ x y
    | false => none
  | .ls q ks x, .raw (.slice _ 0 _) =>
    match Nat.beq q u.qs.length with
    | true => uX n ⟨u.σ, u.qs ++ [.no ks]⟩ x (.lit 0)
    | false => none
  | .raw (.func (.func f) a b), .raw (.func (.func g) c d) =>
    match Nat.beq f g && ((a.isEmpty && b.isEmpty) && (c.isEmpty && d.isEmpty)) with
    | true => some u
    | false => none
  | _, _ => none

def uCs (n : Nat) : US → List SC → List SC → Option US
  | u, [], [] => some u
  | u, p :: l, a :: m =>
    match uC n u p a with
    | some u1 => uCs n u1 l m
    | none => none
  | _, _, _ => none

def uV (n : Nat) (u : US) : SV → SV → Option US
  | .w (.one p), .w (.one a) => uC n u p a
  | .w (.agg l), .w (.agg m) => uCs n u l m
  | _, _ => none

def uVs (n : Nat) : US → List SV → List SV → Option US
  | u, [], [] => some u
  | u, p :: l, a :: m =>
    match uV n u p a with
    | some u1 => uVs n u1 l m
    | none => none
  | _, _, _ => none

/-- The contract. -/
def smL (S : Sm) (n : Nat) (pat : List SV) : Summ := fun T st args =>
  match uVs n ⟨.nil, []⟩ pat args with
  | some u =>
    match Nat.ble u.qs.length (n + 10) && plsOK st.bs u.qs, instDs S.ds u.σ T with
    | true, some (T1, σ) =>
      match instVT σ st.fa T1 S.vt with
      | some vt => some (T1, vt)
      | none => none
    | _, _ => none
  | none => none

def runL (Γ : Ctx) (hn : Nat → Option Hint) (mks : Nat → Option MK) (F : Func) (n : Nat) (pat : List SV) (fa : Tr Bool) (T : Tab) : Option (Tab × Tree) :=
  match F.body with
  | some c => execX Γ hn mks 400 c T ⟨pat.length + (F.ntmps - pat.length), frameOf 0 pat, n + 10, .nil, fa⟩
  | none => none

def smRunL (Γ : Ctx) (hn : Nat → Option Hint) (F : Func) (n : Nat) (pat : List SV) (S : Sm) : Bool :=
  match runL Γ hn (fun _ => none) F n pat .nil ⟨n, .nil, .nil⟩ with
  | some (T, t) =>
    match goodTab n T, dsOK T S.ds, Nat.blt n maxReg with
    | true, true, true =>
      match vtree T (leafRes Γ F) t with
      | some vt => vtBeq vt S.vt
      | none => false
    | _, _, _ => false
  | none => false

section
variable {ρ : Nat → Int}

/-- What is known stays known. -/
def US.le (u v : US) : Prop := (∀ r x, u.σ.get r = some x → v.σ.get r = some x) ∧ ∃ l, v.qs = u.qs ++ l
theorem US.le.refl (u : US) : u.le u := ⟨fun _ _ h => h, [], by simp⟩
theorem US.le.trans {a b c : US} (h : a.le b) (k : b.le c) : a.le c := by
  obtain ⟨h1, l, h2⟩ := h
  obtain ⟨k1, m, k2⟩ := k
  exact ⟨fun r x hr => k1 r x (h1 r x hr), l ++ m, by rw [k2, h2, List.append_assoc]⟩

def US.low (n : Nat) (u : US) : Prop := ∀ r x, u.σ.get r = some x → r < n

theorem uX_spec {n : Nat} (hn : n ≤ maxReg) {u u' : US} {p a : X} (h : uX n u p a = some u') : u.le u' ∧ u'.qs = u.qs ∧ (u.low n → u'.low n) ∧
    ∀ (v : US) (ρ' : Nat → Int), u'.le v → (∀ r x, v.σ.get r = some x → x.ev ρ = ρ' r) → p.ev ρ' = a.ev ρ := by
  unfold uX at h
  split at h
  · split at h
    · rename_i he
      cases h
      refine ⟨.refl _, rfl, fun h => h, fun v ρ' _ _ => ?_⟩
      rw [← X.beq_eq he]; rfl
    · cases h
  · rename_i r
    split at h
    · rename_i hr
      have hr : r < n := Nat.le_of_ble_eq_true hr
      split at h
      · rename_i y hy
        split at h
        · rename_i he
          cases h
          refine ⟨.refl _, rfl, fun h => h, fun v ρ' hle hv => ?_⟩
          rw [← X.beq_eq he]
          exact (hv r y (hle.1 r y hy)).symm
        · cases h
      · rename_i hy
        cases h
        have hb : r + 1 < 2 ^ fuelT := by unfold maxReg at hn; unfold fuelT; omega
        refine ⟨⟨fun s x hs => ?_, [], by simp⟩, rfl, fun hl s x hs => ?_, fun v ρ' hle hv => ?_⟩
        · have : s ≠ r := fun e => by rw [e, hy] at hs; cases hs
          show (u.σ.set fuelT r a).get s = some x
          rw [Tr.get_set_ne _ _ _ _ _ hb this]; exact hs
        · have hs : (u.σ.set fuelT r a).get s = some x := hs
          rcases Tr.get_set_some _ _ _ _ _ _ hs with ⟨rfl, _⟩ | ⟨_, hs⟩
          · exact hr
          · exact hl s x hs
        · exact (hv r a (hle.1 r a (Tr.get_set_same _ _ _ _ hb))).symm
    · cases h

/-- The lists' places, by the pattern's numbers. -/
def muQ (ρ : Nat → Int) (μ : Mu) (qs : List Pl) : Mu := fun i => if LB ≤ i then (match qs[i - LB]? with
  | some (.ls q) => μ (LB + q)
  | some (.gl j ks x) => (μ j).map fun b => (b.1, encP 0 ks (decE (x.ev ρ)))
  | some (.no ks) => some (0, encP 0 ks [])
  | none => none) else none

theorem uC_spec {n : Nat} (hn : n ≤ maxReg) {u u' : US} {p a : SC} (h : uC n u p a = some u') : u.le u' ∧ (u.low n → u'.low n) ∧
    ∀ (v : US) (ρ' : Nat → Int) (μ : Mu) (x : Value), u'.le v → (∀ r x, v.σ.get r = some x → x.ev ρ = ρ' r) → a.rel ρ μ x → p.rel ρ' (muQ ρ μ v.qs) x := by
  unfold uC at h
  split at h
  · obtain ⟨h1, _, h3, h4⟩ := uX_spec (ρ := ρ) hn h
    exact ⟨h1, h3, fun v ρ' μ x hle hv hx => by show x = .bool _; rw [h4 v ρ' hle hv]; exact hx⟩
  · split at h
    · rename_i hk
      obtain ⟨h1, _, h3, h4⟩ := uX_spec (ρ := ρ) hn h
      exact ⟨h1, h3, fun v ρ' μ x hle hv hx => by show x = .int _ _; rw [h4 v ρ' hle hv, kindNo_inj hk]; exact hx⟩
    · cases h
  · obtain ⟨h1, _, h3, h4⟩ := uX_spec (ρ := ρ) hn h
    exact ⟨h1, h3, fun v ρ' μ x hle hv hx => let ⟨b, e, hb⟩ := hx; ⟨b, e, by rw [h4 v ρ' hle hv]; exact hb⟩⟩
  · obtain ⟨h1, _, h3, h4⟩ := uX_spec (ρ := ρ) hn h
    exact ⟨h1, h3, fun v ρ' μ x hle hv hx => let ⟨b, e, hb⟩ := hx; ⟨b, e, by rw [h4 v ρ' hle hv]; exact hb⟩⟩
  · rename_i q ks x' q' ks' y
    split at h
    · rename_i hk
      simp only [Bool.and_eq_true] at hk
      obtain ⟨h1, h2, h3, h4⟩ := uX_spec (ρ := ρ) hn h
      have hq := Nat.eq_of_beq_eq_true hk.1
      have hks := natsBeq_eq hk.2
      subst hks
      refine ⟨US.le.trans (b := ⟨u.σ, u.qs ++ [.ls q']⟩) ⟨fun _ _ h => h, [.ls q'], rfl⟩ h1, h3, fun v ρ' μ x hle hv hx => ?_⟩
      obtain ⟨pp, off, els, hp, he, hL, hd⟩ := hx
      refine ⟨pp, off, els, ?_, he, by rw [h4 v ρ' hle hv]; exact hL, hd⟩
      obtain ⟨_, l, hqs⟩ := hle
      rw [h2] at hqs
      unfold muQ
      rw [if_pos (by omega), Nat.add_sub_cancel_left, hqs, hq]
      have : ((u.qs ++ [.ls q']) ++ l)[u.qs.length]? = some (.ls q') := by simp
      simp only [this]
      exact hp
    · cases h
  · rename_i q ks x' i ks' y
    split at h
    · rename_i hk
      simp only [Bool.and_eq_true] at hk
      obtain ⟨h1, h2, h3, h4⟩ := uX_spec (ρ := ρ) hn h
      have hq := Nat.eq_of_beq_eq_true hk.1
      have hks := natsBeq_eq hk.2
      subst hks
      refine ⟨US.le.trans (b := ⟨u.σ, u.qs ++ [.gl i ks y]⟩) ⟨fun _ _ h => h, [.gl i ks y], rfl⟩ h1, h3, fun v ρ' μ x hle hv hx => ?_⟩
      obtain ⟨b, els, hb, hL, rfl, hc1, hc2⟩ := hx
      refine ⟨(b.1, encP 0 ks els), 0, els, ?_, rfl, by rw [h4 v ρ' hle hv]; exact hL, .inr ⟨_, rfl, hc1, hc2.1⟩⟩
      obtain ⟨_, l, hqs⟩ := hle
      rw [h2] at hqs
      unfold muQ
      rw [if_pos (by omega), Nat.add_sub_cancel_left, hqs, hq]
      have : ((u.qs ++ [.gl i ks y]) ++ l)[u.qs.length]? = some (.gl i ks y) := by simp
      simp only [this, hb, hL, decE_enc, Option.map_some]
    · cases h
  · rename_i q ks x' ad c
    split at h
    · rename_i hk
      obtain ⟨h1, h2, h3, h4⟩ := uX_spec (ρ := ρ) hn h
      have hq := Nat.eq_of_beq_eq_true hk
      refine ⟨US.le.trans (b := ⟨u.σ, u.qs ++ [.no ks]⟩) ⟨fun _ _ h => h, [.no ks], rfl⟩ h1, h3, fun v ρ' μ x hle hv hx => ?_⟩
      have hx : x = .slice ad 0 c := hx.1
      refine ⟨(0, encP 0 ks []), 0, [], ?_, rfl, by rw [h4 v ρ' hle hv]; rfl, .inl ⟨rfl, ad, c, hx⟩⟩
      obtain ⟨_, l, hqs⟩ := hle
      rw [h2] at hqs
      unfold muQ
      rw [if_pos (by omega), Nat.add_sub_cancel_left, hqs, hq]
      have : ((u.qs ++ [.no ks]) ++ l)[u.qs.length]? = some (.no ks) := by simp
      simp only [this]
    · cases h
  · split at h
    · rename_i hk
      simp only [Bool.and_eq_true] at hk
      obtain ⟨h1, ⟨h2, h3⟩, h4, h5⟩ := hk
      cases h
      refine ⟨.refl _, fun h => h, fun v ρ' μ x _ _ hx => ?_⟩
      rw [Nat.eq_of_beq_eq_true h1, Array.isEmpty_iff.1 h2, Array.isEmpty_iff.1 h3]
      rw [Array.isEmpty_iff.1 h4, Array.isEmpty_iff.1 h5] at hx
      exact hx
    · cases h
  · cases h

theorem uCs_spec {n : Nat} (hn : n ≤ maxReg) : ∀ {l m : List SC} {u u' : US}, uCs n u l m = some u' → u.le u' ∧ (u.low n → u'.low n) ∧
    ∀ (v : US) (ρ' : Nat → Int) (μ : Mu) (xs : List Value), u'.le v → (∀ r x, v.σ.get r = some x → x.ev ρ = ρ' r) → cellsRel ρ μ m xs → cellsRel ρ' (muQ ρ μ v.qs) l xs
  | [], [], u, u', h => by
    cases h
    refine ⟨.refl _, fun h => h, fun v ρ' μ xs _ _ hx => ?_⟩
    cases xs with
    | nil => trivial
    | cons _ _ => exact hx.elim
  | p :: l, a :: m, u, u', h => by
    unfold uCs at h
    split at h
    · rename_i u1 h1
      obtain ⟨a1, a2, a3⟩ := uC_spec (ρ := ρ) hn h1
      obtain ⟨b1, b2, b3⟩ := uCs_spec hn h
      refine ⟨a1.trans b1, fun hl => b2 (a2 hl), fun v ρ' μ xs hle hv hx => ?_⟩
      cases xs with
      | nil => exact hx.elim
      | cons x xs => exact ⟨a3 v ρ' μ x (b1.trans hle) hv hx.1, b3 v ρ' μ xs hle hv hx.2⟩
    · cases h
  | [], _ :: _, _, _, h => by cases h
  | _ :: _, [], _, _, h => by cases h

theorem uV_spec {n : Nat} (hn : n ≤ maxReg) {u u' : US} {p a : SV} (h : uV n u p a = some u') : u.le u' ∧ (u.low n → u'.low n) ∧
    ∀ (v : US) (ρ' : Nat → Int) (μ : Mu) (x : Value), u'.le v → (∀ r x, v.σ.get r = some x → x.ev ρ = ρ' r) → a.rel ρ μ x → p.rel ρ' (muQ ρ μ v.qs) x := by
  unfold uV at h
  split at h
  · exact uC_spec hn h
  · obtain ⟨h1, h2, h3⟩ := uCs_spec (ρ := ρ) hn h
    exact ⟨h1, h2, fun v ρ' μ x hle hv hx => let ⟨cs, e, hc⟩ := hx; ⟨cs, e, h3 v ρ' μ _ hle hv hc⟩⟩
  · cases h

theorem uVs_spec {n : Nat} (hn : n ≤ maxReg) : ∀ {l m : List SV} {u u' : US}, uVs n u l m = some u' → u.le u' ∧ (u.low n → u'.low n) ∧
    ∀ (v : US) (ρ' : Nat → Int) (μ : Mu) (xs : List Value), u'.le v → (∀ r x, v.σ.get r = some x → x.ev ρ = ρ' r) → svsRel ρ μ m xs → svsRel ρ' (muQ ρ μ v.qs) l xs
  | [], [], u, u', h => by
    cases h
    refine ⟨.refl _, fun h => h, fun v ρ' μ xs _ _ hx => ?_⟩
    cases xs with
    | nil => trivial
    | cons _ _ => exact hx.elim
  | p :: l, a :: m, u, u', h => by
    unfold uVs at h
    split at h
    · rename_i u1 h1
      obtain ⟨a1, a2, a3⟩ := uV_spec (ρ := ρ) hn h1
      obtain ⟨b1, b2, b3⟩ := uVs_spec hn h
      refine ⟨a1.trans b1, fun hl => b2 (a2 hl), fun v ρ' μ xs hle hv hx => ?_⟩
      cases xs with
      | nil => exact hx.elim
      | cons x xs => exact ⟨a3 v ρ' μ x (b1.trans hle) hv hx.1, b3 v ρ' μ xs hle hv hx.2⟩
    · cases h
  | [], _ :: _, _, _, h => by cases h
  | _ :: _, [], _, _, h => by cases h

theorem plsOK_spec {bs : Tr Blk} : ∀ {qs : List Pl}, plsOK bs qs = true → ∀ i ks x, Pl.gl i ks x ∈ qs → ∃ B, bs.get i = some B ∧ B.cells = [.many ks x]
  | [], _, _, _, _, h => by cases h
  | .ls q :: l, h, i, ks, x, hm => by
    cases hm with
    | tail _ hm => exact plsOK_spec (show plsOK bs l = true from h) i ks x hm
  | .no q :: l, h, i, ks, x, hm => by
    cases hm with
    | tail _ hm => exact plsOK_spec (show plsOK bs l = true from h) i ks x hm
  | .gl j ks' y :: l, h, i, ks, x, hm => by
    unfold plsOK at h
    simp only [Bool.and_eq_true] at h
    cases hm with
    | head =>
      have h := h.1
      split at h
      · rename_i B hB
        exact ⟨B, hB, cellsBeq_eq h⟩
      · cases h
    | tail _ hm => exact plsOK_spec h.2 i ks x hm

theorem plsOK_mono {bs bs' : Tr Blk} (hb : ∀ i B, bs.get i = some B → bs'.get i = some B) : ∀ {qs : List Pl}, plsOK bs qs = true → plsOK bs' qs = true
  | [], _ => rfl
  | .ls q :: l, h => plsOK_mono hb (qs := l) h
  | .no q :: l, h => plsOK_mono hb (qs := l) h
  | .gl j ks' y :: l, h => by
    unfold plsOK at h ⊢
    simp only [Bool.and_eq_true] at h ⊢
    refine ⟨?_, plsOK_mono hb h.2⟩
    have h := h.1
    split at h
    · rename_i B hB; rw [hb j B hB]; exact h
    · cases h

/-- All memory protected; lists lie in it. -/
theorem WR.lists {ρ ρ' : Nat → Int} {w0 : Base} {μ : Mu} {nb : Nat} {bs : Tr Blk} {w : World} (h : WR ρ w0 μ nb bs w) {qs : List Pl} (hq : plsOK bs qs = true) : WR ρ' (Base.all w) (muQ ρ μ qs) qs.length .nil w := by
  refine ⟨⟨rfl, rfl, rfl, Nat.le_refl _, fun _ _ => rfl⟩, (fun _ _ _ _ _ _ h => by cases h), (fun i _ hi => ?_), (fun _ _ _ h => by cases h), (fun _ _ h => by cases h), (fun i p hi hp => ?_), (fun q hq => ?_)⟩
  · unfold muQ; rw [if_neg (by omega)]
  · refine ⟨?_, fun _ _ _ _ h => by cases h⟩
    unfold muQ at hp
    rw [if_pos hi] at hp
    split at hp
    · rename_i q _
      exact (h.lst (LB + q) p (Nat.le_add_right _ _) hp).1
    · rename_i j ks x hj
      obtain ⟨B, hB, hc⟩ := plsOK_spec hq j ks x (List.mem_of_getElem? hj)
      obtain ⟨r, cs, hr, hh, _, hbeg⟩ := h.blk j B hB
      rw [hr] at hp
      simp only [Option.map_some] at hp
      cases hp
      rw [hc] at hbeg
      rcases hbeg with ⟨vs, rest, _, hrel⟩ | ⟨ks', L, els, e1, e2, e3⟩
      · cases vs with
        | nil => exact hrel.elim
        | cons v vs => exact hrel.1.elim
      · simp only [List.cons.injEq, SC.many.injEq, and_true] at e1
        obtain ⟨rfl, rfl⟩ := e1
        refine ⟨0, ks, els, by rw [e2, decE_enc], fun _ => ⟨cs, _, _, hh, fun i c hi hc => ?_⟩⟩
        rw [Nat.zero_add]
        exact e3 i c hi hc
    · rename_i ks _
      cases hp
      exact ⟨0, ks, [], rfl, fun h => absurd rfl h⟩
    · cases hp
  · unfold muQ
    rw [if_pos (by omega), Nat.add_sub_cancel_left, List.getElem?_eq_none (by omega)]

theorem WR.more {ρ : Nat → Int} {w0 : Base} {μ : Mu} {nb nb' : Nat} {bs : Tr Blk} {w : World} (h : WR ρ w0 μ nb bs w) (hle : nb ≤ nb') : WR ρ w0 μ nb' bs w :=
  ⟨h.kept, h.inj, fun i hi hi2 => h.top i (Nat.le_trans hle hi) hi2, h.lo, h.blk, h.lst, fun q hq => h.ltop q (Nat.le_trans hle hq)⟩
end

/-- A RUN OVER SYMBOLIC ARGUMENTS IS A CONTRACT. -/
theorem smL_ok {P : Program} {Γ : Ctx} (hΓ : Γ.ok P) (hsum : ∀ f s, Γ.summ f = some s → SummOK P f s) {hn : Nat → Option Hint} {f : Nat} {F : Func} (hF : P.funcs[f]? = some F) (hname : (F.name == "runtime.NumGoroutine") = false)
    {n : Nat} {pat : List SV} {S : Sm} (hrun : smRunL Γ hn F n pat S = true) : SummOK P f (smL S n pat) := by
  intro T st args T1 vt h ρ hs
  unfold smL at h
  split at h
  case h_2 => cases h
  rename_i u hu
  split at h
  case h_2 => cases h
  rename_i T2 σ hqn hinst
  split at h
  case h_2 => cases h
  rename_i vt' hvt'
  cases h
  unfold smRunL at hrun
  split at hrun
  case h_2 => cases hrun
  rename_i T0 t0 hr
  split at hrun
  case h_2 => cases hrun
  rename_i hg hds hlow
  split at hrun
  case h_2 => cases hrun
  rename_i vt0 hvt
  have hvte := vtBeq_eq hrun
  subst hvte
  have hlow : n ≤ maxReg := Nat.le_of_lt (Nat.le_of_ble_eq_true hlow)
  unfold runL at hr
  split at hr
  case h_2 => cases hr
  rename_i c hb
  obtain ⟨_, hul, husp⟩ := uVs_spec (ρ := ρ) hlow hu
  have hul := hul (fun r x h => by cases h)
  obtain ⟨ρ', hin, hs'⟩ := exists_rho hg (fun r => ((u.σ.get r).map (X.ev ρ)).getD 0)
  have hat : ∀ r x, u.σ.get r = some x → x.ev ρ = ρ' r := fun r x hr => by
    rw [hin r (hul r x hr), hr]; rfl
  obtain ⟨s0, hst⟩ := instDs_spec hs' S.ds _ _ _ _ (dsOK_spec hds) hinst hs
  have hstands := hst hat
  simp only [Bool.and_eq_true] at hqn
  refine ⟨s0, fun w0 μ nb bs vs w hf hbs hwr hvs => ?_⟩
  have hrel := husp u ρ' μ _ (.refl _) hat hvs
  obtain ⟨_, hwp⟩ := execX_sound hΓ hsum (fun _ _ h => by cases h) 400 ρ' _ _ _ _ _ hr hs'
  have hfr := frame_enter hrel F.ntmps
  have hpl := plsOK_mono hbs hqn.2
  have hqn := Nat.le_of_ble_eq_true hqn.1
  have hlen : args.length = pat.length ∧ vs.toList.length = pat.length := by
    have h1 := svsRel_length hvs
    have h2 := svsRel_length hrel
    omega
  refine callOK_of hΓ hF hname hb (calls_of_wp hF hb (hwp (Base.all w) (muQ ρ μ u.qs) _ w _ ⟨rfl, hfr, (hwr.lists hpl).more hqn, (fun r b h => by cases h)⟩ ?_))
  refine vtree_spec hvt _ fun e s v hv hpick => ?_
  intro μ' a' w' hp hw'
  obtain ⟨he, hv', hvn⟩ := leafRes_spec hv
  obtain ⟨x, hx, hxr⟩ := resultsS_sound hΓ hv' hw'
  have hxr' := settle_rel hs' hw'.fa (SV.rel_num (μ' := μ) hvn hxr)
  rw [← hpick] at hxr'
  have fin : bodyPost P F (fun e w2 => ∃ v, e = .returned v ∧ (vt.pick ρ).rel ρ μ v ∧ WR ρ w0 μ nb bs w2) .ret a' w' :=
    ⟨hw'.defers, x, hx, x, rfl, instVT_rel hstands hs hf hvt' hxr', hwr.after hw'.wr.kept.below⟩
  rcases he with rfl | rfl <;> exact fin
end
end Go.Sx

namespace Go.Sx
noncomputable section
open Go.RowKit Go.ChangeShapes Go.WideShapes Go.ChangeAt

/-! ### Arguments with lists -/
inductive CK where
  | k (d : Kd)
  | ls (ks : List Nat)

def kdNo : Kd → Nat
  | .int k => kindNo k
  | .flt .f32 => 8
  | .flt .f64 => 9
  | .bool => 10

/-- The fields' kinds, one field behind the other without a gap. -/
def fieldsC (sz : Nat → Option Nat) (ks : Nat → Option (List CK)) : Nat → List (Nat × Nat) → Option (List CK)
  | _, [] => some []
  | o, (off, t) :: fs =>
    match ks t with
    | some l =>
      match fieldsC sz ks (o + l.length) fs with
      | some m => if off = o ∧ sz t = some l.length then some (l ++ m) else none
      | none => none
    | none => none

def ckOf (Γ : Ctx) : Nat → Nat → Option (List CK)
  | 0, _ => none
  | d + 1, t =>
    match ksOf Γ 12 t with
    | some l => some (l.map .k)
    | none =>
      match Γ.ty.get t with
      | some i =>
        match i.d with
        | .slice e =>
          match ksOf Γ 12 e with
          | some l => if sizeT Γ e = some l.length ∧ 1 ≤ l.length then some [.ls (l.map kdNo)] else none
          | none => none
        | .struct fs =>
          match fieldsC (sizeT Γ) (ckOf Γ d) 0 fs with
          | some l => if l.length = i.size then some l else none
          | none => none
        | _ => none
      | none => none

def CK.sc (i : Nat) : CK → SC
  | .k d => d.sc i
  | .ls ks => .ls i ks (.reg i)

def symC : Nat → List CK → List SC
  | _, [] => []
  | i, k :: l => k.sc i :: symC (i + 1) l

/-- What a cell holds. -/
def CK.fits (W : World) : CK → Value → Prop
  | .k d, v => d.fits v
  | .ls ks, v => ∃ b off els, Hdr b off els.length v ∧ LstAt W.heap (b, encP off ks els)

def Cs (W : World) : List CK → List Value → Prop
  | [], [] => True
  | k :: l, v :: m => k.fits W v ∧ Cs W l m
  | _, _ => False

section
variable {P : Program} {Γ : Ctx} {W : World} {H : Type} {enc : TypeId × Value → H}

theorem Cs_of_Ms : ∀ {l : List Kd} {vs : List Value}, Ms l vs → Cs W (l.map .k) vs
  | [], [], _ => trivial
  | _ :: _, _ :: _, h => ⟨h.1, Cs_of_Ms h.2⟩
  | [], _ :: _, h => h.elim
  | _ :: _, [], h => h.elim

theorem Cs_append : ∀ {l l' : List CK} {vs vs' : List Value}, Cs W l vs → Cs W l' vs' → Cs W (l ++ l') (vs ++ vs')
  | [], _, [], _, _, h' => h'
  | _ :: _, _, _ :: _, _, h, h' => ⟨h.1, Cs_append h.2 h'⟩
  | [], _, _ :: _, _, h, _ => h.elim
  | _ :: _, _, [], _, h, _ => h.elim

theorem kdNo_KC {d : Kd} {v : Value} (h : d.fits v) : KC (kdNo d) (inOf v) v := by
  cases d with
  | int k =>
    obtain ⟨n, rfl⟩ := h
    refine .inl ⟨by cases k <;> decide, ?_⟩
    show Value.int k n = Value.int (kindOf (kindNo k)) n
    cases k <;> rfl
  | flt k =>
    obtain ⟨b, rfl⟩ := h
    cases k with
    | f32 => exact .inr (.inl ⟨rfl, b, rfl, rfl⟩)
    | f64 => exact .inr (.inr (.inl ⟨rfl, b, rfl, rfl⟩))
  | bool =>
    obtain ⟨b, rfl⟩ := h
    refine .inr (.inr (.inr ⟨rfl, ?_⟩))
    show Value.bool b = Value.bool (b2i b == 1)
    rw [b2i_eq]

theorem Ms_get : ∀ {l : List Kd} {vs : List Value} {c : Nat}, Ms l vs → c < l.length → ∃ v, vs[c]? = some v ∧ KC ((l.map kdNo).getD c 0) (inOf v) v
  | k :: _, v :: _, 0, h, _ => ⟨v, rfl, kdNo_KC h.1⟩
  | k :: l, v :: vs, c + 1, h, hc => by
    obtain ⟨u, hu, hk⟩ := Ms_get (c := c) h.2 (by simpa using hc)
    exact ⟨u, by simpa using hu, by simpa using hk⟩
  | [], _, _, _, hc => by simp at hc
  | _ :: _, [], _, h, _ => h.elim

theorem mapM_range {α : Type} {n : Nat} {f : Nat → Option α} {l : List α} (h : (List.range n).mapM f = some l) : ∀ i, i < n → ∃ x, f i = some x ∧ l[i]? = some x := by
  have key : ∀ (r : List Nat) (l : List α), r.mapM f = some l → ∀ (i j : Nat), r[i]? = some j → ∃ x, f j = some x ∧ l[i]? = some x := by
    intro r
    induction r with
    | nil => intro l _ i j hj; simp at hj
    | cons a r ih =>
      intro l h i j hj
      rw [List.mapM_cons] at h
      cases hfa : f a with
      | none => simp [hfa] at h
      | some x =>
        cases hr : r.mapM f with
        | none => simp [hfa, hr] at h
        | some m =>
          simp [hfa, hr] at h
          subst h
          cases i with
          | zero =>
            have : a = j := by simpa using hj
            subst this
            exact ⟨x, hfa, rfl⟩
          | succ i =>
            obtain ⟨y, h1, h2⟩ := ih m hr i j (by simpa using hj)
            exact ⟨y, h1, by simpa using h2⟩
  intro i hi
  exact key _ l h i i (by simp [hi])

theorem trod_list (hΓ : Γ.ok P) {base : Nat} {spare : Nat → Bool} {held : Bool} {t e : Nat} (hu : P.underlying t = some (.slice e)) {l : List Kd} (hl : ksOf Γ 12 e = some l) (hs : sizeT Γ e = some l.length) (h1 : 1 ≤ l.length)
    {fuel : Nat} {cs : List Value} {x : DataW H × List MemPlace} (h : DataW.trod enc P W base spare held fuel t cs = some x) : Cs W [.ls (l.map kdNo)] cs := by
  have hce := cellsOf_sizeT hΓ hs
  rcases DataW.trod_slice hu h with ⟨rfl, _⟩ | ⟨a, len, cap, elems, rest, n, _, rfl, _, _, hlc, hcm, hel, hall, _⟩
  · exact ⟨⟨0, 0, [], .inl ⟨rfl, none, 0, rfl⟩, ⟨0, _, [], rfl, fun h => absurd rfl h⟩⟩, trivial⟩
  · refine ⟨?_, trivial⟩
    rw [hce] at hall
    by_cases h0 : len = 0
    · subst h0
      exact ⟨0, 0, [], .inl ⟨rfl, _, _, rfl⟩, ⟨0, _, [], rfl, fun h => absurd rfl h⟩⟩
    · -- each element
      have each : ∀ i, i < len → ∃ vs : List Value, W.cells? base (a.add (i * l.length)) l.length = some vs ∧ Ms l vs := by
        intro i hi
        have := hall i hi
        have hi' : i < elems.length := by omega
        rw [List.getElem?_eq_getElem hi'] at this
        cases hc : W.cells? base (a.add (i * l.length)) l.length with
        | none => rw [hc] at this; simp at this
        | some vs =>
          rw [hc] at this
          exact ⟨vs, rfl, trod_kinds hΓ 12 e l hl n vs _ (by simpa using this)⟩
      have cell : ∀ i c, i < len → c < l.length → ∀ vs, W.cells? base (a.add (i * l.length)) l.length = some vs → ∃ v, W.cell? ((a.add (i * l.length)).add c) = some v ∧ vs[c]? = some v := by
        intro i c hi hc vs hv
        unfold World.cells? at hv
        split at hv
        · exact mapM_range hv c hc
        · cases hv
      -- the block
      obtain ⟨vs0, hv0, _⟩ := each 0 (by omega)
      obtain ⟨v00, hv00, _⟩ := cell 0 0 (by omega) (by omega) vs0 hv0
      have ha0 : (a.add (0 * l.length)).add 0 = a := by unfold Addr.add; simp
      rw [ha0] at hv00
      have hb : a.spot = none ∧ ∃ cells ty fz, W.heap[a.block]? = some (.cells cells ty fz) := by
        unfold World.cell? at hv00
        split at hv00
        · rename_i c ty fz hh
          split at hv00
          · cases hv00
          · rename_i hsp
            exact ⟨by cases hs : a.spot with
              | none => rfl
              | some _ => rw [hs] at hsp; exact absurd rfl hsp, c, ty, fz, hh⟩
        · cases hv00
      obtain ⟨hspot, cells, ty, fz, hheap⟩ := hb
      obtain ⟨bl, off, sp⟩ := a
      simp only at hspot hheap
      subst hspot
      let el : Nat → List Value := fun i => (W.cells? base ((⟨bl, off, none⟩ : Addr).add (i * l.length)) l.length).getD []
      refine ⟨bl, off, (List.range len).map fun i => (el i).map inOf, .inr ⟨cap, by simp, by simpa using hlc, hcm⟩, off, l.map kdNo, _, rfl, fun _ => ⟨cells, ty, fz, hheap, fun i c hi hc => ?_⟩⟩
      have hi : i < len := by simpa using hi
      have hc : c < l.length := by simpa using hc
      obtain ⟨vs, hv, hms⟩ := each i hi
      obtain ⟨v, hcell, hvc⟩ := cell i c hi hc vs hv
      have hel : el i = vs := by show (W.cells? base _ _).getD [] = vs; rw [hv]; rfl
      refine ⟨v, ?_, ?_⟩
      · rw [addr_add, addr_add] at hcell
        unfold World.cell? at hcell
        simp only [hheap] at hcell
        simpa [List.length_map] using hcell
      · obtain ⟨v', hv', hkc⟩ := Ms_get hms hc
        rw [hvc] at hv'; cases hv'
        have : cellE ((List.range len).map fun i => (el i).map inOf) (i : Nat) c = inOf v := by
          unfold cellE
          rw [Int.toNat_natCast]
          have e1 : ((List.range len).map fun i => (el i).map inOf).getD i [] = vs.map inOf := by
            rw [List.getD_eq_getElem?_getD, List.getElem?_map, List.getElem?_range hi]
            show (el i).map inOf = _
            rw [hel]
          rw [e1, List.getD_eq_getElem?_getD, List.getElem?_map, hvc]; rfl
        rw [this]
        exact hkc

theorem fieldsC_cs (hΓ : Γ.ok P) {ks : Nat → Option (List CK)} {cs : List Value} : ∀ (fs : List (Nat × Nat)) (o : Nat) (l : List CK), fieldsC (sizeT Γ) ks o fs = some l →
    (∀ off t l, (off, t) ∈ fs → ks t = some l → Cs W l ((cs.drop off).take (P.cellsOf t))) → Cs W l ((cs.drop o).take l.length)
  | [], o, l, h, _ => by cases h; simp [Cs]
  | (off, t) :: fs, o, l, h, hall => by
    unfold fieldsC at h
    split at h
    · rename_i l1 h1
      split at h
      · rename_i m hm
        split at h
        · rename_i hc
          cases h
          obtain ⟨rfl, hsz⟩ := hc
          have hc1 := cellsOf_sizeT hΓ hsz
          have e1 := hall off t l1 List.mem_cons_self h1
          rw [hc1] at e1
          have e2 := fieldsC_cs hΓ fs _ m hm fun off' t' l' hmem hl' => hall off' t' l' (List.mem_cons_of_mem _ hmem) hl'
          rw [List.length_append, List.take_add, List.drop_drop]
          exact Cs_append e1 e2
        · cases h
      · cases h
    · cases h

theorem trod_cks (hΓ : Γ.ok P) {base : Nat} {spare : Nat → Bool} {held : Bool} : ∀ (d : Nat) (t : Nat) (ks : List CK), ckOf Γ d t = some ks → ∀ (fuel : Nat) (cs : List Value) (x : DataW H × List MemPlace),
    DataW.trod enc P W base spare held fuel t cs = some x → Cs W ks cs
  | 0, _, _, h, _, _, _, _ => by cases h
  | d + 1, t, ks, h, fuel, cs, x, hx => by
    unfold ckOf at h
    split at h
    · rename_i l hl
      cases h
      exact Cs_of_Ms (trod_kinds hΓ 12 t l hl fuel cs x hx)
    · split at h
      · rename_i i hi
        have ok := hΓ.ty t i hi
        obtain ⟨u, hu, ho⟩ := ok.und
        have hsz := cellsOf_size ok
        split at h
        · rename_i e hid
          rw [hid] at ho
          have ho' : u = .slice e := ho
          subst ho'
          split at h
          · rename_i l hl
            split at h
            · rename_i hc
              cases h
              exact trod_list hΓ hu hl hc.1 hc.2 hx
            · cases h
          · cases h
        · rename_i fs hid
          rw [hid] at ho
          obtain ⟨F, rfl, hF⟩ := ho
          split at h
          · rename_i l hl
            split at h
            · rename_i hc
              cases h
              obtain ⟨xs, m, _, _, hlen, hxl, hall⟩ := DataW.trod_struct hu hx
              have := fieldsC_cs (cs := cs) hΓ fs 0 _ hl fun off ft l' hmem hl' => by
                subst hF
                obtain ⟨f, hf, he⟩ := List.mem_map.1 hmem
                cases he
                obtain ⟨j, hj, hjf⟩ := List.mem_iff_getElem.1 hf
                have h1 : F[j]? = some f := by
                  rw [← hjf]
                  simp at hj
                  simp [hj]
                have h2 := hall j f h1
                have hj' : j < xs.length := by simp at hj; omega
                rw [List.getElem?_eq_getElem hj'] at h2
                exact trod_cks hΓ d f.type l' hl' m _ _ h2
              rw [List.drop_zero, hc, ← hsz, ← hlen, List.take_length] at this
              exact this
            · cases h
          · cases h
        · cases h
      · cases h
end
end
end Go.Sx

namespace Go.Sx
noncomputable section
open Go.RowKit Go.ChangeShapes Go.WideShapes Go.ChangeAt

inductive AL where
  | one (c : CK)
  | agg (l : List CK)

def AL.size : AL → Nat
  | .one _ => 1
  | .agg l => l.length

def AL.sv (i : Nat) : AL → SV
  | .one c => .c (c.sc i)
  | .agg l => .w (.agg (symC i l))

def symAL : Nat → List AL → List SV
  | _, [] => []
  | i, k :: l => k.sv i :: symAL (i + k.size) l

def sizeAL : List AL → Nat
  | [] => 0
  | k :: l => k.size + sizeAL l

def AL.fits (W : World) : AL → Value → Prop
  | .one c, v => c.fits W v
  | .agg l, v => ∃ cs : Array Value, v = .agg cs ∧ Cs W l cs.toList

def AsL (W : World) : List AL → List Value → Prop
  | [], [] => True
  | k :: l, v :: m => k.fits W v ∧ AsL W l m
  | _, _ => False

/-- The shape of an argument, out of its type. -/
def alOf (Γ : Ctx) (t : Nat) : Option AL :=
  match Γ.ty.get t with
  | some i =>
    match i.d with
    | .int k => some (.one (.k (.int k)))
    | .float k => some (.one (.k (.flt k)))
    | .bool => some (.one (.k .bool))
    | .slice _ => match ckOf Γ 12 t with
      | some [c] => some (.one c)
      | _ => none
    | .arr _ _ => match ckOf Γ 12 t with
      | some l => some (.agg l)
      | none => none
    | .struct _ => match ckOf Γ 12 t with
      | some l => some (.agg l)
      | none => none
    | _ => none
  | none => none

def alsOf (Γ : Ctx) : List Nat → Option (List AL)
  | [] => some []
  | t :: l =>
    match alOf Γ t, alsOf Γ l with
    | some k, some m => some (k :: m)
    | _, _ => none

section
variable {P : Program} {Γ : Ctx} {W : World} {H : Type} {enc : TypeId × Value → H}

theorem okWide_slice {w : World} {r : Reach} {base : Nat} {t : TypeId} {v : Value} {e : TypeId} (ht : P.underlying t = some (.slice e)) (h : Value.okWide P w r base t v) : v.cells = #[v] := by
  simp only [Value.okWide, ht, Cell.okWide, Cell.ok] at h
  cases v <;> first | rfl | simp_all

theorem alOf_fits (hΓ : Γ.ok P) {base : Nat} {t : Nat} {k : AL} (h : alOf Γ t = some k) {v : Value} (hv : Value.okWide P W .any base t v)
    {b : Nat} {spare : Nat → Bool} {held : Bool} {d : DataW H} {ps : List MemPlace} (hr : DataW.Trod enc P W b spare held t v d ps) : k.fits W v := by
  obtain ⟨fuel, hr⟩ := hr
  unfold alOf at h
  split at h
  · rename_i i hi
    have ok := hΓ.ty t i hi
    obtain ⟨u, hu, ho⟩ := ok.und
    split at h
    · rename_i k' hid
      cases h
      rw [hid] at ho
      have ho' : u = .int k' := ho
      subst ho'
      exact okWide_int hu hv
    · rename_i k' hid
      cases h
      rw [hid] at ho
      have ho' : u = .float k' := ho
      subst ho'
      exact okWide_float hu hv
    · rename_i hid
      cases h
      rw [hid] at ho
      have ho' : u = .bool := ho
      subst ho'
      exact okWide_bool hu hv
    · rename_i e hid
      rw [hid] at ho
      have ho' : u = .slice e := ho
      subst ho'
      split at h
      · rename_i c hc
        cases h
        have := trod_cks hΓ 12 t _ hc fuel _ _ hr
        rw [okWide_slice hu hv] at this
        exact this.1
      · cases h
    · rename_i n e hid
      split at h
      · rename_i l hl
        cases h
        have hm := trod_cks hΓ 12 t l hl fuel _ _ hr
        rw [hid] at ho
        have ho' : u = .array n e := ho
        subst ho'
        unfold Value.okWide at hv
        rw [hu] at hv
        obtain ⟨cs, rfl, _⟩ := hv
        exact ⟨cs, rfl, hm⟩
      · cases h
    · rename_i fs hid
      split at h
      · rename_i l hl
        cases h
        have hm := trod_cks hΓ 12 t l hl fuel _ _ hr
        rw [hid] at ho
        obtain ⟨F, rfl, _⟩ := ho
        unfold Value.okWide at hv
        rw [hu] at hv
        obtain ⟨cs, rfl, _⟩ := hv
        exact ⟨cs, rfl, hm⟩
      · cases h
    · cases h
  · cases h

theorem alsOf_fits (hΓ : Γ.ok P) {base : Nat} {b : Nat} {spare : Nat → Bool} {held : Bool} : ∀ {ts : List Nat} {ks : List AL} {vs : List Value} {ds : List (DataW H)} {ps : List MemPlace}, alsOf Γ ts = some ks →
    (∀ (j : Nat) t v, ts[j]? = some t → vs[j]? = some v → Value.okWide P W .any base t v) → DataW.TrodAll enc P W b spare held ts vs ds ps → AsL W ks vs
  | [], ks, [], [], _, h, _, _ => by cases h; trivial
  | t :: ts, ks, v :: vs, d :: ds, ps, h, hv, hr => by
    unfold alsOf at h
    split at h
    · rename_i k m hk hm
      cases h
      obtain ⟨p, q, h1, h2, _⟩ := hr
      exact ⟨alOf_fits hΓ hk (hv 0 t v rfl rfl) h1, alsOf_fits hΓ hm (fun j t' v' ht hv' => hv (j + 1) t' v' (by simpa using ht) (by simpa using hv')) h2⟩
    · cases h
  | [], _, _ :: _, _, _, _, _, h => h.elim
  | [], _, [], _ :: _, _, _, _, h => h.elim
  | _ :: _, _, [], _, _, _, _, h => h.elim
  | _ :: _, _, _ :: _, [], _, _, _, h => h.elim

/-! ### What the registers and the places hold -/
theorem ck_val {k : CK} {v : Value} (h : k.fits W v) : ∃ (x : Int) (p : Nat × Nat), LstAt W.heap p ∧ ∀ (ρ : Nat → Int) (μ : Mu) (i : Nat), ρ i = x → μ (LB + i) = some p → (k.sc i).rel ρ μ v := by
  cases k with
  | k d => exact ⟨inOf v, (0, encP 0 [] []), ⟨0, [], [], rfl, fun h => absurd rfl h⟩, fun ρ μ i h0 _ => Kd.rel h h0⟩
  | ls ks =>
    obtain ⟨b, off, els, hh, hl⟩ := h
    exact ⟨encE els, (b, encP off ks els), hl, fun ρ μ i h0 h1 => ⟨(b, encP off ks els), off, els, h1, rfl, h0, hh⟩⟩

theorem cs_val : ∀ {l : List CK} {vs : List Value}, Cs W l vs → ∃ (xs : List Int) (ps : List (Nat × Nat)), xs.length = l.length ∧ ps.length = l.length ∧ (∀ p ∈ ps, LstAt W.heap p) ∧
    ∀ (ρ : Nat → Int) (μ : Mu) (i : Nat), (∀ j x, xs[j]? = some x → ρ (i + j) = x) → (∀ j p, ps[j]? = some p → μ (LB + (i + j)) = some p) → cellsRel ρ μ (symC i l) vs
  | [], [], _ => ⟨[], [], rfl, rfl, (fun _ h => by cases h), fun _ _ _ _ _ => trivial⟩
  | k :: l, v :: vs, h => by
    obtain ⟨x, p, h1, h2⟩ := ck_val h.1
    obtain ⟨xs, ps, a1, a2, a3, a4⟩ := cs_val h.2
    refine ⟨x :: xs, p :: ps, by simp [a1], by simp [a2], ?_, fun ρ μ i hx hp => ⟨?_, ?_⟩⟩
    · intro q hq
      cases hq with
      | head => exact h1
      | tail _ hq => exact a3 q hq
    · exact h2 ρ μ i (hx 0 x rfl) (hp 0 p rfl)
    · refine a4 ρ μ (i + 1) (fun j y hy => ?_) (fun j q hq => ?_)
      · rw [show i + 1 + j = i + (j + 1) by omega]; exact hx (j + 1) y (by simpa using hy)
      · rw [show i + 1 + j = i + (j + 1) by omega]; exact hp (j + 1) q (by simpa using hq)
  | [], _ :: _, h => h.elim
  | _ :: _, [], h => h.elim

theorem asL_val : ∀ {ks : List AL} {vs : List Value}, AsL W ks vs → ∃ (xs : List Int) (ps : List (Nat × Nat)), xs.length = sizeAL ks ∧ ps.length = sizeAL ks ∧ (∀ p ∈ ps, LstAt W.heap p) ∧
    ∀ (ρ : Nat → Int) (μ : Mu) (i : Nat), (∀ j x, xs[j]? = some x → ρ (i + j) = x) → (∀ j p, ps[j]? = some p → μ (LB + (i + j)) = some p) → svsRel ρ μ (symAL i ks) vs
  | [], [], _ => ⟨[], [], rfl, rfl, (fun _ h => by cases h), fun _ _ _ _ _ => trivial⟩
  | k :: ks, v :: vs, h => by
    have one : ∃ (xs : List Int) (ps : List (Nat × Nat)), xs.length = k.size ∧ ps.length = k.size ∧ (∀ p ∈ ps, LstAt W.heap p) ∧
        ∀ (ρ : Nat → Int) (μ : Mu) (i : Nat), (∀ j x, xs[j]? = some x → ρ (i + j) = x) → (∀ j p, ps[j]? = some p → μ (LB + (i + j)) = some p) → (k.sv i).rel ρ μ v := by
      cases k with
      | one c =>
        obtain ⟨x, p, h1, h2⟩ := ck_val h.1
        refine ⟨[x], [p], rfl, rfl, ?_, fun ρ μ i hx hp => h2 ρ μ i (hx 0 x rfl) (hp 0 p rfl)⟩
        intro q hq
        have : q = p := by simpa using hq
        rw [this]; exact h1
      | agg l =>
        obtain ⟨⟨cs, rfl, hc⟩, _⟩ := h
        obtain ⟨xs, ps, a1, a2, a3, a4⟩ := cs_val hc
        exact ⟨xs, ps, a1, a2, a3, fun ρ μ i hx hp => ⟨cs, rfl, a4 ρ μ i hx hp⟩⟩
    obtain ⟨xs, ps, a1, a2, a3, a4⟩ := one
    obtain ⟨ys, qs, b1, b2, b3, b4⟩ := asL_val h.2
    refine ⟨xs ++ ys, ps ++ qs, by simp [a1, b1, sizeAL], by simp [a2, b2, sizeAL], fun q hq => ?_, fun ρ μ i hx hp => ⟨?_, ?_⟩⟩
    · rcases List.mem_append.1 hq with hq | hq
      · exact a3 q hq
      · exact b3 q hq
    · refine a4 ρ μ i (fun j x hj => hx j x ?_) (fun j p hj => hp j p ?_)
      · rw [List.getElem?_append_left (List.getElem?_eq_some_iff.1 hj).1]; exact hj
      · rw [List.getElem?_append_left (List.getElem?_eq_some_iff.1 hj).1]; exact hj
    · refine b4 ρ μ (i + k.size) (fun j x hj => ?_) (fun j p hj => ?_)
      · rw [show i + k.size + j = i + (xs.length + j) by omega]
        refine hx _ x ?_
        rw [List.getElem?_append_right (by omega), Nat.add_sub_cancel_left]; exact hj
      · rw [show i + k.size + j = i + (ps.length + j) by omega]
        refine hp _ p ?_
        rw [List.getElem?_append_right (by omega), Nat.add_sub_cancel_left]; exact hj
  | [], _ :: _, h => h.elim
  | _ :: _, [], h => h.elim
end

/-! ### The law -/
def lawOKL (Γ : Ctx) (mks : Nat → Option MK) (F : Func) (ks : List AL) : Bool :=
  match runL Γ (fun _ => none) mks F (sizeAL ks) (symAL 0 ks) .nil ⟨sizeAL ks, .nil, .nil⟩ with
  | some (T, t) => match goodTab (sizeAL ks) T with
    | true => allTrue Γ F T t
    | false => false
  | none => false

theorem symAL_length : ∀ (ks : List AL) (i : Nat), (symAL i ks).length = ks.length
  | [], _ => rfl
  | _ :: ks, i => by simp [symAL, symAL_length ks]

/-- A LAW OF THE PROGRAM, OVER LISTS, OUT OF A RUN OF THE EXECUTOR. -/
theorem run_trueL {P : Program} {Γ : Ctx} (hΓ : Γ.ok P) (hsum : ∀ f s, Γ.summ f = some s → SummOK P f s) {mks : Nat → Option MK} (hmk : ∀ g m, mks g = some m → MKOK P g m) {f : Nat} {F : Func} (hF : P.funcs[f]? = some F) {ks : List AL}
    (hrun : lawOKL Γ mks F ks = true) {vs : Array Value} {w : World} (hvs : AsL w ks vs.toList) :
    Calls P f vs w fun e w' => e = .returned (.bool true) ∧ Below w.heap.size w w' := by
  unfold lawOKL at hrun
  split at hrun
  case h_2 => cases hrun
  rename_i T t hr
  split at hrun
  case h_2 => cases hrun
  rename_i hg
  unfold runL at hr
  split at hr
  case h_2 => cases hr
  rename_i c hb
  obtain ⟨xs, ps, l1, l2, l3, l4⟩ := asL_val hvs
  obtain ⟨ρ, hin, hs⟩ := exists_rho hg (fun r => xs.getD r 0)
  let μ0 : Mu := fun i => if LB ≤ i then ps[i - LB]? else none
  have hrel : svsRel ρ μ0 (symAL 0 ks) vs.toList := by
    refine l4 ρ μ0 0 (fun j x hj => ?_) (fun j p hj => ?_)
    · have hlt := (List.getElem?_eq_some_iff.1 hj).1
      rw [Nat.zero_add, hin j (by omega), List.getD_eq_getElem?_getD, hj]; rfl
    · show (if LB ≤ LB + (0 + j) then ps[LB + (0 + j) - LB]? else none) = some p
      rw [if_pos (by omega), Nat.zero_add, Nat.add_sub_cancel_left]; exact hj
  obtain ⟨_, hwp⟩ := execX_sound hΓ hsum hmk 400 ρ _ _ _ _ _ hr hs
  have hfr := frame_enter hrel F.ntmps
  have hwr : WR ρ (Base.all w) μ0 (sizeAL ks + 10) .nil w := by
    refine ⟨⟨rfl, rfl, rfl, Nat.le_refl _, fun _ _ => rfl⟩, (fun _ _ _ _ _ _ h => by cases h), (fun i _ hi => if_neg (by omega)), (fun _ _ _ h => by cases h), (fun _ _ h => by cases h), (fun i p hi hp => ?_), (fun q hq => ?_)⟩
    · have hp : (if LB ≤ i then ps[i - LB]? else none) = some p := hp
      rw [if_pos hi] at hp
      exact ⟨l3 p (List.mem_of_getElem? hp), fun _ _ _ _ h => by cases h⟩
    · show (if LB ≤ LB + q then ps[LB + q - LB]? else none) = none
      rw [if_pos (by omega), Nat.add_sub_cancel_left, List.getElem?_eq_none (by omega)]
  refine calls_of_wp hF hb (hwp (Base.all w) μ0 _ w _ ⟨rfl, hfr, hwr, (fun r b h => by cases h)⟩ ?_)
  exact Tree.sat_mono (fun e s h => Leafs.mono (fun i b hi => by cases hi) h) (allTrue_sat hΓ hs w hrun)
end
end Go.Sx

namespace Go.Sx
noncomputable section
open Go.RowKit

def tabL (S : Sm) : Tab := ⟨maxReg, Tr.ofList fuelT S.ds, .nil⟩

/-- Another contract, that says the same. -/
theorem smL_via {P : Program} {Γ : Ctx} (hΓ : Γ.ok P) (hsum : ∀ f s, Γ.summ f = some s → SummOK P f s) {hn : Nat → Option Hint} {f : Nat} {F : Func} (hF : P.funcs[f]? = some F) (hname : (F.name == "runtime.NumGoroutine") = false)
    {n : Nat} {pat : List SV} {S S2 : Sm} (hrun : smRunL Γ hn F n pat S = true) (hg2 : goodTab n (tabL S2) = true) (hd2 : dsOK (tabL S2) S2.ds = true)
    (hEq : ∀ (ρ1 ρ2 : Nat → Int) (μ : Mu) (x : Value), (∀ r, r < n → ρ1 r = ρ2 r) → (∀ r d, (r, d) ∈ S.ds → ρ1 r = d.ev ρ1) → (∀ r d, (r, d) ∈ S2.ds → ρ2 r = d.ev ρ2) → (S.vt.pick ρ1).rel ρ1 μ x → (S2.vt.pick ρ2).rel ρ2 μ x) :
    SummOK P f (smL S2 n pat) := by
  intro T st args T1 vt h ρ hs
  unfold smL at h
  split at h
  case h_2 => cases h
  rename_i u hu
  split at h
  case h_2 => cases h
  rename_i T2 σ hqn hinst
  split at h
  case h_2 => cases h
  rename_i vt' hvt'
  cases h
  unfold smRunL at hrun
  split at hrun
  case h_2 => cases hrun
  rename_i T0 t0 hr
  split at hrun
  case h_2 => cases hrun
  rename_i hg hds hlow
  split at hrun
  case h_2 => cases hrun
  rename_i vt0 hvt
  have hvte := vtBeq_eq hrun
  subst hvte
  have hlow : n ≤ maxReg := Nat.le_of_lt (Nat.le_of_ble_eq_true hlow)
  unfold runL at hr
  split at hr
  case h_2 => cases hr
  rename_i c hb
  obtain ⟨_, hul, husp⟩ := uVs_spec (ρ := ρ) hlow hu
  have hul := hul (fun r x h => by cases h)
  obtain ⟨ρ', hin, hs'⟩ := exists_rho hg (fun r => ((u.σ.get r).map (X.ev ρ)).getD 0)
  obtain ⟨ρ2, hin2, hs2⟩ := exists_rho hg2 (fun r => ((u.σ.get r).map (X.ev ρ)).getD 0)
  have hat : ∀ r x, u.σ.get r = some x → x.ev ρ = ρ' r := fun r x hr => by
    rw [hin r (hul r x hr), hr]; rfl
  have hat2 : ∀ r x, u.σ.get r = some x → x.ev ρ = ρ2 r := fun r x hr => by
    rw [hin2 r (hul r x hr), hr]; rfl
  obtain ⟨s0, hst⟩ := instDs_spec hs2 S2.ds _ _ _ _ (dsOK_spec hd2) hinst hs
  have hstands := hst hat2
  simp only [Bool.and_eq_true] at hqn
  refine ⟨s0, fun w0 μ nb bs vs w hf hbs hwr hvs => ?_⟩
  have hrel := husp u ρ' μ _ (.refl _) hat hvs
  obtain ⟨_, hwp⟩ := execX_sound hΓ hsum (fun _ _ h => by cases h) 400 ρ' _ _ _ _ _ hr hs'
  have hfr := frame_enter hrel F.ntmps
  have hpl := plsOK_mono hbs hqn.2
  have hqn := Nat.le_of_ble_eq_true hqn.1
  refine callOK_of hΓ hF hname hb (calls_of_wp hF hb (hwp (Base.all w) (muQ ρ μ u.qs) _ w _ ⟨rfl, hfr, (hwr.lists hpl).more hqn, (fun r b h => by cases h)⟩ ?_))
  refine vtree_spec hvt _ fun e s v hv hpick => ?_
  intro μ' a' w' hp hw'
  obtain ⟨he, hv', hvn⟩ := leafRes_spec hv
  obtain ⟨x, hx, hxr⟩ := resultsS_sound hΓ hv' hw'
  have hxr' := settle_rel hs' hw'.fa (SV.rel_num (μ' := μ) hvn hxr)
  rw [← hpick] at hxr'
  have hx2 := hEq ρ' ρ2 μ x (fun r hr => by rw [hin r hr, hin2 r hr]) (fun r d hd => hs' r d (dsOK_spec hds r d hd)) (fun r d hd => hs2 r d (dsOK_spec hd2 r d hd)) hxr'
  have fin : bodyPost P F (fun e w2 => ∃ v, e = .returned v ∧ (vt.pick ρ).rel ρ μ v ∧ WR ρ w0 μ nb bs w2) .ret a' w' :=
    ⟨hw'.defers, x, hx, x, rfl, instVT_rel hstands hs hf hvt' hx2, hwr.after hw'.wr.kept.below⟩
  rcases he with rfl | rfl <;> exact fin

/-- A loop that counts as long as a condition holds: it stops below the bound just where a number fails. -/
theorem fin_count {step : List Int → Option (List Int)} {n lo : Int} {C : Int → Prop} (hgo : ∀ i, lo ≤ i → i < n → C i → step [i] = some [i + 1]) (hstop : ∀ i, lo ≤ i → ¬ (i < n ∧ C i) → step [i] = none) :
    ∀ (m : Nat) (i : Int), lo ≤ i → (n - i).toNat < m → ∃ j, fin step [i] = [j] ∧ i ≤ j ∧ (∀ k, i ≤ k → k < j → k < n ∧ C k) ∧ ¬ (j < n ∧ C j) ∧ (∃ q, itn step q [i] = some [j] ∧ step [j] = none)
  | 0, i, _, h => by omega
  | m + 1, i, hlo, h => by
    by_cases hc : i < n ∧ C i
    · obtain ⟨j, h1, h2, h3, h4, q, h5, h6⟩ := fin_count hgo hstop m (i + 1) (by omega) (by omega)
      have hs := hgo i hlo hc.1 hc.2
      refine ⟨j, by rw [fin_next hs ⟨[j], q, h5, h6⟩]; exact h1, by omega, fun k hk1 hk2 => ?_, h4, q + 1, by unfold itn; rw [hs]; exact h5, h6⟩
      by_cases e : k = i
      · subst e; exact hc
      · exact h3 k (by omega) hk2
    · have hs := hstop i hlo hc
      exact ⟨i, fin_stop hs, Int.le_refl _, fun k h1 h2 => by omega, hc, 0, rfl, hs⟩

/-- It stops below the bound just where a number fails. -/
theorem fin_below {step : List Int → Option (List Int)} {n lo : Int} {C : Int → Prop} (hgo : ∀ i, lo ≤ i → i < n → C i → step [i] = some [i + 1]) (hstop : ∀ i, lo ≤ i → ¬ (i < n ∧ C i) → step [i] = none) :
    (fin step [lo]).getD 0 0 < n ↔ ∃ k, lo ≤ k ∧ k < n ∧ ¬ C k := by
  obtain ⟨j, h1, h2, h3, h4, _⟩ := fin_count hgo hstop _ lo (Int.le_refl _) (Nat.lt_succ_self _)
  rw [h1]
  show j < n ↔ _
  constructor
  · intro hj
    exact ⟨j, h2, hj, fun hc => h4 ⟨hj, hc⟩⟩
  · rintro ⟨k, k1, k2, k3⟩
    by_cases hj : j < n
    · exact hj
    · exact absurd (h3 k k1 (by omega)).2 k3
end
end Go.Sx
