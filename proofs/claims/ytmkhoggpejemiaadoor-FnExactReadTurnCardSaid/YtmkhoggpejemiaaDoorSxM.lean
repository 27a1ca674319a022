/-
  Makers of lists; contracts and laws over lists.
-/
import Derived.Test.YtmkhoggpejemiaaDoorSxK
import Derived.Lib.Join
set_option linter.unusedSimpArgs false
set_option linter.unusedVariables false
namespace Go.Sx
noncomputable section
open Go.RowKit
/-! ### The arguments against a pattern -/
inductive Pl where
 | ls (q : Nat)
 | gl (i : Nat) (ks : List Nat) (x : X)
 | no (ks : List Nat)
structure US where
 σ : Tr X
 qs : List Pl
def plsOK (bs : Tr Blk) : List Pl → Bool
 | [] => true
 | .gl i ks x :: l =>
  (match bs.get i with
   | some B => cellsBeq B.cells [.many ks x]
   | none => false) && plsOK bs l
 | _ :: l => plsOK bs l
def uX (n : Nat) (u : US) (p a : X) : Option US :=
 match p with
 | .lit _ => match p.beq a with
  | true => some u
  | false => none
 | .reg r =>
  match Nat.blt r n with
  | true =>
   match u.σ.get r with
   | some y => match y.beq a with
    | true => some u
    | false => none
   | none => some ⟨u.σ.set fuelT r a, u.qs⟩
  | false => none
def uC (n : Nat) (u : US) : SC → SC → Option US
 | .bool x, .bool y => uX n u x y
 | .int k x, .int k' y => match Nat.beq (kindNo k) (kindNo k') with
  | true => uX n u x y
  | false => none
 | .flt .f32 x, .flt .f32 y => uX n u x y
 | .flt .f64 x, .flt .f64 y => uX n u x y
 | .ls q ks x, .ls q' ks' y =>
  match Nat.beq q u.qs.length && natsBeq ks ks' with
  | true => uX n ⟨u.σ, u.qs ++ [.ls q']⟩ x y
  | false => none
 | .ls q ks x, .gl i ks' y =>
  match Nat.beq q u.qs.length && natsBeq ks ks' with
  | true => uX n ⟨u.σ, u.qs ++ [.gl i ks' y]⟩ x y
  | false => none
 | .ls q ks x, .raw (.slice _ 0 _) =>
  match Nat.beq q u.qs.length with
  | true => uX n ⟨u.σ, u.qs ++ [.no ks]⟩ x (.lit 0)
  | false => none
 | .raw (.func (.func f) a b), .raw (.func (.func g) c d) =>
  match Nat.beq f g && ((a.isEmpty && b.isEmpty) && (c.isEmpty && d.isEmpty)) with
  | true => some u
  | false => none
 | _, _ => none
def uCs (n : Nat) : US → List SC → List SC → Option US
 | u, [], [] => some u
 | u, p :: l, a :: m =>
  match uC n u p a with
  | some u1 => uCs n u1 l m
  | none => none
 | _, _, _ => none
def uV (n : Nat) (u : US) : SV → SV → Option US
 | .w (.one p), .w (.one a) => uC n u p a
 | .w (.agg l), .w (.agg m) => uCs n u l m
 | _, _ => none
def uVs (n : Nat) : US → List SV → List SV → Option US
 | u, [], [] => some u
 | u, p :: l, a :: m =>
  match uV n u p a with
  | some u1 => uVs n u1 l m
  | none => none
 | _, _, _ => none
def smL (S : Sm) (n : Nat) (pat : List SV) : Summ := fun T st args =>
 match uVs n ⟨.nil, []⟩ pat args with
 | some u =>
  match Nat.ble u.qs.length (n + 10) && plsOK st.bs u.qs, instDs S.ds u.σ T with
  | true, some (T1, σ) =>
   match instVT σ st.fa T1 S.vt with
   | some vt => some (T1, vt)
   | none => none
  | _, _ => none
 | none => none
def runL (Γ : Ctx) (hn : Nat → Option Hint) (mks : Nat → Option MK) (F : Func) (n : Nat) (pat : List SV) (fa : Tr Bool) (T : Tab) : Option (Tab × Tree) :=
 match F.body with
 | some c => execX Γ hn mks 400 c T ⟨pat.length + (F.ntmps - pat.length), frameOf 0 pat, n + 10, .nil, fa⟩
 | none => none
def smRunL (Γ : Ctx) (hn : Nat → Option Hint) (F : Func) (n : Nat) (pat : List SV) (S : Sm) : Bool :=
 match runL Γ hn (fun _ => none) F n pat .nil ⟨n, .nil, .nil⟩ with
 | some (T, t) =>
  match goodTab n T, dsOK T S.ds, Nat.blt n maxReg with
  | true, true, true =>
   match vtree T (leafRes Γ F) t with
   | some vt => vtBeq vt S.vt
   | none => false
  | _, _, _ => false
 | none => false
section
variable {ρ : Nat → Int}
def US.le (u v : US) : Prop := (∀ r x, u.σ.get r = some x → v.σ.get r = some x) ∧ ∃ l, v.qs = u.qs ++ l
theorem US.le.refl (u : US) : u.le u := ⟨fun _ _ h => h, [], by simp⟩
theorem US.le.trans {a b c : US} (h : a.le b) (k : b.le c) : a.le c := by
 obtain ⟨h1, l, h2⟩ := h
 obtain ⟨k1, m, k2⟩ := k
 exact ⟨fun r x hr => k1 r x (h1 r x hr), l ++ m, by rw [k2, h2, List.append_assoc]⟩
def US.low (n : Nat) (u : US) : Prop := ∀ r x, u.σ.get r = some x → r < n
theorem uX_spec {n : Nat} (hn : n ≤ maxReg) {u u' : US} {p a : X} (h : uX n u p a = some u') : u.le u' ∧ u'.qs = u.qs ∧ (u.low n → u'.low n) ∧
  ∀ (v : US) (ρ' : Nat → Int), u'.le v → (∀ r x, v.σ.get r = some x → x.ev ρ = ρ' r) → p.ev ρ' = a.ev ρ := by
 unfold uX at h
 split at h
 · split at h
   · rename_i he
     cases h
     refine ⟨.refl _, rfl, fun h => h, fun v ρ' _ _ => ?_⟩
     rw [← X.beq_eq he]; rfl
   · cases h
 · rename_i r
   split at h
   · rename_i hr
     have hr : r < n := Nat.le_of_ble_eq_true hr
     split at h
     · rename_i y hy
       split at h
       · rename_i he
         cases h
         refine ⟨.refl _, rfl, fun h => h, fun v ρ' hle hv => ?_⟩
         rw [← X.beq_eq he]
         exact (hv r y (hle.1 r y hy)).symm
       · cases h
     · rename_i hy
       cases h
       have hb : r + 1 < 2 ^ fuelT := by unfold maxReg at hn; unfold fuelT; omega
       refine ⟨⟨fun s x hs => ?_, [], by simp⟩, rfl, fun hl s x hs => ?_, fun v ρ' hle hv => ?_⟩
       · have : s ≠ r := fun e => by rw [e, hy] at hs; cases hs
         show (u.σ.set fuelT r a).get s = some x
         rw [Tr.get_set_ne _ _ _ _ _ hb this]; exact hs
       · have hs : (u.σ.set fuelT r a).get s = some x := hs
         rcases Tr.get_set_some _ _ _ _ _ _ hs with ⟨rfl, _⟩ | ⟨_, hs⟩
         · exact hr
         · exact hl s x hs
       · exact (hv r a (hle.1 r a (Tr.get_set_same _ _ _ _ hb))).symm
   · cases h
def muQ (ρ : Nat → Int) (μ : Mu) (qs : List Pl) : Mu := fun i => if LB ≤ i then (match qs[i - LB]? with
 | some (.ls q) => μ (LB + q)
 | some (.gl j ks x) => (μ j).map fun b => (b.1, encP 0 ks (decE (x.ev ρ)))
 | some (.no ks) => some (0, encP 0 ks [])
 | none => none) else none
theorem uC_spec {n : Nat} (hn : n ≤ maxReg) {u u' : US} {p a : SC} (h : uC n u p a = some u') : u.le u' ∧ (u.low n → u'.low n) ∧
  ∀ (v : US) (ρ' : Nat → Int) (μ : Mu) (x : Value), u'.le v → (∀ r x, v.σ.get r = some x → x.ev ρ = ρ' r) → a.rel ρ μ x → p.rel ρ' (muQ ρ μ v.qs) x := by
 unfold uC at h
 split at h
 · obtain ⟨h1, _, h3, h4⟩ := uX_spec (ρ := ρ) hn h
   exact ⟨h1, h3, fun v ρ' μ x hle hv hx => by show x = .bool _; rw [h4 v ρ' hle hv]; exact hx⟩
 · split at h
   · rename_i hk
     obtain ⟨h1, _, h3, h4⟩ := uX_spec (ρ := ρ) hn h
     exact ⟨h1, h3, fun v ρ' μ x hle hv hx => by show x = .int _ _; rw [h4 v ρ' hle hv, kindNo_inj hk]; exact hx⟩
   · cases h
 · obtain ⟨h1, _, h3, h4⟩ := uX_spec (ρ := ρ) hn h
   exact ⟨h1, h3, fun v ρ' μ x hle hv hx => let ⟨b, e, hb⟩ := hx; ⟨b, e, by rw [h4 v ρ' hle hv]; exact hb⟩⟩
 · obtain ⟨h1, _, h3, h4⟩ := uX_spec (ρ := ρ) hn h
   exact ⟨h1, h3, fun v ρ' μ x hle hv hx => let ⟨b, e, hb⟩ := hx; ⟨b, e, by rw [h4 v ρ' hle hv]; exact hb⟩⟩
 · rename_i q ks x' q' ks' y
   split at h
   · rename_i hk
     simp only [Bool.and_eq_true] at hk
     obtain ⟨h1, h2, h3, h4⟩ := uX_spec (ρ := ρ) hn h
     have hq := Nat.eq_of_beq_eq_true hk.1
     have hks := natsBeq_eq hk.2
     subst hks
     refine ⟨US.le.trans (b := ⟨u.σ, u.qs ++ [.ls q']⟩) ⟨fun _ _ h => h, [.ls q'], rfl⟩ h1, h3, fun v ρ' μ x hle hv hx => ?_⟩
     obtain ⟨pp, off, els, hp, he, hL, hd⟩ := hx
     refine ⟨pp, off, els, ?_, he, by rw [h4 v ρ' hle hv]; exact hL, hd⟩
     obtain ⟨_, l, hqs⟩ := hle
     rw [h2] at hqs
     unfold muQ
     rw [if_pos (by omega), Nat.add_sub_cancel_left, hqs, hq]
     have : ((u.qs ++ [.ls q']) ++ l)[u.qs.length]? = some (.ls q') := by simp
     simp only [this]
     exact hp
   · cases h
 · rename_i q ks x' i ks' y
   split at h
   · rename_i hk
     simp only [Bool.and_eq_true] at hk
     obtain ⟨h1, h2, h3, h4⟩ := uX_spec (ρ := ρ) hn h
     have hq := Nat.eq_of_beq_eq_true hk.1
     have hks := natsBeq_eq hk.2
     subst hks
     refine ⟨US.le.trans (b := ⟨u.σ, u.qs ++ [.gl i ks y]⟩) ⟨fun _ _ h => h, [.gl i ks y], rfl⟩ h1, h3, fun v ρ' μ x hle hv hx => ?_⟩
     obtain ⟨b, els, hb, hL, rfl, hc1, hc2⟩ := hx
     refine ⟨(b.1, encP 0 ks els), 0, els, ?_, rfl, by rw [h4 v ρ' hle hv]; exact hL, .inr ⟨_, rfl, hc1, hc2.1⟩⟩
     obtain ⟨_, l, hqs⟩ := hle
     rw [h2] at hqs
     unfold muQ
     rw [if_pos (by omega), Nat.add_sub_cancel_left, hqs, hq]
     have : ((u.qs ++ [.gl i ks y]) ++ l)[u.qs.length]? = some (.gl i ks y) := by simp
     simp only [this, hb, hL, decE_enc, Option.map_some]
   · cases h
 · rename_i q ks x' ad c
   split at h
   · rename_i hk
     obtain ⟨h1, h2, h3, h4⟩ := uX_spec (ρ := ρ) hn h
     have hq := Nat.eq_of_beq_eq_true hk
     refine ⟨US.le.trans (b := ⟨u.σ, u.qs ++ [.no ks]⟩) ⟨fun _ _ h => h, [.no ks], rfl⟩ h1, h3, fun v ρ' μ x hle hv hx => ?_⟩
     have hx : x = .slice ad 0 c := hx.1
     refine ⟨(0, encP 0 ks []), 0, [], ?_, rfl, by rw [h4 v ρ' hle hv]; rfl, .inl ⟨rfl, ad, c, hx⟩⟩
     obtain ⟨_, l, hqs⟩ := hle
     rw [h2] at hqs
     unfold muQ
     rw [if_pos (by omega), Nat.add_sub_cancel_left, hqs, hq]
     have : ((u.qs ++ [.no ks]) ++ l)[u.qs.length]? = some (.no ks) := by simp
     simp only [this]
   · cases h
 · split at h
   · rename_i hk
     simp only [Bool.and_eq_true] at hk
     obtain ⟨h1, ⟨h2, h3⟩, h4, h5⟩ := hk
     cases h
     refine ⟨.refl _, fun h => h, fun v ρ' μ x _ _ hx => ?_⟩
     rw [Nat.eq_of_beq_eq_true h1, Array.isEmpty_iff.1 h2, Array.isEmpty_iff.1 h3]
     rw [Array.isEmpty_iff.1 h4, Array.isEmpty_iff.1 h5] at hx
     exact hx
   · cases h
 · cases h
theorem uCs_spec {n : Nat} (hn : n ≤ maxReg) : ∀ {l m : List SC} {u u' : US}, uCs n u l m = some u' → u.le u' ∧ (u.low n → u'.low n) ∧
  ∀ (v : US) (ρ' : Nat → Int) (μ : Mu) (xs : List Value), u'.le v → (∀ r x, v.σ.get r = some x → x.ev ρ = ρ' r) → cellsRel ρ μ m xs → cellsRel ρ' (muQ ρ μ v.qs) l xs
 | [], [], u, u', h => by
  cases h
  refine ⟨.refl _, fun h => h, fun v ρ' μ xs _ _ hx => ?_⟩
  cases xs with
  | nil => trivial
  | cons _ _ => exact hx.elim
 | p :: l, a :: m, u, u', h => by
  unfold uCs at h
  split at h
  · rename_i u1 h1
    obtain ⟨a1, a2, a3⟩ := uC_spec (ρ := ρ) hn h1
    obtain ⟨b1, b2, b3⟩ := uCs_spec hn h
    refine ⟨a1.trans b1, fun hl => b2 (a2 hl), fun v ρ' μ xs hle hv hx => ?_⟩
    cases xs with
    | nil => exact hx.elim
    | cons x xs => exact ⟨a3 v ρ' μ x (b1.trans hle) hv hx.1, b3 v ρ' μ xs hle hv hx.2⟩
  · cases h
 | [], _ :: _, _, _, h => by cases h
 | _ :: _, [], _, _, h => by cases h
theorem uV_spec {n : Nat} (hn : n ≤ maxReg) {u u' : US} {p a : SV} (h : uV n u p a = some u') : u.le u' ∧ (u.low n → u'.low n) ∧
  ∀ (v : US) (ρ' : Nat → Int) (μ : Mu) (x : Value), u'.le v → (∀ r x, v.σ.get r = some x → x.ev ρ = ρ' r) → a.rel ρ μ x → p.rel ρ' (muQ ρ μ v.qs) x := by
 unfold uV at h
 split at h
 · exact uC_spec hn h
 · obtain ⟨h1, h2, h3⟩ := uCs_spec (ρ := ρ) hn h
   exact ⟨h1, h2, fun v ρ' μ x hle hv hx => let ⟨cs, e, hc⟩ := hx; ⟨cs, e, h3 v ρ' μ _ hle hv hc⟩⟩
 · cases h
theorem uVs_spec {n : Nat} (hn : n ≤ maxReg) : ∀ {l m : List SV} {u u' : US}, uVs n u l m = some u' → u.le u' ∧ (u.low n → u'.low n) ∧
  ∀ (v : US) (ρ' : Nat → Int) (μ : Mu) (xs : List Value), u'.le v → (∀ r x, v.σ.get r = some x → x.ev ρ = ρ' r) → svsRel ρ μ m xs → svsRel ρ' (muQ ρ μ v.qs) l xs
 | [], [], u, u', h => by
  cases h
  refine ⟨.refl _, fun h => h, fun v ρ' μ xs _ _ hx => ?_⟩
  cases xs with
  | nil => trivial
  | cons _ _ => exact hx.elim
 | p :: l, a :: m, u, u', h => by
  unfold uVs at h
  split at h
  · rename_i u1 h1
    obtain ⟨a1, a2, a3⟩ := uV_spec (ρ := ρ) hn h1
    obtain ⟨b1, b2, b3⟩ := uVs_spec hn h
    refine ⟨a1.trans b1, fun hl => b2 (a2 hl), fun v ρ' μ xs hle hv hx => ?_⟩
    cases xs with
    | nil => exact hx.elim
    | cons x xs => exact ⟨a3 v ρ' μ x (b1.trans hle) hv hx.1, b3 v ρ' μ xs hle hv hx.2⟩
  · cases h
 | [], _ :: _, _, _, h => by cases h
 | _ :: _, [], _, _, h => by cases h
theorem plsOK_spec {bs : Tr Blk} : ∀ {qs : List Pl}, plsOK bs qs = true → ∀ i ks x, Pl.gl i ks x ∈ qs → ∃ B, bs.get i = some B ∧ B.cells = [.many ks x]
 | [], _, _, _, _, h => by cases h
 | .ls q :: l, h, i, ks, x, hm => by
  cases hm with
  | tail _ hm => exact plsOK_spec (show plsOK bs l = true from h) i ks x hm
 | .no q :: l, h, i, ks, x, hm => by
  cases hm with
  | tail _ hm => exact plsOK_spec (show plsOK bs l = true from h) i ks x hm
 | .gl j ks' y :: l, h, i, ks, x, hm => by
  unfold plsOK at h
  simp only [Bool.and_eq_true] at h
  cases hm with
  | head =>
   have h := h.1
   split at h
   · rename_i B hB
     exact ⟨B, hB, cellsBeq_eq h⟩
   · cases h
  | tail _ hm => exact plsOK_spec h.2 i ks x hm
theorem plsOK_mono {bs bs' : Tr Blk} (hb : ∀ i B, bs.get i = some B → bs'.get i = some B) : ∀ {qs : List Pl}, plsOK bs qs = true → plsOK bs' qs = true
 | [], _ => rfl
 | .ls q :: l, h => plsOK_mono hb (qs := l) h
 | .no q :: l, h => plsOK_mono hb (qs := l) h
 | .gl j ks' y :: l, h => by
  unfold plsOK at h ⊢
  simp only [Bool.and_eq_true] at h ⊢
  refine ⟨?_, plsOK_mono hb h.2⟩
  have h := h.1
  split at h
  · rename_i B hB; rw [hb j B hB]; exact h
  · cases h
theorem WR.lists {ρ ρ' : Nat → Int} {w0 : Base} {μ : Mu} {nb : Nat} {bs : Tr Blk} {w : World} (h : WR ρ w0 μ nb bs w) {qs : List Pl} (hq : plsOK bs qs = true) : WR ρ' (Base.all w h.tabs) (muQ ρ μ qs) qs.length .nil w := by
 refine ⟨⟨rfl, rfl, rfl, Nat.le_refl _, fun _ _ => rfl⟩, (fun _ _ _ _ _ _ h => by cases h), (fun i _ hi => ?_), (fun _ _ _ h => by cases h), (fun _ _ h => by cases h), (fun i p hi hp => ?_), (fun q hq => ?_)⟩
 · unfold muQ; rw [if_neg (by omega)]
 · refine ⟨?_, fun _ _ _ _ h => by cases h⟩
   unfold muQ at hp
   rw [if_pos hi] at hp
   split at hp
   · rename_i q _
     exact (h.lst (LB + q) p (Nat.le_add_right _ _) hp).1
   · rename_i j ks x hj
     obtain ⟨B, hB, hc⟩ := plsOK_spec hq j ks x (List.mem_of_getElem? hj)
     obtain ⟨r, cs, hr, hh, _, hbeg⟩ := h.blk j B hB
     rw [hr] at hp
     simp only [Option.map_some] at hp
     cases hp
     rw [hc] at hbeg
     rcases hbeg with ⟨vs, rest, _, hrel⟩ | ⟨ks', L, els, e1, e2, e3⟩
     · cases vs with
       | nil => exact hrel.elim
       | cons v vs => exact hrel.1.elim
     · simp only [List.cons.injEq, SC.many.injEq, and_true] at e1
       obtain ⟨rfl, rfl⟩ := e1
       refine ⟨0, ks, els, by rw [e2, decE_enc], fun _ => ⟨cs, _, _, hh, fun i c hi hc => ?_⟩⟩
       rw [Nat.zero_add]
       exact e3 i c hi hc
   · rename_i ks _
     cases hp
     exact ⟨0, ks, [], rfl, fun h => absurd rfl h⟩
   · cases hp
 · unfold muQ
   rw [if_pos (by omega), Nat.add_sub_cancel_left, List.getElem?_eq_none (by omega)]
theorem WR.more {ρ : Nat → Int} {w0 : Base} {μ : Mu} {nb nb' : Nat} {bs : Tr Blk} {w : World} (h : WR ρ w0 μ nb bs w) (hle : nb ≤ nb') : WR ρ w0 μ nb' bs w :=
 ⟨h.kept, h.inj, fun i hi hi2 => h.top i (Nat.le_trans hle hi) hi2, h.lo, h.blk, h.lst, fun q hq => h.ltop q (Nat.le_trans hle hq)⟩
end
theorem smL_ok {P : Program} {Γ : Ctx} (hΓ : Γ.ok P) (hsum : ∀ f s, Γ.summ f = some s → SummOK P f s) {hn : Nat → Option Hint} {f : Nat} {F : Func} (hF : P.funcs[f]? = some F) (hname : (F.name == "runtime.NumGoroutine") = false)
  {n : Nat} {pat : List SV} {S : Sm} (hrun : smRunL Γ hn F n pat S = true) : SummOK P f (smL S n pat) := by
 intro T st args T1 vt h ρ hs
 unfold smL at h
 split at h
 case h_2 => cases h
 rename_i u hu
 split at h
 case h_2 => cases h
 rename_i T2 σ hqn hinst
 split at h
 case h_2 => cases h
 rename_i vt' hvt'
 cases h
 unfold smRunL at hrun
 split at hrun
 case h_2 => cases hrun
 rename_i T0 t0 hr
 split at hrun
 case h_2 => cases hrun
 rename_i hg hds hlow
 split at hrun
 case h_2 => cases hrun
 rename_i vt0 hvt
 have hvte := vtBeq_eq hrun
 subst hvte
 have hlow : n ≤ maxReg := Nat.le_of_lt (Nat.le_of_ble_eq_true hlow)
 unfold runL at hr
 split at hr
 case h_2 => cases hr
 rename_i c hb
 obtain ⟨_, hul, husp⟩ := uVs_spec (ρ := ρ) hlow hu
 have hul := hul (fun r x h => by cases h)
 obtain ⟨ρ', hin, hs'⟩ := exists_rho hg (fun r => ((u.σ.get r).map (X.ev ρ)).getD 0)
 have hat : ∀ r x, u.σ.get r = some x → x.ev ρ = ρ' r := fun r x hr => by
  rw [hin r (hul r x hr), hr]; rfl
 obtain ⟨s0, hst⟩ := instDs_spec hs' S.ds _ _ _ _ (dsOK_spec hds) hinst hs
 have hstands := hst hat
 simp only [Bool.and_eq_true] at hqn
 refine ⟨s0, fun w0 μ nb bs vs w hf hbs hwr hvs => ?_⟩
 have hrel := husp u ρ' μ _ (.refl _) hat hvs
 obtain ⟨_, hwp⟩ := execX_sound hΓ hsum (fun _ _ h => by cases h) 400 ρ' _ _ _ _ _ hr hs'
 have hfr := frame_enter hrel F.ntmps
 have hpl := plsOK_mono hbs hqn.2
 have hqn := Nat.le_of_ble_eq_true hqn.1
 have hlen : args.length = pat.length ∧ vs.toList.length = pat.length := by
  have h1 := svsRel_length hvs
  have h2 := svsRel_length hrel
  omega
 refine callOK_of hΓ hF hname hb (calls_of_wp hF hb (hwp (Base.all w hwr.tabs) (muQ ρ μ u.qs) _ w _ ⟨rfl, hfr, (hwr.lists hpl).more hqn, (fun r b h => by cases h)⟩ ?_))
 refine vtree_spec hvt _ fun e s v hv hpick => ?_
 intro μ' a' w' hp hw'
 obtain ⟨he, hv', hvn⟩ := leafRes_spec hv
 obtain ⟨x, hx, hxr⟩ := resultsS_sound hΓ hv' hw'
 have hxr' := settle_rel hs' hw'.fa (SV.rel_num (μ' := μ) hvn hxr)
 rw [← hpick] at hxr'
 have fin : bodyPost P F (fun e w2 => ∃ v, e = .returned v ∧ (vt.pick ρ).rel ρ μ v ∧ WR ρ w0 μ nb bs w2) .ret a' w' :=
  ⟨hw'.defers, x, hx, x, rfl, instVT_rel hstands hs hf hvt' hxr', hwr.after hw'.wr.kept.below⟩
 rcases he with rfl | rfl <;> exact fin
end
end Go.Sx

namespace Go.Sx
noncomputable section
open Go.RowKit
def dig16 : List Nat := [48, 49, 50, 51, 52, 53, 54, 55, 56, 57, 97, 98, 99, 100, 101, 102]
def shifts8 : List Nat := [28, 24, 20, 16, 12, 8, 4, 0]
def isB (n : Nat) : Option X → Bool
 | some (.lit (.ofNat m)) => Nat.beq m n
 | _ => false
def splitB (T : Tab) : Nat → X → Option (List X)
 | 0, _ => none
 | f + 1, x =>
  match x with
  | .lit v => match ibeq v 0 with
   | true => some []
   | false => none
  | .reg r =>
   match T.defs.get r with
   | some d =>
    match d.a with
    | [b] => match Nat.beq d.f 66 with
     | true => some [b]
     | false => none
    | [y, z] =>
     match Nat.beq d.f 67, splitB T f y, splitB T f z with
     | true, some a, some b => some (a ++ b)
     | _, _, _ => none
    | _ => none
   | none => none
def bytesOf (T : Tab) : SV → Option (List X)
 | .w (.one (.raw (.string s))) => some (s.data.toList.map fun b => .lit (.ofNat b.toNat))
 | .w (.one (.str x _ _)) => splitB T 80 x
 | _ => none
def zeroDig (T : Tab) (fa : Tr Bool) (s : Nat) : Bool :=
 (Tr.list 1 0 fa).any fun rb =>
  match rb.2, T.defs.get rb.1 with
  | true, some d =>
   match d.a with
   | [u, .lit c] =>
    match Nat.beq d.f 15 && ibeq c 16, valX T fa 40 u with
    | true, some (.reg 0, (s', false)) => Nat.ble (s' + 4) s
    | _, _ => false
   | _ => false
  | _, _ => false
def digX (T : Tab) (fa : Tr Bool) (s : Nat) (u : X) : Bool :=
 match valX T fa 40 u with
 | some (.reg 0, (s', m)) => Nat.beq s s' && (m || (smallX T fa u || numUp T fa u (.lit 16)))
 | _ => false
def isNaN0 (T : Tab) (fa : Tr Bool) : Bool :=
 match factOn T fa 8 [.reg 0, .reg 0] with
 | some false => true
 | _ => false
def nanT : List Nat := [55, 102, 99, 48, 48, 48, 48, 48]
def byteOK (T : Tab) (fa : Tr Bool) (s : Nat) : X → Bool
 | .lit (.ofNat v) => Nat.beq v 48 && zeroDig T fa s
 | .lit _ => false
 | .reg r =>
  match T.defs.get r with
  | some d =>
   match d.a with
   | [l, u, .lit (.ofNat 0)] =>
    match Nat.beq d.f 63, chainB T 64 l with
    | true, some bs => natsBeq (bs.take 16) dig16 && digX T fa s u
    | _, _ => false
   | _ => false
  | none => false
def bytesOK (T : Tab) (fa : Tr Bool) : List Nat → List X → Bool
 | [], [] => true
 | s :: ss, b :: bs => byteOK T fa s b && bytesOK T fa ss bs
 | _, _ => false
def nansOK : List Nat → List X → Bool
 | [], [] => true
 | n :: ns, .lit (.ofNat v) :: bs => Nat.beq n v && nansOK ns bs
 | _, _ => false
def hexLeaf (Γ : Ctx) (F : Func) (T : Tab) (st : St) : Bool :=
 dead T st.fa ||
 match resultsS Γ st F.results.toList with
 | some v =>
  match bytesOf T v with
  | some bs => (isNaN0 T st.fa && nansOK nanT bs) || bytesOK T st.fa shifts8 bs
  | none => false
 | none => false
def allHex (Γ : Ctx) (F : Func) (T : Tab) : Tree → Bool
 | .leaf .normal st => hexLeaf Γ F T st
 | .leaf .ret st => hexLeaf Γ F T st
 | .leaf (.leave _) _ => false
 | .node _ a b => match allHex Γ F T a with
  | true => allHex Γ F T b
  | false => false
def numRun (Γ : Ctx) (F : Func) : Bool :=
 match mk ⟨1, .nil, .nil⟩ 15 [.reg 0, .lit 4294967296] with
 | some (T0, .reg q) =>
  match runL Γ (fun _ => none) (fun _ => none) F 1 [.c (.flt .f32 (.reg 0))] (Tr.ofList fuelT [(q, true)]) T0 with
  | some (T, t) => match goodTab 1 T with
   | true => allHex Γ F T t
   | false => false
  | none => false
 | _ => false
def numS : Summ := fun T st args =>
 match args with
 | [.w (.one (.flt .f32 (.reg r)))] =>
  match factOn T st.fa 15 [.reg r, .lit 4294967296] with
  | some true => match mk T 79 [.reg r] with
   | some (T1, z) => some (T1, .leaf (.c (.str z 8 true)))
   | none => none
  | _ => none
 | _ => none
section
variable {P : Program} {ρ : Nat → Int} {Γ : Ctx}
theorem dig16_get : ∀ d, d < 16 → [((dig16.getD d 0 : Nat) : Int)] = dgE d := by decide
theorem dgE_inj : ∀ d, d < 16 → ∀ e, e < 16 → dgE d = dgE e → d = e := by decide
theorem hexL_inj {a b : Nat} (ha : a < 4294967296) (hb : b < 4294967296) (h : hexL a = hexL b) : a = b := by
 unfold hexL at h
 simp only [List.cons.injEq, and_true] at h
 obtain ⟨h0, h1, h2, h3, h4, h5, h6, h7⟩ := h
 have e0 := dgE_inj _ (by omega) _ (by omega) h0
 have e1 := dgE_inj _ (by omega) _ (by omega) h1
 have e2 := dgE_inj _ (by omega) _ (by omega) h2
 have e3 := dgE_inj _ (by omega) _ (by omega) h3
 have e4 := dgE_inj _ (by omega) _ (by omega) h4
 have e5 := dgE_inj _ (by omega) _ (by omega) h5
 have e6 := dgE_inj _ (by omega) _ (by omega) h6
 have e7 := dgE_inj _ (by omega) _ (by omega) h7
 omega
theorem splitB_spec {T : Tab} (hs : Sat ρ T) : ∀ {f : Nat} {x : X} {bs : List X}, splitB T f x = some bs → x.ev ρ = encE (bs.map fun b => [b.ev ρ])
 | 0, _, _, h => by cases h
 | f + 1, x, bs, h => by
  unfold splitB at h
  split at h
  · rename_i v
    split at h
    · rename_i hv
      cases h
      rw [ibeq_eq hv]; rfl
    · cases h
  · rename_i r
    split at h
    · rename_i d hd
      obtain ⟨df, da⟩ := d
      dsimp only at h
      split at h
      · rename_i b
        split at h
        · rename_i h66
          cases h
          have h66 : df = 66 := Nat.eq_of_beq_eq_true h66
          subst h66
          exact hs r _ hd
        · cases h
      · rename_i y z
        split at h
        · rename_i a b h67 ha hb
          cases h
          have h67 : df = 67 := Nat.eq_of_beq_eq_true h67
          subst h67
          have hr : ρ r = encE (decE (y.ev ρ) ++ decE (z.ev ρ)) := hs r _ hd
          show ρ r = _
          rw [hr, splitB_spec hs ha, splitB_spec hs hb, decE_enc, decE_enc, List.map_append]
        · cases h
      · cases h
    · cases h
theorem bytesOf_spec {T : Tab} (hs : Sat ρ T) {v : SV} {bs : List X} (h : bytesOf T v = some bs) {μ : Mu} {u : Value} (hu : v.rel ρ μ u) : ∃ s : ByteArray, u = .string s ∧ bytesE s = bs.map fun b => [b.ev ρ] := by
 unfold bytesOf at h
 split at h
 · rename_i s
   cases h
   obtain ⟨rfl, _⟩ := hu
   refine ⟨s, rfl, ?_⟩
   unfold bytesE
   rw [List.map_map]; rfl
 · rename_i x n e
   obtain ⟨s, rfl, hx, _⟩ := hu
   refine ⟨s, rfl, ?_⟩
   have := splitB_spec hs h
   rw [hx] at this
   exact encE_inj this
 · cases h
theorem zeroDig_spec {T : Tab} (hs : Sat ρ T) {fa : Tr Bool} (hf : Facts ρ fa) {s : Nat} (h : zeroDig T fa s = true) : (ρ 0).toNat / 2 ^ s = 0 := by
 unfold zeroDig at h
 rw [List.any_eq_true] at h
 obtain ⟨⟨r, b⟩, hm, h⟩ := h
 have hr : (ρ r == 1) = b := by
  obtain ⟨j, e, hj⟩ := Tr.list_spec _ _ _ _ _ hm
  have : r = j := by omega
  subst this
  exact hf r b hj
 split at h
 · rename_i d e1 hd
   have e1 : b = true := e1
   have hd : T.defs.get r = some d := hd
   subst e1
   obtain ⟨df, da⟩ := d
   dsimp only at h
   split at h
   · rename_i u c _
     split at h
     · rename_i s' hb hv
       rw [Bool.and_eq_true] at hb
       have h15 : df = 15 := Nat.eq_of_beq_eq_true hb.1
       subst h15
       have hc := ibeq_eq hb.2
       subst hc
       obtain ⟨_, e⟩ := valX_spec hs hf hv
       have e : u.ev ρ = (((ρ 0).toNat / 2 ^ s' : Nat) : Int) := e
       have e2 : ρ r = b2i (decide (u.ev ρ < 16)) := hs r _ hd
       rw [e2, b2i_eq] at hr
       have hr := of_decide_eq_true hr
       rw [e] at hr
       have hle := Nat.le_of_ble_eq_true h
       have hlt : (ρ 0).toNat / 2 ^ s' < 2 ^ 4 := by omega
       have e3 : s = s' + 4 + (s - (s' + 4)) := by omega
       rw [e3, Nat.pow_add, Nat.pow_add, ← Nat.div_div_eq_div_mul, ← Nat.div_div_eq_div_mul, Nat.div_eq_of_lt hlt, Nat.zero_div]
     · cases h
   · cases h
 · cases h
theorem digX_spec {T : Tab} (hs : Sat ρ T) {fa : Tr Bool} (hf : Facts ρ fa) {s : Nat} {u : X} (h : digX T fa s u = true) : u.ev ρ = (((ρ 0).toNat / 2 ^ s % 16 : Nat) : Int) := by
 unfold digX at h
 split at h
 · rename_i s' m hv
   rw [Bool.and_eq_true] at h
   have e := Nat.eq_of_beq_eq_true h.1
   subst e
   obtain ⟨_, e⟩ := valX_spec hs hf hv
   unfold ValIs at e
   cases m with
   | true => exact e
   | false =>
    have e : u.ev ρ = (((ρ 0).toNat / 2 ^ s : Nat) : Int) := e
    have hlt : u.ev ρ < 16 := by
     have h2 := h.2
     simp only [Bool.false_or, Bool.or_eq_true] at h2
     rcases h2 with h2 | h2
     · obtain ⟨m, em, hm⟩ := smallX_spec hs hf h2
       omega
     · exact numUp_spec hs hf h2
    rw [e] at hlt ⊢
    rw [Nat.mod_eq_of_lt (by omega)]
 · cases h
theorem byteOK_spec {T : Tab} (hs : Sat ρ T) {fa : Tr Bool} (hf : Facts ρ fa) {s : Nat} {b : X} (h : byteOK T fa s b = true) : [b.ev ρ] = dgE ((ρ 0).toNat / 2 ^ s % 16) := by
 unfold byteOK at h
 split at h
 · rename_i v
   rw [Bool.and_eq_true] at h
   have e := Nat.eq_of_beq_eq_true h.1
   subst e
   rw [zeroDig_spec hs hf h.2]; rfl
 · cases h
 · rename_i r
   split at h
   · rename_i d hd
     obtain ⟨df, da⟩ := d
     dsimp only at h
     split at h
     · rename_i l u
       split at h
       · rename_i bs h63 hc
         rw [Bool.and_eq_true] at h
         have h63 : df = 63 := Nat.eq_of_beq_eq_true h63
         subst h63
         obtain ⟨e, _⟩ := chainB_spec hs hc
         have hu := digX_spec hs hf h.2
         have hr : ρ r = cellE (decE (l.ev ρ)) (u.ev ρ) (0 : Int).toNat := hs r _ hd
         have hlt : (ρ 0).toNat / 2 ^ s % 16 < 16 := Nat.mod_lt _ (by decide)
         rw [e, decE_enc, hu] at hr
         generalize (ρ 0).toNat / 2 ^ s % 16 = m at *
         rw [← dig16_get _ hlt]
         show [ρ r] = _
         rw [hr]
         have hb := natsBeq_eq h.1
         have h16 : bs[m]? = dig16[m]? := by
          rw [← hb, List.getElem?_take_of_lt hlt]
         have hsome : ∃ q, dig16[m]? = some q := ⟨_, List.getElem?_eq_getElem (show _ < dig16.length from hlt)⟩
         obtain ⟨q, hq⟩ := hsome
         rw [hq] at h16
         unfold cellE
         simp [List.getD_eq_getElem?_getD, List.getElem?_map, h16, hq, B1]
       · cases h
     · cases h
   · cases h
theorem bytesOK_spec {T : Tab} (hs : Sat ρ T) {fa : Tr Bool} (hf : Facts ρ fa) : ∀ {ss : List Nat} {bs : List X}, bytesOK T fa ss bs = true → (bs.map fun b => [b.ev ρ]) = ss.map fun s => dgE ((ρ 0).toNat / 2 ^ s % 16)
 | [], [], _ => rfl
 | s :: ss, b :: bs, h => by
  unfold bytesOK at h
  rw [Bool.and_eq_true] at h
  rw [List.map_cons, List.map_cons, byteOK_spec hs hf h.1, bytesOK_spec hs hf h.2]
 | [], _ :: _, h => by cases h
 | _ :: _, [], h => by cases h
theorem nansOK_spec : ∀ {ns : List Nat} {bs : List X}, nansOK ns bs = true → (bs.map fun b => [b.ev ρ]) = ns.map B1
 | [], [], _ => rfl
 | n :: ns, .lit (.ofNat v) :: bs, h => by
  unfold nansOK at h
  rw [Bool.and_eq_true] at h
  have e := Nat.eq_of_beq_eq_true h.1
  subst e
  rw [List.map_cons, List.map_cons, nansOK_spec h.2]; rfl
 | [], _ :: _, h => by cases h
 | _ :: _, [], h => by cases h
 | _ :: _, .lit (.negSucc _) :: _, h => by cases h
 | _ :: _, .reg _ :: _, h => by cases h
theorem shifts8_hex (n : Nat) : (shifts8.map fun s => dgE (n / 2 ^ s % 16)) = hexL n := by
 unfold shifts8 hexL
 simp
theorem nan_hex : nanT.map B1 = hexL 2143289344 := by decide
theorem hexLeaf_spec (hΓ : Γ.ok P) {F : Func} {T : Tab} (hs : Sat ρ T) {st : St} (h : hexLeaf Γ F T st = true) {w0 : Base} {μ : Mu} {a : Act} {w : World} (hw : StRel ρ w0 μ st a w) {b : Nat} (hx : (canon .f32 b : Int) = ρ 0) :
  ∃ s : ByteArray, (results F a.tmps).run P w = .ok (.string s) w ∧ bytesE s = hexL (ρ 0).toNat := by
 unfold hexLeaf at h
 rw [Bool.or_eq_true] at h
 rcases h with h | h
 · exact (dead_spec hs hw.fa h).elim
 split at h
 case h_2 => cases h
 rename_i v hr
 obtain ⟨u, hv, hrel⟩ := resultsS_sound hΓ hr hw
 split at h
 case h_2 => cases h
 rename_i bs hb
 obtain ⟨s, rfl, e⟩ := bytesOf_spec hs hb hrel
 refine ⟨s, hv, ?_⟩
 rw [Bool.or_eq_true, Bool.and_eq_true] at h
 rcases h with ⟨h1, h2⟩ | h
 · unfold isNaN0 at h1
   split at h1
   · rename_i hq
     have e1 := factOn_spec hs hw.fa hq
     have e1 : (b2i (fcmp .eql .f32 (ρ 0).toNat (ρ 0).toNat) == 1) = false := e1
     rw [b2i_eq] at e1
     rw [← hx] at e1
     have e1 : fcmp .eql .f32 (canon .f32 b) (canon .f32 b) = false := e1
     have hn : isN .f32 (canon .f32 b) = true := by
      cases hn : isN .f32 (canon .f32 b) with
      | true => rfl
      | false => rw [(eql_iff _ _ _).2 ⟨hn, hn, rfl⟩] at e1; cases e1
     rw [isN_canon] at hn
     rw [canon_nan hn] at hx
     rw [e, nansOK_spec h2, nan_hex, ← hx]; rfl
   · cases h1
 · rw [e, bytesOK_spec hs hw.fa h, shifts8_hex]
theorem allHex_sat (hΓ : Γ.ok P) {F : Func} {T : Tab} (hs : Sat ρ T) (w0 : Base) {μ : Mu} {b : Nat} (hx : (canon .f32 b : Int) = ρ 0) {R : Value → World → Prop}
  (hR : ∀ (s : ByteArray) w, Kept w0 w → bytesE s = hexL (ρ 0).toNat → R (.string s) w) :
  ∀ {t : Tree}, allHex Γ F T t = true → t.sat ρ (Leafs ρ w0 (bodyPost P F fun e w' => ∃ v, e = .returned v ∧ R v w') μ)
 | .leaf .normal st, h => fun μ a w _ hw => by
  obtain ⟨s, hv, e⟩ := hexLeaf_spec hΓ hs h hw hx
  exact ⟨hw.defers, _, hv, _, rfl, hR s w hw.wr.kept e⟩
 | .leaf .ret st, h => fun μ a w _ hw => by
  obtain ⟨s, hv, e⟩ := hexLeaf_spec hΓ hs h hw hx
  exact ⟨hw.defers, _, hv, _, rfl, hR s w hw.wr.kept e⟩
 | .leaf (.leave id) st, h => by cases h
 | .node r a c, h => by
  unfold allHex at h
  split at h
  · rename_i ha
    simp only [Tree.sat]
    split
    · exact allHex_sat hΓ hs w0 hx hR ha
    · exact allHex_sat hΓ hs w0 hx hR h
  · cases h
theorem numS_ok (hΓ : Γ.ok P) (hsum : ∀ f s, Γ.summ f = some s → SummOK P f s) {f : Nat} {F : Func} (hF : P.funcs[f]? = some F) (hname : (F.name == "runtime.NumGoroutine") = false)
  (hrun : numRun Γ F = true) : SummOK P f numS := by
 intro T st args T1 vt h ρ hs
 unfold numS at h
 split at h
 case h_2 => cases h
 rename_i r
 split at h
 case h_2 => cases h
 rename_i hq
 split at h
 case h_2 => cases h
 rename_i T2 z hz
 cases h
 obtain ⟨s0, ez⟩ := mk_spec hz hs
 refine ⟨s0, fun w0 μ nb bs vs w hf _ hwr hvs => ?_⟩
 have efa := factOn_spec s0 hf hq
 have efa : (b2i (decide (ρ r < 4294967296)) == 1) = true := efa
 obtain ⟨l⟩ := vs
 match l, hvs with
 | [u], hvs =>
  obtain ⟨b, rfl, hb⟩ := hvs.1
  have hb : (canon .f32 b : Int) = ρ r := hb
  unfold numRun at hrun
  split at hrun
  case h_2 => cases hrun
  rename_i T0 q hm
  split at hrun
  case h_2 => cases hrun
  rename_i T3 t hr
  split at hrun
  case h_2 => cases hrun
  rename_i hg
  unfold runL at hr
  split at hr
  case h_2 => cases hr
  rename_i c hbody
  obtain ⟨ρ', hin, hs'⟩ := exists_rho hg (fun _ => ρ r)
  have h0 : ρ' 0 = ρ r := hin 0 (by omega)
  obtain ⟨s1, hwp⟩ := execX_sound hΓ hsum (fun _ _ h => by cases h) 400 ρ' _ _ _ _ _ hr hs'
  obtain ⟨_, eq⟩ := mk_spec hm s1
  have eq : ρ' q = b2i (decide (ρ' 0 < 4294967296)) := eq
  have hrel : svsRel ρ' (fun _ => none) [.c (.flt .f32 (.reg 0))] [Value.float .f32 b] := ⟨⟨b, rfl, by rw [hb]; exact h0.symm⟩, trivial⟩
  have hfr := frame_enter (vs := #[Value.float .f32 b]) hrel F.ntmps
  have hwr0 : WR ρ' (Base.all w hwr.tabs) (fun _ => none) (1 + 10) .nil w :=
   ⟨⟨rfl, rfl, rfl, Nat.le_refl _, fun _ _ => rfl⟩, (fun _ _ _ _ _ _ h => by cases h), (fun _ _ _ => rfl), (fun _ _ _ h => by cases h), (fun _ _ h => by cases h), (fun _ _ _ h => by cases h), (fun _ _ => rfl)⟩
  have hfacts : Facts ρ' (Tr.ofList fuelT [(q, true)]) := fun r' b' hb' => by
   rcases Tr.get_set_some _ _ _ _ _ _ hb' with ⟨rfl, rfl⟩ | ⟨_, h⟩
   · rw [eq, h0]; exact efa
   · cases h
  refine callOK_of hΓ hF hname hbody (calls_of_wp hF hbody (hwp (Base.all w hwr.tabs) (fun _ => none) _ w _ ⟨rfl, hfr, hwr0, hfacts⟩ ?_))
  refine allHex_sat hΓ hs' _ (hb.trans h0.symm) (fun s w' hk e => ?_) hrun
  refine ⟨⟨s, rfl, ?_, ?_, fun _ => ?_⟩, hwr.after hk.below⟩
  · have ez : z.ev ρ = encE (hexL (ρ r).toNat) := ez
    rw [ez, e, h0]
  · have := bytesE_len s
    rw [e] at this
    rw [← this]; exact Nat.le_refl 8
  · have := bytesE_len s
    rw [e] at this
    rw [← this]; rfl
end
end
end Go.Sx

namespace Go.Sx
noncomputable section
open Go.RowKit
def jnC (sx : X) (sn : Nat) (se : Bool) : Tab → X × (Nat × Bool) → List SC → Option (Tab × (X × (Nat × Bool)))
 | T, acc, [] => some (T, acc)
 | T, (x, (n, e)), c :: l =>
  match strOf T (.c c) with
  | some (T1, (y, m)) =>
   match catX T1 x sx with
   | some (T2, u) =>
    match catX T2 u y with
    | some (T3, z) => jnC sx sn se T3 (z, (n + sn + m, (e && se) && exactS (.c c))) l
    | none => none
   | none => none
  | none => none
def rowOf : SC → Option (Nat × (Nat × Nat))
 | .slc i o l c => match Nat.ble l c with
  | true => some (i, (o, l))
  | false => none
 | .own i l => some (i, (0, l))
 | _ => none
def joinS : Summ := fun T st args =>
 match args with
 | [.w (.one c), sep] =>
  match rowOf c, strOf T sep with
  | some (i, (o, l)), some (T0, (sx, sn)) =>
   match st.bs.get i with
   | some B =>
    match isMany B.cells, cut B.cells o l with
    | false, some (c0 :: m) =>
     match strOf T0 (.c c0) with
     | some (T1, (x, n)) =>
      match jnC sx sn (exactS sep) T1 (x, (n, exactS (.c c0))) m with
      | some (T2, (z, (k, e))) =>
       match Nat.ble k 1099511627776 && Nat.ble l 1000 with
       | true => some (T2, .leaf (.c (.str z k e)))
       | false => none
      | none => none
     | none => none
    | _, _ => none
   | none => none
  | _, _ => none
 | _ => none
def JoinOK (P : Program) (f : Nat) : Prop :=
 ∀ (bk o c : Nat) (xs : List ByteArray) (sep : ByteArray) (w : World), (∀ (j : Nat) x, xs[j]? = some x → w.cell? ⟨bk, o + j, none⟩ = some (.string x)) →
  bk < w.heap.size → xs.length ≤ 140737488355328 → xs.length ≤ c → (Lib.join (xs.map (·.data.toList)) sep.data.toList).length ≤ 140737488355328 →
  Calls P f #[.slice (some ⟨bk, o, none⟩) xs.length c, .string sep] w fun e w' => e = .returned (.string ⟨(Lib.join (xs.map (·.data.toList)) sep.data.toList).toArray⟩) ∧ Below w.heap.size w w'
section
variable {P : Program} {ρ : Nat → Int} {Γ : Ctx}
def bytesL (l : List UInt8) : List (List Int) := l.map fun b => [((b.toNat : Nat) : Int)]
theorem bytesL_app (a b : List UInt8) : bytesL (a ++ b) = bytesL a ++ bytesL b := List.map_append
theorem jnC_spec {sx : X} {sn : Nat} {se : Bool} : ∀ {l : List SC} {T T' : Tab} {x z : X} {n k : Nat} {e0 e : Bool}, jnC sx sn se T (x, (n, e0)) l = some (T', (z, (k, e))) → Sat ρ T' →
  Sat ρ T ∧ ∀ μ (vs : List Value) (A sep : List UInt8), cellsRel ρ μ l vs → x.ev ρ = encE (bytesL A) → A.length ≤ n → (e0 = true → A.length = n) → sx.ev ρ = encE (bytesL sep) → sep.length ≤ sn → (se = true → sep.length = sn) →
   ∃ ss : List ByteArray, vs = ss.map Value.string ∧ z.ev ρ = encE (bytesL (A ++ Lib.joinTail sep (ss.map (·.data.toList)))) ∧ (A ++ Lib.joinTail sep (ss.map (·.data.toList))).length ≤ k ∧
    (e = true → (A ++ Lib.joinTail sep (ss.map (·.data.toList))).length = k)
 | [], T, T', x, z, n, k, e0, e, h, hs => by
  unfold jnC at h
  cases h
  refine ⟨hs, fun μ vs A sep hv hx hn he _ _ _ => ?_⟩
  match vs, hv with
  | [], _ =>
   refine ⟨[], rfl, ?_, ?_, ?_⟩ <;> simp [Lib.joinTail] <;> assumption
 | c :: l, T, T', x, z, n, k, e0, e, h, hs => by
  unfold jnC at h
  split at h
  case h_2 => cases h
  rename_i T1 y m h1
  split at h
  case h_2 => cases h
  rename_i T2 u h2
  split at h
  case h_2 => cases h
  rename_i T3 t h3
  obtain ⟨s3, k4⟩ := jnC_spec h hs
  obtain ⟨s2, k3⟩ := catX_spec h3 s3
  obtain ⟨s1, k2⟩ := catX_spec h2 s2
  obtain ⟨s0, k1⟩ := strOf_spec h1 s1
  refine ⟨s0, fun μ vs A sep hv hx hn he hsx hsn hse => ?_⟩
  match vs, hv with
  | v :: vs, hv =>
   obtain ⟨s, rfl, es, hm, hme⟩ := k1 μ v hv.1
   have eu := k2 _ _ hx hsx
   have et := k3 _ _ eu (show y.ev ρ = encE (bytesL s.data.toList) from es)
   rw [← bytesL_app, ← bytesL_app] at et
   have hsz : s.data.toList.length = s.size := Array.length_toList
   obtain ⟨ss, rfl, ez, hk, hke⟩ := k4 μ vs (A ++ sep ++ s.data.toList) sep hv.2 et (by simp only [List.length_append]; omega) (fun hb => by
    simp only [Bool.and_eq_true] at hb
    have a1 := he hb.1.1
    have a2 := hse hb.1.2
    have a3 := hme hb.2
    simp only [List.length_append]; omega) hsx hsn hse
   have ej : A ++ Lib.joinTail sep ((s :: ss).map (·.data.toList)) = (A ++ sep ++ s.data.toList) ++ Lib.joinTail sep (ss.map (·.data.toList)) := by
    simp [Lib.joinTail]
   refine ⟨s :: ss, rfl, ?_, ?_, ?_⟩
   · rw [ej]; exact ez
   · rw [ej]; exact hk
   · rw [ej]; exact hke
theorem joinS_ok (hΓ : Γ.ok P) {f : Nat} {F : Func} (hF : P.funcs[f]? = some F) (hname : (F.name == "runtime.NumGoroutine") = false) {code : Code} (hb : F.body = some code) (hj : JoinOK P f) : SummOK P f joinS := by
 intro T st args T1 vt h ρ hs
 unfold joinS at h
 split at h
 case h_2 => cases h
 rename_i c sep
 split at h
 case h_2 => cases h
 rename_i i o l T0 sx sn hrow hsep
 split at h
 case h_2 => cases h
 rename_i B hB
 split at h
 case h_2 => cases h
 rename_i c0 m hmany hcut
 split at h
 case h_2 => cases h
 rename_i T2 x n hc0
 split at h
 case h_2 => cases h
 rename_i T3 z k e hjl
 split at h
 case h_2 => cases h
 rename_i hk
 cases h
 rw [Bool.and_eq_true] at hk
 have hk1 := Nat.le_of_ble_eq_true hk.1
 have hk2 := Nat.le_of_ble_eq_true hk.2
 obtain ⟨s2, k3⟩ := jnC_spec hjl hs
 obtain ⟨s1, k2⟩ := strOf_spec hc0 s2
 obtain ⟨s0, k1⟩ := strOf_spec hsep s1
 refine ⟨s0, fun w0 μ nb bs vs w hf hbs hwr hvs => ?_⟩
 obtain ⟨lv⟩ := vs
 match lv, hvs with
 | [v, u], hvs =>
  obtain ⟨sp, rfl, esp, hsn, hse⟩ := k1 μ u hvs.2.1
  have hv : ∃ p cap, μ i = some p ∧ v = .slice (some ⟨p.1, o, none⟩) l cap ∧ l ≤ cap := by
   unfold rowOf at hrow
   split at hrow
   · split at hrow
     · rename_i hle
       cases hrow
       obtain ⟨p, hp, e⟩ := hvs.1
       exact ⟨p, _, hp, e, Nat.le_of_ble_eq_true hle⟩
     · cases hrow
   · cases hrow
     obtain ⟨p, hp, e, hle, _⟩ := hvs.1
     exact ⟨p, _, hp, e, hle⟩
   · cases hrow
  obtain ⟨p, cap, hp, rfl, hcap⟩ := hv
  obtain ⟨p', cs, hp', hh, hcsz, hbg⟩ := hwr.blk i B (hbs i B hB)
  have e1 : p' = p := by rw [hp'] at hp; exact Option.some.inj hp
  subst e1
  obtain ⟨ws, rest, hcs, hr⟩ := hbg.plain hmany
  obtain ⟨hle, hcutE⟩ := cut_spec hcut
  have hlen := cellsRel_length hr
  have hseg := cellsRel_take l (cellsRel_drop o hr)
  rw [← hcutE] at hseg
  have hsegl : ((ws.drop o).take l).length = l := by rw [List.length_take, List.length_drop]; omega
  match hsg : (ws.drop o).take l, hseg with
  | v0 :: vr, hseg =>
   obtain ⟨x0, rfl, ex0, hx0, hx0e⟩ := k2 μ v0 hseg.1
   obtain ⟨ss, rfl, ez, hkl, hke⟩ := k3 μ vr x0.data.toList sp.data.toList hseg.2 ex0 (by rw [Array.length_toList]; exact hx0) (fun h => by rw [Array.length_toList]; exact hx0e h) esp (by rw [Array.length_toList]; exact hsn) (fun h => by rw [Array.length_toList]; exact hse h)
   have hl : l = (x0 :: ss).length := by rw [hsg] at hsegl; simpa using hsegl.symm
   have hjoin : Lib.join ((x0 :: ss).map (·.data.toList)) sp.data.toList = x0.data.toList ++ Lib.joinTail sp.data.toList (ss.map (·.data.toList)) := Lib.join_cons _ _ _
   have hcell : ∀ (j : Nat) x, (x0 :: ss)[j]? = some x → w.cell? ⟨p'.1, o + j, none⟩ = some (.string x) := by
    intro j y hy
    have h1 : ((ws.drop o).take l)[j]? = some (.string y) := by
     rw [hsg]
     have : (Value.string x0 :: ss.map Value.string) = (x0 :: ss).map Value.string := rfl
     rw [this, List.getElem?_map, hy]; rfl
    have hjl : j < l := by
     have := (List.getElem?_eq_some_iff.1 h1).1
     omega
    rw [List.getElem?_take_of_lt hjl, List.getElem?_drop] at h1
    have h2 : cs[o + j]? = some (.string y) := by
     rw [← Array.getElem?_toList, hcs, List.getElem?_append_left (by omega)]; exact h1
    simp [World.cell?, hh, h2]
   have hbk : p'.1 < w.heap.size := (Array.getElem?_eq_some_iff.1 hh).1
   have hcall := hj p'.1 o cap (x0 :: ss) sp w hcell hbk (by omega) (by omega) (by rw [hjoin]; omega)
   rw [← hl] at hcall
   refine callOK_of hΓ hF hname hb (hcall.mono ?_)
   rintro en w' ⟨rfl, hbw⟩
   refine ⟨_, rfl, ⟨_, rfl, ?_, ?_, ?_⟩, hwr.after hbw⟩
   · rw [hjoin, ez]; rfl
   · rw [hjoin]
     show (List.toArray _).size ≤ k
     rw [List.size_toArray]; exact hkl
   · intro he
     rw [hjoin]
     show (List.toArray _).size = k
     rw [List.size_toArray]; exact hke he
end
end
end Go.Sx

namespace Go.Sx
noncomputable section
open Go.RowKit Go.ChangeShapes Go.WideShapes Go.ChangeAt
def f32C : List SC → List Nat
 | [] => []
 | .flt .f32 (.reg r) :: l => r :: f32C l
 | _ :: l => f32C l
def f32V : List SV → List Nat
 | [] => []
 | .w (.one c) :: l => f32C [c] ++ f32V l
 | .w (.agg cs) :: l => f32C cs ++ f32V l
 | _ :: l => f32V l
def addFacts : List Nat → Tab → Tr Bool → Option (Tab × Tr Bool)
 | [], T, fa => some (T, fa)
 | r :: l, T, fa =>
  match mk T 15 [.reg r, .lit 4294967296] with
  | some (T1, .reg q) => addFacts l T1 (fa.set fuelT q true)
  | _ => none
def lawOKT (Γ : Ctx) (F : Func) (ks : List AK) : Bool :=
 match addFacts (f32V (symA 0 ks)) ⟨sizeA ks, .nil, .nil⟩ .nil, F.body with
 | some (T0, fa), some c =>
  match execX Γ (fun _ => none) (fun _ => none) 400 c T0 ⟨(symA 0 ks).length + (F.ntmps - (symA 0 ks).length), frameOf 0 (symA 0 ks), 0, .nil, fa⟩ with
  | some (T, t) => match goodTab (sizeA ks) T with
   | true => allTrue Γ F T t
   | false => false
  | none => false
 | _, _ => false
def FB : Value → Prop
 | .float .f32 b => b < 4294967296
 | .agg cs => ∀ b, Value.float .f32 b ∈ cs.toList → b < 4294967296
 | _ => True
section
variable {P : Program} {ρ : Nat → Int} {Γ : Ctx}
theorem As_len : ∀ {ks : List AK} {vs : List Value}, As ks vs → vs.length = ks.length
 | [], [], _ => rfl
 | _ :: _, _ :: _, h => by rw [List.length_cons, List.length_cons, As_len h.2]
 | [], _ :: _, h => h.elim
 | _ :: _, [], h => h.elim
theorem canon_lt {b : Nat} (h : b < 4294967296) : canon .f32 b < 4294967296 := by
 unfold canon
 split
 · show (2143289344 : Nat) < _; omega
 · exact h
theorem f32C_spec {μ : Mu} : ∀ {l : List SC} {vs : List Value}, cellsRel ρ μ l vs → (∀ b, Value.float .f32 b ∈ vs → b < 4294967296) → ∀ r ∈ f32C l, ρ r < 4294967296
 | [], _, _, _, r, hr => by cases hr
 | c :: l, [], h, _, _, _ => h.elim
 | c :: l, v :: vs, h, hb, r, hr => by
  have ih := f32C_spec h.2 (fun b hm => hb b (List.mem_cons_of_mem _ hm))
  unfold f32C at hr
  split at hr
  · cases hr
  · rename_i r' l' e
    cases e
    rcases List.mem_cons.1 hr with rfl | hr
    · obtain ⟨b, rfl, e⟩ := h.1
      have e : (canon .f32 b : Int) = ρ r := e
      have := canon_lt (hb b List.mem_cons_self)
      omega
    · exact ih r hr
  · rename_i e
    cases e
    exact ih r hr
theorem f32V_spec {μ : Mu} : ∀ {l : List SV} {vs : List Value}, svsRel ρ μ l vs → (∀ v ∈ vs, FB v) → ∀ r ∈ f32V l, ρ r < 4294967296
 | [], _, _, _, r, hr => by cases hr
 | c :: l, [], h, _, _, _ => h.elim
 | c :: l, v :: vs, h, hb, r, hr => by
  have ih := f32V_spec h.2 (fun u hm => hb u (List.mem_cons_of_mem _ hm))
  have h1 := h.1
  have hv := hb v List.mem_cons_self
  unfold f32V at hr
  split at hr
  · cases hr
  · rename_i c' l' e
    cases e
    rcases List.mem_append.1 hr with hr | hr
    · refine f32C_spec (μ := μ) (l := [c']) (vs := [v]) ⟨h1, trivial⟩ (fun b hm => ?_) r hr
      rw [List.mem_singleton] at hm
      subst hm
      exact hv
    · exact ih r hr
  · rename_i cs l' e
    cases e
    rcases List.mem_append.1 hr with hr | hr
    · obtain ⟨vs', rfl, hc⟩ := h1
      exact f32C_spec hc hv r hr
    · exact ih r hr
  · rename_i e
    cases e
    exact ih r hr
theorem addFacts_spec : ∀ {l : List Nat} {T T' : Tab} {fa fa' : Tr Bool}, addFacts l T fa = some (T', fa') → Sat ρ T' → (∀ r ∈ l, ρ r < 4294967296) → Facts ρ fa → Facts ρ fa'
 | [], T, T', fa, fa', h, _, _, hf => by cases h; exact hf
 | r :: l, T, T', fa, fa', h, hs, hr, hf => by
  unfold addFacts at h
  split at h
  · rename_i T1 q hm
    have s1 : ∀ {l : List Nat} {T T' : Tab} {fa fa' : Tr Bool}, addFacts l T fa = some (T', fa') → Sat ρ T' → Sat ρ T := by
     intro l
     induction l with
     | nil => intro T T' fa fa' h hs; cases h; exact hs
     | cons r l ih =>
      intro T T' fa fa' h hs
      unfold addFacts at h
      split at h
      · rename_i T1 q hm
        exact (mk_spec hm (ih h hs)).1
      · cases h
    obtain ⟨_, e⟩ := mk_spec hm (s1 h hs)
    refine addFacts_spec h hs (fun r' h' => hr r' (List.mem_cons_of_mem _ h')) (hf.set ?_)
    have e : ρ q = b2i (decide (ρ r < 4294967296)) := e
    rw [e, b2i_eq]
    exact decide_eq_true (hr r List.mem_cons_self)
  · cases h
theorem run_trueT (hΓ : Γ.ok P) (hsum : ∀ f s, Γ.summ f = some s → SummOK P f s) {f : Nat} {F : Func} (hF : P.funcs[f]? = some F) {ks : List AK}
  (hrun : lawOKT Γ F ks = true) {vs : Array Value} (hvs : As ks vs.toList) (hb : ∀ v ∈ vs.toList, FB v) (w : World) (hT : TabOK w) :
  Calls P f vs w fun e w' => e = .returned (.bool true) ∧ Below w.heap.size w w' := by
 unfold lawOKT at hrun
 split at hrun
 case h_2 => cases hrun
 rename_i T0 fa c ha hbody
 split at hrun
 case h_2 => cases hrun
 rename_i T t hr
 split at hrun
 case h_2 => cases hrun
 rename_i hg
 obtain ⟨ρ, hin, hs⟩ := exists_rho hg (fun r => ((flat ks vs.toList)[r]?.map inOf).getD 0)
 have hfl := flat_length hvs
 have hrel : svsRel ρ (fun _ => none) (symA 0 ks) vs.toList := symA_rel hvs fun j v hj => by
  have hlt := (List.getElem?_eq_some_iff.1 hj).1
  rw [Nat.zero_add, hin j (by omega), hj]; rfl
 obtain ⟨s0, hwp⟩ := execX_sound hΓ hsum (fun _ _ h => by cases h) 400 ρ _ _ _ _ _ hr hs
 have hfr := frame_enter hrel F.ntmps
 have hfa := addFacts_spec ha s0 (f32V_spec hrel hb) (fun r b h => by cases h)
 refine calls_of_wp hF hbody (hwp (Base.all w hT) (fun _ => none) _ w _ ⟨rfl, hfr, WR.none w _, hfa⟩ ?_)
 exact allTrue_sat hΓ hs w hT hrun
theorem cell_f32 {w : World} {r : Reach} {base : Nat} {u : TypeId} {b : Nat} (h : Cell.okWide P w r base u (.float .f32 b)) : b < 4294967296 := by
 have h2 : Cell.ok P w r base u (.float .f32 b) := by
  unfold Cell.okWide at h
  split at h
  all_goals first | exact h | (rename_i e; cases e)
 unfold Cell.ok at h2
 split at h2
 all_goals first | exact h2.elim | (rename_i e; cases e; obtain ⟨rfl, h3⟩ := h2; exact h3) | (rename_i e; cases e)
theorem okWide_FB {w : World} {r : Reach} {base : Nat} {t : TypeId} {v : Value} (h : Value.okWide P w r base t v) : FB v := by
 unfold Value.okWide at h
 have one : Cell.okWide P w r base t v → FB v := by
  intro h
  cases v with
  | float k b => cases k with
   | f32 => exact cell_f32 h
   | f64 => trivial
  | agg cs =>
   exfalso
   unfold Cell.okWide at h
   split at h <;> first | (rename_i e2; cases e2; done) | skip
   all_goals (unfold Cell.ok at h; split at h <;> first | (rename_i e2; cases e2; done) | exact h)
  | _ => trivial
 have row : (∃ cs, v = .agg cs ∧ cs.size = P.cellsOf t ∧ Row.okWide P w r base t cs) → FB v := by
  rintro ⟨cs, rfl, _, ts, _, _, hc⟩ b hm
  obtain ⟨i, hi⟩ := List.mem_iff_getElem?.1 hm
  obtain ⟨u, _, hu⟩ := hc i _ (by rw [← Array.getElem?_toList]; exact hi)
  exact cell_f32 hu
 split at h
 · exact row h
 · exact row h
 · exact one h
end
end
end Go.Sx

namespace Go.Sx
noncomputable section
open Go.RowKit Go.ChangeShapes Go.WideShapes Go.ChangeAt
def shortX (T : Tab) (fa : Tr Bool) (x : X) (n : Nat) : Bool :=
 Nat.ble n 1048576 ||
 match look T 62 [x] with
 | some r => match factOn T fa 15 [.lit 1048576, .reg r] with
  | some b => !b
  | none => false
 | none => false
def sepOf (a : Bool) : SV → Option Nat
 | .w (.one (.int .u8 (.lit (.ofNat c)))) => match a && Nat.blt c 256 with
  | true => some c
  | false => none
 | .w (.one (.raw (.string s))) => match a, s.data.toList with
  | false, [b] => some b.toNat
  | _, _ => none
 | _ => none
def partsL (L : X) : Nat → Nat → Tab → Option (Tab × List SC)
 | 0, _, T => some (T, [])
 | n + 1, j, T =>
  match mk T 63 [L, .lit (.ofNat j), .lit 0] with
  | some (T1, y) => match partsL L n (j + 1) T1 with
   | some (T2, l) => some (T2, .str y 1048576 false :: l)
   | none => none
  | none => none
def ownM (st : St) (e : Nat) (cs : List SC) : MT := .leaf (st.nb + 1) (st.bs.set fuelT st.nb ⟨cs, e⟩) (.c (.own st.nb cs.length))
def glM (st : St) (e : Nat) (L : X) : MT := .leaf (st.nb + 1) (st.bs.set fuelT st.nb ⟨[.many [11] L], e⟩) (.c (.gl st.nb [11] L))
def partsNo (k c : Nat) : Nat :=
 match Nat.beq c 32 with
 | true => k
 | false => 8
def splitS (a : Bool) (e k : Nat) : MFn := fun T st args =>
 match args with
 | [.w (.one (.str x n _)), sep] =>
  match sepOf a sep, shortX T st.fa x n && !(Nat.ble maxReg st.nb) with
  | some c, true =>
   match mk T 81 [x, .lit (.ofNat c)] with
   | some (T1, L) =>
    match mk T1 62 [L] with
    | some (T2, r) =>
     match mk T2 14 [.lit (.ofNat (partsNo k c)), r] with
     | some (T3, .reg q) =>
      match partsL L (partsNo k c) 0 T3 with
      | some (T4, cs) => some (T4, .node q (ownM st e cs) (glM st e L))
      | none => none
     | _ => none
    | none => none
   | none => none
  | _, _ => none
 | _ => none
def goodM (st : St) (e : Nat) (cs : List SC) : MT := .leaf (st.nb + 1) (st.bs.set fuelT st.nb ⟨cs, e⟩) (.tup [.one (.own st.nb cs.length), .one (.bool (.lit 1))])
def badM (st : St) (e : Nat) : MT := .leaf (st.nb + 1) (st.bs.set fuelT st.nb ⟨[], e⟩) (.tup [.one (.own st.nb 0), .one (.bool (.lit 0))])
def listM (st : St) (e : Nat) (M : X) : MT := .leaf (st.nb + 1) (st.bs.set fuelT st.nb ⟨[.many [8] M], e⟩) (.tup [.one (.gl st.nb [8] M), .one (.bool (.lit 1))])
def okChain (st : St) (e : Nat) : List SC → Tab → List SC → Option (Tab × MT)
 | [], T, cs => some (T, goodM st e cs)
 | .str y n _ :: l, T, cs =>
  match Nat.ble n 1048576, mk T 84 [y] with
  | true, some (T2, .reg q) =>
   match mk T2 83 [y] with
   | some (T3, z) =>
    match okChain st e l T3 (cs ++ [.flt .f32 z]) with
    | some (T4, m) => some (T4, .node q m (badM st e))
    | none => none
   | none => none
  | _, _ => none
 | _, _, _ => none
def numbersS (e : Nat) : MFn := fun T st args =>
 match args with
 | [.w (.one (.own i n))] =>
  match st.bs.get i, Nat.ble maxReg st.nb with
  | some B, false =>
   match !(isMany B.cells) && (Nat.beq n B.cells.length && Nat.ble n 1000) with
   | true => okChain st e B.cells T []
   | false => none
  | _, _ => none
 | [.w (.one (.gl i [11] L))] =>
  match st.bs.get i, Nat.ble maxReg st.nb with
  | some B, false =>
   match cellsBeq B.cells [.many [11] L], mk T 85 [L] with
   | true, some (T3, M) =>
    match mk T3 86 [L] with
    | some (T4, .reg p) => some (T4, .node p (listM st e M) (badM st e))
    | _ => none
   | _, _ => none
  | _, _ => none
 | _ => none
def readS : Summ := fun T _ args =>
 match args with
 | [.w (.one (.str y n _))] =>
  match Nat.ble n 1048576, mk T 84 [y] with
  | true, some (T1, .reg q) =>
   match mk T1 83 [y] with
   | some (T2, z) => some (T2, .node q (.leaf (.tup [.one (.flt .f32 z), .one (.int .i64 (.lit 0))])) (.leaf (.tup [.one (.flt .f32 (.lit 0)), .one (.int .i64 (.lit 5))])))
   | none => none
  | _, _ => none
 | _ => none
def lawOKS (Γ : Ctx) (mks : Nat → Option MK) (F : Func) : Bool :=
 match F.body with
 | some c =>
  match execX Γ (fun _ => none) mks 400 c ⟨1, .nil, .nil⟩ ⟨1 + (F.ntmps - 1), frameOf 0 [.c (.str (.reg 0) 9223372036854775807 false)], 0, .nil, .nil⟩ with
  | some (T, t) => match goodTab 1 T with
   | true => allTrue Γ F T t
   | false => false
  | none => false
 | none => false
def SepIs (a : Bool) (c : Nat) (v : Value) : Prop :=
 match a with
 | true => v = .int .u8 (c : Nat) ∧ c < 256
 | false => ∃ b : UInt8, b.toNat = c ∧ v = .string ⟨#[b]⟩
def SplitOK (P : Program) (f : Nat) (a : Bool) (e : Nat) : Prop :=
 ∀ (s : ByteArray) (c : Nat) (sv : Value) (w : World), s.size ≤ 1048576 → SepIs a c sv → TabOK w → CallOK P f #[.string s, sv] w fun x w' =>
  ∃ (ps : List ByteArray) (g : Nat) (cs : Array Value), x = .slice (some ⟨g, 0, none⟩) ps.length cs.size ∧ w.heap.size ≤ g ∧ w'.heap[g]? = some (.cells cs e (0, 0)) ∧ ps.length ≤ cs.size ∧ cs.size ≤ maxLen ∧
   (∀ (j : Nat) p, ps[j]? = some p → cs[j]? = some (.string p)) ∧ (ps.map fun p => [encE (bytesE p)]) = wordsE (c : Int) (bytesE s) ∧ (∀ p ∈ ps, p.size ≤ 1048576) ∧ ps.length ≤ 1048577 ∧ Below w.heap.size w w'
noncomputable def numV (s : ByteArray) : Value := .float .f32 (numOf (bytesE s))
def NumsOK (P : Program) (f e : Nat) : Prop :=
 ∀ (b c : Nat) (ws : List ByteArray) (w : World), (∀ (j : Nat) x, ws[j]? = some x → w.cell? ⟨b, j, none⟩ = some (.string x)) → b < w.heap.size → ws.length ≤ 1099511627776 → ws.length ≤ c → (∀ p ∈ ws, p.size ≤ 1048576) → TabOK w →
  CallOK P f #[.slice (some ⟨b, 0, none⟩) ws.length c] w fun x w' => ∃ (g n : Nat) (cs : Array Value) (ok : Bool), x = .tuple #[.slice (some ⟨g, 0, none⟩) n cs.size, .bool ok] ∧ w.heap.size ≤ g ∧ w'.heap[g]? = some (.cells cs e (0, 0)) ∧
   n ≤ cs.size ∧ cs.size ≤ maxLen ∧ Below w.heap.size w w' ∧
   ((ok = true ∧ (∀ s ∈ ws, OkN (bytesE s)) ∧ n = ws.length ∧ ∀ (j : Nat) s, ws[j]? = some s → cs[j]? = some (numV s)) ∨ (ok = false ∧ (¬ ∀ s ∈ ws, OkN (bytesE s)) ∧ n = 0))
def ReadOK (P : Program) (f : Nat) : Prop :=
 ∀ (s : ByteArray) (w : World), s.size ≤ 1048576 → TabOK w → CallOK P f #[.string s] w fun x w' => Below w.heap.size w w' ∧
  ((OkN (bytesE s) ∧ x = .tuple #[numV s, .int .i64 0]) ∨ (¬ OkN (bytesE s) ∧ x = .tuple #[.float .f32 0, .int .i64 5]))
section
variable {P : Program} {ρ : Nat → Int} {Γ : Ctx}
theorem callOK_weak {f : FuncId} {args : Array Value} {w : World} {R R' : Value → World → Prop} (h : CallOK P f args w R) (hr : ∀ v w', R v w' → R' v w') : CallOK P f args w R' := by
 unfold CallOK at h ⊢
 split at h
 · exact hr _ _ h
 · exact h.mono fun e w2 ⟨v, he, hv⟩ => ⟨v, he, hr v w2 hv⟩
 · exact h.elim
theorem okB_iff {l : List (List Int)} : okB l = true ↔ OkN l := by
 unfold okB
 exact @decide_eq_true_iff _ (Classical.propDecidable _)
theorem numOf_canon (l : List (List Int)) : canon .f32 (numOf l) = numOf l := by
 unfold numOf
 by_cases h : OkN l
 · rw [dif_pos h]
   exact (Classical.choose_spec h).2.1
 · rw [dif_neg h]; rfl
theorem shortX_spec {T : Tab} (hs : Sat ρ T) {fa : Tr Bool} (hf : Facts ρ fa) {x : X} {n : Nat} (h : shortX T fa x n = true) {s : ByteArray} (hx : x.ev ρ = encE (bytesE s)) (hn : s.size ≤ n) : s.size ≤ 1048576 := by
 unfold shortX at h
 rw [Bool.or_eq_true] at h
 rcases h with h | h
 · exact Nat.le_trans hn (Nat.le_of_ble_eq_true h)
 · split at h
   · rename_i r hr
     split at h
     · rename_i b hb
       have hb0 : b = false := by simpa using h
       subst hb0
       have e := factOn_spec hs hf hb
       have e : (b2i (decide ((1048576 : Int) < ρ r)) == 1) = false := e
       rw [b2i_eq] at e
       have e := of_decide_eq_false e
       have er : ρ r = ((min (decE (x.ev ρ)).length 9223372036854775807 : Nat) : Int) := hs r _ (findReg_spec _ _ _ _ hr)
       rw [hx, decE_enc, bytesE_len] at er
       omega
     · cases h
   · cases h
theorem partsL_spec {L : X} : ∀ {n j : Nat} {T T' : Tab} {l : List SC}, partsL L n j T = some (T', l) → Sat ρ T' →
  Sat ρ T ∧ l.length = n ∧ ∀ (μ : Mu) (ps : List ByteArray), decE (L.ev ρ) = (ps.map fun p => [encE (bytesE p)]) → (∀ p ∈ ps, p.size ≤ 1048576) → j + n = ps.length → cellsRel ρ μ l ((ps.drop j).map Value.string)
 | 0, j, T, T', l, h, hs => by
  cases h
  refine ⟨hs, rfl, fun μ ps _ _ hl => ?_⟩
  rw [List.drop_eq_nil_of_le (by omega)]; trivial
 | n + 1, j, T, T', l, h, hs => by
  unfold partsL at h
  split at h
  case h_2 => cases h
  rename_i T1 y hy
  split at h
  case h_2 => cases h
  rename_i T2 l' hl'
  cases h
  obtain ⟨s1, hlen, k⟩ := partsL_spec hl' hs
  obtain ⟨s0, ey⟩ := mk_spec hy s1
  refine ⟨s0, by rw [List.length_cons, hlen], fun μ ps he hsz hl => ?_⟩
  have hj : j < ps.length := by omega
  rw [List.drop_eq_getElem_cons hj, List.map_cons]
  refine ⟨⟨ps[j], rfl, ?_, hsz _ (List.getElem_mem hj), fun h => by cases h⟩, k μ ps he hsz (by omega)⟩
  have ey : y.ev ρ = cellE (decE (L.ev ρ)) ((j : Nat) : Int) 0 := ey
  rw [ey, he]
  unfold cellE
  simp [List.getD_eq_getElem?_getD, List.getElem?_map, List.getElem?_eq_getElem hj]
theorem sepOf_spec {a : Bool} {v : SV} {c : Nat} (h : sepOf a v = some c) {μ : Mu} {u : Value} (hu : v.rel ρ μ u) : SepIs a c u := by
 unfold sepOf at h
 split at h
 · rename_i c'
   split at h
   · rename_i hb
     cases h
     rw [Bool.and_eq_true] at hb
     rw [hb.1]
     exact ⟨hu, Nat.le_of_ble_eq_true hb.2⟩
   · cases h
 · rename_i s
   split at h
   · rename_i b hs
     cases h
     obtain ⟨rfl, _⟩ := hu
     refine ⟨b, rfl, ?_⟩
     congr 1
     apply ByteArray.ext
     exact Array.toList_inj.1 hs
   · cases h
 · cases h
theorem many_strings {ps : List ByteArray} {cs : Array Value} (hc : ∀ (j : Nat) p, ps[j]? = some p → cs[j]? = some (.string p)) (hsz : ∀ p ∈ ps, p.size ≤ 1048576) : ManyAt [11] (ps.map fun p => [encE (bytesE p)]) cs := by
 intro i c hi hc'
 rw [List.length_map] at hi
 have hc0 : c = 0 := by simp at hc'; exact hc'
 subst hc0
 have hp : ps[i]? = some ps[i] := List.getElem?_eq_getElem hi
 refine ⟨.string ps[i], by simpa using hc i _ hp, .inr (.inr (.inr (.inr ⟨rfl, ps[i], rfl, ?_, hsz _ (List.getElem_mem hi)⟩)))⟩
 unfold cellE
 simp [List.getD_eq_getElem?_getD, List.getElem?_map, hp]
theorem nb_lt {nb : Nat} (h : Nat.ble maxReg nb = false) : nb < LB := by
 have : ¬ maxReg ≤ nb := fun hle => by rw [Nat.ble_eq_true_of_le hle] at h; cases h
 unfold maxReg at this
 unfold LB; omega
theorem strings_begin {μ : Mu} {cells : List SC} {ps : List ByteArray} {cs : Array Value} (hrel : cellsRel ρ μ cells (ps.map Value.string)) (hc : ∀ (j : Nat) p, ps[j]? = some p → cs[j]? = some (.string p)) (hle : ps.length ≤ cs.size) : Begins ρ μ cells cs := by
 refine .inl ⟨ps.map Value.string, cs.toList.drop ps.length, ?_, hrel⟩
 apply List.ext_getElem?
 intro j
 by_cases hj : j < ps.length
 · have hp : ps[j]? = some ps[j] := List.getElem?_eq_getElem hj
   rw [List.getElem?_append_left (by rw [List.length_map]; exact hj), List.getElem?_map, hp, Array.getElem?_toList, hc j _ hp]; rfl
 · rw [List.getElem?_append_right (by rw [List.length_map]; omega), List.getElem?_drop, List.length_map]
   congr 1; omega
theorem splitS_ok {f : Nat} {a : Bool} {e k : Nat} (hP : SplitOK P f a e) : MFnOK P f (splitS a e k) := by
 intro T st args T1 m h ρ hs
 unfold splitS at h
 split at h
 case h_2 => cases h
 rename_i x n e0 sep
 split at h
 case h_2 => cases h
 rename_i c hsep hcond
 split at h
 case h_2 => cases h
 rename_i T2 L hL
 split at h
 case h_2 => cases h
 rename_i T3 r hr
 split at h
 case h_2 => cases h
 rename_i T4 q hq
 split at h
 case h_2 => cases h
 rename_i T5 cells hcells
 cases h
 rw [Bool.and_eq_true] at hcond
 have hnb : Nat.ble maxReg st.nb = false := by simpa using hcond.2
 obtain ⟨s3, hclen, hcrel⟩ := partsL_spec hcells hs
 obtain ⟨s2, eq⟩ := mk_spec hq s3
 obtain ⟨s1, er⟩ := mk_spec hr s2
 obtain ⟨s0, eL⟩ := mk_spec hL s1
 refine ⟨s0, fun w0 μ vs w hf hwr hvs => ?_⟩
 obtain ⟨lv⟩ := vs
 match lv, hvs with
 | [v, u], hvs =>
  obtain ⟨s, rfl, hx, hn, _⟩ := hvs.1
  have hsz := shortX_spec s0 hf hcond.1 hx hn
  have hsepI := sepOf_spec hsep hvs.2.1
  refine callOK_weak (hP s c u w hsz hsepI hwr.tabs) ?_
  rintro y w' ⟨ps, g, cs, rfl, hg, hh, hle, hmax, hc, hw, hps, hpl, hbel⟩
  have eL : L.ev ρ = encE (wordsE (c : Int) (decE (x.ev ρ))) := eL
  rw [hx, decE_enc, ← hw] at eL
  have er : r.ev ρ = ((min (decE (L.ev ρ)).length 9223372036854775807 : Nat) : Int) := er
  rw [eL, decE_enc, List.length_map, Nat.min_eq_left (by omega)] at er
  have eq : ρ q = b2i (((partsNo k c : Nat) : Int) == r.ev ρ) := eq
  rw [er] at eq
  show ∃ μ', Sub μ μ' ∧ WR ρ w0 μ' ((MT.node q (ownM st e cells) (glM st e L)).pick ρ).1 ((MT.node q (ownM st e cells) (glM st e L)).pick ρ).2.1 w' ∧ ((MT.node q (ownM st e cells) (glM st e L)).pick ρ).2.2.rel ρ μ' _
  by_cases hk : ρ q = 1
  · have hp : (MT.node q (ownM st e cells) (glM st e L)).pick ρ = (ownM st e cells).pick ρ := by
     show (if ρ q = 1 then _ else _) = _
     rw [if_pos hk]
    rw [hp]
    have hlen : partsNo k c = ps.length := by
     rw [eq] at hk
     have : (((partsNo k c : Nat) : Int) == ((ps.length : Nat) : Int)) = true := by
      cases hb : (((partsNo k c : Nat) : Int) == ((ps.length : Nat) : Int)) with
      | true => rfl
      | false => rw [hb] at hk; cases hk
     rw [beq_iff_eq] at this
     exact Int.ofNat_inj.1 this
    have hrel := hcrel μ ps (by rw [eL, decE_enc]) hps (by omega)
    rw [List.drop_zero] at hrel
    obtain ⟨μ', k1, k2, k3⟩ := adoptWR hwr hbel (nb_lt hnb) (B := ⟨cells, e⟩) hg hh (strings_begin hrel hc hle)
    refine ⟨μ', k1, k3, (g, cs.size), k2, ?_, ?_, hmax⟩
    · rw [hclen, hlen]
    · rw [hclen, hlen]; exact hle
  · have hp : (MT.node q (ownM st e cells) (glM st e L)).pick ρ = (glM st e L).pick ρ := by
     show (if ρ q = 1 then _ else _) = _
     rw [if_neg hk]
    rw [hp]
    obtain ⟨μ', k1, k2, k3⟩ := adoptWR hwr hbel (nb_lt hnb) (B := ⟨[.many [11] L], e⟩) hg hh (.inr ⟨[11], L, ps.map fun p => [encE (bytesE p)], rfl, eL, many_strings hc hps⟩)
    refine ⟨μ', k1, k3, (g, cs.size), ps.map fun p => [encE (bytesE p)], k2, eL, ?_, ?_, ?_, ?_⟩
    · simp
    · simpa using hle
    · simpa using hmax
    · rw [List.length_map]; omega
theorem readS_ok {f : Nat} (hP : ReadOK P f) : SummOK P f readS := by
 intro T st args T1 vt h ρ hs
 unfold readS at h
 split at h
 case h_2 => cases h
 rename_i y n e0
 split at h
 case h_2 => cases h
 rename_i T2 q hn hq
 split at h
 case h_2 => cases h
 rename_i T3 z hz
 cases h
 obtain ⟨s1, ez⟩ := mk_spec hz hs
 obtain ⟨s0, eq⟩ := mk_spec hq s1
 refine ⟨s0, fun w0 μ nb bs vs w hf _ hwr hvs => ?_⟩
 obtain ⟨lv⟩ := vs
 match lv, hvs with
 | [v], hvs =>
  obtain ⟨s, rfl, hx, hle, _⟩ := hvs.1
  have hn := Nat.le_of_ble_eq_true hn
  refine callOK_weak (hP s w (by omega) hwr.tabs) ?_
  rintro x w' ⟨hbel, hres⟩
  refine ⟨?_, hwr.after hbel⟩
  have ez : z.ev ρ = (numOf (decE (y.ev ρ)) : Nat) := ez
  have eq : ρ q = b2i (okB (decE (y.ev ρ))) := eq
  rw [hx, decE_enc] at ez eq
  rcases hres with ⟨hok, rfl⟩ | ⟨hno, rfl⟩
  · rw [okB_iff.2 hok] at eq
    have hp : (VT.node q (.leaf (.tup [.one (.flt .f32 z), .one (.int .i64 (.lit 0))])) (.leaf (.tup [.one (.flt .f32 (.lit 0)), .one (.int .i64 (.lit 5))]))).pick ρ = .tup [.one (.flt .f32 z), .one (.int .i64 (.lit 0))] := by
     show (if ρ q = 1 then _ else _) = _
     rw [if_pos (show ρ q = 1 from eq)]; rfl
    rw [hp]
    exact ⟨_, rfl, ⟨_, rfl, by rw [ez, numOf_canon]⟩, rfl, trivial⟩
  · have hb : okB (bytesE s) = false := by
     cases hb : okB (bytesE s) with
     | false => rfl
     | true => exact absurd (okB_iff.1 hb) hno
    rw [hb] at eq
    have hp : (VT.node q (.leaf (.tup [.one (.flt .f32 z), .one (.int .i64 (.lit 0))])) (.leaf (.tup [.one (.flt .f32 (.lit 0)), .one (.int .i64 (.lit 5))]))).pick ρ = .tup [.one (.flt .f32 (.lit 0)), .one (.int .i64 (.lit 5))] := by
     show (if ρ q = 1 then _ else _) = _
     rw [if_neg (by rw [eq]; decide)]; rfl
    rw [hp]
    exact ⟨_, rfl, ⟨0, rfl, rfl⟩, rfl, trivial⟩
theorem okChain_sat {st : St} {e : Nat} : ∀ {l : List SC} {T T' : Tab} {acc : List SC} {m : MT}, okChain st e l T acc = some (T', m) → Sat ρ T' → Sat ρ T
 | [], T, T', acc, m, h, hs => by cases h; exact hs
 | c :: l, T, T', acc, m, h, hs => by
  unfold okChain at h
  split at h
  · cases h; exact hs
  · split at h
    case h_2 => cases h
    rename_i T2 q _ hq
    split at h
    case h_2 => cases h
    rename_i T3 z hz
    split at h
    case h_2 => cases h
    rename_i T4 m' hm
    cases h
    exact (mk_spec hq (mk_spec hz (okChain_sat hm hs)).1).1
  · cases h
theorem strs_of {st : St} {e : Nat} {μ : Mu} : ∀ {l : List SC} {T T' : Tab} {acc : List SC} {m : MT} {vs : List Value}, okChain st e l T acc = some (T', m) → cellsRel ρ μ l vs → ∃ ws : List ByteArray, vs = ws.map Value.string ∧ ∀ p ∈ ws, p.size ≤ 1048576
 | [], T, T', acc, m, [], h, _ => ⟨[], rfl, (fun _ h => nomatch h)⟩
 | [], _, _, _, _, _ :: _, _, h => h.elim
 | c :: l, T, T', acc, m, [], h, hr => hr.elim
 | c :: l, T, T', acc, m, v :: vs, h, hr => by
  unfold okChain at h
  split at h
  · rename_i e; cases e
  · rename_i y n e0 l' e1
    cases e1
    split at h
    case h_2 => cases h
    rename_i T2 q hn hq
    split at h
    case h_2 => cases h
    rename_i T3 z hz
    split at h
    case h_2 => cases h
    rename_i T4 m' hm
    cases h
    obtain ⟨ws, rfl, hw⟩ := strs_of hm hr.2
    obtain ⟨s, rfl, _, hle, _⟩ := hr.1
    have hn := Nat.le_of_ble_eq_true hn
    refine ⟨s :: ws, rfl, fun p hp => ?_⟩
    rcases List.mem_cons.1 hp with rfl | hp
    · omega
    · exact hw p hp
  · cases h
theorem okChain_spec {st : St} {e : Nat} {μ : Mu} : ∀ {l : List SC} {T T' : Tab} {acc : List SC} {m : MT} {ws : List ByteArray}, okChain st e l T acc = some (T', m) → Sat ρ T' → cellsRel ρ μ l (ws.map Value.string) →
  ((∀ s ∈ ws, OkN (bytesE s)) → ∃ cs, m.pick ρ = (goodM st e (acc ++ cs)).pick ρ ∧ cellsRel ρ μ cs (ws.map numV)) ∧ ((¬ ∀ s ∈ ws, OkN (bytesE s)) → m.pick ρ = (badM st e).pick ρ)
 | [], T, T', acc, m, [], h, hs, _ => by
  cases h
  exact ⟨fun _ => ⟨[], by rw [List.append_nil], trivial⟩, fun hn => absurd (fun s hs => nomatch hs) hn⟩
 | [], _, _, _, _, _ :: _, _, _, h => h.elim
 | c :: l, T, T', acc, m, [], h, _, hr => hr.elim
 | c :: l, T, T', acc, m, s :: ws, h, hs, hr => by
  unfold okChain at h
  split at h
  · rename_i e; cases e
  · rename_i y n e0 l' e1
    cases e1
    split at h
    case h_2 => cases h
    rename_i T2 q hn hq
    split at h
    case h_2 => cases h
    rename_i T3 z hz
    split at h
    case h_2 => cases h
    rename_i T4 m' hm
    cases h
    have s3 := okChain_sat hm hs
    obtain ⟨s2, ez⟩ := mk_spec hz s3
    obtain ⟨s1, eq⟩ := mk_spec hq s2
    obtain ⟨k1, k2⟩ := okChain_spec hm hs hr.2
    obtain ⟨s', hs', hx, _⟩ := hr.1
    cases hs'
    have ez : z.ev ρ = (numOf (decE (y.ev ρ)) : Nat) := ez
    have eq : ρ q = b2i (okB (decE (y.ev ρ))) := eq
    rw [hx, decE_enc] at ez eq
    by_cases hok : OkN (bytesE s)
    · rw [okB_iff.2 hok] at eq
      have hp : (MT.node q m' (badM st e)).pick ρ = m'.pick ρ := by
       show (if ρ q = 1 then _ else _) = _
       rw [if_pos (show ρ q = 1 from eq)]
      rw [hp]
      refine ⟨fun hall => ?_, fun hn => k2 fun hall => hn fun t ht => ?_⟩
      · obtain ⟨cs, h1, h2⟩ := k1 fun t ht => hall t (List.mem_cons_of_mem _ ht)
        refine ⟨.flt .f32 z :: cs, by rw [h1, List.append_assoc]; rfl, ⟨_, rfl, by rw [ez, numOf_canon]⟩, h2⟩
      · rcases List.mem_cons.1 ht with rfl | ht
        · exact hok
        · exact hall t ht
    · have hb : okB (bytesE s) = false := by
       cases hb : okB (bytesE s) with
       | false => rfl
       | true => exact absurd (okB_iff.1 hb) hok
      rw [hb] at eq
      have hp : (MT.node q m' (badM st e)).pick ρ = (badM st e).pick ρ := by
       show (if ρ q = 1 then _ else _) = _
       rw [if_neg (by rw [eq]; decide)]
      rw [hp]
      exact ⟨fun hall => absurd (hall s List.mem_cons_self) hok, fun _ => rfl⟩
  · cases h
theorem nums_begin {μ : Mu} {cells : List SC} {ws : List ByteArray} {cs : Array Value} (hrel : cellsRel ρ μ cells (ws.map numV)) (hc : ∀ (j : Nat) p, ws[j]? = some p → cs[j]? = some (numV p)) (hle : ws.length ≤ cs.size) : Begins ρ μ cells cs := by
 refine .inl ⟨ws.map numV, cs.toList.drop ws.length, ?_, hrel⟩
 apply List.ext_getElem?
 intro j
 by_cases hj : j < ws.length
 · have hp : ws[j]? = some ws[j] := List.getElem?_eq_getElem hj
   rw [List.getElem?_append_left (by rw [List.length_map]; exact hj), List.getElem?_map, hp, Array.getElem?_toList, hc j _ hp]; rfl
 · rw [List.getElem?_append_right (by rw [List.length_map]; omega), List.getElem?_drop, List.length_map]
   congr 1; omega
theorem many_nums {ws : List ByteArray} {cs : Array Value} (hc : ∀ (j : Nat) p, ws[j]? = some p → cs[j]? = some (numV p)) : ManyAt [8] (numsE (ws.map fun p => [encE (bytesE p)])) cs := by
 intro i c hi hc'
 unfold numsE at hi
 rw [List.length_map, List.length_map] at hi
 have hc0 : c = 0 := by simp at hc'; exact hc'
 subst hc0
 have hp : ws[i]? = some ws[i] := List.getElem?_eq_getElem hi
 refine ⟨numV ws[i], by simpa using hc i _ hp, .inr (.inl ⟨rfl, _, rfl, ?_⟩)⟩
 rw [numOf_canon]
 unfold cellE numsE
 simp [List.getD_eq_getElem?_getD, List.getElem?_map, hp, decE_enc]
theorem allOk_words (ws : List ByteArray) : allOk (ws.map fun p => [encE (bytesE p)]) = true ↔ ∀ s ∈ ws, OkN (bytesE s) := by
 unfold allOk
 rw [List.all_map, List.all_eq_true]
 constructor
 · intro h s hs
   have := h s hs
   simp only [Function.comp, List.getD_cons_zero, decE_enc] at this
   exact okB_iff.1 this
 · intro h s hs
   simp only [Function.comp, List.getD_cons_zero, decE_enc]
   exact okB_iff.2 (h s hs)
theorem words_of {els : List (List Int)} {cs : Array Value} (h : ManyAt [11] els cs) : ∃ ws : List ByteArray, ws.length = els.length ∧ (∀ (j : Nat) p, ws[j]? = some p → cs[j]? = some (.string p)) ∧ (∀ p ∈ ws, p.size ≤ 1048576) ∧
  numsE els = ws.map (fun s => [(numOf (bytesE s) : Int)]) ∧ (allOk els = true ↔ ∀ s ∈ ws, OkN (bytesE s)) := by
 have hf : ∀ i : Fin els.length, ∃ s : ByteArray, cs[i.val]? = some (.string s) ∧ cellE els (i.val : Nat) 0 = encE (bytesE s) ∧ s.size ≤ 1048576 := by
  intro i
  obtain ⟨v, hv, hk⟩ := h i.val 0 i.isLt (by decide)
  rcases hk with ⟨hk, _⟩ | ⟨hk, _⟩ | ⟨hk, _⟩ | ⟨hk, _⟩ | ⟨_, s, rfl, hx, hle⟩
  · exact absurd hk (by decide)
  · exact absurd hk (by decide)
  · exact absurd hk (by decide)
  · exact absurd hk (by decide)
  · exact ⟨s, by simpa using hv, hx, hle⟩
 let f : Fin els.length → ByteArray := fun i => Classical.choose (hf i)
 have hfs : ∀ i, cs[i.val]? = some (.string (f i)) ∧ cellE els (i.val : Nat) 0 = encE (bytesE (f i)) ∧ (f i).size ≤ 1048576 := fun i => Classical.choose_spec (hf i)
 have hel : ∀ i : Fin els.length, els[i.val].getD 0 0 = encE (bytesE (f i)) := by
  intro i
  have := (hfs i).2.1
  unfold cellE at this
  rw [show els.getD ((i.val : Nat) : Int).toNat [] = els[i.val] by simp [List.getD_eq_getElem?_getD]] at this
  exact this
 refine ⟨List.ofFn f, List.length_ofFn, fun j p hp => ?_, fun p hp => ?_, ?_, ?_⟩
 · have hj := (List.getElem?_eq_some_iff.1 hp).1
   rw [List.length_ofFn] at hj
   rw [List.getElem?_eq_getElem (by rw [List.length_ofFn]; exact hj), List.getElem_ofFn] at hp
   cases hp
   exact (hfs ⟨j, hj⟩).1
 · obtain ⟨i, rfl⟩ := List.mem_ofFn.1 hp
   exact (hfs i).2.2
 · apply List.ext_getElem
   · unfold numsE; rw [List.length_map, List.length_map, List.length_ofFn]
   · intro j h1 h2
     unfold numsE at h1
     rw [List.length_map] at h1
     unfold numsE
     rw [List.getElem_map, List.getElem_map, List.getElem_ofFn, hel ⟨j, h1⟩, decE_enc]
 · unfold allOk
   rw [List.all_eq_true]
   constructor
   · intro hall s hs
     obtain ⟨i, rfl⟩ := List.mem_ofFn.1 hs
     have := hall els[i.val] (List.getElem_mem i.isLt)
     rw [hel i, decE_enc] at this
     exact okB_iff.1 this
   · intro hall e he
     obtain ⟨j, hj, rfl⟩ := List.mem_iff_getElem.1 he
     rw [hel ⟨j, hj⟩, decE_enc]
     exact okB_iff.2 (hall _ (List.mem_ofFn.2 ⟨⟨j, hj⟩, rfl⟩))
theorem numbersS_ok {f e : Nat} (hP : NumsOK P f e) : MFnOK P f (numbersS e) := by
 intro T st args T1 m h ρ hs
 unfold numbersS at h
 split at h
 · rename_i i n
   split at h
   case h_2 => cases h
   rename_i B hB hnb
   split at h
   case h_2 => cases h
   rename_i hcond
   simp only [Bool.and_eq_true, Bool.not_eq_true'] at hcond
   obtain ⟨hmany, hlen, hle⟩ := hcond
   have hlen := Nat.eq_of_beq_eq_true hlen
   have hle := Nat.le_of_ble_eq_true hle
   refine ⟨okChain_sat h hs, fun w0 μ vs w hf hwr hvs => ?_⟩
   obtain ⟨lv⟩ := vs
   match lv, hvs with
   | [v], hvs =>
    obtain ⟨p, hp, rfl, hlc, hmx⟩ := hvs.1
    obtain ⟨p', cs0, hp', hh0, hcsz, hbg⟩ := hwr.blk i B hB
    have e1 : p' = p := by rw [hp'] at hp; exact Option.some.inj hp
    subst e1
    obtain ⟨vs0, rest, hcs, hr⟩ := hbg.plain hmany
    obtain ⟨ws, rfl, hwsz⟩ := strs_of h hr
    have hl := cellsRel_length hr
    rw [List.length_map] at hl
    have hn : n = ws.length := by omega
    subst hn
    have hcell : ∀ (j : Nat) x, ws[j]? = some x → w.cell? ⟨p'.1, j, none⟩ = some (.string x) := by
     intro j x hx
     have hj := (List.getElem?_eq_some_iff.1 hx).1
     have h2 : cs0[j]? = some (.string x) := by
      rw [← Array.getElem?_toList, hcs, List.getElem?_append_left (by rw [List.length_map]; exact hj), List.getElem?_map, hx]; rfl
     simp [World.cell?, hh0, h2]
    refine callOK_weak (hP p'.1 p'.2 ws w hcell (Array.getElem?_eq_some_iff.1 hh0).1 (by omega) hlc hwsz hwr.tabs) ?_
    rintro y w' ⟨g, n', cs, ok, rfl, hg, hh, hncs, hmax, hbel, hres⟩
    obtain ⟨k1, k2⟩ := okChain_spec h hs hr
    rcases hres with ⟨rfl, hall, rfl, hc⟩ | ⟨rfl, hno, rfl⟩
    · obtain ⟨cells, hpk, hrel⟩ := k1 hall
      rw [hpk, List.nil_append]
      obtain ⟨μ', j1, j2, j3⟩ := adoptWR hwr hbel (nb_lt hnb) (B := ⟨cells, e⟩) hg hh (nums_begin hrel hc hncs)
      have hcl := cellsRel_length hrel
      rw [List.length_map] at hcl
      refine ⟨μ', j1, j3, _, rfl, ⟨(g, cs.size), j2, ?_, ?_, hmax⟩, rfl, trivial⟩
      · rw [hcl]
      · rw [hcl]; exact hncs
    · rw [k2 hno]
      obtain ⟨μ', j1, j2, j3⟩ := adoptWR hwr hbel (nb_lt hnb) (B := ⟨[], e⟩) hg hh (.inl ⟨[], cs.toList, rfl, trivial⟩)
      exact ⟨μ', j1, j3, _, rfl, ⟨(g, cs.size), j2, rfl, Nat.zero_le _, hmax⟩, rfl, trivial⟩
 · rename_i i L
   split at h
   case h_2 => cases h
   rename_i B hB hnb
   split at h
   case h_2 => cases h
   rename_i T3 M hcells hM
   split at h
   case h_2 => cases h
   rename_i T4 p hp
   cases h
   obtain ⟨s1, ep⟩ := mk_spec hp hs
   obtain ⟨s0, eM⟩ := mk_spec hM s1
   refine ⟨s0, fun w0 μ vs w hf hwr hvs => ?_⟩
   obtain ⟨lv⟩ := vs
   match lv, hvs with
   | [v], hvs =>
    obtain ⟨b, els, hb, hL, rfl, hlc, hmx, hl40⟩ := hvs.1
    obtain ⟨p', cs0, hp', hh0, hcsz, hbg⟩ := hwr.blk i B hB
    have e1 : p' = b := by rw [hp'] at hb; exact Option.some.inj hb
    subst e1
    rw [cellsBeq_eq hcells] at hbg
    have hma : ManyAt [11] els cs0 := by
     rcases hbg with ⟨vs1, rest, _, hr⟩ | ⟨ks2, L2, els2, e2, hL2, hm⟩
     · match vs1, hr with
       | _ :: _, hr => exact hr.1.elim
     · cases e2
       have := encE_inj (hL.symm.trans hL2)
       subst this
       exact hm
    obtain ⟨ws, hwl, hwc, hwsz, hnums, hallw⟩ := words_of hma
    have hcell : ∀ (j : Nat) x, ws[j]? = some x → w.cell? ⟨p'.1, j, none⟩ = some (.string x) := by
     intro j x hx
     simp [World.cell?, hh0, hwc j x hx]
    have hdiv : p'.2 / [11].length = p'.2 := by simp
    rw [hdiv] at hlc hmx ⊢
    rw [← hwl]
    refine callOK_weak (hP p'.1 p'.2 ws w hcell (Array.getElem?_eq_some_iff.1 hh0).1 (by omega) (by omega) hwsz hwr.tabs) ?_
    rintro y w' ⟨g, n', cs, ok, rfl, hg, hh, hncs, hmax, hbel, hres⟩
    have eM : M.ev ρ = encE (numsE (decE (L.ev ρ))) := eM
    have ep : ρ p = b2i (allOk (decE (L.ev ρ))) := ep
    rw [hL, decE_enc] at eM ep
    rcases hres with ⟨rfl, hall, rfl, hc⟩ | ⟨rfl, hno, rfl⟩
    · rw [hallw.2 hall] at ep
      have hpk : (MT.node p (listM st e M) (badM st e)).pick ρ = (listM st e M).pick ρ := by
       show (if ρ p = 1 then _ else _) = _
       rw [if_pos (show ρ p = 1 from ep)]
      rw [hpk]
      have hmany8 : ManyAt [8] (numsE els) cs := by
       intro i c hi hc'
       have hi2 : i < ws.length := by unfold numsE at hi; rw [List.length_map] at hi; omega
       have hc0 : c = 0 := by simp at hc'; exact hc'
       subst hc0
       have hp2 : ws[i]? = some ws[i] := List.getElem?_eq_getElem hi2
       refine ⟨numV ws[i], by simpa using hc i _ hp2, .inr (.inl ⟨rfl, _, rfl, ?_⟩)⟩
       rw [numOf_canon, hnums]
       unfold cellE
       simp [List.getD_eq_getElem?_getD, List.getElem?_map, hp2]
      obtain ⟨μ', j1, j2, j3⟩ := adoptWR hwr hbel (nb_lt hnb) (B := ⟨[.many [8] M], e⟩) hg hh (.inr ⟨[8], M, numsE els, rfl, eM, hmany8⟩)
      have hnl : (numsE els).length = ws.length := by rw [hnums, List.length_map]
      refine ⟨μ', j1, j3, _, rfl, ⟨(g, cs.size), numsE els, j2, eM, ?_, ?_, ?_, ?_⟩, rfl, trivial⟩
      · rw [hnl]; simp
      · rw [hnl]; simpa using hncs
      · simpa using hmax
      · rw [hnl]; omega
    · have hb : allOk els = false := by
       cases hb : allOk els with
       | false => rfl
       | true => exact absurd (hallw.1 hb) hno
      rw [hb] at ep
      have hpk : (MT.node p (listM st e M) (badM st e)).pick ρ = (badM st e).pick ρ := by
       show (if ρ p = 1 then _ else _) = _
       rw [if_neg (by rw [ep]; decide)]
      rw [hpk]
      obtain ⟨μ', j1, j2, j3⟩ := adoptWR hwr hbel (nb_lt hnb) (B := ⟨[], e⟩) hg hh (.inl ⟨[], cs.toList, rfl, trivial⟩)
      exact ⟨μ', j1, j3, _, rfl, ⟨(g, cs.size), j2, rfl, Nat.zero_le _, hmax⟩, rfl, trivial⟩
 · cases h
theorem TabOK.below {w w' : World} (h : TabOK w) (hb : Below w.heap.size w w') : TabOK w' := ⟨fun q hq => by
 obtain ⟨h1, h2⟩ := h.tab q hq
 refine ⟨Nat.lt_of_lt_of_le h1 hb.size, fun j hj => ?_⟩
 have h2 := h2 j hj
 unfold World.cell? at h2 ⊢
 rw [hb.block q.1 h1]; exact h2, fun q hq => by
 obtain ⟨h1, v, h2, h3⟩ := h.glb q hq
 refine ⟨Nat.lt_of_lt_of_le h1 hb.size, v, ?_, h3⟩
 unfold World.cell? at h2 ⊢
 rw [hb.block q.1 h1]; exact h2⟩
theorem callOK_enter {f : FuncId} {args : Array Value} {w : World} {R : Value → World → Prop} (he : (callFunc f args).run P w = .ok (.enter f args) w) (h : Calls P f args w fun e w' => ∃ v, e = .returned v ∧ R v w') : CallOK P f args w R := by
 unfold CallOK
 rw [he]
 exact h
def numT0 : Tab := ⟨2, Tr.ofList fuelT [(1, ⟨15, [.reg 0, .lit 4294967296]⟩)], Tr.ofList fuelT [(0, [1])]⟩
def numSt : St := ⟨0, .nil, 0, .nil, Tr.ofList fuelT [(1, true)]⟩
theorem num_calls {f : Nat} (h : SummOK P f numS) (hen : ∀ args w, (callFunc f args).run P w = .ok (.enter f args) w) {T1 : Tab} {q : Nat} (hrun : numS numT0 numSt [.c (.flt .f32 (.reg 0))] = some (T1, .leaf (.c (.str (.reg q) 8 true))))
  (hg : goodTab 1 T1 = true) (hq : T1.defs.get q = some ⟨79, [.reg 0]⟩) (h1 : T1.defs.get 1 = some ⟨15, [.reg 0, .lit 4294967296]⟩)
  {b : Nat} (hb : b < 4294967296) {w : World} (hT : TabOK w) :
  Calls P f #[.float .f32 b] w fun e w' => ∃ t, e = .returned (.string t) ∧ bytesE t = hexL (canon .f32 b) ∧ Below w.heap.size w w' := by
 obtain ⟨ρ, hin, hs⟩ := exists_rho hg (fun _ => (canon .f32 b : Int))
 have h0 : ρ 0 = (canon .f32 b : Int) := hin 0 (by omega)
 have e1 : ρ 1 = b2i (decide (ρ 0 < 4294967296)) := hs 1 _ h1
 have hlt := canon_lt hb
 have hf : Facts ρ numSt.fa := fun r c hr => by
  have hr : (Tr.set fuelT (.nil : Tr Bool) 1 true).get r = some c := hr
  rcases Tr.get_set_some _ _ _ _ _ _ hr with ⟨rfl, rfl⟩ | ⟨_, h⟩
  · rw [e1, b2i_eq]
    exact decide_eq_true (by rw [h0]; omega)
  · cases h
 obtain ⟨_, hcall⟩ := h _ _ _ _ _ hrun ρ hs
 have := hcall (Base.all w hT) (fun _ => none) 0 .nil #[.float .f32 b] w hf (fun i B h => by cases h) (WR.none w hT) ⟨⟨b, rfl, h0.symm⟩, trivial⟩
 unfold CallOK at this
 rw [hen] at this
 refine Calls.mono this ?_
 rintro e w' ⟨v, rfl, hrel, hwr⟩
 obtain ⟨t, rfl, ht, _⟩ := hrel
 refine ⟨t, rfl, ?_, hwr.kept.below⟩
 have eq : ρ q = encE (hexL (ρ 0).toNat) := hs q _ hq
 have ht : ρ q = encE (bytesE t) := ht
 rw [eq] at ht
 have := encE_inj ht
 rw [← this, h0]; rfl
theorem run_trueS (hΓ : Γ.ok P) (hsum : ∀ f s, Γ.summ f = some s → SummOK P f s) {mks : Nat → Option MK} (hmk : ∀ g m, mks g = some m → MKOK P g m) {f : Nat} {F : Func} (hF : P.funcs[f]? = some F)
  (hrun : lawOKS Γ mks F = true) {s : ByteArray} (hsz : s.size ≤ 9223372036854775807) (w : World) (hT : TabOK w) :
  Calls P f #[.string s] w fun e w' => e = .returned (.bool true) ∧ Below w.heap.size w w' := by
 unfold lawOKS at hrun
 split at hrun
 case h_2 => cases hrun
 rename_i c hbody
 split at hrun
 case h_2 => cases hrun
 rename_i T t hr
 split at hrun
 case h_2 => cases hrun
 rename_i hg
 obtain ⟨ρ, hin, hs⟩ := exists_rho hg (fun _ => encE (bytesE s))
 have h0 : ρ 0 = encE (bytesE s) := hin 0 (by omega)
 have hrel : svsRel ρ (fun _ => none) [.c (.str (.reg 0) 9223372036854775807 false)] [Value.string s] := ⟨⟨s, rfl, h0, hsz, fun h => by cases h⟩, trivial⟩
 obtain ⟨s0, hwp⟩ := execX_sound hΓ hsum hmk 400 ρ _ _ _ _ _ hr hs
 have hfr := frame_enter (vs := #[Value.string s]) hrel F.ntmps
 refine calls_of_wp hF hbody (hwp (Base.all w hT) (fun _ => none) _ w _ ⟨rfl, hfr, WR.none w _, (fun r b h => by cases h)⟩ ?_)
 exact allTrue_sat hΓ hs w hT hrun
end
end
end Go.Sx
