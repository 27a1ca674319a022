/-
  Contracts over pointers, and contracts whose numbers are not looked into.
-/
import Derived.Test.YtgaejkfdinkpmaaSxM
set_option linter.unusedSimpArgs false
set_option linter.unusedVariables false
namespace Go.Sx
noncomputable section
open Go.RowKit

/-! ### What is pointed to -/
def kindC (k : Nat) : SC → Option X
  | .flt .f32 x => match Nat.beq k 8 with | true => some x | false => none
  | .flt .f64 x => match Nat.beq k 9 with | true => some x | false => none
  | .bool x => match Nat.beq k 10 with | true => some x | false => none
  | .int kd x => match Nat.beq (kindNo kd) k with | true => some x | false => none
  | _ => none

def kindsC : List Nat → List SC → Option (List X)
  | [], [] => some []
  | k :: ks, c :: l =>
    match kindC k c, kindsC ks l with
    | some x, some m => some (x :: m)
    | _, _ => none
  | _, _ => none

def xs63 (T : Tab) (L I : X) : Nat → Nat → Option (Tab × List X)
  | _, 0 => some (T, [])
  | o, n + 1 =>
    match xs63 T L I (o + 1) n with
    | some (T1, l) => match mk63 T1 L I o with
      | some (T2, z) => some (T2, z :: l)
      | none => none
    | none => none

def ptrX (T : Tab) (st : St) (ks : List Nat) : SV → Option (Tab × List X)
  | .w (.one (.ptr i 0)) =>
    match st.bs.get i with
    | some B => match kindsC ks B.cells with
      | some l => some (T, l)
      | none => none
    | none => none
  | .w (.one (.el _ ks' L I 0)) =>
    match natsBeq ks ks' with
    | true => xs63 T L I 0 ks.length
    | false => none
  | _ => none

def ptrsX (st : St) : List (List Nat) → List SV → Tab → Option (Tab × List (List X))
  | [], [], T => some (T, [])
  | ks :: l, a :: m, T =>
    match ptrX T st ks a with
    | some (T1, x) => match ptrsX st l m T1 with
      | some (T2, y) => some (T2, x :: y)
      | none => none
    | none => none
  | _, _, _ => none

/-! ### The run -/
def elPat (n : Nat) : Nat → List (List Nat) → List SV
  | _, [] => []
  | j, ks :: l => .c (.el j ks (.reg (n + j)) (.lit 0) 0) :: elPat n (j + 1) l

def upRegs : Nat → Nat → List X
  | _, 0 => []
  | i, n + 1 => .reg i :: upRegs (i + 1) n

def elDs (n : Nat) : Nat → Nat → List (List Nat) → List (Nat × D)
  | _, _, [] => []
  | i, j, ks :: l => (n + j, ⟨66, upRegs i ks.length⟩) :: elDs n (i + ks.length) (j + 1) l

def sizeE : List (List Nat) → Nat
  | [] => 0
  | ks :: l => ks.length + sizeE l

def runE (Γ : Ctx) (hn : Nat → Option Hint) (F : Func) (kss : List (List Nat)) : Option (Tab × Tree) :=
  match F.body with
  | some c => execX Γ hn (fun _ => none) 400 c ⟨sizeE kss + kss.length, Tr.ofList fuelT (elDs (sizeE kss) 0 0 kss), .nil⟩
      ⟨(elPat (sizeE kss) 0 kss).length + (F.ntmps - (elPat (sizeE kss) 0 kss).length), frameOf 0 (elPat (sizeE kss) 0 kss), kss.length + 10, .nil, .nil⟩
  | none => none

def smRunE (Γ : Ctx) (hn : Nat → Option Hint) (F : Func) (kss : List (List Nat)) (S : Sm) : Bool :=
  match runE Γ hn F kss with
  | some (T, t) =>
    match goodTab (sizeE kss) T, dsOK T S.ds, Nat.blt (sizeE kss + kss.length) maxReg && dsOK ⟨sizeE kss + kss.length, Tr.ofList fuelT (elDs (sizeE kss) 0 0 kss), .nil⟩ (elDs (sizeE kss) 0 0 kss) with
    | true, true, true =>
      match vtree T (leafRes Γ F) t with
      | some vt => vtBeq vt S.vt
      | none => false
    | _, _, _ => false
  | none => false

/-- The contract. -/
def smE (S : Sm) (kss : List (List Nat)) : Summ := fun T st args =>
  match ptrsX st kss args T with
  | some (T1, xss) =>
    match instDs S.ds (putsX xss.flatten 0 .nil) T1 with
    | some (T2, σ) =>
      match instVT σ st.fa T2 S.vt with
      | some vt => some (T2, vt)
      | none => none
    | none => none
  | none => none

section
variable {P : Program} {ρ : Nat → Int}

theorem kindC_rel {k : Nat} {c : SC} {x : X} (h : kindC k c = some x) {μ : Mu} {v : Value} (hv : c.rel ρ μ v) : KC k (x.ev ρ) v := by
  unfold kindC at h
  split at h
  · split at h
    · rename_i hk
      cases h
      have := Nat.eq_of_beq_eq_true hk
      subst this
      obtain ⟨b, e, hb⟩ := hv
      exact .inr (.inl ⟨rfl, b, e, hb⟩)
    · cases h
  · split at h
    · rename_i hk
      cases h
      have := Nat.eq_of_beq_eq_true hk
      subst this
      obtain ⟨b, e, hb⟩ := hv
      exact .inr (.inr (.inl ⟨rfl, b, e, hb⟩))
    · cases h
  · split at h
    · rename_i hk
      cases h
      have := Nat.eq_of_beq_eq_true hk
      subst this
      exact .inr (.inr (.inr ⟨rfl, hv⟩))
    · cases h
  · rename_i kd y
    split at h
    · rename_i hk
      cases h
      have := Nat.eq_of_beq_eq_true hk
      subst this
      refine .inl ⟨by cases kd <;> decide, ?_⟩
      have hv : v = .int kd (x.ev ρ) := hv
      rw [hv]
      cases kd <;> rfl
    · cases h
  · cases h

theorem kindsC_rel {μ : Mu} : ∀ {ks : List Nat} {l : List SC} {xs : List X} {vs : List Value}, kindsC ks l = some xs → cellsRel ρ μ l vs →
    xs.length = ks.length ∧ vs.length = ks.length ∧ ∀ c v, vs[c]? = some v → KC (ks.getD c 0) ((xs.map (X.ev ρ)).getD c 0) v
  | [], [], xs, vs, h, hv => by
    cases h
    cases vs with
    | nil => exact ⟨rfl, rfl, fun c v h => by simp at h⟩
    | cons _ _ => exact hv.elim
  | k :: ks, c :: l, xs, vs, h, hv => by
    unfold kindsC at h
    split at h
    · rename_i x m hx hm
      cases h
      cases vs with
      | nil => exact hv.elim
      | cons v vs =>
        obtain ⟨h1, h2, h3⟩ := kindsC_rel hm hv.2
        refine ⟨by simp [h1], by simp [h2], fun j u hj => ?_⟩
        cases j with
        | zero =>
          simp only [List.getElem?_cons_zero, Option.some.injEq] at hj
          subst hj
          exact kindC_rel hx hv.1
        | succ j => simpa using h3 j u (by simpa using hj)
    · cases h
  | [], _ :: _, _, _, h, _ => by cases h
  | _ :: _, [], _, _, h, _ => by cases h

theorem xs63_spec {L I : X} : ∀ {n o : Nat} {T T' : Tab} {l : List X}, xs63 T L I o n = some (T', l) → Sat ρ T' → Sat ρ T ∧ l.length = n ∧ ∀ c, c < n → (l.map (X.ev ρ)).getD c 0 = opF 63 [L.ev ρ, I.ev ρ, ((o + c : Nat) : Int)]
  | 0, o, T, T', l, h, hs => by unfold xs63 at h; cases h; exact ⟨hs, rfl, fun c hc => absurd hc (Nat.not_lt_zero _)⟩
  | n + 1, o, T, T', l, h, hs => by
    unfold xs63 at h
    split at h
    · rename_i T1 l' h1
      split at h
      · rename_i T2 z h2
        cases h
        obtain ⟨s1, e⟩ := mk63_spec h2 hs
        obtain ⟨s0, hl, k⟩ := xs63_spec h1 s1
        refine ⟨s0, by simp [hl], fun c hc => ?_⟩
        cases c with
        | zero => simpa using e
        | succ c =>
          have := k c (by omega)
          simp only [List.map_cons, List.getD_cons_succ]
          rw [this, show o + 1 + c = o + (c + 1) by omega]
      · cases h
    · cases h

/-- Where it points to there lies a list of one. -/
def PtrAt (heap : Array Obj) (ks : List Nat) (vals : List Int) (v : Value) : Prop :=
  ∃ b off, v = .pointer (some ⟨b, off, none⟩) ∧ LstAt heap (b, encP off ks [vals])

theorem ptrX_spec {T T' : Tab} {st : St} {ks : List Nat} {a : SV} {xs : List X} (h : ptrX T st ks a = some (T', xs)) (hs : Sat ρ T') :
    Sat ρ T ∧ ∀ (w0 : Base) (μ : Mu) (nb : Nat) (bs : Tr Blk) (w : World) (v : Value), (∀ i B, st.bs.get i = some B → bs.get i = some B) → WR ρ w0 μ nb bs w → a.rel ρ μ v → xs.length = ks.length ∧ PtrAt w.heap ks (xs.map (X.ev ρ)) v := by
  unfold ptrX at h
  split at h
  · rename_i i
    split at h
    · rename_i B hB
      split at h
      · rename_i l hl
        cases h
        refine ⟨hs, fun w0 μ nb bs w v hbs hw hv => ?_⟩
        obtain ⟨p, hp, rfl⟩ := hv
        obtain ⟨p', cs, hp', hh, _, vs, rest, e, hr⟩ := hw.blk i B (hbs i B hB)
        rw [hp] at hp'; cases hp'
        obtain ⟨h1, h2, h3⟩ := kindsC_rel hl hr
        refine ⟨h1, p.1, 0, rfl, 0, ks, [xs.map (X.ev ρ)], rfl, fun _ => ⟨cs, B.ty, (0, 0), hh, fun i c hi hc => ?_⟩⟩
        have hi : i = 0 := by simpa using hi
        subst hi
        have hv : vs[c]? = some (vs[c]'(by omega)) := List.getElem?_eq_getElem (by omega)
        refine ⟨vs[c]'(by omega), ?_, ?_⟩
        · rw [← Array.getElem?_toList, e, Nat.zero_mul, Nat.zero_add, List.getElem?_append_left (by omega)]
          exact hv
        · exact h3 c _ hv
      · cases h
    · cases h
  · rename_i q ks' L I
    split at h
    · rename_i hk
      have := natsBeq_eq hk
      subst this
      obtain ⟨s0, hl, k⟩ := xs63_spec h hs
      refine ⟨s0, fun w0 μ nb bs w v hbs hw hv => ⟨hl, ?_⟩⟩
      obtain ⟨b, off, els, i, cs, ty, fz, rfl, hL, hI, hh, hc⟩ := el_at hw hv
      refine ⟨b, off + i * ks.length, by simp, off + i * ks.length, ks, [xs.map (X.ev ρ)], rfl, fun _ => ⟨cs, ty, fz, hh, fun j c hj hck => ?_⟩⟩
      have hj : j = 0 := by simpa using hj
      subst hj
      obtain ⟨u, hu, hkc⟩ := hc c hck
      refine ⟨u, by rw [Nat.zero_mul, Nat.add_zero]; exact hu, ?_⟩
      have e := k c hck
      have : cellE [xs.map (X.ev ρ)] ((0 : Nat) : Int) c = cellE els i c := by
        show (xs.map (X.ev ρ)).getD c 0 = _
        rw [e, Nat.zero_add]
        show cellE (decE (L.ev ρ)) (I.ev ρ) ((c : Nat) : Int).toNat = _
        rw [hL, decE_enc, hI]; rfl
      rw [this]; exact hkc
    · cases h
  · cases h

def PtrsAt (heap : Array Obj) : List (List Nat) → List (List Int) → List Value → Prop
  | [], [], [] => True
  | ks :: l, x :: m, v :: vs => PtrAt heap ks x v ∧ PtrsAt heap l m vs
  | _, _, _ => False

theorem ptrsX_spec : ∀ {kss : List (List Nat)} {args : List SV} {T T' : Tab} {st : St} {xss : List (List X)}, ptrsX st kss args T = some (T', xss) → Sat ρ T' →
    Sat ρ T ∧ ∀ (w0 : Base) (μ : Mu) (nb : Nat) (bs : Tr Blk) (w : World) (vs : List Value), (∀ i B, st.bs.get i = some B → bs.get i = some B) → WR ρ w0 μ nb bs w → svsRel ρ μ args vs →
      xss.map List.length = kss.map List.length ∧ PtrsAt w.heap kss (xss.map (List.map (X.ev ρ))) vs
  | [], [], T, T', st, xss, h, hs => by
    unfold ptrsX at h; cases h
    refine ⟨hs, fun w0 μ nb bs w vs _ _ hv => ?_⟩
    cases vs with
    | nil => exact ⟨rfl, trivial⟩
    | cons _ _ => exact hv.elim
  | ks :: l, a :: m, T, T', st, xss, h, hs => by
    unfold ptrsX at h
    split at h
    · rename_i T1 x h1
      split at h
      · rename_i T2 y h2
        cases h
        obtain ⟨s1, k2⟩ := ptrsX_spec h2 hs
        obtain ⟨s0, k1⟩ := ptrX_spec h1 s1
        refine ⟨s0, fun w0 μ nb bs w vs hbs hw hv => ?_⟩
        cases vs with
        | nil => exact hv.elim
        | cons v vs =>
          obtain ⟨a1, a2⟩ := k1 w0 μ nb bs w v hbs hw hv.1
          obtain ⟨b1, b2⟩ := k2 w0 μ nb bs w vs hbs hw hv.2
          exact ⟨by simp [a1, b1], a2, b2⟩
      · cases h
    · cases h
  | [], _ :: _, _, _, _, _, h, _ => by unfold ptrsX at h; cases h
  | _ :: _, [], _, _, _, _, h, _ => by unfold ptrsX at h; cases h

/-- The places of the structs. -/
theorem PtrsAt.locs {heap : Array Obj} : ∀ {kss : List (List Nat)} {xss : List (List Int)} {vs : List Value}, PtrsAt heap kss xss vs →
    ∃ ps : List (Nat × Nat), ps.length = kss.length ∧ xss.length = kss.length ∧ vs.length = kss.length ∧ (∀ p ∈ ps, LstAt heap p) ∧
      ∀ (j : Nat) (ks : List Nat) (x : List Int) (v : Value), kss[j]? = some ks → xss[j]? = some x → vs[j]? = some v → ∃ p off, ps[j]? = some p ∧ p.2 = encP off ks [x] ∧ v = .pointer (some ⟨p.1, off, none⟩)
  | [], [], [], _ => ⟨[], rfl, rfl, rfl, (fun _ h => by cases h), fun j _ _ _ h => by simp at h⟩
  | ks :: l, x :: m, v :: vs, h => by
    obtain ⟨⟨b, off, hv, hl⟩, h2⟩ := h
    obtain ⟨ps, h3, h4, h5, h6, h7⟩ := PtrsAt.locs h2
    refine ⟨(b, encP off ks [x]) :: ps, by simp [h3], by simp [h4], by simp [h5], fun p hp => ?_, fun j k y u hj hy hu => ?_⟩
    · cases hp with
      | head => exact hl
      | tail _ hp => exact h6 p hp
    · cases j with
      | zero =>
        simp only [List.getElem?_cons_zero, Option.some.injEq] at hj hy hu
        subst hj hy hu
        exact ⟨_, off, rfl, rfl, hv⟩
      | succ j => simpa using h7 j k y u (by simpa using hj) (by simpa using hy) (by simpa using hu)
  | [], [], _ :: _, h => h.elim
  | [], _ :: _, _, h => h.elim
  | _ :: _, [], _, h => h.elim
  | _ :: _, _ :: _, [], h => h.elim

def muP (ps : List (Nat × Nat)) : Mu := fun i => if LB ≤ i then ps[i - LB]? else none

theorem WR.places {ρ' : Nat → Int} {w : World} {ps : List (Nat × Nat)} (h : ∀ p ∈ ps, LstAt w.heap p) {n : Nat} (hn : ps.length ≤ n) : WR ρ' (Base.all w) (muP ps) n .nil w := by
  refine ⟨⟨rfl, rfl, rfl, Nat.le_refl _, fun _ _ => rfl⟩, (fun _ _ _ _ _ _ h => by cases h), (fun i _ hi => ?_), (fun _ _ _ h => by cases h), (fun _ _ h => by cases h), (fun i p hi hp => ?_), (fun q hq => ?_)⟩
  · unfold muP; rw [if_neg (by omega)]
  · unfold muP at hp
    rw [if_pos hi] at hp
    exact ⟨h p (List.mem_of_getElem? hp), fun _ _ _ _ h => by cases h⟩
  · unfold muP
    rw [if_pos (by omega), Nat.add_sub_cancel_left, List.getElem?_eq_none (by omega)]

theorem upRegs_ev {ρ' : Nat → Int} {f : Nat → Int} : ∀ {n i : Nat}, (∀ j, j < n → ρ' (i + j) = f (i + j)) → (upRegs i n).map (X.ev ρ') = (List.range' i n).map f
  | 0, _, _ => rfl
  | n + 1, i, h => by
    unfold upRegs
    rw [List.range'_succ, List.map_cons, List.map_cons, upRegs_ev (f := f) fun j hj => by
      rw [show i + 1 + j = i + (j + 1) by omega]; exact h _ (by omega)]
    have := h 0 (by omega)
    rw [Nat.add_zero] at this
    show ρ' i :: _ = _
    rw [this]

theorem flat_get {xss : List (List X)} {kss : List (List Nat)} (h : xss.map List.length = kss.map List.length) : xss.flatten.length = sizeE kss := by
  induction kss generalizing xss with
  | nil => cases xss with
    | nil => rfl
    | cons _ _ => simp at h
  | cons ks l ih => cases xss with
    | nil => simp at h
    | cons x m =>
      simp only [List.map_cons, List.cons.injEq] at h
      rw [List.flatten_cons, List.length_append, ih h.2, h.1]; rfl

/-- The frame's pointers, over the structs' cells. -/
theorem elPat_rel {ρ' : Nat → Int} {n : Nat} {ps : List (Nat × Nat)} : ∀ {kss : List (List Nat)} {xss : List (List X)} {vs : List Value} {i j : Nat}, xss.map List.length = kss.map List.length → vs.length = kss.length →
    (∀ r d, (r, d) ∈ elDs n i j kss → ρ' r = d.ev ρ') → (∀ c x, xss.flatten[c]? = some x → ρ' (i + c) = x.ev ρ) →
    (∀ (q : Nat) (ks : List Nat) (x : List Int) (v : Value), kss[q]? = some ks → (xss.map (List.map (X.ev ρ)))[q]? = some x → vs[q]? = some v → ∃ p off, ps[j + q]? = some p ∧ p.2 = encP off ks [x] ∧ v = .pointer (some ⟨p.1, off, none⟩)) →
    svsRel ρ' (muP ps) (elPat n j kss) vs
  | [], [], [], i, j, _, _, _, _, _ => trivial
  | ks :: l, x :: m, v :: vs, i, j, hlen, hvl, hd, hc, hp => by
    simp only [List.map_cons, List.cons.injEq] at hlen
    refine ⟨?_, elPat_rel hlen.2 (by simpa using hvl) (fun r d h => hd r d (List.mem_cons_of_mem _ h)) (i := i + ks.length) (fun c y hy => ?_) (fun q k y u h1 h2 h3 => ?_)⟩
    · obtain ⟨p, off, h1, h2, rfl⟩ := hp 0 ks _ v rfl rfl rfl
      refine ⟨p, off, [x.map (X.ev ρ)], 0, ?_, h2, ?_, rfl, by simp, by simp⟩
      · unfold muP
        rw [if_pos (Nat.le_add_right _ _), Nat.add_sub_cancel_left]
        exact h1
      · show ρ' (n + j) = _
        rw [hd (n + j) ⟨66, upRegs i ks.length⟩ List.mem_cons_self]
        show encE [(upRegs i ks.length).map (X.ev ρ')] = _
        congr 2
        apply List.ext_getElem?
        intro c
        have hu : ∀ {n i c : Nat}, (upRegs i n)[c]? = if c < n then some (.reg (i + c)) else none := by
          intro n
          induction n with
          | zero => intro i c; simp [upRegs]
          | succ n ih =>
            intro i c
            unfold upRegs
            cases c with
            | zero => simp
            | succ c =>
              rw [List.getElem?_cons_succ, ih]
              by_cases h : c < n
              · rw [if_pos h, if_pos (by omega), show i + 1 + c = i + (c + 1) by omega]
              · rw [if_neg h, if_neg (by omega)]
        rw [List.getElem?_map, List.getElem?_map, hu]
        by_cases h : c < ks.length
        · rw [if_pos h]
          have hx : x[c]? = some (x[c]'(by omega)) := List.getElem?_eq_getElem (by omega)
          have := hc c (x[c]'(by omega)) (by
            rw [List.flatten_cons, List.getElem?_append_left (by omega)]; exact hx)
          rw [hx]
          exact congrArg some this
        · rw [if_neg h, List.getElem?_eq_none (by omega)]; rfl
    · have := hc (ks.length + c) y (by
        rw [List.flatten_cons, List.getElem?_append_right (by omega), ← hlen.1, Nat.add_sub_cancel_left]; exact hy)
      rw [← this, Nat.add_assoc]
    · have := hp (q + 1) k y u (by simpa using h1) (by simpa using h2) (by simpa using h3)
      rw [show j + 1 + q = j + (q + 1) by omega]; exact this
  | [], [], _ :: _, _, _, _, h, _, _, _ => by simp at h
  | [], _ :: _, _, _, _, h, _, _, _, _ => by simp at h
  | _ :: _, [], _, _, _, h, _, _, _, _ => by simp at h
  | _ :: _, _ :: _, [], _, _, _, h, _, _, _ => by simp at h

theorem elPat_len {n : Nat} : ∀ {kss : List (List Nat)} {j : Nat}, (elPat n j kss).length = kss.length
  | [], _ => rfl
  | _ :: l, j => by unfold elPat; rw [List.length_cons, elPat_len]; rfl
end

/-- A run over symbolic structs, under another contract that says the same. -/
theorem smE_via {P : Program} {Γ : Ctx} (hΓ : Γ.ok P) (hsum : ∀ f s, Γ.summ f = some s → SummOK P f s) {hn : Nat → Option Hint} {f : Nat} {F : Func} (hF : P.funcs[f]? = some F) (hname : (F.name == "runtime.NumGoroutine") = false)
    {kss : List (List Nat)} {S S2 : Sm} (hrun : smRunE Γ hn F kss S = true) (hg2 : goodTab (sizeE kss) (tabL S2) = true) (hd2 : dsOK (tabL S2) S2.ds = true)
    (hEq : ∀ (ρ1 ρ2 : Nat → Int) (μ : Mu) (x : Value), (∀ r, r < sizeE kss → ρ1 r = ρ2 r) → (∀ r d, (r, d) ∈ S.ds → ρ1 r = d.ev ρ1) → (∀ r d, (r, d) ∈ S2.ds → ρ2 r = d.ev ρ2) → (S.vt.pick ρ1).rel ρ1 μ x → (S2.vt.pick ρ2).rel ρ2 μ x) :
    SummOK P f (smE S2 kss) := by
  intro T st args T1 vt h ρ hs
  unfold smE at h
  split at h
  case h_2 => cases h
  rename_i T0 xss hxs
  split at h
  case h_2 => cases h
  rename_i T2 σ hinst
  split at h
  case h_2 => cases h
  rename_i vt' hvt'
  cases h
  unfold smRunE at hrun
  split at hrun
  case h_2 => cases hrun
  rename_i TR tR hr
  split at hrun
  case h_2 => cases hrun
  rename_i hg hds hlow
  simp only [Bool.and_eq_true] at hlow
  split at hrun
  case h_2 => cases hrun
  rename_i vt0 hvt
  have hvte := vtBeq_eq hrun
  subst hvte
  unfold runE at hr
  split at hr
  case h_2 => cases hr
  rename_i c hb
  obtain ⟨ρ', hin, hs'⟩ := exists_rho hg (fun r => (xss.flatten[r]?.map (X.ev ρ)).getD 0)
  obtain ⟨ρ2, hin2, hs2⟩ := exists_rho hg2 (fun r => (xss.flatten[r]?.map (X.ev ρ)).getD 0)
  obtain ⟨s0, hst⟩ := instDs_spec hs2 S2.ds _ _ _ _ (dsOK_spec hd2) hinst hs
  obtain ⟨sT, hpt⟩ := ptrsX_spec hxs s0
  refine ⟨sT, fun w0 μ nb bs vs w hf hbs hwr hvs => ?_⟩
  obtain ⟨hlen, hpa⟩ := hpt w0 μ nb bs w _ hbs hwr hvs
  have hfl := flat_get hlen
  have hat2 : ∀ j x, xss.flatten[j]? = some x → ρ2 (0 + j) = x.ev ρ := fun j x hj => by
    have hlt := (List.getElem?_eq_some_iff.1 hj).1
    rw [Nat.zero_add, hin2 j (by omega), hj]; rfl
  have hat : ∀ j x, xss.flatten[j]? = some x → ρ' (0 + j) = x.ev ρ := fun j x hj => by
    have hlt := (List.getElem?_eq_some_iff.1 hj).1
    rw [Nat.zero_add, hin j (by omega), hj]; rfl
  have hstands := hst (fun r x hx => by
    rcases putsX_get _ _ _ _ _ hx with ⟨j, e, hj⟩ | hx
    · rw [e]; exact (hat2 j x hj).symm
    · cases hx)
  obtain ⟨sE, hwp⟩ := execX_sound hΓ hsum (fun _ _ h => by cases h) 400 ρ' _ _ _ _ _ hr hs'
  obtain ⟨ps, l1, l2, l3, l4, l5⟩ := hpa.locs
  have hrel : svsRel ρ' (muP ps) (elPat (sizeE kss) 0 kss) vs.toList :=
    elPat_rel (i := 0) hlen l3 (fun r d hd => sE r d (dsOK_spec hlow.2 r d hd)) hat (fun q ks x v h1 h2 h3 => by rw [Nat.zero_add]; exact l5 q ks x v h1 h2 h3)
  have hfr := frame_enter hrel F.ntmps
  refine callOK_of hΓ hF hname hb (calls_of_wp hF hb (hwp (Base.all w) (muP ps) _ w _ ⟨rfl, hfr, WR.places l4 (by rw [l1]; exact Nat.le_add_right _ _), (fun r b h => by cases h)⟩ ?_))
  refine vtree_spec hvt _ fun e s v hv hpick => ?_
  intro μ' a' w' hp hw'
  obtain ⟨he, hv', hvn⟩ := leafRes_spec hv
  obtain ⟨x, hx, hxr⟩ := resultsS_sound hΓ hv' hw'
  have hxr' := settle_rel hs' hw'.fa (SV.rel_num (μ' := μ) hvn hxr)
  rw [← hpick] at hxr'
  have hx2 := hEq ρ' ρ2 μ x (fun r hr => by rw [hin r hr, hin2 r hr]) (fun r d hd => hs' r d (dsOK_spec hds r d hd)) (fun r d hd => hs2 r d (dsOK_spec hd2 r d hd)) hxr'
  have fin : bodyPost P F (fun e w2 => ∃ v, e = .returned v ∧ (vt.pick ρ).rel ρ μ v ∧ WR ρ w0 μ nb bs w2) .ret a' w' :=
    ⟨hw'.defers, x, hx, x, rfl, instVT_rel hstands hs hf hvt' hx2, hwr.after hw'.wr.kept.below⟩
  rcases he with rfl | rfl <;> exact fin
end
end Go.Sx

namespace Go.Sx
noncomputable section
open Go.RowKit

/-- A program that computes once: its number, its inputs, and which of the contract's numbers its own are. -/
structure Oq where
  n : Nat
  id : Nat
  p : Lit
  m : List X

def zeros : Nat → List X
  | 0 => []
  | k + 1 => .lit 0 :: zeros k

def oqArgs (Q : Oq) : List X := zeros Q.p.k ++ upRegs 0 Q.n

def resL (g : X → Tab → Option (Tab × X)) : List X → Tab → Option (Tab × List X)
  | [], T => some (T, [])
  | x :: l, T =>
    match g x T with
    | some (T1, y) => match resL g l T1 with
      | some (T2, m) => some (T2, y :: m)
      | none => none
    | none => none

/-- A number of the other contract, in the table. -/
def oqRes (Q : Oq) (T2 : Tab) (os : Option (List X)) : Nat → X → Tab → Option (Tab × X)
  | _, .lit v, T => some (T, .lit v)
  | 0, .reg _, _ => none
  | f + 1, .reg r, T =>
    match Nat.blt r Q.n with
    | true => some (T, .reg r)
    | false =>
      match T2.defs.get r with
      | some d =>
        match Nat.beq d.f 70 with
        | true =>
          match os, d.a with
          | some l, .lit (.ofNat i) :: .lit (.ofNat j) :: as =>
            match Nat.beq i Q.id && xsBeq as (oqArgs Q), l[j]? with
            | true, some x => some (T, x)
            | _, _ => none
          | _, _ => none
        | false =>
          match resL (oqRes Q T2 os f) d.a T with
          | some (T1, a) => mk T1 d.f a
          | none => none
      | none => none

inductive LTR where
  | os (l : List X)
  | ask (y : X)
  | bad

def oqLT (m : List X) (σ : Tr X) (T : Tab) (fa : Tr Bool) : LT → LTR
  | .stop => .bad
  | .next outs =>
    match locXs m outs with
    | some o => match instXs σ o with
      | some l => .os l
      | none => .bad
    | none => .bad
  | .node r a b =>
    match m[r]? with
    | some x =>
      match instX σ x with
      | some y =>
        match decideX T fa y with
        | .known true => oqLT m σ T fa a
        | .known false => oqLT m σ T fa b
        | _ => .ask y
      | none => .bad
    | none => .bad

/-- The program's numbers in the contract's table, as a tree. -/
def mTr (Q : Oq) : Tr X := putsX Q.m 0 .nil

def locM (M : Tr X) : X → Option X
  | .lit n => some (.lit n)
  | .reg r => M.get r

def locMs (M : Tr X) : List X → Option (List X)
  | [] => some []
  | x :: l =>
    match locM M x, locMs M l with
    | some y, some r => some (y :: r)
    | _, _ => none

def dsChkM (T1 : Tab) (id : Nat) (M : Tr X) : Nat → List D → Bool
  | _, [] => true
  | n, d :: l =>
    match M.get n, locMs M d.a with
    | some (.reg r), some a =>
      match T1.defs.get r with
      | some e => Nat.beq e.f d.f && (xsBeq e.a a && (lowId id d && (allBelow n d.a && dsChkM T1 id M (n + 1) l)))
      | none => false
    | _, _ => false

def oqLTM (M : Tr X) (σ : Tr X) (T : Tab) (fa : Tr Bool) : LT → LTR
  | .stop => .bad
  | .next outs =>
    match locMs M outs with
    | some o => match instXs σ o with
      | some l => .os l
      | none => .bad
    | none => .bad
  | .node r a b =>
    match M.get r with
    | some x =>
      match instX σ x with
      | some y =>
        match decideX T fa y with
        | .known true => oqLTM M σ T fa a
        | .known false => oqLTM M σ T fa b
        | _ => .ask y
      | none => .bad
    | none => .bad

def oqX (res : X → Tab → Option (Tab × X)) (σ : Tr X) (x y : X) (T : Tab) : Option Tab :=
  match res x T, instX σ y with
  | some (T1, a), some b => match a.beq b with
    | true => some T1
    | false => none
  | _, _ => none

def oqC (res : X → Tab → Option (Tab × X)) (σ : Tr X) : SC → SC → Tab → Option Tab
  | .bool x, .bool y, T => oqX res σ x y T
  | .int k x, .int k' y, T => match Nat.beq (kindNo k) (kindNo k') with
    | true => oqX res σ x y T
    | false => none
  | .flt .f32 x, .flt .f32 y, T => oqX res σ x y T
  | .flt .f64 x, .flt .f64 y, T => oqX res σ x y T
  | _, _, _ => none

def oqCs (res : X → Tab → Option (Tab × X)) (σ : Tr X) : List SC → List SC → Tab → Option Tab
  | [], [], T => some T
  | a :: l, b :: m, T => match oqC res σ a b T with
    | some T1 => oqCs res σ l m T1
    | none => none
  | _, _, _ => none

def oqW (res : X → Tab → Option (Tab × X)) (σ : Tr X) : SW → SW → Tab → Option Tab
  | .one a, .one b, T => oqC res σ a b T
  | .agg a, .agg b, T => oqCs res σ a b T
  | _, _, _ => none

def oqWs (res : X → Tab → Option (Tab × X)) (σ : Tr X) : List SW → List SW → Tab → Option Tab
  | [], [], T => some T
  | a :: l, b :: m, T => match oqW res σ a b T with
    | some T1 => oqWs res σ l m T1
    | none => none
  | _, _, _ => none

def oqV (res : X → Tab → Option (Tab × X)) (σ : Tr X) : SV → SV → Tab → Option Tab
  | .w a, .w b, T => oqW res σ a b T
  | .tup a, .tup b, T => oqWs res σ a b T
  | _, _, _ => none

/-- The program's numbers begin with its flag. -/
def oqHead (Q : Oq) (l : List X) : Bool :=
  match l with
  | .lit (.ofNat 1) :: m => Nat.beq (m.length + 1) Q.p.k
  | _ => false

/-- The other contract's ways, under what is known; what is not known is parted. -/
def oqGo (Q : Oq) (body : LT) (T2 : Tab) (σ : Tr X) (v : SV) : Nat → VT → Option (List X) → Tr Bool → Tab → Option Tab
  | 0, _, _, _, _ => none
  | _ + 1, .leaf v2, os, fa, T =>
    match oqV (oqRes Q T2 os 200) σ v2 v T with
    | some T1 => some T1
    | none => match dead T fa with
      | true => some T
      | false => none
  | n + 1, .node r a b, os, fa, T =>
    match oqRes Q T2 os 200 (.reg r) T with
    | some (T1, x) =>
      match decideX T1 fa x with
      | .known true => oqGo Q body T2 σ v n a os fa T1
      | .known false => oqGo Q body T2 σ v n b os fa T1
      | _ =>
        match oqGo Q body T2 σ v n a os (learnX T1 fuelD fa x true) T1 with
        | some T3 => oqGo Q body T2 σ v n b os (learnX T1 fuelD fa x false) T3
        | none => none
    | none =>
      match os with
      | some _ => none
      | none =>
        match oqLTM (mTr Q) σ T fa body with
        | .os l => match oqHead Q l with
          | true => oqGo Q body T2 σ v n (.node r a b) (some l) fa T
          | false => none
        | .ask y =>
          match oqGo Q body T2 σ v n (.node r a b) none (learnX T fuelD fa y true) T with
          | some T3 => oqGo Q body T2 σ v n (.node r a b) none (learnX T fuelD fa y false) T3
          | none => none
        | .bad => none

def oqT (Q : Oq) (body : LT) (S2 : Sm) (T2 : Tab) (σ : Tr X) : VT → Tr Bool → Tab → Option Tab
  | .leaf v, fa, T => oqGo Q body T2 σ v 400 S2.vt none fa T
  | .node r a b, fa, T =>
    match σ.get r with
    | some (.reg q) =>
      match oqT Q body S2 T2 σ a (learnX T fuelD fa (.reg q) true) T with
      | some T1 => oqT Q body S2 T2 σ b (learnX T fuelD fa (.reg q) false) T1
      | none => none
    | _ => none

def bodyOf : LT → Option LT
  | .node 0 .stop b => some b
  | _ => none

def oqChk (Q : Oq) (S S2 : Sm) : Bool :=
  match instDs S.ds (putsX (upRegs 0 Q.n) 0 .nil) ⟨Q.n, .nil, .nil⟩, bodyOf Q.p.tr with
  | some (T0, σ), some body =>
    (dsOK (tabL S) S.ds && (Nat.ble Q.n maxReg && (Nat.blt 0 Q.p.k && (xsBeq (Q.m.take (Q.p.k + Q.n)) (oqArgs Q) && dsChkM (tabL S) Q.id (mTr Q) (Q.p.k + Q.n) Q.p.ds)))) &&
    (Nat.beq (Q.p.k + Q.n + Q.p.ds.length) Q.m.length &&
    (match oqT Q body S2 (tabL S2) σ S.vt .nil T0 with
    | some T => goodTab Q.n T
    | none => false))
  | _, _ => false

/-! ### What it says -/
section
variable {ρ ρ1 ρ2 : Nat → Int}

theorem resL_spec {g : X → Tab → Option (Tab × X)} (hg : ∀ x T T' y, g x T = some (T', y) → Sat ρ T' → Sat ρ T ∧ y.ev ρ = x.ev ρ2) : ∀ {l m : List X} {T T' : Tab}, resL g l T = some (T', m) → Sat ρ T' →
    Sat ρ T ∧ m.map (X.ev ρ) = l.map (X.ev ρ2)
  | [], m, T, T', h, hs => by unfold resL at h; cases h; exact ⟨hs, rfl⟩
  | x :: l, m, T, T', h, hs => by
    unfold resL at h
    split at h
    · rename_i T1 y h1
      split at h
      · rename_i T2 m' h2
        cases h
        obtain ⟨s1, e2⟩ := resL_spec hg h2 hs
        obtain ⟨s0, e1⟩ := hg _ _ _ _ h1 s1
        exact ⟨s0, by rw [List.map_cons, List.map_cons, e1, e2]⟩
      · cases h
    · cases h

theorem oqRes_spec {Q : Oq} {T2 : Tab} {os : Option (List X)} (hin : ∀ r, r < Q.n → ρ r = ρ2 r) (h2 : ∀ r d, T2.defs.get r = some d → ρ2 r = d.ev ρ2)
    (hos : ∀ l, os = some l → ∀ (j : Nat) (x : X), l[j]? = some x → opF 70 ((Q.id : Int) :: (j : Int) :: (oqArgs Q).map (X.ev ρ2)) = x.ev ρ) :
    ∀ (f : Nat) (x : X) (T T' : Tab) (y : X), oqRes Q T2 os f x T = some (T', y) → Sat ρ T' → Sat ρ T ∧ y.ev ρ = x.ev ρ2
  | _, .lit v, T, T', y, h, hs => by unfold oqRes at h; cases h; exact ⟨hs, rfl⟩
  | 0, .reg r, T, T', y, h, hs => by unfold oqRes at h; cases h
  | f + 1, .reg r, T, T', y, h, hs => by
    unfold oqRes at h
    split at h
    · rename_i hr
      cases h
      exact ⟨hs, hin r (Nat.le_of_ble_eq_true hr)⟩
    · split at h
      · rename_i d hd
        have e2 := h2 r d hd
        split at h
        · rename_i hf
          split at h
          · rename_i l i j as hl
            rename_i hda _
            split at h
            · rename_i x hc hx
              cases h
              simp only [Bool.and_eq_true] at hc
              refine ⟨hs, ?_⟩
              have hi := Nat.eq_of_beq_eq_true hc.1
              have ha := xsBeq_eq hc.2
              have := hos l rfl j y hx
              rw [← this]
              show _ = ρ2 r
              rw [e2]
              obtain ⟨df, da⟩ := d
              have hf := Nat.eq_of_beq_eq_true hf
              have hf : df = 70 := hf
              subst hf
              subst hi
              subst ha
              simp_all [D.ev, X.ev]
            · cases h
          · cases h
        · split at h
          · rename_i T1 a ha
            obtain ⟨s1, e⟩ := mk_spec h hs
            obtain ⟨s0, em⟩ := resL_spec (oqRes_spec hin h2 hos f) ha s1
            refine ⟨s0, ?_⟩
            rw [e, em]
            exact e2.symm
          · cases h
      · cases h

theorem zeros_ev (ρ : Nat → Int) : ∀ {k : Nat}, (zeros k).map (X.ev ρ) = List.replicate k 0
  | 0 => rfl
  | k + 1 => by unfold zeros; rw [List.map_cons, zeros_ev ρ, List.replicate_succ]; rfl

theorem zeros_len : ∀ {k : Nat}, (zeros k).length = k
  | 0 => rfl
  | k + 1 => by unfold zeros; rw [List.length_cons, zeros_len]

theorem upRegs_len : ∀ {n i : Nat}, (upRegs i n).length = n
  | 0, _ => rfl
  | n + 1, i => by unfold upRegs; rw [List.length_cons, upRegs_len]

theorem upRegs_at : ∀ {n i c : Nat} {x : X}, (upRegs i n)[c]? = some x → c < n ∧ x = .reg (i + c)
  | 0, i, c, x, h => by simp [upRegs] at h
  | n + 1, i, 0, x, h => by
    unfold upRegs at h
    simp only [List.getElem?_cons_zero, Option.some.injEq] at h
    exact ⟨by omega, h.symm⟩
  | n + 1, i, c + 1, x, h => by
    unfold upRegs at h
    rw [List.getElem?_cons_succ] at h
    obtain ⟨h1, h2⟩ := upRegs_at h
    exact ⟨by omega, by rw [h2, show i + 1 + c = i + (c + 1) by omega]⟩

theorem oqArgs_ev {Q : Oq} (h : ∀ r, r < Q.n → ρ1 r = ρ2 r) : (oqArgs Q).map (X.ev ρ1) = (oqArgs Q).map (X.ev ρ2) := by
  apply List.map_congr_left
  intro x hx
  unfold oqArgs at hx
  rcases List.mem_append.1 hx with hx | hx
  · obtain ⟨c, hc⟩ := List.getElem?_of_mem hx
    have : ∀ {k c : Nat} {x : X}, (zeros k)[c]? = some x → x = .lit 0 := by
      intro k
      induction k with
      | zero => intro c x h; simp [zeros] at h
      | succ k ih =>
        intro c x h
        unfold zeros at h
        cases c with
        | zero => simpa using h.symm
        | succ c => exact ih (by simpa using h)
    rw [this hc]; rfl
  · obtain ⟨c, hc⟩ := List.getElem?_of_mem hx
    obtain ⟨h1, rfl⟩ := upRegs_at hc
    rw [Nat.zero_add]
    exact h c h1

theorem oqLT_spec {m : List X} {σ : Tr X} {T : Tab} {fa : Tr Bool} (hs : Sat ρ T) (hf : Facts ρ fa) (hst : Stands ρ ρ1 σ) {env : List Int} (he : EnvOK ρ1 m env) (hlen : env.length = m.length) :
    ∀ {t : LT} {os : List X}, oqLT m σ T fa t = .os os → t.go env = some (os.map (X.ev ρ))
  | .stop, os, h => by cases h
  | .next outs, os, h => by
    unfold oqLT at h
    split at h
    · rename_i o ho
      split at h
      · rename_i l hl
        cases h
        show some (outs.map (lev env)) = _
        rw [locXs_lev he ho (by rw [hlen]; exact locXs_below ho), instXs_spec hst hl]
      · cases h
    · cases h
  | .node r a b, os, h => by
    unfold oqLT at h
    split at h
    · rename_i x hx
      split at h
      · rename_i y hy
        have hr : r < env.length := by rw [hlen]; exact (List.getElem?_eq_some_iff.1 hx).1
        obtain ⟨z, hz, e⟩ := he r hr
        rw [hx] at hz; cases hz
        have ey := instX_spec hst hy
        split at h
        · rename_i hd
          have := decideX_spec hs hf y
          rw [hd] at this
          have this : (y.ev ρ == 1) = true := this
          have this : y.ev ρ = 1 := by simpa using this
          unfold LT.go
          rw [e, ← ey, if_pos this]
          exact oqLT_spec hs hf hst he hlen h
        · rename_i hd
          have := decideX_spec hs hf y
          rw [hd] at this
          have this : (y.ev ρ == 1) = false := this
          have this : ¬ y.ev ρ = 1 := by simpa using this
          unfold LT.go
          rw [e, ← ey, if_neg this]
          exact oqLT_spec hs hf hst he hlen h
        · cases h
      · cases h
    · cases h

theorem bodyOf_eq {t b : LT} (h : bodyOf t = some b) : t = .node 0 .stop b := by
  unfold bodyOf at h
  split at h
  · cases h; rfl
  · cases h

/-- What the program computes. -/
theorem once_sem {op : Nat → List Int → Int} {p : Lit} {body : LT} (hb : bodyOf p.tr = some body) (hk : 0 < p.k) {ins os : List Int} (hstep : body.go (runDs op p.ds (List.replicate p.k 0 ++ ins)) = some os) (hos : os.length = p.k) (h1 : os.getD 0 0 = 1) (j : Nat) :
    p.sem op ((j : Int) :: (List.replicate p.k 0 ++ ins)) = os.getD j 0 := by
  have htr := bodyOf_eq hb
  have s1 : p.step op ins (List.replicate p.k 0) = some os := by
    unfold Lit.step
    rw [htr]
    unfold LT.go
    rw [runDs_head (by simp; omega), if_neg]
    · exact hstep
    · obtain ⟨k, hk'⟩ : ∃ k, p.k = k + 1 := ⟨p.k - 1, by omega⟩
      rw [hk']; simp [List.replicate_succ]
  have s2 : p.step op ins os = none := by
    unfold Lit.step
    rw [htr]
    unfold LT.go
    rw [runDs_head (by simp; omega), if_pos]
    · rfl
    · cases os with
      | nil => simp at hos; omega
      | cons a l => exact h1
  unfold Lit.sem
  simp only
  have e1 : (List.replicate p.k (0 : Int) ++ ins).drop p.k = ins := by
    rw [List.drop_append_of_le_length (by simp)]; simp
  have e2 : (List.replicate p.k (0 : Int) ++ ins).take p.k = List.replicate p.k 0 := by
    rw [List.take_append_of_le_length (by simp)]; simp
  rw [e1, e2, fin_of (n := 1) (by unfold itn; rw [s1]; rfl) s2]
  rfl

section
variable {res : X → Tab → Option (Tab × X)} (hres : ∀ x T T' y, res x T = some (T', y) → Sat ρ T' → Sat ρ T ∧ y.ev ρ = x.ev ρ2) {σ : Tr X} (hst : Stands ρ ρ1 σ)
include hres hst

theorem oqX_spec {x y : X} {T T' : Tab} (h : oqX res σ x y T = some T') (hs : Sat ρ T') : Sat ρ T ∧ x.ev ρ2 = y.ev ρ1 := by
  unfold oqX at h
  split at h
  · rename_i T1 a b ha hb
    split at h
    · rename_i he
      cases h
      obtain ⟨s0, e⟩ := hres _ _ _ _ ha hs
      exact ⟨s0, by rw [← e, X.beq_eq he]; exact instX_spec hst hb⟩
    · cases h
  · cases h

theorem oqC_spec {a b : SC} {T T' : Tab} (h : oqC res σ a b T = some T') (hs : Sat ρ T') : Sat ρ T ∧ ∀ (μ : Mu) (v : Value), b.rel ρ1 μ v → a.rel ρ2 μ v := by
  unfold oqC at h
  split at h
  · obtain ⟨s0, e⟩ := oqX_spec hres hst h hs
    exact ⟨s0, fun μ v hv => by show v = .bool _; rw [e]; exact hv⟩
  · split at h
    · rename_i hk
      obtain ⟨s0, e⟩ := oqX_spec hres hst h hs
      refine ⟨s0, fun μ v hv => ?_⟩
      show v = .int _ _
      rw [e, kindNo_inj hk]; exact hv
    · cases h
  · obtain ⟨s0, e⟩ := oqX_spec hres hst h hs
    exact ⟨s0, fun μ v hv => let ⟨b, e1, hb⟩ := hv; ⟨b, e1, by rw [e]; exact hb⟩⟩
  · obtain ⟨s0, e⟩ := oqX_spec hres hst h hs
    exact ⟨s0, fun μ v hv => let ⟨b, e1, hb⟩ := hv; ⟨b, e1, by rw [e]; exact hb⟩⟩
  · cases h

theorem oqCs_spec : ∀ {a b : List SC} {T T' : Tab}, oqCs res σ a b T = some T' → Sat ρ T' → Sat ρ T ∧ ∀ (μ : Mu) (vs : List Value), cellsRel ρ1 μ b vs → cellsRel ρ2 μ a vs
  | [], [], T, T', h, hs => by
    unfold oqCs at h; cases h
    exact ⟨hs, fun μ vs hv => by cases vs with | nil => trivial | cons _ _ => exact hv.elim⟩
  | a :: l, b :: m, T, T', h, hs => by
    unfold oqCs at h
    split at h
    · rename_i T1 h1
      obtain ⟨s1, k2⟩ := oqCs_spec h hs
      obtain ⟨s0, k1⟩ := oqC_spec hres hst h1 s1
      exact ⟨s0, fun μ vs hv => by cases vs with | nil => exact hv.elim | cons v vs => exact ⟨k1 μ v hv.1, k2 μ vs hv.2⟩⟩
    · cases h
  | [], _ :: _, _, _, h, _ => by unfold oqCs at h; cases h
  | _ :: _, [], _, _, h, _ => by unfold oqCs at h; cases h

theorem oqW_spec {a b : SW} {T T' : Tab} (h : oqW res σ a b T = some T') (hs : Sat ρ T') : Sat ρ T ∧ ∀ (μ : Mu) (v : Value), b.rel ρ1 μ v → a.rel ρ2 μ v := by
  unfold oqW at h
  split at h
  · exact oqC_spec hres hst h hs
  · obtain ⟨s0, k⟩ := oqCs_spec hres hst h hs
    exact ⟨s0, fun μ v hv => let ⟨cs, e, hc⟩ := hv; ⟨cs, e, k μ _ hc⟩⟩
  · cases h

theorem oqWs_spec : ∀ {a b : List SW} {T T' : Tab}, oqWs res σ a b T = some T' → Sat ρ T' → Sat ρ T ∧ ∀ (μ : Mu) (vs : List Value), swsRel ρ1 μ b vs → swsRel ρ2 μ a vs
  | [], [], T, T', h, hs => by
    unfold oqWs at h; cases h
    exact ⟨hs, fun μ vs hv => by cases vs with | nil => trivial | cons _ _ => exact hv.elim⟩
  | a :: l, b :: m, T, T', h, hs => by
    unfold oqWs at h
    split at h
    · rename_i T1 h1
      obtain ⟨s1, k2⟩ := oqWs_spec h hs
      obtain ⟨s0, k1⟩ := oqW_spec hres hst h1 s1
      exact ⟨s0, fun μ vs hv => by cases vs with | nil => exact hv.elim | cons v vs => exact ⟨k1 μ v hv.1, k2 μ vs hv.2⟩⟩
    · cases h
  | [], _ :: _, _, _, h, _ => by unfold oqWs at h; cases h
  | _ :: _, [], _, _, h, _ => by unfold oqWs at h; cases h

theorem oqV_spec {a b : SV} {T T' : Tab} (h : oqV res σ a b T = some T') (hs : Sat ρ T') : Sat ρ T ∧ ∀ (μ : Mu) (v : Value), b.rel ρ1 μ v → a.rel ρ2 μ v := by
  unfold oqV at h
  split at h
  · exact oqW_spec hres hst h hs
  · obtain ⟨s0, k⟩ := oqWs_spec hres hst h hs
    exact ⟨s0, fun μ v hv => let ⟨cs, e, hc⟩ := hv; ⟨cs, e, k μ _ hc⟩⟩
  · cases h
end

theorem mTr_ok (Q : Oq) (r : Nat) (x : X) (h : (mTr Q).get r = some x) : Q.m[r]? = some x := by
  rcases putsX_get _ _ _ _ _ h with ⟨j, e, hj⟩ | hx
  · rw [e, Nat.zero_add]; exact hj
  · cases hx

section
variable {M : Tr X} {m : List X} (hM : ∀ r x, M.get r = some x → m[r]? = some x)
include hM

theorem locMs_ok : ∀ {l a : List X}, locMs M l = some a → locXs m l = some a
  | [], a, h => h
  | x :: l, a, h => by
    unfold locMs at h
    split at h
    · rename_i y r hy hr
      cases h
      unfold locXs
      have : locX m x = some y := by
        cases x with
        | lit n => exact hy
        | reg q => exact hM q y hy
      rw [this, locMs_ok hr]
    · cases h

theorem dsChkM_ok {T1 : Tab} {id : Nat} : ∀ {ds : List D} {n : Nat}, dsChkM T1 id M n ds = true → dsChk T1 id m n ds = true
  | [], _, _ => rfl
  | d :: l, n, h => by
    unfold dsChkM at h
    split at h
    · rename_i r a hr ha
      split at h
      · rename_i e he
        simp only [Bool.and_eq_true] at h
        obtain ⟨h1, h2, h3, h4, h5⟩ := h
        unfold dsChk
        rw [hM n _ hr, locMs_ok hM ha]
        simp only [he, h1, h2, h3, h4, dsChkM_ok h5, Bool.and_self]
      · cases h
    · cases h

theorem oqLTM_os {σ : Tr X} {T : Tab} {fa : Tr Bool} : ∀ {t : LT} {l : List X}, oqLTM M σ T fa t = .os l → oqLT m σ T fa t = .os l
  | .stop, l, h => by cases h
  | .next outs, l, h => by
    unfold oqLTM at h
    split at h
    · rename_i o ho
      unfold oqLT
      rw [locMs_ok hM ho]
      exact h
    · cases h
  | .node r a b, l, h => by
    unfold oqLTM at h
    split at h
    · rename_i x hx
      unfold oqLT
      rw [hM r x hx]
      split at h
      · rename_i y hy
        simp only [hy]
        split at h
        · exact oqLTM_os h
        · exact oqLTM_os h
        · cases h
      · cases h
    · cases h
end

/-- The program's own run, at the contract's numbers. -/
theorem oqOs_spec {Q : Oq} {S : Sm} (hp : progs[Q.id]? = some Q.p) {body : LT} (hb : bodyOf Q.p.tr = some body) (hk : 0 < Q.p.k) (hm : Q.m.take (Q.p.k + Q.n) = oqArgs Q) (hds : dsChk (tabL S) Q.id Q.m (Q.p.k + Q.n) Q.p.ds = true)
    (hml : Q.p.k + Q.n + Q.p.ds.length = Q.m.length) (hs1 : Sat ρ1 (tabL S)) (hin : ∀ r, r < Q.n → ρ1 r = ρ2 r) {σ : Tr X} (hst : Stands ρ ρ1 σ) {T : Tab} (hs : Sat ρ T) {fa : Tr Bool} (hf : Facts ρ fa) {l : List X} (hl : oqLT Q.m σ T fa body = .os l) (hh : oqHead Q l = true) (j : Nat) (x : X) (hx : l[j]? = some x) :
    opF 70 ((Q.id : Int) :: (j : Int) :: (oqArgs Q).map (X.ev ρ2)) = x.ev ρ := by
  unfold oqHead at hh
  split at hh
  case h_2 => cases hh
  rename_i l'
  have hlen := Nat.eq_of_beq_eq_true hh
  have hid : Q.id ≤ progs.length := by have := (List.getElem?_eq_some_iff.1 hp).1; omega
  have al : (oqArgs Q).length = Q.p.k + Q.n := by unfold oqArgs; rw [List.length_append, zeros_len, upRegs_len]
  have he : EnvOK ρ1 Q.m ((oqArgs Q).map (X.ev ρ1)) := by
    intro r hr
    rw [List.length_map, al] at hr
    have h1 : (oqArgs Q)[r]? = Q.m[r]? := by rw [← hm, List.getElem?_take_of_lt hr]
    have h2 : Q.m[r]? = some (Q.m[r]'(by omega)) := List.getElem?_eq_getElem (by omega)
    refine ⟨_, h2, ?_⟩
    rw [List.getD_eq_getElem?_getD, List.getElem?_map, h1, h2]; rfl
  obtain ⟨k1, k2⟩ := runDs_ok (ds := Q.p.ds) hs1 hid (by rw [List.length_map, al]; exact hds) he
  have hgo := oqLT_spec hs hf hst k1 (by rw [k2, List.length_map, al]; exact hml) hl
  rw [← oqArgs_ev hin, opF_prog hp]
  have ea : (oqArgs Q).map (X.ev ρ1) = List.replicate Q.p.k 0 ++ (upRegs 0 Q.n).map (X.ev ρ1) := by unfold oqArgs; rw [List.map_append, zeros_ev]
  rw [ea] at hgo ⊢
  rw [once_sem hb hk hgo (by rw [List.length_map, List.length_cons]; exact hlen) rfl j, List.getD_eq_getElem?_getD, List.getElem?_map]
  have : (X.lit 1 :: l')[j]? = some x := hx
  rw [show (X.lit (Int.ofNat 1)) = X.lit 1 from rfl, this]; rfl

theorem oqRes_tab {Q : Oq} {T2 : Tab} {os : Option (List X)} : ∀ (f : Nat) {x : X} {T T' : Tab} {y : X}, oqRes Q T2 os f x T = some (T', y) → Sat ρ T' → Sat ρ T := by
  intro f
  induction f with
  | zero => intro x T T' y h hs; cases x with
    | lit v => unfold oqRes at h; cases h; exact hs
    | reg r => unfold oqRes at h; cases h
  | succ f ih =>
    intro x T T' y h hs
    cases x with
    | lit v => unfold oqRes at h; cases h; exact hs
    | reg r =>
      have rl : ∀ {l m : List X} {T T' : Tab}, resL (oqRes Q T2 os f) l T = some (T', m) → Sat ρ T' → Sat ρ T := by
        intro l
        induction l with
        | nil => intro m T T' h hs; unfold resL at h; cases h; exact hs
        | cons x l ihl =>
          intro m T T' h hs
          unfold resL at h
          split at h
          · rename_i h1
            split at h
            · rename_i h2
              cases h
              exact ih h1 (ihl h2 hs)
            · cases h
          · cases h
      unfold oqRes at h
      repeat' split at h
      all_goals first | (cases h; done) | (cases h; exact hs) | skip
      rename_i ha
      exact rl ha (mk_spec h hs).1

theorem oqV_tab {Q : Oq} {T2 : Tab} {σ : Tr X} {os : Option (List X)} : ∀ {x y : SV} {T T' : Tab}, oqV (oqRes Q T2 os 200) σ x y T = some T' → Sat ρ T' → Sat ρ T := by
  have tabX : ∀ {x y : X} {T T' : Tab}, oqX (oqRes Q T2 os 200) σ x y T = some T' → Sat ρ T' → Sat ρ T := by
    intro x y T T' h hs
    unfold oqX at h
    split at h
    · rename_i h1 _
      split at h
      · cases h; exact oqRes_tab 200 h1 hs
      · cases h
    · cases h
  have tabC : ∀ {x y : SC} {T T' : Tab}, oqC (oqRes Q T2 os 200) σ x y T = some T' → Sat ρ T' → Sat ρ T := by
    intro x y T T' h hs
    unfold oqC at h
    repeat' split at h
    all_goals first | (cases h; done) | exact tabX h hs
  have tabCs : ∀ {x y : List SC} {T T' : Tab}, oqCs (oqRes Q T2 os 200) σ x y T = some T' → Sat ρ T' → Sat ρ T := by
    intro x
    induction x with
    | nil => intro y T T' h hs; cases y with
      | nil => unfold oqCs at h; cases h; exact hs
      | cons _ _ => unfold oqCs at h; cases h
    | cons a l ih => intro y T T' h hs; cases y with
      | nil => unfold oqCs at h; cases h
      | cons b m =>
        unfold oqCs at h
        split at h
        · rename_i h1; exact tabC h1 (ih h hs)
        · cases h
  have tabW : ∀ {x y : SW} {T T' : Tab}, oqW (oqRes Q T2 os 200) σ x y T = some T' → Sat ρ T' → Sat ρ T := by
    intro x y T T' h hs
    unfold oqW at h
    split at h
    · exact tabC h hs
    · exact tabCs h hs
    · cases h
  have tabWs : ∀ {x y : List SW} {T T' : Tab}, oqWs (oqRes Q T2 os 200) σ x y T = some T' → Sat ρ T' → Sat ρ T := by
    intro x
    induction x with
    | nil => intro y T T' h hs; cases y with
      | nil => unfold oqWs at h; cases h; exact hs
      | cons _ _ => unfold oqWs at h; cases h
    | cons a l ih => intro y T T' h hs; cases y with
      | nil => unfold oqWs at h; cases h
      | cons b m =>
        unfold oqWs at h
        split at h
        · rename_i h1; exact tabW h1 (ih h hs)
        · cases h
  intro x y T T' h hs
  unfold oqV at h
  split at h
  · exact tabW h hs
  · exact tabWs h hs
  · cases h

theorem oqGo_tab {Q : Oq} {body : LT} {T2 : Tab} {σ : Tr X} {v : SV} : ∀ (n : Nat) {vt : VT} {os : Option (List X)} {fa : Tr Bool} {T T' : Tab}, oqGo Q body T2 σ v n vt os fa T = some T' → Sat ρ T' → Sat ρ T
  | 0, _, _, _, _, _, h, _ => by cases h
  | n + 1, .leaf v2, os, fa, T, T', h, hs => by
    unfold oqGo at h
    split at h
    · rename_i h1; cases h; exact oqV_tab h1 hs
    · split at h
      · cases h; exact hs
      · cases h
  | n + 1, .node r a b, os, fa, T, T', h, hs => by
    unfold oqGo at h
    split at h
    · rename_i T1 x hx
      split at h
      · exact oqRes_tab 200 hx (oqGo_tab n h hs)
      · exact oqRes_tab 200 hx (oqGo_tab n h hs)
      · split at h
        · rename_i h1
          exact oqRes_tab 200 hx (oqGo_tab n h1 (oqGo_tab n h hs))
        · cases h
    · split at h
      · cases h
      · split at h
        · split at h
          · exact oqGo_tab n h hs
          · cases h
        · split at h
          · rename_i h1
            exact oqGo_tab n h1 (oqGo_tab n h hs)
          · cases h
        · cases h

theorem oqT_tab {Q : Oq} {body : LT} {S2 : Sm} {T2 : Tab} {σ : Tr X} : ∀ {vt : VT} {fa : Tr Bool} {T T' : Tab}, oqT Q body S2 T2 σ vt fa T = some T' → Sat ρ T' → Sat ρ T
  | .leaf u, fa, T, T', h, hs => by
    unfold oqT at h
    exact oqGo_tab _ h hs
  | .node r a b, fa, T, T', h, hs => by
    unfold oqT at h
    split at h
    case h_2 => cases h
    rename_i q hq
    split at h
    case h_2 => cases h
    rename_i T1 h1
    exact oqT_tab h1 (oqT_tab h hs)

theorem oqGo_spec {Q : Oq} {S S2 : Sm} (hp : progs[Q.id]? = some Q.p) {body : LT} (hb : bodyOf Q.p.tr = some body) (hk : 0 < Q.p.k) (hm : Q.m.take (Q.p.k + Q.n) = oqArgs Q) (hds : dsChk (tabL S) Q.id Q.m (Q.p.k + Q.n) Q.p.ds = true)
    (hml : Q.p.k + Q.n + Q.p.ds.length = Q.m.length) (hs1 : Sat ρ1 (tabL S)) (hs2 : ∀ r d, (r, d) ∈ S2.ds → ρ2 r = d.ev ρ2) (hin : ∀ r, r < Q.n → ρ1 r = ρ2 r) (hin0 : ∀ r, r < Q.n → ρ r = ρ2 r) {σ : Tr X} (hst : Stands ρ ρ1 σ) {v : SV} {μ : Mu} {x : Value} (hv : v.rel ρ1 μ x) :
    ∀ (n : Nat) {vt : VT} {os : Option (List X)} {fa : Tr Bool} {T T' : Tab}, oqGo Q body (tabL S2) σ v n vt os fa T = some T' → Sat ρ T' → Facts ρ fa →
      (∀ l, os = some l → ∀ (j : Nat) (x : X), l[j]? = some x → opF 70 ((Q.id : Int) :: (j : Int) :: (oqArgs Q).map (X.ev ρ2)) = x.ev ρ) → (vt.pick ρ2).rel ρ2 μ x
  | 0, _, _, _, _, _, h, _, _, _ => by cases h
  | n + 1, .leaf v2, os, fa, T, T', h, hs, hf, hos => by
    have hres := oqRes_spec (ρ := ρ) (Q := Q) (T2 := tabL S2) (os := os) hin0 (fun r d hd => hs2 r d (Tr.mem_ofList _ _ _ _ hd)) hos 200
    unfold oqGo at h
    split at h
    · rename_i h1
      cases h
      exact (oqV_spec hres hst h1 hs).2 μ x hv
    · split at h
      · rename_i hd
        cases h
        exact (dead_spec hs hf hd).elim
      · cases h
  | n + 1, .node r a b, os, fa, T, T', h, hs, hf, hos => by
    have hres := oqRes_spec (ρ := ρ) (Q := Q) (T2 := tabL S2) (os := os) hin0 (fun r d hd => hs2 r d (Tr.mem_ofList _ _ _ _ hd)) hos 200
    have hs0 := oqGo_tab (n + 1) h hs
    unfold oqGo at h
    split at h
    · rename_i T1 y hy
      split at h
      · rename_i hd
        have s1 := oqGo_tab n h hs
        obtain ⟨_, ey⟩ := hres _ _ _ _ hy s1
        have := decideX_spec s1 hf y
        rw [hd] at this
        have this : (y.ev ρ == 1) = true := this
        have this : y.ev ρ = 1 := by simpa using this
        have ey : y.ev ρ = ρ2 r := ey
        unfold VT.pick
        rw [← ey, if_pos this]
        exact oqGo_spec hp hb hk hm hds hml hs1 hs2 hin hin0 hst hv n h hs hf hos
      · rename_i hd
        have s1 := oqGo_tab n h hs
        obtain ⟨_, ey⟩ := hres _ _ _ _ hy s1
        have := decideX_spec s1 hf y
        rw [hd] at this
        have this : (y.ev ρ == 1) = false := this
        have this : ¬ y.ev ρ = 1 := by simpa using this
        have ey : y.ev ρ = ρ2 r := ey
        unfold VT.pick
        rw [← ey, if_neg this]
        exact oqGo_spec hp hb hk hm hds hml hs1 hs2 hin hin0 hst hv n h hs hf hos
      · split at h
        · rename_i T3 h1
          have s3 := oqGo_tab n h hs
          have s1 := oqGo_tab n h1 s3
          obtain ⟨_, ey⟩ := hres _ _ _ _ hy s1
          have ey : y.ev ρ = ρ2 r := ey
          unfold VT.pick
          by_cases h01 : y.ev ρ = 1
          · rw [← ey, if_pos h01]
            exact oqGo_spec hp hb hk hm hds hml hs1 hs2 hin hin0 hst hv n h1 s3 (learnX_spec s1 _ hf (by rw [h01]; rfl)) hos
          · rw [← ey, if_neg h01]
            exact oqGo_spec hp hb hk hm hds hml hs1 hs2 hin hin0 hst hv n h hs (learnX_spec s1 _ hf (by simpa using h01)) hos
        · cases h
    · split at h
      · cases h
      · split at h
        · rename_i l hl
          split at h
          · rename_i hh
            refine oqGo_spec hp hb hk hm hds hml hs1 hs2 hin hin0 hst hv n h hs hf (fun l' e j x hx => ?_)
            cases e
            exact oqOs_spec hp hb hk hm hds hml hs1 hin hst hs0 hf (oqLTM_os (mTr_ok Q) hl) hh j x hx
          · cases h
        · rename_i y hy
          split at h
          · rename_i T3 h1
            have s3 := oqGo_tab n h hs
            by_cases h01 : y.ev ρ = 1
            · exact oqGo_spec hp hb hk hm hds hml hs1 hs2 hin hin0 hst hv n h1 s3 (learnX_spec hs0 _ hf (by rw [h01]; rfl)) (fun _ e => by cases e)
            · exact oqGo_spec hp hb hk hm hds hml hs1 hs2 hin hin0 hst hv n h hs (learnX_spec hs0 _ hf (by simpa using h01)) (fun _ e => by cases e)
          · cases h
        · cases h

theorem oqT_spec {Q : Oq} {S S2 : Sm} (hp : progs[Q.id]? = some Q.p) {body : LT} (hb : bodyOf Q.p.tr = some body) (hk : 0 < Q.p.k) (hm : Q.m.take (Q.p.k + Q.n) = oqArgs Q) (hds : dsChk (tabL S) Q.id Q.m (Q.p.k + Q.n) Q.p.ds = true)
    (hml : Q.p.k + Q.n + Q.p.ds.length = Q.m.length) (hs1 : Sat ρ1 (tabL S)) (hs2 : ∀ r d, (r, d) ∈ S2.ds → ρ2 r = d.ev ρ2) (hin : ∀ r, r < Q.n → ρ1 r = ρ2 r) (hin0 : ∀ r, r < Q.n → ρ r = ρ2 r) {σ : Tr X} (hst : Stands ρ ρ1 σ) :
    ∀ {vt : VT} {fa : Tr Bool} {T T' : Tab}, oqT Q body S2 (tabL S2) σ vt fa T = some T' → Sat ρ T' → Facts ρ fa → ∀ (μ : Mu) (v : Value), (vt.pick ρ1).rel ρ1 μ v → (S2.vt.pick ρ2).rel ρ2 μ v
  | .leaf u, fa, T, T', h, hs, hf, μ, v, hv => by
    unfold oqT at h
    exact oqGo_spec hp hb hk hm hds hml hs1 hs2 hin hin0 hst hv _ h hs hf (fun _ e => by cases e)
  | .node r a b, fa, T, T', h, hs, hf, μ, v, hv => by
    have hs0 := oqT_tab h hs
    unfold oqT at h
    split at h
    case h_2 => cases h
    rename_i q hq
    split at h
    case h_2 => cases h
    rename_i T1 h1
    have s1 := oqT_tab h hs
    have e : ρ q = ρ1 r := hst r _ hq
    unfold VT.pick at hv
    by_cases h01 : ρ1 r = 1
    · rw [if_pos h01] at hv
      exact oqT_spec hp hb hk hm hds hml hs1 hs2 hin hin0 hst h1 s1 (learnX_spec hs0 _ hf (by show (ρ q == 1) = true; rw [e, h01]; rfl)) μ v hv
    · rw [if_neg h01] at hv
      exact oqT_spec hp hb hk hm hds hml hs1 hs2 hin hin0 hst h hs (learnX_spec hs0 _ hf (by show (ρ q == 1) = false; rw [e]; simpa using h01)) μ v hv

/-- THE OTHER CONTRACT SAYS NO MORE. -/
theorem opq_eq {Q : Oq} {S S2 : Sm} (hp : progs[Q.id]? = some Q.p) (h : oqChk Q S S2 = true) (ρ1 ρ2 : Nat → Int) (μ : Mu) (x : Value) (hin : ∀ r, r < Q.n → ρ1 r = ρ2 r)
    (h1 : ∀ r d, (r, d) ∈ S.ds → ρ1 r = d.ev ρ1) (h2 : ∀ r d, (r, d) ∈ S2.ds → ρ2 r = d.ev ρ2) (hx : (S.vt.pick ρ1).rel ρ1 μ x) : (S2.vt.pick ρ2).rel ρ2 μ x := by
  unfold oqChk at h
  split at h
  case h_2 => cases h
  rename_i T0 σ body hi hb
  simp only [Bool.and_eq_true] at h
  obtain ⟨⟨c1, c2, c3, c4, c5⟩, c6, c7⟩ := h
  split at c7
  case h_2 => cases c7
  rename_i T hT
  obtain ⟨ρ, hρ, hs⟩ := exists_rho c7 ρ1
  have hs1 : Sat ρ1 (tabL S) := fun r d hd => h1 r d (Tr.mem_ofList _ _ _ _ hd)
  have c4 := xsBeq_eq c4
  have c5 := dsChkM_ok (mTr_ok Q) c5
  have c6 := Nat.eq_of_beq_eq_true c6
  have c3 : 0 < Q.p.k := Nat.le_of_ble_eq_true c3
  have s0 := oqT_tab hT hs
  obtain ⟨_, hst⟩ := instDs_spec (ρ := ρ) hs1 S.ds _ _ _ _ (dsOK_spec c1) hi s0
  have hst := hst (fun r x hx => by
    rcases putsX_get _ _ _ _ _ hx with ⟨j, e, hj⟩ | hx
    · obtain ⟨h1, rfl⟩ := upRegs_at hj
      rw [e]
      exact hρ _ (by omega)
    · cases hx)
  exact (oqT_spec hp hb c3 c4 c5 c6 hs1 h2 hin (fun r hr => (hρ r hr).trans (hin r hr)) hst hT hs) (fun r b h => by cases h) μ x hx
end
end
end Go.Sx

namespace Go.Sx
noncomputable section
open Go.RowKit

theorem smS_via {P : Program} {Γ : Ctx} (hΓ : Γ.ok P) (hsum : ∀ f s, Γ.summ f = some s → SummOK P f s) {f : Nat} {F : Func} (hF : P.funcs[f]? = some F) (hname : (F.name == "runtime.NumGoroutine") = false) {ks : List AK} {S S2 : Sm}
    (hrun : smRun Γ F ks S = true) (hg2 : goodTab (sizeA ks) (tabL S2) = true) (hd2 : dsOK (tabL S2) S2.ds = true)
    (hEq : ∀ (ρ1 ρ2 : Nat → Int) (μ : Mu) (x : Value), (∀ r, r < sizeA ks → ρ1 r = ρ2 r) → (∀ r d, (r, d) ∈ S.ds → ρ1 r = d.ev ρ1) → (∀ r d, (r, d) ∈ S2.ds → ρ2 r = d.ev ρ2) → (S.vt.pick ρ1).rel ρ1 μ x → (S2.vt.pick ρ2).rel ρ2 μ x) :
    SummOK P f (smS S2 ks) := by
  intro T st args T1 vt h ρ hs
  unfold smS at h
  split at h
  case h_2 => cases h
  rename_i xs hxs
  split at h
  case h_2 => cases h
  rename_i T2 σ hinst
  split at h
  case h_2 => cases h
  rename_i vt' hvt'
  cases h
  unfold smRun at hrun
  split at hrun
  case h_2 => cases hrun
  rename_i T0 t0 hr
  split at hrun
  case h_2 => cases hrun
  rename_i hg hds hlow
  split at hrun
  case h_2 => cases hrun
  rename_i vt0 hvt
  have hvte := vtBeq_eq hrun
  subst hvte
  unfold runF at hr
  split at hr
  case h_2 => cases hr
  rename_i c hb
  rw [yExec_eq] at hr
  obtain ⟨ρ', hin, hs'⟩ := exists_rho hg (fun r => (xs[r]?.map (X.ev ρ)).getD 0)
  obtain ⟨ρ2, hin2, hs2⟩ := exists_rho hg2 (fun r => (xs[r]?.map (X.ev ρ)).getD 0)
  have hlen := argsX_size hxs
  have hat : ∀ j x, xs[j]? = some x → ρ' (0 + j) = x.ev ρ := fun j x hj => by
    have hlt := (List.getElem?_eq_some_iff.1 hj).1
    rw [Nat.zero_add, hin j (by omega), hj]; rfl
  have hat2 : ∀ j x, xs[j]? = some x → ρ2 (0 + j) = x.ev ρ := fun j x hj => by
    have hlt := (List.getElem?_eq_some_iff.1 hj).1
    rw [Nat.zero_add, hin2 j (by omega), hj]; rfl
  obtain ⟨s0, hst⟩ := instDs_spec hs2 S2.ds _ _ _ _ (dsOK_spec hd2) hinst hs
  have hstands := hst (fun r x hx => by
    rcases putsX_get _ _ _ _ _ hx with ⟨j, e, hj⟩ | hx
    · rw [e]; exact (hat2 j x hj).symm
    · cases hx)
  refine ⟨s0, fun w0 μ nb bs vs w hf _ hwr hvs => ?_⟩
  obtain ⟨_, hsym⟩ := argsX_spec (ρ' := ρ') (μ' := fun _ => none) hxs hvs
  have hrel := hsym 0 hat
  obtain ⟨_, hwp⟩ := exec_sound (ρ := ρ') hΓ hsum 400 _ _ _ _ _ hr hs'
  have hfr := frame_enter hrel F.ntmps
  rw [symA_length] at hfr
  refine callOK_of hΓ hF hname hb (calls_of_wp hF hb (hwp (Base.all w) (fun _ => none) _ w _ ⟨rfl, hfr, WR.none w, (fun r b h => by cases h)⟩ ?_))
  refine vtree_spec hvt _ fun e s v hv hpick => ?_
  intro μ' a' w' hp hw'
  obtain ⟨he, hv', hvn⟩ := leafRes_spec hv
  obtain ⟨x, hx, hxr⟩ := resultsS_sound hΓ hv' hw'
  have hxr' := settle_rel hs' hw'.fa (SV.rel_num (μ' := μ) hvn hxr)
  rw [← hpick] at hxr'
  have hx2 := hEq ρ' ρ2 μ x (fun r hr => by rw [hin r hr, hin2 r hr]) (fun r d hd => hs' r d (dsOK_spec hds r d hd)) (fun r d hd => hs2 r d (dsOK_spec hd2 r d hd)) hxr'
  have fin : bodyPost P F (fun e w2 => ∃ v, e = .returned v ∧ (vt.pick ρ).rel ρ μ v ∧ WR ρ w0 μ nb bs w2) .ret a' w' :=
    ⟨hw'.defers, x, hx, x, rfl, instVT_rel hstands hs hf hvt' hx2, hwr.after hw'.wr.kept.below⟩
  rcases he with rfl | rfl <;> exact fin

/-- A contract that is not looked into. -/
theorem smS_opq {P : Program} {Γ : Ctx} (hΓ : Γ.ok P) (hsum : ∀ f s, Γ.summ f = some s → SummOK P f s) {f : Nat} {F : Func} (hF : P.funcs[f]? = some F) (hname : (F.name == "runtime.NumGoroutine") = false) {ks : List AK} {S S2 : Sm}
    (hrun : smRun Γ F ks S = true) (hg2 : goodTab (sizeA ks) (tabL S2) = true) (hd2 : dsOK (tabL S2) S2.ds = true) {Q : Oq} (hp : progs[Q.id]? = some Q.p) (hn : Nat.beq Q.n (sizeA ks) = true) (hq : oqChk Q S S2 = true) : SummOK P f (smS S2 ks) :=
  smS_via hΓ hsum hF hname hrun hg2 hd2 fun ρ1 ρ2 μ x hin h1 h2 hx => opq_eq hp hq ρ1 ρ2 μ x (fun r hr => hin r (by rw [← Nat.eq_of_beq_eq_true hn]; exact hr)) h1 h2 hx

theorem smE_opq {P : Program} {Γ : Ctx} (hΓ : Γ.ok P) (hsum : ∀ f s, Γ.summ f = some s → SummOK P f s) {hn : Nat → Option Hint} {f : Nat} {F : Func} (hF : P.funcs[f]? = some F) (hname : (F.name == "runtime.NumGoroutine") = false) {kss : List (List Nat)} {S S2 : Sm}
    (hrun : smRunE Γ hn F kss S = true) (hg2 : goodTab (sizeE kss) (tabL S2) = true) (hd2 : dsOK (tabL S2) S2.ds = true) {Q : Oq} (hp : progs[Q.id]? = some Q.p) (hnn : Nat.beq Q.n (sizeE kss) = true) (hq : oqChk Q S S2 = true) : SummOK P f (smE S2 kss) :=
  smE_via hΓ hsum hF hname hrun hg2 hd2 fun ρ1 ρ2 μ x hin h1 h2 hx => opq_eq hp hq ρ1 ρ2 μ x (fun r hr => hin r (by rw [← Nat.eq_of_beq_eq_true hnn]; exact hr)) h1 h2 hx

/-- A contract over structs as it runs. -/
theorem smE_ok {P : Program} {Γ : Ctx} (hΓ : Γ.ok P) (hsum : ∀ f s, Γ.summ f = some s → SummOK P f s) {hn : Nat → Option Hint} {f : Nat} {F : Func} (hF : P.funcs[f]? = some F) (hname : (F.name == "runtime.NumGoroutine") = false) {kss : List (List Nat)} {S S2 : Sm}
    (hrun : smRunE Γ hn F kss S = true) (hg2 : goodTab (sizeE kss) (tabL S) = true) (hd2 : dsOK (tabL S) S.ds = true)
    (hEq : ∀ (ρ1 ρ2 : Nat → Int) (μ : Mu) (x : Value), (∀ r, r < sizeE kss → ρ1 r = ρ2 r) → (∀ r d, (r, d) ∈ S.ds → ρ1 r = d.ev ρ1) → (∀ r d, (r, d) ∈ S.ds → ρ2 r = d.ev ρ2) → (S.vt.pick ρ1).rel ρ1 μ x → (S.vt.pick ρ2).rel ρ2 μ x) : SummOK P f (smE S kss) :=
  smE_via hΓ hsum hF hname hrun hg2 hd2 hEq
end
end Go.Sx

namespace Go.Sx
noncomputable section
open Go.RowKit

/-! ### The run -/
def capPat (ks : List Nat) (g : Nat) : List SV := [.c (.ls 0 ks (.reg 0)), .c (.fn g (.el 1 [3] (.reg 2) (.lit 0) 0))]

def capDs : List (Nat × D) := [(2, ⟨66, [.reg 1]⟩)]

def runC (Γ : Ctx) (hn : Nat → Option Hint) (F : Func) (ks : List Nat) (g : Nat) : Option (Tab × Tree) :=
  match F.body with
  | some c => execX Γ hn (fun _ => none) 400 c ⟨3, Tr.ofList fuelT capDs, .nil⟩ ⟨(capPat ks g).length + (F.ntmps - (capPat ks g).length), frameOf 0 (capPat ks g), 12, .nil, .nil⟩
  | none => none

def smRunC (Γ : Ctx) (hn : Nat → Option Hint) (F : Func) (ks : List Nat) (g : Nat) (S : Sm) : Bool :=
  match runC Γ hn F ks g with
  | some (T, t) =>
    match goodTab 2 T, dsOK T S.ds, dsOK ⟨3, Tr.ofList fuelT capDs, .nil⟩ capDs with
    | true, true, true =>
      match vtree T (leafRes Γ F) t with
      | some vt => vtBeq vt S.vt
      | none => false
    | _, _, _ => false
  | none => false

/-! ### The contract -/
/-- No element; all too late; all too early; there; between. -/
def valT (idS : Nat) (T : Tab) (n : Nat) (L x : X) : Option (Tab × VT) :=
    match mk T 14 [.lit 0, .reg n] with
    | some (T1, .reg b1) =>
      match mk T1 63 [L, .lit 0, .lit 0] with
      | some (T2, c0) =>
        match mk T2 15 [x, c0] with
        | some (T3, .reg b2) =>
          match mk T3 32 [.lit 3, .reg n, .lit 1] with
          | some (T4, m) =>
            match mk T4 63 [L, m, .lit 0] with
            | some (T5, cm) =>
              match mk T5 15 [cm, x] with
              | some (T6, .reg b3) =>
                match mk T6 70 [.lit idS, .lit 0, .lit 0, L, x] with
                | some (T7, e) =>
                  match mk T7 63 [L, e, .lit 0] with
                  | some (T8, ce) =>
                    match mk T8 14 [ce, x] with
                    | some (T9, .reg b4) =>
                      match mk T9 31 [.lit 3, e, .lit 1] with
                      | some (T10, e1) =>
                        some (T10, .node b1 (.leaf (.c (.int .i64 (.lit (-1))))) (.node b2 (.leaf (.c (.int .i64 (.lit 0)))) (.node b3 (.leaf (.c (.int .i64 (.lit (-1))))) (.node b4 (.leaf (.c (.int .i64 e))) (.leaf (.c (.int .i64 e1)))))))
                      | none => none
                    | _ => none
                  | none => none
                | none => none
              | _ => none
            | none => none
          | none => none
        | _ => none
      | none => none
    | _ => none

def valS (idF idS g : Nat) (ks : List Nat) : Summ := fun T st args =>
  match args with
  | [.w (.one (.ls _ ks' L)), .w (.one (.fn g' c))] =>
    match natsBeq ks ks' && Nat.beq g g', ptrX T st [3] (.w (.one c)) with
    | true, some (T0, [x]) =>
      match look T0 62 [L], look T0 70 [.lit idF, .lit 0, .lit 0, L] with
      | some n, some e0 =>
        match look T0 15 [.reg e0, .reg n] with
        | some q0 =>
          match st.fa.get q0 with
          | some false => valT idS T0 n L x
          | _ => none
        | none => none
      | _, _ => none
    | _, _ => none
  | _ => none

/-! ### The programs -/
/-- The feed's: each time is a time, and later than the one before. -/
def feedP : Lit := ⟨1, [⟨62, [.reg 1]⟩, ⟨15, [.reg 0, .reg 2]⟩, ⟨63, [.reg 1, .reg 0, .lit 0]⟩, ⟨15, [.lit 1000000000, .reg 4]⟩, ⟨15, [.reg 4, .lit 0]⟩, ⟨15, [.lit 0, .reg 0]⟩, ⟨38, [.reg 7, .lit 1, .lit 0]⟩, ⟨32, [.lit 3, .reg 0, .lit 1]⟩,
  ⟨63, [.reg 1, .reg 9, .lit 0]⟩, ⟨15, [.reg 10, .reg 4]⟩, ⟨38, [.reg 8, .reg 11, .lit 1]⟩, ⟨31, [.lit 3, .reg 0, .lit 1]⟩], .node 3 (.node 5 .stop (.node 6 .stop (.node 12 (.next [.reg 13]) .stop))) .stop⟩

/-- The search's: on while the element is below what is looked for. -/
def idxP : Lit := ⟨1, [⟨62, [.reg 1]⟩, ⟨15, [.reg 0, .reg 3]⟩, ⟨63, [.reg 1, .reg 0, .lit 0]⟩, ⟨15, [.reg 5, .reg 2]⟩, ⟨31, [.lit 3, .reg 0, .lit 1]⟩], .node 4 (.node 6 (.next [.reg 7]) .stop) .stop⟩

def shapeI (S : Sm) (idI : Nat) : Bool :=
  match S.ds, S.vt with
  | [(n, d1), (e, d2), (q, d3)], .node q' (.leaf (.w (.one (.int .i64 (.reg e'))))) (.leaf (.w (.one (.int .i64 (.lit v))))) =>
    d1.beq ⟨62, [.reg 0]⟩ && (d2.beq ⟨70, [.lit idI, .lit 0, .lit 0, .reg 0, .reg 1]⟩ && (d3.beq ⟨15, [.reg e, .reg n]⟩ && (Nat.beq q q' && (Nat.beq e e' && ibeq v (-1)))))
  | _, _ => false
end

theorem feed_step (ps : List Lit) (l i : Int) : feedP.step (opP opB ps) [l] [i] =
    if i < opF 62 [l] then (if 1000000000 < opF 63 [l, i, 0] then none else if opF 63 [l, i, 0] < 0 then none else
      if 0 < i ∧ ¬ opF 63 [l, IntKind.i64.wrap (i - 1), 0] < opF 63 [l, i, 0] then none else some [IntKind.i64.wrap (i + 1)]) else none := by
  have e : feedP.step (opP opB ps) [l] [i] = if b2i (decide (i < opF 62 [l])) = 1 then (if b2i (decide (1000000000 < opF 63 [l, i, 0])) = 1 then none else if b2i (decide (opF 63 [l, i, 0] < 0)) = 1 then none else
      if opF 38 [opF 38 [b2i (decide ((0 : Int) < i)), 1, 0], b2i (decide (opF 63 [l, IntKind.i64.wrap (i - 1), 0] < opF 63 [l, i, 0])), 1] = 1 then some [IntKind.i64.wrap (i + 1)] else none) else none := by
    simp only [Lit.step, feedP, runDs, lev, List.map, List.cons_append, List.nil_append, List.getD_cons_zero, List.getD_cons_succ, LT.go]
    simp only [opP_base (opB := opB) (show (31 : Nat) ≠ 70 by decide), opP_base (opB := opB) (show (32 : Nat) ≠ 70 by decide), opP_base (opB := opB) (show (38 : Nat) ≠ 70 by decide), opP_base (opB := opB) (show (62 : Nat) ≠ 70 by decide), opP_base (opB := opB) (show (15 : Nat) ≠ 70 by decide), opP_base (opB := opB) (show (63 : Nat) ≠ 70 by decide)]
    rfl
  rw [e]
  simp only [b2i_dec]
  simp only [opF_38]
  by_cases h0 : (0 : Int) < i
  · by_cases hc : opF 63 [l, IntKind.i64.wrap (i - 1), 0] < opF 63 [l, i, 0]
    · simp [h0, hc, b2i]
    · simp [h0, hc, b2i]
  · simp [h0, b2i]

theorem idx_step (ps : List Lit) (l t i : Int) : idxP.step (opP opB ps) [l, t] [i] =
    if i < opF 62 [l] then (if opF 63 [l, i, 0] < t then some [IntKind.i64.wrap (i + 1)] else none) else none := by
  have e : idxP.step (opP opB ps) [l, t] [i] = if b2i (decide (i < opF 62 [l])) = 1 then (if b2i (decide (opF 63 [l, i, 0] < t)) = 1 then some [IntKind.i64.wrap (i + 1)] else none) else none := by
    simp only [Lit.step, idxP, runDs, lev, List.map, List.cons_append, List.nil_append, List.getD_cons_zero, List.getD_cons_succ, LT.go]
    simp only [opP_base (opB := opB) (show (31 : Nat) ≠ 70 by decide), opP_base (opB := opB) (show (62 : Nat) ≠ 70 by decide), opP_base (opB := opB) (show (15 : Nat) ≠ 70 by decide), opP_base (opB := opB) (show (63 : Nat) ≠ 70 by decide)]
    rfl
  rw [e]
  simp only [b2i_dec]

/-- Where the search stops. -/
theorem idx_fin {ps : List Lit} {l t n k : Int} (hn : n = opF 62 [l]) (hn63 : n ≤ 9223372036854775807) (h0 : 0 ≤ k) (hk : k ≤ n) (hlt : ∀ j, 0 ≤ j → j < k → opF 63 [l, j, 0] < t) (hge : k < n → ¬ opF 63 [l, k, 0] < t) :
    fin (idxP.step (opP opB ps) [l, t]) [0] = [k] := by
  have stop : idxP.step (opP opB ps) [l, t] [k] = none := by
    rw [idx_step, ← hn]
    by_cases h : k < n
    · rw [if_pos h, if_neg (hge h)]
    · rw [if_neg h]
  have go : ∀ (d : Nat) (i : Int), 0 ≤ i → i + (d : Nat) = k → itn (idxP.step (opP opB ps) [l, t]) d [i] = some [k] := by
    intro d
    induction d with
    | zero => intro i _ e; unfold itn; rw [show i = k by omega]
    | succ d ih =>
      intro i hi e
      unfold itn
      rw [idx_step, ← hn, if_pos (by omega), if_pos (hlt i hi (by omega)), Go.IntWalk.i64_in _ (by omega)]
      exact ih (i + 1) (by omega) (by omega)
  exact fin_of (go k.toNat 0 (Int.le_refl _) (by omega)) stop

/-- No element; all too late; all too early; there; between. -/
def valI (n : Int) (c : Int → Int) (x e : Int) : Int :=
  if 0 = n then -1 else if x < c 0 then 0 else if c (IntKind.i64.wrap (n - 1)) < x then -1 else if c e = x then e else IntKind.i64.wrap (e + 1)

/-- The search finds what the other one tells. -/
theorem idx_law {ps1 ps2 ps3 : List Lit} {l t : Int} (hfeed : ¬ (fin (feedP.step (opP opB ps1) [l]) [0]).getD 0 0 < opF 62 [l]) :
    (if (fin (idxP.step (opP opB ps2) [l, t]) [0]).getD 0 0 < opF 62 [l] then (fin (idxP.step (opP opB ps2) [l, t]) [0]).getD 0 0 else -1) =
      valI (opF 62 [l]) (fun i => opF 63 [l, i, 0]) t ((fin (aheadP.step (opP opB ps3) [l, t]) [0]).getD 0 0) := by
  have hr := len_rng l
  generalize hn : opF 62 [l] = n at *
  have mono1 : ∀ i, 0 < i → i < n → opF 63 [l, i - 1, 0] < opF 63 [l, i, 0] := by
    intro i h1 h2
    have hs := scan_fin (step := feedP.step (opP opB ps1) [l]) (fun x out ho => by
      rw [feed_step] at ho
      split at ho
      · split at ho
        · cases ho
        · split at ho
          · cases ho
          · split at ho
            · cases ho
            · cases ho; rfl
      · cases ho) (i := i) (by omega) (by omega) (by omega)
    rw [feed_step, hn, if_pos h2] at hs
    split at hs
    · exact absurd rfl hs
    · split at hs
      · exact absurd rfl hs
      · split at hs
        · exact absurd rfl hs
        · rename_i h
          rw [Go.IntWalk.i64_in _ (by omega)] at h
          by_cases hc : opF 63 [l, i - 1, 0] < opF 63 [l, i, 0]
          · exact hc
          · exact absurd ⟨h1, hc⟩ h
  have mono : ∀ (d : Nat) (i : Int), 0 ≤ i → i + (d : Nat) + 1 < n → opF 63 [l, i, 0] < opF 63 [l, i + (d : Nat) + 1, 0] := by
    intro d
    induction d with
    | zero =>
      intro i h1 h2
      have := mono1 (i + 1) (by omega) (by omega)
      rw [show i + 1 - 1 = i by omega] at this
      simpa using this
    | succ d ih =>
      intro i h1 h2
      have h3 := ih i h1 (by omega)
      have h4 := mono1 (i + ((d : Nat) + 1 : Nat) + 1) (by omega) (by omega)
      rw [show i + ((d + 1 : Nat) : Int) + 1 - 1 = i + (d : Nat) + 1 by omega] at h4
      omega
  have mono : ∀ i j, 0 ≤ i → i < j → j < n → opF 63 [l, i, 0] < opF 63 [l, j, 0] := by
    intro i j h1 h2 h3
    have := mono (j - i - 1).toNat i h1 (by omega)
    rw [show i + ((j - i - 1).toNat : Int) + 1 = j by omega] at this
    exact this
  unfold valI
  by_cases h0 : 0 = n
  · rw [if_pos h0, idx_fin (k := 0) hn.symm (by omega) (Int.le_refl _) hr.1 (fun j h1 h2 => by omega) (fun h => by omega)]
    rw [if_neg (by show ¬ (0 : Int) < n; omega)]
  · rw [if_neg h0]
    by_cases h1 : t < opF 63 [l, 0, 0]
    · rw [if_pos h1, idx_fin (k := 0) hn.symm (by omega) (Int.le_refl _) hr.1 (fun j h1 h2 => by omega) (fun h => by omega)]
      rw [if_pos (by show (0 : Int) < n; omega)]
      rfl
    · rw [if_neg h1, Go.IntWalk.i64_in (n - 1) (by omega)]
      by_cases h2 : opF 63 [l, n - 1, 0] < t
      · rw [if_pos h2, idx_fin (k := n) hn.symm (by omega) hr.1 (Int.le_refl _) (fun j h3 h4 => ?_) (fun h => by omega)]
        · rw [if_neg (by show ¬ n < n; omega)]
        · by_cases h5 : j = n - 1
          · rw [h5]; exact h2
          · have := mono j (n - 1) h3 (by omega) (by omega)
            omega
      · rw [if_neg h2]
        obtain ⟨e, a1, a2, a3, a4, a5, a6⟩ := ahead_fin (ps := ps3) (l := l) (t := t) rfl hn.symm (by omega) (by omega) h1
        rw [a1]
        simp only [List.getD_cons_zero]
        by_cases h3 : opF 63 [l, e, 0] = t
        · rw [if_pos h3, idx_fin (k := e) hn.symm (by omega) a2 (by omega) (fun j h4 h5 => ?_) (fun _ => by omega)]
          · simp only [List.getD_cons_zero]
            rw [if_pos a3]
          · have := mono j e h4 h5 a3
            omega
        · rw [if_neg h3]
          have h4 : e + 1 < n := by
            by_cases h4 : e + 1 < n
            · exact h4
            · exfalso
              have : e = n - 1 := by omega
              rw [← this] at h2
              omega
          have h5 := a5 h4
          rw [idx_fin (k := e + 1) hn.symm (by omega) (by omega) (by omega) (fun j h6 h7 => ?_) (fun _ => by omega)]
          · simp only [List.getD_cons_zero]
            rw [if_pos h4, Go.IntWalk.i64_in _ (by omega)]
          · by_cases h8 : j = e
            · rw [h8]; omega
            · have := mono j e h6 (by omega) a3
              omega

section
variable {ρ : Nat → Int}

theorem valT_spec {idS : Nat} {T T' : Tab} {n : Nat} {L x : X} {vt : VT} (h : valT idS T n L x = some (T', vt)) (hs : Sat ρ T') :
    Sat ρ T ∧ ∀ (μ : Mu), (vt.pick ρ).rel ρ μ (.int .i64 (valI (ρ n) (fun i => opF 63 [L.ev ρ, i, 0]) (x.ev ρ) (opF 70 [(idS : Int), 0, 0, L.ev ρ, x.ev ρ]))) := by
  unfold valT at h
  split at h
  case h_2 => cases h
  rename_i T1 b1 h1
  split at h
  case h_2 => cases h
  rename_i T2 c0 h2
  split at h
  case h_2 => cases h
  rename_i T3 b2 h3
  split at h
  case h_2 => cases h
  rename_i T4 m h4
  split at h
  case h_2 => cases h
  rename_i T5 cm h5
  split at h
  case h_2 => cases h
  rename_i T6 b3 h6
  split at h
  case h_2 => cases h
  rename_i T7 e h7
  split at h
  case h_2 => cases h
  rename_i T8 ce h8
  split at h
  case h_2 => cases h
  rename_i T9 b4 h9
  split at h
  case h_2 => cases h
  rename_i T10 e1 h10
  cases h
  obtain ⟨s9, v10⟩ := mk_spec h10 hs
  obtain ⟨s8, v9⟩ := mk_spec h9 s9
  obtain ⟨s7, v8⟩ := mk_spec h8 s8
  obtain ⟨s6, v7⟩ := mk_spec h7 s7
  obtain ⟨s5, v6⟩ := mk_spec h6 s6
  obtain ⟨s4, v5⟩ := mk_spec h5 s5
  obtain ⟨s3, v4⟩ := mk_spec h4 s4
  obtain ⟨s2, v3⟩ := mk_spec h3 s3
  obtain ⟨s1, v2⟩ := mk_spec h2 s2
  obtain ⟨s0, v1⟩ := mk_spec h1 s1
  refine ⟨s0, fun μ => ?_⟩
  have v1 : ρ b1 = b2i ((0 : Int) == ρ n) := v1
  have v2 : c0.ev ρ = opF 63 [L.ev ρ, 0, 0] := v2
  have v3 : ρ b2 = b2i (decide (x.ev ρ < c0.ev ρ)) := v3
  have v4 : m.ev ρ = IntKind.i64.wrap (ρ n - 1) := v4
  have v5 : cm.ev ρ = opF 63 [L.ev ρ, m.ev ρ, 0] := v5
  have v6 : ρ b3 = b2i (decide (cm.ev ρ < x.ev ρ)) := v6
  have v7 : e.ev ρ = opF 70 [(idS : Int), 0, 0, L.ev ρ, x.ev ρ] := v7
  have v8 : ce.ev ρ = opF 63 [L.ev ρ, e.ev ρ, 0] := v8
  have v9 : ρ b4 = b2i (ce.ev ρ == x.ev ρ) := v9
  have v10 : e1.ev ρ = IntKind.i64.wrap (e.ev ρ + 1) := v10
  rw [← v7]
  have k1 : (ρ b1 = 1) ↔ 0 = ρ n := by rw [v1]; by_cases h : 0 = ρ n <;> simp [h, b2i]
  have k2 : (ρ b2 = 1) ↔ x.ev ρ < opF 63 [L.ev ρ, 0, 0] := by rw [v3, b2i_dec, v2]
  have k3 : (ρ b3 = 1) ↔ opF 63 [L.ev ρ, IntKind.i64.wrap (ρ n - 1), 0] < x.ev ρ := by rw [v6, b2i_dec, v5, v4]
  have k4 : (ρ b4 = 1) ↔ opF 63 [L.ev ρ, e.ev ρ, 0] = x.ev ρ := by rw [v9, ← v8]; by_cases h : ce.ev ρ = x.ev ρ <;> simp [h, b2i]
  unfold valI
  simp only [VT.pick]
  by_cases g1 : 0 = ρ n
  · rw [if_pos g1, if_pos (k1.2 g1)]; rfl
  · rw [if_neg g1, if_neg (fun h => g1 (k1.1 h))]
    by_cases g2 : x.ev ρ < opF 63 [L.ev ρ, 0, 0]
    · rw [if_pos g2, if_pos (k2.2 g2)]; rfl
    · rw [if_neg g2, if_neg (fun h => g2 (k2.1 h))]
      by_cases g3 : opF 63 [L.ev ρ, IntKind.i64.wrap (ρ n - 1), 0] < x.ev ρ
      · rw [if_pos g3, if_pos (k3.2 g3)]; rfl
      · rw [if_neg g3, if_neg (fun h => g3 (k3.1 h))]
        by_cases g4 : opF 63 [L.ev ρ, e.ev ρ, 0] = x.ev ρ
        · rw [if_pos g4, if_pos (k4.2 g4)]; rfl
        · rw [if_neg g4, if_neg (fun h => g4 (k4.1 h)), ← v10]; rfl

/-- What the search's own contract says. -/
theorem shapeI_spec {S : Sm} {idI : Nat} (h : shapeI S idI = true) (hp : progs[idI]? = some idxP) (hs : ∀ r d, (r, d) ∈ S.ds → ρ r = d.ev ρ) {μ : Mu} {v : Value} (hv : (S.vt.pick ρ).rel ρ μ v) :
    v = .int .i64 (if (fin (idxP.step (opP opB (progs.take idI).reverse) [ρ 0, ρ 1]) [0]).getD 0 0 < opF 62 [ρ 0] then (fin (idxP.step (opP opB (progs.take idI).reverse) [ρ 0, ρ 1]) [0]).getD 0 0 else -1) := by
  unfold shapeI at h
  split at h
  case h_2 => cases h
  rename_i n d1 e d2 q d3 q' e' v' hds hvt
  simp only [Bool.and_eq_true] at h
  obtain ⟨h1, h2, h3, h4, h5, h6⟩ := h
  have e1 : ρ n = opF 62 [ρ 0] := by rw [hs n d1 (by rw [hds]; simp), D.beq_eq h1]; rfl
  have e2 : ρ e = opF 70 [(idI : Int), 0, 0, ρ 0, ρ 1] := by rw [hs e d2 (by rw [hds]; simp), D.beq_eq h2]; rfl
  have e3 : ρ q = b2i (decide (ρ e < ρ n)) := by rw [hs q d3 (by rw [hds]; simp), D.beq_eq h3]; rfl
  rw [opF_prog hp] at e2
  have e2 : ρ e = (fin (idxP.step (opP opB (progs.take idI).reverse) [ρ 0, ρ 1]) [0]).getD 0 0 := e2
  rw [hvt] at hv
  unfold VT.pick at hv
  rw [← Nat.eq_of_beq_eq_true h4, e3] at hv
  split at hv
  · rename_i hlt
    rw [b2i_dec, e1, e2] at hlt
    rw [if_pos hlt]
    have hv : v = .int .i64 (ρ e') := hv
    rw [hv, ← Nat.eq_of_beq_eq_true h5, e2]
  · rename_i hlt
    rw [b2i_dec, e1, e2] at hlt
    rw [if_neg hlt]
    have hv : v = .int .i64 v' := hv
    rw [hv, ibeq_eq h6]

/-- THE SEARCH'S CONTRACT. -/
theorem valS_ok {P : Program} {Γ : Ctx} (hΓ : Γ.ok P) (hsum : ∀ f s, Γ.summ f = some s → SummOK P f s) {hn : Nat → Option Hint} {f : Nat} {F : Func} (hF : P.funcs[f]? = some F) (hname : (F.name == "runtime.NumGoroutine") = false)
    {ks : List Nat} {g : Nat} {S : Sm} (hrun : smRunC Γ hn F ks g S = true) {idF idS idI : Nat} (hpF : progs[idF]? = some feedP) (hpS : progs[idS]? = some aheadP) (hpI : progs[idI]? = some idxP) (hsh : shapeI S idI = true) :
    SummOK P f (valS idF idS g ks) := by
  intro T st args T1 vt h ρ hs
  unfold valS at h
  split at h
  case h_2 => cases h
  rename_i q ks' L g' c
  split at h
  case h_2 => cases h
  rename_i T0 x hc hpx
  split at h
  case h_2 => cases h
  rename_i n e0 hln hle0
  split at h
  case h_2 => cases h
  rename_i q0 hlq
  split at h
  case h_2 => cases h
  rename_i hfq
  simp only [Bool.and_eq_true] at hc
  have hks := natsBeq_eq hc.1
  have hg := Nat.eq_of_beq_eq_true hc.2
  subst hks hg
  obtain ⟨s0, hrelv⟩ := valT_spec h hs
  obtain ⟨sT, hpt⟩ := ptrX_spec hpx s0
  refine ⟨sT, fun w0 μ nb bs vs w hf hbs hwr hvs => ?_⟩
  unfold smRunC at hrun
  split at hrun
  case h_2 => cases hrun
  rename_i TR tR hr
  split at hrun
  case h_2 => cases hrun
  rename_i hg hds hlow
  split at hrun
  case h_2 => cases hrun
  rename_i vt0 hvt
  have hvte := vtBeq_eq hrun
  subst hvte
  unfold runC at hr
  split at hr
  case h_2 => cases hr
  rename_i cd hb
  obtain ⟨ρ', hin, hs'⟩ := exists_rho hg (fun r => if r = 0 then L.ev ρ else x.ev ρ)
  have i0 : ρ' 0 = L.ev ρ := by rw [hin 0 (by omega), if_pos rfl]
  have i1 : ρ' 1 = x.ev ρ := by rw [hin 1 (by omega), if_neg (by omega)]
  obtain ⟨sE, hwp⟩ := execX_sound hΓ hsum (fun _ _ h => by cases h) 400 ρ' _ _ _ _ _ hr hs'
  have i2 : ρ' 2 = encE [[x.ev ρ]] := by
    have := sE 2 ⟨66, [.reg 1]⟩ (dsOK_spec hlow 2 _ (by simp [capDs]))
    rw [this]
    show encE [[ρ' 1]] = _
    rw [i1]
  -- the arguments
  obtain ⟨v0, v1, hvl, r0, r1⟩ : ∃ v0 v1, vs.toList = [v0, v1] ∧ (SC.ls q ks L).rel ρ μ v0 ∧ (SC.fn g c).rel ρ μ v1 := by
    generalize hl : vs.toList = l at hvs
    match l, hvs with
    | [a, b], hvs => exact ⟨a, b, rfl, hvs.1, hvs.2.1⟩
  obtain ⟨u, hu, rfl⟩ := r1
  obtain ⟨_, b, off, rfl, hlst⟩ := hpt w0 μ nb bs w u hbs hwr hu
  obtain ⟨p, off', els, hp, he, hL, hdr⟩ := r0
  have hlp := (hwr.lst (LB + q) p (Nat.le_add_right _ _) hp).1
  have hrel : svsRel ρ' (muP [p, (b, encP off [3] [[x.ev ρ]])]) (capPat ks g) vs.toList := by
    rw [hvl]
    refine ⟨⟨p, off', els, ?_, he, by show ρ' 0 = _; rw [i0]; exact hL, hdr⟩, ⟨.pointer (some ⟨b, off, none⟩), ⟨(b, encP off [3] [[x.ev ρ]]), off, [[x.ev ρ]], 0, ?_, rfl, i2, rfl, by simp, by simp⟩, rfl⟩, trivial⟩
    · unfold muP; rw [if_pos (by omega)]; simp
    · unfold muP; rw [if_pos (by omega)]; simp
  have hfr := frame_enter hrel F.ntmps
  have hpl : ∀ p' ∈ [p, (b, encP off [3] [[x.ev ρ]])], LstAt w.heap p' := by
    intro p' hp'
    cases hp' with
    | head => exact hlp
    | tail _ hp' => cases hp' with
      | head => exact hlst
      | tail _ hp' => cases hp'
  refine callOK_of hΓ hF hname hb (calls_of_wp hF hb (hwp (Base.all w) (muP [p, (b, encP off [3] [[x.ev ρ]])]) _ w _ ⟨rfl, hfr, WR.places hpl (by simp), (fun r b h => by cases h)⟩ ?_))
  refine vtree_spec hvt _ fun e s v hv hpick => ?_
  intro μ' a' w' hp' hw'
  obtain ⟨he', hv', hvn⟩ := leafRes_spec hv
  obtain ⟨y, hy, hyr⟩ := resultsS_sound hΓ hv' hw'
  have hyr' := settle_rel hs' hw'.fa (SV.rel_num (μ' := μ) hvn hyr)
  rw [← hpick] at hyr'
  have hy2 := shapeI_spec hsh hpI (fun r d hd => hs' r d (dsOK_spec hds r d hd)) hyr'
  have hn0 : ρ n = opF 62 [L.ev ρ] := s0 n _ (findReg_spec _ _ _ _ hln)
  have he0 : ρ e0 = opF 70 [(idF : Int), 0, 0, L.ev ρ] := s0 e0 _ (findReg_spec _ _ _ _ hle0)
  have hq0 : ρ q0 = b2i (decide (ρ e0 < ρ n)) := s0 q0 _ (findReg_spec _ _ _ _ hlq)
  have hfact := hf q0 false hfq
  rw [hq0, b2i_eq] at hfact
  have hfact := of_decide_eq_false hfact
  rw [opF_prog hpF] at he0
  have he0 : ρ e0 = (fin (feedP.step (opP opB (progs.take idF).reverse) [L.ev ρ]) [0]).getD 0 0 := he0
  rw [he0, hn0] at hfact
  have law := idx_law (ps1 := (progs.take idF).reverse) (ps2 := (progs.take idI).reverse) (ps3 := (progs.take idS).reverse) (t := x.ev ρ) hfact
  rw [i0, i1, law] at hy2
  have hx2 : (vt.pick ρ).rel ρ μ y := by
    rw [hy2]
    have := hrelv μ
    rw [hn0, opF_prog hpS] at this
    exact this
  have fin' : bodyPost P F (fun e w2 => ∃ v, e = .returned v ∧ (vt.pick ρ).rel ρ μ v ∧ WR ρ w0 μ nb bs w2) .ret a' w' :=
    ⟨hw'.defers, y, hy, y, rfl, hx2, hwr.after hw'.wr.kept.below⟩
  rcases he' with rfl | rfl <;> exact fin'
end
end Go.Sx
