/-
  Contracts over pointers, and contracts whose numbers are not looked into.
-/
import Derived.Test.YtgaejkfdinkpmaaSxM
set_option linter.unusedSimpArgs false
set_option linter.unusedVariables false
namespace Go.Sx
noncomputable section
open Go.RowKit
/-! ### What is pointed to -/
def xs63 (T : Tab) (L I : X) : Nat → Nat → Option (Tab × List X)
 | _, 0 => some (T, [])
 | o, n + 1 =>
  match xs63 T L I (o + 1) n with
  | some (T1, l) => match mk63 T1 L I o with
   | some (T2, z) => some (T2, z :: l)
   | none => none
  | none => none
def ptrX (T : Tab) (st : St) (ks : List Nat) : SV → Option (Tab × List X)
 | .w (.one (.ptr i 0)) =>
  match st.bs.get i with
  | some B => match kindsC ks B.cells with
   | some l => some (T, l)
   | none => none
  | none => none
 | .w (.one (.el _ ks' L I 0)) =>
  match natsBeq ks ks' with
  | true => xs63 T L I 0 ks.length
  | false => none
 | _ => none
def ptrsX (st : St) : List (List Nat) → List SV → Tab → Option (Tab × List (List X))
 | [], [], T => some (T, [])
 | ks :: l, a :: m, T =>
  match ptrX T st ks a with
  | some (T1, x) => match ptrsX st l m T1 with
   | some (T2, y) => some (T2, x :: y)
   | none => none
  | none => none
 | _, _, _ => none
/-! ### The run -/
def elPat (n : Nat) : Nat → List (List Nat) → List SV
 | _, [] => []
 | j, ks :: l => .c (.el j ks (.reg (n + j)) (.lit 0) 0) :: elPat n (j + 1) l
def upRegs : Nat → Nat → List X
 | _, 0 => []
 | i, n + 1 => .reg i :: upRegs (i + 1) n
def elDs (n : Nat) : Nat → Nat → List (List Nat) → List (Nat × D)
 | _, _, [] => []
 | i, j, ks :: l => (n + j, ⟨66, upRegs i ks.length⟩) :: elDs n (i + ks.length) (j + 1) l
def sizeE : List (List Nat) → Nat
 | [] => 0
 | ks :: l => ks.length + sizeE l
def runE (Γ : Ctx) (hn : Nat → Option Hint) (F : Func) (kss : List (List Nat)) : Option (Tab × Tree) :=
 match F.body with
 | some c => execX Γ hn (fun _ => none) 400 c ⟨sizeE kss + kss.length, Tr.ofList fuelT (elDs (sizeE kss) 0 0 kss), .nil⟩
   ⟨(elPat (sizeE kss) 0 kss).length + (F.ntmps - (elPat (sizeE kss) 0 kss).length), frameOf 0 (elPat (sizeE kss) 0 kss), kss.length + 10, .nil, .nil⟩
 | none => none
def smRunE (Γ : Ctx) (hn : Nat → Option Hint) (F : Func) (kss : List (List Nat)) (S : Sm) : Bool :=
 match runE Γ hn F kss with
 | some (T, t) =>
  match goodTab (sizeE kss) T, dsOK T S.ds, Nat.blt (sizeE kss + kss.length) maxReg && dsOK ⟨sizeE kss + kss.length, Tr.ofList fuelT (elDs (sizeE kss) 0 0 kss), .nil⟩ (elDs (sizeE kss) 0 0 kss) with
  | true, true, true =>
   match vtree T (leafRes Γ F) t with
   | some vt => vtBeq vt S.vt
   | none => false
  | _, _, _ => false
 | none => false
def smE (S : Sm) (kss : List (List Nat)) : Summ := fun T st args =>
 match ptrsX st kss args T with
 | some (T1, xss) =>
  match instDs S.ds (putsX xss.flatten 0 .nil) T1 with
  | some (T2, σ) =>
   match instVT σ st.fa T2 S.vt with
   | some vt => some (T2, vt)
   | none => none
  | none => none
 | none => none
section
variable {P : Program} {ρ : Nat → Int}
theorem xs63_spec {L I : X} : ∀ {n o : Nat} {T T' : Tab} {l : List X}, xs63 T L I o n = some (T', l) → Sat ρ T' → Sat ρ T ∧ l.length = n ∧ ∀ c, c < n → (l.map (X.ev ρ)).getD c 0 = opF 63 [L.ev ρ, I.ev ρ, ((o + c : Nat) : Int)]
 | 0, o, T, T', l, h, hs => by unfold xs63 at h; cases h; exact ⟨hs, rfl, fun c hc => absurd hc (Nat.not_lt_zero _)⟩
 | n + 1, o, T, T', l, h, hs => by
  unfold xs63 at h
  split at h
  · rename_i T1 l' h1
    split at h
    · rename_i T2 z h2
      cases h
      obtain ⟨s1, e⟩ := mk63_spec h2 hs
      obtain ⟨s0, hl, k⟩ := xs63_spec h1 s1
      refine ⟨s0, by simp [hl], fun c hc => ?_⟩
      cases c with
      | zero => simpa using e
      | succ c =>
       have := k c (by omega)
       simp only [List.map_cons, List.getD_cons_succ]
       rw [this, show o + 1 + c = o + (c + 1) by omega]
    · cases h
  · cases h
def PtrAt (heap : Array Obj) (ks : List Nat) (vals : List Int) (v : Value) : Prop :=
 ∃ b off, v = .pointer (some ⟨b, off, none⟩) ∧ LstAt heap (b, encP off ks [vals])
theorem ptrX_spec {T T' : Tab} {st : St} {ks : List Nat} {a : SV} {xs : List X} (h : ptrX T st ks a = some (T', xs)) (hs : Sat ρ T') :
  Sat ρ T ∧ ∀ (w0 : Base) (μ : Mu) (nb : Nat) (bs : Tr Blk) (w : World) (v : Value), (∀ i B, st.bs.get i = some B → bs.get i = some B) → WR ρ w0 μ nb bs w → a.rel ρ μ v → xs.length = ks.length ∧ PtrAt w.heap ks (xs.map (X.ev ρ)) v := by
 unfold ptrX at h
 split at h
 · rename_i i
   split at h
   · rename_i B hB
     split at h
     · rename_i l hl
       cases h
       refine ⟨hs, fun w0 μ nb bs w v hbs hw hv => ?_⟩
       obtain ⟨p, hp, rfl⟩ := hv
       obtain ⟨p', cs, hp', hh, _, hbg⟩ := hw.blk i B (hbs i B hB)
       obtain ⟨vs, rest, e, hr⟩ := hbg.plain (by
        cases hB2 : B.cells with
        | nil => rfl
        | cons d m =>
         cases d with
         | many ks2 L2 =>
          rw [hB2] at hl
          cases ks <;> simp [kindsC, kindC] at hl
         | _ => rfl)
       rw [hp] at hp'; cases hp'
       obtain ⟨h1, h2, h3⟩ := kindsC_rel hl hr
       refine ⟨h1, p.1, 0, rfl, 0, ks, [xs.map (X.ev ρ)], rfl, fun _ => ⟨cs, B.ty, (0, 0), hh, fun i c hi hc => ?_⟩⟩
       have hi : i = 0 := by simpa using hi
       subst hi
       have hv : vs[c]? = some (vs[c]'(by omega)) := List.getElem?_eq_getElem (by omega)
       refine ⟨vs[c]'(by omega), ?_, ?_⟩
       · rw [← Array.getElem?_toList, e, Nat.zero_mul, Nat.zero_add, List.getElem?_append_left (by omega)]
         exact hv
       · exact h3 c _ hv
     · cases h
   · cases h
 · rename_i q ks' L I
   split at h
   · rename_i hk
     have := natsBeq_eq hk
     subst this
     obtain ⟨s0, hl, k⟩ := xs63_spec h hs
     refine ⟨s0, fun w0 μ nb bs w v hbs hw hv => ⟨hl, ?_⟩⟩
     obtain ⟨b, off, els, i, cs, ty, fz, rfl, hL, hI, hh, hc⟩ := el_at hw hv
     refine ⟨b, off + i * ks.length, by simp, off + i * ks.length, ks, [xs.map (X.ev ρ)], rfl, fun _ => ⟨cs, ty, fz, hh, fun j c hj hck => ?_⟩⟩
     have hj : j = 0 := by simpa using hj
     subst hj
     obtain ⟨u, hu, hkc⟩ := hc c hck
     refine ⟨u, by rw [Nat.zero_mul, Nat.add_zero]; exact hu, ?_⟩
     have e := k c hck
     have : cellE [xs.map (X.ev ρ)] ((0 : Nat) : Int) c = cellE els i c := by
      show (xs.map (X.ev ρ)).getD c 0 = _
      rw [e, Nat.zero_add]
      show cellE (decE (L.ev ρ)) (I.ev ρ) ((c : Nat) : Int).toNat = _
      rw [hL, decE_enc, hI]; rfl
     rw [this]; exact hkc
   · cases h
 · cases h
def PtrsAt (heap : Array Obj) : List (List Nat) → List (List Int) → List Value → Prop
 | [], [], [] => True
 | ks :: l, x :: m, v :: vs => PtrAt heap ks x v ∧ PtrsAt heap l m vs
 | _, _, _ => False
theorem ptrsX_spec : ∀ {kss : List (List Nat)} {args : List SV} {T T' : Tab} {st : St} {xss : List (List X)}, ptrsX st kss args T = some (T', xss) → Sat ρ T' →
  Sat ρ T ∧ ∀ (w0 : Base) (μ : Mu) (nb : Nat) (bs : Tr Blk) (w : World) (vs : List Value), (∀ i B, st.bs.get i = some B → bs.get i = some B) → WR ρ w0 μ nb bs w → svsRel ρ μ args vs →
   xss.map List.length = kss.map List.length ∧ PtrsAt w.heap kss (xss.map (List.map (X.ev ρ))) vs
 | [], [], T, T', st, xss, h, hs => by
  unfold ptrsX at h; cases h
  refine ⟨hs, fun w0 μ nb bs w vs _ _ hv => ?_⟩
  cases vs with
  | nil => exact ⟨rfl, trivial⟩
  | cons _ _ => exact hv.elim
 | ks :: l, a :: m, T, T', st, xss, h, hs => by
  unfold ptrsX at h
  split at h
  · rename_i T1 x h1
    split at h
    · rename_i T2 y h2
      cases h
      obtain ⟨s1, k2⟩ := ptrsX_spec h2 hs
      obtain ⟨s0, k1⟩ := ptrX_spec h1 s1
      refine ⟨s0, fun w0 μ nb bs w vs hbs hw hv => ?_⟩
      cases vs with
      | nil => exact hv.elim
      | cons v vs =>
       obtain ⟨a1, a2⟩ := k1 w0 μ nb bs w v hbs hw hv.1
       obtain ⟨b1, b2⟩ := k2 w0 μ nb bs w vs hbs hw hv.2
       exact ⟨by simp [a1, b1], a2, b2⟩
    · cases h
  · cases h
 | [], _ :: _, _, _, _, _, h, _ => by unfold ptrsX at h; cases h
 | _ :: _, [], _, _, _, _, h, _ => by unfold ptrsX at h; cases h
theorem PtrsAt.locs {heap : Array Obj} : ∀ {kss : List (List Nat)} {xss : List (List Int)} {vs : List Value}, PtrsAt heap kss xss vs →
  ∃ ps : List (Nat × Nat), ps.length = kss.length ∧ xss.length = kss.length ∧ vs.length = kss.length ∧ (∀ p ∈ ps, LstAt heap p) ∧
   ∀ (j : Nat) (ks : List Nat) (x : List Int) (v : Value), kss[j]? = some ks → xss[j]? = some x → vs[j]? = some v → ∃ p off, ps[j]? = some p ∧ p.2 = encP off ks [x] ∧ v = .pointer (some ⟨p.1, off, none⟩)
 | [], [], [], _ => ⟨[], rfl, rfl, rfl, (fun _ h => by cases h), fun j _ _ _ h => by simp at h⟩
 | ks :: l, x :: m, v :: vs, h => by
  obtain ⟨⟨b, off, hv, hl⟩, h2⟩ := h
  obtain ⟨ps, h3, h4, h5, h6, h7⟩ := PtrsAt.locs h2
  refine ⟨(b, encP off ks [x]) :: ps, by simp [h3], by simp [h4], by simp [h5], fun p hp => ?_, fun j k y u hj hy hu => ?_⟩
  · cases hp with
    | head => exact hl
    | tail _ hp => exact h6 p hp
  · cases j with
    | zero =>
     simp only [List.getElem?_cons_zero, Option.some.injEq] at hj hy hu
     subst hj hy hu
     exact ⟨_, off, rfl, rfl, hv⟩
    | succ j => simpa using h7 j k y u (by simpa using hj) (by simpa using hy) (by simpa using hu)
 | [], [], _ :: _, h => h.elim
 | [], _ :: _, _, h => h.elim
 | _ :: _, [], _, h => h.elim
 | _ :: _, _ :: _, [], h => h.elim
def muP (ps : List (Nat × Nat)) : Mu := fun i => if LB ≤ i then ps[i - LB]? else none
theorem WR.places {ρ' : Nat → Int} {w : World} {ps : List (Nat × Nat)} (h : ∀ p ∈ ps, LstAt w.heap p) {n : Nat} (hn : ps.length ≤ n) : WR ρ' (Base.all w) (muP ps) n .nil w := by
 refine ⟨⟨rfl, rfl, rfl, Nat.le_refl _, fun _ _ => rfl⟩, (fun _ _ _ _ _ _ h => by cases h), (fun i _ hi => ?_), (fun _ _ _ h => by cases h), (fun _ _ h => by cases h), (fun i p hi hp => ?_), (fun q hq => ?_)⟩
 · unfold muP; rw [if_neg (by omega)]
 · unfold muP at hp
   rw [if_pos hi] at hp
   exact ⟨h p (List.mem_of_getElem? hp), fun _ _ _ _ h => by cases h⟩
 · unfold muP
   rw [if_pos (by omega), Nat.add_sub_cancel_left, List.getElem?_eq_none (by omega)]
theorem upRegs_ev {ρ' : Nat → Int} {f : Nat → Int} : ∀ {n i : Nat}, (∀ j, j < n → ρ' (i + j) = f (i + j)) → (upRegs i n).map (X.ev ρ') = (List.range' i n).map f
 | 0, _, _ => rfl
 | n + 1, i, h => by
  unfold upRegs
  rw [List.range'_succ, List.map_cons, List.map_cons, upRegs_ev (f := f) fun j hj => by
   rw [show i + 1 + j = i + (j + 1) by omega]; exact h _ (by omega)]
  have := h 0 (by omega)
  rw [Nat.add_zero] at this
  show ρ' i :: _ = _
  rw [this]
theorem flat_get {xss : List (List X)} {kss : List (List Nat)} (h : xss.map List.length = kss.map List.length) : xss.flatten.length = sizeE kss := by
 induction kss generalizing xss with
 | nil => cases xss with
  | nil => rfl
  | cons _ _ => simp at h
 | cons ks l ih => cases xss with
  | nil => simp at h
  | cons x m =>
   simp only [List.map_cons, List.cons.injEq] at h
   rw [List.flatten_cons, List.length_append, ih h.2, h.1]; rfl
theorem elPat_rel {ρ' : Nat → Int} {n : Nat} {ps : List (Nat × Nat)} : ∀ {kss : List (List Nat)} {xss : List (List X)} {vs : List Value} {i j : Nat}, xss.map List.length = kss.map List.length → vs.length = kss.length →
  (∀ r d, (r, d) ∈ elDs n i j kss → ρ' r = d.ev ρ') → (∀ c x, xss.flatten[c]? = some x → ρ' (i + c) = x.ev ρ) →
  (∀ (q : Nat) (ks : List Nat) (x : List Int) (v : Value), kss[q]? = some ks → (xss.map (List.map (X.ev ρ)))[q]? = some x → vs[q]? = some v → ∃ p off, ps[j + q]? = some p ∧ p.2 = encP off ks [x] ∧ v = .pointer (some ⟨p.1, off, none⟩)) →
  svsRel ρ' (muP ps) (elPat n j kss) vs
 | [], [], [], i, j, _, _, _, _, _ => trivial
 | ks :: l, x :: m, v :: vs, i, j, hlen, hvl, hd, hc, hp => by
  simp only [List.map_cons, List.cons.injEq] at hlen
  refine ⟨?_, elPat_rel hlen.2 (by simpa using hvl) (fun r d h => hd r d (List.mem_cons_of_mem _ h)) (i := i + ks.length) (fun c y hy => ?_) (fun q k y u h1 h2 h3 => ?_)⟩
  · obtain ⟨p, off, h1, h2, rfl⟩ := hp 0 ks _ v rfl rfl rfl
    refine ⟨p, off, [x.map (X.ev ρ)], 0, ?_, h2, ?_, rfl, by simp, by simp⟩
    · unfold muP
      rw [if_pos (Nat.le_add_right _ _), Nat.add_sub_cancel_left]
      exact h1
    · show ρ' (n + j) = _
      rw [hd (n + j) ⟨66, upRegs i ks.length⟩ List.mem_cons_self]
      show encE [(upRegs i ks.length).map (X.ev ρ')] = _
      congr 2
      apply List.ext_getElem?
      intro c
      have hu : ∀ {n i c : Nat}, (upRegs i n)[c]? = if c < n then some (.reg (i + c)) else none := by
       intro n
       induction n with
       | zero => intro i c; simp [upRegs]
       | succ n ih =>
        intro i c
        unfold upRegs
        cases c with
        | zero => simp
        | succ c =>
         rw [List.getElem?_cons_succ, ih]
         by_cases h : c < n
         · rw [if_pos h, if_pos (by omega), show i + 1 + c = i + (c + 1) by omega]
         · rw [if_neg h, if_neg (by omega)]
      rw [List.getElem?_map, List.getElem?_map, hu]
      by_cases h : c < ks.length
      · rw [if_pos h]
        have hx : x[c]? = some (x[c]'(by omega)) := List.getElem?_eq_getElem (by omega)
        have := hc c (x[c]'(by omega)) (by
         rw [List.flatten_cons, List.getElem?_append_left (by omega)]; exact hx)
        rw [hx]
        exact congrArg some this
      · rw [if_neg h, List.getElem?_eq_none (by omega)]; rfl
  · have := hc (ks.length + c) y (by
     rw [List.flatten_cons, List.getElem?_append_right (by omega), ← hlen.1, Nat.add_sub_cancel_left]; exact hy)
    rw [← this, Nat.add_assoc]
  · have := hp (q + 1) k y u (by simpa using h1) (by simpa using h2) (by simpa using h3)
    rw [show j + 1 + q = j + (q + 1) by omega]; exact this
 | [], [], _ :: _, _, _, _, h, _, _, _ => by simp at h
 | [], _ :: _, _, _, _, h, _, _, _, _ => by simp at h
 | _ :: _, [], _, _, _, h, _, _, _, _ => by simp at h
 | _ :: _, _ :: _, [], _, _, _, h, _, _, _ => by simp at h
theorem elPat_len {n : Nat} : ∀ {kss : List (List Nat)} {j : Nat}, (elPat n j kss).length = kss.length
 | [], _ => rfl
 | _ :: l, j => by unfold elPat; rw [List.length_cons, elPat_len]; rfl
end
theorem smE_via {P : Program} {Γ : Ctx} (hΓ : Γ.ok P) (hsum : ∀ f s, Γ.summ f = some s → SummOK P f s) {hn : Nat → Option Hint} {f : Nat} {F : Func} (hF : P.funcs[f]? = some F) (hname : (F.name == "runtime.NumGoroutine") = false)
  {kss : List (List Nat)} {S S2 : Sm} (hrun : smRunE Γ hn F kss S = true) (hg2 : goodTab (sizeE kss) (tabL S2) = true) (hd2 : dsOK (tabL S2) S2.ds = true)
  (hEq : ∀ (ρ1 ρ2 : Nat → Int) (μ : Mu) (x : Value), (∀ r, r < sizeE kss → ρ1 r = ρ2 r) → (∀ r d, (r, d) ∈ S.ds → ρ1 r = d.ev ρ1) → (∀ r d, (r, d) ∈ S2.ds → ρ2 r = d.ev ρ2) → (S.vt.pick ρ1).rel ρ1 μ x → (S2.vt.pick ρ2).rel ρ2 μ x) :
  SummOK P f (smE S2 kss) := by
 intro T st args T1 vt h ρ hs
 unfold smE at h
 split at h
 case h_2 => cases h
 rename_i T0 xss hxs
 split at h
 case h_2 => cases h
 rename_i T2 σ hinst
 split at h
 case h_2 => cases h
 rename_i vt' hvt'
 cases h
 unfold smRunE at hrun
 split at hrun
 case h_2 => cases hrun
 rename_i TR tR hr
 split at hrun
 case h_2 => cases hrun
 rename_i hg hds hlow
 simp only [Bool.and_eq_true] at hlow
 split at hrun
 case h_2 => cases hrun
 rename_i vt0 hvt
 have hvte := vtBeq_eq hrun
 subst hvte
 unfold runE at hr
 split at hr
 case h_2 => cases hr
 rename_i c hb
 obtain ⟨ρ', hin, hs'⟩ := exists_rho hg (fun r => (xss.flatten[r]?.map (X.ev ρ)).getD 0)
 obtain ⟨ρ2, hin2, hs2⟩ := exists_rho hg2 (fun r => (xss.flatten[r]?.map (X.ev ρ)).getD 0)
 obtain ⟨s0, hst⟩ := instDs_spec hs2 S2.ds _ _ _ _ (dsOK_spec hd2) hinst hs
 obtain ⟨sT, hpt⟩ := ptrsX_spec hxs s0
 refine ⟨sT, fun w0 μ nb bs vs w hf hbs hwr hvs => ?_⟩
 obtain ⟨hlen, hpa⟩ := hpt w0 μ nb bs w _ hbs hwr hvs
 have hfl := flat_get hlen
 have hat2 : ∀ j x, xss.flatten[j]? = some x → ρ2 (0 + j) = x.ev ρ := fun j x hj => by
  have hlt := (List.getElem?_eq_some_iff.1 hj).1
  rw [Nat.zero_add, hin2 j (by omega), hj]; rfl
 have hat : ∀ j x, xss.flatten[j]? = some x → ρ' (0 + j) = x.ev ρ := fun j x hj => by
  have hlt := (List.getElem?_eq_some_iff.1 hj).1
  rw [Nat.zero_add, hin j (by omega), hj]; rfl
 have hstands := hst (fun r x hx => by
  rcases putsX_get _ _ _ _ _ hx with ⟨j, e, hj⟩ | hx
  · rw [e]; exact (hat2 j x hj).symm
  · cases hx)
 obtain ⟨sE, hwp⟩ := execX_sound hΓ hsum (fun _ _ h => by cases h) 400 ρ' _ _ _ _ _ hr hs'
 obtain ⟨ps, l1, l2, l3, l4, l5⟩ := hpa.locs
 have hrel : svsRel ρ' (muP ps) (elPat (sizeE kss) 0 kss) vs.toList :=
  elPat_rel (i := 0) hlen l3 (fun r d hd => sE r d (dsOK_spec hlow.2 r d hd)) hat (fun q ks x v h1 h2 h3 => by rw [Nat.zero_add]; exact l5 q ks x v h1 h2 h3)
 have hfr := frame_enter hrel F.ntmps
 refine callOK_of hΓ hF hname hb (calls_of_wp hF hb (hwp (Base.all w) (muP ps) _ w _ ⟨rfl, hfr, WR.places l4 (by rw [l1]; exact Nat.le_add_right _ _), (fun r b h => by cases h)⟩ ?_))
 refine vtree_spec hvt _ fun e s v hv hpick => ?_
 intro μ' a' w' hp hw'
 obtain ⟨he, hv', hvn⟩ := leafRes_spec hv
 obtain ⟨x, hx, hxr⟩ := resultsS_sound hΓ hv' hw'
 have hxr' := settle_rel hs' hw'.fa (SV.rel_num (μ' := μ) hvn hxr)
 rw [← hpick] at hxr'
 have hx2 := hEq ρ' ρ2 μ x (fun r hr => by rw [hin r hr, hin2 r hr]) (fun r d hd => hs' r d (dsOK_spec hds r d hd)) (fun r d hd => hs2 r d (dsOK_spec hd2 r d hd)) hxr'
 have fin : bodyPost P F (fun e w2 => ∃ v, e = .returned v ∧ (vt.pick ρ).rel ρ μ v ∧ WR ρ w0 μ nb bs w2) .ret a' w' :=
  ⟨hw'.defers, x, hx, x, rfl, instVT_rel hstands hs hf hvt' hx2, hwr.after hw'.wr.kept.below⟩
 rcases he with rfl | rfl <;> exact fin
end
end Go.Sx

namespace Go.Sx
noncomputable section
open Go.RowKit
def glOf : SV → Option (Nat × (List Nat × X))
 | .w (.one (.gl i ks x)) => some (i, (ks, x))
 | .tup (.one (.gl i ks x) :: l) => match noPtrW l with
  | true => some (i, (ks, x))
  | false => none
 | _ => none
def reG (j : Nat) : SV → SV
 | .w (.one (.gl _ ks x)) => .w (.one (.gl j ks x))
 | .tup (.one (.gl _ ks x) :: l) => .tup (.one (.gl j ks x) :: l)
 | v => v
def leafResG (Γ : Ctx) (F : Func) (e : Ex) (s : St) : Option SV :=
 match e with
 | .leave _ => none
 | _ =>
  match resultsS Γ s F.results.toList with
  | some v =>
   match glOf v with
   | some (i, (ks, x)) =>
    match s.bs.get i with
    | some B => match cellsBeq B.cells [.many ks x] with
     | true => some (reG B.ty v)
     | false => none
    | none => none
   | none => match v.noPtr with
    | true => some v
    | false => none
  | none => none
def gSC (σ : Tr X) : SC → Option SC
 | .gl t ks x => match instX σ x with | some y => some (.gl t ks y) | none => none
 | .raw (.slice none 0 0) => some (.raw (.slice none 0 0))
 | c => instC σ c
def gV (σ : Tr X) : SV → Option SV
 | .w (.one c) => match gSC σ c with | some d => some (.w (.one d)) | none => none
 | .tup (.one c :: l) => match gSC σ c, instWs σ l with
  | some d, some m => some (.tup (.one d :: m))
  | _, _ => none
 | _ => none
def putG (nb : Nat) (bs : Tr Blk) (u : SV) : Option MT :=
 match glOf u with
 | some (t, (ks, x)) => match Nat.ble maxReg nb with
  | false => some (.leaf (nb + 1) (bs.set fuelT nb ⟨[.many ks x], t⟩) (reG nb u))
  | true => none
 | none => match u.noPtr with
  | true => some (.leaf nb bs u)
  | false => none
def instG (σ : Tr X) (fa : Tr Bool) (T : Tab) (nb : Nat) (bs : Tr Blk) : VT → Option MT
 | .leaf v => match gV σ v with | some u => putG nb bs u | none => none
 | .node r a b =>
  match σ.get r with
  | some x =>
   match decideX T fa x with
   | .known true => instG σ fa T nb bs a
   | .known false => instG σ fa T nb bs b
   | _ =>
    match x with
    | .reg q =>
     match instG σ fa T nb bs a with
     | some a' => match instG σ fa T nb bs b with
      | some b' => some (.node q a' b')
      | none => none
     | none => none
    | .lit _ => none
  | none => none
def smG (S : Sm) (n : Nat) (pat : List SV) : MFn := fun T st args =>
 match uVs n ⟨.nil, []⟩ pat args with
 | some u =>
  match Nat.ble u.qs.length (n + 10) && plsOK st.bs u.qs, instDs S.ds u.σ T with
  | true, some (T1, σ) =>
   match instG σ st.fa T1 st.nb st.bs S.vt with
   | some m => some (T1, m)
   | none => none
  | _, _ => none
 | none => none
def smRunG (Γ : Ctx) (hn : Nat → Option Hint) (F : Func) (n : Nat) (pat : List SV) (S : Sm) : Bool :=
 match runL Γ hn (fun _ => none) F n pat .nil ⟨n, .nil, .nil⟩ with
 | some (T, t) =>
  match goodTab n T, dsOK T S.ds, Nat.blt n maxReg with
  | true, true, true =>
   match vtree T (leafResG Γ F) t with
   | some vt => vtBeq vt S.vt
   | none => false
  | _, _, _ => false
 | none => false
section
variable {P : Program} {Γ : Ctx} {ρ ρ' : Nat → Int} {σ : Tr X}
theorem reG_rel {v : SV} {i j : Nat} {ks : List Nat} {x : X} (hg : glOf v = some (i, (ks, x))) {μ1 μ2 : Mu} {u : Value} (h : v.rel ρ μ1 u) (hm : μ2 j = μ1 i) : (reG j v).rel ρ μ2 u := by
 unfold glOf at hg
 split at hg
 · cases hg
   obtain ⟨b, els, hb, rest⟩ := h
   exact ⟨b, els, by rw [hm]; exact hb, rest⟩
 · rename_i l
   split at hg
   · rename_i hn
     cases hg
     obtain ⟨vs, e, hr⟩ := h
     obtain ⟨vs⟩ := vs
     match vs, hr with
     | v :: vs, hr =>
      obtain ⟨⟨b, els, hb, rest⟩, hr2⟩ := hr
      exact ⟨_, e, ⟨b, els, by rw [hm]; exact hb, rest⟩, swsRel_num hn hr2⟩
   · cases hg
 · cases hg
theorem reG_glOf {v : SV} {i j : Nat} {ks : List Nat} {x : X} (hg : glOf v = some (i, (ks, x))) : glOf (reG j v) = some (j, (ks, x)) := by
 unfold glOf at hg
 split at hg
 · cases hg; rfl
 · rename_i l
   split at hg
   · rename_i hn
     cases hg
     show (match noPtrW l with | true => _ | false => _) = _
     rw [hn]
   · cases hg
 · cases hg
def GRel (ρ : Nat → Int) (w w' : World) (v : SV) (u : Value) : Prop :=
 (v.noPtr = true ∧ ∀ μ, v.rel ρ μ u) ∨
 (∃ t ks x b cs, glOf v = some (t, (ks, x)) ∧ w.heap.size ≤ b ∧ w'.heap[b]? = some (.cells cs t (0, 0)) ∧ (∀ μ, Begins ρ μ [.many ks x] cs) ∧ v.rel ρ (fun _ => some (b, cs.size)) u)
theorem glOf_noPtr {v : SV} (h : v.noPtr = true) : glOf v = none := by
 unfold glOf
 split
 · cases h
 · cases h
 · rfl
theorem leafResG_spec {F : Func} {e : Ex} {s : St} {v : SV} (h : leafResG Γ F e s = some v) : (e = .normal ∨ e = .ret) ∧ ∃ v0, resultsS Γ s F.results.toList = some v0 ∧
  ∀ {w : World} {μ : Mu} {w' : World} {u : Value}, WR ρ (Base.all w) μ s.nb s.bs w' → v0.rel ρ μ u → GRel ρ w w' v u := by
 unfold leafResG at h
 split at h
 · cases h
 · rename_i hne
   have hex : e = .normal ∨ e = .ret := by
    cases e with
    | normal => exact .inl rfl
    | ret => exact .inr rfl
    | leave id => exact absurd rfl (hne id)
   split at h
   case h_2 => cases h
   rename_i v' hv
   refine ⟨hex, v', hv, ?_⟩
   split at h
   · rename_i i ks x hg
     split at h
     case h_2 => cases h
     rename_i B hB
     split at h
     case h_2 => cases h
     rename_i hc
     cases h
     intro w μ w' u hwr hr
     have hc := cellsBeq_eq hc
     obtain ⟨p, cs, hp, hh, hsz, hbg⟩ := hwr.blk i B hB
     have hlo := hwr.lo i B p hB hp
     refine .inr ⟨B.ty, ks, x, p.1, cs, reG_glOf hg, ?_, hh, fun μ => ?_, reG_rel hg hr ?_⟩
     · have : ¬ p.1 < w.heap.size := hlo
       omega
     · rw [hc] at hbg
       rcases hbg with ⟨vs, rest, _, hrel⟩ | h2
       · cases vs with
         | nil => exact hrel.elim
         | cons v vs => exact hrel.1.elim
       · exact .inr h2
     · rw [hp, hsz]
   · rename_i hg
     split at h
     · rename_i hn
       cases h
       intro w μ w' u hwr hr
       exact .inl ⟨hn, fun μ' => SV.rel_num hn hr⟩
     · cases h
theorem settle_glOf {T : Tab} {fa : Tr Bool} {v : SV} {i : Nat} {ks : List Nat} {x : X} (hg : glOf v = some (i, (ks, x))) : glOf (settle T fa v) = some (i, (ks, x)) := by
 have hset : ∀ l : List SW, noPtrW l = true → noPtrW (settleWs T fa l) = true := by
  intro l
  induction l with
  | nil => intro _; rfl
  | cons c l ih =>
   intro h
   unfold noPtrW at h
   split at h
   · rename_i hc
     show (match (settleW T fa c).noPtr with | true => noPtrW (settleWs T fa l) | false => false) = true
     have : (settleW T fa c).noPtr = true := by
      cases c with
      | agg l => exact hc
      | one c =>
       show (settleC T fa c).noPtr = true
       unfold settleC
       split
       · split <;> rfl
       · exact hc
     rw [this]; exact ih h
   · cases h
 unfold glOf at hg
 split at hg
 · cases hg; rfl
 · rename_i l
   split at hg
   · rename_i hn
     cases hg
     show (match noPtrW (settleWs T fa l) with | true => _ | false => _) = _
     rw [hset l hn]
   · cases hg
 · cases hg
theorem settle_none {T : Tab} {fa : Tr Bool} {v : SV} (hn : v.noPtr = true) : (settle T fa v).noPtr = true := by
 have one : ∀ c : SW, c.noPtr = true → (settleW T fa c).noPtr = true := by
  intro c hc
  cases c with
  | agg l => exact hc
  | one c =>
   show (settleC T fa c).noPtr = true
   unfold settleC
   split
   · split <;> rfl
   · exact hc
 have hset : ∀ l : List SW, noPtrW l = true → noPtrW (settleWs T fa l) = true := by
  intro l
  induction l with
  | nil => intro _; rfl
  | cons c l ih =>
   intro h
   unfold noPtrW at h
   split at h
   · rename_i hc
     show (match (settleW T fa c).noPtr with | true => noPtrW (settleWs T fa l) | false => false) = true
     rw [one c hc]; exact ih h
   · cases h
 cases v with
 | un => rfl
 | w c => exact one c hn
 | tup l => exact hset l hn
theorem GRel.settle {T : Tab} (hs : Sat ρ T) {fa : Tr Bool} (hf : Facts ρ fa) {w w' : World} {v : SV} {u : Value} (h : GRel ρ w w' v u) : GRel ρ w w' (Sx.settle T fa v) u := by
 rcases h with ⟨h1, h2⟩ | ⟨t, ks, x, b, cs, h1, h2, h3, h4, h5⟩
 · exact .inl ⟨settle_none h1, fun μ => settle_rel hs hf (h2 μ)⟩
 · exact .inr ⟨t, ks, x, b, cs, settle_glOf h1, h2, h3, h4, settle_rel hs hf h5⟩
theorem gSC_rel (h : Stands ρ ρ' σ) {c d : SC} (hc : gSC σ c = some d) {μ : Mu} {v : Value} (hv : c.rel ρ' μ v) : d.rel ρ μ v := by
 unfold gSC at hc
 split at hc
 · split at hc
   · rename_i y hy
     cases hc
     obtain ⟨b, els, hb, hL, rest⟩ := hv
     exact ⟨b, els, hb, by rw [instX_spec h hy]; exact hL, rest⟩
   · cases hc
 · cases hc; exact hv
 · exact instC_rel h hc hv
theorem gV_rel (h : Stands ρ ρ' σ) {c d : SV} (hc : gV σ c = some d) {μ : Mu} {v : Value} (hv : c.rel ρ' μ v) : d.rel ρ μ v := by
 unfold gV at hc
 split at hc
 · split at hc
   · rename_i e he; cases hc; exact gSC_rel h he hv
   · cases hc
 · split at hc
   · rename_i e m he hm
     cases hc
     obtain ⟨vs, ev, hr⟩ := hv
     obtain ⟨vs⟩ := vs
     match vs, hr with
     | v :: vs, hr => exact ⟨_, ev, gSC_rel h he hr.1, instWs_rel h hm hr.2⟩
   · cases hc
 · cases hc
theorem instWs_noPtr : ∀ {l m : List SW}, instWs σ l = some m → noPtrW m = true := by
 have one : ∀ {c d : SC}, instC σ c = some d → d.noPtr = true := by
  intro c d h
  unfold instC at h
  split at h <;> first | (split at h <;> first | (cases h; rfl) | cases h) | cases h
 have many : ∀ {l m : List SC}, instCs σ l = some m → noPtrL m = true := by
  intro l
  induction l with
  | nil => intro m h; cases h; rfl
  | cons c l ih =>
   intro m h
   unfold instCs at h
   split at h
   · rename_i d hd
     split at h
     · rename_i m' hm
       cases h
       show (match d.noPtr with | true => noPtrL m' | false => false) = true
       rw [one hd]; exact ih hm
     · cases h
   · cases h
 intro l
 induction l with
 | nil => intro m h; cases h; rfl
 | cons c l ih =>
  intro m h
  unfold instWs at h
  split at h
  · rename_i d hd
    split at h
    · rename_i m' hm
      cases h
      show (match d.noPtr with | true => noPtrW m' | false => false) = true
      have : d.noPtr = true := by
       unfold instW at hd
       split at hd
       · split at hd
         · rename_i e he; cases hd; exact one he
         · cases hd
       · split at hd
         · rename_i e he; cases hd; exact many he
         · cases hd
      rw [this]; exact ih hm
    · cases h
  · cases h
theorem gV_glOf {c d : SV} (hc : gV σ c = some d) {t : Nat} {ks : List Nat} {x : X} (hg : glOf c = some (t, (ks, x))) : ∃ y, instX σ x = some y ∧ glOf d = some (t, (ks, y)) := by
 unfold glOf at hg
 split at hg
 · cases hg
   unfold gV at hc
   dsimp only at hc
   split at hc
   · rename_i e he
     cases hc
     unfold gSC at he
     dsimp only at he
     split at he
     · rename_i y hy; cases he; exact ⟨y, hy, rfl⟩
     · cases he
   · cases hc
 · rename_i l
   split at hg
   · cases hg
     unfold gV at hc
     dsimp only at hc
     split at hc
     · rename_i e m he hm
       cases hc
       unfold gSC at he
       dsimp only at he
       split at he
       · rename_i y hy
         cases he
         refine ⟨y, hy, ?_⟩
         show (match noPtrW m with | true => _ | false => _) = _
         rw [instWs_noPtr hm]
       · cases he
     · cases hc
   · cases hg
 · cases hg
theorem gV_noPtr {c d : SV} (hc : gV σ c = some d) (hn : c.noPtr = true) : d.noPtr = true := by
 have one : ∀ {c d : SC}, instC σ c = some d → d.noPtr = true := by
  intro c d h
  unfold instC at h
  split at h <;> first | (split at h <;> first | (cases h; rfl) | cases h) | cases h
 have g : ∀ {c d : SC}, gSC σ c = some d → c.noPtr = true → d.noPtr = true := by
  intro c d h hn
  unfold gSC at h
  split at h
  · cases hn
  · cases h; rfl
  · exact one h
 unfold gV at hc
 split at hc
 · split at hc
   · rename_i e he; cases hc; exact g he hn
   · cases hc
 · rename_i c l
   split at hc
   · rename_i e m he hm
     cases hc
     have hn : (match (SW.one c).noPtr with | true => noPtrW l | false => false) = true := hn
     show (match (SW.one e).noPtr with | true => noPtrW m | false => false) = true
     cases hcn : (SW.one c).noPtr with
     | false => rw [hcn] at hn; cases hn
     | true =>
      have : (SW.one e).noPtr = true := g he hcn
      rw [this]; exact instWs_noPtr hm
   · cases hc
 · cases hc
theorem putG_rel {w0 : Base} {μ : Mu} {nb : Nat} {bs : Tr Blk} {w w' : World} (h : WR ρ w0 μ nb bs w) (hb : Below w.heap.size w w') {u : SV} {x : Value} {m : MT} (hp : putG nb bs u = some m) (hg : GRel ρ w w' u x) :
  ∃ μ', Sub μ μ' ∧ WR ρ w0 μ' (m.pick ρ).1 (m.pick ρ).2.1 w' ∧ (m.pick ρ).2.2.rel ρ μ' x := by
 unfold putG at hp
 rcases hg with ⟨h1, h2⟩ | ⟨t, ks, y, b, cs, h1, h2, h3, h4, h5⟩
 · rw [glOf_noPtr h1] at hp
   dsimp only at hp
   rw [h1] at hp
   cases hp
   exact ⟨μ, Sub.refl _, h.after hb, h2 μ⟩
 · rw [h1] at hp
   dsimp only at hp
   split at hp
   · rename_i hnb
     cases hp
     have hlb : nb < LB := by
      have : ¬ maxReg ≤ nb := fun hle => by rw [Nat.ble_eq_true_of_le hle] at hnb; cases hnb
      unfold maxReg at this
      unfold LB; omega
     obtain ⟨μ', s1, s2, s3⟩ := adoptWR h hb hlb (B := ⟨[.many ks y], t⟩) h2 h3 (h4 μ)
     exact ⟨μ', s1, s3, reG_rel h1 h5 s2⟩
   · cases hp
theorem instG_rel (h : Stands ρ ρ' σ) {T : Tab} (hs : Sat ρ T) {fa : Tr Bool} (hf : Facts ρ fa) {nb : Nat} {bs : Tr Blk} : ∀ {a : VT} {m : MT}, instG σ fa T nb bs a = some m →
  ∃ u m', gV σ (a.pick ρ') = some u ∧ putG nb bs u = some m' ∧ m.pick ρ = m'.pick ρ
 | .leaf v, m, hc => by
  unfold instG at hc
  split at hc
  · rename_i u hu; exact ⟨u, m, hu, hc, rfl⟩
  · cases hc
 | .node r a1 a2, m, hc => by
  unfold instG at hc
  split at hc
  · rename_i x hx
    have e := h r x hx
    have hd := decideX_spec hs hf x
    unfold VT.pick
    split at hc
    · rename_i hk
      rw [hk] at hd
      have hd : (x.ev ρ == 1) = true := hd
      rw [e] at hd
      have hd : ρ' r = 1 := by simpa using hd
      rw [if_pos hd]
      exact instG_rel h hs hf hc
    · rename_i hk
      rw [hk] at hd
      have hd : (x.ev ρ == 1) = false := hd
      rw [e] at hd
      have hd : ρ' r ≠ 1 := by simpa using hd
      rw [if_neg hd]
      exact instG_rel h hs hf hc
    · split at hc
      · rename_i q _ _
        split at hc
        · rename_i a' ha
          split at hc
          · rename_i b' hb
            cases hc
            have e : ρ q = ρ' r := e
            by_cases h1 : ρ' r = 1
            · rw [if_pos h1, show (MT.node q a' b').pick ρ = a'.pick ρ from if_pos (by rw [e]; exact h1)]
              exact instG_rel h hs hf ha
            · rw [if_neg h1, show (MT.node q a' b').pick ρ = b'.pick ρ from if_neg (by rw [e]; exact h1)]
              exact instG_rel h hs hf hb
          · cases hc
        · cases hc
      · cases hc
  · cases hc
end
theorem smG_ok {P : Program} {Γ : Ctx} (hΓ : Γ.ok P) (hsum : ∀ f s, Γ.summ f = some s → SummOK P f s) {hn : Nat → Option Hint} {f : Nat} {F : Func} (hF : P.funcs[f]? = some F) (hname : (F.name == "runtime.NumGoroutine") = false)
  {n : Nat} {pat : List SV} {S : Sm} (hrun : smRunG Γ hn F n pat S = true) : MFnOK P f (smG S n pat) := by
 intro T st args T1 m h ρ hs
 unfold smG at h
 split at h
 case h_2 => cases h
 rename_i u hu
 split at h
 case h_2 => cases h
 rename_i T2 σ hqn hinst
 split at h
 case h_2 => cases h
 rename_i m' hm'
 cases h
 unfold smRunG at hrun
 split at hrun
 case h_2 => cases hrun
 rename_i T0 t0 hr
 split at hrun
 case h_2 => cases hrun
 rename_i hg hds hlow
 split at hrun
 case h_2 => cases hrun
 rename_i vt0 hvt
 have hvte := vtBeq_eq hrun
 subst hvte
 have hlow : n ≤ maxReg := Nat.le_of_lt (Nat.le_of_ble_eq_true hlow)
 unfold runL at hr
 split at hr
 case h_2 => cases hr
 rename_i c hb
 obtain ⟨_, hul, husp⟩ := uVs_spec (ρ := ρ) hlow hu
 have hul := hul (fun r x h => by cases h)
 obtain ⟨ρ', hin, hs'⟩ := exists_rho hg (fun r => ((u.σ.get r).map (X.ev ρ)).getD 0)
 have hat : ∀ r x, u.σ.get r = some x → x.ev ρ = ρ' r := fun r x hr => by
  rw [hin r (hul r x hr), hr]; rfl
 obtain ⟨s0, hst⟩ := instDs_spec hs' S.ds _ _ _ _ (dsOK_spec hds) hinst hs
 have hstands := hst hat
 simp only [Bool.and_eq_true] at hqn
 refine ⟨s0, fun w0 μ vs w hf hwr hvs => ?_⟩
 have hrel := husp u ρ' μ _ (.refl _) hat hvs
 obtain ⟨_, hwp⟩ := execX_sound hΓ hsum (fun _ _ h => by cases h) 400 ρ' _ _ _ _ _ hr hs'
 have hfr := frame_enter hrel F.ntmps
 have hqn' := Nat.le_of_ble_eq_true hqn.1
 refine callOK_of hΓ hF hname hb (calls_of_wp hF hb (hwp (Base.all w) (muQ ρ μ u.qs) _ w _ ⟨rfl, hfr, (hwr.lists hqn.2).more hqn', (fun r b h => by cases h)⟩ ?_))
 refine vtree_spec hvt _ fun e s v hv hpick => ?_
 intro μ' a' w' hp hw'
 obtain ⟨he, v0, hv', hG⟩ := leafResG_spec hv
 obtain ⟨x, hx, hxr⟩ := resultsS_sound hΓ hv' hw'
 have hgr := (hG hw'.wr hxr).settle hs' hw'.fa
 rw [← hpick] at hgr
 obtain ⟨u1, m1, g1, g2, g3⟩ := instG_rel hstands hs hf hm'
 have hgr1 : GRel ρ w w' u1 x := by
  rcases hgr with ⟨k1, k2⟩ | ⟨t, ks, y, b, cs, k1, k2, k3, k4, k5⟩
  · exact .inl ⟨gV_noPtr g1 k1, fun μ => gV_rel hstands g1 (k2 μ)⟩
  · obtain ⟨z, z1, z2⟩ := gV_glOf g1 k1
    refine .inr ⟨t, ks, z, b, cs, z2, k2, k3, fun μ => ?_, gV_rel hstands g1 k5⟩
    rcases k4 μ with ⟨vs, rest, _, hrel⟩ | ⟨ks', L, els, e1, e2, e3⟩
    · cases vs with
      | nil => exact hrel.elim
      | cons v vs => exact hrel.1.elim
    · simp only [List.cons.injEq, SC.many.injEq, and_true] at e1
      obtain ⟨rfl, rfl⟩ := e1
      exact .inr ⟨ks, z, els, rfl, by rw [instX_spec hstands z1]; exact e2, e3⟩
 have hput := putG_rel hwr hw'.wr.kept.below g2 hgr1
 rw [← g3] at hput
 have fin : bodyPost P F (fun e w2 => ∃ v, e = .returned v ∧ (∃ μ', Sub μ μ' ∧ WR ρ w0 μ' (m.pick ρ).1 (m.pick ρ).2.1 w2 ∧ (m.pick ρ).2.2.rel ρ μ' v)) .ret a' w' :=
  ⟨hw'.defers, x, hx, x, rfl, hput⟩
 rcases he with rfl | rfl <;> exact fin
end
end Go.Sx

namespace Go.Sx
noncomputable section
open Go.RowKit
/-! ### The contracts -/
def markS (idM : Nat) (ks : List Nat) (e : Nat) : MFn := fun T st args =>
 match args with
 | [.w (.one (.gl b ks' L)), .w (.one (.int k (.lit (.ofNat 1))))] =>
  match st.bs.get b with
  | some B =>
   match (natsBeq ks ks' && Nat.beq (kindNo k) 3) && (Nat.beq B.ty e && cellsBeq B.cells [.many ks L]) with
   | true =>
    match mk T 70 [.lit idM, .lit 2, .lit 1, .lit 0, L, L] with
    | some (T1, M) =>
     match mk T1 70 [.lit idM, .lit 0, .lit 1, .lit 0, L, L] with
     | some (T2, c) =>
      match mk T2 40 [.lit 0, c] with
      | some (T3, z) => some (T3, .leaf st.nb (st.bs.set fuelT b ⟨[.many ks M], e⟩) (.c (.int .i64 z)))
      | none => none
     | none => none
    | none => none
   | false => none
  | none => none
 | _ => none
def heldS (idM : Nat) (ks : List Nat) : Summ := fun T st args =>
 match args with
 | [.w (.one (.gl b ks' L)), .w (.one (.int k (.lit (.ofNat 1))))] =>
  match st.bs.get b with
  | some B =>
   match B.cells with
   | [.many ks2 (.reg r)] =>
    match T.defs.get r with
    | some d =>
     match (natsBeq ks ks' && natsBeq ks ks2) && (Nat.beq (kindNo k) 3 && d.beq ⟨70, [.lit idM, .lit 2, .lit 1, .lit 0, L, L]⟩) with
     | true =>
      match mk T 70 [.lit idM, .lit 0, .lit 1, .lit 0, L, L] with
      | some (T2, c) =>
       match mk T2 40 [.lit 0, c] with
       | some (T3, z) => some (T3, .leaf (.c (.int .i64 z)))
       | none => none
      | none => none
     | false => none
    | none => none
   | _ => none
  | none => none
 | _ => none
def copyG (ks : List Nat) (e : Nat) : MFn := fun T st args =>
 match args with
 | [.w (.one (.ls _ ks' L))] =>
  match (natsBeq ks ks' && shortL T st.fa L) && (Nat.ble 1 ks.length && !(Nat.ble maxReg st.nb)) with
  | true => some (T, .leaf (st.nb + 1) (st.bs.set fuelT st.nb ⟨[.many ks L], e⟩) (.c (.gl st.nb ks L)))
  | false => none
 | _ => none
def noMks : Nat → Option MK := fun _ => none
/-! ### The runs -/
def markPat (ks : List Nat) : List SV := [.c (.gl 0 ks (.reg 0)), .c (.int .i64 (.reg 1))]
def runK (Γ : Ctx) (hn : Nat → Option Hint) (F : Func) (ks : List Nat) (e : Nat) : Option (Tab × Tree) :=
 match F.body with
 | some c => execX Γ hn (fun _ => none) 400 c ⟨2, .nil, .nil⟩ ⟨(markPat ks).length + (F.ntmps - (markPat ks).length), frameOf 0 (markPat ks), 1, Tr.ofList fuelT [(0, ⟨[.many ks (.reg 0)], e⟩)], .nil⟩
 | none => none
def isEnd : Ex → Bool
 | .leave _ => false
 | _ => true
def markRun (Γ : Ctx) (hn : Nat → Option Hint) (F : Func) (ks : List Nat) (e idM : Nat) : Bool :=
 match runK Γ hn F ks e with
 | some (T, .leaf ex s) =>
  match resultsS Γ s F.results.toList, s.bs.get 0 with
  | some (.w (.one (.int k (.reg a)))), some B =>
   match B.cells with
   | [.many ks' (.reg m)] =>
    match T.defs.get a, T.defs.get m with
    | some da, some dm =>
     (isEnd ex && (goodTab 2 T && (Nat.beq (kindNo k) 3 && (natsBeq ks ks' && Nat.beq B.ty e)))) &&
     (da.beq ⟨70, [.lit idM, .lit 0, .reg 1, .lit 0, .reg 0, .reg 0]⟩ && dm.beq ⟨70, [.lit idM, .lit 2, .reg 1, .lit 0, .reg 0, .reg 0]⟩)
    | _, _ => false
   | _ => false
  | _, _ => false
 | _ => false
def dsGet (r : Nat) : List (Nat × D) → Option D
 | [] => none
 | (q, d) :: l => match Nat.beq q r with
  | true => some d
  | false => dsGet r l
def heldShape (S : Sm) (idH : Nat) : Bool :=
 match S.vt with
 | .node q _ (.leaf (.w (.one (.int k (.reg a))))) =>
  match dsGet q S.ds, dsGet a S.ds with
  | some dq, some da =>
   match dq.a with
   | [.reg c, .reg n] =>
    match dsGet c S.ds, dsGet n S.ds with
    | some dc, some dn =>
     (Nat.beq (kindNo k) 3 && dq.beq ⟨15, [.reg c, .reg n]⟩) && ((da.beq ⟨70, [.lit idH, .lit 0, .reg 1, .lit 0, .reg 0]⟩ && dc.beq ⟨70, [.lit idH, .lit 1, .reg 1, .lit 0, .reg 0]⟩) && dn.beq ⟨62, [.reg 0]⟩)
    | _, _ => false
   | _ => false
  | _, _ => false
 | _ => false
end
def MarkLaw (idM idH : Nat) : Prop :=
 ∀ els : List (List Int), els.length ≤ 1099511627776 → ∃ m c, m.length = els.length ∧ 0 ≤ c ∧
  opF 70 [(idM : Int), 2, 1, 0, encE els, encE els] = encE m ∧ opF 70 [(idM : Int), 0, 1, 0, encE els, encE els] = c ∧
  opF 70 [(idH : Int), 0, 1, 0, encE m] = c ∧ opF 70 [(idH : Int), 1, 1, 0, encE m] = (els.length : Nat)
section
variable {P : Program} {Γ : Ctx} {ρ : Nat → Int}
theorem noMks_ok : ∀ g m, noMks g = some m → MKOK P g m := fun _ _ h => by cases h
theorem WR.turn {w0 : Base} {μ : Mu} {nb : Nat} {bs : Tr Blk} {w w' : World} (h : WR ρ w0 μ nb bs w) {i : Nat} {p : Nat × Nat} {B : Blk} {l : List SC} {cs' : Array Value}
  (hB : bs.get i = some B) (hb : μ i = some p) (hos : w'.os = w.os) (htape : w'.tape = w.tape) (hout : w'.output = w.output) (hsize : w.heap.size ≤ w'.heap.size)
  (hoth : ∀ k, k < w.heap.size → k ≠ p.1 → w'.heap[k]? = w.heap[k]?) (hh : w'.heap[p.1]? = some (.cells cs' B.ty (0, 0))) (hsz : cs'.size = p.2) (hr : Begins ρ μ l cs') :
  WR ρ w0 μ nb (bs.set fuelT i ⟨l, B.ty⟩) w' := by
 have hlo := h.lo i B p hB hb
 have hget : ∀ j B', (bs.set fuelT i ⟨l, B.ty⟩).get j = some B' → ∃ B'', bs.get j = some B'' := by
  intro j B' hB'
  rcases Tr.get_set_some _ _ _ _ _ _ hB' with ⟨rfl, rfl⟩ | ⟨_, h'⟩
  · exact ⟨B, hB⟩
  · exact ⟨B', h'⟩
 refine ⟨⟨hos.trans h.kept.os, htape.trans h.kept.tape, hout.trans h.kept.output, Nat.le_trans h.kept.size hsize, fun k hk => ?_⟩, ?_, h.top, ?_, fun j B' hB' => ?_, fun q r hq hr => ?_, h.ltop⟩
 · rw [hoth k (Nat.lt_of_lt_of_le (w0.lt k hk) h.kept.size) (by intro e; rw [e] at hk; exact hlo hk)]; exact h.kept.block k hk
 · intro j k q r Bj Bk hBj hBk hj hk e
   obtain ⟨Bj', hBj'⟩ := hget j Bj hBj
   obtain ⟨Bk', hBk'⟩ := hget k Bk hBk
   exact h.inj j k q r Bj' Bk' hBj' hBk' hj hk e
 · intro j B' q hB' hj
   obtain ⟨B'', hB''⟩ := hget j B' hB'
   exact h.lo j B'' q hB'' hj
 · rcases Tr.get_set_some _ _ _ _ _ _ hB' with ⟨rfl, rfl⟩ | ⟨hne, hB''⟩
   · exact ⟨p, cs', hb, hh, hsz, hr⟩
   · obtain ⟨q, cs'', hb', hh', hsz', hr'⟩ := h.blk j B' hB''
     refine ⟨q, cs'', hb', ?_, hsz', hr'⟩
     rw [hoth _ (Array.getElem?_eq_some_iff.1 hh').1 ?_]
     · exact hh'
     · intro e
       exact hne (h.inj j i q p B' B hB'' hB hb' hb e)
 · obtain ⟨h1, h2⟩ := h.lst q r hq hr
   refine ⟨h1.mono fun hf => hoth _ (h1.lt hf) fun e => h2 hf i B p hB hb e.symm, fun hf j B' s hB' hj => ?_⟩
   obtain ⟨B'', hB''⟩ := hget j B' hB'
   exact h2 hf j B'' s hB'' hj
theorem ofListA {α : Type} {i : Nat} {x : α} {t : Nat} {s : α} (h : (Tr.ofList fuelT [(i, x)]).get t = some s) : t = i ∧ s = x := by
 rcases Tr.get_set_some _ _ _ _ _ _ h with ⟨rfl, rfl⟩ | ⟨_, h⟩
 · exact ⟨rfl, rfl⟩
 · cases h
theorem WR.own {ρ ρ' : Nat → Int} {w0 : Base} {μ : Mu} {nb : Nat} {bs : Tr Blk} {w : World} (h : WR ρ w0 μ nb bs w) {i : Nat} {p : Nat × Nat} {B : Blk} {ks : List Nat} {x y : X}
  (hB : bs.get i = some B) (hb : μ i = some p) (hc : B.cells = [.many ks x]) (hxy : y.ev ρ' = x.ev ρ) :
  WR ρ' ⟨w, fun k => k < w.heap.size ∧ k ≠ p.1, fun _ h => h.1⟩ (fun j => if j = 0 then some p else Option.none) 1 (Tr.ofList fuelT [(0, ⟨[.many ks y], B.ty⟩)]) w := by
 have hone : ∀ {j : Nat} {B' : Blk}, (Tr.ofList fuelT [(0, (⟨[.many ks y], B.ty⟩ : Blk))]).get j = some B' → j = 0 ∧ B' = ⟨[.many ks y], B.ty⟩ := ofListA
 obtain ⟨p', cs, hp', hh, hsz, hbg⟩ := h.blk i B hB
 have e : p' = p := by rw [hp'] at hb; exact Option.some.inj hb
 subst e
 refine ⟨⟨rfl, rfl, rfl, Nat.le_refl _, fun _ _ => rfl⟩, ?_, ?_, ?_, ?_, ?_, ?_⟩
 · intro j k q r Bj Bk hj hk _ _ _
   rw [(hone hj).1, (hone hk).1]
 · intro j hj hj2
   exact if_neg (show ¬ j = 0 by omega)
 · intro j B' q hj hq hk
   obtain ⟨rfl, rfl⟩ := hone hj
   rw [if_pos rfl] at hq
   cases hq
   exact hk.2 rfl
 · intro j B' hj
   obtain ⟨rfl, rfl⟩ := hone hj
   refine ⟨p', cs, if_pos rfl, hh, hsz, ?_⟩
   rw [hc] at hbg
   rcases hbg with ⟨vs, rest, _, hrel⟩ | ⟨ks2, L, els, e1, e2, e3⟩
   · cases vs with
     | nil => exact hrel.elim
     | cons v vs => exact hrel.1.elim
   · simp only [List.cons.injEq, SC.many.injEq, and_true] at e1
     obtain ⟨rfl, rfl⟩ := e1
     exact .inr ⟨ks, y, els, rfl, by rw [hxy]; exact e2, e3⟩
 · intro q r hq hr
   rw [if_neg (by unfold LB at hq; omega)] at hr
   cases hr
 · intro q hq
   exact if_neg (show ¬ LB + q = 0 by unfold LB; omega)
theorem callOK_mono {f : FuncId} {args : Array Value} {w : World} {R R' : Value → World → Prop} (h : CallOK P f args w R) (hr : ∀ v w', R v w' → R' v w') : CallOK P f args w R' := by
 unfold CallOK at *
 generalize (callFunc f args).run P w = r at *
 split at h
 · exact hr _ _ h
 · refine h.mono ?_
   rintro e w2 ⟨v, rfl, hv⟩
   exact ⟨v, rfl, hr _ _ hv⟩
 · exact h.elim
theorem kind3 {k : IntKind} (h : Nat.beq (kindNo k) 3 = true) : k = .i64 := kindNo_inj (k' := .i64) h
theorem many_at {μ : Mu} {ks : List Nat} {L : X} {cs : Array Value} (h : Begins ρ μ [.many ks L] cs) : ∃ els, L.ev ρ = encE els ∧ ManyAt ks els cs := by
 rcases h with ⟨vs, rest, _, hrel⟩ | ⟨ks2, L2, els, e1, e2, e3⟩
 · cases vs with
   | nil => exact hrel.elim
   | cons v vs => exact hrel.1.elim
 · simp only [List.cons.injEq, SC.many.injEq, and_true] at e1
   obtain ⟨rfl, rfl⟩ := e1
   exact ⟨els, e2, e3⟩
theorem max_ev {c z : Int} (h : z = opF 40 [0, c]) (hc : 0 ≤ c) : z = c := by
 have h : z = if (0 : Int) < c then c else 0 := h
 rw [h]
 split <;> omega
theorem copyG_ok {f : Nat} {ks : List Nat} {e : Nat} (hm : MakeOK P f ks e) : MFnOK P f (copyG ks e) := by
 intro T st args T1 m h ρ hs
 unfold copyG at h
 split at h
 case h_2 => cases h
 rename_i q ks' L
 split at h
 case h_2 => cases h
 rename_i hcond
 cases h
 simp only [Bool.and_eq_true, Bool.not_eq_true'] at hcond
 obtain ⟨⟨c1, c2⟩, c3, c4⟩ := hcond
 have c1 := natsBeq_eq c1
 subst c1
 have c3 := Nat.le_of_ble_eq_true c3
 refine ⟨hs, fun w0 μ vs w hf hwr hvs => ?_⟩
 obtain ⟨v0, hvl, r0⟩ : ∃ v0, vs = #[v0] ∧ (SC.ls q ks L).rel ρ μ v0 := by
  obtain ⟨l⟩ := vs
  match l, hvs with
  | [a], hvs => exact ⟨a, rfl, hvs.1⟩
 subst hvl
 obtain ⟨p, off, els, hp, he, hL, hd⟩ := r0
 have hlen : els.length ≤ maxLen := by rcases hd with ⟨h0, _⟩ | ⟨c, _, h1, h2⟩ <;> omega
 have hsh := shortL_spec hs hf c2 hL hlen
 obtain ⟨hlst, _⟩ := hwr.lst (LB + q) p (Nat.le_add_right _ _) hp
 have hpp : p = (p.1, encP off ks els) := by rw [← he]
 rw [hpp] at hlst
 have hlb : st.nb < LB := by
  have : ¬ maxReg ≤ st.nb := fun hle => by rw [Nat.ble_eq_true_of_le hle] at c4; cases c4
  unfold maxReg at this
  unfold LB; omega
 refine callOK_mono (hm w p.1 off els v0 hlst hd hsh) ?_
 rintro x w' ⟨b', cs, k1, k2, k3, k4, k5, k6⟩
 obtain ⟨μ', s1, s2, s3⟩ := adoptWR hwr k6 hlb (B := ⟨[.many ks L], e⟩) k5 k2 (.inr ⟨ks, L, els, rfl, hL, k4⟩)
 have hdv : cs.size / ks.length = els.length := by rw [k3]; exact Nat.mul_div_cancel _ (by omega)
 exact ⟨μ', s1, s3, (b', cs.size), els, s2, hL, by rw [k1]; simp only [hdv], by simp only [hdv]; exact Nat.le_refl _, by simp only [hdv]; exact hlen, by omega⟩
theorem markS_ok (hΓ : Γ.ok P) (hsum : ∀ f s, Γ.summ f = some s → SummOK P f s) {hn : Nat → Option Hint} {f : Nat} {F : Func} (hF : P.funcs[f]? = some F) (hname : (F.name == "runtime.NumGoroutine") = false)
  {ks : List Nat} {e idM idH : Nat} (hrun : markRun Γ hn F ks e idM = true) (law : MarkLaw idM idH) : MFnOK P f (markS idM ks e) := by
 intro T st args T1 m h ρ hs
 unfold markS at h
 split at h
 case h_2 => cases h
 rename_i b ks' L k
 split at h
 case h_2 => cases h
 rename_i B hB
 split at h
 case h_2 => cases h
 rename_i hcond
 split at h
 case h_2 => cases h
 rename_i T2 M hM
 split at h
 case h_2 => cases h
 rename_i T3 c hc
 split at h
 case h_2 => cases h
 rename_i T4 z hz
 cases h
 simp only [Bool.and_eq_true] at hcond
 obtain ⟨⟨c1, c2⟩, c3, c4⟩ := hcond
 have c1 := natsBeq_eq c1
 subst c1
 have c2 := kind3 c2
 subst c2
 have c3 := Nat.eq_of_beq_eq_true c3
 have c4 := cellsBeq_eq c4
 obtain ⟨s3, vz⟩ := mk_spec hz hs
 obtain ⟨s2, vc⟩ := mk_spec hc s3
 obtain ⟨s0, vM⟩ := mk_spec hM s2
 have vz : z.ev ρ = opF 40 [0, c.ev ρ] := vz
 have vc : c.ev ρ = opF 70 [(idM : Int), 0, 1, 0, L.ev ρ, L.ev ρ] := vc
 have vM : M.ev ρ = opF 70 [(idM : Int), 2, 1, 0, L.ev ρ, L.ev ρ] := vM
 refine ⟨s0, fun w0 μ vs w hf hwr hvs => ?_⟩
 obtain ⟨v0, v1, hvl, r0, r1⟩ : ∃ v0 v1, vs.toList = [v0, v1] ∧ (SC.gl b ks L).rel ρ μ v0 ∧ (SC.int .i64 (.lit 1)).rel ρ μ v1 := by
  generalize hl : vs.toList = l at hvs
  match l, hvs with
  | [a, b], hvs => exact ⟨a, b, rfl, hvs.1, hvs.2.1⟩
 obtain ⟨p, els, hp, hL, hv0, hle, hcm, hsm⟩ := r0
 obtain ⟨p', cs, hp', hh, hcsz, hbg⟩ := hwr.blk b B hB
 have ep : p' = p := by rw [hp'] at hp; exact Option.some.inj hp
 subst ep
 obtain ⟨mm, cc, hm1, hm2, hm3, hm4, _, _⟩ := law els hsm
 -- the run
 unfold markRun at hrun
 split at hrun
 case h_2 => cases hrun
 rename_i TR ex sR hr
 split at hrun
 case h_2 => cases hrun
 rename_i k2 a B2 hres hB2
 split at hrun
 case h_2 => cases hrun
 rename_i ks2 m2 hcells
 split at hrun
 case h_2 => cases hrun
 rename_i da dm hda hdm
 simp only [Bool.and_eq_true] at hrun
 obtain ⟨⟨g1, g2, g3, g4, g5⟩, g6, g7⟩ := hrun
 have g3 := kind3 g3
 subst g3
 have g4 := natsBeq_eq g4
 subst g4
 have g5 := Nat.eq_of_beq_eq_true g5
 have g6 := D.beq_eq g6
 have g7 := D.beq_eq g7
 unfold runK at hr
 split at hr
 case h_2 => cases hr
 rename_i cd hb
 obtain ⟨ρ', hin, hs'⟩ := exists_rho g2 (fun r => if r = 0 then L.ev ρ else 1)
 have i0 : ρ' 0 = L.ev ρ := by rw [hin 0 (by omega), if_pos rfl]
 have i1 : ρ' 1 = 1 := by rw [hin 1 (by omega), if_neg (by omega)]
 have va : ρ' a = opF 70 [(idM : Int), 0, 1, 0, L.ev ρ, L.ev ρ] := by
  rw [hs' a da hda, g6]
  show opF 70 [(idM : Int), 0, ρ' 1, 0, ρ' 0, ρ' 0] = _
  rw [i0, i1]
 have vm : ρ' m2 = opF 70 [(idM : Int), 2, 1, 0, L.ev ρ, L.ev ρ] := by
  rw [hs' m2 dm hdm, g7]
  show opF 70 [(idM : Int), 2, ρ' 1, 0, ρ' 0, ρ' 0] = _
  rw [i0, i1]
 obtain ⟨_, hwp⟩ := execX_sound hΓ hsum (fun _ _ h => by cases h) 400 ρ' _ _ _ _ _ hr hs'
 have hrel : svsRel ρ' (fun j => if j = 0 then some p' else none) (markPat ks) vs.toList := by
  rw [hvl]
  refine ⟨⟨p', els, if_pos rfl, by show ρ' 0 = _; rw [i0]; exact hL, hv0, hle, hcm, hsm⟩, ?_, trivial⟩
  have r1 : v1 = .int .i64 1 := r1
  show v1 = .int .i64 (ρ' 1)
  rw [r1, i1]
 have hfr := frame_enter hrel F.ntmps
 have hown := hwr.own (ρ' := ρ') (y := .reg 0) hB hp' c4 (by show ρ' 0 = _; exact i0)
 rw [c3] at hown
 refine callOK_of hΓ hF hname hb (calls_of_wp hF hb (hwp _ _ _ w _ ⟨rfl, hfr, hown, (fun r b h => by cases h)⟩ ?_))
 intro μ' a' w' hp2 hw'
 obtain ⟨x, hx, hxr⟩ := resultsS_sound hΓ hres hw'
 have hxr : x = .int .i64 (ρ' a) := hxr
 obtain ⟨q, cs2, hq, hh2, hsz2, hbg2⟩ := hw'.wr.blk 0 B2 hB2
 have eq : q = p' := by
  have := hp2 0 p' (if_pos rfl)
  rw [hq] at this
  exact Option.some.inj this
 subst eq
 rw [hcells] at hbg2
 obtain ⟨els2, f1, f2⟩ := many_at hbg2
 have hturn : WR ρ w0 μ st.nb (st.bs.set fuelT b ⟨[.many ks M], B.ty⟩) w' := by
  have kp := hw'.wr.kept
  refine hwr.turn hB hp' kp.os kp.tape kp.output kp.size (fun k h1 h2 => kp.block k ⟨h1, h2⟩) (by rw [c3, ← g5]; exact hh2) hsz2 (.inr ⟨ks, M, els2, rfl, ?_, f2⟩)
  rw [vM, ← vm]
  exact f1
 rw [c3] at hturn
 have hval : (SV.c (.int .i64 z)).rel ρ μ x := by
  show x = .int .i64 (z.ev ρ)
  rw [hxr, va, max_ev vz (by rw [vc, hL, hm4]; exact hm2), vc]
 have fin : bodyPost P F (fun en w2 => ∃ v, en = .returned v ∧ (∃ μ', Sub μ μ' ∧ WR ρ w0 μ' st.nb (st.bs.set fuelT b ⟨[.many ks M], e⟩) w2 ∧ (SV.c (.int .i64 z)).rel ρ μ' v)) .ret a' w' :=
  ⟨hw'.defers, x, hx, x, rfl, μ, Sub.refl _, hturn, hval⟩
 cases ex with
 | leave id => cases g1
 | normal => exact fin
 | ret => exact fin
theorem dsGet_mem {r : Nat} {d : D} : ∀ {l : List (Nat × D)}, dsGet r l = some d → (r, d) ∈ l
 | [], h => by cases h
 | (q, e) :: l, h => by
  unfold dsGet at h
  split at h
  · rename_i hq
    cases h
    rw [Nat.eq_of_beq_eq_true hq]
    exact List.mem_cons_self
  · exact List.mem_cons_of_mem _ (dsGet_mem h)
theorem heldS_ok (hΓ : Γ.ok P) (hsum : ∀ f s, Γ.summ f = some s → SummOK P f s) {hn : Nat → Option Hint} {f : Nat} {F : Func} (hF : P.funcs[f]? = some F) (hname : (F.name == "runtime.NumGoroutine") = false)
  {ks : List Nat} {idM idH : Nat} {S : Sm} (hrun : smRunL Γ hn F 2 [.c (.ls 0 ks (.reg 0)), .c (.int .i64 (.reg 1))] S = true) (hsh : heldShape S idH = true) (law : MarkLaw idM idH) : SummOK P f (heldS idM ks) := by
 intro T st args T1 vt h ρ hs
 unfold heldS at h
 split at h
 case h_2 => cases h
 rename_i b ks' L k
 split at h
 case h_2 => cases h
 rename_i B hB
 split at h
 case h_2 => cases h
 rename_i ks2 r hcells
 split at h
 case h_2 => cases h
 rename_i d hd
 split at h
 case h_2 => cases h
 rename_i hcond
 split at h
 case h_2 => cases h
 rename_i T3 c hc
 split at h
 case h_2 => cases h
 rename_i T4 z hz
 cases h
 simp only [Bool.and_eq_true] at hcond
 obtain ⟨⟨c1, c2⟩, c3, c4⟩ := hcond
 have c1 := natsBeq_eq c1
 have c2 := natsBeq_eq c2
 subst c1 c2
 have c3 := kind3 c3
 subst c3
 obtain ⟨s3, vz⟩ := mk_spec hz hs
 obtain ⟨s0, vc⟩ := mk_spec hc s3
 have vz : z.ev ρ = opF 40 [0, c.ev ρ] := vz
 have vc : c.ev ρ = opF 70 [(idM : Int), 0, 1, 0, L.ev ρ, L.ev ρ] := vc
 have vr : ρ r = opF 70 [(idM : Int), 2, 1, 0, L.ev ρ, L.ev ρ] := by rw [s0 r d hd, D.beq_eq c4]; rfl
 refine ⟨s0, fun w0 μ nb bs vs w hf hbs hwr hvs => ?_⟩
 obtain ⟨v0, v1, hvl, r0, r1⟩ : ∃ v0 v1, vs.toList = [v0, v1] ∧ (SC.gl b ks L).rel ρ μ v0 ∧ (SC.int .i64 (.lit 1)).rel ρ μ v1 := by
  generalize hl : vs.toList = l at hvs
  match l, hvs with
  | [a, b], hvs => exact ⟨a, b, rfl, hvs.1, hvs.2.1⟩
 obtain ⟨p, els, hp, hL, hv0, hle, hcm, hsm⟩ := r0
 obtain ⟨p', cs, hp', hh, hcsz, hbg⟩ := hwr.blk b B (hbs _ _ hB)
 have ep : p' = p := by rw [hp'] at hp; exact Option.some.inj hp
 subst ep
 rw [hcells] at hbg
 obtain ⟨m2, hm0, hmany⟩ := many_at hbg
 obtain ⟨mm, cc, hm1, hm2, hm3, hm4, hm5, hm6⟩ := law els hsm
 have em : m2 = mm := by
  have : ρ r = encE m2 := hm0
  rw [vr, hL, hm3] at this
  exact (encE_inj this).symm
 subst em
 -- the run
 unfold smRunL at hrun
 split at hrun
 case h_2 => cases hrun
 rename_i TR tR hr
 split at hrun
 case h_2 => cases hrun
 rename_i hg hds hlow
 split at hrun
 case h_2 => cases hrun
 rename_i vt0 hvt
 have hvte := vtBeq_eq hrun
 subst hvte
 unfold runL at hr
 split at hr
 case h_2 => cases hr
 rename_i cd hb
 obtain ⟨ρ', hin, hs'⟩ := exists_rho hg (fun r => if r = 0 then encE m2 else 1)
 have i0 : ρ' 0 = encE m2 := by rw [hin 0 (by omega), if_pos rfl]
 have i1 : ρ' 1 = 1 := by rw [hin 1 (by omega), if_neg (by omega)]
 obtain ⟨_, hwp⟩ := execX_sound hΓ hsum (fun _ _ h => by cases h) 400 ρ' _ _ _ _ _ hr hs'
 have hlst : LstAt w.heap (p'.1, encP 0 ks m2) := ⟨0, ks, m2, rfl, fun _ => ⟨cs, B.ty, (0, 0), hh, fun i c hi hc => by rw [Nat.zero_add]; exact hmany i c hi hc⟩⟩
 have hrel : svsRel ρ' (muP [(p'.1, encP 0 ks m2)]) [.c (.ls 0 ks (.reg 0)), .c (.int .i64 (.reg 1))] vs.toList := by
  rw [hvl]
  refine ⟨⟨(p'.1, encP 0 ks m2), 0, m2, ?_, rfl, i0, .inr ⟨p'.2 / ks.length, ?_, by rw [hm1]; exact hle, hcm⟩⟩, ?_, trivial⟩
  · unfold muP; rw [if_pos (by omega)]; simp
  · rw [hv0, hm1]
  · have r1 : v1 = .int .i64 1 := r1
    show v1 = .int .i64 (ρ' 1)
    rw [r1, i1]
 have hfr := frame_enter hrel F.ntmps
 have hpl : ∀ q ∈ [(p'.1, encP 0 ks m2)], LstAt w.heap q := by
  intro q hq
  cases hq with
  | head => exact hlst
  | tail _ hq => cases hq
 refine callOK_of hΓ hF hname hb (calls_of_wp hF hb (hwp (Base.all w) (muP [(p'.1, encP 0 ks m2)]) _ w _ ⟨rfl, hfr, WR.places hpl (by simp), (fun r b h => by cases h)⟩ ?_))
 refine vtree_spec hvt _ fun e s v hv hpick => ?_
 intro μ' a' w' hp2 hw'
 obtain ⟨he', hv', hvn⟩ := leafRes_spec hv
 obtain ⟨y, hy, hyr⟩ := resultsS_sound hΓ hv' hw'
 have hyr' := settle_rel hs' hw'.fa (SV.rel_num (μ' := μ) hvn hyr)
 rw [← hpick] at hyr'
 have hy2 : y = .int .i64 cc := by
  have hmem : ∀ r d, (r, d) ∈ S.ds → ρ' r = d.ev ρ' := fun r d hd => hs' r d (dsOK_spec hds r d hd)
  unfold heldShape at hsh
  split at hsh
  case h_2 => cases hsh
  rename_i q u kk a hSv
  split at hsh
  case h_2 => cases hsh
  rename_i dq da hdq hda
  split at hsh
  case h_2 => cases hsh
  rename_i cr n hdqa
  split at hsh
  case h_2 => cases hsh
  rename_i dc dn hdc hdn
  simp only [Bool.and_eq_true] at hsh
  obtain ⟨⟨a1, a2⟩, ⟨a3, a4⟩, a5⟩ := hsh
  have a1 := kind3 a1
  subst a1
  have e1 : ρ' q = b2i (decide (ρ' cr < ρ' n)) := by rw [hmem q dq (dsGet_mem hdq), D.beq_eq a2]; rfl
  have e2 : ρ' a = opF 70 [(idH : Int), 0, 1, 0, encE m2] := by
   rw [hmem a da (dsGet_mem hda), D.beq_eq a3]
   show opF 70 [(idH : Int), 0, ρ' 1, 0, ρ' 0] = _
   rw [i0, i1]
  have e3 : ρ' cr = opF 70 [(idH : Int), 1, 1, 0, encE m2] := by
   rw [hmem cr dc (dsGet_mem hdc), D.beq_eq a4]
   show opF 70 [(idH : Int), 1, ρ' 1, 0, ρ' 0] = _
   rw [i0, i1]
  have e4 : ρ' n = (els.length : Nat) := by
   rw [hmem n dn (dsGet_mem hdn), D.beq_eq a5]
   show ((min (decE (ρ' 0)).length 9223372036854775807 : Nat) : Int) = _
   rw [i0, decE_enc, hm1, Nat.min_eq_left (by omega)]
  rw [hSv] at hyr'
  unfold VT.pick at hyr'
  rw [if_neg (by rw [e1, e3, hm6, e4, decide_eq_false (by omega)]; decide)] at hyr'
  have hyr' : y = .int .i64 (ρ' a) := hyr'
  rw [hyr', e2, hm5]
 have hx2 : (SV.c (.int .i64 z)).rel ρ μ y := by
  show y = .int .i64 (z.ev ρ)
  rw [hy2, max_ev vz (by rw [vc, hL, hm4]; exact hm2), vc, hL, hm4]
 have fin' : bodyPost P F (fun e w2 => ∃ v, e = .returned v ∧ (SV.c (.int .i64 z)).rel ρ μ v ∧ WR ρ w0 μ nb bs w2) .ret a' w' :=
  ⟨hw'.defers, y, hy, y, rfl, hx2, hwr.after hw'.wr.kept.below⟩
 rcases he' with rfl | rfl <;> exact fin'
end
end Go.Sx

namespace Go.Sx
noncomputable section
/-! ### The programs -/
def markPR : Lit := ⟨3, [⟨62, [.reg 3]⟩, ⟨15, [.reg 1, .reg 4]⟩, ⟨31, [.lit 3, .reg 0, .lit 1]⟩, ⟨31, [.lit 3, .reg 6, .lit 1]⟩, ⟨31, [.lit 3, .reg 7, .lit 1]⟩, ⟨31, [.lit 3, .reg 8, .lit 1]⟩, ⟨31, [.lit 3, .reg 1, .lit 1]⟩,
 ⟨74, [.reg 2, .reg 1, .lit 0, .reg 0]⟩, ⟨34, [.lit 1, .reg 6]⟩, ⟨74, [.reg 11, .reg 1, .lit 1, .reg 12]⟩, ⟨34, [.lit 1, .reg 7]⟩, ⟨74, [.reg 13, .reg 1, .lit 2, .reg 14]⟩, ⟨34, [.lit 1, .reg 8]⟩, ⟨74, [.reg 15, .reg 1, .lit 3, .reg 16]⟩],
 .node 5 (.next [.reg 9, .reg 10, .reg 17]) .stop⟩
def heldPR : Lit := ⟨2, [⟨62, [.reg 2]⟩, ⟨15, [.reg 1, .reg 3]⟩, ⟨63, [.reg 2, .reg 1, .lit 0]⟩, ⟨14, [.reg 0, .reg 5]⟩, ⟨63, [.reg 2, .reg 1, .lit 1]⟩, ⟨31, [.lit 3, .reg 0, .lit 1]⟩, ⟨34, [.lit 1, .reg 8]⟩, ⟨14, [.reg 7, .reg 9]⟩,
 ⟨63, [.reg 2, .reg 1, .lit 2]⟩, ⟨31, [.lit 3, .reg 8, .lit 1]⟩, ⟨34, [.lit 1, .reg 12]⟩, ⟨14, [.reg 11, .reg 13]⟩, ⟨63, [.reg 2, .reg 1, .lit 3]⟩, ⟨31, [.lit 3, .reg 12, .lit 1]⟩, ⟨34, [.lit 1, .reg 16]⟩, ⟨14, [.reg 15, .reg 17]⟩,
 ⟨31, [.lit 3, .reg 16, .lit 1]⟩, ⟨31, [.lit 3, .reg 1, .lit 1]⟩], .node 4 (.node 6 (.node 10 (.node 14 (.node 18 (.next [.reg 19, .reg 20]) .stop) .stop) .stop) .stop) .stop⟩
end
/-! ### The law -/
def kAt (C i : Nat) : Int := 1 + ((C * i : Nat) : Int)
def upds (upd : List (List Int) → Nat → Int → List (List Int)) (C : Nat) (l : List (List Int)) (i : Nat) : Nat → List (List Int)
 | 0 => l
 | d + 1 => upds upd C (upd l i (kAt C i)) (i + 1) d
theorem upds_len {upd : List (List Int) → Nat → Int → List (List Int)} {C : Nat} (hul : ∀ l i k, (upd l i k).length = l.length) : ∀ (d : Nat) (l : List (List Int)) (i : Nat), (upds upd C l i d).length = l.length
 | 0, l, i => rfl
 | d + 1, l, i => by
  show (upds upd C (upd l i _) (i + 1) d).length = _
  rw [upds_len hul d, hul]
theorem upds_cell {upd : List (List Int) → Nat → Int → List (List Int)} {C : Nat} {gc : Int → Nat → Int} (hul : ∀ l i k, (upd l i k).length = l.length)
  (huc : ∀ l i k j c, j < l.length → cellE (upd l i k) (j : Nat) c = if j = i ∧ c < C then gc k c else cellE l (j : Nat) c) :
  ∀ (d : Nat) (l : List (List Int)) (i j c : Nat), j < l.length → c < C → cellE (upds upd C l i d) (j : Nat) c = if i ≤ j ∧ j < i + d then gc (kAt C j) c else cellE l (j : Nat) c
 | 0, l, i, j, c, _, _ => by
  rw [if_neg (by omega)]; rfl
 | d + 1, l, i, j, c, hj, hc => by
  show cellE (upds upd C (upd l i _) (i + 1) d) (j : Nat) c = _
  rw [upds_cell hul huc d _ _ j c (by rw [hul]; exact hj) hc, huc _ _ _ _ _ hj]
  by_cases h1 : i + 1 ≤ j ∧ j < i + 1 + d
  · rw [if_pos h1, if_pos (by omega)]
  · rw [if_neg h1]
    by_cases h2 : j = i
    · subst h2
      rw [if_pos ⟨rfl, hc⟩, if_pos (by omega)]
    · rw [if_neg (fun h => h2 h.1), if_neg (by omega)]
theorem marks_law {stepM : List Int → Option (List Int)} {stepH : Int → List Int → Option (List Int)} {C n : Nat} {gc : Int → Nat → Int} {upd : List (List Int) → Nat → Int → List (List Int)} {els : List (List Int)} (hn : els.length = n)
  (hM : ∀ (i : Nat) (l : List (List Int)), l.length = n → i < n → stepM [kAt C i, ((i : Nat) : Int), encE l] = some [kAt C (i + 1), ((i + 1 : Nat) : Int), encE (upd l i (kAt C i))])
  (hMs : ∀ (l : List (List Int)) (k : Int), l.length = n → stepM [k, ((n : Nat) : Int), encE l] = none)
  (hul : ∀ l i k, (upd l i k).length = l.length)
  (huc : ∀ l i k j c, j < l.length → cellE (upd l i k) (j : Nat) c = if j = i ∧ c < C then gc k c else cellE l (j : Nat) c)
  (hH : ∀ (i : Nat) (m : List (List Int)), m.length = n → i < n → (∀ c, c < C → cellE m (i : Nat) c = gc (kAt C i) c) → stepH (encE m) [kAt C i, ((i : Nat) : Int)] = some [kAt C (i + 1), ((i + 1 : Nat) : Int)])
  (hHs : ∀ (k : Int) (m : List (List Int)), m.length = n → stepH (encE m) [k, ((n : Nat) : Int)] = none) :
  ∃ m, m.length = n ∧ fin stepM [1, 0, encE els] = [kAt C n, ((n : Nat) : Int), encE m] ∧ fin (stepH (encE m)) [1, 0] = [kAt C n, ((n : Nat) : Int)] := by
 have goM : ∀ (d i : Nat) (l : List (List Int)), l.length = n → i + d = n → itn stepM d [kAt C i, ((i : Nat) : Int), encE l] = some [kAt C n, ((n : Nat) : Int), encE (upds upd C l i d)] := by
  intro d
  induction d with
  | zero =>
   intro i l _ h
   have : i = n := by omega
   subst this
   rfl
  | succ d ih =>
   intro i l hl h
   unfold itn
   rw [hM i l hl (by omega)]
   exact ih (i + 1) _ (by rw [hul]; exact hl) (by omega)
 have hlen : (upds upd C els 0 n).length = n := by rw [upds_len hul]; exact hn
 have goH : ∀ (d i : Nat), i + d = n → itn (stepH (encE (upds upd C els 0 n))) d [kAt C i, ((i : Nat) : Int)] = some [kAt C n, ((n : Nat) : Int)] := by
  intro d
  induction d with
  | zero =>
   intro i h
   have : i = n := by omega
   subst this
   rfl
  | succ d ih =>
   intro i h
   unfold itn
   rw [hH i _ hlen (by omega) (fun c hc => by
    rw [upds_cell hul huc n els 0 i c (by omega) hc, if_pos (by omega)])]
   exact ih (i + 1) (by omega)
 have g1 := goM n 0 els hn (by omega)
 have g2 := goH n 0 (by omega)
 refine ⟨upds upd C els 0 n, hlen, ?_, ?_⟩
 · have e : ([kAt C 0, ((0 : Nat) : Int), encE els] : List Int) = [1, 0, encE els] := by simp [kAt]
   rw [e] at g1
   exact fin_of g1 (hMs _ _ hlen)
 · have e : ([kAt C 0, ((0 : Nat) : Int)] : List Int) = [1, 0] := by simp [kAt]
   rw [e] at g2
   exact fin_of g2 (hHs _ _ hlen)
/-! ### Numbers -/
theorem len62b (l : List (List Int)) (h : l.length ≤ 1099511627776) : opF 62 [encE l] = (l.length : Nat) := by
 show ((min (decE (encE l)).length 9223372036854775807 : Nat) : Int) = _
 rw [decE_enc, Nat.min_eq_left (by omega)]
theorem prog_at {id : Nat} {p : Lit} (hp : progs[id]? = some p) {j : Nat} {l : List Int} {v s : List Int} (hl : l.take p.k = v) (hd : l.drop p.k = s) {r : List Int} (hf : fin (p.step (opP opB (progs.take id).reverse) s) v = r) :
  opF 70 ((id : Int) :: (j : Nat) :: l) = r.getD j 0 := by
 rw [opF_prog hp]
 show ((fin (p.step _ (l.drop p.k)) (l.take p.k)).getD ((j : Int)).toNat 0) = _
 rw [hl, hd, hf, Int.toNat_natCast]
/-! ### Bytes -/
theorem b2i_same (x y : Int) : (b2i (x == y) = 1) ↔ x = y := by by_cases h : x = y <;> simp [h, b2i]
theorem op74 (l : List (List Int)) (i c : Nat) (x : Int) : opF 74 [encE l, (i : Nat), (c : Nat), x] = encE (setC l i c x) := by
 show encE (setC (decE (encE l)) ((i : Nat) : Int).toNat ((c : Nat) : Int).toNat _) = _
 rw [decE_enc, Int.toNat_natCast, Int.toNat_natCast]
theorem op63 (m : List (List Int)) (i c : Nat) : opF 63 [encE m, (i : Nat), (c : Nat)] = cellE m (i : Nat) c := by
 show cellE (decE (encE m)) (i : Nat) ((c : Nat) : Int).toNat = _
 rw [decE_enc, Int.toNat_natCast]
/-! ### Readings -/
def w64 (x : Int) : Int := IntKind.i64.wrap (x + 1)
theorem markR_step (ps : List Lit) (l k i x : Int) : markPR.step (opP opB ps) [l] [k, i, x] =
  if i < opF 62 [l] then some [w64 (w64 (w64 (w64 k))), w64 i, opF 74 [opF 74 [opF 74 [opF 74 [x, i, 0, k], i, 1, IntKind.i16.wrap (w64 k)], i, 2, IntKind.i16.wrap (w64 (w64 k))], i, 3, IntKind.i16.wrap (w64 (w64 (w64 k)))]] else none := by
 have e : markPR.step (opP opB ps) [l] [k, i, x] = if b2i (decide (i < opF 62 [l])) = 1 then
   some [w64 (w64 (w64 (w64 k))), w64 i, opF 74 [opF 74 [opF 74 [opF 74 [x, i, 0, k], i, 1, IntKind.i16.wrap (w64 k)], i, 2, IntKind.i16.wrap (w64 (w64 k))], i, 3, IntKind.i16.wrap (w64 (w64 (w64 k)))]] else none := by
  simp only [Lit.step, markPR, runDs, lev, List.map, List.cons_append, List.nil_append, List.getD_cons_zero, List.getD_cons_succ, LT.go]
  simp only [opP_base (opB := opB) (show (31 : Nat) ≠ 70 by decide), opP_base (opB := opB) (show (34 : Nat) ≠ 70 by decide), opP_base (opB := opB) (show (62 : Nat) ≠ 70 by decide), opP_base (opB := opB) (show (15 : Nat) ≠ 70 by decide), opP_base (opB := opB) (show (74 : Nat) ≠ 70 by decide)]
  rfl
 rw [e]
 simp only [b2i_dec]
theorem heldR_step (ps : List Lit) (l k i : Int) : heldPR.step (opP opB ps) [l] [k, i] =
  if i < opF 62 [l] then (if k = opF 63 [l, i, 0] then (if opF 63 [l, i, 1] = IntKind.i16.wrap (w64 k) then (if opF 63 [l, i, 2] = IntKind.i16.wrap (w64 (w64 k)) then (if opF 63 [l, i, 3] = IntKind.i16.wrap (w64 (w64 (w64 k))) then
   some [w64 (w64 (w64 (w64 k))), w64 i] else none) else none) else none) else none) else none := by
 have e : heldPR.step (opP opB ps) [l] [k, i] = if b2i (decide (i < opF 62 [l])) = 1 then (if b2i (k == opF 63 [l, i, 0]) = 1 then (if b2i (opF 63 [l, i, 1] == IntKind.i16.wrap (w64 k)) = 1 then
   (if b2i (opF 63 [l, i, 2] == IntKind.i16.wrap (w64 (w64 k))) = 1 then (if b2i (opF 63 [l, i, 3] == IntKind.i16.wrap (w64 (w64 (w64 k)))) = 1 then some [w64 (w64 (w64 (w64 k))), w64 i] else none) else none) else none) else none) else none := by
  simp only [Lit.step, heldPR, runDs, lev, List.map, List.cons_append, List.nil_append, List.getD_cons_zero, List.getD_cons_succ, LT.go]
  simp only [opP_base (opB := opB) (show (31 : Nat) ≠ 70 by decide), opP_base (opB := opB) (show (34 : Nat) ≠ 70 by decide), opP_base (opB := opB) (show (62 : Nat) ≠ 70 by decide), opP_base (opB := opB) (show (15 : Nat) ≠ 70 by decide), opP_base (opB := opB) (show (63 : Nat) ≠ 70 by decide), opP_base (opB := opB) (show (14 : Nat) ≠ 70 by decide)]
  rfl
 rw [e]
 simp only [b2i_dec, b2i_same]
def gcR (k : Int) (c : Nat) : Int := if c = 0 then k else if c = 1 then IntKind.i16.wrap (k + 1) else if c = 2 then IntKind.i16.wrap (k + 2) else IntKind.i16.wrap (k + 3)
def updR (l : List (List Int)) (i : Nat) (k : Int) : List (List Int) :=
 setC (setC (setC (setC l i 0 k) i 1 (IntKind.i16.wrap (k + 1))) i 2 (IntKind.i16.wrap (k + 2))) i 3 (IntKind.i16.wrap (k + 3))
theorem lawR {idM idH : Nat} (hM : progs[idM]? = some markPR) (hH : progs[idH]? = some heldPR) : MarkLaw idM idH := by
 intro els hlen
 have hk : ∀ i, i < els.length → w64 (kAt 4 i) = kAt 4 i + 1 ∧ w64 (kAt 4 i + 1) = kAt 4 i + 2 ∧ w64 (kAt 4 i + 2) = kAt 4 i + 3 ∧ w64 (kAt 4 i + 3) = kAt 4 (i + 1) ∧ w64 (i : Nat) = ((i + 1 : Nat) : Int) := by
  intro i hi
  unfold w64 kAt
  refine ⟨?_, ?_, ?_, ?_, ?_⟩ <;> rw [Go.IntWalk.i64_in _ (by omega)] <;> omega
 obtain ⟨m, h1, h2, h3⟩ := marks_law (stepM := markPR.step (opP opB (progs.take idM).reverse) [encE els]) (stepH := fun x => heldPR.step (opP opB (progs.take idH).reverse) [x]) (C := 4) (n := els.length) (gc := gcR)
  (upd := updR) rfl
  (fun i l hl hi => by
   obtain ⟨k1, k2, k3, k4, k5⟩ := hk i hi
   have e0 := op74 l i 0 (kAt 4 i)
   have e1 := op74 (setC l i 0 (kAt 4 i)) i 1 (IntKind.i16.wrap (kAt 4 i + 1))
   have e2 := op74 (setC (setC l i 0 (kAt 4 i)) i 1 (IntKind.i16.wrap (kAt 4 i + 1))) i 2 (IntKind.i16.wrap (kAt 4 i + 2))
   have e3 := op74 (setC (setC (setC l i 0 (kAt 4 i)) i 1 (IntKind.i16.wrap (kAt 4 i + 1))) i 2 (IntKind.i16.wrap (kAt 4 i + 2))) i 3 (IntKind.i16.wrap (kAt 4 i + 3))
   rw [markR_step, len62b els hlen, if_pos (by omega), k1, k2, k3, k4, k5]
   have e0 : opF 74 [encE l, (i : Nat), 0, kAt 4 i] = _ := e0
   have e1 : opF 74 [encE (setC l i 0 (kAt 4 i)), (i : Nat), 1, IntKind.i16.wrap (kAt 4 i + 1)] = _ := e1
   have e2 : opF 74 [encE (setC (setC l i 0 (kAt 4 i)) i 1 (IntKind.i16.wrap (kAt 4 i + 1))), (i : Nat), 2, IntKind.i16.wrap (kAt 4 i + 2)] = _ := e2
   have e3 : opF 74 [encE (setC (setC (setC l i 0 (kAt 4 i)) i 1 (IntKind.i16.wrap (kAt 4 i + 1))) i 2 (IntKind.i16.wrap (kAt 4 i + 2))), (i : Nat), 3, IntKind.i16.wrap (kAt 4 i + 3)] = _ := e3
   rw [e0, e1, e2, e3]
   rfl)
  (fun l k hl => by rw [markR_step, len62b els hlen, if_neg (by omega)])
  (fun l i k => by unfold updR; rw [setC_len, setC_len, setC_len, setC_len])
  (fun l i k j c hj => by
   unfold updR gcR
   rw [cellE_set (by rw [setC_len, setC_len, setC_len]; exact hj), cellE_set (by rw [setC_len, setC_len]; exact hj), cellE_set (by rw [setC_len]; exact hj), cellE_set hj]
   by_cases hji : j = i
   · subst hji
     by_cases c3 : c = 3
     · subst c3; simp
     · by_cases c2 : c = 2
       · subst c2; simp
       · by_cases c1 : c = 1
         · subst c1; simp
         · by_cases c0 : c = 0
           · subst c0; simp
           · have : ¬ c < 4 := by omega
             simp [c0, c1, c2, c3, this]
   · simp [hji])
  (fun i m hm hi hc => by
   obtain ⟨k1, k2, k3, k4, k5⟩ := hk i hi
   have e0 : opF 63 [encE m, (i : Nat), 0] = kAt 4 i := (op63 m i 0).trans (hc 0 (by omega))
   have e1 : opF 63 [encE m, (i : Nat), 1] = IntKind.i16.wrap (kAt 4 i + 1) := (op63 m i 1).trans (hc 1 (by omega))
   have e2 : opF 63 [encE m, (i : Nat), 2] = IntKind.i16.wrap (kAt 4 i + 2) := (op63 m i 2).trans (hc 2 (by omega))
   have e3 : opF 63 [encE m, (i : Nat), 3] = IntKind.i16.wrap (kAt 4 i + 3) := (op63 m i 3).trans (hc 3 (by omega))
   rw [heldR_step, len62b m (by omega), if_pos (by omega), k1, k2, k3, k4, k5, e0, e1, e2, e3, if_pos rfl, if_pos rfl, if_pos rfl, if_pos rfl])
  (fun k m hm => by rw [heldR_step, len62b m (by omega), if_neg (by omega)])
 refine ⟨m, kAt 4 els.length, h1, by unfold kAt; omega, ?_, ?_, ?_, ?_⟩
 · exact prog_at hM (j := 2) (l := [1, 0, encE els, encE els]) rfl rfl h2
 · exact prog_at hM (j := 0) (l := [1, 0, encE els, encE els]) rfl rfl h2
 · exact prog_at hH (j := 0) (l := [1, 0, encE m]) rfl rfl h3
 · exact prog_at hH (j := 1) (l := [1, 0, encE m]) rfl rfl h3
end Go.Sx

namespace Go.Sx
noncomputable section
open Go.RowKit
/-! ### The contract -/
def delS (idA g e : Nat) (ks : List Nat) : MFn := fun T st args =>
 match args with
 | [.w (.one (.gl b ks' L)), .w (.one (.fn2 g' c d))] =>
  match st.bs.get b with
  | some B =>
   match (natsBeq ks ks' && Nat.beq g g') && (Nat.beq B.ty e && cellsBeq B.cells [.many ks L]), ptrX T st [8, 8, 8, 8, 8, 8, 3, 3] (.w (.one c)) with
   | true, some (T1, [_, _, _, _, _, _, _, y]) =>
    match ptrX T1 st [3] (.w (.one d)) with
    | some (T2, [t]) =>
     match mk T2 70 [.lit idA, .lit 1, .lit 0, .lit 0, L, t, y] with
     | some (T3, F) => some (T3, .leaf st.nb (st.bs.set fuelT b ⟨[.many ks F], e⟩) (.c (.gl b ks F)))
     | none => none
    | _ => none
   | _, _ => none
  | none => none
 | _ => none
/-! ### The run -/
def delPat (ks : List Nat) (g : Nat) : List SV := [.c (.gl 0 ks (.reg 0)), .c (.fn2 g (.el 1 [8, 8, 8, 8, 8, 8, 3, 3] (.reg 10) (.lit 0) 0) (.el 2 [3] (.reg 11) (.lit 0) 0))]
def delDs : List (Nat × D) := [(10, ⟨66, [.reg 1, .reg 2, .reg 3, .reg 4, .reg 5, .reg 6, .reg 7, .reg 8]⟩), (11, ⟨66, [.reg 9]⟩)]
def runD (Γ : Ctx) (hn : Nat → Option Hint) (F : Func) (ks : List Nat) (e g : Nat) : Option (Tab × Tree) :=
 match F.body with
 | some c => execX Γ hn (fun _ => none) 400 c ⟨12, Tr.ofList fuelT delDs, .nil⟩ ⟨(delPat ks g).length + (F.ntmps - (delPat ks g).length), frameOf 0 (delPat ks g), 3, Tr.ofList fuelT [(0, ⟨[.many ks (.reg 0)], e⟩)], .nil⟩
 | none => none
def delSame (Γ : Ctx) (F : Func) (ks : List Nat) (e : Nat) (ex : Ex) (s : St) : Bool :=
 match resultsS Γ s F.results.toList, s.bs.get 0 with
 | some (.w (.one (.gl 0 ks1 (.reg 0)))), some B => isEnd ex && (natsBeq ks ks1 && (Nat.beq B.ty e && cellsBeq B.cells [.many ks (.reg 0)]))
 | _, _ => false
def delRun (Γ : Ctx) (hn : Nat → Option Hint) (F : Func) (ks : List Nat) (e g idX idD : Nat) : Bool :=
 match runD Γ hn F ks e g with
 | some (T, .node c1 (.node c2 (.leaf x1 s1) (.leaf x2 s2)) (.leaf x3 s3)) =>
  match resultsS Γ s2 F.results.toList, s2.bs.get 0, T.defs.get c1, T.defs.get c2 with
  | some (.w (.one (.gp 0 ks1 (.reg i)))), some B, some ⟨15, [.reg a, .reg n]⟩, some ⟨14, [.lit m1, .reg a']⟩ =>
   match B.cells, T.defs.get i with
   | [.many ks2 (.reg y)], some ⟨70, [_, _, .reg k, _, _, _, _, _]⟩ =>
    match T.defs.get y with
    | some ⟨78, [.reg z, .reg i']⟩ =>
     ((goodTab 10 T && dsOK ⟨12, Tr.ofList fuelT delDs, .nil⟩ delDs) && (delSame Γ F ks e x1 s1 && delSame Γ F ks e x3 s3) && ((isEnd x2 && Nat.beq B.ty e) && (natsBeq ks ks1 && natsBeq ks ks2))) &&
     ((Nat.beq a a' && Nat.beq i i') && (ibeq m1 (-1) && Nat.ble ks.length 4) &&
     dsOK T [(a, ⟨70, [.lit idX, .lit 0, .lit 0, .reg 0, .reg 9, .reg 8]⟩), (n, ⟨62, [.reg 0]⟩), (k, ⟨31, [.lit 3, .reg a, .lit 1]⟩),
      (i, ⟨70, [.lit idD, .lit 1, .reg k, .reg a, .reg 0, .reg 0, .reg 9, .reg 8]⟩), (z, ⟨70, [.lit idD, .lit 2, .reg k, .reg a, .reg 0, .reg 0, .reg 9, .reg 8]⟩)])
    | _ => false
   | _, _ => false
  | _, _, _, _ => false
 | _ => false
/-! ### The programs -/
def fltP : Lit := ⟨2, [⟨62, [.reg 2]⟩, ⟨15, [.reg 0, .reg 5]⟩, ⟨63, [.reg 2, .reg 0, .lit 0]⟩, ⟨31, [.lit 3, .reg 7, .reg 4]⟩, ⟨15, [.reg 3, .reg 8]⟩, ⟨31, [.lit 3, .reg 0, .lit 1]⟩, ⟨63, [.reg 2, .reg 0, .lit 1]⟩, ⟨63, [.reg 2, .reg 0, .lit 2]⟩,
 ⟨63, [.reg 2, .reg 0, .lit 3]⟩, ⟨66, [.reg 7, .reg 11, .reg 12, .reg 13]⟩, ⟨67, [.reg 1, .reg 14]⟩], .node 6 (.node 9 (.next [.reg 10, .reg 1]) (.next [.reg 10, .reg 15])) .stop⟩
def fstP : Lit := ⟨1, [⟨62, [.reg 1]⟩, ⟨15, [.reg 0, .reg 4]⟩, ⟨63, [.reg 1, .reg 0, .lit 0]⟩, ⟨31, [.lit 3, .reg 6, .reg 3]⟩, ⟨15, [.reg 2, .reg 7]⟩, ⟨31, [.lit 3, .reg 0, .lit 1]⟩], .node 5 (.node 8 .stop (.next [.reg 9])) .stop⟩
def mvP : Lit := ⟨3, [⟨62, [.reg 3]⟩, ⟨15, [.reg 0, .reg 6]⟩, ⟨63, [.reg 2, .reg 0, .lit 0]⟩, ⟨31, [.lit 3, .reg 8, .reg 5]⟩, ⟨15, [.reg 4, .reg 9]⟩, ⟨31, [.lit 3, .reg 0, .lit 1]⟩, ⟨31, [.lit 3, .reg 1, .lit 1]⟩, ⟨74, [.reg 2, .reg 1, .lit 0, .reg 8]⟩,
 ⟨63, [.reg 2, .reg 0, .lit 1]⟩, ⟨74, [.reg 13, .reg 1, .lit 1, .reg 14]⟩, ⟨63, [.reg 2, .reg 0, .lit 2]⟩, ⟨74, [.reg 15, .reg 1, .lit 2, .reg 16]⟩, ⟨63, [.reg 2, .reg 0, .lit 3]⟩, ⟨74, [.reg 17, .reg 1, .lit 3, .reg 18]⟩],
 .node 7 (.node 10 (.next [.reg 11, .reg 1, .reg 2]) (.next [.reg 11, .reg 12, .reg 19])) .stop⟩
end
/-! ### The plain law -/
theorem fst_step (ps : List Lit) (l t y i : Int) : fstP.step (opP opB ps) [l, t, y] [i] =
  if i < opF 62 [l] then (if t < IntKind.i64.wrap (opF 63 [l, i, 0] + y) then none else some [w64 i]) else none := by
 have e : fstP.step (opP opB ps) [l, t, y] [i] = if b2i (decide (i < opF 62 [l])) = 1 then (if b2i (decide (t < IntKind.i64.wrap (opF 63 [l, i, 0] + y))) = 1 then none else some [w64 i]) else none := by
  simp only [Lit.step, fstP, runDs, lev, List.map, List.cons_append, List.nil_append, List.getD_cons_zero, List.getD_cons_succ, LT.go]
  simp only [opP_base (opB := opB) (show (31 : Nat) ≠ 70 by decide), opP_base (opB := opB) (show (62 : Nat) ≠ 70 by decide), opP_base (opB := opB) (show (15 : Nat) ≠ 70 by decide), opP_base (opB := opB) (show (63 : Nat) ≠ 70 by decide)]
  rfl
 rw [e]
 simp only [b2i_dec]
theorem flt_step (ps : List Lit) (l t y i o : Int) : fltP.step (opP opB ps) [l, t, y] [i, o] =
  if i < opF 62 [l] then (if t < IntKind.i64.wrap (opF 63 [l, i, 0] + y) then some [w64 i, o] else some [w64 i, opF 67 [o, opF 66 [opF 63 [l, i, 0], opF 63 [l, i, 1], opF 63 [l, i, 2], opF 63 [l, i, 3]]]]) else none := by
 have e : fltP.step (opP opB ps) [l, t, y] [i, o] = if b2i (decide (i < opF 62 [l])) = 1 then (if b2i (decide (t < IntKind.i64.wrap (opF 63 [l, i, 0] + y))) = 1 then some [w64 i, o] else
   some [w64 i, opF 67 [o, opF 66 [opF 63 [l, i, 0], opF 63 [l, i, 1], opF 63 [l, i, 2], opF 63 [l, i, 3]]]]) else none := by
  simp only [Lit.step, fltP, runDs, lev, List.map, List.cons_append, List.nil_append, List.getD_cons_zero, List.getD_cons_succ, LT.go]
  simp only [opP_base (opB := opB) (show (31 : Nat) ≠ 70 by decide), opP_base (opB := opB) (show (62 : Nat) ≠ 70 by decide), opP_base (opB := opB) (show (15 : Nat) ≠ 70 by decide), opP_base (opB := opB) (show (63 : Nat) ≠ 70 by decide),
   opP_base (opB := opB) (show (66 : Nat) ≠ 70 by decide), opP_base (opB := opB) (show (67 : Nat) ≠ 70 by decide)]
  rfl
 rw [e]
 simp only [b2i_dec]
theorem mv_step (ps : List Lit) (l t y i o x : Int) : mvP.step (opP opB ps) [l, t, y] [i, o, x] =
  if i < opF 62 [l] then (if t < IntKind.i64.wrap (opF 63 [x, i, 0] + y) then some [w64 i, o, x] else some [w64 i, w64 o,
   opF 74 [opF 74 [opF 74 [opF 74 [x, o, 0, opF 63 [x, i, 0]], o, 1, opF 63 [x, i, 1]], o, 2, opF 63 [x, i, 2]], o, 3, opF 63 [x, i, 3]]]) else none := by
 have e : mvP.step (opP opB ps) [l, t, y] [i, o, x] = if b2i (decide (i < opF 62 [l])) = 1 then (if b2i (decide (t < IntKind.i64.wrap (opF 63 [x, i, 0] + y))) = 1 then some [w64 i, o, x] else some [w64 i, w64 o,
   opF 74 [opF 74 [opF 74 [opF 74 [x, o, 0, opF 63 [x, i, 0]], o, 1, opF 63 [x, i, 1]], o, 2, opF 63 [x, i, 2]], o, 3, opF 63 [x, i, 3]]]) else none := by
  simp only [Lit.step, mvP, runDs, lev, List.map, List.cons_append, List.nil_append, List.getD_cons_zero, List.getD_cons_succ, LT.go]
  simp only [opP_base (opB := opB) (show (31 : Nat) ≠ 70 by decide), opP_base (opB := opB) (show (62 : Nat) ≠ 70 by decide), opP_base (opB := opB) (show (15 : Nat) ≠ 70 by decide), opP_base (opB := opB) (show (63 : Nat) ≠ 70 by decide),
   opP_base (opB := opB) (show (74 : Nat) ≠ 70 by decide)]
  rfl
 rw [e]
 simp only [b2i_dec]
def rowE (els : List (List Int)) (i : Nat) : List Int := [cellE els (i : Nat) 0, cellE els (i : Nat) 1, cellE els (i : Nat) 2, cellE els (i : Nat) 3]
theorem rowE_get {els : List (List Int)} {i c : Nat} (hc : c < 4) : (rowE els i).getD c 0 = cellE els (i : Nat) c := by
 match c, hc with
 | 0, _ => rfl
 | 1, _ => rfl
 | 2, _ => rfl
 | 3, _ => rfl
def kept4 (gone : Nat → Bool) (els : List (List Int)) : Nat → List (List Int)
 | 0 => []
 | i + 1 => match gone i with
  | true => kept4 gone els i
  | false => kept4 gone els i ++ [rowE els i]
theorem kept4_len (gone : Nat → Bool) (els : List (List Int)) : ∀ i, (kept4 gone els i).length ≤ i
 | 0 => Nat.le_refl _
 | i + 1 => by
  have := kept4_len gone els i
  unfold kept4
  split
  · omega
  · simp only [List.length_append, List.length_cons, List.length_nil]; omega
theorem cellE_last {l : List (List Int)} {r : List Int} {j c : Nat} (h : l.length = j) : cellE (l ++ [r]) (j : Nat) c = r.getD c 0 := by
 unfold cellE
 rw [Int.toNat_natCast]
 have : (l ++ [r]).getD j [] = r := by
  rw [List.getD_eq_getElem?_getD, List.getElem?_append_right (by omega), h, Nat.sub_self]; rfl
 rw [this]
theorem kept4_all {gone : Nat → Bool} {els : List (List Int)} : ∀ {m : Nat}, (∀ j, j < m → gone j = false) → (kept4 gone els m).length = m ∧ ∀ j c, j < m → c < 4 → cellE (kept4 gone els m) (j : Nat) c = cellE els (j : Nat) c
 | 0, _ => ⟨rfl, fun j c h => by omega⟩
 | m + 1, h => by
  obtain ⟨h1, h2⟩ := kept4_all (els := els) (m := m) fun j hj => h j (by omega)
  unfold kept4
  rw [h m (by omega)]
  refine ⟨by simp [h1], fun j c hj hc => ?_⟩
  by_cases hjm : j < m
  · rw [← h2 j c hjm hc]
    unfold cellE
    rw [Int.toNat_natCast]
    simp only [List.getD_eq_getElem?_getD]
    rw [List.getElem?_append_left (by omega)]
  · have : j = m := by omega
    subst this
    exact (cellE_last h1).trans (rowE_get hc)
def DelLaw (idA idX idD : Nat) : Prop := ∀ (els : List (List Int)) (t y : Int), els.length ≤ 1099511627776 →
 ∃ (fs : List (List Int)) (m : Nat), opF 70 [(idA : Int), 1, 0, 0, encE els, t, y] = encE fs ∧ opF 70 [(idX : Int), 0, 0, encE els, t, y] = (m : Nat) ∧ m ≤ els.length ∧
  (m = els.length → fs.length = els.length ∧ ∀ j c, j < els.length → c < 4 → cellE fs (j : Nat) c = cellE els (j : Nat) c) ∧
  (m < els.length → ∃ (xs : List (List Int)) (o : Nat), opF 70 [(idD : Int), 2, ((m + 1 : Nat) : Int), (m : Nat), encE els, encE els, t, y] = encE xs ∧ opF 70 [(idD : Int), 1, ((m + 1 : Nat) : Int), (m : Nat), encE els, encE els, t, y] = (o : Nat) ∧
   xs.length = els.length ∧ o ≤ els.length ∧ fs.length = o ∧ ∀ j c, j < o → c < 4 → cellE fs (j : Nat) c = cellE xs (j : Nat) c)
theorem first_of (gone : Nat → Bool) : ∀ n : Nat, ∃ m, m ≤ n ∧ (∀ j, j < m → gone j = false) ∧ (m < n → gone m = true)
 | 0 => ⟨0, Nat.le_refl _, fun j h => by omega, fun h => by omega⟩
 | n + 1 => by
  obtain ⟨m, h1, h2, h3⟩ := first_of gone n
  by_cases hm : m < n
  · exact ⟨m, by omega, h2, fun _ => h3 hm⟩
  · have : m = n := by omega
    subst this
    cases hg : gone m with
    | true => exact ⟨m, by omega, h2, fun _ => hg⟩
    | false => exact ⟨m + 1, by omega, fun j hj => by
      by_cases hjm : j = m
      · subst hjm; exact hg
      · exact h2 j (by omega), fun h => by omega⟩
theorem op67e (l m : List (List Int)) : opF 67 [encE l, encE m] = encE (l ++ m) := by
 show encE (decE (encE l) ++ decE (encE m)) = _
 rw [decE_enc, decE_enc]
theorem delLaw {idA idX idD : Nat} (hA : progs[idA]? = some fltP) (hX : progs[idX]? = some fstP) (hD : progs[idD]? = some mvP) : DelLaw idA idX idD := by
 intro els t y hlen
 have hw : ∀ i, i < els.length → w64 (i : Nat) = ((i + 1 : Nat) : Int) := by
  intro i hi
  unfold w64
  rw [Go.IntWalk.i64_in _ (by omega)]; omega
 have c0 : ∀ (l : List (List Int)) (i : Nat), opF 63 [encE l, (i : Nat), 0] = cellE l (i : Nat) 0 := fun l i => op63 l i 0
 have c1 : ∀ (l : List (List Int)) (i : Nat), opF 63 [encE l, (i : Nat), 1] = cellE l (i : Nat) 1 := fun l i => op63 l i 1
 have c2 : ∀ (l : List (List Int)) (i : Nat), opF 63 [encE l, (i : Nat), 2] = cellE l (i : Nat) 2 := fun l i => op63 l i 2
 have c3 : ∀ (l : List (List Int)) (i : Nat), opF 63 [encE l, (i : Nat), 3] = cellE l (i : Nat) 3 := fun l i => op63 l i 3
 generalize hgd : (fun i : Nat => decide (t < IntKind.i64.wrap (cellE els (i : Nat) 0 + y))) = gone
 have hgT : ∀ i : Nat, gone i = true → t < IntKind.i64.wrap (cellE els (i : Nat) 0 + y) := by
  intro i h; rw [← hgd] at h; exact of_decide_eq_true h
 have hgF : ∀ i : Nat, gone i = false → ¬ t < IntKind.i64.wrap (cellE els (i : Nat) 0 + y) := by
  intro i h; rw [← hgd] at h; exact of_decide_eq_false h
 obtain ⟨m, hm1, hm2, hm3⟩ := first_of gone els.length
 -- the filter
 have goA : ∀ d i : Nat, i + d = els.length → itn (fltP.step (opP opB (progs.take idA).reverse) [encE els, t, y]) d [((i : Nat) : Int), encE (kept4 gone els i)] = some [((els.length : Nat) : Int), encE (kept4 gone els els.length)] := by
  intro d
  induction d with
  | zero =>
   intro i h
   have : i = els.length := by omega
   subst this
   rfl
  | succ d ih =>
   intro i h
   unfold itn
   rw [flt_step, len62b els hlen, if_pos (by omega), c0, c1, c2, c3, hw i (by omega)]
   cases hg : gone i with
   | true =>
    rw [if_pos (hgT i hg)]
    have e : kept4 gone els i = kept4 gone els (i + 1) := by
     show _ = (match gone i with | true => kept4 gone els i | false => _)
     rw [hg]
    rw [e]
    exact ih (i + 1) (by omega)
   | false =>
    rw [if_neg (hgF i hg)]
    have e : opF 67 [encE (kept4 gone els i), opF 66 [cellE els (i : Nat) 0, cellE els (i : Nat) 1, cellE els (i : Nat) 2, cellE els (i : Nat) 3]] = encE (kept4 gone els (i + 1)) := by
     refine (op67e (kept4 gone els i) [rowE els i]).trans ?_
     show _ = encE (match gone i with | true => kept4 gone els i | false => _)
     rw [hg]
    rw [e]
    exact ih (i + 1) (by omega)
 have fA : fin (fltP.step (opP opB (progs.take idA).reverse) [encE els, t, y]) [0, 0] = [((els.length : Nat) : Int), encE (kept4 gone els els.length)] :=
  fin_of (goA els.length 0 (by omega)) (by rw [flt_step, len62b els hlen, if_neg (by omega)])
 -- the first
 have goX : ∀ d i : Nat, i + d = m → itn (fstP.step (opP opB (progs.take idX).reverse) [encE els, t, y]) d [((i : Nat) : Int)] = some [((m : Nat) : Int)] := by
  intro d
  induction d with
  | zero =>
   intro i h
   have : i = m := by omega
   subst this
   rfl
  | succ d ih =>
   intro i h
   unfold itn
   rw [fst_step, len62b els hlen, if_pos (by omega), c0, hw i (by omega), if_neg (hgF i (hm2 i (by omega)))]
   exact ih (i + 1) (by omega)
 have fX : fin (fstP.step (opP opB (progs.take idX).reverse) [encE els, t, y]) [0] = [((m : Nat) : Int)] := by
  refine fin_of (goX m 0 (by omega)) ?_
  rw [fst_step, len62b els hlen]
  by_cases h : m < els.length
  · rw [if_pos (by omega), c0, if_pos (hgT m (hm3 h))]
  · rw [if_neg (by omega)]
 refine ⟨kept4 gone els els.length, m, prog_at hA (j := 1) (l := [0, 0, encE els, t, y]) rfl rfl fA, prog_at hX (j := 0) (l := [0, encE els, t, y]) rfl rfl fX, hm1, fun he => ?_, fun hlt => ?_⟩
 · subst he
   exact kept4_all hm2
 · -- the move
   have goD : ∀ (d i : Nat) (xs : List (List Int)), i + d = els.length → xs.length = els.length → (∀ j c, j < (kept4 gone els i).length → c < 4 → cellE xs (j : Nat) c = cellE (kept4 gone els i) (j : Nat) c) →
     (∀ j c, i ≤ j → j < els.length → c < 4 → cellE xs (j : Nat) c = cellE els (j : Nat) c) →
     ∃ xs', xs'.length = els.length ∧ (∀ j c, j < (kept4 gone els els.length).length → c < 4 → cellE xs' (j : Nat) c = cellE (kept4 gone els els.length) (j : Nat) c) ∧
      itn (mvP.step (opP opB (progs.take idD).reverse) [encE els, t, y]) d [((i : Nat) : Int), ((kept4 gone els i).length : Nat), encE xs] = some [((els.length : Nat) : Int), ((kept4 gone els els.length).length : Nat), encE xs'] := by
    intro d
    induction d with
    | zero =>
     intro i xs h hxl h1 h2
     have : i = els.length := by omega
     subst this
     exact ⟨xs, hxl, h1, rfl⟩
    | succ d ih =>
     intro i xs h hxl h1 h2
     have hk := kept4_len gone els i
     have g0 := h2 i 0 (Nat.le_refl _) (by omega) (by omega)
     have g1 := h2 i 1 (Nat.le_refl _) (by omega) (by omega)
     have g2 := h2 i 2 (Nat.le_refl _) (by omega) (by omega)
     have g3 := h2 i 3 (Nat.le_refl _) (by omega) (by omega)
     unfold itn
     rw [mv_step, len62b els hlen, if_pos (by omega), c0, c1, c2, c3, hw i (by omega), hw _ (by omega), g0, g1, g2, g3]
     cases hg : gone i with
     | true =>
      rw [if_pos (hgT i hg)]
      have e : kept4 gone els i = kept4 gone els (i + 1) := by
       show _ = (match gone i with | true => kept4 gone els i | false => _)
       rw [hg]
      rw [e] at h1 ⊢
      exact ih (i + 1) xs (by omega) hxl h1 fun j c hj => h2 j c (by omega)
     | false =>
      rw [if_neg (hgF i hg)]
      have e : kept4 gone els (i + 1) = kept4 gone els i ++ [rowE els i] := by
       show (match gone i with | true => kept4 gone els i | false => _) = _
       rw [hg]
      have el : (kept4 gone els (i + 1)).length = (kept4 gone els i).length + 1 := by rw [e]; simp
      generalize ho : (kept4 gone els i).length = o at *
      have s0 : opF 74 [encE xs, (o : Nat), 0, cellE els (i : Nat) 0] = encE (setC xs o 0 (cellE els (i : Nat) 0)) := op74 xs o 0 _
      have s1 : ∀ l, opF 74 [encE l, (o : Nat), 1, cellE els (i : Nat) 1] = encE (setC l o 1 (cellE els (i : Nat) 1)) := fun l => op74 l o 1 _
      have s2 : ∀ l, opF 74 [encE l, (o : Nat), 2, cellE els (i : Nat) 2] = encE (setC l o 2 (cellE els (i : Nat) 2)) := fun l => op74 l o 2 _
      have s3 : ∀ l, opF 74 [encE l, (o : Nat), 3, cellE els (i : Nat) 3] = encE (setC l o 3 (cellE els (i : Nat) 3)) := fun l => op74 l o 3 _
      rw [s0, s1, s2, s3, ← el]
      have hcell : ∀ j c, j < els.length → cellE (setC (setC (setC (setC xs o 0 (cellE els (i : Nat) 0)) o 1 (cellE els (i : Nat) 1)) o 2 (cellE els (i : Nat) 2)) o 3 (cellE els (i : Nat) 3)) (j : Nat) c =
        if j = o ∧ c < 4 then cellE els (i : Nat) c else cellE xs (j : Nat) c := by
       intro j c hj
       rw [cellE_set (by rw [setC_len, setC_len, setC_len]; omega), cellE_set (by rw [setC_len, setC_len]; omega), cellE_set (by rw [setC_len]; omega), cellE_set (by omega)]
       by_cases hji : j = o
       · by_cases c3 : c = 3
         · subst c3; simp [hji]
         · by_cases c2 : c = 2
           · subst c2; simp [hji]
           · by_cases c1 : c = 1
             · subst c1; simp [hji]
             · by_cases c0 : c = 0
               · subst c0; simp [hji]
               · have : ¬ c < 4 := by omega
                 simp [c0, c1, c2, c3, this]
       · simp [hji]
      refine ih (i + 1) _ (by omega) (by rw [setC_len, setC_len, setC_len, setC_len]; exact hxl) (fun j c hj hc => ?_) (fun j c hj hjn hc => ?_)
      · rw [hcell j c (by omega), e]
        by_cases hjo : j = o
        · subst hjo
          rw [if_pos ⟨rfl, hc⟩]
          exact ((cellE_last ho).trans (rowE_get hc)).symm
        · rw [if_neg (fun h => hjo h.1), h1 j c (by omega) hc]
          unfold cellE
          rw [Int.toNat_natCast]
          simp only [List.getD_eq_getElem?_getD]
          rw [List.getElem?_append_left (by omega)]
      · rw [hcell j c hjn, if_neg (by omega), h2 j c (by omega) hjn hc]
   obtain ⟨k1, k2⟩ := kept4_all (els := els) hm2
   have ek : kept4 gone els (m + 1) = kept4 gone els m := by
    show (match gone m with | true => kept4 gone els m | false => _) = _
    rw [hm3 hlt]
   obtain ⟨xs, x1, x2, x3⟩ := goD (els.length - (m + 1)) (m + 1) els (by omega) rfl (fun j c hj hc => by
    rw [ek] at hj ⊢
    exact (k2 j c (by omega) hc).symm) (fun _ _ _ _ _ => rfl)
   rw [ek, k1] at x3
   have fD : fin (mvP.step (opP opB (progs.take idD).reverse) [encE els, t, y]) [((m + 1 : Nat) : Int), (m : Nat), encE els] = [((els.length : Nat) : Int), ((kept4 gone els els.length).length : Nat), encE xs] :=
    fin_of x3 (by rw [mv_step, len62b els hlen, if_neg (by omega)])
   exact ⟨xs, _, prog_at hD (j := 2) (l := [((m + 1 : Nat) : Int), (m : Nat), encE els, encE els, t, y]) rfl rfl fD, prog_at hD (j := 1) (l := [((m + 1 : Nat) : Int), (m : Nat), encE els, encE els, t, y]) rfl rfl fD,
    x1, kept4_len _ _ _, rfl, fun j c hj hc => (x2 j c hj hc).symm⟩
/-! ### The contract is kept -/
section
variable {P : Program} {Γ : Ctx} {ρ : Nat → Int}
theorem ptrX_off {T T' : Tab} {st : St} {k0 : Nat} {ks : List Nat} {a : SV} {xs : List X} (h : ptrX T st (k0 :: ks) a = some (T', xs)) {w0 : Base} {μ : Mu} {w : World} (hw : WR ρ w0 μ st.nb st.bs w)
  {b : Nat} {B : Blk} {ks2 : List Nat} {L : X} (hB : st.bs.get b = some B) (hc : B.cells = [.many ks2 L]) {p : Nat × Nat} (hp : μ b = some p) {c off : Nat} (hv : a.rel ρ μ (.pointer (some ⟨c, off, none⟩))) : p.1 ≠ c := by
 unfold ptrX at h
 split at h
 · rename_i i
   split at h
   · rename_i Bi hBi
     split at h
     · rename_i l hl
       obtain ⟨q, hq, he⟩ := hv
       intro e
       have hc2 : c = q.1 := by injection he with he; injection he with he; injection he
       have : i = b := hw.inj i b q p Bi B hBi hB hq hp (by rw [e, hc2])
       subst this
       rw [hBi] at hB
       cases hB
       rw [hc] at hl
       simp [kindsC, kindC] at hl
     · cases h
   · cases h
 · rename_i q ks' L' I
   obtain ⟨r, off', els, n, hr, he, _, _, hn, hv⟩ := hv
   have hc2 : c = r.1 := by injection hv with hv; injection hv with hv; injection hv
   rw [hc2]
   exact (hw.lst (LB + q) r (Nat.le_add_right _ _) hr).2 ⟨off', ks', els, he, by intro h0; rw [h0] at hn; simp at hn⟩ b B p hB hp
 · cases h
theorem WR.own2 {ρ' : Nat → Int} {w0 : Base} {μ : Mu} {nb : Nat} {bs : Tr Blk} {w : World} (h : WR ρ w0 μ nb bs w) {i : Nat} {p q1 q2 : Nat × Nat} {B : Blk} {ks : List Nat} {x y : X}
  (hB : bs.get i = some B) (hb : μ i = some p) (hc : B.cells = [.many ks x]) (hxy : y.ev ρ' = x.ev ρ) (h1 : LstAt w.heap q1) (h2 : LstAt w.heap q2) (n1 : p.1 ≠ q1.1) (n2 : p.1 ≠ q2.1) :
  WR ρ' ⟨w, fun k => k < w.heap.size ∧ k ≠ p.1, fun _ h => h.1⟩ (fun j => if j = 0 then some p else if j = LB + 1 then some q1 else if j = LB + 2 then some q2 else Option.none) 3 (Tr.ofList fuelT [(0, ⟨[.many ks y], B.ty⟩)]) w := by
 have hone : ∀ {j : Nat} {B' : Blk}, (Tr.ofList fuelT [(0, (⟨[.many ks y], B.ty⟩ : Blk))]).get j = some B' → j = 0 ∧ B' = ⟨[.many ks y], B.ty⟩ := ofListA
 obtain ⟨p', cs, hp', hh, hsz, hbg⟩ := h.blk i B hB
 have e : p' = p := by rw [hp'] at hb; exact Option.some.inj hb
 subst e
 refine ⟨⟨rfl, rfl, rfl, Nat.le_refl _, fun _ _ => rfl⟩, ?_, ?_, ?_, ?_, ?_, ?_⟩
 · intro j k q r Bj Bk hj hk _ _ _
   rw [(hone hj).1, (hone hk).1]
 · intro j hj hj2
   show (if j = 0 then _ else _) = _
   rw [if_neg (by omega), if_neg (by omega), if_neg (by omega)]
 · intro j B' q hj hq hk
   obtain ⟨rfl, rfl⟩ := hone hj
   rw [if_pos rfl] at hq
   cases hq
   exact hk.2 rfl
 · intro j B' hj
   obtain ⟨rfl, rfl⟩ := hone hj
   refine ⟨p', cs, if_pos rfl, hh, hsz, ?_⟩
   rw [hc] at hbg
   obtain ⟨els, e2, e3⟩ := many_at hbg
   exact .inr ⟨ks, y, els, rfl, by rw [hxy]; exact e2, e3⟩
 · intro q r hq hr
   have hlb : (0 : Nat) < LB := by unfold LB; decide
   have hr : (if q = 0 then some p' else if q = LB + 1 then some q1 else if q = LB + 2 then some q2 else Option.none) = some r := hr
   rw [if_neg (by omega)] at hr
   split at hr
   · cases hr
     refine ⟨h1, fun _ j B' s hj hs => ?_⟩
     obtain ⟨rfl, rfl⟩ := hone hj
     rw [if_pos rfl] at hs
     cases hs
     exact n1
   · split at hr
     · cases hr
       refine ⟨h2, fun _ j B' s hj hs => ?_⟩
       obtain ⟨rfl, rfl⟩ := hone hj
       rw [if_pos rfl] at hs
       cases hs
       exact n2
     · cases hr
 · intro q hq
   have hlb : (0 : Nat) < LB := by unfold LB; decide
   show (if LB + q = 0 then _ else _) = _
   rw [if_neg (by omega), if_neg (by omega), if_neg (by omega)]
theorem delS_ok (hΓ : Γ.ok P) (hsum : ∀ f s, Γ.summ f = some s → SummOK P f s) {hn : Nat → Option Hint} {f : Nat} {F : Func} (hF : P.funcs[f]? = some F) (hname : (F.name == "runtime.NumGoroutine") = false)
  {ks : List Nat} {e g idA idX idD : Nat} (hrun : delRun Γ hn F ks e g idX idD = true) (law : DelLaw idA idX idD) : MFnOK P f (delS idA g e ks) := by
 intro T st args TF m h ρ hs
 unfold delS at h
 split at h
 case h_2 => cases h
 rename_i b ks' L g' c d
 split at h
 case h_2 => cases h
 rename_i B hB
 split at h
 case h_2 => cases h
 rename_i T1 x1 x2 x3 x4 x5 x6 x7 y hcond hp1
 split at h
 case h_2 => cases h
 rename_i T2 t hp2
 split at h
 case h_2 => cases h
 rename_i T3 Fx hm
 cases h
 simp only [Bool.and_eq_true] at hcond
 obtain ⟨⟨e1, e2⟩, e3, e4⟩ := hcond
 have e1 := natsBeq_eq e1
 have e2 := Nat.eq_of_beq_eq_true e2
 subst e1 e2
 have e3 := Nat.eq_of_beq_eq_true e3
 have e4 := cellsBeq_eq e4
 obtain ⟨s2, vF⟩ := mk_spec hm hs
 obtain ⟨s1, k2⟩ := ptrX_spec hp2 s2
 obtain ⟨s0, k1⟩ := ptrX_spec hp1 s1
 have vF : Fx.ev ρ = opF 70 [(idA : Int), 1, 0, 0, L.ev ρ, t.ev ρ, y.ev ρ] := vF
 refine ⟨s0, fun w0 μ vs w hf hwr hvs => ?_⟩
 obtain ⟨v0, v1, hvl, r0, r1⟩ : ∃ v0 v1, vs.toList = [v0, v1] ∧ (SC.gl b ks L).rel ρ μ v0 ∧ (SC.fn2 g c d).rel ρ μ v1 := by
  generalize hl : vs.toList = l at hvs
  match l, hvs with
  | [a, b], hvs => exact ⟨a, b, rfl, hvs.1, hvs.2.1⟩
 obtain ⟨p, els, hp, hL, hv0, hle, hcm, hsm⟩ := r0
 obtain ⟨u1, u2, hu1, hu2, hv1⟩ := r1
 obtain ⟨_, b1, o1, rfl, hl1⟩ := k1 w0 μ st.nb st.bs w u1 (fun _ _ h => h) hwr hu1
 obtain ⟨_, b2, o2, rfl, hl2⟩ := k2 w0 μ st.nb st.bs w u2 (fun _ _ h => h) hwr hu2
 have n1 := ptrX_off hp1 hwr hB e4 hp hu1
 have n2 := ptrX_off hp2 hwr hB e4 hp hu2
 obtain ⟨p', cs, hp', hh, hcsz, hbg⟩ := hwr.blk b B hB
 have ep : p' = p := by rw [hp'] at hp; exact Option.some.inj hp
 subst ep
 rw [e4] at hbg
 obtain ⟨fs, mm, f1, f2, f3, f4, f5⟩ := law els (t.ev ρ) (y.ev ρ) hsm
 rw [← hL] at f1 f2 f5
 -- the run
 unfold delRun at hrun
 split at hrun
 case h_2 => cases hrun
 rename_i TR c1 c2 ex1 sR1 ex2 sR2 ex3 sR3 hr
 split at hrun
 case h_2 => cases hrun
 rename_i ks1 ri B2 ra rn m1 ra' hres hB2 hdc1 hdc2
 split at hrun
 case h_2 => cases hrun
 rename_i ks2 ry i1 i2 rk i3 i4 i5 i6 i7 hcells hdi
 split at hrun
 case h_2 => cases hrun
 rename_i rz ri' hdy
 simp only [Bool.and_eq_true] at hrun
 obtain ⟨⟨⟨⟨g1, g2⟩, g3, g4⟩, ⟨g5, g6⟩, g7, g8⟩, ⟨⟨g9, g10⟩, g11, g12⟩, g13⟩ := hrun
 have g6 := Nat.eq_of_beq_eq_true g6
 have g7 := natsBeq_eq g7
 have g8 := natsBeq_eq g8
 have g9 := Nat.eq_of_beq_eq_true g9
 have g10 := Nat.eq_of_beq_eq_true g10
 have g11 := ibeq_eq g11
 have g12 := Nat.le_of_ble_eq_true g12
 subst g7 g8 g9 g10 g11
 unfold runD at hr
 split at hr
 case h_2 => cases hr
 rename_i cd hb
 obtain ⟨ρ', hin, hs'⟩ := exists_rho g1 (fun r => if r = 0 then L.ev ρ else if r = 9 then t.ev ρ else ([x1, x2, x3, x4, x5, x6, x7, y].map (X.ev ρ)).getD (r - 1) 0)
 have i0 : ρ' 0 = L.ev ρ := by rw [hin 0 (by omega), if_pos rfl]
 have i9 : ρ' 9 = t.ev ρ := by rw [hin 9 (by omega)]; rfl
 have i8 : ρ' 8 = y.ev ρ := by rw [hin 8 (by omega)]; rfl
 obtain ⟨sE, hwp⟩ := execX_sound hΓ hsum (fun _ _ h => by cases h) 400 ρ' _ _ _ _ _ hr hs'
 have i10 : ρ' 10 = encE [[x1, x2, x3, x4, x5, x6, x7, y].map (X.ev ρ)] := by
  rw [sE 10 _ (dsOK_spec g2 10 ⟨66, [.reg 1, .reg 2, .reg 3, .reg 4, .reg 5, .reg 6, .reg 7, .reg 8]⟩ (by simp [delDs]))]
  show encE [[ρ' 1, ρ' 2, ρ' 3, ρ' 4, ρ' 5, ρ' 6, ρ' 7, ρ' 8]] = _
  rw [hin 1 (by omega), hin 2 (by omega), hin 3 (by omega), hin 4 (by omega), hin 5 (by omega), hin 6 (by omega), hin 7 (by omega), hin 8 (by omega)]
  rfl
 have i11 : ρ' 11 = encE [[t].map (X.ev ρ)] := by
  rw [sE 11 _ (dsOK_spec g2 11 ⟨66, [.reg 9]⟩ (by simp [delDs]))]
  show encE [[ρ' 9]] = _
  rw [i9]; rfl
 have va : ρ' ra = (mm : Nat) := by
  rw [hs' ra _ (dsOK_spec g13 ra ⟨70, [.lit idX, .lit 0, .lit 0, .reg 0, .reg 9, .reg 8]⟩ (by simp))]
  show opF 70 [(idX : Int), 0, 0, ρ' 0, ρ' 9, ρ' 8] = _
  rw [i0, i9, i8]
  exact f2
 have vn : ρ' rn = (els.length : Nat) := by
  rw [hs' rn _ (dsOK_spec g13 rn ⟨62, [.reg 0]⟩ (by simp))]
  show opF 62 [ρ' 0] = _
  rw [i0, hL, len62b els hsm]
 have vc1 : ρ' c1 = b2i (decide (mm < els.length)) := by
  rw [hs' c1 _ hdc1]
  show b2i (decide (ρ' ra < ρ' rn)) = _
  rw [va, vn]
  by_cases hlt : mm < els.length
  · rw [decide_eq_true hlt, decide_eq_true (by omega)]
  · rw [decide_eq_false hlt, decide_eq_false (by omega)]
 have vc2 : ρ' c2 = 0 := by
  rw [hs' c2 _ hdc2]
  show b2i ((-1 : Int) == ρ' ra) = _
  rw [va]
  have : ((-1 : Int) == ((mm : Nat) : Int)) = false := by
   rw [beq_eq_false_iff_ne]; omega
  rw [this]; rfl
 have hrel : svsRel ρ' (fun j => if j = 0 then some p' else if j = LB + 1 then some (b1, encP o1 [8, 8, 8, 8, 8, 8, 3, 3] [[x1, x2, x3, x4, x5, x6, x7, y].map (X.ev ρ)]) else if j = LB + 2 then some (b2, encP o2 [3] [[t].map (X.ev ρ)]) else Option.none) (delPat ks g) vs.toList := by
  rw [hvl, hv1]
  have hlb : (0 : Nat) < LB := by unfold LB; decide
  refine ⟨⟨p', els, if_pos rfl, by show ρ' 0 = _; rw [i0]; exact hL, hv0, hle, hcm, hsm⟩, ⟨.pointer (some ⟨b1, o1, none⟩), .pointer (some ⟨b2, o2, none⟩), ⟨(b1, encP o1 [8, 8, 8, 8, 8, 8, 3, 3] [[x1, x2, x3, x4, x5, x6, x7, y].map (X.ev ρ)]), o1, _, 0, ?_, rfl, i10, rfl, by simp, by simp⟩,
   ⟨(b2, encP o2 [3] [[t].map (X.ev ρ)]), o2, _, 0, ?_, rfl, i11, rfl, by simp, by simp⟩, rfl⟩, trivial⟩
  · exact (if_neg (show ¬ LB + 1 = 0 by omega)).trans (if_pos rfl)
  · exact (if_neg (show ¬ LB + 2 = 0 by omega)).trans ((if_neg (show ¬ LB + 2 = LB + 1 by omega)).trans (if_pos rfl))
 have hfr := frame_enter hrel F.ntmps
 have hown := hwr.own2 (ρ' := ρ') (y := .reg 0) hB hp' e4 (by show ρ' 0 = _; exact i0) hl1 hl2 n1 n2
 rw [e3] at hown
 have fin : ∀ (ex : Ex) (s : St) (B' : Blk) (v : SV) (es : List (List Int)), isEnd ex = true → resultsS Γ s F.results.toList = some v → s.bs.get 0 = some B' → B'.ty = e → fs.length ≤ es.length →
   (∀ j c, j < fs.length → c < 4 → cellE fs (j : Nat) c = cellE es (j : Nat) c) → (∀ μ' cs2, Begins ρ' μ' B'.cells cs2 → ManyAt ks es cs2) →
   (∀ μ' x, Sub (fun j => if j = 0 then some p' else if j = LB + 1 then some (b1, encP o1 [8, 8, 8, 8, 8, 8, 3, 3] [[x1, x2, x3, x4, x5, x6, x7, y].map (X.ev ρ)]) else if j = LB + 2 then some (b2, encP o2 [3] [[t].map (X.ev ρ)]) else Option.none) μ' → v.rel ρ' μ' x → x = .slice (some ⟨p'.1, 0, none⟩) fs.length (p'.2 / ks.length)) →
   fs.length ≤ els.length →
   Leafs ρ' ⟨w, fun k => k < w.heap.size ∧ k ≠ p'.1, fun _ h => h.1⟩ (bodyPost P F fun en w2 => ∃ v, en = .returned v ∧ (∃ μ', Sub μ μ' ∧ WR ρ w0 μ' st.nb (st.bs.set fuelT b ⟨[.many ks Fx], e⟩) w2 ∧ (SV.c (.gl b ks Fx)).rel ρ μ' v))
    (fun j => if j = 0 then some p' else if j = LB + 1 then some (b1, encP o1 [8, 8, 8, 8, 8, 8, 3, 3] [[x1, x2, x3, x4, x5, x6, x7, y].map (X.ev ρ)]) else if j = LB + 2 then some (b2, encP o2 [3] [[t].map (X.ev ρ)]) else Option.none) ex s := by
  intro ex s B' v es hex hv hB' hty hlen hcell hmany hval hfl μ' a' w' hp2 hw'
  obtain ⟨x, hx, hxr⟩ := resultsS_sound hΓ hv hw'
  have hxe := hval μ' x hp2 hxr
  obtain ⟨q, cs2, hq, hh2, hsz2, hbg2⟩ := hw'.wr.blk 0 B' hB'
  have eq : q = p' := by
   have := hp2 0 p' (if_pos rfl)
   rw [hq] at this
   exact Option.some.inj this
  subst eq
  have hma := hmany μ' cs2 hbg2
  have hturn : WR ρ w0 μ st.nb (st.bs.set fuelT b ⟨[.many ks Fx], B.ty⟩) w' := by
   have kp := hw'.wr.kept
   refine hwr.turn hB hp' kp.os kp.tape kp.output kp.size (fun k h1 h2 => kp.block k ⟨h1, h2⟩) (by rw [e3, ← hty]; exact hh2) hsz2 (.inr ⟨ks, Fx, fs, rfl, ?_, fun i c hi hc => ?_⟩)
   · rw [vF]; exact f1
   · rw [hcell i c hi (by omega)]
     exact hma i c (by omega) hc
  rw [e3] at hturn
  have fin : bodyPost P F (fun en w2 => ∃ v, en = .returned v ∧ (∃ μ', Sub μ μ' ∧ WR ρ w0 μ' st.nb (st.bs.set fuelT b ⟨[.many ks Fx], e⟩) w2 ∧ (SV.c (.gl b ks Fx)).rel ρ μ' v)) .ret a' w' :=
   ⟨hw'.defers, x, hx, x, rfl, μ, Sub.refl _, hturn, q, fs, hp', by rw [vF]; exact f1, hxe, by omega, hcm, by omega⟩
  cases ex with
  | leave id => cases hex
  | normal => exact fin
  | ret => exact fin
 have same : ∀ (ex : Ex) (s : St), delSame Γ F ks e ex s = true → mm = els.length →
   Leafs ρ' ⟨w, fun k => k < w.heap.size ∧ k ≠ p'.1, fun _ h => h.1⟩ (bodyPost P F fun en w2 => ∃ v, en = .returned v ∧ (∃ μ', Sub μ μ' ∧ WR ρ w0 μ' st.nb (st.bs.set fuelT b ⟨[.many ks Fx], e⟩) w2 ∧ (SV.c (.gl b ks Fx)).rel ρ μ' v))
    (fun j => if j = 0 then some p' else if j = LB + 1 then some (b1, encP o1 [8, 8, 8, 8, 8, 8, 3, 3] [[x1, x2, x3, x4, x5, x6, x7, y].map (X.ev ρ)]) else if j = LB + 2 then some (b2, encP o2 [3] [[t].map (X.ev ρ)]) else Option.none) ex s := by
  intro ex s hd hmm
  unfold delSame at hd
  split at hd
  case h_2 => cases hd
  rename_i ks3 B3 hres3 hB3
  simp only [Bool.and_eq_true] at hd
  obtain ⟨d1, d2, d3, d4⟩ := hd
  have d2 := natsBeq_eq d2
  subst d2
  have d3 := Nat.eq_of_beq_eq_true d3
  have d4 := cellsBeq_eq d4
  obtain ⟨f41, f42⟩ := f4 hmm
  refine fin ex s B3 _ els d1 hres3 hB3 d3 (by omega) (fun j c hj hc => f42 j c (by omega) hc) (fun μ' cs2 hb2 => ?_) (fun μ' x hsub hx => ?_) (by omega)
  · rw [d4] at hb2
    obtain ⟨els', q1, q2⟩ := many_at hb2
    have : els' = els := encE_inj (q1.symm.trans ((show ρ' 0 = _ from i0).trans hL))
    rw [← this]; exact q2
  · obtain ⟨q, els', q1, q2, q3, _⟩ := hx
    have : els' = els := encE_inj (q2.symm.trans ((show ρ' 0 = _ from i0).trans hL))
    subst this
    have eq : q = p' := by
     have := hsub 0 p' (if_pos rfl)
     rw [q1] at this
     exact Option.some.inj this
    subst eq
    rw [q3, f41]
 refine callOK_of hΓ hF hname hb (calls_of_wp hF hb (hwp _ _ _ w _ ⟨rfl, hfr, hown, (fun r b h => by cases h)⟩ ?_))
 show if ρ' c1 = 1 then (if ρ' c2 = 1 then _ else _) else _
 by_cases hlt : mm < els.length
 · rw [if_pos (by rw [vc1, decide_eq_true hlt]; rfl), if_neg (by rw [vc2]; decide)]
   obtain ⟨xs, o, j1, j2, j3, j4, j5, j6⟩ := f5 hlt
   have vk : ρ' rk = ((mm + 1 : Nat) : Int) := by
    rw [hs' rk _ (dsOK_spec g13 rk ⟨31, [.lit 3, .reg ra, .lit 1]⟩ (by simp))]
    show IntKind.i64.wrap (ρ' ra + 1) = _
    rw [va, Go.IntWalk.i64_in _ (by omega)]; omega
   have vi : ρ' ri = (o : Nat) := by
    rw [hs' ri _ (dsOK_spec g13 ri ⟨70, [.lit idD, .lit 1, .reg rk, .reg ra, .reg 0, .reg 0, .reg 9, .reg 8]⟩ (by simp))]
    show opF 70 [(idD : Int), 1, ρ' rk, ρ' ra, ρ' 0, ρ' 0, ρ' 9, ρ' 8] = _
    rw [vk, va, i0, i9, i8]
    exact j2
   have vz : ρ' rz = encE xs := by
    rw [hs' rz _ (dsOK_spec g13 rz ⟨70, [.lit idD, .lit 2, .reg rk, .reg ra, .reg 0, .reg 0, .reg 9, .reg 8]⟩ (by simp))]
    show opF 70 [(idD : Int), 2, ρ' rk, ρ' ra, ρ' 0, ρ' 0, ρ' 9, ρ' 8] = _
    rw [vk, va, i0, i9, i8]
    exact j1
   have vy : ρ' ry = encE (xs.take o) := by
    rw [hs' ry _ hdy]
    show encE ((decE (ρ' rz)).take (ρ' ri).toNat) = _
    rw [vz, vi, decE_enc, Int.toNat_natCast]
   refine fin ex2 sR2 B2 _ (xs.take o) g5 hres hB2 g6 (by rw [List.length_take]; omega) (fun j c hj hc => ?_) (fun μ' cs2 hb2 => ?_) (fun μ' x hsub hx => ?_) (by omega)
   · rw [j6 j c (by omega) hc]
     unfold cellE
     rw [Int.toNat_natCast]
     simp only [List.getD_eq_getElem?_getD]
     rw [List.getElem?_take_of_lt (by omega)]
   · rw [hcells] at hb2
     obtain ⟨els', q1, q2⟩ := many_at hb2
     have : els' = xs.take o := encE_inj (q1.symm.trans vy)
     rw [← this]; exact q2
   · obtain ⟨q, mx, q1, q2, _, _, q3⟩ := hx
     have : mx = o := by
      have q2 : ρ' ri = (mx : Nat) := q2
      rw [vi] at q2
      omega
     subst this
     have eq : q = p' := by
      have := hsub 0 p' (if_pos rfl)
      rw [q1] at this
      exact Option.some.inj this
     subst eq
     rw [q3, j5]
 · rw [if_neg (by rw [vc1, decide_eq_false hlt]; decide)]
   exact same ex3 sR3 g4 (by omega)
end
end Go.Sx
