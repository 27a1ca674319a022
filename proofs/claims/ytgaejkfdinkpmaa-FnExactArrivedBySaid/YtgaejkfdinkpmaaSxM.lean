/-
  Makers of lists; contracts and laws over lists.
-/
import Derived.Test.YtgaejkfdinkpmaaSxK
import Derived.Laws.MakeOwn
set_option linter.unusedSimpArgs false
set_option linter.unusedVariables false
namespace Go.Sx
open Go.RowKit
section
variable {P : Program}
def flatC : Code → List Code
 | .seq a b => flatC a ++ flatC b
 | c => [c]
def wpL (P : Program) (Q : Exit → Act → World → Prop) : List Code → Act → World → Prop
 | [], a, w => Q .normal a w
 | c :: l, a, w => c.wp P (Exit.then (wpL P Q l) Q) a w
theorem then_mono {K K' : Act → World → Prop} {Q Q' : Exit → Act → World → Prop} (h1 : ∀ a w, K a w → K' a w) (h2 : ∀ e a w, e ≠ .normal → Q e a w → Q' e a w) :
  ∀ e a w, Exit.then K Q e a w → Exit.then K' Q' e a w := by
 intro e a w h
 cases e with
 | normal => exact h1 _ _ h
 | _ => exact h2 _ _ _ (by intro e; cases e) h
theorem wpL_mono : ∀ {l : List Code} {Q Q' : Exit → Act → World → Prop} {a : Act} {w : World}, (∀ e a w, Q e a w → Q' e a w) → wpL P Q l a w → wpL P Q' l a w
 | [], _, _, _, _, h, hw => h _ _ _ hw
 | c :: l, _, _, _, _, h, hw => wp_mono hw (then_mono (fun _ _ hk => wpL_mono h hk) (fun _ _ _ _ hq => h _ _ _ hq))
theorem wpL_append {Q : Exit → Act → World → Prop} : ∀ {l1 l2 : List Code} {a : Act} {w : World}, wpL P Q (l1 ++ l2) a w → wpL P (Exit.then (wpL P Q l2) Q) l1 a w
 | [], _, _, _, h => h
 | c :: l1, l2, a, w, h => wp_mono (c := c) h (by
   refine then_mono (fun _ _ hk => wpL_append hk) (fun e a w hne hq => ?_)
   cases e with
   | normal => exact absurd rfl hne
   | _ => exact hq)
theorem wp_flat : ∀ {c : Code} {Q : Exit → Act → World → Prop} {a : Act} {w : World}, wpL P Q (flatC c) a w → c.wp P Q a w := by
 have base : ∀ {c : Code} {Q : Exit → Act → World → Prop} {a : Act} {w : World}, wpL P Q [c] a w → c.wp P Q a w := by
  intro c Q a w h
  refine wp_mono h (fun e a w hq => ?_)
  cases e <;> exact hq
 intro c
 induction c with
 | seq x y ihx ihy =>
  intro Q a w h
  refine wp_seq (ihx (wpL_mono (then_mono (fun _ _ hk => ihy hk) (fun _ _ _ _ hq => hq)) (wpL_append h)))
 | _ => intro Q a w h; exact base h
theorem Oper.wp_then {o : Oper} {a : Act} {w : World} {K K0 K' : Act → World → Prop} {Q : Exit → Act → World → Prop} (h : ∀ a w, K a w → K' a w) (hh : o.wp P a w K (Exit.then K0 Q)) : o.wp P a w K' Q := by
 unfold Oper.wp at *
 generalize (execOp a.eval o).run P w = r at *
 cases r with
 | ok n w' =>
  cases n <;> simp only [Oper.upon] at hh ⊢ <;>
   first
    | exact h _ _ hh
    | exact Calls.mono hh (fun e w'' he => by cases e <;> first | exact h _ _ he | exact he)
    | exact Rows.mono hh (fun _ _ he => h _ _ he)
 | halt x w' => cases x <;> simp only [Oper.upon] at hh ⊢ <;> exact hh
theorem wpOps_then {ops : Array Oper} {Q : Exit → Act → World → Prop} {l2 : List Nat} : ∀ {l1 : List Nat} {a : Act} {w : World}, wpOps P ops (Exit.then (wpOps P ops Q l2) Q) l1 a w → wpOps P ops Q (l1 ++ l2) a w
 | [], _, _, h => h
 | i :: l1, a, w, h => by
  unfold wpOps at h
  show wpOps P ops Q (i :: (l1 ++ l2)) a w
  unfold wpOps
  split at h
  · rename_i hi
    exact wpOps_then h
  · rename_i o hi
    split
    · rename_i hw
      rw [if_pos hw] at h
      rcases h with h | ⟨h1, h2⟩
      · exact .inl (Oper.wp_then (fun _ _ hk => wpOps_then hk) h)
      · exact .inr ⟨h1, h2⟩
    · rename_i hw
      rw [if_neg hw] at h
      exact wpOps_then h
theorem wpOps_one {ops : Array Oper} {Q : Exit → Act → World → Prop} {i : Nat} {o : Oper} {l : List Nat} {a : Act} {w w' : World} {x : Value} (hi : ops[i]? = some o) (hg : o.guard = none)
  (hr : (execOp a.eval o).run P w = .ok (.value x) w') (h : wpOps P ops Q l (a.put o.dst x) w') : wpOps P ops Q (i :: l) a w := by
 unfold wpOps
 simp only [hi]
 rw [if_pos (by unfold Region.wanted; rw [hg])]
 refine .inl ?_
 unfold Oper.wp
 rw [hr]
 exact h
theorem wpOps_skip {ops : Array Oper} {Q : Exit → Act → World → Prop} {i : Nat} {o : Oper} {l : List Nat} {a : Act} {w w' : World} (hi : ops[i]? = some o) (hg : o.guard = none)
  (hr : (execOp a.eval o).run P w = .ok .skip w') (h : wpOps P ops Q l (a.put o.dst undef) w') : wpOps P ops Q (i :: l) a w := by
 unfold wpOps
 simp only [hi]
 rw [if_pos (by unfold Region.wanted; rw [hg])]
 refine .inl ?_
 unfold Oper.wp
 rw [hr]
 exact h
end
/-! ### Pieces of straight code, over two lists -/
def mu2 (p r : Nat × Nat) : Mu := fun i => if i = LB then some p else if i = 0 then some r else none
def Piece (Γ : Ctx) (nt : Nat) (ops : Array Oper) (l : List Oper) (T0 : Tab) (fr0 : Tr SV) (fa : Tr Bool) (C : Tab → St → Prop) : Prop :=
 ∃ T1 st1, opsLX Γ (fun _ => none) (execX Γ (fun _ => none) (fun _ => none) 400) ops l T0 ⟨nt, fr0, 2, .nil, fa⟩ = some (T1, .leaf .normal st1) ∧ goodTab 2 T1 = true ∧ st1.nt = nt ∧ C T1 st1
section
variable {P : Program} {Γ : Ctx}
theorem piece_wp (hΓ : Γ.ok P) (hsum : ∀ f s, Γ.summ f = some s → SummOK P f s) {nt : Nat} {ops : Array Oper} {l : List Oper} {T0 : Tab} {fr0 : Tr SV} {fa : Tr Bool} {C : Tab → St → Prop}
  (hp : Piece Γ nt ops l T0 fr0 fa C) {k : Nat} (hl : ∀ j, j < l.length → l[j]? = ops[k + j]?) {p : Nat × Nat} {L i : Int} {a : Act} {w : World} (hlp : LstAt w.heap p) (r : Nat × Nat)
  (hd : a.defers = []) (hsz : a.tmps.size = nt)
  (hfr : ∀ ρ : Nat → Int, ρ 0 = L → ρ 1 = i → ∀ t s, fr0.get t = some s → s.rel ρ (mu2 p r) (a.tmps.getD t undef))
  (hfa : ∀ ρ : Nat → Int, ρ 0 = L → ρ 1 = i → Sat ρ T0 → Facts ρ fa) {Q : Exit → Act → World → Prop} {l2 : List Nat}
  (hK : ∀ T1 st1, C T1 st1 → ∀ (ρ : Nat → Int) μ' a' w', ρ 0 = L → ρ 1 = i → Sat ρ T1 → Sub (mu2 p r) μ' → a'.defers = [] → a'.tmps.size = nt →
   (∀ t s, st1.fr.get t = some s → s.rel ρ μ' (a'.tmps.getD t undef)) → Below w.heap.size w w' → wpOps P ops Q l2 a' w') :
  wpOps P ops Q (List.range' k l.length ++ l2) a w := by
 obtain ⟨T1, st1, hrun, hg, hnt, hC⟩ := hp
 obtain ⟨ρ, hin, hs⟩ := exists_rho hg (fun r => if r = 0 then L else i)
 have h0 : ρ 0 = L := by rw [hin 0 (by omega)]; rfl
 have h1 : ρ 1 = i := by rw [hin 1 (by omega)]; rfl
 obtain ⟨s0, hwp⟩ := opsLX_sound (ρ := ρ) hΓ hsum (fun _ _ h => by cases h) (execX_sound hΓ hsum (fun _ _ h => by cases h) 400 ρ) l k _ _ _ _ hl hrun hs
 refine wpOps_then (hwp (Base.all w) (mu2 p r) a w _ ⟨hd, ⟨hsz, fun t s ht => hfr ρ h0 h1 t s ht⟩, ?_, hfa ρ h0 h1 s0⟩ ?_)
 · refine ⟨⟨rfl, rfl, rfl, Nat.le_refl _, fun _ _ => rfl⟩, (fun _ _ _ _ _ _ h => by cases h), (fun i h2 hi => ?_), (fun _ _ _ h => by cases h), (fun _ _ h => by cases h), (fun q pp hl hq => ?_), (fun q hq => ?_)⟩
   · have h2 : 2 ≤ i := h2; unfold mu2; rw [if_neg (by omega), if_neg (by omega)]
   · refine ⟨?_, fun _ _ _ _ h => by cases h⟩
     unfold mu2 at hq
     split at hq
     · cases hq; exact hlp
     · skip
       rw [if_neg (by unfold LB at hl; omega)] at hq
       cases hq
   · unfold mu2; have hq : 2 ≤ q := hq; rw [if_neg (by omega), if_neg (by unfold LB; omega)]
 · intro μ' a' w' hsub hw'
   exact hK T1 st1 hC ρ μ' a' w' h0 h1 hs hsub hw'.defers (by rw [hw'.fr.size, hnt]) hw'.fr.slot hw'.wr.kept.below
def glS : SV := .c (.gl 0 [0] (.reg 0))
def hdS (q : Nat) (ks : List Nat) : SV := .c (.ls q ks (.reg 0))
theorem hdS_of {b off : Nat} {ks : List Nat} {els : List (List Int)} {r : Nat × Nat} {ρ : Nat → Int} {μ' : Mu} {v : Value} (hs : Sub (mu2 (b, encP off ks els) r) μ') (h : (hdS 0 ks).rel ρ μ' v) : Hdr b off els.length v := by
 obtain ⟨p, off', els', hp, he, _, hd⟩ := h
 have : μ' (LB + 0) = some (b, encP off ks els) := hs _ _ (if_pos rfl)
 rw [this] at hp
 cases hp
 obtain ⟨e1, _, e3⟩ := encP_inj he
 rw [e1, e3]; exact hd
theorem hdS_to {b off : Nat} {ks : List Nat} {els : List (List Int)} {r : Nat × Nat} {ρ : Nat → Int} {v : Value} (h0 : ρ 0 = encE els) (h : Hdr b off els.length v) : (hdS 0 ks).rel ρ (mu2 (b, encP off ks els) r) v :=
 ⟨(b, encP off ks els), off, els, if_pos rfl, rfl, h0, h⟩
def Ex1 (b n : Nat) (v : Value) : Prop := v = .slice (some ⟨b, 0, none⟩) n n
theorem hdS_of1 {b : Nat} {els : List (List Int)} {p : Nat × Nat} {ρ : Nat → Int} {μ' : Mu} {v : Value} (h0 : ρ 0 = encE els) (hs : Sub (mu2 p (b, els.length)) μ') (h : glS.rel ρ μ' v) : Ex1 b els.length v := by
 obtain ⟨p', els', hp, he, hv, _⟩ := h
 have : μ' 0 = some (b, els.length) := hs _ _ (by unfold mu2; rw [if_neg (by unfold LB; omega), if_pos rfl])
 rw [this] at hp
 cases hp
 have he : ρ 0 = encE els' := he
 have e := encE_inj (h0.symm.trans he)
 subst e
 rw [hv]
 show Value.slice _ _ (els.length / 1) = _
 rw [Nat.div_one]
theorem hdS_to1 {b : Nat} {els : List (List Int)} {p : Nat × Nat} {ρ : Nat → Int} {v : Value} (hn : els.length ≤ 1048576) (h0 : ρ 0 = encE els) (h : Ex1 b els.length v) : glS.rel ρ (mu2 p (b, els.length)) v := by
 refine ⟨(b, els.length), els, by unfold mu2; rw [if_neg (by unfold LB; omega), if_pos rfl], h0, ?_, ?_, ?_, by omega⟩
 · rw [h]
   show _ = Value.slice _ _ (els.length / 1)
   rw [Nat.div_one]
 · show _ ≤ els.length / 1
   rw [Nat.div_one]; exact Nat.le_refl _
 · show els.length / 1 ≤ maxLen
   rw [Nat.div_one]; unfold maxLen; omega
end
end Go.Sx

namespace Go.Sx
open Go.RowKit
structure MkD where
 ks : List Nat
 nt : Nat
 tOut : Nat
 e : Nat
 tEl : Nat
 sOut : Nat
 sI : Nat
 sLen : Nat
 sMk : Nat
 sC : Nat
 sHdr : Nat
 sIx : Nat
 sVal : Nat
 sAddr : Nat
 R0 : Array Oper
 R1 : Array Oper
 R2 : Array Oper
 R3 : Array Oper
 R4 : Array Oper
 R5 : Array Oper
 R6 : Array Oper
 i0 : Nat
 i1 : Nat
 i2 : Nat
 i3 : Nat
 i4 : Nat
 i5 : Nat
 i6 : Nat
 b0 : Nat
 b1 : Nat
 B : Code
 c : Code
 m : Nat
def T00 : Tab := ⟨2, .nil, .nil⟩
noncomputable def T50 : Tab := ⟨5, Tr.ofList fuelT [(2, ⟨62, [.reg 0]⟩), (3, ⟨15, [.reg 1, .reg 2]⟩), (4, ⟨15, [.reg 1, .lit 0]⟩)], Tr.ofList fuelT [(0, [2]), (2, [3]), (1, [4])]⟩
noncomputable def fa50 : Tr Bool := Tr.ofList fuelT [(3, true), (4, false)]
noncomputable def frA (d : MkD) : Tr SV := Tr.ofList fuelT [(0, hdS 0 d.ks)]
noncomputable def frB (d : MkD) : Tr SV := Tr.ofList fuelT [(0, hdS 0 d.ks), (d.sMk, glS)]
noncomputable def frC (d : MkD) : Tr SV := Tr.ofList fuelT [(0, hdS 0 d.ks), (d.sOut, glS)]
noncomputable def frH (d : MkD) : Tr SV := Tr.ofList fuelT [(0, hdS 0 d.ks), (d.sOut, glS), (d.sI, .c (.int .i64 (.reg 1)))]
noncomputable def frZ (d : MkD) : Tr SV := Tr.ofList fuelT [(d.sOut, glS)]
def scReg : SC → Option Nat
 | .int _ (.reg r) => some r
 | .flt _ (.reg r) => some r
 | .bool (.reg r) => some r
 | _ => none
noncomputable def elChk (T : Tab) (ks : List Nat) : Nat → List SC → Bool
 | o, [] => Nat.beq o ks.length
 | o, s :: l =>
  match ks[o]?, scReg s with
  | some k, some r =>
   match T.defs.get r with
   | some d => Nat.ble k 10 && (scBeq s (kindSC k (.reg r)) && (d.beq ⟨63, [.reg 0, .reg 1, .lit o]⟩ && elChk T ks (o + 1) l))
   | none => false
  | _, _ => false
noncomputable def elChkV (T : Tab) (ks : List Nat) (v : Option SV) : Bool :=
 match v with
 | some v => match v.cells with
  | some l => elChk T ks 0 l
  | none => false
 | none => false
def Op3 (ops : Array Oper) (i : Nat) (op : Op) (dst : Option Nat) : Prop := ∃ o, ops[i]? = some o ∧ o.op = op ∧ o.guard = none ∧ o.dst = dst
structure MkOK (Γ : Ctx) (F : Func) (d : MkD) : Prop where
 body : F.body = some d.c
 fc : flatC d.c = [.region d.i0 d.R0 false, .region d.i1 d.R1 false, .region d.i2 d.R2 false, .block d.b0 (.loop d.B), .region d.i6 d.R6 false, .ret]
 fB : flatC d.B = [.region d.i3 d.R3 false, .cond (.tmp d.sC) .skip (.exit d.b0), .block d.b1 (.region d.i5 d.R5 false), .region d.i4 d.R4 false]
 nt : 1 + (F.ntmps - 1) = d.nt
 lt : d.sMk < d.nt ∧ d.sAddr < d.nt ∧ d.sMk ≠ 0 ∧ d.sAddr ≠ 0 ∧ d.sAddr ≠ d.sOut ∧ d.sAddr ≠ d.sI ∧ d.sAddr ≠ d.sVal
 tyOut : ∃ i, Γ.ty.get d.tOut = some i ∧ i.d = .slice d.e
 tyE : ∃ i, Γ.ty.get d.e = some i ∧ i.size = d.ks.length
 tyEl : ∃ i, Γ.ty.get d.tEl = some i ∧ i.size = d.ks.length
 p0 : Piece Γ d.nt d.R0 d.R0.toList T00 (frA d) .nil fun _ st => st.fr.get 0 = some (hdS 0 d.ks)
 p1 : Piece Γ d.nt d.R1 (d.R1.toList.take 2) T00 (frA d) .nil fun T st => st.fr.get 0 = some (hdS 0 d.ks) ∧ st.fr.get d.sLen = some (.c (.int .i64 (.reg 2))) ∧ T.defs.get 2 = some ⟨62, [.reg 0]⟩
 o1 : Op3 d.R1 2 (.makeSlice d.tOut (.tmp d.sLen) (.tmp d.sLen)) (some d.sMk)
 l1 : d.R1.size = 4
 p1b : Piece Γ d.nt d.R1 (d.R1.toList.drop 3) T00 (frB d) .nil fun _ st => st.fr.get 0 = some (hdS 0 d.ks) ∧ st.fr.get d.sOut = some (glS)
 p2 : Piece Γ d.nt d.R2 d.R2.toList T00 (frC d) .nil fun _ st => st.fr.get 0 = some (hdS 0 d.ks) ∧ st.fr.get d.sOut = some (glS) ∧ st.fr.get d.sI = some (.c (.int .i64 (.lit 0)))
 p3 : Piece Γ d.nt d.R3 d.R3.toList T00 (frH d) .nil fun T st => st.fr.get 0 = some (hdS 0 d.ks) ∧ st.fr.get d.sOut = some (glS) ∧ st.fr.get d.sI = some (.c (.int .i64 (.reg 1))) ∧
  st.fr.get d.sC = some (.c (.bool (.reg 3))) ∧ T.defs.get 2 = some ⟨62, [.reg 0]⟩ ∧ T.defs.get 3 = some ⟨15, [.reg 1, .reg 2]⟩
 p5 : Piece Γ d.nt d.R5 (d.R5.toList.take d.m) T50 (frH d) fa50 fun T st => st.fr.get 0 = some (hdS 0 d.ks) ∧ st.fr.get d.sOut = some (glS) ∧ st.fr.get d.sI = some (.c (.int .i64 (.reg 1))) ∧
  st.fr.get d.sHdr = some (glS) ∧ st.fr.get d.sIx = some (.c (.int .i64 (.reg 1))) ∧ elChkV T d.ks (st.fr.get d.sVal) = true
 l5 : d.R5.size = d.m + 2
 o5a : Op3 d.R5 d.m (.indexAddr d.tOut (.tmp d.sHdr) (.tmp d.sIx)) (some d.sAddr)
 o5b : Op3 d.R5 (d.m + 1) (.store d.tEl (.tmp d.sAddr) (.tmp d.sVal)) none
 p4 : Piece Γ d.nt d.R4 d.R4.toList T00 (frH d) .nil fun T st => st.fr.get 0 = some (hdS 0 d.ks) ∧ st.fr.get d.sOut = some (glS) ∧ st.fr.get d.sI = some (.c (.int .i64 (.reg 2))) ∧
  T.defs.get 2 = some ⟨31, [.lit 3, .reg 1, .lit 1]⟩
 p6 : Piece Γ d.nt d.R6 d.R6.toList T00 (frZ d) .nil fun _ st => ∃ s, F.results.toList = [.tmp s] ∧ st.fr.get s = some (glS) ∧ s < 100000
section
variable {P : Program} {Γ : Ctx} {ρ : Nat → Int}
theorem kindSC_KC {μ : Mu} {k : Nat} {x : X} {v : Value} (hk : k ≤ 10) (h : (kindSC k x).rel ρ μ v) : KC k (x.ev ρ) v := by
 unfold kindSC at h
 split at h
 · obtain ⟨b, rfl, e⟩ := h; exact .inr (.inl ⟨rfl, b, rfl, e⟩)
 · obtain ⟨b, rfl, e⟩ := h; exact .inr (.inr (.inl ⟨rfl, b, rfl, e⟩))
 · exact .inr (.inr (.inr ⟨rfl, h⟩))
 · rename_i h8 h9 h10
   have h8 : k ≠ 8 := fun e => h8 e
   have h9 : k ≠ 9 := fun e => h9 e
   have h10 : k ≠ 10 := fun e => h10 e
   exact .inl ⟨by omega, h⟩
theorem elChk_spec {T : Tab} (hs : Sat ρ T) {ks : List Nat} {els : List (List Int)} {i : Nat} (h0 : ρ 0 = encE els) (h1 : ρ 1 = (i : Nat)) {μ : Mu} : ∀ {l : List SC} {o : Nat} {vs : List Value}, elChk T ks o l = true → cellsRel ρ μ l vs →
  o + vs.length = ks.length ∧ ∀ c, c < vs.length → ∃ v, vs[c]? = some v ∧ KC (ks.getD (o + c) 0) (cellE els i (o + c)) v
 | [], o, [], h, _ => ⟨Nat.eq_of_beq_eq_true h, fun c hc => by simp at hc⟩
 | s :: l, o, v :: vs, h, hr => by
  unfold elChk at h
  split at h
  · rename_i k r hk hsr
    split at h
    · rename_i d hd
      simp only [Bool.and_eq_true] at h
      obtain ⟨a1, a2, a3, a4⟩ := h
      obtain ⟨b1, b2⟩ := elChk_spec hs h0 h1 a4 hr.2
      refine ⟨by simp only [List.length_cons]; omega, fun c hc => ?_⟩
      cases c with
      | zero =>
       refine ⟨v, rfl, ?_⟩
       have e := scBeq_eq a2
       have hv := hr.1
       rw [e] at hv
       have := kindSC_KC (Nat.le_of_ble_eq_true a1) hv
       rw [show ks.getD (o + 0) 0 = k by simp [List.getD_eq_getElem?_getD, hk]]
       have er : (X.reg r).ev ρ = cellE els i (o + 0) := by
        show ρ r = _
        rw [hs r d hd, D.beq_eq a3]
        show cellE (decE (ρ 0)) (ρ 1) ((o : Nat) : Int).toNat = _
        rw [h0, decE_enc, h1]; rfl
       rw [← er]; exact this
      | succ c =>
       obtain ⟨u, hu, hkc⟩ := b2 c (by simpa using hc)
       refine ⟨u, by simpa using hu, ?_⟩
       rw [show o + (c + 1) = o + 1 + c by omega]; exact hkc
    · cases h
  · cases h
 | [], _, _ :: _, _, hr => hr.elim
 | _ :: _, _, [], _, hr => hr.elim
theorem put_get {a : Act} {t : Nat} {v : Value} (h : t < a.tmps.size) : (a.put (some t) v).tmps.getD t undef = v := by
 simp [Act.put, Array.getD, h]
theorem put_ne {a : Act} {t s : Nat} {v : Value} (h : s ≠ t) : (a.put (some t) v).tmps.getD s undef = a.tmps.getD s undef := by
 simp only [Act.put, Array.getD_eq_getD_getElem?, Array.getElem?_setIfInBounds]
 rw [if_neg (by omega)]
theorem ofList2 {α : Type} {i j : Nat} {x y : α} {t : Nat} {s : α} (h : (Tr.ofList fuelT [(i, x), (j, y)]).get t = some s) : (t = i ∧ s = x) ∨ (t = j ∧ s = y) := by
 rcases Tr.get_set_some _ _ _ _ _ _ h with ⟨rfl, rfl⟩ | ⟨_, h⟩
 · exact .inl ⟨rfl, rfl⟩
 · rcases Tr.get_set_some _ _ _ _ _ _ h with ⟨rfl, rfl⟩ | ⟨_, h⟩
   · exact .inr ⟨rfl, rfl⟩
   · cases h
theorem ofList1 {α : Type} {i : Nat} {x : α} {t : Nat} {s : α} (h : (Tr.ofList fuelT [(i, x)]).get t = some s) : t = i ∧ s = x := by
 rcases Tr.get_set_some _ _ _ _ _ _ h with ⟨rfl, rfl⟩ | ⟨_, h⟩
 · exact ⟨rfl, rfl⟩
 · cases h
theorem ofList3 {α : Type} {i j k : Nat} {x y z : α} {t : Nat} {s : α} (h : (Tr.ofList fuelT [(i, x), (j, y), (k, z)]).get t = some s) : (t = i ∧ s = x) ∨ (t = j ∧ s = y) ∨ (t = k ∧ s = z) := by
 rcases Tr.get_set_some _ _ _ _ _ _ h with ⟨rfl, rfl⟩ | ⟨_, h⟩
 · exact .inl ⟨rfl, rfl⟩
 · exact .inr (ofList2 h)
def Filled (w : World) (b e : Nat) (ks : List Nat) (els : List (List Int)) (n : Nat) : Prop :=
 ∃ cs : Array Value, w.heap[b]? = some (.cells cs e (0, 0)) ∧ cs.size = els.length * ks.length ∧
  ∀ j c, j < n → c < ks.length → ∃ v, cs[j * ks.length + c]? = some v ∧ KC (ks.getD c 0) (cellE els j c) v
theorem Filled.lst {w : World} {b e : Nat} {ks : List Nat} {els : List (List Int)} (h : Filled w b e ks els els.length) : LstAt w.heap (b, encP 0 ks els) := by
 obtain ⟨cs, h1, _, h3⟩ := h
 exact ⟨0, ks, els, rfl, fun _ => ⟨cs, e, (0, 0), h1, fun i c hi hc => by rw [Nat.zero_add]; exact h3 i c hi hc⟩⟩
theorem Filled.hdr {w : World} {b e : Nat} {ks : List Nat} {els : List (List Int)} {n : Nat} (h : Filled w b e ks els n) : LstAt w.heap (b, encP 0 [] els) := by
 obtain ⟨cs, h1, _, _⟩ := h
 exact ⟨0, [], els, rfl, fun _ => ⟨cs, e, (0, 0), h1, fun i c hi hc => absurd hc (Nat.not_lt_zero c)⟩⟩
theorem Filled.below {w w' : World} {b e : Nat} {ks : List Nat} {els : List (List Int)} {n : Nat} (h : Filled w b e ks els n) (hb : Below w.heap.size w w') : Filled w' b e ks els n := by
 obtain ⟨cs, h1, h2, h3⟩ := h
 exact ⟨cs, by rw [hb.block b (Array.getElem?_eq_some_iff.1 h1).1]; exact h1, h2, h3⟩
theorem LstAt.below {w w' : World} {p : Nat × Nat} (h : LstAt w.heap p) (hb : Below w.heap.size w w') : LstAt w'.heap p := h.mono fun hf => hb.block _ (h.lt hf)
end
end Go.Sx

namespace Go.Sx
open Go.RowKit
section
variable {P : Program} {Γ : Ctx}
theorem region_piece (hΓ : Γ.ok P) (hsum : ∀ f s, Γ.summ f = some s → SummOK P f s) {nt id : Nat} {R : Array Oper} {T0 : Tab} {fr0 : Tr SV} {fa : Tr Bool} {C : Tab → St → Prop}
  (hp : Piece Γ nt R R.toList T0 fr0 fa C) {p : Nat × Nat} {L i : Int} {a : Act} {w : World} (hlp : LstAt w.heap p) (r : Nat × Nat)
  (hd : a.defers = []) (hsz : a.tmps.size = nt)
  (hfr : ∀ ρ : Nat → Int, ρ 0 = L → ρ 1 = i → ∀ t s, fr0.get t = some s → s.rel ρ (mu2 p r) (a.tmps.getD t undef))
  (hfa : ∀ ρ : Nat → Int, ρ 0 = L → ρ 1 = i → Sat ρ T0 → Facts ρ fa) {K : Act → World → Prop} {Q : Exit → Act → World → Prop}
  (hK : ∀ T1 st1, C T1 st1 → ∀ (ρ : Nat → Int) μ' a' w', ρ 0 = L → ρ 1 = i → Sat ρ T1 → Sub (mu2 p r) μ' → a'.defers = [] → a'.tmps.size = nt →
   (∀ t s, st1.fr.get t = some s → s.rel ρ μ' (a'.tmps.getD t undef)) → Below w.heap.size w w' → K a' w') :
  (Code.region id R false).wp P (Exit.then K Q) a w := by
 refine wp_region ?_
 have := piece_wp hΓ hsum hp (k := 0) (fun j _ => by simp) hlp r hd hsz hfr hfa (Q := Exit.then K Q) (l2 := []) (fun T1 st1 hC ρ μ' a' w' h0 h1 h2 h3 h4 h5 h6 h7 => hK T1 st1 hC ρ μ' a' w' h0 h1 h2 h3 h4 h5 h6 h7)
 rw [List.append_nil, ← List.range_eq_range'] at this
 simpa using this
theorem T50_sat {ρ : Nat → Int} (hs : Sat ρ T50) : ρ 2 = opF 62 [ρ 0] ∧ ρ 3 = opF 15 [ρ 1, ρ 2] ∧ ρ 4 = opF 15 [ρ 1, 0] := by
 have hb : ∀ i, i < 10 → i + 1 < 2 ^ fuelT := fun i hi => by unfold fuelT; omega
 refine ⟨hs 2 ⟨62, [.reg 0]⟩ ?_, hs 3 ⟨15, [.reg 1, .reg 2]⟩ ?_, hs 4 ⟨15, [.reg 1, .lit 0]⟩ ?_⟩
 · simp only [T50, Tr.ofList]
   exact Tr.get_set_same _ _ _ _ (hb 2 (by omega))
 · simp only [T50, Tr.ofList]
   rw [Tr.get_set_ne _ _ _ _ _ (hb 2 (by omega)) (by omega)]
   exact Tr.get_set_same _ _ _ _ (hb 3 (by omega))
 · simp only [T50, Tr.ofList]
   rw [Tr.get_set_ne _ _ _ _ _ (hb 2 (by omega)) (by omega), Tr.get_set_ne _ _ _ _ _ (hb 3 (by omega)) (by omega)]
   exact Tr.get_set_same _ _ _ _ (hb 4 (by omega))
theorem below_trans {w1 w2 w3 : World} (h : Below w1.heap.size w1 w2) (k : Below w2.heap.size w2 w3) : Below w1.heap.size w1 w3 :=
 ⟨k.os.trans h.os, k.tape.trans h.tape, k.output.trans h.output, Nat.le_trans h.size k.size, fun j hj => (k.block j (Nat.lt_of_lt_of_le hj h.size)).trans (h.block j hj)⟩
structure HeadAt (d : MkD) (els : List (List Int)) (b off bo : Nat) (W : World) (i : Nat) (a : Act) (w : World) : Prop where
 defers : a.defers = []
 size : a.tmps.size = d.nt
 h0 : Hdr b off els.length (a.tmps.getD 0 undef)
 h3 : Ex1 bo els.length (a.tmps.getD d.sOut undef)
 hi : a.tmps.getD d.sI undef = .int .i64 (i : Nat)
 bel : Below W.heap.size W w
 lst : LstAt w.heap (b, encP off d.ks els)
 fill : Filled w bo d.e d.ks els i
 le : i ≤ els.length
theorem Below.to {B B' : Nat} {w w' : World} (h : Below B w w') (hb : B' ≤ B) : Below B' w w' := ⟨h.os, h.tape, h.output, h.size, fun k hk => h.block k (by omega)⟩
theorem frH_rel {d : MkD} {els : List (List Int)} {b off bo i : Nat} {ρ : Nat → Int} {a : Act} (hn : els.length ≤ 1048576) (r0 : ρ 0 = encE els) (r1 : ρ 1 = (i : Nat)) (h0 : Hdr b off els.length (a.tmps.getD 0 undef))
  (h3 : Ex1 bo els.length (a.tmps.getD d.sOut undef)) (hi : a.tmps.getD d.sI undef = .int .i64 (i : Nat)) :
  ∀ t s, (frH d).get t = some s → s.rel ρ (mu2 (b, encP off d.ks els) (bo, els.length)) (a.tmps.getD t undef) := by
 intro t s hs
 rcases ofList3 hs with ⟨rfl, rfl⟩ | ⟨rfl, rfl⟩ | ⟨rfl, rfl⟩
 · exact hdS_to r0 h0
 · exact hdS_to1 hn r0 h3
 · show a.tmps.getD d.sI undef = Value.int .i64 (ρ 1)
   rw [hi, r1]
theorem maker_round (hΓ : Γ.ok P) (hsum : ∀ f s, Γ.summ f = some s → SummOK P f s) {F : Func} {d : MkD} (M : MkOK Γ F d) {els : List (List Int)} {b off bo : Nat} {W : World} (hn : els.length ≤ 1048576) (hbo : W.heap.size ≤ bo)
  (hbb : els ≠ [] → b < W.heap.size) {K : Act → World → Prop} {Q : Exit → Act → World → Prop} {i : Nat} {a : Act} {w : World} (H : HeadAt d els b off bo W i a w)
  (hgo : ∀ a' w', HeadAt d els b off bo W (i + 1) a' w' → K a' w') (hout : ∀ a' w', HeadAt d els b off bo W els.length a' w' → Q (.exit d.b0) a' w') :
  d.B.wp P (Exit.then K Q) a w := by
 refine wp_flat ?_
 rw [M.fB]
 -- the test
 refine region_piece hΓ hsum M.p3 H.lst (bo, els.length) H.defers H.size (L := encE els) (i := (i : Nat)) (fun ρ r0 r1 => frH_rel hn r0 r1 H.h0 H.h3 H.hi) (fun _ _ _ _ r b h => by cases h) ?_
 rintro T1 st1 ⟨c0, c3, ci, cc, t2, t3⟩ ρ μ' a1 w1 r0 r1 hs hsub hd1 hsz1 hfr1 hb1
 have k0 := hdS_of hsub (hfr1 _ _ c0)
 have k3 := hdS_of1 r0 hsub (hfr1 _ _ c3)
 have ki : a1.tmps.getD d.sI undef = .int .i64 (i : Nat) := by
  have : a1.tmps.getD d.sI undef = Value.int .i64 (ρ 1) := hfr1 _ _ ci
  rw [this, r1]
 have kc : a1.eval (.tmp d.sC) = .bool (decide ((i : Int) < (els.length : Nat))) := by
  have : a1.tmps.getD d.sC undef = Value.bool (ρ 3 == 1) := hfr1 _ _ cc
  show a1.tmps.getD d.sC undef = _
  rw [this, hs 3 _ t3]
  show Value.bool (b2i (decide (ρ 1 < ρ 2)) == 1) = _
  rw [b2i_eq, hs 2 _ t2, r1]
  show Value.bool (decide ((i : Int) < ((min (decE (ρ 0)).length 9223372036854775807 : Nat) : Int))) = _
  rw [r0, decE_enc, Nat.min_eq_left (by omega)]
 have bel1 := below_trans H.bel hb1
 have lst1 := H.lst.below hb1
 have fill1 := H.fill.below hb1
 show (Code.cond (.tmp d.sC) .skip (.exit d.b0)).wp P _ a1 w1
 by_cases hlt : i < els.length
 · refine wp_cond_true (by rw [kc, decide_eq_true (by omega)]) (wp_skip ?_)
   show (Code.block d.b1 (.region d.i5 d.R5 false)).wp P _ a1 w1
   refine wp_block (wp_region ?_)
   have hne : els ≠ [] := fun e => by rw [e] at hlt; exact absurd hlt (Nat.not_lt_zero _)
   have hlen : (d.R5.toList.take d.m).length = d.m := by
    rw [List.length_take, Array.length_toList, M.l5]; omega
   have hrange : List.range d.R5.size = List.range' 0 (d.R5.toList.take d.m).length ++ [d.m, d.m + 1] := by
    rw [hlen, M.l5, List.range_eq_range', show d.m + 2 = d.m + (1 + 1) by omega, ← List.range'_append_1, Nat.zero_add]; rfl
   rw [hrange]
   refine piece_wp hΓ hsum M.p5 (k := 0) (fun j hj => ?_) lst1 (bo, els.length) hd1 hsz1 (L := encE els) (i := (i : Nat)) (fun ρ r0 r1 => frH_rel hn r0 r1 k0 k3 ki) (fun ρ r0 r1 hs => ?_) ?_
   · rw [hlen] at hj
     rw [List.getElem?_take_of_lt hj, Nat.zero_add]; simp
   · obtain ⟨e2, e3, e4⟩ := T50_sat hs
     intro r v hv
     rcases ofList2 hv with ⟨rfl, rfl⟩ | ⟨rfl, rfl⟩
     · rw [e3, e2]
       show (b2i (decide (ρ 1 < ((min (decE (ρ 0)).length 9223372036854775807 : Nat) : Int))) == 1) = true
       rw [b2i_eq, r0, decE_enc, r1, Nat.min_eq_left (by omega)]
       exact decide_eq_true (by omega)
     · rw [e4]
       show (b2i (decide (ρ 1 < 0)) == 1) = false
       rw [b2i_eq, r1]
       exact decide_eq_false (by omega)
   rintro T2 st2 ⟨d0, d3, di, dh, dx, dv⟩ ρ2 μ2 a2 w2 q0 q1 hs2 hsub2 hd2 hsz2 hfr2 hb2
   have m0 := hdS_of hsub2 (hfr2 _ _ d0)
   have m3 := hdS_of1 q0 hsub2 (hfr2 _ _ d3)
   have mh := hdS_of1 q0 hsub2 (hfr2 _ _ dh)
   have mi : a2.tmps.getD d.sI undef = .int .i64 (i : Nat) := by
    have : a2.tmps.getD d.sI undef = Value.int .i64 (ρ2 1) := hfr2 _ _ di
    rw [this, q1]
   have mx : a2.tmps.getD d.sIx undef = .int .i64 (i : Nat) := by
    have : a2.tmps.getD d.sIx undef = Value.int .i64 (ρ2 1) := hfr2 _ _ dx
    rw [this, q1]
   -- the element
   obtain ⟨cells, hcl, hch, hcr⟩ : ∃ l, (∃ v, st2.fr.get d.sVal = some v ∧ v.cells = some l) ∧ elChk T2 d.ks 0 l = true ∧ cellsRel ρ2 μ2 l (a2.tmps.getD d.sVal undef).cells.toList := by
    unfold elChkV at dv
    split at dv
    · rename_i v hv
      split at dv
      · rename_i l hl
        exact ⟨l, ⟨v, hv, hl⟩, dv, SV.cells_rel (hfr2 _ _ hv) hl⟩
      · cases dv
    · cases dv
   obtain ⟨hel1, hel2⟩ := elChk_spec hs2 q0 q1 hch hcr
   rw [Nat.zero_add] at hel1
   generalize hx : a2.tmps.getD d.sVal undef = x at hcr hel1 hel2
   have bel2 := below_trans bel1 hb2
   have lst2 := lst1.below hb2
   obtain ⟨cs, hcs, hcsz, hcf⟩ := fill1.below hb2
   obtain ⟨io, hio, hiod⟩ := M.tyOut
   obtain ⟨ie, hie, hiez⟩ := M.tyE
   obtain ⟨il, hil, hilz⟩ := M.tyEl
   have okOut := hΓ.ty _ _ hio
   have okEl := hΓ.ty _ _ hil
   -- the address
   obtain ⟨oa, ha1, ha2, ha3, ha4⟩ := M.o5a
   have haddr : (Instr.indexAt d.tOut (a2.tmps.getD d.sHdr undef) (.int .i64 (i : Nat))).run P w2 = .ok (.pointer (some ⟨bo, i * d.ks.length, none⟩)) w2 := by
    · rw [show a2.tmps.getD d.sHdr undef = .slice (some ⟨bo, 0, none⟩) els.length els.length from mh]
      have hsim := indexAddrS_sound (ρ := ρ2) (Γ := Γ) (P := P) hΓ (t := d.tOut) (x := .c (.slc 0 0 els.length els.length)) (ix := .c (.int .i64 (.lit (i : Nat)))) (c := .ptr 0 (0 + i * d.ks.length))
       (by
        have hnn : natOf (.c (.int .i64 (.lit ((i : Nat) : Int)))) = some i := rfl
        have hbl : Nat.blt i els.length = true := Nat.ble_eq_true_of_le hlt
        have hsz : sizeT Γ d.e = some d.ks.length := by unfold sizeT; rw [hie]; simp only [hiez]
        unfold indexAddrS; rw [hio, hnn]; simp only [hiod, hbl, hsz]) (μ := fun j => if j = 0 then some (bo, 0) else none) (xv := .slice (some ⟨bo, 0, none⟩) els.length els.length) (iv := .int .i64 (i : Nat)) ⟨(bo, 0), if_pos rfl, rfl⟩ rfl w2
      obtain ⟨u, hu, bb, hb', hur⟩ := hsim
      have hb' : bb = (bo, 0) := by
       have : (if (0 : Nat) = 0 then some (bo, 0) else none) = some bb := hb'
       rw [if_pos rfl] at this
       exact (Option.some.inj this).symm
      subst hb'
      rw [hu, hur, Nat.zero_add]
   have ea : (execOp a2.eval oa).run P w2 = .ok (.value (.pointer (some ⟨bo, i * d.ks.length, none⟩))) w2 := by
    have e1 : a2.eval (.tmp d.sHdr) = a2.tmps.getD d.sHdr undef := rfl
    have e2 : a2.eval (.tmp d.sIx) = .int .i64 (i : Nat) := mx
    have h3 : (Instr.indexAt d.tOut (a2.eval (.tmp d.sHdr)) (a2.eval (.tmp d.sIx))).run P w2 = .ok (.pointer (some ⟨bo, i * d.ks.length, none⟩)) w2 := by rw [e1, e2]; exact haddr
    simp [execOp, ha2, h3]
   refine wpOps_one ha1 ha3 ea ?_
   rw [ha4]
   -- the store
   obtain ⟨ob, hb1', hb2', hb3', hb4'⟩ := M.o5b
   have hlt' := M.lt
   have hsz3 : (a2.put (some d.sAddr) (.pointer (some ⟨bo, i * d.ks.length, none⟩))).tmps.size = d.nt := by simp [Act.put, hsz2]
   have va : (a2.put (some d.sAddr) (.pointer (some ⟨bo, i * d.ks.length, none⟩))).eval (.tmp d.sAddr) = .pointer (some ⟨bo, i * d.ks.length, none⟩) := put_get (by rw [hsz2]; exact hlt'.2.1)
   have vx : (a2.put (some d.sAddr) (.pointer (some ⟨bo, i * d.ks.length, none⟩))).eval (.tmp d.sVal) = x := by
    rw [← hx]; exact put_ne (fun e => hlt'.2.2.2.2.2.2 e.symm)
   have hxs : x.cells.size = d.ks.length := by rw [← Array.length_toList]; exact hel1
   have hroom : i * d.ks.length + d.ks.length ≤ cs.size := by
    rw [hcsz, ← Nat.succ_mul]; exact Nat.mul_le_mul_right _ hlt
   have hst := run_storeCells_at (P := P) bo (i * d.ks.length) d.e x.cells.toList 0 cs w2 hcs (by rw [Array.length_toList, hxs]; omega) (cellsRel_one hcr)
   have es : (storeVar d.tEl ⟨bo, i * d.ks.length, none⟩ x).run P w2 = .ok () (w2.setRow bo (cs.toList.take (i * d.ks.length + 0) ++ x.cells.toList ++ cs.toList.drop (i * d.ks.length + 0 + x.cells.toList.length)).toArray) := by
    have hsize : x.cells.size = il.size := by rw [hxs, hilz]
    simp only [storeVar, Sem.run_bind, sizeOf_run okEl, Result.andThen_ok, hsize]
    simp [hst]
   have eb : (execOp (a2.put (some d.sAddr) (.pointer (some ⟨bo, i * d.ks.length, none⟩))).eval ob).run P w2 = .ok .skip (w2.setRow bo (cs.toList.take (i * d.ks.length + 0) ++ x.cells.toList ++ cs.toList.drop (i * d.ks.length + 0 + x.cells.toList.length)).toArray) := by
    simp [execOp, hb2', va, vx, Instr.storeAt, Instr.sureAddr, es]
   refine wpOps_skip hb1' hb3' eb ?_
   rw [hb4']
   generalize hw3 : w2.setRow bo (cs.toList.take (i * d.ks.length + 0) ++ x.cells.toList ++ cs.toList.drop (i * d.ks.length + 0 + x.cells.toList.length)).toArray = w3
   generalize ha3' : a2.put (some d.sAddr) (.pointer (some ⟨bo, i * d.ks.length, none⟩)) = a3 at *
   have n0 : Hdr b off els.length (a3.tmps.getD 0 undef) := by rw [← ha3', put_ne (fun e => hlt'.2.2.2.1 e.symm)]; exact m0
   have n3 : Ex1 bo els.length (a3.tmps.getD d.sOut undef) := by rw [← ha3', put_ne (fun e => hlt'.2.2.2.2.1 e.symm)]; exact m3
   have ni : a3.tmps.getD d.sI undef = .int .i64 (i : Nat) := by rw [← ha3', put_ne (fun e => hlt'.2.2.2.2.2.1 e.symm)]; exact mi
   have nd : a3.defers = [] := by rw [← ha3']; exact hd2
   have bel3 : Below W.heap.size W w3 := by
    rw [← hw3]
    refine ⟨bel2.os, bel2.tape, bel2.output, by simpa [World.setRow] using bel2.size, fun k hk => ?_⟩
    rw [setRow_other _ _ _ _ (by omega)]
    exact bel2.block k hk
   have lst3 : LstAt w3.heap (b, encP off d.ks els) := by
    rw [← hw3]
    exact lst2.mono fun _ => setRow_other _ _ _ _ (by have := hbb hne; simp only; omega)
   have fill3 : Filled w3 bo d.e d.ks els (i + 1) := by
    refine ⟨_, by rw [← hw3]; exact setRow_heap _ _ _ _ _ _ hcs, ?_, ?_⟩
    · simp only [List.size_toArray, List.length_append, List.length_take, List.length_drop, Array.length_toList, hxs]
      rw [← hcsz]; omega
    · intro j c hj hc
      simp only [List.getElem?_toArray, Nat.add_zero]
      have hkl : (cs.toList.take (i * d.ks.length)).length = i * d.ks.length := by
       rw [List.length_take, Array.length_toList]; omega
      by_cases hji : j < i
      · obtain ⟨v, hv, hkc⟩ := hcf j c hji hc
        refine ⟨v, ?_, hkc⟩
        have hpos : j * d.ks.length + c < i * d.ks.length := by
         have : (j + 1) * d.ks.length ≤ i * d.ks.length := Nat.mul_le_mul_right _ hji
         rw [Nat.succ_mul] at this; omega
        rw [List.append_assoc, List.getElem?_append_left (by rw [hkl]; exact hpos), List.getElem?_take_of_lt hpos]
        simpa using hv
      · have e : j = i := by omega
        subst e
        obtain ⟨v, hv, hkc⟩ := hel2 c (by rw [hel1]; exact hc)
        rw [Nat.zero_add] at hkc
        refine ⟨v, ?_, hkc⟩
        rw [List.append_assoc, List.getElem?_append_right (by rw [hkl]; omega), hkl, Nat.add_sub_cancel_left, List.getElem?_append_left (by rw [hel1]; exact hc)]
        exact hv
   -- the counter
   show (Code.region d.i4 d.R4 false).wp P (Exit.then (Exit.then K Q .normal) (Exit.then K Q)) a3 w3
   refine region_piece hΓ hsum M.p4 lst3 (bo, els.length) nd hsz3 (L := encE els) (i := (i : Nat)) (fun ρ r0 r1 => frH_rel hn r0 r1 n0 n3 ni) (fun _ _ _ _ r b h => by cases h) ?_
   rintro T4 st4 ⟨f0, f3, fi, ft⟩ ρ4 μ4 a4 w4 s0 s1 hs4 hsub4 hd4 hsz4 hfr4 hb4
   refine hgo a4 w4 ⟨hd4, hsz4, hdS_of hsub4 (hfr4 _ _ f0), hdS_of1 s0 hsub4 (hfr4 _ _ f3), ?_, below_trans bel3 hb4, lst3.below hb4, fill3.below hb4, hlt⟩
   have : a4.tmps.getD d.sI undef = Value.int .i64 (ρ4 2) := hfr4 _ _ fi
   rw [this, hs4 2 _ ft]
   show Value.int .i64 (IntKind.i64.wrap (ρ4 1 + 1)) = _
   rw [s1, Go.IntWalk.i64_in _ (by omega)]
   rfl
 · refine wp_cond_false (by rw [kc, decide_eq_false (by omega)]) (wp_exit ?_)
   have e : i = els.length := by have := H.le; omega
   subst e
   exact hout a1 w1 ⟨hd1, hsz1, k0, k3, ki, bel1, lst1, fill1, Nat.le_refl _⟩
end
end Go.Sx

namespace Go.Sx
open Go.RowKit
section
variable {P : Program} {Γ : Ctx}
theorem maker_rounds (hΓ : Γ.ok P) (hsum : ∀ f s, Γ.summ f = some s → SummOK P f s) {F : Func} {d : MkD} (M : MkOK Γ F d) {els : List (List Int)} {b off bo : Nat} {W : World} (hn : els.length ≤ 1048576) (hbo : W.heap.size ≤ bo)
  (hbb : els ≠ [] → b < W.heap.size) {Q : Exit → Act → World → Prop} (hout : ∀ a' w', HeadAt d els b off bo W els.length a' w' → Q (.exit d.b0) a' w') :
  ∀ (n i : Nat) (a : Act) (w : World), els.length - i < n → HeadAt d els b off bo W i a w → Code.rounds P d.B Q n a w
 | 0, i, a, w, h, _ => by omega
 | n + 1, i, a, w, h, H => by
  rw [rounds_succ]
  refine maker_round hΓ hsum M hn hbo hbb H (fun a' w' H' => maker_rounds hΓ hsum M hn hbo hbb hout n (i + 1) a' w' ?_ H') hout
  have := H'.le; omega
theorem maker_ok (hΓ : Γ.ok P) (hsum : ∀ f s, Γ.summ f = some s → SummOK P f s) {f : Nat} {F : Func} (hF : P.funcs[f]? = some F) (hname : (F.name == "runtime.NumGoroutine") = false) {d : MkD} (M : MkOK Γ F d) :
  MakeOK P f d.ks d.e := by
 intro w b off els v hl hh hn
 refine callOK_of hΓ hF hname M.body (calls_of_wp hF M.body (wp_flat ?_))
 rw [M.fc]
 have hbb : els ≠ [] → b < w.heap.size := fun hne => hl.lt ⟨off, d.ks, els, rfl, hne⟩
 have hr0 : ∀ h : Array Obj, LstAt h (0, encP 0 [] []) := fun h => ⟨0, [], [], rfl, fun h => absurd rfl h⟩
 have hnt := M.nt
 have hlt := M.lt
 have hsz0 : ((#[v] : Array Value) ++ Array.replicate (F.ntmps - (#[v] : Array Value).size) undef).size = d.nt := by simp; omega
 have hv0 : ((#[v] : Array Value) ++ Array.replicate (F.ntmps - (#[v] : Array Value).size) undef).getD 0 undef = v := by simp [Array.getD]
 refine region_piece hΓ hsum M.p0 hl (0, 0) (a := ⟨(#[v] : Array Value) ++ Array.replicate (F.ntmps - (#[v] : Array Value).size) undef, []⟩) rfl hsz0 (L := encE els) (i := 0) (fun ρ r0 _ t s hs => ?_) (fun _ _ _ _ r b h => by cases h) ?_
 · obtain ⟨rfl, rfl⟩ := ofList1 hs
   exact hdS_to r0 (by rw [hv0]; exact hh)
 rintro T1 st1 c0 ρ1 μ1 a1 w1 r0 r1 hs1 hsub1 hd1 hsz1 hfr1 hb1
 have k0 := hdS_of hsub1 (hfr1 _ _ c0)
 have lst1 := hl.below hb1
 show (Code.region d.i1 d.R1 false).wp P _ a1 w1
 refine wp_region ?_
 have hl2 : (d.R1.toList.take 2).length = 2 := by rw [List.length_take, Array.length_toList, M.l1]; rfl
 have hl3 : (d.R1.toList.drop 3).length = 1 := by rw [List.length_drop, Array.length_toList, M.l1]
 have hrange : List.range d.R1.size = List.range' 0 (d.R1.toList.take 2).length ++ (2 :: (List.range' 3 (d.R1.toList.drop 3).length ++ [])) := by
  rw [hl2, hl3, M.l1]; rfl
 rw [hrange]
 refine piece_wp hΓ hsum M.p1 (k := 0) (fun j hj => ?_) lst1 (0, 0) hd1 hsz1 (L := encE els) (i := 0) (fun ρ r0 _ t s hs => ?_) (fun _ _ _ _ r b h => by cases h) ?_
 · rw [hl2] at hj
   rw [List.getElem?_take_of_lt hj, Nat.zero_add]; simp
 · obtain ⟨rfl, rfl⟩ := ofList1 hs
   exact hdS_to r0 k0
 rintro T2 st2 ⟨d0, dl, dt⟩ ρ2 μ2 a2 w2 q0 q1 hs2 hsub2 hd2 hsz2 hfr2 hb2
 have m0 := hdS_of hsub2 (hfr2 _ _ d0)
 have lst2 := lst1.below hb2
 have bel2 := below_trans hb1 hb2
 have ml : a2.eval (.tmp d.sLen) = .int .i64 (els.length : Nat) := by
  have : a2.tmps.getD d.sLen undef = Value.int .i64 (ρ2 2) := hfr2 _ _ dl
  show a2.tmps.getD d.sLen undef = _
  rw [this, hs2 2 _ dt]
  show Value.int .i64 ((min (decE (ρ2 0)).length 9223372036854775807 : Nat) : Int) = _
  rw [q0, decE_enc, Nat.min_eq_left (by omega)]
 -- the new list
 obtain ⟨io, hio, hiod⟩ := M.tyOut
 obtain ⟨ie, hie, hiez⟩ := M.tyE
 obtain ⟨ud, hud, hok⟩ := (hΓ.ty _ _ hio).und
 rw [hiod] at hok
 have hok : ud = .slice d.e := hok
 subst hok
 obtain ⟨ni, z, hinf, hsize, hzero, _, hbytes⟩ := (hΓ.ty _ _ hie).inf
 obtain ⟨om, hm1, hm2, hm3, hm4⟩ := M.o1
 have hmake := run_make (P := P) w2 d.tOut d.e ni z hud hinf hzero .i64 .i64 (els.length : Nat) (els.length : Nat) (by omega) (Int.le_refl _) (by
  have h1 : ni.bytes * els.length ≤ 1048576 * 1048576 := Nat.mul_le_mul hbytes hn
  have h2 : ((ni.bytes * els.length : Nat) : Int) ≤ 281474976710656 := by omega
  rwa [Int.natCast_mul] at h2) (by omega)
 have hem : (execOp a2.eval om).run P w2 = .ok (.value (.slice (some ⟨w2.heap.size, 0, none⟩) els.length els.length)) (w2.alloc (.cells (madeCells z.cells (els.length * ni.size)) d.e)) := by
  simp only [Int.toNat_natCast] at hmake
  simp [execOp, hm2, ml, hmake]
 refine wpOps_one hm1 hm3 hem ?_
 rw [hm4]
 generalize hw3 : w2.alloc (.cells (madeCells z.cells (els.length * ni.size)) d.e) = w3
 have bel3' : Below w2.heap.size w2 w3 := by
  rw [← hw3]
  exact (Below.refl _ _).alloc (Nat.le_refl _) _
 have bel3 := below_trans bel2 bel3'
 have lst3 := lst2.below bel3'
 have fill3 : Filled w3 w2.heap.size d.e d.ks els 0 := by
  refine ⟨madeCells z.cells (els.length * ni.size), ?_, ?_, fun j c hj => by omega⟩
  · rw [← hw3]
    show (w2.heap.push _)[w2.heap.size]? = _
    simp
  · rw [size_madeCells, hsize, hiez]
 have hbo : w.heap.size ≤ w2.heap.size := bel2.size
 generalize w2.heap.size = bo at *
 generalize ha3 : a2.put (some d.sMk) (.slice (some ⟨bo, 0, none⟩) els.length els.length) = a3
 have n0 : Hdr b off els.length (a3.tmps.getD 0 undef) := by rw [← ha3, put_ne (fun e => hlt.2.2.1 e.symm)]; exact m0
 have n3 : Ex1 bo els.length (a3.tmps.getD d.sMk undef) := by
  rw [← ha3, put_get (by rw [hsz2]; exact hlt.1)]
  exact rfl
 have nd : a3.defers = [] := by rw [← ha3]; exact hd2
 have nsz : a3.tmps.size = d.nt := by rw [← ha3]; simp [Act.put, hsz2]
 refine piece_wp hΓ hsum M.p1b (k := 3) (fun j hj => ?_) lst3 (bo, els.length) nd nsz (L := encE els) (i := 0) (fun ρ r0 _ t s hs => ?_) (fun _ _ _ _ r b h => by cases h) ?_
 · rw [List.getElem?_drop]; simp
 · rcases ofList2 hs with ⟨rfl, rfl⟩ | ⟨rfl, rfl⟩
   · exact hdS_to r0 n0
   · exact hdS_to1 hn r0 n3
 rintro T4 st4 ⟨e0, e3⟩ ρ4 μ4 a4 w4 s0 s1 hs4 hsub4 hd4 hsz4 hfr4 hb4
 have o0 := hdS_of hsub4 (hfr4 _ _ e0)
 have o3 := hdS_of1 s0 hsub4 (hfr4 _ _ e3)
 -- the counter
 show (Code.region d.i2 d.R2 false).wp P _ a4 w4
 refine region_piece hΓ hsum M.p2 (lst3.below hb4) (bo, els.length) hd4 hsz4 (L := encE els) (i := 0) (fun ρ r0 _ t s hs => ?_) (fun _ _ _ _ r b h => by cases h) ?_
 · rcases ofList2 hs with ⟨rfl, rfl⟩ | ⟨rfl, rfl⟩
   · exact hdS_to r0 o0
   · exact hdS_to1 hn r0 o3
 rintro T5 st5 ⟨g0, g3, gi⟩ ρ5 μ5 a5 w5 t0 t1 hs5 hsub5 hd5 hsz5 hfr5 hb5
 -- the loop
 refine wp_block (wp_loop_rounds (els.length + 1) (maker_rounds hΓ hsum M hn hbo hbb ?_ (els.length + 1) 0 a5 w5 (by omega)
  ⟨hd5, hsz5, hdS_of hsub5 (hfr5 _ _ g0), hdS_of1 t0 hsub5 (hfr5 _ _ g3), hfr5 _ _ gi, below_trans (below_trans bel3 hb4) hb5, (lst3.below hb4).below hb5, (fill3.below hb4).below hb5, Nat.zero_le _⟩))
 intro a6 w6 H
 show Exit.inBlock d.b0 _ (.exit d.b0) a6 w6
 unfold Exit.inBlock
 simp only
 rw [if_pos trivial]
 show (Code.region d.i6 d.R6 false).wp P _ a6 w6
 refine region_piece hΓ hsum M.p6 H.lst (bo, els.length) H.defers H.size (L := encE els) (i := 0) (fun ρ r0 _ t s hs => ?_) (fun _ _ _ _ r b h => by cases h) ?_
 · obtain ⟨rfl, rfl⟩ := ofList1 hs
   exact hdS_to1 hn r0 H.h3
 rintro T7 st7 ⟨sr, hres, hsr, hsrl⟩ ρ7 μ7 a7 w7 u0 u1 hs7 hsub7 hd7 hsz7 hfr7 hb7
 refine wp_ret ?_
 have hrel := hfr7 _ _ hsr
 have hstr : StRel ρ7 (Base.all w7) (mu2 (b, encP off d.ks els) (bo, els.length)) ⟨d.nt, Tr.ofList fuelT [(sr, glS)], 2, .nil, .nil⟩ a7 w7 := by
  refine ⟨hd7, ⟨hsz7, fun t s hs => ?_⟩, ?_, fun _ _ h => by cases h⟩
  · obtain ⟨rfl, rfl⟩ := ofList1 hs
    exact hdS_to1 hn u0 (hdS_of1 u0 hsub7 hrel)
  · refine ⟨⟨rfl, rfl, rfl, Nat.le_refl _, fun _ _ => rfl⟩, (fun _ _ _ _ _ _ h => by cases h), (fun i h2 hi => ?_), (fun _ _ _ h => by cases h), (fun _ _ h => by cases h), (fun q pp hl hq => ?_), (fun q hq => ?_)⟩
    · have h2 : 2 ≤ i := h2; unfold mu2; rw [if_neg (by omega), if_neg (by omega)]
    · refine ⟨?_, fun _ _ _ _ h => by cases h⟩
      unfold mu2 at hq
      split at hq
      · cases hq; exact H.lst.below hb7
      · skip
        rw [if_neg (by unfold LB at hl; omega)] at hq
        cases hq
    · unfold mu2; have hq : 2 ≤ q := hq; rw [if_neg (by omega), if_neg (by unfold LB; omega)]
 have hrs : resultsS Γ ⟨d.nt, Tr.ofList fuelT [(sr, glS)], 2, .nil, .nil⟩ F.results.toList = some (glS) := by
  have hg : (Tr.ofList fuelT [(sr, glS)]).get sr = some (glS) := by
   simp only [Tr.ofList]
   exact Tr.get_set_same _ _ _ _ (Nat.lt_of_lt_of_le (Nat.succ_lt_succ hsrl) (by unfold fuelT; decide))
  have h1 : resultS Γ ⟨d.nt, Tr.ofList fuelT [(sr, glS)], 2, .nil, .nil⟩ (.tmp sr) = some (.one (.gl 0 [0] (.reg 0))) := by
   unfold resultS
   simp only [hg]
   rfl
  rw [hres]
  unfold resultsS resultsL resultsL
  rw [h1]
  rfl
 obtain ⟨x, hx, hxr⟩ := resultsS_sound hΓ hrs hstr
 obtain ⟨csf, f1, f2, f3⟩ := H.fill.below hb7
 exact ⟨hd7, x, hx, x, rfl, bo, csf, hdS_of1 u0 (Sub.refl _) hxr, f1, f2, f3, hbo, below_trans H.bel hb7⟩
end
end Go.Sx

namespace Go.Sx
noncomputable section
open Go.RowKit
/-! ### The arguments against a pattern -/
inductive Pl where
 | ls (q : Nat)
 | gl (i : Nat) (ks : List Nat) (x : X)
 | no (ks : List Nat)
structure US where
 σ : Tr X
 qs : List Pl
def plsOK (bs : Tr Blk) : List Pl → Bool
 | [] => true
 | .gl i ks x :: l =>
  (match bs.get i with
   | some B => cellsBeq B.cells [.many ks x]
   | none => false) && plsOK bs l
 | _ :: l => plsOK bs l
def uX (n : Nat) (u : US) (p a : X) : Option US :=
 match p with
 | .lit _ => match p.beq a with
  | true => some u
  | false => none
 | .reg r =>
  match Nat.blt r n with
  | true =>
   match u.σ.get r with
   | some y => match y.beq a with
    | true => some u
    | false => none
   | none => some ⟨u.σ.set fuelT r a, u.qs⟩
  | false => none
def uC (n : Nat) (u : US) : SC → SC → Option US
 | .bool x, .bool y => uX n u x y
 | .int k x, .int k' y => match Nat.beq (kindNo k) (kindNo k') with
  | true => uX n u x y
  | false => none
 | .flt .f32 x, .flt .f32 y => uX n u x y
 | .flt .f64 x, .flt .f64 y => uX n u x y
 | .ls q ks x, .ls q' ks' y =>
  match Nat.beq q u.qs.length && natsBeq ks ks' with
  | true => uX n ⟨u.σ, u.qs ++ [.ls q']⟩ x y
  | false => none
 | .ls q ks x, .gl i ks' y =>
  match Nat.beq q u.qs.length && natsBeq ks ks' with
  | true => uX n ⟨u.σ, u.qs ++ [.gl i ks' y]⟩ x y
  | false => none
 | .ls q ks x, .raw (.slice _ 0 _) =>
  match Nat.beq q u.qs.length with
  | true => uX n ⟨u.σ, u.qs ++ [.no ks]⟩ x (.lit 0)
  | false => none
 | .raw (.func (.func f) a b), .raw (.func (.func g) c d) =>
  match Nat.beq f g && ((a.isEmpty && b.isEmpty) && (c.isEmpty && d.isEmpty)) with
  | true => some u
  | false => none
 | _, _ => none
def uCs (n : Nat) : US → List SC → List SC → Option US
 | u, [], [] => some u
 | u, p :: l, a :: m =>
  match uC n u p a with
  | some u1 => uCs n u1 l m
  | none => none
 | _, _, _ => none
def uV (n : Nat) (u : US) : SV → SV → Option US
 | .w (.one p), .w (.one a) => uC n u p a
 | .w (.agg l), .w (.agg m) => uCs n u l m
 | _, _ => none
def uVs (n : Nat) : US → List SV → List SV → Option US
 | u, [], [] => some u
 | u, p :: l, a :: m =>
  match uV n u p a with
  | some u1 => uVs n u1 l m
  | none => none
 | _, _, _ => none
def smL (S : Sm) (n : Nat) (pat : List SV) : Summ := fun T st args =>
 match uVs n ⟨.nil, []⟩ pat args with
 | some u =>
  match Nat.ble u.qs.length (n + 10) && plsOK st.bs u.qs, instDs S.ds u.σ T with
  | true, some (T1, σ) =>
   match instVT σ st.fa T1 S.vt with
   | some vt => some (T1, vt)
   | none => none
  | _, _ => none
 | none => none
def runL (Γ : Ctx) (hn : Nat → Option Hint) (mks : Nat → Option MK) (F : Func) (n : Nat) (pat : List SV) (fa : Tr Bool) (T : Tab) : Option (Tab × Tree) :=
 match F.body with
 | some c => execX Γ hn mks 400 c T ⟨pat.length + (F.ntmps - pat.length), frameOf 0 pat, n + 10, .nil, fa⟩
 | none => none
def smRunL (Γ : Ctx) (hn : Nat → Option Hint) (F : Func) (n : Nat) (pat : List SV) (S : Sm) : Bool :=
 match runL Γ hn (fun _ => none) F n pat .nil ⟨n, .nil, .nil⟩ with
 | some (T, t) =>
  match goodTab n T, dsOK T S.ds, Nat.blt n maxReg with
  | true, true, true =>
   match vtree T (leafRes Γ F) t with
   | some vt => vtBeq vt S.vt
   | none => false
  | _, _, _ => false
 | none => false
section
variable {ρ : Nat → Int}
def US.le (u v : US) : Prop := (∀ r x, u.σ.get r = some x → v.σ.get r = some x) ∧ ∃ l, v.qs = u.qs ++ l
theorem US.le.refl (u : US) : u.le u := ⟨fun _ _ h => h, [], by simp⟩
theorem US.le.trans {a b c : US} (h : a.le b) (k : b.le c) : a.le c := by
 obtain ⟨h1, l, h2⟩ := h
 obtain ⟨k1, m, k2⟩ := k
 exact ⟨fun r x hr => k1 r x (h1 r x hr), l ++ m, by rw [k2, h2, List.append_assoc]⟩
def US.low (n : Nat) (u : US) : Prop := ∀ r x, u.σ.get r = some x → r < n
theorem uX_spec {n : Nat} (hn : n ≤ maxReg) {u u' : US} {p a : X} (h : uX n u p a = some u') : u.le u' ∧ u'.qs = u.qs ∧ (u.low n → u'.low n) ∧
  ∀ (v : US) (ρ' : Nat → Int), u'.le v → (∀ r x, v.σ.get r = some x → x.ev ρ = ρ' r) → p.ev ρ' = a.ev ρ := by
 unfold uX at h
 split at h
 · split at h
   · rename_i he
     cases h
     refine ⟨.refl _, rfl, fun h => h, fun v ρ' _ _ => ?_⟩
     rw [← X.beq_eq he]; rfl
   · cases h
 · rename_i r
   split at h
   · rename_i hr
     have hr : r < n := Nat.le_of_ble_eq_true hr
     split at h
     · rename_i y hy
       split at h
       · rename_i he
         cases h
         refine ⟨.refl _, rfl, fun h => h, fun v ρ' hle hv => ?_⟩
         rw [← X.beq_eq he]
         exact (hv r y (hle.1 r y hy)).symm
       · cases h
     · rename_i hy
       cases h
       have hb : r + 1 < 2 ^ fuelT := by unfold maxReg at hn; unfold fuelT; omega
       refine ⟨⟨fun s x hs => ?_, [], by simp⟩, rfl, fun hl s x hs => ?_, fun v ρ' hle hv => ?_⟩
       · have : s ≠ r := fun e => by rw [e, hy] at hs; cases hs
         show (u.σ.set fuelT r a).get s = some x
         rw [Tr.get_set_ne _ _ _ _ _ hb this]; exact hs
       · have hs : (u.σ.set fuelT r a).get s = some x := hs
         rcases Tr.get_set_some _ _ _ _ _ _ hs with ⟨rfl, _⟩ | ⟨_, hs⟩
         · exact hr
         · exact hl s x hs
       · exact (hv r a (hle.1 r a (Tr.get_set_same _ _ _ _ hb))).symm
   · cases h
def muQ (ρ : Nat → Int) (μ : Mu) (qs : List Pl) : Mu := fun i => if LB ≤ i then (match qs[i - LB]? with
 | some (.ls q) => μ (LB + q)
 | some (.gl j ks x) => (μ j).map fun b => (b.1, encP 0 ks (decE (x.ev ρ)))
 | some (.no ks) => some (0, encP 0 ks [])
 | none => none) else none
theorem uC_spec {n : Nat} (hn : n ≤ maxReg) {u u' : US} {p a : SC} (h : uC n u p a = some u') : u.le u' ∧ (u.low n → u'.low n) ∧
  ∀ (v : US) (ρ' : Nat → Int) (μ : Mu) (x : Value), u'.le v → (∀ r x, v.σ.get r = some x → x.ev ρ = ρ' r) → a.rel ρ μ x → p.rel ρ' (muQ ρ μ v.qs) x := by
 unfold uC at h
 split at h
 · obtain ⟨h1, _, h3, h4⟩ := uX_spec (ρ := ρ) hn h
   exact ⟨h1, h3, fun v ρ' μ x hle hv hx => by show x = .bool _; rw [h4 v ρ' hle hv]; exact hx⟩
 · split at h
   · rename_i hk
     obtain ⟨h1, _, h3, h4⟩ := uX_spec (ρ := ρ) hn h
     exact ⟨h1, h3, fun v ρ' μ x hle hv hx => by show x = .int _ _; rw [h4 v ρ' hle hv, kindNo_inj hk]; exact hx⟩
   · cases h
 · obtain ⟨h1, _, h3, h4⟩ := uX_spec (ρ := ρ) hn h
   exact ⟨h1, h3, fun v ρ' μ x hle hv hx => let ⟨b, e, hb⟩ := hx; ⟨b, e, by rw [h4 v ρ' hle hv]; exact hb⟩⟩
 · obtain ⟨h1, _, h3, h4⟩ := uX_spec (ρ := ρ) hn h
   exact ⟨h1, h3, fun v ρ' μ x hle hv hx => let ⟨b, e, hb⟩ := hx; ⟨b, e, by rw [h4 v ρ' hle hv]; exact hb⟩⟩
 · rename_i q ks x' q' ks' y
   split at h
   · rename_i hk
     simp only [Bool.and_eq_true] at hk
     obtain ⟨h1, h2, h3, h4⟩ := uX_spec (ρ := ρ) hn h
     have hq := Nat.eq_of_beq_eq_true hk.1
     have hks := natsBeq_eq hk.2
     subst hks
     refine ⟨US.le.trans (b := ⟨u.σ, u.qs ++ [.ls q']⟩) ⟨fun _ _ h => h, [.ls q'], rfl⟩ h1, h3, fun v ρ' μ x hle hv hx => ?_⟩
     obtain ⟨pp, off, els, hp, he, hL, hd⟩ := hx
     refine ⟨pp, off, els, ?_, he, by rw [h4 v ρ' hle hv]; exact hL, hd⟩
     obtain ⟨_, l, hqs⟩ := hle
     rw [h2] at hqs
     unfold muQ
     rw [if_pos (by omega), Nat.add_sub_cancel_left, hqs, hq]
     have : ((u.qs ++ [.ls q']) ++ l)[u.qs.length]? = some (.ls q') := by simp
     simp only [this]
     exact hp
   · cases h
 · rename_i q ks x' i ks' y
   split at h
   · rename_i hk
     simp only [Bool.and_eq_true] at hk
     obtain ⟨h1, h2, h3, h4⟩ := uX_spec (ρ := ρ) hn h
     have hq := Nat.eq_of_beq_eq_true hk.1
     have hks := natsBeq_eq hk.2
     subst hks
     refine ⟨US.le.trans (b := ⟨u.σ, u.qs ++ [.gl i ks y]⟩) ⟨fun _ _ h => h, [.gl i ks y], rfl⟩ h1, h3, fun v ρ' μ x hle hv hx => ?_⟩
     obtain ⟨b, els, hb, hL, rfl, hc1, hc2⟩ := hx
     refine ⟨(b.1, encP 0 ks els), 0, els, ?_, rfl, by rw [h4 v ρ' hle hv]; exact hL, .inr ⟨_, rfl, hc1, hc2.1⟩⟩
     obtain ⟨_, l, hqs⟩ := hle
     rw [h2] at hqs
     unfold muQ
     rw [if_pos (by omega), Nat.add_sub_cancel_left, hqs, hq]
     have : ((u.qs ++ [.gl i ks y]) ++ l)[u.qs.length]? = some (.gl i ks y) := by simp
     simp only [this, hb, hL, decE_enc, Option.map_some]
   · cases h
 · rename_i q ks x' ad c
   split at h
   · rename_i hk
     obtain ⟨h1, h2, h3, h4⟩ := uX_spec (ρ := ρ) hn h
     have hq := Nat.eq_of_beq_eq_true hk
     refine ⟨US.le.trans (b := ⟨u.σ, u.qs ++ [.no ks]⟩) ⟨fun _ _ h => h, [.no ks], rfl⟩ h1, h3, fun v ρ' μ x hle hv hx => ?_⟩
     have hx : x = .slice ad 0 c := hx.1
     refine ⟨(0, encP 0 ks []), 0, [], ?_, rfl, by rw [h4 v ρ' hle hv]; rfl, .inl ⟨rfl, ad, c, hx⟩⟩
     obtain ⟨_, l, hqs⟩ := hle
     rw [h2] at hqs
     unfold muQ
     rw [if_pos (by omega), Nat.add_sub_cancel_left, hqs, hq]
     have : ((u.qs ++ [.no ks]) ++ l)[u.qs.length]? = some (.no ks) := by simp
     simp only [this]
   · cases h
 · split at h
   · rename_i hk
     simp only [Bool.and_eq_true] at hk
     obtain ⟨h1, ⟨h2, h3⟩, h4, h5⟩ := hk
     cases h
     refine ⟨.refl _, fun h => h, fun v ρ' μ x _ _ hx => ?_⟩
     rw [Nat.eq_of_beq_eq_true h1, Array.isEmpty_iff.1 h2, Array.isEmpty_iff.1 h3]
     rw [Array.isEmpty_iff.1 h4, Array.isEmpty_iff.1 h5] at hx
     exact hx
   · cases h
 · cases h
theorem uCs_spec {n : Nat} (hn : n ≤ maxReg) : ∀ {l m : List SC} {u u' : US}, uCs n u l m = some u' → u.le u' ∧ (u.low n → u'.low n) ∧
  ∀ (v : US) (ρ' : Nat → Int) (μ : Mu) (xs : List Value), u'.le v → (∀ r x, v.σ.get r = some x → x.ev ρ = ρ' r) → cellsRel ρ μ m xs → cellsRel ρ' (muQ ρ μ v.qs) l xs
 | [], [], u, u', h => by
  cases h
  refine ⟨.refl _, fun h => h, fun v ρ' μ xs _ _ hx => ?_⟩
  cases xs with
  | nil => trivial
  | cons _ _ => exact hx.elim
 | p :: l, a :: m, u, u', h => by
  unfold uCs at h
  split at h
  · rename_i u1 h1
    obtain ⟨a1, a2, a3⟩ := uC_spec (ρ := ρ) hn h1
    obtain ⟨b1, b2, b3⟩ := uCs_spec hn h
    refine ⟨a1.trans b1, fun hl => b2 (a2 hl), fun v ρ' μ xs hle hv hx => ?_⟩
    cases xs with
    | nil => exact hx.elim
    | cons x xs => exact ⟨a3 v ρ' μ x (b1.trans hle) hv hx.1, b3 v ρ' μ xs hle hv hx.2⟩
  · cases h
 | [], _ :: _, _, _, h => by cases h
 | _ :: _, [], _, _, h => by cases h
theorem uV_spec {n : Nat} (hn : n ≤ maxReg) {u u' : US} {p a : SV} (h : uV n u p a = some u') : u.le u' ∧ (u.low n → u'.low n) ∧
  ∀ (v : US) (ρ' : Nat → Int) (μ : Mu) (x : Value), u'.le v → (∀ r x, v.σ.get r = some x → x.ev ρ = ρ' r) → a.rel ρ μ x → p.rel ρ' (muQ ρ μ v.qs) x := by
 unfold uV at h
 split at h
 · exact uC_spec hn h
 · obtain ⟨h1, h2, h3⟩ := uCs_spec (ρ := ρ) hn h
   exact ⟨h1, h2, fun v ρ' μ x hle hv hx => let ⟨cs, e, hc⟩ := hx; ⟨cs, e, h3 v ρ' μ _ hle hv hc⟩⟩
 · cases h
theorem uVs_spec {n : Nat} (hn : n ≤ maxReg) : ∀ {l m : List SV} {u u' : US}, uVs n u l m = some u' → u.le u' ∧ (u.low n → u'.low n) ∧
  ∀ (v : US) (ρ' : Nat → Int) (μ : Mu) (xs : List Value), u'.le v → (∀ r x, v.σ.get r = some x → x.ev ρ = ρ' r) → svsRel ρ μ m xs → svsRel ρ' (muQ ρ μ v.qs) l xs
 | [], [], u, u', h => by
  cases h
  refine ⟨.refl _, fun h => h, fun v ρ' μ xs _ _ hx => ?_⟩
  cases xs with
  | nil => trivial
  | cons _ _ => exact hx.elim
 | p :: l, a :: m, u, u', h => by
  unfold uVs at h
  split at h
  · rename_i u1 h1
    obtain ⟨a1, a2, a3⟩ := uV_spec (ρ := ρ) hn h1
    obtain ⟨b1, b2, b3⟩ := uVs_spec hn h
    refine ⟨a1.trans b1, fun hl => b2 (a2 hl), fun v ρ' μ xs hle hv hx => ?_⟩
    cases xs with
    | nil => exact hx.elim
    | cons x xs => exact ⟨a3 v ρ' μ x (b1.trans hle) hv hx.1, b3 v ρ' μ xs hle hv hx.2⟩
  · cases h
 | [], _ :: _, _, _, h => by cases h
 | _ :: _, [], _, _, h => by cases h
theorem plsOK_spec {bs : Tr Blk} : ∀ {qs : List Pl}, plsOK bs qs = true → ∀ i ks x, Pl.gl i ks x ∈ qs → ∃ B, bs.get i = some B ∧ B.cells = [.many ks x]
 | [], _, _, _, _, h => by cases h
 | .ls q :: l, h, i, ks, x, hm => by
  cases hm with
  | tail _ hm => exact plsOK_spec (show plsOK bs l = true from h) i ks x hm
 | .no q :: l, h, i, ks, x, hm => by
  cases hm with
  | tail _ hm => exact plsOK_spec (show plsOK bs l = true from h) i ks x hm
 | .gl j ks' y :: l, h, i, ks, x, hm => by
  unfold plsOK at h
  simp only [Bool.and_eq_true] at h
  cases hm with
  | head =>
   have h := h.1
   split at h
   · rename_i B hB
     exact ⟨B, hB, cellsBeq_eq h⟩
   · cases h
  | tail _ hm => exact plsOK_spec h.2 i ks x hm
theorem plsOK_mono {bs bs' : Tr Blk} (hb : ∀ i B, bs.get i = some B → bs'.get i = some B) : ∀ {qs : List Pl}, plsOK bs qs = true → plsOK bs' qs = true
 | [], _ => rfl
 | .ls q :: l, h => plsOK_mono hb (qs := l) h
 | .no q :: l, h => plsOK_mono hb (qs := l) h
 | .gl j ks' y :: l, h => by
  unfold plsOK at h ⊢
  simp only [Bool.and_eq_true] at h ⊢
  refine ⟨?_, plsOK_mono hb h.2⟩
  have h := h.1
  split at h
  · rename_i B hB; rw [hb j B hB]; exact h
  · cases h
theorem WR.lists {ρ ρ' : Nat → Int} {w0 : Base} {μ : Mu} {nb : Nat} {bs : Tr Blk} {w : World} (h : WR ρ w0 μ nb bs w) {qs : List Pl} (hq : plsOK bs qs = true) : WR ρ' (Base.all w) (muQ ρ μ qs) qs.length .nil w := by
 refine ⟨⟨rfl, rfl, rfl, Nat.le_refl _, fun _ _ => rfl⟩, (fun _ _ _ _ _ _ h => by cases h), (fun i _ hi => ?_), (fun _ _ _ h => by cases h), (fun _ _ h => by cases h), (fun i p hi hp => ?_), (fun q hq => ?_)⟩
 · unfold muQ; rw [if_neg (by omega)]
 · refine ⟨?_, fun _ _ _ _ h => by cases h⟩
   unfold muQ at hp
   rw [if_pos hi] at hp
   split at hp
   · rename_i q _
     exact (h.lst (LB + q) p (Nat.le_add_right _ _) hp).1
   · rename_i j ks x hj
     obtain ⟨B, hB, hc⟩ := plsOK_spec hq j ks x (List.mem_of_getElem? hj)
     obtain ⟨r, cs, hr, hh, _, hbeg⟩ := h.blk j B hB
     rw [hr] at hp
     simp only [Option.map_some] at hp
     cases hp
     rw [hc] at hbeg
     rcases hbeg with ⟨vs, rest, _, hrel⟩ | ⟨ks', L, els, e1, e2, e3⟩
     · cases vs with
       | nil => exact hrel.elim
       | cons v vs => exact hrel.1.elim
     · simp only [List.cons.injEq, SC.many.injEq, and_true] at e1
       obtain ⟨rfl, rfl⟩ := e1
       refine ⟨0, ks, els, by rw [e2, decE_enc], fun _ => ⟨cs, _, _, hh, fun i c hi hc => ?_⟩⟩
       rw [Nat.zero_add]
       exact e3 i c hi hc
   · rename_i ks _
     cases hp
     exact ⟨0, ks, [], rfl, fun h => absurd rfl h⟩
   · cases hp
 · unfold muQ
   rw [if_pos (by omega), Nat.add_sub_cancel_left, List.getElem?_eq_none (by omega)]
theorem WR.more {ρ : Nat → Int} {w0 : Base} {μ : Mu} {nb nb' : Nat} {bs : Tr Blk} {w : World} (h : WR ρ w0 μ nb bs w) (hle : nb ≤ nb') : WR ρ w0 μ nb' bs w :=
 ⟨h.kept, h.inj, fun i hi hi2 => h.top i (Nat.le_trans hle hi) hi2, h.lo, h.blk, h.lst, fun q hq => h.ltop q (Nat.le_trans hle hq)⟩
end
theorem smL_ok {P : Program} {Γ : Ctx} (hΓ : Γ.ok P) (hsum : ∀ f s, Γ.summ f = some s → SummOK P f s) {hn : Nat → Option Hint} {f : Nat} {F : Func} (hF : P.funcs[f]? = some F) (hname : (F.name == "runtime.NumGoroutine") = false)
  {n : Nat} {pat : List SV} {S : Sm} (hrun : smRunL Γ hn F n pat S = true) : SummOK P f (smL S n pat) := by
 intro T st args T1 vt h ρ hs
 unfold smL at h
 split at h
 case h_2 => cases h
 rename_i u hu
 split at h
 case h_2 => cases h
 rename_i T2 σ hqn hinst
 split at h
 case h_2 => cases h
 rename_i vt' hvt'
 cases h
 unfold smRunL at hrun
 split at hrun
 case h_2 => cases hrun
 rename_i T0 t0 hr
 split at hrun
 case h_2 => cases hrun
 rename_i hg hds hlow
 split at hrun
 case h_2 => cases hrun
 rename_i vt0 hvt
 have hvte := vtBeq_eq hrun
 subst hvte
 have hlow : n ≤ maxReg := Nat.le_of_lt (Nat.le_of_ble_eq_true hlow)
 unfold runL at hr
 split at hr
 case h_2 => cases hr
 rename_i c hb
 obtain ⟨_, hul, husp⟩ := uVs_spec (ρ := ρ) hlow hu
 have hul := hul (fun r x h => by cases h)
 obtain ⟨ρ', hin, hs'⟩ := exists_rho hg (fun r => ((u.σ.get r).map (X.ev ρ)).getD 0)
 have hat : ∀ r x, u.σ.get r = some x → x.ev ρ = ρ' r := fun r x hr => by
  rw [hin r (hul r x hr), hr]; rfl
 obtain ⟨s0, hst⟩ := instDs_spec hs' S.ds _ _ _ _ (dsOK_spec hds) hinst hs
 have hstands := hst hat
 simp only [Bool.and_eq_true] at hqn
 refine ⟨s0, fun w0 μ nb bs vs w hf hbs hwr hvs => ?_⟩
 have hrel := husp u ρ' μ _ (.refl _) hat hvs
 obtain ⟨_, hwp⟩ := execX_sound hΓ hsum (fun _ _ h => by cases h) 400 ρ' _ _ _ _ _ hr hs'
 have hfr := frame_enter hrel F.ntmps
 have hpl := plsOK_mono hbs hqn.2
 have hqn := Nat.le_of_ble_eq_true hqn.1
 have hlen : args.length = pat.length ∧ vs.toList.length = pat.length := by
  have h1 := svsRel_length hvs
  have h2 := svsRel_length hrel
  omega
 refine callOK_of hΓ hF hname hb (calls_of_wp hF hb (hwp (Base.all w) (muQ ρ μ u.qs) _ w _ ⟨rfl, hfr, (hwr.lists hpl).more hqn, (fun r b h => by cases h)⟩ ?_))
 refine vtree_spec hvt _ fun e s v hv hpick => ?_
 intro μ' a' w' hp hw'
 obtain ⟨he, hv', hvn⟩ := leafRes_spec hv
 obtain ⟨x, hx, hxr⟩ := resultsS_sound hΓ hv' hw'
 have hxr' := settle_rel hs' hw'.fa (SV.rel_num (μ' := μ) hvn hxr)
 rw [← hpick] at hxr'
 have fin : bodyPost P F (fun e w2 => ∃ v, e = .returned v ∧ (vt.pick ρ).rel ρ μ v ∧ WR ρ w0 μ nb bs w2) .ret a' w' :=
  ⟨hw'.defers, x, hx, x, rfl, instVT_rel hstands hs hf hvt' hxr', hwr.after hw'.wr.kept.below⟩
 rcases he with rfl | rfl <;> exact fin
end
end Go.Sx

namespace Go.Sx
noncomputable section
open Go.RowKit Go.ChangeShapes Go.WideShapes Go.ChangeAt
/-! ### Arguments with lists -/
inductive CK where
 | k (d : Kd)
 | ls (ks : List Nat)
def kdNo : Kd → Nat
 | .int k => kindNo k
 | .flt .f32 => 8
 | .flt .f64 => 9
 | .bool => 10
def fieldsC (sz : Nat → Option Nat) (ks : Nat → Option (List CK)) : Nat → List (Nat × Nat) → Option (List CK)
 | _, [] => some []
 | o, (off, t) :: fs =>
  match ks t with
  | some l =>
   match fieldsC sz ks (o + l.length) fs with
   | some m => if off = o ∧ sz t = some l.length then some (l ++ m) else none
   | none => none
  | none => none
def ckOf (Γ : Ctx) : Nat → Nat → Option (List CK)
 | 0, _ => none
 | d + 1, t =>
  match ksOf Γ 12 t with
  | some l => some (l.map .k)
  | none =>
   match Γ.ty.get t with
   | some i =>
    match i.d with
    | .slice e =>
     match ksOf Γ 12 e with
     | some l => if sizeT Γ e = some l.length ∧ 1 ≤ l.length then some [.ls (l.map kdNo)] else none
     | none => none
    | .struct fs =>
     match fieldsC (sizeT Γ) (ckOf Γ d) 0 fs with
     | some l => if l.length = i.size then some l else none
     | none => none
    | _ => none
   | none => none
def CK.sc (i : Nat) : CK → SC
 | .k d => d.sc i
 | .ls ks => .ls i ks (.reg i)
def symC : Nat → List CK → List SC
 | _, [] => []
 | i, k :: l => k.sc i :: symC (i + 1) l
def CK.fits (W : World) : CK → Value → Prop
 | .k d, v => d.fits v
 | .ls ks, v => ∃ b off els, Hdr b off els.length v ∧ LstAt W.heap (b, encP off ks els)
def Cs (W : World) : List CK → List Value → Prop
 | [], [] => True
 | k :: l, v :: m => k.fits W v ∧ Cs W l m
 | _, _ => False
section
variable {P : Program} {Γ : Ctx} {W : World} {H : Type} {enc : TypeId × Value → H}
theorem Cs_of_Ms : ∀ {l : List Kd} {vs : List Value}, Ms l vs → Cs W (l.map .k) vs
 | [], [], _ => trivial
 | _ :: _, _ :: _, h => ⟨h.1, Cs_of_Ms h.2⟩
 | [], _ :: _, h => h.elim
 | _ :: _, [], h => h.elim
theorem Cs_append : ∀ {l l' : List CK} {vs vs' : List Value}, Cs W l vs → Cs W l' vs' → Cs W (l ++ l') (vs ++ vs')
 | [], _, [], _, _, h' => h'
 | _ :: _, _, _ :: _, _, h, h' => ⟨h.1, Cs_append h.2 h'⟩
 | [], _, _ :: _, _, h, _ => h.elim
 | _ :: _, _, [], _, h, _ => h.elim
theorem kdNo_KC {d : Kd} {v : Value} (h : d.fits v) : KC (kdNo d) (inOf v) v := by
 cases d with
 | int k =>
  obtain ⟨n, rfl⟩ := h
  refine .inl ⟨by cases k <;> decide, ?_⟩
  show Value.int k n = Value.int (kindOf (kindNo k)) n
  cases k <;> rfl
 | flt k =>
  obtain ⟨b, rfl⟩ := h
  cases k with
  | f32 => exact .inr (.inl ⟨rfl, b, rfl, rfl⟩)
  | f64 => exact .inr (.inr (.inl ⟨rfl, b, rfl, rfl⟩))
 | bool =>
  obtain ⟨b, rfl⟩ := h
  refine .inr (.inr (.inr ⟨rfl, ?_⟩))
  show Value.bool b = Value.bool (b2i b == 1)
  rw [b2i_eq]
theorem Ms_get : ∀ {l : List Kd} {vs : List Value} {c : Nat}, Ms l vs → c < l.length → ∃ v, vs[c]? = some v ∧ KC ((l.map kdNo).getD c 0) (inOf v) v
 | k :: _, v :: _, 0, h, _ => ⟨v, rfl, kdNo_KC h.1⟩
 | k :: l, v :: vs, c + 1, h, hc => by
  obtain ⟨u, hu, hk⟩ := Ms_get (c := c) h.2 (by simpa using hc)
  exact ⟨u, by simpa using hu, by simpa using hk⟩
 | [], _, _, _, hc => by simp at hc
 | _ :: _, [], _, h, _ => h.elim
theorem mapM_range {α : Type} {n : Nat} {f : Nat → Option α} {l : List α} (h : (List.range n).mapM f = some l) : ∀ i, i < n → ∃ x, f i = some x ∧ l[i]? = some x := by
 have key : ∀ (r : List Nat) (l : List α), r.mapM f = some l → ∀ (i j : Nat), r[i]? = some j → ∃ x, f j = some x ∧ l[i]? = some x := by
  intro r
  induction r with
  | nil => intro l _ i j hj; simp at hj
  | cons a r ih =>
   intro l h i j hj
   rw [List.mapM_cons] at h
   cases hfa : f a with
   | none => simp [hfa] at h
   | some x =>
    cases hr : r.mapM f with
    | none => simp [hfa, hr] at h
    | some m =>
     simp [hfa, hr] at h
     subst h
     cases i with
     | zero =>
      have : a = j := by simpa using hj
      subst this
      exact ⟨x, hfa, rfl⟩
     | succ i =>
      obtain ⟨y, h1, h2⟩ := ih m hr i j (by simpa using hj)
      exact ⟨y, h1, by simpa using h2⟩
 intro i hi
 exact key _ l h i i (by simp [hi])
theorem trod_list (hΓ : Γ.ok P) {base : Nat} {spare : Nat → Bool} {held : Bool} {t e : Nat} (hu : P.underlying t = some (.slice e)) {l : List Kd} (hl : ksOf Γ 12 e = some l) (hs : sizeT Γ e = some l.length) (h1 : 1 ≤ l.length)
  {fuel : Nat} {cs : List Value} {x : DataW H × List MemPlace} (h : DataW.trod enc P W base spare held fuel t cs = some x) : Cs W [.ls (l.map kdNo)] cs := by
 have hce := cellsOf_sizeT hΓ hs
 rcases DataW.trod_slice hu h with ⟨rfl, _⟩ | ⟨a, len, cap, elems, rest, n, _, rfl, _, _, hlc, hcm, hel, hall, _⟩
 · exact ⟨⟨0, 0, [], .inl ⟨rfl, none, 0, rfl⟩, ⟨0, _, [], rfl, fun h => absurd rfl h⟩⟩, trivial⟩
 · refine ⟨?_, trivial⟩
   rw [hce] at hall
   by_cases h0 : len = 0
   · subst h0
     exact ⟨0, 0, [], .inl ⟨rfl, _, _, rfl⟩, ⟨0, _, [], rfl, fun h => absurd rfl h⟩⟩
   · -- each element
     have each : ∀ i, i < len → ∃ vs : List Value, W.cells? base (a.add (i * l.length)) l.length = some vs ∧ Ms l vs := by
      intro i hi
      have := hall i hi
      have hi' : i < elems.length := by omega
      rw [List.getElem?_eq_getElem hi'] at this
      cases hc : W.cells? base (a.add (i * l.length)) l.length with
      | none => rw [hc] at this; simp at this
      | some vs =>
       rw [hc] at this
       exact ⟨vs, rfl, trod_kinds hΓ 12 e l hl n vs _ (by simpa using this)⟩
     have cell : ∀ i c, i < len → c < l.length → ∀ vs, W.cells? base (a.add (i * l.length)) l.length = some vs → ∃ v, W.cell? ((a.add (i * l.length)).add c) = some v ∧ vs[c]? = some v := by
      intro i c hi hc vs hv
      unfold World.cells? at hv
      split at hv
      · exact mapM_range hv c hc
      · cases hv
     -- the block
     obtain ⟨vs0, hv0, _⟩ := each 0 (by omega)
     obtain ⟨v00, hv00, _⟩ := cell 0 0 (by omega) (by omega) vs0 hv0
     have ha0 : (a.add (0 * l.length)).add 0 = a := by unfold Addr.add; simp
     rw [ha0] at hv00
     have hb : a.spot = none ∧ ∃ cells ty fz, W.heap[a.block]? = some (.cells cells ty fz) := by
      unfold World.cell? at hv00
      split at hv00
      · rename_i c ty fz hh
        split at hv00
        · cases hv00
        · rename_i hsp
          exact ⟨by cases hs : a.spot with
           | none => rfl
           | some _ => rw [hs] at hsp; exact absurd rfl hsp, c, ty, fz, hh⟩
      · cases hv00
     obtain ⟨hspot, cells, ty, fz, hheap⟩ := hb
     obtain ⟨bl, off, sp⟩ := a
     simp only at hspot hheap
     subst hspot
     let el : Nat → List Value := fun i => (W.cells? base ((⟨bl, off, none⟩ : Addr).add (i * l.length)) l.length).getD []
     refine ⟨bl, off, (List.range len).map fun i => (el i).map inOf, .inr ⟨cap, by simp, by simpa using hlc, hcm⟩, off, l.map kdNo, _, rfl, fun _ => ⟨cells, ty, fz, hheap, fun i c hi hc => ?_⟩⟩
     have hi : i < len := by simpa using hi
     have hc : c < l.length := by simpa using hc
     obtain ⟨vs, hv, hms⟩ := each i hi
     obtain ⟨v, hcell, hvc⟩ := cell i c hi hc vs hv
     have hel : el i = vs := by show (W.cells? base _ _).getD [] = vs; rw [hv]; rfl
     refine ⟨v, ?_, ?_⟩
     · rw [addr_add, addr_add] at hcell
       unfold World.cell? at hcell
       simp only [hheap] at hcell
       simpa [List.length_map] using hcell
     · obtain ⟨v', hv', hkc⟩ := Ms_get hms hc
       rw [hvc] at hv'; cases hv'
       have : cellE ((List.range len).map fun i => (el i).map inOf) (i : Nat) c = inOf v := by
        unfold cellE
        rw [Int.toNat_natCast]
        have e1 : ((List.range len).map fun i => (el i).map inOf).getD i [] = vs.map inOf := by
         rw [List.getD_eq_getElem?_getD, List.getElem?_map, List.getElem?_range hi]
         show (el i).map inOf = _
         rw [hel]
        rw [e1, List.getD_eq_getElem?_getD, List.getElem?_map, hvc]; rfl
       rw [this]
       exact hkc
theorem fieldsC_cs (hΓ : Γ.ok P) {ks : Nat → Option (List CK)} {cs : List Value} : ∀ (fs : List (Nat × Nat)) (o : Nat) (l : List CK), fieldsC (sizeT Γ) ks o fs = some l →
  (∀ off t l, (off, t) ∈ fs → ks t = some l → Cs W l ((cs.drop off).take (P.cellsOf t))) → Cs W l ((cs.drop o).take l.length)
 | [], o, l, h, _ => by cases h; simp [Cs]
 | (off, t) :: fs, o, l, h, hall => by
  unfold fieldsC at h
  split at h
  · rename_i l1 h1
    split at h
    · rename_i m hm
      split at h
      · rename_i hc
        cases h
        obtain ⟨rfl, hsz⟩ := hc
        have hc1 := cellsOf_sizeT hΓ hsz
        have e1 := hall off t l1 List.mem_cons_self h1
        rw [hc1] at e1
        have e2 := fieldsC_cs hΓ fs _ m hm fun off' t' l' hmem hl' => hall off' t' l' (List.mem_cons_of_mem _ hmem) hl'
        rw [List.length_append, List.take_add, List.drop_drop]
        exact Cs_append e1 e2
      · cases h
    · cases h
  · cases h
theorem trod_cks (hΓ : Γ.ok P) {base : Nat} {spare : Nat → Bool} {held : Bool} : ∀ (d : Nat) (t : Nat) (ks : List CK), ckOf Γ d t = some ks → ∀ (fuel : Nat) (cs : List Value) (x : DataW H × List MemPlace),
  DataW.trod enc P W base spare held fuel t cs = some x → Cs W ks cs
 | 0, _, _, h, _, _, _, _ => by cases h
 | d + 1, t, ks, h, fuel, cs, x, hx => by
  unfold ckOf at h
  split at h
  · rename_i l hl
    cases h
    exact Cs_of_Ms (trod_kinds hΓ 12 t l hl fuel cs x hx)
  · split at h
    · rename_i i hi
      have ok := hΓ.ty t i hi
      obtain ⟨u, hu, ho⟩ := ok.und
      have hsz := cellsOf_size ok
      split at h
      · rename_i e hid
        rw [hid] at ho
        have ho' : u = .slice e := ho
        subst ho'
        split at h
        · rename_i l hl
          split at h
          · rename_i hc
            cases h
            exact trod_list hΓ hu hl hc.1 hc.2 hx
          · cases h
        · cases h
      · rename_i fs hid
        rw [hid] at ho
        obtain ⟨F, rfl, hF⟩ := ho
        split at h
        · rename_i l hl
          split at h
          · rename_i hc
            cases h
            obtain ⟨xs, m, _, _, hlen, hxl, hall⟩ := DataW.trod_struct hu hx
            have := fieldsC_cs (cs := cs) hΓ fs 0 _ hl fun off ft l' hmem hl' => by
             subst hF
             obtain ⟨f, hf, he⟩ := List.mem_map.1 hmem
             cases he
             obtain ⟨j, hj, hjf⟩ := List.mem_iff_getElem.1 hf
             have h1 : F[j]? = some f := by
              rw [← hjf]
              simp at hj
              simp [hj]
             have h2 := hall j f h1
             have hj' : j < xs.length := by simp at hj; omega
             rw [List.getElem?_eq_getElem hj'] at h2
             exact trod_cks hΓ d f.type l' hl' m _ _ h2
            rw [List.drop_zero, hc, ← hsz, ← hlen, List.take_length] at this
            exact this
          · cases h
        · cases h
      · cases h
    · cases h
end
end
end Go.Sx

namespace Go.Sx
noncomputable section
open Go.RowKit Go.ChangeShapes Go.WideShapes Go.ChangeAt
inductive AL where
 | one (c : CK)
 | agg (l : List CK)
def AL.size : AL → Nat
 | .one _ => 1
 | .agg l => l.length
def AL.sv (i : Nat) : AL → SV
 | .one c => .c (c.sc i)
 | .agg l => .w (.agg (symC i l))
def symAL : Nat → List AL → List SV
 | _, [] => []
 | i, k :: l => k.sv i :: symAL (i + k.size) l
def sizeAL : List AL → Nat
 | [] => 0
 | k :: l => k.size + sizeAL l
def AL.fits (W : World) : AL → Value → Prop
 | .one c, v => c.fits W v
 | .agg l, v => ∃ cs : Array Value, v = .agg cs ∧ Cs W l cs.toList
def AsL (W : World) : List AL → List Value → Prop
 | [], [] => True
 | k :: l, v :: m => k.fits W v ∧ AsL W l m
 | _, _ => False
def alOf (Γ : Ctx) (t : Nat) : Option AL :=
 match Γ.ty.get t with
 | some i =>
  match i.d with
  | .int k => some (.one (.k (.int k)))
  | .float k => some (.one (.k (.flt k)))
  | .bool => some (.one (.k .bool))
  | .slice _ => match ckOf Γ 12 t with
   | some [c] => some (.one c)
   | _ => none
  | .arr _ _ => match ckOf Γ 12 t with
   | some l => some (.agg l)
   | none => none
  | .struct _ => match ckOf Γ 12 t with
   | some l => some (.agg l)
   | none => none
  | _ => none
 | none => none
def alsOf (Γ : Ctx) : List Nat → Option (List AL)
 | [] => some []
 | t :: l =>
  match alOf Γ t, alsOf Γ l with
  | some k, some m => some (k :: m)
  | _, _ => none
section
variable {P : Program} {Γ : Ctx} {W : World} {H : Type} {enc : TypeId × Value → H}
theorem okWide_slice {w : World} {r : Reach} {base : Nat} {t : TypeId} {v : Value} {e : TypeId} (ht : P.underlying t = some (.slice e)) (h : Value.okWide P w r base t v) : v.cells = #[v] := by
 simp only [Value.okWide, ht, Cell.okWide, Cell.ok] at h
 cases v <;> first | rfl | simp_all
theorem alOf_fits (hΓ : Γ.ok P) {base : Nat} {t : Nat} {k : AL} (h : alOf Γ t = some k) {v : Value} (hv : Value.okWide P W .any base t v)
  {b : Nat} {spare : Nat → Bool} {held : Bool} {d : DataW H} {ps : List MemPlace} (hr : DataW.Trod enc P W b spare held t v d ps) : k.fits W v := by
 obtain ⟨fuel, hr⟩ := hr
 unfold alOf at h
 split at h
 · rename_i i hi
   have ok := hΓ.ty t i hi
   obtain ⟨u, hu, ho⟩ := ok.und
   split at h
   · rename_i k' hid
     cases h
     rw [hid] at ho
     have ho' : u = .int k' := ho
     subst ho'
     exact okWide_int hu hv
   · rename_i k' hid
     cases h
     rw [hid] at ho
     have ho' : u = .float k' := ho
     subst ho'
     exact okWide_float hu hv
   · rename_i hid
     cases h
     rw [hid] at ho
     have ho' : u = .bool := ho
     subst ho'
     exact okWide_bool hu hv
   · rename_i e hid
     rw [hid] at ho
     have ho' : u = .slice e := ho
     subst ho'
     split at h
     · rename_i c hc
       cases h
       have := trod_cks hΓ 12 t _ hc fuel _ _ hr
       rw [okWide_slice hu hv] at this
       exact this.1
     · cases h
   · rename_i n e hid
     split at h
     · rename_i l hl
       cases h
       have hm := trod_cks hΓ 12 t l hl fuel _ _ hr
       rw [hid] at ho
       have ho' : u = .array n e := ho
       subst ho'
       unfold Value.okWide at hv
       rw [hu] at hv
       obtain ⟨cs, rfl, _⟩ := hv
       exact ⟨cs, rfl, hm⟩
     · cases h
   · rename_i fs hid
     split at h
     · rename_i l hl
       cases h
       have hm := trod_cks hΓ 12 t l hl fuel _ _ hr
       rw [hid] at ho
       obtain ⟨F, rfl, _⟩ := ho
       unfold Value.okWide at hv
       rw [hu] at hv
       obtain ⟨cs, rfl, _⟩ := hv
       exact ⟨cs, rfl, hm⟩
     · cases h
   · cases h
 · cases h
theorem alsOf_fits (hΓ : Γ.ok P) {base : Nat} {b : Nat} {spare : Nat → Bool} {held : Bool} : ∀ {ts : List Nat} {ks : List AL} {vs : List Value} {ds : List (DataW H)} {ps : List MemPlace}, alsOf Γ ts = some ks →
  (∀ (j : Nat) t v, ts[j]? = some t → vs[j]? = some v → Value.okWide P W .any base t v) → DataW.TrodAll enc P W b spare held ts vs ds ps → AsL W ks vs
 | [], ks, [], [], _, h, _, _ => by cases h; trivial
 | t :: ts, ks, v :: vs, d :: ds, ps, h, hv, hr => by
  unfold alsOf at h
  split at h
  · rename_i k m hk hm
    cases h
    obtain ⟨p, q, h1, h2, _⟩ := hr
    exact ⟨alOf_fits hΓ hk (hv 0 t v rfl rfl) h1, alsOf_fits hΓ hm (fun j t' v' ht hv' => hv (j + 1) t' v' (by simpa using ht) (by simpa using hv')) h2⟩
  · cases h
 | [], _, _ :: _, _, _, _, _, h => h.elim
 | [], _, [], _ :: _, _, _, _, h => h.elim
 | _ :: _, _, [], _, _, _, _, h => h.elim
 | _ :: _, _, _ :: _, [], _, _, _, h => h.elim
/-! ### What the registers and the places hold -/
theorem ck_val {k : CK} {v : Value} (h : k.fits W v) : ∃ (x : Int) (p : Nat × Nat), LstAt W.heap p ∧ ∀ (ρ : Nat → Int) (μ : Mu) (i : Nat), ρ i = x → μ (LB + i) = some p → (k.sc i).rel ρ μ v := by
 cases k with
 | k d => exact ⟨inOf v, (0, encP 0 [] []), ⟨0, [], [], rfl, fun h => absurd rfl h⟩, fun ρ μ i h0 _ => Kd.rel h h0⟩
 | ls ks =>
  obtain ⟨b, off, els, hh, hl⟩ := h
  exact ⟨encE els, (b, encP off ks els), hl, fun ρ μ i h0 h1 => ⟨(b, encP off ks els), off, els, h1, rfl, h0, hh⟩⟩
theorem cs_val : ∀ {l : List CK} {vs : List Value}, Cs W l vs → ∃ (xs : List Int) (ps : List (Nat × Nat)), xs.length = l.length ∧ ps.length = l.length ∧ (∀ p ∈ ps, LstAt W.heap p) ∧
  ∀ (ρ : Nat → Int) (μ : Mu) (i : Nat), (∀ j x, xs[j]? = some x → ρ (i + j) = x) → (∀ j p, ps[j]? = some p → μ (LB + (i + j)) = some p) → cellsRel ρ μ (symC i l) vs
 | [], [], _ => ⟨[], [], rfl, rfl, (fun _ h => by cases h), fun _ _ _ _ _ => trivial⟩
 | k :: l, v :: vs, h => by
  obtain ⟨x, p, h1, h2⟩ := ck_val h.1
  obtain ⟨xs, ps, a1, a2, a3, a4⟩ := cs_val h.2
  refine ⟨x :: xs, p :: ps, by simp [a1], by simp [a2], ?_, fun ρ μ i hx hp => ⟨?_, ?_⟩⟩
  · intro q hq
    cases hq with
    | head => exact h1
    | tail _ hq => exact a3 q hq
  · exact h2 ρ μ i (hx 0 x rfl) (hp 0 p rfl)
  · refine a4 ρ μ (i + 1) (fun j y hy => ?_) (fun j q hq => ?_)
    · rw [show i + 1 + j = i + (j + 1) by omega]; exact hx (j + 1) y (by simpa using hy)
    · rw [show i + 1 + j = i + (j + 1) by omega]; exact hp (j + 1) q (by simpa using hq)
 | [], _ :: _, h => h.elim
 | _ :: _, [], h => h.elim
theorem asL_val : ∀ {ks : List AL} {vs : List Value}, AsL W ks vs → ∃ (xs : List Int) (ps : List (Nat × Nat)), xs.length = sizeAL ks ∧ ps.length = sizeAL ks ∧ (∀ p ∈ ps, LstAt W.heap p) ∧
  ∀ (ρ : Nat → Int) (μ : Mu) (i : Nat), (∀ j x, xs[j]? = some x → ρ (i + j) = x) → (∀ j p, ps[j]? = some p → μ (LB + (i + j)) = some p) → svsRel ρ μ (symAL i ks) vs
 | [], [], _ => ⟨[], [], rfl, rfl, (fun _ h => by cases h), fun _ _ _ _ _ => trivial⟩
 | k :: ks, v :: vs, h => by
  have one : ∃ (xs : List Int) (ps : List (Nat × Nat)), xs.length = k.size ∧ ps.length = k.size ∧ (∀ p ∈ ps, LstAt W.heap p) ∧
    ∀ (ρ : Nat → Int) (μ : Mu) (i : Nat), (∀ j x, xs[j]? = some x → ρ (i + j) = x) → (∀ j p, ps[j]? = some p → μ (LB + (i + j)) = some p) → (k.sv i).rel ρ μ v := by
   cases k with
   | one c =>
    obtain ⟨x, p, h1, h2⟩ := ck_val h.1
    refine ⟨[x], [p], rfl, rfl, ?_, fun ρ μ i hx hp => h2 ρ μ i (hx 0 x rfl) (hp 0 p rfl)⟩
    intro q hq
    have : q = p := by simpa using hq
    rw [this]; exact h1
   | agg l =>
    obtain ⟨⟨cs, rfl, hc⟩, _⟩ := h
    obtain ⟨xs, ps, a1, a2, a3, a4⟩ := cs_val hc
    exact ⟨xs, ps, a1, a2, a3, fun ρ μ i hx hp => ⟨cs, rfl, a4 ρ μ i hx hp⟩⟩
  obtain ⟨xs, ps, a1, a2, a3, a4⟩ := one
  obtain ⟨ys, qs, b1, b2, b3, b4⟩ := asL_val h.2
  refine ⟨xs ++ ys, ps ++ qs, by simp [a1, b1, sizeAL], by simp [a2, b2, sizeAL], fun q hq => ?_, fun ρ μ i hx hp => ⟨?_, ?_⟩⟩
  · rcases List.mem_append.1 hq with hq | hq
    · exact a3 q hq
    · exact b3 q hq
  · refine a4 ρ μ i (fun j x hj => hx j x ?_) (fun j p hj => hp j p ?_)
    · rw [List.getElem?_append_left (List.getElem?_eq_some_iff.1 hj).1]; exact hj
    · rw [List.getElem?_append_left (List.getElem?_eq_some_iff.1 hj).1]; exact hj
  · refine b4 ρ μ (i + k.size) (fun j x hj => ?_) (fun j p hj => ?_)
    · rw [show i + k.size + j = i + (xs.length + j) by omega]
      refine hx _ x ?_
      rw [List.getElem?_append_right (by omega), Nat.add_sub_cancel_left]; exact hj
    · rw [show i + k.size + j = i + (ps.length + j) by omega]
      refine hp _ p ?_
      rw [List.getElem?_append_right (by omega), Nat.add_sub_cancel_left]; exact hj
 | [], _ :: _, h => h.elim
 | _ :: _, [], h => h.elim
end
/-! ### The law -/
def lawOKL (Γ : Ctx) (mks : Nat → Option MK) (F : Func) (ks : List AL) : Bool :=
 match runL Γ (fun _ => none) mks F (sizeAL ks) (symAL 0 ks) .nil ⟨sizeAL ks, .nil, .nil⟩ with
 | some (T, t) => match goodTab (sizeAL ks) T with
  | true => allTrue Γ F T t
  | false => false
 | none => false
theorem symAL_length : ∀ (ks : List AL) (i : Nat), (symAL i ks).length = ks.length
 | [], _ => rfl
 | _ :: ks, i => by simp [symAL, symAL_length ks]
theorem run_trueL {P : Program} {Γ : Ctx} (hΓ : Γ.ok P) (hsum : ∀ f s, Γ.summ f = some s → SummOK P f s) {mks : Nat → Option MK} (hmk : ∀ g m, mks g = some m → MKOK P g m) {f : Nat} {F : Func} (hF : P.funcs[f]? = some F) {ks : List AL}
  (hrun : lawOKL Γ mks F ks = true) {vs : Array Value} {w : World} (hvs : AsL w ks vs.toList) :
  Calls P f vs w fun e w' => e = .returned (.bool true) ∧ Below w.heap.size w w' := by
 unfold lawOKL at hrun
 split at hrun
 case h_2 => cases hrun
 rename_i T t hr
 split at hrun
 case h_2 => cases hrun
 rename_i hg
 unfold runL at hr
 split at hr
 case h_2 => cases hr
 rename_i c hb
 obtain ⟨xs, ps, l1, l2, l3, l4⟩ := asL_val hvs
 obtain ⟨ρ, hin, hs⟩ := exists_rho hg (fun r => xs.getD r 0)
 let μ0 : Mu := fun i => if LB ≤ i then ps[i - LB]? else none
 have hrel : svsRel ρ μ0 (symAL 0 ks) vs.toList := by
  refine l4 ρ μ0 0 (fun j x hj => ?_) (fun j p hj => ?_)
  · have hlt := (List.getElem?_eq_some_iff.1 hj).1
    rw [Nat.zero_add, hin j (by omega), List.getD_eq_getElem?_getD, hj]; rfl
  · show (if LB ≤ LB + (0 + j) then ps[LB + (0 + j) - LB]? else none) = some p
    rw [if_pos (by omega), Nat.zero_add, Nat.add_sub_cancel_left]; exact hj
 obtain ⟨_, hwp⟩ := execX_sound hΓ hsum hmk 400 ρ _ _ _ _ _ hr hs
 have hfr := frame_enter hrel F.ntmps
 have hwr : WR ρ (Base.all w) μ0 (sizeAL ks + 10) .nil w := by
  refine ⟨⟨rfl, rfl, rfl, Nat.le_refl _, fun _ _ => rfl⟩, (fun _ _ _ _ _ _ h => by cases h), (fun i _ hi => if_neg (by omega)), (fun _ _ _ h => by cases h), (fun _ _ h => by cases h), (fun i p hi hp => ?_), (fun q hq => ?_)⟩
  · have hp : (if LB ≤ i then ps[i - LB]? else none) = some p := hp
    rw [if_pos hi] at hp
    exact ⟨l3 p (List.mem_of_getElem? hp), fun _ _ _ _ h => by cases h⟩
  · show (if LB ≤ LB + q then ps[LB + q - LB]? else none) = none
    rw [if_pos (by omega), Nat.add_sub_cancel_left, List.getElem?_eq_none (by omega)]
 refine calls_of_wp hF hb (hwp (Base.all w) μ0 _ w _ ⟨rfl, hfr, hwr, (fun r b h => by cases h)⟩ ?_)
 exact Tree.sat_mono (fun e s h => Leafs.mono (fun i b hi => by cases hi) h) (allTrue_sat hΓ hs w hrun)
end
end Go.Sx

namespace Go.Sx
noncomputable section
def opsOf : Option Code → Array Oper
 | some (.region _ ops _) => ops
 | some (.block _ (.region _ ops _)) => ops
 | _ => #[]
def idOf : Option Code → Nat
 | some (.region i _ _) => i
 | some (.block _ (.region i _ _)) => i
 | _ => 0
def blkOf : Option Code → Nat
 | some (.block i _) => i
 | _ => 0
def loopOf : Option Code → Code
 | some (.block _ (.loop B)) => B
 | _ => .skip
def mkDOf (F : Func) (ks : List Nat) (tOut e tEl sOut sI sLen sMk sC sHdr sIx sVal sAddr m : Nat) : MkD :=
 let c := F.body.getD .skip
 let l := flatC c
 let B := loopOf l[3]?
 let lb := flatC B
 { ks := ks, nt := 1 + (F.ntmps - 1), tOut := tOut, e := e, tEl := tEl, sOut := sOut, sI := sI, sLen := sLen, sMk := sMk, sC := sC, sHdr := sHdr, sIx := sIx, sVal := sVal, sAddr := sAddr,
   R0 := opsOf l[0]?, R1 := opsOf l[1]?, R2 := opsOf l[2]?, R3 := opsOf lb[0]?, R4 := opsOf lb[3]?, R5 := opsOf lb[2]?, R6 := opsOf l[4]?,
   i0 := idOf l[0]?, i1 := idOf l[1]?, i2 := idOf l[2]?, i3 := idOf lb[0]?, i4 := idOf lb[3]?, i5 := idOf lb[2]?, i6 := idOf l[4]?,
   b0 := blkOf l[3]?, b1 := blkOf lb[2]?, B := B, c := c, m := m }
def pieceR (Γ : Ctx) (nt : Nat) (ops : Array Oper) (l : List Oper) (T0 : Tab) (fr0 : Tr SV) (fa : Tr Bool) : Option (Tab × Tree) :=
 opsLX Γ (fun _ => none) (execX Γ (fun _ => none) (fun _ => none) 400) ops l T0 ⟨nt, fr0, 2, .nil, fa⟩
def isLeafR : Option (Tab × Tree) → Bool
 | some (_, .leaf .normal _) => true
 | _ => false
def tabR : Option (Tab × Tree) → Tab
 | some (T, _) => T
 | none => T00
def stR : Option (Tab × Tree) → St
 | some (_, .leaf _ st) => st
 | _ => ⟨0, .nil, 0, .nil, .nil⟩
theorem piece_of {Γ : Ctx} {nt : Nat} {ops : Array Oper} {l : List Oper} {T0 : Tab} {fr0 : Tr SV} {fa : Tr Bool} {C : Tab → St → Prop} (h : isLeafR (pieceR Γ nt ops l T0 fr0 fa) = true)
  (hg : goodTab 2 (tabR (pieceR Γ nt ops l T0 fr0 fa)) = true) (hn : (stR (pieceR Γ nt ops l T0 fr0 fa)).nt = nt) (hC : C (tabR (pieceR Γ nt ops l T0 fr0 fa)) (stR (pieceR Γ nt ops l T0 fr0 fa))) :
  Piece Γ nt ops l T0 fr0 fa C := by
 refine ⟨_, _, ?_, hg, hn, hC⟩
 show pieceR Γ nt ops l T0 fr0 fa = _
 generalize pieceR Γ nt ops l T0 fr0 fa = r at h ⊢
 unfold isLeafR at h
 split at h
 · rfl
 · cases h
def tyAt (Γ : Ctx) (t : Nat) : TI := (Γ.ty.get t).getD ⟨.other, 0, []⟩
def hasTy (Γ : Ctx) (t : Nat) : Bool := match Γ.ty.get t with
 | some _ => true
 | none => false
theorem hasTy_eq {Γ : Ctx} {t : Nat} (h : hasTy Γ t = true) : Γ.ty.get t = some (tyAt Γ t) := by
 unfold hasTy at h
 unfold tyAt
 split at h
 · rename_i i hi; rw [hi]; rfl
 · cases h
end
end Go.Sx

namespace Go.Sx
noncomputable section
open Go.RowKit
def tabL (S : Sm) : Tab := ⟨maxReg, Tr.ofList fuelT S.ds, .nil⟩
theorem smL_via {P : Program} {Γ : Ctx} (hΓ : Γ.ok P) (hsum : ∀ f s, Γ.summ f = some s → SummOK P f s) {hn : Nat → Option Hint} {f : Nat} {F : Func} (hF : P.funcs[f]? = some F) (hname : (F.name == "runtime.NumGoroutine") = false)
  {n : Nat} {pat : List SV} {S S2 : Sm} (hrun : smRunL Γ hn F n pat S = true) (hg2 : goodTab n (tabL S2) = true) (hd2 : dsOK (tabL S2) S2.ds = true)
  (hEq : ∀ (ρ1 ρ2 : Nat → Int) (μ : Mu) (x : Value), (∀ r, r < n → ρ1 r = ρ2 r) → (∀ r d, (r, d) ∈ S.ds → ρ1 r = d.ev ρ1) → (∀ r d, (r, d) ∈ S2.ds → ρ2 r = d.ev ρ2) → (S.vt.pick ρ1).rel ρ1 μ x → (S2.vt.pick ρ2).rel ρ2 μ x) :
  SummOK P f (smL S2 n pat) := by
 intro T st args T1 vt h ρ hs
 unfold smL at h
 split at h
 case h_2 => cases h
 rename_i u hu
 split at h
 case h_2 => cases h
 rename_i T2 σ hqn hinst
 split at h
 case h_2 => cases h
 rename_i vt' hvt'
 cases h
 unfold smRunL at hrun
 split at hrun
 case h_2 => cases hrun
 rename_i T0 t0 hr
 split at hrun
 case h_2 => cases hrun
 rename_i hg hds hlow
 split at hrun
 case h_2 => cases hrun
 rename_i vt0 hvt
 have hvte := vtBeq_eq hrun
 subst hvte
 have hlow : n ≤ maxReg := Nat.le_of_lt (Nat.le_of_ble_eq_true hlow)
 unfold runL at hr
 split at hr
 case h_2 => cases hr
 rename_i c hb
 obtain ⟨_, hul, husp⟩ := uVs_spec (ρ := ρ) hlow hu
 have hul := hul (fun r x h => by cases h)
 obtain ⟨ρ', hin, hs'⟩ := exists_rho hg (fun r => ((u.σ.get r).map (X.ev ρ)).getD 0)
 obtain ⟨ρ2, hin2, hs2⟩ := exists_rho hg2 (fun r => ((u.σ.get r).map (X.ev ρ)).getD 0)
 have hat : ∀ r x, u.σ.get r = some x → x.ev ρ = ρ' r := fun r x hr => by
  rw [hin r (hul r x hr), hr]; rfl
 have hat2 : ∀ r x, u.σ.get r = some x → x.ev ρ = ρ2 r := fun r x hr => by
  rw [hin2 r (hul r x hr), hr]; rfl
 obtain ⟨s0, hst⟩ := instDs_spec hs2 S2.ds _ _ _ _ (dsOK_spec hd2) hinst hs
 have hstands := hst hat2
 simp only [Bool.and_eq_true] at hqn
 refine ⟨s0, fun w0 μ nb bs vs w hf hbs hwr hvs => ?_⟩
 have hrel := husp u ρ' μ _ (.refl _) hat hvs
 obtain ⟨_, hwp⟩ := execX_sound hΓ hsum (fun _ _ h => by cases h) 400 ρ' _ _ _ _ _ hr hs'
 have hfr := frame_enter hrel F.ntmps
 have hpl := plsOK_mono hbs hqn.2
 have hqn := Nat.le_of_ble_eq_true hqn.1
 refine callOK_of hΓ hF hname hb (calls_of_wp hF hb (hwp (Base.all w) (muQ ρ μ u.qs) _ w _ ⟨rfl, hfr, (hwr.lists hpl).more hqn, (fun r b h => by cases h)⟩ ?_))
 refine vtree_spec hvt _ fun e s v hv hpick => ?_
 intro μ' a' w' hp hw'
 obtain ⟨he, hv', hvn⟩ := leafRes_spec hv
 obtain ⟨x, hx, hxr⟩ := resultsS_sound hΓ hv' hw'
 have hxr' := settle_rel hs' hw'.fa (SV.rel_num (μ' := μ) hvn hxr)
 rw [← hpick] at hxr'
 have hx2 := hEq ρ' ρ2 μ x (fun r hr => by rw [hin r hr, hin2 r hr]) (fun r d hd => hs' r d (dsOK_spec hds r d hd)) (fun r d hd => hs2 r d (dsOK_spec hd2 r d hd)) hxr'
 have fin : bodyPost P F (fun e w2 => ∃ v, e = .returned v ∧ (vt.pick ρ).rel ρ μ v ∧ WR ρ w0 μ nb bs w2) .ret a' w' :=
  ⟨hw'.defers, x, hx, x, rfl, instVT_rel hstands hs hf hvt' hx2, hwr.after hw'.wr.kept.below⟩
 rcases he with rfl | rfl <;> exact fin
theorem fin_count {step : List Int → Option (List Int)} {n lo : Int} {C : Int → Prop} (hgo : ∀ i, lo ≤ i → i < n → C i → step [i] = some [i + 1]) (hstop : ∀ i, lo ≤ i → ¬ (i < n ∧ C i) → step [i] = none) :
  ∀ (m : Nat) (i : Int), lo ≤ i → (n - i).toNat < m → ∃ j, fin step [i] = [j] ∧ i ≤ j ∧ (∀ k, i ≤ k → k < j → k < n ∧ C k) ∧ ¬ (j < n ∧ C j) ∧ (∃ q, itn step q [i] = some [j] ∧ step [j] = none)
 | 0, i, _, h => by omega
 | m + 1, i, hlo, h => by
  by_cases hc : i < n ∧ C i
  · obtain ⟨j, h1, h2, h3, h4, q, h5, h6⟩ := fin_count hgo hstop m (i + 1) (by omega) (by omega)
    have hs := hgo i hlo hc.1 hc.2
    refine ⟨j, by rw [fin_next hs ⟨[j], q, h5, h6⟩]; exact h1, by omega, fun k hk1 hk2 => ?_, h4, q + 1, by unfold itn; rw [hs]; exact h5, h6⟩
    by_cases e : k = i
    · subst e; exact hc
    · exact h3 k (by omega) hk2
  · have hs := hstop i hlo hc
    exact ⟨i, fin_stop hs, Int.le_refl _, fun k h1 h2 => by omega, hc, 0, rfl, hs⟩
theorem fin_below {step : List Int → Option (List Int)} {n lo : Int} {C : Int → Prop} (hgo : ∀ i, lo ≤ i → i < n → C i → step [i] = some [i + 1]) (hstop : ∀ i, lo ≤ i → ¬ (i < n ∧ C i) → step [i] = none) :
  (fin step [lo]).getD 0 0 < n ↔ ∃ k, lo ≤ k ∧ k < n ∧ ¬ C k := by
 obtain ⟨j, h1, h2, h3, h4, _⟩ := fin_count hgo hstop _ lo (Int.le_refl _) (Nat.lt_succ_self _)
 rw [h1]
 show j < n ↔ _
 constructor
 · intro hj
   exact ⟨j, h2, hj, fun hc => h4 ⟨hj, hc⟩⟩
 · rintro ⟨k, k1, k2, k3⟩
   by_cases hj : j < n
   · exact hj
   · exact absurd (h3 k k1 (by omega)).2 k3
end
end Go.Sx
