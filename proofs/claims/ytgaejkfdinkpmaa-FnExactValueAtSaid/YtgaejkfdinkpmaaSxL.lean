/-
  The executor with lists and loops of unknown length.
-/
import Derived.Test.YtgaejkfdinkpmaaSxD
import Derived.IntWalk
import Derived.Laws.Slices
set_option linter.unusedSimpArgs false
set_option linter.unusedVariables false
namespace Go.Sx
noncomputable section
open Go.RowKit

/-- How long a list is. -/
def lenX (T : Tab) (L : X) : Option (Tab × X) :=
  match L with
  | .lit n => match ibeq n 0 with
    | true => some (T, .lit 0)
    | false => none
  | .reg r => mk T 62 [.reg r]

def kindSC (k : Nat) (x : X) : SC :=
  match k with
  | 8 => .flt .f32 x
  | 9 => .flt .f64 x
  | 10 => .bool x
  | _ => .int (kindOf k) x

/-- A cell of an element; of a list of one that is known by its cells. -/
def mk63 (T : Tab) (L I : X) (o : Nat) : Option (Tab × X) :=
  match L, I with
  | .reg r, .lit (.ofNat 0) =>
    match T.defs.get r with
    | some d =>
      match Nat.beq d.f 66, d.a[o]? with
      | true, some x => some (T, x)
      | _, _ => mk T 63 [L, I, .lit o]
    | none => mk T 63 [L, I, .lit o]
  | _, _ => mk T 63 [L, I, .lit o]

/-- The cells of an element from there on. -/
def cellsE (ks : List Nat) (L I : X) : Nat → Nat → Tab → Option (Tab × List SC)
  | _, 0, T => some (T, [])
  | o, n + 1, T =>
    match ks[o]?, mk63 T L I o with
    | some k, some (T1, z) =>
      match Nat.ble k 10, cellsE ks L I (o + 1) n T1 with
      | true, some (T2, l) => some (T2, kindSC k z :: l)
      | _, _ => none
    | _, _ => none

def loadE (Γ : Ctx) (T : Tab) (t : Nat) : SV → Option (Tab × SV)
  | .w (.one (.el _ ks L I o)) =>
    match Γ.ty.get t with
    | some i =>
      match i.agg with
      | true => match Nat.ble 1 i.size, cellsE ks L I o i.size T with
        | true, some (T1, l) => some (T1, .w (.agg l))
        | _, _ => none
      | false => match cellsE ks L I o 1 T with
        | some (T1, [c]) => some (T1, .c c)
        | _ => none
    | none => none
  | _ => none

/-- Is it known to lie within 0 .. n - 1? -/
def inDir (T : Tab) (fa : Tr Bool) (n X0 : X) : Option Tab :=
  match mk T 15 [X0, .lit 0] with
  | some (T2, a) =>
    match mk T2 15 [X0, n] with
    | some (T3, b) =>
      match decideX T3 fa a, decideX T3 fa b with
      | .known false, .known true => some T3
      | _, _ => none
    | none => none
  | none => none

def isKnown (v : Bool) : Dec → Bool
  | .known b => b == v
  | _ => false

/-- The same of i - 1. -/
def inLess (T : Tab) (fa : Tr Bool) (n i : X) : Option Tab :=
  match mk T 15 [.lit 0, i] with
  | some (T2, a) =>
    match mk T2 15 [i, .lit 1] with
    | some (T3, c) =>
      match mk T3 15 [i, n] with
      | some (T4, b) =>
        match (isKnown true (decideX T4 fa a) || isKnown false (decideX T4 fa c)) && isKnown true (decideX T4 fa b) with
        | true => some T4
        | false => none
      | none => none
    | none => none
  | none => none

def minusOne (T : Tab) : X → Option X
  | .lit _ => none
  | .reg r =>
    match T.defs.get r with
    | some ⟨f, [.lit k, i, .lit m]⟩ =>
      match Nat.beq f 32 && (ibeq k 3 && ibeq m 1) with
      | true => some i
      | false => none
    | _ => none

/-- Is a length known not to be 0? -/
def posN (T : Tab) (fa : Tr Bool) (n : X) : Bool :=
  match factOn T fa 15 [n, .lit 2], factOn T fa 15 [.lit 0, n], factOn T fa 14 [.lit 0, n] with
  | some false, _, _ => true
  | _, some true, _ => true
  | _, _, some false =>
    match n with
    | .reg r => match T.defs.get r with
      | some e => match e.a with
        | [L] => e.beq ⟨62, [L]⟩
        | _ => false
      | none => false
    | .lit _ => false
  | _, _, _ => false

/-- A literal below a bound that the length is known not to be below. -/
def litIn (T : Tab) (fa : Tr Bool) (n X0 : X) : Bool :=
  match X0 with
  | .lit (.ofNat m) =>
    match factOn T fa 15 [n, .lit (.ofNat (m + 1))] with
    | some b => !b
    | none => false
  | _ => false

/-- The first, or the last. -/
def inPos (T : Tab) (fa : Tr Bool) (n X0 : X) : Bool :=
  litIn T fa n X0 ||
  match posN T fa n with
  | true =>
    match X0.beq (.lit 0) with
    | true => true
    | false => match minusOne T X0 with
      | some i => i.beq n
      | none => false
  | false => false

/-- A loop's last counter lies within. -/
def ctrIn (T : Tab) (fa : Tr Bool) (n X0 : X) : Bool := ltCtr T fa X0 n

/-- c is not above t, and is not t; the last cell is not below t. -/
def lastOne (T : Tab) (fa : Tr Bool) (c cm : Nat) : List Nat → Bool
  | [] => false
  | r :: l =>
    (match T.defs.get r with
    | some d =>
      match d.a with
      | [t, _] =>
        match d.beq ⟨15, [t, .reg c]⟩, fa.get r, factOn T fa 15 [.reg cm, t] with
        | true, some false, some false =>
          match factOn T fa 14 [.reg c, t], factOn T fa 14 [t, .reg c] with
          | some false, _ => true
          | _, some false => true
          | _, _ => false
        | _, _, _ => false
      | _ => false
    | none => false) || lastOne T fa c cm l

/-- The next of a number within lies within: its cell is not the last one. -/
def lastIn (T : Tab) (fa : Tr Bool) (n X0 : X) : Bool :=
  match X0, n with
  | .reg s, .reg m =>
    match T.defs.get s, T.defs.get m with
    | some ds, some dm =>
      match ds.a, dm.a with
      | [_, e, _], [L] =>
        match ds.beq ⟨31, [.lit 3, e, .lit 1]⟩ && (dm.beq ⟨62, [L]⟩ && ctrIn T fa n e), look T 63 [L, e, .lit 0], look T 32 [.lit 3, .reg m, .lit 1] with
        | true, some c, some mm =>
          match look T 63 [L, .reg mm, .lit 0] with
          | some cm => lastOne T fa c cm ((T.idx.get c).getD [])
          | none => false
        | _, _, _ => false
      | _, _ => false
    | _, _ => false
  | _, _ => false

/-- Behind a search: what is looked for is neither the element nor above the last one. -/
def aheadIn (T : Tab) (fa : Tr Bool) (n X0 : X) : Bool :=
  match X0, n with
  | .reg s, .reg m =>
    match T.defs.get s, T.defs.get m with
    | some ds, some dm =>
      match ds.a, dm.a with
      | [_, .reg e, _], [L] =>
        match T.defs.get e with
        | some de =>
          match de.a with
          | [_, _, _, _, t] => ds.beq ⟨31, [.lit 3, .reg e, .lit 1]⟩ && aheadK T fa L t e m
          | _ => false
        | none => false
      | _, _ => false
    | _, _ => false
  | _, _ => false

/-- One more and one less. -/
def backY (T : Tab) (fa : Tr Bool) (n X0 : X) : X :=
  match X0 with
  | .reg r =>
    match T.defs.get r with
    | some d =>
      match d.a with
      | [_, .reg s, _] =>
        match T.defs.get s with
        | some e =>
          match e.a with
          | [_, x, _] =>
            match d.beq ⟨32, [.lit 3, .reg s, .lit 1]⟩ && (e.beq ⟨31, [.lit 3, x, .lit 1]⟩ && ctrIn T fa n x) with
            | true => x
            | false => X0
          | _ => X0
        | none => X0
      | _ => X0
    | none => X0
  | .lit _ => X0

def backX (T : Tab) (fa : Tr Bool) (L X0 : X) : X :=
  match look T 62 [L] with
  | some m => backY T fa (.reg m) X0
  | none => X0

def inBound1 (T : Tab) (fa : Tr Bool) (n X0 : X) : Option Tab :=
  match inDir T fa n X0 with
  | some T2 => some T2
  | none =>
    match inPos T fa n X0 || (ctrIn T fa n (backY T fa n X0) || (lastIn T fa n X0 || aheadIn T fa n X0)) with
    | true => some T
    | false =>
      match minusOne T X0 with
      | some i => inLess T fa n i
      | none => none

/-- A number that is known to be the same. -/
def eqNum (T : Tab) (fa : Tr Bool) (n : X) : List (Nat × Bool) → Option X
  | [] => none
  | (r, _) :: l =>
    match T.defs.get r, fa.get r with
    | some ⟨f, [a, b]⟩, some true =>
      match Nat.beq f 14, a.beq n, b.beq n with
      | true, true, _ => some b
      | true, false, true => some a
      | _, _, _ => eqNum T fa n l
    | _, _ => eqNum T fa n l

def inBound (T : Tab) (fa : Tr Bool) (n X0 : X) : Option Tab :=
  match inBound1 T fa n X0 with
  | some T2 => some T2
  | none =>
    match eqNum T fa n (Tr.list 1 0 fa) with
    | some m => inBound1 T fa m X0
    | none => none

/-- Is it known to lie within the list? -/
def inList (T : Tab) (fa : Tr Bool) (L X0 : X) : Option Tab :=
  match lenX T L with
  | some (T1, n) => inBound T1 fa n X0
  | none => none

def indexAddrE (Γ : Ctx) (T : Tab) (fa : Tr Bool) (t : Nat) (x ix : SV) : Option (Tab × SV) :=
  match Γ.ty.get t with
  | some i =>
    match i.d, x, ix with
    | .slice e, .w (.one (.ls q ks L)), .w (.one (.int _ n)) =>
      match sizeT Γ e with
      | some s =>
        match Nat.beq s ks.length, inList T fa L n with
        | true, some T1 => some (T1, .c (.el q ks L (backX T1 fa L n) 0))
        | _, _ => none
      | none => none
    | .arr len e, .w (.one (.el q ks L I o)), ix =>
      match natOf ix, sizeT Γ e with
      | some n, some s => match Nat.blt n len with
        | true => some (T, .c (.el q ks L I (o + n * s)))
        | false => none
      | _, _ => none
    | _, _, _ => none
  | none => none

def fieldAddrE (Γ : Ctx) (T : Tab) (t : Nat) (x : SV) (f : Nat) : Option (Tab × SV) :=
  match Γ.ty.get t with
  | some i =>
    match i.d, x with
    | .struct fs, .w (.one (.el q ks L I o)) =>
      match fs[f]? with
      | some (off, ft) =>
        match sizeT Γ ft with
        | some (_ + 1) => some (T, .c (.el q ks L I (o + off)))
        | _ => none
      | none => none
    | _, _ => none
  | none => none

def asI64 : Option (Tab × X) → Option (Tab × SV)
  | some (T, z) => some (T, .c (.int .i64 z))
  | none => none

def lenE (Γ : Ctx) (T : Tab) (t : Nat) : SV → Option (Tab × SV)
  | .w (.one (.ls _ _ L)) =>
    match Γ.ty.get t with
    | some i =>
      match i.d with
      | .slice _ => asI64 (lenX T L)
      | _ => none
    | none => none
  | _ => none

def isEl : SV → Bool
  | .w (.one (.el _ _ _ _ _)) => true
  | _ => false

/-- One operation on lists; none: it is no such operation. -/
def listS (Γ : Ctx) (T : Tab) (st : St) (o : Oper) : Option (Tab × SV) :=
  match o.op with
  | .load t a => loadE Γ T t (st.eval a)
  | .indexAddr t x i => indexAddrE Γ T st.fa t (st.eval x) (st.eval i)
  | .fieldAddr t x f => fieldAddrE Γ T t (st.eval x) f
  | .nilCheck x => match isEl (st.eval x) with
    | true => some (T, st.eval x)
    | false => none
  | .call { callee := .builtin .len, args := as, argTypes := ts } =>
    match as.toList, ts[0]? with
    | [x], some t => lenE Γ T t (st.eval x)
    | _, _ => none
  | _ => none

section
variable {P : Program} {ρ : Nat → Int} {Γ : Ctx}

theorem kindSC_rel {μ : Mu} {k : Nat} {x : X} {v : Value} (h : KC k (x.ev ρ) v) : (kindSC k x).rel ρ μ v := by
  rcases h with ⟨hk, rfl⟩ | ⟨rfl, b, rfl, e⟩ | ⟨rfl, b, rfl, e⟩ | ⟨rfl, rfl⟩
  · have : kindSC k x = .int (kindOf k) x := by
      unfold kindSC
      split <;> first | rfl | omega
    rw [this]; rfl
  · exact ⟨b, rfl, e⟩
  · exact ⟨b, rfl, e⟩
  · rfl

theorem lenX_spec {T T' : Tab} {L n : X} (h : lenX T L = some (T', n)) (hs : Sat ρ T') : Sat ρ T ∧ ∀ els, L.ev ρ = encE els → els.length ≤ maxLen → n.ev ρ = (els.length : Nat) := by
  unfold lenX at h
  split at h
  · rename_i v
    split at h
    · rename_i hb
      cases h
      have hv := ibeq_eq hb
      subst hv
      refine ⟨hs, fun els he _ => ?_⟩
      have : els = [] := encE_inj (he.symm.trans (show (0 : Int) = encE [] from rfl))
      subst this; rfl
    · cases h
  · obtain ⟨s0, hz⟩ := mk_spec h hs
    refine ⟨s0, fun els he hl => ?_⟩
    rw [hz]
    show ((min (decE ((X.reg _).ev ρ)).length 9223372036854775807 : Nat) : Int) = ((els.length : Nat) : Int)
    rw [he, decE_enc]
    unfold maxLen at hl
    rw [Nat.min_eq_left (by omega)]

theorem mk63_spec {T T' : Tab} {L I z : X} {o : Nat} (h : mk63 T L I o = some (T', z)) (hs : Sat ρ T') : Sat ρ T ∧ z.ev ρ = opF 63 [L.ev ρ, I.ev ρ, (o : Nat)] := by
  unfold mk63 at h
  split at h
  · rename_i r
    split at h
    · rename_i d hd
      split at h
      · rename_i x hf hx
        cases h
        refine ⟨hs, ?_⟩
        have e := hs r d hd
        obtain ⟨f, a⟩ := d
        have hf := Nat.eq_of_beq_eq_true hf
        have hf : f = 66 := hf
        subst hf
        have e : ρ r = encE [a.map (X.ev ρ)] := e
        show z.ev ρ = cellE (decE (ρ r)) 0 ((o : Nat) : Int).toNat
        rw [e, decE_enc]
        unfold cellE
        have hx : a[o]? = some z := hx
        simp [List.getD_eq_getElem?_getD, List.getElem?_map, hx]
      · exact mk_spec h hs
    · exact mk_spec h hs
  · exact mk_spec h hs

theorem cellsE_spec {ks : List Nat} {L I : X} {els : List (List Int)} {i : Nat} (hL : L.ev ρ = encE els) (hI : I.ev ρ = (i : Nat)) {cs : Array Value} {base : Nat}
    (hc : ∀ c, c < ks.length → ∃ v, cs[base + c]? = some v ∧ KC (ks.getD c 0) (cellE els i c) v) {μ : Mu} :
    ∀ (n o : Nat) {T T' : Tab} {l : List SC}, cellsE ks L I o n T = some (T', l) → Sat ρ T' → Sat ρ T ∧ l.length = n ∧ (0 < n → o + n ≤ ks.length) ∧ cellsRel ρ μ l ((cs.toList.drop (base + o)).take n)
  | 0, o, T, T', l, h, hs => by
    unfold cellsE at h; cases h
    refine ⟨hs, rfl, fun h => absurd h (Nat.lt_irrefl 0), ?_⟩
    rw [List.take_zero]; trivial
  | n + 1, o, T, T', l, h, hs => by
    unfold cellsE at h
    split at h
    · rename_i k T1 z hk hm
      split at h
      · rename_i T2 l' _ hr
        cases h
        obtain ⟨s1, hlen, hle, hrel⟩ := cellsE_spec hL hI hc n (o + 1) hr hs
        obtain ⟨s0, hz⟩ := mk63_spec hm s1
        have hok : o < ks.length := (List.getElem?_eq_some_iff.1 hk).1
        obtain ⟨v, hv, hkc⟩ := hc o hok
        refine ⟨s0, by simp [hlen], fun _ => ?_, ?_⟩
        · by_cases h0 : 0 < n
          · have := hle h0; omega
          · omega
        · have hg : cs.toList[base + o]? = some v := by simpa using hv
          obtain ⟨hlt, hge⟩ := List.getElem?_eq_some_iff.1 hg
          rw [List.drop_eq_getElem_cons hlt, List.take_succ_cons, hge]
          refine ⟨kindSC_rel ?_, ?_⟩
          · have e1 : ks.getD o 0 = k := by simp [List.getD_eq_getElem?_getD, hk]
            rw [e1] at hkc
            rw [hz]
            show KC k (cellE (decE (L.ev ρ)) (I.ev ρ) ((o : Nat) : Int).toNat) v
            rw [hL, decE_enc, hI]
            exact hkc
          · have : base + (o + 1) = base + o + 1 := by omega
            rw [this] at hrel
            exact hrel
      · cases h
    · cases h

theorem el_at {q : Nat} {ks : List Nat} {L I : X} {o : Nat} {w0 : Base} {μ : Mu} {nb : Nat} {bs : Tr Blk} {w : World} (hw : WR ρ w0 μ nb bs w) {av : Value} (h : (SC.el q ks L I o).rel ρ μ av) :
    ∃ b off els i cs ty fz, av = .pointer (some ⟨b, off + i * ks.length + o, none⟩) ∧ L.ev ρ = encE els ∧ I.ev ρ = (i : Nat) ∧ w.heap[b]? = some (.cells cs ty fz) ∧
      ∀ c, c < ks.length → ∃ v, cs[off + i * ks.length + c]? = some v ∧ KC (ks.getD c 0) (cellE els i c) v := by
  obtain ⟨p, off, els, i, hp, he, hL, hI, hlt, rfl⟩ := h
  obtain ⟨⟨off', ks', els', he', hc⟩, _⟩ := hw.lst (LB + q) p (Nat.le_add_right _ _) hp
  obtain ⟨rfl, rfl, rfl⟩ := encP_inj (he.symm.trans he')
  obtain ⟨cs, ty, fz, hh, hcc⟩ := hc (fun e => by rw [e] at hlt; cases hlt)
  exact ⟨p.1, off, els, i, cs, ty, fz, rfl, hL, hI, hh, fun c hck => hcc i c hlt hck⟩

theorem loadE_sound (hΓ : Γ.ok P) {T T' : Tab} {t : Nat} {a v : SV} (h : loadE Γ T t a = some (T', v)) (hs : Sat ρ T') :
    Sat ρ T ∧ ∀ (w0 : Base) (μ : Mu) (nb : Nat) (bs : Tr Blk) (w : World) (av : Value), WR ρ w0 μ nb bs w → a.rel ρ μ av → ∃ p x, av = .pointer (some p) ∧ (loadVar t p).run P w = .ok x w ∧ v.rel ρ μ x := by
  unfold loadE at h
  split at h
  · rename_i q ks L I o
    split at h
    · rename_i ti hi
      have ok := hΓ.ty t ti hi
      split at h
      · rename_i hag
        split at h
        · rename_i T1 l hpos hl
          cases h
          have tab : ∀ (n o : Nat) (T T' : Tab) (l : List SC), cellsE ks L I o n T = some (T', l) → Sat ρ T' → Sat ρ T := by
            intro n
            induction n with
            | zero => intro o T T' l h hs; unfold cellsE at h; cases h; exact hs
            | succ n ih =>
              intro o T T' l h hs
              unfold cellsE at h
              split at h
              · rename_i k T1 z _ hm
                split at h
                · rename_i T2 l' _ hr
                  cases h
                  exact (mk63_spec hm (ih _ _ _ _ hr hs)).1
                · cases h
              · cases h
          refine ⟨tab _ _ _ _ _ hl hs, fun w0 μ nb bs w av hw ha => ?_⟩
          obtain ⟨b, off, els, i, cs, ty, fz, rfl, hL, hI, hh, hc⟩ := el_at hw ha
          obtain ⟨_, hlen, hle, hrel⟩ := cellsE_spec hL hI hc (μ := μ) ti.size o hl hs
          have hsz : off + i * ks.length + o + ti.size ≤ cs.size := by
            have := cellsRel_length hrel
            rw [hlen] at this
            simp only [List.length_take, List.length_drop, Array.length_toList] at this
            by_cases h0 : 0 < ti.size
            · omega
            · have := Nat.le_of_ble_eq_true hpos
              omega
          refine ⟨_, .agg (cs.extract (off + i * ks.length + o) (off + i * ks.length + o + ti.size)), rfl, ?_, _, rfl, ?_⟩
          · have := run_loadCells_block (P := P) (n := ti.size) (o := off + i * ks.length + o) hh hsz
            simp [loadVar, isAgg_run ok, hag, sizeOf_run ok, this]
          · rw [extract_list]; exact hrel
        · cases h
      · rename_i hag
        split at h
        · rename_i T1 c hl
          cases h
          unfold cellsE at hl
          split at hl
          · rename_i k T2 z hk hm
            split at hl
            · rename_i T3 l' hb hr
              unfold cellsE at hr
              cases hr
              cases hl
              obtain ⟨s0, hz⟩ := mk63_spec hm hs
              refine ⟨s0, fun w0 μ nb bs w av hw ha => ?_⟩
              obtain ⟨b, off, els, i, cs, ty, fz, rfl, hL, hI, hh, hc⟩ := el_at hw ha
              obtain ⟨x, hx, hkc⟩ := hc o (List.getElem?_eq_some_iff.1 hk).1
              refine ⟨_, x, rfl, ?_, kindSC_rel ?_⟩
              · have hcell : w.cell? ⟨b, off + i * ks.length + o, none⟩ = some x := by simp [World.cell?, hh, hx]
                simp [loadVar, isAgg_run ok, hag, hcell]
              · have e1 : ks.getD o 0 = k := by simp [List.getD_eq_getElem?_getD, hk]
                rw [e1] at hkc
                rw [hz]
                show KC k (cellE (decE (L.ev ρ)) (I.ev ρ) ((o : Nat) : Int).toNat) x
                rw [hL, decE_enc, hI]
                exact hkc
            · cases hl
          · cases hl
        · cases h
    · cases h
  · cases h

theorem isKnown_eq {v : Bool} {d : Dec} (h : isKnown v d = true) : d = .known v := by
  unfold isKnown at h
  split at h
  · rename_i b
    have : b = v := by simpa using h
    rw [this]
  · cases h

theorem inDir_spec {T T' : Tab} {fa : Tr Bool} {n X0 : X} (h : inDir T fa n X0 = some T') (hs : Sat ρ T') : Sat ρ T ∧ (Facts ρ fa → 0 ≤ X0.ev ρ ∧ X0.ev ρ < n.ev ρ) := by
  unfold inDir at h
  split at h
  case h_2 => cases h
  rename_i T2 a h2
  split at h
  case h_2 => cases h
  rename_i T3 b h3
  split at h
  case h_2 => cases h
  rename_i da db
  cases h
  obtain ⟨s2, k3⟩ := mk_spec h3 hs
  obtain ⟨s1, k2⟩ := mk_spec h2 s2
  refine ⟨s1, fun hf => ?_⟩
  have ha := decideX_spec hs hf a
  have hb := decideX_spec hs hf b
  rw [da] at ha
  rw [db] at hb
  have ha : (a.ev ρ == 1) = false := ha
  have hb : (b.ev ρ == 1) = true := hb
  simp only [List.map, opF_15] at k2 k3
  rw [k2, b2i_eq] at ha
  rw [k3, b2i_eq] at hb
  have ha := of_decide_eq_false ha
  have hb := of_decide_eq_true hb
  have ha : ¬ X0.ev ρ < 0 := ha
  exact ⟨by omega, hb⟩

theorem inLess_spec {T T' : Tab} {fa : Tr Bool} {n i : X} (h : inLess T fa n i = some T') (hs : Sat ρ T') : Sat ρ T ∧ (Facts ρ fa → 0 < i.ev ρ ∧ i.ev ρ < n.ev ρ) := by
  unfold inLess at h
  split at h
  case h_2 => cases h
  rename_i T2 a h2
  split at h
  case h_2 => cases h
  rename_i T3 c h3
  split at h
  case h_2 => cases h
  rename_i T4 b h4
  split at h
  case h_2 => cases h
  rename_i hk
  cases h
  simp only [Bool.and_eq_true, Bool.or_eq_true] at hk
  obtain ⟨s3, k4⟩ := mk_spec h4 hs
  obtain ⟨s2, k3⟩ := mk_spec h3 s3
  obtain ⟨s1, k2⟩ := mk_spec h2 s2
  refine ⟨s1, fun hf => ?_⟩
  have hb := decideX_spec hs hf b
  rw [isKnown_eq hk.2] at hb
  have hb : (b.ev ρ == 1) = true := hb
  simp only [List.map, opF_15] at k2 k3 k4
  rw [k4, b2i_eq] at hb
  have hb := of_decide_eq_true hb
  refine ⟨?_, hb⟩
  rcases hk.1 with hk | hk
  · have ha := decideX_spec hs hf a
    rw [isKnown_eq hk] at ha
    have ha : (a.ev ρ == 1) = true := ha
    rw [k2, b2i_eq] at ha
    exact of_decide_eq_true ha
  · have ha := decideX_spec hs hf c
    rw [isKnown_eq hk] at ha
    have ha : (c.ev ρ == 1) = false := ha
    rw [k3, b2i_eq] at ha
    have ha := of_decide_eq_false ha
    have ha : ¬ i.ev ρ < 1 := ha
    omega

theorem minusOne_spec {T : Tab} (hs : Sat ρ T) {x i : X} (h : minusOne T x = some i) : x.ev ρ = IntKind.i64.wrap (i.ev ρ - 1) := by
  unfold minusOne at h
  split at h
  · cases h
  · rename_i r
    split at h
    · rename_i f k i' m hd
      split at h
      · rename_i hb
        cases h
        simp only [Bool.and_eq_true] at hb
        have e1 := Nat.eq_of_beq_eq_true hb.1
        have e2 := ibeq_eq hb.2.1
        have e3 := ibeq_eq hb.2.2
        subst e1 e2 e3
        exact hs r _ hd
      · cases h
    · cases h

theorem len_rng (l : Int) : 0 ≤ opF 62 [l] ∧ opF 62 [l] ≤ 9223372036854775807 := by
  show 0 ≤ ((min (decE l).length 9223372036854775807 : Nat) : Int) ∧ ((min (decE l).length 9223372036854775807 : Nat) : Int) ≤ 9223372036854775807
  have := Nat.min_le_right (decE l).length 9223372036854775807
  omega

theorem posN_spec {T : Tab} (hs : Sat ρ T) {fa : Tr Bool} (hf : Facts ρ fa) {n : X} (h : posN T fa n = true) : 0 < n.ev ρ := by
  unfold posN at h
  split at h
  · rename_i h1
    have e := factOn_spec hs hf h1
    have e : (b2i (decide (n.ev ρ < 2)) == 1) = false := e
    rw [b2i_eq] at e
    have e := of_decide_eq_false e
    omega
  · rename_i h1 _
    have e := factOn_spec hs hf h1
    have e : (b2i (decide (0 < n.ev ρ)) == 1) = true := e
    rw [b2i_eq] at e
    exact of_decide_eq_true e
  · rename_i h1 _ _
    have e := factOn_spec hs hf h1
    have e : (b2i ((0 : Int) == n.ev ρ) == 1) = false := e
    rw [b2i_eq] at e
    have e : ¬ (0 : Int) = n.ev ρ := by simpa using e
    cases n with
    | lit v => cases h
    | reg r =>
      simp only at h
      cases hd : T.defs.get r with
      | none => rw [hd] at h; cases h
      | some d =>
        rw [hd] at h
        simp only at h
        split at h
        · rename_i L _
          have e2 := hs r d hd
          rw [D.beq_eq h] at e2
          have e2 : ρ r = opF 62 [L.ev ρ] := e2
          have := len_rng (L.ev ρ)
          show 0 < ρ r
          have e : ¬ (0 : Int) = ρ r := e
          omega
        · cases h
  · cases h

theorem inPos_spec {T : Tab} (hs : Sat ρ T) {fa : Tr Bool} (hf : Facts ρ fa) {n X0 : X} (h : inPos T fa n X0 = true) (hn : n.ev ρ ≤ 9223372036854775807) : 0 ≤ X0.ev ρ ∧ X0.ev ρ < n.ev ρ := by
  unfold inPos at h
  rw [Bool.or_eq_true] at h
  rcases h with h | h
  · unfold litIn at h
    split at h
    · rename_i m
      split at h
      · rename_i b hb
        have hb0 : b = false := by simpa using h
        subst hb0
        have e := factOn_spec hs hf hb
        have e : (b2i (decide (n.ev ρ < ((m + 1 : Nat) : Int))) == 1) = false := e
        rw [b2i_eq] at e
        have e := of_decide_eq_false e
        show (0 : Int) ≤ (m : Nat) ∧ ((m : Nat) : Int) < n.ev ρ
        omega
      · cases h
    · cases h
  split at h
  · rename_i hp
    have hp := posN_spec hs hf hp
    split at h
    · rename_i hb
      rw [X.beq_eq hb]
      exact ⟨Int.le_refl _, hp⟩
    · split at h
      · rename_i i hi
        have e := minusOne_spec hs hi
        rw [X.beq_eq h, Go.IntWalk.i64_in _ (by omega)] at e
        omega
      · cases h
  · cases h

theorem ctrIn_spec {T : Tab} (hs : Sat ρ T) {fa : Tr Bool} (hf : Facts ρ fa) {n X0 : X} (h : ctrIn T fa n X0 = true) : 0 ≤ X0.ev ρ ∧ X0.ev ρ < n.ev ρ := by
  unfold ctrIn at h
  exact ltCtr_spec hs hf h

theorem lastOne_spec {T : Tab} (hs : Sat ρ T) {fa : Tr Bool} (hf : Facts ρ fa) {c cm : Nat} : ∀ {l : List Nat}, lastOne T fa c cm l = true → ρ cm = ρ c → False
  | [], h, _ => by cases h
  | r :: l, h, he => by
    unfold lastOne at h
    rw [Bool.or_eq_true] at h
    rcases h with h | h
    · split at h
      · rename_i d hd
        split at h
        · rename_i t _ _
          split at h
          · rename_i hb hr hcm
            have e1 : ρ r = b2i (decide (t.ev ρ < ρ c)) := by rw [hs r d hd, D.beq_eq hb]; rfl
            have f1 := hf r false hr
            rw [e1, b2i_eq] at f1
            have f1 := of_decide_eq_false f1
            have f2 := factOn_spec hs hf hcm
            have f2 : (b2i (decide (ρ cm < t.ev ρ)) == 1) = false := f2
            rw [b2i_eq] at f2
            have f2 := of_decide_eq_false f2
            have f3 : ¬ ρ c = t.ev ρ := by
              split at h
              · rename_i h3
                have f3 := factOn_spec hs hf h3
                have f3 : (b2i (ρ c == t.ev ρ) == 1) = false := f3
                rw [b2i_eq] at f3
                simpa using f3
              · rename_i h3 _
                have f3 := factOn_spec hs hf h3
                have f3 : (b2i (t.ev ρ == ρ c) == 1) = false := f3
                rw [b2i_eq] at f3
                intro e
                have : ¬ t.ev ρ = ρ c := by simpa using f3
                exact this e.symm
              · cases h
            omega
          · cases h
        · cases h
      · cases h
    · exact lastOne_spec hs hf h he

theorem lastIn_spec {T : Tab} (hs : Sat ρ T) {fa : Tr Bool} (hf : Facts ρ fa) {n X0 : X} (h : lastIn T fa n X0 = true) : 0 ≤ X0.ev ρ ∧ X0.ev ρ < n.ev ρ := by
  unfold lastIn at h
  split at h
  case h_2 => cases h
  rename_i s m
  split at h
  case h_2 => cases h
  rename_i ds dm hds hdm
  split at h
  case h_2 => cases h
  rename_i e _ L _ _
  split at h
  case h_2 => cases h
  rename_i c mm hb hc hmm
  split at h
  case h_2 => cases h
  rename_i cm hcm
  simp only [Bool.and_eq_true] at hb
  obtain ⟨b1, b2, b3⟩ := hb
  obtain ⟨i1, i2⟩ := ctrIn_spec hs hf b3
  have i2 : e.ev ρ < ρ m := i2
  have em : ρ m = opF 62 [L.ev ρ] := by rw [hs m dm hdm, D.beq_eq b2]; rfl
  have hr := len_rng (L.ev ρ)
  rw [← em] at hr
  have es : ρ s = IntKind.i64.wrap (e.ev ρ + 1) := by rw [hs s ds hds, D.beq_eq b1]; rfl
  rw [Go.IntWalk.i64_in _ (by omega)] at es
  have emm : ρ mm = IntKind.i64.wrap (ρ m - 1) := hs mm _ (findReg_spec _ _ _ _ hmm)
  rw [Go.IntWalk.i64_in _ (by omega)] at emm
  have ec : ρ c = opF 63 [L.ev ρ, e.ev ρ, 0] := hs c _ (findReg_spec _ _ _ _ hc)
  have ecm : ρ cm = opF 63 [L.ev ρ, ρ mm, 0] := hs cm _ (findReg_spec _ _ _ _ hcm)
  show 0 ≤ ρ s ∧ ρ s < ρ m
  refine ⟨by omega, ?_⟩
  by_cases hlt : ρ s < ρ m
  · exact hlt
  · exfalso
    refine lastOne_spec hs hf h ?_
    rw [ecm, ec, show ρ mm = e.ev ρ by omega]

theorem aheadIn_spec {T : Tab} (hs : Sat ρ T) {fa : Tr Bool} (hf : Facts ρ fa) {n X0 : X} (h : aheadIn T fa n X0 = true) : 0 ≤ X0.ev ρ ∧ X0.ev ρ < n.ev ρ := by
  unfold aheadIn at h
  split at h
  case h_2 => cases h
  rename_i s m
  split at h
  case h_2 => cases h
  rename_i ds dm hds hdm
  split at h
  case h_2 => cases h
  rename_i e _ L _ _
  split at h
  case h_2 => cases h
  rename_i de hde
  split at h
  case h_2 => cases h
  rename_i t _
  rw [Bool.and_eq_true] at h
  obtain ⟨h1, h2, h3, h4⟩ := aheadK_spec hs hf h.2
  have hr := len_rng (L.ev ρ)
  rw [← h4] at hr
  have es : ρ s = IntKind.i64.wrap (ρ e + 1) := by rw [hs s ds hds, D.beq_eq h.1]; rfl
  rw [Go.IntWalk.i64_in _ (by omega)] at es
  show 0 ≤ ρ s ∧ ρ s < ρ m
  omega

theorem backY_ev {T : Tab} (hs : Sat ρ T) {fa : Tr Bool} (hf : Facts ρ fa) {n X0 : X} (hn : n.ev ρ ≤ 9223372036854775807) : (backY T fa n X0).ev ρ = X0.ev ρ := by
  unfold backY
  split
  · rename_i r
    split
    · rename_i d hd
      split
      · rename_i s _ _
        split
        · rename_i e he
          split
          · rename_i x _ _
            split
            · rename_i hb
              simp only [Bool.and_eq_true] at hb
              obtain ⟨b1, b2, b3⟩ := hb
              obtain ⟨i1, i2⟩ := ctrIn_spec hs hf b3
              have es : ρ s = IntKind.i64.wrap (x.ev ρ + 1) := by rw [hs s e he, D.beq_eq b2]; rfl
              rw [Go.IntWalk.i64_in _ (by omega)] at es
              have er : ρ r = IntKind.i64.wrap (ρ s - 1) := by rw [hs r d hd, D.beq_eq b1]; rfl
              rw [Go.IntWalk.i64_in _ (by omega)] at er
              show x.ev ρ = ρ r
              omega
            · rfl
          · rfl
        · rfl
      · rfl
    · rfl
  · rfl

theorem backX_ev {T : Tab} (hs : Sat ρ T) {fa : Tr Bool} (hf : Facts ρ fa) {L X0 : X} : (backX T fa L X0).ev ρ = X0.ev ρ := by
  unfold backX
  split
  · rename_i m hm
    refine backY_ev hs hf ?_
    show ρ m ≤ _
    rw [show ρ m = opF 62 [L.ev ρ] from hs m _ (findReg_spec _ _ _ _ hm)]
    exact (len_rng _).2
  · rfl

theorem inBound1_spec {T T' : Tab} {fa : Tr Bool} {n X0 : X} (h : inBound1 T fa n X0 = some T') (hs : Sat ρ T') : Sat ρ T ∧ (Facts ρ fa → n.ev ρ ≤ 9223372036854775807 → 0 ≤ X0.ev ρ ∧ X0.ev ρ < n.ev ρ) := by
  unfold inBound1 at h
  split at h
  · rename_i T2 hd
    cases h
    obtain ⟨s, k⟩ := inDir_spec hd hs
    exact ⟨s, fun hf _ => k hf⟩
  · split at h
    · rename_i hp
      cases h
      refine ⟨hs, fun hf hn => ?_⟩
      simp only [Bool.or_eq_true] at hp
      rcases hp with hp | hp | hp | hp
      · exact inPos_spec hs hf hp hn
      · rw [← backY_ev hs hf (n := n) hn]
        exact ctrIn_spec hs hf hp
      · exact lastIn_spec hs hf hp
      · exact aheadIn_spec hs hf hp
    split at h
    · rename_i i hi
      obtain ⟨s, k⟩ := inLess_spec h hs
      refine ⟨s, fun hf hn => ?_⟩
      obtain ⟨h0, h1⟩ := k hf
      rw [minusOne_spec s hi, Go.IntWalk.i64_in _ (by omega)]
      omega
    · cases h

theorem eqNum_spec {T : Tab} (hs : Sat ρ T) {fa : Tr Bool} (hf : Facts ρ fa) {n m : X} : ∀ {l : List (Nat × Bool)}, eqNum T fa n l = some m → m.ev ρ = n.ev ρ
  | [], h => by cases h
  | (r, _) :: l, h => by
    unfold eqNum at h
    split at h
    · rename_i f a b hd hr
      have e : f = 14 → a.ev ρ = b.ev ρ := by
        intro e
        subst e
        have h1 := hf r true hr
        have h2 : ρ r = b2i (a.ev ρ == b.ev ρ) := hs r _ hd
        rw [h2, b2i_eq] at h1
        simpa using h1
      split at h
      · rename_i h1 h2
        cases h
        rw [← X.beq_eq h2]; exact (e (Nat.eq_of_beq_eq_true h1)).symm
      · rename_i h1 _ h3
        cases h
        rw [← X.beq_eq h3]; exact e (Nat.eq_of_beq_eq_true h1)
      · exact eqNum_spec hs hf h
    · exact eqNum_spec hs hf h

theorem inBound_spec {T T' : Tab} {fa : Tr Bool} {n X0 : X} (h : inBound T fa n X0 = some T') (hs : Sat ρ T') : Sat ρ T ∧ (Facts ρ fa → n.ev ρ ≤ 9223372036854775807 → 0 ≤ X0.ev ρ ∧ X0.ev ρ < n.ev ρ) := by
  unfold inBound at h
  split at h
  · rename_i T2 hd
    cases h
    exact inBound1_spec hd hs
  · split at h
    · rename_i m hm
      obtain ⟨s, k⟩ := inBound1_spec h hs
      refine ⟨s, fun hf hn => ?_⟩
      have e := eqNum_spec s hf hm
      have := k hf (by rw [e]; exact hn)
      rw [e] at this
      exact this
    · cases h

theorem inList_spec {T T' : Tab} {fa : Tr Bool} {L X0 : X} (h : inList T fa L X0 = some T') (hs : Sat ρ T') : Sat ρ T ∧ (Facts ρ fa → ∀ els, L.ev ρ = encE els → els.length ≤ maxLen → 0 ≤ X0.ev ρ ∧ X0.ev ρ < (els.length : Nat)) := by
  unfold inList at h
  split at h
  · rename_i T1 n h1
    obtain ⟨s1, k⟩ := inBound_spec h hs
    obtain ⟨s0, kn⟩ := lenX_spec h1 s1
    refine ⟨s0, fun hf els he hl => ?_⟩
    have := k hf (by rw [kn els he hl]; unfold maxLen at hl; omega)
    rw [kn els he hl] at this
    exact this
  · cases h

theorem fieldAddrE_sound (hΓ : Γ.ok P) {T T' : Tab} {t f : Nat} {x v : SV} (h : fieldAddrE Γ T t x f = some (T', v)) {μ : Mu} {xv : Value} (hx : x.rel ρ μ xv) (w : World) :
    T' = T ∧ ∃ u, (Instr.fieldAt t xv f).run P w = .ok u w ∧ v.rel ρ μ u := by
  unfold fieldAddrE at h
  split at h
  · rename_i i hti
    obtain ⟨d, hd, ho⟩ := (hΓ.ty t i hti).und
    split at h
    · rename_i fs q ks L I o hid
      split at h
      · rename_i off ft hf
        split at h
        · rename_i n hsz
          cases h
          refine ⟨rfl, ?_⟩
          obtain ⟨p, off', els, m, hp, he, hL, hI, hlt, rfl⟩ := hx
          have hsim := fieldAddrS_sound (ρ := ρ) (Γ := Γ) (P := P) hΓ (t := t) (f := f) (x := .c (.ptr 0 (off' + m * ks.length + o))) (c := .ptr 0 (off' + m * ks.length + o + off))
            (by unfold fieldAddrS; rw [hti]; simp only [hid, hf, hsz]) (μ := fun j => if j = 0 then some p else none) (xv := .pointer (some ⟨p.1, off' + m * ks.length + o, none⟩)) ⟨p, if_pos rfl, rfl⟩ w
          obtain ⟨u, hu, b, hb, hur⟩ := hsim
          have hb : b = p := by
            have : (if (0 : Nat) = 0 then some p else none) = some b := hb
            rw [if_pos rfl] at this
            exact (Option.some.inj this).symm
          subst hb
          refine ⟨u, hu, b, off', els, m, hp, he, hL, hI, hlt, ?_⟩
          rw [hur]
          simp only [Nat.add_assoc]
        · cases h
      · cases h
    · cases h
  · cases h

theorem indexAddrE_sound (hΓ : Γ.ok P) {T T' : Tab} {fa : Tr Bool} {t : Nat} {x ix v : SV} (h : indexAddrE Γ T fa t x ix = some (T', v)) (hs : Sat ρ T') :
    Sat ρ T ∧ ∀ (μ : Mu) (xv iv : Value) (w : World), Facts ρ fa → x.rel ρ μ xv → ix.rel ρ μ iv → ∃ u, (Instr.indexAt t xv iv).run P w = .ok u w ∧ v.rel ρ μ u := by
  unfold indexAddrE at h
  split at h
  · rename_i i hti
    split at h
    · rename_i e q ks L k n hid
      split at h
      · rename_i s hsz
        split at h
        · rename_i T1 hse hin
          cases h
          have hse := Nat.eq_of_beq_eq_true hse
          obtain ⟨s0, hb⟩ := inList_spec hin hs
          refine ⟨s0, fun μ xv iv w hf hx hi => ?_⟩
          obtain ⟨p, off, els, hp, he, hL, hdr⟩ := hx
          obtain ⟨h0, h1⟩ := hb hf els hL (by rcases hdr with ⟨h0, _⟩ | ⟨c, _, h1, h2⟩ <;> omega)
          obtain ⟨m, hm⟩ : ∃ m : Nat, n.ev ρ = (m : Nat) := ⟨(n.ev ρ).toNat, by omega⟩
          have hml : m < els.length := by omega
          have hi : iv = .int k (n.ev ρ) := hi
          subst hi
          rcases hdr with ⟨h0', _⟩ | ⟨c, rfl, _⟩
          · omega
          · have hsim := indexAddrS_sound (ρ := ρ) (Γ := Γ) (P := P) hΓ (t := t) (x := .c (.slc 0 off els.length c)) (ix := .c (.int k (.lit (m : Nat)))) (c := .ptr 0 (off + m * s))
              (by
                have hn : natOf (.c (.int k (.lit ((m : Nat) : Int)))) = some m := rfl
                have hbl : Nat.blt m els.length = true := Nat.ble_eq_true_of_le hml
                unfold indexAddrS; rw [hti, hn]; simp only [hid, hbl, hsz]) (μ := fun j => if j = 0 then some p else none) (xv := .slice (some ⟨p.1, off, none⟩) els.length c) (iv := .int k (n.ev ρ)) ⟨p, if_pos rfl, rfl⟩ (by show _ = _; rw [hm]; rfl) w
            obtain ⟨u, hu, b, hb', hur⟩ := hsim
            have hb' : b = p := by
              have : (if (0 : Nat) = 0 then some p else none) = some b := hb'
              rw [if_pos rfl] at this
              exact (Option.some.inj this).symm
            subst hb'
            refine ⟨u, hu, b, off, els, m, hp, he, hL, by rw [backX_ev hs hf]; exact hm, hml, ?_⟩
            rw [hur, hse]
            simp only [Nat.add_zero]
        · cases h
      · cases h
    · rename_i ix2 len e q ks L I o hid
      split at h
      · rename_i n s hn hsz
        split at h
        · rename_i hlt
          cases h
          refine ⟨hs, fun μ xv iv w hf hx hi => ?_⟩
          obtain ⟨p, off, els, m, hp, he, hL, hI, hml, rfl⟩ := hx
          obtain ⟨k', rfl⟩ := natOf_spec hn hi
          have hsim := indexAddrS_sound (ρ := ρ) (Γ := Γ) (P := P) hΓ (t := t) (x := .c (.ptr 0 (off + m * ks.length + o))) (ix := .c (.int k' (.lit (n : Nat)))) (c := .ptr 0 (off + m * ks.length + o + n * s))
            (by
              have hn2 : natOf (.c (.int k' (.lit ((n : Nat) : Int)))) = some n := rfl
              unfold indexAddrS; rw [hti, hn2]; simp only [hid, hlt, hsz]) (μ := fun j => if j = 0 then some p else μ j) (xv := .pointer (some ⟨p.1, off + m * ks.length + o, none⟩)) (iv := .int k' (n : Nat)) ⟨p, if_pos rfl, rfl⟩ rfl w
          obtain ⟨u, hu, b, hb', hur⟩ := hsim
          have hb' : b = p := by
            have : (if (0 : Nat) = 0 then some p else μ 0) = some b := hb'
            rw [if_pos rfl] at this
            exact (Option.some.inj this).symm
          subst hb'
          refine ⟨u, hu, b, off, els, m, hp, he, hL, hI, hml, ?_⟩
          rw [hur]
          simp only [Nat.add_assoc]
        · cases h
      · cases h
    · cases h
  · cases h

theorem lenE_sound (hΓ : Γ.ok P) {T T' : Tab} {t : Nat} {x v : SV} (h : lenE Γ T t x = some (T', v)) (hs : Sat ρ T') :
    Sat ρ T ∧ ∀ (μ : Mu) (xv : Value) (w : World), x.rel ρ μ xv → ∃ u, (∀ (ts : Array TypeId) (ty : TypeId) (cs : Array Bool), ts[0]? = some t → (builtin .len ts ty cs #[xv]).run P w = .ok (.value u) w) ∧ v.rel ρ μ u := by
  unfold lenE at h
  split at h
  · rename_i q ks L
    split at h
    · rename_i i hi
      obtain ⟨d, hd, ho⟩ := (hΓ.ty t i hi).und
      split at h
      · rename_i e hid
        rw [hid] at ho
        have ho' : d = .slice e := ho
        subst ho'
        cases hl : lenX T L with
        | none => rw [hl] at h; cases h
        | some p =>
          obtain ⟨T1, n⟩ := p
          rw [hl] at h
          cases h
          obtain ⟨s0, hn⟩ := lenX_spec hl hs
          refine ⟨s0, fun μ xv w hx => ?_⟩
          obtain ⟨p, off, els, hp, he, hL, hdr⟩ := hx
          refine ⟨.int .i64 (els.length : Nat), fun ts ty cs ht => ?_, ?_⟩
          · rcases hdr with ⟨h0, ad, c, rfl⟩ | ⟨c, rfl, _⟩
            · simp [builtin, Builtin.len_, ht, run_underlying hd, goInt, h0]
            · simp [builtin, Builtin.len_, ht, run_underlying hd, goInt]
          · show Value.int _ _ = Value.int _ _
            rw [hn els hL (by rcases hdr with ⟨h0, _⟩ | ⟨c, _, h1, h2⟩ <;> omega)]
      · cases h
    · cases h
  · cases h

theorem listS_congr {T : Tab} {o : Oper} {st st' : St} (h : ∀ x ∈ o.op.operands.toList, st.eval x = st'.eval x) (hfa : st.fa = st'.fa) : listS Γ T st o = listS Γ T st' o := by
  unfold listS
  cases ho : o.op <;> rw [ho] at h <;> simp only [Op.operands] at h <;> try dsimp only
  case load t a => rw [h a (by simp)]
  case indexAddr t x i => rw [h x (by simp), h i (by simp), hfa]
  case fieldAddr t x f => rw [h x (by simp)]
  case nilCheck x => rw [h x (by simp)]
  case call c =>
    obtain ⟨cal, as, ts⟩ := c
    cases cal with
    | builtin b =>
      cases b <;> try rfl
      dsimp only
      split
      · rename_i x t hx ht
        rw [h x (by
          have : x ∈ as.toList := by rw [hx]; exact List.mem_cons_self
          simpa [Call.operands] using this)]
      · rfl
    | _ => rfl

theorem listS_sound (hΓ : Γ.ok P) {T T' : Tab} {st : St} {o : Oper} {v : SV} (h : listS Γ T st o = some (T', v)) (hs : Sat ρ T') :
    Sat ρ T ∧ ∀ w0 μ a w, StRel ρ w0 μ st a w → Yields P ρ v o μ a w := by
  unfold listS at h
  split at h
  · rename_i t x ho
    obtain ⟨s0, hk⟩ := loadE_sound hΓ h hs
    refine ⟨s0, fun w0 μ a w hw => ?_⟩
    obtain ⟨p, y, hp, hr, hv⟩ := hk w0 μ _ _ w _ hw.wr (St.eval_rel hw x)
    exact Yields.same 0 (by simp [execOp, ho, Instr.loadAt, hp, Instr.sureAddr, hr, World.drewN]) hv
  · rename_i t x ix ho
    obtain ⟨s0, hk⟩ := indexAddrE_sound hΓ h hs
    refine ⟨s0, fun w0 μ a w hw => ?_⟩
    obtain ⟨u, hr, hv⟩ := hk μ _ _ w hw.fa (St.eval_rel hw x) (St.eval_rel hw ix)
    exact Yields.same 0 (by simp [execOp, ho, hr, World.drewN]) hv
  · rename_i t x f ho
    have s0 : Sat ρ T := by
      unfold fieldAddrE at h
      repeat' split at h
      all_goals first | (cases h; done) | (cases h; exact hs)
    refine ⟨s0, fun w0 μ a w hw => ?_⟩
    obtain ⟨_, u, hr, hv⟩ := fieldAddrE_sound (μ := μ) hΓ h (St.eval_rel hw x) w
    exact Yields.same 0 (by simp [execOp, ho, hr, World.drewN]) hv
  · rename_i x ho
    split at h
    · rename_i hel
      cases h
      refine ⟨hs, fun w0 μ a w hw => ?_⟩
      have e := St.eval_rel hw x
      unfold isEl at hel
      split at hel
      · rename_i hx
        rw [hx] at e
        obtain ⟨p, off, els, n, h1, h2, h3, h4, h5, e6⟩ := e
        exact Yields.same (x := a.eval x) 0 (by simp [execOp, ho, e6, World.drewN]) (by rw [hx, e6]; exact ⟨p, off, els, n, h1, h2, h3, h4, h5, rfl⟩)
      · cases hel
    · cases h
  · rename_i as ts ho
    split at h
    · rename_i x t hx ht
      obtain ⟨s0, hk⟩ := lenE_sound hΓ h hs
      refine ⟨s0, fun w0 μ a w hw => ?_⟩
      obtain ⟨u, hr, hv⟩ := hk μ _ w (St.eval_rel hw x)
      have ea : as = #[x] := by rw [← Array.toArray_toList (xs := as), hx]
      subst ea
      exact Yields.same 0 (by simp [execOp, ho, resolve, invoke, hr _ _ _ ht, World.drewN]) hv
    · cases h
  · cases h
end
end
end Go.Sx

namespace Go.Sx
noncomputable section
open Go.RowKit

def tailT (Γ : Ctx) (T : Tab) (fa : Tr Bool) (t : Nat) (lv : SV) (ks : List Nat) (L : X) : Option (Tab × X) :=
  match natOf lv, Γ.ty.get t with
  | some 1, some i =>
    match i.d with
    | .slice e =>
      match sizeT Γ e with
      | some s =>
        match Nat.beq s ks.length, inList T fa L (.lit 0) with
        | true, some T1 => mk T1 64 [L]
        | _, _ => none
      | none => none
    | _ => none
  | _, _ => none

/-- x[1:] -/
def sliceX (Γ : Ctx) (T : Tab) (st : St) (o : Oper) : Option (Tab × (St × SV)) :=
  match o.op with
  | .slice t x (some lo) none none =>
    match st.eval x with
    | .w (.one (.ls _ ks L)) =>
      match tailT Γ T st.fa t (st.eval lo) ks L, st with
      | some (T2, z), ⟨nt, fr, nb, bs, fa⟩ => some (T2, (⟨nt, fr, nb + 1, bs, fa⟩, .c (.ls nb ks z)))
      | none, _ => none
    | _ => none
  | _ => none

section
variable {P : Program} {ρ : Nat → Int} {Γ : Ctx}

/-- A list that comes into being (or into sight). -/
theorem newListWR {w0 : Base} {μ : Mu} {nb : Nat} {bs : Tr Blk} {w : World} (hwr : WR ρ w0 μ nb bs w) {p : Nat × Nat} (hl : LstAt w.heap p)
    (hap : Full p → ∀ j B s, bs.get j = some B → μ j = some s → s.1 ≠ p.1) :
    Sub μ (fun i => if i = LB + nb then some p else μ i) ∧ WR ρ w0 (fun i => if i = LB + nb then some p else μ i) (nb + 1) bs w := by
  have hfree : μ (LB + nb) = none := hwr.ltop nb (Nat.le_refl _)
  have hsub : Sub μ (fun i => if i = LB + nb then some p else μ i) := by
    intro i r hi
    simp only
    split
    · rename_i e; rw [e, hfree] at hi; cases hi
    · exact hi
  have hne : ∀ i B, bs.get i = some B → i ≠ LB + nb := by
    intro i B hi e
    obtain ⟨r', cs, hr', _⟩ := hwr.blk i B hi
    rw [e, hfree] at hr'; cases hr'
  refine ⟨hsub, hwr.kept, ?_, ?_, ?_, ?_, ?_, ?_⟩
  · intro i j r s Bi Bj hi hj hr hs e
    rw [if_neg (hne i Bi hi)] at hr
    rw [if_neg (hne j Bj hj)] at hs
    exact hwr.inj i j r s Bi Bj hi hj hr hs e
  · intro i hi hi2
    rw [if_neg (by omega)]
    exact hwr.top i (Nat.le_trans (Nat.le_succ _) hi) hi2
  · intro i B r hi hr
    rw [if_neg (hne i B hi)] at hr
    exact hwr.lo i B r hi hr
  · intro i B hi
    obtain ⟨r, cs, hr, hh, hsz, hb⟩ := hwr.blk i B hi
    exact ⟨r, cs, hsub _ _ hr, hh, hsz, hb.mono hsub⟩
  · intro i r hi hr
    by_cases e : i = LB + nb
    · rw [if_pos e] at hr
      cases hr
      refine ⟨hl, fun hf j B s hj hs => ?_⟩
      rw [if_neg (hne j B hj)] at hs
      exact hap hf j B s hj hs
    · rw [if_neg e] at hr
      obtain ⟨l1, l2⟩ := hwr.lst i r hi hr
      refine ⟨l1, fun hf j B s hj hs => ?_⟩
      rw [if_neg (hne j B hj)] at hs
      exact l2 hf j B s hj hs
  · intro i hi
    rw [if_neg (by omega)]
    exact hwr.ltop i (Nat.le_trans (Nat.le_succ _) hi)

theorem tailT_spec (hΓ : Γ.ok P) {T T' : Tab} {fa : Tr Bool} {t : Nat} {lv : SV} {ks : List Nat} {L z : X} (h : tailT Γ T fa t lv ks L = some (T', z)) (hs : Sat ρ T') :
    Sat ρ T ∧ z.ev ρ = encE ((decE (L.ev ρ)).drop 1) ∧ natOf lv = some 1 ∧ (∃ e, P.underlying t = some (.slice e) ∧ ∀ w, (sizeOf e).run P w = .ok ks.length w) ∧
      (Facts ρ fa → ∀ els, L.ev ρ = encE els → els.length ≤ maxLen → 0 < els.length) := by
  unfold tailT at h
  split at h
  case h_2 => cases h
  rename_i i hn hi
  obtain ⟨d, hd, ho⟩ := (hΓ.ty t i hi).und
  split at h
  case h_2 => cases h
  rename_i e hid
  rw [hid] at ho
  have ho' : d = .slice e := ho
  subst ho'
  split at h
  case h_2 => cases h
  rename_i s hsz
  split at h
  case h_2 => cases h
  rename_i T1 hse hin
  have hse := Nat.eq_of_beq_eq_true hse
  obtain ⟨s1, hz⟩ := mk_spec h hs
  obtain ⟨s0, hb⟩ := inList_spec hin s1
  refine ⟨s0, hz, hn, ⟨e, hd, fun w => hse ▸ sizeT_spec hΓ hsz w⟩, fun hf els he hl => ?_⟩
  have := (hb hf els he hl).2
  have : (0 : Int) < (els.length : Nat) := this
  omega

theorem sliceX_sound (hΓ : Γ.ok P) {T T1 : Tab} {st st1 : St} {o : Oper} {v : SV} (h : sliceX Γ T st o = some (T1, (st1, v))) (hs : Sat ρ T1) :
    Sat ρ T ∧ ∀ {w0 : Base} {μ : Mu} {a : Act} {w : World}, StRel ρ w0 μ st a w → ∀ {next : Act → World → Prop} {Q : Exit → Act → World → Prop},
      (∀ μ' x w2, Sub μ μ' → StRel ρ w0 μ' st1 a w2 → v.rel ρ μ' x → next (a.put o.dst x) w2) → o.wp P a w next Q := by
  unfold sliceX at h
  split at h
  case h_2 => cases h
  rename_i t x lo ho
  split at h
  case h_2 => cases h
  rename_i q ks L hx
  split at h
  case h_2 => cases h
  rename_i T2 z nt fr nb bs fa ht
  cases h
  obtain ⟨s0, hz, hn, ⟨e, hd, hsz⟩, hpos⟩ := tailT_spec hΓ ht hs
  refine ⟨s0, fun {w0 μ a w} hw {next Q} hnext => ?_⟩
  have hrel := St.eval_rel hw x
  rw [hx] at hrel
  obtain ⟨p, off, els, hp, he, hL, hdr⟩ := hrel
  have hlen : els.length ≤ maxLen := by rcases hdr with ⟨h0, _⟩ | ⟨c, _, h1, h2⟩ <;> omega
  have h0 := hpos hw.fa els hL hlen
  obtain ⟨k, hlo⟩ := natOf_spec hn (St.eval_rel hw lo)
  rcases hdr with ⟨h0', _⟩ | ⟨c, hxv, h1, h2⟩
  · omega
  obtain ⟨hlst, hap⟩ := hw.wr.lst (LB + q) p (Nat.le_add_right _ _) hp
  have hpe : p = (p.1, encP off ks els) := by rw [← he]
  have hl' : LstAt w.heap (p.1, encP (off + ks.length) ks (els.drop 1)) := by
    obtain ⟨off', ks', els', he', hc⟩ := hlst
    obtain ⟨rfl, rfl, rfl⟩ := encP_inj (he.symm.trans he')
    refine ⟨_, _, _, rfl, fun hne => ?_⟩
    obtain ⟨cs, ty, fz, hh, hcc⟩ := hc (fun e => by rw [e] at h0; cases h0)
    refine ⟨cs, ty, fz, hh, fun i j hi hj => ?_⟩
    rw [List.length_drop] at hi
    obtain ⟨u, hu, hk⟩ := hcc (i + 1) j (by omega) hj
    refine ⟨u, ?_, ?_⟩
    · rw [show off + ks.length + i * ks.length + j = off + (i + 1) * ks.length + j by rw [Nat.add_mul]; omega]
      exact hu
    · have : cellE (els.drop 1) i j = cellE els ((i + 1 : Nat) : Int) j := by
        unfold cellE
        simp [List.getD_eq_getElem?_getD, List.getElem?_drop, Nat.add_comm]
      rw [this]; exact hk
  have hfull : Full p := ⟨off, ks, els, he, fun e => by rw [e] at h0; cases h0⟩
  obtain ⟨hsub, hwr⟩ := newListWR hw.wr (p := (p.1, encP (off + ks.length) ks (els.drop 1))) hl' (fun _ => hap hfull)
  have hrun : ∃ u, (execOp a.eval o).run P w = .ok (.value u) w ∧ Hdr p.1 (off + ks.length) (els.drop 1).length u := by
    have hu : P.underlying t = some (.slice (P.elem t)) := by
      have : P.elem t = e := by simp [Program.elem, hd]
      rw [this]; exact hd
    have hel : P.elem t = e := by simp [Program.elem, hd]
    refine ⟨sliced (some ⟨p.1, off, none⟩) 1 els.length c ks.length, ?_, ?_⟩
    · simp only [execOp, ho, Option.map]
      rw [hxv, hlo]
      have := run_slice_l (P := P) (w := w) t (some ⟨p.1, off, none⟩) els.length c hu k 1 (by omega) (by omega)
      rw [hel, hsz w] at this
      simp [run_sliceAt_slice w t _ _ _ _ hu, this, Result.andThen]
    · unfold sliced
      rw [List.length_drop]
      by_cases hc : c = 1
      · exact .inl ⟨by omega, _, _, by rw [show els.length - 1 = 0 by omega]⟩
      · refine .inr ⟨c - 1, ?_, by omega, by omega⟩
        rw [if_neg hc]
        simp [Addr.add]
  obtain ⟨u, hr, hdr⟩ := hrun
  unfold Oper.wp
  rw [hr]
  refine hnext _ u w hsub ⟨hw.defers, hw.fr.mono hsub, hwr, hw.fa⟩ ⟨(p.1, _), _, _, if_pos rfl, rfl, ?_, hdr⟩
  rw [hz, hL, decE_enc]
end
end
end Go.Sx

namespace Go.Sx
noncomputable section

theorem itn_rel {α β : Type} {f : α → Option α} {g : β → Option β} {R : α → β → Prop} (hs : ∀ a b, R a b → (f a = none ∧ g b = none) ∨ ∃ a' b', f a = some a' ∧ g b = some b' ∧ R a' b') :
    ∀ (n : Nat) {a : α} {b : β}, R a b → (itn f n a = none ∧ itn g n b = none) ∨ ∃ a' b', itn f n a = some a' ∧ itn g n b = some b' ∧ R a' b'
  | 0, a, b, h => .inr ⟨a, b, rfl, rfl, h⟩
  | n + 1, a, b, h => by
    rcases hs a b h with ⟨h1, h2⟩ | ⟨a', b', h1, h2, h3⟩
    · left; unfold itn; rw [h1, h2]; exact ⟨rfl, rfl⟩
    · unfold itn; rw [h1, h2]; exact itn_rel hs n h3

theorem fin_rel {α β : Type} {f : α → Option α} {g : β → Option β} {R : α → β → Prop} (hs : ∀ a b, R a b → (f a = none ∧ g b = none) ∨ ∃ a' b', f a = some a' ∧ g b = some b' ∧ R a' b')
    {a : α} {b : β} (h : R a b) : R (fin f a) (fin g b) := by
  by_cases hx : ∃ c n, itn f n a = some c ∧ f c = none
  · obtain ⟨c, n, h1, h2⟩ := hx
    rcases itn_rel hs n h with ⟨k1, _⟩ | ⟨a', b', k1, k2, k3⟩
    · rw [h1] at k1; cases k1
    · rw [h1] at k1; cases k1
      rcases hs _ _ k3 with ⟨_, k4⟩ | ⟨_, _, k4, _⟩
      · rw [fin_of h1 h2, fin_of k2 k4]; exact k3
      · rw [h2] at k4; cases k4
  · have hy : ¬ ∃ c n, itn g n b = some c ∧ g c = none := by
      rintro ⟨c, n, h1, h2⟩
      rcases itn_rel hs n h with ⟨_, k1⟩ | ⟨a', b', k1, k2, k3⟩
      · rw [h1] at k1; cases k1
      · rw [h1] at k2; cases k2
        rcases hs _ _ k3 with ⟨k4, _⟩ | ⟨_, _, _, k4, _⟩
        · exact hx ⟨a', n, k1, k4⟩
        · rw [h2] at k4; cases k4
    unfold fin
    rw [dif_neg hx, dif_neg hy]; exact h

/-! ### The check -/
def sameX (cl : List Nat) : X → Bool
  | .lit _ => true
  | .reg r => match cl[r]? with
    | some 0 => true
    | some 4 => true
    | _ => false

def isCls (cl : List Nat) (r c : Nat) : Bool :=
  match cl[r]? with
  | some d => Nat.beq c d
  | none => false

/-- 0: the same; 1: one more; 2: the list; 3: the next counter; 4: the test; 5: the counter. -/
def clsD (cl : List Nat) (ctr li : Nat) (d : D) : Option Nat :=
  match d.a.all (sameX cl) with
  | true => some 0
  | false =>
    match isCls cl ctr 5 && isCls cl li 2 with
    | false => none
    | true =>
      match d.beq ⟨62, [.reg li]⟩, d.beq ⟨31, [.lit 3, .reg ctr, .lit 1]⟩ with
      | true, _ => some 1
      | false, true => some 3
      | false, false =>
        match d.a with
        | [_, .reg b] => match d.beq ⟨15, [.reg ctr, .reg b]⟩ && isCls cl b 1 with
          | true => some 4
          | false => none
        | [_, _, .lit c] => match d.beq ⟨63, [.reg li, .reg ctr, .lit c]⟩ with
          | true => some 0
          | false => none
        | _ => none

def clsAll (ctr li : Nat) : List Nat → List D → Option (List Nat)
  | cl, [] => some cl
  | cl, d :: l => match clsD cl ctr li d with
    | some c => clsAll ctr li (cl ++ [c]) l
    | none => none

def outsS (cl : List Nat) (ctr : Nat) : Nat → List X → Bool
  | _, [] => true
  | n, x :: l => (match Nat.beq n ctr with
    | true => match x with
      | .reg r => isCls cl r 3
      | .lit _ => false
    | false => sameX cl x) && outsS cl ctr (n + 1) l

def trS (cl : List Nat) (ctr k : Nat) : LT → Bool
  | .stop => true
  | .next outs => (Nat.blt ctr outs.length && Nat.beq outs.length k) && outsS cl ctr 0 outs
  | .node r a b => sameX cl (.reg r) && (trS cl ctr k a && trS cl ctr k b)

def clsIn (ctr li : Nat) : Nat → Nat → List Nat
  | _, 0 => []
  | n, m + 1 => (match Nat.beq n ctr, Nat.beq n li with
    | true, _ => 5
    | false, true => 2
    | false, false => 0) :: clsIn ctr li (n + 1) m

/-- The counter is used as an index and against the length alone. -/
def shiftP (p : Lit) (ns ctr li : Nat) : Bool :=
  match clsAll ctr li (clsIn ctr li 0 (p.k + ns)) p.ds, p.tr with
  | some cl, .node q a .stop => isCls cl q 4 && (trS cl ctr p.k a && (Nat.blt ctr p.k && (Nat.ble p.k li && Nat.blt li (p.k + ns))))
  | _, _ => false

/-! ### What it says -/
def M63 : Int := 9223372036854775807

def RelC (i : Int) : Nat → Int → Int → Prop
  | 0, x, y => x = y
  | 1, x, y => y = x + 1 ∧ y ≤ M63
  | 2, x, y => decE x = (decE y).drop 1 ∧ 0 < (decE y).length ∧ ((decE y).length : Int) ≤ M63
  | 3, x, y => i + 1 < M63 → x = i + 1 ∧ y = i + 2
  | 4, x, y => x = y ∧ (x = 1 → i + 1 < M63)
  | 5, x, y => x = i ∧ y = i + 1
  | _, _, _ => True

def EnvR (i : Int) (cl : List Nat) (E E' : List Int) : Prop :=
  cl.length = E.length ∧ cl.length = E'.length ∧ ∀ n c, cl[n]? = some c → RelC i c (E.getD n 0) (E'.getD n 0)

theorem sameX_eq {i : Int} {cl : List Nat} {E E' : List Int} (h : EnvR i cl E E') {x : X} (hx : sameX cl x = true) : lev E x = lev E' x := by
  cases x with
  | lit n => rfl
  | reg r =>
    unfold sameX at hx
    simp only at hx
    split at hx
    · rename_i e; exact h.2.2 r 0 e
    · rename_i e; exact (h.2.2 r 4 e).1
    · cases hx

theorem isCls_eq {cl : List Nat} {r c : Nat} (h : isCls cl r c = true) : cl[r]? = some c := by
  unfold isCls at h
  split at h
  · rename_i d e; rw [e, Nat.eq_of_beq_eq_true h]
  · cases h

theorem clsD_ok {op : Nat → List Int → Int} (hop : ∀ f l, f ≠ 70 → op f l = opB f l) {i : Int} (hi : 0 ≤ i) {cl : List Nat} {ctr li : Nat} {d : D} {c : Nat} (hc : clsD cl ctr li d = some c) {E E' : List Int} (h : EnvR i cl E E') :
    RelC i c (op d.f (d.a.map (lev E))) (op d.f (d.a.map (lev E'))) := by
  unfold clsD at hc
  split at hc
  · rename_i hall
    cases hc
    have : d.a.map (lev E) = d.a.map (lev E') := List.map_congr_left fun x hx => sameX_eq h (List.all_eq_true.1 hall x hx)
    rw [this]; rfl
  · split at hc
    · cases hc
    · rename_i hcl
      simp only [Bool.and_eq_true] at hcl
      have hctr := h.2.2 ctr 5 (isCls_eq hcl.1)
      have hli := h.2.2 li 2 (isCls_eq hcl.2)
      have hctr1 : E.getD ctr 0 = i := hctr.1
      have hctr2 : E'.getD ctr 0 = i + 1 := hctr.2
      obtain ⟨l1, l2, l3⟩ := hli
      split at hc
      · rename_i hb
        cases hc
        rw [D.beq_eq hb]
        show RelC i 1 (op 62 [E.getD li 0]) (op 62 [E'.getD li 0])
        rw [hop _ _ (by decide), hop _ _ (by decide)]
        show ((min (decE (E'.getD li 0)).length 9223372036854775807 : Nat) : Int) = ((min (decE (E.getD li 0)).length 9223372036854775807 : Nat) : Int) + 1 ∧ ((min (decE (E'.getD li 0)).length 9223372036854775807 : Nat) : Int) ≤ M63
        rw [l1, List.length_drop]
        unfold M63 at l3 ⊢
        omega
      · rename_i hb
        cases hc
        rw [D.beq_eq hb]
        show RelC i 3 (op 31 [3, E.getD ctr 0, 1]) (op 31 [3, E'.getD ctr 0, 1])
        rw [hop _ _ (by decide), hop _ _ (by decide), hctr1, hctr2]
        intro hlt
        unfold M63 at hlt
        show IntKind.i64.wrap (i + 1) = i + 1 ∧ IntKind.i64.wrap (i + 1 + 1) = i + 2
        rw [Go.IntWalk.i64_in _ (by omega), Go.IntWalk.i64_in _ (by omega)]
        omega
      · split at hc
        · rename_i x b _
          split at hc
          · rename_i hb
            cases hc
            simp only [Bool.and_eq_true] at hb
            have hbc := h.2.2 b 1 (isCls_eq hb.2)
            obtain ⟨b1, b2⟩ := hbc
            rw [D.beq_eq hb.1]
            show RelC i 4 (op 15 [E.getD ctr 0, E.getD b 0]) (op 15 [E'.getD ctr 0, E'.getD b 0])
            rw [hop _ _ (by decide), hop _ _ (by decide), hctr1, hctr2, b1]
            show b2i (decide (i < E.getD b 0)) = b2i (decide (i + 1 < E.getD b 0 + 1)) ∧ (b2i (decide (i < E.getD b 0)) = 1 → i + 1 < M63)
            refine ⟨by congr 1; exact decide_eq_decide.2 (by omega), fun h1 => ?_⟩
            by_cases hlt : i < E.getD b 0
            · omega
            · rw [decide_eq_false hlt] at h1; cases h1
          · cases hc
        · rename_i x y k _
          split at hc
          · rename_i hb
            cases hc
            rw [D.beq_eq hb]
            show op 63 [E.getD li 0, E.getD ctr 0, k] = op 63 [E'.getD li 0, E'.getD ctr 0, k]
            rw [hop _ _ (by decide), hop _ _ (by decide), hctr1, hctr2]
            show cellE (decE (E.getD li 0)) i k.toNat = cellE (decE (E'.getD li 0)) (i + 1) k.toNat
            unfold cellE
            rw [l1]
            have : (i + 1).toNat = 1 + i.toNat := by omega
            rw [this]
            simp only [List.getD_eq_getElem?_getD, List.getElem?_drop]
          · cases hc
        · cases hc

theorem getD_append_at {E : List Int} {x : Int} {n : Nat} : (E ++ [x]).getD n 0 = if n = E.length then x else E.getD n 0 := by
  simp only [List.getD_eq_getElem?_getD, List.getElem?_append]
  by_cases h : n < E.length
  · rw [if_pos h, if_neg (by omega)]
  · rw [if_neg h]
    by_cases e : n = E.length
    · subst e; simp
    · rw [if_neg e, List.getElem?_eq_none (by simp; omega), List.getElem?_eq_none (by omega)]

theorem clsAll_ok {op : Nat → List Int → Int} (hop : ∀ f l, f ≠ 70 → op f l = opB f l) {i : Int} (hi : 0 ≤ i) {ctr li : Nat} : ∀ {ds : List D} {cl cl' : List Nat} {E E' : List Int}, clsAll ctr li cl ds = some cl' → EnvR i cl E E' →
    EnvR i cl' (runDs op ds E) (runDs op ds E')
  | [], cl, cl', E, E', h, he => by cases h; exact he
  | d :: l, cl, cl', E, E', h, he => by
    unfold clsAll at h
    split at h
    · rename_i c hc
      unfold runDs
      refine clsAll_ok hop hi h ⟨by simp [he.1], by simp [he.2.1], fun n k hk => ?_⟩
      rw [getD_append_at, getD_append_at, ← he.1, ← he.2.1]
      rw [List.getElem?_append] at hk
      by_cases hn : n < cl.length
      · rw [if_pos hn] at hk
        rw [if_neg (by omega), if_neg (by omega)]
        exact he.2.2 n k hk
      · rw [if_neg hn] at hk
        have e : n = cl.length := by
          have := (List.getElem?_eq_some_iff.1 hk).1
          simp at this; omega
        rw [if_pos e, if_pos e]
        rw [e, Nat.sub_self] at hk
        cases hk
        exact clsD_ok hop hi hc he
    · cases h

theorem outsS_ok {i : Int} (hlt : i + 1 < M63) {cl : List Nat} {ctr : Nat} {E E' : List Int} (he : EnvR i cl E E') : ∀ {l : List X} {n : Nat}, outsS cl ctr n l = true →
    ∀ j, (l.map (lev E'))[j]? = if n + j = ctr then ((l.map (lev E))[j]?).map (· + 1) else (l.map (lev E))[j]?
  | [], n, _, j => by simp
  | x :: l, n, h, j => by
    unfold outsS at h
    rw [Bool.and_eq_true] at h
    obtain ⟨h1, h2⟩ := h
    cases j with
    | succ j =>
      have := outsS_ok hlt he h2 j
      simp only [List.map_cons, List.getElem?_cons_succ]
      rw [this, show n + 1 + j = n + (j + 1) by omega]
    | zero =>
      simp only [List.map_cons, List.getElem?_cons_zero, Nat.add_zero, Option.map_some]
      split at h1
      · rename_i hb
        have e := Nat.eq_of_beq_eq_true hb
        rw [if_pos e]
        split at h1
        · rename_i r
          have := he.2.2 r 3 (isCls_eq h1) hlt
          show some (E'.getD r 0) = some (E.getD r 0 + 1)
          rw [this.1, this.2]; congr 1; omega
        · cases h1
      · rename_i hb
        have e : n ≠ ctr := fun e => by rw [e, Nat.beq_refl] at hb; cases hb
        rw [if_neg e, sameX_eq he h1]

theorem outsS_ctr {i : Int} (hlt : i + 1 < M63) {cl : List Nat} {ctr : Nat} {E E' : List Int} (he : EnvR i cl E E') : ∀ {l : List X} {n : Nat}, outsS cl ctr n l = true → n ≤ ctr → ctr < n + l.length → (l.map (lev E))[ctr - n]? = some (i + 1)
  | [], n, _, h1, h2 => by simp at h2; omega
  | x :: l, n, h, h1, h2 => by
    unfold outsS at h
    rw [Bool.and_eq_true] at h
    by_cases e : n = ctr
    · subst e
      have h3 := h.1
      rw [Nat.beq_refl] at h3
      simp only at h3
      split at h3
      · rename_i r
        have := he.2.2 r 3 (isCls_eq h3) hlt
        simp only [Nat.sub_self, List.map_cons, List.getElem?_cons_zero]
        exact congrArg some this.1
      · cases h3
    · have := outsS_ctr hlt he h.2 (by omega) (by simp at h2; omega)
      rw [show ctr - n = (ctr - (n + 1)) + 1 by omega]
      simpa using this

/-- The two states of the two loops. -/
def ShR (k ctr : Nat) (v v' : List Int) : Prop := v.length = k ∧ v'.length = k ∧ 0 ≤ v.getD ctr 0 ∧ ∀ j, v'.getD j 0 = if j = ctr then v.getD ctr 0 + 1 else v.getD j 0

theorem trS_ok {i : Int} (hi : 0 ≤ i) (hlt : i + 1 < M63) {cl : List Nat} {ctr k : Nat} {E E' : List Int} (he : EnvR i cl E E') : ∀ {t : LT}, trS cl ctr k t = true →
    (t.go E = none ∧ t.go E' = none) ∨ ∃ u u', t.go E = some u ∧ t.go E' = some u' ∧ ShR k ctr u u'
  | .stop, _ => .inl ⟨rfl, rfl⟩
  | .next outs, h => by
    unfold trS at h
    simp only [Bool.and_eq_true] at h
    obtain ⟨⟨hlen, hk⟩, h⟩ := h
    have hlen : ctr < outs.length := Nat.le_of_ble_eq_true hlen
    have hk := Nat.eq_of_beq_eq_true hk
    refine .inr ⟨_, _, rfl, rfl, by simp [hk], by simp [hk], ?_, fun j => ?_⟩
    · have := outsS_ctr hlt he h (Nat.zero_le _) (by omega)
      rw [Nat.sub_zero] at this
      rw [List.getD_eq_getElem?_getD, this]
      show 0 ≤ i + 1; omega
    · have := outsS_ok hlt he h j
      rw [Nat.zero_add] at this
      rw [List.getD_eq_getElem?_getD, this]
      split
      · rename_i e
        subst e
        have hc := outsS_ctr hlt he h (Nat.zero_le _) (by omega)
        rw [Nat.sub_zero] at hc
        rw [List.getD_eq_getElem?_getD, hc]; rfl
      · rw [List.getD_eq_getElem?_getD]
  | .node r a b, h => by
    unfold trS at h
    simp only [Bool.and_eq_true] at h
    have e : E.getD r 0 = E'.getD r 0 := sameX_eq he h.1
    unfold LT.go
    rw [← e]
    split
    · exact trS_ok hi hlt he h.2.1
    · exact trS_ok hi hlt he h.2.2

theorem clsIn_at {ctr li : Nat} : ∀ {m n r c : Nat}, (clsIn ctr li n m)[r]? = some c → c = if n + r = ctr then 5 else if n + r = li then 2 else 0
  | 0, n, r, c, h => by unfold clsIn at h; simp at h
  | m + 1, n, 0, c, h => by
    unfold clsIn at h
    simp only [List.getElem?_cons_zero, Option.some.injEq] at h
    rw [← h, Nat.add_zero]
    split
    · rename_i e; rw [if_pos (Nat.eq_of_beq_eq_true e)]
    · rename_i e1 e2
      rw [if_neg (fun e => by rw [e, Nat.beq_refl] at e1; cases e1), if_pos (Nat.eq_of_beq_eq_true e2)]
    · rename_i e1 e2
      rw [if_neg (fun e => by rw [e, Nat.beq_refl] at e1; cases e1), if_neg (fun e => by rw [e, Nat.beq_refl] at e2; cases e2)]
  | m + 1, n, r + 1, c, h => by
    unfold clsIn at h
    rw [List.getElem?_cons_succ] at h
    have := clsIn_at h
    rw [show n + 1 + r = n + (r + 1) by omega] at this
    exact this

theorem clsIn_len {ctr li : Nat} : ∀ {m n : Nat}, (clsIn ctr li n m).length = m
  | 0, _ => rfl
  | m + 1, n => by unfold clsIn; rw [List.length_cons, clsIn_len]

/-- THE LOOP OVER ALL BUT THE FIRST. -/
theorem shift_sem {op : Nat → List Int → Int} (hop : ∀ f l, f ≠ 70 → op f l = opB f l) {p : Lit} {ns ctr li : Nat} (h : shiftP p ns ctr li = true) {v v' s s' : List Int} (hv : ShR p.k ctr v v') (hs : s.length = ns) (hs' : s'.length = ns)
    (hli : decE (s.getD (li - p.k) 0) = (decE (s'.getD (li - p.k) 0)).drop 1 ∧ 0 < (decE (s'.getD (li - p.k) 0)).length ∧ ((decE (s'.getD (li - p.k) 0)).length : Int) ≤ M63)
    (hss : ∀ n, n ≠ li - p.k → s.getD n 0 = s'.getD n 0) {j : Nat} (hj : j ≠ ctr) : p.sem op ((j : Int) :: (v ++ s)) = p.sem op ((j : Int) :: (v' ++ s')) := by
  unfold shiftP at h
  split at h
  case h_2 => cases h
  rename_i cl q a hcl htr
  simp only [Bool.and_eq_true] at h
  obtain ⟨hq, htrs, hck, hkl, hln⟩ := h
  have hck : ctr < p.k := Nat.le_of_ble_eq_true hck
  have hkl := Nat.le_of_ble_eq_true hkl
  have hln : li < p.k + ns := Nat.le_of_ble_eq_true hln
  have key : ∀ x y, ShR p.k ctr x y → (p.step op s x = none ∧ p.step op s' y = none) ∨ ∃ x' y', p.step op s x = some x' ∧ p.step op s' y = some y' ∧ ShR p.k ctr x' y' := by
    rintro x y ⟨x1, x2, x3, x4⟩
    have he : EnvR (x.getD ctr 0) (clsIn ctr li 0 (p.k + ns)) (x ++ s) (y ++ s') := by
      refine ⟨by rw [clsIn_len, List.length_append]; omega, by rw [clsIn_len, List.length_append]; omega, fun n c hc => ?_⟩
      have hn : n < p.k + ns := by have := (List.getElem?_eq_some_iff.1 hc).1; rw [clsIn_len] at this; exact this
      have hc := clsIn_at hc
      rw [Nat.zero_add] at hc
      subst hc
      have g1 : ∀ (x s : List Int), x.length = p.k → (x ++ s).getD n 0 = if n < p.k then x.getD n 0 else s.getD (n - p.k) 0 := by
        intro x s hx
        simp only [List.getD_eq_getElem?_getD, List.getElem?_append, hx]
        split <;> rfl
      rw [g1 x s x1, g1 y s' x2]
      by_cases hnk : n < p.k
      · rw [if_pos hnk, if_pos hnk, x4 n]
        by_cases e : n = ctr
        · subst e; rw [if_pos rfl, if_pos rfl]; exact ⟨rfl, rfl⟩
        · rw [if_neg e, if_neg e, if_neg (by omega)]; rfl
      · rw [if_neg hnk, if_neg hnk, if_neg (by omega)]
        by_cases e : n = li
        · subst e; rw [if_pos rfl]; exact hli
        · rw [if_neg e]; exact hss _ (by omega)
    have he2 := clsAll_ok hop x3 hcl he
    unfold Lit.step
    rw [htr]
    have ht := he2.2.2 q 4 (isCls_eq hq)
    unfold LT.go
    rw [← ht.1]
    split
    · rename_i h1
      exact trS_ok (k := p.k) x3 (ht.2 h1) he2 htrs
    · exact .inl ⟨rfl, rfl⟩
  have tk : ∀ (v s : List Int), v.length = p.k → p.sem op ((j : Int) :: (v ++ s)) = (fin (p.step op s) v).getD j 0 := by
    intro v s hv
    unfold Lit.sem
    simp only
    rw [List.drop_append_of_le_length (by omega), List.take_append_of_le_length (by omega), ← hv, List.take_length, List.drop_length]
    rfl
  rw [tk v s hv.1, tk v' s' hv.2.1]
  have := (fin_rel key hv).2.2.2 j
  rw [if_neg hj] at this
  exact this.symm
end
end Go.Sx

namespace Go.Sx
noncomputable section
open Go.RowKit

/-- The slot that an operation's guard reads. -/
def gSlot (ops : Array Oper) (o : Oper) : List Nat :=
  match o.guard with
  | none => []
  | some (j, _) =>
    match ops[j]? with
    | some g => match g.dst with
      | some d => [d]
      | none => []
    | none => []
def slotsG (ops : Array Oper) (o : Oper) : List Nat := gSlot ops o ++ slotsOf o

def ansV (g : Bool → Tab → St → Option (Tab × Tree)) (T : Tab) (st : St) : SV → Option (Tab × Tree)
  | .w (.one (.bool (.lit n))) => g (ibeq n 1) T st
  | _ => none

/-- On with each answer. -/
def askX (x : X) (g : Bool → Tab → St → Option (Tab × Tree)) (T : Tab) (st : St) : Option (Tab × Tree) :=
  match decideX T st.fa x with
  | .known b => g b T st
  | _ =>
    match x with
    | .lit _ => none
    | .reg r => onVals (.node r (.leaf (.c (.bool (.lit 1)))) (.leaf (.c (.bool (.lit 0))))) (ansV g) T st

section
variable (Γ : Ctx) (rec : Code → Tab → St → Option (Tab × Tree))

/-- One operation that is carried out. -/
def drawOn (ops : Array Oper) (st0 : St) (nbA k nid : Nat) (o : Oper) (next : Dl × Fp → Nat → Tab → St → Option (Tab × Tree)) (T : Tab) (st : St) : Option (Tab × Tree) :=
  match listS Γ T ⟨st0.nt, st.fr, nbA, .nil, st.fa⟩ o with
  | some (T1, v) => next (⟨k, o.dst, v, none⟩, ⟨slotsG ops o, [], false, false⟩) nid T1 st
  | none =>
  match drawOp Γ T st0 nbA st nid o with
  | some (T1, v, blk, fp, nid') =>
    match blkLow blk with
    | true => next (⟨k, o.dst, v, blk⟩, ⟨slotsG ops o, fp.rb, fp.opn, fp.fresh⟩) nid' T1 st
    | false => none
  | none =>
    match o.op with
    | .call c =>
      match calleeS st c with
      | some (g, args) =>
        match callD Γ rec T st0 st.fa nbA g args with
        | some (T1, vt, opn) => onVals vt (fun T st v => next (⟨k, o.dst, v, none⟩, ⟨slotsG ops o, [], opn, false⟩) nid T st) T1 st
        | none => none
      | none => none
    | _ => none

/-- The guard was not carried out itself. -/
def undefG (ops : Array Oper) (st : St) (j : Nat) : Bool :=
  match ops[j]? with
  | some g => match g.dst with
    | some d => match st.fr.get d with
      | some (.tup []) => true
      | _ => false
    | none => false
  | none => false

/-- One operation, as its guard says. -/
def drawAs (ops : Array Oper) (st0 : St) (nbA k nid : Nat) (o : Oper) (next : Dl × Fp → Nat → Tab → St → Option (Tab × Tree)) (T : Tab) (st : St) : Option (Tab × Tree) :=
  match o.guard with
  | none => drawOn Γ rec ops st0 nbA k nid o next T st
  | some (j, want) =>
    match guardS ops st j with
    | some x => askX x (fun b T st => match b == want with
        | true => drawOn Γ rec ops st0 nbA k nid o next T st
        | false => next (⟨k, o.dst, .tup [], none⟩, ⟨slotsG ops o, [], false, false⟩) nid T st) T st
    | none =>
      match undefG ops st j with
      | true => next (⟨k, o.dst, .tup [], none⟩, ⟨slotsG ops o, [], false, false⟩) nid T st
      | false => none

def drawG (ops : Array Oper) (st0 : St) (nbA : Nat) : List Oper → Nat → Tab → St → Nat → (Tab → St → List (Dl × Fp) → Option (Tab × Tree)) → Option (Tab × Tree)
  | [], _, T, st, _, fin => fin T st []
  | o :: rest, k, T, st, nid, fin =>
    match lowEdges k o.after.toList, dstLow st0.nt o.dst with
    | true, true => drawAs Γ rec ops st0 nbA k nid o (fun e nid T st => drawG ops st0 nbA rest (k + 1) T (e.1.app st) nid fun T st l => fin T st (e :: l)) T st
    | _, _ => none

def slotClashG (ops : Array Oper) (a b : Oper) : Bool := optIn a.dst (slotsG ops b) || optIn b.dst (slotsG ops a) || optEq a.dst b.dst

def statRowG (ops : Array Oper) (m : Tr Nat) (a : Oper) (i : Nat) : List Oper → Nat → Bool
  | [], _ => true
  | b :: l, k =>
    match slotClashG ops a b with
    | true => match Nat.testBit ((m.get k).getD 0) i with
      | true => statRowG ops m a i l (k + 1)
      | false => false
    | false => statRowG ops m a i l (k + 1)

def statOKG (ops : Array Oper) (m : Tr Nat) : List Oper → Nat → Bool
  | [], _ => true
  | a :: l, i =>
    match statRowG ops m a i l (i + 1) with
    | true => statOKG ops m l (i + 1)
    | false => false

def clearG (ops : Array Oper) (l : List (Dl × Fp)) : Bool :=
  match statOKG ops (masks ops.toList 0 .nil) ops.toList 0 with
  | true => match noBlk l with
    | true => true
    | false => allClearB (masks ops.toList 0 .nil) l
  | false => false

def drawGone (ops : Array Oper) (T : Tab) (st : St) : Option (Tab × Tree) :=
  match Nat.blt (st.nb + countAllocs ops.toList) maxReg, Nat.blt ops.size 5000 with
  | true, true =>
    drawG Γ rec ops st (st.nb + countAllocs ops.toList) ops.toList 0 T (match st with | ⟨nt, fr, nb, bs, fa⟩ => ⟨nt, fr, nb + countAllocs ops.toList, bs, fa⟩) st.nb fun T st' l =>
      match clearG ops l with
      | true => some (T, .leaf .normal st')
      | false => none
  | _, _ => none
end

section
variable {P : Program} {ρ : Nat → Int} {Γ : Ctx}

theorem askX_spec {x : X} {g : Bool → Tab → St → Option (Tab × Tree)} (hg : ∀ b T st T' t, g b T st = some (T', t) → Sat ρ T' → Sat ρ T) {T T' : Tab} {st : St} {t : Tree}
    (h : askX x g T st = some (T', t)) (hs : Sat ρ T') :
    Sat ρ T ∧ ∀ L, Facts ρ st.fa → t.sat ρ L → ∃ T1 T2 t2 fa', Facts ρ fa' ∧ g (x.ev ρ == 1) T1 { st with fa := fa' } = some (T2, t2) ∧ Sat ρ T2 ∧ t2.sat ρ L := by
  unfold askX at h
  split at h
  · rename_i b hd
    have s0 := hg _ _ _ _ _ h hs
    refine ⟨s0, fun L hf hL => ⟨T, T', t, st.fa, hf, ?_, hs, hL⟩⟩
    have := decideX_spec s0 hf x
    rw [hd] at this
    rw [show (x.ev ρ == 1) = b from this]
    exact h
  · split at h
    · cases h
    · rename_i r _
      have hk : ∀ T st v T' t, ansV g T st v = some (T', t) → Sat ρ T' → Sat ρ T := by
        intro T st v T' t h hs
        unfold ansV at h
        split at h
        · exact hg _ _ _ _ _ h hs
        · cases h
      obtain ⟨s0, hv⟩ := onVals_spec hk h hs
      refine ⟨s0, fun L hf hL => ?_⟩
      obtain ⟨T1, T2, t2, fa', hfa, hkk, hs2, hL2⟩ := hv L hf hL
      refine ⟨T1, T2, t2, fa', hfa, ?_, hs2, hL2⟩
      by_cases hr : ρ r = 1
      · have hp : (VT.node r (.leaf (.c (.bool (.lit 1)))) (.leaf (.c (.bool (.lit 0))))).pick ρ = .c (.bool (.lit 1)) := by
          unfold VT.pick; rw [if_pos hr]; rfl
        rw [hp] at hkk
        rw [show ((X.reg r).ev ρ == 1) = true by show (ρ r == 1) = true; rw [hr]; rfl]
        exact hkk
      · have hp : (VT.node r (.leaf (.c (.bool (.lit 1)))) (.leaf (.c (.bool (.lit 0))))).pick ρ = .c (.bool (.lit 0)) := by
          unfold VT.pick; rw [if_neg hr]; rfl
        rw [hp] at hkk
        rw [show ((X.reg r).ev ρ == 1) = false by show (ρ r == 1) = false; simpa using hr]
        exact hkk

theorem DeltaOK.grow {st0 : St} {nbA : Nat} {fr : Tr SV} {bs : Tr Blk} {o : Oper} {v : SV} {blk : Option (Nat × Blk)} {p : Fp} (h : DeltaOK P ρ st0 nbA fr bs o v blk p) {rs : List Nat} (hrs : ∀ t ∈ p.rs, t ∈ rs) :
    DeltaOK P ρ st0 nbA fr bs o v blk ⟨rs, p.rb, p.opn, p.fresh⟩ := by
  intro w0 μ A a w K Q h1 h2 h3 h4 h5 h6 h7 h8
  exact h w0 μ A a w K Q h1 h2 h3 (fun t ht => h4 t (hrs t ht)) h5 h6 h7 h8

/-- What one operation hands on, carried out. -/
theorem drawOn_spec (hΓ : Γ.ok P) (hsum : ∀ f s, Γ.summ f = some s → SummOK P f s) {rec : Code → Tab → St → Option (Tab × Tree)} (hrec : RecOK P ρ rec) {ops : Array Oper} {st0 : St} {nbA k nid : Nat} {o : Oper}
    {next : Dl × Fp → Nat → Tab → St → Option (Tab × Tree)} (hnext : ∀ e nid T st T' t, next e nid T st = some (T', t) → Sat ρ T' → Sat ρ T) {T T' : Tab} {st : St} {t : Tree}
    (h : drawOn Γ rec ops st0 nbA k nid o next T st = some (T', t)) (hs : Sat ρ T') :
    Sat ρ T ∧ ∀ L, Facts ρ st.fa → t.sat ρ L → ∃ v blk rb opn fresh nid' T1 fa' T2 t2, Facts ρ fa' ∧ next (⟨k, o.dst, v, blk⟩, ⟨slotsG ops o, rb, opn, fresh⟩) nid' T1 { st with fa := fa' } = some (T2, t2) ∧ Sat ρ T2 ∧ t2.sat ρ L ∧
      nid ≤ nid' ∧ blkLow blk = true ∧ (fresh = true → ∀ i B, blk = some (i, B) → nid ≤ i) ∧ DeltaOK P ρ st0 nbA st.fr st.bs o v blk ⟨slotsG ops o, rb, opn, fresh⟩ := by
  unfold drawOn at h
  split at h
  · rename_i T1 v hl
    have s1 := hnext _ _ _ _ _ _ h hs
    obtain ⟨s0, _⟩ := listS_sound hΓ hl s1
    refine ⟨s0, fun L hf hL => ⟨v, none, [], false, false, nid, T1, st.fa, T', t, hf, h, hs, hL, Nat.le_refl _, rfl, (fun e => by cases e), ?_⟩⟩
    have hD : DeltaOK P ρ st0 nbA st.fr st.bs o v none ⟨slotsOf o, [], false, false⟩ := by
      intro w0 μ A a w K Q hw h1 h2 h4 h5 _ _ hK
      obtain ⟨hrw, hev⟩ := slots_rel (st := st) hf hw h1 h2 h4
      have hl2 : listS Γ T ⟨st0.nt, A.fr, nbA, .nil, st.fa⟩ o = some (T1, v) := by
        rw [← hl]
        exact listS_congr (fun x hx => by
          rw [← hev x hx ⟨st0.nt, A.fr, nbA, .nil, st.fa⟩ rfl]
          exact eval_congr fun t _ => rfl) rfl
      obtain ⟨_, hy⟩ := listS_sound hΓ hl2 s1
      have hwr := hw.wr; rw [h2] at hwr
      exact (hy w0 μ a w hrw).wp fun x n hv => hK μ x _ (Sub.refl _) (fun _ _ => rfl) hv (hwr.drewN n)
    exact hD.grow fun t ht => List.mem_append_right _ ht
  split at h
  · rename_i T1 v blk fp nid' hop
    split at h
    · rename_i hb
      have s1 := hnext _ _ _ _ _ _ h hs
      obtain ⟨s0, hn', hfr, hD⟩ := drawOp_sound hΓ hop (fun i B e => by
            subst e
            have := Nat.le_of_ble_eq_true hb
            unfold maxReg at this
            unfold LB; omega) s1
      refine ⟨s0, fun L hf hL => ⟨v, blk, fp.rb, fp.opn, fp.fresh, nid', T1, st.fa, T', t, hf, h, hs, hL, hn', hb, hfr, ?_⟩⟩
      exact (hD hf).grow fun t ht => by rw [drawOp_rs hop] at ht; exact List.mem_append_right _ ht
    · cases h
  · split at h
    · rename_i c ho
      split at h
      · rename_i g args hcal
        split at h
        · rename_i T1 vt opn hcd
          obtain ⟨s1, hvals⟩ := onVals_spec (fun T st v T' t h hs => hnext _ _ _ _ _ _ h hs) h hs
          obtain ⟨s0, hD⟩ := drawCall_sound hΓ hsum hrec ho hcal hcd s1
          refine ⟨s0, fun L hf hL => ?_⟩
          obtain ⟨T2, T3, t3, fa', hfa', hkk, hs3, hsat⟩ := hvals L hf hL
          refine ⟨_, none, [], opn, false, nid, T2, fa', T3, t3, hfa', hkk, hs3, hsat, Nat.le_refl _, rfl, (fun e => by cases e), ?_⟩
          exact (hD hf).grow fun t ht => List.mem_append_right _ ht
        · cases h
      · cases h
    · cases h

theorem guardS_slot {ops : Array Oper} {st A : St} {o : Oper} {j : Nat} {want : Bool} {x : X} (hg : o.guard = some (j, want)) (hx : guardS ops st j = some x) (h : ∀ t ∈ slotsG ops o, A.fr.get t = st.fr.get t) : guardS ops A j = some x := by
  unfold guardS at hx ⊢
  split at hx
  · rename_i g hg'
    split at hx
    · rename_i d hd
      have hm : d ∈ slotsG ops o := by
        unfold slotsG gSlot
        rw [hg]
        simp only [hg', hd]
        exact List.mem_append_left _ List.mem_cons_self
      rw [h d hm]
      exact hx
    · cases hx
  · cases hx

theorem undefG_slot {ops : Array Oper} {st A : St} {o : Oper} {j : Nat} {want : Bool} (hg : o.guard = some (j, want)) (hx : undefG ops st j = true) (h : ∀ t ∈ slotsG ops o, A.fr.get t = st.fr.get t) : undefG ops A j = true := by
  unfold undefG at hx ⊢
  split at hx
  · rename_i g hg'
    split at hx
    · rename_i d hd
      have hm : d ∈ slotsG ops o := by
        unfold slotsG gSlot
        rw [hg]
        simp only [hg', hd]
        exact List.mem_append_left _ List.mem_cons_self
      rw [h d hm]
      exact hx
    · cases hx
  · cases hx

theorem undefG_spec {ops : Array Oper} {st : St} {j : Nat} (h : undefG ops st j = true) {w0 : Base} {μ : Mu} {a : Act} {w : World} (hw : StRel ρ w0 μ st a w) : yielded ops a.tmps j = none := by
  unfold undefG at h
  split at h
  · rename_i o ho
    split at h
    · rename_i d hd
      split at h
      · rename_i hy
        obtain ⟨vs, e, hv⟩ := hw.fr.slot d _ hy
        have hvs : vs = #[] := by
          obtain ⟨l⟩ := vs
          cases l with
          | nil => rfl
          | cons _ _ => exact hv.elim
        subst hvs
        unfold yielded
        rw [ho]
        simp only [Option.bind_some, hd]
        rw [Array.getD_eq_getD_getElem?] at e
        cases ht : a.tmps[d]? with
        | none => rfl
        | some v => rw [ht] at e; simp only [Option.getD_some] at e; subst e; rfl
      · cases h
    · cases h
  · cases h

theorem drawAs_spec (hΓ : Γ.ok P) (hsum : ∀ f s, Γ.summ f = some s → SummOK P f s) {rec : Code → Tab → St → Option (Tab × Tree)} (hrec : RecOK P ρ rec) {ops : Array Oper} {st0 : St} {nbA k nid : Nat} {o : Oper}
    {next : Dl × Fp → Nat → Tab → St → Option (Tab × Tree)} (hnext : ∀ e nid T st T' t, next e nid T st = some (T', t) → Sat ρ T' → Sat ρ T) {T T' : Tab} {st : St} {t : Tree}
    (h : drawAs Γ rec ops st0 nbA k nid o next T st = some (T', t)) (hs : Sat ρ T') :
    Sat ρ T ∧ ∀ L, Facts ρ st.fa → t.sat ρ L → ∃ v blk rb opn fresh nid' T1 fa' T2 t2, Facts ρ fa' ∧ next (⟨k, o.dst, v, blk⟩, ⟨slotsG ops o, rb, opn, fresh⟩) nid' T1 { st with fa := fa' } = some (T2, t2) ∧ Sat ρ T2 ∧ t2.sat ρ L ∧
      nid ≤ nid' ∧ blkLow blk = true ∧ (fresh = true → ∀ i B, blk = some (i, B) → nid ≤ i) ∧ DeltaW P ρ ops st0 nbA st.fr st.bs o v blk ⟨slotsG ops o, rb, opn, fresh⟩ := by
  unfold drawAs at h
  split at h
  · rename_i hg
    obtain ⟨s0, hr⟩ := drawOn_spec hΓ hsum hrec hnext h hs
    refine ⟨s0, fun L hf hL => ?_⟩
    obtain ⟨v, blk, rb, opn, fresh, nid', T1, fa', T2, t2, h1, h2, h3, h4, h5, h6, h7, h8⟩ := hr L hf hL
    exact ⟨v, blk, rb, opn, fresh, nid', T1, fa', T2, t2, h1, h2, h3, h4, h5, h6, h7, h8.toW hg⟩
  · rename_i j want hg
    split at h
    · rename_i x hx
      have hgs : ∀ (b : Bool) (T : Tab) (st : St) (T' : Tab) (t : Tree), (match b == want with
          | true => drawOn Γ rec ops st0 nbA k nid o next T st
          | false => next (⟨k, o.dst, .tup [], none⟩, ⟨slotsG ops o, [], false, false⟩) nid T st) = some (T', t) → Sat ρ T' → Sat ρ T := by
        intro b T st T' t h1 hs'
        split at h1
        · exact (drawOn_spec hΓ hsum hrec hnext h1 hs').1
        · exact hnext _ _ _ _ _ _ h1 hs'
      obtain ⟨s0, hb⟩ := askX_spec hgs h hs
      refine ⟨s0, fun L hf hL => ?_⟩
      obtain ⟨T1, T2, t2, fa1, hfa1, h1, hs2, hL2⟩ := hb L hf hL
      have wants : ∀ {w0 μ a w} {A : St}, StRel ρ w0 μ A a w → (∀ t ∈ slotsG ops o, A.fr.get t = st.fr.get t) → Region.wanted o (yielded ops a.tmps) = ((x.ev ρ == 1) == want) := by
        intro w0 μ a w A hw hA
        unfold Region.wanted; rw [hg]; simp only
        rw [guardS_spec (guardS_slot hg hx hA) hw]
        cases (x.ev ρ == 1) <;> cases want <;> rfl
      split at h1
      · rename_i hbw
        obtain ⟨v, blk, rb, opn, fresh, nid', T3, fa', T4, t4, g1, g2, g3, g4, g5, g6, g7, g8⟩ := (drawOn_spec hΓ hsum hrec hnext h1 hs2).2 L hfa1 hL2
        refine ⟨v, blk, rb, opn, fresh, nid', T3, fa', T4, t4, g1, g2, g3, g4, g5, g6, g7, ?_⟩
        intro w0 μ A a w K Q k1 k2 k3 k4 k5 k6 k7 k8
        rw [if_pos (by rw [wants k1 k4]; exact hbw)]
        exact g8 w0 μ A a w K Q k1 k2 k3 k4 k5 k6 k7 k8
      · rename_i hbw
        refine ⟨.tup [], none, [], false, false, nid, T1, fa1, T2, t2, hfa1, h1, hs2, hL2, Nat.le_refl _, rfl, (fun e => by cases e), ?_⟩
        intro w0 μ A a w K Q k1 k2 k3 k4 k5 k6 k7 k8
        rw [if_neg (by rw [wants k1 k4, hbw]; exact Bool.false_ne_true)]
        exact k8 μ undef w (Sub.refl _) (fun _ _ => rfl) ⟨#[], rfl, trivial⟩ (by rw [← k3]; exact k1.wr)
    · split at h
      · rename_i hud
        have s0 := hnext _ _ _ _ _ _ h hs
        refine ⟨s0, fun L hf hL => ⟨.tup [], none, [], false, false, nid, T, st.fa, T', t, hf, h, hs, hL, Nat.le_refl _, rfl, (fun e => by cases e), ?_⟩⟩
        intro w0 μ A a w K Q k1 k2 k3 k4 k5 k6 k7 k8
        rw [if_neg]
        · exact k8 μ undef w (Sub.refl _) (fun _ _ => rfl) ⟨#[], rfl, trivial⟩ (by rw [← k3]; exact k1.wr)
        · have := undefG_spec (undefG_slot hg hud k4) k1
          unfold Region.wanted
          rw [hg]
          simp only
          rw [this]
          intro e; cases e
      · cases h

theorem drawG_spec (hΓ : Γ.ok P) (hsum : ∀ f s, Γ.summ f = some s → SummOK P f s) {rec : Code → Tab → St → Option (Tab × Tree)} (hrec : RecOK P ρ rec) {ops : Array Oper} {st0 : St} {nbA nid0 : Nat} :
    ∀ (rest : List Oper) (k : Nat) (T : Tab) (st : St) (nid : Nat) (fin : Tab → St → List (Dl × Fp) → Option (Tab × Tree)) (T' : Tab) (t : Tree),
      (∀ T st l T' t, fin T st l = some (T', t) → Sat ρ T' → Sat ρ T) → drawG Γ rec ops st0 nbA rest k T st nid fin = some (T', t) → nid0 ≤ nid → Sat ρ T' →
      Sat ρ T ∧ ∀ L, Facts ρ st.fa → t.sat ρ L → ∃ T2 st' l T3 t3, fin T2 st' l = some (T3, t3) ∧ Sat ρ T3 ∧ t3.sat ρ L ∧ Facts ρ st'.fa ∧
        l.length = rest.length ∧ st' = { st with fr := puts all1 Dl.slot l st.fr, bs := puts all1 Dl.blk l st.bs, fa := st'.fa } ∧
        ∀ (j : Nat) (o : Oper), rest[j]? = some o → ∃ d p, l[j]? = some (d, p) ∧ p.rs = slotsG ops o ∧ LOK P ρ ops st0 nbA nid0 (puts all1 Dl.slot (l.take j) st.fr) (puts all1 Dl.blk (l.take j) st.bs) (k + j) o d p
  | [], k, T, st, nid, fin, T', t, hfin, h, _, hs =>
    ⟨hfin _ _ _ _ _ h hs, fun L hf hL => ⟨T, st, [], T', t, h, hs, hL, hf, rfl, rfl, fun j o hj => by simp at hj⟩⟩
  | o :: rest, k, T, st, nid, fin, T', t, hfin, h, hn, hs => by
    unfold drawG at h
    split at h
    · rename_i hlow hd
      -- (soundness of the table alone needs no bound on the numbers)
      have hnext : ∀ (e : Dl × Fp) (nid : Nat) (T : Tab) (st : St) (T' : Tab) (t : Tree), drawG Γ rec ops st0 nbA rest (k + 1) T (e.1.app st) nid (fun T st l => fin T st (e :: l)) = some (T', t) → Sat ρ T' → Sat ρ T :=
        fun e nid T st T' t h hs => (drawG_spec (nid0 := 0) hΓ hsum hrec rest (k + 1) T _ nid _ T' t (fun T st l T' t h hs => hfin _ _ _ _ _ h hs) h (Nat.zero_le _) hs).1
      obtain ⟨s0, hr⟩ := drawAs_spec hΓ hsum hrec hnext h hs
      refine ⟨s0, fun L hf hL => ?_⟩
      obtain ⟨v, blk, rb, opn, fresh, nid', T1, fa', T2, t2, hfa, hk, hs2, hL2, hnn, hb, hfr, hD⟩ := hr L hf hL
      obtain ⟨_, hrest⟩ := drawG_spec (nid0 := nid0) hΓ hsum hrec rest (k + 1) T1 _ nid' _ T2 t2 (fun T st l T' t h hs => hfin _ _ _ _ _ h hs) hk (Nat.le_trans hn hnn) hs2
      obtain ⟨T3, st', l, T4, t4, h1, h2, h3, h4, hlen, hst, hall⟩ := hrest L (by
        show Facts ρ ((⟨k, o.dst, v, blk⟩ : Dl).app { st with fa := fa' }).fa
        exact hfa) hL2
      refine ⟨T3, st', _, T4, t4, h1, h2, h3, h4, by simp [hlen], ?_, ?_⟩
      · rw [app_fr, app_bs] at hst
        rw [hst]
        simp [puts, all1, Dl.app]
      · intro j o' hj
        cases j with
        | zero =>
          have e : o' = o := by simpa using hj.symm
          subst e
          refine ⟨_, _, rfl, rfl, ⟨rfl, rfl, hlow, ?_, ?_, fun e i B e' => Nat.le_trans hn (hfr e i B e'), hD⟩⟩
          · intro t ht
            simp only at ht
            rw [ht] at hd
            unfold dstLow at hd
            simp only [Bool.and_eq_true] at hd
            exact ⟨Nat.le_of_ble_eq_true hd.1, Nat.le_of_ble_eq_true hd.2⟩
          · intro i B e
            simp only at e
            rw [e] at hb
            exact Nat.le_of_ble_eq_true hb
        | succ j =>
          obtain ⟨d, p', hdj, hrs', hL'⟩ := hall j o' (by simpa using hj)
          refine ⟨d, p', by simpa using hdj, hrs', ?_⟩
          rw [app_fr, app_bs] at hL'
          rw [show k + (j + 1) = k + 1 + j by omega]
          simpa [puts, all1] using hL'
    · cases h

theorem statRowG_spec {ops : Array Oper} {m : Tr Nat} {a : Oper} {i : Nat} : ∀ {l : List Oper} {k : Nat}, statRowG ops m a i l k = true → ∀ j b, l[j]? = some b → slotClashG ops a b = true → Nat.testBit ((m.get (k + j)).getD 0) i = true
  | [], _, _, _, _, hb, _ => by simp at hb
  | c :: l, k, h, j, b, hb, hc => by
    unfold statRowG at h
    cases j with
    | zero =>
      have e : c = b := by simpa using hb
      subst e
      rw [hc] at h
      dsimp only at h
      split at h
      · rename_i ht; exact ht
      · cases h
    | succ j =>
      have h' : statRowG ops m a i l (k + 1) = true := by
        split at h
        · split at h
          · exact h
          · cases h
        · exact h
      have := statRowG_spec h' j b (by simpa using hb) hc
      rw [show k + (j + 1) = k + 1 + j by omega]; exact this

theorem statOKG_spec {ops : Array Oper} {m : Tr Nat} : ∀ {l : List Oper} {k : Nat}, statOKG ops m l k = true → ∀ i j a b, i < j → l[i]? = some a → l[j]? = some b → slotClashG ops a b = true → Nat.testBit ((m.get (k + j)).getD 0) (k + i) = true
  | [], _, _, _, _, _, _, _, ha, _, _ => by simp at ha
  | c :: l, k, h, i, j, a, b, hij, ha, hb, hc => by
    unfold statOKG at h
    split at h
    · rename_i hr
      cases j with
      | zero => omega
      | succ j =>
        cases i with
        | zero =>
          have e : c = a := by simpa using ha
          subst e
          have := statRowG_spec hr j b (by simpa using hb) hc
          rw [show k + (j + 1) = k + 1 + j by omega]; simpa using this
        | succ i =>
          have := statOKG_spec h i j a b (by omega) (by simpa using ha) (by simpa using hb) hc
          rw [show k + (j + 1) = k + 1 + j by omega, show k + (i + 1) = k + 1 + i by omega]; exact this
    · cases h

theorem clash_partsG {ops : Array Oper} {d e : Dl} {p q : Fp} {a b : Oper} (h1 : d.dst = a.dst) (h2 : e.dst = b.dst) (h3 : p.rs = slotsG ops a) (h4 : q.rs = slotsG ops b) (h : clash d e p q = true) : slotClashG ops a b = true ∨ blkClash d e p q = true := by
  unfold clash at h
  unfold slotClashG blkClash
  rw [h1, h2, h3, h4] at h
  simp only [Bool.or_eq_true] at h ⊢
  rcases h with (((((((h | h) | h) | h) | h) | h) | h) | h)
  · exact .inl (.inl (.inl h))
  · exact .inl (.inl (.inr h))
  · exact .inl (.inr h)
  · exact .inr (.inl (.inl (.inl (.inl h))))
  · exact .inr (.inl (.inl (.inl (.inr h))))
  · exact .inr (.inl (.inl (.inr h)))
  · exact .inr (.inl (.inr h))
  · exact .inr (.inr h)

theorem clearG_spec {ops : Array Oper} {l : List (Dl × Fp)} (hlen : l.length = ops.toList.length)
    (hall : ∀ (j : Nat) (o : Oper), ops.toList[j]? = some o → ∃ d p, l[j]? = some (d, p) ∧ d.i = j ∧ d.dst = o.dst ∧ p.rs = slotsG ops o) (h : clearG ops l = true) : ClearP (masks ops.toList 0 .nil) l := by
  unfold clearG at h
  split at h
  case h_2 => cases h
  rename_i hst
  intro i j d p e q hij hd he
  have hi : i < ops.toList.length := by have := (List.getElem?_eq_some_iff.1 hd).1; omega
  have hj : j < ops.toList.length := by have := (List.getElem?_eq_some_iff.1 he).1; omega
  obtain ⟨d', p', e1, e2, e3, e4⟩ := hall i _ (List.getElem?_eq_getElem hi)
  rw [hd] at e1; cases e1
  obtain ⟨d', p', f1, f2, f3, f4⟩ := hall j _ (List.getElem?_eq_getElem hj)
  rw [he] at f1; cases f1
  have hB : hard d e p q = false ∧ (blkClash d e p q = true → Nat.testBit (((masks ops.toList 0 .nil).get e.i).getD 0) d.i = true) := by
    split at h
    · rename_i hno
      have n1 := noBlk_spec hno i d p hd
      have n2 := noBlk_spec hno j e q he
      refine ⟨?_, fun hb => ?_⟩
      · unfold hard; rw [n1, n2]; simp [optEq]
      · unfold blkClash at hb; rw [n1, n2] at hb; simp [optEq, optIn] at hb
    · exact allClearB_spec h i j d p e q hij hd he
  refine ⟨hB.1, fun hc => ?_⟩
  rcases clash_partsG e3 f3 e4 f4 hc with h1 | h1
  · have := statOKG_spec hst i j _ _ hij (List.getElem?_eq_getElem hi) (List.getElem?_eq_getElem hj) h1
    rw [f2, e2]; simpa using this
  · exact hB.2 h1

theorem drawGone_sound (hΓ : Γ.ok P) (hsum : ∀ f s, Γ.summ f = some s → SummOK P f s) {rec : Code → Tab → St → Option (Tab × Tree)} (hrec : RecOK P ρ rec)
    {id : Nat} {ops : Array Oper} {T T' : Tab} {st : St} {t : Tree} (h : drawGone Γ rec ops T st = some (T', t)) (hs : Sat ρ T') :
    Sat ρ T ∧ ∀ w0 μ a w Q, StRel ρ w0 μ st a w → t.sat ρ (Leafs ρ w0 Q μ) → (Code.region id ops true).wp P Q a w := by
  unfold drawGone at h
  split at h
  · rename_i hb1 hb2
    have hfin : ∀ (T : Tab) (st' : St) (l : List (Dl × Fp)) (T' : Tab) (t : Tree), (match clearG ops l with
        | true => some (T, Tree.leaf .normal st')
        | false => none) = some (T', t) → Sat ρ T' → Sat ρ T := by
      intro T st' l T' t h hs'
      split at h
      · cases h; exact hs'
      · cases h
    obtain ⟨s0, hdr⟩ := drawG_spec (ops := ops) hΓ hsum hrec ops.toList 0 T _ st.nb _ T' t hfin h (Nat.le_refl _) hs
    refine ⟨s0, fun w0 μ a w Q hw hL => ?_⟩
    obtain ⟨T2, st', l, T3, t3, hf, hs3, hsat, hfa, hlen, hst, hall⟩ := hdr _ hw.fa hL
    split at hf
    · rename_i hclear
      cases hf
      refine wp_region_any hΓ.mixed ?_
      have hrep : ∀ i, (Array.replicate ops.size false).getD i false = false := by
        intro i
        simp only [Array.getD_eq_getD_getElem?, Array.getElem?_replicate]
        split <;> rfl
      have hw1 : StRel ρ w0 μ st a (w.drewN 1) := hw.drewN 1
      refine region_inv (μ0 := μ) (w0 := w0) (st := st) (nbA := st.nb + countAllocs ops.toList) (l := l) (Nat.le_of_ble_eq_true hb2) (clearG_spec (by simpa using hlen) (fun j o ho => by
          obtain ⟨d, p, h1, hrs, h2⟩ := hall j o ho
          exact ⟨d, p, h1, by simpa using h2.i, h2.dst, hrs⟩) hclear) (by simpa using hlen) hw.wr.top
        (fun i B hi => by obtain ⟨q, _, hq, _⟩ := hw.wr.blk i B hi; exact ⟨q, hq⟩) (fun j o ho => by
          obtain ⟨d, p, h1, _, h2⟩ := hall j o (by simpa using ho)
          exact ⟨d, p, h1, by simpa using h2⟩) ?_
        ops.size _ μ a _ (by simp) (unl_le _ _) (fun j o _ hj => by rw [hrep] at hj; cases hj) (Sub.refl _) ?_ ?_
      · intro μ' a' w' hp hw'
        refine hsat μ' a' w' hp ?_
        rw [hst]; exact ⟨hw'.defers, hw'.fr, hw'.wr, hfa⟩
      · intro j d p hj hfr _ i B hB
        have hjl : j < ops.size := by have := (List.getElem?_eq_some_iff.1 hj).1; simp at hlen; omega
        obtain ⟨d', p', hj', _, hLk⟩ := hall j ops[j] (by simp [hjl])
        rw [hj] at hj'; cases hj'
        exact hw.wr.top i (hLk.nid hfr i B hB) (by have := hLk.blt i B hB; unfold maxReg at this; unfold LB; omega)
      · rw [puts_false hrep, puts_false hrep]
        exact ⟨hw1.defers, hw1.fr, ⟨hw1.wr.kept, hw1.wr.inj, fun i hi hi2 => hw1.wr.top i (Nat.le_trans (Nat.le_add_right _ _) hi) hi2, hw1.wr.lo, hw1.wr.blk, hw1.wr.lst, fun q hq => hw1.wr.ltop q (Nat.le_trans (Nat.le_add_right _ _) hq)⟩, hw1.fa⟩
    · cases hf
  · cases h

end
end
end Go.Sx

namespace Go.Sx
noncomputable section
open Go.RowKit

/-- A number's place in a state: in a slot or in a block. -/
structure Ps where
  blk : Bool
  i : Nat
  c : Nat

/-- How a loop turns: its program's number; the slots and blocks that its head has; the numbers that turn; what stands still and what is defined, in the program's order; the slot of the list
that bounds the counter, the counter, where it begins, and whether the test is made of the next number. -/
structure Hint where
  id : Nat
  keep : List Nat
  kb : List Nat
  lv : List Ps
  st : List X
  mp : List X
  ls : Nat
  ctr : Nat
  lo : Nat
  mode : Nat
  tq : Nat
  iv : List D
  ib : List (Nat × Bool)
  sc : List Nat

def scX : SC → Option X
  | .bool x => some x
  | .int _ x => some x
  | .flt _ x => some x
  | _ => none

def scPut (y : X) : SC → SC
  | .bool _ => .bool y
  | .int k _ => .int k y
  | .flt k _ => .flt k y
  | c => c

def listPut (y : X) : List SC → Nat → List SC
  | [], _ => []
  | c :: l, 0 => scPut y c :: l
  | c :: l, n + 1 => c :: listPut y l n

def svX (c : Nat) : SV → Option X
  | .w (.one d) => scX d
  | .w (.agg l) => match l[c]? with
    | some d => scX d
    | none => none
  | _ => none

def svPut (y : X) (c : Nat) : SV → SV
  | .w (.one d) => .w (.one (scPut y d))
  | .w (.agg l) => .w (.agg (listPut y l c))
  | v => v

def psX (st : St) (p : Ps) : Option X :=
  match p.blk with
  | false => match st.fr.get p.i with
    | some v => svX p.c v
    | none => none
  | true => match st.bs.get p.i with
    | some B => match B.cells[p.c]? with
      | some d => scX d
      | none => none
    | none => none

def psXs (st : St) : List Ps → Option (List X)
  | [] => some []
  | p :: l =>
    match psX st p, psXs st l with
    | some x, some m => some (x :: m)
    | _, _ => none

def psPut (y : X) (st : St) (p : Ps) : St :=
  match p.blk with
  | false => match st.fr.get p.i with
    | some v => st.wFr fun fr => fr.set fuelT p.i (svPut y p.c v)
    | none => st
  | true => match st.bs.get p.i with
    | some B => st.wBs fun bs => bs.set fuelT p.i ⟨listPut y B.cells p.c, B.ty⟩
    | none => st

/-- The numbers that turn: registers f, f + 1, .. -/
def putAll : Nat → List Ps → St → St
  | _, [], st => st
  | f, p :: l, st => putAll (f + 1) l (psPut (.reg f) st p)

def keepTr {α : Type} (t : Tr α) : List Nat → Tr α
  | [] => .nil
  | i :: l => match t.get i with
    | some v => (keepTr t l).set fuelT i v
    | none => keepTr t l

def headOf (h : Hint) (f0 : Nat) (st : St) : St :=
  putAll f0 h.lv (match st with | ⟨nt, fr, nb, bs, fa⟩ => ⟨nt, keepTr fr h.keep, nb, keepTr bs h.kb, fa⟩)

/-! ### A state is the head again -/
def xMatch (f0 : Nat) (outs : List X) (g l : X) : Bool :=
  match g with
  | .lit _ => g.beq l
  | .reg r =>
    match Nat.blt r f0 with
    | true => g.beq l
    | false => match outs[r - f0]? with
      | some y => y.beq l
      | none => false

def scMatch (f0 nb0 : Nat) (outs : List X) : SC → SC → Bool
  | .any, _ => true
  | .bool x, .bool y => xMatch f0 outs x y
  | .int k x, .int k' y => Nat.beq (kindNo k) (kindNo k') && xMatch f0 outs x y
  | .flt .f32 x, .flt .f32 y => xMatch f0 outs x y
  | .flt .f64 x, .flt .f64 y => xMatch f0 outs x y
  | .ptr i o, .ptr j p => Nat.beq i j && (Nat.beq o p && Nat.blt i nb0)
  | .slc i o n c, .slc j p m d => Nat.beq i j && (Nat.beq o p && (Nat.beq n m && (Nat.beq c d && Nat.blt i nb0)))
  | .ls q ks x, .ls q' ks' y => Nat.beq q q' && (natsBeq ks ks' && (xMatch f0 outs x y && Nat.blt q nb0))
  | .raw (.func (.func f) a b), .raw (.func (.func g) c d) => Nat.beq f g && ((a.isEmpty && b.isEmpty) && (c.isEmpty && d.isEmpty))
  | .fn g (.el q ks x i o), .fn g' (.el q' ks' y j o') => Nat.beq g g' && (Nat.beq q q' && (natsBeq ks ks' && (xMatch f0 outs x y && (xMatch f0 outs i j && (Nat.beq o o' && Nat.blt q nb0)))))
  | _, _ => false

def cellsMatch (f0 nb0 : Nat) (outs : List X) : List SC → List SC → Bool
  | [], [] => true
  | g :: l, c :: m => scMatch f0 nb0 outs g c && cellsMatch f0 nb0 outs l m
  | _, _ => false

def svMatch (f0 nb0 : Nat) (outs : List X) : SV → SV → Bool
  | .un, _ => true
  | .w (.one g), .w (.one c) => scMatch f0 nb0 outs g c
  | .w (.agg g), .w (.agg c) => cellsMatch f0 nb0 outs g c
  | _, _ => false

def matchSt (f0 : Nat) (outs : List X) (G s : St) : Bool :=
  Nat.beq G.nt s.nt &&
  (Tr.chk (fun t g => match s.fr.get t with | some l => svMatch f0 G.nb outs g l | none => false) 1 0 G.fr &&
   Tr.chk (fun i B => match s.bs.get i with | some C => Nat.beq B.ty C.ty && (Nat.blt i G.nb && cellsMatch f0 G.nb outs B.cells C.cells) | none => false) 1 0 G.bs)

/-! ### The head's facts -/
def addFact (x : X) (m : Int) (T : Tab) (fa : Tr Bool) : Option (Tab × Tr Bool) :=
  match mk T 15 [x, .lit m] with
  | some (T1, .reg q) => some (T1, fa.set fuelT q false)
  | _ => none

/-- x is less than the list is long. -/
def addLess (x L : X) (T : Tab) (fa : Tr Bool) : Option (Tab × Tr Bool) :=
  match mk T 62 [L] with
  | some (T1, b) =>
    match mk T1 15 [x, b] with
    | some (T2, .reg q) => some (T2, fa.set fuelT q true)
    | _ => none
  | none => none

/-- The counter is not below where it began. (Mode 0: the test is made of it; 1: of the next number; 2: what is looked for lies ahead of the list's end.) -/
def ctrF (mode : Nat) (lo : Nat) (i L : X) (T : Tab) (fa : Tr Bool) : Option (Tab × Tr Bool) :=
  match addFact i 0 T fa with
  | some (T1, fa1) =>
    match addFact i lo T1 fa1 with
    | some (T2, fa2) =>
      match mode with
      | 0 => some (T2, fa2)
      | m + 1 =>
        match mk T2 31 [.lit 3, i, .lit 1] with
        | some (T3, s) =>
          match addFact s 0 T3 fa2 with
          | some (T4, fa4) =>
            match m with
            | 0 => some (T4, fa4)
            | _ + 1 =>
              match addLess s L T4 fa4 with
              | some (T5, fa5) => addLess i L T5 fa5
              | none => none
          | none => none
        | none => none
    | none => none
  | none => none

/-! ### What is so at each head -/
def locX (m : List X) : X → Option X
  | .lit n => some (.lit n)
  | .reg r => m[r]?

def locXs (m : List X) : List X → Option (List X)
  | [] => some []
  | x :: l =>
    match locX m x, locXs m l with
    | some y, some r => some (y :: r)
    | _, _ => none

/-- Definitions over numbers that are known. -/
def instI : List D → List X → Tab → Option (Tab × List X)
  | [], m, T => some (T, m)
  | d :: l, m, T =>
    match locXs m d.a with
    | some a =>
      match mk T d.f a with
      | some (T1, y) => instI l (m ++ [y]) T1
      | none => none
    | none => none

def ivYes (T : Tab) (fa : Tr Bool) (m : List X) : List (Nat × Bool) → Bool
  | [] => true
  | (j, b) :: l =>
    match m[j]? with
    | some x =>
      match decideX T fa x with
      | .known c => (c == b) && ivYes T fa m l
      | _ => false
    | none => false

def ivPut (T : Tab) (m : List X) : List (Nat × Bool) → Tr Bool → Option (Tr Bool)
  | [], fa => some fa
  | (j, b) :: l, fa =>
    match m[j]? with
    | some x => ivPut T m l (learnX T fuelD fa x b)
    | none => none

/-- It is so for these numbers. -/
def ivIn (h : Hint) (xs : List X) (T : Tab) (fa : Tr Bool) : Option Tab :=
  match h.ib with
  | [] => some T
  | _ :: _ =>
    match instI h.iv (xs ++ h.st) T with
    | some (T1, m) =>
      match ivYes T1 fa m h.ib with
      | true => some T1
      | false => none
    | none => none

/-- It is so at the head. -/
def ivHead (h : Hint) (xs : List X) (T : Tab) (fa : Tr Bool) : Option (Tab × Tr Bool) :=
  match h.ib with
  | [] => some (T, fa)
  | _ :: _ =>
    match instI h.iv (xs ++ h.st) T with
    | some (T1, m) =>
      match ivPut T1 m h.ib fa with
      | some fa1 => some (T1, fa1)
      | none => none
    | none => none

/-- It is so at each normal end. -/
def ivT (h : Hint) : Tree → Tab → Option Tab
  | .leaf .normal st, T =>
    match psXs st h.lv with
    | some outs => ivIn h outs T st.fa
    | none => none
  | .leaf _ _, T => some T
  | .node _ a b, T =>
    match ivT h a T with
    | some T1 => ivT h b T1
    | none => none

/-! ### The round is the program's step -/
def lowId (id : Nat) (d : D) : Bool :=
  match Nat.beq d.f 70 with
  | false => true
  | true => match d.a with
    | .lit (.ofNat n) :: _ => Nat.blt n id
    | _ => false

def dsChk (T1 : Tab) (id : Nat) (m : List X) : Nat → List D → Bool
  | _, [] => true
  | n, d :: l =>
    match m[n]?, locXs m d.a with
    | some (.reg r), some a =>
      match T1.defs.get r with
      | some e => Nat.beq e.f d.f && (xsBeq e.a a && (lowId id d && (allBelow n d.a && dsChk T1 id m (n + 1) l)))
      | none => false
    | _, _ => false

def notNormal : Ex → Bool
  | .normal => false
  | _ => true

def trChk (m : List X) (lv : List Ps) : LT → Tree → Bool
  | .stop, .leaf e _ => notNormal e
  | .next outs, .leaf .normal st =>
    match psXs st lv, locXs m outs with
    | some a, some b => xsBeq a b
    | _, _ => false
  | .node r a b, .node q x y =>
    match m[r]? with
    | some (.reg q') => Nat.beq q q' && (trChk m lv a x && trChk m lv b y)
    | _ => false
  | _, _ => false

/-- The round comes to this alone, by what is known. -/
def trIn (T : Tab) (lv : List Ps) (want : Option (List X)) : Nat → Tree → Tr Bool → Bool
  | 0, _, _ => false
  | _ + 1, .leaf .normal st, fa => (match want, psXs st lv with
    | some a, some b => xsBeq a b
    | _, _ => false) || dead T fa
  | _ + 1, .leaf _ _, fa => (match want with
    | none => true
    | some _ => false) || dead T fa
  | n + 1, .node q a b, fa =>
    match decideX T fa (.reg q) with
    | .known true => trIn T lv want n a fa
    | .known false => trIn T lv want n b fa
    | .part r _ => trIn T lv want n (.node q a b) (learnX T fuelD fa (.reg r) true) && trIn T lv want n (.node q a b) (learnX T fuelD fa (.reg r) false)
    | .split r => trIn T lv want n (.node q a b) (learnX T fuelD fa (.reg r) true) && trIn T lv want n (.node q a b) (learnX T fuelD fa (.reg r) false)

/-- The step comes to what the round comes to. -/
def trEq (T : Tab) (m : List X) (lv : List Ps) (t : Tree) : LT → Tr Bool → Bool
  | .stop, fa => trIn T lv none 1000 t fa
  | .next outs, fa =>
    match locXs m outs with
    | some b => trIn T lv (some b) 1000 t fa
    | none => false
  | .node r a b, fa =>
    match m[r]? with
    | some x => trEq T m lv t a (learnX T fuelD fa x true) && trEq T m lv t b (learnX T fuelD fa x false)
    | none => false

/-- Each normal end is the head again, and lies behind the test of the counter. -/
def leafChk (f0 : Nat) (h : Hint) (G : St) (s q : Nat) : Bool → Tree → Bool
  | seen, .leaf .normal st =>
    seen && (match psXs st h.lv with
      | some outs => matchSt f0 outs G st && (match outs[h.ctr]? with
        | some o => o.beq (.reg s)
        | none => false)
      | none => false)
  | _, .leaf _ _ => true
  | seen, .node r a b => leafChk f0 h G s q (seen || Nat.beq r q) a && leafChk f0 h G s q seen b

def tabChk (f0 k : Nat) (T : Tab) : Bool := Tr.chk (fun r d => (Nat.blt r f0 || Nat.ble (f0 + k) r) && allBelow r d.a) 1 0 T.defs

def freshX (f0 : Nat) : Nat → List X
  | 0 => []
  | k + 1 => .reg f0 :: freshX (f0 + 1) k

/-- The list's code, of the slot that bounds the counter. -/
def lsOf (G : St) (t : Nat) : Option X :=
  match G.fr.get t with
  | some (.w (.one (.ls _ _ L))) => some L
  | _ => none

/-- The test of the counter. -/
def testOf (T1 : Tab) (h : Hint) (f0 : Nat) (fa : Tr Bool) (L : X) (b s : Nat) : Option Nat :=
  match h.mode with
  | 0 => look T1 15 [.reg (f0 + h.ctr), .reg b]
  | 1 => look T1 15 [.reg s, .reg b]
  | _ =>
    match T1.defs.get h.tq, look T1 32 [.lit 3, .reg b, .lit 1], look T1 15 [.reg b, .lit 2] with
    | some ⟨f, [.reg cs, x]⟩, some la, some two =>
      match look T1 63 [L, .reg la, .lit 0] with
      | some cl =>
        match look T1 10 [.reg cl, x], T1.defs.get cs with
        | some ql, some e =>
          match fa.get ql, fa.get two, (Nat.beq f 10 && (e.beq ⟨63, [L, .reg s, .lit 0]⟩ && (X.below f0 x && Nat.beq h.lo 0))) with
          | some false, some false, true => some h.tq
          | _, _, _ => none
        | _, _ => none
      | none => none
    | _, _, _ => none

def loopChk (p : Lit) (h : Hint) (f0 : Nat) (G st : St) (inits : List X) (T1 : Tab) (t : Tree) : Bool :=
  match lsOf G h.ls with
  | some L =>
    match look T1 62 [L], look T1 31 [.lit 3, .reg (f0 + h.ctr), .lit 1] with
    | some b, some s =>
      match testOf T1 h f0 st.fa L b s with
      | some q =>
        (X.below f0 L && (Nat.beq p.k h.lv.length && (Nat.blt h.ctr p.k && (Nat.ble h.lo 1000 && Nat.ble (f0 + p.k) maxReg)))) &&
        ((tabChk f0 p.k T1 && (allBelow f0 h.st && (Nat.ble G.nb maxReg && (Nat.beq G.nb st.nb && Tr.chk (fun r _ => Nat.blt r f0) 1 0 st.fa)))) &&
        ((match inits[h.ctr]? with | some (.lit (.ofNat n)) => Nat.beq n h.lo | _ => false) &&
        ((matchSt f0 inits G st && (matchSt f0 (freshX f0 p.k) G G && leafChk f0 h G s q false t)) &&
         (Nat.beq (p.k + h.st.length + p.ds.length) (freshX f0 p.k ++ h.st ++ h.mp).length &&
          (dsChk T1 h.id (freshX f0 p.k ++ h.st ++ h.mp) (p.k + h.st.length) p.ds && (trChk (freshX f0 p.k ++ h.st ++ h.mp) h.lv p.tr t || trEq T1 (freshX f0 p.k ++ h.st ++ h.mp) h.lv t p.tr .nil))))))
      | none => false
    | _, _ => false
  | none => false

def prune : Tree → Option Tree
  | .leaf .normal _ => none
  | .leaf e st => some (.leaf e st)
  | .node r a b =>
    match prune a, prune b with
    | some a', some b' => some (.node r a' b')
    | some a', none => some a'
    | none, some b' => some b'
    | none, none => none

/-- The numbers that turned, where the loop stops. -/
def defsF (id f0 : Nat) (as : Nat → List X) : Nat → Tab → Tab
  | 0, T => T
  | j + 1, T => match defsF id f0 as j T with
    | ⟨n, defs, idx⟩ => ⟨n, defs.set fuelT (f0 + j) ⟨70, .lit id :: .lit j :: as j⟩, idx⟩

def idxX (l : Nat) : Nat → List X → Option Nat
  | _, [] => none
  | n, x :: m => match x.beq (.reg l) with
    | true => some n
    | false => idxX l (n + 1) m

def isLs (L : X) : SV → Bool
  | .w (.one (.ls _ _ x)) => x.beq L
  | _ => false

def hasLs (st : St) (L : X) : List (Nat × SV) → Bool
  | [] => false
  | (t, _) :: l => (match st.fr.get t with
    | some v => isLs L v
    | none => false) || hasLs st L l

/-- The loop over all but the first of a list, as one over the list. -/
def shiftA (T : Tab) (p : Lit) (h : Hint) (inits : List X) (st : St) : Option (List X) :=
  match h.mode, h.lo, lsOf st h.ls with
  | 0, 0, some (.reg l) =>
    match T.defs.get l, idxX l 0 h.st with
    | some d, some i =>
      match d.a with
      | [L] =>
        match look T 62 [L] with
        | some n =>
          match d.beq ⟨64, [L]⟩ && (hasLs st L (Tr.list 1 0 st.fr) && (posN T st.fa (.reg n) && shiftP p h.st.length h.ctr (p.k + i))) with
          | true => some (inits.set h.ctr (.lit 1) ++ h.st.set i L)
          | false => none
        | none => none
      | _ => none
    | _, _ => none
  | _, _, _ => none

def argsF (T : Tab) (p : Lit) (h : Hint) (inits : List X) (st : St) : Nat → List X :=
  match shiftA T p h inits st with
  | some as => fun j => match Nat.beq j h.ctr with
    | true => inits ++ h.st
    | false => as
  | none => fun _ => inits ++ h.st

/-! ### What an earlier loop has found -/
def ltStop : LT → Bool
  | .stop => true
  | .next _ => false
  | .node _ a b => ltStop a && ltStop b

/-- The tests on the way on are so. -/
def scanF (m : List X) (T : Tab) : LT → Tr Bool → Tr Bool
  | .node r a b, fa =>
    match m[r]? with
    | some x =>
      match ltStop a, ltStop b with
      | true, false => scanF m T b (learnX T fuelD fa x false)
      | false, true => scanF m T a (learnX T fuelD fa x true)
      | _, _ => fa
    | none => fa
  | _, fa => fa

/-- Each round adds 1 to its only number. -/
def scanOut (s : Nat) : LT → Bool
  | .stop => true
  | .next [.reg r] => Nat.beq r s
  | .next _ => false
  | .node _ a b => scanOut s a && scanOut s b

def nextOf : LT → Option Nat
  | .next [.reg r] => some r
  | .next _ => none
  | .stop => none
  | .node _ a b => match nextOf a with
    | some r => some r
    | none => nextOf b

def lowIds (id : Nat) : List D → Bool
  | [] => true
  | d :: l => lowId id d && lowIds id l

def scanP (id : Nat) (p : Lit) (n : Nat) : Bool :=
  match nextOf p.tr with
  | some s =>
    match p.ds[s - (n + 1)]? with
    | some d => (d.beq ⟨31, [.lit 3, .reg 0, .lit 1]⟩ && Nat.blt n s) && (Nat.beq p.k 1 && (scanOut s p.tr && lowIds id p.ds))
    | none => false
  | none => false

/-- Ahead of where an earlier loop stopped, its round went on. -/
def scanOne (i : X) (b : Nat) (T : Tab) (fa : Tr Bool) (e : Nat) : Option (Tab × Tr Bool) :=
  match T.defs.get e with
  | some ⟨f, .lit (.ofNat id) :: .lit (.ofNat 0) :: .lit (.ofNat 0) :: sts⟩ =>
    match progs[id]?, look T 15 [.reg e, .reg b], look T 15 [i, .lit 0], look T 15 [i, .reg b] with
    | some p, some q, some q0, some q1 =>
      match fa.get q, fa.get q0, fa.get q1, Nat.beq f 70 && scanP id p sts.length with
      | some false, some false, some true, true =>
        match instI p.ds (i :: sts) T with
        | some (T1, m) => some (T1, scanF m T1 p.tr fa)
        | none => none
      | _, _, _, _ => none
    | _, _, _, _ => none
  | _ => none

def scans (i : X) (b : Nat) : List Nat → Tab → Tr Bool → Option (Tab × Tr Bool)
  | [], T, fa => some (T, fa)
  | e :: l, T, fa =>
    match scanOne i b T fa e with
    | some (T1, fa1) => scans i b l T1 fa1
    | none => none

/-- The round, ahead of the list's end and behind it. -/
def scanRec (rec : Code → Tab → St → Option (Tab × Tree)) (es : List Nat) (i : X) (L : X) (c : Code) (T : Tab) (st : St) : Option (Tab × Tree) :=
  match es with
  | [] => rec c T st
  | _ :: _ =>
    match look T 62 [L], st with
    | some b, ⟨nt, fr, nb, bs, fa⟩ =>
      match mk T 15 [i, .reg b] with
      | some (T1, .reg lt) =>
        match scans i b es T1 (learnX T1 fuelD fa (.reg lt) true) with
        | some (T2, fa2) =>
          match rec c T2 ⟨nt, fr, nb, bs, fa2⟩ with
          | some (T3, ta) =>
            match rec c T3 ⟨nt, fr, nb, bs, learnX T3 fuelD fa (.reg lt) false⟩ with
            | some (T4, tb) => some (T4, .node lt ta tb)
            | none => none
          | none => none
        | none => none
      | _ => none
    | none, _ => none

def loopZ (rec : Code → Tab → St → Option (Tab × Tree)) (p : Lit) (h : Hint) (c : Code) (inits : List X) (T : Tab) (st : St) : Option (Tab × Tree) :=
  match headOf h T.n st with
  | ⟨nt, fr, nb, bs, _⟩ =>
    match ctrF h.mode h.lo (.reg (T.n + h.ctr)) ((lsOf ⟨nt, fr, nb, bs, st.fa⟩ h.ls).getD (.lit 0)) ⟨T.n + h.lv.length, T.defs, T.idx⟩ st.fa with
    | some (T2, fa2) =>
      match ivHead h (freshX T.n h.lv.length) T2 fa2 with
      | some (T3, fa3) =>
        match scanRec rec h.sc (.reg (T.n + h.ctr)) ((lsOf ⟨nt, fr, nb, bs, st.fa⟩ h.ls).getD (.lit 0)) c T3 ⟨nt, fr, nb, bs, fa3⟩ with
        | some (T4, t) =>
          match ivT h t T4 with
          | some T1 =>
            match loopChk p h T.n ⟨nt, fr, nb, bs, fa3⟩ st inits T1 t with
            | true => match prune t with
              | some t' => some (defsF h.id T.n (argsF T p h inits st) h.lv.length T1, t')
              | none => none
            | false => none
          | none => none
        | none => none
      | none => none
    | none => none

def loopX (rec : Code → Tab → St → Option (Tab × Tree)) (p : Lit) (h : Hint) (c : Code) (T : Tab) (st : St) : Option (Tab × Tree) :=
  match psXs st h.lv with
  | some inits =>
    match ivIn h inits T st.fa with
    | some T0 => loopZ rec p h c inits T0 st
    | none => none
  | none => none
end
end Go.Sx

namespace Go.Sx
open Go.RowKit

/-! ### A state is the head again -/
section
variable {ρ ρ' : Nat → Int} {f0 nb0 : Nat} {outs : List X}

theorem xMatch_ev {g l : X} (h : xMatch f0 outs g l = true) (hA : ∀ r, r < f0 → ρ' r = ρ r) (hB : ∀ j y, outs[j]? = some y → ρ' (f0 + j) = y.ev ρ) : g.ev ρ' = l.ev ρ := by
  unfold xMatch at h
  split at h
  · rw [← X.beq_eq h]; rfl
  · rename_i r
    split at h
    · rename_i hr
      rw [← X.beq_eq h]
      exact hA r (Nat.le_of_ble_eq_true hr)
    · rename_i hr
      split at h
      · rename_i y hy
        rw [← X.beq_eq h]
        have hge : f0 ≤ r := by
          have : ¬ r < f0 := fun hlt => by
            have : Nat.blt r f0 = true := Nat.ble_eq_true_of_le hlt
            rw [this] at hr; cases hr
          omega
        have := hB _ _ hy
        rw [show f0 + (r - f0) = r by omega] at this
        exact this
      · cases h

/-- Of the blocks and lists that were there. -/
def restr0 (nb0 : Nat) (μ : Mu) : Mu := fun i => if i < nb0 ∨ (LB ≤ i ∧ i < LB + nb0) then μ i else none

theorem restr0_lo {μ : Mu} {i : Nat} (h : i < nb0) : restr0 nb0 μ i = μ i := if_pos (.inl h)
theorem restr0_ls {μ : Mu} {q : Nat} (h : q < nb0) : restr0 nb0 μ (LB + q) = μ (LB + q) := if_pos (.inr ⟨by omega, by omega⟩)
theorem restr0_some {μ : Mu} {i : Nat} {p : Nat × Nat} (h : restr0 nb0 μ i = some p) : μ i = some p := by
  unfold restr0 at h
  split at h
  · exact h
  · cases h

theorem kindNo_inj {k k' : IntKind} (h : Nat.beq (kindNo k) (kindNo k') = true) : k = k' := by
  cases k <;> cases k' <;> first | rfl | cases h

theorem scMatch_rel (hA : ∀ r, r < f0 → ρ' r = ρ r) (hB : ∀ j y, outs[j]? = some y → ρ' (f0 + j) = y.ev ρ) {μ : Mu} {g l : SC} (h : scMatch f0 nb0 outs g l = true) {v : Value} (hv : l.rel ρ μ v) :
    g.rel ρ' (restr0 nb0 μ) v := by
  unfold scMatch at h
  split at h
  · exact SC.rel_one hv
  · show v = .bool _
    rw [xMatch_ev h hA hB]; exact hv
  · simp only [Bool.and_eq_true] at h
    rw [kindNo_inj h.1]
    show v = .int _ _
    rw [xMatch_ev h.2 hA hB]; exact hv
  · obtain ⟨b, rfl, hb⟩ := hv
    exact ⟨b, rfl, by rw [xMatch_ev h hA hB]; exact hb⟩
  · obtain ⟨b, rfl, hb⟩ := hv
    exact ⟨b, rfl, by rw [xMatch_ev h hA hB]; exact hb⟩
  · simp only [Bool.and_eq_true] at h
    obtain ⟨h1, h2, h3⟩ := h
    rw [Nat.eq_of_beq_eq_true h1, Nat.eq_of_beq_eq_true h2]
    rw [Nat.eq_of_beq_eq_true h1] at h3
    obtain ⟨b, hb, e⟩ := hv
    exact ⟨b, by rw [restr0_lo (Nat.le_of_ble_eq_true h3)]; exact hb, e⟩
  · simp only [Bool.and_eq_true] at h
    obtain ⟨h1, h2, h3, h4, h5⟩ := h
    rw [Nat.eq_of_beq_eq_true h1, Nat.eq_of_beq_eq_true h2, Nat.eq_of_beq_eq_true h3, Nat.eq_of_beq_eq_true h4]
    rw [Nat.eq_of_beq_eq_true h1] at h5
    obtain ⟨b, hb, e⟩ := hv
    exact ⟨b, by rw [restr0_lo (Nat.le_of_ble_eq_true h5)]; exact hb, e⟩
  · simp only [Bool.and_eq_true] at h
    obtain ⟨h1, h2, h3, h4⟩ := h
    rw [Nat.eq_of_beq_eq_true h1, natsBeq_eq h2]
    rw [Nat.eq_of_beq_eq_true h1] at h4
    obtain ⟨p, off, els, hp, he, hL, hd⟩ := hv
    exact ⟨p, off, els, by rw [restr0_ls (Nat.le_of_ble_eq_true h4)]; exact hp, he, by rw [xMatch_ev h3 hA hB]; exact hL, hd⟩
  · simp only [Bool.and_eq_true] at h
    obtain ⟨h1, ⟨h2, h3⟩, h4, h5⟩ := h
    rw [Nat.eq_of_beq_eq_true h1, Array.isEmpty_iff.1 h2, Array.isEmpty_iff.1 h3]
    rw [Array.isEmpty_iff.1 h4, Array.isEmpty_iff.1 h5] at hv
    exact hv
  · simp only [Bool.and_eq_true] at h
    obtain ⟨h0, h1, h2, h3, h4, h5, h6⟩ := h
    rw [Nat.eq_of_beq_eq_true h0, Nat.eq_of_beq_eq_true h1, natsBeq_eq h2, Nat.eq_of_beq_eq_true h5]
    rw [Nat.eq_of_beq_eq_true h1] at h6
    obtain ⟨u, hu, e⟩ := hv
    obtain ⟨p, off, els, n, hp, he, hL, hi, hn, eu⟩ := hu
    exact ⟨u, ⟨p, off, els, n, by rw [restr0_ls (Nat.le_of_ble_eq_true h6)]; exact hp, he, by rw [xMatch_ev h3 hA hB]; exact hL, by rw [xMatch_ev h4 hA hB]; exact hi, hn, eu⟩, e⟩
  · cases h

theorem cellsMatch_rel (hA : ∀ r, r < f0 → ρ' r = ρ r) (hB : ∀ j y, outs[j]? = some y → ρ' (f0 + j) = y.ev ρ) {μ : Mu} : ∀ {l m : List SC} {vs : List Value}, cellsMatch f0 nb0 outs l m = true → cellsRel ρ μ m vs →
    cellsRel ρ' (restr0 nb0 μ) l vs
  | [], [], [], _, _ => trivial
  | _ :: _, _ :: _, _ :: _, h, hv => by
    simp only [cellsMatch, Bool.and_eq_true] at h
    exact ⟨scMatch_rel hA hB h.1 hv.1, cellsMatch_rel hA hB h.2 hv.2⟩
  | [], _ :: _, _, h, _ => by cases h
  | _ :: _, [], _, h, _ => by cases h
  | [], [], _ :: _, _, h => h.elim
  | _ :: _, _ :: _, [], _, h => h.elim

theorem svMatch_rel (hA : ∀ r, r < f0 → ρ' r = ρ r) (hB : ∀ j y, outs[j]? = some y → ρ' (f0 + j) = y.ev ρ) {μ : Mu} {g l : SV} (h : svMatch f0 nb0 outs g l = true) {v : Value} (hv : l.rel ρ μ v) :
    g.rel ρ' (restr0 nb0 μ) v := by
  unfold svMatch at h
  split at h
  · trivial
  · exact scMatch_rel hA hB h hv
  · obtain ⟨cs, e, hr⟩ := hv
    exact ⟨cs, e, cellsMatch_rel hA hB h hr⟩
  · cases h

theorem matchSt_rel (hA : ∀ r, r < f0 → ρ' r = ρ r) (hB : ∀ j y, outs[j]? = some y → ρ' (f0 + j) = y.ev ρ) {G s : St} (h : matchSt f0 outs G s = true) (hnb : G.nb ≤ maxReg) (hf : Facts ρ' G.fa)
    {w0 : Base} {μ : Mu} {a : Act} {w : World} (hw : StRel ρ w0 μ s a w) : StRel ρ' w0 (restr0 G.nb μ) G a w := by
  unfold matchSt at h
  simp only [Bool.and_eq_true] at h
  obtain ⟨hnt, hfr, hbs⟩ := h
  have hnt := Nat.eq_of_beq_eq_true hnt
  have fr : ∀ t g, G.fr.get t = some g → ∃ l, s.fr.get t = some l ∧ svMatch f0 G.nb outs g l = true := by
    intro t g hg
    have := Tr.chk_spec _ _ _ hfr t g hg
    simp only [Nat.one_mul, Nat.add_zero] at this
    split at this
    · rename_i l hl; exact ⟨l, hl, this⟩
    · cases this
  have bs : ∀ i B, G.bs.get i = some B → ∃ C, s.bs.get i = some C ∧ B.ty = C.ty ∧ i < G.nb ∧ cellsMatch f0 G.nb outs B.cells C.cells = true := by
    intro i B hB
    have := Tr.chk_spec _ _ _ hbs i B hB
    simp only [Nat.one_mul, Nat.add_zero] at this
    split at this
    · rename_i C hC
      simp only [Bool.and_eq_true] at this
      exact ⟨C, hC, Nat.eq_of_beq_eq_true this.1, Nat.le_of_ble_eq_true this.2.1, this.2.2⟩
    · cases this
  have hLB : G.nb < LB := by unfold maxReg at hnb; unfold LB; omega
  refine ⟨hw.defers, ⟨by rw [hw.fr.size, hnt], fun t g hg => ?_⟩, ⟨hw.wr.kept, ?_, ?_, ?_, ?_, ?_, ?_⟩, hf⟩
  · obtain ⟨l, hl, hm⟩ := fr t g hg
    exact svMatch_rel hA hB hm (hw.fr.slot t l hl)
  · intro i j p q Bi Bj hi hj hp hq e
    obtain ⟨Ci, hi', _⟩ := bs i Bi hi
    obtain ⟨Cj, hj', _⟩ := bs j Bj hj
    exact hw.wr.inj i j p q Ci Cj hi' hj' (restr0_some hp) (restr0_some hq) e
  · intro i hi hi2
    exact if_neg (by omega)
  · intro i B p hi hp
    obtain ⟨C, hi', _⟩ := bs i B hi
    exact hw.wr.lo i C p hi' (restr0_some hp)
  · intro i B hi
    obtain ⟨C, hi', ht, hlt, hm⟩ := bs i B hi
    obtain ⟨p, cs, hp, hh, hsz, vs, rest, e, hr⟩ := hw.wr.blk i C hi'
    exact ⟨p, cs, by rw [restr0_lo hlt]; exact hp, by rw [ht]; exact hh, hsz, vs, rest, e, cellsMatch_rel hA hB hm hr⟩
  · intro q p hq hp
    obtain ⟨h1, h2⟩ := hw.wr.lst q p hq (restr0_some hp)
    refine ⟨h1, fun hF i B r hi hr => ?_⟩
    obtain ⟨C, hi', _⟩ := bs i B hi
    exact h2 hF i C r hi' (restr0_some hr)
  · intro q hq
    exact if_neg (by omega)

/-- What was there stays. -/
theorem restr0_sub {μ μ' : Mu} {bs : Tr Blk} {w0 : Base} {w : World} (h : WR ρ w0 μ nb0 bs w) (hs : Sub μ μ') : Sub μ (restr0 nb0 μ') := by
  intro i p hi
  have : i < nb0 ∨ (LB ≤ i ∧ i < LB + nb0) := by
    by_cases h1 : i < nb0
    · exact .inl h1
    · by_cases h2 : i < LB
      · rw [h.top i (by omega) h2] at hi; cases hi
      · by_cases h3 : i < LB + nb0
        · exact .inr ⟨by omega, h3⟩
        · have := h.ltop (i - LB) (by omega)
          rw [show LB + (i - LB) = i by omega, hi] at this; cases this
  unfold restr0
  rw [if_pos this]
  exact hs i p hi
end

/-! ### Valuations with other numbers at the head -/
theorem close {f0 k : Nat} {T : Tab} (hg : tabChk f0 k T = true) {ρ : Nat → Int} (hs : ∀ r d, r < f0 → T.defs.get r = some d → ρ r = d.ev ρ) (v : List Int) :
    ∃ ρ' : Nat → Int, (∀ r, r < f0 → ρ' r = ρ r) ∧ (∀ j, j < k → ρ' (f0 + j) = v.getD j 0) ∧ Sat ρ' T := by
  have hd : ∀ r d, T.defs.get r = some d → (r < f0 ∨ f0 + k ≤ r) ∧ allBelow r d.a = true := by
    intro r d hr
    have := Tr.chk_spec _ _ _ hg r d hr
    simp only [Nat.one_mul, Nat.add_zero, Bool.and_eq_true, Bool.or_eq_true] at this
    refine ⟨?_, this.2⟩
    rcases this.1 with h | h
    · exact .inl (Nat.le_of_ble_eq_true h)
    · exact .inr (Nat.le_of_ble_eq_true h)
  let inp : Nat → Int := fun r => if r < f0 then ρ r else v.getD (r - f0) 0
  let ap : Nat → Nat → Int := fun n => Nat.rec inp (fun _ f r => if r < f0 + k then inp r else match T.defs.get r with | none => inp r | some d => d.ev f) n
  have ap1 : ∀ n r, ap (n + 1) r = if r < f0 + k then inp r else match T.defs.get r with | none => inp r | some d => d.ev (ap n) := fun n r => rfl
  have stable : ∀ r n, r < n → ap n r = ap (r + 1) r := by
    intro r
    induction r using Nat.strongRecOn with
    | _ r ih =>
      intro n hn
      obtain ⟨n, rfl⟩ : ∃ m, n = m + 1 := ⟨n - 1, by omega⟩
      rw [ap1, ap1]
      split
      · rfl
      · cases hr : T.defs.get r with
        | none => rfl
        | some d =>
          simp only
          unfold D.ev
          rw [ev_congr (n := r) (fun s hs => ?_) (hd r d hr).2]
          rw [ih s hs n (by omega), ih s hs r hs]
  refine ⟨fun r => ap (r + 1) r, fun r hr => ?_, fun j hj => ?_, fun r d hr => ?_⟩
  · simp only [ap1]
    rw [if_pos (by omega)]
    show inp r = ρ r
    exact if_pos hr
  · simp only [ap1]
    rw [if_pos (by omega)]
    show inp (f0 + j) = _
    have : inp (f0 + j) = v.getD (f0 + j - f0) 0 := if_neg (by omega)
    rw [this, Nat.add_sub_cancel_left]
  · simp only [ap1]
    rcases (hd r d hr).1 with h | h
    · rw [if_pos (by omega)]
      have : inp r = ρ r := if_pos h
      rw [this, hs r d h hr]
      unfold D.ev
      rw [ev_congr (n := r) (fun s hs' => ?_) (hd r d hr).2]
      have e1 : ap (s + 1) s = inp s := by rw [ap1]; exact if_pos (by omega)
      have e2 : inp s = ρ s := if_pos (by omega)
      exact (e1.trans e2).symm
    · rw [if_neg (by omega), hr]
      simp only
      unfold D.ev
      rw [ev_congr (n := r) (fun s hs' => ?_) (hd r d hr).2]
      exact stable s r hs'

/-! ### The leaf that is taken -/
def Tree.pickL (ρ : Nat → Int) : Tree → Ex × St
  | .leaf e st => (e, st)
  | .node r a b => if ρ r = 1 then a.pickL ρ else b.pickL ρ

theorem sat_pickL {ρ : Nat → Int} {L : Ex → St → Prop} : ∀ {t : Tree}, t.sat ρ L ↔ L (t.pickL ρ).1 (t.pickL ρ).2
  | .leaf e st => Iff.rfl
  | .node r a b => by
    unfold Tree.sat Tree.pickL
    split
    · exact sat_pickL
    · exact sat_pickL

theorem prune_sat {ρ : Nat → Int} {L : Ex → St → Prop} : ∀ {t t' : Tree}, prune t = some t' → t'.sat ρ L → (t.pickL ρ).1 ≠ .normal → L (t.pickL ρ).1 (t.pickL ρ).2
  | .leaf e st, t', h, hL, hn => by
    cases e with
    | normal => exact absurd rfl hn
    | leave id => cases h; exact hL
    | ret => cases h; exact hL
  | .node r a b, t', h, hL, hn => by
    have none_normal : ∀ {t : Tree}, prune t = none → (t.pickL ρ).1 = .normal := by
      intro t
      induction t with
      | leaf e st => intro h; cases e <;> first | rfl | cases h
      | node r a b iha ihb =>
        intro h
        unfold prune at h
        split at h <;> try (cases h; done)
        rename_i ha hb
        unfold Tree.pickL
        split
        · exact iha ha
        · exact ihb hb
    unfold prune at h
    unfold Tree.pickL at hn ⊢
    split at h
    · rename_i a' b' ha hb
      cases h
      unfold Tree.sat at hL
      by_cases hr : ρ r = 1
      · rw [if_pos hr] at hL hn ⊢; exact prune_sat ha hL hn
      · rw [if_neg hr] at hL hn ⊢; exact prune_sat hb hL hn
    · rename_i a' ha hb
      cases h
      by_cases hr : ρ r = 1
      · rw [if_pos hr] at hn ⊢; exact prune_sat ha hL hn
      · rw [if_neg hr] at hn; exact absurd (none_normal hb) hn
    · rename_i b' ha hb
      cases h
      by_cases hr : ρ r = 1
      · rw [if_pos hr] at hn; exact absurd (none_normal ha) hn
      · rw [if_neg hr] at hn ⊢; exact prune_sat hb hL hn
    · cases h

/-! ### The round is the program's step -/
/-- The step's registers stand for the table's. -/
def EnvOK (ρ : Nat → Int) (m : List X) (env : List Int) : Prop := ∀ r, r < env.length → ∃ x, m[r]? = some x ∧ env.getD r 0 = x.ev ρ

section
variable {ρ : Nat → Int} {m : List X}

theorem locXs_below {m : List X} : ∀ {l a : List X}, locXs m l = some a → allBelow m.length l = true
  | [], _, _ => rfl
  | x :: l, a, h => by
    unfold locXs at h
    split at h
    · rename_i y r hy hr
      unfold allBelow
      rw [locXs_below hr, Bool.and_true]
      cases x with
      | lit n => rfl
      | reg q =>
        have hy : m[q]? = some y := hy
        exact Nat.ble_eq_true_of_le (List.getElem?_eq_some_iff.1 hy).1
    · cases h

theorem locX_lev {env : List Int} (h : EnvOK ρ m env) {x y : X} (hx : locX m x = some y) (hb : x.below env.length = true) : lev env x = y.ev ρ := by
  cases x with
  | lit n => cases hx; rfl
  | reg r =>
    have hr : r < env.length := Nat.le_of_ble_eq_true hb
    obtain ⟨z, hz, e⟩ := h r hr
    have hx : m[r]? = some y := hx
    rw [hx] at hz; cases hz
    exact e

theorem locXs_lev {env : List Int} (h : EnvOK ρ m env) : ∀ {l a : List X}, locXs m l = some a → allBelow env.length l = true → l.map (lev env) = a.map (X.ev ρ)
  | [], a, hx, _ => by cases hx; rfl
  | x :: l, a, hx, hb => by
    unfold locXs at hx
    simp only [allBelow, Bool.and_eq_true] at hb
    split at hx
    · rename_i y r hy hr
      cases hx
      simp only [List.map_cons]
      rw [locX_lev h hy hb.1, locXs_lev h hr hb.2]
    · cases hx

theorem opF_low {id : Nat} {d : D} (hl : lowId id d = true) (hid : id ≤ progs.length) (l : List Int) (hd : ∀ n a, d.a = .lit (.ofNat n) :: a → ∃ r, l = (n : Int) :: r) :
    opP opB (progs.take id).reverse d.f l = opF d.f l := by
  unfold lowId at hl
  by_cases h70 : d.f = 70
  · rw [h70] at hl ⊢
    simp only [Nat.beq_refl] at hl
    split at hl
    · rename_i n a ha
      obtain ⟨r, rfl⟩ := hd n a ha
      have hn : n < id := Nat.le_of_ble_eq_true hl
      rw [opF_70]
      have e : progs.reverse = (progs.drop id).reverse ++ (progs.take id).reverse := by rw [← List.reverse_append, List.take_append_drop]
      rw [e, opP_low _ _ (by simp; omega)]
    · cases hl
  · rw [opP_base h70]
    unfold opF
    split
    · rename_i h; exact absurd h h70
    · rfl

theorem runDs_ok {T1 : Tab} {id : Nat} (hs : Sat ρ T1) (hid : id ≤ progs.length) : ∀ {ds : List D} {env : List Int}, dsChk T1 id m env.length ds = true → EnvOK ρ m env →
    EnvOK ρ m (runDs (opP opB (progs.take id).reverse) ds env) ∧ (runDs (opP opB (progs.take id).reverse) ds env).length = env.length + ds.length
  | [], env, _, he => ⟨he, rfl⟩
  | d :: ds, env, h, he => by
    unfold dsChk at h
    split at h
    · rename_i r a hm ha
      split at h
      · rename_i e hr
        simp only [Bool.and_eq_true] at h
        obtain ⟨h1, h2, h3, h4, h5⟩ := h
        have hv := locXs_lev he ha h4
        have hval : opP opB (progs.take id).reverse d.f (d.a.map (lev env)) = ρ r := by
          rw [opF_low h3 hid _ (fun n a' e' => by rw [e']; exact ⟨_, rfl⟩), hv, hs r e hr]
          unfold D.ev
          rw [Nat.eq_of_beq_eq_true h1, xsBeq_eq h2]
        have hlen : (env ++ [opP opB (progs.take id).reverse d.f (d.a.map (lev env))]).length = env.length + 1 := by simp
        have he' : EnvOK ρ m (env ++ [opP opB (progs.take id).reverse d.f (d.a.map (lev env))]) := by
          intro q hq
          rw [hlen] at hq
          by_cases hlt : q < env.length
          · obtain ⟨x, hx, e1⟩ := he q hlt
            refine ⟨x, hx, ?_⟩
            rw [List.getD_eq_getElem?_getD, List.getElem?_append_left hlt, ← List.getD_eq_getElem?_getD]
            exact e1
          · have : q = env.length := by omega
            subst this
            refine ⟨.reg r, hm, ?_⟩
            rw [List.getD_eq_getElem?_getD, List.getElem?_append_right (Nat.le_refl _)]
            simp only [Nat.sub_self, List.getElem?_cons_zero, Option.getD_some]
            exact hval
        unfold runDs
        obtain ⟨k1, k2⟩ := runDs_ok (ds := ds) hs hid (by rw [hlen]; exact h5) he'
        refine ⟨k1, ?_⟩
        rw [k2, hlen, List.length_cons]; omega
      · cases h
    · cases h

theorem psXs_length {st : St} : ∀ {lv : List Ps} {a : List X}, psXs st lv = some a → a.length = lv.length
  | [], a, h => by cases h; rfl
  | p :: l, a, h => by
    unfold psXs at h
    split at h
    · rename_i x m _ hm
      cases h
      simp [psXs_length hm]
    · cases h

theorem trChk_ok {lv : List Ps} {env : List Int} (he : EnvOK ρ m env) (hlen : env.length = m.length) : ∀ {lt : LT} {t : Tree}, trChk m lv lt t = true →
    (lt.go env = none ∧ (t.pickL ρ).1 ≠ .normal) ∨ (∃ outs, (t.pickL ρ).1 = .normal ∧ psXs (t.pickL ρ).2 lv = some outs ∧ lt.go env = some (outs.map (X.ev ρ)))
  | .stop, .leaf e st, h => by
    refine .inl ⟨rfl, ?_⟩
    cases e <;> first | (cases h; done) | (intro hh; cases hh)
  | .next outs, .leaf .normal st, h => by
    unfold trChk at h
    split at h
    · rename_i a b ha hb
      have e := xsBeq_eq h
      subst e
      refine .inr ⟨a, rfl, ha, ?_⟩
      show some _ = some _
      congr 1
      have hbel : ∀ {l a : List X}, locXs m l = some a → allBelow env.length l = true := by
        intro l
        induction l with
        | nil => intro a _; rfl
        | cons x l ih =>
          intro a h
          unfold locXs at h
          split at h
          · rename_i y r hy hr
            simp only [allBelow, Bool.and_eq_true]
            refine ⟨?_, ih hr⟩
            cases x with
            | lit n => rfl
            | reg q =>
              have hy : m[q]? = some y := hy
              have := (List.getElem?_eq_some_iff.1 hy).1
              rw [hlen]
              exact Nat.ble_eq_true_of_le this
          · cases h
      exact locXs_lev he hb (hbel hb)
    · cases h
  | .node r a b, .node q x y, h => by
    unfold trChk at h
    split at h
    · rename_i q' hq
      simp only [Bool.and_eq_true] at h
      obtain ⟨h1, h2, h3⟩ := h
      have e := Nat.eq_of_beq_eq_true h1
      subst e
      have hr : r < env.length := by rw [hlen]; exact (List.getElem?_eq_some_iff.1 hq).1
      obtain ⟨z, hz, ev⟩ := he r hr
      rw [hq] at hz; cases hz
      have ev : env.getD r 0 = ρ q := ev
      unfold LT.go Tree.pickL
      rw [ev]
      by_cases hc : ρ q = 1
      · rw [if_pos hc, if_pos hc]; exact trChk_ok he hlen h2
      · rw [if_neg hc, if_neg hc]; exact trChk_ok he hlen h3
    · cases h
  | .stop, .node _ _ _, h => by cases h
  | .next _, .leaf (.leave _) _, h => by cases h
  | .next _, .leaf .ret _, h => by cases h
  | .next _, .node _ _ _, h => by cases h
  | .node _ _ _, .leaf _ _, h => by cases h

theorem trIn_ok {T : Tab} (hs : Sat ρ T) {lv : List Ps} {want : Option (List X)} : ∀ {n : Nat} {t : Tree} {fa : Tr Bool}, trIn T lv want n t fa = true → Facts ρ fa →
    (want = none ∧ (t.pickL ρ).1 ≠ .normal) ∨ (∃ outs, want = some outs ∧ (t.pickL ρ).1 = .normal ∧ psXs (t.pickL ρ).2 lv = some outs)
  | 0, _, _, h, _ => by unfold trIn at h; cases h
  | n + 1, .leaf .normal st, fa, h, hf => by
    unfold trIn at h
    rw [Bool.or_eq_true] at h
    rcases h with h | h
    · split at h
      · rename_i a b hb
        have e := xsBeq_eq h
        subst e
        exact .inr ⟨a, rfl, rfl, hb⟩
      · cases h
    · exact (dead_spec hs hf h).elim
  | n + 1, .leaf (.leave id) st, fa, h, hf => by
    unfold trIn at h
    rw [Bool.or_eq_true] at h
    rcases h with h | h
    · split at h
      · exact .inl ⟨rfl, by intro hh; cases hh⟩
      · cases h
    · exact (dead_spec hs hf h).elim
  | n + 1, .leaf .ret st, fa, h, hf => by
    unfold trIn at h
    rw [Bool.or_eq_true] at h
    rcases h with h | h
    · split at h
      · exact .inl ⟨rfl, by intro hh; cases hh⟩
      · cases h
    · exact (dead_spec hs hf h).elim
  | n + 1, .node q a b, fa, h, hf => by
    unfold trIn at h
    have both : ∀ r, (trIn T lv want n (.node q a b) (learnX T fuelD fa (.reg r) true) && trIn T lv want n (.node q a b) (learnX T fuelD fa (.reg r) false)) = true →
        (want = none ∧ ((Tree.node q a b).pickL ρ).1 ≠ .normal) ∨ (∃ outs, want = some outs ∧ ((Tree.node q a b).pickL ρ).1 = .normal ∧ psXs ((Tree.node q a b).pickL ρ).2 lv = some outs) := by
      intro r h
      simp only [Bool.and_eq_true] at h
      by_cases h1 : ρ r = 1
      · exact trIn_ok hs h.1 (learnX_spec hs fuelD hf (by show (ρ r == 1) = true; simpa using h1))
      · exact trIn_ok hs h.2 (learnX_spec hs fuelD hf (by show (ρ r == 1) = false; simpa using h1))
    split at h
    · rename_i hd
      have := decideX_spec hs hf (.reg q)
      rw [hd] at this
      have this : (ρ q == 1) = true := this
      unfold Tree.pickL
      rw [if_pos (by simpa using this)]
      exact trIn_ok hs h hf
    · rename_i hd
      have := decideX_spec hs hf (.reg q)
      rw [hd] at this
      have this : (ρ q == 1) = false := this
      unfold Tree.pickL
      rw [if_neg (by simpa using this)]
      exact trIn_ok hs h hf
    · exact both _ h
    · exact both _ h

theorem trEq_ok {T : Tab} (hs : Sat ρ T) {lv : List Ps} {env : List Int} (he : EnvOK ρ m env) (hlen : env.length = m.length) {t : Tree} : ∀ {lt : LT} {fa : Tr Bool}, trEq T m lv t lt fa = true → Facts ρ fa →
    (lt.go env = none ∧ (t.pickL ρ).1 ≠ .normal) ∨ (∃ outs, (t.pickL ρ).1 = .normal ∧ psXs (t.pickL ρ).2 lv = some outs ∧ lt.go env = some (outs.map (X.ev ρ)))
  | .stop, fa, h, hf => by
    unfold trEq at h
    rcases trIn_ok hs h hf with ⟨_, h1⟩ | ⟨outs, h1, _, _⟩
    · exact .inl ⟨rfl, h1⟩
    · cases h1
  | .next outs, fa, h, hf => by
    unfold trEq at h
    split at h
    · rename_i b hb
      rcases trIn_ok hs h hf with ⟨h1, _⟩ | ⟨outs', h1, h2, h3⟩
      · cases h1
      · cases h1
        refine .inr ⟨b, h2, h3, ?_⟩
        show some (outs.map (lev env)) = some _
        rw [locXs_lev he hb (by rw [hlen]; exact locXs_below hb)]
    · cases h
  | .node r a b, fa, h, hf => by
    unfold trEq at h
    split at h
    · rename_i x hx
      simp only [Bool.and_eq_true] at h
      have hr : r < env.length := by rw [hlen]; exact (List.getElem?_eq_some_iff.1 hx).1
      obtain ⟨z, hz, e⟩ := he r hr
      rw [hx] at hz; cases hz
      unfold LT.go
      rw [e]
      by_cases h1 : x.ev ρ = 1
      · rw [if_pos h1]
        exact trEq_ok hs he hlen h.1 (learnX_spec hs fuelD hf (by simpa using h1))
      · rw [if_neg h1]
        exact trEq_ok hs he hlen h.2 (learnX_spec hs fuelD hf (by simpa using h1))
    · cases h

theorem leafChk_ok {f0 : Nat} {hh : Hint} {G : St} {s q : Nat} : ∀ {t : Tree} {seen : Bool}, leafChk f0 hh G s q seen t = true → (seen = true → ρ q = 1) → (t.pickL ρ).1 = .normal →
    ρ q = 1 ∧ ∃ outs, psXs (t.pickL ρ).2 hh.lv = some outs ∧ matchSt f0 outs G (t.pickL ρ).2 = true ∧ outs[hh.ctr]? = some (.reg s)
  | .leaf .normal st, seen, h, hq, _ => by
    unfold leafChk at h
    simp only [Bool.and_eq_true] at h
    obtain ⟨h1, h2⟩ := h
    refine ⟨hq h1, ?_⟩
    split at h2
    · rename_i outs ho
      simp only [Bool.and_eq_true] at h2
      obtain ⟨h3, h4⟩ := h2
      split at h4
      · rename_i o hoo
        exact ⟨outs, ho, h3, by rw [hoo, X.beq_eq h4]⟩
      · cases h4
    · cases h2
  | .leaf (.leave id) st, seen, h, hq, hn => by cases hn
  | .leaf .ret st, seen, h, hq, hn => by cases hn
  | .node r a b, seen, h, hq, hn => by
    unfold leafChk at h
    simp only [Bool.and_eq_true] at h
    unfold Tree.pickL at hn ⊢
    by_cases hc : ρ r = 1
    · rw [if_pos hc] at hn ⊢
      refine leafChk_ok h.1 (fun hs => ?_) hn
      simp only [Bool.or_eq_true] at hs
      rcases hs with hs | hs
      · exact hq hs
      · rw [← Nat.eq_of_beq_eq_true hs]; exact hc
    · rw [if_neg hc] at hn ⊢
      exact leafChk_ok h.2 hq hn
end
end Go.Sx

namespace Go.Sx
open Go.RowKit

section
variable {ρ : Nat → Int}

theorem runDs_head {op : Nat → List Int → Int} : ∀ {ds : List D} {env : List Int}, 0 < env.length → (runDs op ds env).getD 0 0 = env.getD 0 0
  | [], _, _ => rfl
  | d :: ds, env, h => by
    unfold runDs
    rw [runDs_head (by simp)]
    cases env with
    | nil => cases h
    | cons a l => rfl

theorem envOK_self (m : List X) : EnvOK ρ m (m.map (X.ev ρ)) := by
  intro r hr
  have hr : r < m.length := by simpa using hr
  exact ⟨m[r], List.getElem?_eq_getElem hr, by rw [List.getD_eq_getElem?_getD, List.getElem?_map, List.getElem?_eq_getElem hr]; rfl⟩

theorem instI_spec : ∀ {ds : List D} {m m' : List X} {T T' : Tab}, instI ds m T = some (T', m') → Sat ρ T' → Sat ρ T ∧ m'.map (X.ev ρ) = runDs opF ds (m.map (X.ev ρ))
  | [], m, m', T, T', h, hs => by unfold instI at h; cases h; exact ⟨hs, rfl⟩
  | d :: ds, m, m', T, T', h, hs => by
    unfold instI at h
    split at h
    · rename_i a ha
      split at h
      · rename_i T1 y hy
        obtain ⟨s1, e1⟩ := instI_spec h hs
        obtain ⟨s0, e0⟩ := mk_spec hy s1
        refine ⟨s0, ?_⟩
        rw [e1]
        conv => rhs; unfold runDs
        rw [locXs_lev (envOK_self m) ha (by rw [List.length_map]; exact locXs_below ha), List.map_append, ← e0]
        rfl
      · cases h
    · cases h

/-- It is so for these numbers. -/
def ivSem (h : Hint) (env : List Int) : Prop := ∀ j b, (j, b) ∈ h.ib → ((runDs opF h.iv env).getD j 0 == 1) = b

theorem at_ev {m : List X} {j : Nat} {x : X} (h : m[j]? = some x) : (m.map (X.ev ρ)).getD j 0 = x.ev ρ := by
  rw [List.getD_eq_getElem?_getD, List.getElem?_map, h]; rfl

theorem ivYes_spec {T : Tab} (hs : Sat ρ T) {fa : Tr Bool} (hf : Facts ρ fa) {m : List X} : ∀ {l : List (Nat × Bool)}, ivYes T fa m l = true → ∀ j b, (j, b) ∈ l → ((m.map (X.ev ρ)).getD j 0 == 1) = b
  | [], _, _, _, hm => by cases hm
  | (q, c) :: l, h, j, b, hm => by
    unfold ivYes at h
    split at h
    · rename_i x hx
      split at h
      · rename_i c' hd
        simp only [Bool.and_eq_true, beq_iff_eq] at h
        rcases List.mem_cons.1 hm with e | hm
        · cases e
          rw [at_ev hx]
          have := decideX_spec hs hf x
          rw [hd] at this
          rw [← h.1]
          exact this
        · exact ivYes_spec hs hf h.2 j b hm
      · cases h
    · cases h

theorem ivPut_spec {T : Tab} (hs : Sat ρ T) {m : List X} : ∀ {l : List (Nat × Bool)} {fa fa' : Tr Bool}, ivPut T m l fa = some fa' → Facts ρ fa → (∀ j b, (j, b) ∈ l → ((m.map (X.ev ρ)).getD j 0 == 1) = b) → Facts ρ fa'
  | [], fa, fa', h, hf, _ => by unfold ivPut at h; cases h; exact hf
  | (q, c) :: l, fa, fa', h, hf, hm => by
    unfold ivPut at h
    split at h
    · rename_i x hx
      refine ivPut_spec hs h (learnX_spec hs fuelD hf ?_) fun j b hj => hm j b (List.mem_cons_of_mem _ hj)
      rw [← at_ev hx]
      exact hm q c List.mem_cons_self
    · cases h

theorem ivIn_spec {h : Hint} {xs : List X} {T T' : Tab} {fa : Tr Bool} (hi : ivIn h xs T fa = some T') (hs : Sat ρ T') : Sat ρ T ∧ (Facts ρ fa → ivSem h ((xs ++ h.st).map (X.ev ρ))) := by
  unfold ivIn at hi
  split at hi
  · rename_i hb
    cases hi
    refine ⟨hs, fun _ j b hm => ?_⟩
    rw [hb] at hm; cases hm
  · split at hi
    · rename_i T1 m hm
      split at hi
      · rename_i hy
        cases hi
        obtain ⟨s0, e⟩ := instI_spec hm hs
        refine ⟨s0, fun hf j b hj => ?_⟩
        rw [← e]
        exact ivYes_spec hs hf hy j b hj
      · cases hi
    · cases hi

theorem ivHead_spec {h : Hint} {xs : List X} {T T' : Tab} {fa fa' : Tr Bool} (hi : ivHead h xs T fa = some (T', fa')) (hs : Sat ρ T') :
    Sat ρ T ∧ (Facts ρ fa → ivSem h ((xs ++ h.st).map (X.ev ρ)) → Facts ρ fa') := by
  unfold ivHead at hi
  split at hi
  · cases hi
    exact ⟨hs, fun hf _ => hf⟩
  · split at hi
    · rename_i T1 m hm
      split at hi
      · rename_i fa1 hp
        cases hi
        obtain ⟨s0, e⟩ := instI_spec hm hs
        refine ⟨s0, fun hf hv => ivPut_spec hs hp hf fun j b hj => ?_⟩
        rw [e]
        exact hv j b hj
      · cases hi
    · cases hi

theorem ivT_spec {h : Hint} : ∀ {t : Tree} {T T' : Tab}, ivT h t T = some T' → Sat ρ T' →
    Sat ρ T ∧ ((t.pickL ρ).1 = .normal → Facts ρ (t.pickL ρ).2.fa → ∀ outs, psXs (t.pickL ρ).2 h.lv = some outs → ivSem h ((outs ++ h.st).map (X.ev ρ)))
  | .leaf e st, T, T', hi, hs => by
    unfold ivT at hi
    split at hi
    · rename_i st' e'
      cases e'
      split at hi
      · rename_i outs ho
        obtain ⟨s0, k⟩ := ivIn_spec hi hs
        refine ⟨s0, fun _ hf outs' ho' => ?_⟩
        have ho' : psXs st h.lv = some outs' := ho'
        rw [ho] at ho'; cases ho'
        exact k hf
      · cases hi
    · rename_i e' st' hne e''
      cases e''
      cases hi
      exact ⟨hs, fun hn => absurd hn hne⟩
    · rename_i e''
      cases e''
  | .node r a b, T, T', hi, hs => by
    unfold ivT at hi
    split at hi
    · rename_i T1 h1
      obtain ⟨s1, k2⟩ := ivT_spec hi hs
      obtain ⟨s0, k1⟩ := ivT_spec h1 s1
      refine ⟨s0, ?_⟩
      unfold Tree.pickL
      split
      · exact k1
      · exact k2
    · cases hi

/-! ### What an earlier loop has found -/
theorem ltStop_go {env : List Int} : ∀ {t : LT}, ltStop t = true → t.go env = none
  | .stop, _ => rfl
  | .next _, h => by cases h
  | .node r a b, h => by
    simp only [ltStop, Bool.and_eq_true] at h
    unfold LT.go
    split
    · exact ltStop_go h.1
    · exact ltStop_go h.2

theorem scanF_spec {T : Tab} (hs : Sat ρ T) {m : List X} : ∀ {t : LT} {fa : Tr Bool}, Facts ρ fa → t.go (m.map (X.ev ρ)) ≠ none → Facts ρ (scanF m T t fa)
  | .stop, fa, hf, _ => hf
  | .next _, fa, hf, _ => hf
  | .node r a b, fa, hf, hg => by
    unfold LT.go at hg
    unfold scanF
    split
    · rename_i x hx
      rw [at_ev hx] at hg
      split
      · rename_i ha hb
        rw [ltStop_go ha] at hg
        by_cases h1 : x.ev ρ = 1
        · rw [if_pos h1] at hg; exact absurd rfl hg
        · rw [if_neg h1] at hg
          exact scanF_spec hs (learnX_spec hs fuelD hf (by simpa using h1)) hg
      · rename_i ha hb
        rw [ltStop_go hb] at hg
        by_cases h1 : x.ev ρ = 1
        · rw [if_pos h1] at hg
          exact scanF_spec hs (learnX_spec hs fuelD hf (by simpa using h1)) hg
        · rw [if_neg h1] at hg; exact absurd rfl hg
      · exact hf
    · exact hf

theorem runDs_low {id : Nat} (hid : id ≤ progs.length) : ∀ {ds : List D} {env : List Int}, lowIds id ds = true → runDs (opP opB (progs.take id).reverse) ds env = runDs opF ds env
  | [], _, _ => rfl
  | d :: ds, env, h => by
    simp only [lowIds, Bool.and_eq_true] at h
    unfold runDs
    rw [opF_low h.1 hid _ (fun n a e => by rw [e]; exact ⟨_, rfl⟩), runDs_low hid h.2]

theorem scanOut_go {s : Nat} {env : List Int} : ∀ {t : LT} {out : List Int}, scanOut s t = true → t.go env = some out → out = [env.getD s 0]
  | .stop, _, _, h => by cases h
  | .next l, out, hs, h => by
    unfold scanOut at hs
    split at hs
    · cases ‹LT.next l = _›
    · rename_i r e
      cases e
      have := Nat.eq_of_beq_eq_true hs
      subst this
      cases h
      rfl
    · cases hs
    · cases ‹LT.next l = _›
  | .node r a b, out, hs, h => by
    simp only [scanOut, Bool.and_eq_true] at hs
    unfold LT.go at h
    split at h
    · exact scanOut_go hs.1 h
    · exact scanOut_go hs.2 h

theorem scan_some {step : List Int → Option (List Int)} (hstep : ∀ x out, step [x] = some out → out = [IntKind.i64.wrap (x + 1)]) {i : Int} (hi : i ≤ 9223372036854775806) :
    ∀ {n : Nat} {x : Int} {c : List Int}, 0 ≤ x → x ≤ i → itn step n [x] = some c → i < c.getD 0 0 → step [i] ≠ none
  | 0, x, c, _, hx, h, hc => by
    cases h
    have hc : i < x := hc
    omega
  | n + 1, x, c, h0, hx, h, hc => by
    unfold itn at h
    split at h
    · rename_i out ho
      by_cases e : x = i
      · subst e; rw [ho]; simp
      · have := hstep x out ho
        subst this
        have hw : IntKind.i64.wrap (x + 1) = x + 1 := Go.IntWalk.i64_in _ (by omega)
        rw [hw] at h
        exact scan_some hstep hi (by omega) (by omega) h hc
    · cases h

theorem scan_fin {step : List Int → Option (List Int)} (hstep : ∀ x out, step [x] = some out → out = [IntKind.i64.wrap (x + 1)]) {i : Int} (hi : i ≤ 9223372036854775806) (h0 : 0 ≤ i)
    (h : i < (fin step [0]).getD 0 0) : step [i] ≠ none := by
  by_cases hx : ∃ b n, itn step n [0] = some b ∧ step b = none
  · obtain ⟨b, n, h1, h2⟩ := hx
    rw [fin_of h1 h2] at h
    exact scan_some hstep hi (Int.le_refl 0) h0 h1 h
  · unfold fin at h
    rw [dif_neg hx] at h
    have h : i < 0 := h
    omega

theorem scanP_step {id : Nat} (hid : id ≤ progs.length) {p : Lit} {n : Nat} (h : scanP id p n = true) {s : List Int} (hn : s.length = n) :
    p.k = 1 ∧ lowIds id p.ds = true ∧ ∀ x out, p.step (opP opB (progs.take id).reverse) s [x] = some out → out = [IntKind.i64.wrap (x + 1)] := by
  unfold scanP at h
  split at h
  · rename_i q hq
    split at h
    · rename_i d hd
      simp only [Bool.and_eq_true] at h
      obtain ⟨⟨h1, h2⟩, h3, h4, h5⟩ := h
      have h1 := D.beq_eq h1
      have h2 : n < q := Nat.le_of_ble_eq_true h2
      refine ⟨Nat.eq_of_beq_eq_true h3, h5, fun x out ho => ?_⟩
      have ho : p.tr.go (runDs (opP opB (progs.take id).reverse) p.ds ([x] ++ s)) = some out := ho
      rw [scanOut_go h4 ho]
      obtain ⟨env', e1, _, e2⟩ := runDs_old (op := opP opB (progs.take id).reverse) (env := [x] ++ s) hd
      have hl : ([x] ++ s).length = n + 1 := by simp [hn]
      rw [hl, show n + 1 + (q - (n + 1)) = q by omega] at e2
      rw [e2, h1]
      have e0 := e1 0 (by omega)
      show [opP opB (progs.take id).reverse 31 [3, env'.getD 0 0, 1]] = _
      rw [e0, opP_base (by omega)]
      rfl
    · cases h
  · cases h

theorem scanOne_spec {i : X} {b e : Nat} {T T' : Tab} {fa fa' : Tr Bool} (h : scanOne i b T fa e = some (T', fa')) (hs : Sat ρ T') :
    Sat ρ T ∧ (Facts ρ fa → ρ b ≤ 9223372036854775807 → Facts ρ fa') := by
  unfold scanOne at h
  split at h
  case h_2 => cases h
  rename_i f id sts hd
  split at h
  case h_2 => cases h
  rename_i p q q0 q1 hp hq hq0 hq1
  split at h
  case h_2 => cases h
  rename_i fq fq0 fq1 hc
  split at h
  case h_2 => cases h
  rename_i T1 m hm
  cases h
  obtain ⟨s0, em⟩ := instI_spec hm hs
  refine ⟨s0, fun hf hb => scanF_spec hs hf ?_⟩
  simp only [Bool.and_eq_true] at hc
  obtain ⟨c1, c2⟩ := hc
  have c1 := Nat.eq_of_beq_eq_true c1
  subst c1
  have hid : id ≤ progs.length := by have := (List.getElem?_eq_some_iff.1 hp).1; omega
  obtain ⟨k1, k2, k3⟩ := scanP_step hid c2 (s := sts.map (X.ev ρ)) (by simp)
  have vq : ρ q = b2i (decide (ρ e < ρ b)) := s0 q _ (findReg_spec _ _ _ _ hq)
  have vq0 : ρ q0 = b2i (decide (i.ev ρ < 0)) := s0 q0 _ (findReg_spec _ _ _ _ hq0)
  have vq1 : ρ q1 = b2i (decide (i.ev ρ < ρ b)) := s0 q1 _ (findReg_spec _ _ _ _ hq1)
  have f1 := hf q _ fq
  rw [vq, b2i_eq] at f1
  have f1 := of_decide_eq_false f1
  have f2 := hf q0 _ fq0
  rw [vq0, b2i_eq] at f2
  have f2 := of_decide_eq_false f2
  have f3 := hf q1 _ fq1
  rw [vq1, b2i_eq] at f3
  have f3 := of_decide_eq_true f3
  have ve : ρ e = opF 70 ((id : Int) :: (0 : Int) :: (0 : Int) :: sts.map (X.ev ρ)) := s0 e _ hd
  rw [opF_prog hp] at ve
  have ve : ρ e = (fin (p.step (opP opB (progs.take id).reverse) (((0 : Int) :: sts.map (X.ev ρ)).drop p.k)) (((0 : Int) :: sts.map (X.ev ρ)).take p.k)).getD 0 0 := ve
  rw [k1] at ve
  have ve : ρ e = (fin (p.step (opP opB (progs.take id).reverse) (sts.map (X.ev ρ))) [0]).getD 0 0 := ve
  have := scan_fin k3 (i := i.ev ρ) (by omega) (by omega) (by rw [← ve]; omega)
  rw [em, List.map_cons]
  intro e1
  apply this
  show p.tr.go (runDs (opP opB (progs.take id).reverse) p.ds ([i.ev ρ] ++ sts.map (X.ev ρ))) = none
  rw [runDs_low hid k2]
  exact e1

theorem scans_spec {i : X} {b : Nat} : ∀ {l : List Nat} {T T' : Tab} {fa fa' : Tr Bool}, scans i b l T fa = some (T', fa') → Sat ρ T' → Sat ρ T ∧ (Facts ρ fa → ρ b ≤ 9223372036854775807 → Facts ρ fa')
  | [], T, T', fa, fa', h, hs => by unfold scans at h; cases h; exact ⟨hs, fun hf _ => hf⟩
  | e :: l, T, T', fa, fa', h, hs => by
    unfold scans at h
    split at h
    · rename_i T1 fa1 h1
      obtain ⟨s1, k2⟩ := scans_spec h hs
      obtain ⟨s0, k1⟩ := scanOne_spec h1 s1
      exact ⟨s0, fun hf hb => k2 (k1 hf hb) hb⟩
    · cases h
end

theorem scanRec_ok {P : Program} {ρ : Nat → Int} {rec : Code → Tab → St → Option (Tab × Tree)} (hrec : RecOK P ρ rec) (es : List Nat) (i L : X) : RecOK P ρ (scanRec rec es i L) := by
  intro c T st T' t h hs
  unfold scanRec at h
  split at h
  · exact hrec c T st T' t h hs
  · split at h
    · rename_i _ b nt fr nb bs fa hb
      split at h
      · rename_i T1 lt h1
        split at h
        · rename_i T2 fa2 h2
          split at h
          · rename_i T3 ta h3
            split at h
            · rename_i T4 tb h4
              cases h
              obtain ⟨s3, k4⟩ := hrec _ _ _ _ _ h4 hs
              obtain ⟨s2, k3⟩ := hrec _ _ _ _ _ h3 s3
              obtain ⟨s1, k2⟩ := scans_spec h2 s2
              obtain ⟨s0, v1⟩ := mk_spec h1 s1
              refine ⟨s0, fun w0 μ a w Q hw ht => ?_⟩
              have hbm : ρ b ≤ 9223372036854775807 := by
                rw [s0 b _ (findReg_spec _ _ _ _ hb)]
                show ((min (decE (L.ev ρ)).length 9223372036854775807 : Nat) : Int) ≤ _
                have := Nat.min_le_right (decE (L.ev ρ)).length 9223372036854775807
                omega
              unfold Tree.sat at ht
              by_cases hl : ρ lt = 1
              · rw [if_pos hl] at ht
                exact k3 w0 μ a w Q ⟨hw.defers, hw.fr, hw.wr, k2 (learnX_spec s1 fuelD hw.fa (by show (ρ lt == 1) = true; rw [hl]; rfl)) hbm⟩ ht
              · rw [if_neg hl] at ht
                exact k4 w0 μ a w Q ⟨hw.defers, hw.fr, hw.wr, learnX_spec s3 fuelD hw.fa (by show (ρ lt == 1) = false; simpa using hl)⟩ ht
            · cases h
          · cases h
        · cases h
      · cases h
    · cases h
end Go.Sx

namespace Go.Sx
open Go.RowKit

theorem look_spec {T : Tab} {f r : Nat} {a : List X} (h : look T f a = some r) : T.defs.get r = some ⟨f, a⟩ := findReg_spec _ _ _ _ h

theorem freshX_get : ∀ {k f0 j : Nat} {y : X}, (freshX f0 k)[j]? = some y → y = .reg (f0 + j) ∧ j < k
  | 0, _, _, _, h => by simp [freshX] at h
  | k + 1, f0, 0, y, h => by
    have : X.reg f0 = y := by simpa [freshX] using h
    exact ⟨this.symm, by omega⟩
  | k + 1, f0, j + 1, y, h => by
    obtain ⟨e, hk⟩ := freshX_get (k := k) (f0 := f0 + 1) (j := j) (by simpa [freshX] using h)
    exact ⟨by rw [e]; congr 1; omega, by omega⟩

theorem freshX_at : ∀ {k f0 j : Nat}, j < k → (freshX f0 k)[j]? = some (.reg (f0 + j))
  | 0, _, _, h => by omega
  | k + 1, f0, 0, _ => by simp [freshX]
  | k + 1, f0, j + 1, h => by
    have := freshX_at (k := k) (f0 := f0 + 1) (j := j) (by omega)
    rw [show f0 + (j + 1) = f0 + 1 + j by omega]
    simpa [freshX] using this

theorem freshX_len : ∀ (k f0 : Nat), (freshX f0 k).length = k
  | 0, _ => rfl
  | k + 1, f0 => by simp [freshX, freshX_len k]

section
variable {ρ : Nat → Int}

theorem addFact_spec {T T' : Tab} {x : X} {m : Int} {fa fa' : Tr Bool} (h : addFact x m T fa = some (T', fa')) (hs : Sat ρ T') : Sat ρ T ∧ (Facts ρ fa → m ≤ x.ev ρ → Facts ρ fa') := by
  unfold addFact at h
  split at h
  · rename_i T1 q hm
    cases h
    obtain ⟨s0, hz⟩ := mk_spec hm hs
    refine ⟨s0, fun hf hx => hf.set ?_⟩
    have hz : ρ q = b2i (decide (x.ev ρ < m)) := hz
    rw [hz, b2i_eq]
    exact decide_eq_false (by omega)
  · cases h

theorem addLess_spec {T T' : Tab} {x L : X} {fa fa' : Tr Bool} (h : addLess x L T fa = some (T', fa')) (hs : Sat ρ T') : Sat ρ T ∧ (Facts ρ fa → x.ev ρ < opF 62 [L.ev ρ] → Facts ρ fa') := by
  unfold addLess at h
  split at h
  · rename_i T1 b hb
    split at h
    · rename_i T2 q hm
      cases h
      obtain ⟨s1, hz⟩ := mk_spec hm hs
      obtain ⟨s0, hb'⟩ := mk_spec hb s1
      refine ⟨s0, fun hf hx => hf.set ?_⟩
      have hz : ρ q = b2i (decide (x.ev ρ < b.ev ρ)) := hz
      have hb' : b.ev ρ = opF 62 [L.ev ρ] := hb'
      rw [hz, b2i_eq, hb']
      exact decide_eq_true hx
    · cases h
  · cases h

theorem ctrF_spec {mode : Nat} {lo : Nat} {i L : X} {T T' : Tab} {fa fa' : Tr Bool} (h : ctrF mode lo i L T fa = some (T', fa')) (hs : Sat ρ T') :
    Sat ρ T ∧ (Facts ρ fa → (lo : Int) ≤ i.ev ρ → (mode ≠ 0 → 0 ≤ IntKind.i64.wrap (i.ev ρ + 1)) → (2 ≤ mode → IntKind.i64.wrap (i.ev ρ + 1) < opF 62 [L.ev ρ] ∧ i.ev ρ < opF 62 [L.ev ρ]) → Facts ρ fa') := by
  unfold ctrF at h
  split at h
  case h_2 => cases h
  rename_i T1 fa1 h1
  split at h
  case h_2 => cases h
  rename_i T2 fa2 h2
  split at h
  · cases h
    obtain ⟨s1, k2⟩ := addFact_spec h2 hs
    obtain ⟨s0, k1⟩ := addFact_spec h1 s1
    exact ⟨s0, fun hf hlo _ _ => k2 (k1 hf (by omega)) hlo⟩
  · rename_i m
    split at h
    case h_2 => cases h
    rename_i T3 s h3
    split at h
    case h_2 => cases h
    rename_i T4 fa4 h4
    split at h
    · cases h
      obtain ⟨s3, k4⟩ := addFact_spec h4 hs
      obtain ⟨s2, k3⟩ := mk_spec h3 s3
      obtain ⟨s1, k2⟩ := addFact_spec h2 s2
      obtain ⟨s0, k1⟩ := addFact_spec h1 s1
      refine ⟨s0, fun hf hlo hm _ => k4 (k2 (k1 hf (by omega)) hlo) ?_⟩
      rw [k3]
      exact hm (by omega)
    · split at h
      case h_2 => cases h
      rename_i T5 fa5 h5
      obtain ⟨s5, k6⟩ := addLess_spec h hs
      obtain ⟨s4, k5⟩ := addLess_spec h5 s5
      obtain ⟨s3, k4⟩ := addFact_spec h4 s4
      obtain ⟨s2, k3⟩ := mk_spec h3 s3
      obtain ⟨s1, k2⟩ := addFact_spec h2 s2
      obtain ⟨s0, k1⟩ := addFact_spec h1 s1
      have e : s.ev ρ = IntKind.i64.wrap (i.ev ρ + 1) := k3
      refine ⟨s0, fun hf hlo hm hl => k6 (k5 (k4 (k2 (k1 hf (by omega)) hlo) ?_) ?_) (hl (by omega)).2⟩
      · rw [e]; exact hm (by omega)
      · rw [e]; exact (hl (by omega)).1

theorem defsF_spec {id f0 : Nat} {as : Nat → List X} : ∀ {k : Nat} {T : Tab}, f0 + k ≤ maxReg → (∀ j, j < k → T.defs.get (f0 + j) = none) → Sat ρ (defsF id f0 as k T) →
    Sat ρ T ∧ ∀ j, j < k → ρ (f0 + j) = opF 70 ((id : Int) :: (j : Int) :: (as j).map (X.ev ρ)) := by
  intro k
  have other : ∀ (k : Nat) (T : Tab) (r : Nat), f0 + k ≤ maxReg → (∀ j, j < k → r ≠ f0 + j) → (defsF id f0 as k T).defs.get r = T.defs.get r := by
    intro k
    induction k with
    | zero => intro T r _ _; rfl
    | succ k ih =>
      intro T r hk hr
      unfold defsF
      simp only
      have hb : f0 + k + 1 < 2 ^ fuelT := by unfold maxReg at hk; unfold fuelT; omega
      rw [Tr.get_set_ne _ _ _ _ _ hb (hr k (by omega))]
      exact ih T r (by omega) (fun j hj => hr j (by omega))
  intro T hk hn hs
  refine ⟨fun r d hd => hs r d ?_, fun j hj => ?_⟩
  · rw [other k T r hk (fun j hj e => by rw [e, hn j hj] at hd; cases hd)]
    exact hd
  · have at_ : ∀ (k : Nat) (T : Tab), f0 + k ≤ maxReg → j < k → (defsF id f0 as k T).defs.get (f0 + j) = some ⟨70, .lit id :: .lit j :: as j⟩ := by
      intro k
      induction k with
      | zero => intro T _ h; omega
      | succ k ih =>
        intro T hk hj
        unfold defsF
        simp only
        have hb : f0 + k + 1 < 2 ^ fuelT := by unfold maxReg at hk; unfold fuelT; omega
        by_cases e : j = k
        · subst e; exact Tr.get_set_same _ _ _ _ hb
        · rw [Tr.get_set_ne _ _ _ _ _ hb (by omega)]
          exact ih T (by omega) (by omega)
    have := hs _ _ (at_ k T hk hj)
    rw [this]; rfl

theorem map_fresh {ρ' : Nat → Int} {f0 : Nat} {v : List Int} : ∀ {k : Nat}, v.length = k → (∀ j, j < k → ρ' (f0 + j) = v.getD j 0) → (freshX f0 k).map (X.ev ρ') = v := by
  intro k hk h
  apply List.ext_getElem?
  intro j
  rw [List.getElem?_map]
  by_cases hj : j < k
  · rw [freshX_at hj]
    have := h j hj
    rw [List.getD_eq_getElem?_getD] at this
    have hs : v[j]? = some (v[j]'(by omega)) := List.getElem?_eq_getElem (by omega)
    rw [hs] at this ⊢
    show some (ρ' (f0 + j)) = _
    rw [this]; rfl
  · rw [List.getElem?_eq_none (by rw [freshX_len]; omega), List.getElem?_eq_none (by omega)]; rfl

theorem allBelow_ev {ρ ρ' : Nat → Int} {n : Nat} (h : ∀ r, r < n → ρ' r = ρ r) {l : List X} (hb : allBelow n l = true) : l.map (X.ev ρ') = l.map (X.ev ρ) := ev_congr (fun s hs => h s hs) hb

theorem below_ev {ρ ρ' : Nat → Int} {n : Nat} (h : ∀ r, r < n → ρ' r = ρ r) {x : X} (hb : X.below n x = true) : x.ev ρ' = x.ev ρ := by
  cases x with
  | lit n => rfl
  | reg r => exact h r (Nat.le_of_ble_eq_true hb)
end

section
variable {P : Program} {ρ : Nat → Int}

theorem idxX_spec {l : Nat} : ∀ {m : List X} {n i : Nat}, idxX l n m = some i → n ≤ i ∧ m[i - n]? = some (.reg l)
  | [], _, _, h => by cases h
  | x :: m, n, i, h => by
    unfold idxX at h
    split at h
    · rename_i hb
      cases h
      rw [Nat.sub_self]
      exact ⟨Nat.le_refl _, by rw [X.beq_eq hb]; rfl⟩
    · obtain ⟨h1, h2⟩ := idxX_spec h
      refine ⟨by omega, ?_⟩
      rw [show i - n = (i - (n + 1)) + 1 by omega]
      simpa using h2

theorem hasLs_spec {w0 : Base} {μ : Mu} {st : St} {a : Act} {w : World} (hw : StRel ρ w0 μ st a w) {L : X} : ∀ {l : List (Nat × SV)}, hasLs st L l = true → ∃ els, L.ev ρ = encE els ∧ els.length ≤ maxLen
  | [], h => by cases h
  | (t, _) :: l, h => by
    unfold hasLs at h
    rw [Bool.or_eq_true] at h
    rcases h with h | h
    · split at h
      · rename_i v hv
        unfold isLs at h
        split at h
        · rename_i q ks x
          obtain ⟨p, off, els, _, _, hL, hd⟩ := hw.fr.2 t _ hv
          refine ⟨els, by rw [← X.beq_eq h]; exact hL, ?_⟩
          rcases hd with ⟨h0, _⟩ | ⟨c, _, h1, h2⟩ <;> omega
        · cases h
      · cases h
    · exact hasLs_spec hw h

theorem argsF_ok {p : Lit} {h : Hint} (hp : progs[h.id]? = some p) {T : Tab} (hs : Sat ρ T) {st : St} {w0 : Base} {μ : Mu} {a : Act} {w : World} (hw : StRel ρ w0 μ st a w) {inits : List X} (hlen : inits.length = p.k) (hctr : h.ctr < p.k)
    (hini : (match inits[h.ctr]? with | some (.lit (.ofNat n)) => Nat.beq n h.lo | _ => false) = true) {j : Nat} (hj : j < p.k) :
    opF 70 ((h.id : Int) :: (j : Int) :: (argsF T p h inits st j).map (X.ev ρ)) = opF 70 ((h.id : Int) :: (j : Int) :: (inits ++ h.st).map (X.ev ρ)) := by
  unfold argsF
  cases has : shiftA T p h inits st with
  | none => rfl
  | some as =>
  simp only
  cases hjb : Nat.beq j h.ctr with
  | true => rfl
  | false =>
  have hj : j ≠ h.ctr := fun e => by rw [e, Nat.beq_refl] at hjb; cases hjb
  unfold shiftA at has
  split at has
  case h_2 => cases has
  rename_i l hmode hlo hls
  split at has
  case h_2 => cases has
  rename_i d i hd hi
  split at has
  case h_2 => cases has
  rename_i L hda
  split at has
  case h_2 => cases has
  rename_i n hn
  split at has
  case h_2 => cases has
  rename_i hc
  cases has
  simp only [Bool.and_eq_true] at hc
  obtain ⟨c1, c2, c3, c4⟩ := hc
  obtain ⟨els, he, hel⟩ := hasLs_spec hw c2
  have hpos := posN_spec hs hw.fa c3
  have hnv : ρ n = opF 62 [L.ev ρ] := hs n _ (look_spec hn)
  have hlv : ρ l = opF 64 [L.ev ρ] := by rw [hs l d hd, D.beq_eq c1]; rfl
  have hlv : ρ l = encE (els.drop 1) := by rw [hlv]; show encE ((decE (L.ev ρ)).drop 1) = _; rw [he, decE_enc]
  have hpos : 0 < els.length := by
    have h1 : (0 : Int) < ρ n := hpos
    rw [hnv] at h1
    have h1 : (0 : Int) < ((min (decE (L.ev ρ)).length 9223372036854775807 : Nat) : Int) := h1
    rw [he, decE_enc] at h1
    omega
  obtain ⟨_, hi⟩ := idxX_spec hi
  rw [Nat.sub_zero] at hi
  have hil : i < h.st.length := (List.getElem?_eq_some_iff.1 hi).1
  have hz : (inits.map (X.ev ρ)).getD h.ctr 0 = 0 := by
    split at hini
    · rename_i m hm
      have := Nat.eq_of_beq_eq_true hini
      rw [hlo] at this
      subst this
      rw [List.getD_eq_getElem?_getD, List.getElem?_map, hm]; rfl
    · cases hini
  rw [opF_prog hp, opF_prog hp, List.map_append, List.map_append]
  refine (shift_sem (fun f l hf => opP_base hf _ _) c4 ⟨by simp [hlen], by simp [hlen], by rw [hz]; exact Int.le_refl _, fun k => ?_⟩ (by simp) (by simp) ?_ ?_ hj).symm
  · rw [hz]
    simp only [List.getD_eq_getElem?_getD, List.getElem?_map, List.getElem?_set]
    by_cases e : k = h.ctr
    · subst e
      rw [if_pos rfl, if_pos rfl, if_pos (by omega)]; rfl
    · rw [if_neg e, if_neg (fun e' => e e'.symm)]
  · have e1 : (h.st.map (X.ev ρ)).getD (p.k + i - p.k) 0 = ρ l := by
      rw [show p.k + i - p.k = i by omega, List.getD_eq_getElem?_getD, List.getElem?_map, hi]; rfl
    have e2 : ((h.st.set i L).map (X.ev ρ)).getD (p.k + i - p.k) 0 = L.ev ρ := by
      rw [show p.k + i - p.k = i by omega, List.getD_eq_getElem?_getD, List.getElem?_map, List.getElem?_set, if_pos rfl, if_pos hil]; rfl
    rw [e1, e2, hlv, he, decE_enc, decE_enc]
    refine ⟨rfl, hpos, ?_⟩
    unfold maxLen at hel
    unfold M63
    omega
  · intro m hm
    simp only [List.getD_eq_getElem?_getD, List.getElem?_map, List.getElem?_set]
    rw [if_neg (by omega)]

theorem loopZ_sound {rec : Code → Tab → St → Option (Tab × Tree)} (hrec : ∀ ρ, RecOK P ρ rec) {p : Lit} {h : Hint} (hp : progs[h.id]? = some p) {c : Code} {T T' : Tab} {st : St} {t' : Tree}
    {inits : List X} (hin : psXs st h.lv = some inits) (hl : loopZ rec p h c inits T st = some (T', t')) (hs : Sat ρ T') :
    Sat ρ T ∧ ((Facts ρ st.fa → ivSem h ((inits ++ h.st).map (X.ev ρ))) → ∀ w0 μ a w Q, StRel ρ w0 μ st a w → t'.sat ρ (Leafs ρ w0 Q μ) → (Code.loop c).wp P Q a w) := by
  unfold loopZ at hl
  split at hl
  rename_i nt fr nb bs fa0 _
  split at hl
  case h_2 => cases hl
  rename_i T2 fa2 hct
  split at hl
  case h_2 => cases hl
  rename_i T3 fa3 hiv
  split at hl
  case h_2 => cases hl
  rename_i T4 t hr
  split at hl
  case h_2 => cases hl
  rename_i T1 hit
  split at hl
  case h_2 => cases hl
  rename_i hchk
  split at hl
  case h_2 => cases hl
  rename_i tp hpr
  cases hl
  generalize hG : (⟨nt, fr, nb, bs, fa3⟩ : St) = G at hr hchk
  have hGfa : G.fa = fa3 := by rw [← hG]
  have hrec : ∀ ρ, RecOK P ρ (scanRec rec h.sc (.reg (T.n + h.ctr)) ((lsOf ⟨nt, fr, nb, bs, st.fa⟩ h.ls).getD (.lit 0))) := fun ρ => scanRec_ok (hrec ρ) _ _ _
  unfold loopChk at hchk
  split at hchk
  case h_2 => cases hchk
  rename_i L hL
  split at hchk
  case h_2 => cases hchk
  rename_i b s hb hsr
  split at hchk
  case h_2 => cases hchk
  rename_i q hq
  simp only [Bool.and_eq_true] at hchk
  obtain ⟨⟨cL, ck, cctr, clo, cmax⟩, ⟨ctab, cst, cnb, cnb2, cfa⟩, cini, ⟨cm1, cm2, cleaf⟩, clen, cds, ctr⟩ := hchk
  have ck := Nat.eq_of_beq_eq_true ck
  have cctr : h.ctr < p.k := Nat.le_of_ble_eq_true cctr
  have clo := Nat.le_of_ble_eq_true clo
  have cmax := Nat.le_of_ble_eq_true cmax
  have cnb := Nat.le_of_ble_eq_true cnb
  have cnb2 := Nat.eq_of_beq_eq_true cnb2
  have clen := Nat.eq_of_beq_eq_true clen
  have hlb := look_spec hb
  have hls := look_spec hsr
  rw [← ck] at hs
  have hfree : ∀ j, j < p.k → T1.defs.get (T.n + j) = none := by
    intro j hj
    cases hg : T1.defs.get (T.n + j) with
    | none => rfl
    | some d =>
      have := Tr.chk_spec _ _ _ ctab _ d hg
      simp only [Nat.one_mul, Nat.add_zero, Bool.and_eq_true, Bool.or_eq_true] at this
      rcases this.1 with h1 | h1
      · have : T.n + j < T.n := Nat.le_of_ble_eq_true h1
        omega
      · have := Nat.le_of_ble_eq_true h1; omega
  obtain ⟨s1, hval0⟩ := defsF_spec cmax hfree hs
  have toT4 : ∀ ρ', Sat ρ' T1 → Sat ρ' T4 := fun ρ' h => (ivT_spec hit h).1
  have s3 := (hrec ρ _ _ _ _ _ hr (toT4 ρ s1)).1
  have s2 := (ivHead_spec hiv s3).1
  have s0 : Sat ρ T := (ctrF_spec hct s2).1
  refine ⟨s0, fun hiv0 w0 μ a w Q hw hL0 => ?_⟩
  have hval : ∀ j, j < p.k → ρ (T.n + j) = opF 70 ((h.id : Int) :: (j : Int) :: (inits ++ h.st).map (X.ev ρ)) := fun j hj => by
    rw [hval0 j hj]
    exact argsF_ok hp s0 hw ((psXs_length hin).trans ck.symm) cctr cini hj
  -- The step.
  have hid : h.id ≤ progs.length := by have := (List.getElem?_eq_some_iff.1 hp).1; omega
  let S := h.st.map (X.ev ρ)
  let op := opP opB (progs.take h.id).reverse
  let step := p.step op S
  let vec : (Nat → Int) → List Int := fun ρ' => (freshX T.n p.k).map (X.ev ρ')
  have veclen : ∀ ρ', (vec ρ').length = p.k := fun ρ' => by simp [vec, freshX_len]
  have key1 : ∀ ρ', (∀ r, r < T.n → ρ' r = ρ r) → Sat ρ' T1 →
      (step (vec ρ') = none ∧ (t.pickL ρ').1 ≠ .normal) ∨ (∃ outs, (t.pickL ρ').1 = .normal ∧ psXs (t.pickL ρ').2 h.lv = some outs ∧ step (vec ρ') = some (outs.map (X.ev ρ'))) := by
    intro ρ' hA hs'
    have elen : (vec ρ' ++ S).length = p.k + h.st.length := by simp [vec, S, freshX_len]
    have he : EnvOK ρ' (freshX T.n p.k ++ h.st ++ h.mp) (vec ρ' ++ S) := by
      intro r hr
      rw [elen] at hr
      by_cases hrk : r < p.k
      · refine ⟨.reg (T.n + r), ?_, ?_⟩
        · rw [List.append_assoc, List.getElem?_append_left (by rw [freshX_len]; exact hrk), freshX_at hrk]
        · rw [List.getD_eq_getElem?_getD, List.getElem?_append_left (by rw [veclen]; exact hrk)]
          show (((freshX T.n p.k).map (X.ev ρ'))[r]?).getD 0 = _
          rw [List.getElem?_map, freshX_at hrk]; rfl
      · have hr2 : r - p.k < h.st.length := by omega
        refine ⟨h.st[r - p.k], ?_, ?_⟩
        · rw [List.append_assoc, List.getElem?_append_right (by rw [freshX_len]; omega), freshX_len, List.getElem?_append_left hr2, List.getElem?_eq_getElem hr2]
        · rw [List.getD_eq_getElem?_getD, List.getElem?_append_right (by rw [veclen]; omega), veclen]
          have : S = h.st.map (X.ev ρ') := (allBelow_ev hA cst).symm
          rw [this, List.getElem?_map, List.getElem?_eq_getElem hr2]; rfl
    obtain ⟨k1, k2⟩ := runDs_ok (ds := p.ds) hs' hid (by rw [elen]; exact cds) he
    rw [Bool.or_eq_true] at ctr
    rcases ctr with ctr | ctr
    · exact trChk_ok k1 (by rw [k2, elen]; exact clen) ctr
    · exact trEq_ok hs' k1 (by rw [k2, elen]; exact clen) ctr (fun r b h => by cases h)
  -- The counter.
  let i := T.n + h.ctr
  have hB : ∀ ρ', (∀ r, r < T.n → ρ' r = ρ r) → Sat ρ' T1 → ρ' b = ρ b := by
    intro ρ' hA hs'
    rw [hs' b _ hlb, s1 b _ hlb]
    show opF 62 [L.ev ρ'] = opF 62 [L.ev ρ]
    rw [below_ev hA cL]
  let Inv : Int → Prop := fun x => (h.lo : Int) ≤ x ∧ (h.mode = 1 → x = h.lo ∨ x < ρ b) ∧ (2 ≤ h.mode → x + 1 < ρ b)
  have nowrap : ∀ x, Inv x → ρ b ≤ 9223372036854775807 → h.mode ≠ 0 → IntKind.i64.wrap (x + 1) = x + 1 := by
    intro x hx hbm hm
    obtain ⟨h1, h2, h3⟩ := hx
    by_cases hm1 : h.mode = 1
    · rcases h2 hm1 with h2 | h2 <;> exact Go.IntWalk.i64_in _ (by omega)
    · have := h3 (by omega)
      exact Go.IntWalk.i64_in _ (by omega)
  have eqb : ∀ ρ', (∀ r, r < T.n → ρ' r = ρ r) → opF 62 [L.ev ρ'] = ρ b := by
    intro ρ' hA
    rw [s1 b _ hlb]
    show opF 62 [L.ev ρ'] = opF 62 [L.ev ρ]
    rw [below_ev hA cL]
  have oldf : ∀ ρ', (∀ r, r < T.n → ρ' r = ρ r) → Facts ρ' st.fa := by
    intro ρ' hA r v hv
    have hlt := Tr.chk_spec _ _ _ cfa r v hv
    simp only [Nat.one_mul, Nat.add_zero] at hlt
    rw [hA r (Nat.le_of_ble_eq_true hlt)]
    exact hw.fa r v hv
  have eS : ∀ ρ', (∀ r, r < T.n → ρ' r = ρ r) → h.st.map (X.ev ρ') = S := fun ρ' hA => allBelow_ev hA cst
  have facts : ∀ ρ', (∀ r, r < T.n → ρ' r = ρ r) → Sat ρ' T1 → Inv (ρ' i) → ρ b ≤ 9223372036854775807 → ivSem h (vec ρ' ++ S) → Facts ρ' G.fa := by
    intro ρ' hA hs' hi hbm hiv1
    have s3' := (hrec ρ' _ _ _ _ _ hr (toT4 ρ' hs')).1
    obtain ⟨s2', k2⟩ := ivHead_spec hiv s3'
    rw [hGfa]
    refine k2 ?_ (by rw [List.map_append, eS ρ' hA, ← ck]; exact hiv1)
    refine (ctrF_spec hct s2').2 (oldf ρ' hA) hi.1 (fun hm => ?_) (fun hm => ?_)
    · show 0 ≤ IntKind.i64.wrap (ρ' i + 1)
      rw [nowrap _ hi hbm hm]
      have := hi.1; omega
    · have hLe : ((lsOf (⟨nt, fr, nb, bs, st.fa⟩ : St) h.ls).getD (.lit 0)) = L := by
        have : lsOf (⟨nt, fr, nb, bs, st.fa⟩ : St) h.ls = lsOf G h.ls := by rw [← hG]; rfl
        rw [this, hL]; rfl
      rw [hLe, eqb ρ' hA]
      show IntKind.i64.wrap (ρ' i + 1) < ρ b ∧ ρ' i < ρ b
      rw [nowrap _ hi hbm (by omega)]
      have := hi.2.2 hm
      omega
  have key2 : ∀ ρ', (∀ r, r < T.n → ρ' r = ρ r) → Sat ρ' T1 → Inv (ρ' i) → ρ b ≤ 9223372036854775807 → (t.pickL ρ').1 = .normal →
      ∃ outs, psXs (t.pickL ρ').2 h.lv = some outs ∧ matchSt T.n outs G (t.pickL ρ').2 = true ∧ ρ' i < ρ b ∧ (outs.map (X.ev ρ')).getD h.ctr 0 = ρ' i + 1 ∧ Inv (ρ' i + 1) := by
    intro ρ' hA hs' hi hbm hn
    obtain ⟨hq1, outs, ho, hm, hc⟩ := leafChk_ok (ρ := ρ') cleaf (fun e => by cases e) hn
    have es : ρ' s = IntKind.i64.wrap (ρ' i + 1) := hs' s _ hls
    have hlt : ρ' i < ρ b ∧ ρ' s = ρ' i + 1 ∧ Inv (ρ' i + 1) := by
      unfold testOf at hq
      split at hq
      · rename_i hmode
        have eq : ρ' q = b2i (decide (ρ' i < ρ' b)) := hs' q _ (look_spec hq)
        rw [hB ρ' hA hs'] at eq
        have hlt : ρ' i < ρ b := by
          rw [eq] at hq1
          by_cases hd : ρ' i < ρ b
          · exact hd
          · rw [decide_eq_false hd] at hq1; cases hq1
        have := hi.1
        exact ⟨hlt, by rw [es]; exact Go.IntWalk.i64_in _ (by omega), by omega, (fun e => by rw [hmode] at e; cases e), (fun e => by omega)⟩
      · rename_i hmode
        have eq : ρ' q = b2i (decide (ρ' s < ρ' b)) := hs' q _ (look_spec hq)
        rw [hB ρ' hA hs', es, nowrap _ hi hbm (by omega)] at eq
        have hlt : ρ' i + 1 < ρ b := by
          rw [eq] at hq1
          by_cases hd : ρ' i + 1 < ρ b
          · exact hd
          · rw [decide_eq_false hd] at hq1; cases hq1
        have := hi.1
        exact ⟨by omega, by rw [es, nowrap _ hi hbm (by omega)], by omega, fun _ => .inr hlt, fun e => by omega⟩
      · rename_i hm0 hm1
        have hm0 : h.mode ≠ 0 := fun e => hm0 e
        have hm1 : h.mode ≠ 1 := fun e => hm1 e
        split at hq
        case h_2 => cases hq
        rename_i f cs x la two htq hla htwo
        split at hq
        case h_2 => cases hq
        rename_i cl hcl
        split at hq
        case h_2 => cases hq
        rename_i ql e hql hcs
        split at hq
        case h_2 => cases hq
        rename_i hfql hftwo hcond
        cases hq
        simp only [Bool.and_eq_true] at hcond
        obtain ⟨c1, c2, c3, c4⟩ := hcond
        have c1 := Nat.eq_of_beq_eq_true c1
        subst c1
        have c2 := D.beq_eq c2
        subst c2
        have o1 := oldf ρ' hA ql false hfql
        have o2 := oldf ρ' hA two false hftwo
        have vtwo : ρ' two = b2i (decide (ρ' b < 2)) := hs' two _ (look_spec htwo)
        rw [vtwo, b2i_eq, hB ρ' hA hs'] at o2
        have o2 := of_decide_eq_false o2
        have vla : ρ' la = IntKind.i64.wrap (ρ' b - 1) := hs' la _ (look_spec hla)
        rw [hB ρ' hA hs', Go.IntWalk.i64_in _ (by omega)] at vla
        have vcl : ρ' cl = opF 63 [L.ev ρ', ρ' la, 0] := hs' cl _ (look_spec hcl)
        have vcs : ρ' cs = opF 63 [L.ev ρ', ρ' s, 0] := hs' cs _ hcs
        have vql : ρ' ql = opF 10 [ρ' cl, x.ev ρ'] := hs' ql _ (look_spec hql)
        have vtq : ρ' h.tq = opF 10 [ρ' cs, x.ev ρ'] := hs' h.tq _ htq
        have es' : ρ' s = ρ' i + 1 := by rw [es, nowrap _ hi hbm hm0]
        have hin := hi.2.2 (by omega)
        have hne : ρ' i + 1 ≠ ρ b - 1 := by
          intro e1
          have : ρ' cs = ρ' cl := by rw [vcs, vcl, es', vla, e1]
          rw [vtq, this, ← vql] at hq1
          rw [hq1] at o1
          cases o1
        have := hi.1
        exact ⟨by omega, es', by omega, fun e => absurd e hm1, fun _ => by omega⟩
    refine ⟨outs, ho, hm, hlt.1, ?_, hlt.2.2⟩
    rw [List.getD_eq_getElem?_getD, List.getElem?_map, hc]
    exact hlt.2.1
  have agree0 : ∀ r d, r < T.n → T1.defs.get r = some d → ρ r = d.ev ρ := fun r d _ hd => s1 r d hd
  have term : ρ b ≤ 9223372036854775807 → ∀ (n : Nat) (v : List Int), v.length = p.k → Inv (v.getD h.ctr 0) → (ρ b - v.getD h.ctr 0).toNat < n → ∃ c m, itn step m v = some c ∧ step c = none ∧ c.length = p.k := by
    intro hbm n
    induction n with
    | zero => intro v _ _ hlt; omega
    | succ n ih =>
      intro v hv hi hlt
      obtain ⟨ρ', hA, hV, hs'⟩ := close ctab agree0 v
      have ev : vec ρ' = v := map_fresh hv hV
      have ei : ρ' i = v.getD h.ctr 0 := hV _ cctr
      rcases key1 ρ' hA hs' with ⟨hstop, _⟩ | ⟨outs, hn, ho, hst⟩
      · exact ⟨v, 0, rfl, by rw [← ev]; exact hstop, hv⟩
      · obtain ⟨outs', ho', _, hl1, hl2, hl3⟩ := key2 ρ' hA hs' (by rw [ei]; exact hi) hbm hn
        rw [ho] at ho'; cases ho'
        obtain ⟨c', m, h1, h2, h3⟩ := ih (outs.map (X.ev ρ')) (by rw [List.length_map, psXs_length ho]; exact ck.symm) (by rw [hl2]; exact hl3) (by rw [hl2, ei]; rw [ei] at hl1; omega)
        refine ⟨c', m + 1, ?_, h2, h3⟩
        unfold itn
        rw [ev] at hst
        rw [hst]
        exact h1
  -- The rounds.
  have main : ρ b ≤ 9223372036854775807 → ∀ (n : Nat) (ρ' : Nat → Int) (μ' : Mu) (a : Act) (w : World), (∀ r, r < T.n → ρ' r = ρ r) → Sat ρ' T1 → Inv (ρ' i) → ivSem h (vec ρ' ++ S) → Sub μ μ' → StRel ρ' w0 μ' G a w →
      fin step (vec ρ') = vec ρ → (ρ b - ρ' i).toNat < n → Code.rounds P c Q n a w := by
    intro hbm n
    induction n with
    | zero => intro ρ' μ' a w _ _ _ _ _ _ _ hlt; omega
    | succ n ih =>
      intro ρ' μ' a w hA hs' hi hvi hsub hw' hfin hlt
      rw [rounds_succ]
      rcases key1 ρ' hA hs' with ⟨hstop, hnn⟩ | ⟨outs, hn, ho, hst⟩
      · have evv : vec ρ' = vec ρ := by rw [← hfin, fin_stop hstop]
        have efr : ∀ j, j < p.k → ρ (T.n + j) = ρ' (T.n + j) := by
          intro j hj
          have := congrArg (fun l => l[j]?) evv
          simp only [vec, List.getElem?_map, freshX_at hj] at this
          exact (Option.some.inj this).symm
        have hwρ : StRel ρ w0 (restr0 G.nb μ') G a w := by
          refine matchSt_rel (ρ := ρ') (ρ' := ρ) (fun r hr => (hA r hr).symm) (fun j y hy => ?_) cm2 cnb (facts ρ (fun _ _ => rfl) s1 (by rw [efr _ cctr]; exact hi) hbm (by rw [← evv]; exact hvi)) hw'
          obtain ⟨e, hj⟩ := freshX_get hy
          rw [e]; exact efr j hj
        refine (hrec ρ _ _ _ _ _ hr (toT4 ρ s1)).2 w0 _ a w _ hwρ ?_
        rw [sat_pickL]
        have hnn' : (t.pickL ρ).1 ≠ .normal := by
          rcases key1 ρ (fun _ _ => rfl) s1 with ⟨_, h1⟩ | ⟨outs, _, _, h1⟩
          · exact h1
          · rw [← evv, hstop] at h1; cases h1
        have hlf := prune_sat hpr hL0 hnn'
        intro μ'' a' w' hp' hw''
        have hsub2 : Sub μ μ'' := hsub.trans ((restr0_sub hw'.wr (Sub.refl _)).trans hp')
        have := hlf μ'' a' w' hsub2 hw''
        revert this
        cases he : (t.pickL ρ).1 with
        | normal => exact absurd he hnn'
        | leave id => exact fun h => h
        | ret => exact fun h => h
      · refine (hrec ρ' _ _ _ _ _ hr (toT4 ρ' hs')).2 w0 μ' a w _ hw' ?_
        rw [sat_pickL]
        obtain ⟨outs', ho', hm, hl1, hl2, hl3⟩ := key2 ρ' hA hs' hi hbm hn
        rw [ho] at ho'; cases ho'
        intro μ'' a' w' hp' hw''
        rw [hn]
        show Code.rounds P c Q n a' w'
        have hvl : (outs.map (X.ev ρ')).length = p.k := by rw [List.length_map, psXs_length ho]; exact ck.symm
        obtain ⟨ρ'', hA2, hV2, hs2⟩ := close ctab agree0 (outs.map (X.ev ρ'))
        have ev2 : vec ρ'' = outs.map (X.ev ρ') := map_fresh hvl hV2
        have ei2 : ρ'' i = ρ' i + 1 := by rw [← hl2]; exact hV2 _ cctr
        have hvi2 : ivSem h (vec ρ'' ++ S) := by
          have := (ivT_spec hit hs').2 hn hw''.fa outs ho
          rw [List.map_append, eS ρ' hA] at this
          rw [ev2]
          exact this
        have hw2 : StRel ρ'' w0 (restr0 G.nb μ'') G a' w' := by
          refine matchSt_rel (ρ := ρ') (ρ' := ρ'') (fun r hr => (hA2 r hr).trans (hA r hr).symm) (fun j y hy => ?_) hm cnb (facts ρ'' hA2 hs2 (by rw [ei2]; exact hl3) hbm hvi2) hw''
          have hj : j < p.k := by have := (List.getElem?_eq_some_iff.1 hy).1; rw [psXs_length ho, ← ck] at this; exact this
          rw [hV2 j hj, List.getD_eq_getElem?_getD, List.getElem?_map, hy]; rfl
        refine ih ρ'' _ a' w' hA2 hs2 (by rw [ei2]; exact hl3) hvi2 (hsub.trans (restr0_sub hw'.wr hp')) hw2 ?_ (by rw [ei2]; omega)
        rw [ev2, ← hfin]
        obtain ⟨c', m, h1, h2, _⟩ := term hbm _ (outs.map (X.ev ρ')) hvl (by rw [hl2]; exact hl3) (Nat.lt_succ_self _)
        exact (fin_next hst ⟨c', m, h1, h2⟩).symm
  -- The way in.
  have hil : inits.length = p.k := by rw [psXs_length hin]; exact ck.symm
  have hvl : (inits.map (X.ev ρ)).length = p.k := by rw [List.length_map]; exact hil
  obtain ⟨ρ0, hA0, hV0, hs0⟩ := close ctab agree0 (inits.map (X.ev ρ))
  have ev0 : vec ρ0 = inits.map (X.ev ρ) := map_fresh hvl hV0
  have ei0 : ρ0 i = h.lo := by
    have := hV0 _ cctr
    show ρ0 (T.n + h.ctr) = _
    rw [this, List.getD_eq_getElem?_getD, List.getElem?_map]
    split at cini
    · rename_i n hn
      rw [hn]
      show ((n : Nat) : Int) = _
      rw [Nat.eq_of_beq_eq_true cini]
    · cases cini
  have hbm : ρ b ≤ 9223372036854775807 := by
    unfold lsOf at hL
    split at hL
    · rename_i q' ks L' hg
      cases hL
      have hm := cm1
      unfold matchSt at hm
      simp only [Bool.and_eq_true] at hm
      have := Tr.chk_spec _ _ _ hm.2.1 _ _ hg
      simp only [Nat.one_mul, Nat.add_zero] at this
      split at this
      · rename_i l hl
        have hr := svMatch_rel (ρ := ρ) (ρ' := ρ0) (μ := μ) (fun r hr => hA0 r hr) (fun j y hy => by
          have hj : j < p.k := by have := (List.getElem?_eq_some_iff.1 hy).1; omega
          rw [hV0 j hj, List.getD_eq_getElem?_getD, List.getElem?_map, hy]; rfl) this (hw.fr.slot _ _ hl)
        obtain ⟨pp, off, els, _, _, hLe, hdr⟩ := hr
        have eb : ρ b = (els.length : Nat) := by
          rw [s1 b _ hlb]
          show opF 62 [L.ev ρ] = _
          rw [← below_ev hA0 cL, hLe]
          show ((min (decE (encE els)).length 9223372036854775807 : Nat) : Int) = ((els.length : Nat) : Int)
          have : els.length ≤ maxLen := by rcases hdr with ⟨h0, _⟩ | ⟨c, _, h1, h2⟩ <;> omega
          unfold maxLen at this
          rw [decE_enc, Nat.min_eq_left (by omega)]
        have : els.length ≤ maxLen := by rcases hdr with ⟨h0, _⟩ | ⟨c, _, h1, h2⟩ <;> omega
        rw [eb]; unfold maxLen at this; omega
      · cases this
    · cases hL
  have hi0 : Inv (ρ0 i) := by
    rw [ei0]
    refine ⟨Int.le_refl _, fun _ => .inl rfl, fun hm => ?_⟩
    unfold testOf at hq
    split at hq
    · omega
    · omega
    · split at hq
      case h_2 => cases hq
      rename_i f cs x la two htq hla htwo
      split at hq
      case h_2 => cases hq
      rename_i cl hcl
      split at hq
      case h_2 => cases hq
      rename_i ql e hql hcs
      split at hq
      case h_2 => cases hq
      rename_i hfql hftwo hcond
      simp only [Bool.and_eq_true] at hcond
      have c4 := Nat.eq_of_beq_eq_true hcond.2.2.2
      have o2 := hw.fa two false hftwo
      have vtwo : ρ two = b2i (decide (ρ b < 2)) := s1 two _ (look_spec htwo)
      rw [vtwo, b2i_eq] at o2
      have o2 := of_decide_eq_false o2
      rw [c4]
      omega
  have hv0 : ivSem h (vec ρ0 ++ S) := by
    have := hiv0 hw.fa
    rw [List.map_append] at this
    rw [ev0]
    exact this
  have hf0 := facts ρ0 hA0 hs0 hi0 hbm hv0
  have hw0 : StRel ρ0 w0 (restr0 G.nb μ) G a w := by
    refine matchSt_rel (ρ := ρ) (ρ' := ρ0) hA0 (fun j y hy => ?_) cm1 cnb hf0 hw
    have hj : j < p.k := by have := (List.getElem?_eq_some_iff.1 hy).1; omega
    rw [hV0 j hj, List.getD_eq_getElem?_getD, List.getElem?_map, hy]; rfl
  have hfin : fin step (vec ρ0) = vec ρ := by
    rw [ev0]
    obtain ⟨c', m, h1, h2, h3⟩ := term hbm _ (inits.map (X.ev ρ)) hvl (by
      have := hi0
      rw [show ρ0 i = (inits.map (X.ev ρ)).getD h.ctr 0 from hV0 _ cctr] at this
      exact this) (Nat.lt_succ_self _)
    have hf := fin_of h1 h2
    have hlen : (fin step (inits.map (X.ev ρ))).length = p.k := by rw [hf]; exact h3
    refine (map_fresh hlen (fun j hj => ?_)).symm
    rw [hval j hj, opF_prog hp]
    show ((fin (p.step op (((inits ++ h.st).map (X.ev ρ)).drop p.k)) (((inits ++ h.st).map (X.ev ρ)).take p.k)).getD ((j : Int)).toNat 0) = _
    have e1 : ((inits ++ h.st).map (X.ev ρ)).take p.k = inits.map (X.ev ρ) := by
      rw [List.map_append, List.take_append_of_le_length (by rw [hvl]; exact Nat.le_refl _), List.take_of_length_le (by rw [hvl]; exact Nat.le_refl _)]
    have e2 : ((inits ++ h.st).map (X.ev ρ)).drop p.k = S := by
      rw [List.map_append, List.drop_append_of_le_length (by rw [hvl]; exact Nat.le_refl _), List.drop_of_length_le (by rw [hvl]; exact Nat.le_refl _)]; rfl
    rw [e1, e2, Int.toNat_natCast]
  exact wp_loop_rounds _ (main hbm ((ρ b - ρ0 i).toNat + 1) ρ0 _ a w hA0 hs0 hi0 hv0 (restr0_sub (by rw [cnb2]; exact hw.wr) (Sub.refl _)) hw0 hfin (Nat.lt_succ_self _))

theorem loopX_sound {rec : Code → Tab → St → Option (Tab × Tree)} (hrec : ∀ ρ, RecOK P ρ rec) {p : Lit} {h : Hint} (hp : progs[h.id]? = some p) {c : Code} {T T' : Tab} {st : St} {t' : Tree}
    (hl : loopX rec p h c T st = some (T', t')) (hs : Sat ρ T') : Sat ρ T ∧ ∀ w0 μ a w Q, StRel ρ w0 μ st a w → t'.sat ρ (Leafs ρ w0 Q μ) → (Code.loop c).wp P Q a w := by
  unfold loopX at hl
  split at hl
  case h_2 => cases hl
  rename_i inits hin
  split at hl
  case h_2 => cases hl
  rename_i T0 hi
  obtain ⟨s0, k⟩ := loopZ_sound hrec hp hin hl hs
  obtain ⟨s, kf⟩ := ivIn_spec hi s0
  exact ⟨s, k kf⟩
end
end Go.Sx

namespace Go.Sx
noncomputable section
open Go.RowKit

def firstReg : Code → Nat
  | .region id _ _ => id
  | .seq a _ => firstReg a
  | .cond _ a _ => firstReg a
  | .block _ c => firstReg c
  | .loop c => firstReg c
  | _ => 0

section
variable (Γ : Ctx) (hs : Nat → Option Hint) (mks : Nat → Option (List Nat)) (rec : Code → Tab → St → Option (Tab × Tree))

def notNeg (T : Tab) (fa : Tr Bool) (s : Nat) : Bool :=
  match factOn T fa 15 [.reg s, .lit 0] with
  | some b => !b
  | none => false

/-- A number less a length. -/
def lessLen (T : Tab) (s : Nat) : Bool :=
  match T.defs.get s with
  | some d =>
    match d.a with
    | [_, _, .reg m] =>
      match T.defs.get m with
      | some e => d.beq ⟨32, [.lit 3, .lit 1048576, .reg m]⟩ && (match e.a with
        | [L] => e.beq ⟨62, [L]⟩
        | _ => false)
      | none => false
    | _ => false
  | none => false

def shortScan (T : Tab) (fa : Tr Bool) (n : Nat) : List Nat → Bool
  | [] => false
  | r :: l =>
    (match T.defs.get r with
      | some d => match d.a with
        | [_, .reg s, _] => d.beq ⟨32, [.lit 3, .reg s, .reg n]⟩ && (notNeg T fa r && (notNeg T fa s && lessLen T s))
        | _ => false
      | none => false) || shortScan T fa n l

/-- Is the list known to have no more than 1048576 elements? -/
def shortL (T : Tab) (fa : Tr Bool) (L : X) : Bool :=
  match look T 62 [L] with
  | some n =>
    (match look T 32 [.lit 3, .lit 1048576, .reg n] with
    | some s => notNeg T fa s
    | none => false) || shortScan T fa n ((T.idx.get n).getD [])
  | none => false

/-- A call that makes a list like another. -/
def makeX (T : Tab) (st : St) (o : Oper) : Option (St × SV) :=
  match o.op with
  | .call c =>
    match calleeS st c with
    | some (g, [.w (.one (.ls _ ks L))]) =>
      match mks g with
      | some ks' =>
        match natsBeq ks ks' && shortL T st.fa L, st with
        | true, ⟨nt, fr, nb, bs, fa⟩ => some (⟨nt, fr, nb + 1, bs, fa⟩, .c (.ls nb ks L))
        | false, _ => none
      | none => none
    | _ => none
  | _ => none

def runX (o : Oper) (fin : Tab → St → SV → Option (Tab × Tree)) (T : Tab) (st : St) : Option (Tab × Tree) :=
  match listS Γ T st o with
  | some (T1, v) => fin T1 st v
  | none =>
    match makeX mks T st o with
    | some (st1, v) => fin T st1 v
    | none =>
      match sliceX Γ T st o with
      | some (T1, (st1, v)) => fin T1 st1 v
      | none => runS Γ rec o fin T st

def guardedX (ops : Array Oper) (o : Oper) (fin : Tab → St → SV → Option (Tab × Tree)) (T : Tab) (st : St) : Option (Tab × Tree) :=
  match o.guard with
  | none => runX Γ mks rec o fin T st
  | some (j, want) =>
    match guardS ops st j with
    | some x => decS x (fun b T st => match b == want with
        | true => runX Γ mks rec o fin T st
        | false => fin T st (.tup [])) 1000 T st
    | none =>
      match undefG ops st j with
      | true => fin T st (.tup [])
      | false => none

def opsLX (ops : Array Oper) : List Oper → Tab → St → Option (Tab × Tree)
  | [], T, st => some (T, .leaf .normal st)
  | o :: rest, T, st => guardedX Γ mks rec ops o (fun T st v =>
      match st.put o.dst v with
      | some st => opsLX ops rest T st
      | none => none) T st

def opsX (ops : Array Oper) (l : List Oper) (T : Tab) (st : St) : Option (Tab × Tree) := openI (allSlots l) (opsLX Γ mks rec ops l) 2 T st

/-- What holds of A holds of M. -/
def leSt (A M : St) : Bool :=
  Nat.beq M.nt A.nt && (Nat.ble A.nb M.nb &&
  (Tr.chk (fun t s => match A.fr.get t with | some s' => svBeq s s' | none => false) 1 0 M.fr &&
  (Tr.chk (fun i B => match A.bs.get i with | some C => blkBeq B C | none => false) 1 0 M.bs &&
   Tr.chk (fun r b => match A.fa.get r with | some c => b == c | none => false) 1 0 M.fa)))

/-- One operation, and what follows. -/
def stepP (ops : Array Oper) (next : Array Bool → Tab → St → Option (Tab × Tree)) (i : Nat) (listed : Array Bool) (T : Tab) (st : St) : Option (Tab × Tree) :=
  match ops[i]? with
  | some o => guardedX Γ mks rec ops o (fun T st v =>
      match st.put o.dst v with
      | some st => next (listed.setIfInBounds i true) T st
      | none => none) T st
  | none => none

/-- The other operations that may come first: they lead to the same. -/
def permJ (ops : Array Oper) (next : Array Bool → Tab → St → Option (Tab × Tree)) (listed : Array Bool) (st stF : St) : List Nat → Tab → Option (Tab × Tree)
  | [], T => some (T, .leaf .normal stF)
  | j :: l, T =>
    match stepP Γ mks rec ops next j listed T st with
    | some (T1, .leaf .normal stA) =>
      match leSt stA stF with
      | true => permJ ops next listed st stF l T1
      | false => none
    | _ => none

/-- A region that draws its order: each order on its own. -/
def permS (ops : Array Oper) : Nat → Array Bool → Tab → St → Option (Tab × Tree)
  | 0, listed, T, st =>
    match Region.ready .any ops listed with
    | [] => some (T, .leaf .normal st)
    | _ :: _ => none
  | n + 1, listed, T, st =>
    match Region.ready .any ops listed with
    | [] => some (T, .leaf .normal st)
    | i :: rest =>
      match stepP Γ mks rec ops (permS ops n) i listed T st with
      | some (T1, .leaf .normal stF) => permJ Γ mks rec ops (permS ops n) listed st stF rest T1
      | _ => none

def drawX (ops : Array Oper) (T : Tab) (st : St) : Option (Tab × Tree) :=
  openI (allSlots ops.toList) (fun T st => match drawGone Γ rec ops T st with
    | some r => some r
    | none => match Nat.ble ops.size 8 with
      | true => permS Γ mks rec ops ops.size (Array.replicate ops.size false) T st
      | false => none) 2 T st

def codeX : Code → Tab → St → Option (Tab × Tree)
  | .skip, T, st => some (T, .leaf .normal st)
  | .region _ ops false, T, st => opsX Γ mks rec ops ops.toList T st
  | .region _ ops true, T, st => drawX Γ mks rec ops T st
  | .seq a b, T, st =>
    match rec a T st with
    | some (T1, t) => t.bind (fun T e s => match e with
      | .normal => rec b T s
      | e => some (T, .leaf e s)) T1
    | none => none
  | .cond c a b, T, st =>
    match st.eval c with
    | .w (.one (.bool x)) => condS x (rec a) (rec b) T st
    | _ => none
  | .block id c, T, st =>
    match rec c T st with
    | some (T1, t) => tidyO st.fa (t.bind (fun T e s => match e with
      | .leave j => match Nat.beq j id with
        | true => some (T, .leaf .normal s)
        | false => some (T, .leaf (.leave j) s)
      | e => some (T, .leaf e s)) T1)
    | none => none
  | .loop c, T, st =>
    match hs (firstReg c) with
    | some h => match progs[h.id]? with
      | some p => match loopX rec p h c T st with
        | some r => some r
        | none => loopS rec c 400 T st
      | none => loopS rec c 400 T st
    | none => loopS rec c 400 T st
  | .exit id, T, st => some (T, .leaf (.leave id) st)
  | .label _, T, st => some (T, .leaf .normal st)
  | .ret, T, st => some (T, .leaf .ret st)
  | _, _, _ => none
end

def execX (Γ : Ctx) (hs : Nat → Option Hint) (mks : Nat → Option (List Nat)) : Nat → Code → Tab → St → Option (Tab × Tree)
  | 0 => fun _ _ _ => none
  | n + 1 => codeX Γ hs mks (execX Γ hs mks n)

section
variable {P : Program} {ρ : Nat → Int} {Γ : Ctx}

/-- WHAT A MAKER HANDS BACK: a list of its own that holds what the other holds. -/
def MakeOK (P : Program) (f : Nat) (ks : List Nat) : Prop :=
  ∀ (w : World) (b off : Nat) (els : List (List Int)) (v : Value), LstAt w.heap (b, encP off ks els) → Hdr b off els.length v → els.length ≤ 1048576 →
    CallOK P f #[v] w fun x w' => ∃ b', Hdr b' 0 els.length x ∧ LstAt w'.heap (b', encP 0 ks els) ∧ w.heap.size ≤ b' ∧ Below w.heap.size w w'

theorem notNeg_spec {T : Tab} (hs : Sat ρ T) {fa : Tr Bool} (hf : Facts ρ fa) {s : Nat} (h : notNeg T fa s = true) : 0 ≤ ρ s := by
  unfold notNeg at h
  split at h
  · rename_i b hb
    have hb0 : b = false := by simpa using h
    subst hb0
    have e3 := factOn_spec hs hf hb
    have e3 : (b2i (decide (ρ s < 0)) == 1) = false := e3
    rw [b2i_eq] at e3
    have e3 := of_decide_eq_false e3
    omega
  · cases h

theorem len_range {ρ : Nat → Int} (l : Int) : 0 ≤ opF 62 [l] ∧ opF 62 [l] ≤ 9223372036854775807 := by
  show 0 ≤ ((min (decE l).length 9223372036854775807 : Nat) : Int) ∧ ((min (decE l).length 9223372036854775807 : Nat) : Int) ≤ 9223372036854775807
  have := Nat.min_le_right (decE l).length 9223372036854775807
  omega

theorem lessLen_spec {T : Tab} (hs : Sat ρ T) {s : Nat} (h : lessLen T s = true) : ∃ m, 0 ≤ m ∧ m ≤ 9223372036854775807 ∧ ρ s = IntKind.i64.wrap (1048576 - m) := by
  unfold lessLen at h
  split at h
  · rename_i d hd
    split at h
    · rename_i x y m _
      split at h
      · rename_i e he
        simp only [Bool.and_eq_true] at h
        obtain ⟨h1, h2⟩ := h
        split at h2
        · rename_i L _
          have e1 := hs s d hd
          rw [D.beq_eq h1] at e1
          have e2 := hs m e he
          rw [D.beq_eq h2] at e2
          have e2 : ρ m = opF 62 [L.ev ρ] := e2
          have := len_range (ρ := ρ) (L.ev ρ)
          exact ⟨ρ m, by rw [e2]; exact this.1, by rw [e2]; exact this.2, e1⟩
        · cases h2
      · cases h
    · cases h
  · cases h

theorem shortScan_spec {T : Tab} (hs : Sat ρ T) {fa : Tr Bool} (hf : Facts ρ fa) {n : Nat} (hn : 0 ≤ ρ n ∧ ρ n ≤ 9223372036854775807) : ∀ {l : List Nat}, shortScan T fa n l = true → ρ n ≤ 1048576
  | [], h => by cases h
  | r :: l, h => by
    unfold shortScan at h
    rw [Bool.or_eq_true] at h
    rcases h with h | h
    · split at h
      · rename_i d hd
        split at h
        · rename_i x s y _
          simp only [Bool.and_eq_true] at h
          obtain ⟨h1, h2, h3, h4⟩ := h
          have e1 := hs r d hd
          rw [D.beq_eq h1] at e1
          have e1 : ρ r = IntKind.i64.wrap (ρ s - ρ n) := e1
          have r0 := notNeg_spec hs hf h2
          have s0 := notNeg_spec hs hf h3
          obtain ⟨m, m0, m1, e2⟩ := lessLen_spec hs h4
          rw [Go.IntWalk.i64_in _ (by omega)] at e2
          rw [e1, Go.IntWalk.i64_in _ (by omega)] at r0
          omega
        · cases h
      · cases h
    · exact shortScan_spec hs hf hn h

theorem shortL_spec {T : Tab} (hs : Sat ρ T) {fa : Tr Bool} (hf : Facts ρ fa) {L : X} (h : shortL T fa L = true) {els : List (List Int)} (he : L.ev ρ = encE els) (hl : els.length ≤ maxLen) : els.length ≤ 1048576 := by
  unfold shortL at h
  split at h
  case h_2 => cases h
  rename_i n hn
  have e1 : ρ n = (els.length : Nat) := by
    rw [hs n _ (look_spec hn)]
    show ((min (decE (L.ev ρ)).length 9223372036854775807 : Nat) : Int) = ((els.length : Nat) : Int)
    unfold maxLen at hl
    rw [he, decE_enc, Nat.min_eq_left (by omega)]
  unfold maxLen at hl
  rw [Bool.or_eq_true] at h
  rcases h with h | h
  · split at h
    · rename_i s hs'
      have e2 : ρ s = IntKind.i64.wrap (1048576 - ρ n) := hs s _ (look_spec hs')
      have e3 := notNeg_spec hs hf h
      rw [e2, e1, Go.IntWalk.i64_in _ (by omega)] at e3
      omega
    · cases h
  · have := shortScan_spec hs hf (n := n) (by omega) h
    omega

theorem makeX_sound {mks : Nat → Option (List Nat)} (hmk : ∀ g ks, mks g = some ks → MakeOK P g ks) {T : Tab} {st st1 : St} {o : Oper} {v : SV} (h : makeX mks T st o = some (st1, v)) (hs : Sat ρ T)
    {w0 : Base} {μ : Mu} {a : Act} {w : World} (hw : StRel ρ w0 μ st a w) {next : Act → World → Prop} {Q : Exit → Act → World → Prop}
    (hnext : ∀ μ' x w2, Sub μ μ' → StRel ρ w0 μ' st1 a w2 → v.rel ρ μ' x → next (a.put o.dst x) w2) : o.wp P a w next Q := by
  unfold makeX at h
  split at h
  case h_2 => cases h
  rename_i c ho
  split at h
  case h_2 => cases h
  rename_i g q ks L hcal
  split at h
  case h_2 => cases h
  rename_i ks' hm
  split at h
  case h_2 => cases h
  rename_i nt fr nb bs fa hcond
  cases h
  simp only [Bool.and_eq_true] at hcond
  have ek := natsBeq_eq hcond.1
  subst ek
  obtain ⟨vs, e1, e2⟩ := calleeS_spec (ρ := ρ) hcal hw o.type
  have hex : execOp a.eval o = callFunc g vs := by rw [← e1]; simp only [execOp, ho]
  obtain ⟨xv, hxv, hrel⟩ : ∃ xv, vs = #[xv] ∧ (SC.ls q ks L).rel ρ μ xv := by
    clear e1 hex
    obtain ⟨l⟩ := vs
    match l, e2 with
    | [x], e2 => exact ⟨x, rfl, e2.1⟩
  obtain ⟨p, off, els, hp, he, hL, hd⟩ := hrel
  have hlen : els.length ≤ maxLen := by rcases hd with ⟨h0, _⟩ | ⟨c, _, h1, h2⟩ <;> omega
  have hsh := shortL_spec hs hw.fa hcond.2 hL hlen
  obtain ⟨hlst, _⟩ := hw.wr.lst (LB + q) p (Nat.le_add_right _ _) hp
  have hpp : p = (p.1, encP off ks els) := by rw [← he]
  rw [hpp] at hlst
  have hc := hmk g ks hm w p.1 off els xv hlst hd hsh
  have fin : ∀ x w', (∃ b', Hdr b' 0 els.length x ∧ LstAt w'.heap (b', encP 0 ks els) ∧ w.heap.size ≤ b' ∧ Below w.heap.size w w') → next (a.put o.dst x) w' := by
    rintro x w' ⟨b', h1, h2, h3, h4⟩
    have hwr := hw.wr.after h4
    have hfree : μ (LB + nb) = none := hw.wr.ltop nb (Nat.le_refl _)
    have hsub : Sub μ (fun i => if i = LB + nb then some (b', encP 0 ks els) else μ i) := by
      intro i r hi
      simp only
      split
      · rename_i e; rw [e, hfree] at hi; cases hi
      · exact hi
    have hblk : ∀ i B r, bs.get i = some B → i ≠ LB + nb → μ i = some r → r.1 ≠ b' := by
      intro i B r hi _ hr
      obtain ⟨r', cs, hr', hh, _⟩ := hw.wr.blk i B hi
      rw [hr] at hr'; cases hr'
      have := (Array.getElem?_eq_some_iff.1 hh).1
      omega
    have hne : ∀ i B, bs.get i = some B → i ≠ LB + nb := by
      intro i B hi e
      obtain ⟨r', cs, hr', _⟩ := hw.wr.blk i B hi
      rw [e, hfree] at hr'; cases hr'
    refine hnext _ x w' hsub ⟨hw.defers, hw.fr.mono hsub, ⟨hwr.kept, ?_, ?_, ?_, ?_, ?_, ?_⟩, hw.fa⟩ ⟨(b', encP 0 ks els), 0, els, if_pos rfl, rfl, hL, h1⟩
    · intro i j r s Bi Bj hi hj hr hs e
      rw [if_neg (hne i Bi hi)] at hr
      rw [if_neg (hne j Bj hj)] at hs
      exact hwr.inj i j r s Bi Bj hi hj hr hs e
    · intro i hi hi2
      have hi : nb + 1 ≤ i := hi
      rw [if_neg (by omega)]
      exact hw.wr.top i (Nat.le_trans (Nat.le_succ _) hi) hi2
    · intro i B r hi hr
      rw [if_neg (hne i B hi)] at hr
      exact hwr.lo i B r hi hr
    · intro i B hi
      obtain ⟨r, cs, hr, hh, hsz, hb⟩ := hwr.blk i B hi
      exact ⟨r, cs, hsub _ _ hr, hh, hsz, hb.mono hsub⟩
    · intro i r hi hr
      by_cases e : i = LB + nb
      · rw [if_pos e] at hr
        cases hr
        refine ⟨h2, fun _ j B s hj hs => ?_⟩
        rw [if_neg (hne j B hj)] at hs
        exact hblk j B s hj (hne j B hj) hs
      · rw [if_neg e] at hr
        obtain ⟨l1, l2⟩ := hwr.lst i r hi hr
        refine ⟨l1, fun hf j B s hj hs => ?_⟩
        rw [if_neg (hne j B hj)] at hs
        exact l2 hf j B s hj hs
    · intro i hi
      have hi : nb + 1 ≤ i := hi
      rw [if_neg (by omega)]
      exact hw.wr.ltop i (Nat.le_trans (Nat.le_succ _) hi)
  unfold Oper.wp
  rw [hex, hxv]
  unfold CallOK at hc
  generalize (callFunc g #[xv]).run P w = r at hc
  unfold Oper.upon
  split at hc
  · exact fin _ _ hc
  · simp only
    refine hc.mono ?_
    rintro e w2 ⟨v, rfl, hv⟩
    exact fin _ _ hv
  · exact hc.elim

theorem runX_sound (hΓ : Γ.ok P) (hsum : ∀ f s, Γ.summ f = some s → SummOK P f s) {mks : Nat → Option (List Nat)} (hmk : ∀ g ks, mks g = some ks → MakeOK P g ks) {rec : Code → Tab → St → Option (Tab × Tree)} (hrec : RecOK P ρ rec) {o : Oper}
    {fin : Tab → St → SV → Option (Tab × Tree)} (hk : ∀ T st v T' t, fin T st v = some (T', t) → Sat ρ T' → Sat ρ T)
    {T T' : Tab} {st : St} {t : Tree} (h : runX Γ mks rec o fin T st = some (T', t)) (hs : Sat ρ T') :
    Sat ρ T ∧ ∀ w0 μ a w (next : Act → World → Prop) Q, StRel ρ w0 μ st a w → t.sat ρ (Leafs ρ w0 Q μ) →
      (∀ μ' st2 x sv w2 T1 T2 t2, Sub μ μ' → StRel ρ w0 μ' st2 a w2 → sv.rel ρ μ' x → fin T1 st2 sv = some (T2, t2) → Sat ρ T2 → t2.sat ρ (Leafs ρ w0 Q μ) → next (a.put o.dst x) w2) →
      o.wp P a w next Q := by
  unfold runX at h
  split at h
  · rename_i T1 v hl
    have s1 := hk _ _ _ _ _ h hs
    obtain ⟨s0, hy⟩ := listS_sound hΓ hl s1
    refine ⟨s0, fun w0 μ a w next Q hw hL hnext => ?_⟩
    exact (hy w0 μ a w hw).wp fun x n hv => hnext μ st x v _ _ _ _ (Sub.refl _) (hw.drewN n) hv h hs hL
  · split at h
    · rename_i st1 v hm
      refine ⟨hk _ _ _ _ _ h hs, fun w0 μ a w next Q hw hL hnext => ?_⟩
      have s0 := hk _ _ _ _ _ h hs
      exact makeX_sound hmk hm s0 hw fun μ' x w2 hp hw2 hv => hnext μ' st1 x v w2 _ _ _ hp hw2 hv h hs hL
    · split at h
      · rename_i T1 st1 v hm
        have s1 := hk _ _ _ _ _ h hs
        obtain ⟨s0, k⟩ := sliceX_sound hΓ hm s1
        refine ⟨s0, fun w0 μ a w next Q hw hL hnext => ?_⟩
        exact k hw fun μ' x w2 hp hw2 hv => hnext μ' st1 x v w2 _ _ _ hp hw2 hv h hs hL
      · exact runS_sound hΓ hsum hrec hk h hs

theorem guardedX_sound (hΓ : Γ.ok P) (hsum : ∀ f s, Γ.summ f = some s → SummOK P f s) {mks : Nat → Option (List Nat)} (hmk : ∀ g ks, mks g = some ks → MakeOK P g ks) {rec : Code → Tab → St → Option (Tab × Tree)} (hrec : RecOK P ρ rec) {ops : Array Oper} {o : Oper}
    {fin : Tab → St → SV → Option (Tab × Tree)} (hk : ∀ T st v T' t, fin T st v = some (T', t) → Sat ρ T' → Sat ρ T)
    {T T' : Tab} {st : St} {t : Tree} (h : guardedX Γ mks rec ops o fin T st = some (T', t)) (hs : Sat ρ T') :
    Sat ρ T ∧ ∀ w0 μ a w (next : Act → World → Prop) Q, StRel ρ w0 μ st a w → t.sat ρ (Leafs ρ w0 Q μ) →
      (∀ μ' st2 x sv w2 T1 T2 t2, Sub μ μ' → StRel ρ w0 μ' st2 a w2 → sv.rel ρ μ' x → fin T1 st2 sv = some (T2, t2) → Sat ρ T2 → t2.sat ρ (Leafs ρ w0 Q μ) → next (a.put o.dst x) w2) →
      if Region.wanted o (yielded ops a.tmps) then o.wp P a w next Q else next (a.put o.dst undef) w := by
  unfold guardedX at h
  split at h
  · rename_i hg
    obtain ⟨s0, hr⟩ := runX_sound hΓ hsum hmk hrec hk h hs
    refine ⟨s0, fun w0 μ a w next Q hw hL hnext => ?_⟩
    have hwant : Region.wanted o (yielded ops a.tmps) = true := by unfold Region.wanted; rw [hg]
    rw [if_pos hwant]
    exact hr w0 μ a w next Q hw hL hnext
  · rename_i j want hg
    split at h
    · rename_i x hx
      have wants : ∀ {w0 μ a w}, StRel ρ w0 μ st a w → Region.wanted o (yielded ops a.tmps) = ((x.ev ρ == 1) == want) := by
        intro w0 μ a w hw
        unfold Region.wanted; rw [hg]; simp only
        rw [guardS_spec hx hw]
        cases (x.ev ρ == 1) <;> cases want <;> rfl
      have hgs : ∀ (b : Bool) (T : Tab) (st : St) (T' : Tab) (t : Tree), (match b == want with
          | true => runX Γ mks rec o fin T st
          | false => fin T st (.tup [])) = some (T', t) → Sat ρ T' → Sat ρ T := by
        intro b T st T' t h1 hs'
        split at h1
        · exact (runX_sound hΓ hsum hmk hrec hk h1 hs').1
        · exact hk _ _ _ _ _ h1 hs'
      obtain ⟨s0, hb⟩ := decS_spec hgs 1000 h hs
      refine ⟨s0, fun w0 μ a w next Q hw hL hnext => ?_⟩
      obtain ⟨b, T1, T2, t2, st1, hρ, hw1, h1, hs2, hL2⟩ := hb w0 μ a w _ hw hL
      split at h1
      · rename_i hbw
        rw [if_pos (by rw [wants hw, hρ]; exact hbw)]
        exact (runX_sound hΓ hsum hmk hrec hk h1 hs2).2 w0 μ a w next Q hw1 hL2 hnext
      · rename_i hbw
        rw [if_neg (by rw [wants hw, hρ, hbw]; exact Bool.false_ne_true)]
        exact hnext μ st1 undef (.tup []) w _ _ _ (Sub.refl _) hw1 ⟨#[], rfl, trivial⟩ h1 hs2 hL2
    · split at h
      · rename_i hud
        refine ⟨hk _ _ _ _ _ h hs, fun w0 μ a w next Q hw hL hnext => ?_⟩
        rw [if_neg]
        · exact hnext μ st undef (.tup []) w _ _ _ (Sub.refl _) hw ⟨#[], rfl, trivial⟩ h hs hL
        · have := undefG_spec hud hw
          unfold Region.wanted
          rw [hg]
          simp only
          rw [this]
          intro e; cases e
      · cases h

theorem opsLX_sound (hΓ : Γ.ok P) (hsum : ∀ f s, Γ.summ f = some s → SummOK P f s) {mks : Nat → Option (List Nat)} (hmk : ∀ g ks, mks g = some ks → MakeOK P g ks) {rec : Code → Tab → St → Option (Tab × Tree)} (hrec : RecOK P ρ rec) {ops : Array Oper} :
    ∀ (l : List Oper) (k : Nat) (T T' : Tab) (st : St) (t : Tree), (∀ j, j < l.length → l[j]? = ops[k + j]?) → opsLX Γ mks rec ops l T st = some (T', t) → Sat ρ T' →
    Sat ρ T ∧ ∀ w0 μ a w Q, StRel ρ w0 μ st a w → t.sat ρ (Leafs ρ w0 Q μ) → wpOps P ops Q (List.range' k l.length) a w
  | [], k, T, T', st, t, hl, h, hs => by
    cases h
    exact ⟨hs, fun w0 μ a w Q hw hL => hL μ a w (Sub.refl _) hw⟩
  | o :: rest, k, T, T', st, t, hl, h, hs => by
    have hl' : ∀ j, j < rest.length → rest[j]? = ops[k + 1 + j]? := fun j hj => by
      have := hl (j + 1) (by simpa using hj)
      rw [show k + 1 + j = k + (j + 1) by omega, ← this]; rfl
    have h0 : ops[k]? = some o := by have := hl 0 (by simp); simpa using this.symm
    unfold opsLX at h
    have hfin : ∀ (T : Tab) (st : St) (v : SV) (T' : Tab) (t : Tree), (match st.put o.dst v with
        | some st => opsLX Γ mks rec ops rest T st
        | none => none) = some (T', t) → Sat ρ T' → Sat ρ T := by
      intro T st v T' t h1 hs'
      split at h1
      · exact (opsLX_sound hΓ hsum hmk hrec rest (k + 1) _ _ _ _ hl' h1 hs').1
      · cases h1
    obtain ⟨s0, hg⟩ := guardedX_sound hΓ hsum hmk hrec hfin h hs
    refine ⟨s0, fun w0 μ a w Q hw hL => ?_⟩
    simp only [List.length_cons, List.range'_succ, wpOps, h0]
    have := hg w0 μ a w (wpOps P ops Q (List.range' (k + 1) rest.length)) Q hw hL ?_
    · split
      · rename_i hwant; rw [if_pos hwant] at this; exact .inl this
      · rename_i hwant; rw [if_neg hwant] at this; exact this
    · intro μ' st2 x sv w2 T1 T2 t2 hp hw2 hv hf hs2 hL2
      try dsimp only at hf
      split at hf
      · rename_i st3 hput
        exact (opsLX_sound hΓ hsum hmk hrec rest (k + 1) _ _ _ _ hl' hf hs2).2 w0 μ' _ w2 Q (St.put_rel hw2 hv hput) (Tree.sat_mono (fun e s h => Leafs.mono hp h) hL2)
      · cases hf

theorem opsX_sound (hΓ : Γ.ok P) (hsum : ∀ f s, Γ.summ f = some s → SummOK P f s) {mks : Nat → Option (List Nat)} (hmk : ∀ g ks, mks g = some ks → MakeOK P g ks) {rec : Code → Tab → St → Option (Tab × Tree)} (hrec : RecOK P ρ rec) {ops : Array Oper}
    (l : List Oper) (k : Nat) (T T' : Tab) (st : St) (t : Tree) (hl : ∀ j, l[j]? = ops[k + j]?) (h : opsX Γ mks rec ops l T st = some (T', t)) (hs : Sat ρ T') :
    Sat ρ T ∧ ∀ w0 μ a w Q, StRel ρ w0 μ st a w → t.sat ρ (Leafs ρ w0 Q μ) → wpOps P ops Q (List.range' k l.length) a w :=
  openI_spec (W := fun a w Q => wpOps P ops Q (List.range' k l.length) a w) (fun _ _ _ _ h hs => opsLX_sound hΓ hsum hmk hrec l k _ _ _ _ (fun j _ => hl j) h hs) 2 _ _ _ _ h hs

theorem leSt_spec {A M : St} (h : leSt A M = true) : StLe ρ A M := by
  unfold leSt at h
  simp only [Bool.and_eq_true] at h
  obtain ⟨h1, h2, h3, h4, h5⟩ := h
  refine StLe.of (Nat.eq_of_beq_eq_true h1) (Nat.le_of_ble_eq_true h2) (fun t s hs => ?_) (fun i B hi => ?_) (fun hf r b hr => ?_)
  · have := Tr.chk_spec _ _ _ h3 t s hs
    simp only [Nat.one_mul, Nat.add_zero] at this
    split at this
    · rename_i s' hs'
      have e := svBeq_eq this
      subst e
      exact ⟨s, hs', fun _ _ h => h⟩
    · cases this
  · have := Tr.chk_spec _ _ _ h4 i B hi
    simp only [Nat.one_mul, Nat.add_zero] at this
    split at this
    · rename_i C hC
      have e := blkBeq_eq this
      subst e
      exact ⟨B, hC, rfl, fun _ _ h => h⟩
    · cases this
  · have := Tr.chk_spec _ _ _ h5 r b hr
    simp only [Nat.one_mul, Nat.add_zero] at this
    split at this
    · rename_i c hc
      have e : b = c := by simpa using this
      subst e
      exact hf r b hc
    · cases this

/-- What each order owes. -/
def PermOK (P : Program) (ρ : Nat → Int) (ops : Array Oper) (n : Nat) (next : Array Bool → Tab → St → Option (Tab × Tree)) : Prop :=
  ∀ listed T st T' t, next listed T st = some (T', t) → Sat ρ T' → Sat ρ T ∧ ∀ w0 μ a w Q, StRel ρ w0 μ st a w → t.sat ρ (Leafs ρ w0 Q μ) → wpAny P .any ops Q n listed a w

theorem stepP_sound (hΓ : Γ.ok P) (hsum : ∀ f s, Γ.summ f = some s → SummOK P f s) {mks : Nat → Option (List Nat)} (hmk : ∀ g ks, mks g = some ks → MakeOK P g ks) {rec : Code → Tab → St → Option (Tab × Tree)} (hrec : RecOK P ρ rec) {ops : Array Oper} {n : Nat}
    {next : Array Bool → Tab → St → Option (Tab × Tree)} (hnext : PermOK P ρ ops n next) {i : Nat} {listed : Array Bool} {T T' : Tab} {st : St} {t : Tree} (h : stepP Γ mks rec ops next i listed T st = some (T', t)) (hs : Sat ρ T') :
    Sat ρ T ∧ ∀ w0 μ a w Q, StRel ρ w0 μ st a w → t.sat ρ (Leafs ρ w0 Q μ) → wpOp P ops Q i (wpAny P .any ops Q n (listed.setIfInBounds i true)) a w := by
  unfold stepP at h
  split at h
  · rename_i o ho
    obtain ⟨s0, hg⟩ := guardedX_sound hΓ hsum hmk hrec (fun T st v T' t h1 hs' => by
      split at h1
      · exact (hnext _ _ _ _ _ h1 hs').1
      · cases h1) h hs
    refine ⟨s0, fun w0 μ a w Q hw hL => ?_⟩
    have := hg w0 μ a w (wpAny P .any ops Q n (listed.setIfInBounds i true)) Q hw hL ?_
    · unfold wpOp
      simp only [ho]
      split
      · rename_i hwant; rw [if_pos hwant] at this; exact .inl this
      · rename_i hwant; rw [if_neg hwant] at this; exact this
    · intro μ' st2 x sv w2 T1 T2 t2 hp hw2 hv hf hs2 hL2
      try dsimp only at hf
      split at hf
      · rename_i st3 hput
        exact (hnext _ _ _ _ _ hf hs2).2 w0 μ' _ w2 Q (St.put_rel hw2 hv hput) (Tree.sat_mono (fun e s h => Leafs.mono hp h) hL2)
      · cases hf
  · cases h

theorem permJ_sound (hΓ : Γ.ok P) (hsum : ∀ f s, Γ.summ f = some s → SummOK P f s) {mks : Nat → Option (List Nat)} (hmk : ∀ g ks, mks g = some ks → MakeOK P g ks) {rec : Code → Tab → St → Option (Tab × Tree)} (hrec : RecOK P ρ rec) {ops : Array Oper} {n : Nat}
    {next : Array Bool → Tab → St → Option (Tab × Tree)} (hnext : PermOK P ρ ops n next) {listed : Array Bool} {st stF : St} : ∀ {l : List Nat} {T T' : Tab} {t : Tree}, permJ Γ mks rec ops next listed st stF l T = some (T', t) → Sat ρ T' →
    Sat ρ T ∧ t = .leaf .normal stF ∧ ∀ w0 μ a w Q, StRel ρ w0 μ st a w → Leafs ρ w0 Q μ .normal stF → ∀ j ∈ l, wpOp P ops Q j (wpAny P .any ops Q n (listed.setIfInBounds j true)) a w
  | [], T, T', t, h, hs => by
    cases h
    exact ⟨hs, rfl, fun _ _ _ _ _ _ _ j hj => by cases hj⟩
  | j :: l, T, T', t, h, hs => by
    unfold permJ at h
    split at h
    · rename_i T1 stA h1
      split at h
      · rename_i hle
        obtain ⟨s1, e, k⟩ := permJ_sound hΓ hsum hmk hrec hnext h hs
        obtain ⟨s0, k0⟩ := stepP_sound hΓ hsum hmk hrec hnext h1 s1
        refine ⟨s0, e, fun w0 μ a w Q hw hL i hi => ?_⟩
        cases hi with
        | head => exact k0 w0 μ a w Q hw (Leafs.le (leSt_spec hle) hL)
        | tail _ hi => exact k w0 μ a w Q hw hL i hi
      · cases h
    · cases h

theorem permS_sound (hΓ : Γ.ok P) (hsum : ∀ f s, Γ.summ f = some s → SummOK P f s) {mks : Nat → Option (List Nat)} (hmk : ∀ g ks, mks g = some ks → MakeOK P g ks) {rec : Code → Tab → St → Option (Tab × Tree)} (hrec : RecOK P ρ rec) {ops : Array Oper} :
    ∀ n, PermOK P ρ ops n (permS Γ mks rec ops n)
  | 0 => by
    intro listed T st T' t h hs
    unfold permS at h
    split at h
    · rename_i hr
      cases h
      exact ⟨hs, fun w0 μ a w Q hw hL => ⟨hr, hL μ a w (Sub.refl _) hw⟩⟩
    · cases h
  | n + 1 => by
    intro listed T st T' t h hs
    have ih := permS_sound hΓ hsum hmk hrec (ops := ops) n
    unfold permS at h
    split at h
    · rename_i hr
      cases h
      exact ⟨hs, fun w0 μ a w Q hw hL => ⟨(fun _ => hL μ a w (Sub.refl _) hw), (fun i hi => by rw [hr] at hi; cases hi)⟩⟩
    · rename_i i rest hr
      split at h
      · rename_i T1 stF h1
        obtain ⟨s1, e, k⟩ := permJ_sound hΓ hsum hmk hrec ih h hs
        obtain ⟨s0, k0⟩ := stepP_sound hΓ hsum hmk hrec ih h1 s1
        subst e
        refine ⟨s0, fun w0 μ a w Q hw hL => ⟨(fun hn => by rw [hr] at hn; cases hn), fun j hj => ?_⟩⟩
        rw [hr] at hj
        cases hj with
        | head => exact k0 w0 μ a w Q hw hL
        | tail _ hj => exact k w0 μ a w Q hw hL j hj
      · cases h

theorem codeX_sound (hΓ : Γ.ok P) (hsum : ∀ f s, Γ.summ f = some s → SummOK P f s) {hn : Nat → Option Hint} {mks : Nat → Option (List Nat)} (hmk : ∀ g ks, mks g = some ks → MakeOK P g ks) {rec : Code → Tab → St → Option (Tab × Tree)} (hall : ∀ ρ, RecOK P ρ rec) : RecOK P ρ (codeX Γ hn mks rec) := by
  have hrec := hall ρ
  intro c T st T' t h hs
  unfold codeX at h
  split at h
  · cases h; exact ⟨hs, fun w0 μ a w Q hw hL => wp_skip (hL μ a w (Sub.refl _) hw)⟩
  · rename_i id ops
    obtain ⟨s0, hr⟩ := opsX_sound hΓ hsum hmk hrec ops.toList 0 _ _ _ _ (fun j => by simp) h hs
    refine ⟨s0, fun w0 μ a w Q hw hL => wp_region ?_⟩
    have := hr w0 μ a w Q hw hL
    rw [← List.range_eq_range'] at this
    simpa using this
  · rename_i id ops
    refine openI_spec (W := fun a w Q => (Code.region id ops true).wp P Q a w) (fun T st T' t h hs => ?_) 2 _ _ _ _ h hs
    split at h
    · rename_i r hr
      cases h
      exact drawGone_sound hΓ hsum hrec hr hs
    · split at h
      · obtain ⟨s0, k⟩ := permS_sound hΓ hsum hmk hrec _ _ _ _ _ _ h hs
        exact ⟨s0, fun w0 μ a w Q hw hL => wp_region_any hΓ.mixed (k w0 μ a _ Q (hw.drewN 1) hL)⟩
      · cases h
  · rename_i x y
    split at h
    · rename_i T1 t1 h1
      obtain ⟨s1, hb⟩ := bind_spec (ρ := ρ) (fun T e st2 T' t h2 hs' => by
        cases e with
        | normal => exact (hrec _ _ _ _ _ h2 hs').1
        | leave id => cases h2; exact hs'
        | ret => cases h2; exact hs') _ _ _ _ h hs
      obtain ⟨s0, hwp⟩ := hrec _ _ _ _ _ h1 s1
      refine ⟨s0, fun w0 μ a w Q hw hL => wp_seq (hwp w0 μ a w _ hw (Tree.sat_mono ?_ (hb _ hL)))⟩
      rintro e s ⟨T1', T2, t2, hg, hs2, hsat⟩ μ' a' w' hp hw'
      cases e with
      | normal => exact (hrec _ _ _ _ _ hg hs2).2 w0 μ' a' w' Q hw' (Tree.sat_mono (fun e s h => Leafs.mono hp h) hsat)
      | leave id => cases hg; exact hsat μ' a' w' hp hw'
      | ret => cases hg; exact hsat μ' a' w' hp hw'
    · cases h
  · rename_i c x y
    split at h
    · rename_i b hc
      have hev : ∀ {w0 μ a w}, StRel ρ w0 μ st a w → a.eval c = .bool (b.ev ρ == 1) := by
        intro w0 μ a w hw
        have := St.eval_rel hw c
        rw [hc] at this; exact this
      unfold condS at h
      split at h
      · rename_i hk
        obtain ⟨s0, hx⟩ := hrec _ _ _ _ _ h hs
        refine ⟨s0, fun w0 μ a w Q hw hL => wp_cond_true ?_ (hx w0 μ a w Q hw hL)⟩
        have hd := decideX_spec s0 hw.fa b
        rw [hk] at hd
        rw [hev hw, show (b.ev ρ == 1) = true from hd]
      · rename_i hk
        obtain ⟨s0, hx⟩ := hrec _ _ _ _ _ h hs
        refine ⟨s0, fun w0 μ a w Q hw hL => wp_cond_false ?_ (hx w0 μ a w Q hw hL)⟩
        have hd := decideX_spec s0 hw.fa b
        rw [hk] at hd
        rw [hev hw, show (b.ev ρ == 1) = false from hd]
      · obtain ⟨Ti, ti, h, hs, htd⟩ := tidyO_spec h hs
        obtain ⟨s0, hb⟩ := decS_spec (ρ := ρ) (fun q T st T' t h1 hs' => by
          split at h1
          · exact (hrec _ _ _ _ _ h1 hs').1
          · exact (hrec _ _ _ _ _ h1 hs').1) 1000 h hs
        refine ⟨s0, fun w0 μ a w Q hw hL => ?_⟩
        obtain ⟨q, T1, T2, t2, st1, hρ, hw1, h1, hs2, hL2⟩ := hb w0 μ a w _ hw (htd hw.fa _ _ _ hL)
        split at h1
        · exact wp_cond_true (by rw [hev hw, hρ]) ((hrec _ _ _ _ _ h1 hs2).2 w0 μ a w Q hw1 hL2)
        · exact wp_cond_false (by rw [hev hw, hρ]) ((hrec _ _ _ _ _ h1 hs2).2 w0 μ a w Q hw1 hL2)
    · cases h
  · rename_i id c
    split at h
    · rename_i T1 t1 h1
      obtain ⟨Ti, ti, h, hs, htd⟩ := tidyO_spec h hs
      obtain ⟨s1, hb⟩ := bind_spec (ρ := ρ) (fun T e st2 T' t h2 hs' => by
        cases e with
        | normal => cases h2; exact hs'
        | leave j =>
          dsimp only at h2
          split at h2 <;> cases h2 <;> exact hs'
        | ret => cases h2; exact hs') _ _ _ _ h hs
      obtain ⟨s0, hwp⟩ := hrec _ _ _ _ _ h1 s1
      refine ⟨s0, fun w0 μ a w Q hw hL => wp_block (hwp w0 μ a w _ hw (Tree.sat_mono ?_ (hb _ (htd hw.fa _ _ _ hL))))⟩
      rintro e s ⟨T1', T2, t2, hg, hs2, hsat⟩ μ' a' w' hp hw'
      cases e with
      | normal => cases hg; exact hsat μ' a' w' hp hw'
      | leave j =>
        dsimp only at hg
        split at hg
        · rename_i hj
          cases hg
          have e := Nat.eq_of_beq_eq_true hj
          show Exit.inBlock id Q (.exit j) a' w'
          unfold Exit.inBlock
          simp only
          rw [if_pos e]
          exact hsat μ' a' w' hp hw'
        · rename_i hj
          cases hg
          have e : ¬ j = id := fun e => by subst e; rw [Nat.beq_refl] at hj; cases hj
          show Exit.inBlock id Q (.exit j) a' w'
          unfold Exit.inBlock
          simp only
          rw [if_neg e]
          exact hsat μ' a' w' hp hw'
      | ret => cases hg; exact hsat μ' a' w' hp hw'
    · cases h
  · rename_i c
    have plain : loopS rec c 400 T st = some (T', t) → Sat ρ T ∧ ∀ w0 μ a w Q, StRel ρ w0 μ st a w → t.sat ρ (Leafs ρ w0 Q μ) → (Code.loop c).wp P Q a w := by
      intro h
      obtain ⟨s0, hr⟩ := loopS_sound hrec 400 _ _ _ _ h hs
      exact ⟨s0, fun w0 μ a w Q hw hL => wp_loop_rounds 400 (hr w0 μ a w Q hw hL)⟩
    split at h
    · rename_i hh hhint
      split at h
      · rename_i p hp
        split at h
        · rename_i r hx
          cases h
          exact loopX_sound hall hp hx hs
        · exact plain h
      · exact plain h
    · exact plain h
  · cases h; exact ⟨hs, fun w0 μ a w Q hw hL => wp_exit (hL μ a w (Sub.refl _) hw)⟩
  · cases h; exact ⟨hs, fun w0 μ a w Q hw hL => wp_label (hL μ a w (Sub.refl _) hw)⟩
  · cases h; exact ⟨hs, fun w0 μ a w Q hw hL => wp_ret (hL μ a w (Sub.refl _) hw)⟩
  · cases h

/-- THE EXECUTOR'S RUN IS THE PROGRAM'S. -/
theorem execX_sound (hΓ : Γ.ok P) (hsum : ∀ f s, Γ.summ f = some s → SummOK P f s) {hn : Nat → Option Hint} {mks : Nat → Option (List Nat)} (hmk : ∀ g ks, mks g = some ks → MakeOK P g ks) : ∀ n (ρ : Nat → Int), RecOK P ρ (execX Γ hn mks n)
  | 0, _ => fun _ _ _ _ _ h => by cases h
  | n + 1, _ => codeX_sound hΓ hsum hmk (execX_sound hΓ hsum hmk n)
end
end
end Go.Sx
