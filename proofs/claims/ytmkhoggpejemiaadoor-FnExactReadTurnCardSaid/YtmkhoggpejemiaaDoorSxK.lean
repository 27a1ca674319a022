/-
  Loops of unknown length: the run is the program's.
-/
import Derived.Test.YtmkhoggpejemiaaDoorSxL
set_option linter.unusedSimpArgs false
set_option linter.unusedVariables false
namespace Go.Sx
open Go.RowKit
/-! ### A state is the head again -/
section
variable {ρ ρ' : Nat → Int} {f0 nb0 : Nat} {outs : List X}
theorem xMatch_ev {g l : X} (h : xMatch f0 outs g l = true) (hA : ∀ r, r < f0 → ρ' r = ρ r) (hB : ∀ j y, outs[j]? = some y → ρ' (f0 + j) = y.ev ρ) : g.ev ρ' = l.ev ρ := by
 unfold xMatch at h
 split at h
 · rw [← X.beq_eq h]; rfl
 · rename_i r
   split at h
   · rename_i hr
     rw [← X.beq_eq h]
     exact hA r (Nat.le_of_ble_eq_true hr)
   · rename_i hr
     split at h
     · rename_i y hy
       rw [← X.beq_eq h]
       have hge : f0 ≤ r := by
        have : ¬ r < f0 := fun hlt => by
         have : Nat.blt r f0 = true := Nat.ble_eq_true_of_le hlt
         rw [this] at hr; cases hr
        omega
       have := hB _ _ hy
       rw [show f0 + (r - f0) = r by omega] at this
       exact this
     · cases h
def restr0 (nb0 : Nat) (μ : Mu) : Mu := fun i => if i < nb0 ∨ (LB ≤ i ∧ i < LB + nb0) then μ i else none
theorem restr0_lo {μ : Mu} {i : Nat} (h : i < nb0) : restr0 nb0 μ i = μ i := if_pos (.inl h)
theorem restr0_ls {μ : Mu} {q : Nat} (h : q < nb0) : restr0 nb0 μ (LB + q) = μ (LB + q) := if_pos (.inr ⟨by omega, by omega⟩)
theorem restr0_some {μ : Mu} {i : Nat} {p : Nat × Nat} (h : restr0 nb0 μ i = some p) : μ i = some p := by
 unfold restr0 at h
 split at h
 · exact h
 · cases h
def restrR (nb0 : Nat) (rn : Option (Nat × Nat)) (μ : Mu) : Mu :=
 match rn with
 | none => restr0 nb0 μ
 | some (i0, i1) => fun i => if i = i0 then μ i1 else restr0 nb0 μ i
theorem restrR_lt {rn : Option (Nat × Nat)} {μ : Mu} {i : Nat} (h : i < nb0) : restrR nb0 rn μ i = μ (ren rn i) := by
 unfold restrR ren
 cases rn with
 | none => exact restr0_lo h
 | some q =>
  obtain ⟨i0, i1⟩ := q
  simp only
  by_cases e : i = i0
  · rw [if_pos e, e, Nat.beq_refl]
  · rw [if_neg e]
    have : Nat.beq i i0 = false := by
     cases hb : Nat.beq i i0 with
     | true => exact absurd (Nat.eq_of_beq_eq_true hb) e
     | false => rfl
    rw [this]
    exact restr0_lo h
theorem oldB_spec {rn : Option (Nat × Nat)} {i : Nat} (h : oldB rn nb0 i = true) : i < nb0 ∧ ren rn i = i := by
 unfold oldB at h
 unfold ren
 cases rn with
 | none => exact ⟨Nat.le_of_ble_eq_true h, rfl⟩
 | some q =>
  obtain ⟨i0, i1⟩ := q
  simp only [Bool.and_eq_true, Bool.not_eq_true'] at h
  exact ⟨Nat.le_of_ble_eq_true h.1, by simp only [h.2]⟩
theorem restrR_old {rn : Option (Nat × Nat)} {μ : Mu} {i : Nat} (h : oldB rn nb0 i = true) : restrR nb0 rn μ i = μ i := by
 obtain ⟨h1, h2⟩ := oldB_spec h
 rw [restrR_lt h1, h2]
theorem restrR_ren {rn : Option (Nat × Nat)} {μ : Mu} {i : Nat} (h : (oldB rn nb0 i || isNew rn i) = true) : restrR nb0 rn μ i = μ (ren rn i) := by
 rw [Bool.or_eq_true] at h
 rcases h with h | h
 · exact restrR_lt (oldB_spec h).1
 · unfold isNew at h
   cases rn with
   | none => cases h
   | some q =>
    obtain ⟨i0, i1⟩ := q
    have e := Nat.eq_of_beq_eq_true h
    subst e
    unfold restrR ren
    simp only [if_pos, Nat.beq_refl]
theorem rn_lt {rn : Option (Nat × Nat)} {i0 i1 : Nat} (h : rnOK rn nb0 = true) (e : rn = some (i0, i1)) : i0 < nb0 ∧ (i0 = i1 ∨ nb0 ≤ i1) := by
 subst e
 simp only [rnOK, Bool.and_eq_true, Bool.or_eq_true] at h
 refine ⟨Nat.le_of_ble_eq_true h.1, ?_⟩
 rcases h.2 with h | h
 · exact .inl (Nat.eq_of_beq_eq_true h)
 · exact .inr (Nat.le_of_ble_eq_true h)
theorem ren_ne {rn : Option (Nat × Nat)} {i : Nat} (h : rnOK rn nb0 = true) (hi : nb0 ≤ i) : ren rn i = i := by
 cases hrn : rn with
 | none => rfl
 | some q =>
  obtain ⟨i0, i1⟩ := q
  have := rn_lt h hrn
  unfold ren
  simp only
  cases hb : Nat.beq i i0 with
  | true =>
   have := Nat.eq_of_beq_eq_true hb
   omega
  | false => rfl
theorem ren_hi {rn : Option (Nat × Nat)} {q : Nat} (h : rnOK rn nb0 = true) (hn : nb0 ≤ maxReg) (hq : LB ≤ q) : ren rn q = q := ren_ne h (by unfold maxReg at hn; unfold LB at hq; omega)
theorem ren_inj {rn : Option (Nat × Nat)} {i j : Nat} (h : rnOK rn nb0 = true) (hi : i < nb0) (hj : j < nb0) (e : ren rn i = ren rn j) : i = j := by
 cases hrn : rn with
 | none => subst hrn; exact e
 | some q =>
  obtain ⟨i0, i1⟩ := q
  have := rn_lt h hrn
  subst hrn
  unfold ren at e
  simp only at e
  cases hb : Nat.beq i i0 <;> cases hb2 : Nat.beq j i0 <;> rw [hb, hb2] at e <;> simp only at e
  · exact e
  · have := Nat.eq_of_beq_eq_true hb2
    omega
  · have := Nat.eq_of_beq_eq_true hb
    omega
  · have h1 := Nat.eq_of_beq_eq_true hb
    have h2 := Nat.eq_of_beq_eq_true hb2
    omega
theorem restrR_ne {rn : Option (Nat × Nat)} {μ : Mu} {i : Nat} (h : rnOK rn nb0 = true) (hi : nb0 ≤ i) : restrR nb0 rn μ i = restr0 nb0 μ i := by
 cases hrn : rn with
 | none => rfl
 | some q =>
  obtain ⟨i0, i1⟩ := q
  have := rn_lt h hrn
  unfold restrR
  simp only
  rw [if_neg (by omega)]
theorem restrR_none {rn : Option (Nat × Nat)} {μ : Mu} {i : Nat} (h : rnOK rn nb0 = true) (hi : nb0 ≤ i) (hi2 : i < LB) : restrR nb0 rn μ i = none := by
 rw [restrR_ne h hi]
 exact if_neg (by omega)
theorem restrR_ls {rn : Option (Nat × Nat)} {μ : Mu} {q : Nat} (h : rnOK rn nb0 = true) (hn : nb0 ≤ maxReg) (hq : q < nb0) : restrR nb0 rn μ (LB + q) = μ (LB + q) := by
 rw [restrR_ne h (by unfold maxReg at hn; unfold LB; omega)]
 exact restr0_ls hq
theorem restrR_lnone {rn : Option (Nat × Nat)} {μ : Mu} {q : Nat} (h : rnOK rn nb0 = true) (hn : nb0 ≤ maxReg) (hq : nb0 ≤ q) : restrR nb0 rn μ (LB + q) = none := by
 rw [restrR_ne h (by unfold maxReg at hn; unfold LB; omega)]
 exact if_neg (by unfold maxReg at hn; unfold LB; omega)
theorem restrR_some {rn : Option (Nat × Nat)} {μ : Mu} {i : Nat} {p : Nat × Nat} (h : restrR nb0 rn μ i = some p) : μ (ren rn i) = some p := by
 cases hrn : rn with
 | none => subst hrn; exact restr0_some h
 | some q =>
  obtain ⟨i0, i1⟩ := q
  subst hrn
  unfold restrR at h
  unfold ren
  simp only at h ⊢
  by_cases e : i = i0
  · rw [if_pos e] at h
    rw [e, Nat.beq_refl]
    exact h
  · rw [if_neg e] at h
    have : Nat.beq i i0 = false := by
     cases hb : Nat.beq i i0 with
     | true => exact absurd (Nat.eq_of_beq_eq_true hb) e
     | false => rfl
    rw [this]
    exact restr0_some h
theorem kindNo_inj {k k' : IntKind} (h : Nat.beq (kindNo k) (kindNo k') = true) : k = k' := by
 cases k <;> cases k' <;> first | rfl | cases h
theorem scMatch_rel {rn : Option (Nat × Nat)} (hrk : rnOK rn nb0 = true) (hnk : nb0 ≤ maxReg) (hA : ∀ r, r < f0 → ρ' r = ρ r) (hB : ∀ j y, outs[j]? = some y → ρ' (f0 + j) = y.ev ρ) {μ : Mu} {g l : SC} (h : scMatch f0 nb0 rn outs g l = true) {v : Value} (hv : l.rel ρ μ v) :
  g.rel ρ' (restrR nb0 rn μ) v := by
 unfold scMatch at h
 split at h
 · exact SC.rel_one hv
 · show v = .bool _
   rw [xMatch_ev h hA hB]; exact hv
 · simp only [Bool.and_eq_true] at h
   rw [kindNo_inj h.1]
   show v = .int _ _
   rw [xMatch_ev h.2 hA hB]; exact hv
 · obtain ⟨b, rfl, hb⟩ := hv
   exact ⟨b, rfl, by rw [xMatch_ev h hA hB]; exact hb⟩
 · obtain ⟨b, rfl, hb⟩ := hv
   exact ⟨b, rfl, by rw [xMatch_ev h hA hB]; exact hb⟩
 · simp only [Bool.and_eq_true] at h
   obtain ⟨h1, h2, h3⟩ := h
   rw [Nat.eq_of_beq_eq_true h1, Nat.eq_of_beq_eq_true h2]
   rw [Nat.eq_of_beq_eq_true h1] at h3
   obtain ⟨b, hb, e⟩ := hv
   exact ⟨b, by rw [restrR_old h3]; exact hb, e⟩
 · simp only [Bool.and_eq_true] at h
   obtain ⟨h1, h2, h3, h4, h5⟩ := h
   rw [Nat.eq_of_beq_eq_true h1, Nat.eq_of_beq_eq_true h2, Nat.eq_of_beq_eq_true h3, Nat.eq_of_beq_eq_true h4]
   rw [Nat.eq_of_beq_eq_true h1] at h5
   obtain ⟨b, hb, e⟩ := hv
   exact ⟨b, by rw [restrR_old h5]; exact hb, e⟩
 · simp only [Bool.and_eq_true] at h
   obtain ⟨h1, h2, h3, h4⟩ := h
   rw [Nat.eq_of_beq_eq_true h1, natsBeq_eq h2]
   rw [Nat.eq_of_beq_eq_true h1] at h4
   obtain ⟨p, off, els, hp, he, hL, hd⟩ := hv
   exact ⟨p, off, els, by rw [restrR_ls hrk hnk (Nat.le_of_ble_eq_true h4)]; exact hp, he, by rw [xMatch_ev h3 hA hB]; exact hL, hd⟩
 · simp only [Bool.and_eq_true] at h
   obtain ⟨h1, ⟨h2, h3⟩, h4, h5⟩ := h
   rw [Nat.eq_of_beq_eq_true h1, Array.isEmpty_iff.1 h2, Array.isEmpty_iff.1 h3]
   rw [Array.isEmpty_iff.1 h4, Array.isEmpty_iff.1 h5] at hv
   exact hv
 · simp only [Bool.and_eq_true] at h
   obtain ⟨h1, h2, h3, h4⟩ := h
   rw [natsBeq_eq h2]
   obtain ⟨b, els, hb, hL, e⟩ := hv
   exact ⟨b, els, by rw [restrR_ren h4, Nat.eq_of_beq_eq_true h1]; exact hb, by rw [xMatch_ev h3 hA hB]; exact hL, e⟩
 · simp only [Bool.and_eq_true] at h
   obtain ⟨h0, ⟨h1, h2, h3, h4, h5, h6⟩, k1, k2, k3, k4, k5, k6⟩ := h
   rw [Nat.eq_of_beq_eq_true h0, Nat.eq_of_beq_eq_true h1, natsBeq_eq h2, Nat.eq_of_beq_eq_true h5, Nat.eq_of_beq_eq_true k1, natsBeq_eq k2, Nat.eq_of_beq_eq_true k5]
   rw [Nat.eq_of_beq_eq_true h1] at h6
   rw [Nat.eq_of_beq_eq_true k1] at k6
   obtain ⟨u, z, hu, hz, e⟩ := hv
   obtain ⟨p, off, els, n, hp, he, hL, hi, hn, eu⟩ := hu
   obtain ⟨p', off', els', n', hp', he', hL', hi', hn', ez⟩ := hz
   exact ⟨u, z, ⟨p, off, els, n, by rw [restrR_ls hrk hnk (Nat.le_of_ble_eq_true h6)]; exact hp, he, by rw [xMatch_ev h3 hA hB]; exact hL, by rw [xMatch_ev h4 hA hB]; exact hi, hn, eu⟩,
    ⟨p', off', els', n', by rw [restrR_ls hrk hnk (Nat.le_of_ble_eq_true k6)]; exact hp', he', by rw [xMatch_ev k3 hA hB]; exact hL', by rw [xMatch_ev k4 hA hB]; exact hi', hn', ez⟩, e⟩
 · simp only [Bool.and_eq_true] at h
   obtain ⟨h0, h1, h2, h3, h4, h5, h6⟩ := h
   rw [Nat.eq_of_beq_eq_true h0, Nat.eq_of_beq_eq_true h1, natsBeq_eq h2, Nat.eq_of_beq_eq_true h5]
   rw [Nat.eq_of_beq_eq_true h1] at h6
   obtain ⟨u, hu, e⟩ := hv
   obtain ⟨p, off, els, n, hp, he, hL, hi, hn, eu⟩ := hu
   exact ⟨u, ⟨p, off, els, n, by rw [restrR_ls hrk hnk (Nat.le_of_ble_eq_true h6)]; exact hp, he, by rw [xMatch_ev h3 hA hB]; exact hL, by rw [xMatch_ev h4 hA hB]; exact hi, hn, eu⟩, e⟩
 · cases h
theorem cellsMatch_rel {rn : Option (Nat × Nat)} (hrk : rnOK rn nb0 = true) (hnk : nb0 ≤ maxReg) (hA : ∀ r, r < f0 → ρ' r = ρ r) (hB : ∀ j y, outs[j]? = some y → ρ' (f0 + j) = y.ev ρ) {μ : Mu} : ∀ {l m : List SC} {vs : List Value}, cellsMatch f0 nb0 rn outs l m = true → cellsRel ρ μ m vs →
  cellsRel ρ' (restrR nb0 rn μ) l vs
 | [], [], [], _, _ => trivial
 | _ :: _, _ :: _, _ :: _, h, hv => by
  simp only [cellsMatch, Bool.and_eq_true] at h
  exact ⟨scMatch_rel hrk hnk hA hB h.1 hv.1, cellsMatch_rel hrk hnk hA hB h.2 hv.2⟩
 | [], _ :: _, _, h, _ => by cases h
 | _ :: _, [], _, h, _ => by cases h
 | [], [], _ :: _, _, h => h.elim
 | _ :: _, _ :: _, [], _, h => h.elim
theorem blkMatch_rel {rn : Option (Nat × Nat)} (hrk : rnOK rn nb0 = true) (hnk : nb0 ≤ maxReg) (hA : ∀ r, r < f0 → ρ' r = ρ r) (hB : ∀ j y, outs[j]? = some y → ρ' (f0 + j) = y.ev ρ) {μ : Mu} {l m : List SC} {cs : Array Value} (h : blkMatch f0 nb0 rn outs l m = true) (hb : Begins ρ μ m cs) :
  Begins ρ' (restrR nb0 rn μ) l cs := by
 unfold blkMatch at h
 split at h
 · unfold manyMatch at h
   split at h
   · rename_i ks x ks' y _
     rw [Bool.and_eq_true] at h
     have hk := natsBeq_eq h.1
     subst hk
     rcases hb with ⟨vs, rest, e, hr⟩ | ⟨ks2, L, els, e, hL, hm⟩
     · match vs, hr with
       | _ :: _, hr => exact hr.1.elim
     · cases e
       exact .inr ⟨ks, x, els, rfl, by rw [xMatch_ev h.2 hA hB]; exact hL, hm⟩
   · cases h
 · rename_i hm
   obtain ⟨vs, rest, e, hr⟩ := hb.plain hm
   exact .inl ⟨vs, rest, e, cellsMatch_rel hrk hnk hA hB h hr⟩
theorem svMatch_rel {rn : Option (Nat × Nat)} (hrk : rnOK rn nb0 = true) (hnk : nb0 ≤ maxReg) (hA : ∀ r, r < f0 → ρ' r = ρ r) (hB : ∀ j y, outs[j]? = some y → ρ' (f0 + j) = y.ev ρ) {μ : Mu} {g l : SV} (h : svMatch f0 nb0 rn outs g l = true) {v : Value} (hv : l.rel ρ μ v) :
  g.rel ρ' (restrR nb0 rn μ) v := by
 unfold svMatch at h
 split at h
 · trivial
 · exact scMatch_rel hrk hnk hA hB h hv
 · obtain ⟨cs, e, hr⟩ := hv
   exact ⟨cs, e, cellsMatch_rel hrk hnk hA hB h hr⟩
 · cases h
theorem matchSt_rel {rn : Option (Nat × Nat)} (hA : ∀ r, r < f0 → ρ' r = ρ r) (hB : ∀ j y, outs[j]? = some y → ρ' (f0 + j) = y.ev ρ) {G s : St} (h : matchSt f0 rn outs G s = true) (hnb : G.nb ≤ maxReg) (hf : Facts ρ' G.fa)
  {w0 : Base} {μ : Mu} {a : Act} {w : World} (hw : StRel ρ w0 μ s a w) : StRel ρ' w0 (restrR G.nb rn μ) G a w := by
 unfold matchSt at h
 simp only [Bool.and_eq_true] at h
 obtain ⟨⟨hnt, hok⟩, hfr, hbs⟩ := h
 have hnt := Nat.eq_of_beq_eq_true hnt
 have fr : ∀ t g, G.fr.get t = some g → ∃ l, s.fr.get t = some l ∧ svMatch f0 G.nb rn outs g l = true := by
  intro t g hg
  have := Tr.chk_spec _ _ _ hfr t g hg
  simp only [Nat.one_mul, Nat.add_zero] at this
  split at this
  · rename_i l hl; exact ⟨l, hl, this⟩
  · cases this
 have bs : ∀ i B, G.bs.get i = some B → ∃ C, s.bs.get (ren rn i) = some C ∧ B.ty = C.ty ∧ i < G.nb ∧ blkMatch f0 G.nb rn outs B.cells C.cells = true := by
  intro i B hB
  have := Tr.chk_spec _ _ _ hbs i B hB
  simp only [Nat.one_mul, Nat.add_zero] at this
  split at this
  · rename_i C hC
    simp only [Bool.and_eq_true] at this
    exact ⟨C, hC, Nat.eq_of_beq_eq_true this.1, Nat.le_of_ble_eq_true this.2.1, this.2.2⟩
  · cases this
 have hLB : G.nb < LB := by unfold maxReg at hnb; unfold LB; omega
 refine ⟨hw.defers, ⟨by rw [hw.fr.size, hnt], fun t g hg => ?_⟩, ⟨hw.wr.kept, ?_, ?_, ?_, ?_, ?_, ?_⟩, hf⟩
 · obtain ⟨l, hl, hm⟩ := fr t g hg
   exact svMatch_rel hok hnb hA hB hm (hw.fr.slot t l hl)
 · intro i j p q Bi Bj hi hj hp hq e
   obtain ⟨Ci, hi', _, hil, _⟩ := bs i Bi hi
   obtain ⟨Cj, hj', _, hjl, _⟩ := bs j Bj hj
   exact ren_inj hok hil hjl (hw.wr.inj _ _ p q Ci Cj hi' hj' (restrR_some hp) (restrR_some hq) e)
 · intro i hi hi2
   exact restrR_none hok hi hi2
 · intro i B p hi hp
   obtain ⟨C, hi', _⟩ := bs i B hi
   exact hw.wr.lo _ C p hi' (restrR_some hp)
 · intro i B hi
   obtain ⟨C, hi', ht, hlt, hm⟩ := bs i B hi
   obtain ⟨p, cs, hp, hh, hsz, hbg⟩ := hw.wr.blk _ C hi'
   exact ⟨p, cs, by rw [restrR_lt hlt]; exact hp, by rw [ht]; exact hh, hsz, blkMatch_rel hok hnb hA hB hm hbg⟩
 · intro q p hq hp
   have hp := restrR_some hp
   rw [ren_hi hok hnb hq] at hp
   obtain ⟨h1, h2⟩ := hw.wr.lst q p hq hp
   refine ⟨h1, fun hF i B r hi hr => ?_⟩
   obtain ⟨C, hi', _⟩ := bs i B hi
   exact h2 hF _ C r hi' (restrR_some hr)
 · intro q hq
   exact restrR_lnone hok hnb hq
theorem restr0_sub {μ μ' : Mu} {bs : Tr Blk} {w0 : Base} {w : World} (h : WR ρ w0 μ nb0 bs w) (hs : Sub μ μ') : Sub μ (restr0 nb0 μ') := by
 intro i p hi
 have : i < nb0 ∨ (LB ≤ i ∧ i < LB + nb0) := by
  by_cases h1 : i < nb0
  · exact .inl h1
  · by_cases h2 : i < LB
    · rw [h.top i (by omega) h2] at hi; cases hi
    · by_cases h3 : i < LB + nb0
      · exact .inr ⟨by omega, h3⟩
      · have := h.ltop (i - LB) (by omega)
        rw [show LB + (i - LB) = i by omega, hi] at this; cases this
 unfold restr0
 rw [if_pos this]
 exact hs i p hi
theorem restr0_sub' {μ μ' : Mu} {bs : Tr Blk} {w0 : Base} {w : World} {nb : Nat} (h : WR ρ w0 μ nb bs w) (hle : nb ≤ nb0) (hs : Sub μ μ') : Sub μ (restr0 nb0 μ') := by
 intro i p hi
 have : i < nb0 ∨ (LB ≤ i ∧ i < LB + nb0) := by
  by_cases h1 : i < nb0
  · exact .inl h1
  · by_cases h2 : i < LB
    · rw [h.top i (by omega) h2] at hi; cases hi
    · by_cases h3 : i < LB + nb0
      · exact .inr ⟨by omega, h3⟩
      · have := h.ltop (i - LB) (by omega)
        rw [show LB + (i - LB) = i by omega, hi] at this; cases this
 unfold restr0
 rw [if_pos this]
 exact hs i p hi
theorem restrR_sub {μ μ' : Mu} {bs : Tr Blk} {w0 : Base} {w : World} {nb : Nat} (h : WR ρ w0 μ nb bs w) (hle : nb ≤ nb0) {rn : Option (Nat × Nat)} (hfree : ∀ i0 i1, rn = some (i0, i1) → i0 = i1 ∨ μ i0 = none) (hs : Sub μ μ') : Sub μ (restrR nb0 rn μ') := by
 cases hrn : rn with
 | none => exact restr0_sub' h hle hs
 | some q =>
  obtain ⟨i0, i1⟩ := q
  intro i p hi
  unfold restrR
  simp only
  by_cases e : i = i0
  · rw [if_pos e]
    rcases hfree i0 i1 hrn with h1 | h1
    · rw [← h1, ← e]; exact hs i p hi
    · rw [e, h1] at hi; cases hi
  · rw [if_neg e]
    exact restr0_sub' h hle hs i p hi
end
/-! ### Valuations with other numbers at the head -/
theorem close {f0 k : Nat} {T : Tab} (hg : tabChk f0 k T = true) {ρ : Nat → Int} (hs : ∀ r d, r < f0 → T.defs.get r = some d → ρ r = d.ev ρ) (v : List Int) :
  ∃ ρ' : Nat → Int, (∀ r, r < f0 → ρ' r = ρ r) ∧ (∀ j, j < k → ρ' (f0 + j) = v.getD j 0) ∧ Sat ρ' T := by
 have hd : ∀ r d, T.defs.get r = some d → (r < f0 ∨ f0 + k ≤ r) ∧ allBelow r d.a = true := by
  intro r d hr
  have := Tr.chk_spec _ _ _ hg r d hr
  simp only [Nat.one_mul, Nat.add_zero, Bool.and_eq_true, Bool.or_eq_true] at this
  refine ⟨?_, this.2⟩
  rcases this.1 with h | h
  · exact .inl (Nat.le_of_ble_eq_true h)
  · exact .inr (Nat.le_of_ble_eq_true h)
 let inp : Nat → Int := fun r => if r < f0 then ρ r else v.getD (r - f0) 0
 let ap : Nat → Nat → Int := fun n => Nat.rec inp (fun _ f r => if r < f0 + k then inp r else match T.defs.get r with | none => inp r | some d => d.ev f) n
 have ap1 : ∀ n r, ap (n + 1) r = if r < f0 + k then inp r else match T.defs.get r with | none => inp r | some d => d.ev (ap n) := fun n r => rfl
 have stable : ∀ r n, r < n → ap n r = ap (r + 1) r := by
  intro r
  induction r using Nat.strongRecOn with
  | _ r ih =>
   intro n hn
   obtain ⟨n, rfl⟩ : ∃ m, n = m + 1 := ⟨n - 1, by omega⟩
   rw [ap1, ap1]
   split
   · rfl
   · cases hr : T.defs.get r with
     | none => rfl
     | some d =>
      simp only
      unfold D.ev
      rw [ev_congr (n := r) (fun s hs => ?_) (hd r d hr).2]
      rw [ih s hs n (by omega), ih s hs r hs]
 refine ⟨fun r => ap (r + 1) r, fun r hr => ?_, fun j hj => ?_, fun r d hr => ?_⟩
 · simp only [ap1]
   rw [if_pos (by omega)]
   show inp r = ρ r
   exact if_pos hr
 · simp only [ap1]
   rw [if_pos (by omega)]
   show inp (f0 + j) = _
   have : inp (f0 + j) = v.getD (f0 + j - f0) 0 := if_neg (by omega)
   rw [this, Nat.add_sub_cancel_left]
 · simp only [ap1]
   rcases (hd r d hr).1 with h | h
   · rw [if_pos (by omega)]
     have : inp r = ρ r := if_pos h
     rw [this, hs r d h hr]
     unfold D.ev
     rw [ev_congr (n := r) (fun s hs' => ?_) (hd r d hr).2]
     have e1 : ap (s + 1) s = inp s := by rw [ap1]; exact if_pos (by omega)
     have e2 : inp s = ρ s := if_pos (by omega)
     exact (e1.trans e2).symm
   · rw [if_neg (by omega), hr]
     simp only
     unfold D.ev
     rw [ev_congr (n := r) (fun s hs' => ?_) (hd r d hr).2]
     exact stable s r hs'
/-! ### The leaf that is taken -/
def Tree.pickL (ρ : Nat → Int) : Tree → Ex × St
 | .leaf e st => (e, st)
 | .node r a b => if ρ r = 1 then a.pickL ρ else b.pickL ρ
theorem sat_pickL {ρ : Nat → Int} {L : Ex → St → Prop} : ∀ {t : Tree}, t.sat ρ L ↔ L (t.pickL ρ).1 (t.pickL ρ).2
 | .leaf e st => Iff.rfl
 | .node r a b => by
  unfold Tree.sat Tree.pickL
  split
  · exact sat_pickL
  · exact sat_pickL
theorem prune_sat {ρ : Nat → Int} {L : Ex → St → Prop} : ∀ {t t' : Tree}, prune t = some t' → t'.sat ρ L → (t.pickL ρ).1 ≠ .normal → L (t.pickL ρ).1 (t.pickL ρ).2
 | .leaf e st, t', h, hL, hn => by
  cases e with
  | normal => exact absurd rfl hn
  | leave id => cases h; exact hL
  | ret => cases h; exact hL
 | .node r a b, t', h, hL, hn => by
  have none_normal : ∀ {t : Tree}, prune t = none → (t.pickL ρ).1 = .normal := by
   intro t
   induction t with
   | leaf e st => intro h; cases e <;> first | rfl | cases h
   | node r a b iha ihb =>
    intro h
    unfold prune at h
    split at h <;> try (cases h; done)
    rename_i ha hb
    unfold Tree.pickL
    split
    · exact iha ha
    · exact ihb hb
  unfold prune at h
  unfold Tree.pickL at hn ⊢
  split at h
  · rename_i a' b' ha hb
    cases h
    unfold Tree.sat at hL
    by_cases hr : ρ r = 1
    · rw [if_pos hr] at hL hn ⊢; exact prune_sat ha hL hn
    · rw [if_neg hr] at hL hn ⊢; exact prune_sat hb hL hn
  · rename_i a' ha hb
    cases h
    by_cases hr : ρ r = 1
    · rw [if_pos hr] at hn ⊢; exact prune_sat ha hL hn
    · rw [if_neg hr] at hn; exact absurd (none_normal hb) hn
  · rename_i b' ha hb
    cases h
    by_cases hr : ρ r = 1
    · rw [if_pos hr] at hn; exact absurd (none_normal ha) hn
    · rw [if_neg hr] at hn ⊢; exact prune_sat hb hL hn
  · cases h
/-! ### The round is the program's step -/
def EnvOK (ρ : Nat → Int) (m : List X) (env : List Int) : Prop := ∀ r, r < env.length → ∃ x, m[r]? = some x ∧ env.getD r 0 = x.ev ρ
section
variable {ρ : Nat → Int} {m : List X}
theorem locXs_below {m : List X} : ∀ {l a : List X}, locXs m l = some a → allBelow m.length l = true
 | [], _, _ => rfl
 | x :: l, a, h => by
  unfold locXs at h
  split at h
  · rename_i y r hy hr
    unfold allBelow
    rw [locXs_below hr, Bool.and_true]
    cases x with
    | lit n => rfl
    | reg q =>
     have hy : m[q]? = some y := hy
     exact Nat.ble_eq_true_of_le (List.getElem?_eq_some_iff.1 hy).1
  · cases h
theorem locX_lev {env : List Int} (h : EnvOK ρ m env) {x y : X} (hx : locX m x = some y) (hb : x.below env.length = true) : lev env x = y.ev ρ := by
 cases x with
 | lit n => cases hx; rfl
 | reg r =>
  have hr : r < env.length := Nat.le_of_ble_eq_true hb
  obtain ⟨z, hz, e⟩ := h r hr
  have hx : m[r]? = some y := hx
  rw [hx] at hz; cases hz
  exact e
theorem locXs_lev {env : List Int} (h : EnvOK ρ m env) : ∀ {l a : List X}, locXs m l = some a → allBelow env.length l = true → l.map (lev env) = a.map (X.ev ρ)
 | [], a, hx, _ => by cases hx; rfl
 | x :: l, a, hx, hb => by
  unfold locXs at hx
  simp only [allBelow, Bool.and_eq_true] at hb
  split at hx
  · rename_i y r hy hr
    cases hx
    simp only [List.map_cons]
    rw [locX_lev h hy hb.1, locXs_lev h hr hb.2]
  · cases hx
theorem opF_low {id : Nat} {d : D} (hl : lowId id d = true) (hid : id ≤ progs.length) (l : List Int) (hd : ∀ n a, d.a = .lit (.ofNat n) :: a → ∃ r, l = (n : Int) :: r) :
  opP opB (progs.take id).reverse d.f l = opF d.f l := by
 unfold lowId at hl
 by_cases h70 : d.f = 70
 · rw [h70] at hl ⊢
   simp only [Nat.beq_refl] at hl
   split at hl
   · rename_i n a ha
     obtain ⟨r, rfl⟩ := hd n a ha
     have hn : n < id := Nat.le_of_ble_eq_true hl
     rw [opF_70]
     have e : progs.reverse = (progs.drop id).reverse ++ (progs.take id).reverse := by rw [← List.reverse_append, List.take_append_drop]
     rw [e, opP_low _ _ (by simp; omega)]
   · cases hl
 · rw [opP_base h70]
   unfold opF
   split
   · rename_i h; exact absurd h h70
   · rfl
theorem runDs_ok {T1 : Tab} {id : Nat} (hs : Sat ρ T1) (hid : id ≤ progs.length) : ∀ {ds : List D} {env : List Int}, dsChk T1 id m env.length ds = true → EnvOK ρ m env →
  EnvOK ρ m (runDs (opP opB (progs.take id).reverse) ds env) ∧ (runDs (opP opB (progs.take id).reverse) ds env).length = env.length + ds.length
 | [], env, _, he => ⟨he, rfl⟩
 | d :: ds, env, h, he => by
  unfold dsChk at h
  split at h
  · rename_i r a hm ha
    split at h
    · rename_i e hr
      simp only [Bool.and_eq_true] at h
      obtain ⟨h1, h2, h3, h4, h5⟩ := h
      have hv := locXs_lev he ha h4
      have hval : opP opB (progs.take id).reverse d.f (d.a.map (lev env)) = ρ r := by
       rw [opF_low h3 hid _ (fun n a' e' => by rw [e']; exact ⟨_, rfl⟩), hv, hs r e hr]
       unfold D.ev
       rw [Nat.eq_of_beq_eq_true h1, xsBeq_eq h2]
      have hlen : (env ++ [opP opB (progs.take id).reverse d.f (d.a.map (lev env))]).length = env.length + 1 := by simp
      have he' : EnvOK ρ m (env ++ [opP opB (progs.take id).reverse d.f (d.a.map (lev env))]) := by
       intro q hq
       rw [hlen] at hq
       by_cases hlt : q < env.length
       · obtain ⟨x, hx, e1⟩ := he q hlt
         refine ⟨x, hx, ?_⟩
         rw [List.getD_eq_getElem?_getD, List.getElem?_append_left hlt, ← List.getD_eq_getElem?_getD]
         exact e1
       · have : q = env.length := by omega
         subst this
         refine ⟨.reg r, hm, ?_⟩
         rw [List.getD_eq_getElem?_getD, List.getElem?_append_right (Nat.le_refl _)]
         simp only [Nat.sub_self, List.getElem?_cons_zero, Option.getD_some]
         exact hval
      unfold runDs
      obtain ⟨k1, k2⟩ := runDs_ok (ds := ds) hs hid (by rw [hlen]; exact h5) he'
      refine ⟨k1, ?_⟩
      rw [k2, hlen, List.length_cons]; omega
    · cases h
  · cases h
theorem psXs_length {st : St} : ∀ {lv : List Ps} {a : List X}, psXs st lv = some a → a.length = lv.length
 | [], a, h => by cases h; rfl
 | p :: l, a, h => by
  unfold psXs at h
  split at h
  · rename_i x m _ hm
    cases h
    simp [psXs_length hm]
  · cases h
theorem trChk_ok {lv : List Ps} {env : List Int} (he : EnvOK ρ m env) (hlen : env.length = m.length) : ∀ {lt : LT} {t : Tree}, trChk m lv lt t = true →
  (lt.go env = none ∧ (t.pickL ρ).1 ≠ .normal) ∨ (∃ outs, (t.pickL ρ).1 = .normal ∧ psXs (t.pickL ρ).2 lv = some outs ∧ lt.go env = some (outs.map (X.ev ρ)))
 | .stop, .leaf e st, h => by
  refine .inl ⟨rfl, ?_⟩
  cases e <;> first | (cases h; done) | (intro hh; cases hh)
 | .next outs, .leaf .normal st, h => by
  unfold trChk at h
  split at h
  · rename_i a b ha hb
    have e := xsBeq_eq h
    subst e
    refine .inr ⟨a, rfl, ha, ?_⟩
    show some _ = some _
    congr 1
    have hbel : ∀ {l a : List X}, locXs m l = some a → allBelow env.length l = true := by
     intro l
     induction l with
     | nil => intro a _; rfl
     | cons x l ih =>
      intro a h
      unfold locXs at h
      split at h
      · rename_i y r hy hr
        simp only [allBelow, Bool.and_eq_true]
        refine ⟨?_, ih hr⟩
        cases x with
        | lit n => rfl
        | reg q =>
         have hy : m[q]? = some y := hy
         have := (List.getElem?_eq_some_iff.1 hy).1
         rw [hlen]
         exact Nat.ble_eq_true_of_le this
      · cases h
    exact locXs_lev he hb (hbel hb)
  · cases h
 | .node r a b, .node q x y, h => by
  unfold trChk at h
  split at h
  · rename_i q' hq
    simp only [Bool.and_eq_true] at h
    obtain ⟨h1, h2, h3⟩ := h
    have e := Nat.eq_of_beq_eq_true h1
    subst e
    have hr : r < env.length := by rw [hlen]; exact (List.getElem?_eq_some_iff.1 hq).1
    obtain ⟨z, hz, ev⟩ := he r hr
    rw [hq] at hz; cases hz
    have ev : env.getD r 0 = ρ q := ev
    unfold LT.go Tree.pickL
    rw [ev]
    by_cases hc : ρ q = 1
    · rw [if_pos hc, if_pos hc]; exact trChk_ok he hlen h2
    · rw [if_neg hc, if_neg hc]; exact trChk_ok he hlen h3
  · cases h
 | .stop, .node _ _ _, h => by cases h
 | .next _, .leaf (.leave _) _, h => by cases h
 | .next _, .leaf .ret _, h => by cases h
 | .next _, .node _ _ _, h => by cases h
 | .node _ _ _, .leaf _ _, h => by cases h
theorem trIn_ok {T : Tab} (hs : Sat ρ T) {lv : List Ps} {want : Option (List X)} : ∀ {n : Nat} {t : Tree} {fa : Tr Bool}, trIn T lv want n t fa = true → Facts ρ fa →
  (want = none ∧ (t.pickL ρ).1 ≠ .normal) ∨ (∃ outs, want = some outs ∧ (t.pickL ρ).1 = .normal ∧ psXs (t.pickL ρ).2 lv = some outs)
 | 0, _, _, h, _ => by unfold trIn at h; cases h
 | n + 1, .leaf .normal st, fa, h, hf => by
  unfold trIn at h
  rw [Bool.or_eq_true] at h
  rcases h with h | h
  · split at h
    · rename_i a b hb
      have e := xsBeq_eq h
      subst e
      exact .inr ⟨a, rfl, rfl, hb⟩
    · cases h
  · exact (dead_spec hs hf h).elim
 | n + 1, .leaf (.leave id) st, fa, h, hf => by
  unfold trIn at h
  rw [Bool.or_eq_true] at h
  rcases h with h | h
  · split at h
    · exact .inl ⟨rfl, by intro hh; cases hh⟩
    · cases h
  · exact (dead_spec hs hf h).elim
 | n + 1, .leaf .ret st, fa, h, hf => by
  unfold trIn at h
  rw [Bool.or_eq_true] at h
  rcases h with h | h
  · split at h
    · exact .inl ⟨rfl, by intro hh; cases hh⟩
    · cases h
  · exact (dead_spec hs hf h).elim
 | n + 1, .node q a b, fa, h, hf => by
  unfold trIn at h
  have both : ∀ r, (trIn T lv want n (.node q a b) (learnX T fuelD fa (.reg r) true) && trIn T lv want n (.node q a b) (learnX T fuelD fa (.reg r) false)) = true →
    (want = none ∧ ((Tree.node q a b).pickL ρ).1 ≠ .normal) ∨ (∃ outs, want = some outs ∧ ((Tree.node q a b).pickL ρ).1 = .normal ∧ psXs ((Tree.node q a b).pickL ρ).2 lv = some outs) := by
   intro r h
   simp only [Bool.and_eq_true] at h
   by_cases h1 : ρ r = 1
   · exact trIn_ok hs h.1 (learnX_spec hs fuelD hf (by show (ρ r == 1) = true; simpa using h1))
   · exact trIn_ok hs h.2 (learnX_spec hs fuelD hf (by show (ρ r == 1) = false; simpa using h1))
  split at h
  · rename_i hd
    have := decideX_spec hs hf (.reg q)
    rw [hd] at this
    have this : (ρ q == 1) = true := this
    unfold Tree.pickL
    rw [if_pos (by simpa using this)]
    exact trIn_ok hs h hf
  · rename_i hd
    have := decideX_spec hs hf (.reg q)
    rw [hd] at this
    have this : (ρ q == 1) = false := this
    unfold Tree.pickL
    rw [if_neg (by simpa using this)]
    exact trIn_ok hs h hf
  · exact both _ h
  · exact both _ h
theorem trEq_ok {T : Tab} (hs : Sat ρ T) {lv : List Ps} {env : List Int} (he : EnvOK ρ m env) (hlen : env.length = m.length) {t : Tree} : ∀ {lt : LT} {fa : Tr Bool}, trEq T m lv t lt fa = true → Facts ρ fa →
  (lt.go env = none ∧ (t.pickL ρ).1 ≠ .normal) ∨ (∃ outs, (t.pickL ρ).1 = .normal ∧ psXs (t.pickL ρ).2 lv = some outs ∧ lt.go env = some (outs.map (X.ev ρ)))
 | .stop, fa, h, hf => by
  unfold trEq at h
  rcases trIn_ok hs h hf with ⟨_, h1⟩ | ⟨outs, h1, _, _⟩
  · exact .inl ⟨rfl, h1⟩
  · cases h1
 | .next outs, fa, h, hf => by
  unfold trEq at h
  split at h
  · rename_i b hb
    rcases trIn_ok hs h hf with ⟨h1, _⟩ | ⟨outs', h1, h2, h3⟩
    · cases h1
    · cases h1
      refine .inr ⟨b, h2, h3, ?_⟩
      show some (outs.map (lev env)) = some _
      rw [locXs_lev he hb (by rw [hlen]; exact locXs_below hb)]
  · cases h
 | .node r a b, fa, h, hf => by
  unfold trEq at h
  split at h
  · rename_i x hx
    simp only [Bool.and_eq_true] at h
    have hr : r < env.length := by rw [hlen]; exact (List.getElem?_eq_some_iff.1 hx).1
    obtain ⟨z, hz, e⟩ := he r hr
    rw [hx] at hz; cases hz
    unfold LT.go
    rw [e]
    by_cases h1 : x.ev ρ = 1
    · rw [if_pos h1]
      exact trEq_ok hs he hlen h.1 (learnX_spec hs fuelD hf (by simpa using h1))
    · rw [if_neg h1]
      exact trEq_ok hs he hlen h.2 (learnX_spec hs fuelD hf (by simpa using h1))
  · cases h
theorem leafChk_ok {f0 : Nat} {hh : Hint} {G : St} {s q : Nat} : ∀ {t : Tree} {seen : Bool}, leafChk f0 hh G s q seen t = true → (seen = true → ρ q = 1) → (t.pickL ρ).1 = .normal →
  ρ q = 1 ∧ ∃ outs, psXs (t.pickL ρ).2 hh.lv = some outs ∧ matchSt f0 (rnOf hh.gr G (t.pickL ρ).2) outs G (t.pickL ρ).2 = true ∧ outs[hh.ctr]? = some (.reg s)
 | .leaf .normal st, seen, h, hq, _ => by
  unfold leafChk at h
  simp only [Bool.and_eq_true] at h
  obtain ⟨h1, h2⟩ := h
  refine ⟨hq h1, ?_⟩
  split at h2
  · rename_i outs ho
    simp only [Bool.and_eq_true] at h2
    obtain ⟨h3, h4⟩ := h2
    split at h4
    · rename_i o hoo
      exact ⟨outs, ho, h3, by rw [hoo, X.beq_eq h4]⟩
    · cases h4
  · cases h2
 | .leaf (.leave id) st, seen, h, hq, hn => by cases hn
 | .leaf .ret st, seen, h, hq, hn => by cases hn
 | .node r a b, seen, h, hq, hn => by
  unfold leafChk at h
  simp only [Bool.and_eq_true] at h
  unfold Tree.pickL at hn ⊢
  by_cases hc : ρ r = 1
  · rw [if_pos hc] at hn ⊢
    refine leafChk_ok h.1 (fun hs => ?_) hn
    simp only [Bool.or_eq_true] at hs
    rcases hs with hs | hs
    · exact hq hs
    · rw [← Nat.eq_of_beq_eq_true hs]; exact hc
  · rw [if_neg hc] at hn ⊢
    exact leafChk_ok h.2 hq hn
end
end Go.Sx

namespace Go.Sx
open Go.RowKit
section
variable {ρ : Nat → Int}
theorem runDs_head {op : Nat → List Int → Int} : ∀ {ds : List D} {env : List Int}, 0 < env.length → (runDs op ds env).getD 0 0 = env.getD 0 0
 | [], _, _ => rfl
 | d :: ds, env, h => by
  unfold runDs
  rw [runDs_head (by simp)]
  cases env with
  | nil => cases h
  | cons a l => rfl
theorem envOK_self (m : List X) : EnvOK ρ m (m.map (X.ev ρ)) := by
 intro r hr
 have hr : r < m.length := by simpa using hr
 exact ⟨m[r], List.getElem?_eq_getElem hr, by rw [List.getD_eq_getElem?_getD, List.getElem?_map, List.getElem?_eq_getElem hr]; rfl⟩
theorem instI_spec : ∀ {ds : List D} {m m' : List X} {T T' : Tab}, instI ds m T = some (T', m') → Sat ρ T' → Sat ρ T ∧ m'.map (X.ev ρ) = runDs opF ds (m.map (X.ev ρ))
 | [], m, m', T, T', h, hs => by unfold instI at h; cases h; exact ⟨hs, rfl⟩
 | d :: ds, m, m', T, T', h, hs => by
  unfold instI at h
  split at h
  · rename_i a ha
    split at h
    · rename_i T1 y hy
      obtain ⟨s1, e1⟩ := instI_spec h hs
      obtain ⟨s0, e0⟩ := mk_spec hy s1
      refine ⟨s0, ?_⟩
      rw [e1]
      conv => rhs; unfold runDs
      rw [locXs_lev (envOK_self m) ha (by rw [List.length_map]; exact locXs_below ha), List.map_append, ← e0]
      rfl
    · cases h
  · cases h
def ivSem (h : Hint) (env : List Int) : Prop := ∀ j b, (j, b) ∈ h.ib → ((runDs opF h.iv env).getD j 0 == 1) = b
theorem at_ev {m : List X} {j : Nat} {x : X} (h : m[j]? = some x) : (m.map (X.ev ρ)).getD j 0 = x.ev ρ := by
 rw [List.getD_eq_getElem?_getD, List.getElem?_map, h]; rfl
theorem ivYes_spec {T : Tab} (hs : Sat ρ T) {fa : Tr Bool} (hf : Facts ρ fa) {m : List X} : ∀ {l : List (Nat × Bool)}, ivYes T fa m l = true → ∀ j b, (j, b) ∈ l → ((m.map (X.ev ρ)).getD j 0 == 1) = b
 | [], _, _, _, hm => by cases hm
 | (q, c) :: l, h, j, b, hm => by
  unfold ivYes at h
  split at h
  · rename_i x hx
    split at h
    · rename_i c' hd
      simp only [Bool.and_eq_true, beq_iff_eq] at h
      rcases List.mem_cons.1 hm with e | hm
      · cases e
        rw [at_ev hx]
        have := decideX_spec hs hf x
        rw [hd] at this
        rw [← h.1]
        exact this
      · exact ivYes_spec hs hf h.2 j b hm
    · cases h
  · cases h
theorem ivPut_spec {T : Tab} (hs : Sat ρ T) {m : List X} : ∀ {l : List (Nat × Bool)} {fa fa' : Tr Bool}, ivPut T m l fa = some fa' → Facts ρ fa → (∀ j b, (j, b) ∈ l → ((m.map (X.ev ρ)).getD j 0 == 1) = b) → Facts ρ fa'
 | [], fa, fa', h, hf, _ => by unfold ivPut at h; cases h; exact hf
 | (q, c) :: l, fa, fa', h, hf, hm => by
  unfold ivPut at h
  split at h
  · rename_i x hx
    refine ivPut_spec hs h (learnX_spec hs fuelD hf ?_) fun j b hj => hm j b (List.mem_cons_of_mem _ hj)
    rw [← at_ev hx]
    exact hm q c List.mem_cons_self
  · cases h
theorem ivIn_spec {h : Hint} {xs : List X} {T T' : Tab} {fa : Tr Bool} (hi : ivIn h xs T fa = some T') (hs : Sat ρ T') : Sat ρ T ∧ (Facts ρ fa → ivSem h ((xs ++ h.st).map (X.ev ρ))) := by
 unfold ivIn at hi
 split at hi
 · rename_i hb
   cases hi
   refine ⟨hs, fun _ j b hm => ?_⟩
   rw [hb] at hm; cases hm
 · split at hi
   · rename_i T1 m hm
     split at hi
     · rename_i hy
       cases hi
       obtain ⟨s0, e⟩ := instI_spec hm hs
       refine ⟨s0, fun hf j b hj => ?_⟩
       rw [← e]
       exact ivYes_spec hs hf hy j b hj
     · cases hi
   · cases hi
theorem ivHead_spec {h : Hint} {xs : List X} {T T' : Tab} {fa fa' : Tr Bool} (hi : ivHead h xs T fa = some (T', fa')) (hs : Sat ρ T') :
  Sat ρ T ∧ (Facts ρ fa → ivSem h ((xs ++ h.st).map (X.ev ρ)) → Facts ρ fa') := by
 unfold ivHead at hi
 split at hi
 · cases hi
   exact ⟨hs, fun hf _ => hf⟩
 · split at hi
   · rename_i T1 m hm
     split at hi
     · rename_i fa1 hp
       cases hi
       obtain ⟨s0, e⟩ := instI_spec hm hs
       refine ⟨s0, fun hf hv => ivPut_spec hs hp hf fun j b hj => ?_⟩
       rw [e]
       exact hv j b hj
     · cases hi
   · cases hi
theorem ivT_spec {h : Hint} : ∀ {t : Tree} {T T' : Tab}, ivT h t T = some T' → Sat ρ T' →
  Sat ρ T ∧ ((t.pickL ρ).1 = .normal → Facts ρ (t.pickL ρ).2.fa → ∀ outs, psXs (t.pickL ρ).2 h.lv = some outs → ivSem h ((outs ++ h.st).map (X.ev ρ)))
 | .leaf e st, T, T', hi, hs => by
  unfold ivT at hi
  split at hi
  · rename_i st' e'
    cases e'
    split at hi
    · rename_i outs ho
      obtain ⟨s0, k⟩ := ivIn_spec hi hs
      refine ⟨s0, fun _ hf outs' ho' => ?_⟩
      have ho' : psXs st h.lv = some outs' := ho'
      rw [ho] at ho'; cases ho'
      exact k hf
    · cases hi
  · rename_i e' st' hne e''
    cases e''
    cases hi
    exact ⟨hs, fun hn => absurd hn hne⟩
  · rename_i e''
    cases e''
 | .node r a b, T, T', hi, hs => by
  unfold ivT at hi
  split at hi
  · rename_i T1 h1
    obtain ⟨s1, k2⟩ := ivT_spec hi hs
    obtain ⟨s0, k1⟩ := ivT_spec h1 s1
    refine ⟨s0, ?_⟩
    unfold Tree.pickL
    split
    · exact k1
    · exact k2
  · cases hi
/-! ### What an earlier loop has found -/
theorem ltStop_go {env : List Int} : ∀ {t : LT}, ltStop t = true → t.go env = none
 | .stop, _ => rfl
 | .next _, h => by cases h
 | .node r a b, h => by
  simp only [ltStop, Bool.and_eq_true] at h
  unfold LT.go
  split
  · exact ltStop_go h.1
  · exact ltStop_go h.2
theorem scanF_spec {T : Tab} (hs : Sat ρ T) {m : List X} : ∀ {t : LT} {fa : Tr Bool}, Facts ρ fa → t.go (m.map (X.ev ρ)) ≠ none → Facts ρ (scanF m T t fa)
 | .stop, fa, hf, _ => hf
 | .next _, fa, hf, _ => hf
 | .node r a b, fa, hf, hg => by
  unfold LT.go at hg
  unfold scanF
  split
  · rename_i x hx
    rw [at_ev hx] at hg
    split
    · rename_i ha hb
      rw [ltStop_go ha] at hg
      by_cases h1 : x.ev ρ = 1
      · rw [if_pos h1] at hg; exact absurd rfl hg
      · rw [if_neg h1] at hg
        exact scanF_spec hs (learnX_spec hs fuelD hf (by simpa using h1)) hg
    · rename_i ha hb
      rw [ltStop_go hb] at hg
      by_cases h1 : x.ev ρ = 1
      · rw [if_pos h1] at hg
        exact scanF_spec hs (learnX_spec hs fuelD hf (by simpa using h1)) hg
      · rw [if_neg h1] at hg; exact absurd rfl hg
    · exact hf
  · exact hf
theorem runDs_low {id : Nat} (hid : id ≤ progs.length) : ∀ {ds : List D} {env : List Int}, lowIds id ds = true → runDs (opP opB (progs.take id).reverse) ds env = runDs opF ds env
 | [], _, _ => rfl
 | d :: ds, env, h => by
  simp only [lowIds, Bool.and_eq_true] at h
  unfold runDs
  rw [opF_low h.1 hid _ (fun n a e => by rw [e]; exact ⟨_, rfl⟩), runDs_low hid h.2]
theorem scanOut_go {s : Nat} {env : List Int} : ∀ {t : LT} {out : List Int}, scanOut s t = true → t.go env = some out → out = [env.getD s 0]
 | .stop, _, _, h => by cases h
 | .next l, out, hs, h => by
  unfold scanOut at hs
  split at hs
  · cases ‹LT.next l = _›
  · rename_i r e
    cases e
    have := Nat.eq_of_beq_eq_true hs
    subst this
    cases h
    rfl
  · cases hs
  · cases ‹LT.next l = _›
 | .node r a b, out, hs, h => by
  simp only [scanOut, Bool.and_eq_true] at hs
  unfold LT.go at h
  split at h
  · exact scanOut_go hs.1 h
  · exact scanOut_go hs.2 h
theorem scan_some {step : List Int → Option (List Int)} (hstep : ∀ x out, step [x] = some out → out = [IntKind.i64.wrap (x + 1)]) {i : Int} (hi : i ≤ 9223372036854775806) :
  ∀ {n : Nat} {x : Int} {c : List Int}, 0 ≤ x → x ≤ i → itn step n [x] = some c → i < c.getD 0 0 → step [i] ≠ none
 | 0, x, c, _, hx, h, hc => by
  cases h
  have hc : i < x := hc
  omega
 | n + 1, x, c, h0, hx, h, hc => by
  unfold itn at h
  split at h
  · rename_i out ho
    by_cases e : x = i
    · subst e; rw [ho]; simp
    · have := hstep x out ho
      subst this
      have hw : IntKind.i64.wrap (x + 1) = x + 1 := Go.IntWalk.i64_in _ (by omega)
      rw [hw] at h
      exact scan_some hstep hi (by omega) (by omega) h hc
  · cases h
theorem scan_fin {step : List Int → Option (List Int)} (hstep : ∀ x out, step [x] = some out → out = [IntKind.i64.wrap (x + 1)]) {i : Int} (hi : i ≤ 9223372036854775806) (h0 : 0 ≤ i)
  (h : i < (fin step [0]).getD 0 0) : step [i] ≠ none := by
 by_cases hx : ∃ b n, itn step n [0] = some b ∧ step b = none
 · obtain ⟨b, n, h1, h2⟩ := hx
   rw [fin_of h1 h2] at h
   exact scan_some hstep hi (Int.le_refl 0) h0 h1 h
 · unfold fin at h
   rw [dif_neg hx] at h
   have h : i < 0 := h
   omega
theorem scanP_step {id : Nat} (hid : id ≤ progs.length) {p : Lit} {n : Nat} (h : scanP id p n = true) {s : List Int} (hn : s.length = n) :
  p.k = 1 ∧ lowIds id p.ds = true ∧ ∀ x out, p.step (opP opB (progs.take id).reverse) s [x] = some out → out = [IntKind.i64.wrap (x + 1)] := by
 unfold scanP at h
 split at h
 · rename_i q hq
   split at h
   · rename_i d hd
     simp only [Bool.and_eq_true] at h
     obtain ⟨⟨h1, h2⟩, h3, h4, h5⟩ := h
     have h1 := D.beq_eq h1
     have h2 : n < q := Nat.le_of_ble_eq_true h2
     refine ⟨Nat.eq_of_beq_eq_true h3, h5, fun x out ho => ?_⟩
     have ho : p.tr.go (runDs (opP opB (progs.take id).reverse) p.ds ([x] ++ s)) = some out := ho
     rw [scanOut_go h4 ho]
     obtain ⟨env', e1, _, e2⟩ := runDs_old (op := opP opB (progs.take id).reverse) (env := [x] ++ s) hd
     have hl : ([x] ++ s).length = n + 1 := by simp [hn]
     rw [hl, show n + 1 + (q - (n + 1)) = q by omega] at e2
     rw [e2, h1]
     have e0 := e1 0 (by omega)
     show [opP opB (progs.take id).reverse 31 [3, env'.getD 0 0, 1]] = _
     rw [e0, opP_base (by omega)]
     rfl
   · cases h
 · cases h
theorem scanOne_spec {i : X} {b e : Nat} {T T' : Tab} {fa fa' : Tr Bool} (h : scanOne i b T fa e = some (T', fa')) (hs : Sat ρ T') :
  Sat ρ T ∧ (Facts ρ fa → ρ b ≤ 9223372036854775807 → Facts ρ fa') := by
 unfold scanOne at h
 split at h
 case h_2 => cases h
 rename_i f id sts hd
 split at h
 case h_2 => cases h
 rename_i p q q0 q1 hp hq hq0 hq1
 split at h
 case h_2 => cases h
 rename_i fq fq0 fq1 hc
 split at h
 case h_2 => cases h
 rename_i T1 m hm
 cases h
 obtain ⟨s0, em⟩ := instI_spec hm hs
 refine ⟨s0, fun hf hb => scanF_spec hs hf ?_⟩
 simp only [Bool.and_eq_true] at hc
 obtain ⟨c1, c2⟩ := hc
 have c1 := Nat.eq_of_beq_eq_true c1
 subst c1
 have hid : id ≤ progs.length := by have := (List.getElem?_eq_some_iff.1 hp).1; omega
 obtain ⟨k1, k2, k3⟩ := scanP_step hid c2 (s := sts.map (X.ev ρ)) (by simp)
 have vq : ρ q = b2i (decide (ρ e < ρ b)) := s0 q _ (findReg_spec _ _ _ _ hq)
 have vq0 : ρ q0 = b2i (decide (i.ev ρ < 0)) := s0 q0 _ (findReg_spec _ _ _ _ hq0)
 have vq1 : ρ q1 = b2i (decide (i.ev ρ < ρ b)) := s0 q1 _ (findReg_spec _ _ _ _ hq1)
 have f1 := hf q _ fq
 rw [vq, b2i_eq] at f1
 have f1 := of_decide_eq_false f1
 have f2 := hf q0 _ fq0
 rw [vq0, b2i_eq] at f2
 have f2 := of_decide_eq_false f2
 have f3 := hf q1 _ fq1
 rw [vq1, b2i_eq] at f3
 have f3 := of_decide_eq_true f3
 have ve : ρ e = opF 70 ((id : Int) :: (0 : Int) :: (0 : Int) :: sts.map (X.ev ρ)) := s0 e _ hd
 rw [opF_prog hp] at ve
 have ve : ρ e = (fin (p.step (opP opB (progs.take id).reverse) (((0 : Int) :: sts.map (X.ev ρ)).drop p.k)) (((0 : Int) :: sts.map (X.ev ρ)).take p.k)).getD 0 0 := ve
 rw [k1] at ve
 have ve : ρ e = (fin (p.step (opP opB (progs.take id).reverse) (sts.map (X.ev ρ))) [0]).getD 0 0 := ve
 have := scan_fin k3 (i := i.ev ρ) (by omega) (by omega) (by rw [← ve]; omega)
 rw [em, List.map_cons]
 intro e1
 apply this
 show p.tr.go (runDs (opP opB (progs.take id).reverse) p.ds ([i.ev ρ] ++ sts.map (X.ev ρ))) = none
 rw [runDs_low hid k2]
 exact e1
theorem scans_spec {i : X} {b : Nat} : ∀ {l : List Nat} {T T' : Tab} {fa fa' : Tr Bool}, scans i b l T fa = some (T', fa') → Sat ρ T' → Sat ρ T ∧ (Facts ρ fa → ρ b ≤ 9223372036854775807 → Facts ρ fa')
 | [], T, T', fa, fa', h, hs => by unfold scans at h; cases h; exact ⟨hs, fun hf _ => hf⟩
 | e :: l, T, T', fa, fa', h, hs => by
  unfold scans at h
  split at h
  · rename_i T1 fa1 h1
    obtain ⟨s1, k2⟩ := scans_spec h hs
    obtain ⟨s0, k1⟩ := scanOne_spec h1 s1
    exact ⟨s0, fun hf hb => k2 (k1 hf hb) hb⟩
  · cases h
end
theorem scanRec_ok {P : Program} {ρ : Nat → Int} {rec : Code → Tab → St → Option (Tab × Tree)} (hrec : RecOK P ρ rec) (es : List Nat) (i L : X) : RecOK P ρ (scanRec rec es i L) := by
 intro c T st T' t h hs
 unfold scanRec at h
 split at h
 · exact hrec c T st T' t h hs
 · split at h
   · rename_i _ b nt fr nb bs fa hb
     split at h
     · rename_i T1 lt h1
       split at h
       · rename_i T2 fa2 h2
         split at h
         · rename_i T3 ta h3
           split at h
           · rename_i T4 tb h4
             cases h
             obtain ⟨s3, k4⟩ := hrec _ _ _ _ _ h4 hs
             obtain ⟨s2, k3⟩ := hrec _ _ _ _ _ h3 s3
             obtain ⟨s1, k2⟩ := scans_spec h2 s2
             obtain ⟨s0, v1⟩ := mk_spec h1 s1
             refine ⟨s0, fun w0 μ a w Q hw ht => ?_⟩
             have hbm : ρ b ≤ 9223372036854775807 := by
              rw [s0 b _ (findReg_spec _ _ _ _ hb)]
              show ((min (decE (L.ev ρ)).length 9223372036854775807 : Nat) : Int) ≤ _
              have := Nat.min_le_right (decE (L.ev ρ)).length 9223372036854775807
              omega
             unfold Tree.sat at ht
             by_cases hl : ρ lt = 1
             · rw [if_pos hl] at ht
               exact k3 w0 μ a w Q ⟨hw.defers, hw.fr, hw.wr, k2 (learnX_spec s1 fuelD hw.fa (by show (ρ lt == 1) = true; rw [hl]; rfl)) hbm⟩ ht
             · rw [if_neg hl] at ht
               exact k4 w0 μ a w Q ⟨hw.defers, hw.fr, hw.wr, learnX_spec s3 fuelD hw.fa (by show (ρ lt == 1) = false; simpa using hl)⟩ ht
           · cases h
         · cases h
       · cases h
     · cases h
   · cases h
end Go.Sx

namespace Go.Sx
open Go.RowKit
theorem look_spec {T : Tab} {f r : Nat} {a : List X} (h : look T f a = some r) : T.defs.get r = some ⟨f, a⟩ := findReg_spec _ _ _ _ h
theorem freshX_get : ∀ {k f0 j : Nat} {y : X}, (freshX f0 k)[j]? = some y → y = .reg (f0 + j) ∧ j < k
 | 0, _, _, _, h => by simp [freshX] at h
 | k + 1, f0, 0, y, h => by
  have : X.reg f0 = y := by simpa [freshX] using h
  exact ⟨this.symm, by omega⟩
 | k + 1, f0, j + 1, y, h => by
  obtain ⟨e, hk⟩ := freshX_get (k := k) (f0 := f0 + 1) (j := j) (by simpa [freshX] using h)
  exact ⟨by rw [e]; congr 1; omega, by omega⟩
theorem freshX_at : ∀ {k f0 j : Nat}, j < k → (freshX f0 k)[j]? = some (.reg (f0 + j))
 | 0, _, _, h => by omega
 | k + 1, f0, 0, _ => by simp [freshX]
 | k + 1, f0, j + 1, h => by
  have := freshX_at (k := k) (f0 := f0 + 1) (j := j) (by omega)
  rw [show f0 + (j + 1) = f0 + 1 + j by omega]
  simpa [freshX] using this
theorem freshX_len : ∀ (k f0 : Nat), (freshX f0 k).length = k
 | 0, _ => rfl
 | k + 1, f0 => by simp [freshX, freshX_len k]
section
variable {ρ : Nat → Int}
theorem addFact_spec {T T' : Tab} {x : X} {m : Int} {fa fa' : Tr Bool} (h : addFact x m T fa = some (T', fa')) (hs : Sat ρ T') : Sat ρ T ∧ (Facts ρ fa → m ≤ x.ev ρ → Facts ρ fa') := by
 unfold addFact at h
 split at h
 · rename_i T1 q hm
   cases h
   obtain ⟨s0, hz⟩ := mk_spec hm hs
   refine ⟨s0, fun hf hx => hf.set ?_⟩
   have hz : ρ q = b2i (decide (x.ev ρ < m)) := hz
   rw [hz, b2i_eq]
   exact decide_eq_false (by omega)
 · cases h
theorem addLess_spec {T T' : Tab} {x L : X} {fa fa' : Tr Bool} (h : addLess x L T fa = some (T', fa')) (hs : Sat ρ T') : Sat ρ T ∧ (Facts ρ fa → x.ev ρ < opF 62 [L.ev ρ] → Facts ρ fa') := by
 unfold addLess at h
 split at h
 · rename_i T1 b hb
   split at h
   · rename_i T2 q hm
     cases h
     obtain ⟨s1, hz⟩ := mk_spec hm hs
     obtain ⟨s0, hb'⟩ := mk_spec hb s1
     refine ⟨s0, fun hf hx => hf.set ?_⟩
     have hz : ρ q = b2i (decide (x.ev ρ < b.ev ρ)) := hz
     have hb' : b.ev ρ = opF 62 [L.ev ρ] := hb'
     rw [hz, b2i_eq, hb']
     exact decide_eq_true hx
   · cases h
 · cases h
theorem ctrF_spec {mode : Nat} {lo : Nat} {i L : X} {T T' : Tab} {fa fa' : Tr Bool} (h : ctrF mode lo i L T fa = some (T', fa')) (hs : Sat ρ T') :
  Sat ρ T ∧ (Facts ρ fa → (lo : Int) ≤ i.ev ρ → (mode ≠ 0 → 0 ≤ IntKind.i64.wrap (i.ev ρ + 1)) → (2 ≤ mode → IntKind.i64.wrap (i.ev ρ + 1) < opF 62 [L.ev ρ] ∧ i.ev ρ < opF 62 [L.ev ρ]) → Facts ρ fa') := by
 unfold ctrF at h
 split at h
 case h_2 => cases h
 rename_i T1 fa1 h1
 split at h
 case h_2 => cases h
 rename_i T2 fa2 h2
 split at h
 · cases h
   obtain ⟨s1, k2⟩ := addFact_spec h2 hs
   obtain ⟨s0, k1⟩ := addFact_spec h1 s1
   exact ⟨s0, fun hf hlo _ _ => k2 (k1 hf (by omega)) hlo⟩
 · rename_i m
   split at h
   case h_2 => cases h
   rename_i T3 s h3
   split at h
   case h_2 => cases h
   rename_i T4 fa4 h4
   split at h
   · cases h
     obtain ⟨s3, k4⟩ := addFact_spec h4 hs
     obtain ⟨s2, k3⟩ := mk_spec h3 s3
     obtain ⟨s1, k2⟩ := addFact_spec h2 s2
     obtain ⟨s0, k1⟩ := addFact_spec h1 s1
     refine ⟨s0, fun hf hlo hm _ => k4 (k2 (k1 hf (by omega)) hlo) ?_⟩
     rw [k3]
     exact hm (by omega)
   · split at h
     case h_2 => cases h
     rename_i T5 fa5 h5
     obtain ⟨s5, k6⟩ := addLess_spec h hs
     obtain ⟨s4, k5⟩ := addLess_spec h5 s5
     obtain ⟨s3, k4⟩ := addFact_spec h4 s4
     obtain ⟨s2, k3⟩ := mk_spec h3 s3
     obtain ⟨s1, k2⟩ := addFact_spec h2 s2
     obtain ⟨s0, k1⟩ := addFact_spec h1 s1
     have e : s.ev ρ = IntKind.i64.wrap (i.ev ρ + 1) := k3
     refine ⟨s0, fun hf hlo hm hl => k6 (k5 (k4 (k2 (k1 hf (by omega)) hlo) ?_) ?_) (hl (by omega)).2⟩
     · rw [e]; exact hm (by omega)
     · rw [e]; exact (hl (by omega)).1
theorem defsF_spec {id f0 : Nat} {as : Nat → List X} : ∀ {k : Nat} {T : Tab}, f0 + k ≤ maxReg → (∀ j, j < k → T.defs.get (f0 + j) = none) → Sat ρ (defsF id f0 as k T) →
  Sat ρ T ∧ ∀ j, j < k → ρ (f0 + j) = opF 70 ((id : Int) :: (j : Int) :: (as j).map (X.ev ρ)) := by
 intro k
 have other : ∀ (k : Nat) (T : Tab) (r : Nat), f0 + k ≤ maxReg → (∀ j, j < k → r ≠ f0 + j) → (defsF id f0 as k T).defs.get r = T.defs.get r := by
  intro k
  induction k with
  | zero => intro T r _ _; rfl
  | succ k ih =>
   intro T r hk hr
   unfold defsF
   simp only
   have hb : f0 + k + 1 < 2 ^ fuelT := by unfold maxReg at hk; unfold fuelT; omega
   rw [Tr.get_set_ne _ _ _ _ _ hb (hr k (by omega))]
   exact ih T r (by omega) (fun j hj => hr j (by omega))
 intro T hk hn hs
 refine ⟨fun r d hd => hs r d ?_, fun j hj => ?_⟩
 · rw [other k T r hk (fun j hj e => by rw [e, hn j hj] at hd; cases hd)]
   exact hd
 · have at_ : ∀ (k : Nat) (T : Tab), f0 + k ≤ maxReg → j < k → (defsF id f0 as k T).defs.get (f0 + j) = some ⟨70, .lit id :: .lit j :: as j⟩ := by
    intro k
    induction k with
    | zero => intro T _ h; omega
    | succ k ih =>
     intro T hk hj
     unfold defsF
     simp only
     have hb : f0 + k + 1 < 2 ^ fuelT := by unfold maxReg at hk; unfold fuelT; omega
     by_cases e : j = k
     · subst e; exact Tr.get_set_same _ _ _ _ hb
     · rw [Tr.get_set_ne _ _ _ _ _ hb (by omega)]
       exact ih T (by omega) (by omega)
   have := hs _ _ (at_ k T hk hj)
   rw [this]; rfl
theorem map_fresh {ρ' : Nat → Int} {f0 : Nat} {v : List Int} : ∀ {k : Nat}, v.length = k → (∀ j, j < k → ρ' (f0 + j) = v.getD j 0) → (freshX f0 k).map (X.ev ρ') = v := by
 intro k hk h
 apply List.ext_getElem?
 intro j
 rw [List.getElem?_map]
 by_cases hj : j < k
 · rw [freshX_at hj]
   have := h j hj
   rw [List.getD_eq_getElem?_getD] at this
   have hs : v[j]? = some (v[j]'(by omega)) := List.getElem?_eq_getElem (by omega)
   rw [hs] at this ⊢
   show some (ρ' (f0 + j)) = _
   rw [this]; rfl
 · rw [List.getElem?_eq_none (by rw [freshX_len]; omega), List.getElem?_eq_none (by omega)]; rfl
theorem allBelow_ev {ρ ρ' : Nat → Int} {n : Nat} (h : ∀ r, r < n → ρ' r = ρ r) {l : List X} (hb : allBelow n l = true) : l.map (X.ev ρ') = l.map (X.ev ρ) := ev_congr (fun s hs => h s hs) hb
theorem below_ev {ρ ρ' : Nat → Int} {n : Nat} (h : ∀ r, r < n → ρ' r = ρ r) {x : X} (hb : X.below n x = true) : x.ev ρ' = x.ev ρ := by
 cases x with
 | lit n => rfl
 | reg r => exact h r (Nat.le_of_ble_eq_true hb)
end
section
variable {P : Program} {ρ : Nat → Int}
theorem idxX_spec {l : Nat} : ∀ {m : List X} {n i : Nat}, idxX l n m = some i → n ≤ i ∧ m[i - n]? = some (.reg l)
 | [], _, _, h => by cases h
 | x :: m, n, i, h => by
  unfold idxX at h
  split at h
  · rename_i hb
    cases h
    rw [Nat.sub_self]
    exact ⟨Nat.le_refl _, by rw [X.beq_eq hb]; rfl⟩
  · obtain ⟨h1, h2⟩ := idxX_spec h
    refine ⟨by omega, ?_⟩
    rw [show i - n = (i - (n + 1)) + 1 by omega]
    simpa using h2
theorem hasLs_spec {w0 : Base} {μ : Mu} {st : St} {a : Act} {w : World} (hw : StRel ρ w0 μ st a w) {L : X} : ∀ {l : List (Nat × SV)}, hasLs st L l = true → ∃ els, L.ev ρ = encE els ∧ els.length ≤ maxLen
 | [], h => by cases h
 | (t, _) :: l, h => by
  unfold hasLs at h
  rw [Bool.or_eq_true] at h
  rcases h with h | h
  · split at h
    · rename_i v hv
      unfold isLs at h
      split at h
      · rename_i q ks x
        obtain ⟨p, off, els, _, _, hL, hd⟩ := hw.fr.2 t _ hv
        refine ⟨els, by rw [← X.beq_eq h]; exact hL, ?_⟩
        rcases hd with ⟨h0, _⟩ | ⟨c, _, h1, h2⟩ <;> omega
      · cases h
    · cases h
  · exact hasLs_spec hw h
theorem argsF_ok {p : Lit} {h : Hint} (hp : progs[h.id]? = some p) {T : Tab} (hs : Sat ρ T) {st : St} {w0 : Base} {μ : Mu} {a : Act} {w : World} (hw : StRel ρ w0 μ st a w) {inits : List X} (hlen : inits.length = p.k) (hctr : h.ctr < p.k)
  {j : Nat} (hj : j < p.k) :
  opF 70 ((h.id : Int) :: (j : Int) :: (argsF T p h inits st j).map (X.ev ρ)) = opF 70 ((h.id : Int) :: (j : Int) :: (inits ++ h.st).map (X.ev ρ)) := by
 unfold argsF
 cases has : shiftA T p h inits st with
 | none => rfl
 | some as =>
 simp only
 cases hjb : Nat.beq j h.ctr with
 | true => rfl
 | false =>
 have hj : j ≠ h.ctr := fun e => by rw [e, Nat.beq_refl] at hjb; cases hjb
 unfold shiftA at has
 split at has
 case h_2 => cases has
 rename_i l hmode hlo hls
 split at has
 case h_2 => cases has
 rename_i d i hd hi
 split at has
 case h_2 => cases has
 rename_i L hda
 split at has
 case h_2 => cases has
 rename_i n hn
 split at has
 case h_2 => cases has
 rename_i hc
 cases has
 simp only [Bool.and_eq_true] at hc
 obtain ⟨c0, c1, c2, c3, c4⟩ := hc
 obtain ⟨els, he, hel⟩ := hasLs_spec hw c2
 have hpos := posN_spec hs hw.fa c3
 have hnv : ρ n = opF 62 [L.ev ρ] := hs n _ (look_spec hn)
 have hlv : ρ l = opF 64 [L.ev ρ] := by rw [hs l d hd, D.beq_eq c1]; rfl
 have hlv : ρ l = encE (els.drop 1) := by rw [hlv]; show encE ((decE (L.ev ρ)).drop 1) = _; rw [he, decE_enc]
 have hpos : 0 < els.length := by
  have h1 : (0 : Int) < ρ n := hpos
  rw [hnv] at h1
  have h1 : (0 : Int) < ((min (decE (L.ev ρ)).length 9223372036854775807 : Nat) : Int) := h1
  rw [he, decE_enc] at h1
  omega
 obtain ⟨_, hi⟩ := idxX_spec hi
 rw [Nat.sub_zero] at hi
 have hil : i < h.st.length := (List.getElem?_eq_some_iff.1 hi).1
 have hz : (inits.map (X.ev ρ)).getD h.ctr 0 = 0 := by
  unfold zeroAt at c0
  split at c0
  · rename_i m hm
    have := Nat.eq_of_beq_eq_true c0
    subst this
    rw [List.getD_eq_getElem?_getD, List.getElem?_map, hm]; rfl
  · cases c0
 rw [opF_prog hp, opF_prog hp, List.map_append, List.map_append]
 refine (shift_sem (fun f l hf => opP_base hf _ _) c4 ⟨by simp [hlen], by simp [hlen], by rw [hz]; exact Int.le_refl _, fun k => ?_⟩ (by simp) (by simp) ?_ ?_ hj).symm
 · rw [hz]
   simp only [List.getD_eq_getElem?_getD, List.getElem?_map, List.getElem?_set]
   by_cases e : k = h.ctr
   · subst e
     rw [if_pos rfl, if_pos rfl, if_pos (by omega)]; rfl
   · rw [if_neg e, if_neg (fun e' => e e'.symm)]
 · have e1 : (h.st.map (X.ev ρ)).getD (p.k + i - p.k) 0 = ρ l := by
    rw [show p.k + i - p.k = i by omega, List.getD_eq_getElem?_getD, List.getElem?_map, hi]; rfl
   have e2 : ((h.st.set i L).map (X.ev ρ)).getD (p.k + i - p.k) 0 = L.ev ρ := by
    rw [show p.k + i - p.k = i by omega, List.getD_eq_getElem?_getD, List.getElem?_map, List.getElem?_set, if_pos rfl, if_pos hil]; rfl
   rw [e1, e2, hlv, he, decE_enc, decE_enc]
   refine ⟨rfl, hpos, ?_⟩
   unfold maxLen at hel
   unfold M63
   omega
 · intro m hm
   simp only [List.getD_eq_getElem?_getD, List.getElem?_map, List.getElem?_set]
   rw [if_neg (by omega)]
theorem loopZ_sound {rec : Code → Tab → St → Option (Tab × Tree)} (hrec : ∀ ρ, RecOK P ρ rec) {p : Lit} {h : Hint} (hp : progs[h.id]? = some p) {c : Code} {T T' : Tab} {st : St} {t' : Tree}
  {inits : List X} (hin : psXs st h.lv = some inits) (hl : loopZ rec p h c inits T st = some (T', t')) (hs : Sat ρ T') :
  Sat ρ T ∧ ((Facts ρ st.fa → ivSem h ((inits ++ h.st).map (X.ev ρ))) → ∀ w0 μ1 μ a w Q, StRel ρ w0 μ1 st a w → Sub μ μ1 → (∃ nb0 bs0, WR ρ w0 μ nb0 bs0 w ∧ nb0 ≤ st.nb ∧ (h.gr ≠ 0 → nb0 + 1 = st.nb)) → t'.sat ρ (Leafs ρ w0 Q μ) → (Code.loop c).wp P Q a w) := by
 unfold loopZ at hl
 split at hl
 rename_i nt fr nb bs fa0 _
 split at hl
 case h_2 => cases hl
 rename_i T2 fa2 hct
 split at hl
 case h_2 => cases hl
 rename_i T3 fa3 hiv
 split at hl
 case h_2 => cases hl
 rename_i T4 t hr
 split at hl
 case h_2 => cases hl
 rename_i T1 hit
 split at hl
 case h_2 => cases hl
 rename_i hchk
 split at hl
 case h_2 => cases hl
 rename_i tp hpr
 cases hl
 generalize hG : (⟨nt, fr, nb, bs, fa3⟩ : St) = G at hr hchk
 have hGfa : G.fa = fa3 := by rw [← hG]
 have hrec : ∀ ρ, RecOK P ρ (scanRec rec h.sc (.reg (T.n + h.ctr)) ((lsOf ⟨nt, fr, nb, bs, st.fa⟩ h.ls).getD (.lit 0))) := fun ρ => scanRec_ok (hrec ρ) _ _ _
 unfold loopChk at hchk
 split at hchk
 case h_2 => cases hchk
 rename_i L hL
 split at hchk
 case h_2 => cases hchk
 rename_i b s hb hsr
 split at hchk
 case h_2 => cases hchk
 rename_i q hq
 simp only [Bool.and_eq_true] at hchk
 obtain ⟨⟨cL, ck, cctr, clo, cmax⟩, ⟨ctab, cst, cnb, ⟨cnb2, cgr⟩, cfa⟩, cini, ⟨cm1, cm2, cleaf⟩, clen, cds, ctr⟩ := hchk
 have ck := Nat.eq_of_beq_eq_true ck
 have cctr : h.ctr < p.k := Nat.le_of_ble_eq_true cctr
 have clo := Nat.le_of_ble_eq_true clo
 have cmax := Nat.le_of_ble_eq_true cmax
 have cnb := Nat.le_of_ble_eq_true cnb
 have cnb2 := Nat.eq_of_beq_eq_true cnb2
 have clen := Nat.eq_of_beq_eq_true clen
 have hlb := look_spec hb
 have hls := look_spec hsr
 rw [← ck] at hs
 have hfree : ∀ j, j < p.k → T1.defs.get (T.n + j) = none := by
  intro j hj
  cases hg : T1.defs.get (T.n + j) with
  | none => rfl
  | some d =>
   have := Tr.chk_spec _ _ _ ctab _ d hg
   simp only [Nat.one_mul, Nat.add_zero, Bool.and_eq_true, Bool.or_eq_true] at this
   rcases this.1 with h1 | h1
   · have : T.n + j < T.n := Nat.le_of_ble_eq_true h1
     omega
   · have := Nat.le_of_ble_eq_true h1; omega
 obtain ⟨s1, hval0⟩ := defsF_spec cmax hfree hs
 have toT4 : ∀ ρ', Sat ρ' T1 → Sat ρ' T4 := fun ρ' h => (ivT_spec hit h).1
 have s3 := (hrec ρ _ _ _ _ _ hr (toT4 ρ s1)).1
 have s2 := (ivHead_spec hiv s3).1
 have s0 : Sat ρ T := (ctrF_spec hct s2).1
 refine ⟨s0, fun hiv0 w0 μ1 μ a w Q hw hsub1 hwr0 hL0 => ?_⟩
 obtain ⟨nb0, bs0, hwr0, hnb0, hnb1⟩ := hwr0
 have hfree : ∀ s i0 i1, rnOf h.gr G s = some (i0, i1) → i0 = i1 ∨ μ i0 = none := by
  intro s i0 i1 e
  unfold rnOf at e
  unfold grOK at cgr
  split at e
  · cases e
  · rename_i tt
    split at e
    · rename_i j0 j1 e0 e1
      cases e
      simp only [*] at cgr
      have e2 := Nat.eq_of_beq_eq_true cgr
      have := hnb1 (by simp [*])
      exact .inr (hwr0.top i0 (by omega) (by unfold maxReg at cnb; unfold LB; omega))
    · cases e
 have hval : ∀ j, j < p.k → ρ (T.n + j) = opF 70 ((h.id : Int) :: (j : Int) :: (inits ++ h.st).map (X.ev ρ)) := fun j hj => by
  rw [hval0 j hj]
  exact argsF_ok hp s0 hw ((psXs_length hin).trans ck.symm) cctr hj
 -- The step.
 have hid : h.id ≤ progs.length := by have := (List.getElem?_eq_some_iff.1 hp).1; omega
 let S := h.st.map (X.ev ρ)
 let op := opP opB (progs.take h.id).reverse
 let step := p.step op S
 let vec : (Nat → Int) → List Int := fun ρ' => (freshX T.n p.k).map (X.ev ρ')
 have veclen : ∀ ρ', (vec ρ').length = p.k := fun ρ' => by simp [vec, freshX_len]
 have key1 : ∀ ρ', (∀ r, r < T.n → ρ' r = ρ r) → Sat ρ' T1 →
   (step (vec ρ') = none ∧ (t.pickL ρ').1 ≠ .normal) ∨ (∃ outs, (t.pickL ρ').1 = .normal ∧ psXs (t.pickL ρ').2 h.lv = some outs ∧ step (vec ρ') = some (outs.map (X.ev ρ'))) := by
  intro ρ' hA hs'
  have elen : (vec ρ' ++ S).length = p.k + h.st.length := by simp [vec, S, freshX_len]
  have he : EnvOK ρ' (freshX T.n p.k ++ h.st ++ h.mp) (vec ρ' ++ S) := by
   intro r hr
   rw [elen] at hr
   by_cases hrk : r < p.k
   · refine ⟨.reg (T.n + r), ?_, ?_⟩
     · rw [List.append_assoc, List.getElem?_append_left (by rw [freshX_len]; exact hrk), freshX_at hrk]
     · rw [List.getD_eq_getElem?_getD, List.getElem?_append_left (by rw [veclen]; exact hrk)]
       show (((freshX T.n p.k).map (X.ev ρ'))[r]?).getD 0 = _
       rw [List.getElem?_map, freshX_at hrk]; rfl
   · have hr2 : r - p.k < h.st.length := by omega
     refine ⟨h.st[r - p.k], ?_, ?_⟩
     · rw [List.append_assoc, List.getElem?_append_right (by rw [freshX_len]; omega), freshX_len, List.getElem?_append_left hr2, List.getElem?_eq_getElem hr2]
     · rw [List.getD_eq_getElem?_getD, List.getElem?_append_right (by rw [veclen]; omega), veclen]
       have : S = h.st.map (X.ev ρ') := (allBelow_ev hA cst).symm
       rw [this, List.getElem?_map, List.getElem?_eq_getElem hr2]; rfl
  obtain ⟨k1, k2⟩ := runDs_ok (ds := p.ds) hs' hid (by rw [elen]; exact cds) he
  rw [Bool.or_eq_true] at ctr
  rcases ctr with ctr | ctr
  · exact trChk_ok k1 (by rw [k2, elen]; exact clen) ctr
  · exact trEq_ok hs' k1 (by rw [k2, elen]; exact clen) ctr (fun r b h => by cases h)
 -- The counter.
 let i := T.n + h.ctr
 have hB : ∀ ρ', (∀ r, r < T.n → ρ' r = ρ r) → Sat ρ' T1 → ρ' b = ρ b := by
  intro ρ' hA hs'
  rw [hs' b _ hlb, s1 b _ hlb]
  show opF 62 [L.ev ρ'] = opF 62 [L.ev ρ]
  rw [below_ev hA cL]
 let Inv : Int → Prop := fun x => (h.lo : Int) ≤ x ∧ (h.mode = 1 → x = h.lo ∨ x < ρ b) ∧ (2 ≤ h.mode → x + 1 < ρ b)
 have nowrap : ∀ x, Inv x → ρ b ≤ 9223372036854775807 → h.mode ≠ 0 → IntKind.i64.wrap (x + 1) = x + 1 := by
  intro x hx hbm hm
  obtain ⟨h1, h2, h3⟩ := hx
  by_cases hm1 : h.mode = 1
  · rcases h2 hm1 with h2 | h2 <;> exact Go.IntWalk.i64_in _ (by omega)
  · have := h3 (by omega)
    exact Go.IntWalk.i64_in _ (by omega)
 have eqb : ∀ ρ', (∀ r, r < T.n → ρ' r = ρ r) → opF 62 [L.ev ρ'] = ρ b := by
  intro ρ' hA
  rw [s1 b _ hlb]
  show opF 62 [L.ev ρ'] = opF 62 [L.ev ρ]
  rw [below_ev hA cL]
 have oldf : ∀ ρ', (∀ r, r < T.n → ρ' r = ρ r) → Facts ρ' st.fa := by
  intro ρ' hA r v hv
  have hlt := Tr.chk_spec _ _ _ cfa r v hv
  simp only [Nat.one_mul, Nat.add_zero] at hlt
  rw [hA r (Nat.le_of_ble_eq_true hlt)]
  exact hw.fa r v hv
 have eS : ∀ ρ', (∀ r, r < T.n → ρ' r = ρ r) → h.st.map (X.ev ρ') = S := fun ρ' hA => allBelow_ev hA cst
 have facts : ∀ ρ', (∀ r, r < T.n → ρ' r = ρ r) → Sat ρ' T1 → Inv (ρ' i) → ρ b ≤ 9223372036854775807 → ivSem h (vec ρ' ++ S) → Facts ρ' G.fa := by
  intro ρ' hA hs' hi hbm hiv1
  have s3' := (hrec ρ' _ _ _ _ _ hr (toT4 ρ' hs')).1
  obtain ⟨s2', k2⟩ := ivHead_spec hiv s3'
  rw [hGfa]
  refine k2 ?_ (by rw [List.map_append, eS ρ' hA, ← ck]; exact hiv1)
  refine (ctrF_spec hct s2').2 (oldf ρ' hA) hi.1 (fun hm => ?_) (fun hm => ?_)
  · show 0 ≤ IntKind.i64.wrap (ρ' i + 1)
    rw [nowrap _ hi hbm hm]
    have := hi.1; omega
  · have hLe : ((lsOf (⟨nt, fr, nb, bs, st.fa⟩ : St) h.ls).getD (.lit 0)) = L := by
     have : lsOf (⟨nt, fr, nb, bs, st.fa⟩ : St) h.ls = lsOf G h.ls := by rw [← hG]; rfl
     rw [this, hL]; rfl
    rw [hLe, eqb ρ' hA]
    show IntKind.i64.wrap (ρ' i + 1) < ρ b ∧ ρ' i < ρ b
    rw [nowrap _ hi hbm (by omega)]
    have := hi.2.2 hm
    omega
 have key2 : ∀ ρ', (∀ r, r < T.n → ρ' r = ρ r) → Sat ρ' T1 → Inv (ρ' i) → ρ b ≤ 9223372036854775807 → (t.pickL ρ').1 = .normal →
   ∃ outs, psXs (t.pickL ρ').2 h.lv = some outs ∧ matchSt T.n (rnOf h.gr G (t.pickL ρ').2) outs G (t.pickL ρ').2 = true ∧ ρ' i < ρ b ∧ (outs.map (X.ev ρ')).getD h.ctr 0 = ρ' i + 1 ∧ Inv (ρ' i + 1) := by
  intro ρ' hA hs' hi hbm hn
  obtain ⟨hq1, outs, ho, hm, hc⟩ := leafChk_ok (ρ := ρ') cleaf (fun e => by cases e) hn
  have es : ρ' s = IntKind.i64.wrap (ρ' i + 1) := hs' s _ hls
  have hlt : ρ' i < ρ b ∧ ρ' s = ρ' i + 1 ∧ Inv (ρ' i + 1) := by
   unfold testOf at hq
   split at hq
   · rename_i hmode
     have eq : ρ' q = b2i (decide (ρ' i < ρ' b)) := hs' q _ (look_spec hq)
     rw [hB ρ' hA hs'] at eq
     have hlt : ρ' i < ρ b := by
      rw [eq] at hq1
      by_cases hd : ρ' i < ρ b
      · exact hd
      · rw [decide_eq_false hd] at hq1; cases hq1
     have := hi.1
     exact ⟨hlt, by rw [es]; exact Go.IntWalk.i64_in _ (by omega), by omega, (fun e => by rw [hmode] at e; cases e), (fun e => by omega)⟩
   · rename_i hmode
     have eq : ρ' q = b2i (decide (ρ' s < ρ' b)) := hs' q _ (look_spec hq)
     rw [hB ρ' hA hs', es, nowrap _ hi hbm (by omega)] at eq
     have hlt : ρ' i + 1 < ρ b := by
      rw [eq] at hq1
      by_cases hd : ρ' i + 1 < ρ b
      · exact hd
      · rw [decide_eq_false hd] at hq1; cases hq1
     have := hi.1
     exact ⟨by omega, by rw [es, nowrap _ hi hbm (by omega)], by omega, fun _ => .inr hlt, fun e => by omega⟩
   · rename_i hm0 hm1
     have hm0 : h.mode ≠ 0 := fun e => hm0 e
     have hm1 : h.mode ≠ 1 := fun e => hm1 e
     split at hq
     case h_2 => cases hq
     rename_i f cs x la two htq hla htwo
     split at hq
     case h_2 => cases hq
     rename_i cl hcl
     split at hq
     case h_2 => cases hq
     rename_i ql e hql hcs
     split at hq
     case h_2 => cases hq
     rename_i hfql hftwo hcond
     cases hq
     simp only [Bool.and_eq_true] at hcond
     obtain ⟨c1, c2, c3, c4⟩ := hcond
     have c1 := Nat.eq_of_beq_eq_true c1
     subst c1
     have c2 := D.beq_eq c2
     subst c2
     have o1 := oldf ρ' hA ql false hfql
     have o2 := oldf ρ' hA two false hftwo
     have vtwo : ρ' two = b2i (decide (ρ' b < 2)) := hs' two _ (look_spec htwo)
     rw [vtwo, b2i_eq, hB ρ' hA hs'] at o2
     have o2 := of_decide_eq_false o2
     have vla : ρ' la = IntKind.i64.wrap (ρ' b - 1) := hs' la _ (look_spec hla)
     rw [hB ρ' hA hs', Go.IntWalk.i64_in _ (by omega)] at vla
     have vcl : ρ' cl = opF 63 [L.ev ρ', ρ' la, 0] := hs' cl _ (look_spec hcl)
     have vcs : ρ' cs = opF 63 [L.ev ρ', ρ' s, 0] := hs' cs _ hcs
     have vql : ρ' ql = opF 10 [ρ' cl, x.ev ρ'] := hs' ql _ (look_spec hql)
     have vtq : ρ' h.tq = opF 10 [ρ' cs, x.ev ρ'] := hs' h.tq _ htq
     have es' : ρ' s = ρ' i + 1 := by rw [es, nowrap _ hi hbm hm0]
     have hin := hi.2.2 (by omega)
     have hne : ρ' i + 1 ≠ ρ b - 1 := by
      intro e1
      have : ρ' cs = ρ' cl := by rw [vcs, vcl, es', vla, e1]
      rw [vtq, this, ← vql] at hq1
      rw [hq1] at o1
      cases o1
     have := hi.1
     exact ⟨by omega, es', by omega, fun e => absurd e hm1, fun _ => by omega⟩
  refine ⟨outs, ho, hm, hlt.1, ?_, hlt.2.2⟩
  rw [List.getD_eq_getElem?_getD, List.getElem?_map, hc]
  exact hlt.2.1
 have agree0 : ∀ r d, r < T.n → T1.defs.get r = some d → ρ r = d.ev ρ := fun r d _ hd => s1 r d hd
 have term : ρ b ≤ 9223372036854775807 → ∀ (n : Nat) (v : List Int), v.length = p.k → Inv (v.getD h.ctr 0) → (ρ b - v.getD h.ctr 0).toNat < n → ∃ c m, itn step m v = some c ∧ step c = none ∧ c.length = p.k := by
  intro hbm n
  induction n with
  | zero => intro v _ _ hlt; omega
  | succ n ih =>
   intro v hv hi hlt
   obtain ⟨ρ', hA, hV, hs'⟩ := close ctab agree0 v
   have ev : vec ρ' = v := map_fresh hv hV
   have ei : ρ' i = v.getD h.ctr 0 := hV _ cctr
   rcases key1 ρ' hA hs' with ⟨hstop, _⟩ | ⟨outs, hn, ho, hst⟩
   · exact ⟨v, 0, rfl, by rw [← ev]; exact hstop, hv⟩
   · obtain ⟨outs', ho', _, hl1, hl2, hl3⟩ := key2 ρ' hA hs' (by rw [ei]; exact hi) hbm hn
     rw [ho] at ho'; cases ho'
     obtain ⟨c', m, h1, h2, h3⟩ := ih (outs.map (X.ev ρ')) (by rw [List.length_map, psXs_length ho]; exact ck.symm) (by rw [hl2]; exact hl3) (by rw [hl2, ei]; rw [ei] at hl1; omega)
     refine ⟨c', m + 1, ?_, h2, h3⟩
     unfold itn
     rw [ev] at hst
     rw [hst]
     exact h1
 -- The rounds.
 have main : ρ b ≤ 9223372036854775807 → ∀ (n : Nat) (ρ' : Nat → Int) (μ' : Mu) (a : Act) (w : World), (∀ r, r < T.n → ρ' r = ρ r) → Sat ρ' T1 → Inv (ρ' i) → ivSem h (vec ρ' ++ S) → Sub μ μ' → StRel ρ' w0 μ' G a w →
   fin step (vec ρ') = vec ρ → (ρ b - ρ' i).toNat < n → Code.rounds P c Q n a w := by
  intro hbm n
  induction n with
  | zero => intro ρ' μ' a w _ _ _ _ _ _ _ hlt; omega
  | succ n ih =>
   intro ρ' μ' a w hA hs' hi hvi hsub hw' hfin hlt
   rw [rounds_succ]
   rcases key1 ρ' hA hs' with ⟨hstop, hnn⟩ | ⟨outs, hn, ho, hst⟩
   · have evv : vec ρ' = vec ρ := by rw [← hfin, fin_stop hstop]
     have efr : ∀ j, j < p.k → ρ (T.n + j) = ρ' (T.n + j) := by
      intro j hj
      have := congrArg (fun l => l[j]?) evv
      simp only [vec, List.getElem?_map, freshX_at hj] at this
      exact (Option.some.inj this).symm
     have hwρ : StRel ρ w0 (restrR G.nb (rnOf h.gr G G) μ') G a w := by
      refine matchSt_rel (ρ := ρ') (ρ' := ρ) (fun r hr => (hA r hr).symm) (fun j y hy => ?_) cm2 cnb (facts ρ (fun _ _ => rfl) s1 (by rw [efr _ cctr]; exact hi) hbm (by rw [← evv]; exact hvi)) hw'
      obtain ⟨e, hj⟩ := freshX_get hy
      rw [e]; exact efr j hj
     refine (hrec ρ _ _ _ _ _ hr (toT4 ρ s1)).2 w0 _ a w _ hwρ ?_
     rw [sat_pickL]
     have hnn' : (t.pickL ρ).1 ≠ .normal := by
      rcases key1 ρ (fun _ _ => rfl) s1 with ⟨_, h1⟩ | ⟨outs, _, _, h1⟩
      · exact h1
      · rw [← evv, hstop] at h1; cases h1
     have hlf := prune_sat hpr hL0 hnn'
     intro μ'' a' w' hp' hw''
     have hsub2 : Sub μ μ'' := (restrR_sub hwr0 (by omega) (hfree G) hsub).trans hp'
     have := hlf μ'' a' w' hsub2 hw''
     revert this
     cases he : (t.pickL ρ).1 with
     | normal => exact absurd he hnn'
     | leave id => exact fun h => h
     | ret => exact fun h => h
   · refine (hrec ρ' _ _ _ _ _ hr (toT4 ρ' hs')).2 w0 μ' a w _ hw' ?_
     rw [sat_pickL]
     obtain ⟨outs', ho', hm, hl1, hl2, hl3⟩ := key2 ρ' hA hs' hi hbm hn
     rw [ho] at ho'; cases ho'
     intro μ'' a' w' hp' hw''
     rw [hn]
     show Code.rounds P c Q n a' w'
     have hvl : (outs.map (X.ev ρ')).length = p.k := by rw [List.length_map, psXs_length ho]; exact ck.symm
     obtain ⟨ρ'', hA2, hV2, hs2⟩ := close ctab agree0 (outs.map (X.ev ρ'))
     have ev2 : vec ρ'' = outs.map (X.ev ρ') := map_fresh hvl hV2
     have ei2 : ρ'' i = ρ' i + 1 := by rw [← hl2]; exact hV2 _ cctr
     have hvi2 : ivSem h (vec ρ'' ++ S) := by
      have := (ivT_spec hit hs').2 hn hw''.fa outs ho
      rw [List.map_append, eS ρ' hA] at this
      rw [ev2]
      exact this
     have hw2 : StRel ρ'' w0 (restrR G.nb (rnOf h.gr G (t.pickL ρ').2) μ'') G a' w' := by
      refine matchSt_rel (ρ := ρ') (ρ' := ρ'') (fun r hr => (hA2 r hr).trans (hA r hr).symm) (fun j y hy => ?_) hm cnb (facts ρ'' hA2 hs2 (by rw [ei2]; exact hl3) hbm hvi2) hw''
      have hj : j < p.k := by have := (List.getElem?_eq_some_iff.1 hy).1; rw [psXs_length ho, ← ck] at this; exact this
      rw [hV2 j hj, List.getD_eq_getElem?_getD, List.getElem?_map, hy]; rfl
     refine ih ρ'' _ a' w' hA2 hs2 (by rw [ei2]; exact hl3) hvi2 (restrR_sub hwr0 (by omega) (hfree (t.pickL ρ').2) (hsub.trans hp')) hw2 ?_ (by rw [ei2]; omega)
     rw [ev2, ← hfin]
     obtain ⟨c', m, h1, h2, _⟩ := term hbm _ (outs.map (X.ev ρ')) hvl (by rw [hl2]; exact hl3) (Nat.lt_succ_self _)
     exact (fin_next hst ⟨c', m, h1, h2⟩).symm
 -- The way in.
 have hil : inits.length = p.k := by rw [psXs_length hin]; exact ck.symm
 have hvl : (inits.map (X.ev ρ)).length = p.k := by rw [List.length_map]; exact hil
 obtain ⟨ρ0, hA0, hV0, hs0⟩ := close ctab agree0 (inits.map (X.ev ρ))
 have ev0 : vec ρ0 = inits.map (X.ev ρ) := map_fresh hvl hV0
 have ei0 : (h.lo : Int) ≤ ρ0 i ∧ (h.mode ≠ 0 → ρ0 i = h.lo) := by
  have := hV0 _ cctr
  show (h.lo : Int) ≤ ρ0 (T.n + h.ctr) ∧ (h.mode ≠ 0 → ρ0 (T.n + h.ctr) = h.lo)
  rw [this, List.getD_eq_getElem?_getD, List.getElem?_map]
  unfold startOK at cini
  split at cini
  · rename_i n hn
    rw [hn]
    have e : ((n : Nat) : Int) = (h.lo : Int) := by rw [Nat.eq_of_beq_eq_true cini]
    exact ⟨Int.le_of_eq e.symm, fun _ => e⟩
  · rename_i r hr
    rw [hr]
    split at cini
    case h_2 => cases cini
    rename_i q2 hq2
    simp only [Bool.and_eq_true] at cini
    obtain ⟨⟨m0, l0⟩, hd⟩ := cini
    have m0 := Nat.eq_of_beq_eq_true m0
    have l0 := Nat.eq_of_beq_eq_true l0
    split at hd
    case h_2 => cases hd
    rename_i bb hbb
    have hbb0 : bb = false := by simpa using hd
    have hdec := decideX_spec s1 hw.fa (.reg q2)
    rw [hbb, hbb0] at hdec
    have hdec : (ρ q2 == 1) = false := hdec
    have vq2 : ρ q2 = b2i (decide (ρ r < 0)) := s1 q2 _ (look_spec hq2)
    rw [vq2, b2i_eq] at hdec
    have hdec := of_decide_eq_false hdec
    refine ⟨?_, fun e => absurd m0 e⟩
    show (h.lo : Int) ≤ ρ r
    rw [l0]
    omega
  · cases cini
 have hbm : ρ b ≤ 9223372036854775807 := by
  unfold lsOf at hL
  split at hL
  · rename_i q' ks L' hg
    cases hL
    have hm := cm1
    unfold matchSt at hm
    simp only [Bool.and_eq_true] at hm
    have := Tr.chk_spec _ _ _ hm.2.1 _ _ hg
    simp only [Nat.one_mul, Nat.add_zero] at this
    split at this
    · rename_i l hl
      have hr := svMatch_rel (ρ := ρ) (ρ' := ρ0) (μ := μ1) hm.1.2 cnb (fun r hr => hA0 r hr) (fun j y hy => by
       have hj : j < p.k := by have := (List.getElem?_eq_some_iff.1 hy).1; omega
       rw [hV0 j hj, List.getD_eq_getElem?_getD, List.getElem?_map, hy]; rfl) this (hw.fr.slot _ _ hl)
      obtain ⟨pp, off, els, _, _, hLe, hdr⟩ := hr
      have eb : ρ b = (els.length : Nat) := by
       rw [s1 b _ hlb]
       show opF 62 [L.ev ρ] = _
       rw [← below_ev hA0 cL, hLe]
       show ((min (decE (encE els)).length 9223372036854775807 : Nat) : Int) = ((els.length : Nat) : Int)
       have : els.length ≤ maxLen := by rcases hdr with ⟨h0, _⟩ | ⟨c, _, h1, h2⟩ <;> omega
       unfold maxLen at this
       rw [decE_enc, Nat.min_eq_left (by omega)]
      have : els.length ≤ maxLen := by rcases hdr with ⟨h0, _⟩ | ⟨c, _, h1, h2⟩ <;> omega
      rw [eb]; unfold maxLen at this; omega
    · cases this
  · rename_i q' ks L' hg
    cases hL
    have hm := cm1
    unfold matchSt at hm
    simp only [Bool.and_eq_true] at hm
    have := Tr.chk_spec _ _ _ hm.2.1 _ _ hg
    simp only [Nat.one_mul, Nat.add_zero] at this
    split at this
    · rename_i l hl
      have hr := svMatch_rel (ρ := ρ) (ρ' := ρ0) (μ := μ1) hm.1.2 cnb (fun r hr => hA0 r hr) (fun j y hy => by
       have hj : j < p.k := by have := (List.getElem?_eq_some_iff.1 hy).1; omega
       rw [hV0 j hj, List.getD_eq_getElem?_getD, List.getElem?_map, hy]; rfl) this (hw.fr.slot _ _ hl)
      obtain ⟨pp, els, _, hLe, _, hdr1, hdr2⟩ := hr
      have eb : ρ b = (els.length : Nat) := by
       rw [s1 b _ hlb]
       show opF 62 [L.ev ρ] = _
       rw [← below_ev hA0 cL, hLe]
       show ((min (decE (encE els)).length 9223372036854775807 : Nat) : Int) = ((els.length : Nat) : Int)
       have : els.length ≤ maxLen := by omega
       unfold maxLen at this
       rw [decE_enc, Nat.min_eq_left (by omega)]
      have : els.length ≤ maxLen := by omega
      rw [eb]; unfold maxLen at this; omega
    · cases this
  · cases hL
 have hi0 : Inv (ρ0 i) := by
  refine ⟨ei0.1, fun hm => .inl (ei0.2 (by omega)), fun hm => ?_⟩
  rw [ei0.2 (by omega)]
  unfold testOf at hq
  split at hq
  · omega
  · omega
  · split at hq
    case h_2 => cases hq
    rename_i f cs x la two htq hla htwo
    split at hq
    case h_2 => cases hq
    rename_i cl hcl
    split at hq
    case h_2 => cases hq
    rename_i ql e hql hcs
    split at hq
    case h_2 => cases hq
    rename_i hfql hftwo hcond
    simp only [Bool.and_eq_true] at hcond
    have c4 := Nat.eq_of_beq_eq_true hcond.2.2.2
    have o2 := hw.fa two false hftwo
    have vtwo : ρ two = b2i (decide (ρ b < 2)) := s1 two _ (look_spec htwo)
    rw [vtwo, b2i_eq] at o2
    have o2 := of_decide_eq_false o2
    rw [c4]
    omega
 have hv0 : ivSem h (vec ρ0 ++ S) := by
  have := hiv0 hw.fa
  rw [List.map_append] at this
  rw [ev0]
  exact this
 have hf0 := facts ρ0 hA0 hs0 hi0 hbm hv0
 have hw0 : StRel ρ0 w0 (restrR G.nb (rnOf h.gr G st) μ1) G a w := by
  refine matchSt_rel (ρ := ρ) (ρ' := ρ0) hA0 (fun j y hy => ?_) cm1 cnb hf0 hw
  have hj : j < p.k := by have := (List.getElem?_eq_some_iff.1 hy).1; omega
  rw [hV0 j hj, List.getD_eq_getElem?_getD, List.getElem?_map, hy]; rfl
 have hfin : fin step (vec ρ0) = vec ρ := by
  rw [ev0]
  obtain ⟨c', m, h1, h2, h3⟩ := term hbm _ (inits.map (X.ev ρ)) hvl (by
   have := hi0
   rw [show ρ0 i = (inits.map (X.ev ρ)).getD h.ctr 0 from hV0 _ cctr] at this
   exact this) (Nat.lt_succ_self _)
  have hf := fin_of h1 h2
  have hlen : (fin step (inits.map (X.ev ρ))).length = p.k := by rw [hf]; exact h3
  refine (map_fresh hlen (fun j hj => ?_)).symm
  rw [hval j hj, opF_prog hp]
  show ((fin (p.step op (((inits ++ h.st).map (X.ev ρ)).drop p.k)) (((inits ++ h.st).map (X.ev ρ)).take p.k)).getD ((j : Int)).toNat 0) = _
  have e1 : ((inits ++ h.st).map (X.ev ρ)).take p.k = inits.map (X.ev ρ) := by
   rw [List.map_append, List.take_append_of_le_length (by rw [hvl]; exact Nat.le_refl _), List.take_of_length_le (by rw [hvl]; exact Nat.le_refl _)]
  have e2 : ((inits ++ h.st).map (X.ev ρ)).drop p.k = S := by
   rw [List.map_append, List.drop_append_of_le_length (by rw [hvl]; exact Nat.le_refl _), List.drop_of_length_le (by rw [hvl]; exact Nat.le_refl _)]; rfl
  rw [e1, e2, Int.toNat_natCast]
 exact wp_loop_rounds _ (main hbm ((ρ b - ρ0 i).toNat + 1) ρ0 _ a w hA0 hs0 hi0 hv0 (restrR_sub hwr0 (by omega) (hfree st) hsub1) hw0 hfin (Nat.lt_succ_self _))
theorem lenF_spec {n : Nat} {x : X} {T T' : Tab} {fa fa' : Tr Bool} (h : lenF n x T fa = some (T', fa')) (hs : Sat ρ T') : Sat ρ T ∧ (Facts ρ fa → n ≤ 1000 → (decE (x.ev ρ)).length ≤ n → Facts ρ fa') := by
 unfold lenF at h
 split at h
 · rename_i T1 b hb
   split at h
   · rename_i T2 q hm
     cases h
     obtain ⟨s1, hz⟩ := mk_spec hm hs
     obtain ⟨s0, hb'⟩ := mk_spec hb s1
     refine ⟨s0, fun hf hn hx => hf.set ?_⟩
     have hz : ρ q = b2i (decide ((n : Int) < b.ev ρ)) := hz
     have hb' : b.ev ρ = ((min (decE (x.ev ρ)).length 9223372036854775807 : Nat) : Int) := hb'
     rw [hz, b2i_eq, hb']
     exact decide_eq_false (by omega)
   · cases h
 · cases h
theorem grewOne_spec {T1 : Tab} (hs : Sat ρ T1) {g : Nat} {o : X} (h : grewOne T1 g o = true) : (decE (o.ev ρ)).length = (decE (ρ g)).length + 1 := by
 unfold grewOne at h
 split at h
 · rename_i r
   split at h
   · rename_i d hd
     split at h
     · rename_i x m _
       rw [Bool.and_eq_true] at h
       obtain ⟨h1, h2⟩ := h
       split at h2
       · rename_i e he
         have e1 := hs r d hd
         rw [D.beq_eq h1] at e1
         have e1 : ρ r = encE (decE (ρ g) ++ decE (ρ m)) := e1
         have h2 := Nat.eq_of_beq_eq_true h2
         have e2 : ρ m = opF 66 (e.a.map (X.ev ρ)) := by rw [hs m e he]; show opF e.f _ = _; rw [h2]
         have e2 : ρ m = encE [e.a.map (X.ev ρ)] := e2
         show (decE (ρ r)).length = _
         rw [e1, e2, decE_enc, decE_enc, List.length_append]; rfl
       · cases h2
     · cases h
   · cases h
 · cases h
theorem leafChkU_ok {f0 : Nat} {hh : Hint} {G : St} {T1 : Tab} {g q : Nat} : ∀ {t : Tree} {seen : Bool}, leafChkU f0 hh G T1 g q seen t = true → (seen = true → ρ q ≠ 1) → (t.pickL ρ).1 = .normal →
  ρ q ≠ 1 ∧ ∃ outs, psXs (t.pickL ρ).2 hh.lv = some outs ∧ matchSt f0 (rnOf hh.gr G (t.pickL ρ).2) outs G (t.pickL ρ).2 = true ∧ ∃ o, outs[hh.ctr]? = some o ∧ grewOne T1 g o = true
 | .leaf .normal st, seen, h, hq, _ => by
  unfold leafChkU at h
  simp only [Bool.and_eq_true] at h
  obtain ⟨h1, h2⟩ := h
  refine ⟨hq h1, ?_⟩
  split at h2
  · rename_i outs ho
    simp only [Bool.and_eq_true] at h2
    obtain ⟨h3, h4⟩ := h2
    split at h4
    · rename_i o hoo
      exact ⟨outs, ho, h3, o, hoo, h4⟩
    · cases h4
  · cases h2
 | .leaf (.leave id) st, seen, h, hq, hn => by cases hn
 | .leaf .ret st, seen, h, hq, hn => by cases hn
 | .node r a b, seen, h, hq, hn => by
  unfold leafChkU at h
  simp only [Bool.and_eq_true] at h
  unfold Tree.pickL at hn ⊢
  by_cases hc : ρ r = 1
  · rw [if_pos hc] at hn ⊢
    exact leafChkU_ok h.1 hq hn
  · rw [if_neg hc] at hn ⊢
    refine leafChkU_ok h.2 (fun hs => ?_) hn
    simp only [Bool.or_eq_true] at hs
    rcases hs with hs | hs
    · exact hq hs
    · rw [← Nat.eq_of_beq_eq_true hs]; exact hc
theorem loopU_sound {rec : Code → Tab → St → Option (Tab × Tree)} (hrec : ∀ ρ, RecOK P ρ rec) {p : Lit} {h : Hint} (hp : progs[h.id]? = some p) {c : Code} {T T' : Tab} {st : St} {t' : Tree}
  {inits : List X} (hin : psXs st h.lv = some inits) (hl : loopU rec p h c inits T st = some (T', t')) (hs : Sat ρ T') :
  Sat ρ T ∧ ((Facts ρ st.fa → ivSem h ((inits ++ h.st).map (X.ev ρ))) → ∀ w0 μ1 μ a w Q, StRel ρ w0 μ1 st a w → Sub μ μ1 → (∃ nb0 bs0, WR ρ w0 μ nb0 bs0 w ∧ nb0 ≤ st.nb ∧ (h.gr ≠ 0 → nb0 + 1 = st.nb)) → t'.sat ρ (Leafs ρ w0 Q μ) → (Code.loop c).wp P Q a w) := by
 unfold loopU at hl
 split at hl
 rename_i nt fr nb bs fa0 _
 split at hl
 case h_2 => cases hl
 rename_i T2 fa2 hct
 split at hl
 case h_2 => cases hl
 rename_i T3 fa3 hiv
 split at hl
 case h_2 => cases hl
 rename_i T4 t hr
 split at hl
 case h_2 => cases hl
 rename_i T1 hit
 split at hl
 case h_2 => cases hl
 rename_i hchk
 split at hl
 case h_2 => cases hl
 rename_i tp hpr
 cases hl
 generalize hG : (⟨nt, fr, nb, bs, fa3⟩ : St) = G at hr hchk
 have hGfa : G.fa = fa3 := by rw [← hG]
 unfold loopChkU at hchk
 split at hchk
 case h_2 => cases hchk
 rename_i b hb
 split at hchk
 case h_2 => cases hchk
 rename_i q hq
 simp only [Bool.and_eq_true] at hchk
 obtain ⟨⟨ck, cctr, clo, cmax⟩, ⟨ctab, cst, cnb, ⟨cnb2, cgr⟩, cfa⟩, cini, ⟨cm1, cm2, cleaf⟩, clen, cds, ctr⟩ := hchk
 have ck := Nat.eq_of_beq_eq_true ck
 have cctr : h.ctr < p.k := Nat.le_of_ble_eq_true cctr
 have clo := Nat.le_of_ble_eq_true clo
 have cmax := Nat.le_of_ble_eq_true cmax
 have cnb := Nat.le_of_ble_eq_true cnb
 have cnb2 := Nat.eq_of_beq_eq_true cnb2
 have clen := Nat.eq_of_beq_eq_true clen
 have hlb := look_spec hb
 have hlq := look_spec hq
 rw [← ck] at hs
 have hfree : ∀ j, j < p.k → T1.defs.get (T.n + j) = none := by
  intro j hj
  cases hg : T1.defs.get (T.n + j) with
  | none => rfl
  | some d =>
   have := Tr.chk_spec _ _ _ ctab _ d hg
   simp only [Nat.one_mul, Nat.add_zero, Bool.and_eq_true, Bool.or_eq_true] at this
   rcases this.1 with h1 | h1
   · have : T.n + j < T.n := Nat.le_of_ble_eq_true h1
     omega
   · have := Nat.le_of_ble_eq_true h1; omega
 obtain ⟨s1, hval0⟩ := defsF_spec cmax hfree hs
 have toT4 : ∀ ρ', Sat ρ' T1 → Sat ρ' T4 := fun ρ' h => (ivT_spec hit h).1
 have s3 := (hrec ρ _ _ _ _ _ hr (toT4 ρ s1)).1
 have s2 := (ivHead_spec hiv s3).1
 have s0 : Sat ρ T := (lenF_spec hct s2).1
 refine ⟨s0, fun hiv0 w0 μ1 μ a w Q hw hsub1 hwr0 hL0 => ?_⟩
 obtain ⟨nb0, bs0, hwr0, hnb0, hnb1⟩ := hwr0
 have hfree : ∀ s i0 i1, rnOf h.gr G s = some (i0, i1) → i0 = i1 ∨ μ i0 = none := by
  intro s i0 i1 e
  unfold rnOf at e
  unfold grOK at cgr
  split at e
  · cases e
  · rename_i tt
    split at e
    · rename_i j0 j1 e0 e1
      cases e
      simp only [*] at cgr
      have e2 := Nat.eq_of_beq_eq_true cgr
      have := hnb1 (by simp [*])
      exact .inr (hwr0.top i0 (by omega) (by unfold maxReg at cnb; unfold LB; omega))
    · cases e
 have hval : ∀ j, j < p.k → ρ (T.n + j) = opF 70 ((h.id : Int) :: (j : Int) :: (inits ++ h.st).map (X.ev ρ)) := fun j hj => by
  rw [hval0 j hj]
 -- The step.
 have hid : h.id ≤ progs.length := by have := (List.getElem?_eq_some_iff.1 hp).1; omega
 let S := h.st.map (X.ev ρ)
 let op := opP opB (progs.take h.id).reverse
 let step := p.step op S
 let vec : (Nat → Int) → List Int := fun ρ' => (freshX T.n p.k).map (X.ev ρ')
 have veclen : ∀ ρ', (vec ρ').length = p.k := fun ρ' => by simp [vec, freshX_len]
 have key1 : ∀ ρ', (∀ r, r < T.n → ρ' r = ρ r) → Sat ρ' T1 →
   (step (vec ρ') = none ∧ (t.pickL ρ').1 ≠ .normal) ∨ (∃ outs, (t.pickL ρ').1 = .normal ∧ psXs (t.pickL ρ').2 h.lv = some outs ∧ step (vec ρ') = some (outs.map (X.ev ρ'))) := by
  intro ρ' hA hs'
  have elen : (vec ρ' ++ S).length = p.k + h.st.length := by simp [vec, S, freshX_len]
  have he : EnvOK ρ' (freshX T.n p.k ++ h.st ++ h.mp) (vec ρ' ++ S) := by
   intro r hr
   rw [elen] at hr
   by_cases hrk : r < p.k
   · refine ⟨.reg (T.n + r), ?_, ?_⟩
     · rw [List.append_assoc, List.getElem?_append_left (by rw [freshX_len]; exact hrk), freshX_at hrk]
     · rw [List.getD_eq_getElem?_getD, List.getElem?_append_left (by rw [veclen]; exact hrk)]
       show (((freshX T.n p.k).map (X.ev ρ'))[r]?).getD 0 = _
       rw [List.getElem?_map, freshX_at hrk]; rfl
   · have hr2 : r - p.k < h.st.length := by omega
     refine ⟨h.st[r - p.k], ?_, ?_⟩
     · rw [List.append_assoc, List.getElem?_append_right (by rw [freshX_len]; omega), freshX_len, List.getElem?_append_left hr2, List.getElem?_eq_getElem hr2]
     · rw [List.getD_eq_getElem?_getD, List.getElem?_append_right (by rw [veclen]; omega), veclen]
       have : S = h.st.map (X.ev ρ') := (allBelow_ev hA cst).symm
       rw [this, List.getElem?_map, List.getElem?_eq_getElem hr2]; rfl
  obtain ⟨k1, k2⟩ := runDs_ok (ds := p.ds) hs' hid (by rw [elen]; exact cds) he
  rw [Bool.or_eq_true] at ctr
  rcases ctr with ctr | ctr
  · exact trChk_ok k1 (by rw [k2, elen]; exact clen) ctr
  · exact trEq_ok hs' k1 (by rw [k2, elen]; exact clen) ctr (fun r b h => by cases h)
 -- The counter.
 let i := T.n + h.ctr
 let Inv : Int → Prop := fun x => (decE x).length ≤ h.lo
 have oldf : ∀ ρ', (∀ r, r < T.n → ρ' r = ρ r) → Facts ρ' st.fa := by
  intro ρ' hA r v hv
  have hlt := Tr.chk_spec _ _ _ cfa r v hv
  simp only [Nat.one_mul, Nat.add_zero] at hlt
  rw [hA r (Nat.le_of_ble_eq_true hlt)]
  exact hw.fa r v hv
 have eS : ∀ ρ', (∀ r, r < T.n → ρ' r = ρ r) → h.st.map (X.ev ρ') = S := fun ρ' hA => allBelow_ev hA cst
 have facts : ∀ ρ', (∀ r, r < T.n → ρ' r = ρ r) → Sat ρ' T1 → Inv (ρ' i) → ivSem h (vec ρ' ++ S) → Facts ρ' G.fa := by
  intro ρ' hA hs' hi hiv1
  have s3' := (hrec ρ' _ _ _ _ _ hr (toT4 ρ' hs')).1
  obtain ⟨s2', k2⟩ := ivHead_spec hiv s3'
  rw [hGfa]
  refine k2 ?_ (by rw [List.map_append, eS ρ' hA, ← ck]; exact hiv1)
  exact (lenF_spec hct s2').2 (oldf ρ' hA) clo hi
 have key2 : ∀ ρ', (∀ r, r < T.n → ρ' r = ρ r) → Sat ρ' T1 → Inv (ρ' i) → (t.pickL ρ').1 = .normal →
   ∃ outs, psXs (t.pickL ρ').2 h.lv = some outs ∧ matchSt T.n (rnOf h.gr G (t.pickL ρ').2) outs G (t.pickL ρ').2 = true ∧ (decE (ρ' i)).length < h.lo ∧ (decE ((outs.map (X.ev ρ')).getD h.ctr 0)).length = (decE (ρ' i)).length + 1 ∧ Inv ((outs.map (X.ev ρ')).getD h.ctr 0) := by
  intro ρ' hA hs' hi hn
  obtain ⟨hq1, outs, ho, hm, o, hc, hone⟩ := leafChkU_ok (ρ := ρ') cleaf (fun e => by cases e) hn
  have hi' : (decE (ρ' i)).length ≤ h.lo := hi
  have eb : ρ' b = ((min (decE (ρ' i)).length 9223372036854775807 : Nat) : Int) := hs' b _ hlb
  have eq : ρ' q = b2i ((h.lo : Int) == ρ' b) := hs' q _ hlq
  have hlt : (decE (ρ' i)).length < h.lo := by
   rcases Nat.lt_or_ge (decE (ρ' i)).length h.lo with h1 | h1
   · exact h1
   · exfalso
     apply hq1
     rw [eq, eb, Nat.min_eq_left (by omega)]
     have : (decE (ρ' i)).length = h.lo := by omega
     rw [this]
     simp [b2i]
  have hg := grewOne_spec hs' hone
  have hco : (outs.map (X.ev ρ')).getD h.ctr 0 = o.ev ρ' := by
   rw [List.getD_eq_getElem?_getD, List.getElem?_map, hc]; rfl
  refine ⟨outs, ho, hm, hlt, by rw [hco]; exact hg, ?_⟩
  show (decE _).length ≤ h.lo
  rw [hco, hg]
  exact hlt
 have agree0 : ∀ r d, r < T.n → T1.defs.get r = some d → ρ r = d.ev ρ := fun r d _ hd => s1 r d hd
 have term : ∀ (n : Nat) (v : List Int), v.length = p.k → Inv (v.getD h.ctr 0) → h.lo - (decE (v.getD h.ctr 0)).length < n → ∃ c m, itn step m v = some c ∧ step c = none ∧ c.length = p.k := by
  intro n
  induction n with
  | zero => intro v _ _ hlt; omega
  | succ n ih =>
   intro v hv hi hlt
   obtain ⟨ρ', hA, hV, hs'⟩ := close ctab agree0 v
   have ev : vec ρ' = v := map_fresh hv hV
   have ei : ρ' i = v.getD h.ctr 0 := hV _ cctr
   rcases key1 ρ' hA hs' with ⟨hstop, _⟩ | ⟨outs, hn, ho, hst⟩
   · exact ⟨v, 0, rfl, by rw [← ev]; exact hstop, hv⟩
   · obtain ⟨outs', ho', _, hl1, hl2, hl3⟩ := key2 ρ' hA hs' (by rw [ei]; exact hi) hn
     rw [ho] at ho'; cases ho'
     obtain ⟨c', m, h1, h2, h3⟩ := ih (outs.map (X.ev ρ')) (by rw [List.length_map, psXs_length ho]; exact ck.symm) hl3 (by rw [hl2, ei]; rw [ei] at hl1; omega)
     refine ⟨c', m + 1, ?_, h2, h3⟩
     unfold itn
     rw [ev] at hst
     rw [hst]
     exact h1
 -- The rounds.
 have main : ∀ (n : Nat) (ρ' : Nat → Int) (μ' : Mu) (a : Act) (w : World), (∀ r, r < T.n → ρ' r = ρ r) → Sat ρ' T1 → Inv (ρ' i) → ivSem h (vec ρ' ++ S) → Sub μ μ' → StRel ρ' w0 μ' G a w →
   fin step (vec ρ') = vec ρ → h.lo - (decE (ρ' i)).length < n → Code.rounds P c Q n a w := by
  intro n
  induction n with
  | zero => intro ρ' μ' a w _ _ _ _ _ _ _ hlt; omega
  | succ n ih =>
   intro ρ' μ' a w hA hs' hi hvi hsub hw' hfin hlt
   rw [rounds_succ]
   rcases key1 ρ' hA hs' with ⟨hstop, hnn⟩ | ⟨outs, hn, ho, hst⟩
   · have evv : vec ρ' = vec ρ := by rw [← hfin, fin_stop hstop]
     have efr : ∀ j, j < p.k → ρ (T.n + j) = ρ' (T.n + j) := by
      intro j hj
      have := congrArg (fun l => l[j]?) evv
      simp only [vec, List.getElem?_map, freshX_at hj] at this
      exact (Option.some.inj this).symm
     have hwρ : StRel ρ w0 (restrR G.nb (rnOf h.gr G G) μ') G a w := by
      refine matchSt_rel (ρ := ρ') (ρ' := ρ) (fun r hr => (hA r hr).symm) (fun j y hy => ?_) cm2 cnb (facts ρ (fun _ _ => rfl) s1 (by rw [efr _ cctr]; exact hi) (by rw [← evv]; exact hvi)) hw'
      obtain ⟨e, hj⟩ := freshX_get hy
      rw [e]; exact efr j hj
     refine (hrec ρ _ _ _ _ _ hr (toT4 ρ s1)).2 w0 _ a w _ hwρ ?_
     rw [sat_pickL]
     have hnn' : (t.pickL ρ).1 ≠ .normal := by
      rcases key1 ρ (fun _ _ => rfl) s1 with ⟨_, h1⟩ | ⟨outs, _, _, h1⟩
      · exact h1
      · rw [← evv, hstop] at h1; cases h1
     have hlf := prune_sat hpr hL0 hnn'
     intro μ'' a' w' hp' hw''
     have hsub2 : Sub μ μ'' := (restrR_sub hwr0 (by omega) (hfree G) hsub).trans hp'
     have := hlf μ'' a' w' hsub2 hw''
     revert this
     cases he : (t.pickL ρ).1 with
     | normal => exact absurd he hnn'
     | leave id => exact fun h => h
     | ret => exact fun h => h
   · refine (hrec ρ' _ _ _ _ _ hr (toT4 ρ' hs')).2 w0 μ' a w _ hw' ?_
     rw [sat_pickL]
     obtain ⟨outs', ho', hm, hl1, hl2, hl3⟩ := key2 ρ' hA hs' hi hn
     rw [ho] at ho'; cases ho'
     intro μ'' a' w' hp' hw''
     rw [hn]
     show Code.rounds P c Q n a' w'
     have hvl : (outs.map (X.ev ρ')).length = p.k := by rw [List.length_map, psXs_length ho]; exact ck.symm
     obtain ⟨ρ'', hA2, hV2, hs2⟩ := close ctab agree0 (outs.map (X.ev ρ'))
     have ev2 : vec ρ'' = outs.map (X.ev ρ') := map_fresh hvl hV2
     have ei2 : ρ'' i = (outs.map (X.ev ρ')).getD h.ctr 0 := hV2 _ cctr
     have hvi2 : ivSem h (vec ρ'' ++ S) := by
      have := (ivT_spec hit hs').2 hn hw''.fa outs ho
      rw [List.map_append, eS ρ' hA] at this
      rw [ev2]
      exact this
     have hw2 : StRel ρ'' w0 (restrR G.nb (rnOf h.gr G (t.pickL ρ').2) μ'') G a' w' := by
      refine matchSt_rel (ρ := ρ') (ρ' := ρ'') (fun r hr => (hA2 r hr).trans (hA r hr).symm) (fun j y hy => ?_) hm cnb (facts ρ'' hA2 hs2 (by rw [ei2]; exact hl3) hvi2) hw''
      have hj : j < p.k := by have := (List.getElem?_eq_some_iff.1 hy).1; rw [psXs_length ho, ← ck] at this; exact this
      rw [hV2 j hj, List.getD_eq_getElem?_getD, List.getElem?_map, hy]; rfl
     refine ih ρ'' _ a' w' hA2 hs2 (by rw [ei2]; exact hl3) hvi2 (restrR_sub hwr0 (by omega) (hfree (t.pickL ρ').2) (hsub.trans hp')) hw2 ?_ (by rw [ei2, hl2]; omega)
     rw [ev2, ← hfin]
     obtain ⟨c', m, h1, h2, _⟩ := term _ (outs.map (X.ev ρ')) hvl hl3 (Nat.lt_succ_self _)
     exact (fin_next hst ⟨c', m, h1, h2⟩).symm
 -- The way in.
 have hil : inits.length = p.k := by rw [psXs_length hin]; exact ck.symm
 have hvl : (inits.map (X.ev ρ)).length = p.k := by rw [List.length_map]; exact hil
 obtain ⟨ρ0, hA0, hV0, hs0⟩ := close ctab agree0 (inits.map (X.ev ρ))
 have ev0 : vec ρ0 = inits.map (X.ev ρ) := map_fresh hvl hV0
 have ei0 : ρ0 i = 0 := by
  have := hV0 _ cctr
  show ρ0 (T.n + h.ctr) = _
  rw [this, List.getD_eq_getElem?_getD, List.getElem?_map]
  split at cini
  · rename_i n hn
    rw [hn]
    show ((n : Nat) : Int) = _
    rw [Nat.eq_of_beq_eq_true cini]; rfl
  · cases cini
 have hi0 : Inv (ρ0 i) := by
  show (decE (ρ0 i)).length ≤ h.lo
  rw [ei0, show (0 : Int) = encE [] from rfl, decE_enc]
  exact Nat.zero_le _
 have hv0 : ivSem h (vec ρ0 ++ S) := by
  have := hiv0 hw.fa
  rw [List.map_append] at this
  rw [ev0]
  exact this
 have hf0 := facts ρ0 hA0 hs0 hi0 hv0
 have hw0 : StRel ρ0 w0 (restrR G.nb (rnOf h.gr G st) μ1) G a w := by
  refine matchSt_rel (ρ := ρ) (ρ' := ρ0) hA0 (fun j y hy => ?_) cm1 cnb hf0 hw
  have hj : j < p.k := by have := (List.getElem?_eq_some_iff.1 hy).1; omega
  rw [hV0 j hj, List.getD_eq_getElem?_getD, List.getElem?_map, hy]; rfl
 have hfin : fin step (vec ρ0) = vec ρ := by
  rw [ev0]
  obtain ⟨c', m, h1, h2, h3⟩ := term _ (inits.map (X.ev ρ)) hvl (by
   have := hi0
   rw [show ρ0 i = (inits.map (X.ev ρ)).getD h.ctr 0 from hV0 _ cctr] at this
   exact this) (Nat.lt_succ_self _)
  have hf := fin_of h1 h2
  have hlen : (fin step (inits.map (X.ev ρ))).length = p.k := by rw [hf]; exact h3
  refine (map_fresh hlen (fun j hj => ?_)).symm
  rw [hval j hj, opF_prog hp]
  show ((fin (p.step op (((inits ++ h.st).map (X.ev ρ)).drop p.k)) (((inits ++ h.st).map (X.ev ρ)).take p.k)).getD ((j : Int)).toNat 0) = _
  have e1 : ((inits ++ h.st).map (X.ev ρ)).take p.k = inits.map (X.ev ρ) := by
   rw [List.map_append, List.take_append_of_le_length (by rw [hvl]; exact Nat.le_refl _), List.take_of_length_le (by rw [hvl]; exact Nat.le_refl _)]
  have e2 : ((inits ++ h.st).map (X.ev ρ)).drop p.k = S := by
   rw [List.map_append, List.drop_append_of_le_length (by rw [hvl]; exact Nat.le_refl _), List.drop_of_length_le (by rw [hvl]; exact Nat.le_refl _)]; rfl
  rw [e1, e2, Int.toNat_natCast]
 exact wp_loop_rounds _ (main (h.lo - (decE (ρ0 i)).length + 1) ρ0 _ a w hA0 hs0 hi0 hv0 (restrR_sub hwr0 (by omega) (hfree st) hsub1) hw0 hfin (Nat.lt_succ_self _))
theorem loopW_sound {rec : Code → Tab → St → Option (Tab × Tree)} (hrec : ∀ ρ, RecOK P ρ rec) {p : Lit} {h : Hint} (hp : progs[h.id]? = some p) {c : Code} {T T' : Tab} {st : St} {t' : Tree}
  (hl : loopW rec p h c T st = some (T', t')) (hs : Sat ρ T') : Sat ρ T ∧ ∀ w0 μ1 μ a w Q, StRel ρ w0 μ1 st a w → Sub μ μ1 → (∃ nb0 bs0, WR ρ w0 μ nb0 bs0 w ∧ nb0 ≤ st.nb ∧ (h.gr ≠ 0 → nb0 + 1 = st.nb)) → t'.sat ρ (Leafs ρ w0 Q μ) → (Code.loop c).wp P Q a w := by
 unfold loopW at hl
 split at hl
 case h_2 => cases hl
 rename_i inits hin
 split at hl
 case h_2 => cases hl
 rename_i T0 hi
 split at hl
 · obtain ⟨s0, k⟩ := loopU_sound hrec hp hin hl hs
   obtain ⟨s, kf⟩ := ivIn_spec hi s0
   exact ⟨s, k kf⟩
 · obtain ⟨s0, k⟩ := loopZ_sound hrec hp hin hl hs
   obtain ⟨s, kf⟩ := ivIn_spec hi s0
   exact ⟨s, k kf⟩
theorem reGl_rel {st st1 : St} {t : Nat} (h : reGl st t = some st1) {w0 : Base} {μ : Mu} {a : Act} {w : World} (hw : StRel ρ w0 μ st a w) :
  st1.nb = st.nb + 1 ∧ ∃ μ1, Sub μ μ1 ∧ StRel ρ w0 μ1 st1 a w := by
 unfold reGl at h
 obtain ⟨nt, fr, nb, bs, fa⟩ := st
 simp only at h
 split at h
 case h_2 => cases h
 rename_i i ks L hfr
 split at h
 case h_2 => cases h
 rename_i B hB hnb
 cases h
 rw [Bool.or_eq_false_iff] at hnb
 have hlb : nb < LB := by
  have : ¬ maxReg ≤ nb := fun hle => by rw [Nat.ble_eq_true_of_le hle] at hnb; cases hnb.1
  unfold maxReg at this
  unfold LB; omega
 have htm : t + 1 < 2 ^ fuelT := by
  have : ¬ maxReg ≤ t := fun hle => by rw [Nat.ble_eq_true_of_le hle] at hnb; cases hnb.2
  unfold maxReg at this
  unfold fuelT; omega
 have hfree := hw.wr.top nb (Nat.le_refl _) hlb
 have hgl := hw.fr.slot t _ hfr
 obtain ⟨p, els, hp, hrest⟩ := hgl
 obtain ⟨μ1, hyes, hno, hsub⟩ : ∃ μ1 : Mu, μ1 nb = some p ∧ (∀ j, j ≠ nb → μ1 j = μ j) ∧ Sub μ μ1 := by
  refine ⟨fun j => if j = nb then some p else μ j, if_pos rfl, fun j hj => if_neg hj, fun j r hj => ?_⟩
  show (if j = nb then some p else μ j) = some r
  split
  · rename_i e1; subst e1; rw [hfree] at hj; cases hj
  · exact hj
 refine ⟨rfl, μ1, hsub, hw.defers, ⟨hw.fr.size, fun t' s hs => ?_⟩, ⟨hw.wr.kept, ?_, ?_, ?_, ?_, ?_, fun q hq => by have hq : nb + 1 ≤ q := hq; rw [hno _ (by omega)]; exact hw.wr.ltop q (by show nb ≤ q; omega)⟩, hw.fa⟩
 · have hs : (fr.set fuelT t (.w (.one (.gl nb ks L)))).get t' = some s := hs
   rcases Tr.get_set_some _ _ _ _ _ _ hs with ⟨rfl, rfl⟩ | ⟨_, hs⟩
   · exact ⟨p, els, hyes, hrest⟩
   · exact SV.rel_mono hsub (hw.fr.slot t' s hs)
 · intro j k r r2 Bj Bk hj hk hmj hmk e1
   have hj : ((bs.del i).set fuelT nb B).get j = some Bj := hj
   have hk : ((bs.del i).set fuelT nb B).get k = some Bk := hk
   rcases Tr.get_set_some _ _ _ _ _ _ hj with ⟨rfl, rfl⟩ | ⟨hne, hj'⟩
   · rcases Tr.get_set_some _ _ _ _ _ _ hk with ⟨rfl, rfl⟩ | ⟨hne', hk'⟩
     · rfl
     · obtain ⟨hki, hk''⟩ := Tr.get_del_some _ _ _ _ hk'
       rw [hyes] at hmj; cases hmj
       rw [hno _ hne'] at hmk
       exact absurd (hw.wr.inj i k _ _ _ _ hB hk'' hp hmk e1).symm hki
   · obtain ⟨hji, hj''⟩ := Tr.get_del_some _ _ _ _ hj'
     rw [hno _ hne] at hmj
     rcases Tr.get_set_some _ _ _ _ _ _ hk with ⟨rfl, rfl⟩ | ⟨hne', hk'⟩
     · rw [hyes] at hmk; cases hmk
       exact absurd (hw.wr.inj j i _ _ _ _ hj'' hB hmj hp e1) hji
     · obtain ⟨_, hk''⟩ := Tr.get_del_some _ _ _ _ hk'
       rw [hno _ hne'] at hmk
       exact hw.wr.inj j k r r2 Bj Bk hj'' hk'' hmj hmk e1
 · intro j hj hj2
   have hj' : nb + 1 ≤ j := hj
   rw [hno _ (by omega)]
   exact hw.wr.top j (by show nb ≤ j; omega) hj2
 · intro j Bj r hj hm
   have hj : ((bs.del i).set fuelT nb B).get j = some Bj := hj
   rcases Tr.get_set_some _ _ _ _ _ _ hj with ⟨rfl, rfl⟩ | ⟨hne, hj'⟩
   · rw [hyes] at hm; cases hm
     exact hw.wr.lo i _ _ hB hp
   · rw [hno _ hne] at hm
     exact hw.wr.lo j Bj r (Tr.get_del_some _ _ _ _ hj').2 hm
 · intro j Bj hj
   have hj : ((bs.del i).set fuelT nb B).get j = some Bj := hj
   rcases Tr.get_set_some _ _ _ _ _ _ hj with ⟨rfl, rfl⟩ | ⟨hne, hj'⟩
   · obtain ⟨r, cs, hr, hh, hsz, hb⟩ := hw.wr.blk i _ hB
     rw [hp] at hr; cases hr
     exact ⟨p, cs, hyes, hh, hsz, hb.mono hsub⟩
   · obtain ⟨r, cs, hr, hh, hsz, hb⟩ := hw.wr.blk j Bj (Tr.get_del_some _ _ _ _ hj').2
     exact ⟨r, cs, hsub _ _ hr, hh, hsz, hb.mono hsub⟩
 · intro k r hk hr2
   rw [hno _ (by omega)] at hr2
   obtain ⟨l1, l2⟩ := hw.wr.lst k r hk hr2
   refine ⟨l1, fun hf j Bj s hj hm => ?_⟩
   have hj : ((bs.del i).set fuelT nb B).get j = some Bj := hj
   rcases Tr.get_set_some _ _ _ _ _ _ hj with ⟨rfl, rfl⟩ | ⟨hne, hj'⟩
   · rw [hyes] at hm; cases hm
     exact l2 hf i _ _ hB hp
   · rw [hno _ hne] at hm
     exact l2 hf j Bj s (Tr.get_del_some _ _ _ _ hj').2 hm
theorem loopX_sound {rec : Code → Tab → St → Option (Tab × Tree)} (hrec : ∀ ρ, RecOK P ρ rec) {p : Lit} {h : Hint} (hp : progs[h.id]? = some p) {c : Code} {T T' : Tab} {st : St} {t' : Tree}
  (hl : loopX rec p h c T st = some (T', t')) (hs : Sat ρ T') : Sat ρ T ∧ ∀ w0 μ a w Q, StRel ρ w0 μ st a w → t'.sat ρ (Leafs ρ w0 Q μ) → (Code.loop c).wp P Q a w := by
 unfold loopX at hl
 split at hl
 · rename_i hg
   obtain ⟨s, k⟩ := loopW_sound hrec hp hl hs
   exact ⟨s, fun w0 μ a w Q hw ht => k w0 μ μ a w Q hw (Sub.refl _) ⟨_, _, hw.wr, Nat.le_refl _, fun e => absurd hg e⟩ ht⟩
 · rename_i tt hg
   split at hl
   · rename_i st1 hst
     obtain ⟨s, k⟩ := loopW_sound hrec hp hl hs
     refine ⟨s, fun w0 μ a w Q hw ht => ?_⟩
     obtain ⟨hnb, μ1, hsub, hw1⟩ := reGl_rel hst hw
     exact k w0 μ1 μ a w Q hw1 hsub ⟨_, _, hw.wr, by omega, fun _ => by omega⟩ ht
   · cases hl
end
end Go.Sx

namespace Go.Sx
noncomputable section
open Go.RowKit
def firstReg : Code → Nat
 | .region id _ _ => id
 | .seq a _ => firstReg a
 | .cond _ a _ => firstReg a
 | .block _ c => firstReg c
 | .loop c => firstReg c
 | _ => 0
/-! ### Contracts that turn memory -/
inductive MT where
 | leaf (nb : Nat) (bs : Tr Blk) (v : SV)
 | node (r : Nat) (a b : MT)
abbrev MFn := Tab → St → List SV → Option (Tab × MT)
inductive MK where
 | copy (ks : List Nat)
 | fn (s : MFn)
def contM (fin : Tab → St → SV → Option (Tab × Tree)) : MT → Tab → St → Option (Tab × Tree)
 | .leaf nb bs v, T, st => fin T (match st with | ⟨nt, fr, _, _, fa⟩ => ⟨nt, fr, nb, bs, fa⟩) v
 | .node r a b, T, st => decS (.reg r) (fun q T st => match q with
  | true => contM fin a T st
  | false => contM fin b T st) 1000 T st
section
variable (Γ : Ctx) (hs : Nat → Option Hint) (mks : Nat → Option MK) (rec : Code → Tab → St → Option (Tab × Tree))
def notNeg (T : Tab) (fa : Tr Bool) (s : Nat) : Bool :=
 match factOn T fa 15 [.reg s, .lit 0] with
 | some b => !b
 | none => false
def lessLen (T : Tab) (s : Nat) : Bool :=
 match T.defs.get s with
 | some d =>
  match d.a with
  | [_, _, .reg m] =>
   match T.defs.get m with
   | some e => d.beq ⟨32, [.lit 3, .lit 1048576, .reg m]⟩ && (match e.a with
    | [L] => e.beq ⟨62, [L]⟩
    | _ => false)
   | none => false
  | _ => false
 | none => false
def shortScan (T : Tab) (fa : Tr Bool) (n : Nat) : List Nat → Bool
 | [] => false
 | r :: l =>
  (match T.defs.get r with
   | some d => match d.a with
    | [_, .reg s, _] => d.beq ⟨32, [.lit 3, .reg s, .reg n]⟩ && (notNeg T fa r && (notNeg T fa s && lessLen T s))
    | _ => false
   | none => false) || shortScan T fa n l
def shortL (T : Tab) (fa : Tr Bool) (L : X) : Bool :=
 match look T 62 [L] with
 | some n =>
  (match look T 32 [.lit 3, .lit 1048576, .reg n] with
  | some s => notNeg T fa s
  | none => false) || shortScan T fa n ((T.idx.get n).getD [])
 | none => false
def makeX (T : Tab) (st : St) (o : Oper) : Option (St × SV) :=
 match o.op with
 | .call c =>
  match calleeS st c with
  | some (g, [.w (.one (.ls _ ks L))]) =>
   match mks g with
   | some (.copy ks') =>
    match natsBeq ks ks' && shortL T st.fa L, st with
    | true, ⟨nt, fr, nb, bs, fa⟩ => some (⟨nt, fr, nb + 1, bs, fa⟩, .c (.ls nb ks L))
    | false, _ => none
   | _ => none
  | _ => none
 | _ => none
def callM (T : Tab) (st : St) (o : Oper) : Option (Tab × MT) :=
 match o.op with
 | .call c =>
  match calleeS st c with
  | some (g, args) =>
   match mks g with
   | some (.fn s) => s T st args
   | _ => none
  | none => none
 | _ => none
def runX (o : Oper) (fin : Tab → St → SV → Option (Tab × Tree)) (T : Tab) (st : St) : Option (Tab × Tree) :=
 match listS Γ T st o with
 | some (T1, v) => fin T1 st v
 | none =>
  match makeX mks T st o with
  | some (st1, v) => fin T st1 v
  | none =>
   match sliceX Γ T st o with
   | some (T1, (st1, v)) => fin T1 st1 v
   | none =>
    match growX Γ T st o with
    | some (T1, (st1, v)) => fin T1 st1 v
    | none =>
     match callM mks T st o with
     | some (T1, m) => contM fin m T1 st
     | none => runS Γ rec o fin T st
def guardedX (ops : Array Oper) (o : Oper) (fin : Tab → St → SV → Option (Tab × Tree)) (T : Tab) (st : St) : Option (Tab × Tree) :=
 match o.guard with
 | none => runX Γ mks rec o fin T st
 | some (j, want) =>
  match guardS ops st j with
  | some x => decS x (fun b T st => match b == want with
    | true => runX Γ mks rec o fin T st
    | false => fin T st (.tup [])) 1000 T st
  | none =>
   match undefG ops st j with
   | true => fin T st (.tup [])
   | false => none
def opsLX (ops : Array Oper) : List Oper → Tab → St → Option (Tab × Tree)
 | [], T, st => some (T, .leaf .normal st)
 | o :: rest, T, st => guardedX Γ mks rec ops o (fun T st v =>
   match st.put o.dst v with
   | some st => opsLX ops rest T st
   | none => none) T st
def opsX (ops : Array Oper) (l : List Oper) (T : Tab) (st : St) : Option (Tab × Tree) := openI (allSlots l) (opsLX Γ mks rec ops l) 2 T st
def leSt (A M : St) : Bool :=
 Nat.beq M.nt A.nt && (Nat.ble A.nb M.nb &&
 (Tr.chk (fun t s => match A.fr.get t with | some s' => svBeq s s' | none => false) 1 0 M.fr &&
 (Tr.chk (fun i B => match A.bs.get i with | some C => blkBeq B C | none => false) 1 0 M.bs &&
  Tr.chk (fun r b => match A.fa.get r with | some c => b == c | none => false) 1 0 M.fa)))
def stepP (ops : Array Oper) (next : Array Bool → Tab → St → Option (Tab × Tree)) (i : Nat) (listed : Array Bool) (T : Tab) (st : St) : Option (Tab × Tree) :=
 match ops[i]? with
 | some o => guardedX Γ mks rec ops o (fun T st v =>
   match st.put o.dst v with
   | some st => next (listed.setIfInBounds i true) T st
   | none => none) T st
 | none => none
def permJ (ops : Array Oper) (next : Array Bool → Tab → St → Option (Tab × Tree)) (listed : Array Bool) (st stF : St) : List Nat → Tab → Option (Tab × Tree)
 | [], T => some (T, .leaf .normal stF)
 | j :: l, T =>
  match stepP Γ mks rec ops next j listed T st with
  | some (T1, .leaf .normal stA) =>
   match leSt stA stF with
   | true => permJ ops next listed st stF l T1
   | false => none
  | _ => none
def permS (ops : Array Oper) : Nat → Array Bool → Tab → St → Option (Tab × Tree)
 | 0, listed, T, st =>
  match Region.ready .any ops listed with
  | [] => some (T, .leaf .normal st)
  | _ :: _ => none
 | n + 1, listed, T, st =>
  match Region.ready .any ops listed with
  | [] => some (T, .leaf .normal st)
  | i :: rest =>
   match stepP Γ mks rec ops (permS ops n) i listed T st with
   | some (T1, .leaf .normal stF) => permJ Γ mks rec ops (permS ops n) listed st stF rest T1
   | _ => none
def drawX (ops : Array Oper) (T : Tab) (st : St) : Option (Tab × Tree) :=
 openI (allSlots ops.toList) (fun T st => match drawGone Γ rec ops T st with
  | some r => some r
  | none => match Nat.ble ops.size 8 with
   | true => permS Γ mks rec ops ops.size (Array.replicate ops.size false) T st
   | false => none) 2 T st
def codeX : Code → Tab → St → Option (Tab × Tree)
 | .skip, T, st => some (T, .leaf .normal st)
 | .region _ ops false, T, st => opsX Γ mks rec ops ops.toList T st
 | .region _ ops true, T, st => drawX Γ mks rec ops T st
 | .seq a b, T, st =>
  match rec a T st with
  | some (T1, t) => t.bind (fun T e s => match e with
   | .normal => rec b T s
   | e => some (T, .leaf e s)) T1
  | none => none
 | .cond c a b, T, st =>
  match st.eval c with
  | .w (.one (.bool x)) => condS x (rec a) (rec b) T st
  | _ => none
 | .block id c, T, st =>
  match rec c T st with
  | some (T1, t) => tidyO st.fa (t.bind (fun T e s => match e with
   | .leave j => match Nat.beq j id with
    | true => some (T, .leaf .normal s)
    | false => some (T, .leaf (.leave j) s)
   | e => some (T, .leaf e s)) T1)
  | none => none
 | .loop c, T, st =>
  match hs (firstReg c) with
  | some h => match progs[h.id]? with
   | some p => match loopX rec p h c T st with
    | some r => some r
    | none => loopS rec c 400 T st
   | none => loopS rec c 400 T st
  | none => loopS rec c 400 T st
 | .exit id, T, st => some (T, .leaf (.leave id) st)
 | .label _, T, st => some (T, .leaf .normal st)
 | .ret, T, st => some (T, .leaf .ret st)
 | _, _, _ => none
end
def execX (Γ : Ctx) (hs : Nat → Option Hint) (mks : Nat → Option MK) : Nat → Code → Tab → St → Option (Tab × Tree)
 | 0 => fun _ _ _ => none
 | n + 1 => codeX Γ hs mks (execX Γ hs mks n)
section
variable {P : Program} {ρ : Nat → Int} {Γ : Ctx}
def MakeOK (P : Program) (f : Nat) (ks : List Nat) (e : Nat) : Prop :=
 ∀ (w : World) (b off : Nat) (els : List (List Int)) (v : Value), LstAt w.heap (b, encP off ks els) → Hdr b off els.length v → els.length ≤ 1048576 →
  CallOK P f #[v] w fun x w' => ∃ b' cs, x = .slice (some ⟨b', 0, none⟩) els.length els.length ∧ w'.heap[b']? = some (.cells cs e (0, 0)) ∧ cs.size = els.length * ks.length ∧ ManyAt ks els cs ∧
   w.heap.size ≤ b' ∧ Below w.heap.size w w'
def MT.pick (ρ : Nat → Int) : MT → Nat × (Tr Blk × SV)
 | .leaf nb bs v => (nb, (bs, v))
 | .node r a b => if ρ r = 1 then a.pick ρ else b.pick ρ
def MFnOK (P : Program) (f : Nat) (s : MFn) : Prop :=
 ∀ T st args T1 m, s T st args = some (T1, m) → ∀ ρ, Sat ρ T1 → Sat ρ T ∧
  ∀ w0 μ (vs : Array Value) w, Facts ρ st.fa → WR ρ w0 μ st.nb st.bs w → svsRel ρ μ args vs.toList →
   CallOK P f vs w fun x w' => ∃ μ', Sub μ μ' ∧ WR ρ w0 μ' (m.pick ρ).1 (m.pick ρ).2.1 w' ∧ (m.pick ρ).2.2.rel ρ μ' x
def MKOK (P : Program) (f : Nat) : MK → Prop
 | .copy ks => ∃ e, MakeOK P f ks e
 | .fn s => MFnOK P f s
theorem notNeg_spec {T : Tab} (hs : Sat ρ T) {fa : Tr Bool} (hf : Facts ρ fa) {s : Nat} (h : notNeg T fa s = true) : 0 ≤ ρ s := by
 unfold notNeg at h
 split at h
 · rename_i b hb
   have hb0 : b = false := by simpa using h
   subst hb0
   have e3 := factOn_spec hs hf hb
   have e3 : (b2i (decide (ρ s < 0)) == 1) = false := e3
   rw [b2i_eq] at e3
   have e3 := of_decide_eq_false e3
   omega
 · cases h
theorem len_range {ρ : Nat → Int} (l : Int) : 0 ≤ opF 62 [l] ∧ opF 62 [l] ≤ 9223372036854775807 := by
 show 0 ≤ ((min (decE l).length 9223372036854775807 : Nat) : Int) ∧ ((min (decE l).length 9223372036854775807 : Nat) : Int) ≤ 9223372036854775807
 have := Nat.min_le_right (decE l).length 9223372036854775807
 omega
theorem lessLen_spec {T : Tab} (hs : Sat ρ T) {s : Nat} (h : lessLen T s = true) : ∃ m, 0 ≤ m ∧ m ≤ 9223372036854775807 ∧ ρ s = IntKind.i64.wrap (1048576 - m) := by
 unfold lessLen at h
 split at h
 · rename_i d hd
   split at h
   · rename_i x y m _
     split at h
     · rename_i e he
       simp only [Bool.and_eq_true] at h
       obtain ⟨h1, h2⟩ := h
       split at h2
       · rename_i L _
         have e1 := hs s d hd
         rw [D.beq_eq h1] at e1
         have e2 := hs m e he
         rw [D.beq_eq h2] at e2
         have e2 : ρ m = opF 62 [L.ev ρ] := e2
         have := len_range (ρ := ρ) (L.ev ρ)
         exact ⟨ρ m, by rw [e2]; exact this.1, by rw [e2]; exact this.2, e1⟩
       · cases h2
     · cases h
   · cases h
 · cases h
theorem shortScan_spec {T : Tab} (hs : Sat ρ T) {fa : Tr Bool} (hf : Facts ρ fa) {n : Nat} (hn : 0 ≤ ρ n ∧ ρ n ≤ 9223372036854775807) : ∀ {l : List Nat}, shortScan T fa n l = true → ρ n ≤ 1048576
 | [], h => by cases h
 | r :: l, h => by
  unfold shortScan at h
  rw [Bool.or_eq_true] at h
  rcases h with h | h
  · split at h
    · rename_i d hd
      split at h
      · rename_i x s y _
        simp only [Bool.and_eq_true] at h
        obtain ⟨h1, h2, h3, h4⟩ := h
        have e1 := hs r d hd
        rw [D.beq_eq h1] at e1
        have e1 : ρ r = IntKind.i64.wrap (ρ s - ρ n) := e1
        have r0 := notNeg_spec hs hf h2
        have s0 := notNeg_spec hs hf h3
        obtain ⟨m, m0, m1, e2⟩ := lessLen_spec hs h4
        rw [Go.IntWalk.i64_in _ (by omega)] at e2
        rw [e1, Go.IntWalk.i64_in _ (by omega)] at r0
        omega
      · cases h
    · cases h
  · exact shortScan_spec hs hf hn h
theorem shortL_spec {T : Tab} (hs : Sat ρ T) {fa : Tr Bool} (hf : Facts ρ fa) {L : X} (h : shortL T fa L = true) {els : List (List Int)} (he : L.ev ρ = encE els) (hl : els.length ≤ maxLen) : els.length ≤ 1048576 := by
 unfold shortL at h
 split at h
 case h_2 => cases h
 rename_i n hn
 have e1 : ρ n = (els.length : Nat) := by
  rw [hs n _ (look_spec hn)]
  show ((min (decE (L.ev ρ)).length 9223372036854775807 : Nat) : Int) = ((els.length : Nat) : Int)
  unfold maxLen at hl
  rw [he, decE_enc, Nat.min_eq_left (by omega)]
 unfold maxLen at hl
 rw [Bool.or_eq_true] at h
 rcases h with h | h
 · split at h
   · rename_i s hs'
     have e2 : ρ s = IntKind.i64.wrap (1048576 - ρ n) := hs s _ (look_spec hs')
     have e3 := notNeg_spec hs hf h
     rw [e2, e1, Go.IntWalk.i64_in _ (by omega)] at e3
     omega
   · cases h
 · have := shortScan_spec hs hf (n := n) (by omega) h
   omega
theorem makeX_sound {mks : Nat → Option MK} (hmk : ∀ g m, mks g = some m → MKOK P g m) {T : Tab} {st st1 : St} {o : Oper} {v : SV} (h : makeX mks T st o = some (st1, v)) (hs : Sat ρ T)
  {w0 : Base} {μ : Mu} {a : Act} {w : World} (hw : StRel ρ w0 μ st a w) {next : Act → World → Prop} {Q : Exit → Act → World → Prop}
  (hnext : ∀ μ' x w2, Sub μ μ' → StRel ρ w0 μ' st1 a w2 → v.rel ρ μ' x → next (a.put o.dst x) w2) : o.wp P a w next Q := by
 unfold makeX at h
 split at h
 case h_2 => cases h
 rename_i c ho
 split at h
 case h_2 => cases h
 rename_i g q ks L hcal
 split at h
 case h_2 => cases h
 rename_i ks' hm
 split at h
 case h_2 => cases h
 rename_i nt fr nb bs fa hcond
 cases h
 simp only [Bool.and_eq_true] at hcond
 have ek := natsBeq_eq hcond.1
 subst ek
 obtain ⟨vs, e1, e2⟩ := calleeS_spec (ρ := ρ) hcal hw o.type
 have hex : execOp a.eval o = callFunc g vs := by rw [← e1]; simp only [execOp, ho]
 obtain ⟨xv, hxv, hrel⟩ : ∃ xv, vs = #[xv] ∧ (SC.ls q ks L).rel ρ μ xv := by
  clear e1 hex
  obtain ⟨l⟩ := vs
  match l, e2 with
  | [x], e2 => exact ⟨x, rfl, e2.1⟩
 obtain ⟨p, off, els, hp, he, hL, hd⟩ := hrel
 have hlen : els.length ≤ maxLen := by rcases hd with ⟨h0, _⟩ | ⟨c, _, h1, h2⟩ <;> omega
 have hsh := shortL_spec hs hw.fa hcond.2 hL hlen
 obtain ⟨hlst, _⟩ := hw.wr.lst (LB + q) p (Nat.le_add_right _ _) hp
 have hpp : p = (p.1, encP off ks els) := by rw [← he]
 rw [hpp] at hlst
 obtain ⟨e0, hmo⟩ := (hmk g (.copy ks) hm : ∃ e, MakeOK P g ks e)
 have hc := hmo w p.1 off els xv hlst hd hsh
 have fin : ∀ x w', (∃ b' cs, x = .slice (some ⟨b', 0, none⟩) els.length els.length ∧ w'.heap[b']? = some (.cells cs e0 (0, 0)) ∧ cs.size = els.length * ks.length ∧ ManyAt ks els cs ∧
   w.heap.size ≤ b' ∧ Below w.heap.size w w') → next (a.put o.dst x) w' := by
  rintro x w' ⟨b', cs0, k1, k2, _, k3, h3, h4⟩
  have h1 : Hdr b' 0 els.length x := .inr ⟨els.length, k1, Nat.le_refl _, hlen⟩
  have h2 : LstAt w'.heap (b', encP 0 ks els) := ⟨0, ks, els, rfl, fun _ => ⟨cs0, e0, (0, 0), k2, fun i c hi hc => by rw [Nat.zero_add]; exact k3 i c hi hc⟩⟩
  have hwr := hw.wr.after h4
  have hfree : μ (LB + nb) = none := hw.wr.ltop nb (Nat.le_refl _)
  have hsub : Sub μ (fun i => if i = LB + nb then some (b', encP 0 ks els) else μ i) := by
   intro i r hi
   simp only
   split
   · rename_i e; rw [e, hfree] at hi; cases hi
   · exact hi
  have hblk : ∀ i B r, bs.get i = some B → i ≠ LB + nb → μ i = some r → r.1 ≠ b' := by
   intro i B r hi _ hr
   obtain ⟨r', cs, hr', hh, _⟩ := hw.wr.blk i B hi
   rw [hr] at hr'; cases hr'
   have := (Array.getElem?_eq_some_iff.1 hh).1
   omega
  have hne : ∀ i B, bs.get i = some B → i ≠ LB + nb := by
   intro i B hi e
   obtain ⟨r', cs, hr', _⟩ := hw.wr.blk i B hi
   rw [e, hfree] at hr'; cases hr'
  refine hnext _ x w' hsub ⟨hw.defers, hw.fr.mono hsub, ⟨hwr.kept, ?_, ?_, ?_, ?_, ?_, ?_⟩, hw.fa⟩ ⟨(b', encP 0 ks els), 0, els, if_pos rfl, rfl, hL, h1⟩
  · intro i j r s Bi Bj hi hj hr hs e
    rw [if_neg (hne i Bi hi)] at hr
    rw [if_neg (hne j Bj hj)] at hs
    exact hwr.inj i j r s Bi Bj hi hj hr hs e
  · intro i hi hi2
    have hi : nb + 1 ≤ i := hi
    rw [if_neg (by omega)]
    exact hw.wr.top i (Nat.le_trans (Nat.le_succ _) hi) hi2
  · intro i B r hi hr
    rw [if_neg (hne i B hi)] at hr
    exact hwr.lo i B r hi hr
  · intro i B hi
    obtain ⟨r, cs, hr, hh, hsz, hb⟩ := hwr.blk i B hi
    exact ⟨r, cs, hsub _ _ hr, hh, hsz, hb.mono hsub⟩
  · intro i r hi hr
    by_cases e : i = LB + nb
    · rw [if_pos e] at hr
      cases hr
      refine ⟨h2, fun _ j B s hj hs => ?_⟩
      rw [if_neg (hne j B hj)] at hs
      exact hblk j B s hj (hne j B hj) hs
    · rw [if_neg e] at hr
      obtain ⟨l1, l2⟩ := hwr.lst i r hi hr
      refine ⟨l1, fun hf j B s hj hs => ?_⟩
      rw [if_neg (hne j B hj)] at hs
      exact l2 hf j B s hj hs
  · intro i hi
    have hi : nb + 1 ≤ i := hi
    rw [if_neg (by omega)]
    exact hw.wr.ltop i (Nat.le_trans (Nat.le_succ _) hi)
 unfold Oper.wp
 rw [hex, hxv]
 unfold CallOK at hc
 generalize (callFunc g #[xv]).run P w = r at hc
 unfold Oper.upon
 split at hc
 · exact fin _ _ hc
 · simp only
   refine hc.mono ?_
   rintro e w2 ⟨v, rfl, hv⟩
   exact fin _ _ hv
 · exact hc.elim
theorem contM_spec {fin : Tab → St → SV → Option (Tab × Tree)} (hk : ∀ T st v T' t, fin T st v = some (T', t) → Sat ρ T' → Sat ρ T) : ∀ (m : MT) {T T' : Tab} {st : St} {t : Tree}, contM fin m T st = some (T', t) → Sat ρ T' →
  Sat ρ T ∧ ∀ w0 μ a w L, StRel ρ w0 μ st a w → t.sat ρ L → ∃ T1 T2 t2 st1, StRel ρ w0 μ st1 a w ∧
   fin T1 (match st1 with | ⟨nt, fr, _, _, fa⟩ => ⟨nt, fr, (m.pick ρ).1, (m.pick ρ).2.1, fa⟩) (m.pick ρ).2.2 = some (T2, t2) ∧ Sat ρ T2 ∧ t2.sat ρ L
 | .leaf nb bs v, T, T', st, t, h, hs => by
  unfold contM at h
  exact ⟨hk _ _ _ _ _ h hs, fun w0 μ a w L hw hL => ⟨T, T', t, st, hw, h, hs, hL⟩⟩
 | .node r a b, T, T', st, t, h, hs => by
  unfold contM at h
  have hg : ∀ (q : Bool) (T : Tab) (st : St) (T' : Tab) (t : Tree), (match q with
    | true => contM fin a T st
    | false => contM fin b T st) = some (T', t) → Sat ρ T' → Sat ρ T := by
   intro q T st T' t h1 hs'
   cases q with
   | true => exact (contM_spec hk a h1 hs').1
   | false => exact (contM_spec hk b h1 hs').1
  obtain ⟨s0, hb⟩ := decS_spec hg 1000 h hs
  refine ⟨s0, fun w0 μ ac w L hw hL => ?_⟩
  obtain ⟨q, T1, T2, t2, st1, hρ, hw1, h1, hs2, hL2⟩ := hb w0 μ ac w L hw hL
  have hρ : (ρ r == 1) = q := hρ
  cases q with
  | true =>
   have e : ρ r = 1 := by simpa using hρ
   have : (MT.node r a b).pick ρ = a.pick ρ := if_pos e
   rw [this]
   exact (contM_spec hk a h1 hs2).2 w0 μ ac w L hw1 hL2
  | false =>
   have e : ρ r ≠ 1 := by simpa using hρ
   have : (MT.node r a b).pick ρ = b.pick ρ := if_neg e
   rw [this]
   exact (contM_spec hk b h1 hs2).2 w0 μ ac w L hw1 hL2
theorem callM_sound {mks : Nat → Option MK} (hmk : ∀ g m, mks g = some m → MKOK P g m) {fin : Tab → St → SV → Option (Tab × Tree)} (hk : ∀ T st v T' t, fin T st v = some (T', t) → Sat ρ T' → Sat ρ T)
  {T T1 T' : Tab} {st : St} {o : Oper} {m : MT} {t : Tree} (hc : callM mks T st o = some (T1, m)) (h : contM fin m T1 st = some (T', t)) (hs : Sat ρ T') :
  Sat ρ T ∧ ∀ w0 μ a w (next : Act → World → Prop) Q, StRel ρ w0 μ st a w → t.sat ρ (Leafs ρ w0 Q μ) →
   (∀ μ' st2 x sv w2 T1 T2 t2, Sub μ μ' → StRel ρ w0 μ' st2 a w2 → sv.rel ρ μ' x → fin T1 st2 sv = some (T2, t2) → Sat ρ T2 → t2.sat ρ (Leafs ρ w0 Q μ) → next (a.put o.dst x) w2) →
   o.wp P a w next Q := by
 obtain ⟨s1, hcont⟩ := contM_spec hk m h hs
 unfold callM at hc
 split at hc
 case h_2 => cases hc
 rename_i c ho
 split at hc
 case h_2 => cases hc
 rename_i g args hcal
 split at hc
 case h_2 => cases hc
 rename_i s hm
 obtain ⟨s0, hcall⟩ := (hmk g (.fn s) hm : MFnOK P g s) T st args T1 m hc ρ s1
 refine ⟨s0, fun w0 μ a w next Q hw hL hnext => ?_⟩
 obtain ⟨vs, e1, e2⟩ := calleeS_spec (ρ := ρ) hcal hw o.type
 have hex : execOp a.eval o = callFunc g vs := by rw [← e1]; simp only [execOp, ho]
 have hcl := hcall w0 μ vs w hw.fa hw.wr e2
 obtain ⟨Ta, Tb, t2, st1, hw1, hfin, hs2, hL2⟩ := hcont w0 μ a w _ hw hL
 have fin' : ∀ x w', (∃ μ', Sub μ μ' ∧ WR ρ w0 μ' (m.pick ρ).1 (m.pick ρ).2.1 w' ∧ (m.pick ρ).2.2.rel ρ μ' x) → next (a.put o.dst x) w' := by
  rintro x w' ⟨μ', h1, h2, h3⟩
  obtain ⟨nt, fr, nb, bs, fa⟩ := st1
  exact hnext μ' ⟨nt, fr, (m.pick ρ).1, (m.pick ρ).2.1, fa⟩ x _ w' _ _ _ h1 ⟨hw1.defers, hw1.fr.mono h1, h2, hw1.fa⟩ h3 hfin hs2 hL2
 unfold Oper.wp
 rw [hex]
 unfold CallOK at hcl
 generalize (callFunc g vs).run P w = r at hcl
 unfold Oper.upon
 split at hcl
 · exact fin' _ _ hcl
 · simp only
   refine hcl.mono ?_
   rintro e w2 ⟨v, rfl, hv⟩
   exact fin' _ _ hv
 · exact hcl.elim
theorem runX_sound (hΓ : Γ.ok P) (hsum : ∀ f s, Γ.summ f = some s → SummOK P f s) {mks : Nat → Option MK} (hmk : ∀ g m, mks g = some m → MKOK P g m) {rec : Code → Tab → St → Option (Tab × Tree)} (hrec : RecOK P ρ rec) {o : Oper}
  {fin : Tab → St → SV → Option (Tab × Tree)} (hk : ∀ T st v T' t, fin T st v = some (T', t) → Sat ρ T' → Sat ρ T)
  {T T' : Tab} {st : St} {t : Tree} (h : runX Γ mks rec o fin T st = some (T', t)) (hs : Sat ρ T') :
  Sat ρ T ∧ ∀ w0 μ a w (next : Act → World → Prop) Q, StRel ρ w0 μ st a w → t.sat ρ (Leafs ρ w0 Q μ) →
   (∀ μ' st2 x sv w2 T1 T2 t2, Sub μ μ' → StRel ρ w0 μ' st2 a w2 → sv.rel ρ μ' x → fin T1 st2 sv = some (T2, t2) → Sat ρ T2 → t2.sat ρ (Leafs ρ w0 Q μ) → next (a.put o.dst x) w2) →
   o.wp P a w next Q := by
 unfold runX at h
 split at h
 · rename_i T1 v hl
   have s1 := hk _ _ _ _ _ h hs
   obtain ⟨s0, hy⟩ := listS_sound hΓ hl s1
   refine ⟨s0, fun w0 μ a w next Q hw hL hnext => ?_⟩
   exact (hy w0 μ a w hw).wp fun x n hv => hnext μ st x v _ _ _ _ (Sub.refl _) (hw.drewN n) hv h hs hL
 · split at h
   · rename_i st1 v hm
     refine ⟨hk _ _ _ _ _ h hs, fun w0 μ a w next Q hw hL hnext => ?_⟩
     have s0 := hk _ _ _ _ _ h hs
     exact makeX_sound hmk hm s0 hw fun μ' x w2 hp hw2 hv => hnext μ' st1 x v w2 _ _ _ hp hw2 hv h hs hL
   · split at h
     · rename_i T1 st1 v hm
       have s1 := hk _ _ _ _ _ h hs
       obtain ⟨s0, k⟩ := sliceX_sound hΓ hm s1
       refine ⟨s0, fun w0 μ a w next Q hw hL hnext => ?_⟩
       exact k hw fun μ' x w2 hp hw2 hv => hnext μ' st1 x v w2 _ _ _ hp hw2 hv h hs hL
     · split at h
       · rename_i T1 st1 v hm
         have s1 := hk _ _ _ _ _ h hs
         obtain ⟨s0, k⟩ := growX_sound hΓ hm s1
         refine ⟨s0, fun w0 μ a w next Q hw hL hnext => ?_⟩
         exact k hw fun μ' x w2 hp hw2 hv => hnext μ' st1 x v w2 _ _ _ hp hw2 hv h hs hL
       · split at h
         · rename_i T1 m hm
           exact callM_sound hmk hk hm h hs
         · exact runS_sound hΓ hsum hrec hk h hs
theorem guardedX_sound (hΓ : Γ.ok P) (hsum : ∀ f s, Γ.summ f = some s → SummOK P f s) {mks : Nat → Option MK} (hmk : ∀ g m, mks g = some m → MKOK P g m) {rec : Code → Tab → St → Option (Tab × Tree)} (hrec : RecOK P ρ rec) {ops : Array Oper} {o : Oper}
  {fin : Tab → St → SV → Option (Tab × Tree)} (hk : ∀ T st v T' t, fin T st v = some (T', t) → Sat ρ T' → Sat ρ T)
  {T T' : Tab} {st : St} {t : Tree} (h : guardedX Γ mks rec ops o fin T st = some (T', t)) (hs : Sat ρ T') :
  Sat ρ T ∧ ∀ w0 μ a w (next : Act → World → Prop) Q, StRel ρ w0 μ st a w → t.sat ρ (Leafs ρ w0 Q μ) →
   (∀ μ' st2 x sv w2 T1 T2 t2, Sub μ μ' → StRel ρ w0 μ' st2 a w2 → sv.rel ρ μ' x → fin T1 st2 sv = some (T2, t2) → Sat ρ T2 → t2.sat ρ (Leafs ρ w0 Q μ) → next (a.put o.dst x) w2) →
   if Region.wanted o (yielded ops a.tmps) then o.wp P a w next Q else next (a.put o.dst undef) w := by
 unfold guardedX at h
 split at h
 · rename_i hg
   obtain ⟨s0, hr⟩ := runX_sound hΓ hsum hmk hrec hk h hs
   refine ⟨s0, fun w0 μ a w next Q hw hL hnext => ?_⟩
   have hwant : Region.wanted o (yielded ops a.tmps) = true := by unfold Region.wanted; rw [hg]
   rw [if_pos hwant]
   exact hr w0 μ a w next Q hw hL hnext
 · rename_i j want hg
   split at h
   · rename_i x hx
     have wants : ∀ {w0 μ a w}, StRel ρ w0 μ st a w → Region.wanted o (yielded ops a.tmps) = ((x.ev ρ == 1) == want) := by
      intro w0 μ a w hw
      unfold Region.wanted; rw [hg]; simp only
      rw [guardS_spec hx hw]
      cases (x.ev ρ == 1) <;> cases want <;> rfl
     have hgs : ∀ (b : Bool) (T : Tab) (st : St) (T' : Tab) (t : Tree), (match b == want with
       | true => runX Γ mks rec o fin T st
       | false => fin T st (.tup [])) = some (T', t) → Sat ρ T' → Sat ρ T := by
      intro b T st T' t h1 hs'
      split at h1
      · exact (runX_sound hΓ hsum hmk hrec hk h1 hs').1
      · exact hk _ _ _ _ _ h1 hs'
     obtain ⟨s0, hb⟩ := decS_spec hgs 1000 h hs
     refine ⟨s0, fun w0 μ a w next Q hw hL hnext => ?_⟩
     obtain ⟨b, T1, T2, t2, st1, hρ, hw1, h1, hs2, hL2⟩ := hb w0 μ a w _ hw hL
     split at h1
     · rename_i hbw
       rw [if_pos (by rw [wants hw, hρ]; exact hbw)]
       exact (runX_sound hΓ hsum hmk hrec hk h1 hs2).2 w0 μ a w next Q hw1 hL2 hnext
     · rename_i hbw
       rw [if_neg (by rw [wants hw, hρ, hbw]; exact Bool.false_ne_true)]
       exact hnext μ st1 undef (.tup []) w _ _ _ (Sub.refl _) hw1 ⟨#[], rfl, trivial⟩ h1 hs2 hL2
   · split at h
     · rename_i hud
       refine ⟨hk _ _ _ _ _ h hs, fun w0 μ a w next Q hw hL hnext => ?_⟩
       rw [if_neg]
       · exact hnext μ st undef (.tup []) w _ _ _ (Sub.refl _) hw ⟨#[], rfl, trivial⟩ h hs hL
       · have := undefG_spec hud hw
         unfold Region.wanted
         rw [hg]
         simp only
         rw [this]
         intro e; cases e
     · cases h
theorem opsLX_sound (hΓ : Γ.ok P) (hsum : ∀ f s, Γ.summ f = some s → SummOK P f s) {mks : Nat → Option MK} (hmk : ∀ g m, mks g = some m → MKOK P g m) {rec : Code → Tab → St → Option (Tab × Tree)} (hrec : RecOK P ρ rec) {ops : Array Oper} :
  ∀ (l : List Oper) (k : Nat) (T T' : Tab) (st : St) (t : Tree), (∀ j, j < l.length → l[j]? = ops[k + j]?) → opsLX Γ mks rec ops l T st = some (T', t) → Sat ρ T' →
  Sat ρ T ∧ ∀ w0 μ a w Q, StRel ρ w0 μ st a w → t.sat ρ (Leafs ρ w0 Q μ) → wpOps P ops Q (List.range' k l.length) a w
 | [], k, T, T', st, t, hl, h, hs => by
  cases h
  exact ⟨hs, fun w0 μ a w Q hw hL => hL μ a w (Sub.refl _) hw⟩
 | o :: rest, k, T, T', st, t, hl, h, hs => by
  have hl' : ∀ j, j < rest.length → rest[j]? = ops[k + 1 + j]? := fun j hj => by
   have := hl (j + 1) (by simpa using hj)
   rw [show k + 1 + j = k + (j + 1) by omega, ← this]; rfl
  have h0 : ops[k]? = some o := by have := hl 0 (by simp); simpa using this.symm
  unfold opsLX at h
  have hfin : ∀ (T : Tab) (st : St) (v : SV) (T' : Tab) (t : Tree), (match st.put o.dst v with
    | some st => opsLX Γ mks rec ops rest T st
    | none => none) = some (T', t) → Sat ρ T' → Sat ρ T := by
   intro T st v T' t h1 hs'
   split at h1
   · exact (opsLX_sound hΓ hsum hmk hrec rest (k + 1) _ _ _ _ hl' h1 hs').1
   · cases h1
  obtain ⟨s0, hg⟩ := guardedX_sound hΓ hsum hmk hrec hfin h hs
  refine ⟨s0, fun w0 μ a w Q hw hL => ?_⟩
  simp only [List.length_cons, List.range'_succ, wpOps, h0]
  have := hg w0 μ a w (wpOps P ops Q (List.range' (k + 1) rest.length)) Q hw hL ?_
  · split
    · rename_i hwant; rw [if_pos hwant] at this; exact .inl this
    · rename_i hwant; rw [if_neg hwant] at this; exact this
  · intro μ' st2 x sv w2 T1 T2 t2 hp hw2 hv hf hs2 hL2
    try dsimp only at hf
    split at hf
    · rename_i st3 hput
      exact (opsLX_sound hΓ hsum hmk hrec rest (k + 1) _ _ _ _ hl' hf hs2).2 w0 μ' _ w2 Q (St.put_rel hw2 hv hput) (Tree.sat_mono (fun e s h => Leafs.mono hp h) hL2)
    · cases hf
theorem opsX_sound (hΓ : Γ.ok P) (hsum : ∀ f s, Γ.summ f = some s → SummOK P f s) {mks : Nat → Option MK} (hmk : ∀ g m, mks g = some m → MKOK P g m) {rec : Code → Tab → St → Option (Tab × Tree)} (hrec : RecOK P ρ rec) {ops : Array Oper}
  (l : List Oper) (k : Nat) (T T' : Tab) (st : St) (t : Tree) (hl : ∀ j, l[j]? = ops[k + j]?) (h : opsX Γ mks rec ops l T st = some (T', t)) (hs : Sat ρ T') :
  Sat ρ T ∧ ∀ w0 μ a w Q, StRel ρ w0 μ st a w → t.sat ρ (Leafs ρ w0 Q μ) → wpOps P ops Q (List.range' k l.length) a w :=
 openI_spec (W := fun a w Q => wpOps P ops Q (List.range' k l.length) a w) (fun _ _ _ _ h hs => opsLX_sound hΓ hsum hmk hrec l k _ _ _ _ (fun j _ => hl j) h hs) 2 _ _ _ _ h hs
theorem leSt_spec {A M : St} (h : leSt A M = true) : StLe ρ A M := by
 unfold leSt at h
 simp only [Bool.and_eq_true] at h
 obtain ⟨h1, h2, h3, h4, h5⟩ := h
 refine StLe.of (Nat.eq_of_beq_eq_true h1) (Nat.le_of_ble_eq_true h2) (fun t s hs => ?_) (fun i B hi => ?_) (fun hf r b hr => ?_)
 · have := Tr.chk_spec _ _ _ h3 t s hs
   simp only [Nat.one_mul, Nat.add_zero] at this
   split at this
   · rename_i s' hs'
     have e := svBeq_eq this
     subst e
     exact ⟨s, hs', fun _ _ h => h⟩
   · cases this
 · have := Tr.chk_spec _ _ _ h4 i B hi
   simp only [Nat.one_mul, Nat.add_zero] at this
   split at this
   · rename_i C hC
     have e := blkBeq_eq this
     subst e
     exact ⟨B, hC, rfl, fun _ _ h => h⟩
   · cases this
 · have := Tr.chk_spec _ _ _ h5 r b hr
   simp only [Nat.one_mul, Nat.add_zero] at this
   split at this
   · rename_i c hc
     have e : b = c := by simpa using this
     subst e
     exact hf r b hc
   · cases this
def PermOK (P : Program) (ρ : Nat → Int) (ops : Array Oper) (n : Nat) (next : Array Bool → Tab → St → Option (Tab × Tree)) : Prop :=
 ∀ listed T st T' t, next listed T st = some (T', t) → Sat ρ T' → Sat ρ T ∧ ∀ w0 μ a w Q, StRel ρ w0 μ st a w → t.sat ρ (Leafs ρ w0 Q μ) → wpAny P .any ops Q n listed a w
theorem stepP_sound (hΓ : Γ.ok P) (hsum : ∀ f s, Γ.summ f = some s → SummOK P f s) {mks : Nat → Option MK} (hmk : ∀ g m, mks g = some m → MKOK P g m) {rec : Code → Tab → St → Option (Tab × Tree)} (hrec : RecOK P ρ rec) {ops : Array Oper} {n : Nat}
  {next : Array Bool → Tab → St → Option (Tab × Tree)} (hnext : PermOK P ρ ops n next) {i : Nat} {listed : Array Bool} {T T' : Tab} {st : St} {t : Tree} (h : stepP Γ mks rec ops next i listed T st = some (T', t)) (hs : Sat ρ T') :
  Sat ρ T ∧ ∀ w0 μ a w Q, StRel ρ w0 μ st a w → t.sat ρ (Leafs ρ w0 Q μ) → wpOp P ops Q i (wpAny P .any ops Q n (listed.setIfInBounds i true)) a w := by
 unfold stepP at h
 split at h
 · rename_i o ho
   obtain ⟨s0, hg⟩ := guardedX_sound hΓ hsum hmk hrec (fun T st v T' t h1 hs' => by
    split at h1
    · exact (hnext _ _ _ _ _ h1 hs').1
    · cases h1) h hs
   refine ⟨s0, fun w0 μ a w Q hw hL => ?_⟩
   have := hg w0 μ a w (wpAny P .any ops Q n (listed.setIfInBounds i true)) Q hw hL ?_
   · unfold wpOp
     simp only [ho]
     split
     · rename_i hwant; rw [if_pos hwant] at this; exact .inl this
     · rename_i hwant; rw [if_neg hwant] at this; exact this
   · intro μ' st2 x sv w2 T1 T2 t2 hp hw2 hv hf hs2 hL2
     try dsimp only at hf
     split at hf
     · rename_i st3 hput
       exact (hnext _ _ _ _ _ hf hs2).2 w0 μ' _ w2 Q (St.put_rel hw2 hv hput) (Tree.sat_mono (fun e s h => Leafs.mono hp h) hL2)
     · cases hf
 · cases h
theorem permJ_sound (hΓ : Γ.ok P) (hsum : ∀ f s, Γ.summ f = some s → SummOK P f s) {mks : Nat → Option MK} (hmk : ∀ g m, mks g = some m → MKOK P g m) {rec : Code → Tab → St → Option (Tab × Tree)} (hrec : RecOK P ρ rec) {ops : Array Oper} {n : Nat}
  {next : Array Bool → Tab → St → Option (Tab × Tree)} (hnext : PermOK P ρ ops n next) {listed : Array Bool} {st stF : St} : ∀ {l : List Nat} {T T' : Tab} {t : Tree}, permJ Γ mks rec ops next listed st stF l T = some (T', t) → Sat ρ T' →
  Sat ρ T ∧ t = .leaf .normal stF ∧ ∀ w0 μ a w Q, StRel ρ w0 μ st a w → Leafs ρ w0 Q μ .normal stF → ∀ j ∈ l, wpOp P ops Q j (wpAny P .any ops Q n (listed.setIfInBounds j true)) a w
 | [], T, T', t, h, hs => by
  cases h
  exact ⟨hs, rfl, fun _ _ _ _ _ _ _ j hj => by cases hj⟩
 | j :: l, T, T', t, h, hs => by
  unfold permJ at h
  split at h
  · rename_i T1 stA h1
    split at h
    · rename_i hle
      obtain ⟨s1, e, k⟩ := permJ_sound hΓ hsum hmk hrec hnext h hs
      obtain ⟨s0, k0⟩ := stepP_sound hΓ hsum hmk hrec hnext h1 s1
      refine ⟨s0, e, fun w0 μ a w Q hw hL i hi => ?_⟩
      cases hi with
      | head => exact k0 w0 μ a w Q hw (Leafs.le (leSt_spec hle) hL)
      | tail _ hi => exact k w0 μ a w Q hw hL i hi
    · cases h
  · cases h
theorem permS_sound (hΓ : Γ.ok P) (hsum : ∀ f s, Γ.summ f = some s → SummOK P f s) {mks : Nat → Option MK} (hmk : ∀ g m, mks g = some m → MKOK P g m) {rec : Code → Tab → St → Option (Tab × Tree)} (hrec : RecOK P ρ rec) {ops : Array Oper} :
  ∀ n, PermOK P ρ ops n (permS Γ mks rec ops n)
 | 0 => by
  intro listed T st T' t h hs
  unfold permS at h
  split at h
  · rename_i hr
    cases h
    exact ⟨hs, fun w0 μ a w Q hw hL => ⟨hr, hL μ a w (Sub.refl _) hw⟩⟩
  · cases h
 | n + 1 => by
  intro listed T st T' t h hs
  have ih := permS_sound hΓ hsum hmk hrec (ops := ops) n
  unfold permS at h
  split at h
  · rename_i hr
    cases h
    exact ⟨hs, fun w0 μ a w Q hw hL => ⟨(fun _ => hL μ a w (Sub.refl _) hw), (fun i hi => by rw [hr] at hi; cases hi)⟩⟩
  · rename_i i rest hr
    split at h
    · rename_i T1 stF h1
      obtain ⟨s1, e, k⟩ := permJ_sound hΓ hsum hmk hrec ih h hs
      obtain ⟨s0, k0⟩ := stepP_sound hΓ hsum hmk hrec ih h1 s1
      subst e
      refine ⟨s0, fun w0 μ a w Q hw hL => ⟨(fun hn => by rw [hr] at hn; cases hn), fun j hj => ?_⟩⟩
      rw [hr] at hj
      cases hj with
      | head => exact k0 w0 μ a w Q hw hL
      | tail _ hj => exact k w0 μ a w Q hw hL j hj
    · cases h
theorem codeX_sound (hΓ : Γ.ok P) (hsum : ∀ f s, Γ.summ f = some s → SummOK P f s) {hn : Nat → Option Hint} {mks : Nat → Option MK} (hmk : ∀ g m, mks g = some m → MKOK P g m) {rec : Code → Tab → St → Option (Tab × Tree)} (hall : ∀ ρ, RecOK P ρ rec) : RecOK P ρ (codeX Γ hn mks rec) := by
 have hrec := hall ρ
 intro c T st T' t h hs
 unfold codeX at h
 split at h
 · cases h; exact ⟨hs, fun w0 μ a w Q hw hL => wp_skip (hL μ a w (Sub.refl _) hw)⟩
 · rename_i id ops
   obtain ⟨s0, hr⟩ := opsX_sound hΓ hsum hmk hrec ops.toList 0 _ _ _ _ (fun j => by simp) h hs
   refine ⟨s0, fun w0 μ a w Q hw hL => wp_region ?_⟩
   have := hr w0 μ a w Q hw hL
   rw [← List.range_eq_range'] at this
   simpa using this
 · rename_i id ops
   refine openI_spec (W := fun a w Q => (Code.region id ops true).wp P Q a w) (fun T st T' t h hs => ?_) 2 _ _ _ _ h hs
   split at h
   · rename_i r hr
     cases h
     exact drawGone_sound hΓ hsum hrec hr hs
   · split at h
     · obtain ⟨s0, k⟩ := permS_sound hΓ hsum hmk hrec _ _ _ _ _ _ h hs
       exact ⟨s0, fun w0 μ a w Q hw hL => wp_region_any hΓ.mixed (k w0 μ a _ Q (hw.drewN 1) hL)⟩
     · cases h
 · rename_i x y
   split at h
   · rename_i T1 t1 h1
     obtain ⟨s1, hb⟩ := bind_spec (ρ := ρ) (fun T e st2 T' t h2 hs' => by
      cases e with
      | normal => exact (hrec _ _ _ _ _ h2 hs').1
      | leave id => cases h2; exact hs'
      | ret => cases h2; exact hs') _ _ _ _ h hs
     obtain ⟨s0, hwp⟩ := hrec _ _ _ _ _ h1 s1
     refine ⟨s0, fun w0 μ a w Q hw hL => wp_seq (hwp w0 μ a w _ hw (Tree.sat_mono ?_ (hb _ hL)))⟩
     rintro e s ⟨T1', T2, t2, hg, hs2, hsat⟩ μ' a' w' hp hw'
     cases e with
     | normal => exact (hrec _ _ _ _ _ hg hs2).2 w0 μ' a' w' Q hw' (Tree.sat_mono (fun e s h => Leafs.mono hp h) hsat)
     | leave id => cases hg; exact hsat μ' a' w' hp hw'
     | ret => cases hg; exact hsat μ' a' w' hp hw'
   · cases h
 · rename_i c x y
   split at h
   · rename_i b hc
     have hev : ∀ {w0 μ a w}, StRel ρ w0 μ st a w → a.eval c = .bool (b.ev ρ == 1) := by
      intro w0 μ a w hw
      have := St.eval_rel hw c
      rw [hc] at this; exact this
     unfold condS at h
     split at h
     · rename_i hk
       obtain ⟨s0, hx⟩ := hrec _ _ _ _ _ h hs
       refine ⟨s0, fun w0 μ a w Q hw hL => wp_cond_true ?_ (hx w0 μ a w Q hw hL)⟩
       have hd := decideX_spec s0 hw.fa b
       rw [hk] at hd
       rw [hev hw, show (b.ev ρ == 1) = true from hd]
     · rename_i hk
       obtain ⟨s0, hx⟩ := hrec _ _ _ _ _ h hs
       refine ⟨s0, fun w0 μ a w Q hw hL => wp_cond_false ?_ (hx w0 μ a w Q hw hL)⟩
       have hd := decideX_spec s0 hw.fa b
       rw [hk] at hd
       rw [hev hw, show (b.ev ρ == 1) = false from hd]
     · obtain ⟨Ti, ti, h, hs, htd⟩ := tidyO_spec h hs
       obtain ⟨s0, hb⟩ := decS_spec (ρ := ρ) (fun q T st T' t h1 hs' => by
        split at h1
        · exact (hrec _ _ _ _ _ h1 hs').1
        · exact (hrec _ _ _ _ _ h1 hs').1) 1000 h hs
       refine ⟨s0, fun w0 μ a w Q hw hL => ?_⟩
       obtain ⟨q, T1, T2, t2, st1, hρ, hw1, h1, hs2, hL2⟩ := hb w0 μ a w _ hw (htd hw.fa _ _ _ hL)
       split at h1
       · exact wp_cond_true (by rw [hev hw, hρ]) ((hrec _ _ _ _ _ h1 hs2).2 w0 μ a w Q hw1 hL2)
       · exact wp_cond_false (by rw [hev hw, hρ]) ((hrec _ _ _ _ _ h1 hs2).2 w0 μ a w Q hw1 hL2)
   · cases h
 · rename_i id c
   split at h
   · rename_i T1 t1 h1
     obtain ⟨Ti, ti, h, hs, htd⟩ := tidyO_spec h hs
     obtain ⟨s1, hb⟩ := bind_spec (ρ := ρ) (fun T e st2 T' t h2 hs' => by
      cases e with
      | normal => cases h2; exact hs'
      | leave j =>
       dsimp only at h2
       split at h2 <;> cases h2 <;> exact hs'
      | ret => cases h2; exact hs') _ _ _ _ h hs
     obtain ⟨s0, hwp⟩ := hrec _ _ _ _ _ h1 s1
     refine ⟨s0, fun w0 μ a w Q hw hL => wp_block (hwp w0 μ a w _ hw (Tree.sat_mono ?_ (hb _ (htd hw.fa _ _ _ hL))))⟩
     rintro e s ⟨T1', T2, t2, hg, hs2, hsat⟩ μ' a' w' hp hw'
     cases e with
     | normal => cases hg; exact hsat μ' a' w' hp hw'
     | leave j =>
      dsimp only at hg
      split at hg
      · rename_i hj
        cases hg
        have e := Nat.eq_of_beq_eq_true hj
        show Exit.inBlock id Q (.exit j) a' w'
        unfold Exit.inBlock
        simp only
        rw [if_pos e]
        exact hsat μ' a' w' hp hw'
      · rename_i hj
        cases hg
        have e : ¬ j = id := fun e => by subst e; rw [Nat.beq_refl] at hj; cases hj
        show Exit.inBlock id Q (.exit j) a' w'
        unfold Exit.inBlock
        simp only
        rw [if_neg e]
        exact hsat μ' a' w' hp hw'
     | ret => cases hg; exact hsat μ' a' w' hp hw'
   · cases h
 · rename_i c
   have plain : loopS rec c 400 T st = some (T', t) → Sat ρ T ∧ ∀ w0 μ a w Q, StRel ρ w0 μ st a w → t.sat ρ (Leafs ρ w0 Q μ) → (Code.loop c).wp P Q a w := by
    intro h
    obtain ⟨s0, hr⟩ := loopS_sound hrec 400 _ _ _ _ h hs
    exact ⟨s0, fun w0 μ a w Q hw hL => wp_loop_rounds 400 (hr w0 μ a w Q hw hL)⟩
   split at h
   · rename_i hh hhint
     split at h
     · rename_i p hp
       split at h
       · rename_i r hx
         cases h
         exact loopX_sound hall hp hx hs
       · exact plain h
     · exact plain h
   · exact plain h
 · cases h; exact ⟨hs, fun w0 μ a w Q hw hL => wp_exit (hL μ a w (Sub.refl _) hw)⟩
 · cases h; exact ⟨hs, fun w0 μ a w Q hw hL => wp_label (hL μ a w (Sub.refl _) hw)⟩
 · cases h; exact ⟨hs, fun w0 μ a w Q hw hL => wp_ret (hL μ a w (Sub.refl _) hw)⟩
 · cases h
theorem execX_sound (hΓ : Γ.ok P) (hsum : ∀ f s, Γ.summ f = some s → SummOK P f s) {hn : Nat → Option Hint} {mks : Nat → Option MK} (hmk : ∀ g m, mks g = some m → MKOK P g m) : ∀ n (ρ : Nat → Int), RecOK P ρ (execX Γ hn mks n)
 | 0, _ => fun _ _ _ _ _ h => by cases h
 | n + 1, _ => codeX_sound hΓ hsum hmk (execX_sound hΓ hsum hmk n)
end
end
end Go.Sx
