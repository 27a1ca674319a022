/-
  Contracts of the functions that read texts, at this program.
-/
import Derived.Test.YtmkhoggpejemiaaDoorRdA
import Derived.Test.YtmkhoggpejemiaaDoorLay
import Derived.Test.YtmkhoggpejemiaaDoorSum
set_option linter.unusedVariables false
set_option linter.unusedSimpArgs false
namespace Go.Proofs.YtmkhoggpejemiaaDoor
open Go.Shelf Go.Proofs Go.Sx Go.RowKit
set_option maxRecDepth 100000

theorem glb_cell {w : World} {g k : Nat} (hT : TabOK w) (hm : (g, k) ∈ glbs) : ∃ v, w.cell? ⟨g, 0, none⟩ = some v ∧ ((k = 0 ∧ ∃ m, v = .int .i64 m) ∨ (k = 1 ∧ (v = .nilIface ∨ ∃ t p, v = .iface t p))) := (hT.glb _ hm).2

theorem syn_cell {w : World} (hT : TabOK w) : ∃ v, w.cell? ⟨3, 0, none⟩ = some v ∧ (v = .nilIface ∨ ∃ t p, v = .iface t p) := by
  obtain ⟨v, h, ⟨hk, _⟩ | ⟨_, hv⟩⟩ := glb_cell (g := 3) (k := 1) hT (by decide)
  · cases hk
  · exact ⟨v, h, hv⟩
theorem rng_cell {w : World} (hT : TabOK w) : ∃ v, w.cell? ⟨4, 0, none⟩ = some v ∧ (v = .nilIface ∨ ∃ t p, v = .iface t p) := by
  obtain ⟨v, h, ⟨hk, _⟩ | ⟨_, hv⟩⟩ := glb_cell (g := 4) (k := 1) hT (by decide)
  · cases hk
  · exact ⟨v, h, hv⟩
theorem max_cell {w : World} (hT : TabOK w) : ∃ m, w.cell? ⟨1, 0, none⟩ = some (.int .i64 m) := by
  obtain ⟨v, h, ⟨_, m, rfl⟩ | ⟨hk, _⟩⟩ := glb_cell (g := 1) (k := 0) hT (by decide)
  · exact ⟨m, h⟩
  · cases hk

theorem en27 : ∀ args w, (callFunc 27 args).run Tryd.prog w = .ok (.enter 27 args) w := enters_of Tryd.func27 (by kernel_rfl) rfl
theorem en28 : ∀ args w, (callFunc 28 args).run Tryd.prog w = .ok (.enter 28 args) w := enters_of Tryd.func28 (by kernel_rfl) rfl
theorem en32 : ∀ args w, (callFunc 32 args).run Tryd.prog w = .ok (.enter 32 args) w := enters_of Tryd.func32 (by kernel_rfl) rfl
theorem en37 : ∀ args w, (callFunc 37 args).run Tryd.prog w = .ok (.enter 37 args) w := enters_of Tryd.func37 (by kernel_rfl) rfl
theorem en43 : ∀ args w, (callFunc 43 args).run Tryd.prog w = .ok (.enter 43 args) w := enters_of Tryd.func43 (by kernel_rfl) rfl

theorem nr37 : numRun (ctx summ) Tryd.f37 = true := by kernel_rfl
theorem num37 : SummOK Tryd.prog 37 numS := numS_ok (ctx_fits _) summ_ok Tryd.func37 (by kernel_rfl) nr37
noncomputable def numR : Option (Tab × VT) := numS numT0 numSt [.c (.flt .f32 (.reg 0))]
noncomputable def numT1 : Tab := (numR.map (·.1)).getD numT0
theorem num_at : numS numT0 numSt [.c (.flt .f32 (.reg 0))] = some (numT1, .leaf (.c (.str (.reg 2) 8 true))) := by kernel_rfl

theorem read43 : ReadOK Tryd.prog 43 := by
  intro s w hsz hT
  refine callOK_enter (en43 _ _) ?_
  obtain ⟨ev, h1, h2⟩ := syn_cell hT
  obtain ⟨ew, h3, h4⟩ := rng_cell hT
  refine (readNumber s w (public16 laysPu14 s (by omega) ev ew w h1 h2 h3 h4) fun b w' hb hbel =>
    num_calls num37 en37 num_at (by kernel_rfl) (by kernel_rfl) (by kernel_rfl) hb (hT.below hbel)).mono ?_
  rintro e w' ⟨hbel, ⟨hok, b, hx, hb, hc, rfl⟩ | ⟨hno, rfl⟩⟩
  · refine ⟨_, rfl, hbel, .inl ⟨hok, ?_⟩⟩
    unfold numV
    rw [hx, numOf_hex hb hc]
  · exact ⟨_, rfl, hbel, .inr ⟨hno, rfl⟩⟩

theorem owned {w : World} {base e : Nat} {v : Value} {n : Nat} {xs : List Value} (h : w.ownsRow base e 1 v n xs) (hv : v ≠ .slice none 0 0) :
    ∃ (g : Nat) (cs : Array Value), v = .slice (some ⟨g, 0, none⟩) n cs.size ∧ base ≤ g ∧ w.heap[g]? = some (.cells cs e (0, 0)) ∧ n ≤ cs.size ∧ cs.size ≤ maxLen ∧ ∀ (j : Nat) x, xs[j]? = some x → cs[j]? = some x := by
  obtain ⟨hl, ⟨rfl, _⟩ | ⟨g, cap, cur, rfl, hg, hh, hn, hm, hs, ht⟩⟩ := h
  · exact absurd rfl hv
  · rw [Nat.mul_one] at hs ht
    subst hs
    refine ⟨g, cur, rfl, hg, hh, hn, hm, fun j x hx => ?_⟩
    rw [← ht] at hx
    have hj : j < n := by
      have := (List.getElem?_eq_some_iff.1 hx).1
      rw [List.length_take] at this
      omega
    rw [List.getElem?_take_of_lt hj, Array.getElem?_toList] at hx
    exact hx

theorem parts_small {s : ByteArray} {c : Nat} {ps : List ByteArray} (h : ps.map (·.data.toList) = spl c s.data.toList) (hs : s.size ≤ 1048576) : (∀ p ∈ ps, p.size ≤ 1048576) ∧ ps.length ≤ 1048577 := by
  obtain ⟨h1, h2⟩ := spl_len c s.data.toList
  have hsz : s.data.toList.length = s.size := Array.length_toList
  have hl := congrArg List.length h
  rw [List.length_map] at hl
  refine ⟨fun p hp => ?_, by omega⟩
  have := h2 p.data.toList (by rw [← h]; exact List.mem_map.2 ⟨p, hp, rfl⟩)
  have hp2 : p.data.toList.length = p.size := Array.length_toList
  omega

theorem split28 : SplitOK Tryd.prog 28 true 9 := by
  intro s c sv w hsz hsep hT
  obtain ⟨rfl, hc⟩ := hsep
  refine callOK_enter (en28 _ _) ?_
  refine (l01Split s c hc (by omega) w).mono ?_
  rintro e w' ⟨hbel, v, ps, rfl, hown, hne, hps⟩
  obtain ⟨g, cs, rfl, hg, hh, hn, hm, hx⟩ := owned hown hne
  obtain ⟨h1, h2⟩ := parts_small hps hsz
  refine ⟨_, rfl, ps, g, cs, rfl, hg, hh, hn, hm, fun j p hp => hx j _ ?_, (wordsE_spl c s hps).symm, h1, h2, hbel⟩
  rw [List.getElem?_map, hp]; rfl

theorem split32 : SplitOK Tryd.prog 32 false 9 := by
  intro s c sv w hsz hsep hT
  obtain ⟨b, rfl, rfl⟩ := hsep
  obtain ⟨m, hm⟩ := max_cell hT
  refine callOK_enter (en32 _ _) ?_
  have hcall := Any.strings_Split (P := Tryd.prog) (ρ := laysM146_ren) { laysM146 with } laysM146.i9 s ⟨#[b]⟩ m w (by omega) hm (by show 1 ≤ 1; decide)
  refine Calls.mono hcall ?_
  rintro e w' ⟨rfl, rfl⟩
  have hps := splitB_spl s b
  obtain ⟨h1, h2⟩ := parts_small hps hsz
  have hlen : (Lib.splitB ⟨#[b]⟩ 0 (Lib.countB s ⟨#[b]⟩) s).length = Lib.countB s ⟨#[b]⟩ + 1 := Lib.splitB_all ⟨#[b]⟩ (by show 1 ≤ 1; decide) 0 _ s rfl
  generalize Lib.splitB ⟨#[b]⟩ 0 (Lib.countB s ⟨#[b]⟩) s = ps at hps h1 h2 hlen
  rw [← hlen]
  refine ⟨_, rfl, ps, w.heap.size, (ps.map Value.string).toArray, by simp, Nat.le_refl _, heap_alloc_new w _, by simp, by simp; unfold maxLen; omega, fun j p hp => ?_, (wordsE_spl b.toNat s hps).symm, h1, h2, (Below.refl _ _).alloc (Nat.le_refl _) _⟩
  simp [hp]

theorem nums27 : NumsOK Tryd.prog 27 22 := by
  intro b c ws w hcells hb hn hc hsz hT
  refine callOK_enter (en27 _ _) ?_
  refine (l01Numbers b c ws w hcells hb hn hc fun s w' hs => l01Read s (by have := hsz s hs; omega) w' l01Bits).mono ?_
  rintro e w' ⟨hbel, ⟨hall, v, rfl, hown, hne⟩ | ⟨hno, v, rfl, hown, hne⟩⟩
  · obtain ⟨g, cs, rfl, hg, hh, hn', hm, hx⟩ := owned hown hne
    refine ⟨_, rfl, g, ws.length, cs, true, rfl, hg, hh, hn', hm, hbel, .inl ⟨rfl, hall, rfl, fun j s hs => hx j _ ?_⟩⟩
    rw [List.getElem?_map, hs]; rfl
  · obtain ⟨g, cs, rfl, hg, hh, hn', hm, hx⟩ := owned hown hne
    exact ⟨_, rfl, g, 0, cs, false, rfl, hg, hh, hn', hm, hbel, .inr ⟨rfl, hno, rfl⟩⟩

noncomputable def summRd (f : Nat) : Option Summ :=
  match Nat.beq f 43 with
  | true => some readS
  | false => summ f
theorem summRd_ok : ∀ f s, summRd f = some s → SummOK Tryd.prog f s := by
  intro f s h
  unfold summRd at h
  split at h
  · rename_i e
    have e := Nat.eq_of_beq_eq_true e
    subst e
    cases h
    exact readS_ok read43
  · exact summ_ok f s h

noncomputable def mksRd (k f : Nat) : Option MK :=
  match Nat.beq f 28 with
  | true => some (.fn (splitS true 9 k))
  | false =>
    match Nat.beq f 32 with
    | true => some (.fn (splitS false 9 k))
    | false =>
      match Nat.beq f 27 with
      | true => some (.fn (numbersS 22))
      | false => none
theorem mksRd_ok (k : Nat) : ∀ g m, mksRd k g = some m → MKOK Tryd.prog g m := by
  intro g m h
  unfold mksRd at h
  split at h
  · rename_i e
    have e := Nat.eq_of_beq_eq_true e
    subst e
    cases h
    exact splitS_ok split28
  · split at h
    · rename_i e
      have e := Nat.eq_of_beq_eq_true e
      subst e
      cases h
      exact splitS_ok split32
    · split at h
      · rename_i e
        have e := Nat.eq_of_beq_eq_true e
        subst e
        cases h
        exact numbersS_ok nums27
      · cases h
end Go.Proofs.YtmkhoggpejemiaaDoor
