/-
  A curve is valid: one loop says what three loops say.
-/
import Derived.Test.YtgaejkfdinkpmaaSxM
set_option linter.unusedSimpArgs false
set_option linter.unusedVariables false
namespace Go.Sx
open Go.RowKit Classical

def lpFin : Lit := ⟨1, [⟨62, [.reg 1]⟩, ⟨15, [.reg 0, .reg 2]⟩, ⟨63, [.reg 1, .reg 0, .lit 0]⟩, ⟨1, [.reg 4, .reg 4]⟩, ⟨8, [.lit 0, .reg 5]⟩, ⟨31, [.lit 3, .reg 0, .lit 1]⟩], .node 3 (.node 6 (.next [.reg 7]) (.stop)) (.stop)⟩
def lpOrd : Lit := ⟨1, [⟨62, [.reg 1]⟩, ⟨15, [.reg 0, .reg 2]⟩, ⟨63, [.reg 1, .reg 0, .lit 0]⟩, ⟨32, [.lit 3, .reg 0, .lit 1]⟩, ⟨63, [.reg 1, .reg 5, .lit 0]⟩, ⟨10, [.reg 4, .reg 6]⟩, ⟨31, [.lit 3, .reg 0, .lit 1]⟩], .node 3 (.node 7 (.stop) (.next [.reg 8])) (.stop)⟩
def lpCur : Lit := ⟨1, [⟨62, [.reg 1]⟩, ⟨15, [.reg 0, .reg 3]⟩, ⟨63, [.reg 1, .reg 0, .lit 0]⟩, ⟨1, [.reg 5, .reg 5]⟩, ⟨8, [.lit 0, .reg 6]⟩, ⟨37, [.reg 7]⟩, ⟨38, [.reg 8, .lit 1, .lit 0]⟩, ⟨63, [.reg 2, .reg 0, .lit 0]⟩, ⟨1, [.reg 10, .reg 10]⟩, ⟨8, [.lit 0, .reg 11]⟩, ⟨37, [.reg 12]⟩, ⟨38, [.reg 13, .lit 1, .lit 0]⟩, ⟨15, [.lit 0, .reg 0]⟩, ⟨38, [.reg 15, .lit 1, .lit 0]⟩, ⟨32, [.lit 3, .reg 0, .lit 1]⟩, ⟨63, [.reg 1, .reg 17, .lit 0]⟩, ⟨9, [.reg 18, .reg 5]⟩, ⟨38, [.reg 16, .reg 19, .lit 1]⟩, ⟨31, [.lit 3, .reg 0, .lit 1]⟩], .node 4 (.node 9 (.stop) (.node 14 (.stop) (.node 20 (.next [.reg 21]) (.stop)))) (.stop)⟩

section
variable (op : Nat → List Int → Int) (A B i : Int)
theorem lpFin_step : lpFin.step op [A] [i] = if op 15 [i, op 62 [A]] = 1 then (if op 8 [0, op 1 [op 63 [A, i, 0], op 63 [A, i, 0]]] = 1 then some [op 31 [3, i, 1]] else none) else none := by
  simp only [Lit.step, lpFin, runDs, List.cons_append, List.nil_append, List.map_cons, List.map_nil, lev, List.getD_cons_zero, List.getD_cons_succ, LT.go]
theorem lpOrd_step : lpOrd.step op [A] [i] = if op 15 [i, op 62 [A]] = 1 then (if op 10 [op 63 [A, i, 0], op 63 [A, op 32 [3, i, 1], 0]] = 1 then none else some [op 31 [3, i, 1]]) else none := by
  simp only [Lit.step, lpOrd, runDs, List.cons_append, List.nil_append, List.map_cons, List.map_nil, lev, List.getD_cons_zero, List.getD_cons_succ, LT.go]
theorem lpCur_step : lpCur.step op [A, B] [i] = if op 15 [i, op 62 [A]] = 1 then (if op 38 [op 37 [op 8 [0, op 1 [op 63 [A, i, 0], op 63 [A, i, 0]]]], 1, 0] = 1 then none
    else if op 38 [op 37 [op 8 [0, op 1 [op 63 [B, i, 0], op 63 [B, i, 0]]]], 1, 0] = 1 then none
    else if op 38 [op 38 [op 15 [0, i], 1, 0], op 9 [op 63 [A, op 32 [3, i, 1], 0], op 63 [A, i, 0]], 1] = 1 then some [op 31 [3, i, 1]] else none) else none := by
  simp only [Lit.step, lpCur, runDs, List.cons_append, List.nil_append, List.map_cons, List.map_nil, lev, List.getD_cons_zero, List.getD_cons_succ, LT.go]
end

theorem b2i_is1 {b : Bool} : b2i b = 1 ↔ b = true := by cases b <;> decide

/-- A number of a list of numbers; it is finite; one is less than another. -/
noncomputable def cel (A i : Int) : Nat := (opB 63 [A, i, 0]).toNat
def finN (x : Nat) : Prop := fcmp .eql .f32 0 (fbin .sub .f32 x x) = true

theorem lenB (A : Int) : 0 ≤ opB 62 [A] ∧ opB 62 [A] ≤ 9223372036854775807 := len_range (ρ := fun _ => 0) A

section
variable {ps : List Lit} {A B : Int}

theorem lpFin_go {i : Int} (h0 : 0 ≤ i) (h1 : i < opB 62 [A]) (hc : finN (cel A i)) : lpFin.step (opP opB ps) [A] [i] = some [i + 1] := by
  rw [lpFin_step]
  simp only [opP_base (show (15 : Nat) ≠ 70 by decide), opP_base (show (62 : Nat) ≠ 70 by decide), opP_base (show (8 : Nat) ≠ 70 by decide), opP_base (show (1 : Nat) ≠ 70 by decide), opP_base (show (63 : Nat) ≠ 70 by decide), opP_base (show (31 : Nat) ≠ 70 by decide)]
  have e1 : opB 15 [i, opB 62 [A]] = 1 := b2i_is1.2 (decide_eq_true h1)
  have e2 : opB 8 [0, opB 1 [opB 63 [A, i, 0], opB 63 [A, i, 0]]] = 1 := b2i_is1.2 (by
    show fcmp .eql .f32 (0 : Int).toNat ((fbin .sub .f32 (cel A i) (cel A i) : Nat) : Int).toNat = true
    rw [Int.toNat_natCast]; exact hc)
  have e3 : opB 31 [3, i, 1] = i + 1 := Go.IntWalk.i64_in _ (by have := lenB A; omega)
  rw [if_pos e1, if_pos e2, e3]

theorem lpFin_stop {i : Int} (h : ¬ (i < opB 62 [A] ∧ finN (cel A i))) : lpFin.step (opP opB ps) [A] [i] = none := by
  rw [lpFin_step]
  simp only [opP_base (show (15 : Nat) ≠ 70 by decide), opP_base (show (62 : Nat) ≠ 70 by decide), opP_base (show (8 : Nat) ≠ 70 by decide), opP_base (show (1 : Nat) ≠ 70 by decide), opP_base (show (63 : Nat) ≠ 70 by decide), opP_base (show (31 : Nat) ≠ 70 by decide)]
  split
  · rename_i e1
    have h1 : i < opB 62 [A] := of_decide_eq_true (b2i_is1.1 e1)
    rw [if_neg]
    intro e2
    refine h ⟨h1, ?_⟩
    have := b2i_is1.1 e2
    have this : fcmp .eql .f32 (0 : Int).toNat ((fbin .sub .f32 (cel A i) (cel A i) : Nat) : Int).toNat = true := this
    rw [Int.toNat_natCast] at this
    exact this
  · rfl

theorem lpOrd_eq {i : Int} (h1 : 1 ≤ i) : lpOrd.step (opP opB ps) [A] [i] = if i < opB 62 [A] ∧ ¬ fcmp .leq .f32 (cel A i) (cel A (i - 1)) = true then some [i + 1] else none := by
  rw [lpOrd_step]
  simp only [opP_base (show (15 : Nat) ≠ 70 by decide), opP_base (show (62 : Nat) ≠ 70 by decide), opP_base (show (10 : Nat) ≠ 70 by decide), opP_base (show (32 : Nat) ≠ 70 by decide), opP_base (show (63 : Nat) ≠ 70 by decide), opP_base (show (31 : Nat) ≠ 70 by decide)]
  by_cases hlt : i < opB 62 [A]
  · have e1 : opB 15 [i, opB 62 [A]] = 1 := b2i_is1.2 (decide_eq_true hlt)
    have e3 : opB 31 [3, i, 1] = i + 1 := Go.IntWalk.i64_in _ (by have := lenB A; omega)
    have e4 : opB 32 [3, i, 1] = i - 1 := Go.IntWalk.i64_in _ (by have := lenB A; omega)
    rw [if_pos e1, e3, e4]
    have e5 : opB 10 [opB 63 [A, i, 0], opB 63 [A, i - 1, 0]] = 1 ↔ fcmp .leq .f32 (cel A i) (cel A (i - 1)) = true := b2i_is1
    by_cases hc : fcmp .leq .f32 (cel A i) (cel A (i - 1)) = true
    · rw [if_pos (e5.2 hc), if_neg (fun h => h.2 hc)]
    · rw [if_neg (fun e => hc (e5.1 e)), if_pos ⟨hlt, hc⟩]
  · have e0 : ¬ opB 15 [i, opB 62 [A]] = 1 := fun e => hlt (of_decide_eq_true (b2i_is1.1 e))
    rw [if_neg e0, if_neg (fun h => hlt h.1)]

theorem lpCur_eq {i : Int} (h0 : 0 ≤ i) : lpCur.step (opP opB ps) [A, B] [i] = if i < opB 62 [A] ∧ (finN (cel A i) ∧ finN (cel B i) ∧ (0 < i → fcmp .lss .f32 (cel A (i - 1)) (cel A i) = true)) then some [i + 1] else none := by
  rw [lpCur_step]
  simp only [opP_base (show (15 : Nat) ≠ 70 by decide), opP_base (show (62 : Nat) ≠ 70 by decide), opP_base (show (8 : Nat) ≠ 70 by decide), opP_base (show (1 : Nat) ≠ 70 by decide), opP_base (show (9 : Nat) ≠ 70 by decide), opP_base (show (37 : Nat) ≠ 70 by decide),
    opP_base (show (38 : Nat) ≠ 70 by decide), opP_base (show (32 : Nat) ≠ 70 by decide), opP_base (show (63 : Nat) ≠ 70 by decide), opP_base (show (31 : Nat) ≠ 70 by decide)]
  by_cases hlt : i < opB 62 [A]
  · have e1 : opB 15 [i, opB 62 [A]] = 1 := b2i_is1.2 (decide_eq_true hlt)
    have e3 : opB 31 [3, i, 1] = i + 1 := Go.IntWalk.i64_in _ (by have := lenB A; omega)
    have e4 : opB 32 [3, i, 1] = i - 1 := Go.IntWalk.i64_in _ (by have := lenB A; omega)
    rw [if_pos e1, e3, e4]
    have fin1 : ∀ L : Int, opB 38 [opB 37 [opB 8 [0, opB 1 [opB 63 [L, i, 0], opB 63 [L, i, 0]]]], 1, 0] = 1 ↔ ¬ finN (cel L i) := by
      intro L
      have h8 : opB 8 [0, opB 1 [opB 63 [L, i, 0], opB 63 [L, i, 0]]] = b2i (fcmp .eql .f32 0 (fbin .sub .f32 (cel L i) (cel L i))) := by
        show b2i (fcmp .eql .f32 (0 : Int).toNat ((fbin .sub .f32 (cel L i) (cel L i) : Nat) : Int).toNat) = _
        rw [Int.toNat_natCast]; rfl
      rw [h8]
      unfold finN
      cases fcmp .eql .f32 0 (fbin .sub .f32 (cel L i) (cel L i)) <;> simp [b2i] <;> decide
    have ord : opB 38 [opB 38 [opB 15 [0, i], 1, 0], opB 9 [opB 63 [A, i - 1, 0], opB 63 [A, i, 0]], 1] = 1 ↔ (0 < i → fcmp .lss .f32 (cel A (i - 1)) (cel A i) = true) := by
      have h15 : opB 15 [0, i] = b2i (decide (0 < i)) := rfl
      have h9 : opB 9 [opB 63 [A, i - 1, 0], opB 63 [A, i, 0]] = b2i (fcmp .lss .f32 (cel A (i - 1)) (cel A i)) := rfl
      rw [h15, h9]
      by_cases hi : 0 < i
      · rw [decide_eq_true hi]
        cases fcmp .lss .f32 (cel A (i - 1)) (cel A i) <;> simp [hi] <;> decide
      · rw [decide_eq_false hi]
        cases fcmp .lss .f32 (cel A (i - 1)) (cel A i) <;> simp [hi] <;> decide
    by_cases ha : finN (cel A i)
    · rw [if_neg (fun e => ((fin1 A).1 e) ha)]
      by_cases hb : finN (cel B i)
      · rw [if_neg (fun e => ((fin1 B).1 e) hb)]
        by_cases hc : (0 < i → fcmp .lss .f32 (cel A (i - 1)) (cel A i) = true)
        · rw [if_pos (ord.2 hc), if_pos ⟨hlt, ha, hb, hc⟩]
        · rw [if_neg (fun e => hc (ord.1 e)), if_neg (fun h => hc h.2.2.2)]
      · rw [if_pos ((fin1 B).2 hb), if_neg (fun h => hb h.2.2.1)]
    · rw [if_pos ((fin1 A).2 ha), if_neg (fun h => ha h.2.1)]
  · have e0 : ¬ opB 15 [i, opB 62 [A]] = 1 := fun e => hlt (of_decide_eq_true (b2i_is1.1 e))
    rw [if_neg e0, if_neg (fun h => hlt h.1)]

theorem finN_num {x : Nat} (h : finN x) : isN .f32 x = false := by
  cases hx : isN .f32 x with
  | false => rfl
  | true =>
    exfalso
    have hs : fbin .sub .f32 x x = qn .f32 := by
      unfold fbin
      rw [floatBits_nan (.inl hx)]; rfl
    unfold finN at h
    rw [hs] at h
    revert h
    decide

/-- THE PLAIN LAW. -/
theorem curve_law {pF pO pC : List Lit} (hn : opB 62 [A] = opB 62 [B]) :
    (fin (lpCur.step (opP opB pC) [A, B]) [0]).getD 0 0 < opB 62 [A] ↔
      ((fin (lpFin.step (opP opB pF) [A]) [0]).getD 0 0 < opB 62 [A] ∨ (fin (lpFin.step (opP opB pF) [B]) [0]).getD 0 0 < opB 62 [B] ∨ (fin (lpOrd.step (opP opB pO) [A]) [1]).getD 0 0 < opB 62 [A]) := by
  rw [fin_below (n := opB 62 [A]) (lo := 0) (C := fun i => finN (cel A i) ∧ finN (cel B i) ∧ (0 < i → fcmp .lss .f32 (cel A (i - 1)) (cel A i) = true))
      (fun i h0 h1 hc => by rw [lpCur_eq h0, if_pos ⟨h1, hc⟩]) (fun i h0 h => by rw [lpCur_eq h0, if_neg h]),
    fin_below (n := opB 62 [A]) (lo := 0) (C := fun i => finN (cel A i)) (fun i h0 h1 hc => lpFin_go h0 h1 hc) (fun i h0 h => lpFin_stop h),
    fin_below (n := opB 62 [B]) (lo := 0) (C := fun i => finN (cel B i)) (fun i h0 h1 hc => lpFin_go h0 h1 hc) (fun i h0 h => lpFin_stop h),
    fin_below (n := opB 62 [A]) (lo := 1) (C := fun i => ¬ fcmp .leq .f32 (cel A i) (cel A (i - 1)) = true) (fun i h0 h1 hc => by rw [lpOrd_eq h0, if_pos ⟨h1, hc⟩]) (fun i h0 h => by rw [lpOrd_eq h0, if_neg h])]
  constructor
  · rintro ⟨k, k0, k1, k2⟩
    by_cases hA : ∃ k, 0 ≤ k ∧ k < opB 62 [A] ∧ ¬ finN (cel A k)
    · exact .inl hA
    · have fa : ∀ j, 0 ≤ j → j < opB 62 [A] → finN (cel A j) := fun j j0 j1 => Classical.byContradiction fun h => hA ⟨j, j0, j1, h⟩
      by_cases hb : finN (cel B k)
      · refine .inr (.inr ?_)
        have hc : ¬ (0 < k → fcmp .lss .f32 (cel A (k - 1)) (cel A k) = true) := fun hc => k2 ⟨fa k k0 k1, hb, hc⟩
        have hk : 0 < k := Classical.byContradiction fun h => hc (fun h' => absurd h' h)
        have hl : ¬ fcmp .lss .f32 (cel A (k - 1)) (cel A k) = true := fun h => hc (fun _ => h)
        refine ⟨k, by omega, k1, fun h => h ?_⟩
        rw [leq_iff]
        have n1 := finN_num (fa k k0 k1)
        have n2 := finN_num (fa (k - 1) (by omega) (by omega))
        refine ⟨n1, n2, ?_⟩
        by_cases hK : K .f32 (cel A k) ≤ K .f32 (cel A (k - 1))
        · exact hK
        · exact absurd ((lss_iff .f32 _ _).2 ⟨n2, n1, by omega⟩) hl
      · exact .inr (.inl ⟨k, k0, by rw [← hn]; exact k1, hb⟩)
  · rintro (⟨k, k0, k1, k2⟩ | ⟨k, k0, k1, k2⟩ | ⟨k, k0, k1, k2⟩)
    · exact ⟨k, k0, k1, fun h => k2 h.1⟩
    · exact ⟨k, k0, by rw [hn]; exact k1, fun h => k2 h.2.1⟩
    · refine ⟨k, by omega, k1, fun h => k2 fun hl => ?_⟩
      have h1 := (lss_iff .f32 _ _).1 (h.2.2 (by omega))
      have h2 := (leq_iff .f32 _ _).1 hl
      omega
end
end Go.Sx
