/-
  The program's check of a curve keeps the contract of the reference's.
-/
import Derived.Test.YtgaejkfdinkpmaaD23
import Derived.Test.YtgaejkfdinkpmaaSm21
import Derived.Test.YtgaejkfdinkpmaaSxN
set_option maxRecDepth 100000
set_option linter.unusedSimpArgs false
set_option linter.unusedVariables false
namespace Go.Proofs.Ytgaejkfdinkpmaa
open Go.Sx
theorem good21 : goodTab 2 (tabL S21) = true := by kernel_rfl
theorem ds21 : dsOK (tabL S21) S21.ds = true := by kernel_rfl
theorem prog3 : progs[3]? = some lpCur := by kernel_rfl
theorem prog4 : progs[4]? = some lpFin := by kernel_rfl
theorem prog5 : progs[5]? = some lpOrd := by kernel_rfl
theorem pick23 (ρ : Nat → Int) : S23.vt.pick ρ = if ρ 7 = 1 then S23v0 else if ρ 5 = 1 then S23v0 else if ρ 10 = 1 then (if ρ 14 = 1 then S23v0 else if ρ 17 = 1 then S23v0 else if ρ 21 = 1 then S23v0 else S23v1) else S23v0 := rfl
theorem pick21 (ρ : Nat → Int) : S21.vt.pick ρ = if ρ 7 = 1 then S21v0 else if ρ 9 = 1 then S21v0 else if ρ 11 = 1 then (if ρ 15 = 1 then (if ρ 20 = 1 then S21v0 else if ρ 25 = 1 then S21v0 else S21v0) else S21v1) else S21v0 := rfl
theorem choice1 (z : Int) : opF 38 [z, 1, 0] = 1 ↔ z = 1 := by
  rw [opF_38]
  by_cases h : z = 1
  · subst h; simp
  · simp [h]
theorem less1 (x y : Int) : opF 15 [x, y] = 1 ↔ x < y := by
  rw [opF_15]
  exact Go.Sx.b2i_is1.trans decide_eq_true_iff
theorem via23 : SummOK Try.prog 23 (smL S21 2 pat21) := by
  refine smL_via (hn := hn23) (ctx_fits _) summ74_ok Try.func23 (by kernel_rfl) (S := S23) (show smRunL (ctx summ74) hn23 Try.f23 2 pat21 S23 = true from sm23) good21 ds21 ?_
  intro ρ1 ρ2 μ x hag h1 h2 hx
  have g0 := hag 0 (by decide)
  have g1 := hag 1 (by decide)
  have a2 : ρ1 2 = opF 62 [ρ1 0] := h1 2 ⟨62, [.reg 0]⟩ (by simp [S23, S23d0, q1, q2])
  have a3 : ρ1 3 = opF 15 [ρ1 2, 2] := h1 3 ⟨15, [.reg 2, .lit 2]⟩ (by simp [S23, S23d0, q1, q2])
  have a5 : ρ1 5 = opF 15 [32, ρ1 2] := h1 5 ⟨15, [.lit 32, .reg 2]⟩ (by simp [S23, S23d0, q1, q2])
  have a7 : ρ1 7 = opF 38 [ρ1 3, 1, 0] := h1 7 ⟨38, [.reg 3, .lit 1, .lit 0]⟩ (by simp [S23, S23d0, q1, q2])
  have a9 : ρ1 9 = opF 62 [ρ1 1] := h1 9 ⟨62, [.reg 1]⟩ (by simp [S23, S23d0, q1, q2])
  have a10 : ρ1 10 = opF 14 [ρ1 2, ρ1 9] := h1 10 ⟨14, [.reg 2, .reg 9]⟩ (by simp [S23, S23d0, q1, q2])
  have a12 : ρ1 12 = opF 70 [4, 0, 0, ρ1 0] := h1 12 ⟨70, [.lit 4, .lit 0, .lit 0, .reg 0]⟩ (by simp [S23, S23d0, q1, q2])
  have a13 : ρ1 13 = opF 15 [ρ1 12, ρ1 2] := h1 13 ⟨15, [.reg 12, .reg 2]⟩ (by simp [S23, S23d0, q1, q2])
  have a14 : ρ1 14 = opF 38 [ρ1 13, 1, 0] := h1 14 ⟨38, [.reg 13, .lit 1, .lit 0]⟩ (by simp [S23, S23d0, q1, q2])
  have a15 : ρ1 15 = opF 70 [4, 0, 0, ρ1 1] := h1 15 ⟨70, [.lit 4, .lit 0, .lit 0, .reg 1]⟩ (by simp [S23, S23d0, q1, q2])
  have a16 : ρ1 16 = opF 15 [ρ1 15, ρ1 9] := h1 16 ⟨15, [.reg 15, .reg 9]⟩ (by simp [S23, S23d0, q1, q2])
  have a17 : ρ1 17 = opF 38 [ρ1 16, 1, 0] := h1 17 ⟨38, [.reg 16, .lit 1, .lit 0]⟩ (by simp [S23, S23d0, q1, q2])
  have a18 : ρ1 18 = opF 70 [5, 0, 1, ρ1 0] := h1 18 ⟨70, [.lit 5, .lit 0, .lit 1, .reg 0]⟩ (by simp [S23, S23d0, q1, q2])
  have a21 : ρ1 21 = opF 15 [ρ1 18, ρ1 2] := h1 21 ⟨15, [.reg 18, .reg 2]⟩ (by simp [S23, S23d0, q1, q2])
  have b2 : ρ2 2 = opF 62 [ρ2 0] := h2 2 ⟨62, [.reg 0]⟩ (by simp [S21, S21d0, q1, q2])
  have b3 : ρ2 3 = opF 15 [ρ2 2, 2] := h2 3 ⟨15, [.reg 2, .lit 2]⟩ (by simp [S21, S21d0, q1, q2])
  have b5 : ρ2 5 = opF 15 [32, ρ2 2] := h2 5 ⟨15, [.lit 32, .reg 2]⟩ (by simp [S21, S21d0, q1, q2])
  have b6 : ρ2 6 = opF 37 [ρ2 5] := h2 6 ⟨37, [.reg 5]⟩ (by simp [S21, S21d0, q1, q2])
  have b7 : ρ2 7 = opF 38 [ρ2 3, 1, 0] := h2 7 ⟨38, [.reg 3, .lit 1, .lit 0]⟩ (by simp [S21, S21d0, q1, q2])
  have b8 : ρ2 8 = opF 37 [ρ2 6] := h2 8 ⟨37, [.reg 6]⟩ (by simp [S21, S21d0, q1, q2])
  have b9 : ρ2 9 = opF 38 [ρ2 8, 1, 0] := h2 9 ⟨38, [.reg 8, .lit 1, .lit 0]⟩ (by simp [S21, S21d0, q1, q2])
  have b10 : ρ2 10 = opF 62 [ρ2 1] := h2 10 ⟨62, [.reg 1]⟩ (by simp [S21, S21d0, q1, q2])
  have b11 : ρ2 11 = opF 14 [ρ2 2, ρ2 10] := h2 11 ⟨14, [.reg 2, .reg 10]⟩ (by simp [S21, S21d0, q1, q2])
  have b13 : ρ2 13 = opF 70 [3, 0, 0, ρ2 0, ρ2 1] := h2 13 ⟨70, [.lit 3, .lit 0, .lit 0, .reg 0, .reg 1]⟩ (by simp [S21, S21d0, q1, q2])
  have b15 : ρ2 15 = opF 15 [ρ2 13, ρ2 2] := h2 15 ⟨15, [.reg 13, .reg 2]⟩ (by simp [S21, S21d0, q1, q2])
  have p12 : ρ1 12 = (fin (lpFin.step (opP opB (progs.take 4).reverse) [ρ1 0]) [0]).getD 0 0 := a12.trans (opF_prog prog4 [0, 0, ρ1 0])
  have p15 : ρ1 15 = (fin (lpFin.step (opP opB (progs.take 4).reverse) [ρ1 1]) [0]).getD 0 0 := a15.trans (opF_prog prog4 [0, 0, ρ1 1])
  have p18 : ρ1 18 = (fin (lpOrd.step (opP opB (progs.take 5).reverse) [ρ1 0]) [1]).getD 0 0 := a18.trans (opF_prog prog5 [0, 1, ρ1 0])
  have p13 : ρ2 13 = (fin (lpCur.step (opP opB (progs.take 3).reverse) [ρ2 0, ρ2 1]) [0]).getD 0 0 := b13.trans (opF_prog prog3 [0, 0, ρ2 0, ρ2 1])
  rw [← g0] at b2 p13
  rw [← g1] at b10 p13
  have n2 : ρ2 2 = ρ1 2 := b2.trans a2.symm
  have n10 : ρ2 10 = ρ1 9 := b10.trans a9.symm
  have e7 : ρ2 7 = ρ1 7 := by rw [b7, b3, n2, ← a3, ← a7]
  have e9 : ρ2 9 = 1 ↔ ρ1 5 = 1 := by
    rw [b9, choice1, b8, b6, b5, n2, ← a5, a5, opF_15]
    cases decide ((32 : Int) < ρ1 2) <;> decide
  have e11 : ρ2 11 = ρ1 10 := by rw [b11, n2, n10, ← a10]
  have key : ρ1 10 = 1 → (ρ2 15 = 1 ↔ ρ1 14 = 1 ∨ ρ1 17 = 1 ∨ ρ1 21 = 1) := by
    intro h10
    have hn : opB 62 [ρ1 0] = opB 62 [ρ1 1] := by
      rw [a10, opF_14] at h10
      have := Go.Sx.b2i_is1.1 h10
      have h : ρ1 2 = ρ1 9 := by simpa using this
      rw [a2, a9] at h
      exact h
    have f2 : opF 62 [ρ1 0] = opB 62 [ρ1 0] := rfl
    have f9 : opF 62 [ρ1 1] = opB 62 [ρ1 1] := rfl
    rw [b15, less1, a14, choice1, a13, less1, a17, choice1, a16, less1, a21, less1, n2, p13, p12, p15, p18, a2, a9, f2, f9]
    exact curve_law hn
  have hv : ∀ v : SV, v = S23v0 ∨ v = S23v1 → v.rel ρ1 μ x → v.rel ρ2 μ x := by
    rintro v (rfl | rfl) h <;> exact h
  have ep : S21.vt.pick ρ2 = S23.vt.pick ρ1 := by
    rw [pick21, pick23, e7, e11]
    have v0 : S21v0 = S23v0 := rfl
    have v1 : S21v1 = S23v1 := rfl
    rw [v0, v1]
    by_cases c7 : ρ1 7 = 1
    · rw [if_pos c7, if_pos c7]
    · rw [if_neg c7, if_neg c7]
      by_cases c5 : ρ1 5 = 1
      · rw [if_pos (e9.2 c5), if_pos c5]
      · rw [if_neg (fun h => c5 (e9.1 h)), if_neg c5]
        by_cases c10 : ρ1 10 = 1
        · rw [if_pos c10, if_pos c10]
          have k := key c10
          by_cases c15 : ρ2 15 = 1
          · rw [if_pos c15]
            have l : (if ρ2 20 = 1 then S23v0 else if ρ2 25 = 1 then S23v0 else S23v0) = S23v0 := by
              split
              · rfl
              · split <;> rfl
            rw [l]
            rcases k.1 c15 with h | h | h
            · rw [if_pos h]
            · rw [if_pos h]
              split <;> rfl
            · rw [if_pos h]
              split
              · rfl
              · split <;> rfl
          · have l : ¬ (ρ1 14 = 1 ∨ ρ1 17 = 1 ∨ ρ1 21 = 1) := fun h => c15 (k.2 h)
            rw [if_neg c15, if_neg (fun h => l (.inl h)), if_neg (fun h => l (.inr (.inl h))), if_neg (fun h => l (.inr (.inr h)))]
        · rw [if_neg c10, if_neg c10]
  rw [ep]
  refine hv _ ?_ hx
  rw [pick23]
  repeat' split
  all_goals first | exact .inl rfl | exact .inr rfl
end Go.Proofs.Ytgaejkfdinkpmaa
