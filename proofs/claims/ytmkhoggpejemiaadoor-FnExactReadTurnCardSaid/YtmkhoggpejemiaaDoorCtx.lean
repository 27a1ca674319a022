/-
  The executor's tables for this seat: types, functions.
-/
import Derived.Test.YtmkhoggpejemiaaDoorSxM
import Derived.Test.YtmkhoggpejemiaaDoorChecked
import Derived.Test.YtmkhoggpejemiaaDoorRows
import Derived.ProofKit
import Derived.OpenShut
set_option linter.unusedSimpArgs false
set_option linter.unusedVariables false
namespace Go.Proofs.YtmkhoggpejemiaaDoor
open Go.Sx
def tyL : List (Nat × TI) := [
  (2, ⟨.int .i64, 1, [.int .i64 (.lit 0)]⟩),
  (3, ⟨.int .i64, 1, [.int .i64 (.lit 0)]⟩),
  (4, ⟨.bool, 1, [.bool (.lit 0)]⟩),
  (5, ⟨.int .u8, 1, [.int .u8 (.lit 0)]⟩),
  (9, ⟨.string, 1, [.raw (.string ⟨#[]⟩)]⟩),
  (12, ⟨.int .u64, 1, [.int .u64 (.lit 0)]⟩),
  (13, ⟨.struct [(0, 9), (1, 12)], 2, [.raw (.string ⟨#[]⟩)] ++ [.int .u64 (.lit 0)]⟩),
  (15, ⟨.ptr 143, 1, [.raw (.pointer none)]⟩),
  (16, ⟨.ptr 146, 1, [.raw (.pointer none)]⟩),
  (21, ⟨.int .i32, 1, [.int .i32 (.lit 0)]⟩),
  (22, ⟨.float .f32, 1, [.flt .f32 (.lit 0)]⟩),
  (23, ⟨.arr 4 22, 4, List.replicate 4 (.flt .f32 (.lit 0))⟩),
  (25, ⟨.arr 4 22, 4, List.replicate 4 (.flt .f32 (.lit 0))⟩),
  (28, ⟨.arr 6 22, 6, List.replicate 6 (.flt .f32 (.lit 0))⟩),
  (29, ⟨.arr 6 28, 36, List.replicate 36 (.flt .f32 (.lit 0))⟩),
  (30, ⟨.struct [(0, 28), (6, 29)], 42, List.replicate 42 (.flt .f32 (.lit 0))⟩),
  (31, ⟨.struct [(0, 28), (6, 29)], 42, List.replicate 42 (.flt .f32 (.lit 0))⟩),
  (33, ⟨.arr 6 22, 6, List.replicate 6 (.flt .f32 (.lit 0))⟩),
  (34, ⟨.arr 6 28, 36, List.replicate 36 (.flt .f32 (.lit 0))⟩),
  (35, ⟨.struct [(0, 33), (6, 34)], 42, List.replicate 42 (.flt .f32 (.lit 0))⟩),
  (36, ⟨.struct [(0, 33), (6, 34)], 42, List.replicate 42 (.flt .f32 (.lit 0))⟩),
  (47, ⟨.slice 22, 1, [.raw (.slice none 0 0)]⟩),
  (50, ⟨.ptr 36, 1, [.raw (.pointer none)]⟩),
  (57, ⟨.slice 9, 1, [.raw (.slice none 0 0)]⟩),
  (61, ⟨.float .f64, 1, [.flt .f64 (.lit 0)]⟩),
  (78, ⟨.int .u32, 1, [.int .u32 (.lit 0)]⟩),
  (80, ⟨.slice 5, 1, [.raw (.slice none 0 0)]⟩),
  (83, ⟨.int .u64, 1, [.int .u64 (.lit 0)]⟩),
  (84, ⟨.ptr 86, 1, [.raw (.pointer none)]⟩),
  (85, ⟨.struct [(0, 84), (1, 80)], 2, [.raw (.pointer none)] ++ [.raw (.slice none 0 0)]⟩),
  (86, ⟨.struct [(0, 84), (1, 80)], 2, [.raw (.pointer none)] ++ [.raw (.slice none 0 0)]⟩),
  (98, ⟨.ptr 5, 1, [.raw (.pointer none)]⟩),
  (105, ⟨.arr 24 5, 24, List.replicate 24 (.int .u8 (.lit 0))⟩),
  (113, ⟨.int .i64, 1, [.int .i64 (.lit 0)]⟩),
  (115, ⟨.int .u64, 1, [.int .u64 (.lit 0)]⟩),
  (116, ⟨.ptr 127, 1, [.raw (.pointer none)]⟩),
  (121, ⟨.arr 20 83, 20, List.replicate 20 (.int .u64 (.lit 0))⟩),
  (122, ⟨.arr 65 5, 65, List.replicate 65 (.int .u8 (.lit 0))⟩),
  (129, ⟨.arr 256 5, 256, List.replicate 256 (.int .u8 (.lit 0))⟩),
  (130, ⟨.struct [(0, 5), (1, 5)], 2, List.replicate 2 (.int .u8 (.lit 0))⟩),
  (131, ⟨.struct [(0, 5), (1, 5)], 2, List.replicate 2 (.int .u8 (.lit 0))⟩),
  (132, ⟨.arr 16 131, 32, List.replicate 32 (.int .u8 (.lit 0))⟩),
  (136, ⟨.ptr 138, 1, [.raw (.pointer none)]⟩),
  (137, ⟨.struct [(0, 9)], 1, [.raw (.string ⟨#[]⟩)]⟩),
  (138, ⟨.struct [(0, 9)], 1, [.raw (.string ⟨#[]⟩)]⟩),
  (139, ⟨.arr 32 5, 32, List.replicate 32 (.int .u8 (.lit 0))⟩),
  (140, ⟨.arr 64 5, 64, List.replicate 64 (.int .u8 (.lit 0))⟩)]
noncomputable def fnL : List (Nat × Func) := [(3, Tryd.f3), (4, Tryd.f4), (5, Tryd.f5), (6, Tryd.f6), (7, Tryd.f7), (8, Tryd.f8), (9, Tryd.f9), (10, Tryd.f10), (11, Tryd.f11), (12, Tryd.f12), (13, Tryd.f13), (14, Tryd.f14), (15, Tryd.f15), (16, Tryd.f16), (17, Tryd.f17), (18, Tryd.f18), (19, Tryd.f19), (20, Tryd.f20), (21, Tryd.f21), (22, Tryd.f22), (23, Tryd.f23), (24, Tryd.f24), (25, Tryd.f25), (26, Tryd.f26), (27, Tryd.f27), (28, Tryd.f28), (29, Tryd.f29), (30, Tryd.f30), (31, Tryd.f31), (33, Tryd.f33), (34, Tryd.f34), (35, Tryd.f35), (36, Tryd.f36), (37, Tryd.f37), (39, Tryd.f39), (40, Tryd.f40), (41, Tryd.f41), (42, Tryd.f42), (43, Tryd.f43), (45, Tryd.f45), (46, Tryd.f46), (47, Tryd.f47), (48, Tryd.f48), (53, Tryd.f53), (59, Tryd.f59), (68, Tryd.f68), (71, Tryd.f71), (86, Tryd.f86), (88, Tryd.f88), (89, Tryd.f89), (95, Tryd.f95), (96, Tryd.f96)]
theorem tyL_ok : tysCheck Tryd.prog tyL = true := by kernel_rfl
set_option maxRecDepth 100000 in
theorem fnL_ok : ∀ p ∈ fnL, Tryd.prog.funcs[p.1]? = some p.2 ∧ (p.2.name == ("runtime.NumGoroutine" : String)) = false := by
  unfold fnL
  simp only [List.forall_mem_cons]
  exact ⟨⟨Tryd.func3, by kernel_rfl⟩, ⟨Tryd.func4, by kernel_rfl⟩, ⟨Tryd.func5, by kernel_rfl⟩, ⟨Tryd.func6, by kernel_rfl⟩, ⟨Tryd.func7, by kernel_rfl⟩, ⟨Tryd.func8, by kernel_rfl⟩, ⟨Tryd.func9, by kernel_rfl⟩, ⟨Tryd.func10, by kernel_rfl⟩, ⟨Tryd.func11, by kernel_rfl⟩, ⟨Tryd.func12, by kernel_rfl⟩, ⟨Tryd.func13, by kernel_rfl⟩, ⟨Tryd.func14, by kernel_rfl⟩, ⟨Tryd.func15, by kernel_rfl⟩, ⟨Tryd.func16, by kernel_rfl⟩, ⟨Tryd.func17, by kernel_rfl⟩, ⟨Tryd.func18, by kernel_rfl⟩, ⟨Tryd.func19, by kernel_rfl⟩, ⟨Tryd.func20, by kernel_rfl⟩, ⟨Tryd.func21, by kernel_rfl⟩, ⟨Tryd.func22, by kernel_rfl⟩, ⟨Tryd.func23, by kernel_rfl⟩, ⟨Tryd.func24, by kernel_rfl⟩, ⟨Tryd.func25, by kernel_rfl⟩, ⟨Tryd.func26, by kernel_rfl⟩, ⟨Tryd.func27, by kernel_rfl⟩, ⟨Tryd.func28, by kernel_rfl⟩, ⟨Tryd.func29, by kernel_rfl⟩, ⟨Tryd.func30, by kernel_rfl⟩, ⟨Tryd.func31, by kernel_rfl⟩, ⟨Tryd.func33, by kernel_rfl⟩, ⟨Tryd.func34, by kernel_rfl⟩, ⟨Tryd.func35, by kernel_rfl⟩, ⟨Tryd.func36, by kernel_rfl⟩, ⟨Tryd.func37, by kernel_rfl⟩, ⟨Tryd.func39, by kernel_rfl⟩, ⟨Tryd.func40, by kernel_rfl⟩, ⟨Tryd.func41, by kernel_rfl⟩, ⟨Tryd.func42, by kernel_rfl⟩, ⟨Tryd.func43, by kernel_rfl⟩, ⟨Tryd.func45, by kernel_rfl⟩, ⟨Tryd.func46, by kernel_rfl⟩, ⟨Tryd.func47, by kernel_rfl⟩, ⟨Tryd.func48, by kernel_rfl⟩, ⟨Tryd.func53, by kernel_rfl⟩, ⟨Tryd.func59, by kernel_rfl⟩, ⟨Tryd.func68, by kernel_rfl⟩, ⟨Tryd.func71, by kernel_rfl⟩, ⟨Tryd.func86, by kernel_rfl⟩, ⟨Tryd.func88, by kernel_rfl⟩, ⟨Tryd.func89, by kernel_rfl⟩, ⟨Tryd.func95, by kernel_rfl⟩, ⟨Tryd.func96, by kernel_rfl⟩, by simp⟩
noncomputable def ctx (summ : Nat → Option Summ) : Ctx := ⟨Tr.ofList fuelT tyL, Tr.ofList fuelT fnL, summ⟩
theorem ctx_fits (summ : Nat → Option Summ) : (ctx summ).ok Tryd.prog := ctx_ok (by kernel_rfl) tyL_ok fnL_ok
theorem own : ownKnob Tryd.prog.godebug = none := by kernel_rfl
theorem laidOut : laidOutB Tryd.prog = true := by kernel_rfl
def headL : List Char := [Char.ofNat 104, Char.ofNat 97, Char.ofNat 114, Char.ofNat 110, Char.ofNat 101, Char.ofNat 115, Char.ofNat 115, Char.ofNat 32, Char.ofNat 101, Char.ofNat 52, Char.ofNat 55, Char.ofNat 50, Char.ofNat 97, Char.ofNat 48, Char.ofNat 50, Char.ofNat 53, Char.ofNat 48, Char.ofNat 52, Char.ofNat 51, Char.ofNat 54, Char.ofNat 49, Char.ofNat 102, Char.ofNat 51, Char.ofNat 48, Char.ofNat 99, Char.ofNat 55, Char.ofNat 98, Char.ofNat 99, Char.ofNat 51, Char.ofNat 55, Char.ofNat 54, Char.ofNat 101, Char.ofNat 50, Char.ofNat 102, Char.ofNat 51, Char.ofNat 50, Char.ofNat 51, Char.ofNat 102, Char.ofNat 48, Char.ofNat 54, Char.ofNat 101, Char.ofNat 98, Char.ofNat 55, Char.ofNat 99, Char.ofNat 101, Char.ofNat 97, Char.ofNat 57, Char.ofNat 53, Char.ofNat 54, Char.ofNat 51, Char.ofNat 51, Char.ofNat 98, Char.ofNat 51, Char.ofNat 48, Char.ofNat 48, Char.ofNat 48, Char.ofNat 56, Char.ofNat 49, Char.ofNat 53, Char.ofNat 55, Char.ofNat 99, Char.ofNat 49, Char.ofNat 99, Char.ofNat 54, Char.ofNat 54, Char.ofNat 97, Char.ofNat 54, Char.ofNat 98, Char.ofNat 55, Char.ofNat 101, Char.ofNat 97, Char.ofNat 100, Char.ofNat 32, Char.ofNat 99, Char.ofNat 117, Char.ofNat 116, Char.ofNat 32, Char.ofNat 97, Char.ofNat 116, Char.ofNat 32, Char.ofNat 108, Char.ofNat 111, Char.ofNat 111, Char.ofNat 112, Char.ofNat 46, Char.ofNat 101, Char.ofNat 120, Char.ofNat 97, Char.ofNat 109, Char.ofNat 112, Char.ofNat 108, Char.ofNat 101, Char.ofNat 47, Char.ofNat 103, Char.ofNat 48, Char.ofNat 49, Char.ofNat 50, Char.ofNat 48, Char.ofNat 52, Char.ofNat 47, Char.ofNat 108, Char.ofNat 97, Char.ofNat 119, Char.ofNat 115, Char.ofNat 46, Char.ofNat 70, Char.ofNat 110, Char.ofNat 69, Char.ofNat 120, Char.ofNat 97, Char.ofNat 99, Char.ofNat 116, Char.ofNat 84, Char.ofNat 117, Char.ofNat 114, Char.ofNat 110, Char.ofNat 84, Char.ofNat 101, Char.ofNat 120, Char.ofNat 116, Char.ofNat 32, Char.ofNat 108, Char.ofNat 111, Char.ofNat 111, Char.ofNat 112, Char.ofNat 46, Char.ofNat 101, Char.ofNat 120, Char.ofNat 97, Char.ofNat 109, Char.ofNat 112, Char.ofNat 108, Char.ofNat 101, Char.ofNat 47, Char.ofNat 103, Char.ofNat 48, Char.ofNat 49, Char.ofNat 50, Char.ofNat 48, Char.ofNat 52, Char.ofNat 47, Char.ofNat 108, Char.ofNat 97, Char.ofNat 119, Char.ofNat 115, Char.ofNat 46, Char.ofNat 70, Char.ofNat 110, Char.ofNat 69, Char.ofNat 120, Char.ofNat 97, Char.ofNat 99, Char.ofNat 116, Char.ofNat 83, Char.ofNat 116, Char.ofNat 97, Char.ofNat 116, Char.ofNat 101, Char.ofNat 84, Char.ofNat 101, Char.ofNat 120, Char.ofNat 116, Char.ofNat 32, Char.ofNat 108, Char.ofNat 111, Char.ofNat 111, Char.ofNat 112, Char.ofNat 46, Char.ofNat 101, Char.ofNat 120, Char.ofNat 97, Char.ofNat 109, Char.ofNat 112, Char.ofNat 108, Char.ofNat 101, Char.ofNat 47, Char.ofNat 103, Char.ofNat 48, Char.ofNat 49, Char.ofNat 50, Char.ofNat 48, Char.ofNat 52, Char.ofNat 47, Char.ofNat 108, Char.ofNat 97, Char.ofNat 119, Char.ofNat 115, Char.ofNat 46, Char.ofNat 70, Char.ofNat 110, Char.ofNat 69, Char.ofNat 120, Char.ofNat 97, Char.ofNat 99, Char.ofNat 116, Char.ofNat 82, Char.ofNat 101, Char.ofNat 97, Char.ofNat 100, Char.ofNat 84, Char.ofNat 117, Char.ofNat 114, Char.ofNat 110, Char.ofNat 32, Char.ofNat 108, Char.ofNat 111, Char.ofNat 111, Char.ofNat 112, Char.ofNat 46, Char.ofNat 101, Char.ofNat 120, Char.ofNat 97, Char.ofNat 109, Char.ofNat 112, Char.ofNat 108, Char.ofNat 101, Char.ofNat 47, Char.ofNat 103, Char.ofNat 48, Char.ofNat 49, Char.ofNat 50, Char.ofNat 48, Char.ofNat 52, Char.ofNat 47, Char.ofNat 108, Char.ofNat 97, Char.ofNat 119, Char.ofNat 115, Char.ofNat 46, Char.ofNat 70, Char.ofNat 110, Char.ofNat 69, Char.ofNat 120, Char.ofNat 97, Char.ofNat 99, Char.ofNat 116, Char.ofNat 82, Char.ofNat 101, Char.ofNat 97, Char.ofNat 100, Char.ofNat 83, Char.ofNat 116, Char.ofNat 97, Char.ofNat 116, Char.ofNat 101]
theorem head_is : Tryd.prog.initOrder = String.ofList headL := by kernel_rfl
def wordL : List (List Char) := [[Char.ofNat 99, Char.ofNat 117, Char.ofNat 116], [Char.ofNat 97, Char.ofNat 116], [Char.ofNat 108, Char.ofNat 111, Char.ofNat 111, Char.ofNat 112, Char.ofNat 46, Char.ofNat 101, Char.ofNat 120, Char.ofNat 97, Char.ofNat 109, Char.ofNat 112, Char.ofNat 108, Char.ofNat 101, Char.ofNat 47, Char.ofNat 103, Char.ofNat 48, Char.ofNat 49, Char.ofNat 50, Char.ofNat 48, Char.ofNat 52, Char.ofNat 47, Char.ofNat 108, Char.ofNat 97, Char.ofNat 119, Char.ofNat 115, Char.ofNat 46, Char.ofNat 70, Char.ofNat 110, Char.ofNat 69, Char.ofNat 120, Char.ofNat 97, Char.ofNat 99, Char.ofNat 116, Char.ofNat 84, Char.ofNat 117, Char.ofNat 114, Char.ofNat 110, Char.ofNat 84, Char.ofNat 101, Char.ofNat 120, Char.ofNat 116], [Char.ofNat 108, Char.ofNat 111, Char.ofNat 111, Char.ofNat 112, Char.ofNat 46, Char.ofNat 101, Char.ofNat 120, Char.ofNat 97, Char.ofNat 109, Char.ofNat 112, Char.ofNat 108, Char.ofNat 101, Char.ofNat 47, Char.ofNat 103, Char.ofNat 48, Char.ofNat 49, Char.ofNat 50, Char.ofNat 48, Char.ofNat 52, Char.ofNat 47, Char.ofNat 108, Char.ofNat 97, Char.ofNat 119, Char.ofNat 115, Char.ofNat 46, Char.ofNat 70, Char.ofNat 110, Char.ofNat 69, Char.ofNat 120, Char.ofNat 97, Char.ofNat 99, Char.ofNat 116, Char.ofNat 83, Char.ofNat 116, Char.ofNat 97, Char.ofNat 116, Char.ofNat 101, Char.ofNat 84, Char.ofNat 101, Char.ofNat 120, Char.ofNat 116], [Char.ofNat 108, Char.ofNat 111, Char.ofNat 111, Char.ofNat 112, Char.ofNat 46, Char.ofNat 101, Char.ofNat 120, Char.ofNat 97, Char.ofNat 109, Char.ofNat 112, Char.ofNat 108, Char.ofNat 101, Char.ofNat 47, Char.ofNat 103, Char.ofNat 48, Char.ofNat 49, Char.ofNat 50, Char.ofNat 48, Char.ofNat 52, Char.ofNat 47, Char.ofNat 108, Char.ofNat 97, Char.ofNat 119, Char.ofNat 115, Char.ofNat 46, Char.ofNat 70, Char.ofNat 110, Char.ofNat 69, Char.ofNat 120, Char.ofNat 97, Char.ofNat 99, Char.ofNat 116, Char.ofNat 82, Char.ofNat 101, Char.ofNat 97, Char.ofNat 100, Char.ofNat 84, Char.ofNat 117, Char.ofNat 114, Char.ofNat 110], [Char.ofNat 108, Char.ofNat 111, Char.ofNat 111, Char.ofNat 112, Char.ofNat 46, Char.ofNat 101, Char.ofNat 120, Char.ofNat 97, Char.ofNat 109, Char.ofNat 112, Char.ofNat 108, Char.ofNat 101, Char.ofNat 47, Char.ofNat 103, Char.ofNat 48, Char.ofNat 49, Char.ofNat 50, Char.ofNat 48, Char.ofNat 52, Char.ofNat 47, Char.ofNat 108, Char.ofNat 97, Char.ofNat 119, Char.ofNat 115, Char.ofNat 46, Char.ofNat 70, Char.ofNat 110, Char.ofNat 69, Char.ofNat 120, Char.ofNat 97, Char.ofNat 99, Char.ofNat 116, Char.ofNat 82, Char.ofNat 101, Char.ofNat 97, Char.ofNat 100, Char.ofNat 83, Char.ofNat 116, Char.ofNat 97, Char.ofNat 116, Char.ofNat 101]]
theorem head_words : behindMainWord (wordsSigns Tryd.prog.initOrder.toList) = wordL := by
  rw [head_is, String.toList_ofList]
  kernel_rfl
theorem make_gen {P : Program} {c : List Char} {rest : List (List Char)} (h : behindMainWord (wordsSigns P.initOrder.toList) = c :: rest) (h1 : (c == "gc".toList || c == "spec".toList) = false) (h2 : (c == "cut".toList) = true) : P.make = some Make.cut := by
  unfold Program.make
  rw [h]
  simp only []
  rw [h1, h2, Bool.true_or, if_neg Bool.false_ne_true, if_pos rfl]
theorem enter_gen {P : Program} {c : List Char} {rest : List (List Char)} (h : behindMainWord (wordsSigns P.initOrder.toList) = c :: rest) (h1 : (stripLifts liftWords (c :: rest)).1 = []) (h2 : ((stripLifts liftWords (c :: rest)).2.head? == some "cut".toList) = true)
    (h3 : P.laysLater = false) (h4 : P.bearsReflect = false) (h5 : P.doorFits [] = true) : P.mayEnter = true := by
  unfold Program.mayEnter
  rw [h]
  simp only []
  rw [h1, h2, h3, h4, h5]
  simp only [Bool.not_false, Bool.or_true, Bool.and_true, List.contains_nil]
theorem final_gen {P : Program} {ws : List (List Char)} (h : behindMainWord (wordsSigns P.initOrder.toList) = ws) (h0 : (ws.head? == some "carried".toList) = false) (h1 : (stripLifts liftWords ws).1 = []) : P.liftsFinal = false := by
  unfold Program.liftsFinal Program.headLifts
  rw [h]
  simp only []
  rw [h0, h1, Bool.false_and, Bool.false_or]
  split <;> rfl
theorem make_is : Tryd.pinned.checked.prog.make = some Make.cut := make_gen head_words (by kernel_rfl) (by kernel_rfl)
theorem enter_is : Tryd.pinned.checked.prog.mayEnter = true := enter_gen head_words (by kernel_rfl) (by kernel_rfl) (by kernel_rfl) (by kernel_rfl) (by kernel_rfl)
theorem final_is : Tryd.pinned.checked.prog.liftsFinal = false := final_gen head_words (by kernel_rfl) (by kernel_rfl)
end Go.Proofs.YtmkhoggpejemiaaDoor
