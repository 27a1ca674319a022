/-
  The executor's tables for this seat: types, functions.
-/
import Derived.Test.YtlmeifacpedihaaSxC
import Derived.Test.YtlmeifacpedihaaChecked
set_option linter.unusedSimpArgs false
set_option linter.unusedVariables false
namespace Go.Proofs.Ytlmeifacpedihaa
open Go.Sx
def tyL : List (Nat × TI) := [
  (2, ⟨.int .i64, 1, [.int .i64 (.lit 0)]⟩),
  (3, ⟨.int .i64, 1, [.int .i64 (.lit 0)]⟩),
  (4, ⟨.bool, 1, [.bool (.lit 0)]⟩),
  (5, ⟨.int .u8, 1, [.int .u8 (.lit 0)]⟩),
  (12, ⟨.int .u64, 1, [.int .u64 (.lit 0)]⟩),
  (15, ⟨.ptr 77, 1, [.raw (.pointer none)]⟩),
  (16, ⟨.ptr 80, 1, [.raw (.pointer none)]⟩),
  (21, ⟨.int .i32, 1, [.int .i32 (.lit 0)]⟩),
  (22, ⟨.int .i16, 1, [.int .i16 (.lit 0)]⟩),
  (23, ⟨.arr 3 22, 3, List.replicate 3 (.int .i16 (.lit 0))⟩),
  (25, ⟨.arr 3 22, 3, List.replicate 3 (.int .i16 (.lit 0))⟩),
  (28, ⟨.float .f32, 1, [.flt .f32 (.lit 0)]⟩),
  (29, ⟨.arr 6 28, 6, List.replicate 6 (.flt .f32 (.lit 0))⟩),
  (30, ⟨.struct [(0, 29), (6, 28), (7, 28)], 8, List.replicate 8 (.flt .f32 (.lit 0))⟩),
  (31, ⟨.struct [(0, 29), (6, 28), (7, 28)], 8, List.replicate 8 (.flt .f32 (.lit 0))⟩),
  (33, ⟨.arr 6 28, 6, List.replicate 6 (.flt .f32 (.lit 0))⟩),
  (34, ⟨.struct [(0, 33), (6, 28), (7, 28)], 8, List.replicate 8 (.flt .f32 (.lit 0))⟩),
  (35, ⟨.struct [(0, 33), (6, 28), (7, 28)], 8, List.replicate 8 (.flt .f32 (.lit 0))⟩),
  (38, ⟨.arr 6 29, 36, List.replicate 36 (.flt .f32 (.lit 0))⟩),
  (39, ⟨.struct [(0, 29), (6, 38)], 42, List.replicate 42 (.flt .f32 (.lit 0))⟩),
  (40, ⟨.struct [(0, 29), (6, 38)], 42, List.replicate 42 (.flt .f32 (.lit 0))⟩),
  (41, ⟨.arr 3 28, 3, List.replicate 3 (.flt .f32 (.lit 0))⟩),
  (42, ⟨.arr 3 28, 3, List.replicate 3 (.flt .f32 (.lit 0))⟩),
  (44, ⟨.arr 6 29, 36, List.replicate 36 (.flt .f32 (.lit 0))⟩),
  (45, ⟨.struct [(0, 33), (6, 44)], 42, List.replicate 42 (.flt .f32 (.lit 0))⟩),
  (46, ⟨.struct [(0, 33), (6, 44)], 42, List.replicate 42 (.flt .f32 (.lit 0))⟩),
  (50, ⟨.int .u32, 1, [.int .u32 (.lit 0)]⟩),
  (58, ⟨.slice 22, 1, [.raw (.slice none 0 0)]⟩),
  (60, ⟨.ptr 35, 1, [.raw (.pointer none)]⟩),
  (63, ⟨.slice 28, 1, [.raw (.slice none 0 0)]⟩),
  (66, ⟨.float .f64, 1, [.flt .f64 (.lit 0)]⟩),
  (68, ⟨.ptr 46, 1, [.raw (.pointer none)]⟩),
  (70, ⟨.int .u64, 1, [.int .u64 (.lit 0)]⟩),
  (85, ⟨.ptr 5, 1, [.raw (.pointer none)]⟩)]
noncomputable def fnL : List (Nat × Func) := [(3, Try.f3), (4, Try.f4), (5, Try.f5), (6, Try.f6), (7, Try.f7), (8, Try.f8), (9, Try.f9), (10, Try.f10), (11, Try.f11), (12, Try.f12), (13, Try.f13), (14, Try.f14), (15, Try.f15), (16, Try.f16), (17, Try.f17), (18, Try.f18), (19, Try.f19), (20, Try.f20), (21, Try.f21), (22, Try.f22), (23, Try.f23), (24, Try.f24), (25, Try.f25), (26, Try.f26), (27, Try.f27), (28, Try.f28), (29, Try.f29), (30, Try.f30), (31, Try.f31), (32, Try.f32), (33, Try.f33), (34, Try.f34), (35, Try.f35), (36, Try.f36), (38, Try.f38), (39, Try.f39), (40, Try.f40), (41, Try.f41), (57, Try.f57)]
theorem tyL_ok : tysCheck Try.prog tyL = true := by kernel_rfl
theorem fnL_ok : ∀ p ∈ fnL, Try.prog.funcs[p.1]? = some p.2 ∧ (p.2.name == ("runtime.NumGoroutine" : String)) = false := by
  unfold fnL
  simp only [List.forall_mem_cons]
  exact ⟨⟨Try.func3, by kernel_rfl⟩, ⟨Try.func4, by kernel_rfl⟩, ⟨Try.func5, by kernel_rfl⟩, ⟨Try.func6, by kernel_rfl⟩, ⟨Try.func7, by kernel_rfl⟩, ⟨Try.func8, by kernel_rfl⟩, ⟨Try.func9, by kernel_rfl⟩, ⟨Try.func10, by kernel_rfl⟩, ⟨Try.func11, by kernel_rfl⟩, ⟨Try.func12, by kernel_rfl⟩, ⟨Try.func13, by kernel_rfl⟩, ⟨Try.func14, by kernel_rfl⟩, ⟨Try.func15, by kernel_rfl⟩, ⟨Try.func16, by kernel_rfl⟩, ⟨Try.func17, by kernel_rfl⟩, ⟨Try.func18, by kernel_rfl⟩, ⟨Try.func19, by kernel_rfl⟩, ⟨Try.func20, by kernel_rfl⟩, ⟨Try.func21, by kernel_rfl⟩, ⟨Try.func22, by kernel_rfl⟩, ⟨Try.func23, by kernel_rfl⟩, ⟨Try.func24, by kernel_rfl⟩, ⟨Try.func25, by kernel_rfl⟩, ⟨Try.func26, by kernel_rfl⟩, ⟨Try.func27, by kernel_rfl⟩, ⟨Try.func28, by kernel_rfl⟩, ⟨Try.func29, by kernel_rfl⟩, ⟨Try.func30, by kernel_rfl⟩, ⟨Try.func31, by kernel_rfl⟩, ⟨Try.func32, by kernel_rfl⟩, ⟨Try.func33, by kernel_rfl⟩, ⟨Try.func34, by kernel_rfl⟩, ⟨Try.func35, by kernel_rfl⟩, ⟨Try.func36, by kernel_rfl⟩, ⟨Try.func38, by kernel_rfl⟩, ⟨Try.func39, by kernel_rfl⟩, ⟨Try.func40, by kernel_rfl⟩, ⟨Try.func41, by kernel_rfl⟩, ⟨Try.func57, by kernel_rfl⟩, by simp⟩
noncomputable def ctx (summ : Nat → Option Summ) : Ctx := ⟨Tr.ofList fuelT tyL, Tr.ofList fuelT fnL, summ⟩
theorem ctx_fits (summ : Nat → Option Summ) : (ctx summ).ok Try.prog := ctx_ok tyL_ok fnL_ok
theorem own : ownKnob Try.prog.godebug = none := by kernel_rfl
theorem laidOut : laidOutB Try.prog = true := by kernel_rfl
end Go.Proofs.Ytlmeifacpedihaa
