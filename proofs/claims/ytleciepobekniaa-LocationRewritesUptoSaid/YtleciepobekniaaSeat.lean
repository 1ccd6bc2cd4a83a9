/-
  Facts on the types and functions of this translation, one by one, by evaluation. Written by a program (wip/gen).
-/
import Derived.Test.YtleciepobekniaaDraw
import Derived.Test.YtleciepobekniaaProg
import Derived.KernelRfl
import Derived.Test.YtleciepobekniaaMdl
set_option linter.unusedVariables false
namespace Go.Proofs
open Go.Dk Go.Dm Go.RowKit

/-- What is known of the package-level variables. -/
def Glob (w : World) : Prop := (∃ m, w.cell? ⟨0, 0, none⟩ = some (.int .i64 m))
theorem Glob.own {w0 w : World} {L : List Res} (h : Glob w0) (hO : Own w0 [] w L) : Glob w := by
  obtain ⟨m, hm⟩ := h
  exact ⟨m, (hO.below.cell (p := ⟨0, 0, none⟩) (World.block_lt_of_cell? w0 ⟨0, 0, none⟩ hm)).trans hm⟩
def enc_api_Swap (x : api_Swap) : List Value := [str x.From, str x.To]
def enc_str (x : Str) : List Value := [str x]
theorem ag_27 : aggO Try.prog 27 = some true := by kernel_rfl
theorem ag_36 : aggO Try.prog 36 = some true := by kernel_rfl
theorem ag_4 : aggO Try.prog 4 = some false := by kernel_rfl
theorem ag_9 : aggO Try.prog 9 = some false := by kernel_rfl
theorem al_27 : ∀ w, (Instr.alloc 27 true (.tuple #[])).run Try.prog w = .ok (ptr w.heap.size 0) (w.alloc (.cells [str [], str [], str [], str [], str [], .bool false, .bool false, .bool false].toArray 27)) := fun w => by kernel_rfl
theorem al_36 : ∀ w, (Instr.alloc 36 true (.tuple #[])).run Try.prog w = .ok (ptr w.heap.size 0) (w.alloc (.cells [str [], str []].toArray 36)) := fun w => by kernel_rfl
theorem ei_22 : (Try.prog.info? 36).map (fun i => (i.zero, i.size, i.bytes)) = some (some (.agg #[str [], str []]), 2, 32) := by kernel_rfl
theorem el_22 : Elem Try.prog 22 36 2 32 := ⟨Try.underlying22, by obtain ⟨i, h0, h1, h2, h3⟩ := info_parts ei_22; exact ⟨i, _, h0, h1, h2, h3, rfl⟩, by decide⟩
theorem fa_27_0 : ∀ b o w, (Instr.fieldAt 27 (ptr b o) 0).run Try.prog w = .ok (ptr b (o + 0)) w := fun b o w => by kernel_rfl
theorem fa_27_1 : ∀ b o w, (Instr.fieldAt 27 (ptr b o) 1).run Try.prog w = .ok (ptr b (o + 1)) w := fun b o w => by kernel_rfl
theorem fa_27_2 : ∀ b o w, (Instr.fieldAt 27 (ptr b o) 2).run Try.prog w = .ok (ptr b (o + 2)) w := fun b o w => by kernel_rfl
theorem fa_27_3 : ∀ b o w, (Instr.fieldAt 27 (ptr b o) 3).run Try.prog w = .ok (ptr b (o + 3)) w := fun b o w => by kernel_rfl
theorem fa_27_4 : ∀ b o w, (Instr.fieldAt 27 (ptr b o) 4).run Try.prog w = .ok (ptr b (o + 4)) w := fun b o w => by kernel_rfl
theorem fa_27_5 : ∀ b o w, (Instr.fieldAt 27 (ptr b o) 5).run Try.prog w = .ok (ptr b (o + 5)) w := fun b o w => by kernel_rfl
theorem fa_27_6 : ∀ b o w, (Instr.fieldAt 27 (ptr b o) 6).run Try.prog w = .ok (ptr b (o + 6)) w := fun b o w => by kernel_rfl
theorem fa_27_7 : ∀ b o w, (Instr.fieldAt 27 (ptr b o) 7).run Try.prog w = .ok (ptr b (o + 7)) w := fun b o w => by kernel_rfl
theorem fa_36_0 : ∀ b o w, (Instr.fieldAt 36 (ptr b o) 0).run Try.prog w = .ok (ptr b (o + 0)) w := fun b o w => by kernel_rfl
theorem fa_36_1 : ∀ b o w, (Instr.fieldAt 36 (ptr b o) 1).run Try.prog w = .ok (ptr b (o + 1)) w := fun b o w => by kernel_rfl
theorem sz_27 : sizeO Try.prog 27 = some 8 := by kernel_rfl
theorem sz_36 : sizeO Try.prog 36 = some 2 := by kernel_rfl
theorem sz_4 : sizeO Try.prog 4 = some 1 := by kernel_rfl
theorem sz_9 : sizeO Try.prog 9 = some 1 := by kernel_rfl
theorem c_4 : Callable Try.prog 4 := ⟨Try.f4, Try.func4, rfl, by kernel_rfl⟩
theorem c_5 : Callable Try.prog 5 := ⟨Try.f5, Try.func5, rfl, by kernel_rfl⟩
theorem c_6 : Callable Try.prog 6 := ⟨Try.f6, Try.func6, rfl, by kernel_rfl⟩
theorem c_7 : Callable Try.prog 7 := ⟨Try.f7, Try.func7, rfl, by kernel_rfl⟩
theorem c_8 : Callable Try.prog 8 := ⟨Try.f8, Try.func8, rfl, by kernel_rfl⟩
theorem c_9 : Callable Try.prog 9 := ⟨Try.f9, Try.func9, rfl, by kernel_rfl⟩
theorem c_10 : Callable Try.prog 10 := ⟨Try.f10, Try.func10, rfl, by kernel_rfl⟩
theorem c_11 : Callable Try.prog 11 := ⟨Try.f11, Try.func11, rfl, by kernel_rfl⟩
theorem c_12 : Callable Try.prog 12 := ⟨Try.f12, Try.func12, rfl, by kernel_rfl⟩
theorem c_13 : Callable Try.prog 13 := ⟨Try.f13, Try.func13, rfl, by kernel_rfl⟩
theorem c_14 : Callable Try.prog 14 := ⟨Try.f14, Try.func14, rfl, by kernel_rfl⟩
theorem c_15 : Callable Try.prog 15 := ⟨Try.f15, Try.func15, rfl, by kernel_rfl⟩
theorem c_16 : Callable Try.prog 16 := ⟨Try.f16, Try.func16, rfl, by kernel_rfl⟩
theorem c_17 : Callable Try.prog 17 := ⟨Try.f17, Try.func17, rfl, by kernel_rfl⟩
theorem c_18 : Callable Try.prog 18 := ⟨Try.f18, Try.func18, rfl, by kernel_rfl⟩
theorem c_19 : Callable Try.prog 19 := ⟨Try.f19, Try.func19, rfl, by kernel_rfl⟩
theorem c_20 : Callable Try.prog 20 := ⟨Try.f20, Try.func20, rfl, by kernel_rfl⟩
theorem c_21 : Callable Try.prog 21 := ⟨Try.f21, Try.func21, rfl, by kernel_rfl⟩
theorem c_22 : Callable Try.prog 22 := ⟨Try.f22, Try.func22, rfl, by kernel_rfl⟩
theorem c_23 : Callable Try.prog 23 := ⟨Try.f23, Try.func23, rfl, by kernel_rfl⟩
theorem c_24 : Callable Try.prog 24 := ⟨Try.f24, Try.func24, rfl, by kernel_rfl⟩
theorem c_25 : Callable Try.prog 25 := ⟨Try.f25, Try.func25, rfl, by kernel_rfl⟩
theorem c_26 : Callable Try.prog 26 := ⟨Try.f26, Try.func26, rfl, by kernel_rfl⟩
theorem c_28 : Callable Try.prog 28 := ⟨Try.f28, Try.func28, rfl, by kernel_rfl⟩
theorem c_29 : Callable Try.prog 29 := ⟨Try.f29, Try.func29, rfl, by kernel_rfl⟩
theorem c_30 : Callable Try.prog 30 := ⟨Try.f30, Try.func30, rfl, by kernel_rfl⟩
theorem c_31 : Callable Try.prog 31 := ⟨Try.f31, Try.func31, rfl, by kernel_rfl⟩
theorem c_32 : Callable Try.prog 32 := ⟨Try.f32, Try.func32, rfl, by kernel_rfl⟩
theorem c_34 : Callable Try.prog 34 := ⟨Try.f34, Try.func34, rfl, by kernel_rfl⟩
theorem c_35 : Callable Try.prog 35 := ⟨Try.f35, Try.func35, rfl, by kernel_rfl⟩
theorem c_36 : Callable Try.prog 36 := ⟨Try.f36, Try.func36, rfl, by kernel_rfl⟩
theorem c_37 : Callable Try.prog 37 := ⟨Try.f37, Try.func37, rfl, by kernel_rfl⟩
theorem c_38 : Callable Try.prog 38 := ⟨Try.f38, Try.func38, rfl, by kernel_rfl⟩
theorem c_39 : Callable Try.prog 39 := ⟨Try.f39, Try.func39, rfl, by kernel_rfl⟩
theorem c_40 : Callable Try.prog 40 := ⟨Try.f40, Try.func40, rfl, by kernel_rfl⟩
theorem c_41 : Callable Try.prog 41 := ⟨Try.f41, Try.func41, rfl, by kernel_rfl⟩
theorem c_42 : Callable Try.prog 42 := ⟨Try.f42, Try.func42, rfl, by kernel_rfl⟩
theorem c_43 : Callable Try.prog 43 := ⟨Try.f43, Try.func43, rfl, by kernel_rfl⟩
theorem c_44 : Callable Try.prog 44 := ⟨Try.f44, Try.func44, rfl, by kernel_rfl⟩
theorem c_45 : Callable Try.prog 45 := ⟨Try.f45, Try.func45, rfl, by kernel_rfl⟩
theorem c_46 : Callable Try.prog 46 := ⟨Try.f46, Try.func46, rfl, by kernel_rfl⟩
theorem c_47 : Callable Try.prog 47 := ⟨Try.f47, Try.func47, rfl, by kernel_rfl⟩
theorem c_49 : Callable Try.prog 49 := ⟨Try.f49, Try.func49, rfl, by kernel_rfl⟩
theorem c_54 : Callable Try.prog 54 := ⟨Try.f54, Try.func54, rfl, by kernel_rfl⟩
theorem c_55 : Callable Try.prog 55 := ⟨Try.f55, Try.func55, rfl, by kernel_rfl⟩
theorem c_56 : Callable Try.prog 56 := ⟨Try.f56, Try.func56, rfl, by kernel_rfl⟩
end Go.Proofs
