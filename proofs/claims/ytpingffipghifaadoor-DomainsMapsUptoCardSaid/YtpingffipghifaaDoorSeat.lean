/-
  Facts on the types and functions of this translation, one by one, by evaluation. Written by a program (wip/gen).
-/
import Derived.Test.YtpingffipghifaaDoorMox
import Derived.Test.YtpingffipghifaaDoorProg
import Derived.KernelRfl
import Derived.Test.YtpingffipghifaaDoorMdl
import Derived.Laws.StructEq
import Derived.Lib.LaidTab
import Derived.Lib.ItoaNum
set_option linter.unusedVariables false
set_option linter.unusedSimpArgs false
namespace Go.Proofs
open Go.Dk Go.Dm Go.RowKit

theorem var_same {P : Program} {w0 w : World} {n : String} {g : Nat} (hg : P.globalNamed n = some g) (h : w.heap[g]? = w0.heap[g]?) : w.var? P n = w0.var? P n := by
  unfold World.var?
  rw [hg]
  simp only [Option.bind_some, h]
/-- What is known of the package-level variables. -/
def Glob (w : World) : Prop := 6 ≤ w.heap.size ∧ (∃ m, w.cell? ⟨0, 0, none⟩ = some (.int .i64 m))
/-- Away from the package-level variables. -/
def Away (F : List Nat) : Prop := ∀ b ∈ F, 6 ≤ b
theorem away_nil : Away [] := fun b hb => by cases hb
theorem Glob.same {w0 w : World} (h : Glob w0) (hs : w0.heap.size ≤ w.heap.size) (hf : ∀ g, g < 6 → w.heap[g]? = w0.heap[g]?) : Glob w := by
  obtain ⟨h0, ⟨m, hm0⟩⟩ := h
  exact ⟨Nat.le_trans h0 hs, ⟨m, (World.cell?_of_block (w := w0) (a := ⟨0, 0, none⟩) (hf 0 (by omega))).trans hm0⟩⟩
theorem Glob.low {w0 w : World} {B : Nat} (h : Glob w0) (hB : 6 ≤ B) (hb : Below B w0 w) : Glob w :=
  h.same hb.size fun g hg => hb.block g (by omega)
theorem Glob.size {w : World} (h : Glob w) : 6 ≤ w.heap.size := h.1
theorem Glob.max {w : World} (h : Glob w) : (∃ m, w.cell? ⟨0, 0, none⟩ = some (.int .i64 m)) := h.2
theorem Glob.own {w0 w : World} {F : List Nat} {L : List Res} (h : Glob w0) (hF : Away F) (hO : Own w0 F w L) : Glob w :=
  h.same hO.size fun g hg => hO.frame g (by have := h.size; omega) (fun hm => absurd (hF g hm) (by omega))
/-- And of the table of tens. -/
def GlobT (w : World) : Prop := Glob w ∧ Go.Lib.TabIs Tryd.prog w "internal/strconv.uint64pow10" .u64 Go.Lib.pow10Tab
theorem GlobT.same {w0 w : World} (h : GlobT w0) (hs : w0.heap.size ≤ w.heap.size) (hf : ∀ g, g < 6 → w.heap[g]? = w0.heap[g]?) : GlobT w := by
  obtain ⟨h, hp⟩ := h
  exact ⟨h.same hs hf, by unfold Go.Lib.TabIs at hp ⊢; rw [← hp]; exact var_same (show Tryd.prog.globalNamed "internal/strconv.uint64pow10" = some 3 by kernel_rfl) (hf 3 (by omega))⟩
theorem GlobT.low {w0 w : World} {B : Nat} (h : GlobT w0) (hB : 6 ≤ B) (hb : Below B w0 w) : GlobT w :=
  h.same hb.size fun g hg => hb.block g (by omega)
theorem GlobT.size {w : World} (h : GlobT w) : 6 ≤ w.heap.size := h.1.size
theorem GlobT.own {w0 w : World} {F : List Nat} {L : List Res} (h : GlobT w0) (hF : Away F) (hO : Own w0 F w L) : GlobT w :=
  h.same hO.size fun g hg => hO.frame g (by have := h.size; omega) (fun hm => absurd (hF g hm) (by omega))
def enc_api_Attr (x : api_Attr) : List Value := [str x.Name, str x.Value, .bool x.Has]
def enc_api_Swap (x : api_Swap) : List Value := [str x.From, str x.To]
def enc_str (x : Str) : List Value := [str x]
theorem ag_22 : aggO Tryd.prog 22 = some false := by kernel_rfl
theorem ag_24 : aggO Tryd.prog 24 = some true := by kernel_rfl
theorem ag_3 : aggO Tryd.prog 3 = some false := by kernel_rfl
theorem ag_31 : aggO Tryd.prog 31 = some true := by kernel_rfl
theorem ag_4 : aggO Tryd.prog 4 = some false := by kernel_rfl
theorem ag_62 : aggO Tryd.prog 62 = some true := by kernel_rfl
theorem ag_9 : aggO Tryd.prog 9 = some false := by kernel_rfl
theorem al_24 : ∀ w, (Instr.alloc 24 true (.tuple #[])).run Tryd.prog w = .ok (ptr w.heap.size 0) (w.alloc (.cells [str [], str [], .slice none 0 0].toArray 24)) := fun w => by kernel_rfl
theorem al_31 : ∀ w, (Instr.alloc 31 true (.tuple #[])).run Tryd.prog w = .ok (ptr w.heap.size 0) (w.alloc (.cells [str [], str [], .bool false].toArray 31)) := fun w => by kernel_rfl
theorem al_62 : ∀ w, (Instr.alloc 62 true (.tuple #[])).run Tryd.prog w = .ok (ptr w.heap.size 0) (w.alloc (.cells [str [], str []].toArray 62)) := fun w => by kernel_rfl
theorem ei_22 : (Tryd.prog.info? 31).map (fun i => (i.zero, i.size, i.bytes)) = some (some (.agg #[str [], str [], .bool false]), 3, 40) := by kernel_rfl
theorem el_22 : Elem Tryd.prog 22 31 3 40 := ⟨Tryd.underlying22, by obtain ⟨i, h0, h1, h2, h3⟩ := info_parts ei_22; exact ⟨i, _, h0, h1, h2, h3, rfl⟩, by decide⟩
theorem ei_45 : (Tryd.prog.info? 62).map (fun i => (i.zero, i.size, i.bytes)) = some (some (.agg #[str [], str []]), 2, 32) := by kernel_rfl
theorem el_45 : Elem Tryd.prog 45 62 2 32 := ⟨Tryd.underlying45, by obtain ⟨i, h0, h1, h2, h3⟩ := info_parts ei_45; exact ⟨i, _, h0, h1, h2, h3, rfl⟩, by decide⟩
theorem ei_55 : (Tryd.prog.info? 9).map (fun i => (i.zero, i.size, i.bytes)) = some (some (str []), 1, 16) := by kernel_rfl
theorem el_55 : Elem Tryd.prog 55 9 1 16 := ⟨Tryd.underlying55, by obtain ⟨i, h0, h1, h2, h3⟩ := info_parts ei_55; exact ⟨i, _, h0, h1, h2, h3, rfl⟩, by decide⟩
theorem eqd_31 (d : Nat) (x y : api_Attr) (w : World) : (Op.equalIn (d + 2) 31 (.agg #[str x.Name, str x.Value, .bool x.Has]) (.agg #[str y.Name, str y.Value, .bool y.Has])).run Tryd.prog w = .ok (x == y) w := by
  obtain ⟨x0, x1, x2⟩ := x
  obtain ⟨y0, y1, y2⟩ := y
  show (Op.equalIn (d + 1 + 1) 31 _ _).run _ _ = _
  rw [run_equalIn_struct w (d + 1) 31 _ _ (by kernel_rfl) (by kernel_rfl)]
  have e : ((⟨x0, x1, x2⟩ : api_Attr) == ⟨y0, y1, y2⟩) = decide (x0 = y0 ∧ x1 = y1 ∧ x2 = y2) := by
    show decide (_ = _) = _
    exact decide_eq_decide.2 (by simp)
  rw [e]
  simp only [Program.fieldsOf, Tryd.underlying31, Op.eqFields]
  simp [part, Tryd.isAgg4, Tryd.underlying4, Tryd.isAgg9, Tryd.underlying9, run_equalIn_string, run_equalIn_bool', run_equalIn_int, str_toList, Result.andThen, byte_eq]
  by_cases h0 : x0 = y0 <;> by_cases h1 : x1 = y1 <;> by_cases h2 : x2 = y2 <;> simp [h0, h1, h2]
theorem eq_31 (x y : api_Attr) (w : World) : (Op.equalIn 10000 31 (.agg #[str x.Name, str x.Value, .bool x.Has]) (.agg #[str y.Name, str y.Value, .bool y.Has])).run Tryd.prog w = .ok (x == y) w := eqd_31 9998 x y w
theorem fa_24_0 : ∀ b o w, (Instr.fieldAt 24 (ptr b o) 0).run Tryd.prog w = .ok (ptr b (o + 0)) w := fun b o w => by kernel_rfl
theorem fa_24_1 : ∀ b o w, (Instr.fieldAt 24 (ptr b o) 1).run Tryd.prog w = .ok (ptr b (o + 1)) w := fun b o w => by kernel_rfl
theorem fa_24_2 : ∀ b o w, (Instr.fieldAt 24 (ptr b o) 2).run Tryd.prog w = .ok (ptr b (o + 2)) w := fun b o w => by kernel_rfl
theorem fa_31_0 : ∀ b o w, (Instr.fieldAt 31 (ptr b o) 0).run Tryd.prog w = .ok (ptr b (o + 0)) w := fun b o w => by kernel_rfl
theorem fa_31_1 : ∀ b o w, (Instr.fieldAt 31 (ptr b o) 1).run Tryd.prog w = .ok (ptr b (o + 1)) w := fun b o w => by kernel_rfl
theorem fa_31_2 : ∀ b o w, (Instr.fieldAt 31 (ptr b o) 2).run Tryd.prog w = .ok (ptr b (o + 2)) w := fun b o w => by kernel_rfl
theorem fa_62_0 : ∀ b o w, (Instr.fieldAt 62 (ptr b o) 0).run Tryd.prog w = .ok (ptr b (o + 0)) w := fun b o w => by kernel_rfl
theorem fa_62_1 : ∀ b o w, (Instr.fieldAt 62 (ptr b o) 1).run Tryd.prog w = .ok (ptr b (o + 1)) w := fun b o w => by kernel_rfl
theorem fa_79_0 : ∀ b o w, (Instr.fieldAt 79 (ptr b o) 0).run Tryd.prog w = .ok (ptr b (o + 0)) w := fun b o w => by kernel_rfl
theorem fa_79_1 : ∀ b o w, (Instr.fieldAt 79 (ptr b o) 1).run Tryd.prog w = .ok (ptr b (o + 1)) w := fun b o w => by kernel_rfl
theorem sz_22 : sizeO Tryd.prog 22 = some 1 := by kernel_rfl
theorem sz_24 : sizeO Tryd.prog 24 = some 3 := by kernel_rfl
theorem sz_3 : sizeO Tryd.prog 3 = some 1 := by kernel_rfl
theorem sz_31 : sizeO Tryd.prog 31 = some 3 := by kernel_rfl
theorem sz_4 : sizeO Tryd.prog 4 = some 1 := by kernel_rfl
theorem sz_62 : sizeO Tryd.prog 62 = some 2 := by kernel_rfl
theorem sz_9 : sizeO Tryd.prog 9 = some 1 := by kernel_rfl
theorem c_7 : Callable Tryd.prog 7 := ⟨Tryd.f7, Tryd.func7, rfl, by kernel_rfl⟩
theorem c_8 : Callable Tryd.prog 8 := ⟨Tryd.f8, Tryd.func8, rfl, by kernel_rfl⟩
theorem c_9 : Callable Tryd.prog 9 := ⟨Tryd.f9, Tryd.func9, rfl, by kernel_rfl⟩
theorem c_10 : Callable Tryd.prog 10 := ⟨Tryd.f10, Tryd.func10, rfl, by kernel_rfl⟩
theorem c_11 : Callable Tryd.prog 11 := ⟨Tryd.f11, Tryd.func11, rfl, by kernel_rfl⟩
theorem c_12 : Callable Tryd.prog 12 := ⟨Tryd.f12, Tryd.func12, rfl, by kernel_rfl⟩
theorem c_13 : Callable Tryd.prog 13 := ⟨Tryd.f13, Tryd.func13, rfl, by kernel_rfl⟩
theorem c_14 : Callable Tryd.prog 14 := ⟨Tryd.f14, Tryd.func14, rfl, by kernel_rfl⟩
theorem c_15 : Callable Tryd.prog 15 := ⟨Tryd.f15, Tryd.func15, rfl, by kernel_rfl⟩
theorem c_16 : Callable Tryd.prog 16 := ⟨Tryd.f16, Tryd.func16, rfl, by kernel_rfl⟩
theorem c_17 : Callable Tryd.prog 17 := ⟨Tryd.f17, Tryd.func17, rfl, by kernel_rfl⟩
theorem c_18 : Callable Tryd.prog 18 := ⟨Tryd.f18, Tryd.func18, rfl, by kernel_rfl⟩
theorem c_19 : Callable Tryd.prog 19 := ⟨Tryd.f19, Tryd.func19, rfl, by kernel_rfl⟩
theorem c_20 : Callable Tryd.prog 20 := ⟨Tryd.f20, Tryd.func20, rfl, by kernel_rfl⟩
theorem c_21 : Callable Tryd.prog 21 := ⟨Tryd.f21, Tryd.func21, rfl, by kernel_rfl⟩
theorem c_22 : Callable Tryd.prog 22 := ⟨Tryd.f22, Tryd.func22, rfl, by kernel_rfl⟩
theorem c_23 : Callable Tryd.prog 23 := ⟨Tryd.f23, Tryd.func23, rfl, by kernel_rfl⟩
theorem c_24 : Callable Tryd.prog 24 := ⟨Tryd.f24, Tryd.func24, rfl, by kernel_rfl⟩
theorem c_25 : Callable Tryd.prog 25 := ⟨Tryd.f25, Tryd.func25, rfl, by kernel_rfl⟩
theorem c_26 : Callable Tryd.prog 26 := ⟨Tryd.f26, Tryd.func26, rfl, by kernel_rfl⟩
theorem c_27 : Callable Tryd.prog 27 := ⟨Tryd.f27, Tryd.func27, rfl, by kernel_rfl⟩
theorem c_28 : Callable Tryd.prog 28 := ⟨Tryd.f28, Tryd.func28, rfl, by kernel_rfl⟩
theorem c_29 : Callable Tryd.prog 29 := ⟨Tryd.f29, Tryd.func29, rfl, by kernel_rfl⟩
theorem c_30 : Callable Tryd.prog 30 := ⟨Tryd.f30, Tryd.func30, rfl, by kernel_rfl⟩
theorem c_31 : Callable Tryd.prog 31 := ⟨Tryd.f31, Tryd.func31, rfl, by kernel_rfl⟩
theorem c_32 : Callable Tryd.prog 32 := ⟨Tryd.f32, Tryd.func32, rfl, by kernel_rfl⟩
theorem c_33 : Callable Tryd.prog 33 := ⟨Tryd.f33, Tryd.func33, rfl, by kernel_rfl⟩
theorem c_34 : Callable Tryd.prog 34 := ⟨Tryd.f34, Tryd.func34, rfl, by kernel_rfl⟩
theorem c_35 : Callable Tryd.prog 35 := ⟨Tryd.f35, Tryd.func35, rfl, by kernel_rfl⟩
theorem c_36 : Callable Tryd.prog 36 := ⟨Tryd.f36, Tryd.func36, rfl, by kernel_rfl⟩
theorem c_37 : Callable Tryd.prog 37 := ⟨Tryd.f37, Tryd.func37, rfl, by kernel_rfl⟩
theorem c_38 : Callable Tryd.prog 38 := ⟨Tryd.f38, Tryd.func38, rfl, by kernel_rfl⟩
theorem c_39 : Callable Tryd.prog 39 := ⟨Tryd.f39, Tryd.func39, rfl, by kernel_rfl⟩
theorem c_40 : Callable Tryd.prog 40 := ⟨Tryd.f40, Tryd.func40, rfl, by kernel_rfl⟩
theorem c_41 : Callable Tryd.prog 41 := ⟨Tryd.f41, Tryd.func41, rfl, by kernel_rfl⟩
theorem c_42 : Callable Tryd.prog 42 := ⟨Tryd.f42, Tryd.func42, rfl, by kernel_rfl⟩
theorem c_43 : Callable Tryd.prog 43 := ⟨Tryd.f43, Tryd.func43, rfl, by kernel_rfl⟩
theorem c_44 : Callable Tryd.prog 44 := ⟨Tryd.f44, Tryd.func44, rfl, by kernel_rfl⟩
theorem c_46 : Callable Tryd.prog 46 := ⟨Tryd.f46, Tryd.func46, rfl, by kernel_rfl⟩
theorem c_47 : Callable Tryd.prog 47 := ⟨Tryd.f47, Tryd.func47, rfl, by kernel_rfl⟩
theorem c_48 : Callable Tryd.prog 48 := ⟨Tryd.f48, Tryd.func48, rfl, by kernel_rfl⟩
theorem c_49 : Callable Tryd.prog 49 := ⟨Tryd.f49, Tryd.func49, rfl, by kernel_rfl⟩
theorem c_50 : Callable Tryd.prog 50 := ⟨Tryd.f50, Tryd.func50, rfl, by kernel_rfl⟩
theorem c_51 : Callable Tryd.prog 51 := ⟨Tryd.f51, Tryd.func51, rfl, by kernel_rfl⟩
theorem c_52 : Callable Tryd.prog 52 := ⟨Tryd.f52, Tryd.func52, rfl, by kernel_rfl⟩
theorem c_53 : Callable Tryd.prog 53 := ⟨Tryd.f53, Tryd.func53, rfl, by kernel_rfl⟩
theorem c_54 : Callable Tryd.prog 54 := ⟨Tryd.f54, Tryd.func54, rfl, by kernel_rfl⟩
theorem c_55 : Callable Tryd.prog 55 := ⟨Tryd.f55, Tryd.func55, rfl, by kernel_rfl⟩
theorem c_56 : Callable Tryd.prog 56 := ⟨Tryd.f56, Tryd.func56, rfl, by kernel_rfl⟩
theorem c_57 : Callable Tryd.prog 57 := ⟨Tryd.f57, Tryd.func57, rfl, by kernel_rfl⟩
theorem c_58 : Callable Tryd.prog 58 := ⟨Tryd.f58, Tryd.func58, rfl, by kernel_rfl⟩
theorem c_59 : Callable Tryd.prog 59 := ⟨Tryd.f59, Tryd.func59, rfl, by kernel_rfl⟩
theorem c_60 : Callable Tryd.prog 60 := ⟨Tryd.f60, Tryd.func60, rfl, by kernel_rfl⟩
theorem c_61 : Callable Tryd.prog 61 := ⟨Tryd.f61, Tryd.func61, rfl, by kernel_rfl⟩
theorem c_62 : Callable Tryd.prog 62 := ⟨Tryd.f62, Tryd.func62, rfl, by kernel_rfl⟩
theorem c_63 : Callable Tryd.prog 63 := ⟨Tryd.f63, Tryd.func63, rfl, by kernel_rfl⟩
theorem c_64 : Callable Tryd.prog 64 := ⟨Tryd.f64, Tryd.func64, rfl, by kernel_rfl⟩
theorem c_65 : Callable Tryd.prog 65 := ⟨Tryd.f65, Tryd.func65, rfl, by kernel_rfl⟩
theorem c_66 : Callable Tryd.prog 66 := ⟨Tryd.f66, Tryd.func66, rfl, by kernel_rfl⟩
theorem c_67 : Callable Tryd.prog 67 := ⟨Tryd.f67, Tryd.func67, rfl, by kernel_rfl⟩
theorem c_68 : Callable Tryd.prog 68 := ⟨Tryd.f68, Tryd.func68, rfl, by kernel_rfl⟩
theorem c_69 : Callable Tryd.prog 69 := ⟨Tryd.f69, Tryd.func69, rfl, by kernel_rfl⟩
theorem c_70 : Callable Tryd.prog 70 := ⟨Tryd.f70, Tryd.func70, rfl, by kernel_rfl⟩
theorem c_71 : Callable Tryd.prog 71 := ⟨Tryd.f71, Tryd.func71, rfl, by kernel_rfl⟩
theorem c_82 : Callable Tryd.prog 82 := ⟨Tryd.f82, Tryd.func82, rfl, by kernel_rfl⟩
theorem c_83 : Callable Tryd.prog 83 := ⟨Tryd.f83, Tryd.func83, rfl, by kernel_rfl⟩
theorem c_84 : Callable Tryd.prog 84 := ⟨Tryd.f84, Tryd.func84, rfl, by kernel_rfl⟩
theorem c_85 : Callable Tryd.prog 85 := ⟨Tryd.f85, Tryd.func85, rfl, by kernel_rfl⟩
theorem c_86 : Callable Tryd.prog 86 := ⟨Tryd.f86, Tryd.func86, rfl, by kernel_rfl⟩
theorem c_87 : Callable Tryd.prog 87 := ⟨Tryd.f87, Tryd.func87, rfl, by kernel_rfl⟩
theorem c_88 : Callable Tryd.prog 88 := ⟨Tryd.f88, Tryd.func88, rfl, by kernel_rfl⟩
theorem c_89 : Callable Tryd.prog 89 := ⟨Tryd.f89, Tryd.func89, rfl, by kernel_rfl⟩
theorem c_90 : Callable Tryd.prog 90 := ⟨Tryd.f90, Tryd.func90, rfl, by kernel_rfl⟩
theorem c_91 : Callable Tryd.prog 91 := ⟨Tryd.f91, Tryd.func91, rfl, by kernel_rfl⟩
theorem c_92 : Callable Tryd.prog 92 := ⟨Tryd.f92, Tryd.func92, rfl, by kernel_rfl⟩
theorem c_96 : Callable Tryd.prog 96 := ⟨Tryd.f96, Tryd.func96, rfl, by kernel_rfl⟩
theorem c_97 : Callable Tryd.prog 97 := ⟨Tryd.f97, Tryd.func97, rfl, by kernel_rfl⟩
theorem c_98 : Callable Tryd.prog 98 := ⟨Tryd.f98, Tryd.func98, rfl, by kernel_rfl⟩
theorem c_99 : Callable Tryd.prog 99 := ⟨Tryd.f99, Tryd.func99, rfl, by kernel_rfl⟩
theorem c_102 : Callable Tryd.prog 102 := ⟨Tryd.f102, Tryd.func102, rfl, by kernel_rfl⟩
theorem c_106 : Callable Tryd.prog 106 := ⟨Tryd.f106, Tryd.func106, rfl, by kernel_rfl⟩
theorem c_107 : Callable Tryd.prog 107 := ⟨Tryd.f107, Tryd.func107, rfl, by kernel_rfl⟩
theorem c_108 : Callable Tryd.prog 108 := ⟨Tryd.f108, Tryd.func108, rfl, by kernel_rfl⟩
theorem c_115 : Callable Tryd.prog 115 := ⟨Tryd.f115, Tryd.func115, rfl, by kernel_rfl⟩
theorem c_116 : Callable Tryd.prog 116 := ⟨Tryd.f116, Tryd.func116, rfl, by kernel_rfl⟩
theorem c_117 : Callable Tryd.prog 117 := ⟨Tryd.f117, Tryd.func117, rfl, by kernel_rfl⟩
theorem c_121 : Callable Tryd.prog 121 := ⟨Tryd.f121, Tryd.func121, rfl, by kernel_rfl⟩
theorem c_123 : Callable Tryd.prog 123 := ⟨Tryd.f123, Tryd.func123, rfl, by kernel_rfl⟩
theorem c_124 : Callable Tryd.prog 124 := ⟨Tryd.f124, Tryd.func124, rfl, by kernel_rfl⟩
theorem c_128 : Callable Tryd.prog 128 := ⟨Tryd.f128, Tryd.func128, rfl, by kernel_rfl⟩
theorem c_129 : Callable Tryd.prog 129 := ⟨Tryd.f129, Tryd.func129, rfl, by kernel_rfl⟩
theorem c_130 : Callable Tryd.prog 130 := ⟨Tryd.f130, Tryd.func130, rfl, by kernel_rfl⟩
theorem c_131 : Callable Tryd.prog 131 := ⟨Tryd.f131, Tryd.func131, rfl, by kernel_rfl⟩
theorem c_139 : Callable Tryd.prog 139 := ⟨Tryd.f139, Tryd.func139, rfl, by kernel_rfl⟩
theorem c_140 : Callable Tryd.prog 140 := ⟨Tryd.f140, Tryd.func140, rfl, by kernel_rfl⟩
theorem c_142 : Callable Tryd.prog 142 := ⟨Tryd.f142, Tryd.func142, rfl, by kernel_rfl⟩
theorem c_143 : Callable Tryd.prog 143 := ⟨Tryd.f143, Tryd.func143, rfl, by kernel_rfl⟩
end Go.Proofs
