/-
  Facts on the types and functions of this translation, one by one, by evaluation. Written by a program (wip/gen).
-/
import Derived.Test.YtpingffipghifaaGreatDoorMox
import Derived.Test.YtpingffipghifaaGreatDoorMdl
import Derived.Test.YtpingffipghifaaGreatDoorProg
import Derived.KernelRfl
import Derived.Laws.StructEq
import Derived.Lib.LaidTab
import Derived.Lib.ItoaNum
set_option linter.unusedVariables false
set_option linter.unusedSimpArgs false
namespace Go.Proofs
open Go.Dk Go.Dm Go.RowKit

theorem var_same {P : Program} {w0 w : World} {n : String} {g : Nat} (hg : P.globalNamed n = some g) (h : w.heap[g]? = w0.heap[g]?) : w.var? P n = w0.var? P n := by
  unfold World.var?
  rw [hg]
  simp only [Option.bind_some, h]
/-- What is known of the package-level variables. -/
def Glob (w : World) : Prop := 6 ≤ w.heap.size ∧ (∃ m, w.cell? ⟨0, 0, none⟩ = some (.int .i64 m))
/-- Away from the package-level variables. -/
def Away (F : List Nat) : Prop := ∀ b ∈ F, 6 ≤ b
theorem away_nil : Away [] := fun b hb => by cases hb
theorem Glob.same {w0 w : World} (h : Glob w0) (hs : w0.heap.size ≤ w.heap.size) (hf : ∀ g, g < 6 → w.heap[g]? = w0.heap[g]?) : Glob w := by
  obtain ⟨h0, ⟨m, hm0⟩⟩ := h
  exact ⟨Nat.le_trans h0 hs, ⟨m, (World.cell?_of_block (w := w0) (a := ⟨0, 0, none⟩) (hf 0 (by omega))).trans hm0⟩⟩
theorem Glob.low {w0 w : World} {B : Nat} (h : Glob w0) (hB : 6 ≤ B) (hb : Below B w0 w) : Glob w :=
  h.same hb.size fun g hg => hb.block g (by omega)
theorem Glob.size {w : World} (h : Glob w) : 6 ≤ w.heap.size := h.1
theorem Glob.max {w : World} (h : Glob w) : (∃ m, w.cell? ⟨0, 0, none⟩ = some (.int .i64 m)) := h.2
theorem Glob.own {w0 w : World} {F : List Nat} {L : List Res} (h : Glob w0) (hF : Away F) (hO : Own w0 F w L) : Glob w :=
  h.same hO.size fun g hg => hO.frame g (by have := h.size; omega) (fun hm => absurd (hF g hm) (by omega))
/-- And of the table of tens. -/
def GlobT (w : World) : Prop := Glob w ∧ Go.Lib.TabIs Tryz.prog w "internal/strconv.uint64pow10" .u64 Go.Lib.pow10Tab
theorem GlobT.same {w0 w : World} (h : GlobT w0) (hs : w0.heap.size ≤ w.heap.size) (hf : ∀ g, g < 6 → w.heap[g]? = w0.heap[g]?) : GlobT w := by
  obtain ⟨h, hp⟩ := h
  exact ⟨h.same hs hf, by unfold Go.Lib.TabIs at hp ⊢; rw [← hp]; exact var_same (show Tryz.prog.globalNamed "internal/strconv.uint64pow10" = some 3 by kernel_rfl) (hf 3 (by omega))⟩
theorem GlobT.low {w0 w : World} {B : Nat} (h : GlobT w0) (hB : 6 ≤ B) (hb : Below B w0 w) : GlobT w :=
  h.same hb.size fun g hg => hb.block g (by omega)
theorem GlobT.size {w : World} (h : GlobT w) : 6 ≤ w.heap.size := h.1.size
theorem GlobT.own {w0 w : World} {F : List Nat} {L : List Res} (h : GlobT w0) (hF : Away F) (hO : Own w0 F w L) : GlobT w :=
  h.same hO.size fun g hg => hO.frame g (by have := h.size; omega) (fun hm => absurd (hF g hm) (by omega))
def enc_api_Attr (x : api_Attr) : List Value := [str x.Name, str x.Value, .bool x.Has]
def enc_api_Swap (x : api_Swap) : List Value := [str x.From, str x.To]
def enc_str (x : Str) : List Value := [str x]
theorem ag_3 : aggO Tryz.prog 3 = some false := by kernel_rfl
theorem ag_31 : aggO Tryz.prog 31 = some false := by kernel_rfl
theorem ag_33 : aggO Tryz.prog 33 = some true := by kernel_rfl
theorem ag_4 : aggO Tryz.prog 4 = some false := by kernel_rfl
theorem ag_57 : aggO Tryz.prog 57 = some true := by kernel_rfl
theorem ag_66 : aggO Tryz.prog 66 = some true := by kernel_rfl
theorem ag_9 : aggO Tryz.prog 9 = some false := by kernel_rfl
theorem al_33 : ∀ w, (Instr.alloc 33 true (.tuple #[])).run Tryz.prog w = .ok (ptr w.heap.size 0) (w.alloc (.cells [str [], str [], .slice none 0 0].toArray 33)) := fun w => by kernel_rfl
theorem al_57 : ∀ w, (Instr.alloc 57 true (.tuple #[])).run Tryz.prog w = .ok (ptr w.heap.size 0) (w.alloc (.cells [str [], str []].toArray 57)) := fun w => by kernel_rfl
theorem al_66 : ∀ w, (Instr.alloc 66 true (.tuple #[])).run Tryz.prog w = .ok (ptr w.heap.size 0) (w.alloc (.cells [str [], str [], .bool false].toArray 66)) := fun w => by kernel_rfl
theorem ei_22 : (Tryz.prog.info? 57).map (fun i => (i.zero, i.size, i.bytes)) = some (some (.agg #[str [], str []]), 2, 32) := by kernel_rfl
theorem el_22 : Elem Tryz.prog 22 57 2 32 := ⟨Tryz.underlying22, by obtain ⟨i, h0, h1, h2, h3⟩ := info_parts ei_22; exact ⟨i, _, h0, h1, h2, h3, rfl⟩, by decide⟩
theorem ei_31 : (Tryz.prog.info? 66).map (fun i => (i.zero, i.size, i.bytes)) = some (some (.agg #[str [], str [], .bool false]), 3, 40) := by kernel_rfl
theorem el_31 : Elem Tryz.prog 31 66 3 40 := ⟨Tryz.underlying31, by obtain ⟨i, h0, h1, h2, h3⟩ := info_parts ei_31; exact ⟨i, _, h0, h1, h2, h3, rfl⟩, by decide⟩
theorem ei_70 : (Tryz.prog.info? 9).map (fun i => (i.zero, i.size, i.bytes)) = some (some (str []), 1, 16) := by kernel_rfl
theorem el_70 : Elem Tryz.prog 70 9 1 16 := ⟨Tryz.underlying70, by obtain ⟨i, h0, h1, h2, h3⟩ := info_parts ei_70; exact ⟨i, _, h0, h1, h2, h3, rfl⟩, by decide⟩
theorem eqd_66 (d : Nat) (x y : api_Attr) (w : World) : (Op.equalIn (d + 2) 66 (.agg #[str x.Name, str x.Value, .bool x.Has]) (.agg #[str y.Name, str y.Value, .bool y.Has])).run Tryz.prog w = .ok (x == y) w := by
  obtain ⟨x0, x1, x2⟩ := x
  obtain ⟨y0, y1, y2⟩ := y
  show (Op.equalIn (d + 1 + 1) 66 _ _).run _ _ = _
  rw [run_equalIn_struct w (d + 1) 66 _ _ (by kernel_rfl) (by kernel_rfl)]
  have e : ((⟨x0, x1, x2⟩ : api_Attr) == ⟨y0, y1, y2⟩) = decide (x0 = y0 ∧ x1 = y1 ∧ x2 = y2) := by
    show decide (_ = _) = _
    exact decide_eq_decide.2 (by simp)
  rw [e]
  simp only [Program.fieldsOf, Tryz.underlying66, Op.eqFields]
  simp [part, Tryz.isAgg4, Tryz.underlying4, Tryz.isAgg9, Tryz.underlying9, run_equalIn_string, run_equalIn_bool', run_equalIn_int, str_toList, Result.andThen, byte_eq]
  by_cases h0 : x0 = y0 <;> by_cases h1 : x1 = y1 <;> by_cases h2 : x2 = y2 <;> simp [h0, h1, h2]
theorem eq_66 (x y : api_Attr) (w : World) : (Op.equalIn 10000 66 (.agg #[str x.Name, str x.Value, .bool x.Has]) (.agg #[str y.Name, str y.Value, .bool y.Has])).run Tryz.prog w = .ok (x == y) w := eqd_66 9998 x y w
theorem fa_115_0 : ∀ b o w, (Instr.fieldAt 115 (ptr b o) 0).run Tryz.prog w = .ok (ptr b (o + 0)) w := fun b o w => by kernel_rfl
theorem fa_115_1 : ∀ b o w, (Instr.fieldAt 115 (ptr b o) 1).run Tryz.prog w = .ok (ptr b (o + 1)) w := fun b o w => by kernel_rfl
theorem fa_33_0 : ∀ b o w, (Instr.fieldAt 33 (ptr b o) 0).run Tryz.prog w = .ok (ptr b (o + 0)) w := fun b o w => by kernel_rfl
theorem fa_33_1 : ∀ b o w, (Instr.fieldAt 33 (ptr b o) 1).run Tryz.prog w = .ok (ptr b (o + 1)) w := fun b o w => by kernel_rfl
theorem fa_33_2 : ∀ b o w, (Instr.fieldAt 33 (ptr b o) 2).run Tryz.prog w = .ok (ptr b (o + 2)) w := fun b o w => by kernel_rfl
theorem fa_57_0 : ∀ b o w, (Instr.fieldAt 57 (ptr b o) 0).run Tryz.prog w = .ok (ptr b (o + 0)) w := fun b o w => by kernel_rfl
theorem fa_57_1 : ∀ b o w, (Instr.fieldAt 57 (ptr b o) 1).run Tryz.prog w = .ok (ptr b (o + 1)) w := fun b o w => by kernel_rfl
theorem fa_66_0 : ∀ b o w, (Instr.fieldAt 66 (ptr b o) 0).run Tryz.prog w = .ok (ptr b (o + 0)) w := fun b o w => by kernel_rfl
theorem fa_66_1 : ∀ b o w, (Instr.fieldAt 66 (ptr b o) 1).run Tryz.prog w = .ok (ptr b (o + 1)) w := fun b o w => by kernel_rfl
theorem fa_66_2 : ∀ b o w, (Instr.fieldAt 66 (ptr b o) 2).run Tryz.prog w = .ok (ptr b (o + 2)) w := fun b o w => by kernel_rfl
theorem sz_3 : sizeO Tryz.prog 3 = some 1 := by kernel_rfl
theorem sz_31 : sizeO Tryz.prog 31 = some 1 := by kernel_rfl
theorem sz_33 : sizeO Tryz.prog 33 = some 3 := by kernel_rfl
theorem sz_4 : sizeO Tryz.prog 4 = some 1 := by kernel_rfl
theorem sz_57 : sizeO Tryz.prog 57 = some 2 := by kernel_rfl
theorem sz_66 : sizeO Tryz.prog 66 = some 3 := by kernel_rfl
theorem sz_9 : sizeO Tryz.prog 9 = some 1 := by kernel_rfl
theorem c_7 : Callable Tryz.prog 7 := ⟨Tryz.f7, Tryz.func7, rfl, by kernel_rfl⟩
theorem c_8 : Callable Tryz.prog 8 := ⟨Tryz.f8, Tryz.func8, rfl, by kernel_rfl⟩
theorem c_9 : Callable Tryz.prog 9 := ⟨Tryz.f9, Tryz.func9, rfl, by kernel_rfl⟩
theorem c_11 : Callable Tryz.prog 11 := ⟨Tryz.f11, Tryz.func11, rfl, by kernel_rfl⟩
theorem c_12 : Callable Tryz.prog 12 := ⟨Tryz.f12, Tryz.func12, rfl, by kernel_rfl⟩
theorem c_13 : Callable Tryz.prog 13 := ⟨Tryz.f13, Tryz.func13, rfl, by kernel_rfl⟩
theorem c_14 : Callable Tryz.prog 14 := ⟨Tryz.f14, Tryz.func14, rfl, by kernel_rfl⟩
theorem c_15 : Callable Tryz.prog 15 := ⟨Tryz.f15, Tryz.func15, rfl, by kernel_rfl⟩
theorem c_16 : Callable Tryz.prog 16 := ⟨Tryz.f16, Tryz.func16, rfl, by kernel_rfl⟩
theorem c_17 : Callable Tryz.prog 17 := ⟨Tryz.f17, Tryz.func17, rfl, by kernel_rfl⟩
theorem c_25 : Callable Tryz.prog 25 := ⟨Tryz.f25, Tryz.func25, rfl, by kernel_rfl⟩
theorem c_26 : Callable Tryz.prog 26 := ⟨Tryz.f26, Tryz.func26, rfl, by kernel_rfl⟩
theorem c_28 : Callable Tryz.prog 28 := ⟨Tryz.f28, Tryz.func28, rfl, by kernel_rfl⟩
theorem c_32 : Callable Tryz.prog 32 := ⟨Tryz.f32, Tryz.func32, rfl, by kernel_rfl⟩
theorem c_33 : Callable Tryz.prog 33 := ⟨Tryz.f33, Tryz.func33, rfl, by kernel_rfl⟩
theorem c_34 : Callable Tryz.prog 34 := ⟨Tryz.f34, Tryz.func34, rfl, by kernel_rfl⟩
theorem c_35 : Callable Tryz.prog 35 := ⟨Tryz.f35, Tryz.func35, rfl, by kernel_rfl⟩
theorem c_36 : Callable Tryz.prog 36 := ⟨Tryz.f36, Tryz.func36, rfl, by kernel_rfl⟩
theorem c_37 : Callable Tryz.prog 37 := ⟨Tryz.f37, Tryz.func37, rfl, by kernel_rfl⟩
theorem c_38 : Callable Tryz.prog 38 := ⟨Tryz.f38, Tryz.func38, rfl, by kernel_rfl⟩
theorem c_39 : Callable Tryz.prog 39 := ⟨Tryz.f39, Tryz.func39, rfl, by kernel_rfl⟩
theorem c_40 : Callable Tryz.prog 40 := ⟨Tryz.f40, Tryz.func40, rfl, by kernel_rfl⟩
theorem c_41 : Callable Tryz.prog 41 := ⟨Tryz.f41, Tryz.func41, rfl, by kernel_rfl⟩
theorem c_42 : Callable Tryz.prog 42 := ⟨Tryz.f42, Tryz.func42, rfl, by kernel_rfl⟩
theorem c_46 : Callable Tryz.prog 46 := ⟨Tryz.f46, Tryz.func46, rfl, by kernel_rfl⟩
theorem c_49 : Callable Tryz.prog 49 := ⟨Tryz.f49, Tryz.func49, rfl, by kernel_rfl⟩
theorem c_50 : Callable Tryz.prog 50 := ⟨Tryz.f50, Tryz.func50, rfl, by kernel_rfl⟩
theorem c_51 : Callable Tryz.prog 51 := ⟨Tryz.f51, Tryz.func51, rfl, by kernel_rfl⟩
theorem c_52 : Callable Tryz.prog 52 := ⟨Tryz.f52, Tryz.func52, rfl, by kernel_rfl⟩
theorem c_55 : Callable Tryz.prog 55 := ⟨Tryz.f55, Tryz.func55, rfl, by kernel_rfl⟩
theorem c_57 : Callable Tryz.prog 57 := ⟨Tryz.f57, Tryz.func57, rfl, by kernel_rfl⟩
theorem c_58 : Callable Tryz.prog 58 := ⟨Tryz.f58, Tryz.func58, rfl, by kernel_rfl⟩
theorem c_59 : Callable Tryz.prog 59 := ⟨Tryz.f59, Tryz.func59, rfl, by kernel_rfl⟩
theorem c_60 : Callable Tryz.prog 60 := ⟨Tryz.f60, Tryz.func60, rfl, by kernel_rfl⟩
theorem c_61 : Callable Tryz.prog 61 := ⟨Tryz.f61, Tryz.func61, rfl, by kernel_rfl⟩
theorem c_62 : Callable Tryz.prog 62 := ⟨Tryz.f62, Tryz.func62, rfl, by kernel_rfl⟩
theorem c_63 : Callable Tryz.prog 63 := ⟨Tryz.f63, Tryz.func63, rfl, by kernel_rfl⟩
theorem c_65 : Callable Tryz.prog 65 := ⟨Tryz.f65, Tryz.func65, rfl, by kernel_rfl⟩
theorem c_66 : Callable Tryz.prog 66 := ⟨Tryz.f66, Tryz.func66, rfl, by kernel_rfl⟩
theorem c_67 : Callable Tryz.prog 67 := ⟨Tryz.f67, Tryz.func67, rfl, by kernel_rfl⟩
theorem c_68 : Callable Tryz.prog 68 := ⟨Tryz.f68, Tryz.func68, rfl, by kernel_rfl⟩
theorem c_69 : Callable Tryz.prog 69 := ⟨Tryz.f69, Tryz.func69, rfl, by kernel_rfl⟩
theorem c_70 : Callable Tryz.prog 70 := ⟨Tryz.f70, Tryz.func70, rfl, by kernel_rfl⟩
theorem c_71 : Callable Tryz.prog 71 := ⟨Tryz.f71, Tryz.func71, rfl, by kernel_rfl⟩
theorem c_72 : Callable Tryz.prog 72 := ⟨Tryz.f72, Tryz.func72, rfl, by kernel_rfl⟩
theorem c_73 : Callable Tryz.prog 73 := ⟨Tryz.f73, Tryz.func73, rfl, by kernel_rfl⟩
theorem c_74 : Callable Tryz.prog 74 := ⟨Tryz.f74, Tryz.func74, rfl, by kernel_rfl⟩
theorem c_75 : Callable Tryz.prog 75 := ⟨Tryz.f75, Tryz.func75, rfl, by kernel_rfl⟩
theorem c_76 : Callable Tryz.prog 76 := ⟨Tryz.f76, Tryz.func76, rfl, by kernel_rfl⟩
theorem c_77 : Callable Tryz.prog 77 := ⟨Tryz.f77, Tryz.func77, rfl, by kernel_rfl⟩
theorem c_78 : Callable Tryz.prog 78 := ⟨Tryz.f78, Tryz.func78, rfl, by kernel_rfl⟩
theorem c_81 : Callable Tryz.prog 81 := ⟨Tryz.f81, Tryz.func81, rfl, by kernel_rfl⟩
theorem c_84 : Callable Tryz.prog 84 := ⟨Tryz.f84, Tryz.func84, rfl, by kernel_rfl⟩
theorem c_85 : Callable Tryz.prog 85 := ⟨Tryz.f85, Tryz.func85, rfl, by kernel_rfl⟩
theorem c_89 : Callable Tryz.prog 89 := ⟨Tryz.f89, Tryz.func89, rfl, by kernel_rfl⟩
theorem c_90 : Callable Tryz.prog 90 := ⟨Tryz.f90, Tryz.func90, rfl, by kernel_rfl⟩
theorem c_91 : Callable Tryz.prog 91 := ⟨Tryz.f91, Tryz.func91, rfl, by kernel_rfl⟩
theorem c_98 : Callable Tryz.prog 98 := ⟨Tryz.f98, Tryz.func98, rfl, by kernel_rfl⟩
theorem c_99 : Callable Tryz.prog 99 := ⟨Tryz.f99, Tryz.func99, rfl, by kernel_rfl⟩
theorem c_100 : Callable Tryz.prog 100 := ⟨Tryz.f100, Tryz.func100, rfl, by kernel_rfl⟩
theorem c_110 : Callable Tryz.prog 110 := ⟨Tryz.f110, Tryz.func110, rfl, by kernel_rfl⟩
theorem c_111 : Callable Tryz.prog 111 := ⟨Tryz.f111, Tryz.func111, rfl, by kernel_rfl⟩
theorem c_112 : Callable Tryz.prog 112 := ⟨Tryz.f112, Tryz.func112, rfl, by kernel_rfl⟩
theorem c_113 : Callable Tryz.prog 113 := ⟨Tryz.f113, Tryz.func113, rfl, by kernel_rfl⟩
theorem c_114 : Callable Tryz.prog 114 := ⟨Tryz.f114, Tryz.func114, rfl, by kernel_rfl⟩
theorem c_115 : Callable Tryz.prog 115 := ⟨Tryz.f115, Tryz.func115, rfl, by kernel_rfl⟩
theorem c_116 : Callable Tryz.prog 116 := ⟨Tryz.f116, Tryz.func116, rfl, by kernel_rfl⟩
theorem c_117 : Callable Tryz.prog 117 := ⟨Tryz.f117, Tryz.func117, rfl, by kernel_rfl⟩
theorem c_118 : Callable Tryz.prog 118 := ⟨Tryz.f118, Tryz.func118, rfl, by kernel_rfl⟩
theorem c_119 : Callable Tryz.prog 119 := ⟨Tryz.f119, Tryz.func119, rfl, by kernel_rfl⟩
theorem c_120 : Callable Tryz.prog 120 := ⟨Tryz.f120, Tryz.func120, rfl, by kernel_rfl⟩
theorem c_130 : Callable Tryz.prog 130 := ⟨Tryz.f130, Tryz.func130, rfl, by kernel_rfl⟩
theorem c_131 : Callable Tryz.prog 131 := ⟨Tryz.f131, Tryz.func131, rfl, by kernel_rfl⟩
theorem c_132 : Callable Tryz.prog 132 := ⟨Tryz.f132, Tryz.func132, rfl, by kernel_rfl⟩
theorem c_133 : Callable Tryz.prog 133 := ⟨Tryz.f133, Tryz.func133, rfl, by kernel_rfl⟩
theorem c_135 : Callable Tryz.prog 135 := ⟨Tryz.f135, Tryz.func135, rfl, by kernel_rfl⟩
theorem c_136 : Callable Tryz.prog 136 := ⟨Tryz.f136, Tryz.func136, rfl, by kernel_rfl⟩
theorem c_140 : Callable Tryz.prog 140 := ⟨Tryz.f140, Tryz.func140, rfl, by kernel_rfl⟩
theorem c_141 : Callable Tryz.prog 141 := ⟨Tryz.f141, Tryz.func141, rfl, by kernel_rfl⟩
theorem c_142 : Callable Tryz.prog 142 := ⟨Tryz.f142, Tryz.func142, rfl, by kernel_rfl⟩
theorem c_143 : Callable Tryz.prog 143 := ⟨Tryz.f143, Tryz.func143, rfl, by kernel_rfl⟩
theorem c_159 : Callable Tryz.prog 159 := ⟨Tryz.f159, Tryz.func159, rfl, by kernel_rfl⟩
theorem c_160 : Callable Tryz.prog 160 := ⟨Tryz.f160, Tryz.func160, rfl, by kernel_rfl⟩
theorem c_173 : Callable Tryz.prog 173 := ⟨Tryz.f173, Tryz.func173, rfl, by kernel_rfl⟩
theorem c_174 : Callable Tryz.prog 174 := ⟨Tryz.f174, Tryz.func174, rfl, by kernel_rfl⟩
end Go.Proofs
