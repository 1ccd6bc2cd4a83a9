/-
  Facts on the types and functions of this translation, one by one, by evaluation. Written by a program (wip/gen).
-/
import Derived.Test.YtnfkbhocbdheaaaGreatDoorMox
import Derived.Test.YtnfkbhocbdheaaaGreatDoorMdl
import Derived.Test.YtnfkbhocbdheaaaGreatDoorProg
import Derived.KernelRfl
import Derived.Laws.StructEq
import Derived.Lib.LaidTab
import Derived.Lib.ItoaNum
set_option linter.unusedVariables false
set_option linter.unusedSimpArgs false
namespace Go.Proofs
open Go.Dk Go.Dm Go.RowKit

theorem var_same {P : Program} {w0 w : World} {n : String} {g : Nat} (hg : P.globalNamed n = some g) (h : w.heap[g]? = w0.heap[g]?) : w.var? P n = w0.var? P n := by
  unfold World.var?
  rw [hg]
  simp only [Option.bind_some, h]
/-- What is known of the package-level variables. -/
def Glob (w : World) : Prop := 6 ≤ w.heap.size ∧ (∃ m, w.cell? ⟨0, 0, none⟩ = some (.int .i64 m))
/-- Away from the package-level variables. -/
def Away (F : List Nat) : Prop := ∀ b ∈ F, 6 ≤ b
theorem away_nil : Away [] := fun b hb => by cases hb
theorem Glob.same {w0 w : World} (h : Glob w0) (hs : w0.heap.size ≤ w.heap.size) (hf : ∀ g, g < 6 → w.heap[g]? = w0.heap[g]?) : Glob w := by
  obtain ⟨h0, ⟨m, hm0⟩⟩ := h
  exact ⟨Nat.le_trans h0 hs, ⟨m, (World.cell?_of_block (w := w0) (a := ⟨0, 0, none⟩) (hf 0 (by omega))).trans hm0⟩⟩
theorem Glob.low {w0 w : World} {B : Nat} (h : Glob w0) (hB : 6 ≤ B) (hb : Below B w0 w) : Glob w :=
  h.same hb.size fun g hg => hb.block g (by omega)
theorem Glob.size {w : World} (h : Glob w) : 6 ≤ w.heap.size := h.1
theorem Glob.max {w : World} (h : Glob w) : (∃ m, w.cell? ⟨0, 0, none⟩ = some (.int .i64 m)) := h.2
theorem Glob.own {w0 w : World} {F : List Nat} {L : List Res} (h : Glob w0) (hF : Away F) (hO : Own w0 F w L) : Glob w :=
  h.same hO.size fun g hg => hO.frame g (by have := h.size; omega) (fun hm => absurd (hF g hm) (by omega))
/-- And of the table of tens. -/
def GlobT (w : World) : Prop := Glob w ∧ Go.Lib.TabIs Tryz.prog w "internal/strconv.uint64pow10" .u64 Go.Lib.pow10Tab
theorem GlobT.same {w0 w : World} (h : GlobT w0) (hs : w0.heap.size ≤ w.heap.size) (hf : ∀ g, g < 6 → w.heap[g]? = w0.heap[g]?) : GlobT w := by
  obtain ⟨h, hp⟩ := h
  exact ⟨h.same hs hf, by unfold Go.Lib.TabIs at hp ⊢; rw [← hp]; exact var_same (show Tryz.prog.globalNamed "internal/strconv.uint64pow10" = some 1 by kernel_rfl) (hf 1 (by omega))⟩
theorem GlobT.low {w0 w : World} {B : Nat} (h : GlobT w0) (hB : 6 ≤ B) (hb : Below B w0 w) : GlobT w :=
  h.same hb.size fun g hg => hb.block g (by omega)
theorem GlobT.size {w : World} (h : GlobT w) : 6 ≤ w.heap.size := h.1.size
theorem GlobT.own {w0 w : World} {F : List Nat} {L : List Res} (h : GlobT w0) (hF : Away F) (hO : Own w0 F w L) : GlobT w :=
  h.same hO.size fun g hg => hO.frame g (by have := h.size; omega) (fun hm => absurd (hF g hm) (by omega))
def enc_str (x : Str) : List Value := [str x]
theorem ag_24 : aggO Tryz.prog 24 = some false := by kernel_rfl
theorem ag_25 : aggO Tryz.prog 25 = some false := by kernel_rfl
theorem ag_27 : aggO Tryz.prog 27 = some true := by kernel_rfl
theorem ag_29 : aggO Tryz.prog 29 = some true := by kernel_rfl
theorem ag_3 : aggO Tryz.prog 3 = some false := by kernel_rfl
theorem ag_4 : aggO Tryz.prog 4 = some false := by kernel_rfl
theorem ag_9 : aggO Tryz.prog 9 = some false := by kernel_rfl
theorem al_27 : ∀ w, (Instr.alloc 27 true (.tuple #[])).run Tryz.prog w = .ok (ptr w.heap.size 0) (w.alloc (.cells [int 0, str [], int 0].toArray 27)) := fun w => by kernel_rfl
theorem al_29 : ∀ w, (Instr.alloc 29 true (.tuple #[])).run Tryz.prog w = .ok (ptr w.heap.size 0) (w.alloc (.cells [int 0, str [], int 0, str [], int 0, str [], str [], .bool false].toArray 29)) := fun w => by kernel_rfl
theorem ei_54 : (Tryz.prog.info? 9).map (fun i => (i.zero, i.size, i.bytes)) = some (some (str []), 1, 16) := by kernel_rfl
theorem el_54 : Elem Tryz.prog 54 9 1 16 := ⟨Tryz.underlying54, by obtain ⟨i, h0, h1, h2, h3⟩ := info_parts ei_54; exact ⟨i, _, h0, h1, h2, h3, rfl⟩, by decide⟩
theorem eqd_27 (d : Nat) (x y : api_Host) (w : World) : (Op.equalIn (d + 2) 27 (.agg #[int x.Kind, str x.Name, int x.Port]) (.agg #[int y.Kind, str y.Name, int y.Port])).run Tryz.prog w = .ok (x == y) w := by
  obtain ⟨x0, x1, x2⟩ := x
  obtain ⟨y0, y1, y2⟩ := y
  show (Op.equalIn (d + 1 + 1) 27 _ _).run _ _ = _
  rw [run_equalIn_struct w (d + 1) 27 _ _ (by kernel_rfl) (by kernel_rfl)]
  have e : ((⟨x0, x1, x2⟩ : api_Host) == ⟨y0, y1, y2⟩) = decide (x0 = y0 ∧ x1 = y1 ∧ x2 = y2) := by
    show decide (_ = _) = _
    exact decide_eq_decide.2 (by simp)
  rw [e]
  simp only [Program.fieldsOf, Tryz.underlying27, Op.eqFields]
  simp [part, Tryz.isAgg3, Tryz.underlying3, Tryz.isAgg9, Tryz.underlying9, Tryz.isAgg25, Tryz.underlying25, run_equalIn_string, run_equalIn_bool', run_equalIn_int, str_toList, Result.andThen, byte_eq]
  by_cases h0 : x0 = y0 <;> by_cases h1 : x1 = y1 <;> by_cases h2 : x2 = y2 <;> simp [h0, h1, h2]
theorem eq_27 (x y : api_Host) (w : World) : (Op.equalIn 10000 27 (.agg #[int x.Kind, str x.Name, int x.Port]) (.agg #[int y.Kind, str y.Name, int y.Port])).run Tryz.prog w = .ok (x == y) w := eqd_27 9998 x y w
theorem eqd_29 (d : Nat) (x y : api_Target) (w : World) : (Op.equalIn (d + 3) 29 (.agg #[int x.Kind, str x.Scheme, int x.Host.Kind, str x.Host.Name, int x.Host.Port, str x.Path, str x.Query, .bool x.HasQuery]) (.agg #[int y.Kind, str y.Scheme, int y.Host.Kind, str y.Host.Name, int y.Host.Port, str y.Path, str y.Query, .bool y.HasQuery])).run Tryz.prog w = .ok (x == y) w := by
  have e27 : ∀ (x y : api_Host) (w : World), (Op.equalIn (d + 2) 27 (.agg #[int x.Kind, str x.Name, int x.Port]) (.agg #[int y.Kind, str y.Name, int y.Port])).run Tryz.prog w = .ok (x == y) w := fun x y w => eqd_27 (d + 0) x y w
  obtain ⟨x0, x1, x2, x3, x4, x5⟩ := x
  obtain ⟨y0, y1, y2, y3, y4, y5⟩ := y
  show (Op.equalIn (d + 2 + 1) 29 _ _).run _ _ = _
  rw [run_equalIn_struct w (d + 2) 29 _ _ (by kernel_rfl) (by kernel_rfl)]
  have e : ((⟨x0, x1, x2, x3, x4, x5⟩ : api_Target) == ⟨y0, y1, y2, y3, y4, y5⟩) = decide (x0 = y0 ∧ x1 = y1 ∧ x2 = y2 ∧ x3 = y3 ∧ x4 = y4 ∧ x5 = y5) := by
    show decide (_ = _) = _
    exact decide_eq_decide.2 (by simp)
  rw [e]
  simp only [Program.fieldsOf, Tryz.underlying29, Op.eqFields]
  simp [part, Tryz.isAgg4, Tryz.underlying4, Tryz.isAgg9, Tryz.underlying9, Tryz.isAgg24, Tryz.underlying24, Tryz.isAgg27, Tryz.underlying27, run_equalIn_string, run_equalIn_bool', run_equalIn_int, str_toList, Result.andThen, byte_eq, e27]
  by_cases h0 : x0 = y0 <;> by_cases h1 : x1 = y1 <;> by_cases h2 : x2 = y2 <;> by_cases h3 : x3 = y3 <;> by_cases h4 : x4 = y4 <;> by_cases h5 : x5 = y5 <;> simp [h0, h1, h2, h3, h4, h5]
theorem eq_29 (x y : api_Target) (w : World) : (Op.equalIn 10000 29 (.agg #[int x.Kind, str x.Scheme, int x.Host.Kind, str x.Host.Name, int x.Host.Port, str x.Path, str x.Query, .bool x.HasQuery]) (.agg #[int y.Kind, str y.Scheme, int y.Host.Kind, str y.Host.Name, int y.Host.Port, str y.Path, str y.Query, .bool y.HasQuery])).run Tryz.prog w = .ok (x == y) w := eqd_29 9997 x y w
theorem fa_27_0 : ∀ b o w, (Instr.fieldAt 27 (ptr b o) 0).run Tryz.prog w = .ok (ptr b (o + 0)) w := fun b o w => by kernel_rfl
theorem fa_27_1 : ∀ b o w, (Instr.fieldAt 27 (ptr b o) 1).run Tryz.prog w = .ok (ptr b (o + 1)) w := fun b o w => by kernel_rfl
theorem fa_27_2 : ∀ b o w, (Instr.fieldAt 27 (ptr b o) 2).run Tryz.prog w = .ok (ptr b (o + 2)) w := fun b o w => by kernel_rfl
theorem fa_29_0 : ∀ b o w, (Instr.fieldAt 29 (ptr b o) 0).run Tryz.prog w = .ok (ptr b (o + 0)) w := fun b o w => by kernel_rfl
theorem fa_29_1 : ∀ b o w, (Instr.fieldAt 29 (ptr b o) 1).run Tryz.prog w = .ok (ptr b (o + 1)) w := fun b o w => by kernel_rfl
theorem fa_29_2 : ∀ b o w, (Instr.fieldAt 29 (ptr b o) 2).run Tryz.prog w = .ok (ptr b (o + 2)) w := fun b o w => by kernel_rfl
theorem fa_29_3 : ∀ b o w, (Instr.fieldAt 29 (ptr b o) 3).run Tryz.prog w = .ok (ptr b (o + 5)) w := fun b o w => by kernel_rfl
theorem fa_29_4 : ∀ b o w, (Instr.fieldAt 29 (ptr b o) 4).run Tryz.prog w = .ok (ptr b (o + 6)) w := fun b o w => by kernel_rfl
theorem fa_29_5 : ∀ b o w, (Instr.fieldAt 29 (ptr b o) 5).run Tryz.prog w = .ok (ptr b (o + 7)) w := fun b o w => by kernel_rfl
theorem sz_25 : sizeO Tryz.prog 25 = some 1 := by kernel_rfl
theorem sz_27 : sizeO Tryz.prog 27 = some 3 := by kernel_rfl
theorem sz_29 : sizeO Tryz.prog 29 = some 8 := by kernel_rfl
theorem sz_3 : sizeO Tryz.prog 3 = some 1 := by kernel_rfl
theorem sz_4 : sizeO Tryz.prog 4 = some 1 := by kernel_rfl
theorem sz_9 : sizeO Tryz.prog 9 = some 1 := by kernel_rfl
theorem c_8 : Callable Tryz.prog 8 := ⟨Tryz.f8, Tryz.func8, rfl, by kernel_rfl⟩
theorem c_9 : Callable Tryz.prog 9 := ⟨Tryz.f9, Tryz.func9, rfl, by kernel_rfl⟩
theorem c_10 : Callable Tryz.prog 10 := ⟨Tryz.f10, Tryz.func10, rfl, by kernel_rfl⟩
theorem c_11 : Callable Tryz.prog 11 := ⟨Tryz.f11, Tryz.func11, rfl, by kernel_rfl⟩
theorem c_12 : Callable Tryz.prog 12 := ⟨Tryz.f12, Tryz.func12, rfl, by kernel_rfl⟩
theorem c_13 : Callable Tryz.prog 13 := ⟨Tryz.f13, Tryz.func13, rfl, by kernel_rfl⟩
theorem c_14 : Callable Tryz.prog 14 := ⟨Tryz.f14, Tryz.func14, rfl, by kernel_rfl⟩
theorem c_15 : Callable Tryz.prog 15 := ⟨Tryz.f15, Tryz.func15, rfl, by kernel_rfl⟩
theorem c_31 : Callable Tryz.prog 31 := ⟨Tryz.f31, Tryz.func31, rfl, by kernel_rfl⟩
theorem c_32 : Callable Tryz.prog 32 := ⟨Tryz.f32, Tryz.func32, rfl, by kernel_rfl⟩
theorem c_33 : Callable Tryz.prog 33 := ⟨Tryz.f33, Tryz.func33, rfl, by kernel_rfl⟩
theorem c_34 : Callable Tryz.prog 34 := ⟨Tryz.f34, Tryz.func34, rfl, by kernel_rfl⟩
theorem c_35 : Callable Tryz.prog 35 := ⟨Tryz.f35, Tryz.func35, rfl, by kernel_rfl⟩
theorem c_36 : Callable Tryz.prog 36 := ⟨Tryz.f36, Tryz.func36, rfl, by kernel_rfl⟩
theorem c_37 : Callable Tryz.prog 37 := ⟨Tryz.f37, Tryz.func37, rfl, by kernel_rfl⟩
theorem c_38 : Callable Tryz.prog 38 := ⟨Tryz.f38, Tryz.func38, rfl, by kernel_rfl⟩
theorem c_39 : Callable Tryz.prog 39 := ⟨Tryz.f39, Tryz.func39, rfl, by kernel_rfl⟩
theorem c_40 : Callable Tryz.prog 40 := ⟨Tryz.f40, Tryz.func40, rfl, by kernel_rfl⟩
theorem c_49 : Callable Tryz.prog 49 := ⟨Tryz.f49, Tryz.func49, rfl, by kernel_rfl⟩
theorem c_50 : Callable Tryz.prog 50 := ⟨Tryz.f50, Tryz.func50, rfl, by kernel_rfl⟩
theorem c_56 : Callable Tryz.prog 56 := ⟨Tryz.f56, Tryz.func56, rfl, by kernel_rfl⟩
theorem c_58 : Callable Tryz.prog 58 := ⟨Tryz.f58, Tryz.func58, rfl, by kernel_rfl⟩
theorem c_59 : Callable Tryz.prog 59 := ⟨Tryz.f59, Tryz.func59, rfl, by kernel_rfl⟩
theorem c_60 : Callable Tryz.prog 60 := ⟨Tryz.f60, Tryz.func60, rfl, by kernel_rfl⟩
theorem c_61 : Callable Tryz.prog 61 := ⟨Tryz.f61, Tryz.func61, rfl, by kernel_rfl⟩
theorem c_62 : Callable Tryz.prog 62 := ⟨Tryz.f62, Tryz.func62, rfl, by kernel_rfl⟩
theorem c_63 : Callable Tryz.prog 63 := ⟨Tryz.f63, Tryz.func63, rfl, by kernel_rfl⟩
theorem c_64 : Callable Tryz.prog 64 := ⟨Tryz.f64, Tryz.func64, rfl, by kernel_rfl⟩
theorem c_65 : Callable Tryz.prog 65 := ⟨Tryz.f65, Tryz.func65, rfl, by kernel_rfl⟩
theorem c_66 : Callable Tryz.prog 66 := ⟨Tryz.f66, Tryz.func66, rfl, by kernel_rfl⟩
theorem c_67 : Callable Tryz.prog 67 := ⟨Tryz.f67, Tryz.func67, rfl, by kernel_rfl⟩
theorem c_68 : Callable Tryz.prog 68 := ⟨Tryz.f68, Tryz.func68, rfl, by kernel_rfl⟩
theorem c_69 : Callable Tryz.prog 69 := ⟨Tryz.f69, Tryz.func69, rfl, by kernel_rfl⟩
theorem c_70 : Callable Tryz.prog 70 := ⟨Tryz.f70, Tryz.func70, rfl, by kernel_rfl⟩
theorem c_71 : Callable Tryz.prog 71 := ⟨Tryz.f71, Tryz.func71, rfl, by kernel_rfl⟩
theorem c_72 : Callable Tryz.prog 72 := ⟨Tryz.f72, Tryz.func72, rfl, by kernel_rfl⟩
theorem c_73 : Callable Tryz.prog 73 := ⟨Tryz.f73, Tryz.func73, rfl, by kernel_rfl⟩
theorem c_82 : Callable Tryz.prog 82 := ⟨Tryz.f82, Tryz.func82, rfl, by kernel_rfl⟩
theorem c_83 : Callable Tryz.prog 83 := ⟨Tryz.f83, Tryz.func83, rfl, by kernel_rfl⟩
theorem c_84 : Callable Tryz.prog 84 := ⟨Tryz.f84, Tryz.func84, rfl, by kernel_rfl⟩
theorem c_87 : Callable Tryz.prog 87 := ⟨Tryz.f87, Tryz.func87, rfl, by kernel_rfl⟩
theorem c_91 : Callable Tryz.prog 91 := ⟨Tryz.f91, Tryz.func91, rfl, by kernel_rfl⟩
theorem c_92 : Callable Tryz.prog 92 := ⟨Tryz.f92, Tryz.func92, rfl, by kernel_rfl⟩
theorem c_99 : Callable Tryz.prog 99 := ⟨Tryz.f99, Tryz.func99, rfl, by kernel_rfl⟩
theorem c_100 : Callable Tryz.prog 100 := ⟨Tryz.f100, Tryz.func100, rfl, by kernel_rfl⟩
theorem c_101 : Callable Tryz.prog 101 := ⟨Tryz.f101, Tryz.func101, rfl, by kernel_rfl⟩
theorem c_102 : Callable Tryz.prog 102 := ⟨Tryz.f102, Tryz.func102, rfl, by kernel_rfl⟩
theorem c_103 : Callable Tryz.prog 103 := ⟨Tryz.f103, Tryz.func103, rfl, by kernel_rfl⟩
theorem c_104 : Callable Tryz.prog 104 := ⟨Tryz.f104, Tryz.func104, rfl, by kernel_rfl⟩
theorem c_105 : Callable Tryz.prog 105 := ⟨Tryz.f105, Tryz.func105, rfl, by kernel_rfl⟩
theorem c_106 : Callable Tryz.prog 106 := ⟨Tryz.f106, Tryz.func106, rfl, by kernel_rfl⟩
theorem c_107 : Callable Tryz.prog 107 := ⟨Tryz.f107, Tryz.func107, rfl, by kernel_rfl⟩
theorem c_108 : Callable Tryz.prog 108 := ⟨Tryz.f108, Tryz.func108, rfl, by kernel_rfl⟩
theorem c_109 : Callable Tryz.prog 109 := ⟨Tryz.f109, Tryz.func109, rfl, by kernel_rfl⟩
theorem c_110 : Callable Tryz.prog 110 := ⟨Tryz.f110, Tryz.func110, rfl, by kernel_rfl⟩
theorem c_111 : Callable Tryz.prog 111 := ⟨Tryz.f111, Tryz.func111, rfl, by kernel_rfl⟩
theorem c_115 : Callable Tryz.prog 115 := ⟨Tryz.f115, Tryz.func115, rfl, by kernel_rfl⟩
theorem c_134 : Callable Tryz.prog 134 := ⟨Tryz.f134, Tryz.func134, rfl, by kernel_rfl⟩
theorem c_135 : Callable Tryz.prog 135 := ⟨Tryz.f135, Tryz.func135, rfl, by kernel_rfl⟩
theorem c_136 : Callable Tryz.prog 136 := ⟨Tryz.f136, Tryz.func136, rfl, by kernel_rfl⟩
theorem c_137 : Callable Tryz.prog 137 := ⟨Tryz.f137, Tryz.func137, rfl, by kernel_rfl⟩
theorem c_138 : Callable Tryz.prog 138 := ⟨Tryz.f138, Tryz.func138, rfl, by kernel_rfl⟩
theorem c_139 : Callable Tryz.prog 139 := ⟨Tryz.f139, Tryz.func139, rfl, by kernel_rfl⟩
theorem c_140 : Callable Tryz.prog 140 := ⟨Tryz.f140, Tryz.func140, rfl, by kernel_rfl⟩
theorem c_141 : Callable Tryz.prog 141 := ⟨Tryz.f141, Tryz.func141, rfl, by kernel_rfl⟩
theorem c_142 : Callable Tryz.prog 142 := ⟨Tryz.f142, Tryz.func142, rfl, by kernel_rfl⟩
theorem c_143 : Callable Tryz.prog 143 := ⟨Tryz.f143, Tryz.func143, rfl, by kernel_rfl⟩
theorem c_144 : Callable Tryz.prog 144 := ⟨Tryz.f144, Tryz.func144, rfl, by kernel_rfl⟩
theorem c_145 : Callable Tryz.prog 145 := ⟨Tryz.f145, Tryz.func145, rfl, by kernel_rfl⟩
theorem c_146 : Callable Tryz.prog 146 := ⟨Tryz.f146, Tryz.func146, rfl, by kernel_rfl⟩
theorem c_147 : Callable Tryz.prog 147 := ⟨Tryz.f147, Tryz.func147, rfl, by kernel_rfl⟩
theorem c_148 : Callable Tryz.prog 148 := ⟨Tryz.f148, Tryz.func148, rfl, by kernel_rfl⟩
theorem c_151 : Callable Tryz.prog 151 := ⟨Tryz.f151, Tryz.func151, rfl, by kernel_rfl⟩
theorem c_157 : Callable Tryz.prog 157 := ⟨Tryz.f157, Tryz.func157, rfl, by kernel_rfl⟩
theorem c_158 : Callable Tryz.prog 158 := ⟨Tryz.f158, Tryz.func158, rfl, by kernel_rfl⟩
theorem c_170 : Callable Tryz.prog 170 := ⟨Tryz.f170, Tryz.func170, rfl, by kernel_rfl⟩
theorem c_183 : Callable Tryz.prog 183 := ⟨Tryz.f183, Tryz.func183, rfl, by kernel_rfl⟩
end Go.Proofs
