/-
  Facts on the types and functions of this translation, one by one, by evaluation. Written by a program (wip/gen).
-/
import Derived.Test.YtmgenophjplloaaDoorMox
import Derived.Test.YtmgenophjplloaaDoorMdl
import Derived.Test.YtmgenophjplloaaDoorProg
import Derived.KernelRfl
import Derived.Laws.StructEq
import Derived.Lib.LaidTab
import Derived.Lib.ItoaNum
set_option linter.unusedVariables false
set_option linter.unusedSimpArgs false
namespace Go.Proofs
open Go.Dk Go.Dm Go.RowKit

theorem var_same {P : Program} {w0 w : World} {n : String} {g : Nat} (hg : P.globalNamed n = some g) (h : w.heap[g]? = w0.heap[g]?) : w.var? P n = w0.var? P n := by
  unfold World.var?
  rw [hg]
  simp only [Option.bind_some, h]
/-- What is known of the package-level variables. -/
def Glob (w : World) : Prop := 6 ≤ w.heap.size ∧ (∃ m, w.cell? ⟨0, 0, none⟩ = some (.int .i64 m))
/-- Away from the package-level variables. -/
def Away (F : List Nat) : Prop := ∀ b ∈ F, 6 ≤ b
theorem away_nil : Away [] := fun b hb => by cases hb
theorem Glob.same {w0 w : World} (h : Glob w0) (hs : w0.heap.size ≤ w.heap.size) (hf : ∀ g, g < 6 → w.heap[g]? = w0.heap[g]?) : Glob w := by
  obtain ⟨h0, ⟨m, hm0⟩⟩ := h
  exact ⟨Nat.le_trans h0 hs, ⟨m, (World.cell?_of_block (w := w0) (a := ⟨0, 0, none⟩) (hf 0 (by omega))).trans hm0⟩⟩
theorem Glob.low {w0 w : World} {B : Nat} (h : Glob w0) (hB : 6 ≤ B) (hb : Below B w0 w) : Glob w :=
  h.same hb.size fun g hg => hb.block g (by omega)
theorem Glob.size {w : World} (h : Glob w) : 6 ≤ w.heap.size := h.1
theorem Glob.max {w : World} (h : Glob w) : (∃ m, w.cell? ⟨0, 0, none⟩ = some (.int .i64 m)) := h.2
theorem Glob.own {w0 w : World} {F : List Nat} {L : List Res} (h : Glob w0) (hF : Away F) (hO : Own w0 F w L) : Glob w :=
  h.same hO.size fun g hg => hO.frame g (by have := h.size; omega) (fun hm => absurd (hF g hm) (by omega))
/-- And of the table of tens. -/
def GlobT (w : World) : Prop := Glob w ∧ Go.Lib.TabIs Tryd.prog w "internal/strconv.uint64pow10" .u64 Go.Lib.pow10Tab
theorem GlobT.same {w0 w : World} (h : GlobT w0) (hs : w0.heap.size ≤ w.heap.size) (hf : ∀ g, g < 6 → w.heap[g]? = w0.heap[g]?) : GlobT w := by
  obtain ⟨h, hp⟩ := h
  exact ⟨h.same hs hf, by unfold Go.Lib.TabIs at hp ⊢; rw [← hp]; exact var_same (show Tryd.prog.globalNamed "internal/strconv.uint64pow10" = some 3 by kernel_rfl) (hf 3 (by omega))⟩
theorem GlobT.low {w0 w : World} {B : Nat} (h : GlobT w0) (hB : 6 ≤ B) (hb : Below B w0 w) : GlobT w :=
  h.same hb.size fun g hg => hb.block g (by omega)
theorem GlobT.size {w : World} (h : GlobT w) : 6 ≤ w.heap.size := h.1.size
theorem GlobT.own {w0 w : World} {F : List Nat} {L : List Res} (h : GlobT w0) (hF : Away F) (hO : Own w0 F w L) : GlobT w :=
  h.same hO.size fun g hg => hO.frame g (by have := h.size; omega) (fun hm => absurd (hF g hm) (by omega))
def enc_str (x : Str) : List Value := [str x]
theorem ag_24 : aggO Tryd.prog 24 = some false := by kernel_rfl
theorem ag_25 : aggO Tryd.prog 25 = some false := by kernel_rfl
theorem ag_27 : aggO Tryd.prog 27 = some true := by kernel_rfl
theorem ag_29 : aggO Tryd.prog 29 = some true := by kernel_rfl
theorem ag_3 : aggO Tryd.prog 3 = some false := by kernel_rfl
theorem ag_4 : aggO Tryd.prog 4 = some false := by kernel_rfl
theorem ag_9 : aggO Tryd.prog 9 = some false := by kernel_rfl
theorem al_27 : ∀ w, (Instr.alloc 27 true (.tuple #[])).run Tryd.prog w = .ok (ptr w.heap.size 0) (w.alloc (.cells [int 0, str [], int 0].toArray 27)) := fun w => by kernel_rfl
theorem al_29 : ∀ w, (Instr.alloc 29 true (.tuple #[])).run Tryd.prog w = .ok (ptr w.heap.size 0) (w.alloc (.cells [int 0, str [], int 0, str [], int 0, str [], str [], .bool false].toArray 29)) := fun w => by kernel_rfl
theorem eqd_27 (d : Nat) (x y : api_Host) (w : World) : (Op.equalIn (d + 2) 27 (.agg #[int x.Kind, str x.Name, int x.Port]) (.agg #[int y.Kind, str y.Name, int y.Port])).run Tryd.prog w = .ok (x == y) w := by
  obtain ⟨x0, x1, x2⟩ := x
  obtain ⟨y0, y1, y2⟩ := y
  show (Op.equalIn (d + 1 + 1) 27 _ _).run _ _ = _
  rw [run_equalIn_struct w (d + 1) 27 _ _ (by kernel_rfl) (by kernel_rfl)]
  have e : ((⟨x0, x1, x2⟩ : api_Host) == ⟨y0, y1, y2⟩) = decide (x0 = y0 ∧ x1 = y1 ∧ x2 = y2) := by
    show decide (_ = _) = _
    exact decide_eq_decide.2 (by simp)
  rw [e]
  simp only [Program.fieldsOf, Tryd.underlying27, Op.eqFields]
  simp [part, Tryd.isAgg3, Tryd.underlying3, Tryd.isAgg9, Tryd.underlying9, Tryd.isAgg25, Tryd.underlying25, run_equalIn_string, run_equalIn_bool', run_equalIn_int, str_toList, Result.andThen, byte_eq]
  by_cases h0 : x0 = y0 <;> by_cases h1 : x1 = y1 <;> by_cases h2 : x2 = y2 <;> simp [h0, h1, h2]
theorem eqd_29 (d : Nat) (x y : api_Target) (w : World) : (Op.equalIn (d + 3) 29 (.agg #[int x.Kind, str x.Scheme, int x.Host.Kind, str x.Host.Name, int x.Host.Port, str x.Path, str x.Query, .bool x.HasQuery]) (.agg #[int y.Kind, str y.Scheme, int y.Host.Kind, str y.Host.Name, int y.Host.Port, str y.Path, str y.Query, .bool y.HasQuery])).run Tryd.prog w = .ok (x == y) w := by
  have e27 : ∀ (x y : api_Host) (w : World), (Op.equalIn (d + 2) 27 (.agg #[int x.Kind, str x.Name, int x.Port]) (.agg #[int y.Kind, str y.Name, int y.Port])).run Tryd.prog w = .ok (x == y) w := fun x y w => eqd_27 (d + 0) x y w
  obtain ⟨x0, x1, x2, x3, x4, x5⟩ := x
  obtain ⟨y0, y1, y2, y3, y4, y5⟩ := y
  show (Op.equalIn (d + 2 + 1) 29 _ _).run _ _ = _
  rw [run_equalIn_struct w (d + 2) 29 _ _ (by kernel_rfl) (by kernel_rfl)]
  have e : ((⟨x0, x1, x2, x3, x4, x5⟩ : api_Target) == ⟨y0, y1, y2, y3, y4, y5⟩) = decide (x0 = y0 ∧ x1 = y1 ∧ x2 = y2 ∧ x3 = y3 ∧ x4 = y4 ∧ x5 = y5) := by
    show decide (_ = _) = _
    exact decide_eq_decide.2 (by simp)
  rw [e]
  simp only [Program.fieldsOf, Tryd.underlying29, Op.eqFields]
  simp [part, Tryd.isAgg4, Tryd.underlying4, Tryd.isAgg9, Tryd.underlying9, Tryd.isAgg24, Tryd.underlying24, Tryd.isAgg27, Tryd.underlying27, run_equalIn_string, run_equalIn_bool', run_equalIn_int, str_toList, Result.andThen, byte_eq, e27]
  by_cases h0 : x0 = y0 <;> by_cases h1 : x1 = y1 <;> by_cases h2 : x2 = y2 <;> by_cases h3 : x3 = y3 <;> by_cases h4 : x4 = y4 <;> by_cases h5 : x5 = y5 <;> simp [h0, h1, h2, h3, h4, h5]
theorem eq_29 (x y : api_Target) (w : World) : (Op.equalIn 10000 29 (.agg #[int x.Kind, str x.Scheme, int x.Host.Kind, str x.Host.Name, int x.Host.Port, str x.Path, str x.Query, .bool x.HasQuery]) (.agg #[int y.Kind, str y.Scheme, int y.Host.Kind, str y.Host.Name, int y.Host.Port, str y.Path, str y.Query, .bool y.HasQuery])).run Tryd.prog w = .ok (x == y) w := eqd_29 9997 x y w
theorem fa_27_0 : ∀ b o w, (Instr.fieldAt 27 (ptr b o) 0).run Tryd.prog w = .ok (ptr b (o + 0)) w := fun b o w => by kernel_rfl
theorem fa_27_1 : ∀ b o w, (Instr.fieldAt 27 (ptr b o) 1).run Tryd.prog w = .ok (ptr b (o + 1)) w := fun b o w => by kernel_rfl
theorem fa_27_2 : ∀ b o w, (Instr.fieldAt 27 (ptr b o) 2).run Tryd.prog w = .ok (ptr b (o + 2)) w := fun b o w => by kernel_rfl
theorem fa_29_0 : ∀ b o w, (Instr.fieldAt 29 (ptr b o) 0).run Tryd.prog w = .ok (ptr b (o + 0)) w := fun b o w => by kernel_rfl
theorem fa_29_1 : ∀ b o w, (Instr.fieldAt 29 (ptr b o) 1).run Tryd.prog w = .ok (ptr b (o + 1)) w := fun b o w => by kernel_rfl
theorem fa_29_2 : ∀ b o w, (Instr.fieldAt 29 (ptr b o) 2).run Tryd.prog w = .ok (ptr b (o + 2)) w := fun b o w => by kernel_rfl
theorem fa_29_3 : ∀ b o w, (Instr.fieldAt 29 (ptr b o) 3).run Tryd.prog w = .ok (ptr b (o + 5)) w := fun b o w => by kernel_rfl
theorem fa_29_4 : ∀ b o w, (Instr.fieldAt 29 (ptr b o) 4).run Tryd.prog w = .ok (ptr b (o + 6)) w := fun b o w => by kernel_rfl
theorem fa_29_5 : ∀ b o w, (Instr.fieldAt 29 (ptr b o) 5).run Tryd.prog w = .ok (ptr b (o + 7)) w := fun b o w => by kernel_rfl
theorem sz_25 : sizeO Tryd.prog 25 = some 1 := by kernel_rfl
theorem sz_27 : sizeO Tryd.prog 27 = some 3 := by kernel_rfl
theorem sz_29 : sizeO Tryd.prog 29 = some 8 := by kernel_rfl
theorem sz_3 : sizeO Tryd.prog 3 = some 1 := by kernel_rfl
theorem sz_4 : sizeO Tryd.prog 4 = some 1 := by kernel_rfl
theorem sz_9 : sizeO Tryd.prog 9 = some 1 := by kernel_rfl
theorem c_4 : Callable Tryd.prog 4 := ⟨Tryd.f4, Tryd.func4, rfl, by kernel_rfl⟩
theorem c_5 : Callable Tryd.prog 5 := ⟨Tryd.f5, Tryd.func5, rfl, by kernel_rfl⟩
theorem c_6 : Callable Tryd.prog 6 := ⟨Tryd.f6, Tryd.func6, rfl, by kernel_rfl⟩
theorem c_7 : Callable Tryd.prog 7 := ⟨Tryd.f7, Tryd.func7, rfl, by kernel_rfl⟩
theorem c_8 : Callable Tryd.prog 8 := ⟨Tryd.f8, Tryd.func8, rfl, by kernel_rfl⟩
theorem c_9 : Callable Tryd.prog 9 := ⟨Tryd.f9, Tryd.func9, rfl, by kernel_rfl⟩
theorem c_10 : Callable Tryd.prog 10 := ⟨Tryd.f10, Tryd.func10, rfl, by kernel_rfl⟩
theorem c_11 : Callable Tryd.prog 11 := ⟨Tryd.f11, Tryd.func11, rfl, by kernel_rfl⟩
theorem c_12 : Callable Tryd.prog 12 := ⟨Tryd.f12, Tryd.func12, rfl, by kernel_rfl⟩
theorem c_13 : Callable Tryd.prog 13 := ⟨Tryd.f13, Tryd.func13, rfl, by kernel_rfl⟩
theorem c_14 : Callable Tryd.prog 14 := ⟨Tryd.f14, Tryd.func14, rfl, by kernel_rfl⟩
theorem c_15 : Callable Tryd.prog 15 := ⟨Tryd.f15, Tryd.func15, rfl, by kernel_rfl⟩
theorem c_16 : Callable Tryd.prog 16 := ⟨Tryd.f16, Tryd.func16, rfl, by kernel_rfl⟩
theorem c_17 : Callable Tryd.prog 17 := ⟨Tryd.f17, Tryd.func17, rfl, by kernel_rfl⟩
theorem c_18 : Callable Tryd.prog 18 := ⟨Tryd.f18, Tryd.func18, rfl, by kernel_rfl⟩
theorem c_19 : Callable Tryd.prog 19 := ⟨Tryd.f19, Tryd.func19, rfl, by kernel_rfl⟩
theorem c_20 : Callable Tryd.prog 20 := ⟨Tryd.f20, Tryd.func20, rfl, by kernel_rfl⟩
theorem c_21 : Callable Tryd.prog 21 := ⟨Tryd.f21, Tryd.func21, rfl, by kernel_rfl⟩
theorem c_22 : Callable Tryd.prog 22 := ⟨Tryd.f22, Tryd.func22, rfl, by kernel_rfl⟩
theorem c_23 : Callable Tryd.prog 23 := ⟨Tryd.f23, Tryd.func23, rfl, by kernel_rfl⟩
theorem c_24 : Callable Tryd.prog 24 := ⟨Tryd.f24, Tryd.func24, rfl, by kernel_rfl⟩
theorem c_25 : Callable Tryd.prog 25 := ⟨Tryd.f25, Tryd.func25, rfl, by kernel_rfl⟩
theorem c_26 : Callable Tryd.prog 26 := ⟨Tryd.f26, Tryd.func26, rfl, by kernel_rfl⟩
theorem c_27 : Callable Tryd.prog 27 := ⟨Tryd.f27, Tryd.func27, rfl, by kernel_rfl⟩
theorem c_28 : Callable Tryd.prog 28 := ⟨Tryd.f28, Tryd.func28, rfl, by kernel_rfl⟩
theorem c_29 : Callable Tryd.prog 29 := ⟨Tryd.f29, Tryd.func29, rfl, by kernel_rfl⟩
theorem c_30 : Callable Tryd.prog 30 := ⟨Tryd.f30, Tryd.func30, rfl, by kernel_rfl⟩
theorem c_32 : Callable Tryd.prog 32 := ⟨Tryd.f32, Tryd.func32, rfl, by kernel_rfl⟩
theorem c_33 : Callable Tryd.prog 33 := ⟨Tryd.f33, Tryd.func33, rfl, by kernel_rfl⟩
theorem c_34 : Callable Tryd.prog 34 := ⟨Tryd.f34, Tryd.func34, rfl, by kernel_rfl⟩
theorem c_35 : Callable Tryd.prog 35 := ⟨Tryd.f35, Tryd.func35, rfl, by kernel_rfl⟩
theorem c_36 : Callable Tryd.prog 36 := ⟨Tryd.f36, Tryd.func36, rfl, by kernel_rfl⟩
theorem c_37 : Callable Tryd.prog 37 := ⟨Tryd.f37, Tryd.func37, rfl, by kernel_rfl⟩
theorem c_39 : Callable Tryd.prog 39 := ⟨Tryd.f39, Tryd.func39, rfl, by kernel_rfl⟩
theorem c_44 : Callable Tryd.prog 44 := ⟨Tryd.f44, Tryd.func44, rfl, by kernel_rfl⟩
theorem c_45 : Callable Tryd.prog 45 := ⟨Tryd.f45, Tryd.func45, rfl, by kernel_rfl⟩
theorem c_46 : Callable Tryd.prog 46 := ⟨Tryd.f46, Tryd.func46, rfl, by kernel_rfl⟩
theorem c_47 : Callable Tryd.prog 47 := ⟨Tryd.f47, Tryd.func47, rfl, by kernel_rfl⟩
theorem c_49 : Callable Tryd.prog 49 := ⟨Tryd.f49, Tryd.func49, rfl, by kernel_rfl⟩
theorem c_50 : Callable Tryd.prog 50 := ⟨Tryd.f50, Tryd.func50, rfl, by kernel_rfl⟩
theorem c_51 : Callable Tryd.prog 51 := ⟨Tryd.f51, Tryd.func51, rfl, by kernel_rfl⟩
theorem c_53 : Callable Tryd.prog 53 := ⟨Tryd.f53, Tryd.func53, rfl, by kernel_rfl⟩
theorem c_57 : Callable Tryd.prog 57 := ⟨Tryd.f57, Tryd.func57, rfl, by kernel_rfl⟩
theorem c_65 : Callable Tryd.prog 65 := ⟨Tryd.f65, Tryd.func65, rfl, by kernel_rfl⟩
end Go.Proofs
