/-
  Facts on the types and functions of this translation, one by one, by evaluation. Written by a program (wip/gen).
  The library functions that the walks call. Over this translation.
-/
import Derived.Test.YtbebpdfhbpedjaaGreatDoorSim
import Derived.Test.YtbebpdfhbpedjaaGreatDoorT26
import Derived.Test.YtbebpdfhbpedjaaGreatDoorProg
import Derived.KernelRfl
import Derived.Laws.StructEq
import Derived.Lib.LaidTab
import Derived.Lib.ItoaNum
import Derived.Shelf.Strings.IndexAnyAll
import Derived.Laws.RangeAny
import Derived.Laws.Runes
import Derived.Below
import Derived.Lib.OthersKept
import Derived.Shelf.RegionOpenPlain
import Derived.Shelf.Small.Utf8
import Derived.Shelf.Strings.SlTrimAscii
import Derived.Lib.AppendIntMem
section
set_option linter.unusedVariables false
set_option linter.unusedSimpArgs false
namespace Go.Proofs
open Go.Dk Go.Dm Go.RowKit

theorem zlP {P : Program} {w0 w : World} {n : String} {g : Nat} (hg : P.globalNamed n = some g) (h : w.heap[g]? = w0.heap[g]?) : w.var? P n = w0.var? P n := by
  unfold World.var?
  rw [hg]
  simp only [Option.bind_some, h]
def zA (w : World) : Prop := 6 ≤ w.heap.size ∧ (∃ m, w.cell? ⟨0, 0, none⟩ = some (.int .i64 m))
def zI (F : List Nat) : Prop := ∀ b ∈ F, 6 ≤ b
theorem zg : zI [] := fun b hb => by cases hb
theorem zA.same {w0 w : World} (h : zA w0) (hs : w0.heap.size ≤ w.heap.size) (hf : ∀ g, g < 6 → w.heap[g]? = w0.heap[g]?) : zA w := by
  obtain ⟨h0, ⟨m, hm0⟩⟩ := h
  exact ⟨Nat.le_trans h0 hs, ⟨m, (World.cell?_of_block (w := w0) (a := ⟨0, 0, none⟩) (hf 0 (by omega))).trans hm0⟩⟩
theorem zA.low {w0 w : World} {B : Nat} (h : zA w0) (hB : 6 ≤ B) (hb : Below B w0 w) : zA w :=
  h.same hb.size fun g hg => hb.block g (by omega)
theorem zA.size {w : World} (h : zA w) : 6 ≤ w.heap.size := h.1
theorem zA.max {w : World} (h : zA w) : (∃ m, w.cell? ⟨0, 0, none⟩ = some (.int .i64 m)) := h.2
theorem zA.own {w0 w : World} {F : List Nat} {L : List Res} (h : zA w0) (hF : zI F) (hO : Own w0 F w L) : zA w :=
  h.same hO.size fun g hg => hO.frame g (by have := h.size; omega) (fun hm => absurd (hF g hm) (by omega))
def zbf (w : World) : Prop := zA w ∧ Go.Lib.TabIs Tryz.prog w "internal/strconv.uint64pow10" .u64 Go.Lib.pow10Tab
theorem zbf.same {w0 w : World} (h : zbf w0) (hs : w0.heap.size ≤ w.heap.size) (hf : ∀ g, g < 6 → w.heap[g]? = w0.heap[g]?) : zbf w := by
  obtain ⟨h, hp⟩ := h
  exact ⟨h.same hs hf, by unfold Go.Lib.TabIs at hp ⊢; rw [← hp]; exact zlP (show Tryz.prog.globalNamed "internal/strconv.uint64pow10" = some 3 by kernel_rfl) (hf 3 (by omega))⟩
theorem zbf.low {w0 w : World} {B : Nat} (h : zbf w0) (hB : 6 ≤ B) (hb : Below B w0 w) : zbf w :=
  h.same hb.size fun g hg => hb.block g (by omega)
theorem zbf.size {w : World} (h : zbf w) : 6 ≤ w.heap.size := h.1.size
theorem zbf.own {w0 w : World} {F : List Nat} {L : List Res} (h : zbf w0) (hF : zI F) (hO : Own w0 F w L) : zbf w :=
  h.same hO.size fun g hg => hO.frame g (by have := h.size; omega) (fun hm => absurd (hF g hm) (by omega))
def zd (x : api_Field) : List Value := [str x.Name, str x.Value]
def zb (x : api_Param) : List Value := [str x.Name, str x.Value]
def za (x : api_Swap) : List Value := [str x.From, str x.To]
def zN (x : UInt8) : List Value := [zM x]
def zp (x : Str) : List Value := [str x]
theorem ag_103 : zdk Tryz.prog 103 = some false := by kernel_rfl
theorem ag_105 : zdk Tryz.prog 105 = some true := by kernel_rfl
theorem ag_110 : zdk Tryz.prog 110 = some false := by kernel_rfl
theorem ag_116 : zdk Tryz.prog 116 = some true := by kernel_rfl
theorem ag_119 : zdk Tryz.prog 119 = some true := by kernel_rfl
theorem ag_159 : zdk Tryz.prog 159 = some false := by kernel_rfl
theorem ag_23 : zdk Tryz.prog 23 = some true := by kernel_rfl
theorem zf1 : zdk Tryz.prog 24 = some false := by kernel_rfl
theorem ag_29 : zdk Tryz.prog 29 = some true := by kernel_rfl
theorem ag_3 : zdk Tryz.prog 3 = some false := by kernel_rfl
theorem ag_41 : zdk Tryz.prog 41 = some false := by kernel_rfl
theorem zcA : zdk Tryz.prog 45 = some false := by kernel_rfl
theorem zb1 : zdk Tryz.prog 47 = some true := by kernel_rfl
theorem zgO : zdk Tryz.prog 57 = some true := by kernel_rfl
theorem zlQ : zdk Tryz.prog 71 = some true := by kernel_rfl
theorem zeS : zdk Tryz.prog 87 = some true := by kernel_rfl
theorem zV : zdk Tryz.prog 9 = some false := by kernel_rfl
theorem al_119 : ∀ w, (Instr.alloc 119 true (.tuple #[])).run Tryz.prog w = .ok (ptr w.heap.size 0) (w.alloc (.cells [.pointer none].toArray 119)) := fun w => by kernel_rfl
theorem al_47 : ∀ w, (Instr.alloc 47 true (.tuple #[])).run Tryz.prog w = .ok (ptr w.heap.size 0) (w.alloc (.cells [str [], str [], str [], str [], .slice none 0 0, .slice none 0 0].toArray 47)) := fun w => by kernel_rfl
theorem zjM : ∀ w, (Instr.alloc 57 true (.tuple #[])).run Tryz.prog w = .ok (ptr w.heap.size 0) (w.alloc (.cells [str [], str []].toArray 57)) := fun w => by kernel_rfl
theorem al_70 : ∀ w, (Instr.alloc 70 true (.tuple #[])).run Tryz.prog w = .ok (ptr w.heap.size 0) (w.alloc (.cells [str [], str [], str [], str []].toArray 70)) := fun w => by kernel_rfl
theorem al_87 : ∀ w, (Instr.alloc 87 true (.tuple #[])).run Tryz.prog w = .ok (ptr w.heap.size 0) (w.alloc (.cells [str [], str []].toArray 87)) := fun w => by kernel_rfl
theorem ei_159 : (Tryz.prog.info? 5).map (fun i => (i.zero, i.size, i.bytes)) = some (some (zM 0), 1, 1) := by kernel_rfl
theorem zi8 : Elem Tryz.prog 159 5 1 1 := ⟨Tryz.underlying159, by obtain ⟨i, h0, h1, h2, h3⟩ := info_parts ei_159; exact ⟨i, _, h0, h1, h2, h3, rfl⟩, by decide⟩
theorem ei_24 : (Tryz.prog.info? 71).map (fun i => (i.zero, i.size, i.bytes)) = some (some (.agg #[str [], str []]), 2, 32) := by kernel_rfl
theorem el_24 : Elem Tryz.prog 24 71 2 32 := ⟨Tryz.underlying24, by obtain ⟨i, h0, h1, h2, h3⟩ := info_parts ei_24; exact ⟨i, _, h0, h1, h2, h3, rfl⟩, by decide⟩
theorem ei_41 : (Tryz.prog.info? 9).map (fun i => (i.zero, i.size, i.bytes)) = some (some (str []), 1, 16) := by kernel_rfl
theorem zkD : Elem Tryz.prog 41 9 1 16 := ⟨Tryz.underlying41, by obtain ⟨i, h0, h1, h2, h3⟩ := info_parts ei_41; exact ⟨i, _, h0, h1, h2, h3, rfl⟩, by decide⟩
theorem ei_45 : (Tryz.prog.info? 87).map (fun i => (i.zero, i.size, i.bytes)) = some (some (.agg #[str [], str []]), 2, 32) := by kernel_rfl
theorem el_45 : Elem Tryz.prog 45 87 2 32 := ⟨Tryz.underlying45, by obtain ⟨i, h0, h1, h2, h3⟩ := info_parts ei_45; exact ⟨i, _, h0, h1, h2, h3, rfl⟩, by decide⟩
theorem ei_49 : (Tryz.prog.info? 57).map (fun i => (i.zero, i.size, i.bytes)) = some (some (.agg #[str [], str []]), 2, 32) := by kernel_rfl
theorem zjN : Elem Tryz.prog 49 57 2 32 := ⟨Tryz.underlying49, by obtain ⟨i, h0, h1, h2, h3⟩ := info_parts ei_49; exact ⟨i, _, h0, h1, h2, h3, rfl⟩, by decide⟩
theorem eqd_57 (d : Nat) (x y : api_Param) (w : World) : (Op.equalIn (d + 2) 57 (.agg #[str x.Name, str x.Value]) (.agg #[str y.Name, str y.Value])).run Tryz.prog w = .ok (x == y) w := by
  obtain ⟨x0, x1⟩ := x
  obtain ⟨y0, y1⟩ := y
  show (Op.equalIn (d + 1 + 1) 57 _ _).run _ _ = _
  rw [run_equalIn_struct w (d + 1) 57 _ _ (by kernel_rfl) (by kernel_rfl)]
  have e : ((⟨x0, x1⟩ : api_Param) == ⟨y0, y1⟩) = decide (x0 = y0 ∧ x1 = y1) := by
    show decide (_ = _) = _
    exact decide_eq_decide.2 (by simp)
  rw [e]
  simp only [Program.fieldsOf, Tryz.underlying57, Op.eqFields]
  simp [part, Tryz.isAgg9, Tryz.underlying9, run_equalIn_string, run_equalIn_bool', run_equalIn_int, zft, Result.andThen, zg6]
  by_cases h0 : x0 = y0 <;> by_cases h1 : x1 = y1 <;> simp [h0, h1]
theorem eq_57 (x y : api_Param) (w : World) : (Op.equalIn 10000 57 (.agg #[str x.Name, str x.Value]) (.agg #[str y.Name, str y.Value])).run Tryz.prog w = .ok (x == y) w := eqd_57 9998 x y w
theorem eqd_71 (d : Nat) (x y : api_Field) (w : World) : (Op.equalIn (d + 2) 71 (.agg #[str x.Name, str x.Value]) (.agg #[str y.Name, str y.Value])).run Tryz.prog w = .ok (x == y) w := by
  obtain ⟨x0, x1⟩ := x
  obtain ⟨y0, y1⟩ := y
  show (Op.equalIn (d + 1 + 1) 71 _ _).run _ _ = _
  rw [run_equalIn_struct w (d + 1) 71 _ _ (by kernel_rfl) (by kernel_rfl)]
  have e : ((⟨x0, x1⟩ : api_Field) == ⟨y0, y1⟩) = decide (x0 = y0 ∧ x1 = y1) := by
    show decide (_ = _) = _
    exact decide_eq_decide.2 (by simp)
  rw [e]
  simp only [Program.fieldsOf, Tryz.underlying71, Op.eqFields]
  simp [part, Tryz.isAgg9, Tryz.underlying9, run_equalIn_string, run_equalIn_bool', run_equalIn_int, zft, Result.andThen, zg6]
  by_cases h0 : x0 = y0 <;> by_cases h1 : x1 = y1 <;> simp [h0, h1]
theorem eq_71 (x y : api_Field) (w : World) : (Op.equalIn 10000 71 (.agg #[str x.Name, str x.Value]) (.agg #[str y.Name, str y.Value])).run Tryz.prog w = .ok (x == y) w := eqd_71 9998 x y w
theorem zhI : ∀ b o w, (Instr.fieldAt 100 (ptr b o) 0).run Tryz.prog w = .ok (ptr b (o + 0)) w := fun b o w => by kernel_rfl
theorem zlR : ∀ b o w, (Instr.fieldAt 105 (ptr b o) 0).run Tryz.prog w = .ok (ptr b (o + 0)) w := fun b o w => by kernel_rfl
theorem zlS : ∀ b o w, (Instr.fieldAt 105 (ptr b o) 1).run Tryz.prog w = .ok (ptr b (o + 1)) w := fun b o w => by kernel_rfl
theorem zlT : ∀ b o w, (Instr.fieldAt 105 (ptr b o) 2).run Tryz.prog w = .ok (ptr b (o + 2)) w := fun b o w => by kernel_rfl
theorem zlU : ∀ b o w, (Instr.fieldAt 113 (ptr b o) 0).run Tryz.prog w = .ok (ptr b (o + 0)) w := fun b o w => by kernel_rfl
theorem zlV : ∀ b o w, (Instr.fieldAt 113 (ptr b o) 1).run Tryz.prog w = .ok (ptr b (o + 1)) w := fun b o w => by kernel_rfl
theorem zlW : ∀ b o w, (Instr.fieldAt 113 (ptr b o) 2).run Tryz.prog w = .ok (ptr b (o + 2)) w := fun b o w => by kernel_rfl
theorem zlX : ∀ b o w, (Instr.fieldAt 113 (ptr b o) 3).run Tryz.prog w = .ok (ptr b (o + 3)) w := fun b o w => by kernel_rfl
theorem zlY : ∀ b o w, (Instr.fieldAt 116 (ptr b o) 0).run Tryz.prog w = .ok (ptr b (o + 0)) w := fun b o w => by kernel_rfl
theorem zlZ : ∀ b o w, (Instr.fieldAt 119 (ptr b o) 0).run Tryz.prog w = .ok (ptr b (o + 0)) w := fun b o w => by kernel_rfl
theorem zf2 : ∀ b o w, (Instr.fieldAt 137 (ptr b o) 0).run Tryz.prog w = .ok (ptr b (o + 0)) w := fun b o w => by kernel_rfl
theorem zf3 : ∀ b o w, (Instr.fieldAt 137 (ptr b o) 1).run Tryz.prog w = .ok (ptr b (o + 1)) w := fun b o w => by kernel_rfl
theorem zl0 : ∀ b o w, (Instr.fieldAt 176 (ptr b o) 0).run Tryz.prog w = .ok (ptr b (o + 0)) w := fun b o w => by kernel_rfl
theorem zl1 : ∀ b o w, (Instr.fieldAt 176 (ptr b o) 1).run Tryz.prog w = .ok (ptr b (o + 1)) w := fun b o w => by kernel_rfl
theorem zmt : ∀ b o w, (Instr.fieldAt 23 (ptr b o) 0).run Tryz.prog w = .ok (ptr b (o + 0)) w := fun b o w => by kernel_rfl
theorem zmu : ∀ b o w, (Instr.fieldAt 23 (ptr b o) 1).run Tryz.prog w = .ok (ptr b (o + 1)) w := fun b o w => by kernel_rfl
theorem zmv : ∀ b o w, (Instr.fieldAt 23 (ptr b o) 2).run Tryz.prog w = .ok (ptr b (o + 2)) w := fun b o w => by kernel_rfl
theorem zmw : ∀ b o w, (Instr.fieldAt 23 (ptr b o) 3).run Tryz.prog w = .ok (ptr b (o + 3)) w := fun b o w => by kernel_rfl
theorem zmx : ∀ b o w, (Instr.fieldAt 29 (ptr b o) 1).run Tryz.prog w = .ok (ptr b (o + 1)) w := fun b o w => by kernel_rfl
theorem zmy : ∀ b o w, (Instr.fieldAt 29 (ptr b o) 2).run Tryz.prog w = .ok (ptr b (o + 2)) w := fun b o w => by kernel_rfl
theorem zmz : ∀ b o w, (Instr.fieldAt 29 (ptr b o) 4).run Tryz.prog w = .ok (ptr b (o + 4)) w := fun b o w => by kernel_rfl
theorem zmA : ∀ b o w, (Instr.fieldAt 29 (ptr b o) 6).run Tryz.prog w = .ok (ptr b (o + 6)) w := fun b o w => by kernel_rfl
theorem zf4 : ∀ b o w, (Instr.fieldAt 47 (ptr b o) 0).run Tryz.prog w = .ok (ptr b (o + 0)) w := fun b o w => by kernel_rfl
theorem zmB : ∀ b o w, (Instr.fieldAt 47 (ptr b o) 1).run Tryz.prog w = .ok (ptr b (o + 1)) w := fun b o w => by kernel_rfl
theorem zmC : ∀ b o w, (Instr.fieldAt 47 (ptr b o) 2).run Tryz.prog w = .ok (ptr b (o + 2)) w := fun b o w => by kernel_rfl
theorem zmD : ∀ b o w, (Instr.fieldAt 47 (ptr b o) 3).run Tryz.prog w = .ok (ptr b (o + 3)) w := fun b o w => by kernel_rfl
theorem zg8 : ∀ b o w, (Instr.fieldAt 47 (ptr b o) 4).run Tryz.prog w = .ok (ptr b (o + 4)) w := fun b o w => by kernel_rfl
theorem zg9 : ∀ b o w, (Instr.fieldAt 47 (ptr b o) 5).run Tryz.prog w = .ok (ptr b (o + 5)) w := fun b o w => by kernel_rfl
theorem zkE : ∀ b o w, (Instr.fieldAt 57 (ptr b o) 0).run Tryz.prog w = .ok (ptr b (o + 0)) w := fun b o w => by kernel_rfl
theorem zf5 : ∀ b o w, (Instr.fieldAt 57 (ptr b o) 1).run Tryz.prog w = .ok (ptr b (o + 1)) w := fun b o w => by kernel_rfl
theorem zmE : ∀ b o w, (Instr.fieldAt 71 (ptr b o) 0).run Tryz.prog w = .ok (ptr b (o + 0)) w := fun b o w => by kernel_rfl
theorem zi9 : ∀ b o w, (Instr.fieldAt 71 (ptr b o) 1).run Tryz.prog w = .ok (ptr b (o + 1)) w := fun b o w => by kernel_rfl
theorem zja : ∀ b o w, (Instr.fieldAt 87 (ptr b o) 0).run Tryz.prog w = .ok (ptr b (o + 0)) w := fun b o w => by kernel_rfl
theorem zjb : ∀ b o w, (Instr.fieldAt 87 (ptr b o) 1).run Tryz.prog w = .ok (ptr b (o + 1)) w := fun b o w => by kernel_rfl
theorem zmF : ∀ (b : Nat) (w : World), (Instr.indexAt 70 (ptr b 0) (int 0)).run Tryz.prog w = .ok (ptr b 0) w := fun b w => by kernel_rfl
theorem zmG : ∀ (b : Nat) (w : World), (Instr.indexAt 70 (ptr b 0) (int 1)).run Tryz.prog w = .ok (ptr b 1) w := fun b w => by kernel_rfl
theorem zmH : ∀ (b : Nat) (w : World), (Instr.indexAt 70 (ptr b 0) (int 2)).run Tryz.prog w = .ok (ptr b 2) w := fun b w => by kernel_rfl
theorem zmI : ∀ (b : Nat) (w : World), (Instr.indexAt 70 (ptr b 0) (int 3)).run Tryz.prog w = .ok (ptr b 3) w := fun b w => by kernel_rfl
theorem sz_103 : zaC Tryz.prog 103 = some 1 := by kernel_rfl
theorem sz_105 : zaC Tryz.prog 105 = some 3 := by kernel_rfl
theorem sz_116 : zaC Tryz.prog 116 = some 1 := by kernel_rfl
theorem sz_119 : zaC Tryz.prog 119 = some 1 := by kernel_rfl
theorem sz_159 : zaC Tryz.prog 159 = some 1 := by kernel_rfl
theorem sz_23 : zaC Tryz.prog 23 = some 4 := by kernel_rfl
theorem sz_24 : zaC Tryz.prog 24 = some 1 := by kernel_rfl
theorem sz_29 : zaC Tryz.prog 29 = some 7 := by kernel_rfl
theorem sz_3 : zaC Tryz.prog 3 = some 1 := by kernel_rfl
theorem sz_41 : zaC Tryz.prog 41 = some 1 := by kernel_rfl
theorem sz_45 : zaC Tryz.prog 45 = some 1 := by kernel_rfl
theorem zb2 : zaC Tryz.prog 47 = some 6 := by kernel_rfl
theorem zcT : zaC Tryz.prog 57 = some 2 := by kernel_rfl
theorem sz_70 : zaC Tryz.prog 70 = some 4 := by kernel_rfl
theorem zgP : zaC Tryz.prog 71 = some 2 := by kernel_rfl
theorem zdM : zaC Tryz.prog 87 = some 2 := by kernel_rfl
theorem zf6 : zaC Tryz.prog 9 = some 1 := by kernel_rfl
def tb : Tab := ⟨[(9, .string), (24, .slice 71), (38, .slice 23), (41, .slice 9), (45, .slice 87), (49, .slice 57)], [(23, 0, 0), (23, 1, 1), (23, 2, 2), (23, 3, 3), (29, 1, 1), (29, 2, 2), (29, 4, 4), (29, 6, 6), (47, 0, 0), (47, 1, 1), (47, 2, 2), (47, 3, 3), (47, 4, 4), (47, 5, 5), (57, 0, 0), (57, 1, 1), (71, 0, 0), (71, 1, 1), (87, 0, 0), (87, 1, 1), (100, 0, 0), (105, 0, 0), (105, 1, 1), (105, 2, 2), (113, 0, 0), (113, 1, 1), (113, 2, 2), (113, 3, 3), (116, 0, 0), (119, 0, 0), (137, 0, 0), (137, 1, 1), (176, 0, 0), (176, 1, 1)], [(3, false), (9, false), (23, true), (24, false), (29, true), (41, false), (45, false), (47, true), (57, true), (71, true), (103, false), (105, true), (110, false), (116, true), (119, true), (159, false)], [(3, 1), (9, 1), (23, 4), (24, 1), (29, 7), (41, 1), (47, 6), (57, 2), (70, 4), (71, 2), (103, 1), (105, 3), (116, 1), (119, 1), (159, 1)]⟩
instance : TabOk Tryz.prog tb := ⟨zeI ⟨Tryz.underlying9, ⟨Tryz.underlying24, ⟨Tryz.underlying38, ⟨Tryz.underlying41, ⟨Tryz.underlying45, ⟨Tryz.underlying49, trivial⟩⟩⟩⟩⟩⟩, zeI ⟨zmt, ⟨zmu, ⟨zmv, ⟨zmw, ⟨zmx, ⟨zmy, ⟨zmz, ⟨zmA, ⟨zf4, ⟨zmB, ⟨zmC, ⟨zmD, ⟨zg8, ⟨zg9, ⟨zkE, ⟨zf5, ⟨zmE, ⟨zi9, ⟨zja, ⟨zjb, ⟨zhI, ⟨zlR, ⟨zlS, ⟨zlT, ⟨zlU, ⟨zlV, ⟨zlW, ⟨zlX, ⟨zlY, ⟨zlZ, ⟨zf2, ⟨zf3, ⟨zl0, ⟨zl1, trivial⟩⟩⟩⟩⟩⟩⟩⟩⟩⟩⟩⟩⟩⟩⟩⟩⟩⟩⟩⟩⟩⟩⟩⟩⟩⟩⟩⟩⟩⟩⟩⟩⟩⟩, zeI ⟨ag_3, ⟨zV, ⟨ag_23, ⟨zf1, ⟨ag_29, ⟨ag_41, ⟨zcA, ⟨zb1, ⟨zgO, ⟨zlQ, ⟨ag_103, ⟨ag_105, ⟨ag_110, ⟨ag_116, ⟨ag_119, ⟨ag_159, trivial⟩⟩⟩⟩⟩⟩⟩⟩⟩⟩⟩⟩⟩⟩⟩⟩, zeI ⟨sz_3, ⟨zf6, ⟨sz_23, ⟨sz_24, ⟨sz_29, ⟨sz_41, ⟨zb2, ⟨zcT, ⟨sz_70, ⟨zgP, ⟨sz_103, ⟨sz_105, ⟨sz_116, ⟨sz_119, ⟨sz_159, trivial⟩⟩⟩⟩⟩⟩⟩⟩⟩⟩⟩⟩⟩⟩⟩⟩
theorem c_12 : zf Tryz.prog 12 := ⟨Tryz.f12, Tryz.func12, rfl, by kernel_rfl⟩
theorem c_17 : zf Tryz.prog 17 := ⟨Tryz.f17, Tryz.func17, rfl, by kernel_rfl⟩
theorem c_18 : zf Tryz.prog 18 := ⟨Tryz.f18, Tryz.func18, rfl, by kernel_rfl⟩
theorem c_19 : zf Tryz.prog 19 := ⟨Tryz.f19, Tryz.func19, rfl, by kernel_rfl⟩
theorem c_20 : zf Tryz.prog 20 := ⟨Tryz.f20, Tryz.func20, rfl, by kernel_rfl⟩
theorem c_21 : zf Tryz.prog 21 := ⟨Tryz.f21, Tryz.func21, rfl, by kernel_rfl⟩
theorem c_22 : zf Tryz.prog 22 := ⟨Tryz.f22, Tryz.func22, rfl, by kernel_rfl⟩
theorem c_23 : zf Tryz.prog 23 := ⟨Tryz.f23, Tryz.func23, rfl, by kernel_rfl⟩
theorem c_24 : zf Tryz.prog 24 := ⟨Tryz.f24, Tryz.func24, rfl, by kernel_rfl⟩
theorem c_29 : zf Tryz.prog 29 := ⟨Tryz.f29, Tryz.func29, rfl, by kernel_rfl⟩
theorem c_32 : zf Tryz.prog 32 := ⟨Tryz.f32, Tryz.func32, rfl, by kernel_rfl⟩
theorem c_33 : zf Tryz.prog 33 := ⟨Tryz.f33, Tryz.func33, rfl, by kernel_rfl⟩
theorem c_34 : zf Tryz.prog 34 := ⟨Tryz.f34, Tryz.func34, rfl, by kernel_rfl⟩
theorem c_40 : zf Tryz.prog 40 := ⟨Tryz.f40, Tryz.func40, rfl, by kernel_rfl⟩
theorem c_41 : zf Tryz.prog 41 := ⟨Tryz.f41, Tryz.func41, rfl, by kernel_rfl⟩
theorem c_42 : zf Tryz.prog 42 := ⟨Tryz.f42, Tryz.func42, rfl, by kernel_rfl⟩
theorem c_43 : zf Tryz.prog 43 := ⟨Tryz.f43, Tryz.func43, rfl, by kernel_rfl⟩
theorem c_44 : zf Tryz.prog 44 := ⟨Tryz.f44, Tryz.func44, rfl, by kernel_rfl⟩
theorem c_45 : zf Tryz.prog 45 := ⟨Tryz.f45, Tryz.func45, rfl, by kernel_rfl⟩
theorem c_46 : zf Tryz.prog 46 := ⟨Tryz.f46, Tryz.func46, rfl, by kernel_rfl⟩
theorem c_47 : zf Tryz.prog 47 := ⟨Tryz.f47, Tryz.func47, rfl, by kernel_rfl⟩
theorem c_48 : zf Tryz.prog 48 := ⟨Tryz.f48, Tryz.func48, rfl, by kernel_rfl⟩
theorem c_52 : zf Tryz.prog 52 := ⟨Tryz.f52, Tryz.func52, rfl, by kernel_rfl⟩
theorem c_53 : zf Tryz.prog 53 := ⟨Tryz.f53, Tryz.func53, rfl, by kernel_rfl⟩
theorem c_54 : zf Tryz.prog 54 := ⟨Tryz.f54, Tryz.func54, rfl, by kernel_rfl⟩
theorem c_55 : zf Tryz.prog 55 := ⟨Tryz.f55, Tryz.func55, rfl, by kernel_rfl⟩
theorem c_56 : zf Tryz.prog 56 := ⟨Tryz.f56, Tryz.func56, rfl, by kernel_rfl⟩
theorem c_57 : zf Tryz.prog 57 := ⟨Tryz.f57, Tryz.func57, rfl, by kernel_rfl⟩
theorem c_58 : zf Tryz.prog 58 := ⟨Tryz.f58, Tryz.func58, rfl, by kernel_rfl⟩
theorem c_65 : zf Tryz.prog 65 := ⟨Tryz.f65, Tryz.func65, rfl, by kernel_rfl⟩
theorem c_66 : zf Tryz.prog 66 := ⟨Tryz.f66, Tryz.func66, rfl, by kernel_rfl⟩
theorem c_70 : zf Tryz.prog 70 := ⟨Tryz.f70, Tryz.func70, rfl, by kernel_rfl⟩
theorem c_73 : zf Tryz.prog 73 := ⟨Tryz.f73, Tryz.func73, rfl, by kernel_rfl⟩
theorem c_74 : zf Tryz.prog 74 := ⟨Tryz.f74, Tryz.func74, rfl, by kernel_rfl⟩
theorem c_75 : zf Tryz.prog 75 := ⟨Tryz.f75, Tryz.func75, rfl, by kernel_rfl⟩
theorem c_76 : zf Tryz.prog 76 := ⟨Tryz.f76, Tryz.func76, rfl, by kernel_rfl⟩
theorem c_77 : zf Tryz.prog 77 := ⟨Tryz.f77, Tryz.func77, rfl, by kernel_rfl⟩
theorem c_78 : zf Tryz.prog 78 := ⟨Tryz.f78, Tryz.func78, rfl, by kernel_rfl⟩
theorem c_81 : zf Tryz.prog 81 := ⟨Tryz.f81, Tryz.func81, rfl, by kernel_rfl⟩
theorem c_82 : zf Tryz.prog 82 := ⟨Tryz.f82, Tryz.func82, rfl, by kernel_rfl⟩
theorem c_87 : zf Tryz.prog 87 := ⟨Tryz.f87, Tryz.func87, rfl, by kernel_rfl⟩
theorem c_88 : zf Tryz.prog 88 := ⟨Tryz.f88, Tryz.func88, rfl, by kernel_rfl⟩
theorem c_89 : zf Tryz.prog 89 := ⟨Tryz.f89, Tryz.func89, rfl, by kernel_rfl⟩
theorem c_90 : zf Tryz.prog 90 := ⟨Tryz.f90, Tryz.func90, rfl, by kernel_rfl⟩
theorem c_91 : zf Tryz.prog 91 := ⟨Tryz.f91, Tryz.func91, rfl, by kernel_rfl⟩
theorem c_92 : zf Tryz.prog 92 := ⟨Tryz.f92, Tryz.func92, rfl, by kernel_rfl⟩
theorem c_93 : zf Tryz.prog 93 := ⟨Tryz.f93, Tryz.func93, rfl, by kernel_rfl⟩
theorem c_95 : zf Tryz.prog 95 := ⟨Tryz.f95, Tryz.func95, rfl, by kernel_rfl⟩
theorem c_96 : zf Tryz.prog 96 := ⟨Tryz.f96, Tryz.func96, rfl, by kernel_rfl⟩
theorem c_97 : zf Tryz.prog 97 := ⟨Tryz.f97, Tryz.func97, rfl, by kernel_rfl⟩
theorem c_99 : zf Tryz.prog 99 := ⟨Tryz.f99, Tryz.func99, rfl, by kernel_rfl⟩
theorem c_100 : zf Tryz.prog 100 := ⟨Tryz.f100, Tryz.func100, rfl, by kernel_rfl⟩
theorem c_101 : zf Tryz.prog 101 := ⟨Tryz.f101, Tryz.func101, rfl, by kernel_rfl⟩
theorem c_102 : zf Tryz.prog 102 := ⟨Tryz.f102, Tryz.func102, rfl, by kernel_rfl⟩
theorem c_109 : zf Tryz.prog 109 := ⟨Tryz.f109, Tryz.func109, rfl, by kernel_rfl⟩
theorem c_110 : zf Tryz.prog 110 := ⟨Tryz.f110, Tryz.func110, rfl, by kernel_rfl⟩
theorem c_111 : zf Tryz.prog 111 := ⟨Tryz.f111, Tryz.func111, rfl, by kernel_rfl⟩
theorem c_112 : zf Tryz.prog 112 := ⟨Tryz.f112, Tryz.func112, rfl, by kernel_rfl⟩
theorem c_113 : zf Tryz.prog 113 := ⟨Tryz.f113, Tryz.func113, rfl, by kernel_rfl⟩
theorem c_114 : zf Tryz.prog 114 := ⟨Tryz.f114, Tryz.func114, rfl, by kernel_rfl⟩
theorem c_116 : zf Tryz.prog 116 := ⟨Tryz.f116, Tryz.func116, rfl, by kernel_rfl⟩
theorem c_117 : zf Tryz.prog 117 := ⟨Tryz.f117, Tryz.func117, rfl, by kernel_rfl⟩
theorem c_119 : zf Tryz.prog 119 := ⟨Tryz.f119, Tryz.func119, rfl, by kernel_rfl⟩
theorem zkF : zf Tryz.prog 120 := ⟨Tryz.f120, Tryz.func120, rfl, by kernel_rfl⟩
theorem c_121 : zf Tryz.prog 121 := ⟨Tryz.f121, Tryz.func121, rfl, by kernel_rfl⟩
theorem c_123 : zf Tryz.prog 123 := ⟨Tryz.f123, Tryz.func123, rfl, by kernel_rfl⟩
theorem c_124 : zf Tryz.prog 124 := ⟨Tryz.f124, Tryz.func124, rfl, by kernel_rfl⟩
theorem zjO : zf Tryz.prog 128 := ⟨Tryz.f128, Tryz.func128, rfl, by kernel_rfl⟩
theorem c_137 : zf Tryz.prog 137 := ⟨Tryz.f137, Tryz.func137, rfl, by kernel_rfl⟩
theorem c_138 : zf Tryz.prog 138 := ⟨Tryz.f138, Tryz.func138, rfl, by kernel_rfl⟩
theorem c_144 : zf Tryz.prog 144 := ⟨Tryz.f144, Tryz.func144, rfl, by kernel_rfl⟩
theorem c_145 : zf Tryz.prog 145 := ⟨Tryz.f145, Tryz.func145, rfl, by kernel_rfl⟩
theorem c_146 : zf Tryz.prog 146 := ⟨Tryz.f146, Tryz.func146, rfl, by kernel_rfl⟩
theorem c_147 : zf Tryz.prog 147 := ⟨Tryz.f147, Tryz.func147, rfl, by kernel_rfl⟩
theorem zkG : zf Tryz.prog 148 := ⟨Tryz.f148, Tryz.func148, rfl, by kernel_rfl⟩
theorem c_149 : zf Tryz.prog 149 := ⟨Tryz.f149, Tryz.func149, rfl, by kernel_rfl⟩
theorem c_153 : zf Tryz.prog 153 := ⟨Tryz.f153, Tryz.func153, rfl, by kernel_rfl⟩
theorem zkH : zf Tryz.prog 154 := ⟨Tryz.f154, Tryz.func154, rfl, by kernel_rfl⟩
theorem c_155 : zf Tryz.prog 155 := ⟨Tryz.f155, Tryz.func155, rfl, by kernel_rfl⟩
theorem c_158 : zf Tryz.prog 158 := ⟨Tryz.f158, Tryz.func158, rfl, by kernel_rfl⟩
theorem c_159 : zf Tryz.prog 159 := ⟨Tryz.f159, Tryz.func159, rfl, by kernel_rfl⟩
theorem c_173 : zf Tryz.prog 173 := ⟨Tryz.f173, Tryz.func173, rfl, by kernel_rfl⟩
theorem c_175 : zf Tryz.prog 175 := ⟨Tryz.f175, Tryz.func175, rfl, by kernel_rfl⟩
theorem c_176 : zf Tryz.prog 176 := ⟨Tryz.f176, Tryz.func176, rfl, by kernel_rfl⟩
theorem c_183 : zf Tryz.prog 183 := ⟨Tryz.f183, Tryz.func183, rfl, by kernel_rfl⟩
end Go.Proofs
end
section
namespace Go.Proofs
open Go.Dk Go.Dm Go.RowKit
theorem ze5 (s : Str) (c : UInt8) (R : Int) (w0 : World) (hG : zA w0) (hm : strings_IndexByte s c = some R) :
    Calls Tryz.prog 183 #[str s, zM c] w0 fun e w' => e = .returned (int R) ∧ Below w0.heap.size w0 w' := by
  refine (Tryz.strings_IndexByte ⟨s.toArray⟩ c.toNat w0).mono fun e w' ⟨he, hw⟩ => ?_
  subst he hw
  refine ⟨?_, Below.refl _ _⟩
  unfold strings_IndexByte at hm
  rw [zjx] at hm
  cases hm
  simp
theorem zex (s t : Str) (R : Int) (w0 : World) (hG : zA w0) (hm : strings_Index s t = some R) :
    Calls Tryz.prog 152 #[str s, str t] w0 fun e w' => e = .returned (int R) ∧ Below w0.heap.size w0 w' := by
  unfold strings_Index at hm
  split at hm
  · rename_i hs
    obtain ⟨m, hg⟩ := hG.max
    refine (Tryz.strings_Index ⟨s.toArray⟩ ⟨t.toArray⟩ m w0 hs hg).mono fun e w' ⟨he, hw⟩ => ?_
    subst he hw
    rw [zkb] at hm
    cases hm
    exact ⟨rfl, Below.refl _ _⟩
  · cases hm
theorem zij (s t : Str) (R : Str × Str × Bool) (w0 : World) (hG : zA w0) (hm : strings_Cut s t = some R) :
    Calls Tryz.prog 81 #[str s, str t] w0 fun e w' => e = .returned (.tuple #[str R.1, str R.2.1, .bool R.2.2]) ∧ Below w0.heap.size w0 w' := by
  unfold strings_Cut at hm
  split at hm
  · rename_i hs
    obtain ⟨m, hg⟩ := hG.max
    refine (Tryz.strings_Cut ⟨s.toArray⟩ ⟨t.toArray⟩ m w0 hs hg).mono fun e w' ⟨he, n, hw⟩ => ?_
    subst he hw
    cases hm
    exact ⟨rfl, ⟨rfl, rfl, rfl, Nat.le_refl _, fun _ _ => rfl⟩⟩
  · cases hm
theorem ze6 (n b : Int) (R : Str) (w0 : World) (hG : zbf w0) (hm : zbH n b = some R) :
    Calls Tryz.prog 176 #[int n, int b] w0 fun e w' => e = .returned (str R) ∧ Below w0.heap.size w0 w' := by
  unfold zbH at hm
  split at hm
  · rename_i h
    obtain ⟨h1, rfl⟩ := h
    obtain ⟨h2, h3⟩ := zdI.1 h1
    cases hm
    refine (Tryz.strconv_FormatInt_10 n h2 h3 w0 hG.2).mono fun e w' ⟨he, k, os, hw⟩ => ?_
    subst he hw
    exact ⟨rfl, Lib.below_grow _ _ (Nat.le_refl _) _ _⟩
  · cases hm
theorem zg2 (s sep : Str) (R : List Str) (w0 : World) (hG : zA w0) (hm : strings_Split s sep = some R) :
    Calls Tryz.prog 119 #[str s, str sep] w0 fun e w' => ∃ (p0 : Option Addr) (c0 : Nat), e = .returned (.slice p0 R.length c0) ∧ Own w0 [] w' [.row (.slice p0 R.length c0) 9 1 R.length (cells zp R)] := by
  unfold strings_Split at hm
  split at hm
  · rename_i hs
    obtain ⟨m, hg⟩ := hG.max
    refine (Tryz.strings_Split ⟨s.toArray⟩ ⟨sep.toArray⟩ m w0 hs.1 hg hs.2).mono fun e w' ⟨he, hw⟩ => ?_
    subst he hw
    have hlen := Go.Lib.splitB_all ⟨sep.toArray⟩ hs.2 0 _ ⟨s.toArray⟩ rfl
    have hdat := Go.Lib.splitB_data ⟨sep.toArray⟩ 0 (Go.Lib.countB ⟨s.toArray⟩ ⟨sep.toArray⟩) ⟨s.toArray⟩
    have hR : R = (Go.Lib.splitB ⟨sep.toArray⟩ 0 (Go.Lib.countB ⟨s.toArray⟩ ⟨sep.toArray⟩) ⟨s.toArray⟩).map (·.data.toList) := by
      rw [hdat]; exact (Option.some.inj hm).symm
    have hRl : R.length = Go.Lib.countB ⟨s.toArray⟩ ⟨sep.toArray⟩ + 1 := by rw [hR, List.length_map, hlen]
    have hcells : (Go.Lib.splitB ⟨sep.toArray⟩ 0 (Go.Lib.countB ⟨s.toArray⟩ ⟨sep.toArray⟩) ⟨s.toArray⟩).map Value.string = cells zp R := by
      rw [hR]
      generalize Go.Lib.splitB _ _ _ _ = l
      induction l with
      | nil => rfl
      | cons x l ih => obtain ⟨⟨x⟩⟩ := x; rw [List.map_cons, List.map_cons, ih]; rfl
    have hle := Go.Lib.countB_le ⟨sep.toArray⟩ hs.2 _ ⟨s.toArray⟩ (Nat.le_refl _)
    have hsz : (⟨s.toArray⟩ : ByteArray).size = s.length := rfl
    have hO := (Own.refl w0).newRow (cells zp R) 9 1 R.length (zaE (enc := zp) (sz := 1) (fun _ => rfl) R) (by unfold maxLen; omega)
    rw [hcells, ← hRl]
    exact ⟨_, _, rfl, hO⟩
  · cases hm
theorem zhW (s cs : Str) (R : Str) (w0 : World) (hG : zA w0) (hm : zem s cs = some R) :
    Calls Tryz.prog 91 #[str s, str cs] w0 fun e w' => e = .returned (str R) ∧ Below w0.heap.size w0 w' := by
  unfold zem at hm
  split at hm
  · rename_i hs
    refine (Any.strings_Trim_laid Tryz.lays160 (by kernel_rfl) ⟨s.toArray⟩ ⟨cs.toArray⟩ w0 (Nat.le_trans (Nat.le_of_lt hs.1) (by decide)) hs.2.1 (fun j b hb => ?_)).mono fun e w' ⟨he, hw⟩ => ?_
    · have := List.all_eq_true.1 hs.2.2 b (List.mem_of_getElem? hb)
      simpa using this
    · subst he
      cases hm
      exact ⟨rfl, hw⟩
  · cases hm
theorem ze7 (s cs : Str) (R : Str) (w0 : World) (hG : zA w0) (hm : zcD s cs = some R) :
    Calls Tryz.prog 93 #[str s, str cs] w0 fun e w' => e = .returned (str R) ∧ Below w0.heap.size w0 w' := by
  unfold zcD at hm
  split at hm
  · rename_i hs
    refine (Any.strings_TrimRight_laid Tryz.lays162 (by kernel_rfl) ⟨s.toArray⟩ ⟨cs.toArray⟩ w0 (Nat.le_trans (Nat.le_of_lt hs.1) (by decide)) hs.2.1 (fun j b hb => ?_)).mono fun e w' ⟨he, hw⟩ => ?_
    · have := List.all_eq_true.1 hs.2.2 b (List.mem_of_getElem? hb)
      simpa using this
    · subst he
      cases hm
      exact ⟨rfl, hw⟩
  · cases hm
theorem zhX (l : List Str) (sep : Str) (R : Str) (w0 : World) (hG : zA w0) {x_p : Option Addr} {x_c : Nat} (hs0 : zL w0 x_p (cells zp l)) (hc0 : l.length ≤ x_c) (hm : strings_Join l sep = some R) :
    Calls Tryz.prog 89 #[.slice x_p l.length x_c, str sep] w0 fun e w' => e = .returned (str R) ∧ Below w0.heap.size w0 w' := by
  unfold strings_Join at hm
  split at hm
  · rename_i hb
    cases hm
    have hmap : (l.map fun x => (⟨x.toArray⟩ : ByteArray)).map (·.data.toList) = l := by
      rw [List.map_map]; exact List.map_id' l
    cases x_p with
    | none =>
      have hnil : cells zp l = [] := hs0
      have : l = [] := by
        cases l with
        | nil => rfl
        | cons x l => simp [cells, zp] at hnil
      subst this
      exact (Tryz.strings_Join_none none x_c ⟨sep.toArray⟩ w0).mono fun e w' h => by
        obtain ⟨he, hw⟩ := h
        subst he hw
        exact ⟨rfl, Below.refl _ _⟩
    | some a =>
      obtain ⟨bk, o, spot⟩ := a
      obtain ⟨h1, h2, h3⟩ := hs0
      simp only at h1; subst h1
      have := Tryz.strings_Join bk o x_c (l.map fun x => (⟨x.toArray⟩ : ByteArray)) ⟨sep.toArray⟩ w0 (fun j x hx => ?_) h2 (by simpa using hb.1) (by simpa using hc0) (by rw [hmap]; exact hb.2)
      · rw [hmap, List.length_map] at this
        exact this
      · rw [List.getElem?_map] at hx
        obtain ⟨y, hy, rfl⟩ := Option.map_eq_some_iff.1 hx
        refine h3 j _ ?_
        have := ze1 (enc := zp) (sz := 1) (fun _ => rfl) l j 0 y hy (by omega)
        rw [Nat.mul_one, Nat.add_zero] at this
        exact this
  · cases hm
end Go.Proofs
end
