/-
  StageOnce returns true for all arguments that together are of bulk at most 1048576, and leaves them as they were (the second form's tied card). Conditions: the bulk alone.
-/
import Derived.Test.YtinncambjiffoaaGreatDoorRune
import Derived.Test.YtinncambjiffoaaGreatDoorW17
import Derived.Test.YtinncambjiffoaaGreatDoorT39O
import Derived.Test.YtinncambjiffoaaGreatDoorCards
import Derived.Test.YtinncambjiffoaaGreatDoorTie
import Derived.Shelf.Vars
import Derived.LaidLaws
import Derived.MakeChecks
import Derived.SevenTiedAt
set_option linter.unusedVariables false
set_option linter.unusedSimpArgs false
set_option maxRecDepth 100000
namespace Go.Proofs.YtinncambjiffoaaGreatDoor.jStageOnce
open Go.Dk Go.Dm Go.ChangeShapes Go.WideShapes Go.ChangeAt Go.RowKit Go.Deep
open Go.ChangeMaps (open_string shut_string)

theorem inI_wf {n : Int} (h : (Lit.int .i64 n).wf = true) : inI n = true := h

theorem own : ownKnob Tryz.prog.godebug = none := by kernel_rfl
theorem laidOut : laidOutB Tryz.prog = true := by kernel_rfl

theorem cells3 : Tryz.prog.cellsOf 3 = 1 := by kernel_rfl
theorem cells9 : Tryz.prog.cellsOf 9 = 1 := by kernel_rfl
theorem cells22 : Tryz.prog.cellsOf 22 = 1 := by kernel_rfl
theorem cells24 : Tryz.prog.cellsOf 24 = 6 := by kernel_rfl
theorem cells25 : Tryz.prog.cellsOf 25 = 1 := by kernel_rfl
theorem cells26 : Tryz.prog.cellsOf 26 = 1 := by kernel_rfl
theorem cells28 : Tryz.prog.cellsOf 28 = 7 := by kernel_rfl
theorem cells54 : Tryz.prog.cellsOf 54 = 2 := by kernel_rfl
theorem cells98 : Tryz.prog.cellsOf 98 = 2 := by kernel_rfl
theorem types24 : Tryz.prog.cellTypes Tryz.prog.depth 24 = some [9, 9, 9, 9, 22, 22] := by kernel_rfl
theorem types28 : Tryz.prog.cellTypes Tryz.prog.depth 28 = some [25, 9, 9, 3, 9, 3, 26] := by kernel_rfl

theorem list2 {α : Type} {l : List α} (h : l.length = 2) : ∃ x0 x1, l = [x0, x1] := by
  match l, h with
  | [x0, x1], _ => exact ⟨_, _, rfl⟩
theorem list6 {α : Type} {l : List α} (h : l.length = 6) : ∃ x0 x1 x2 x3 x4 x5, l = [x0, x1, x2, x3, x4, x5] := by
  match l, h with
  | [x0, x1, x2, x3, x4, x5], _ => exact ⟨_, _, _, _, _, _, rfl⟩
theorem list7 {α : Type} {l : List α} (h : l.length = 7) : ∃ x0 x1 x2 x3 x4 x5 x6, l = [x0, x1, x2, x3, x4, x5, x6] := by
  match l, h with
  | [x0, x1, x2, x3, x4, x5, x6], _ => exact ⟨_, _, _, _, _, _, _, rfl⟩

theorem length_le {H : Type} (l : List (DataW H)) : l.length ≤ Rows.uptoBulkAll l := by
  induction l with
  | nil => simp [Rows.uptoBulkAll]
  | cons x r ih =>
    have : 1 ≤ Rows.uptoBulk x := by
      cases x with
      | lit l => cases l <;> simp [Rows.uptoBulk]
      | nil => simp [Rows.uptoBulk]
      | ptr d => simp [Rows.uptoBulk]
      | slice elems spare => simp [Rows.uptoBulk]
      | agg parts => simp [Rows.uptoBulk]
      | iface t d => simp [Rows.uptoBulk]
      | map entries => simp [Rows.uptoBulk]
      | held h => simp [Rows.uptoBulk]
    simp only [Rows.uptoBulkAll, List.length_cons]; omega
theorem list_bulk {H α : Type} {d : DataW H} {xs : List α} (h : (∃ E S, d = .slice E S ∧ E.length = xs.length) ∨ xs = []) : xs.length ≤ Rows.uptoBulk d := by
  rcases h with ⟨E, S, rfl, he⟩ | rfl
  · have := length_le E
    simp only [Rows.uptoBulk]; omega
  · simp
theorem bulk_mem {H : Type} {y : DataW H} {ys : List (DataW H)} (h : y ∈ ys) : Rows.uptoBulk y ≤ Rows.uptoBulk (.agg ys) := by
  have : Rows.uptoBulk y ≤ Rows.uptoBulkAll ys := by
    induction ys with
    | nil => cases h
    | cons x r ih =>
      simp only [Rows.uptoBulkAll]
      rcases List.mem_cons.1 h with rfl | h
      · omega
      · have := ih h; omega
  simp only [Rows.uptoBulk]; omega

theorem opens_api_Swap : ztL Tryz.prog 98 zb (fun _ => True) := by
  intro H enc w base spare held fuel cs x h
  have hl := (DataW.trod_struct Tryz.underlying98 h).choose_spec.choose_spec.2.2.1
  rw [cells98] at hl
  obtain ⟨c0, c1, rfl⟩ := list2 hl
  obtain ⟨xs, n, _, hx, _, hxl, hf⟩ := DataW.trod_struct Tryz.underlying98 h
  obtain ⟨y0, y1, rfl⟩ := list2 hxl
  have h0 : DataW.trod enc Tryz.prog w base spare held n 9 [c0] = some y0 := by have := hf 0 _ rfl; simpa [cells9] using this
  obtain ⟨v0, e0, _⟩ := zdu Tryz.underlying9 _ _ _ _ _ _ _ _ h0
  simp only [List.cons.injEq, and_true] at e0
  subst e0
  have h1 : DataW.trod enc Tryz.prog w base spare held n 9 [c1] = some y1 := by have := hf 1 _ rfl; simpa [cells9] using this
  obtain ⟨v1, e1, _⟩ := zdu Tryz.underlying9 _ _ _ _ _ _ _ _ h1
  simp only [List.cons.injEq, and_true] at e1
  subst e1
  exact ⟨⟨v0, v1⟩, rfl, trivial⟩

theorem open_api_Env {H : Type} {enc : TypeId × Value → H} {w : World} {r : Reach} {b0 : Nat} {v : Value} {d : DataW H} {ps : List MemPlace} (hval : Value.okWide Tryz.prog w r b0 24 v) (hd : DataW.Trod enc Tryz.prog w 0 (fun _ => true) true 24 v d ps) :
    ∃ (c : api_Env) (ad0 : Option Addr) (cp0 : Nat) (ad1 : Option Addr) (cp1 : Nat), v = .agg #[str c.Client, str c.Host, str c.Scheme, str c.By, .slice ad0 c.Domains.length cp0, .slice ad1 c.Locations.length cp1] ∧ zy w ad0 (cells zb c.Domains) ∧ c.Domains.length ≤ cp0 ∧ c.Domains.length ≤ Rows.uptoBulk d ∧ zy w ad1 (cells zb c.Locations) ∧ c.Locations.length ≤ cp1 ∧ c.Locations.length ≤ Rows.uptoBulk d := by
  have hval' := hval
  simp only [Value.okWide, Tryz.underlying24] at hval'
  obtain ⟨cs, rfl, hsz, ts, hts, _, hrow⟩ := hval'
  rw [types24] at hts
  obtain rfl := Option.some.inj hts
  obtain ⟨fuel, hf⟩ := hd
  obtain ⟨cs⟩ := cs
  have hsz' : cs.length = 6 := by rw [cells24] at hsz; exact hsz
  obtain ⟨c0, c1, c2, c3, c4, c5, rfl⟩ := list6 hsz'
  have hf : DataW.trod enc Tryz.prog w 0 (fun _ => true) true fuel 24 [c0, c1, c2, c3, c4, c5] = some (d, ps) := by simpa [Value.cells] using hf
  obtain ⟨xs, n, _, hx, _, hxl, hf⟩ := DataW.trod_struct Tryz.underlying24 hf
  obtain ⟨y0, y1, y2, y3, y4, y5, rfl⟩ := list6 hxl
  have h0 : DataW.trod enc Tryz.prog w 0 (fun _ => true) true n 9 [c0] = some y0 := by have := hf 0 _ rfl; simpa [cells9] using this
  obtain ⟨v0, e0, _⟩ := zdu Tryz.underlying9 _ _ _ _ _ _ _ _ h0
  simp only [List.cons.injEq, and_true] at e0
  subst e0
  have h1 : DataW.trod enc Tryz.prog w 0 (fun _ => true) true n 9 [c1] = some y1 := by have := hf 1 _ rfl; simpa [cells9] using this
  obtain ⟨v1, e1, _⟩ := zdu Tryz.underlying9 _ _ _ _ _ _ _ _ h1
  simp only [List.cons.injEq, and_true] at e1
  subst e1
  have h2 : DataW.trod enc Tryz.prog w 0 (fun _ => true) true n 9 [c2] = some y2 := by have := hf 2 _ rfl; simpa [cells9] using this
  obtain ⟨v2, e2, _⟩ := zdu Tryz.underlying9 _ _ _ _ _ _ _ _ h2
  simp only [List.cons.injEq, and_true] at e2
  subst e2
  have h3 : DataW.trod enc Tryz.prog w 0 (fun _ => true) true n 9 [c3] = some y3 := by have := hf 3 _ rfl; simpa [cells9] using this
  obtain ⟨v3, e3, _⟩ := zdu Tryz.underlying9 _ _ _ _ _ _ _ _ h3
  simp only [List.cons.injEq, and_true] at e3
  subst e3
  have h4 : DataW.trod enc Tryz.prog w 0 (fun _ => true) true n 22 [c4] = some y4 := by have := hf 4 _ rfl; simpa [cells22] using this
  have h5 : DataW.trod enc Tryz.prog w 0 (fun _ => true) true n 22 [c5] = some y5 := by have := hf 5 _ rfl; simpa [cells22] using this
  obtain ⟨u0, hu0, hok0⟩ := hrow 4 c4 (by simp)
  obtain rfl : u0 = 22 := by simpa using hu0.symm
  have hv0 : Value.okWide Tryz.prog w r b0 22 c4 := by
    simp only [Value.okWide, Tryz.underlying22]; exact hok0
  obtain ⟨a0, ln0, cp0_, rfl⟩ := okWide_slice Tryz.underlying22 hv0
  obtain ⟨ad0, l0, cp0, e_0, hS0, hC0, _, hb0⟩ := zm1 (d := y4.1) (ps := y4.2) Tryz.underlying22 cells98 (fun _ => rfl) opens_api_Swap hv0 ⟨n, by simpa [Value.cells] using h4⟩
  obtain ⟨u1, hu1, hok1⟩ := hrow 5 c5 (by simp)
  obtain rfl : u1 = 22 := by simpa using hu1.symm
  have hv1 : Value.okWide Tryz.prog w r b0 22 c5 := by
    simp only [Value.okWide, Tryz.underlying22]; exact hok1
  obtain ⟨a1, ln1, cp1_, rfl⟩ := okWide_slice Tryz.underlying22 hv1
  obtain ⟨ad1, l1, cp1, e_1, hS1, hC1, _, hb1⟩ := zm1 (d := y5.1) (ps := y5.2) Tryz.underlying22 cells98 (fun _ => rfl) opens_api_Swap hv1 ⟨n, by simpa [Value.cells] using h5⟩
  refine ⟨⟨v0, v1, v2, v3, l0, l1⟩, ad0, cp0, ad1, cp1, by rw [e_0, e_1], hS0, hC0, by
    show l0.length ≤ Rows.uptoBulk d
    have h1 : l0.length ≤ Rows.uptoBulk y4.1 := list_bulk hb0
    have k0 : Rows.uptoBulk y4.1 ≤ Rows.uptoBulk d := by rw [(Prod.mk.inj hx).1]; exact bulk_mem (by simp)
    omega, hS1, hC1, by
    show l1.length ≤ Rows.uptoBulk d
    have h1 : l1.length ≤ Rows.uptoBulk y5.1 := list_bulk hb1
    have k0 : Rows.uptoBulk y5.1 ≤ Rows.uptoBulk d := by rw [(Prod.mk.inj hx).1]; exact bulk_mem (by simp)
    omega⟩

theorem opens_api_Field : ztL Tryz.prog 54 za (fun _ => True) := by
  intro H enc w base spare held fuel cs x h
  have hl := (DataW.trod_struct Tryz.underlying54 h).choose_spec.choose_spec.2.2.1
  rw [cells54] at hl
  obtain ⟨c0, c1, rfl⟩ := list2 hl
  obtain ⟨xs, n, _, hx, _, hxl, hf⟩ := DataW.trod_struct Tryz.underlying54 h
  obtain ⟨y0, y1, rfl⟩ := list2 hxl
  have h0 : DataW.trod enc Tryz.prog w base spare held n 9 [c0] = some y0 := by have := hf 0 _ rfl; simpa [cells9] using this
  obtain ⟨v0, e0, _⟩ := zdu Tryz.underlying9 _ _ _ _ _ _ _ _ h0
  simp only [List.cons.injEq, and_true] at e0
  subst e0
  have h1 : DataW.trod enc Tryz.prog w base spare held n 9 [c1] = some y1 := by have := hf 1 _ rfl; simpa [cells9] using this
  obtain ⟨v1, e1, _⟩ := zdu Tryz.underlying9 _ _ _ _ _ _ _ _ h1
  simp only [List.cons.injEq, and_true] at e1
  subst e1
  exact ⟨⟨v0, v1⟩, rfl, trivial⟩

theorem open_api_Head {H : Type} {enc : TypeId × Value → H} {w : World} {r : Reach} {b0 : Nat} {v : Value} {d : DataW H} {ps : List MemPlace} (hval : Value.okWide Tryz.prog w r b0 28 v) (hd : DataW.Trod enc Tryz.prog w 0 (fun _ => true) true 28 v d ps) :
    ∃ (c : api_Head) (ad0 : Option Addr) (cp0 : Nat), v = .agg #[int c.Kind, str c.Method, str c.Target, int c.Code, str c.Reason, int c.Minor, .slice ad0 c.Fields.length cp0] ∧ inI c.Kind = true ∧ inI c.Code = true ∧ inI c.Minor = true ∧ zy w ad0 (cells za c.Fields) ∧ c.Fields.length ≤ cp0 ∧ c.Fields.length ≤ Rows.uptoBulk d := by
  have hval' := hval
  simp only [Value.okWide, Tryz.underlying28] at hval'
  obtain ⟨cs, rfl, hsz, ts, hts, _, hrow⟩ := hval'
  rw [types28] at hts
  obtain rfl := Option.some.inj hts
  obtain ⟨fuel, hf⟩ := hd
  obtain ⟨cs⟩ := cs
  have hsz' : cs.length = 7 := by rw [cells28] at hsz; exact hsz
  obtain ⟨c0, c1, c2, c3, c4, c5, c6, rfl⟩ := list7 hsz'
  have hf : DataW.trod enc Tryz.prog w 0 (fun _ => true) true fuel 28 [c0, c1, c2, c3, c4, c5, c6] = some (d, ps) := by simpa [Value.cells] using hf
  obtain ⟨xs, n, _, hx, _, hxl, hf⟩ := DataW.trod_struct Tryz.underlying28 hf
  obtain ⟨y0, y1, y2, y3, y4, y5, y6, rfl⟩ := list7 hxl
  have h0 : DataW.trod enc Tryz.prog w 0 (fun _ => true) true n 25 [c0] = some y0 := by have := hf 0 _ rfl; simpa [cells25] using this
  obtain ⟨v0, e0, _, v0_w⟩ := DataW.trod_int Tryz.underlying25 h0
  simp only [List.cons.injEq, and_true] at e0
  subst e0
  have h1 : DataW.trod enc Tryz.prog w 0 (fun _ => true) true n 9 [c1] = some y1 := by have := hf 1 _ rfl; simpa [cells9] using this
  obtain ⟨v1, e1, _⟩ := zdu Tryz.underlying9 _ _ _ _ _ _ _ _ h1
  simp only [List.cons.injEq, and_true] at e1
  subst e1
  have h2 : DataW.trod enc Tryz.prog w 0 (fun _ => true) true n 9 [c2] = some y2 := by have := hf 2 _ rfl; simpa [cells9] using this
  obtain ⟨v2, e2, _⟩ := zdu Tryz.underlying9 _ _ _ _ _ _ _ _ h2
  simp only [List.cons.injEq, and_true] at e2
  subst e2
  have h3 : DataW.trod enc Tryz.prog w 0 (fun _ => true) true n 3 [c3] = some y3 := by have := hf 3 _ rfl; simpa [cells3] using this
  obtain ⟨v3, e3, _, v3_w⟩ := DataW.trod_int Tryz.underlying3 h3
  simp only [List.cons.injEq, and_true] at e3
  subst e3
  have h4 : DataW.trod enc Tryz.prog w 0 (fun _ => true) true n 9 [c4] = some y4 := by have := hf 4 _ rfl; simpa [cells9] using this
  obtain ⟨v4, e4, _⟩ := zdu Tryz.underlying9 _ _ _ _ _ _ _ _ h4
  simp only [List.cons.injEq, and_true] at e4
  subst e4
  have h5 : DataW.trod enc Tryz.prog w 0 (fun _ => true) true n 3 [c5] = some y5 := by have := hf 5 _ rfl; simpa [cells3] using this
  obtain ⟨v5, e5, _, v5_w⟩ := DataW.trod_int Tryz.underlying3 h5
  simp only [List.cons.injEq, and_true] at e5
  subst e5
  have h6 : DataW.trod enc Tryz.prog w 0 (fun _ => true) true n 26 [c6] = some y6 := by have := hf 6 _ rfl; simpa [cells26] using this
  obtain ⟨u0, hu0, hok0⟩ := hrow 6 c6 (by simp)
  obtain rfl : u0 = 26 := by simpa using hu0.symm
  have hv0 : Value.okWide Tryz.prog w r b0 26 c6 := by
    simp only [Value.okWide, Tryz.underlying26]; exact hok0
  obtain ⟨a0, ln0, cp0_, rfl⟩ := okWide_slice Tryz.underlying26 hv0
  obtain ⟨ad0, l0, cp0, e_0, hS0, hC0, _, hb0⟩ := zm1 (d := y6.1) (ps := y6.2) Tryz.underlying26 cells54 (fun _ => rfl) opens_api_Field hv0 ⟨n, by simpa [Value.cells] using h6⟩
  refine ⟨⟨v0, v1, v2, v3, v4, v5, l0⟩, ad0, cp0, by rw [e_0], inI_wf v0_w, inI_wf v3_w, inI_wf v5_w, hS0, hC0, by
    show l0.length ≤ Rows.uptoBulk d
    have h1 : l0.length ≤ Rows.uptoBulk y6.1 := list_bulk hb0
    have k0 : Rows.uptoBulk y6.1 ≤ Rows.uptoBulk d := by rw [(Prod.mk.inj hx).1]; exact bulk_mem (by simp)
    omega⟩

theorem glob_size (W : World) (h : W.ShapedOpen Tryz.prog) : 6 ≤ W.heap.size := by
  have h0 : (((begin Tryz.prog (fun _ _ => 0) default).world.heap[5]?).bind Obj.row?).isSome = true := by kernel_rfl
  obtain ⟨⟨zero, t⟩, hz⟩ := Option.isSome_iff_exists.1 h0
  obtain ⟨cs, hh, _, _⟩ := h.1 5 zero t (of_decide_eq_true (by kernel_rfl)) hz
  have := (Array.getElem?_eq_some_iff.1 hh).1
  omega
theorem glob0 (W : World) (h : W.ShapedOpen Tryz.prog) : zt W :=
  ⟨glob_size W h, Go.Proofs.cell_of_shapedOpen_int (zero := #[.int .i64 0]) (t := 3) (g := 0) h (of_decide_eq_true (by kernel_rfl)) (by kernel_rfl) rfl (by kernel_rfl) (by kernel_rfl) Tryz.underlying3⟩
theorem glob (W : World) (h : W.ShapedOpen Tryz.prog) (hL : laidMetH Tryz.prog Rows.stageOnceUptoRow.laid W) : zaG W := by
  refine ⟨glob0 W h, ?_⟩
  rw [MakeChecks.laidMetH_plain _ _ _ (by kernel_rfl)] at hL
  have e : (Rows.laid_internal_strconv_uint64pow10 : DataW Unit) = Go.Lib.tabData .u64 Go.Lib.pow10Tab := by kernel_rfl
  have h1 : laidMet Tryz.prog [("math/bits.deBruijn32tab", Rows.laid_math_bits_deBruijn32tab), ("math/bits.deBruijn64tab", Rows.laid_math_bits_deBruijn64tab), ("internal/strconv.uint64pow10", Rows.laid_internal_strconv_uint64pow10), ("unicode/utf8.acceptRanges", Rows.laid_unicode_utf8_acceptRanges), ("unicode/utf8.first", Rows.laid_unicode_utf8_first)] W := hL
  have h2 := (zmj (zmj h1))
  rw [e] at h2
  exact Go.Lib.tabIs_of_head (g := 1) (t := 257) (e := 236) (n := 20) (by kernel_rfl) (by kernel_rfl) Tryz.underlying257 Tryz.underlying236 (by kernel_rfl) (by kernel_rfl) h2

theorem contract (H : Type) (enc : TypeId × Value → H) (W : World) (base : Nat) (args : Array Value) (ds gs : List (DataW H)) (before : List MemPlace)
    (hval : ∀ (j : Nat) t v, Tryz.f4.params[j]? = some t → args[j]? = some v → Value.okWide Tryz.prog W .any base t v)
    (hW : DataW.Whole enc Tryz.prog Tryz.f4.params.toList Rows.stageOnceSpec.vars false W args.toList ds gs before)
    (hk : Rows.uptoSmall H (ds ++ gs) = true) (hsh : W.ShapedOpen Tryz.prog) (hL : laidMetH Tryz.prog Rows.stageOnceUptoRow.laid W) :
    Calls Tryz.prog 4 args W fun e W' => ∃ v, e = .returned v ∧ Rows.stageOnceSpec.post enc Tryz.prog Tryz.f4 false true false false W args v W' := by
  have hW' := hW
  obtain ⟨p, q, hA0, hV, rfl, hfz, hnd⟩ := hW
  have hA : DataW.TrodAll enc Tryz.prog W 0 (fun _ => true) true Tryz.f4.params.toList args.toList ds p := hA0
  rw [Tryz.params4] at hA hval
  obtain ⟨v0, vs0, d0, ds0, p0, q0, hargs, rfl, rfl, h0, r0⟩ := trodAll_cons hA
  obtain ⟨v1, vs1, d1, ds1, p1, q1, rfl, rfl, rfl, h1, r1⟩ := trodAll_cons r0
  obtain ⟨v2, vs2, d2, ds2, p2, q2, rfl, rfl, rfl, h2, r2⟩ := trodAll_cons r1
  obtain ⟨rfl, rfl, rfl⟩ := trodAll_nil r2
  obtain rfl : args = #[v0, v1, v2] := by cases args; simp_all
  obtain ⟨rfl, rfl⟩ := trodVars_none hV
  have hb : Rows.uptoBulkAll [d0, d1, d2] ≤ 1048576 := of_decide_eq_true hk
  simp only [Rows.uptoBulkAll] at hb
  obtain ⟨a0, ad0_0, cp0_0, ad0_1, cp0_1, rfl, s0_0, k0_0, hl0_0, s0_1, k0_1, hl0_1⟩ := open_api_Env (hval 0 24 v0 rfl rfl) h0
  obtain ⟨a1, rfl, _, _, hi1⟩ := open_int Tryz.underlying3 (hval 1 3 v1 rfl rfl) h1
  obtain ⟨a2, ad2_0, cp2_0, rfl, hi2_0, hi2_1, hi2_2, s2_0, k2_0, hl2_0⟩ := open_api_Head (hval 2 28 v2 rfl rfl) h2
  refine (zl8 a0 a1 a2 true W (glob W hsh hL) s0_0 k0_0 s0_1 k0_1 s2_0 k2_0 (zox a0 a1 a2 (by omega) (by omega) (inI_wf hi1) hi2_0 hi2_1 hi2_2 (by omega))).mono fun e W' ⟨he, bel⟩ => ?_
  subst he
  exact ⟨_, rfl, _, _, _, [], _, [], hW', trodAll_mk1 (shut_bool Tryz.underlying4 _), zlm laidOut bel (by kernel_rfl) hA0, rfl, bel.frame _, fun h => by cases h⟩

/-- The cells of a table that is laid. -/
def flatD : DataW Unit → List Value
  | .lit (.int k n) => [.int k n]
  | .lit (.bool b) => [.bool b]
  | .agg l => flatL l
  | _ => []
where flatL : List (DataW Unit) → List Value
  | [] => []
  | d :: l => flatD d ++ flatL l
def layInto (cs : List Value) : Obj → Obj
  | .cells _ t frozen => .cells cs.toArray t frozen
  | o => o
noncomputable def laidWorld (os : Os) (args : Array Value) : World :=
  { World.holding Tryz.prog os ⟨#[], args, []⟩ with heap := ((((((World.holding Tryz.prog os ⟨#[], args, []⟩).heap.modify 4 (layInto (flatD Rows.laid_math_bits_deBruijn32tab))).modify 5 (layInto (flatD Rows.laid_math_bits_deBruijn64tab))).modify 1 (layInto (flatD Rows.laid_internal_strconv_uint64pow10))).modify 3 (layInto (flatD Rows.laid_unicode_utf8_acceptRanges))).modify 2 (layInto (flatD Rows.laid_unicode_utf8_first))) }
abbrev wit : Array Value := #[.agg #[.string ⟨#[]⟩, .string ⟨#[]⟩, .string ⟨#[]⟩, .string ⟨#[]⟩, .slice none 0 0, .slice none 0 0], .int .i64 0, .agg #[.int .i64 0, .string ⟨#[]⟩, .string ⟨#[]⟩, .int .i64 0, .string ⟨#[]⟩, .int .i64 0, .slice none 0 0]]
theorem laid_met (os : Os) : laidMetH Tryz.prog Rows.stageOnceUptoRow.laid ((laidWorld os wit).forCall (fun _ _ => 0) ⟨#[], wit, []⟩).memory := by
  rw [MakeChecks.laidMetH_plain _ _ _ (by kernel_rfl)]
  exact laidMet_of_run' 8 (by kernel_rfl) (by kernel_rfl)
theorem lifted (os : Os) (started : os.Started) (H : Type) (enc : TypeId × Value → H) (F : Stop.Interp) :
    ReturnsInHanded {} Tryz.checked os 4 .any (fun w args => ((Rows.OpenSpec.upto Rows.stageOnceSpec).pre enc Tryz.prog Tryz.f4 Rows.stageOnceUptoRow.domain false w args ∧ laidMetH Tryz.prog Rows.stageOnceUptoRow.laid w) ∧ sizedMet enc Tryz.prog Tryz.f4 (Rows.OpenSpec.upto Rows.stageOnceSpec) false w args) (((Rows.OpenSpec.upto Rows.stageOnceSpec).at F).post enc Tryz.prog Tryz.f4 false true false false) := by
  refine zml (C := Tryz.checked) (s := Rows.OpenSpec.upto Rows.stageOnceSpec) (k := Rows.uptoSmall) (X := laidMetH Tryz.prog Rows.stageOnceUptoRow.laid) rfl (fun w tape i h => laidMetH.of_heap (w' := w.forCall tape i) (by rfl) h) own started (by kernel_rfl) Tryz.func4 (zmk (enc := enc) (C := Tryz.checked) (os := os) (f := 4) (fn := Tryz.f4) (s := Rows.OpenSpec.upto Rows.stageOnceSpec) (k := Rows.uptoSmall) rfl (conds := Rows.stageOnceUptoRow.domain) (apart := false) (X := laidMetH Tryz.prog Rows.stageOnceUptoRow.laid) false (laidWorld os wit) wit 8 rfl
      (World.shaped_of_RefB (by kernel_rfl) (by kernel_rfl)) (by kernel_rfl) (x := ([.agg [.lit (.string []), .lit (.string []), .lit (.string []), .lit (.string []), .nil, .nil], .lit (.int .i64 0), .agg [.lit (.int .i64 0), .lit (.string []), .lit (.string []), .lit (.int .i64 0), .lit (.string []), .lit (.int .i64 0), .nil]], [], [])) (by kernel_rfl) rfl (by kernel_rfl) (by kernel_rfl) (laid_met os)) ?_
  intro W base args ds gs before hval hW hk hsh hL
  exact contract H enc W base args ds gs before hval hW hk hsh hL
theorem jf1 : laidOutB Tryz.prog = true := by kernel_rfl
theorem jf2 : mapsRowed Tryz.prog = true := by kernel_rfl
theorem jf3 : (Rows.stageOnceUptoRow.inPlace == Tryz.prog.inPlace 4) = true := by kernel_rfl
theorem jf4 : (Rows.stageOnceUptoRow.unfollowed == Tryz.prog.unfollowed 4) = true := by kernel_rfl
theorem jf5 : (Rows.stageOnceUptoRow.recurses == Tryz.prog.recurses 4) = true := by kernel_rfl
theorem jf6 : (Rows.stageOnceUptoRow.named == Tryz.prog.varsNamed 4) = true := by kernel_rfl
theorem jf7 : Tryz.prog.stopsHeard = true := by kernel_rfl
theorem jf8 : Tryz.prog.mayEnter = true := by kernel_rfl
theorem jf9 : (Rows.stageOnceUptoRow.lifted == Tryz.prog.liftsFinal) = true := by kernel_rfl
theorem jf10 : (Tryz.prog.make == some Rows.stageOnceUptoRow.make) = true := by kernel_rfl
theorem jf11 : (Rows.stageOnceUptoRow.plainKeys == Tryz.prog.plainKeys) = true := by kernel_rfl
theorem closed : joinedFacts Tryz.prog 4 Tryz.f4 (Rows.OpenSpec.upto Rows.stageOnceSpec).bare Rows.stageOnceUptoRow = true := by
  unfold joinedFacts
  rw [jf1, jf2, jf3, jf4, jf5, jf6, jf7, jf8, jf9, jf10, jf11]
  kernel_rfl
theorem over : Rows.stageOnceUptoRow.holds Tryz.pinned (Rows.OpenSpec.upto Rows.stageOnceSpec) :=
  OpenClaim.holds_of_cond 4 Tryz.f4 rfl rfl rfl rfl rfl rfl rfl ⟨rfl, rfl, rfl, rfl, rfl⟩ rfl rfl rfl rfl rfl (by kernel_rfl) Tryz.func4 closed
    (of_decide_eq_true (by kernel_rfl)) (by unfold Func.isWrapper; first | (rw [if_pos (by decide +kernel)]; kernel_rfl) | (rw [if_neg (by decide +kernel)]; exact ⟨rfl, rfl⟩))
    (fun os started H enc _ F => lifted os started H enc F)
theorem proved : Rows.StageOnceUptoCardSaid :=
  Claim7.holds_tied_plain_at .later [] [.data, .data, .data, .data, .pinned] true (true, "98740e9a2f451929009e99d176c979cf60c7e6acd9cfc39d2bc9e4bd084dea65") false over (fun _ h => by cases h) (by kernel_rfl) (fun _ h => by cases h) stageOnceUpto_row_tie rfl ⟨rfl, rfl⟩ (by kernel_rfl) rfl
    (fun f fn hf hfn => by
      obtain rfl : f = 4 := Option.some.inj ((show Tryz.prog.funcNamed "doorstep/doorsteplaw39.StageOnce" = some 4 by kernel_rfl).symm.trans hf) |>.symm
      obtain rfl : fn = Tryz.f4 := (Option.some.inj (Tryz.func4.symm.trans hfn)).symm
      exact ⟨by kernel_rfl, fun j t ht => by
        rw [Tryz.params4] at ht
        have hm : t ∈ [24, 3, 28] := by simpa using Array.mem_of_getElem? ht
        have hall : ([24, 3, 28].all fun u => !Tryz.prog.wantsStandIn u) = true := by kernel_rfl
        exact (show Tryz.prog.wantsStandIn t = false by simpa using List.all_eq_true.1 hall t hm)⟩)
    (by kernel_rfl)
#print axioms proved
end Go.Proofs.YtinncambjiffoaaGreatDoor.jStageOnce
