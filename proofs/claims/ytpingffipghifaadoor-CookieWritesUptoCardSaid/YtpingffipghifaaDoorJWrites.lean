/-
  CookieWrites returns true for all arguments that together are of bulk at most 1048576, and leaves them as they were (the second form's tied card). Conditions: the bulk alone.
-/

import Derived.Test.YtpingffipghifaaDoorCards
import Derived.Test.YtpingffipghifaaDoorTie
import Derived.Test.YtpingffipghifaaDoorOpen
import Derived.Test.YtpingffipghifaaDoorW5
import Derived.Test.YtpingffipghifaaDoorT28P

import Derived.Shelf.Vars
import Derived.LaidLaws
import Derived.MakeChecks
import Derived.SevenTiedAt

set_option linter.unusedVariables false
set_option linter.unusedSimpArgs false
set_option maxRecDepth 100000
namespace Go.Proofs.YtpingffipghifaaDoor.jCookieWrites
open Go.Dk Go.Dm Go.ChangeShapes Go.WideShapes Go.ChangeAt Go.RowKit Go.Deep
open Go.ChangeMaps (open_string shut_string)

theorem own : ownKnob Tryd.prog.godebug = none := by kernel_rfl
theorem laidOut : laidOutB Tryd.prog = true := by kernel_rfl

theorem cells4 : Tryd.prog.cellsOf 4 = 1 := by kernel_rfl
theorem cells9 : Tryd.prog.cellsOf 9 = 1 := by kernel_rfl
theorem cells22 : Tryd.prog.cellsOf 22 = 1 := by kernel_rfl
theorem cells24 : Tryd.prog.cellsOf 24 = 3 := by kernel_rfl
theorem cells31 : Tryd.prog.cellsOf 31 = 3 := by kernel_rfl
theorem types24 : Tryd.prog.cellTypes Tryd.prog.depth 24 = some [9, 9, 22] := by kernel_rfl

theorem list3 {α : Type} {l : List α} (h : l.length = 3) : ∃ x0 x1 x2, l = [x0, x1, x2] := by
  match l, h with
  | [x0, x1, x2], _ => exact ⟨_, _, _, rfl⟩

theorem length_le {H : Type} (l : List (DataW H)) : l.length ≤ Rows.uptoBulkAll l := by
  induction l with
  | nil => simp [Rows.uptoBulkAll]
  | cons x r ih =>
    have : 1 ≤ Rows.uptoBulk x := by
      cases x with
      | lit l => cases l <;> simp [Rows.uptoBulk]
      | nil => simp [Rows.uptoBulk]
      | ptr d => simp [Rows.uptoBulk]
      | slice elems spare => simp [Rows.uptoBulk]
      | agg parts => simp [Rows.uptoBulk]
      | iface t d => simp [Rows.uptoBulk]
      | map entries => simp [Rows.uptoBulk]
      | held h => simp [Rows.uptoBulk]
    simp only [Rows.uptoBulkAll, List.length_cons]; omega
theorem list_bulk {H α : Type} {d : DataW H} {xs : List α} (h : (∃ E S, d = .slice E S ∧ E.length = xs.length) ∨ xs = []) : xs.length ≤ Rows.uptoBulk d := by
  rcases h with ⟨E, S, rfl, he⟩ | rfl
  · have := length_le E
    simp only [Rows.uptoBulk]; omega
  · simp
theorem bulk_mem {H : Type} {y : DataW H} {ys : List (DataW H)} (h : y ∈ ys) : Rows.uptoBulk y ≤ Rows.uptoBulk (.agg ys) := by
  have : Rows.uptoBulk y ≤ Rows.uptoBulkAll ys := by
    induction ys with
    | nil => cases h
    | cons x r ih =>
      simp only [Rows.uptoBulkAll]
      rcases List.mem_cons.1 h with rfl | h
      · omega
      · have := ih h; omega
  simp only [Rows.uptoBulk]; omega

theorem opens_api_Attr : Opens Tryd.prog 31 enc_api_Attr (fun _ => True) := by
  intro H enc w base spare held fuel cs x h
  have hl := (DataW.trod_struct Tryd.underlying31 h).choose_spec.choose_spec.2.2.1
  rw [cells31] at hl
  obtain ⟨c0, c1, c2, rfl⟩ := list3 hl
  obtain ⟨xs, n, _, hx, _, hxl, hf⟩ := DataW.trod_struct Tryd.underlying31 h
  obtain ⟨y0, y1, y2, rfl⟩ := list3 hxl
  have h0 : DataW.trod enc Tryd.prog w base spare held n 9 [c0] = some y0 := by have := hf 0 _ rfl; simpa [cells9] using this
  obtain ⟨v0, e0, _⟩ := opens_str Tryd.underlying9 _ _ _ _ _ _ _ _ h0
  simp only [List.cons.injEq, and_true] at e0
  subst e0
  have h1 : DataW.trod enc Tryd.prog w base spare held n 9 [c1] = some y1 := by have := hf 1 _ rfl; simpa [cells9] using this
  obtain ⟨v1, e1, _⟩ := opens_str Tryd.underlying9 _ _ _ _ _ _ _ _ h1
  simp only [List.cons.injEq, and_true] at e1
  subst e1
  have h2 : DataW.trod enc Tryd.prog w base spare held n 4 [c2] = some y2 := by have := hf 2 _ rfl; simpa [cells4] using this
  obtain ⟨v2, e2, _⟩ := DataW.trod_bool Tryd.underlying4 h2
  simp only [List.cons.injEq, and_true] at e2
  subst e2
  exact ⟨⟨v0, v1, v2⟩, rfl, trivial⟩

theorem open_api_Cookie {H : Type} {enc : TypeId × Value → H} {w : World} {r : Reach} {b0 : Nat} {v : Value} {d : DataW H} {ps : List MemPlace} (hval : Value.okWide Tryd.prog w r b0 24 v) (hd : DataW.Trod enc Tryd.prog w 0 (fun _ => true) true 24 v d ps) :
    ∃ (c : api_Cookie) (ad0 : Option Addr) (cp0 : Nat), v = .agg #[str c.Name, str c.Value, .slice ad0 c.Attrs.length cp0] ∧ Sees w ad0 (cells enc_api_Attr c.Attrs) ∧ c.Attrs.length ≤ cp0 ∧ c.Attrs.length ≤ Rows.uptoBulk d := by
  have hval' := hval
  simp only [Value.okWide, Tryd.underlying24] at hval'
  obtain ⟨cs, rfl, hsz, ts, hts, _, hrow⟩ := hval'
  rw [types24] at hts
  obtain rfl := Option.some.inj hts
  obtain ⟨fuel, hf⟩ := hd
  obtain ⟨cs⟩ := cs
  have hsz' : cs.length = 3 := by rw [cells24] at hsz; exact hsz
  obtain ⟨c0, c1, c2, rfl⟩ := list3 hsz'
  have hf : DataW.trod enc Tryd.prog w 0 (fun _ => true) true fuel 24 [c0, c1, c2] = some (d, ps) := by simpa [Value.cells] using hf
  obtain ⟨xs, n, _, hx, _, hxl, hf⟩ := DataW.trod_struct Tryd.underlying24 hf
  obtain ⟨y0, y1, y2, rfl⟩ := list3 hxl
  have h0 : DataW.trod enc Tryd.prog w 0 (fun _ => true) true n 9 [c0] = some y0 := by have := hf 0 _ rfl; simpa [cells9] using this
  obtain ⟨v0, e0, _⟩ := opens_str Tryd.underlying9 _ _ _ _ _ _ _ _ h0
  simp only [List.cons.injEq, and_true] at e0
  subst e0
  have h1 : DataW.trod enc Tryd.prog w 0 (fun _ => true) true n 9 [c1] = some y1 := by have := hf 1 _ rfl; simpa [cells9] using this
  obtain ⟨v1, e1, _⟩ := opens_str Tryd.underlying9 _ _ _ _ _ _ _ _ h1
  simp only [List.cons.injEq, and_true] at e1
  subst e1
  have h2 : DataW.trod enc Tryd.prog w 0 (fun _ => true) true n 22 [c2] = some y2 := by have := hf 2 _ rfl; simpa [cells22] using this
  obtain ⟨u0, hu0, hok0⟩ := hrow 2 c2 (by simp)
  obtain rfl : u0 = 22 := by simpa using hu0.symm
  have hv0 : Value.okWide Tryd.prog w r b0 22 c2 := by
    simp only [Value.okWide, Tryd.underlying22]; exact hok0
  obtain ⟨a0, ln0, cp0_, rfl⟩ := okWide_slice Tryd.underlying22 hv0
  obtain ⟨ad0, l0, cp0, e_0, hS0, hC0, _, hb0⟩ := open_list (d := y2.1) (ps := y2.2) Tryd.underlying22 cells31 (fun _ => rfl) opens_api_Attr hv0 ⟨n, by simpa [Value.cells] using h2⟩
  refine ⟨⟨v0, v1, l0⟩, ad0, cp0, by rw [e_0], hS0, hC0, by
    show l0.length ≤ Rows.uptoBulk d
    have h1 : l0.length ≤ Rows.uptoBulk y2.1 := list_bulk hb0
    have k0 : Rows.uptoBulk y2.1 ≤ Rows.uptoBulk d := by rw [(Prod.mk.inj hx).1]; exact bulk_mem (by simp)
    omega⟩

theorem glob_size (W : World) (h : W.ShapedOpen Tryd.prog) : 6 ≤ W.heap.size := by
  have h0 : (((begin Tryd.prog (fun _ _ => 0) default).world.heap[5]?).bind Obj.row?).isSome = true := by kernel_rfl
  obtain ⟨⟨zero, t⟩, hz⟩ := Option.isSome_iff_exists.1 h0
  obtain ⟨cs, hh, _, _⟩ := h.1 5 zero t (of_decide_eq_true (by kernel_rfl)) hz
  have := (Array.getElem?_eq_some_iff.1 hh).1
  omega
theorem glob (W : World) (h : W.ShapedOpen Tryd.prog) (hL : laidMetH Tryd.prog Rows.cookieWritesUptoRow.laid W) : Glob W :=
  ⟨glob_size W h, Go.Proofs.cell_of_shapedOpen_int (zero := #[.int .i64 0]) (t := 3) (g := 0) h (of_decide_eq_true (by kernel_rfl)) (by kernel_rfl) rfl (by kernel_rfl) (by kernel_rfl) Tryd.underlying3⟩

theorem contract (H : Type) (enc : TypeId × Value → H) (W : World) (base : Nat) (args : Array Value) (ds gs : List (DataW H)) (before : List MemPlace)
    (hval : ∀ (j : Nat) t v, Tryd.f5.params[j]? = some t → args[j]? = some v → Value.okWide Tryd.prog W .any base t v)
    (hW : DataW.Whole enc Tryd.prog Tryd.f5.params.toList Rows.cookieWritesSpec.vars false W args.toList ds gs before)
    (hk : Rows.uptoSmall H (ds ++ gs) = true) (hsh : W.ShapedOpen Tryd.prog) (hL : laidMetH Tryd.prog Rows.cookieWritesUptoRow.laid W) :
    Calls Tryd.prog 5 args W fun e W' => ∃ v, e = .returned v ∧ Rows.cookieWritesSpec.post enc Tryd.prog Tryd.f5 false true false false W args v W' := by
  have hW' := hW
  obtain ⟨p, q, hA0, hV, rfl, hfz, hnd⟩ := hW
  have hA : DataW.TrodAll enc Tryd.prog W 0 (fun _ => true) true Tryd.f5.params.toList args.toList ds p := hA0
  rw [Tryd.params5] at hA hval
  obtain ⟨v0, vs0, d0, ds0, p0, q0, hargs, rfl, rfl, h0, r0⟩ := trodAll_cons hA
  obtain ⟨v1, vs1, d1, ds1, p1, q1, rfl, rfl, rfl, h1, r1⟩ := trodAll_cons r0
  obtain ⟨rfl, rfl, rfl⟩ := trodAll_nil r1
  obtain rfl : args = #[v0, v1] := by cases args; simp_all
  obtain ⟨rfl, rfl⟩ := trodVars_none hV
  have hb : Rows.uptoBulkAll [d0, d1] ≤ 1048576 := of_decide_eq_true hk
  simp only [Rows.uptoBulkAll] at hb
  obtain ⟨a0, ad0_0, cp0_0, rfl, s0_0, k0_0, hl0_0⟩ := open_api_Cookie (hval 0 24 v0 rfl rfl) h0
  obtain ⟨a1, ad1_0, cp1_0, rfl, s1_0, k1_0, hl1_0⟩ := open_api_Cookie (hval 1 24 v1 rfl rfl) h1
  refine (w_law28_CookieWrites a0 a1 true W (glob W hsh hL) s0_0 k0_0 s1_0 k1_0 (CookieWrites_true a0 a1 (by omega) (by omega))).mono fun e W' ⟨he, bel⟩ => ?_
  subst he
  exact ⟨_, rfl, _, _, _, [], _, [], hW', trodAll_mk1 (shut_bool Tryd.underlying4 _), below_trodAll laidOut bel (by kernel_rfl) hA0, rfl, bel.frame _, fun h => by cases h⟩

/-- The cells of a table that is laid. -/
def flatD : DataW Unit → List Value
  | .lit (.int k n) => [.int k n]
  | .lit (.bool b) => [.bool b]
  | .agg l => flatL l
  | _ => []
where flatL : List (DataW Unit) → List Value
  | [] => []
  | d :: l => flatD d ++ flatL l
def layInto (cs : List Value) : Obj → Obj
  | .cells _ t frozen => .cells cs.toArray t frozen
  | o => o
noncomputable def laidWorld (os : Os) (args : Array Value) : World :=
  { World.holding Tryd.prog os ⟨#[], args, []⟩ with heap := (((World.holding Tryd.prog os ⟨#[], args, []⟩).heap.modify 2 (layInto (flatD Rows.laid_unicode_utf8_acceptRanges))).modify 1 (layInto (flatD Rows.laid_unicode_utf8_first))) }
abbrev wit : Array Value := #[.agg #[.string ⟨#[]⟩, .string ⟨#[]⟩, .slice none 0 0], .agg #[.string ⟨#[]⟩, .string ⟨#[]⟩, .slice none 0 0]]
theorem laid_met (os : Os) : laidMetH Tryd.prog Rows.cookieWritesUptoRow.laid ((laidWorld os wit).forCall (fun _ _ => 0) ⟨#[], wit, []⟩).memory := by
  rw [MakeChecks.laidMetH_plain _ _ _ (by kernel_rfl)]
  exact laidMet_of_run' 8 (by kernel_rfl) (by kernel_rfl)
theorem lifted (os : Os) (started : os.Started) (H : Type) (enc : TypeId × Value → H) (F : Stop.Interp) :
    ReturnsInHanded {} Tryd.checked os 5 .any (fun w args => ((Rows.OpenSpec.upto Rows.cookieWritesSpec).pre enc Tryd.prog Tryd.f5 Rows.cookieWritesUptoRow.domain false w args ∧ laidMetH Tryd.prog Rows.cookieWritesUptoRow.laid w) ∧ sizedMet enc Tryd.prog Tryd.f5 (Rows.OpenSpec.upto Rows.cookieWritesSpec) false w args) (((Rows.OpenSpec.upto Rows.cookieWritesSpec).at F).post enc Tryd.prog Tryd.f5 false true false false) := by
  refine returns_upto_laid (C := Tryd.checked) (s := Rows.OpenSpec.upto Rows.cookieWritesSpec) (k := Rows.uptoSmall) (X := laidMetH Tryd.prog Rows.cookieWritesUptoRow.laid) rfl (fun w tape i h => laidMetH.of_heap (w' := w.forCall tape i) (by rfl) h) own started (by kernel_rfl) Tryd.func5 (witness_upto_laid (enc := enc) (C := Tryd.checked) (os := os) (f := 5) (fn := Tryd.f5) (s := Rows.OpenSpec.upto Rows.cookieWritesSpec) (k := Rows.uptoSmall) rfl (conds := Rows.cookieWritesUptoRow.domain) (apart := false) (X := laidMetH Tryd.prog Rows.cookieWritesUptoRow.laid) false (laidWorld os wit) wit 8 rfl
      (World.shaped_of_RefB (by kernel_rfl) (by kernel_rfl)) (by kernel_rfl) (x := ([.agg [.lit (.string []), .lit (.string []), .nil], .agg [.lit (.string []), .lit (.string []), .nil]], [], [])) (by kernel_rfl) rfl (by kernel_rfl) (by kernel_rfl) (laid_met os)) ?_
  intro W base args ds gs before hval hW hk hsh hL
  exact contract H enc W base args ds gs before hval hW hk hsh hL
theorem over : Rows.cookieWritesUptoRow.holds Tryd.pinned (Rows.OpenSpec.upto Rows.cookieWritesSpec) :=
  OpenClaim.holds_of_cond 5 Tryd.f5 rfl rfl rfl rfl rfl rfl rfl ⟨rfl, rfl, rfl, rfl, rfl⟩ rfl rfl rfl rfl rfl (by kernel_rfl) Tryd.func5 (by kernel_rfl)
    (of_decide_eq_true (by kernel_rfl)) (by unfold Func.isWrapper; first | (rw [if_pos (by decide +kernel)]; kernel_rfl) | (rw [if_neg (by decide +kernel)]; exact ⟨rfl, rfl⟩))
    (fun os started H enc _ F => lifted os started H enc F)
theorem proved : Rows.CookieWritesUptoCardSaid :=
  Claim7.holds_tied_plain_at .later [] [.data, .pinned] true (true, "f3ae59b5932e3a7a5bfebcba66dcf44efae457b2a9919eac6f2ce153a99dadf2") false over (fun _ h => by cases h) (by kernel_rfl) (fun _ h => by cases h) cookieWritesUpto_row_tie rfl ⟨rfl, rfl⟩ (by kernel_rfl) rfl
    (fun f fn hf hfn => by
      obtain rfl : f = 5 := Option.some.inj ((show Tryd.prog.funcNamed "doorstep/doorsteplaw28.CookieWrites" = some 5 by kernel_rfl).symm.trans hf) |>.symm
      obtain rfl : fn = Tryd.f5 := (Option.some.inj (Tryd.func5.symm.trans hfn)).symm
      exact ⟨by kernel_rfl, fun j t ht => by
        rw [Tryd.params5] at ht
        have hm : t ∈ [24, 24] := by simpa using Array.mem_of_getElem? ht
        have hall : ([24, 24].all fun u => !Tryd.prog.wantsStandIn u) = true := by kernel_rfl
        exact (show Tryd.prog.wantsStandIn t = false by simpa using List.all_eq_true.1 hall t hm)⟩)
    (by kernel_rfl)
#print axioms proved
end Go.Proofs.YtpingffipghifaaDoor.jCookieWrites
