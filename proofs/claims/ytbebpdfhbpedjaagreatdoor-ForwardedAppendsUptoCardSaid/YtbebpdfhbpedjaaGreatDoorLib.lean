/-
  Rows of rows: what is read of them, and how they grow. Over any program.
  Facts on the types and functions of this translation, one by one, by evaluation. Written by a program (wip/gen).
  The library functions that the walks call. Over this translation.
-/
import Derived.Test.YtbebpdfhbpedjaaGreatDoorSim
import Derived.Test.YtbebpdfhbpedjaaGreatDoorT26R
import Derived.Test.YtbebpdfhbpedjaaGreatDoorProg
import Derived.KernelRfl
import Derived.Laws.StructEq
import Derived.Lib.LaidTab
import Derived.Lib.ItoaNum
import Derived.Shelf.Strings.IndexAnyAll
import Derived.Laws.RangeAny
import Derived.Laws.Runes
import Derived.Below
import Derived.Lib.OthersKept
import Derived.Shelf.RegionOpenPlain
import Derived.Shelf.Small.Utf8
import Derived.Shelf.Strings.SlTrimAscii
import Derived.Lib.AppendIntMem
section
namespace Go.Dk
open Go.RowKit Go.Dm
section
variable {P : Program} {Q : Exit → Act → World → Prop} {a : Act} {w w' w0 : World} {N : Nat} {E : Env} {F : List Nat} {L K : List Res}
variable {ops : Array Oper} {rest : List Oper} {t t' ty d : Nat} {p : String} {af : Array Edge} {x y : Operand}

theorem Own.at0 {r : Res} (hO : Own w0 [] w L) (h : r.holds w0 0) : r.holds w 0 := Res.holds_of h hO.size fun b hb => hO.frame b (Res.fp_lt h hb) (by simp)
theorem Own.nilNst (h : Own w0 F w L) (e : Nat) : Own w0 F w (.nst (.slice none 0 0) e [] [] [] :: L) := by
  refine ⟨h.os, h.tape, h.output, h.size, h.frame, ?_, ?_, ?_⟩
  · intro r hr
    rcases List.mem_cons.1 hr with rfl | hr
    · exact ⟨⟨rfl, .inl ⟨rfl, rfl⟩⟩, ⟨rfl, fun b hb => by simp [Value.ownBlock] at hb⟩, trivial⟩
    · exact h.holds r hr
  · intro r hr hs b hb
    rcases List.mem_cons.1 hr with rfl | hr
    · simp [Res.fp, Value.ownBlock] at hb
    · exact h.fresh r hr hs b hb
  · exact List.pairwise_cons.2 ⟨fun s _ => .inr fun b h1 _ => by simp [Res.fp, Value.ownBlock] at h1, h.sep⟩
theorem nn {τ : Tab} {ρ : Type} {R : ρ} {Q0 : Exit → Act → World → Prop} {c : Cur} {fs : List Fr} {B : Kn} {M : Option ρ} (e : Nat) (k : S P τ N R Q0 w0 F c fs E B (.nst (.slice none 0 0) e [] [] [] :: L) M) : S P τ N R Q0 w0 F c fs E B L M :=
  fun a w hf hB hO hm => k a w hf hB (hO.nilNst e) hm
theorem zc7.append {s : Option Addr × Nat × Nat} {y : List Value} (hs : zH w s.1 y) (hc : s.2.1 ≤ s.2.2) : ∀ {ss : List (Option Addr × Nat × Nat)} {xs : List (List Value)}, zc7 w ss xs → zc7 w (ss ++ [s]) (xs ++ [y])
  | [], [], _ => ⟨⟨hs, hc⟩, trivial⟩
  | [], _ :: _, h => h.elim
  | _ :: _, [], h => h.elim
  | _ :: _, _ :: _, ⟨h1, h2⟩ => ⟨h1, zc7.append hs hc h2⟩
theorem zc7.get : ∀ {ss : List (Option Addr × Nat × Nat)} {xs : List (List Value)}, zc7 w ss xs → ∀ (i : Nat) (x : List Value), xs[i]? = some x → ∃ s, ss[i]? = some s ∧ zH w s.1 x ∧ s.2.1 ≤ s.2.2
  | [], [], _, i, x, h => by simp at h
  | [], _ :: _, h, _, _, _ => h.elim
  | _ :: _, [], h, _, _, _ => h.elim
  | s :: ss, y :: xs, ⟨h1, h2⟩, 0, x, h => by simp at h; subst h; exact ⟨s, by simp, h1⟩
  | s :: ss, y :: xs, ⟨h1, h2⟩, i + 1, x, h => by
    obtain ⟨s', h3, h4⟩ := zc7.get h2 i x (by simpa using h)
    exact ⟨s', by simpa using h3, h4⟩
theorem znY {v : Value} {e sz n c m : Nat} {ad : Option Addr} {xs : List Value} (h : w.ownsRow 0 e sz (.slice ad n c) m xs) : n = m := by
  obtain ⟨_, h | ⟨g, cap, cur, hv, _⟩⟩ := h
  · obtain ⟨h1, h2⟩ := h
    simp at h1
    omega
  · simp at hv
    exact hv.2.1

theorem Own.nstApp {v v' : Value} {e e2 sz m dd : Nat} {q : Option Addr} {ss : List (Option Addr × Nat × Nat)} {ns : List Nat} {xs : List (List Value)} {ys : List Value}
    (h : Own w0 F w (.nst v e ss ns xs :: .row (.slice q m dd) e2 sz m ys :: K)) (hg : w.grownBy w' v.ownBlock) (ho : w'.ownsRow 0 e 1 v' (ss ++ [(q, m, dd)]).length ((ss ++ [(q, m, dd)]).map slS))
    (hb : v'.ownBlock = v.ownBlock ∨ v'.ownBlock = some w.heap.size) : Own w0 F w' (.nst v' e (ss ++ [(q, m, dd)]) (ns ++ [m]) (xs ++ [ys]) :: K) := by
  obtain ⟨s1, s2⟩ := List.pairwise_cons.1 h.sep
  obtain ⟨s3, s4⟩ := List.pairwise_cons.1 s2
  have hN : (Res.nst v e ss ns xs).holds w 0 := h.holds _ (by simp)
  have hR : (Res.row (.slice q m dd) e2 sz m ys).holds w 0 := h.holds _ (by simp)
  have fN := h.fresh (Res.nst v e ss ns xs) (by simp) rfl
  have fR := h.fresh (Res.row (.slice q m dd) e2 sz m ys) (by simp) rfl
  have ap : ∀ b, b ∈ (Res.nst v e ss ns xs).fp → b ∈ (Res.row (.slice q m dd) e2 sz m ys).fp → False := by
    rcases s1 (Res.row (.slice q m dd) e2 sz m ys) (by simp) with ⟨h1, _⟩ | h1
    · cases h1
    · exact h1
  have qb : ∀ b, b ∈ (q.map (·.block)).toList → b ∈ (Res.row (.slice q m dd) e2 sz m ys).fp := by
    intro b hb
    cases q with
    | none => simp at hb
    | some x => simp at hb; simp [Res.fp, Value.ownBlock, hb]
  have vN : ∀ b, v.ownBlock = some b → b ∈ (Res.nst v e ss ns xs).fp := fun b hb => List.mem_append_left _ (by rw [hb]; simp)
  have iN : ∀ b, b ∈ ss.flatMap (fun s => (s.1.map (·.block)).toList) → b ∈ (Res.nst v e ss ns xs).fp := fun b hb => List.mem_append_right _ hb
  have hkeep : ∀ b, b < w.heap.size → v.ownBlock ≠ some b → w'.heap[b]? = w.heap[b]? := fun b h1 h2 => hg.block b h1 fun e => h2 e.symm
  have newfp : ∀ b, b ∈ (Res.nst v' e (ss ++ [(q, m, dd)]) (ns ++ [m]) (xs ++ [ys])).fp → v'.ownBlock = some b ∨ b ∈ ss.flatMap (fun s => (s.1.map (·.block)).toList) ∨ b ∈ (q.map (·.block)).toList := by
    intro b hb
    rcases List.mem_append.1 hb with h1 | h1
    · exact .inl (by simpa using h1)
    · rw [List.flatMap_append, List.mem_append] at h1
      rcases h1 with h1 | h1
      · exact .inr (.inl h1)
      · exact .inr (.inr (by simpa using h1))
  have hqs : zH w q ys := zfR hR
  have hcap : m ≤ dd := by
    obtain ⟨_, ⟨h1, h2⟩ | ⟨g, cap, cur, hv, _, _, hle, _⟩⟩ := hR
    · omega
    · cases hv; exact hle
  have qlt : ∀ b, b ∈ (q.map (·.block)).toList → b < w.heap.size := fun b hb => Res.fp_lt hR (qb b hb)
  have kap : ∀ k ∈ K, ∀ b, b ∈ k.fp → b ∉ (Res.nst v e ss ns xs).fp ∧ b ∉ (Res.row (.slice q m dd) e2 sz m ys).fp := by
    intro k hk b hbk
    refine ⟨fun h1 => ?_, fun h1 => ?_⟩
    · rcases s1 k (by simp [hk]) with ⟨h2, _⟩ | h2
      · cases h2
      · exact h2 b h1 hbk
    · rcases s3 k hk with ⟨h2, _⟩ | h2
      · cases h2
      · exact h2 b h1 hbk
  refine ⟨hg.os.trans h.os, hg.tape.trans h.tape, hg.output.trans h.output, Nat.le_trans h.size hg.size, ?_, ?_, ?_, ?_⟩
  · intro b h1 h2
    refine (hkeep b (Nat.lt_of_lt_of_le h1 h.size) fun e => ?_).trans (h.frame b h1 h2)
    rcases fN b (vN b e) with h3 | h3
    · exact h2 h3
    · omega
  · intro r hr
    rcases List.mem_cons.1 hr with rfl | hr
    · refine ⟨ho, ⟨by rw [List.map_append, hN.2.1.1]; rfl, fun b hb1 hb2 => ?_⟩, zc7.append ?_ hcap (zc7.of hg.size hN.2.2 fun b hb1 => hkeep b (zc7.lt hN.2.2 b hb1) fun e => hN.2.1.2 b e hb1)⟩
      · rw [List.flatMap_append, List.mem_append] at hb2
        rcases hb with h3 | h3
        · rw [h3] at hb1
          rcases hb2 with h4 | h4
          · exact hN.2.1.2 b hb1 h4
          · exact ap b (vN b hb1) (qb b (by simpa using h4))
        · rw [h3] at hb1
          obtain rfl := Option.some.inj hb1
          rcases hb2 with h4 | h4
          · have := zc7.lt hN.2.2 _ h4; omega
          · have := qlt _ (by simpa using h4); omega
      · exact zlD hqs hg.size fun b hb1 => hkeep b (qlt b (by rw [hb1]; simp)) fun e => ap b (vN b e) (qb b (by rw [hb1]; simp))
    · refine Res.holds_of (h.holds r (by simp [hr])) hg.size fun b hb1 => hkeep b (Res.fp_lt (h.holds r (by simp [hr])) hb1) fun e => (kap r hr b hb1).1 (vN b e)
  · intro r hr hs b hb1
    rcases List.mem_cons.1 hr with rfl | hr
    · rcases newfp b hb1 with h1 | h1 | h1
      · rcases hb with h3 | h3
        · exact fN b (vN b (h3 ▸ h1))
        · rw [h3] at h1; obtain rfl := Option.some.inj h1; exact .inr h.size
      · exact fN b (iN b h1)
      · exact fR b (qb b h1)
    · exact h.fresh r (by simp [hr]) hs b hb1
  · refine List.pairwise_cons.2 ⟨fun k hk => .inr fun b h1 h2 => ?_, s4⟩
    obtain ⟨k1, k2⟩ := kap k hk b h2
    rcases newfp b h1 with h3 | h3 | h3
    · rcases hb with h4 | h4
      · exact k1 (vN b (h4 ▸ h3))
      · rw [h4] at h3; obtain rfl := Option.some.inj h3
        have := Res.fp_lt (h.holds k (by simp [hk])) h2
        omega
    · exact k1 (iN b h3)
    · exact k2 (qb b h3)
theorem zkD {α : Type} {enc : α → List Value} {e e2 sz bytes i j c c2 dd : Nat} {ad q : Option Addr} {b2 o2 : Nat} {ss : List (Option Addr × Nat × Nat)} {xss : List (List α)} {z : List α} (he : Elem P t' e 1 bytes) (is : List Nat)
    (hd0 : zeY (i :: j :: is) = true) (hp : zi3 L (i :: j :: is) = some (.nst (.slice ad xss.length c) e ss (xss.map List.length) (xss.map (cells enc)) :: .row (.slice q z.length dd) e2 sz z.length (cells enc z) :: K))
    (hS : ∀ w, Own w0 F w L → zH w (some ⟨b2, o2, none⟩) [.slice q z.length dd]) (hfit : zI xss.length 1 bytes = true)
    (hf : Fits N E a) (hd : Nat.blt d N = true) (hx : evl E x = some (.slice ad xss.length c)) (hy : evl E y = some (.slice (some ⟨b2, o2, none⟩) 1 c2)) (hO : Own w0 F w L)
    (k : ∀ a ad c w, Fits N ((d, .slice ad (xss ++ [z]).length c) :: E) a → Own w0 F w (.nst (.slice ad (xss ++ [z]).length c) e (ss ++ [(q, z.length, dd)]) ((xss ++ [z]).map List.length) ((xss ++ [z]).map (cells enc)) :: K) → wpList P ops Q rest a w) :
    wpList P ops Q ({ dst := some d, op := .call { callee := .builtin .append, args := #[x, y], argTypes := #[t', t'] }, type := t, pos := p, after := af, guard := none } :: rest) a w := by
  obtain ⟨hu, ⟨ti, zv, hti, hz, hs1, hs2, hzs⟩, hpos⟩ := he
  have hC := hO.choose (i :: j :: is) hd0
  rw [zhW hp] at hC
  have hN : (Res.nst (.slice ad xss.length c) e ss (xss.map List.length) (xss.map (cells enc))).holds w 0 := hC.holds _ (by simp)
  have hlen : xss.length = ss.length := znY (v := .slice ad xss.length c) hN.1
  simp only [zI, Bool.and_eq_true, decide_eq_true_eq] at hfit
  have hadd : ∀ j, (⟨b2, o2, none⟩ : Addr).add j = ⟨b2, o2 + j, none⟩ := by intro j; unfold Addr.add; split <;> simp_all
  have hrow : w.ownsRow 0 e 1 (.slice ad xss.length c) ss.length (ss.map slS) := hN.1
  obtain ⟨ad', c', w', hr, h2, h3, h4⟩ := zcC (P := P) (w := w) t' t e ti zv 1 bytes hu hti hz hs1 hs2 hzs hpos (.slice ad xss.length c) ss.length (ss.map slS) hrow ⟨b2, o2, none⟩ 1 c2 [.slice q z.length dd] rfl
    (fun j u hj => by rw [hadd]; exact (hS w hO).2.2 j u hj) (fun u hu => by simp at hu; subst hu; rfl) (by unfold maxLen; omega) (by rw [← hlen]; exact hfit.2)
  have hxv := hf.ev hx
  have hyv := hf.ev hy
  have e1 : ss.length + 1 = (xss ++ [z]).length := by simp [hlen]
  have hO' := hC.nstApp (v' := .slice ad' (ss.length + 1) c') h3 (by simpa [slS] using h2) h4
  rw [e1] at hO'
  have m1 : xss.map List.length ++ [z.length] = (xss ++ [z]).map List.length := by simp
  have m2 : xss.map (cells enc) ++ [cells enc z] = (xss ++ [z]).map (cells enc) := by simp
  rw [m1, m2] at hO'
  refine zhu (v := .slice ad' (ss.length + 1) c') (w' := w') rfl ?_ (k _ ad' c' w' (by rw [← e1]; exact hf.put hd _) hO')
  simp only [execOp, resolve, invoke, builtin, Sem.run_bind, Sem.run_pure, Result.andThen_ok, List.map_toArray, List.map_cons, List.map_nil, hxv, hyv, hr]
theorem znZ {α : Type} {enc : α → List Value} {e c : Nat} {ad : Option Addr} {ss : List (Option Addr × Nat × Nat)} {xss : List (List α)} {m : Int} {z : List α} {e' : Nat} (t : TypeId) (ht : P.underlying t = some (.slice e)) (hn : za1 P e = some 1)
    (h : (Res.nst (.slice ad xss.length c) e' ss (xss.map List.length) (xss.map (cells enc))).holds w 0) (hr : lAt xss m = some z) :
    ∃ b o q dd, (∀ w, (Instr.indexAt t (.slice ad xss.length c) (int m)).run P w = .ok (ptr b o) w) ∧ (∀ w, (Res.nst (.slice ad xss.length c) e' ss (xss.map List.length) (xss.map (cells enc))).holds w 0 → zH w (some ⟨b, o, none⟩) [.slice q z.length dd]) ∧
      (∀ w, (Res.nst (.slice ad xss.length c) e' ss (xss.map List.length) (xss.map (cells enc))).holds w 0 → zH w q (cells enc z)) ∧ z.length ≤ dd := by
  have hlen : xss.length = ss.length := znY (v := .slice ad xss.length c) h.1
  unfold lAt at hr
  split at hr
  · rename_i h0
    obtain ⟨i, rfl⟩ : ∃ i : Nat, m = (i : Int) := ⟨m.toNat, by omega⟩
    have hz : xss[i]? = some z := by simpa using hr
    have hgx : (xss.map (cells enc))[i]? = some (cells enc z) := by rw [List.getElem?_map, hz]; rfl
    obtain ⟨s, hs, hsee, hcap⟩ := h.2.2.get i _ hgx
    have hsl : s.2.1 = z.length := by
      have := congrArg (·[i]?) h.2.1.1
      simp only [List.getElem?_map, hs, hz, Option.map_some, Option.some.injEq] at this
      exact this
    obtain ⟨q, n1, dd⟩ := s
    simp only at hsl hcap hsee
    subst hsl
    have key : ∀ w, (Res.nst (.slice ad xss.length c) e' ss (xss.map List.length) (xss.map (cells enc))).holds w 0 → zH w ad (cells (fun s => [slS s]) ss) := fun w h => by
      have h0 := h.1
      rw [hlen] at h0
      have h1 := zfR h0
      have : cells (fun s => [slS s]) ss = ss.map slS := by
        have go : ∀ l : List (Option Addr × Nat × Nat), cells (fun s => [slS s]) l = l.map slS := fun l => by
          induction l with
          | nil => rfl
          | cons s l ih => rw [List.map_cons, ← ih]; rfl
        exact go ss
      rw [this]; exact h1
    have hrs : lAt ss (i : Int) = some (q, z.length, dd) := by rw [lAt]; simp [hs]
    have he := zbD (P := P) (enc := fun s => [slS s]) (sz := 1) (xs := ss) (c := c) t ht hn (by decide) (fun _ => rfl) (key w h) hrs
    rw [← hlen] at he
    obtain ⟨b, o, hi, hS⟩ := he
    refine ⟨b, o, q, dd, hi, fun w hw => hS w (key w hw), fun w hw => ?_, hcap⟩
    obtain ⟨s', hs', hsee', _⟩ := hw.2.2.get i _ hgx
    rw [hs] at hs'
    obtain rfl := Option.some.inj hs'
    exact hsee'
  · cases hr
end
end Go.Dk
end
section
set_option linter.unusedVariables false
set_option linter.unusedSimpArgs false
namespace Go.Proofs
open Go.Dk Go.Dm Go.RowKit

theorem zpr {P : Program} {w0 w : World} {n : String} {g : Nat} (hg : P.globalNamed n = some g) (h : w.heap[g]? = w0.heap[g]?) : w.var? P n = w0.var? P n := by
  unfold World.var?
  rw [hg]
  simp only [Option.bind_some, h]
def zw (w : World) : Prop := 6 ≤ w.heap.size ∧ (∃ m, w.cell? ⟨0, 0, none⟩ = some (.int .i64 m))
def zG (F : List Nat) : Prop := ∀ b ∈ F, 6 ≤ b
theorem zf : zG [] := fun b hb => by cases hb
theorem zw.same {w0 w : World} (h : zw w0) (hs : w0.heap.size ≤ w.heap.size) (hf : ∀ g, g < 6 → w.heap[g]? = w0.heap[g]?) : zw w := by
  obtain ⟨h0, ⟨m, hm0⟩⟩ := h
  exact ⟨Nat.le_trans h0 hs, ⟨m, (World.cell?_of_block (w := w0) (a := ⟨0, 0, none⟩) (hf 0 (by omega))).trans hm0⟩⟩
theorem zw.low {w0 w : World} {B : Nat} (h : zw w0) (hB : 6 ≤ B) (hb : Below B w0 w) : zw w :=
  h.same hb.size fun g hg => hb.block g (by omega)
theorem zw.size {w : World} (h : zw w) : 6 ≤ w.heap.size := h.1
theorem zw.max {w : World} (h : zw w) : (∃ m, w.cell? ⟨0, 0, none⟩ = some (.int .i64 m)) := h.2
theorem zw.own {w0 w : World} {F : List Nat} {L : List Res} (h : zw w0) (hF : zG F) (hO : Own w0 F w L) : zw w :=
  h.same hO.size fun g hg => hO.frame g (by have := h.size; omega) (fun hm => absurd (hF g hm) (by omega))
def zbZ (w : World) : Prop := zw w ∧ Go.Lib.TabIs Tryz.prog w "internal/strconv.uint64pow10" .u64 Go.Lib.pow10Tab
theorem zbZ.same {w0 w : World} (h : zbZ w0) (hs : w0.heap.size ≤ w.heap.size) (hf : ∀ g, g < 6 → w.heap[g]? = w0.heap[g]?) : zbZ w := by
  obtain ⟨h, hp⟩ := h
  exact ⟨h.same hs hf, by unfold Go.Lib.TabIs at hp ⊢; rw [← hp]; exact zpr (show Tryz.prog.globalNamed "internal/strconv.uint64pow10" = some 3 by kernel_rfl) (hf 3 (by omega))⟩
theorem zbZ.low {w0 w : World} {B : Nat} (h : zbZ w0) (hB : 6 ≤ B) (hb : Below B w0 w) : zbZ w :=
  h.same hb.size fun g hg => hb.block g (by omega)
theorem zbZ.size {w : World} (h : zbZ w) : 6 ≤ w.heap.size := h.1.size
theorem zbZ.own {w0 w : World} {F : List Nat} {L : List Res} (h : zbZ w0) (hF : zG F) (hO : Own w0 F w L) : zbZ w :=
  h.same hO.size fun g hg => hO.frame g (by have := h.size; omega) (fun hm => absurd (hF g hm) (by omega))
def zb (x : api_Field) : List Value := [str x.Name, str x.Value]
def zd (x : api_Param) : List Value := [str x.Name, str x.Value]
def za (x : api_Swap) : List Value := [str x.From, str x.To]
def zW (x : UInt8) : List Value := [zR x]
def zg (x : Str) : List Value := [str x]
theorem ag_103 : zeJ Tryz.prog 103 = some false := by kernel_rfl
theorem ag_105 : zeJ Tryz.prog 105 = some true := by kernel_rfl
theorem ag_110 : zeJ Tryz.prog 110 = some false := by kernel_rfl
theorem ag_116 : zeJ Tryz.prog 116 = some true := by kernel_rfl
theorem ag_119 : zeJ Tryz.prog 119 = some true := by kernel_rfl
theorem ag_159 : zeJ Tryz.prog 159 = some false := by kernel_rfl
theorem ag_23 : zeJ Tryz.prog 23 = some true := by kernel_rfl
theorem zdM : zeJ Tryz.prog 24 = some false := by kernel_rfl
theorem ag_29 : zeJ Tryz.prog 29 = some true := by kernel_rfl
theorem ag_3 : zeJ Tryz.prog 3 = some false := by kernel_rfl
theorem ag_41 : zeJ Tryz.prog 41 = some false := by kernel_rfl
theorem zdN : zeJ Tryz.prog 45 = some false := by kernel_rfl
theorem ag_47 : zeJ Tryz.prog 47 = some true := by kernel_rfl
theorem ag_49 : zeJ Tryz.prog 49 = some false := by kernel_rfl
theorem zi6 : zeJ Tryz.prog 57 = some true := by kernel_rfl
theorem zlp : zeJ Tryz.prog 71 = some true := by kernel_rfl
theorem zgE : zeJ Tryz.prog 87 = some true := by kernel_rfl
theorem zbE : zeJ Tryz.prog 9 = some false := by kernel_rfl
theorem al_119 : ∀ w, (Instr.alloc 119 true (.tuple #[])).run Tryz.prog w = .ok (ptr w.heap.size 0) (w.alloc (.cells [.pointer none].toArray 119)) := fun w => by kernel_rfl
theorem al_29 : ∀ w, (Instr.alloc 29 true (.tuple #[])).run Tryz.prog w = .ok (ptr w.heap.size 0) (w.alloc (.cells [int 0, str [], str [], int 0, str [], int 0, .slice none 0 0].toArray 29)) := fun w => by kernel_rfl
theorem al_47 : ∀ w, (Instr.alloc 47 true (.tuple #[])).run Tryz.prog w = .ok (ptr w.heap.size 0) (w.alloc (.cells [str [], str [], str [], str [], .slice none 0 0, .slice none 0 0].toArray 47)) := fun w => by kernel_rfl
theorem zmJ : ∀ w, (Instr.alloc 57 true (.tuple #[])).run Tryz.prog w = .ok (ptr w.heap.size 0) (w.alloc (.cells [str [], str []].toArray 57)) := fun w => by kernel_rfl
theorem al_70 : ∀ w, (Instr.alloc 70 true (.tuple #[])).run Tryz.prog w = .ok (ptr w.heap.size 0) (w.alloc (.cells [str [], str [], str [], str []].toArray 70)) := fun w => by kernel_rfl
theorem al_71 : ∀ w, (Instr.alloc 71 true (.tuple #[])).run Tryz.prog w = .ok (ptr w.heap.size 0) (w.alloc (.cells [str [], str []].toArray 71)) := fun w => by kernel_rfl
theorem al_87 : ∀ w, (Instr.alloc 87 true (.tuple #[])).run Tryz.prog w = .ok (ptr w.heap.size 0) (w.alloc (.cells [str [], str []].toArray 87)) := fun w => by kernel_rfl
theorem ei_159 : (Tryz.prog.info? 5).map (fun i => (i.zero, i.size, i.bytes)) = some (some (zR 0), 1, 1) := by kernel_rfl
theorem zlY : Elem Tryz.prog 159 5 1 1 := ⟨Tryz.underlying159, by obtain ⟨i, h0, h1, h2, h3⟩ := info_parts ei_159; exact ⟨i, _, h0, h1, h2, h3, rfl⟩, by decide⟩
theorem ei_24 : (Tryz.prog.info? 71).map (fun i => (i.zero, i.size, i.bytes)) = some (some (.agg #[str [], str []]), 2, 32) := by kernel_rfl
theorem zmK : Elem Tryz.prog 24 71 2 32 := ⟨Tryz.underlying24, by obtain ⟨i, h0, h1, h2, h3⟩ := info_parts ei_24; exact ⟨i, _, h0, h1, h2, h3, rfl⟩, by decide⟩
theorem ei_41 : (Tryz.prog.info? 9).map (fun i => (i.zero, i.size, i.bytes)) = some (some (str []), 1, 16) := by kernel_rfl
theorem zlq : Elem Tryz.prog 41 9 1 16 := ⟨Tryz.underlying41, by obtain ⟨i, h0, h1, h2, h3⟩ := info_parts ei_41; exact ⟨i, _, h0, h1, h2, h3, rfl⟩, by decide⟩
theorem ei_45 : (Tryz.prog.info? 87).map (fun i => (i.zero, i.size, i.bytes)) = some (some (.agg #[str [], str []]), 2, 32) := by kernel_rfl
theorem el_45 : Elem Tryz.prog 45 87 2 32 := ⟨Tryz.underlying45, by obtain ⟨i, h0, h1, h2, h3⟩ := info_parts ei_45; exact ⟨i, _, h0, h1, h2, h3, rfl⟩, by decide⟩
theorem ei_49 : (Tryz.prog.info? 57).map (fun i => (i.zero, i.size, i.bytes)) = some (some (.agg #[str [], str []]), 2, 32) := by kernel_rfl
theorem zmL : Elem Tryz.prog 49 57 2 32 := ⟨Tryz.underlying49, by obtain ⟨i, h0, h1, h2, h3⟩ := info_parts ei_49; exact ⟨i, _, h0, h1, h2, h3, rfl⟩, by decide⟩
theorem ei_61 : (Tryz.prog.info? 49).map (fun i => (i.zero, i.size, i.bytes)) = some (some (.slice none 0 0), 1, 24) := by kernel_rfl
theorem el_61 : Elem Tryz.prog 61 49 1 24 := ⟨Tryz.underlying61, by obtain ⟨i, h0, h1, h2, h3⟩ := info_parts ei_61; exact ⟨i, _, h0, h1, h2, h3, rfl⟩, by decide⟩
theorem eqd_57 (d : Nat) (x y : api_Param) (w : World) : (Op.equalIn (d + 2) 57 (.agg #[str x.Name, str x.Value]) (.agg #[str y.Name, str y.Value])).run Tryz.prog w = .ok (x == y) w := by
  obtain ⟨x0, x1⟩ := x
  obtain ⟨y0, y1⟩ := y
  show (Op.equalIn (d + 1 + 1) 57 _ _).run _ _ = _
  rw [run_equalIn_struct w (d + 1) 57 _ _ (by kernel_rfl) (by kernel_rfl)]
  have e : ((⟨x0, x1⟩ : api_Param) == ⟨y0, y1⟩) = decide (x0 = y0 ∧ x1 = y1) := by
    show decide (_ = _) = _
    exact decide_eq_decide.2 (by simp)
  rw [e]
  simp only [Program.fieldsOf, Tryz.underlying57, Op.eqFields]
  simp [part, Tryz.isAgg9, Tryz.underlying9, run_equalIn_string, run_equalIn_bool', run_equalIn_int, zhw, Result.andThen, zjv]
  by_cases h0 : x0 = y0 <;> by_cases h1 : x1 = y1 <;> simp [h0, h1]
theorem eq_57 (x y : api_Param) (w : World) : (Op.equalIn 10000 57 (.agg #[str x.Name, str x.Value]) (.agg #[str y.Name, str y.Value])).run Tryz.prog w = .ok (x == y) w := eqd_57 9998 x y w
theorem eqd_71 (d : Nat) (x y : api_Field) (w : World) : (Op.equalIn (d + 2) 71 (.agg #[str x.Name, str x.Value]) (.agg #[str y.Name, str y.Value])).run Tryz.prog w = .ok (x == y) w := by
  obtain ⟨x0, x1⟩ := x
  obtain ⟨y0, y1⟩ := y
  show (Op.equalIn (d + 1 + 1) 71 _ _).run _ _ = _
  rw [run_equalIn_struct w (d + 1) 71 _ _ (by kernel_rfl) (by kernel_rfl)]
  have e : ((⟨x0, x1⟩ : api_Field) == ⟨y0, y1⟩) = decide (x0 = y0 ∧ x1 = y1) := by
    show decide (_ = _) = _
    exact decide_eq_decide.2 (by simp)
  rw [e]
  simp only [Program.fieldsOf, Tryz.underlying71, Op.eqFields]
  simp [part, Tryz.isAgg9, Tryz.underlying9, run_equalIn_string, run_equalIn_bool', run_equalIn_int, zhw, Result.andThen, zjv]
  by_cases h0 : x0 = y0 <;> by_cases h1 : x1 = y1 <;> simp [h0, h1]
theorem eq_71 (x y : api_Field) (w : World) : (Op.equalIn 10000 71 (.agg #[str x.Name, str x.Value]) (.agg #[str y.Name, str y.Value])).run Tryz.prog w = .ok (x == y) w := eqd_71 9998 x y w
theorem zkc : ∀ b o w, (Instr.fieldAt 100 (ptr b o) 0).run Tryz.prog w = .ok (ptr b (o + 0)) w := fun b o w => by kernel_rfl
theorem zpt : ∀ b o w, (Instr.fieldAt 105 (ptr b o) 0).run Tryz.prog w = .ok (ptr b (o + 0)) w := fun b o w => by kernel_rfl
theorem zpu : ∀ b o w, (Instr.fieldAt 105 (ptr b o) 1).run Tryz.prog w = .ok (ptr b (o + 1)) w := fun b o w => by kernel_rfl
theorem zpv : ∀ b o w, (Instr.fieldAt 105 (ptr b o) 2).run Tryz.prog w = .ok (ptr b (o + 2)) w := fun b o w => by kernel_rfl
theorem zpw : ∀ b o w, (Instr.fieldAt 113 (ptr b o) 0).run Tryz.prog w = .ok (ptr b (o + 0)) w := fun b o w => by kernel_rfl
theorem zpx : ∀ b o w, (Instr.fieldAt 113 (ptr b o) 1).run Tryz.prog w = .ok (ptr b (o + 1)) w := fun b o w => by kernel_rfl
theorem zmM : ∀ b o w, (Instr.fieldAt 113 (ptr b o) 2).run Tryz.prog w = .ok (ptr b (o + 2)) w := fun b o w => by kernel_rfl
theorem zmN : ∀ b o w, (Instr.fieldAt 113 (ptr b o) 3).run Tryz.prog w = .ok (ptr b (o + 3)) w := fun b o w => by kernel_rfl
theorem zpy : ∀ b o w, (Instr.fieldAt 116 (ptr b o) 0).run Tryz.prog w = .ok (ptr b (o + 0)) w := fun b o w => by kernel_rfl
theorem zpz : ∀ b o w, (Instr.fieldAt 119 (ptr b o) 0).run Tryz.prog w = .ok (ptr b (o + 0)) w := fun b o w => by kernel_rfl
theorem zia : ∀ b o w, (Instr.fieldAt 137 (ptr b o) 0).run Tryz.prog w = .ok (ptr b (o + 0)) w := fun b o w => by kernel_rfl
theorem zib : ∀ b o w, (Instr.fieldAt 137 (ptr b o) 1).run Tryz.prog w = .ok (ptr b (o + 1)) w := fun b o w => by kernel_rfl
theorem zpA : ∀ b o w, (Instr.fieldAt 176 (ptr b o) 0).run Tryz.prog w = .ok (ptr b (o + 0)) w := fun b o w => by kernel_rfl
theorem zpB : ∀ b o w, (Instr.fieldAt 176 (ptr b o) 1).run Tryz.prog w = .ok (ptr b (o + 1)) w := fun b o w => by kernel_rfl
theorem zqb : ∀ b o w, (Instr.fieldAt 23 (ptr b o) 0).run Tryz.prog w = .ok (ptr b (o + 0)) w := fun b o w => by kernel_rfl
theorem zqc : ∀ b o w, (Instr.fieldAt 23 (ptr b o) 1).run Tryz.prog w = .ok (ptr b (o + 1)) w := fun b o w => by kernel_rfl
theorem zqd : ∀ b o w, (Instr.fieldAt 23 (ptr b o) 2).run Tryz.prog w = .ok (ptr b (o + 2)) w := fun b o w => by kernel_rfl
theorem zqe : ∀ b o w, (Instr.fieldAt 23 (ptr b o) 3).run Tryz.prog w = .ok (ptr b (o + 3)) w := fun b o w => by kernel_rfl
theorem zqf : ∀ b o w, (Instr.fieldAt 29 (ptr b o) 1).run Tryz.prog w = .ok (ptr b (o + 1)) w := fun b o w => by kernel_rfl
theorem zqg : ∀ b o w, (Instr.fieldAt 29 (ptr b o) 2).run Tryz.prog w = .ok (ptr b (o + 2)) w := fun b o w => by kernel_rfl
theorem zqh : ∀ b o w, (Instr.fieldAt 29 (ptr b o) 4).run Tryz.prog w = .ok (ptr b (o + 4)) w := fun b o w => by kernel_rfl
theorem zlZ : ∀ b o w, (Instr.fieldAt 29 (ptr b o) 6).run Tryz.prog w = .ok (ptr b (o + 6)) w := fun b o w => by kernel_rfl
theorem zqi : ∀ b o w, (Instr.fieldAt 47 (ptr b o) 0).run Tryz.prog w = .ok (ptr b (o + 0)) w := fun b o w => by kernel_rfl
theorem zqj : ∀ b o w, (Instr.fieldAt 47 (ptr b o) 1).run Tryz.prog w = .ok (ptr b (o + 1)) w := fun b o w => by kernel_rfl
theorem zqk : ∀ b o w, (Instr.fieldAt 47 (ptr b o) 2).run Tryz.prog w = .ok (ptr b (o + 2)) w := fun b o w => by kernel_rfl
theorem zql : ∀ b o w, (Instr.fieldAt 47 (ptr b o) 3).run Tryz.prog w = .ok (ptr b (o + 3)) w := fun b o w => by kernel_rfl
theorem zjy : ∀ b o w, (Instr.fieldAt 47 (ptr b o) 4).run Tryz.prog w = .ok (ptr b (o + 4)) w := fun b o w => by kernel_rfl
theorem zjz : ∀ b o w, (Instr.fieldAt 47 (ptr b o) 5).run Tryz.prog w = .ok (ptr b (o + 5)) w := fun b o w => by kernel_rfl
theorem znQ : ∀ b o w, (Instr.fieldAt 57 (ptr b o) 0).run Tryz.prog w = .ok (ptr b (o + 0)) w := fun b o w => by kernel_rfl
theorem zqm : ∀ b o w, (Instr.fieldAt 57 (ptr b o) 1).run Tryz.prog w = .ok (ptr b (o + 1)) w := fun b o w => by kernel_rfl
theorem znR : ∀ b o w, (Instr.fieldAt 71 (ptr b o) 0).run Tryz.prog w = .ok (ptr b (o + 0)) w := fun b o w => by kernel_rfl
theorem zjA : ∀ b o w, (Instr.fieldAt 71 (ptr b o) 1).run Tryz.prog w = .ok (ptr b (o + 1)) w := fun b o w => by kernel_rfl
theorem zl0 : ∀ b o w, (Instr.fieldAt 87 (ptr b o) 0).run Tryz.prog w = .ok (ptr b (o + 0)) w := fun b o w => by kernel_rfl
theorem zl1 : ∀ b o w, (Instr.fieldAt 87 (ptr b o) 1).run Tryz.prog w = .ok (ptr b (o + 1)) w := fun b o w => by kernel_rfl
theorem zqn : ∀ (b : Nat) (w : World), (Instr.indexAt 70 (ptr b 0) (int 0)).run Tryz.prog w = .ok (ptr b 0) w := fun b w => by kernel_rfl
theorem zqo : ∀ (b : Nat) (w : World), (Instr.indexAt 70 (ptr b 0) (int 1)).run Tryz.prog w = .ok (ptr b 1) w := fun b w => by kernel_rfl
theorem zqp : ∀ (b : Nat) (w : World), (Instr.indexAt 70 (ptr b 0) (int 2)).run Tryz.prog w = .ok (ptr b 2) w := fun b w => by kernel_rfl
theorem zqq : ∀ (b : Nat) (w : World), (Instr.indexAt 70 (ptr b 0) (int 3)).run Tryz.prog w = .ok (ptr b 3) w := fun b w => by kernel_rfl
theorem sz_103 : za1 Tryz.prog 103 = some 1 := by kernel_rfl
theorem sz_105 : za1 Tryz.prog 105 = some 3 := by kernel_rfl
theorem sz_116 : za1 Tryz.prog 116 = some 1 := by kernel_rfl
theorem sz_119 : za1 Tryz.prog 119 = some 1 := by kernel_rfl
theorem sz_159 : za1 Tryz.prog 159 = some 1 := by kernel_rfl
theorem sz_23 : za1 Tryz.prog 23 = some 4 := by kernel_rfl
theorem sz_24 : za1 Tryz.prog 24 = some 1 := by kernel_rfl
theorem sz_29 : za1 Tryz.prog 29 = some 7 := by kernel_rfl
theorem sz_3 : za1 Tryz.prog 3 = some 1 := by kernel_rfl
theorem sz_41 : za1 Tryz.prog 41 = some 1 := by kernel_rfl
theorem sz_45 : za1 Tryz.prog 45 = some 1 := by kernel_rfl
theorem sz_47 : za1 Tryz.prog 47 = some 6 := by kernel_rfl
theorem sz_49 : za1 Tryz.prog 49 = some 1 := by kernel_rfl
theorem zex : za1 Tryz.prog 57 = some 2 := by kernel_rfl
theorem sz_70 : za1 Tryz.prog 70 = some 4 := by kernel_rfl
theorem zey : za1 Tryz.prog 71 = some 2 := by kernel_rfl
theorem zfl : za1 Tryz.prog 87 = some 2 := by kernel_rfl
theorem zgF : za1 Tryz.prog 9 = some 1 := by kernel_rfl
def tb : Tab := ⟨[(9, .string), (24, .slice 71), (38, .slice 23), (41, .slice 9), (45, .slice 87), (49, .slice 57), (61, .slice 49)], [(23, 0, 0), (23, 1, 1), (23, 2, 2), (23, 3, 3), (29, 1, 1), (29, 2, 2), (29, 4, 4), (29, 6, 6), (47, 0, 0), (47, 1, 1), (47, 2, 2), (47, 3, 3), (47, 4, 4), (47, 5, 5), (57, 0, 0), (57, 1, 1), (71, 0, 0), (71, 1, 1), (87, 0, 0), (87, 1, 1), (100, 0, 0), (105, 0, 0), (105, 1, 1), (105, 2, 2), (113, 0, 0), (113, 1, 1), (113, 2, 2), (113, 3, 3), (116, 0, 0), (119, 0, 0), (137, 0, 0), (137, 1, 1), (176, 0, 0), (176, 1, 1)], [(3, false), (9, false), (23, true), (24, false), (29, true), (41, false), (45, false), (47, true), (57, true), (71, true), (103, false), (105, true), (110, false), (116, true), (119, true), (159, false)], [(3, 1), (9, 1), (23, 4), (24, 1), (29, 7), (41, 1), (47, 6), (57, 2), (70, 4), (71, 2), (103, 1), (105, 3), (116, 1), (119, 1), (159, 1)]⟩
instance : TabOk Tryz.prog tb := ⟨zgr ⟨Tryz.underlying9, ⟨Tryz.underlying24, ⟨Tryz.underlying38, ⟨Tryz.underlying41, ⟨Tryz.underlying45, ⟨Tryz.underlying49, ⟨Tryz.underlying61, trivial⟩⟩⟩⟩⟩⟩⟩, zgr ⟨zqb, ⟨zqc, ⟨zqd, ⟨zqe, ⟨zqf, ⟨zqg, ⟨zqh, ⟨zlZ, ⟨zqi, ⟨zqj, ⟨zqk, ⟨zql, ⟨zjy, ⟨zjz, ⟨znQ, ⟨zqm, ⟨znR, ⟨zjA, ⟨zl0, ⟨zl1, ⟨zkc, ⟨zpt, ⟨zpu, ⟨zpv, ⟨zpw, ⟨zpx, ⟨zmM, ⟨zmN, ⟨zpy, ⟨zpz, ⟨zia, ⟨zib, ⟨zpA, ⟨zpB, trivial⟩⟩⟩⟩⟩⟩⟩⟩⟩⟩⟩⟩⟩⟩⟩⟩⟩⟩⟩⟩⟩⟩⟩⟩⟩⟩⟩⟩⟩⟩⟩⟩⟩⟩, zgr ⟨ag_3, ⟨zbE, ⟨ag_23, ⟨zdM, ⟨ag_29, ⟨ag_41, ⟨zdN, ⟨ag_47, ⟨zi6, ⟨zlp, ⟨ag_103, ⟨ag_105, ⟨ag_110, ⟨ag_116, ⟨ag_119, ⟨ag_159, trivial⟩⟩⟩⟩⟩⟩⟩⟩⟩⟩⟩⟩⟩⟩⟩⟩, zgr ⟨sz_3, ⟨zgF, ⟨sz_23, ⟨sz_24, ⟨sz_29, ⟨sz_41, ⟨sz_47, ⟨zex, ⟨sz_70, ⟨zey, ⟨sz_103, ⟨sz_105, ⟨sz_116, ⟨sz_119, ⟨sz_159, trivial⟩⟩⟩⟩⟩⟩⟩⟩⟩⟩⟩⟩⟩⟩⟩⟩
theorem c_9 : zc Tryz.prog 9 := ⟨Tryz.f9, Tryz.func9, rfl, by kernel_rfl⟩
theorem c_12 : zc Tryz.prog 12 := ⟨Tryz.f12, Tryz.func12, rfl, by kernel_rfl⟩
theorem c_13 : zc Tryz.prog 13 := ⟨Tryz.f13, Tryz.func13, rfl, by kernel_rfl⟩
theorem c_15 : zc Tryz.prog 15 := ⟨Tryz.f15, Tryz.func15, rfl, by kernel_rfl⟩
theorem c_17 : zc Tryz.prog 17 := ⟨Tryz.f17, Tryz.func17, rfl, by kernel_rfl⟩
theorem c_18 : zc Tryz.prog 18 := ⟨Tryz.f18, Tryz.func18, rfl, by kernel_rfl⟩
theorem c_19 : zc Tryz.prog 19 := ⟨Tryz.f19, Tryz.func19, rfl, by kernel_rfl⟩
theorem c_20 : zc Tryz.prog 20 := ⟨Tryz.f20, Tryz.func20, rfl, by kernel_rfl⟩
theorem c_21 : zc Tryz.prog 21 := ⟨Tryz.f21, Tryz.func21, rfl, by kernel_rfl⟩
theorem c_22 : zc Tryz.prog 22 := ⟨Tryz.f22, Tryz.func22, rfl, by kernel_rfl⟩
theorem c_23 : zc Tryz.prog 23 := ⟨Tryz.f23, Tryz.func23, rfl, by kernel_rfl⟩
theorem c_24 : zc Tryz.prog 24 := ⟨Tryz.f24, Tryz.func24, rfl, by kernel_rfl⟩
theorem c_26 : zc Tryz.prog 26 := ⟨Tryz.f26, Tryz.func26, rfl, by kernel_rfl⟩
theorem c_28 : zc Tryz.prog 28 := ⟨Tryz.f28, Tryz.func28, rfl, by kernel_rfl⟩
theorem c_29 : zc Tryz.prog 29 := ⟨Tryz.f29, Tryz.func29, rfl, by kernel_rfl⟩
theorem c_30 : zc Tryz.prog 30 := ⟨Tryz.f30, Tryz.func30, rfl, by kernel_rfl⟩
theorem c_32 : zc Tryz.prog 32 := ⟨Tryz.f32, Tryz.func32, rfl, by kernel_rfl⟩
theorem c_33 : zc Tryz.prog 33 := ⟨Tryz.f33, Tryz.func33, rfl, by kernel_rfl⟩
theorem c_34 : zc Tryz.prog 34 := ⟨Tryz.f34, Tryz.func34, rfl, by kernel_rfl⟩
theorem c_36 : zc Tryz.prog 36 := ⟨Tryz.f36, Tryz.func36, rfl, by kernel_rfl⟩
theorem c_37 : zc Tryz.prog 37 := ⟨Tryz.f37, Tryz.func37, rfl, by kernel_rfl⟩
theorem c_38 : zc Tryz.prog 38 := ⟨Tryz.f38, Tryz.func38, rfl, by kernel_rfl⟩
theorem c_40 : zc Tryz.prog 40 := ⟨Tryz.f40, Tryz.func40, rfl, by kernel_rfl⟩
theorem c_41 : zc Tryz.prog 41 := ⟨Tryz.f41, Tryz.func41, rfl, by kernel_rfl⟩
theorem c_42 : zc Tryz.prog 42 := ⟨Tryz.f42, Tryz.func42, rfl, by kernel_rfl⟩
theorem c_43 : zc Tryz.prog 43 := ⟨Tryz.f43, Tryz.func43, rfl, by kernel_rfl⟩
theorem c_44 : zc Tryz.prog 44 := ⟨Tryz.f44, Tryz.func44, rfl, by kernel_rfl⟩
theorem c_45 : zc Tryz.prog 45 := ⟨Tryz.f45, Tryz.func45, rfl, by kernel_rfl⟩
theorem c_46 : zc Tryz.prog 46 := ⟨Tryz.f46, Tryz.func46, rfl, by kernel_rfl⟩
theorem c_47 : zc Tryz.prog 47 := ⟨Tryz.f47, Tryz.func47, rfl, by kernel_rfl⟩
theorem c_48 : zc Tryz.prog 48 := ⟨Tryz.f48, Tryz.func48, rfl, by kernel_rfl⟩
theorem c_52 : zc Tryz.prog 52 := ⟨Tryz.f52, Tryz.func52, rfl, by kernel_rfl⟩
theorem c_53 : zc Tryz.prog 53 := ⟨Tryz.f53, Tryz.func53, rfl, by kernel_rfl⟩
theorem c_54 : zc Tryz.prog 54 := ⟨Tryz.f54, Tryz.func54, rfl, by kernel_rfl⟩
theorem c_55 : zc Tryz.prog 55 := ⟨Tryz.f55, Tryz.func55, rfl, by kernel_rfl⟩
theorem c_56 : zc Tryz.prog 56 := ⟨Tryz.f56, Tryz.func56, rfl, by kernel_rfl⟩
theorem c_57 : zc Tryz.prog 57 := ⟨Tryz.f57, Tryz.func57, rfl, by kernel_rfl⟩
theorem c_58 : zc Tryz.prog 58 := ⟨Tryz.f58, Tryz.func58, rfl, by kernel_rfl⟩
theorem c_62 : zc Tryz.prog 62 := ⟨Tryz.f62, Tryz.func62, rfl, by kernel_rfl⟩
theorem c_63 : zc Tryz.prog 63 := ⟨Tryz.f63, Tryz.func63, rfl, by kernel_rfl⟩
theorem c_64 : zc Tryz.prog 64 := ⟨Tryz.f64, Tryz.func64, rfl, by kernel_rfl⟩
theorem c_65 : zc Tryz.prog 65 := ⟨Tryz.f65, Tryz.func65, rfl, by kernel_rfl⟩
theorem c_66 : zc Tryz.prog 66 := ⟨Tryz.f66, Tryz.func66, rfl, by kernel_rfl⟩
theorem c_67 : zc Tryz.prog 67 := ⟨Tryz.f67, Tryz.func67, rfl, by kernel_rfl⟩
theorem c_68 : zc Tryz.prog 68 := ⟨Tryz.f68, Tryz.func68, rfl, by kernel_rfl⟩
theorem zkd : zc Tryz.prog 70 := ⟨Tryz.f70, Tryz.func70, rfl, by kernel_rfl⟩
theorem c_73 : zc Tryz.prog 73 := ⟨Tryz.f73, Tryz.func73, rfl, by kernel_rfl⟩
theorem c_74 : zc Tryz.prog 74 := ⟨Tryz.f74, Tryz.func74, rfl, by kernel_rfl⟩
theorem c_75 : zc Tryz.prog 75 := ⟨Tryz.f75, Tryz.func75, rfl, by kernel_rfl⟩
theorem c_76 : zc Tryz.prog 76 := ⟨Tryz.f76, Tryz.func76, rfl, by kernel_rfl⟩
theorem c_77 : zc Tryz.prog 77 := ⟨Tryz.f77, Tryz.func77, rfl, by kernel_rfl⟩
theorem c_78 : zc Tryz.prog 78 := ⟨Tryz.f78, Tryz.func78, rfl, by kernel_rfl⟩
theorem c_81 : zc Tryz.prog 81 := ⟨Tryz.f81, Tryz.func81, rfl, by kernel_rfl⟩
theorem c_82 : zc Tryz.prog 82 := ⟨Tryz.f82, Tryz.func82, rfl, by kernel_rfl⟩
theorem c_87 : zc Tryz.prog 87 := ⟨Tryz.f87, Tryz.func87, rfl, by kernel_rfl⟩
theorem c_88 : zc Tryz.prog 88 := ⟨Tryz.f88, Tryz.func88, rfl, by kernel_rfl⟩
theorem c_89 : zc Tryz.prog 89 := ⟨Tryz.f89, Tryz.func89, rfl, by kernel_rfl⟩
theorem c_90 : zc Tryz.prog 90 := ⟨Tryz.f90, Tryz.func90, rfl, by kernel_rfl⟩
theorem c_91 : zc Tryz.prog 91 := ⟨Tryz.f91, Tryz.func91, rfl, by kernel_rfl⟩
theorem c_92 : zc Tryz.prog 92 := ⟨Tryz.f92, Tryz.func92, rfl, by kernel_rfl⟩
theorem c_93 : zc Tryz.prog 93 := ⟨Tryz.f93, Tryz.func93, rfl, by kernel_rfl⟩
theorem c_95 : zc Tryz.prog 95 := ⟨Tryz.f95, Tryz.func95, rfl, by kernel_rfl⟩
theorem c_96 : zc Tryz.prog 96 := ⟨Tryz.f96, Tryz.func96, rfl, by kernel_rfl⟩
theorem c_97 : zc Tryz.prog 97 := ⟨Tryz.f97, Tryz.func97, rfl, by kernel_rfl⟩
theorem c_98 : zc Tryz.prog 98 := ⟨Tryz.f98, Tryz.func98, rfl, by kernel_rfl⟩
theorem c_99 : zc Tryz.prog 99 := ⟨Tryz.f99, Tryz.func99, rfl, by kernel_rfl⟩
theorem c_100 : zc Tryz.prog 100 := ⟨Tryz.f100, Tryz.func100, rfl, by kernel_rfl⟩
theorem c_101 : zc Tryz.prog 101 := ⟨Tryz.f101, Tryz.func101, rfl, by kernel_rfl⟩
theorem c_102 : zc Tryz.prog 102 := ⟨Tryz.f102, Tryz.func102, rfl, by kernel_rfl⟩
theorem c_109 : zc Tryz.prog 109 := ⟨Tryz.f109, Tryz.func109, rfl, by kernel_rfl⟩
theorem c_110 : zc Tryz.prog 110 := ⟨Tryz.f110, Tryz.func110, rfl, by kernel_rfl⟩
theorem c_111 : zc Tryz.prog 111 := ⟨Tryz.f111, Tryz.func111, rfl, by kernel_rfl⟩
theorem c_112 : zc Tryz.prog 112 := ⟨Tryz.f112, Tryz.func112, rfl, by kernel_rfl⟩
theorem c_113 : zc Tryz.prog 113 := ⟨Tryz.f113, Tryz.func113, rfl, by kernel_rfl⟩
theorem c_114 : zc Tryz.prog 114 := ⟨Tryz.f114, Tryz.func114, rfl, by kernel_rfl⟩
theorem c_116 : zc Tryz.prog 116 := ⟨Tryz.f116, Tryz.func116, rfl, by kernel_rfl⟩
theorem c_117 : zc Tryz.prog 117 := ⟨Tryz.f117, Tryz.func117, rfl, by kernel_rfl⟩
theorem c_119 : zc Tryz.prog 119 := ⟨Tryz.f119, Tryz.func119, rfl, by kernel_rfl⟩
theorem znS : zc Tryz.prog 120 := ⟨Tryz.f120, Tryz.func120, rfl, by kernel_rfl⟩
theorem c_121 : zc Tryz.prog 121 := ⟨Tryz.f121, Tryz.func121, rfl, by kernel_rfl⟩
theorem c_123 : zc Tryz.prog 123 := ⟨Tryz.f123, Tryz.func123, rfl, by kernel_rfl⟩
theorem c_124 : zc Tryz.prog 124 := ⟨Tryz.f124, Tryz.func124, rfl, by kernel_rfl⟩
theorem zmO : zc Tryz.prog 128 := ⟨Tryz.f128, Tryz.func128, rfl, by kernel_rfl⟩
theorem c_137 : zc Tryz.prog 137 := ⟨Tryz.f137, Tryz.func137, rfl, by kernel_rfl⟩
theorem c_138 : zc Tryz.prog 138 := ⟨Tryz.f138, Tryz.func138, rfl, by kernel_rfl⟩
theorem c_144 : zc Tryz.prog 144 := ⟨Tryz.f144, Tryz.func144, rfl, by kernel_rfl⟩
theorem c_145 : zc Tryz.prog 145 := ⟨Tryz.f145, Tryz.func145, rfl, by kernel_rfl⟩
theorem c_146 : zc Tryz.prog 146 := ⟨Tryz.f146, Tryz.func146, rfl, by kernel_rfl⟩
theorem c_147 : zc Tryz.prog 147 := ⟨Tryz.f147, Tryz.func147, rfl, by kernel_rfl⟩
theorem znT : zc Tryz.prog 148 := ⟨Tryz.f148, Tryz.func148, rfl, by kernel_rfl⟩
theorem c_149 : zc Tryz.prog 149 := ⟨Tryz.f149, Tryz.func149, rfl, by kernel_rfl⟩
theorem c_153 : zc Tryz.prog 153 := ⟨Tryz.f153, Tryz.func153, rfl, by kernel_rfl⟩
theorem znU : zc Tryz.prog 154 := ⟨Tryz.f154, Tryz.func154, rfl, by kernel_rfl⟩
theorem c_155 : zc Tryz.prog 155 := ⟨Tryz.f155, Tryz.func155, rfl, by kernel_rfl⟩
theorem c_158 : zc Tryz.prog 158 := ⟨Tryz.f158, Tryz.func158, rfl, by kernel_rfl⟩
theorem c_159 : zc Tryz.prog 159 := ⟨Tryz.f159, Tryz.func159, rfl, by kernel_rfl⟩
theorem c_173 : zc Tryz.prog 173 := ⟨Tryz.f173, Tryz.func173, rfl, by kernel_rfl⟩
theorem c_175 : zc Tryz.prog 175 := ⟨Tryz.f175, Tryz.func175, rfl, by kernel_rfl⟩
theorem c_176 : zc Tryz.prog 176 := ⟨Tryz.f176, Tryz.func176, rfl, by kernel_rfl⟩
theorem c_183 : zc Tryz.prog 183 := ⟨Tryz.f183, Tryz.func183, rfl, by kernel_rfl⟩
end Go.Proofs
end
section
namespace Go.Proofs
open Go.Dk Go.Dm Go.RowKit
theorem zg0 (s : Str) (c : UInt8) (R : Int) (w0 : World) (hG : zw w0) (hm : strings_IndexByte s c = some R) :
    Calls Tryz.prog 183 #[str s, zR c] w0 fun e w' => e = .returned (int R) ∧ Below w0.heap.size w0 w' := by
  refine (Tryz.strings_IndexByte ⟨s.toArray⟩ c.toNat w0).mono fun e w' ⟨he, hw⟩ => ?_
  subst he hw
  refine ⟨?_, Below.refl _ _⟩
  unfold strings_IndexByte at hm
  rw [zmn] at hm
  cases hm
  simp
theorem zgd (s t : Str) (R : Int) (w0 : World) (hG : zw w0) (hm : strings_Index s t = some R) :
    Calls Tryz.prog 152 #[str s, str t] w0 fun e w' => e = .returned (int R) ∧ Below w0.heap.size w0 w' := by
  unfold strings_Index at hm
  split at hm
  · rename_i hs
    obtain ⟨m, hg⟩ := hG.max
    refine (Tryz.strings_Index ⟨s.toArray⟩ ⟨t.toArray⟩ m w0 hs hg).mono fun e w' ⟨he, hw⟩ => ?_
    subst he hw
    rw [znk] at hm
    cases hm
    exact ⟨rfl, Below.refl _ _⟩
  · cases hm
theorem zk1 (s t : Str) (R : Str × Str × Bool) (w0 : World) (hG : zw w0) (hm : strings_Cut s t = some R) :
    Calls Tryz.prog 81 #[str s, str t] w0 fun e w' => e = .returned (.tuple #[str R.1, str R.2.1, .bool R.2.2]) ∧ Below w0.heap.size w0 w' := by
  unfold strings_Cut at hm
  split at hm
  · rename_i hs
    obtain ⟨m, hg⟩ := hG.max
    refine (Tryz.strings_Cut ⟨s.toArray⟩ ⟨t.toArray⟩ m w0 hs hg).mono fun e w' ⟨he, n, hw⟩ => ?_
    subst he hw
    cases hm
    exact ⟨rfl, ⟨rfl, rfl, rfl, Nat.le_refl _, fun _ _ => rfl⟩⟩
  · cases hm
theorem zg1 (n b : Int) (R : Str) (w0 : World) (hG : zbZ w0) (hm : zcD n b = some R) :
    Calls Tryz.prog 176 #[int n, int b] w0 fun e w' => e = .returned (str R) ∧ Below w0.heap.size w0 w' := by
  unfold zcD at hm
  split at hm
  · rename_i h
    obtain ⟨h1, rfl⟩ := h
    obtain ⟨h2, h3⟩ := zfg.1 h1
    cases hm
    refine (Tryz.strconv_FormatInt_10 n h2 h3 w0 hG.2).mono fun e w' ⟨he, k, os, hw⟩ => ?_
    subst he hw
    exact ⟨rfl, Lib.below_grow _ _ (Nat.le_refl _) _ _⟩
  · cases hm
theorem zjp (s sep : Str) (R : List Str) (w0 : World) (hG : zw w0) (hm : strings_Split s sep = some R) :
    Calls Tryz.prog 119 #[str s, str sep] w0 fun e w' => ∃ (p0 : Option Addr) (c0 : Nat), e = .returned (.slice p0 R.length c0) ∧ Own w0 [] w' [.row (.slice p0 R.length c0) 9 1 R.length (cells zg R)] := by
  unfold strings_Split at hm
  split at hm
  · rename_i hs
    obtain ⟨m, hg⟩ := hG.max
    refine (Tryz.strings_Split ⟨s.toArray⟩ ⟨sep.toArray⟩ m w0 hs.1 hg hs.2).mono fun e w' ⟨he, hw⟩ => ?_
    subst he hw
    have hlen := Go.Lib.splitB_all ⟨sep.toArray⟩ hs.2 0 _ ⟨s.toArray⟩ rfl
    have hdat := Go.Lib.splitB_data ⟨sep.toArray⟩ 0 (Go.Lib.countB ⟨s.toArray⟩ ⟨sep.toArray⟩) ⟨s.toArray⟩
    have hR : R = (Go.Lib.splitB ⟨sep.toArray⟩ 0 (Go.Lib.countB ⟨s.toArray⟩ ⟨sep.toArray⟩) ⟨s.toArray⟩).map (·.data.toList) := by
      rw [hdat]; exact (Option.some.inj hm).symm
    have hRl : R.length = Go.Lib.countB ⟨s.toArray⟩ ⟨sep.toArray⟩ + 1 := by rw [hR, List.length_map, hlen]
    have hcells : (Go.Lib.splitB ⟨sep.toArray⟩ 0 (Go.Lib.countB ⟨s.toArray⟩ ⟨sep.toArray⟩) ⟨s.toArray⟩).map Value.string = cells zg R := by
      rw [hR]
      generalize Go.Lib.splitB _ _ _ _ = l
      induction l with
      | nil => rfl
      | cons x l ih => obtain ⟨⟨x⟩⟩ := x; rw [List.map_cons, List.map_cons, ih]; rfl
    have hle := Go.Lib.countB_le ⟨sep.toArray⟩ hs.2 _ ⟨s.toArray⟩ (Nat.le_refl _)
    have hsz : (⟨s.toArray⟩ : ByteArray).size = s.length := rfl
    have hO := (Own.refl w0).newRow (cells zg R) 9 1 R.length (zbi (enc := zg) (sz := 1) (fun _ => rfl) R) (by unfold maxLen; omega)
    rw [hcells, ← hRl]
    exact ⟨_, _, rfl, hO⟩
  · cases hm
theorem zgK (s cs : Str) (R : Str) (w0 : World) (hG : zw w0) (hm : zbk s cs = some R) :
    Calls Tryz.prog 91 #[str s, str cs] w0 fun e w' => e = .returned (str R) ∧ Below w0.heap.size w0 w' := by
  unfold zbk at hm
  split at hm
  · rename_i hs
    refine (Any.strings_Trim_laid Tryz.lays160 (by kernel_rfl) ⟨s.toArray⟩ ⟨cs.toArray⟩ w0 (Nat.le_trans (Nat.le_of_lt hs.1) (by decide)) hs.2.1 (fun j b hb => ?_)).mono fun e w' ⟨he, hw⟩ => ?_
    · have := List.all_eq_true.1 hs.2.2 b (List.mem_of_getElem? hb)
      simpa using this
    · subst he
      cases hm
      exact ⟨rfl, hw⟩
  · cases hm
theorem zg2 (s cs : Str) (R : Str) (w0 : World) (hG : zw w0) (hm : zbO s cs = some R) :
    Calls Tryz.prog 93 #[str s, str cs] w0 fun e w' => e = .returned (str R) ∧ Below w0.heap.size w0 w' := by
  unfold zbO at hm
  split at hm
  · rename_i hs
    refine (Any.strings_TrimRight_laid Tryz.lays162 (by kernel_rfl) ⟨s.toArray⟩ ⟨cs.toArray⟩ w0 (Nat.le_trans (Nat.le_of_lt hs.1) (by decide)) hs.2.1 (fun j b hb => ?_)).mono fun e w' ⟨he, hw⟩ => ?_
    · have := List.all_eq_true.1 hs.2.2 b (List.mem_of_getElem? hb)
      simpa using this
    · subst he
      cases hm
      exact ⟨rfl, hw⟩
  · cases hm
theorem zks (l : List Str) (sep : Str) (R : Str) (w0 : World) (hG : zw w0) {x_p : Option Addr} {x_c : Nat} (hs0 : zH w0 x_p (cells zg l)) (hc0 : l.length ≤ x_c) (hm : strings_Join l sep = some R) :
    Calls Tryz.prog 89 #[.slice x_p l.length x_c, str sep] w0 fun e w' => e = .returned (str R) ∧ Below w0.heap.size w0 w' := by
  unfold strings_Join at hm
  split at hm
  · rename_i hb
    cases hm
    have hmap : (l.map fun x => (⟨x.toArray⟩ : ByteArray)).map (·.data.toList) = l := by
      rw [List.map_map]; exact List.map_id' l
    cases x_p with
    | none =>
      have hnil : cells zg l = [] := hs0
      have : l = [] := by
        cases l with
        | nil => rfl
        | cons x l => simp [cells, zg] at hnil
      subst this
      exact (Tryz.strings_Join_none none x_c ⟨sep.toArray⟩ w0).mono fun e w' h => by
        obtain ⟨he, hw⟩ := h
        subst he hw
        exact ⟨rfl, Below.refl _ _⟩
    | some a =>
      obtain ⟨bk, o, spot⟩ := a
      obtain ⟨h1, h2, h3⟩ := hs0
      simp only at h1; subst h1
      have := Tryz.strings_Join bk o x_c (l.map fun x => (⟨x.toArray⟩ : ByteArray)) ⟨sep.toArray⟩ w0 (fun j x hx => ?_) h2 (by simpa using hb.1) (by simpa using hc0) (by rw [hmap]; exact hb.2)
      · rw [hmap, List.length_map] at this
        exact this
      · rw [List.getElem?_map] at hx
        obtain ⟨y, hy, rfl⟩ := Option.map_eq_some_iff.1 hx
        refine h3 j _ ?_
        have := zgU (enc := zg) (sz := 1) (fun _ => rfl) l j 0 y hy (by omega)
        rw [Nat.mul_one, Nat.add_zero] at this
        exact this
  · cases hm
end Go.Proofs
end
