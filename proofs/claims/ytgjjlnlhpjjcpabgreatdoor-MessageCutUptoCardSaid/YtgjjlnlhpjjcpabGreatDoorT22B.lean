/-
 Heads printed: what may be, its text, and what is read of it again.
 Heads that come piece by piece: what a byte does; pieces play no part.
 X-Forwarded-For: elements, lists, one element more. No program in sight.
 How the end of a message's body is told.
 Chunks as they are written: a piece, the last one, all of a body.
 Chunks that come piece by piece: what was written is read back; no beginning of it is whole.
 Messages: whether one may be, and its text.
 Messages: what is printed is read back; no beginning of it is a message.
-/
import Derived.Test.YtgjjlnlhpjjcpabGreatDoorT15L
section
namespace Go.Dm
def zbe (f : api_Field) : Int := if zfi f.Name then (if f.Value.all zgG && zdp f.Value == f.Value then 0 else 25) else 21
theorem zeZ (f : api_Field) (h1 : f.Name.length < 1000000000) (h2 : f.Value.length < 1000000000) : zcv f = some (zbe f) := by
 unfold zcv zbe;rw [zjJ _ h1, yob, zb8 zeA _ h2, yob, zgz _ h2, yob];cases zfi f.Name <;> cases f.Value.all zgG <;> cases zdp f.Value == f.Value <;> rfl
def zlO (w : Int) : List api_Field → Int
 | [] => w
 | f :: fs => if zbe f == 0 then zlO w fs else zbe f
def zcc (h : api_Head) : Int := if (zhg h).2 == 0 then zlO (zjc h) h.Fields else (zhg h).2
theorem zmZ {h : api_Head} (ht : ((zhg h).2 == 0) = true) : zhg h = (zeR h, 0) ∧ ∃ x, zbS h.Kind (zeR h) = (x, 0) ∧ x.Kind = h.Kind ∧ x.Method = h.Method ∧ x.Target = h.Target ∧ x.Minor = h.Minor ∧ x.Code = h.Code ∧ x.Reason = h.Reason := by
 unfold zhg at ht ⊢
 split
 ·rename_i h1; rw [if_pos h1] at ht; cases ht
 ·rename_i h1
  rw [if_neg h1] at ht
  split
  ·rename_i h2
   refine ⟨rfl, (zbS h.Kind (zeR h)).1, ?_, ?_⟩
   ·rw [Bool.and_eq_true] at h2
    have : (zbS h.Kind (zeR h)).2 = 0 := by simpa using h2.1
    rw [← this]
   ·rw [Bool.and_eq_true] at h2
    have h0 : (zbS h.Kind (zeR h)).2 = 0 := by simpa using h2.1
    have hb := zpj (k := h.Kind) (s := zeR h) (x := (zbS h.Kind (zeR h)).1) (by rw [← h0]);have hs := h2.2;unfold zvG at hs;simp only [Bool.and_eq_true, beq_iff_eq] at hs;exact ⟨hb.kind, hs.1.1.1.1, hs.1.1.1.2, hs.1.1.2, hs.1.2, hs.2⟩
  ·rename_i h2; rw [if_neg h2] at ht; cases ht
theorem zm0 {h : api_Head} (ht : ((zhg h).2 == 0) = true) : GoodH h := by
 obtain ⟨_, x, e, k1, _, _, k4, _, _⟩ := zmZ ht;have := zrE e;exact ⟨k1 ▸ this.kind, k4 ▸ this.minor⟩
theorem zke (h : api_Head) (hs : smallH h) (hl : h.Fields.length < 1000000000) (hf : zby 400000000 h.Fields) : zfZ h = some (zcc h) := by
 unfold zfZ zcc;rw [zhD h hs, yob]
 cases ht : (zhg h).2 == 0 with
 | false => rfl
 | true =>
  rw [ynt, if_neg yfn, if_pos rfl]
  have key : ∀ (n i : Nat), i ≤ h.Fields.length → h.Fields.length - i < n → zdS h n (i : Int) = some (zlO (zjc h) (h.Fields.drop i)) := by
   intro n
   induction n with
   | zero => intro i _ h; omega
   | succ n ih =>
    intro i hi hn;rw [zdS]
    by_cases hlt : i < h.Fields.length
    ·have g : h.Fields[i]? = some h.Fields[i] := ygg hlt;have hsm := hf h.Fields[i] (ygm _);rw [ydt (show (i : Int) < (h.Fields.length : Int) by omega), if_pos rfl, zbw, g, yob, zeZ _ (by omega) (by omega), yob, zE (by omega), yob, ih (i + 1) (by omega) (by omega), ydg hlt, zlO];cases zbe h.Fields[i] == 0 <;> rfl
    ·have : i = h.Fields.length := by omega
     subst this;rw [ydf (by omega), if_neg yfn, ydl, zkh h hl hf, yob];rfl
  have := key fuel 0 (yz _) (by unfold fuel; omega);rw [List.drop_zero] at this;exact this
theorem zi4 {w : Int} : ∀ {fs : List api_Field}, zlO w fs = 0 → w = 0 ∧ ∀ f ∈ fs, zbe f = 0
 | [], h => ⟨h, fun f hf => by cases hf⟩
 | f :: fs, h => by
  rw [zlO] at h
  split at h
  ·rename_i h0
   obtain ⟨a, b⟩ := zi4 h;refine ⟨a, fun g hg => ?_⟩
   rcases List.mem_cons.1 hg with e | e
   ·rw [e]; simpa using h0
   ·exact b g e
  ·rename_i h0; rw [h] at h0; exact absurd rfl h0
def zz (f : api_Field) : Str := if f.Value == [] then f.Name ++ [58] else f.Name ++ [58, 32] ++ f.Value
def zN : List api_Field → Str
 | [] => [13, 10]
 | f :: fs => zz f ++ 13 :: 10 :: zN fs
def zR (h : api_Head) : Str := (zhg h).1 ++ 13 :: 10 :: zN h.Fields
theorem zlP (f : api_Field) : (zz f).length ≤ f.Name.length + f.Value.length + 2 := by
 unfold zz
 split <;> simp <;> omega
theorem zhS {m : Nat} : ∀ {fs : List api_Field}, zby m fs → (zN fs).length ≤ fs.length * (2 * m + 4) + 2
 | [], _ => by simp [zN]
 | f :: fs, h => by
  have h1 := h f (List.mem_cons_self ..);have ih := zhS (m := m) (fs := fs) (fun g hg => h g (List.mem_cons_of_mem _ hg));have := zlP f;simp only [zN, yla, ylc, Nat.add_mul];omega
theorem zoL {h : api_Head} (hs : smallH h) : (zhg h).1.length < 100000000 := by
 have := zq9 hs;unfold zhg
 split
 ·simp
 ·split
  ·exact this
  ·simp
theorem zho (f : api_Field) (h1 : f.Name.length < 100000000) (h2 : f.Value.length < 100000000) (hc : zbe f = 0) : zbE f = some (zz f, 0) := by
 unfold zbE zz;rw [zeZ f (by omega) (by omega), yob, hc, zf8 (by simp; omega), yob, zf8 (by simp; omega), yob, zf8 (by simp; omega), yob];cases f.Value == [] <;> rfl
theorem zgu (b s : Str) (most : Int) (full : Bool) (hb : (b.length : Int) ≤ most) (hm : most ≤ 9223372036854775807) (hs : s.length < 1000000000) (hbl : b.length < 1000000000) :
  zaY ⟨⟨b, most⟩, full⟩ s = some (if ((b.length + s.length + 2 : Nat) : Int) ≤ most then ⟨⟨b ++ s ++ [13, 10], most⟩, full⟩ else ⟨⟨b, most⟩, true⟩) := by
 unfold zaY zew zeW zev;dsimp only;have hsub : zdB most (b.length : Int) = some (most - (b.length : Int)) := zbN (by omega) (by omega);rw [if_pos (show zF 0 ([s] : List Str).length 16 = true from rfl), if_pos (show zF ([s] : List Str).length 1 16 = true from rfl), hsub, yob, yob];rw [show fuel = 999999999999999997 + 1 + 1 + 1 from rfl];show ((zag ⟨b, most⟩ [s, [13, 10]] (999999999999999997 + 1 + 1 + 1) (most - (b.length : Int)) ((0 : Nat) : Int)).bind _).bind _ = _
 have L2 : zW [s, [13, 10]] fuel b most 0 = some (0, ⟨b ++ s ++ [13, 10], most⟩) := by
  rw [show fuel = 999999999999999997 + 1 + 1 + 1 from rfl, show (0 : Int) = ((0 : Nat) : Int) from rfl];rw [zW, ydt (by simp), if_pos rfl, zbw, show ([s, [13, 10]] : List Str)[0]? = some s from rfl, yob, if_pos (zb4 (by omega) (by omega)), zE (by decide), yob];rw [zW, ydt (by simp), if_pos rfl, zbw, show ([s, [13, 10]] : List Str)[0 + 1]? = some [13, 10] from rfl, yob, if_pos (zb4 (by simp; omega) (by simp; omega)), zE (by decide), yob];rw [zW, ydf (by simp), if_neg yfn];rfl
 rw [zag, ydt (by simp), if_pos rfl, zbw, show ([s, [13, 10]] : List Str)[0]? = some s from rfl, yob]
 by_cases h1 : most - (b.length : Int) < (s.length : Int)
 ·rw [ydt h1, if_pos rfl, yob, yob, if_neg (show ¬ ((b.length + s.length + 2 : Nat) : Int) ≤ most by omega)];rfl
 ·rw [ydf h1, if_neg yfn, zbN (by omega) (by omega), yob, zE (by decide), yob];rw [zag, ydt (by simp), if_pos rfl, zbw, show ([s, [13, 10]] : List Str)[0 + 1]? = some [13, 10] from rfl, yob]
  by_cases h2 : most - (b.length : Int) - (s.length : Int) < 2
  ·rw [ydt (show most - (b.length : Int) - (s.length : Int) < (([13, 10] : Str).length : Int) from h2), if_pos rfl, yob, yob, if_neg (show ¬ ((b.length + s.length + 2 : Nat) : Int) ≤ most by omega)];rfl
  ·rw [ydf (show ¬ most - (b.length : Int) - (s.length : Int) < (([13, 10] : Str).length : Int) from h2), if_neg yfn, show (([13, 10] : Str).length : Int) = 2 from rfl, zbN (by omega) (by omega), yob, zE (by decide), yob];rw [zag, ydf (by simp), if_neg yfn];show ((zW [s, [13, 10]] fuel b most 0).bind _).bind _ = _;rw [L2, yob, yob, if_pos (show ((b.length + s.length + 2 : Nat) : Int) ≤ most by omega)];rfl
def zrw (h : api_Head) (most : Int) : Str × Int := if ((zR h).length : Int) ≤ most then (zR h, 0) else ([], 3)
theorem zoo (h : api_Head) (lim : Int) (hli : inI lim = true) (hs : smallH h) (hl : h.Fields.length ≤ 200) (hf : zby 4000 h.Fields) :
  zhe h lim = some (if zcc h == 0 then zrw h lim else ([], zcc h)) := by
 have htl := zoL hs;have hrl := zhS hf;rw [zgQ] at hli;unfold zhe;rw [zke h hs (by omega) (zaq (by decide) hf), yob]
 cases hck : zcc h == 0 with
 | false => rfl
 | true =>
  have hc0 : zcc h = 0 := by simpa using hck
  unfold zjX;rw [ynt, if_neg yfn, if_pos rfl, yob, zhD h hs, yob]
  have hfc : ∀ f ∈ h.Fields, zbe f = 0 := by
   unfold zcc at hc0
   split at hc0
   ·exact (zi4 hc0).2
   ·rename_i hh; rw [hc0] at hh; exact absurd rfl hh
  obtain ⟨most, hmost⟩ : ∃ m, m = max lim 0 := ⟨_, rfl⟩
  have hm0 : 0 ≤ most := by omega
  have hm1 : most ≤ 9223372036854775807 := by omega
  rw [← hmost]
  -- the loop
  have fin : ∀ (t : Bool) (b : Str), (b.length : Int) ≤ most → b.length < 900000000 → zeO t b most = some (if t then ([], 3) else if ((b.length + 2 : Nat) : Int) ≤ most then (b ++ [13, 10], 0) else ([], 3)) := by
   intro t b hb hbl;unfold zeO;rw [zgu b [] most t hb hm1 (by decide) (by omega), yob];simp only [yln, Nat.add_zero, yan]
   split
   ·cases t <;> rfl
   ·cases t <;> rfl
  have key : ∀ (n i : Nat) (t : Bool) (b : Str), i ≤ h.Fields.length → h.Fields.length - i < n → (b.length : Int) ≤ most → b.length ≤ 200000000 + i * 8004 →
    zdT h n t b most (i : Int) = some (if t then ([], 3) else if ((b.length + (zN (h.Fields.drop i)).length : Nat) : Int) ≤ most then (b ++ zN (h.Fields.drop i), 0) else ([], 3)) := by
   intro n
   induction n with
   | zero => intro i _ _ _ h; omega
   | succ n ih =>
    intro i t b hi hn hb hbl;rw [zdT]
    by_cases hlt : i < h.Fields.length
    ·have g : h.Fields[i]? = some h.Fields[i] := ygg hlt;have hsm := hf h.Fields[i] (ygm _);have htf := zlP h.Fields[i];rw [ydt (show (i : Int) < (h.Fields.length : Int) by omega), if_pos rfl, zbw, g, yob, zho _ (by omega) (by omega) (hfc _ (ygm _)), yob, zgu b _ most t hb hm1 (by dsimp only; omega) (by omega), yob, zE (by omega), yob, ydg hlt, zN];dsimp only;generalize zz h.Fields[i] = x at htf
     by_cases hfit : ((b.length + x.length + 2 : Nat) : Int) ≤ most
     ·rw [if_pos hfit];have := ih (i + 1) t (b ++ x ++ [13, 10]) (by omega) (by omega) (by simp only [yla, ylc, yln]; omega) (by simp only [yla, ylc, yln]; omega);refine this.trans ?_
      have e1 : (b ++ x ++ [13, 10]).length + (zN (h.Fields.drop (i + 1))).length = b.length + (x ++ 13 :: 10 :: zN (h.Fields.drop (i + 1))).length := by simp only [yla, ylc, yln]; omega
      have e2 : b ++ x ++ [13, 10] ++ zN (h.Fields.drop (i + 1)) = b ++ (x ++ 13 :: 10 :: zN (h.Fields.drop (i + 1))) := by simp
      rw [e1, e2]
     ·rw [if_neg hfit];have := ih (i + 1) true b (by omega) (by omega) hb (Nat.le_trans hbl (Nat.add_le_add_left (Nat.mul_le_mul_right _ (Nat.le_succ i)) _));refine this.trans ?_;rw [if_pos rfl]
      have hno : ¬ ((b.length + (x ++ 13 :: 10 :: zN (h.Fields.drop (i + 1))).length : Nat) : Int) ≤ most := by simp only [yla, ylc]; omega
      rw [if_neg hno];cases t <;> rfl
    ·have : i = h.Fields.length := by omega
     subst this;rw [ydf (by omega), if_neg yfn, ydl];exact fin t b hb (by omega)
  rw [zgu [] _ most false (by simpa using hm0) hm1 (by omega) (by decide), yob];unfold zrw zR;generalize (zhg h).1 = l at htl;simp only [yln, Nat.zero_add, yna]
  have hpos : (((l ++ 13 :: 10 :: zN h.Fields).length : Int) ≤ lim) ↔ (((l ++ 13 :: 10 :: zN h.Fields).length : Int) ≤ most) := by
   simp only [yla, ylc];omega
  by_cases hfit : ((l.length + 2 : Nat) : Int) ≤ most
  ·rw [if_pos hfit];have := key fuel 0 false (l ++ [13, 10]) (yz _) (by unfold fuel; omega) (by simp only [yla, ylc, yln]; omega) (by simp only [yla, ylc, yln]; omega);refine this.trans ?_;rw [if_neg yfn, List.drop_zero]
   have e1 : (l ++ [13, 10]).length + (zN h.Fields).length = (l ++ 13 :: 10 :: zN h.Fields).length := by simp only [yla, ylc, yln]; omega
   have e2 : l ++ [13, 10] ++ zN h.Fields = l ++ 13 :: 10 :: zN h.Fields := by simp
   rw [e1, e2]
   by_cases hq : ((l ++ 13 :: 10 :: zN h.Fields).length : Int) ≤ most
   ·rw [if_pos hq, if_pos (hpos.2 hq)]
   ·rw [if_neg hq, if_neg (fun h => hq (hpos.1 h))]
  ·rw [if_neg hfit];have := key fuel 0 true [] (yz _) (by unfold fuel; omega) (by simpa using hm0) (by simp);refine this.trans ?_;rw [if_pos rfl, if_neg];intro hh;have := hpos.1 hh;simp only [yla, ylc] at this;omega
def zj3 : Str → List Str → Str
 | l, [] => l
 | l, m :: ms => l ++ 13 :: 10 :: zj3 m ms
theorem zgZ {t : Str} {c : UInt8} (ht : t.head? = some c) : ∀ {l : Str} (r : Str), c ∉ l → zbr t (l ++ r) = (zbr t r).map fun p => (l ++ p.1, p.2)
 | [], r, _ => by
  cases h : zbr t r with
  | none => rw [yna, h]; rfl
  | some p => rw [yna, h]; rfl
 | x :: l, r, h => by
  have hx : c ≠ x := fun e => h (by rw [e]; exact List.mem_cons_self ..)
  have hp : t.isPrefixOf (x :: (l ++ r)) = false := by
   cases t with
   | nil => cases ht
   | cons a t =>
    have : a = c := by simpa using ht
    subst this;show ((a == x) && _) = false;rw [beq_eq_false_iff_ne.2 hx, Bool.false_and]
  rw [List.cons_append, zbr, hp, if_neg yfn, zgZ ht r (fun hm => h (List.mem_cons_of_mem _ hm)), Option.map_map];rfl
theorem zm1 : ∀ (ms : List Str) (l : Str), (13 : UInt8) ∉ l → (∀ m ∈ ms, (13 : UInt8) ∉ m) → lines (zj3 l ms) = l :: ms
 | [], l, hl, _ => by
  have h := zgZ (t := [13, 10]) (c := 13) rfl [] hl;rw [yan] at h;rw [zj3, zk3, h]; rfl
 | m :: ms, l, hl, hm => by
  have h := zgZ (t := [13, 10]) (c := 13) rfl (13 :: 10 :: zj3 m ms) hl
  have hp : zbr [13, 10] (13 :: 10 :: zj3 m ms) = some ([], zj3 m ms) := by
   rw [zbr, if_pos (by rw [zqw]; rfl)]; rfl
  rw [hp] at h;rw [zj3, zk3, h];dsimp only [Option.map_some];rw [yan, zm1 ms m (hm m (List.mem_cons_self ..)) (fun x hx => hm x (List.mem_cons_of_mem _ hx))]
theorem zqj : ∀ (ms : List Str) (l : Str), (13 : UInt8) ∉ l → (∀ m ∈ ms, (13 : UInt8) ∉ m ∧ m ≠ []) → zbr [13, 10, 13, 10] (zj3 l ms ++ [13, 10, 13, 10]) = some (zj3 l ms, [])
 | [], l, hl, _ => by
  rw [zj3, zgZ (c := 13) rfl _ hl]
  have : zbr [13, 10, 13, 10] [13, 10, 13, 10] = some ([], []) := by decide
  rw [this];dsimp only [Option.map_some];rw [yan]
 | m :: ms, l, hl, hm => by
  obtain ⟨h1, h2⟩ := hm m (List.mem_cons_self ..);have ih := zqj ms m h1 (fun x hx => hm x (List.mem_cons_of_mem _ hx))
  obtain ⟨y, m', rfl⟩ : ∃ y m', m = y :: m' := by
   cases m with
   | nil => exact absurd rfl h2
   | cons y m' => exact ⟨y, m', rfl⟩
  have hy : (13 == y) = false := beq_eq_false_iff_ne.2 (fun e => h1 (by rw [e]; exact List.mem_cons_self ..))
  obtain ⟨g, hg⟩ : ∃ g, zj3 (y :: m') ms ++ [13, 10, 13, 10] = y :: g := by
   cases ms with
   | nil => exact ⟨_, rfl⟩
   | cons z zs => exact ⟨_, rfl⟩
  rw [zj3, yaa, zgZ (c := 13) rfl _ hl, List.cons_append, List.cons_append, hg]
  have e1 : ([13, 10, 13, 10] : Str).isPrefixOf (13 :: 10 :: y :: g) = false := by
   show ((13 : UInt8) == 13 && ((10 : UInt8) == 10 && ((13 : UInt8) == y && _))) = false;rw [hy]; rfl
  have e2 : ([13, 10, 13, 10] : Str).isPrefixOf (10 :: y :: g) = false := rfl;rw [zbr, e1, if_neg yfn, zbr, e2, if_neg yfn, ← hg, ih];rfl
theorem zm2 (l : Str) : ∀ fs : List api_Field, l ++ 13 :: 10 :: zN fs = zj3 l (fs.map zz) ++ [13, 10, 13, 10]
 | [] => by simp [zN, zj3]
 | f :: fs => by
  have ih := zm2 (zz f) fs;rw [zN, List.map_cons, zj3, ih]; simp
theorem zm3 {v : Str} (h : v.all zgG = true) : (13 : UInt8) ∉ v ∧ (10 : UInt8) ∉ v := by
 constructor <;> intro hm <;> have := List.all_eq_true.1 h _ hm <;> cases this
theorem zvW (c : UInt8) : (!zbp c || zgG c) = true := zaP (fun c => !zbp c || zgG c) (by decide +kernel) c
theorem zvX {p q : UInt8 → Bool} (h : ∀ c, (!p c || q c) = true) {s : Str} (hs : s.all p = true) : s.all q = true := by
 refine List.all_eq_true.2 fun x hx => ?_;have h1 := List.all_eq_true.1 hs x hx;have h2 := h x;rw [h1] at h2;exact h2
theorem zoM {f : api_Field} (h : zbe f = 0) : zfi f.Name = true ∧ f.Value.all zgG = true ∧ zdp f.Value = f.Value := by
 unfold zbe at h
 split at h
 ·rename_i h1
  split at h
  ·rename_i h2
   rw [Bool.and_eq_true, beq_iff_eq] at h2;exact ⟨h1, h2.1, h2.2⟩
  ·exact absurd h (by decide)
 ·exact absurd h (by decide)
theorem zjM {f : api_Field} (h : zbe f = 0) : (zz f).all zgG = true ∧ zz f ≠ [] := by
 obtain ⟨h1, h2, _⟩ := zoM h;unfold zfi at h1;rw [Bool.and_eq_true] at h1;have hn := zvX zvW h1.1;unfold zz
 split
 ·exact ⟨by rw [List.all_append, hn]; decide, by simp⟩
 ·exact ⟨by rw [List.all_append, List.all_append, hn, h2]; decide, by simp⟩
theorem ztN {s : Str} (h : s.all zgG = true) : s.any ([13, 10] : Str).contains = false := by
 refine List.any_eq_false.2 fun x hx => ?_;have := List.all_eq_true.1 h x hx;intro hc
 have hc' : x = 13 ∨ x = 10 := by simpa using hc
 rcases hc' with e | e <;> subst e <;> cases this
theorem zi5 {f : api_Field} (h : zbe f = 0) : zcN (zz f) = (f, 0) := by
 obtain ⟨h1, h2, h3⟩ := zoM h;have hv := (zjM h).1;have ht := h1;unfold zfi at h1;rw [Bool.and_eq_true] at h1;obtain ⟨n1, n2⟩ := zl1 h1.1
 obtain ⟨v, hu, hva, hvt⟩ : ∃ v, zz f = f.Name ++ 58 :: v ∧ v.all zgG = true ∧ zdp v = f.Value := by
  unfold zz
  cases hx : f.Value == [] with
  | true =>
   have : f.Value = [] := by simpa using hx
   exact ⟨[], by rw [if_pos rfl], rfl, by rw [this]; rfl⟩
  | false =>
   refine ⟨32 :: f.Value, by rw [if_neg yfn]; simp, by rw [List.all_cons, h2]; decide, ?_⟩;rw [zwA (by decide), h3]
 obtain ⟨u1, u2⟩ := zsv f.Name v n2;have hne : f.Name ≠ [] := ((zty _).1 ht).1
 have hhb : zl0 (zz f) = false := by
  rw [hu]
  cases hn : f.Name with
  | nil => exact absurd hn hne
  | cons c n => rw [hn] at n1; exact n1 c (List.mem_cons_self ..)
 unfold zcN;rw [ztN hv, if_neg yfn, hhb, if_neg yfn, hu, u1, u2, zqZ n1, ht];show (if false = true then _ else if decide (f.Name.length < f.Name.length) = true then _ else if (!v.all zgG) = true then _ else _) = _;rw [if_neg yfn, ydf (Nat.lt_irrefl _), if_neg yfn, hva, ynt, if_neg yfn];show ((⟨f.Name, zdp v⟩, 0) : api_Field × Int) = _;rw [hvt]
theorem zmh : ∀ (fs : List api_Field) (h : api_Head), (∀ f ∈ fs, zbe f = 0) → ziJ h (fs.map zz) = ziJ ⟨h.Kind, h.Method, h.Target, h.Code, h.Reason, h.Minor, h.Fields ++ fs⟩ []
 | [], h, _ => by rw [List.map_nil, yan]
 | f :: fs, h, hc => by
  have e : ziJ h (zz f :: fs.map zz) = if (zcN (zz f)).2 == 0 then ziJ (zoV h (zcN (zz f)).1) (fs.map zz) else (zap, (zcN (zz f)).2) := rfl;rw [List.map_cons, e, zi5 (hc f (List.mem_cons_self ..)), ybs, if_pos rfl, zmh fs _ (fun g hg => hc g (List.mem_cons_of_mem _ hg))];unfold zoV;simp only [yaa, List.singleton_append]
theorem zik {h : api_Head} (hc : zcc h = 0) : ((zhg h).2 == 0) = true ∧ zjc h = 0 ∧ ∀ f ∈ h.Fields, zbe f = 0 := by
 unfold zcc at hc
 split at hc
 ·rename_i h1
  exact ⟨h1, zi4 hc⟩
 ·rename_i h1; rw [hc] at h1; exact absurd rfl h1
theorem zoN {k : Int} {s : Str} {x : api_Head} (h : zbS k s = (x, 0)) : (13 : UInt8) ∉ s ∧ s ≠ [] := by
 constructor
 ·intro hm;have hany : s.any ([13, 10] : Str).contains = true := List.any_eq_true.2 ⟨13, hm, by decide⟩;unfold zbS at h
  split at h
  ·exact absurd (show (1 : Int) = 0 from congrArg Prod.snd h) (by decide)
  ·exact absurd (show (24 : Int) = 0 from congrArg Prod.snd h) (by decide)
 ·rintro rfl;unfold zbS at h
  split at h
  ·exact absurd (show (1 : Int) = 0 from congrArg Prod.snd h) (by decide)
  ·rw [show ([] : Str).any ([13, 10] : Str).contains = false from rfl, if_neg yfn] at h
   split at h
   ·exact absurd (show (20 : Int) = 0 from congrArg Prod.snd h) (by decide)
   ·exact absurd (show (20 : Int) = 0 from congrArg Prod.snd h) (by decide)
theorem zsL {h : api_Head} (hc : zcc h = 0) (lim : Int) (hl : ((zR h).length : Int) ≤ lim) : zgH h.Kind (zR h) lim = (h, 0) := by
 obtain ⟨h1, h2, h3⟩ := zik hc;have hg := zm0 h1;obtain ⟨e, x, k0, k1, k2, k3, k4, k5, k6⟩ := zmZ h1;obtain ⟨l1, l2⟩ := zoN k0
 have hraw : zR h = zj3 (zeR h) (h.Fields.map zz) ++ [13, 10, 13, 10] := by
  unfold zR;rw [e, zm2]
 have hms : ∀ m ∈ h.Fields.map zz, (13 : UInt8) ∉ m ∧ m ≠ [] := fun m hm => by
  obtain ⟨f, hf, rfl⟩ := List.mem_map.1 hm;obtain ⟨a, b⟩ := zjM (h3 f hf);exact ⟨(zm3 a).1, b⟩
 have hk : (!(h.Kind == 1) && !(h.Kind == 2)) = false := by rcases hg.kind with hh | hh <;> rw [hh] <;> rfl
 have hfx := zlq h.Kind (zeR h);rw [k0] at hfx;unfold zgH;rw [hk, if_neg yfn, ydf (by omega), if_neg yfn, hraw, zqj _ _ l1 hms];dsimp only;rw [show (([] : Str) == []) = true from rfl, if_pos rfl, zm1 _ _ l1 (fun m hm => (hms m hm).1), zuZ, k0, ybs, if_pos rfl, zmh _ _ h3];dsimp only at hfx
 have hx : (⟨x.Kind, x.Method, x.Target, x.Code, x.Reason, x.Minor, x.Fields ++ h.Fields⟩ : api_Head) = h := by
  rw [k1, k2, k3, k4, k5, k6, hfx, yna]
 show ziJ (⟨x.Kind, x.Method, x.Target, x.Code, x.Reason, x.Minor, x.Fields ++ h.Fields⟩ : api_Head) [] = _;rw [hx, ziJ, h2];rfl
def bare (s : Str) : Str := s.filter fun b => !zaA b
end Go.Dm
end
section
namespace Go.Dm
structure StepR where
 w : Bool
 e : Int
 v : Str
 f : Nat
 g : api_Head
def zjz (u : Str) (frm : Nat) : Str := (u.take (u.length - 1)).drop frm
def zid (u : Str) : Bool := u[u.length - 1]? == some 13
def zco (k L : Int) (u : Str) (frm : Nat) (g : api_Head) (c : UInt8) : StepR :=
 if decide (L ≤ (u.length : Int)) then ⟨false, 3, u, frm, g⟩
 else if !((c == 10) == zid u) then ⟨false, 24, u ++ [c], frm, g⟩
 else if !(c == 10) then ⟨false, 0, u ++ [c], frm, g⟩
 else if frm == 0 then ⟨false, (zbS k (zjz u frm)).2, u ++ [c], u.length + 1, g⟩
 else if !(zjz u frm == []) then ⟨false, (zcN (zjz u frm)).2, u ++ [c], u.length + 1, g⟩
 else ⟨(zgH k (u ++ [c]) L).2 == 0, (zgH k (u ++ [c]) L).2, u ++ [c], frm, (zgH k (u ++ [c]) L).1⟩
def zrc (u : Str) (frm : Nat) : Prop := frm ≤ u.length ∧ (0 < u.length → frm = u.length → u[u.length - 1]? = some 10)
theorem zrd {u : Str} (h : zid u = true) : 0 < u.length ∧ u[u.length - 1]? = some 13 := by
 unfold zid at h
 have : u[u.length - 1]? = some 13 := by simpa using h
 refine ⟨?_, this⟩
 cases u with
 | nil => cases this
 | cons c u => simp
theorem inv_lt {u : Str} {frm : Nat} (hi : zrc u frm) (h : zid u = true) : frm ≤ u.length - 1 := by
 obtain ⟨h1, h2⟩ := zrd h
 by_cases he : frm = u.length
 ·have := hi.2 h1 he;rw [h2] at this; cases this
 ·have := hi.1; omega
theorem zwT (k L : Int) (u : Str) (c : UInt8) (f : Int) (t : Bool) (b : Int) (w : Bool) (g : api_Head) (hu : u.length < 80000000) : zc0 ⟨k, L, u ++ [c], f, t, b, w, g⟩ = some (!((c == 10) == zid u)) := by
 have hl : ((u ++ [c]).length : Int) = (u.length : Int) + 1 := by simp
 have j1 : ∀ q, za0 ⟨k, L, u ++ [c], f, t, b, w, g⟩ q = some (!((c == 10) == q)) := by
  intro q;unfold za0;dsimp only
  have e1 : zdB ((u ++ [c]).length : Int) 1 = some (u.length : Int) := by rw [hl, zbN (by omega) (by omega)]; exact congrArg some (by omega)
  rw [e1, yob, zbw, show (u ++ [c])[u.length]? = some c by simp, yob]
 unfold zc0;dsimp only
 by_cases h : 0 < u.length
 ·have e2 : zdB ((u ++ [c]).length : Int) 2 = some ((u.length - 1 : Nat) : Int) := by rw [hl, zbN (by omega) (by omega)]; exact congrArg some (by omega)
  have g2 : u[u.length - 1]? = some (u[u.length - 1]'(by omega)) := ygg (by omega)
  have g1 : (u ++ [c])[u.length - 1]? = some (u[u.length - 1]'(by omega)) := by rw [List.getElem?_append_left (by omega), g2]
  rw [ydt (show 1 < ((u ++ [c]).length : Int) by omega), if_pos rfl, e2, yob, zbw, g1, yob, j1];unfold zid;rw [g2, znF]
 ·have hu0 : u = [] := List.length_eq_zero_iff.1 (by omega);subst hu0;rw [ydf (by simp), if_neg yfn, j1];rfl
theorem zwU (k L : Int) (v : Str) (f : Nat) (t : Bool) (b : Int) (w : Bool) (g : api_Head) (s : Str) (hv : v.length < 80000000) (hs : s.length < 80000000) :
  zc5 ⟨k, L, v, (f : Int), t, b, w, g⟩ s = some (if f == 0 then (false, (zbS k s).2, ⟨k, L, v, (v.length : Int), t, b, w, g⟩) else if !(s == []) then (false, (zcN s).2, ⟨k, L, v, (v.length : Int), t, b, w, g⟩) else ((zgH k v L).2 == 0, (zgH k v L).2, (⟨k, L, v, (f : Int), t, b, w, (zgH k v L).1⟩ : accum_Accum))) := by
 unfold zc5 zbV;dsimp only
 have hf : ((f : Int) == 0) = (f == 0) := by rw [Bool.eq_iff_iff]; simp
 rw [hf, zdk k s (by omega), yob, ze1 s (by omega), yob, zor k v L (by omega), yob];cases f == 0 <;> cases s == [] <;> rfl
theorem zwV (k L : Int) (u : Str) (f : Nat) (t : Bool) (b : Int) (w : Bool) (g : api_Head) (c : UInt8) (hu : u.length < 70000000) (hi : zrc u f) :
  zb9 ⟨k, L, u, (f : Int), t, b, w, g⟩ c = some ((zco k L u f g c).w, (zco k L u f g c).e, ⟨k, L, (zco k L u f g c).v, ((zco k L u f g c).f : Int), t, b, w, (zco k L u f g c).g⟩) := by
 unfold zb9 zco;dsimp only
 cases decide (L ≤ (u.length : Int)) with
 | true => rfl
 | false =>
  rw [if_neg yfn, if_neg yfn, if_pos (zb4 (by omega) (by omega)), zwT k L u c _ _ _ _ _ (by omega), yob]
  cases hb : !((c == 10) == zid u) with
  | true => rfl
  | false =>
   rw [if_neg yfn, if_neg yfn]
   cases hc : c == 10 with
   | false => rfl
   | true =>
    rw [hc] at hb
    have h13 : zid u = true := by cases h : zid u with
     | true => rfl
     | false => rw [h] at hb; cases hb
    obtain ⟨hp, _⟩ := zrd h13;have hf := inv_lt hi h13
    have hl : ((u ++ [c]).length : Int) = (u.length : Int) + 1 := by simp
    have e2 : zdB ((u ++ [c]).length : Int) 2 = some ((u.length - 1 : Nat) : Int) := by rw [hl, zbN (by omega) (by omega)]; exact congrArg some (by omega)
    have e3 : lSub (u ++ [c]) (f : Int) ((u.length - 1 : Nat) : Int) = some (zjz u f) := by
     have := zgt (l := u ++ [c]) (i := f) (h := u.length - 1) hf (by simp; omega);have hta : (u ++ [c]).take (u.length - 1) = u.take (u.length - 1) := List.take_append_of_le_length (by omega);unfold zjm at this;unfold lSub zjz;rw [← hta];exact this
    have hll : (zjz u f).length ≤ u.length := by unfold zjz; simp; omega
    rw [ynt, if_neg yfn, if_neg yfn, e2, yob, e3, yob, zwU k L _ f t b w g _ (by simp; omega) (by omega), yob]
    have hn : (u ++ [c]).length = u.length + 1 := by simp
    rw [hn];cases f == 0 <;> cases zjz u f == [] <;> rfl
theorem zwW {k L : Int} {u : Str} {f : Nat} {g : api_Head} {c : UInt8} (hi : zrc u f) (hw : ((zco k L u f g c).w || !((zco k L u f g c).e == 0)) = false) :
  (zco k L u f g c).v = u ++ [c] ∧ (zco k L u f g c).g = g ∧ zrc (u ++ [c]) (zco k L u f g c).f ∧ (u.length : Int) < L := by
 have key : ∀ f', f' ≤ u.length → zrc (u ++ [c]) f' := fun f' h => ⟨by simp; omega, fun _ h2 => by simp at h2; omega⟩;have key2 : c = 10 → zrc (u ++ [c]) (u.length + 1) := fun h => ⟨by simp, fun _ _ => by rw [h]; simp⟩;unfold zco at hw ⊢
 cases hL : decide (L ≤ (u.length : Int)) with
 | true => rw [hL, if_pos rfl] at hw; cases hw
 | false =>
  have hL' : (u.length : Int) < L := by have := of_decide_eq_false hL; omega
  rw [hL, if_neg yfn] at hw;rw [if_neg yfn]
  cases hb : !((c == 10) == zid u) with
  | true => rw [hb, if_pos rfl] at hw; cases hw
  | false =>
   rw [hb, if_neg yfn] at hw;rw [if_neg yfn]
   cases hc : c == 10 with
   | false => exact ⟨rfl, rfl, key f hi.1, hL'⟩
   | true =>
    have hc' : c = 10 := by simpa using hc
    rw [hc, ynt, if_neg yfn] at hw;rw [ynt, if_neg yfn]
    cases h0 : f == 0 with
    | true => exact ⟨rfl, rfl, key2 hc', hL'⟩
    | false =>
     rw [h0, if_neg yfn] at hw;rw [if_neg yfn]
     cases hl : !(zjz u f == []) with
     | true => exact ⟨rfl, rfl, key2 hc', hL'⟩
     | false =>
      rw [hl, if_neg yfn] at hw
      exfalso
      dsimp only at hw
      cases hh : (zgH k (u ++ [c]) L).2 == 0 with
      | true => rw [hh] at hw; cases hw
      | false => rw [hh] at hw; cases hw
def zgB (k L : Int) (g : api_Head) : Str → Str → Nat → Nat → Option (Nat × StepR) × Nat
 | [], _, f, _ => (none, f)
 | c :: r, u, f, i => if (zco k L u f g c).w || !((zco k L u f g c).e == 0) then (some (i + 1, zco k L u f g c), f) else zgB k L g r (u ++ [c]) (zco k L u f g c).f (i + 1)
def zlw (k L : Int) (g : api_Head) (u : Str) (f : Nat) (t : Bool) (s : Str) : Int × Bool × Int × accum_Accum := match zgB k L g s u f 0 with
 | (some z, _) => ((z.1 : Int), z.2.w, z.2.e, ⟨k, L, [], (z.2.f : Int), true, z.2.e, z.2.w, z.2.g⟩)
 | (none, f') => ((s.length : Int), false, 0, ⟨k, L, u ++ s, (f' : Int), t || !(s == []), 0, false, g⟩)
theorem zn4 (k L : Int) (g : api_Head) (s : Str) (hs : s.length < 30000000) : ∀ (r : Str) (n i : Nat) (u : Str) (f : Nat) (t : Bool), s.drop i = r → i ≤ s.length → r.length < n → u.length + r.length < 60000000 → zrc u f →
  zM s n k L u (f : Int) t 0 false g.Kind g.Method g.Target g.Code g.Reason g.Minor g.Fields (i : Int) = some (match zgB k L g r u f i with
   | (some z, _) => ((z.1 : Int), z.2.w, z.2.e, ⟨k, L, [], (z.2.f : Int), true, z.2.e, z.2.w, z.2.g⟩)
   | (none, f') => ((s.length : Int), false, 0, ⟨k, L, u ++ r, (f' : Int), t || !(r == []), 0, false, g⟩))
 | [], n, i, u, f, t, hd, hi, hn, hu, hv => by
  obtain ⟨n, rfl⟩ : ∃ m, n = m + 1 := ⟨n - 1, by simp at hn; omega⟩
  have : i = s.length := by have := congrArg List.length hd; simp at this; omega
  subst this;rw [zM, ydf (by omega), if_neg yfn];unfold zcT zgB;dsimp only;rw [yan, show (([] : Str) == []) = true from rfl, ynt, Bool.or_false]
 | c :: r, n, i, u, f, t, hd, hi, hn, hu, hv => by
  simp only [ylc] at hn hu;obtain ⟨n, rfl⟩ : ∃ m, n = m + 1 := ⟨n - 1, by omega⟩;obtain ⟨hlt, hdr⟩ := zlD hd
  have hg : s[i]? = some c := by have := congrArg (·[0]?) hd; simpa using this
  have ht := zwV k L u f true 0 false g c (by omega) hv;rw [zM, ydt (by omega), if_pos rfl, zhK, hg, yob];show ((zb9 ⟨k, L, u, (f : Int), true, 0, false, g⟩ c).bind _) = _;rw [ht, yob, zgB];have hon := fun h => zwW (k := k) (L := L) (g := g) (c := c) hv h;generalize zco k L u f g c = q at hon;obtain ⟨qw, qe, qv, qf, qg⟩ := q;dsimp only at hon ⊢;unfold zbW;dsimp only
  cases qw with
  | true =>
   rw [Bool.true_or, if_pos rfl, if_pos rfl, if_pos rfl, zE (by omega), yob]
  | false =>
   cases h0 : qe == 0 with
   | false =>
    rw [Bool.false_or, ynf, if_pos rfl, if_neg yfn, if_pos rfl, zE (by omega), yob]
   | true =>
    have he : qe = 0 := by simpa using h0
    subst he;obtain ⟨h1, h2, h3, _⟩ := hon (by rfl);subst h1;subst h2;rw [Bool.false_or, ynt, if_neg yfn, if_neg yfn, if_neg yfn, zE (by omega), yob];have ih := zn4 k L qg s hs r n (i + 1) (u ++ [c]) qf true hdr (by omega) (by omega) (by simp; omega) h3;rw [ih]
    have e1 : u ++ [c] ++ r = u ++ c :: r := by simp
    have e2 : ((true : Bool) || !(r == [])) = (t || !((c :: r : Str) == [])) := by
     have : ((c :: r : Str) == []) = false := rfl;rw [this]; cases t <;> rfl
    rw [e1, e2]
theorem zwX (k L : Int) (g : api_Head) (u : Str) (f : Nat) (t : Bool) (s : Str) (hs : s.length < 30000000) (hu : u.length < 30000000) (hi : zrc u f) : zca ⟨k, L, u, (f : Int), t, 0, false, g⟩ s = some (zlw k L g u f t s) := by
 unfold zca zbX;exact zn4 k L g s hs s fuel 0 u f t rfl (yz _) (by unfold fuel; omega) (by omega) hi
theorem zre (k L : Int) (g : api_Head) (y : Str) : ∀ (x u : Str) (f i : Nat), zgB k L g (x ++ y) u f i = match zgB k L g x u f i with
  | (some z, f') => (some z, f')
  | (none, f') => zgB k L g y (u ++ x) f' (i + x.length)
 | [], u, f, i => by rw [yna, zgB]; simp
 | c :: x, u, f, i => by
  rw [List.cons_append, zgB, zgB]
  split
  ·rfl
  ·rw [zre k L g y x, yaa, List.singleton_append, ylc, show i + 1 + x.length = i + (x.length + 1) by omega]
def zvL (a : accum_Accum) : api_Head × Bool := if a.f_whole then (a.f_got, true) else (zap, false)
theorem zwY (a : accum_Accum) (h : a.f_got.Fields.length < 1000000) : zcb a = some (zvL a) := by
 unfold zcb zvL
 cases a.f_whole with
 | false => rfl
 | true => rw [ynt, if_neg yfn, if_pos rfl, if_pos (zb4 (by omega) (by omega))]

end Go.Dm
end
section
namespace Go.Dm
theorem zkN {s : Str} {l : List Str} (h : zhf s = some l) : l.length ≤ s.length + 1 ∧ ∀ x ∈ l, x.length ≤ s.length := by
 unfold zhf at h;obtain ⟨m, hm, rfl⟩ := Option.map_eq_some_iff.1 h
 have key : ∀ (s : Str) (k : Nat) (cur : Str) (m : List Str), zgU k cur s = some m → m.length ≤ s.length + 1 ∧ ∀ x ∈ m, x.length ≤ cur.length + s.length := by
  intro s
  induction s with
  | nil => intro k cur m h; rw [zq5] at h; cases h; simp
  | cons c r ih =>
   intro k cur m h
   have one : ∀ k, zgU k (cur ++ [c]) r = some m → m.length ≤ (c :: r).length + 1 ∧ ∀ x ∈ m, x.length ≤ cur.length + (c :: r).length := fun k h => by
    have := ih k _ m h
    simp only [ylc, yla, yln] at *
    exact ⟨by omega, fun x hx => by have := this.2 x hx; omega⟩
   cases k with
   | succ k => exact one k h
   | zero =>
    cases h1 : (c == 34 || c == 40) with
    | true =>
     rw [zsx cur r h1] at h
     split at h
     ·cases h
     ·exact one _ h
    | false =>
     cases h2 : c == 44 with
     | true =>
      have : c = 44 := by simpa using h2
      subst this;rw [znT] at h;obtain ⟨m', hm', rfl⟩ := Option.map_eq_some_iff.1 h;have := ih 0 [] m' hm'
      simp only [ylc, yln] at *
      refine ⟨by omega, fun x hx => ?_⟩
      rcases List.mem_cons.1 hx with rfl | hx
      ·omega
      ·have := this.2 x hx; omega
     | false => rw [zq6 cur r h1 h2] at h; exact one 0 h
 have := key s 0 [] m hm;unfold elems;refine ⟨?_, fun x hx => ?_⟩
 ·have h1 := List.length_filter_le (fun x : Str => !(x == [])) (m.map zdp);rw [List.length_map] at h1;omega
 ·have h1 := (List.mem_filter.1 hx).1;obtain ⟨y, hy, rfl⟩ := List.mem_map.1 h1;have := this.2 y hy;have := zpQ y
  simp at *
  omega
end Go.Dm
end
section
namespace Go.Dm
def zqe : List Str → List Str → List Str × Int
 | [], out => (out, 0)
 | v :: vs, out => match zhf v with
  | none => ([], 2)
  | some l => if l.all zfi then zqe vs (out ++ l) else ([], 2)
theorem zqf (rec1 : List Str → Int → Option (List Str × Int)) (l6 : List Str) (i7 : Nat) (l : List Str) (e : Int) (hl : l.length < 1000000000) (hx : ∀ x ∈ l, x.length < 900000000) (h6 : (l6.length + l.length) * 16 ≤ 140737488355328) (h7 : i7 < 1000000000) :
  zbk rec1 l6 (i7 : Int) (l, e) fuel 0 = if l.all zfi then rec1 (l6 ++ l) ((i7 + 1 : Nat) : Int) else some ([], 2) := by
 have key : ∀ (n i : Nat), i ≤ l.length → l.length - i < n → zbk rec1 l6 (i7 : Int) (l, e) n (i : Int) = if (l.drop i).all zfi then rec1 (l6 ++ l) ((i7 + 1 : Nat) : Int) else some ([], 2) := by
  intro n
  induction n with
  | zero => intro i _ h; omega
  | succ n ih =>
   intro i hi h;rw [zbk]
   by_cases hlt : i < l.length
   ·have g : l[i]? = some l[i] := ygg hlt;have hxl := hx l[i] (ygm _);dsimp only;rw [ydt (show (i : Int) < (l.length : Int) by omega), if_pos rfl, zbw, g, yob, zjJ _ (by omega), yob, zE (by omega), yob, ih (i + 1) (by omega) (by omega), ydg hlt, List.all_cons];cases zfi l[i] <;> rfl
   ·have : i = l.length := by omega
    subst this;dsimp only;rw [ydf (by omega), if_neg (by decide), if_pos (zb4 h6 (by omega)), zE (by omega), yob, ydl];rfl
 have := key fuel 0 (yz _) (by unfold fuel; omega);rw [List.drop_zero] at this;exact this
theorem zmg (vs : List Str) (hn : vs.length ≤ 1000) (hv : ∀ v ∈ vs, v.length < 400000) : zeM vs = some (zqe vs []) := by
 unfold zeM
 have key : ∀ (n i : Nat) (out : List Str), i ≤ vs.length → vs.length - i < n → out.length ≤ i * 400001 → zbl vs n out (i : Int) = some (zqe (vs.drop i) out) := by
  intro n
  induction n with
  | zero => intro i _ _ h; omega
  | succ n ih =>
   intro i out hi h ho;rw [zbl]
   by_cases hlt : i < vs.length
   ·have g : vs[i]? = some vs[i] := ygg hlt;have hvl := hv vs[i] (ygm _);rw [ydt (show (i : Int) < (vs.length : Int) by omega), if_pos rfl, zbw, g, yob, ziS _ (by omega), yob, ydg hlt, zqe];unfold zp5
    cases hs : zhf vs[i] with
    | none => rfl
    | some l =>
     have hm := zkN hs;dsimp only;rw [if_neg (by decide), zqf _ _ _ l 0 (by omega) (fun x hx => by have := hm.2 x hx; omega) (by omega) (by omega)]
     cases ha : l.all zfi with
     | false => rfl
     | true => rw [if_pos rfl, if_pos rfl, ih (i + 1) _ (by omega) (by omega) (by rw [yla]; omega)]
   ·have : i = vs.length := by omega
    subst this;rw [ydf (by omega), if_neg (by decide), ydl];rfl
 have := key fuel 0 [] (yz _) (by unfold fuel; omega) (by simp);rw [List.drop_zero] at this;exact this
abbrev zii : Int := 1099511627776
def zoJ : Int → List Str → Option Int
 | i, [] => some i
 | i, t :: ts => if (zaO 10 t zii).2 == 0 then (if decide (0 ≤ i) && !((zaO 10 t zii).1 == i) then none else zoJ (zaO 10 t zii).1 ts) else none
def zqg : Int → List Str → Option Int
 | i, [] => some i
 | i, v :: vs => match zhf v with
  | none => none
  | some l => match zoJ i l with
   | none => none
   | some k => zqg k vs
def zqh : api_Frame × Int := (⟨0, 0⟩, 28)
def lenR (o : Option Int) : api_Frame × Int := match o with
 | none => zqh
 | some i => if i < 0 then zqh else (⟨2, i⟩, 0)
theorem zoK (rec1 : Int → Int → Option (api_Frame × Int)) (i7 : Nat) (l : List Str) (e : Int) (k : Int) (hl : l.length < 1000000000) (hx : ∀ x ∈ l, x.length < 900000000) (h7 : i7 < 1000000000) :
  zl rec1 (i7 : Int) (l, e) fuel k 0 = match zoJ k l with | none => some zqh | some j => rec1 j ((i7 + 1 : Nat) : Int) := by
 have key : ∀ (n i : Nat) (k : Int), i ≤ l.length → l.length - i < n → zl rec1 (i7 : Int) (l, e) n k (i : Int) = match zoJ k (l.drop i) with | none => some zqh | some j => rec1 j ((i7 + 1 : Nat) : Int) := by
  intro n
  induction n with
  | zero => intro i _ _ h; omega
  | succ n ih =>
   intro i k hi h;rw [zl]
   by_cases hlt : i < l.length
   ·have g : l[i]? = some l[i] := ygg hlt;have hxl := hx l[i] (ygm _)
    have hj : ∀ b : Bool, zJ (zl rec1 (i7 : Int) (l, e) n) (i : Int) (zaO 10 l[i] zii) b = if b then some zqh else (match zoJ (zaO 10 l[i] zii).1 (l.drop (i + 1)) with | none => some zqh | some j => rec1 j ((i7 + 1 : Nat) : Int)) := by
     intro b;unfold zJ;rw [zE (by omega), yob, ih (i + 1) _ (by omega) (by omega)];rfl
    dsimp only;rw [ydt (show (i : Int) < (l.length : Int) by omega), if_pos rfl, zbw, g, yob, zdy _ _ (by omega) (by decide) (by decide), yob, hj, hj, hj, ydg hlt, zoJ]
    cases (zaO 10 l[i] zii).2 == 0 with
    | false => rfl
    | true =>
     cases decide (0 ≤ k) with
     | false => rfl
     | true => cases (zaO 10 l[i] zii).1 == k <;> rfl
   ·have : i = l.length := by omega
    subst this;dsimp only;rw [ydf (by omega), if_neg (by decide), zE (by omega), yob, ydl];rfl
 have := key fuel 0 k (yz _) (by unfold fuel; omega);rw [List.drop_zero] at this;exact this
theorem zsi (r : length_reader) (vs : List Str) (hn : vs.length ≤ 1000) (hv : ∀ v ∈ vs, v.length < 400000) : zbd r vs = some (lenR (zqg (-1) vs)) := by
 unfold zbd
 have key : ∀ (n i : Nat) (k : Int), i ≤ vs.length → vs.length - i < n → zx vs n k (i : Int) = some (lenR (zqg k (vs.drop i))) := by
  intro n
  induction n with
  | zero => intro i _ _ h; omega
  | succ n ih =>
   intro i k hi h;rw [zx]
   by_cases hlt : i < vs.length
   ·have g : vs[i]? = some vs[i] := ygg hlt;have hvl := hv vs[i] (ygm _);rw [ydt (show (i : Int) < (vs.length : Int) by omega), if_pos rfl, zbw, g, yob, ziS _ (by omega), yob, ydg hlt, zqg];unfold zp5
    cases hs : zhf vs[i] with
    | none => rfl
    | some l =>
     have hm := zkN hs;dsimp only;rw [if_neg (by decide), zoK _ _ l 0 k (by omega) (fun x hx => by have := hm.2 x hx; omega) (by omega)]
     cases zoJ k l with
     | none => rfl
     | some j => exact ih (i + 1) j (by omega) (by omega)
   ·have : i = vs.length := by omega
    subst this;rw [ydf (by omega), if_neg (by decide), ydl, zqg, lenR]
    by_cases hk : k < 0
    ·rw [ydt hk, if_pos rfl, if_pos hk]; rfl
    ·rw [ydf hk, if_neg (by decide), if_neg hk]
 have := key fuel 0 (-1) (yz _) (by unfold fuel; omega);rw [List.drop_zero] at this;exact this
def zlL : List Str → Option (List Int)
 | [] => some []
 | t :: ts => if (zaO 10 t zii).2 == 0 then (zlL ts).map fun ns => (zaO 10 t zii).1 :: ns else none
def zol : List Str → Option (List Int)
 | [] => some []
 | v :: vs => match zhf v with
  | none => none
  | some l => match zlL l with
   | none => none
   | some a => (zol vs).map fun b => a ++ b
def zj1 : Option (List Int) → api_Frame × Int
 | none => zqh
 | some [] => zqh
 | some (n :: ns) => if ns.all (fun m => m == n) then (⟨2, n⟩, 0) else zqh
def zhL : Int → List Int → Option Int
 | i, [] => some i
 | i, n :: ns => if decide (0 ≤ i) && !(n == i) then none else zhL n ns
theorem zsj : ∀ (l : List Str) (i : Int), (zlL l = none ∧ zoJ i l = none) ∨ ∃ ns, zlL l = some ns ∧ (∀ n ∈ ns, 0 ≤ n) ∧ zoJ i l = zhL i ns := by
 intro l
 induction l with
 | nil => intro i; exact .inr ⟨[], rfl, (fun n h => by cases h), rfl⟩
 | cons t ts ih =>
  intro i;rw [zlL, zoJ]
  cases h : (zaO 10 t zii).2 == 0 with
  | false => exact .inl ⟨rfl, rfl⟩
  | true =>
   have h0 := (znU (b := 10) (s := t) (most := zii) (by simpa using h) (by decide)).1;rw [if_pos rfl, if_pos rfl]
   rcases ih (zaO 10 t zii).1 with ⟨q1, q2⟩ | ⟨ns, q1, q2, q3⟩
   ·left
    rw [q1, q2];refine ⟨rfl, ?_⟩
    split <;> rfl
   ·right
    refine ⟨(zaO 10 t zii).1 :: ns, by rw [q1]; rfl, fun n hn => ?_, by rw [zhL, q3]⟩
    rcases List.mem_cons.1 hn with rfl | hn
    ·exact h0
    ·exact q2 n hn
theorem ztJ : ∀ (a b : List Int) (i : Int), zhL i (a ++ b) = match zhL i a with | none => none | some k => zhL k b := by
 intro a
 induction a with
 | nil => intro b i; rfl
 | cons n ns ih =>
  intro b i;rw [List.cons_append, zhL, zhL]
  split
  ·rfl
  ·exact ih b n
theorem zsk : ∀ (vs : List Str) (i : Int), (zol vs = none ∧ zqg i vs = none) ∨ ∃ ns, zol vs = some ns ∧ (∀ n ∈ ns, 0 ≤ n) ∧ zqg i vs = zhL i ns := by
 intro vs
 induction vs with
 | nil => intro i; exact .inr ⟨[], rfl, (fun n h => by cases h), rfl⟩
 | cons v vs ih =>
  intro i;rw [zol, zqg]
  cases hs : zhf v with
  | none => exact .inl ⟨rfl, rfl⟩
  | some l =>
   dsimp only
   rcases zsj l i with ⟨q1, q2⟩ | ⟨a, q1, q2, q3⟩
   ·left; rw [q1, q2]; exact ⟨rfl, rfl⟩
   ·rw [q1, q3];dsimp only
    cases hv : zol vs with
    | none =>
     left
     refine ⟨rfl, ?_⟩
     cases zhL i a with
     | none => rfl
     | some k =>
      rcases ih k with ⟨_, r2⟩ | ⟨ns, r1, _, _⟩
      ·exact r2
      ·rw [hv] at r1; cases r1
    | some b =>
     right
     have hb : ∀ n ∈ b, 0 ≤ n := by
      rcases ih 0 with ⟨r1, _⟩ | ⟨ns, r1, r2, _⟩
      ·rw [hv] at r1; cases r1
      ·rw [hv] at r1; cases r1; exact r2
     refine ⟨a ++ b, rfl, fun n hn => (List.mem_append.1 hn).elim (q2 n) (hb n), ?_⟩;rw [ztJ]
     cases zhL i a with
     | none => rfl
     | some k =>
      rcases ih k with ⟨r1, _⟩ | ⟨ns, r1, _, r3⟩
      ·rw [hv] at r1; cases r1
      ·rw [hv] at r1; cases r1; exact r3
theorem ztK : ∀ (ns : List Int) (n : Int), 0 ≤ n → (∀ m ∈ ns, 0 ≤ m) → zhL n ns = if ns.all (fun m => m == n) then some n else none := by
 intro ns
 induction ns with
 | nil => intro n _ _; rfl
 | cons m ns ih =>
  intro n hn h;rw [zhL, ydt hn, Bool.true_and, List.all_cons]
  cases hm : m == n with
  | false => rfl
  | true =>
   have e : m = n := by simpa using hm
   subst e;rw [ynt, if_neg yfn, ih m hn (fun x hx => h x (List.mem_cons_of_mem _ hx)), Bool.true_and]
theorem ztL (vs : List Str) : lenR (zqg (-1) vs) = zj1 (zol vs) := by
 rcases zsk vs (-1) with ⟨q1, q2⟩ | ⟨ns, q1, q2, q3⟩
 ·rw [q1, q2]; rfl
 ·rw [q1, q3]
  cases ns with
  | nil => rfl
  | cons n ns =>
   have hn := q2 n (List.mem_cons_self ..);rw [zhL, show decide ((0 : Int) ≤ -1) = false from rfl, Bool.false_and, if_neg yfn, ztK ns n hn (fun m hm => q2 m (List.mem_cons_of_mem _ hm)), zj1]
   cases ns.all (fun m => m == n) with
   | false => rfl
   | true =>
    rw [if_pos rfl, if_pos rfl, lenR]
    try dsimp only
    rw [if_neg (by omega)]
def zlM : Str := [116, 114, 97, 110, 115, 102, 101, 114, 45, 101, 110, 99, 111, 100, 105, 110, 103]
def zks : Str := [99, 111, 110, 116, 101, 110, 116, 45, 108, 101, 110, 103, 116, 104]
def zgM (l : List api_Field) (nm : Str) : List Str := (l.filter (isN nm)).map (·.Value)
def zom : Str := [99, 104, 117, 110, 107, 101, 100]
def zj2 (m : Int) (te : List Str) : api_Frame × Int :=
 if ((zqe te []).2 == 0) && !(m == 0) then (match (zqe te []).1 with
  | [x] => if low x == zom then (⟨3, 0⟩, 0) else (⟨0, 0⟩, 30)
  | _ => (⟨0, 0⟩, 30)) else (⟨0, 0⟩, 30)
def zkY (h : api_Head) (k : Int) : api_Frame × Int :=
 if (zgM h.Fields zlM) == [] then (if (zgM h.Fields zks) == [] then (⟨k, 0⟩, 0) else zj1 (zol (zgM h.Fields zks)))
 else if (zgM h.Fields zks) == [] then zj2 h.Minor (zgM h.Fields zlM) else (⟨0, 0⟩, 29)
theorem zvV {B : Nat} : ∀ (vs : List Str) (out : List Str), (∀ v ∈ vs, v.length ≤ B) → (∀ x ∈ out, x.length ≤ B) → ∀ x ∈ (zqe vs out).1, x.length ≤ B := by
 intro vs
 induction vs with
 | nil => intro out _ ho; exact ho
 | cons v vs ih =>
  intro out h ho;rw [zqe]
  cases hs : zhf v with
  | none => intro x hx; cases hx
  | some l =>
   have hm := zkN hs;have hv := h v (List.mem_cons_self ..);dsimp only
   split
   ·refine ih _ (fun x hx => h x (List.mem_cons_of_mem _ hx)) fun x hx => ?_
    rcases List.mem_append.1 hx with hx | hx
    ·exact ho x hx
    ·have := hm.2 x hx; omega
   ·intro x hx; cases hx
theorem ztM (r : length_reader) (vs : List Str) (hn : vs.length ≤ 1000) (hv : ∀ v ∈ vs, v.length < 400000) : zbC r vs = some (zj2 r.f_minor vs) := by
 have ht := zmg vs hn hv;have hb := zvV (B := 400000) vs [] (fun v h => Nat.le_of_lt (hv v h)) (fun x h => by cases h);unfold zbC zj2;rw [ht, yob];generalize zqe vs [] = q at hb;obtain ⟨l, e⟩ := q;dsimp only at hb ⊢
 cases h0 : e == 0 with
 | false => rfl
 | true =>
  cases hm : r.f_minor == 0 with
  | true => rfl
  | false =>
   rw [ynt, if_neg yfn, if_neg yfn, ynf, Bool.and_true, if_pos rfl]
   match l, hb with
   | [], _ => rfl
   | [x], hb =>
    have hx := hb x (by simp);rw [show (!((([x] : List Str).length : Int) == 1)) = false from rfl, if_neg yfn, zru, List.getElem?_cons_zero, yob, zkm _ _ (by omega) (by decide), yob, show low ([99, 104, 117, 110, 107, 101, 100] : Str) = zom from by decide];unfold zP;dsimp only;cases low x == zom <;> rfl
   | x :: y :: l, _ =>
    have : (!(((x :: y :: l).length : Int) == 1)) = true := by simp; omega
    rw [this];rfl
theorem zon {k : List api_Field} {B : Nat} (h1 : k.length ≤ 1000) (h2 : zby B k) (nm : Str) : (zgM k nm).length ≤ 1000 ∧ ∀ v ∈ zgM k nm, v.length < B := by
 unfold zgM;refine ⟨?_, fun v hv => ?_⟩
 ·rw [List.length_map];have := List.length_filter_le (isN nm) k;omega
 ·obtain ⟨f, hf, rfl⟩ := List.mem_map.1 hv;exact (h2 f (List.mem_filter.1 hf).1).2
theorem zsK (l : List Str) : decide (0 < (l.length : Int)) = !(l == []) := by
 cases l with
 | nil => rfl
 | cons x l => simp <;> omega
theorem zlN (h : api_Head) (k : Int) (hl : h.Fields.length ≤ 1000) (hf : zby 400000 h.Fields) : zgX h k = some (zkY h k) := by
 have e1 : isN ([84, 114, 97, 110, 115, 102, 101, 114, 45, 69, 110, 99, 111, 100, 105, 110, 103] : Str) = isN zlM := by
  funext f; unfold isN
  rw [show low ([84, 114, 97, 110, 115, 102, 101, 114, 45, 69, 110, 99, 111, 100, 105, 110, 103] : Str) = low zlM from by decide]
 have e2 : isN ([67, 111, 110, 116, 101, 110, 116, 45, 76, 101, 110, 103, 116, 104] : Str) = isN zks := by
  funext f; unfold isN
  rw [show low ([67, 111, 110, 116, 101, 110, 116, 45, 76, 101, 110, 103, 116, 104] : Str) = low zks from by decide]
 have b1 := zon hl hf zlM;have b2 := zon hl hf zks;unfold zgX zjW;rw [znK _ (by omega), yob, yob, zhM _ _ (by decide) (by omega) (zaq (by decide) hf), yob, zhM _ _ (by decide) (by omega) (zaq (by decide) hf), yob, e1, e2];unfold zkY;show (if decide (0 < ((zgM h.Fields zlM).length : Int)) = true then zdt h k ⟨h.Fields⟩ (zgM h.Fields zlM) (zgM h.Fields zks) (decide (0 < ((zgM h.Fields zks).length : Int))) else zdt h k ⟨h.Fields⟩ (zgM h.Fields zlM) (zgM h.Fields zks) false) = _;unfold zdt;rw [ztM _ _ b1.1 b1.2, zsi _ _ b2.1 b2.2, ztL, zsK, zsK, yob, yob];cases zgM h.Fields zlM == [] <;> cases zgM h.Fields zks == [] <;> rfl
def zqi (m : Str) (c : Int) : Bool := (m == [72, 69, 65, 68]) || decide (c < 200) || (c == 204) || (c == 304) || ((m == [67, 79, 78, 78, 69, 67, 84]) && decide (c < 300))
def zeD (m : Str) (h : api_Head) : api_Frame × Int :=
 if h.Kind == 1 then zkY h 1 else if zqi m h.Code then (⟨1, 0⟩, 0) else zkY h 4
theorem zij (m : Str) (h : api_Head) (hl : h.Fields.length ≤ 1000) (hf : zby 400000 h.Fields) : zcQ m h = some (zeD m h) := by
 have hb : zdG m h.Code = some (zqi m h.Code) := by
  unfold zdG zV zqi;cases m == [72, 69, 65, 68] <;> cases decide (h.Code < 200) <;> cases h.Code == 204 <;> cases h.Code == 304 <;> cases m == [67, 79, 78, 78, 69, 67, 84] <;> rfl
 unfold zcQ zeD zft zeV;rw [zlN h 1 hl hf, zlN h 4 hl hf, hb]
 cases h.Kind == 1 with
 | true => rfl
 | false => cases zqi m h.Code <;> rfl
end Go.Dm
end
section
namespace Go.Dm
theorem zqT : ∀ (g m n : Nat), g ≤ m → n < 16 ^ (g + 1) → ziy g n = zi (zfN 16 m n)
 | 0, m, n, _, hn => by
  have hn : n < 16 := hn
  cases m with
  | zero => rw [ziy, zfN, Nat.mod_eq_of_lt hn]; rfl
  | succ m => rw [ziy, zfN, if_pos hn]; rfl
 | g + 1, m, n, h, hn => by
  obtain ⟨m, rfl⟩ : ∃ k, m = k + 1 := ⟨m - 1, by omega⟩;rw [ziy, zfN]
  by_cases h16 : n < 16
  ·rw [if_pos h16, if_pos h16]; rfl
  ·have hd : n / 16 < 16 ^ (g + 1) := by rw [Nat.pow_succ] at hn; omega
   rw [if_neg h16, if_neg h16, zqT g m (n / 16) (by omega) hd];unfold zi;rw [List.map_append];rfl
theorem zrZ (n : Nat) (hn : n < 1048576) : zee (n : Int) = some (zi (digs 16 n)) := by
 unfold zee zeX zeo zcz;rw [ydf (show ¬ ((n : Int) < 0) by omega), if_neg yfn, if_neg (show ¬ (inI (n : Int) = true ∧ (16 : Int) = 10) by omega), if_pos ⟨rfl, by omega, by omega⟩, yob, yob, yob, Int.toNat_natCast, zqT 4 70 n (by decide) (by omega)];rfl
theorem zpN (n : Nat) (hn : n < 1048576) : (zi (digs 16 n)).length ≤ 71 := by
 unfold zi;rw [List.length_map];exact zrm (by decide) _ (by omega)
def zgx (d : Str) : Str := if d == [] then [] else zi (digs 16 d.length) ++ 13 :: 10 :: (d ++ [13, 10])
theorem ziw (d : Str) (hd : d.length < 1048576) : (zgx d).length ≤ d.length + 75 := by
 have := zpN d.length hd;unfold zgx
 split
 ·simp
 ·simp only [yla, ylc, yln]; omega
theorem zqU (d : Str) (hd : d.length < 1048576) : zcw d = some (zgx d) := by
 have hl := zpN d.length hd;unfold zcw zgx;rw [zrZ _ hd]
 cases d == [] with
 | true => rfl
 | false =>
  rw [if_neg yfn, if_neg yfn, yob];unfold zbo strings_Join
  have e : Go.Lib.join [zi (digs 16 d.length), d, []] [13, 10] = zi (digs 16 d.length) ++ 13 :: 10 :: (d ++ [13, 10]) := by
   rw [Go.Lib.join_cons]; simp [Go.Lib.joinTail]
  rw [e, if_pos ⟨by simp, by simp only [yla, ylc, yln]; omega⟩];rfl
def zg4 : List api_Field → Int
 | [] => 0
 | f :: fs => if zbe f == 0 then zg4 fs else zbe f
def zhu (l : List api_Field) : Str × Int := if zg4 l == 0 then (if 100 < l.length then ([], 3) else (48 :: 13 :: 10 :: zN l, 0)) else ([], zg4 l)
theorem zkD (f : api_Field) (h1 : f.Name.length < 100000000) (h2 : f.Value.length < 100000000) : zbE f = some (if zbe f == 0 then (zz f, 0) else ([], zbe f)) := by
 cases hc : zbe f == 0 with
 | true => exact zho f h1 h2 (by simpa using hc)
 | false =>
  unfold zbE;rw [zeZ f (by omega) (by omega), yob, hc];rfl
theorem zta (a : Str) : ∀ (l : List Str), Go.Lib.join (a :: (l ++ [[], []])) [13, 10] = a ++ 13 :: 10 :: ((l.map fun x => x ++ [13, 10]).flatten ++ [13, 10]) := by
 intro l;rw [Go.Lib.join_cons]
 congr 1
 unfold Go.Lib.joinTail
 induction l with
 | nil => rfl
 | cons x l ih =>
  simp only [List.cons_append, List.map_cons, List.flatten_cons, yaa] at ih ⊢;rw [ih];simp
theorem zr0 : ∀ l : List api_Field, zN l = ((l.map zz).map fun x => x ++ [13, 10]).flatten ++ [13, 10] := by
 intro l
 induction l with
 | nil => rfl
 | cons f l ih => rw [zN, ih]; simp
theorem zqV : ∀ {l : List api_Field}, (zg4 l == 0) = true → ∀ f ∈ l, (zbe f == 0) = true := by
 intro l
 induction l with
 | nil => intro _ f hf; cases hf
 | cons g l ih =>
  intro h f hf;rw [zg4] at h
  cases hg : zbe g == 0 with
  | false => rw [hg, if_neg yfn, hg] at h; cases h
  | true =>
   rw [hg, if_pos rfl] at h
   rcases List.mem_cons.1 hf with rfl | hf
   ·exact hg
   ·exact ih h f hf
theorem zst (l : List api_Field) (hl : l.length ≤ 200) (hs : zby 4000 l) : zcn l = some (zhu l) := by
 have hrl := zhS hs
 have key : ∀ (n i : Nat) (o : List Str), i ≤ l.length → l.length - i < n → o = [48] :: (l.take i).map zz → zbM l n o (i : Int) =
   if zg4 (l.drop i) == 0 then (if 100 < l.length then some ([], 3) else some (48 :: 13 :: 10 :: zN l, 0)) else some ([], zg4 (l.drop i)) := by
  intro n
  induction n with
  | zero => intro i _ _ h; omega
  | succ n ih =>
   intro i o hi h ho
   have hol : o.length = i + 1 := by rw [ho]; simp; omega
   rw [zbM]
   by_cases hlt : i < l.length
   ·have g : l[i]? = some l[i] := ygg hlt;have hsm := hs l[i] (ygm _);rw [ydt (show (i : Int) < (l.length : Int) by omega), if_pos rfl, zbw, g, yob, zkD _ (by omega) (by omega), yob, ydg hlt, zg4]
    cases hc : zbe l[i] == 0 with
    | false =>
     rw [if_neg yfn, if_neg yfn];dsimp only;rw [hc, ynf, if_pos rfl, if_neg yfn]
    | true =>
     rw [if_pos rfl, if_pos rfl];dsimp only;rw [show (!((0 : Int) == 0)) = false from rfl, if_neg yfn, if_pos (zb4 (by omega) (by omega)), zE (by omega), yob];exact ih (i + 1) _ (by omega) (by omega) (by rw [ho, List.take_succ_eq_append_getElem hlt, List.map_append]; rfl)
   ·have : i = l.length := by omega
    subst this;rw [ydf (by omega), if_neg yfn, ydl, zg4];rw [show (((0 : Int) == 0)) = true from rfl, if_pos rfl]
    by_cases h100 : 100 < l.length
    ·rw [ydt (by omega), if_pos rfl, if_pos h100]
    ·rw [ydf (by omega), if_neg yfn, if_neg h100, if_pos (zb4 (by omega) (by omega))]
     have e : Go.Lib.join (o ++ ([[], []] : List Str)) [13, 10] = 48 :: 13 :: 10 :: zN l := by
      rw [ho, List.take_length, List.cons_append, zta, zr0];rfl
     unfold zbo strings_Join;rw [e, if_pos ⟨by rw [yla]; simp; omega, by simp only [ylc]; omega⟩];rfl
 have := key fuel 0 [[48]] (yz _) (by unfold fuel; omega) (by simp);unfold zcn zhu;rw [List.drop_zero] at this;refine this.trans ?_
 cases zg4 l == 0 with
 | false => rfl
 | true => by_cases h : 100 < l.length <;> simp [h]
def zdC : Nat → Nat → Str → Str × Str
 | 0, _, s => ([], s)
 | n + 1, k, s => if k ≤ s.length then (zgx (s.take k) ++ (zdC n k (s.drop k)).1, (zdC n k (s.drop k)).2) else ([], s)
theorem zo3 (k : Nat) (hk : 1 ≤ k) : ∀ (n : Nat) (s : Str), s.length ≤ 600 → (zdC n k s).1.length ≤ 700 * s.length ∧ (zdC n k s).2.length ≤ s.length := by
 intro n
 induction n with
 | zero => intro s hs; simp [zdC]
 | succ n ih =>
  intro s hs;rw [zdC]
  split
  ·have hp := ziw (s.take k) (by simp; omega);have i1 := ih (s.drop k) (by simp; omega);simp only [yld, ylt, yla] at i1 hp ⊢;omega
  ·simp
theorem ztb (k : Nat) (hk : 1 ≤ k) (hk2 : k ≤ 65536) (t : Bool) : ∀ (n m : Nat) (o : List Str) (s : Str), s.length < n → s.length < m → s.length ≤ 600 → o.length + s.length ≤ 700 → o.flatten.length + 700 * s.length ≤ 500000 →
  zal n o (k : Int) s t = some (o.flatten ++ (zdC m k s).1, 0, ⟨(k : Int), (zdC m k s).2, t⟩) := by
 intro n
 induction n with
 | zero => intro m o s h; omega
 | succ n ih =>
  intro m o s hn hm hs ho hf;obtain ⟨m, rfl⟩ : ∃ j, m = j + 1 := ⟨m - 1, by omega⟩;rw [zal, zdC]
  by_cases h : k ≤ s.length
  ·have hp := ziw (s.take k) (by simp; omega);simp only [ylt] at hp;rw [ydt (by omega), if_pos rfl, if_pos h, zeY h, yob, zqU _ (by simp; omega), yob, if_pos (zb4 (by omega) (by omega)), zdU h, yob];rw [ih m (o ++ [zgx (s.take k)]) (s.drop k) (by simp; omega) (by simp; omega) (by simp; omega) (by simp; omega) (by simp only [List.flatten_append, List.flatten_cons, List.flatten_nil, yan, yla, yld]; omega)];simp
  ·rw [ydf (by omega), if_neg yfn, if_neg h];unfold zb3;rw [zoi o (by omega) (by omega), yob, yan]
def znD (size : Int) (b : Str) (tr : List api_Field) : Str × Int :=
 if decide (size < 1) || decide (65536 < size) then ([], 1) else if (zhu tr).2 == 0 then ((zdC 601 size.toNat b).1 ++ (zgx (zdC 601 size.toNat b).2 ++ (zhu tr).1), 0) else ([], (zhu tr).2)
theorem zo4 {l : List api_Field} (hl : l.length ≤ 200) (hs : zby 4000 l) : (zhu l).1.length ≤ 2000000 := by
 have := zhS hs;unfold zhu
 split
 ·split
  ·simp
  ·simp only [ylc]; omega
 ·simp
theorem All_eq (size : Int) (b : Str) (tr : List api_Field) (hb : b.length ≤ 600) (hl : tr.length ≤ 200) (hs : zby 4000 tr) : zgp size b tr = some (znD size b tr) := by
 unfold zgp zhB znD;have bad : ((zed size true).bind fun r2 => zkI r2.1 (zfA b tr r2.2) (fun x4 => zdg b tr r2.2 x4.f_size x4.f_buf x4.f_done)) = some ([], 1) := rfl
 by_cases h1 : size < 1
 ·rw [ydt h1, if_pos rfl, bad, Bool.true_or, if_pos rfl]
 ·rw [ydf h1, if_neg yfn, Bool.false_or]
  by_cases h2 : 65536 < size
  ·rw [ydt h2, bad, if_pos rfl]
  ·obtain ⟨k, rfl⟩ : ∃ k : Nat, size = k := ⟨size.toNat, by omega⟩;rw [ydf h2, if_neg yfn, Int.toNat_natCast];show zdg b tr 0 (k : Int) [] false = _;obtain ⟨f1, f2⟩ := zo3 k (by omega) 601 b hb;have hp := ziw (zdC 601 k b).2 (by omega);have hll := zo4 hl hs;have hput := ztb k (by omega) (by omega) false fuel 601 [] b (by unfold fuel; omega) (by omega) hb (by simp; omega) (by simp; omega);unfold zdg zcV zaz;rw [show (!((0 : Int) == 0)) = false from rfl, if_neg yfn, if_neg yfn, yob];dsimp only;rw [show (!((0 : Int) == 0)) = false from rfl, if_neg yfn, zf8 (by simp; omega), yob, yna, hput, yob];unfold zcW zaz;dsimp only;rw [if_neg yfn, yob, show (!((0 : Int) == 0)) = false from rfl, if_neg yfn, zst tr hl hs, yob]
   cases hz : (zhu tr).2 == 0 with
   | false =>
    rw [ynf, if_pos rfl, yob, if_neg yfn];dsimp only;rw [hz, ynf, if_pos rfl]
   | true =>
    rw [ynt, if_neg yfn, zqU _ (by omega), yob, zf8 (by omega), yob, yob, if_pos rfl];dsimp only;rw [show (!((0 : Int) == 0)) = false from rfl, if_neg yfn, zf8 (by simp only [List.flatten_nil, yna, yla]; omega), yob];rfl

end Go.Dm
end
section
namespace Go.Dm
theorem zs4 {l : List Nat} (h : ∀ d ∈ l, d < 16) : vals (zi l) = l := by
 unfold vals zi;rw [List.map_map];refine (List.map_congr_left (g := id) fun d hd => ?_).trans (List.map_id l);exact (zpo d (h d hd)).1
theorem zlZ {l : List Nat} (h : ∀ d ∈ l, d < 16) : (zi l).all zgF = true := by
 unfold zi;rw [List.all_map];exact List.all_eq_true.2 fun d hd => (zpo d (h d hd)).2.1
theorem zvg (n : Nat) : zi (digs 16 n) ≠ [] := by
 unfold zi;intro h;exact zw2 (List.map_eq_nil_iff.1 h)
theorem zs5 (n : Nat) (hn : n < 1048576) : zaO 16 (zi (digs 16 n)) 1099511627776 = ((n : Int), 0) := by
 have hd := zp6 (b := 16) (by decide) n (by omega);have hv := zvN (b := 16) (by decide) n (by omega)
 have h1 : (zi (digs 16 n) == []) = false := by
  cases h : zi (digs 16 n) with
  | nil => exact absurd h (zvg n)
  | cons x l => rfl
 have h2 : (zi (digs 16 n)).all (zmC 16) = true := zlZ hd;unfold zaO;rw [h1, h2, zs4 hd, hv, ynt, Bool.or_false, if_neg yfn, if_neg (by omega)]
theorem zqO (x r9 : Int × Int) (u s : Str) (k n : Nat) (hs : s.length < 1000000000) (h : At s k []) (h9 : r9.2 = 0) : zcm (u, scn s k) r9 (n + 1) [] = some (r9.1, [], 0) := by
 obtain ⟨k', h1, h2⟩ := zd1 hs 59 h;rw [zcm];dsimp only;rw [h2, yob];dsimp only;rw [ztF, if_neg yfn, zp7 h1, yob];unfold zcl;rw [h9];rfl
theorem zmI (n : Nat) (hn : n < 1048576) : zdH (zi (digs 16 n)) = some ((n : Int), [], 0) := by
 have hd := zp6 (b := 16) (by decide) n (by omega);have hl := zpN n hn;have ha := zlZ hd
 have htk : (zi (digs 16 n)).takeWhile zgF = zi (digs 16 n) := by
  have := List.takeWhile_append_of_pos (p := zgF) (l₁ := zi (digs 16 n)) (l₂ := []) (List.all_eq_true.1 ha);simpa using this
 have hdr : (zi (digs 16 n)).dropWhile zgF = [] := by
  have := List.dropWhile_append_of_pos (p := zgF) (l₁ := zi (digs 16 n)) (l₂ := []) (List.all_eq_true.1 ha);simpa using this
 obtain ⟨k', h1, h2⟩ := zif zej (s := zi (digs 16 n)) (by omega) (At.zero _);rw [htk] at h2;rw [hdr] at h1;unfold zdH;rw [zfh, yob, h2, yob];dsimp only;rw [zob _ _ (by omega) (by decide) (by decide), zs5 n hn, yob];exact zqO (0, 0) _ _ (zi (digs 16 n)) k' 999999999999999999 (by omega) h1 rfl
def FL (s : Str) (n : Nat) (o : Str) (d : dechunk_Decoder) (i : Nat) (t : Bool) (e : Int) : Option (Int × Str × Bool × Int × dechunk_Decoder) :=
 zt s n o d.f_limit d.f_at d.f_line d.f_left d.f_sum d.f_spent d.f_trailers (i : Int) t e
theorem znB (s : Str) (n : Nat) (o : Str) (d : dechunk_Decoder) : FL s (n + 1) o d s.length false 0 = some ((s.length : Int), o, false, 0, d) := by
 unfold FL;rw [zt, ydf (by omega), if_neg yfn];rfl
theorem zpL {s : Str} {i k : Nat} {d d' : dechunk_Decoder} {o q : Str} {t : Bool} {e : Int} (n : Nat) (hi : i < s.length) (hl : s.length < 100000000) (ho : o.length < 100000000) (hq : q.length < 100000000) (hk : k < 100000000)
  (hs : zr d (s.drop i) = some ((k : Int), q, t, e, d')) : FL s (n + 1) o d i false 0 = FL s n (o ++ q) d' (i + k) t e := by
 unfold FL;rw [zt, ydt (by omega), if_pos rfl, ynf, if_pos rfl];unfold zad;rw [show ((0 : Int) == 0) = true from rfl, if_pos rfl, zdU (by omega), yob];show ((zr d (s.drop i)).bind _) = _;rw [hs, yob];dsimp only;rw [if_pos (zb4 (by omega) (by omega)), zlI (by omega), yob]
structure Seg (g : Str) (o : Str) (d : dechunk_Decoder) (o' : Str) (d' : dechunk_Decoder) : Prop where
 go : ∀ (s : Str) (i : Nat) (r : Str), s.length < 100000000 → At s i (g ++ r) → ∃ m, m ≤ g.length ∧ ∀ n, FL s (n + m) o d i false 0 = FL s n o' d' (i + g.length) false 0
 cut : ∀ (s : Str) (i : Nat) (p q : Str), s.length < 100000000 → At s i p → g = p ++ q → q ≠ [] → ∀ n, p.length < n → ∃ o2 d2, FL s n o d i false 0 = some ((s.length : Int), o2, false, 0, d2)
theorem At.end_nil {s : Str} {i : Nat} (h : At s i []) : i = s.length := by have := h.len; simpa using this
theorem Seg.nil (o : Str) (d : dechunk_Decoder) : Seg [] o d o d :=
 ⟨fun s i r _ _ => ⟨0, Nat.le_refl _, fun n => rfl⟩, fun s i p q _ _ h hq => by
  have := (List.append_eq_nil_iff.1 h.symm).2
  exact absurd this hq⟩
theorem Seg.app {a b o o1 o2 : Str} {d d1 d2 : dechunk_Decoder} (h1 : Seg a o d o1 d1) (h2 : Seg b o1 d1 o2 d2) : Seg (a ++ b) o d o2 d2 := by
 constructor
 ·intro s i r hs ha;rw [yaa] at ha;obtain ⟨m, hm, e⟩ := h1.go s i (b ++ r) hs ha
  have ha2 : At s (i + a.length) (b ++ r) := by
   have := ha.next a.length (by simp)
   rwa [List.drop_left] at this
  obtain ⟨m', hm', e'⟩ := h2.go s (i + a.length) r hs ha2;refine ⟨m' + m, by simp; omega, fun n => ?_⟩;rw [← Nat.add_assoc, e, e', yla, Nat.add_assoc]
 ·intro s i p q hs ha hpq hq n hn
  have viaA : ∀ a' : Str, p = a ++ a' → b = a' ++ q → ∃ o2 d2, FL s n o d i false 0 = some ((s.length : Int), o2, false, 0, d2) := by
   intro a' e1 e2;subst e1;obtain ⟨m, hm, e⟩ := h1.go s i a' hs ha
   have ha2 : At s (i + a.length) a' := by
    have := ha.next a.length (by simp)
    rwa [List.drop_left] at this
   rw [yla] at hn;obtain ⟨k, hk⟩ : ∃ k, n = k + m := ⟨n - m, by omega⟩;rw [hk, e];exact h2.cut s _ a' q hs ha2 e2 hq k (by omega)
  rcases List.append_eq_append_iff.1 hpq with ⟨a', e1, e2⟩ | ⟨c', e1, e2⟩
  ·exact viaA a' e1 e2
  ·by_cases hc : c' = []
   ·subst hc;exact viaA [] (by simp at e1 ⊢; exact e1.symm) (by simpa using e2.symm)
   ·exact h1.cut s i p c' hs ha e1 hc n hn
theorem Seg.one {c : UInt8} {o : Str} {d d' : dechunk_Decoder} (ho : o.length < 100000000) (h : ∀ r, zr d (c :: r) = some (1, [], false, 0, d')) : Seg [c] o d o d' := by
 constructor
 ·intro s i r hs ha;have hl := ha.len;have hd := ha.drop;refine ⟨1, by simp, fun n => ?_⟩;have := zpL (s := s) (i := i) (k := 1) (q := []) (o := o) (d := d) (d' := d') (t := false) (e := 0) n (by simp at hl; omega) hs ho (by simp) (by decide) (by rw [hd]; exact h r);rw [this, yan];rfl
 ·intro s i p q hs ha hpq hq n hn
  cases p with
  | nil =>
   obtain ⟨n, rfl⟩ : ∃ m, n = m + 1 := ⟨n - 1, by simp at hn; omega⟩;rw [ha.end_nil];exact ⟨o, d, znB s n o d⟩
  | cons x p =>
   have := congrArg List.length hpq;rw [yla, ylc, ylc, yln] at this;exact absurd (List.length_eq_zero_iff.1 (by omega)) hq
theorem Seg.data {x o : Str} {L lf sm sp : Int} {tr : List api_Field} {ln : Str} (hx : x ≠ []) (hl : lf = (x.length : Int)) (hxm : x.length < 100000000) (ho : o.length < 100000000) : Seg x o ⟨L, 1, ln, lf, sm, sp, tr⟩ (o ++ x) ⟨L, 2, ln, 2, sm, sp, tr⟩ := by
 subst hl;have hxl : 0 < x.length := List.length_pos_iff.2 hx;constructor
 ·intro s i r hs ha;have hlen := ha.len;have hd := ha.drop;rw [yla] at hlen;refine ⟨1, by omega, fun n => ?_⟩;refine zpL n (by omega) hs ho (by omega) (by omega) ?_;rw [hd];unfold zr zbD zac;dsimp only
  have e1 : min (x.length : Int) ((x ++ r).length : Int) = (x.length : Int) := by rw [yla]; omega
  rw [show ((1 : Int) == 1) = true from rfl, if_pos rfl, e1, zbN (by omega) (by omega), yob, show (((x.length : Int) - (x.length : Int)) == 0) = true by rw [Int.sub_self]; rfl, if_pos rfl, zeY (by simp), yob, List.take_left, yob]
 ·intro s i p q hs ha hpq hq n hn;have hlen := ha.len;have hd := ha.drop
  by_cases hp : p = []
  ·subst hp;obtain ⟨n, rfl⟩ : ∃ m, n = m + 1 := ⟨n - 1, by simp at hn; omega⟩;rw [ha.end_nil];exact ⟨o, _, znB s n o _⟩
  ·have hql : 0 < q.length := List.length_pos_iff.2 hq
   have hle : x.length = p.length + q.length := by rw [hpq, yla]
   have hpl : 0 < p.length := List.length_pos_iff.2 hp;obtain ⟨n, rfl⟩ : ∃ m, n = m + 1 + 1 := ⟨n - 2, by omega⟩;refine ⟨o ++ p, ⟨L, 1, ln, (x.length : Int) - (p.length : Int), sm, sp, tr⟩, ?_⟩
   have := zpL (s := s) (i := i) (k := p.length) (q := p) (o := o) (d := ⟨L, 1, ln, (x.length : Int), sm, sp, tr⟩) (d' := ⟨L, 1, ln, (x.length : Int) - (p.length : Int), sm, sp, tr⟩) (t := false) (e := 0) (n + 1) (by omega) hs ho (by omega) (by omega) (by
    rw [hd];unfold zr zbD zac;dsimp only
    have e1 : min (x.length : Int) (p.length : Int) = (p.length : Int) := by omega
    have e2 : (((x.length : Int) - (p.length : Int)) == 0) = false := by rw [beq_eq_false_iff_ne]; omega
    rw [show ((1 : Int) == 1) = true from rfl, if_pos rfl, e1, zbN (by omega) (by omega), yob, e2, if_neg yfn, zeY (Nat.le_refl _), yob, List.take_length, yob])
   rw [this, show i + p.length = s.length by omega];exact znB s n _ _
def zgR (a : Int) : Int := if a == 3 then 1 else 0
theorem zlg (L a lf sm sp : Int) (u : Str) (tr : List api_Field) (c : UInt8) (i5 : Int) (hu : u.length < 4098) (h13 : zid u = false) (hc : (c == 10) = false) (hL : i5 ≤ L) :
  zp ⟨L, a, u, lf, sm, sp, tr⟩ c i5 = some (false, 0, ⟨L, a, u ++ [c], lf, sm, i5, tr⟩) := by
 have j2 : ∀ q, q = false → zK ⟨L, a, u, lf, sm, sp, tr⟩ c i5 q = some (false, 0, ⟨L, a, u ++ [c], lf, sm, i5, tr⟩) := by
  intro q hq;subst hq;unfold zK z6;dsimp only;rw [ydf (show ¬ ((4098 : Int) ≤ (u.length : Int)) by omega), if_neg yfn, ydf (show ¬ (L < i5) by omega), if_neg yfn, hc];rw [show (!((false : Bool) == false)) = false from rfl, if_neg yfn, ynf, if_pos rfl, if_pos (zb4 (by omega) (by omega))]
 unfold zp;dsimp only
 by_cases h : 0 < u.length
 ·have g : u[u.length - 1]? = some (u[u.length - 1]'(by omega)) := ygg (by omega)
  have e2 : zdB (u.length : Int) 1 = some ((u.length - 1 : Nat) : Int) := by rw [zbN (by omega) (by omega)]; exact congrArg some (by omega)
  rw [ydt (show 0 < (u.length : Int) by omega), if_pos rfl, e2, yob, zbw, g, yob];refine j2 _ ?_;unfold zid at h13;rw [g] at h13;simpa using h13
 ·rw [ydf (by omega), if_neg yfn];exact j2 _ rfl
theorem zqP (L a lf sm sp : Int) (u : Str) (tr : List api_Field) (c : UInt8) (r : Str) (ha : a = 0 ∨ a = 3) (hu : u.length < 4098) (h13 : zid u = false) (hc : (c == 10) = false) (hL : sp + zgR a ≤ L) (h0 : 0 ≤ sp) (h1 : sp < 1000000000) :
  zr ⟨L, a, u, lf, sm, sp, tr⟩ (c :: r) = some (1, [], false, 0, ⟨L, a, u ++ [c], lf, sm, sp + zgR a, tr⟩) := by
 have e1 : (a == 1) = false := by rcases ha with rfl | rfl <;> rfl
 have e2 : (a == 2) = false := by rcases ha with rfl | rfl <;> rfl
 have key : zv ⟨L, a, u, lf, sm, sp, tr⟩ c = some (false, 0, ⟨L, a, u ++ [c], lf, sm, sp + zgR a, tr⟩) := by
  unfold zv;dsimp only;unfold zgR at hL ⊢
  cases e3 : a == 3 with
  | true =>
   rw [e3, if_pos rfl] at hL;rw [if_pos rfl, if_pos rfl, zez (by omega) (by omega), yob, zlg L a lf sm sp u tr c (sp + 1) hu h13 hc hL]
  | false =>
   rw [e3, if_neg yfn] at hL;rw [if_neg yfn, if_neg yfn, zlg L a lf sm sp u tr c sp hu h13 hc (by omega), Int.add_zero]
 unfold zr;dsimp only;rw [e1, if_neg yfn, e2, if_neg yfn, zog, show (c :: r)[0]? = some c from rfl, yob, key, yob]
theorem zo1 (L a lf sm sp : Int) (u : Str) (tr : List api_Field) (c : UInt8) (r : Str) (ha : a = 0 ∨ a = 3) :
  zr ⟨L, a, u, lf, sm, sp, tr⟩ (c :: r) = (zv ⟨L, a, u, lf, sm, sp, tr⟩ c).bind fun r25 => some (1, [], r25.1, r25.2.1, r25.2.2) := by
 have e1 : (a == 1) = false := by rcases ha with rfl | rfl <;> rfl
 have e2 : (a == 2) = false := by rcases ha with rfl | rfl <;> rfl
 unfold zr;dsimp only;rw [e1, if_neg yfn, e2, if_neg yfn, zog, show (c :: r)[0]? = some c from rfl, yob]
theorem zwu (L lf sm sp : Int) (u : Str) (tr : List api_Field) (c : UInt8) : zv ⟨L, 0, u, lf, sm, sp, tr⟩ c = zp ⟨L, 0, u, lf, sm, sp, tr⟩ c sp := by
 unfold zv;dsimp only;rw [show ((0 : Int) == 3) = false from rfl, if_neg yfn]
theorem zwv (L lf sm sp : Int) (u : Str) (tr : List api_Field) (c : UInt8) (h0 : 0 ≤ sp) (h1 : sp < 1000000000) : zv ⟨L, 3, u, lf, sm, sp, tr⟩ c = zp ⟨L, 3, u, lf, sm, sp, tr⟩ c (sp + 1) := by
 unfold zv;dsimp only;rw [show ((3 : Int) == 3) = true from rfl, if_pos rfl, zez (by omega) (by omega), yob]
theorem zh2 (u : Str) (c : UInt8) : zid (u ++ [c]) = (c == 13) := by
 unfold zid;simp
theorem zlh (L a lf sm : Int) (tr : List api_Field) (o : Str) (ha : a = 0 ∨ a = 3) (ho : o.length < 100000000) : ∀ (w u : Str) (sp : Int), (13 : UInt8) ∉ w → (10 : UInt8) ∉ w → zid u = false → u.length + w.length < 4097 → 0 ≤ sp → sp + zgR a * (w.length + 1) ≤ L → L ≤ 1000000 →
  Seg (w ++ [13]) o ⟨L, a, u, lf, sm, sp, tr⟩ o ⟨L, a, u ++ w ++ [13], lf, sm, sp + zgR a * (w.length + 1), tr⟩
 | [], u, sp, _, _, h13, hl, h0, hL, hLm => by
  have e : zgR a * ((([] : Str).length : Int) + 1) = zgR a := by simp
  rw [e] at hL ⊢
  have hi : 0 ≤ zgR a := by unfold zgR; split <;> omega
  rw [yna, yan];simp only [yln] at hl;exact Seg.one ho fun r => zqP L a lf sm sp u tr 13 r ha (by omega) h13 rfl hL h0 (by omega)
 | c :: w, u, sp, hw, hv, h13, hl, h0, hL, hLm => by
  have hi : 0 ≤ zgR a := by unfold zgR; split <;> omega
  have e : sp + zgR a * (((c :: w).length : Int) + 1) = (sp + zgR a) + zgR a * ((w.length : Int) + 1) := by
   rw [ylc, show (((w.length + 1 : Nat) : Int) + 1) = 1 + ((w.length : Int) + 1) by omega, Int.mul_add, Int.mul_one, Int.add_assoc]
  rw [e] at hL ⊢;have hm : 0 ≤ zgR a * ((w.length : Int) + 1) := Int.mul_nonneg hi (by omega);simp only [ylc] at hl
  have hc13 : (c == 13) = false := by
   rw [beq_eq_false_iff_ne]; rintro rfl; exact hw (List.mem_cons_self ..)
  have hc10 : (c == 10) = false := by
   rw [beq_eq_false_iff_ne]; rintro rfl; exact hv (List.mem_cons_self ..)
  have h1 : Seg [c] o ⟨L, a, u, lf, sm, sp, tr⟩ o ⟨L, a, u ++ [c], lf, sm, sp + zgR a, tr⟩ := Seg.one ho fun r => zqP L a lf sm sp u tr c r ha (by omega) h13 hc10 (by omega) h0 (by omega);have h2 := zlh L a lf sm tr o ha ho w (u ++ [c]) (sp + zgR a) (fun h => hw (List.mem_cons_of_mem _ h)) (fun h => hv (List.mem_cons_of_mem _ h)) (by rw [zh2, hc13]) (by simp; omega) (by omega) hL hLm;have := h1.app h2;simpa using this
theorem zli (L a lf sm sp : Int) (w : Str) (tr : List api_Field) (i5 : Int) (hu : w.length < 4097) (hL : i5 ≤ L) :
  zp ⟨L, a, w ++ [13], lf, sm, sp, tr⟩ 10 i5 = if (a == 0) = true then (zaM ⟨L, a, [], lf, sm, i5, tr⟩ w).bind fun r => some (false, r.1, r.2) else (zaN ⟨L, a, [], lf, sm, i5, tr⟩ w).bind fun r => some (r.1, r.2.1, r.2.2) := by
 unfold zp;dsimp only
 have hl : ((w ++ [(13 : UInt8)]).length : Int) = (w.length : Int) + 1 := by simp
 have e2 : zdB ((w ++ [(13 : UInt8)]).length : Int) 1 = some (w.length : Int) := by rw [hl, zbN (by omega) (by omega)]; exact congrArg some (by omega)
 have g0 : 0 < ((w ++ [13]).length : Int) := by rw [hl]; omega
 have g1 : ¬ ((4098 : Int) ≤ ((w ++ [13]).length : Int)) := by rw [hl]; omega
 have g2 : (w ++ [(13 : UInt8)])[w.length]? = some 13 := by simp
 rw [ydt g0, if_pos rfl, e2, yob, zbw, g2, yob];unfold zK z6;dsimp only;rw [ydf g1, if_neg yfn, ydf (show ¬ (L < i5) by omega), if_neg yfn];rw [show (!(((10 : UInt8) == 10) == ((13 : UInt8) == 13))) = false from rfl, if_neg yfn, show (!((10 : UInt8) == 10)) = false from rfl, if_neg yfn, e2, yob]
 have e3 : lTo (w ++ [(13 : UInt8)]) (w.length : Int) = some w := by
  have := zeY (l := w ++ [13]) (h := w.length) (by simp);rw [List.take_left] at this;exact this
 rw [e3, yob]
theorem zvh (L lf sm sp : Int) (tr : List api_Field) (n : Nat) (hn : n < 1048576) (hs0 : 0 ≤ sm) (hs : sm + n ≤ 1099511627776) :
  zaM ⟨L, 0, [], lf, sm, sp, tr⟩ (zi (digs 16 n)) = some (0, if n = 0 then ⟨L, 3, [], lf, sm, sp, tr⟩ else ⟨L, 1, [], (n : Int), sm + n, sp, tr⟩) := by
 have g : ¬ ((1099511627776 : Int) - sm < (n : Int)) := by omega
 have e0 : (!((0 : Int) == 0)) = false := rfl;unfold zaM;rw [zmI n hn, yob];dsimp only;rw [e0, if_neg yfn, zbN (by omega) (by omega), yob, ydf g, if_neg yfn]
 by_cases hz : n = 0
 ·have : ((n : Int) == 0) = true := by rw [beq_iff_eq]; omega
  rw [this, if_pos rfl, if_pos hz]
 ·have : ((n : Int) == 0) = false := by rw [beq_eq_false_iff_ne]; omega
  rw [this, if_neg yfn, zez (by omega) (by omega), yob, if_neg hz]
theorem zqQ (L lf sm sp : Int) (tr : List api_Field) (o : Str) (ho : o.length < 100000000) (n : Nat) (hn : n < 1048576) (h0 : 0 ≤ sp) (hL : sp ≤ L) (hLm : L ≤ 1000000) (hs0 : 0 ≤ sm) (hs : sm + n ≤ 1099511627776) :
  Seg (zi (digs 16 n) ++ [13, 10]) o ⟨L, 0, [], lf, sm, sp, tr⟩ o (if n = 0 then ⟨L, 3, [], lf, sm, sp, tr⟩ else ⟨L, 1, [], (n : Int), sm + n, sp, tr⟩) := by
 have hd := zp6 (b := 16) (by decide) n (by omega);have hl := zpN n hn;have ha := List.all_eq_true.1 (zlZ hd);have h1 := zlh L 0 lf sm tr o (.inl rfl) ho (zi (digs 16 n)) [] sp (fun h => absurd (ha _ h) (by decide)) (fun h => absurd (ha _ h) (by decide)) rfl (by simp; omega) h0 (by rw [show zgR 0 = 0 from rfl]; omega) hLm;rw [show zgR 0 = 0 from rfl, Int.zero_mul, Int.add_zero, yna] at h1
 have h2 : Seg [10] o ⟨L, 0, zi (digs 16 n) ++ [13], lf, sm, sp, tr⟩ o (if n = 0 then ⟨L, 3, [], lf, sm, sp, tr⟩ else ⟨L, 1, [], (n : Int), sm + n, sp, tr⟩) := by
  refine Seg.one ho fun r => ?_;have e0 : ((0 : Int) == 0) = true := rfl;rw [zo1 _ _ _ _ _ _ _ _ _ (.inl rfl), zwu, zli L 0 lf sm sp _ tr sp (by omega) hL, if_pos e0, zvh L lf sm sp tr n hn hs0 hs, yob, yob]
 have := h1.app h2;simpa using this
theorem zs6 (L sm sp : Int) (tr : List api_Field) (o : Str) (ho : o.length < 100000000) : Seg [13, 10] o ⟨L, 2, [], 2, sm, sp, tr⟩ o ⟨L, 0, [], 0, sm, sp, tr⟩ := by
 have h1 : Seg [13] o ⟨L, 2, [], 2, sm, sp, tr⟩ o ⟨L, 2, [], 1, sm, sp, tr⟩ := Seg.one ho fun r => rfl;have h2 : Seg [10] o ⟨L, 2, [], 1, sm, sp, tr⟩ o ⟨L, 0, [], 0, sm, sp, tr⟩ := Seg.one ho fun r => rfl;exact h1.app h2
theorem zo2 (L sm sp : Int) (tr : List api_Field) (x o : Str) (ho : o.length < 100000000) (hx : x.length < 1048576) (h0 : 0 ≤ sp) (hL : sp ≤ L) (hLm : L ≤ 1000000) (hs0 : 0 ≤ sm) (hs : sm + x.length ≤ 1099511627776) (hox : o.length + x.length < 100000000) :
  Seg (zgx x) o ⟨L, 0, [], 0, sm, sp, tr⟩ (o ++ x) ⟨L, 0, [], 0, sm + x.length, sp, tr⟩ := by
 unfold zgx
 cases x with
 | nil =>
  rw [if_pos (show (([] : Str) == []) = true from rfl), yan]
  have : sm + (([] : Str).length : Int) = sm := by simp
  rw [this];exact Seg.nil o _
 | cons c x =>
  rw [if_neg (show ¬ ((c :: x : Str) == []) = true from yfn)];have h1 := zqQ L 0 sm sp tr o ho (c :: x).length hx h0 hL hLm hs0 hs;rw [if_neg (by simp)] at h1;have h2 := Seg.data (x := c :: x) (o := o) (L := L) (lf := ((c :: x).length : Int)) (sm := sm + ((c :: x).length : Int)) (sp := sp) (tr := tr) (ln := []) (by simp) rfl (by omega) ho;have h3 := zs6 L (sm + ((c :: x).length : Int)) sp tr (o ++ c :: x) (by simp at hox ⊢; omega);have := (h1.app h2).app h3;simpa using this
theorem zqR (L sp : Int) (tr : List api_Field) (k : Nat) (hk : 1 ≤ k) (h0 : 0 ≤ sp) (hL : sp ≤ L) (hLm : L ≤ 1000000) : ∀ (n : Nat) (x o : Str) (sm : Int), x.length ≤ 600 → o.length + x.length < 10000 → 0 ≤ sm → sm + x.length ≤ 10000 →
  ∃ a, x = a ++ (zdC n k x).2 ∧ Seg (zdC n k x).1 o ⟨L, 0, [], 0, sm, sp, tr⟩ (o ++ a) ⟨L, 0, [], 0, sm + a.length, sp, tr⟩
 | 0, x, o, sm, hx, ho, h1, h2 => ⟨[], by simp [zdC], by
  have e : sm + (([] : Str).length : Int) = sm := by simp
  rw [e, yan]
  exact Seg.nil o _⟩
 | n + 1, x, o, sm, hx, ho, h1, h2 => by
  rw [zdC]
  by_cases hle : k ≤ x.length
  ·rw [if_pos hle]
   have htl : (x.take k).length = k := by simp; omega
   have s1 := zo2 L sm sp tr (x.take k) o (by omega) (by omega) h0 hL hLm h1 (by omega) (by omega);obtain ⟨a, e, s2⟩ := zqR L sp tr k hk h0 hL hLm n (x.drop k) (o ++ x.take k) (sm + (x.take k).length) (by simp; omega) (by simp; omega) (by omega) (by simp; omega);refine ⟨x.take k ++ a, ?_, ?_⟩
   ·dsimp only;rw [yaa, ← e, List.take_append_drop]
   ·have := s1.app s2;rw [yaa] at this
    have e3 : sm + ((x.take k).length : Int) + (a.length : Int) = sm + ((x.take k ++ a).length : Int) := by rw [yla]; omega
    rw [e3] at this;exact this
  ·rw [if_neg hle];refine ⟨[], rfl, ?_⟩
   have e : sm + (([] : Str).length : Int) = sm := by simp
   rw [e, yan];exact Seg.nil o _
def spF : List api_Field → Int
 | [] => 0
 | f :: fs => ((zz f).length : Int) + 2 + spF fs
theorem zkC : ∀ fs, 0 ≤ spF fs
 | [] => Int.le_refl _
 | f :: fs => by have := zkC fs; unfold spF; omega
theorem zs7 (L sm sp : Int) (tr : List api_Field) (o : Str) (ho : o.length < 100000000) (f : api_Field) (hf : zbe f = 0) (hl : (zz f).length < 4000) (h0 : 0 ≤ sp) (hL : sp + (zz f).length + 2 ≤ L) (hLm : L ≤ 1000000) (ht : tr.length < 100) :
  Seg (zz f ++ [13, 10]) o ⟨L, 3, [], 0, sm, sp, tr⟩ o ⟨L, 3, [], 0, sm, sp + (zz f).length + 2, tr ++ [f]⟩ := by
 obtain ⟨v1, v2⟩ := zjM hf;obtain ⟨n1, n2⟩ := zm3 v1;have h1 := zlh L 3 0 sm tr o (.inr rfl) ho (zz f) [] sp n1 n2 rfl (by simp; omega) h0 (by rw [show zgR 3 = 1 from rfl]; omega) hLm;rw [show zgR 3 = 1 from rfl, Int.one_mul, yna] at h1
 have h2 : Seg [10] o ⟨L, 3, zz f ++ [13], 0, sm, sp + ((zz f).length + 1), tr⟩ o ⟨L, 3, [], 0, sm, sp + (zz f).length + 2, tr ++ [f]⟩ := by
  refine Seg.one ho fun r => ?_
  have e0 : ¬ ((3 : Int) == 0) = true := by decide
  rw [zo1 _ _ _ _ _ _ _ _ _ (.inr rfl), zwv _ _ _ _ _ _ _ (by omega) (by omega), zli L 3 0 sm _ _ tr _ (by omega) (by omega), if_neg e0];unfold zaN;dsimp only
  have hne : (zz f == []) = false := by
   cases h : zz f with
   | nil => exact absurd h v2
   | cons x l => rfl
  rw [hne, if_neg yfn, ze1 _ (by omega), zi5 hf, yob];dsimp only;rw [show (!((0 : Int) == 0)) = false from rfl, if_neg yfn, ydf (by omega), if_neg yfn, if_pos (zb4 (by omega) (by omega)), yob, yob, show sp + (((zz f).length : Int) + 1) + 1 = sp + (zz f).length + 2 by omega]
 have := h1.app h2;simpa using this
theorem zqS (L sm : Int) (o : Str) (ho : o.length < 100000000) (hLm : L ≤ 1000000) : ∀ (fs tr : List api_Field) (sp : Int), (∀ f ∈ fs, zbe f = 0 ∧ (zz f).length < 4000) → 0 ≤ sp → sp + spF fs + 2 ≤ L → tr.length + fs.length ≤ 100 →
  ∃ g, zN fs = g ++ [10] ∧ Seg g o ⟨L, 3, [], 0, sm, sp, tr⟩ o ⟨L, 3, [13], 0, sm, sp + spF fs + 1, tr ++ fs⟩
 | [], tr, sp, _, h0, hL, ht => by
  refine ⟨[13], rfl, ?_⟩;rw [yan];unfold spF at hL ⊢;have := zlh L 3 0 sm tr o (.inr rfl) ho [] [] sp (by simp) (by simp) rfl (by decide) h0 (by rw [show zgR 3 = 1 from rfl]; simp; omega) hLm;rw [show zgR 3 = 1 from rfl] at this;simpa using this
 | f :: fs, tr, sp, hc, h0, hL, ht => by
  have hn := zkC fs;simp only [ylc] at ht;unfold spF at hL ⊢;obtain ⟨c1, c2⟩ := hc f (List.mem_cons_self ..);have s1 := zs7 L sm sp tr o ho f c1 c2 h0 (by omega) hLm (by omega);obtain ⟨g, e, s2⟩ := zqS L sm o ho hLm fs (tr ++ [f]) (sp + (zz f).length + 2) (fun x hx => hc x (List.mem_cons_of_mem _ hx)) (by omega) (by omega) (by simp; omega);refine ⟨(zz f ++ [13, 10]) ++ g, ?_, ?_⟩
  ·rw [zN, e]; simp
  ·have := s1.app s2
   have e5 : tr ++ [f] ++ fs = tr ++ f :: fs := by simp
   rw [e5] at this;rw [show sp + (((zz f).length : Int) + 2 + spF fs) + 1 = sp + ((zz f).length : Int) + 2 + spF fs + 1 by omega];exact this
def d0 (L : Int) : dechunk_Decoder := ⟨L, 0, [], 0, 0, 0, []⟩
theorem zww (L : Int) (hLm : L ≤ 1000000) (k : Nat) (hk : 1 ≤ k) (x : Str) (hx : x.length ≤ 600) (tr : List api_Field) (hc : ∀ f ∈ tr, zbe f = 0 ∧ (zz f).length < 4000) (hL : spF tr + 2 ≤ L) (ht : tr.length ≤ 100) :
  ∃ g, (zdC 601 k x).1 ++ (zgx (zdC 601 k x).2 ++ 48 :: 13 :: 10 :: zN tr) = g ++ [10] ∧ Seg g [] (d0 L) x ⟨L, 3, [13], 0, (x.length : Int), spF tr + 1, tr⟩ := by
 have hn := zkC tr;obtain ⟨a, e, s1⟩ := zqR L 0 [] k hk (Int.le_refl _) (by omega) hLm 601 x [] 0 hx (by simp; omega) (Int.le_refl _) (by omega);have hlx := congrArg List.length e;rw [yla] at hlx;have s2 := zo2 L (0 + (a.length : Int)) 0 [] (zdC 601 k x).2 ([] ++ a) (by simp; omega) (by omega) (Int.le_refl _) (by omega) hLm (by omega) (by omega) (by simp; omega);rw [yna] at s1 s2;rw [← e] at s2
 have e1 : 0 + (a.length : Int) + ((zdC 601 k x).2.length : Int) = (x.length : Int) := by omega
 rw [e1] at s2;have s3 := zqQ L 0 (x.length : Int) 0 [] x (by omega) 0 (by decide) (Int.le_refl _) (by omega) hLm (by omega) (by omega);rw [if_pos rfl, show zi (digs 16 0) = [48] by decide] at s3;obtain ⟨g, e4, s4⟩ := zqS L (x.length : Int) x (by omega) hLm tr [] 0 hc (Int.le_refl _) (by omega) (by simp; omega);refine ⟨(zdC 601 k x).1 ++ (zgx (zdC 601 k x).2 ++ (([48] ++ [13, 10]) ++ g)), ?_, ?_⟩
 ·rw [e4]; simp
 ·have := s1.app (s2.app (s3.app s4));rw [yna, Int.zero_add] at this;exact this
theorem zvi {L : Int} {g x : Str} {d : dechunk_Decoder} (hs : Seg g [] (d0 L) x d) (p q : Str) (hpq : g ++ [10] = p ++ q) (hq : q ≠ []) (hl : p.length < 100000000) :
  ∃ o2 d2, zT (d0 L) p = some ((p.length : Int), o2, false, 0, d2) := by
 unfold zT;show ∃ o2 d2, FL p fuel [] (d0 L) 0 false 0 = some ((p.length : Int), o2, false, 0, d2);have ha : At p 0 p := At.zero p
 rcases List.append_eq_append_iff.1 hpq with ⟨a', e1, e2⟩ | ⟨c', e1, e2⟩
 ·cases a' with
  | nil =>
   rw [yan] at e1;subst e1;obtain ⟨m, hm, e⟩ := hs.go p 0 [] hl (by rw [yan]; exact ha);obtain ⟨n, hn⟩ : ∃ n, fuel = n + 1 + m := ⟨fuel - m - 1, by unfold fuel; omega⟩;rw [hn, e, Nat.zero_add];exact ⟨x, d, znB p n x d⟩
  | cons c a' =>
   have := congrArg List.length e2;rw [yla, ylc, ylc, yln] at this;exact absurd (List.length_eq_zero_iff.1 (by omega)) hq
 ·by_cases hc : c' = []
  ·subst hc;rw [yan] at e1;subst e1;obtain ⟨m, hm, e⟩ := hs.go g 0 [] hl (by rw [yan]; exact ha);obtain ⟨n, hn⟩ : ∃ n, fuel = n + 1 + m := ⟨fuel - m - 1, by unfold fuel; omega⟩;rw [hn, e, Nat.zero_add];exact ⟨x, d, znB g n x d⟩
  ·exact hs.cut p 0 p c' hl ha e1 hc fuel (by unfold fuel; omega)
end Go.Dm
end
section
namespace Go.Dm
def cutT (l : List api_Field) : List api_Field := (l.take 105).map fun f => ⟨f.Name.take 50, f.Value.take 200⟩
theorem ztj (s : Str) : sTo s (min (s.length : Int) 50) = some (s.take 50) := zmY s 50
theorem zr3 (s : Str) : sTo s (min (s.length : Int) 200) = some (s.take 200) := zmY s 200
theorem znI (s : Str) : sTo s (min (s.length : Int) 500) = some (s.take 500) := zmY s 500
theorem zll (l : List api_Field) (hl : l.length < 1000000000) : zia l = some (cutT l) := by
 unfold zia
 have key : ∀ (n i : Nat) (out : List api_Field), i ≤ l.length → i ≤ 105 → l.length - i < n → out.length = i → zcI l n out (i : Int) = some (out ++ ((l.drop i).take (105 - i)).map fun f => ⟨f.Name.take 50, f.Value.take 200⟩) := by
  intro n
  induction n with
  | zero => intro i _ _ _ h; omega
  | succ n ih =>
   intro i out hi h120 hn ho;rw [zcI];unfold zfy
   by_cases hlt : i < l.length
   ·have g : l[i]? = some l[i] := ygg hlt;rw [ydt (show (i : Int) < (l.length : Int) by omega), if_pos rfl]
    by_cases h2 : i < 105
    ·rw [ydt (show (i : Int) < 105 by omega), if_pos rfl, zbw, g, yob, yob, ztj, yob, yob, yob, zr3, yob, if_pos (zb4 (by omega) (by omega)), zE (by omega), yob, ih (i + 1) _ (by omega) (by omega) (by omega) (by simp; omega), ydg hlt, show 105 - i = (105 - (i + 1)) + 1 by omega, List.take_succ_cons];simp
    ·have : i = 105 := by omega
     subst this;rw [ydf (by omega), if_neg (by decide)];simp
   ·have : i = l.length := by omega
    rw [ydf (by omega), if_neg (by decide), if_neg (by decide), this, ydl];simp
 have := key fuel 0 [] (yz _) (by decide) (by unfold fuel; omega) rfl;exact this
structure SmallM (m : api_Message) : Prop where
 head : smallH m.Head
 len : m.Head.Fields.length ≤ 120
 fields : zby 401 m.Head.Fields
 body : m.Body.length ≤ 500
 tlen : m.Trailers.length ≤ 105
 trailers : zby 401 m.Trailers
theorem few22 (m : api_Message) (hc : inI m.Head.Code = true) (hmi : inI m.Head.Minor = true) (hl : m.Head.Fields.length < 1000000000) (ht : m.Trailers.length < 1000000000) : ∃ g, zfY m = some g ∧ SmallM g := by
 unfold zfY;rw [zlm _ hl, yob, znI, yob, zll _ ht, yob];refine ⟨_, rfl, ⟨hc, hmi, by simp; omega, by simp; omega, by simp; omega⟩, zvs _, zr4 _, by simp; omega, by unfold cutT; simp; omega, ?_⟩;intro f hf;obtain ⟨g, _, rfl⟩ := List.mem_map.1 hf
 simp; omega
def zmr (m : api_Message) : Bool :=
 if m.Frame.Kind == 1 then (m.Body == []) && (m.Trailers == []) else if m.Frame.Kind == 2 then ((m.Body.length : Int) == m.Frame.N) && (m.Trailers == []) else if m.Frame.Kind == 4 then m.Trailers == [] else true
theorem zwC {α : Type} [DecidableEq α] (l : List α) : ((l.length : Int) == 0) = (l == []) := by
 cases l with
 | nil => rfl
 | cons x l => simp <;> omega
theorem zwD (m : api_Message) : zfz m = some (zmr m) := by
 unfold zfz zdI zdJ zmr;rw [zwC];cases m.Frame.Kind == 1 <;> cases m.Frame.Kind == 2 <;> cases m.Frame.Kind == 4 <;> cases m.Body == [] <;> cases (m.Body.length : Int) == m.Frame.N <;> rfl
def zg9 (method : Str) (m : api_Message) : Int :=
 if zcc m.Head == 0 then (if (zeD method m.Head).2 == 0 then (if (zeD method m.Head).1 == m.Frame then (if zmr m then (zhu m.Trailers).2 else 1) else 1) else (zeD method m.Head).2) else zcc m.Head
theorem zl2 (method : Str) (m : api_Message) (h : SmallM m) : zeN method m = some (zg9 method m) := by
 have h1 := h.len;have h2 := h.tlen;unfold zeN zg9 zdf;rw [zke _ h.head (by omega) (zaq (by decide) h.fields), yob, zij _ _ (by omega) (zaq (by decide) h.fields), yob, zwD, yob, zst _ (by omega) (zaq (by decide) h.trailers), yob];cases zcc m.Head == 0 <;> cases (zeD method m.Head).2 == 0 <;> cases (zeD method m.Head).1 == m.Frame <;> cases zmr m <;> rfl
def zl3 (method : Str) (m : api_Message) (lim size : Int) : Str × Int :=
 if zg9 method m == 0 then (if ((zR m.Head).length : Int) ≤ lim then (if m.Frame.Kind == 3 then (if (znD size m.Body m.Trailers).2 == 0 then (zR m.Head ++ (znD size m.Body m.Trailers).1, 0) else ([], (znD size m.Body m.Trailers).2)) else (zR m.Head ++ m.Body, 0)) else ([], 3)) else ([], zg9 method m)
theorem zms {method : Str} {m : api_Message} (h : (zg9 method m == 0) = true) : (zcc m.Head == 0) = true := by
 unfold zg9 at h
 cases hc : zcc m.Head == 0 with
 | true => rfl
 | false => rw [hc, if_neg yfn, hc] at h; cases h
theorem zq0 {size : Int} {b : Str} {tr : List api_Field} (hb : b.length ≤ 600) (hl : tr.length ≤ 200) (hs : zby 4000 tr) : (znD size b tr).1.length ≤ 4000000 := by
 have hll := zo4 hl hs;unfold znD
 split
 ·simp
 ·rename_i h1
  split
  ·have h1' : 1 ≤ size.toNat := by
    cases h2 : decide (size < 1) with
    | true => rw [h2] at h1; exact absurd rfl h1
    | false => have := of_decide_eq_false h2; omega
   obtain ⟨f1, f2⟩ := zo3 size.toNat h1' 601 b hb;have hp := ziw (zdC 601 size.toNat b).2 (by omega);simp only [yla];omega
  ·simp
theorem ztk {h : api_Head} (hs : smallH h) (hl : h.Fields.length ≤ 200) (hf : zby 4000 h.Fields) : (zR h).length < 200000000 := by
 have htl := zoL hs;have hrl := zhS hf;unfold zR;simp only [yla, ylc];omega
theorem zl4 (method : Str) (m : api_Message) (lim size : Int) (hli : inI lim = true) (h : SmallM m) : zeP method m lim size = some (zl3 method m lim size) := by
 have h1 := h.len;have h2 := h.tlen;have h3 := h.body;have hh := ztk h.head (by omega) (zaq (by decide) h.fields);have ha := zq0 (size := size) (b := m.Body) (tr := m.Trailers) (by omega) (by omega) (zaq (by decide) h.trailers);unfold zeP zl3;rw [zl2 _ _ h, yob]
 cases hc : zg9 method m == 0 with
 | false => rfl
 | true =>
  rw [ynt, if_neg yfn, if_pos rfl, zoo _ lim hli h.head (by omega) (zaq (by decide) h.fields), zms hc, if_pos rfl, yob];unfold zrw
  by_cases hfit : ((zR m.Head).length : Int) ≤ lim
  ·rw [if_pos hfit, if_pos hfit];dsimp only;rw [show (!((0 : Int) == 0)) = false from rfl, if_neg yfn, All_eq _ _ _ (by omega) (by omega) (zaq (by decide) h.trailers), yob];unfold zdh;dsimp only;rw [zf8 (by omega), yob, zf8 (by omega), yob];cases m.Frame.Kind == 3 <;> cases (znD size m.Body m.Trailers).2 == 0 <;> rfl
  ·rw [if_neg hfit, if_neg hfit];rfl
theorem znJ : zhA = some true := by decide +kernel

end Go.Dm
end
section
namespace Go.Dm
theorem zr5 {k : Int} {s : Str} {x : api_Head} (h : zbS k s = (x, 0)) : (10 : UInt8) ∉ s := by
 intro hm;have hany : s.any ([13, 10] : Str).contains = true := List.any_eq_true.2 ⟨10, hm, by decide⟩;unfold zbS at h
 split at h
 ·exact absurd (show (1 : Int) = 0 from congrArg Prod.snd h) (by decide)
 ·exact absurd (show (24 : Int) = 0 from congrArg Prod.snd h) (by decide)
theorem zo7 (k L : Int) (g : api_Head) (r : Str) : ∀ (w u : Str) (f i : Nat), (13 : UInt8) ∉ w → (10 : UInt8) ∉ w → zid u = false → ((u.length + w.length : Nat) : Int) ≤ L →
  zgB k L g (w ++ r) u f i = zgB k L g r (u ++ w) f (i + w.length) ∧ zid (u ++ w) = false
 | [], u, f, i, _, _, h, _ => by simp [h]
 | c :: w, u, f, i, h1, h2, h, hl => by
  have c1 : (c == 10) = false := by rw [beq_eq_false_iff_ne]; rintro rfl; exact h2 (List.mem_cons_self ..)
  have c2 : (c == 13) = false := by rw [beq_eq_false_iff_ne]; rintro rfl; exact h1 (List.mem_cons_self ..)
  rw [ylc] at hl
  have hL : ¬ (L ≤ (u.length : Int)) := by omega
  have hs : zco k L u f g c = ⟨false, 0, u ++ [c], f, g⟩ := by
   unfold zco;rw [ydf hL, if_neg yfn, c1, h, if_neg (by decide), if_pos (by decide)]
  have ih := zo7 k L g r w (u ++ [c]) f (i + 1) (fun q => h1 (List.mem_cons_of_mem _ q)) (fun q => h2 (List.mem_cons_of_mem _ q)) (by rw [zh2, c2]) (by simp; omega);rw [List.cons_append, zgB, hs]
  have e1 : u ++ [c] ++ w = u ++ c :: w := by simp
  rw [e1] at ih
  have e0 : ¬ (((⟨false, 0, u ++ [c], f, g⟩ : StepR).w || !((⟨false, 0, u ++ [c], f, g⟩ : StepR).e == 0)) = true) := by
   show ¬ ((false || !((0 : Int) == 0)) = true)
   decide
  refine ⟨?_, ih.2⟩;rw [if_neg e0, ih.1, ylc, show i + 1 + w.length = i + (w.length + 1) by omega]
theorem znL (k L : Int) (g : api_Head) (r w u : Str) (f i : Nat) (h1 : (13 : UInt8) ∉ w) (h2 : (10 : UInt8) ∉ w) (h : zid u = false) (hl : ((u.length + w.length + 2 : Nat) : Int) ≤ L) :
  zgB k L g (w ++ 13 :: 10 :: r) u f i = (if ((zco k L (u ++ w ++ [13]) f g 10).w || !((zco k L (u ++ w ++ [13]) f g 10).e == 0)) = true then (some (i + w.length + 2, zco k L (u ++ w ++ [13]) f g 10), f) else zgB k L g r (u ++ w ++ [13] ++ [10]) (zco k L (u ++ w ++ [13]) f g 10).f (i + w.length + 2)) := by
 obtain ⟨e, h3⟩ := zo7 k L g (13 :: 10 :: r) w u f i h1 h2 h (by omega)
 have hL : ¬ (L ≤ ((u ++ w).length : Int)) := by rw [yla]; omega
 have hs : zco k L (u ++ w) f g 13 = ⟨false, 0, u ++ w ++ [13], f, g⟩ := by
  unfold zco;rw [ydf hL, if_neg yfn, h3, if_neg (by decide), if_pos (by decide)]
 have e0 : ¬ (((⟨false, 0, u ++ w ++ [13], f, g⟩ : StepR).w || !((⟨false, 0, u ++ w ++ [13], f, g⟩ : StepR).e == 0)) = true) := by
  show ¬ ((false || !((0 : Int) == 0)) = true)
  decide
 rw [e, zgB, hs, if_neg e0, zgB]
theorem znM (k L : Int) (g : api_Head) (w u : Str) (f : Nat) (hl : ((u.length + w.length + 2 : Nat) : Int) ≤ L) :
  zco k L (u ++ w ++ [13]) f g 10 = if (f == 0) = true then ⟨false, (zbS k ((u ++ w).drop f)).2, u ++ w ++ [13] ++ [10], u.length + w.length + 2, g⟩
   else if (!((u ++ w).drop f == [])) = true then ⟨false, (zcN ((u ++ w).drop f)).2, u ++ w ++ [13] ++ [10], u.length + w.length + 2, g⟩
   else ⟨(zgH k (u ++ w ++ [13] ++ [10]) L).2 == 0, (zgH k (u ++ w ++ [13] ++ [10]) L).2, u ++ w ++ [13] ++ [10], f, (zgH k (u ++ w ++ [13] ++ [10]) L).1⟩ := by
 have hlen : (u ++ w ++ [(13 : UInt8)]).length = u.length + w.length + 1 := by simp; omega
 have hL : ¬ (L ≤ ((u ++ w ++ [(13 : UInt8)]).length : Int)) := by rw [hlen]; omega
 have ha : zjz (u ++ w ++ [13]) f = (u ++ w).drop f := by
  unfold zjz;rw [hlen, Nat.add_sub_cancel, ← yla, List.take_left]
 unfold zco;rw [ydf hL, if_neg yfn, zh2, if_neg (by decide), if_neg (by decide), ha, hlen]
theorem znN (k L : Int) (r : Str) (h : api_Head) : ∀ (fs : List api_Field) (u : Str) (i : Nat), u ≠ [] → zid u = false → (∀ f ∈ fs, zbe f = 0) → ((u.length + (zN fs).length : Nat) : Int) ≤ L → zgH k (u ++ zN fs) L = (h, 0) →
  ∃ z f', zgB k L zap (zN fs ++ r) u u.length i = (some (i + (zN fs).length, z), f') ∧ z.w = true ∧ z.e = 0 ∧ z.g = h
 | [], u, i, hu, h13, _, hl, hh => by
  have hu0 : (u.length == 0) = false := by rw [beq_eq_false_iff_ne]; exact fun q => hu (List.length_eq_zero_iff.1 q)
  have e := znL k L zap r [] u u.length i (by simp) (by simp) h13 (by simpa [zN] using hl);have s := znM k L zap [] u u.length (by simpa [zN] using hl)
  have hd : (u ++ []).drop u.length = [] := by simp
  have hh' : zgH k (u ++ [] ++ [13] ++ [10]) L = (h, 0) := by
   have : u ++ [] ++ [13] ++ [10] = u ++ zN [] := by simp [zN]
   rw [this]; exact hh
  rw [hu0, if_neg yfn, hd, if_neg (by decide), hh'] at s;rw [s] at e;refine ⟨⟨true, 0, u ++ [] ++ [13] ++ [10], u.length, h⟩, u.length, ?_, rfl, rfl, rfl⟩;exact e
 | f :: fs, u, i, hu, h13, hc, hl, hh => by
  have hu0 : (u.length == 0) = false := by rw [beq_eq_false_iff_ne]; exact fun q => hu (List.length_eq_zero_iff.1 q)
  have hf := hc f (List.mem_cons_self ..);obtain ⟨v1, v2⟩ := zjM hf;obtain ⟨n1, n2⟩ := zm3 v1;rw [zN, yla, ylc, ylc] at hl;have e := znL k L zap (zN fs ++ r) (zz f) u u.length i n1 n2 h13 (by omega);have s := znM k L zap (zz f) u u.length (by omega)
  have hne : (!(zz f == [])) = true := by
   cases hx : zz f with
   | nil => exact absurd hx v2
   | cons x l => rfl
  rw [hu0, if_neg yfn, List.drop_left, if_pos hne, zi5 hf] at s
  have e0 : ¬ (((zco k L (u ++ zz f ++ [13]) u.length zap 10).w || !((zco k L (u ++ zz f ++ [13]) u.length zap 10).e == 0)) = true) := by
   rw [s];show ¬ ((false || !((0 : Int) == 0)) = true)
   decide
  rw [if_neg e0, s] at e
  have hlen : (u ++ zz f ++ [13] ++ [10]).length = u.length + (zz f).length + 2 := by simp; omega
  obtain ⟨z, f', e2, z1, z2, z3⟩ := znN k L r h fs (u ++ zz f ++ [13] ++ [10]) (i + (zz f).length + 2) (by simp) (by rw [zh2]; rfl) (fun x hx => hc x (List.mem_cons_of_mem _ hx)) (by rw [hlen]; omega) (by
   rw [← hh, zN]; simp)
  rw [hlen] at e2;refine ⟨z, f', ?_, z1, z2, z3⟩;rw [zN, yla, ylc, ylc, show i + ((zz f).length + ((zN fs).length + 1 + 1)) = i + (zz f).length + 2 + (zN fs).length by omega, ← e2]
  have e3 : zz f ++ 13 :: 10 :: zN fs ++ r = zz f ++ 13 :: 10 :: (zN fs ++ r) := by simp
  rw [e3, e]
theorem zq3 {h : api_Head} (hc : zcc h = 0) {L : Int} (hl : ((zR h).length : Int) ≤ L) (r : Str) :
  ∃ z f', zgB h.Kind L zap (zR h ++ r) [] 0 0 = (some ((zR h).length, z), f') ∧ z.w = true ∧ z.e = 0 ∧ z.g = h := by
 have hb := zsL hc L hl;obtain ⟨h1, h2, h3⟩ := zik hc;obtain ⟨e, x, k0, k1, k2, k3, k4, k5, k6⟩ := zmZ h1;obtain ⟨l1, l2⟩ := zoN k0;have l3 := zr5 k0
 have hraw : zR h = zeR h ++ 13 :: 10 :: zN h.Fields := by unfold zR; rw [e]
 rw [hraw] at hl hb ⊢;rw [yla, ylc, ylc] at hl;have e1 := znL h.Kind L zap (zN h.Fields ++ r) (zeR h) [] 0 0 l1 l3 rfl (by simp; omega);have s := znM h.Kind L zap (zeR h) [] 0 (by simp; omega);rw [if_pos (show ((0 : Nat) == 0) = true from rfl), yna, List.drop_zero, k0] at s;rw [yna] at e1
 have e0 : ¬ (((zco h.Kind L (zeR h ++ [13]) 0 zap 10).w || !((zco h.Kind L (zeR h ++ [13]) 0 zap 10).e == 0)) = true) := by
  rw [s];show ¬ ((false || !((0 : Int) == 0)) = true)
  decide
 rw [if_neg e0, s] at e1
 have hlen : (zeR h ++ [13] ++ [10]).length = (zeR h).length + 2 := by simp
 obtain ⟨z, f', e2, z1, z2, z3⟩ := znN h.Kind L r h h.Fields (zeR h ++ [13] ++ [10]) ((zeR h).length + 2) (by simp) (by rw [zh2]; rfl) h3 (by rw [hlen]; omega) (by rw [← hb]; simp);rw [hlen] at e2;refine ⟨z, f', ?_, z1, z2, z3⟩;rw [yla, ylc, ylc, show (zeR h).length + ((zN h.Fields).length + 1 + 1) = (zeR h).length + 2 + (zN h.Fields).length by omega, ← e2]
 have e3 : zeR h ++ 13 :: 10 :: zN h.Fields ++ r = zeR h ++ 13 :: 10 :: (zN h.Fields ++ r) := by simp
 rw [e3, e1];simp
theorem zsw {k L : Int} {g : api_Head} : ∀ {s u : Str} {f i : Nat} {z : Nat × StepR} {f' : Nat}, zgB k L g s u f i = (some z, f') → z.1 ≤ i + s.length
 | [], u, f, i, z, f', h => by rw [zgB] at h; cases h
 | c :: s, u, f, i, z, f', h => by
  rw [zgB] at h
  split at h
  ·cases h; simp
  ·have := zsw h;rw [ylc]; omega
theorem zwF {h : api_Head} (hc : zcc h = 0) {L : Int} (hl : ((zR h).length : Int) ≤ L) {p q : Str} (hpq : zR h = p ++ q) (hq : q ≠ []) : ∃ f', zgB h.Kind L zap p [] 0 0 = (none, f') := by
 obtain ⟨z, f', e, _⟩ := zq3 hc hl [];rw [yan] at e;have hql : 0 < q.length := List.length_pos_iff.2 hq
 cases hp : zgB h.Kind L zap p [] 0 0 with
 | mk a b =>
  cases a with
  | none => exact ⟨b, rfl⟩
  | some y =>
   exfalso
   have h1 := zsw hp;have h2 := zre h.Kind L zap q p [] 0 0;rw [← hpq, e, hp] at h2;have h3 : (zR h).length = y.1 := congrArg (fun x => (x.1.map (·.1)).getD 0) h2;rw [hpq, yla] at h3;omega
def okFr (f : api_Frame) : Prop := f = ⟨1, 0⟩ ∨ (∃ n, f = ⟨2, n⟩) ∨ f = ⟨3, 0⟩ ∨ f = ⟨4, 0⟩
theorem zr6 (o : Option (List Int)) (h : ((zj1 o).2 == 0) = true) : okFr (zj1 o).1 := by
 unfold zj1 at h ⊢
 split
 ·cases h
 ·cases h
 ·split
  ·exact .inr (.inl ⟨_, rfl⟩)
  ·rename_i h2
   dsimp only at h;rw [if_neg h2] at h; cases h
theorem zr7 (m : Int) (te : List Str) (h : ((zj2 m te).2 == 0) = true) : okFr (zj2 m te).1 := by
 unfold zj2 at h ⊢
 split
 ·rename_i h1
  rw [if_pos h1] at h
  split
  ·rename_i x hx
   rw [hx] at h;dsimp only at h
   split
   ·exact .inr (.inr (.inl rfl))
   ·rename_i h2; rw [if_neg h2] at h; cases h
  ·rename_i hx
   split at h
   ·rename_i x hx2; exact absurd hx2 (hx x)
   ·cases h
 ·rename_i h1; rw [if_neg h1] at h; cases h
theorem zo8 (g : api_Head) (k : Int) (hk : k = 1 ∨ k = 4) (h : ((zkY g k).2 == 0) = true) : okFr (zkY g k).1 := by
 unfold zkY at h ⊢
 split
 ·rename_i h1
  rw [if_pos h1] at h
  split
  ·rcases hk with rfl | rfl
   ·exact .inl rfl
   ·exact .inr (.inr (.inr rfl))
  ·rename_i h2; rw [if_neg h2] at h; exact zr6 _ h
 ·rename_i h1
  rw [if_neg h1] at h
  split
  ·rename_i h2; rw [if_pos h2] at h; exact zr7 _ _ h
  ·rename_i h2; rw [if_neg h2] at h; cases h
theorem ztl (m : Str) (g : api_Head) (h : ((zeD m g).2 == 0) = true) : okFr (zeD m g).1 := by
 unfold zeD at h ⊢
 split
 ·rename_i h1; rw [if_pos h1] at h; exact zo8 g 1 (.inl rfl) h
 ·rename_i h1
  rw [if_neg h1] at h
  split
  ·exact .inl rfl
  ·rename_i h2; rw [if_neg h2] at h; exact zo8 g 4 (.inr rfl) h
theorem accNew {k : Int} (hk : k = 1 ∨ k = 2) : zjV k 65536 = some (some ⟨k, 65536, [], 0, false, 0, false, zap⟩, 0) := by rcases hk with rfl | rfl <;> rfl
def zmt : api_Message := ⟨zap, ⟨0, 0⟩, [], []⟩
def bodyR (method : Str) (s : Str) (ended : Bool) (q : Int × Bool × Int × accum_Accum) (p : api_Head × Bool) : Option (api_Message × Int × Int) :=
 (zcQ method p.1).bind fun r162 =>
 if (!(r162.2 == 0)) then some (zmt, 0, r162.2) else (zgn r162.1 65536).bind fun r171 =>
 zkI r171.1 (zdb s q) (fun x173 => bE x173.1 (zbm s ended q p r162 x173.2.f_frame.Kind x173.2.f_frame.N x173.2.f_left x173.2.f_done x173.2.f_bad x173.2.Decoder.f_limit x173.2.Decoder.f_at x173.2.Decoder.f_line x173.2.Decoder.f_left x173.2.Decoder.f_sum x173.2.Decoder.f_spent x173.2.Decoder.f_trailers) (zbn s ended q p r162 x173.2.f_frame.Kind x173.2.f_frame.N x173.2.f_left x173.2.f_done x173.2.f_bad))
theorem zmu {k : Int} (hk : k = 1 ∨ k = 2) (method s : Str) (ended : Bool) (hs : s.length < 30000000) :
  z7 k method s 65536 ended = (if (!((zlw k 65536 zap [] 0 false s).2.2.1 == 0)) = true then some (zmt, 0, (zlw k 65536 zap [] 0 false s).2.2.1) else if (!(zlw k 65536 zap [] 0 false s).2.1) = true then some (zmt, 0, 6) else
   (zcb (zlw k 65536 zap [] 0 false s).2.2.2).bind (bodyR method s ended (zlw k 65536 zap [] 0 false s))) := by
 have hf := zwX k 65536 zap [] 0 false s hs (by decide) ⟨yz _, fun h _ => absurd h (by decide)⟩;unfold z7;rw [accNew hk, yob];show zdc method s 65536 ended 0 k 65536 [] 0 false 0 false 0 [] [] 0 [] 0 [] = _;unfold zdc;rw [if_neg (by decide)];show ((zca ⟨k, 65536, [], ((0 : Nat) : Int), false, 0, false, zap⟩ s).bind _) = _;rw [hf, yob];rfl
theorem znO {h : api_Head} (hk : h.Kind = 1 ∨ h.Kind = 2) (hc : zcc h = 0) (hl : ((zR h).length : Int) ≤ 65536) {p q : Str} (hpq : zR h = p ++ q) (hq : q ≠ []) (method : Str) (ended : Bool) :
  z7 h.Kind method p 65536 ended = some (zmt, 0, 6) := by
 obtain ⟨f', e⟩ := zwF hc hl hpq hq;have hpl := congrArg List.length hpq;rw [yla] at hpl;rw [zmu hk method p ended (by omega)];unfold zlw;rw [e];rfl
theorem znP {h : api_Head} (hk : h.Kind = 1 ∨ h.Kind = 2) (hc : zcc h = 0) (hl : ((zR h).length : Int) ≤ 65536) (hn : h.Fields.length ≤ 1000) (hf : zby 400000 h.Fields) (method t : Str) (ended : Bool) (ht : t.length < 20000000) {fr : api_Frame} (hfr : zeD method h = (fr, 0)) :
  ∃ a : accum_Accum, z7 h.Kind method (zR h ++ t) 65536 ended = (zgn fr 65536).bind fun r171 =>
   zkI r171.1 (zdb (zR h ++ t) (((zR h).length : Int), true, 0, a)) (fun x173 => bE x173.1 (zbm (zR h ++ t) ended (((zR h).length : Int), true, 0, a) (h, true) (fr, 0) x173.2.f_frame.Kind x173.2.f_frame.N x173.2.f_left x173.2.f_done x173.2.f_bad x173.2.Decoder.f_limit x173.2.Decoder.f_at x173.2.Decoder.f_line x173.2.Decoder.f_left x173.2.Decoder.f_sum x173.2.Decoder.f_spent x173.2.Decoder.f_trailers) (zbn (zR h ++ t) ended (((zR h).length : Int), true, 0, a) (h, true) (fr, 0) x173.2.f_frame.Kind x173.2.f_frame.N x173.2.f_left x173.2.f_done x173.2.f_bad)) := by
 obtain ⟨z, f', e, z1, z2, z3⟩ := zq3 hc hl t
 have hfeed : zlw h.Kind 65536 zap [] 0 false (zR h ++ t) = (((zR h).length : Int), true, 0, ⟨h.Kind, 65536, [], (z.f : Int), true, 0, true, h⟩) := by
  unfold zlw;rw [e];dsimp only;rw [z1, z2, z3]
 refine ⟨⟨h.Kind, 65536, [], (z.f : Int), true, 0, true, h⟩, ?_⟩;rw [zmu hk method _ ended (by rw [yla]; omega), hfeed];dsimp only;have e0 : (!((0 : Int) == 0)) = false := rfl;rw [e0, if_neg yfn, ynt, if_neg yfn, zwY _ (by dsimp only; omega), yob];unfold zvL bodyR;dsimp only;rw [if_pos rfl];dsimp only;rw [zij _ _ hn hf, hfr, yob];dsimp only;rw [e0, if_neg yfn]
theorem zo9 (a t : Str) : ze8 (a ++ t) (a.length : Int) = some t := by
 rw [zdU (by simp), List.drop_left]
def behind (method : Str) (h : api_Head) (t : Str) (ended : Bool) (r : Option (api_Message × Int × Int)) : Prop := z7 h.Kind method (zR h ++ t) 65536 ended = r
section
variable {h : api_Head} {method t : Str} {ended : Bool}
theorem zwH (n : Nat) (hn : n < 1000000) : zgn ⟨2, (n : Int)⟩ 65536 = some (some (false, ⟨default, ⟨2, (n : Int)⟩, (n : Int), ((n : Int) == 0), false⟩), 0) := by
 have h1 : ¬ ((n : Int) < 0) := by omega
 have h2 : ¬ ((1099511627776 : Int) < (n : Int)) := by omega
 have hd : zhy 65536 = some (some (d0 65536), 0) := rfl;unfold zgn;rw [hd, yob];show zgm ⟨2, (n : Int)⟩ 0 65536 0 [] 0 0 0 [] = _;unfold zgm;dsimp only;rw [show (!((0 : Int) == 0)) = false from rfl, if_neg yfn, ydf (show ¬ ((2 : Int) < 1) by decide), if_neg yfn, ydf (show ¬ ((4 : Int) < 2) by decide), if_neg yfn, ydf h1, if_neg yfn, ydf h2];rfl
theorem zvt (h' : api_Head) (n : Nat) (hn : n < 1000000) (ht : t.length < 20000000) : ∃ b : body_Body, zaf ⟨⟨default, ⟨2, (n : Int)⟩, (n : Int), ((n : Int) == 0), false⟩, ⟨h', ⟨2, (n : Int)⟩, [], []⟩⟩ t ended =
  some (if n ≤ t.length then ((n : Int), 0, ⟨b, ⟨h', ⟨2, (n : Int)⟩, t.take n, []⟩⟩) else (0, 6, ⟨b, ⟨h', ⟨2, (n : Int)⟩, t, []⟩⟩)) := by
 by_cases h0 : n = 0
 ·subst h0;refine ⟨⟨default, ⟨2, 0⟩, 0, true, false⟩, ?_⟩;rw [if_pos (yz _), List.take_zero];rfl
 ·have hz : ((n : Int) == 0) = false := by rw [beq_eq_false_iff_ne]; omega
  unfold zaf zbY;dsimp only;rw [hz, yob, ynf, if_pos rfl];unfold zcU;dsimp only;rw [if_neg yfn];unfold zaX;dsimp only;rw [if_neg yfn, if_neg (by decide), if_pos (by decide)]
  by_cases hle : n ≤ t.length
  ·have e1 : min (t.length : Int) (n : Int) = (n : Int) := by omega
   have e2 : ((n : Int) - (n : Int) == 0) = true := by rw [Int.sub_self]; rfl
   refine ⟨⟨default, ⟨2, (n : Int)⟩, (n : Int) - (n : Int), true, false⟩, ?_⟩;rw [e1, zbN (by omega) (by omega), yob, e2];unfold zak;rw [zeY hle, yob, yob, if_pos hle];rfl
  ·have e1 : min (t.length : Int) (n : Int) = (t.length : Int) := by omega
   have e2 : ((n : Int) - (t.length : Int) == 0) = false := by rw [beq_eq_false_iff_ne]; omega
   refine ⟨⟨default, ⟨2, (n : Int)⟩, (n : Int) - (t.length : Int), false, false⟩, ?_⟩;rw [e1, zbN (by omega) (by omega), yob, e2];unfold zak;rw [zeY (Nat.le_refl _), List.take_length, yob, yob, if_neg hle];rfl
theorem zvu (hk : h.Kind = 1 ∨ h.Kind = 2) (hc : zcc h = 0) (hl : ((zR h).length : Int) ≤ 65536) (hn : h.Fields.length ≤ 1000) (hf : zby 400000 h.Fields) (ht : t.length < 20000000) {n : Nat} (hnn : n < 1000000) (hfr : zeD method h = (⟨2, (n : Int)⟩, 0)) :
  z7 h.Kind method (zR h ++ t) 65536 ended = some (if n ≤ t.length then (⟨h, ⟨2, (n : Int)⟩, t.take n, []⟩, (((zR h).length + n : Nat) : Int), 0) else (zmt, 0, 6)) := by
 obtain ⟨a, e⟩ := znP hk hc hl hn hf method t ended ht hfr;obtain ⟨b, hr⟩ := zvt (t := t) (ended := ended) h n hnn ht;rw [e, zwH n hnn, yob];show zbn (zR h ++ t) ended (((zR h).length : Int), true, 0, a) (h, true) (⟨2, (n : Int)⟩, 0) 2 (n : Int) (n : Int) ((n : Int) == 0) false = _;unfold zbn;dsimp only;rw [zo9, yob, hr, yob]
 by_cases hle : n ≤ t.length
 ·rw [if_pos hle, if_pos hle];dsimp only;rw [if_neg (by decide), zlI (by omega), yob]
 ·rw [if_neg hle, if_neg hle];rfl
theorem zr8 {n : Int} {o : Str} {t1 : Bool} {d : dechunk_Decoder} (hf : zT (d0 65536) t = some (n, o, t1, 0, d)) (ht : t1 = true → d.f_trailers.length < 1000000) :
  ∃ b : body_Body, za2 ⟨⟨d0 65536, ⟨3, 0⟩, 0, false, false⟩, ⟨h, ⟨3, 0⟩, [], []⟩⟩ t ended = some (if t1 = true then (n, 0, ⟨b, ⟨h, ⟨3, 0⟩, o, d.f_trailers⟩⟩) else (0, 6, ⟨b, ⟨h, ⟨3, 0⟩, o, []⟩⟩)) := by
 have hx : zfw ⟨d0 65536, ⟨3, 0⟩, 0, false, false⟩ t = some (n, o, t1, 0, ⟨d, ⟨3, 0⟩, 0, t1, false⟩) := by
  show ((zT (d0 65536) t).bind _) = _;rw [hf, yob];rfl
 unfold za2 zc7;dsimp only;rw [yob, ynf, if_pos rfl, hx, yob];dsimp only;rw [if_neg (by decide)];unfold zaW;dsimp only;rw [if_neg (by decide)];unfold zaV;rw [if_neg yfn];unfold zaU zc7;dsimp only;rw [yob]
 cases t1 with
 | true =>
  refine ⟨⟨⟨d.f_limit, d.f_at, d.f_line, d.f_left, d.f_sum, d.f_spent, d.f_trailers⟩, ⟨3, 0⟩, 0, true, false⟩, ?_⟩;rw [ynt, if_neg yfn, if_pos rfl];unfold zdu zbu;have htr := ht rfl;dsimp only;rw [if_pos (zb4 (by omega) (by omega)), yob, yob]
 | false =>
  refine ⟨⟨⟨d.f_limit, d.f_at, d.f_line, d.f_left, d.f_sum, d.f_spent, d.f_trailers⟩, ⟨3, 0⟩, 0, false, false⟩, ?_⟩;rw [ynf, if_pos rfl, if_neg yfn]
theorem zr9 (hk : h.Kind = 1 ∨ h.Kind = 2) (hc : zcc h = 0) (hl : ((zR h).length : Int) ≤ 65536) (hn : h.Fields.length ≤ 1000) (hf : zby 400000 h.Fields) (ht : t.length < 20000000) (hfr : zeD method h = (⟨3, 0⟩, 0))
  {n : Nat} {o : Str} {t1 : Bool} {d : dechunk_Decoder} (hfd : zT (d0 65536) t = some ((n : Int), o, t1, 0, d)) (htr : t1 = true → d.f_trailers.length < 1000000) (hnl : n ≤ t.length) :
  z7 h.Kind method (zR h ++ t) 65536 ended = some (if t1 = true then (⟨h, ⟨3, 0⟩, o, d.f_trailers⟩, (((zR h).length + n : Nat) : Int), 0) else (zmt, 0, 6)) := by
 obtain ⟨a, e⟩ := znP hk hc hl hn hf method t ended ht hfr;obtain ⟨b, hr⟩ := zr8 (h := h) (ended := ended) hfd htr;have hb : zgn ⟨3, 0⟩ 65536 = some (some (true, ⟨d0 65536, ⟨3, 0⟩, 0, false, false⟩), 0) := rfl;rw [e, hb, yob];show zbm (zR h ++ t) ended (((zR h).length : Int), true, 0, a) (h, true) (⟨3, 0⟩, 0) 3 0 0 false false 65536 0 [] 0 0 0 [] = _;unfold zbm;dsimp only;rw [zo9, yob];show ((za2 ⟨⟨d0 65536, ⟨3, 0⟩, 0, false, false⟩, ⟨h, ⟨3, 0⟩, [], []⟩⟩ t ended).bind _) = _;rw [hr, yob]
 cases t1 with
 | true =>
  rw [if_pos rfl, if_pos rfl];dsimp only;rw [if_neg (by decide), zlI (by omega), yob]
 | false =>
  rw [if_neg yfn, if_neg yfn];rfl
end
theorem few22B (m : api_Message) (hc : inI m.Head.Code = true) (hmi : inI m.Head.Minor = true) (hl : m.Head.Fields.length < 1000000000) (ht : m.Trailers.length < 1000000000) : ∃ g, zfY m = some g ∧ SmallM g ∧ (∀ f ∈ g.Trailers, (zz f).length ≤ 252) := by
 obtain ⟨g, e, hs⟩ := few22 m hc hmi hl ht;refine ⟨g, e, hs, ?_⟩;unfold zfY at e;rw [zlm _ hl, yob, znI, yob, zll _ ht, yob] at e;cases e;intro f hf;obtain ⟨g, _, rfl⟩ := List.mem_map.1 hf;have := zlP ⟨g.Name.take 50, g.Value.take 200⟩;simp only [ylt] at this;omega
theorem zvv : ∀ {fs : List api_Field}, (∀ f ∈ fs, (zz f).length ≤ 252) → spF fs ≤ 254 * fs.length
 | [], _ => by simp [spF]
 | f :: fs, h => by
  have h1 := h f (List.mem_cons_self ..);have h2 := zvv (fs := fs) fun x hx => h x (List.mem_cons_of_mem _ hx);unfold spF;rw [ylc];omega
structure Parts (method : Str) (m : api_Message) : Prop where
 head : zcc m.Head = 0
 kind : m.Head.Kind = 1 ∨ m.Head.Kind = 2
 frame : zeD method m.Head = (m.Frame, 0)
 fits : zmr m = true
 last : (zhu m.Trailers).2 = 0
theorem zpU {method : Str} {m : api_Message} (h : (zg9 method m == 0) = true) : Parts method m := by
 have h0 : zg9 method m = 0 := by simpa using h
 have hh : zcc m.Head = 0 := by simpa using zms h
 unfold zg9 at h0;rw [hh, if_pos (by decide)] at h0
 cases e1 : (zeD method m.Head).2 == 0 with
 | false =>
  rw [e1, if_neg yfn] at h0;rw [h0] at e1; cases e1
 | true =>
  rw [e1, if_pos rfl] at h0
  cases e2 : (zeD method m.Head).1 == m.Frame with
  | false => rw [e2, if_neg yfn] at h0; cases h0
  | true =>
   rw [e2, if_pos rfl] at h0
   cases e3 : zmr m with
   | false => rw [e3, if_neg yfn] at h0; cases h0
   | true =>
    rw [e3, if_pos rfl] at h0;exact ⟨hh, (zm0 (zik hh).1).kind, Prod.ext (by simpa using e2) (by simpa using e1), e3, h0⟩
def ziP (m : api_Message) (size : Int) : Str := if m.Frame.Kind == 3 then (znD size m.Body m.Trailers).1 else m.Body
theorem zmv {l : List api_Field} (h : (zhu l).2 = 0) : (∀ f ∈ l, zbe f = 0) ∧ l.length ≤ 100 ∧ (zhu l).1 = 48 :: 13 :: 10 :: zN l := by
 unfold zhu at h ⊢
 cases e : zg4 l == 0 with
 | false =>
  rw [e, if_neg yfn] at h;dsimp only at h;rw [h] at e; cases e
 | true =>
  rw [e, if_pos rfl] at h
  by_cases h1 : 100 < l.length
  ·rw [if_pos h1] at h; cases h
  ·refine ⟨fun f hf => by simpa using zqV e f hf, by omega, ?_⟩;rw [if_pos rfl, if_neg h1]
theorem zpa {size : Int} {b : Str} {tr : List api_Field} (h1 : 1 ≤ size) (h2 : size ≤ 65536) (h : (zhu tr).2 = 0) : znD size b tr = ((zdC 601 size.toNat b).1 ++ (zgx (zdC 601 size.toNat b).2 ++ 48 :: 13 :: 10 :: zN tr), 0) := by
 unfold znD;rw [ydf (by omega), ydf (by omega), Bool.or_false, if_neg yfn, h, if_pos (by decide), (zmv h).2.2]
theorem zvw {method : Str} {m : api_Message} {size : Int} (h1 : 1 ≤ size) (h2 : size ≤ 65536) (h : ((zl3 method m 65536 size).2 == 0) = true) :
  Parts method m ∧ ((zR m.Head).length : Int) ≤ 65536 ∧ zl3 method m 65536 size = (zR m.Head ++ ziP m size, 0) := by
 unfold zl3 at h ⊢;unfold ziP
 cases e1 : zg9 method m == 0 with
 | false => rw [e1, if_neg yfn] at h; dsimp only at h; rw [h] at e1; cases e1
 | true =>
  rw [e1, if_pos rfl] at h
  by_cases e2 : ((zR m.Head).length : Int) ≤ 65536
  ·have hp := zpU e1;refine ⟨hp, e2, ?_⟩;rw [if_pos rfl, if_pos e2]
   cases m.Frame.Kind == 3 with
   | true => rw [zpa h1 h2 hp.last]; rfl
   | false => rfl
  ·rw [if_neg e2] at h; cases h
theorem ztm {m : api_Message} {method : Str} (hs : SmallM m) (ht : ∀ f ∈ m.Trailers, (zz f).length ≤ 252) (hp : Parts method m) {size : Int} (h1 : 1 ≤ size) (h2 : size ≤ 65536) (hk : m.Frame = ⟨3, 0⟩) :
  ∃ g, ziP m size = g ++ [10] ∧ Seg g [] (d0 65536) m.Body ⟨65536, 3, [13], 0, (m.Body.length : Int), spF m.Trailers + 1, m.Trailers⟩ ∧ spF m.Trailers + 2 ≤ 65536 := by
 obtain ⟨l1, l2, l3⟩ := zmv hp.last;have hsp := zvv ht;have hb := hs.body;obtain ⟨g, e, s⟩ := zww 65536 (by decide) size.toNat (by omega) m.Body (by omega) m.Trailers (fun f hf => ⟨l1 f hf, by have := ht f hf; omega⟩) (by omega) l2;refine ⟨g, ?_, s, by omega⟩;unfold ziP;rw [hk, if_pos (by decide), zpa h1 h2 hp.last];exact e
theorem zpb {m : api_Message} (hs : SmallM m) (size : Int) : (ziP m size).length ≤ 4000000 := by
 have h1 := hs.tlen;have h2 := hs.body;unfold ziP
 split
 ·exact zq0 (by omega) (by omega) (zaq (by decide) hs.trailers)
 ·omega
theorem ztn {method : Str} {m : api_Message} (hs : SmallM m) (ht : ∀ f ∈ m.Trailers, (zz f).length ≤ 252) (hp : Parts method m) (hl : ((zR m.Head).length : Int) ≤ 65536) {size : Int} (h1 : 1 ≤ size) (h2 : size ≤ 65536) (hk4 : (m.Frame.Kind == 4) = false) {p q : Str} (hpq : zR m.Head ++ ziP m size = p ++ q) (hq : q ≠ []) (ended : Bool) :
  z7 m.Head.Kind method p 65536 ended = some (zmt, 0, 6) := by
 have g1 := hs.len;have g2 := hs.body;have g3 := zpb hs size;have hfi := hp.fits;have hql : 0 < q.length := List.length_pos_iff.2 hq;have hfr := ztl method m.Head (by rw [hp.frame]; rfl);rw [hp.frame] at hfr
 have bodyCase : ∀ a', p = zR m.Head ++ a' → ziP m size = a' ++ q → z7 m.Head.Kind method p 65536 ended = some (zmt, 0, 6) := by
  intro a' e1 e2;subst e1;have hlen := congrArg List.length e2;rw [yla] at hlen;have hff := hp.frame;obtain ⟨hd, fr, body, tr⟩ := m
  dsimp only at *
  rcases hfr with rfl | ⟨n, rfl⟩ | rfl | rfl
  ·unfold zmr at hfi;dsimp only at hfi;rw [if_pos (by decide), Bool.and_eq_true, beq_iff_eq, beq_iff_eq] at hfi;obtain ⟨rfl, rfl⟩ := hfi;have et : ziP ⟨hd, ⟨1, 0⟩, [], []⟩ size = [] := rfl;rw [et] at hlen;simp only [yln] at hlen;omega
  ·unfold zmr at hfi;dsimp only at hfi;rw [if_neg (by decide), if_pos (by decide), Bool.and_eq_true, beq_iff_eq, beq_iff_eq] at hfi;obtain ⟨rfl, rfl⟩ := hfi;have et : ziP ⟨hd, ⟨2, (body.length : Int)⟩, body, []⟩ size = body := rfl;rw [et] at hlen;rw [zvu (h := hd) hp.kind hp.head hl (by omega) (zaq (by decide) hs.fields) (by omega) (by omega) hff, if_neg (by omega)]
  ·obtain ⟨g, e, s, hsp⟩ := ztm hs ht hp h1 h2 rfl;rw [e] at e2;obtain ⟨o2, d2, hfd⟩ := zvi s a' q e2 hq (by omega);rw [zr9 (h := hd) hp.kind hp.head hl (by omega) (zaq (by decide) hs.fields) (by omega) hff hfd (fun h => by cases h) (Nat.le_refl _), if_neg yfn]
  ·cases hk4
 rcases List.append_eq_append_iff.1 hpq with ⟨a', e1, e2⟩ | ⟨c', e1, e2⟩
 ·exact bodyCase a' e1 e2
 ·by_cases hc : c' = []
  ·subst hc;rw [yan] at e1;rw [yna] at e2;exact bodyCase [] (by rw [yan]; exact e1.symm) (by rw [yna]; exact e2.symm)
  ·exact znO hp.kind hp.head hl e1 hc method ended
theorem zmL (method : Str) (m : api_Message) (k : UInt16) (_ : inI m.Head.Kind = true) (hc : inI m.Head.Code = true) (hmi : inI m.Head.Minor = true) (hl : m.Head.Fields.length < 1000000000) (_ : inI m.Frame.Kind = true) (_ : inI m.Frame.N = true) (ht : m.Trailers.length < 1000000000) : zex method m k = some true := by
 obtain ⟨g, hg, hs, h52⟩ := few22B m hc hmi hl ht;unfold zex;rw [znJ, yob, ynt, if_neg yfn, hg, yob, zl4 _ _ _ _ (by decide) hs, yob]
 cases hp : (zl3 method g 65536 5).2 == 0 with
 | false =>
  rw [ynf, if_pos rfl];unfold zao;rw [if_pos rfl, hp];rfl
 | true =>
  rw [ynt, if_neg yfn]
  cases hk : g.Frame.Kind == 4 with
  | true =>
   unfold zao;rw [if_pos rfl, hp, hk];rfl
  | false =>
   obtain ⟨q1, q2, q3⟩ := zvw (size := 5) (by decide) (by decide) hp;have hlen := zpb hs 5
   have hpos : 0 < (zR g.Head ++ ziP g 5).length := by unfold zR; simp; omega
   unfold zao;rw [if_neg yfn, q3];dsimp only
   generalize hT : zR g.Head ++ ziP g 5 = T at *
   have hTl : T.length ≤ 5000000 := by rw [← hT, yla]; omega
   have hmod : iMod (k.toNat : Int) (T.length : Int) = some ((k.toNat % T.length : Nat) : Int) := by
    have hlt := Nat.mod_lt k.toNat hpos;unfold iMod
    have e : (k.toNat : Int) % (T.length : Int) = ((k.toNat % T.length : Nat) : Int) := by omega
    rw [e, if_pos ⟨by omega, by omega, by rw [zgQ]; omega⟩]
   have hlt := Nat.mod_lt k.toNat hpos
   rw [hmod, yob, zeY (by omega), yob, ztn hs h52 q1 q2 (size := 5) (by decide) (by decide) hk (p := T.take (k.toNat % T.length)) (q := T.drop (k.toNat % T.length)) (by rw [hT, List.take_append_drop]) (by
    intro h;have := congrArg List.length h;rw [yld, yln] at this
    omega), yob]
   rfl
end Go.Dm
end
