/-
 Heads printed: what may be, its text, and what is read of it again.
 Heads that come piece by piece: what a byte does; pieces play no part.
 X-Forwarded-For: elements, lists, one element more. No program in sight.
 How the end of a message's body is told.
 Chunks as they are written: a piece, the last one, all of a body.
 Chunks that come piece by piece: the loop over bytes, line by line.
 Chunks that come piece by piece: what was written is read back; no beginning of it is whole.
 Messages: whether one may be, and its text.
 Messages: what is printed is read back; no beginning of it is a mes
-/
import Derived.Test.YtgjjlnlhpjjcpabGreatDoorT15L
section
namespace Go.Dm
def zbv (f : api_Field) : Int := if zfJ f.Name then (if f.Value.all zhe && zdO f.Value == f.Value then 0 else 25) else 21
theorem zfp (f : api_Field) (h1 : f.Name.length < 1000000000) (h2 : f.Value.length < 1000000000) : zcP f = some (zbv f) := by
 unfold zcP zbv;rw [zkF _ h1, yob, zcq zeZ _ h2, yob, zg8 _ h2, yob];cases zfJ f.Name <;> cases f.Value.all zhe <;> cases zdO f.Value == f.Value <;> rfl
def zmO (w : Int) : List api_Field → Int
 | [] => w
 | f :: fs => if zbv f == 0 then zmO w fs else zbv f
def zb7 (h : api_Head) : Int := if (zhS h).2 == 0 then zmO (zj2 h) h.Fields else (zhS h).2
theorem zlX {h : api_Head} (ht : ((zhS h).2 == 0) = true) : zhS h = (zfi h, 0) ∧ ∃ x, zbO h.Kind (zfi h) = (x, 0) ∧ x.Kind = h.Kind ∧ x.Method = h.Method ∧ x.Target = h.Target ∧ x.Minor = h.Minor ∧ x.Code = h.Code ∧ x.Reason = h.Reason := by
 unfold zhS at ht ⊢
 split
 ·rename_i h1; rw [if_pos h1] at ht; cases ht
 ·rename_i h1
  rw [if_neg h1] at ht
  split
  ·rename_i h2
   refine ⟨rfl, (zbO h.Kind (zfi h)).1, ?_, ?_⟩
   ·rw [Bool.and_eq_true] at h2
    have : (zbO h.Kind (zfi h)).2 = 0 := by simpa using h2.1
    rw [← this]
   ·rw [Bool.and_eq_true] at h2
    have h0 : (zbO h.Kind (zfi h)).2 = 0 := by simpa using h2.1
    have hb := zqA (k := h.Kind) (s := zfi h) (x := (zbO h.Kind (zfi h)).1) (by rw [← h0]);have hs := h2.2;unfold zxe at hs;simp only [Bool.and_eq_true, beq_iff_eq] at hs;exact ⟨hb.kind, hs.1.1.1.1, hs.1.1.1.2, hs.1.1.2, hs.1.2, hs.2⟩
  ·rename_i h2; rw [if_neg h2] at ht; cases ht
theorem zn7 {h : api_Head} (ht : ((zhS h).2 == 0) = true) : GoodH h := by
 obtain ⟨_, x, e, k1, _, _, k4, _, _⟩ := zlX ht;have := zs1 e;exact ⟨k1 ▸ this.kind, k4 ▸ this.minor⟩
theorem zla (h : api_Head) (hs : smallH h) (hl : h.Fields.length < 1000000000) (hf : zbq 400000000 h.Fields) : zgA h = some (zb7 h) := by
 unfold zgA zb7;rw [zie h hs, yob]
 cases ht : (zhS h).2 == 0 with
 | false => rfl
 | true =>
  rw [ynt, if_neg yfn, if_pos rfl]
  have key : ∀ (n i : Nat), i ≤ h.Fields.length → h.Fields.length - i < n → zeg h n (i : Int) = some (zmO (zj2 h) (h.Fields.drop i)) := by
   intro n
   induction n with
   | zero => intro i _ h; omega
   | succ n ih =>
    intro i hi hn;rw [zeg]
    by_cases hlt : i < h.Fields.length
    ·have g : h.Fields[i]? = some h.Fields[i] := ygg hlt;have hsm := hf h.Fields[i] (ygm _);rw [ydt (show (i : Int) < (h.Fields.length : Int) by omega), if_pos rfl, zbd, g, yob, zfp _ (by omega) (by omega), yob, zM (by omega), yob, ih (i + 1) (by omega) (by omega), ydg hlt, zmO];cases zbv h.Fields[i] == 0 <;> rfl
    ·have : i = h.Fields.length := by omega
     subst this;rw [ydf (by omega), if_neg yfn, ydl, zld h hl hf, yob];rfl
  have := key fuel 0 (yz _) (by unfold fuel; omega);rw [List.drop_zero] at this;exact this
theorem zjS {w : Int} : ∀ {fs : List api_Field}, zmO w fs = 0 → w = 0 ∧ ∀ f ∈ fs, zbv f = 0
 | [], h => ⟨h, fun f hf => by cases hf⟩
 | f :: fs, h => by
  rw [zmO] at h
  split at h
  ·rename_i h0
   obtain ⟨a, b⟩ := zjS h;refine ⟨a, fun g hg => ?_⟩
   rcases List.mem_cons.1 hg with e | e
   ·rw [e]; simpa using h0
   ·exact b g e
  ·rename_i h0; rw [h] at h0; exact absurd rfl h0
def zF (f : api_Field) : Str := if f.Value == [] then f.Name ++ [58] else f.Name ++ [58, 32] ++ f.Value
def zZ : List api_Field → Str
 | [] => [13, 10]
 | f :: fs => zF f ++ 13 :: 10 :: zZ fs
def zE (h : api_Head) : Str := (zhS h).1 ++ 13 :: 10 :: zZ h.Fields
theorem zmP (f : api_Field) : (zF f).length ≤ f.Name.length + f.Value.length + 2 := by
 unfold zF
 split <;> simp <;> omega
theorem ziv {m : Nat} : ∀ {fs : List api_Field}, zbq m fs → (zZ fs).length ≤ fs.length * (2 * m + 4) + 2
 | [], _ => by simp [zZ]
 | f :: fs, h => by
  have h1 := h f (List.mem_cons_self ..);have ih := ziv (m := m) (fs := fs) (fun g hg => h g (List.mem_cons_of_mem _ hg));have := zmP f;simp only [zZ, yla, ylc, Nat.add_mul];omega
theorem zp1 {h : api_Head} (hs : smallH h) : (zhS h).1.length < 100000000 := by
 have := zsw hs;unfold zhS
 split
 ·simp
 ·split
  ·exact this
  ·simp
theorem zh0 (f : api_Field) (h1 : f.Name.length < 100000000) (h2 : f.Value.length < 100000000) (hc : zbv f = 0) : zbW f = some (zF f, 0) := by
 unfold zbW zF;rw [zfp f (by omega) (by omega), yob, hc, zgb (by simp; omega), yob, zgb (by simp; omega), yob, zgb (by simp; omega), yob];cases f.Value == [] <;> rfl
theorem zg4 (b s : Str) (most : Int) (full : Bool) (hb : (b.length : Int) ≤ most) (hm : most ≤ 9223372036854775807) (hs : s.length < 1000000000) (hbl : b.length < 1000000000) :
  zbb ⟨⟨b, most⟩, full⟩ s = some (if ((b.length + s.length + 2 : Nat) : Int) ≤ most then ⟨⟨b ++ s ++ [13, 10], most⟩, full⟩ else ⟨⟨b, most⟩, true⟩) := by
 unfold zbb zeV zfn zeU;dsimp only;have hsub : zdZ most (b.length : Int) = some (most - (b.length : Int)) := zb6 (by omega) (by omega);rw [if_pos (show zA 0 ([s] : List Str).length 16 = true from rfl), if_pos (show zA ([s] : List Str).length 1 16 = true from rfl), hsub, yob, yob];rw [show fuel = 999999999999999997 + 1 + 1 + 1 from rfl];show ((zaq ⟨b, most⟩ [s, [13, 10]] (999999999999999997 + 1 + 1 + 1) (most - (b.length : Int)) ((0 : Nat) : Int)).bind _).bind _ = _
 have L2 : zad [s, [13, 10]] fuel b most 0 = some (0, ⟨b ++ s ++ [13, 10], most⟩) := by
  rw [show fuel = 999999999999999997 + 1 + 1 + 1 from rfl, show (0 : Int) = ((0 : Nat) : Int) from rfl];rw [zad, ydt (by simp), if_pos rfl, zbd, show ([s, [13, 10]] : List Str)[0]? = some s from rfl, yob, if_pos (zcn (by omega) (by omega)), zM (by decide), yob];rw [zad, ydt (by simp), if_pos rfl, zbd, show ([s, [13, 10]] : List Str)[0 + 1]? = some [13, 10] from rfl, yob, if_pos (zcn (by simp; omega) (by simp; omega)), zM (by decide), yob];rw [zad, ydf (by simp), if_neg yfn];rfl
 rw [zaq, ydt (by simp), if_pos rfl, zbd, show ([s, [13, 10]] : List Str)[0]? = some s from rfl, yob]
 by_cases h1 : most - (b.length : Int) < (s.length : Int)
 ·rw [ydt h1, if_pos rfl, yob, yob, if_neg (show ¬ ((b.length + s.length + 2 : Nat) : Int) ≤ most by omega)];rfl
 ·rw [ydf h1, if_neg yfn, zb6 (by omega) (by omega), yob, zM (by decide), yob];rw [zaq, ydt (by simp), if_pos rfl, zbd, show ([s, [13, 10]] : List Str)[0 + 1]? = some [13, 10] from rfl, yob]
  by_cases h2 : most - (b.length : Int) - (s.length : Int) < 2
  ·rw [ydt (show most - (b.length : Int) - (s.length : Int) < (([13, 10] : Str).length : Int) from h2), if_pos rfl, yob, yob, if_neg (show ¬ ((b.length + s.length + 2 : Nat) : Int) ≤ most by omega)];rfl
  ·rw [ydf (show ¬ most - (b.length : Int) - (s.length : Int) < (([13, 10] : Str).length : Int) from h2), if_neg yfn, show (([13, 10] : Str).length : Int) = 2 from rfl, zb6 (by omega) (by omega), yob, zM (by decide), yob];rw [zaq, ydf (by simp), if_neg yfn];show ((zad [s, [13, 10]] fuel b most 0).bind _).bind _ = _;rw [L2, yob, yob, if_pos (show ((b.length + s.length + 2 : Nat) : Int) ≤ most by omega)];rfl
def zsT (h : api_Head) (most : Int) : Str × Int := if ((zE h).length : Int) ≤ most then (zE h, 0) else ([], 3)
theorem zpA (h : api_Head) (lim : Int) (hli : inI lim = true) (hs : smallH h) (hl : h.Fields.length ≤ 200) (hf : zbq 4000 h.Fields) :
  zhN h lim = some (if zb7 h == 0 then zsT h lim else ([], zb7 h)) := by
 have htl := zp1 hs;have hrl := ziv hf;rw [zho] at hli;unfold zhN;rw [zla h hs (by omega) (zW (by decide) hf), yob]
 cases hck : zb7 h == 0 with
 | false => rfl
 | true =>
  have hc0 : zb7 h = 0 := by simpa using hck
  unfold zkU;rw [ynt, if_neg yfn, if_pos rfl, yob, zie h hs, yob]
  have hfc : ∀ f ∈ h.Fields, zbv f = 0 := by
   unfold zb7 at hc0
   split at hc0
   ·exact (zjS hc0).2
   ·rename_i hh; rw [hc0] at hh; exact absurd rfl hh
  obtain ⟨most, hmost⟩ : ∃ m, m = max lim 0 := ⟨_, rfl⟩
  have hm0 : 0 ≤ most := by omega
  have hm1 : most ≤ 9223372036854775807 := by omega
  rw [← hmost]
  -- the loop
  have fin : ∀ (t : Bool) (b : Str), (b.length : Int) ≤ most → b.length < 900000000 → zfe t b most = some (if t then ([], 3) else if ((b.length + 2 : Nat) : Int) ≤ most then (b ++ [13, 10], 0) else ([], 3)) := by
   intro t b hb hbl;unfold zfe;rw [zg4 b [] most t hb hm1 (by decide) (by omega), yob];simp only [yln, Nat.add_zero, yan]
   split
   ·cases t <;> rfl
   ·cases t <;> rfl
  have key : ∀ (n i : Nat) (t : Bool) (b : Str), i ≤ h.Fields.length → h.Fields.length - i < n → (b.length : Int) ≤ most → b.length ≤ 200000000 + i * 8004 →
    zeh h n t b most (i : Int) = some (if t then ([], 3) else if ((b.length + (zZ (h.Fields.drop i)).length : Nat) : Int) ≤ most then (b ++ zZ (h.Fields.drop i), 0) else ([], 3)) := by
   intro n
   induction n with
   | zero => intro i _ _ _ h; omega
   | succ n ih =>
    intro i t b hi hn hb hbl;rw [zeh]
    by_cases hlt : i < h.Fields.length
    ·have g : h.Fields[i]? = some h.Fields[i] := ygg hlt;have hsm := hf h.Fields[i] (ygm _);have htf := zmP h.Fields[i];rw [ydt (show (i : Int) < (h.Fields.length : Int) by omega), if_pos rfl, zbd, g, yob, zh0 _ (by omega) (by omega) (hfc _ (ygm _)), yob, zg4 b _ most t hb hm1 (by dsimp only; omega) (by omega), yob, zM (by omega), yob, ydg hlt, zZ];dsimp only;generalize zF h.Fields[i] = x at htf
     by_cases hfit : ((b.length + x.length + 2 : Nat) : Int) ≤ most
     ·rw [if_pos hfit];have := ih (i + 1) t (b ++ x ++ [13, 10]) (by omega) (by omega) (by simp only [yla, ylc, yln]; omega) (by simp only [yla, ylc, yln]; omega);refine this.trans ?_
      have e1 : (b ++ x ++ [13, 10]).length + (zZ (h.Fields.drop (i + 1))).length = b.length + (x ++ 13 :: 10 :: zZ (h.Fields.drop (i + 1))).length := by simp only [yla, ylc, yln]; omega
      have e2 : b ++ x ++ [13, 10] ++ zZ (h.Fields.drop (i + 1)) = b ++ (x ++ 13 :: 10 :: zZ (h.Fields.drop (i + 1))) := by simp
      rw [e1, e2]
     ·rw [if_neg hfit];have := ih (i + 1) true b (by omega) (by omega) hb (Nat.le_trans hbl (Nat.add_le_add_left (Nat.mul_le_mul_right _ (Nat.le_succ i)) _));refine this.trans ?_;rw [if_pos rfl]
      have hno : ¬ ((b.length + (x ++ 13 :: 10 :: zZ (h.Fields.drop (i + 1))).length : Nat) : Int) ≤ most := by simp only [yla, ylc]; omega
      rw [if_neg hno];cases t <;> rfl
    ·have : i = h.Fields.length := by omega
     subst this;rw [ydf (by omega), if_neg yfn, ydl];exact fin t b hb (by omega)
  rw [zg4 [] _ most false (by simpa using hm0) hm1 (by omega) (by decide), yob];unfold zsT zE;generalize (zhS h).1 = l at htl;simp only [yln, Nat.zero_add, yna]
  have hpos : (((l ++ 13 :: 10 :: zZ h.Fields).length : Int) ≤ lim) ↔ (((l ++ 13 :: 10 :: zZ h.Fields).length : Int) ≤ most) := by
   simp only [yla, ylc];omega
  by_cases hfit : ((l.length + 2 : Nat) : Int) ≤ most
  ·rw [if_pos hfit];have := key fuel 0 false (l ++ [13, 10]) (yz _) (by unfold fuel; omega) (by simp only [yla, ylc, yln]; omega) (by simp only [yla, ylc, yln]; omega);refine this.trans ?_;rw [if_neg yfn, List.drop_zero]
   have e1 : (l ++ [13, 10]).length + (zZ h.Fields).length = (l ++ 13 :: 10 :: zZ h.Fields).length := by simp only [yla, ylc, yln]; omega
   have e2 : l ++ [13, 10] ++ zZ h.Fields = l ++ 13 :: 10 :: zZ h.Fields := by simp
   rw [e1, e2]
   by_cases hq : ((l ++ 13 :: 10 :: zZ h.Fields).length : Int) ≤ most
   ·rw [if_pos hq, if_pos (hpos.2 hq)]
   ·rw [if_neg hq, if_neg (fun h => hq (hpos.1 h))]
  ·rw [if_neg hfit];have := key fuel 0 true [] (yz _) (by unfold fuel; omega) (by simpa using hm0) (by simp);refine this.trans ?_;rw [if_pos rfl, if_neg];intro hh;have := hpos.1 hh;simp only [yla, ylc] at this;omega
def zkZ : Str → List Str → Str
 | l, [] => l
 | l, m :: ms => l ++ 13 :: 10 :: zkZ m ms
theorem zhy {t : Str} {c : UInt8} (ht : t.head? = some c) : ∀ {l : Str} (r : Str), c ∉ l → zbI t (l ++ r) = (zbI t r).map fun p => (l ++ p.1, p.2)
 | [], r, _ => by
  cases h : zbI t r with
  | none => rw [yna, h]; rfl
  | some p => rw [yna, h]; rfl
 | x :: l, r, h => by
  have hx : c ≠ x := fun e => h (by rw [e]; exact List.mem_cons_self ..)
  have hp : t.isPrefixOf (x :: (l ++ r)) = false := by
   cases t with
   | nil => cases ht
   | cons a t =>
    have : a = c := by simpa using ht
    subst this;show ((a == x) && _) = false;rw [beq_eq_false_iff_ne.2 hx, Bool.false_and]
  rw [List.cons_append, zbI, hp, if_neg yfn, zhy ht r (fun hm => h (List.mem_cons_of_mem _ hm)), Option.map_map];rfl
theorem zn8 : ∀ (ms : List Str) (l : Str), (13 : UInt8) ∉ l → (∀ m ∈ ms, (13 : UInt8) ∉ m) → lines (zkZ l ms) = l :: ms
 | [], l, hl, _ => by
  have h := zhy (t := [13, 10]) (c := 13) rfl [] hl;rw [yan] at h;rw [zkZ, zl2, h]; rfl
 | m :: ms, l, hl, hm => by
  have h := zhy (t := [13, 10]) (c := 13) rfl (13 :: 10 :: zkZ m ms) hl
  have hp : zbI [13, 10] (13 :: 10 :: zkZ m ms) = some ([], zkZ m ms) := by
   rw [zbI, if_pos (by rw [zrQ]; rfl)]; rfl
  rw [hp] at h;rw [zkZ, zl2, h];dsimp only [Option.map_some];rw [yan, zn8 ms m (hm m (List.mem_cons_self ..)) (fun x hx => hm x (List.mem_cons_of_mem _ hx))]
theorem zrE : ∀ (ms : List Str) (l : Str), (13 : UInt8) ∉ l → (∀ m ∈ ms, (13 : UInt8) ∉ m ∧ m ≠ []) → zbI [13, 10, 13, 10] (zkZ l ms ++ [13, 10, 13, 10]) = some (zkZ l ms, [])
 | [], l, hl, _ => by
  rw [zkZ, zhy (c := 13) rfl _ hl]
  have : zbI [13, 10, 13, 10] [13, 10, 13, 10] = some ([], []) := by decide
  rw [this];dsimp only [Option.map_some];rw [yan]
 | m :: ms, l, hl, hm => by
  obtain ⟨h1, h2⟩ := hm m (List.mem_cons_self ..);have ih := zrE ms m h1 (fun x hx => hm x (List.mem_cons_of_mem _ hx))
  obtain ⟨y, m', rfl⟩ : ∃ y m', m = y :: m' := by
   cases m with
   | nil => exact absurd rfl h2
   | cons y m' => exact ⟨y, m', rfl⟩
  have hy : (13 == y) = false := beq_eq_false_iff_ne.2 (fun e => h1 (by rw [e]; exact List.mem_cons_self ..))
  obtain ⟨g, hg⟩ : ∃ g, zkZ (y :: m') ms ++ [13, 10, 13, 10] = y :: g := by
   cases ms with
   | nil => exact ⟨_, rfl⟩
   | cons z zs => exact ⟨_, rfl⟩
  rw [zkZ, yaa, zhy (c := 13) rfl _ hl, List.cons_append, List.cons_append, hg]
  have e1 : ([13, 10, 13, 10] : Str).isPrefixOf (13 :: 10 :: y :: g) = false := by
   show ((13 : UInt8) == 13 && ((10 : UInt8) == 10 && ((13 : UInt8) == y && _))) = false;rw [hy]; rfl
  have e2 : ([13, 10, 13, 10] : Str).isPrefixOf (10 :: y :: g) = false := rfl;rw [zbI, e1, if_neg yfn, zbI, e2, if_neg yfn, ← hg, ih];rfl
theorem zn9 (l : Str) : ∀ fs : List api_Field, l ++ 13 :: 10 :: zZ fs = zkZ l (fs.map zF) ++ [13, 10, 13, 10]
 | [] => by simp [zZ, zkZ]
 | f :: fs => by
  have ih := zn9 (zF f) fs;rw [zZ, List.map_cons, zkZ, ih]; simp
theorem zoa {v : Str} (h : v.all zhe = true) : (13 : UInt8) ∉ v ∧ (10 : UInt8) ∉ v := by
 constructor <;> intro hm <;> have := List.all_eq_true.1 h _ hm <;> cases this
theorem zxt (c : UInt8) : (!zbG c || zhe c) = true := za2 (fun c => !zbG c || zhe c) (by decide +kernel) c
theorem zxu {p q : UInt8 → Bool} (h : ∀ c, (!p c || q c) = true) {s : Str} (hs : s.all p = true) : s.all q = true := by
 refine List.all_eq_true.2 fun x hx => ?_;have h1 := List.all_eq_true.1 hs x hx;have h2 := h x;rw [h1] at h2;exact h2
theorem zp2 {f : api_Field} (h : zbv f = 0) : zfJ f.Name = true ∧ f.Value.all zhe = true ∧ zdO f.Value = f.Value := by
 unfold zbv at h
 split at h
 ·rename_i h1
  split at h
  ·rename_i h2
   rw [Bool.and_eq_true, beq_iff_eq] at h2;exact ⟨h1, h2.1, h2.2⟩
  ·exact absurd h (by decide)
 ·exact absurd h (by decide)
theorem zkJ {f : api_Field} (h : zbv f = 0) : (zF f).all zhe = true ∧ zF f ≠ [] := by
 obtain ⟨h1, h2, _⟩ := zp2 h;unfold zfJ at h1;rw [Bool.and_eq_true] at h1;have hn := zxu zxt h1.1;unfold zF
 split
 ·exact ⟨by rw [List.all_append, hn]; decide, by simp⟩
 ·exact ⟨by rw [List.all_append, List.all_append, hn, h2]; decide, by simp⟩
theorem zvn {s : Str} (h : s.all zhe = true) : s.any ([13, 10] : Str).contains = false := by
 refine List.any_eq_false.2 fun x hx => ?_;have := List.all_eq_true.1 h x hx;intro hc
 have hc' : x = 13 ∨ x = 10 := by simpa using hc
 rcases hc' with e | e <;> subst e <;> cases this
theorem zjT {f : api_Field} (h : zbv f = 0) : zdc (zF f) = (f, 0) := by
 obtain ⟨h1, h2, h3⟩ := zp2 h;have hv := (zkJ h).1;have ht := h1;unfold zfJ at h1;rw [Bool.and_eq_true] at h1;obtain ⟨n1, n2⟩ := zm6 h1.1
 obtain ⟨v, hu, hva, hvt⟩ : ∃ v, zF f = f.Name ++ 58 :: v ∧ v.all zhe = true ∧ zdO v = f.Value := by
  unfold zF
  cases hx : f.Value == [] with
  | true =>
   have : f.Value = [] := by simpa using hx
   exact ⟨[], by rw [if_pos rfl], rfl, by rw [this]; rfl⟩
  | false =>
   refine ⟨32 :: f.Value, by rw [if_neg yfn]; simp, by rw [List.all_cons, h2]; decide, ?_⟩;rw [zx5 (by decide), h3]
 obtain ⟨u1, u2⟩ := zt0 f.Name v n2;have hne : f.Name ≠ [] := ((zu7 _).1 ht).1
 have hhb : zm5 (zF f) = false := by
  rw [hu]
  cases hn : f.Name with
  | nil => exact absurd hn hne
  | cons c n => rw [hn] at n1; exact n1 c (List.mem_cons_self ..)
 unfold zdc;rw [zvn hv, if_neg yfn, hhb, if_neg yfn, hu, u1, u2, zsl n1, ht];show (if false = true then _ else if decide (f.Name.length < f.Name.length) = true then _ else if (!v.all zhe) = true then _ else _) = _;rw [if_neg yfn, ydf (Nat.lt_irrefl _), if_neg yfn, hva, ynt, if_neg yfn];show ((⟨f.Name, zdO v⟩, 0) : api_Field × Int) = _;rw [hvt]
theorem zno : ∀ (fs : List api_Field) (h : api_Head), (∀ f ∈ fs, zbv f = 0) → zjv h (fs.map zF) = zjv ⟨h.Kind, h.Method, h.Target, h.Code, h.Reason, h.Minor, h.Fields ++ fs⟩ []
 | [], h, _ => by rw [List.map_nil, yan]
 | f :: fs, h, hc => by
  have e : zjv h (zF f :: fs.map zF) = if (zdc (zF f)).2 == 0 then zjv (zqb h (zdc (zF f)).1) (fs.map zF) else (zaB, (zdc (zF f)).2) := rfl;rw [List.map_cons, e, zjT (hc f (List.mem_cons_self ..)), ybs, if_pos rfl, zno fs _ (fun g hg => hc g (List.mem_cons_of_mem _ hg))];unfold zqb;simp only [yaa, List.singleton_append]
theorem zhk {h : api_Head} (hc : zb7 h = 0) : ((zhS h).2 == 0) = true ∧ zj2 h = 0 ∧ ∀ f ∈ h.Fields, zbv f = 0 := by
 unfold zb7 at hc
 split at hc
 ·rename_i h1
  exact ⟨h1, zjS hc⟩
 ·rename_i h1; rw [hc] at h1; exact absurd rfl h1
theorem zp3 {k : Int} {s : Str} {x : api_Head} (h : zbO k s = (x, 0)) : (13 : UInt8) ∉ s ∧ s ≠ [] := by
 constructor
 ·intro hm;have hany : s.any ([13, 10] : Str).contains = true := List.any_eq_true.2 ⟨13, hm, by decide⟩;unfold zbO at h
  split at h
  ·exact absurd (show (1 : Int) = 0 from congrArg Prod.snd h) (by decide)
  ·exact absurd (show (24 : Int) = 0 from congrArg Prod.snd h) (by decide)
 ·rintro rfl;unfold zbO at h
  split at h
  ·exact absurd (show (1 : Int) = 0 from congrArg Prod.snd h) (by decide)
  ·rw [show ([] : Str).any ([13, 10] : Str).contains = false from rfl, if_neg yfn] at h
   split at h
   ·exact absurd (show (20 : Int) = 0 from congrArg Prod.snd h) (by decide)
   ·exact absurd (show (20 : Int) = 0 from congrArg Prod.snd h) (by decide)
theorem zuf {h : api_Head} (hc : zb7 h = 0) (lim : Int) (hl : ((zE h).length : Int) ≤ lim) : zhf h.Kind (zE h) lim = (h, 0) := by
 obtain ⟨h1, h2, h3⟩ := zhk hc;have hg := zn7 h1;obtain ⟨e, x, k0, k1, k2, k3, k4, k5, k6⟩ := zlX h1;obtain ⟨l1, l2⟩ := zp3 k0
 have hraw : zE h = zkZ (zfi h) (h.Fields.map zF) ++ [13, 10, 13, 10] := by
  unfold zE;rw [e, zn9]
 have hms : ∀ m ∈ h.Fields.map zF, (13 : UInt8) ∉ m ∧ m ≠ [] := fun m hm => by
  obtain ⟨f, hf, rfl⟩ := List.mem_map.1 hm;obtain ⟨a, b⟩ := zkJ (h3 f hf);exact ⟨(zoa a).1, b⟩
 have hk : (!(h.Kind == 1) && !(h.Kind == 2)) = false := by rcases hg.kind with hh | hh <;> rw [hh] <;> rfl
 have hfx := zmp h.Kind (zfi h);rw [k0] at hfx;unfold zhf;rw [hk, if_neg yfn, ydf (by omega), if_neg yfn, hraw, zrE _ _ l1 hms];dsimp only;rw [show (([] : Str) == []) = true from rfl, if_pos rfl, zn8 _ _ l1 (fun m hm => (hms m hm).1), zwx, k0, ybs, if_pos rfl, zno _ _ h3];dsimp only at hfx
 have hx : (⟨x.Kind, x.Method, x.Target, x.Code, x.Reason, x.Minor, x.Fields ++ h.Fields⟩ : api_Head) = h := by
  rw [k1, k2, k3, k4, k5, k6, hfx, yna]
 show zjv (⟨x.Kind, x.Method, x.Target, x.Code, x.Reason, x.Minor, x.Fields ++ h.Fields⟩ : api_Head) [] = _;rw [hx, zjv, h2];rfl
def bare (s : Str) : Str := s.filter fun b => !zaL b
end Go.Dm
end
section
namespace Go.Dm
structure StepR where
 w : Bool
 e : Int
 v : Str
 f : Nat
 g : api_Head
def zkv (u : Str) (frm : Nat) : Str := (u.take (u.length - 1)).drop frm
def ziP (u : Str) : Bool := u[u.length - 1]? == some 13
def zcJ (k L : Int) (u : Str) (frm : Nat) (g : api_Head) (c : UInt8) : StepR :=
 if decide (L ≤ (u.length : Int)) then ⟨false, 3, u, frm, g⟩
 else if !((c == 10) == ziP u) then ⟨false, 24, u ++ [c], frm, g⟩
 else if !(c == 10) then ⟨false, 0, u ++ [c], frm, g⟩
 else if frm == 0 then ⟨false, (zbO k (zkv u frm)).2, u ++ [c], u.length + 1, g⟩
 else if !(zkv u frm == []) then ⟨false, (zdc (zkv u frm)).2, u ++ [c], u.length + 1, g⟩
 else ⟨(zhf k (u ++ [c]) L).2 == 0, (zhf k (u ++ [c]) L).2, u ++ [c], frm, (zhf k (u ++ [c]) L).1⟩
def zsz (u : Str) (frm : Nat) : Prop := frm ≤ u.length ∧ (0 < u.length → frm = u.length → u[u.length - 1]? = some 10)
theorem zsA {u : Str} (h : ziP u = true) : 0 < u.length ∧ u[u.length - 1]? = some 13 := by
 unfold ziP at h
 have : u[u.length - 1]? = some 13 := by simpa using h
 refine ⟨?_, this⟩
 cases u with
 | nil => cases this
 | cons c u => simp
theorem inv_lt {u : Str} {frm : Nat} (hi : zsz u frm) (h : ziP u = true) : frm ≤ u.length - 1 := by
 obtain ⟨h1, h2⟩ := zsA h
 by_cases he : frm = u.length
 ·have := hi.2 h1 he;rw [h2] at this; cases this
 ·have := hi.1; omega
theorem zyo (k L : Int) (u : Str) (c : UInt8) (f : Int) (t : Bool) (b : Int) (w : Bool) (g : api_Head) (hu : u.length < 80000000) : zdp ⟨k, L, u ++ [c], f, t, b, w, g⟩ = some (!((c == 10) == ziP u)) := by
 have hl : ((u ++ [c]).length : Int) = (u.length : Int) + 1 := by simp
 have j1 : ∀ q, zbf ⟨k, L, u ++ [c], f, t, b, w, g⟩ q = some (!((c == 10) == q)) := by
  intro q;unfold zbf;dsimp only
  have e1 : zdZ ((u ++ [c]).length : Int) 1 = some (u.length : Int) := by rw [hl, zb6 (by omega) (by omega)]; exact congrArg some (by omega)
  rw [e1, yob, zbd, show (u ++ [c])[u.length]? = some c by simp, yob]
 unfold zdp;dsimp only
 by_cases h : 0 < u.length
 ·have e2 : zdZ ((u ++ [c]).length : Int) 2 = some ((u.length - 1 : Nat) : Int) := by rw [hl, zb6 (by omega) (by omega)]; exact congrArg some (by omega)
  have g2 : u[u.length - 1]? = some (u[u.length - 1]'(by omega)) := ygg (by omega)
  have g1 : (u ++ [c])[u.length - 1]? = some (u[u.length - 1]'(by omega)) := by rw [List.getElem?_append_left (by omega), g2]
  rw [ydt (show 1 < ((u ++ [c]).length : Int) by omega), if_pos rfl, e2, yob, zbd, g1, yob, j1];unfold ziP;rw [g2, zoR]
 ·have hu0 : u = [] := List.length_eq_zero_iff.1 (by omega);subst hu0;rw [ydf (by simp), if_neg yfn, j1];rfl
theorem zyp (k L : Int) (v : Str) (f : Nat) (t : Bool) (b : Int) (w : Bool) (g : api_Head) (s : Str) (hv : v.length < 80000000) (hs : s.length < 80000000) :
  zdu ⟨k, L, v, (f : Int), t, b, w, g⟩ s = some (if f == 0 then (false, (zbO k s).2, ⟨k, L, v, (v.length : Int), t, b, w, g⟩) else if !(s == []) then (false, (zdc s).2, ⟨k, L, v, (v.length : Int), t, b, w, g⟩) else ((zhf k v L).2 == 0, (zhf k v L).2, (⟨k, L, v, (f : Int), t, b, w, (zhf k v L).1⟩ : accum_Accum))) := by
 unfold zdu zcf;dsimp only
 have hf : ((f : Int) == 0) = (f == 0) := by rw [Bool.eq_iff_iff]; simp
 rw [hf, zdJ k s (by omega), yob, zfr s (by omega), yob, zpE k v L (by omega), yob];cases f == 0 <;> cases s == [] <;> rfl
theorem zyq (k L : Int) (u : Str) (f : Nat) (t : Bool) (b : Int) (w : Bool) (g : api_Head) (c : UInt8) (hu : u.length < 70000000) (hi : zsz u f) :
  zcr ⟨k, L, u, (f : Int), t, b, w, g⟩ c = some ((zcJ k L u f g c).w, (zcJ k L u f g c).e, ⟨k, L, (zcJ k L u f g c).v, ((zcJ k L u f g c).f : Int), t, b, w, (zcJ k L u f g c).g⟩) := by
 unfold zcr zcJ;dsimp only
 cases decide (L ≤ (u.length : Int)) with
 | true => rfl
 | false =>
  rw [if_neg yfn, if_neg yfn, if_pos (zcn (by omega) (by omega)), zyo k L u c _ _ _ _ _ (by omega), yob]
  cases hb : !((c == 10) == ziP u) with
  | true => rfl
  | false =>
   rw [if_neg yfn, if_neg yfn]
   cases hc : c == 10 with
   | false => rfl
   | true =>
    rw [hc] at hb
    have h13 : ziP u = true := by cases h : ziP u with
     | true => rfl
     | false => rw [h] at hb; cases hb
    obtain ⟨hp, _⟩ := zsA h13;have hf := inv_lt hi h13
    have hl : ((u ++ [c]).length : Int) = (u.length : Int) + 1 := by simp
    have e2 : zdZ ((u ++ [c]).length : Int) 2 = some ((u.length - 1 : Nat) : Int) := by rw [hl, zb6 (by omega) (by omega)]; exact congrArg some (by omega)
    have e3 : lSub (u ++ [c]) (f : Int) ((u.length - 1 : Nat) : Int) = some (zkv u f) := by
     have := zg3 (l := u ++ [c]) (i := f) (h := u.length - 1) hf (by simp; omega);have hta : (u ++ [c]).take (u.length - 1) = u.take (u.length - 1) := List.take_append_of_le_length (by omega);unfold zke at this;unfold lSub zkv;rw [← hta];exact this
    have hll : (zkv u f).length ≤ u.length := by unfold zkv; simp; omega
    rw [ynt, if_neg yfn, if_neg yfn, e2, yob, e3, yob, zyp k L _ f t b w g _ (by simp; omega) (by omega), yob]
    have hn : (u ++ [c]).length = u.length + 1 := by simp
    rw [hn];cases f == 0 <;> cases zkv u f == [] <;> rfl
theorem zyr {k L : Int} {u : Str} {f : Nat} {g : api_Head} {c : UInt8} (hi : zsz u f) (hw : ((zcJ k L u f g c).w || !((zcJ k L u f g c).e == 0)) = false) :
  (zcJ k L u f g c).v = u ++ [c] ∧ (zcJ k L u f g c).g = g ∧ zsz (u ++ [c]) (zcJ k L u f g c).f ∧ (u.length : Int) < L := by
 have key : ∀ f', f' ≤ u.length → zsz (u ++ [c]) f' := fun f' h => ⟨by simp; omega, fun _ h2 => by simp at h2; omega⟩;have key2 : c = 10 → zsz (u ++ [c]) (u.length + 1) := fun h => ⟨by simp, fun _ _ => by rw [h]; simp⟩;unfold zcJ at hw ⊢
 cases hL : decide (L ≤ (u.length : Int)) with
 | true => rw [hL, if_pos rfl] at hw; cases hw
 | false =>
  have hL' : (u.length : Int) < L := by have := of_decide_eq_false hL; omega
  rw [hL, if_neg yfn] at hw;rw [if_neg yfn]
  cases hb : !((c == 10) == ziP u) with
  | true => rw [hb, if_pos rfl] at hw; cases hw
  | false =>
   rw [hb, if_neg yfn] at hw;rw [if_neg yfn]
   cases hc : c == 10 with
   | false => exact ⟨rfl, rfl, key f hi.1, hL'⟩
   | true =>
    have hc' : c = 10 := by simpa using hc
    rw [hc, ynt, if_neg yfn] at hw;rw [ynt, if_neg yfn]
    cases h0 : f == 0 with
    | true => exact ⟨rfl, rfl, key2 hc', hL'⟩
    | false =>
     rw [h0, if_neg yfn] at hw;rw [if_neg yfn]
     cases hl : !(zkv u f == []) with
     | true => exact ⟨rfl, rfl, key2 hc', hL'⟩
     | false =>
      rw [hl, if_neg yfn] at hw
      exfalso
      dsimp only at hw
      cases hh : (zhf k (u ++ [c]) L).2 == 0 with
      | true => rw [hh] at hw; cases hw
      | false => rw [hh] at hw; cases hw
def zha (k L : Int) (g : api_Head) : Str → Str → Nat → Nat → Option (Nat × StepR) × Nat
 | [], _, f, _ => (none, f)
 | c :: r, u, f, i => if (zcJ k L u f g c).w || !((zcJ k L u f g c).e == 0) then (some (i + 1, zcJ k L u f g c), f) else zha k L g r (u ++ [c]) (zcJ k L u f g c).f (i + 1)
def zmv (k L : Int) (g : api_Head) (u : Str) (f : Nat) (t : Bool) (s : Str) : Int × Bool × Int × accum_Accum := match zha k L g s u f 0 with
 | (some z, _) => ((z.1 : Int), z.2.w, z.2.e, ⟨k, L, [], (z.2.f : Int), true, z.2.e, z.2.w, z.2.g⟩)
 | (none, f') => ((s.length : Int), false, 0, ⟨k, L, u ++ s, (f' : Int), t || !(s == []), 0, false, g⟩)
theorem zpe (k L : Int) (g : api_Head) (s : Str) (hs : s.length < 30000000) : ∀ (r : Str) (n i : Nat) (u : Str) (f : Nat) (t : Bool), s.drop i = r → i ≤ s.length → r.length < n → u.length + r.length < 60000000 → zsz u f →
  zY s n k L u (f : Int) t 0 false g.Kind g.Method g.Target g.Code g.Reason g.Minor g.Fields (i : Int) = some (match zha k L g r u f i with
   | (some z, _) => ((z.1 : Int), z.2.w, z.2.e, ⟨k, L, [], (z.2.f : Int), true, z.2.e, z.2.w, z.2.g⟩)
   | (none, f') => ((s.length : Int), false, 0, ⟨k, L, u ++ r, (f' : Int), t || !(r == []), 0, false, g⟩))
 | [], n, i, u, f, t, hd, hi, hn, hu, hv => by
  obtain ⟨n, rfl⟩ : ∃ m, n = m + 1 := ⟨n - 1, by simp at hn; omega⟩
  have : i = s.length := by have := congrArg List.length hd; simp at this; omega
  subst this;rw [zY, ydf (by omega), if_neg yfn];unfold zdk zha;dsimp only;rw [yan, show (([] : Str) == []) = true from rfl, ynt, Bool.or_false]
 | c :: r, n, i, u, f, t, hd, hi, hn, hu, hv => by
  simp only [ylc] at hn hu;obtain ⟨n, rfl⟩ : ∃ m, n = m + 1 := ⟨n - 1, by omega⟩;obtain ⟨hlt, hdr⟩ := zmC hd
  have hg : s[i]? = some c := by have := congrArg (·[0]?) hd; simpa using this
  have ht := zyq k L u f true 0 false g c (by omega) hv;rw [zY, ydt (by omega), if_pos rfl, zil, hg, yob];show ((zcr ⟨k, L, u, (f : Int), true, 0, false, g⟩ c).bind _) = _;rw [ht, yob, zha];have hon := fun h => zyr (k := k) (L := L) (g := g) (c := c) hv h;generalize zcJ k L u f g c = q at hon;obtain ⟨qw, qe, qv, qf, qg⟩ := q;dsimp only at hon ⊢;unfold zcg;dsimp only
  cases qw with
  | true =>
   rw [Bool.true_or, if_pos rfl, if_pos rfl, if_pos rfl, zM (by omega), yob]
  | false =>
   cases h0 : qe == 0 with
   | false =>
    rw [Bool.false_or, ynf, if_pos rfl, if_neg yfn, if_pos rfl, zM (by omega), yob]
   | true =>
    have he : qe = 0 := by simpa using h0
    subst he;obtain ⟨h1, h2, h3, _⟩ := hon (by rfl);subst h1;subst h2;rw [Bool.false_or, ynt, if_neg yfn, if_neg yfn, if_neg yfn, zM (by omega), yob];have ih := zpe k L qg s hs r n (i + 1) (u ++ [c]) qf true hdr (by omega) (by omega) (by simp; omega) h3;rw [ih]
    have e1 : u ++ [c] ++ r = u ++ c :: r := by simp
    have e2 : ((true : Bool) || !(r == [])) = (t || !((c :: r : Str) == [])) := by
     have : ((c :: r : Str) == []) = false := rfl;rw [this]; cases t <;> rfl
    rw [e1, e2]
theorem zys (k L : Int) (g : api_Head) (u : Str) (f : Nat) (t : Bool) (s : Str) (hs : s.length < 30000000) (hu : u.length < 30000000) (hi : zsz u f) : zcs ⟨k, L, u, (f : Int), t, 0, false, g⟩ s = some (zmv k L g u f t s) := by
 unfold zcs zch;exact zpe k L g s hs s fuel 0 u f t rfl (yz _) (by unfold fuel; omega) (by omega) hi
theorem zsB (k L : Int) (g : api_Head) (y : Str) : ∀ (x u : Str) (f i : Nat), zha k L g (x ++ y) u f i = match zha k L g x u f i with
  | (some z, f') => (some z, f')
  | (none, f') => zha k L g y (u ++ x) f' (i + x.length)
 | [], u, f, i => by rw [yna, zha]; simp
 | c :: x, u, f, i => by
  rw [List.cons_append, zha, zha]
  split
  ·rfl
  ·rw [zsB k L g y x, yaa, List.singleton_append, ylc, show i + 1 + x.length = i + (x.length + 1) by omega]
def zxj (a : accum_Accum) : api_Head × Bool := if a.f_whole then (a.f_got, true) else (zaB, false)
theorem zyt (a : accum_Accum) (h : a.f_got.Fields.length < 1000000) : zct a = some (zxj a) := by
 unfold zct zxj
 cases a.f_whole with
 | false => rfl
 | true => rw [ynt, if_neg yfn, if_pos rfl, if_pos (zcn (by omega) (by omega))]

end Go.Dm
end
section
namespace Go.Dm
theorem zlM {s : Str} {l : List Str} (h : zhR s = some l) : l.length ≤ s.length + 1 ∧ ∀ x ∈ l, x.length ≤ s.length := by
 unfold zhR at h;obtain ⟨m, hm, rfl⟩ := Option.map_eq_some_iff.1 h
 have key : ∀ (s : Str) (k : Nat) (cur : Str) (m : List Str), zht k cur s = some m → m.length ≤ s.length + 1 ∧ ∀ x ∈ m, x.length ≤ cur.length + s.length := by
  intro s
  induction s with
  | nil => intro k cur m h; rw [zss] at h; cases h; simp
  | cons c r ih =>
   intro k cur m h
   have one : ∀ k, zht k (cur ++ [c]) r = some m → m.length ≤ (c :: r).length + 1 ∧ ∀ x ∈ m, x.length ≤ cur.length + (c :: r).length := fun k h => by
    have := ih k _ m h
    simp only [ylc, yla, yln] at *
    exact ⟨by omega, fun x hx => by have := this.2 x hx; omega⟩
   cases k with
   | succ k => exact one k h
   | zero =>
    cases h1 : (c == 34 || c == 40) with
    | true =>
     rw [zt2 cur r h1] at h
     split at h
     ·cases h
     ·exact one _ h
    | false =>
     cases h2 : c == 44 with
     | true =>
      have : c = 44 := by simpa using h2
      subst this;rw [zo4] at h;obtain ⟨m', hm', rfl⟩ := Option.map_eq_some_iff.1 h;have := ih 0 [] m' hm'
      simp only [ylc, yln] at *
      refine ⟨by omega, fun x hx => ?_⟩
      rcases List.mem_cons.1 hx with rfl | hx
      ·omega
      ·have := this.2 x hx; omega
     | false => rw [zst cur r h1 h2] at h; exact one 0 h
 have := key s 0 [] m hm;unfold elems;refine ⟨?_, fun x hx => ?_⟩
 ·have h1 := List.length_filter_le (fun x : Str => !(x == [])) (m.map zdO);rw [List.length_map] at h1;omega
 ·have h1 := (List.mem_filter.1 hx).1;obtain ⟨y, hy, rfl⟩ := List.mem_map.1 h1;have := this.2 y hy;have := zra y
  simp at *
  omega
end Go.Dm
end
section
namespace Go.Dm
def zrz : List Str → List Str → List Str × Int
 | [], out => (out, 0)
 | v :: vs, out => match zhR v with
  | none => ([], 2)
  | some l => if l.all zfJ then zrz vs (out ++ l) else ([], 2)
theorem zrA (rec1 : List Str → Int → Option (List Str × Int)) (l6 : List Str) (i7 : Nat) (l : List Str) (e : Int) (hl : l.length < 1000000000) (hx : ∀ x ∈ l, x.length < 900000000) (h6 : (l6.length + l.length) * 16 ≤ 140737488355328) (h7 : i7 < 1000000000) :
  zbC rec1 l6 (i7 : Int) (l, e) fuel 0 = if l.all zfJ then rec1 (l6 ++ l) ((i7 + 1 : Nat) : Int) else some ([], 2) := by
 have key : ∀ (n i : Nat), i ≤ l.length → l.length - i < n → zbC rec1 l6 (i7 : Int) (l, e) n (i : Int) = if (l.drop i).all zfJ then rec1 (l6 ++ l) ((i7 + 1 : Nat) : Int) else some ([], 2) := by
  intro n
  induction n with
  | zero => intro i _ h; omega
  | succ n ih =>
   intro i hi h;rw [zbC]
   by_cases hlt : i < l.length
   ·have g : l[i]? = some l[i] := ygg hlt;have hxl := hx l[i] (ygm _);dsimp only;rw [ydt (show (i : Int) < (l.length : Int) by omega), if_pos rfl, zbd, g, yob, zkF _ (by omega), yob, zM (by omega), yob, ih (i + 1) (by omega) (by omega), ydg hlt, List.all_cons];cases zfJ l[i] <;> rfl
   ·have : i = l.length := by omega
    subst this;dsimp only;rw [ydf (by omega), if_neg (by decide), if_pos (zcn h6 (by omega)), zM (by omega), yob, ydl];rfl
 have := key fuel 0 (yz _) (by unfold fuel; omega);rw [List.drop_zero] at this;exact this
theorem znn (vs : List Str) (hn : vs.length ≤ 1000) (hv : ∀ v ∈ vs, v.length < 400000) : zfb vs = some (zrz vs []) := by
 unfold zfb
 have key : ∀ (n i : Nat) (out : List Str), i ≤ vs.length → vs.length - i < n → out.length ≤ i * 400001 → zbD vs n out (i : Int) = some (zrz (vs.drop i) out) := by
  intro n
  induction n with
  | zero => intro i _ _ h; omega
  | succ n ih =>
   intro i out hi h ho;rw [zbD]
   by_cases hlt : i < vs.length
   ·have g : vs[i]? = some vs[i] := ygg hlt;have hvl := hv vs[i] (ygm _);rw [ydt (show (i : Int) < (vs.length : Int) by omega), if_pos rfl, zbd, g, yob, zjF _ (by omega), yob, ydg hlt, zrz];unfold zrp
    cases hs : zhR vs[i] with
    | none => rfl
    | some l =>
     have hm := zlM hs;dsimp only;rw [if_neg (by decide), zrA _ _ _ l 0 (by omega) (fun x hx => by have := hm.2 x hx; omega) (by omega) (by omega)]
     cases ha : l.all zfJ with
     | false => rfl
     | true => rw [if_pos rfl, if_pos rfl, ih (i + 1) _ (by omega) (by omega) (by rw [yla]; omega)]
   ·have : i = vs.length := by omega
    subst this;rw [ydf (by omega), if_neg (by decide), ydl];rfl
 have := key fuel 0 [] (yz _) (by unfold fuel; omega) (by simp);rw [List.drop_zero] at this;exact this
abbrev ziU : Int := 1099511627776
def zpY : Int → List Str → Option Int
 | i, [] => some i
 | i, t :: ts => if (za1 10 t ziU).2 == 0 then (if decide (0 ≤ i) && !((za1 10 t ziU).1 == i) then none else zpY (za1 10 t ziU).1 ts) else none
def zrB : Int → List Str → Option Int
 | i, [] => some i
 | i, v :: vs => match zhR v with
  | none => none
  | some l => match zpY i l with
   | none => none
   | some k => zrB k vs
def zrC : api_Frame × Int := (⟨0, 0⟩, 28)
def lenR (o : Option Int) : api_Frame × Int := match o with
 | none => zrC
 | some i => if i < 0 then zrC else (⟨2, i⟩, 0)
theorem zpZ (rec1 : Int → Int → Option (api_Frame × Int)) (i7 : Nat) (l : List Str) (e : Int) (k : Int) (hl : l.length < 1000000000) (hx : ∀ x ∈ l, x.length < 900000000) (h7 : i7 < 1000000000) :
  zp rec1 (i7 : Int) (l, e) fuel k 0 = match zpY k l with | none => some zrC | some j => rec1 j ((i7 + 1 : Nat) : Int) := by
 have key : ∀ (n i : Nat) (k : Int), i ≤ l.length → l.length - i < n → zp rec1 (i7 : Int) (l, e) n k (i : Int) = match zpY k (l.drop i) with | none => some zrC | some j => rec1 j ((i7 + 1 : Nat) : Int) := by
  intro n
  induction n with
  | zero => intro i _ _ h; omega
  | succ n ih =>
   intro i k hi h;rw [zp]
   by_cases hlt : i < l.length
   ·have g : l[i]? = some l[i] := ygg hlt;have hxl := hx l[i] (ygm _)
    have hj : ∀ b : Bool, zT (zp rec1 (i7 : Int) (l, e) n) (i : Int) (za1 10 l[i] ziU) b = if b then some zrC else (match zpY (za1 10 l[i] ziU).1 (l.drop (i + 1)) with | none => some zrC | some j => rec1 j ((i7 + 1 : Nat) : Int)) := by
     intro b;unfold zT;rw [zM (by omega), yob, ih (i + 1) _ (by omega) (by omega)];rfl
    dsimp only;rw [ydt (show (i : Int) < (l.length : Int) by omega), if_pos rfl, zbd, g, yob, zdX _ _ (by omega) (by decide) (by decide), yob, hj, hj, hj, ydg hlt, zpY]
    cases (za1 10 l[i] ziU).2 == 0 with
    | false => rfl
    | true =>
     cases decide (0 ≤ k) with
     | false => rfl
     | true => cases (za1 10 l[i] ziU).1 == k <;> rfl
   ·have : i = l.length := by omega
    subst this;dsimp only;rw [ydf (by omega), if_neg (by decide), zM (by omega), yob, ydl];rfl
 have := key fuel 0 k (yz _) (by unfold fuel; omega);rw [List.drop_zero] at this;exact this
theorem ztI (r : length_reader) (vs : List Str) (hn : vs.length ≤ 1000) (hv : ∀ v ∈ vs, v.length < 400000) : zbu r vs = some (lenR (zrB (-1) vs)) := by
 unfold zbu
 have key : ∀ (n i : Nat) (k : Int), i ≤ vs.length → vs.length - i < n → zG vs n k (i : Int) = some (lenR (zrB k (vs.drop i))) := by
  intro n
  induction n with
  | zero => intro i _ _ h; omega
  | succ n ih =>
   intro i k hi h;rw [zG]
   by_cases hlt : i < vs.length
   ·have g : vs[i]? = some vs[i] := ygg hlt;have hvl := hv vs[i] (ygm _);rw [ydt (show (i : Int) < (vs.length : Int) by omega), if_pos rfl, zbd, g, yob, zjF _ (by omega), yob, ydg hlt, zrB];unfold zrp
    cases hs : zhR vs[i] with
    | none => rfl
    | some l =>
     have hm := zlM hs;dsimp only;rw [if_neg (by decide), zpZ _ _ l 0 k (by omega) (fun x hx => by have := hm.2 x hx; omega) (by omega)]
     cases zpY k l with
     | none => rfl
     | some j => exact ih (i + 1) j (by omega) (by omega)
   ·have : i = vs.length := by omega
    subst this;rw [ydf (by omega), if_neg (by decide), ydl, zrB, lenR]
    by_cases hk : k < 0
    ·rw [ydt hk, if_pos rfl, if_pos hk]; rfl
    ·rw [ydf hk, if_neg (by decide), if_neg hk]
 have := key fuel 0 (-1) (yz _) (by unfold fuel; omega);rw [List.drop_zero] at this;exact this
def zmL : List Str → Option (List Int)
 | [] => some []
 | t :: ts => if (za1 10 t ziU).2 == 0 then (zmL ts).map fun ns => (za1 10 t ziU).1 :: ns else none
def zpx : List Str → Option (List Int)
 | [] => some []
 | v :: vs => match zhR v with
  | none => none
  | some l => match zmL l with
   | none => none
   | some a => (zpx vs).map fun b => a ++ b
def zjr : Option (List Int) → api_Frame × Int
 | none => zrC
 | some [] => zrC
 | some (n :: ns) => if ns.all (fun m => m == n) then (⟨2, n⟩, 0) else zrC
def zim : Int → List Int → Option Int
 | i, [] => some i
 | i, n :: ns => if decide (0 ≤ i) && !(n == i) then none else zim n ns
theorem ztJ : ∀ (l : List Str) (i : Int), (zmL l = none ∧ zpY i l = none) ∨ ∃ ns, zmL l = some ns ∧ (∀ n ∈ ns, 0 ≤ n) ∧ zpY i l = zim i ns := by
 intro l
 induction l with
 | nil => intro i; exact .inr ⟨[], rfl, (fun n h => by cases h), rfl⟩
 | cons t ts ih =>
  intro i;rw [zmL, zpY]
  cases h : (za1 10 t ziU).2 == 0 with
  | false => exact .inl ⟨rfl, rfl⟩
  | true =>
   have h0 := (zo5 (b := 10) (s := t) (most := ziU) (by simpa using h) (by decide)).1;rw [if_pos rfl, if_pos rfl]
   rcases ih (za1 10 t ziU).1 with ⟨q1, q2⟩ | ⟨ns, q1, q2, q3⟩
   ·left
    rw [q1, q2];refine ⟨rfl, ?_⟩
    split <;> rfl
   ·right
    refine ⟨(za1 10 t ziU).1 :: ns, by rw [q1]; rfl, fun n hn => ?_, by rw [zim, q3]⟩
    rcases List.mem_cons.1 hn with rfl | hn
    ·exact h0
    ·exact q2 n hn
theorem zvj : ∀ (a b : List Int) (i : Int), zim i (a ++ b) = match zim i a with | none => none | some k => zim k b := by
 intro a
 induction a with
 | nil => intro b i; rfl
 | cons n ns ih =>
  intro b i;rw [List.cons_append, zim, zim]
  split
  ·rfl
  ·exact ih b n
theorem ztK : ∀ (vs : List Str) (i : Int), (zpx vs = none ∧ zrB i vs = none) ∨ ∃ ns, zpx vs = some ns ∧ (∀ n ∈ ns, 0 ≤ n) ∧ zrB i vs = zim i ns := by
 intro vs
 induction vs with
 | nil => intro i; exact .inr ⟨[], rfl, (fun n h => by cases h), rfl⟩
 | cons v vs ih =>
  intro i;rw [zpx, zrB]
  cases hs : zhR v with
  | none => exact .inl ⟨rfl, rfl⟩
  | some l =>
   dsimp only
   rcases ztJ l i with ⟨q1, q2⟩ | ⟨a, q1, q2, q3⟩
   ·left; rw [q1, q2]; exact ⟨rfl, rfl⟩
   ·rw [q1, q3];dsimp only
    cases hv : zpx vs with
    | none =>
     left
     refine ⟨rfl, ?_⟩
     cases zim i a with
     | none => rfl
     | some k =>
      rcases ih k with ⟨_, r2⟩ | ⟨ns, r1, _, _⟩
      ·exact r2
      ·rw [hv] at r1; cases r1
    | some b =>
     right
     have hb : ∀ n ∈ b, 0 ≤ n := by
      rcases ih 0 with ⟨r1, _⟩ | ⟨ns, r1, r2, _⟩
      ·rw [hv] at r1; cases r1
      ·rw [hv] at r1; cases r1; exact r2
     refine ⟨a ++ b, rfl, fun n hn => (List.mem_append.1 hn).elim (q2 n) (hb n), ?_⟩;rw [zvj]
     cases zim i a with
     | none => rfl
     | some k =>
      rcases ih k with ⟨r1, _⟩ | ⟨ns, r1, _, r3⟩
      ·rw [hv] at r1; cases r1
      ·rw [hv] at r1; cases r1; exact r3
theorem zvk : ∀ (ns : List Int) (n : Int), 0 ≤ n → (∀ m ∈ ns, 0 ≤ m) → zim n ns = if ns.all (fun m => m == n) then some n else none := by
 intro ns
 induction ns with
 | nil => intro n _ _; rfl
 | cons m ns ih =>
  intro n hn h;rw [zim, ydt hn, Bool.true_and, List.all_cons]
  cases hm : m == n with
  | false => rfl
  | true =>
   have e : m = n := by simpa using hm
   subst e;rw [ynt, if_neg yfn, ih m hn (fun x hx => h x (List.mem_cons_of_mem _ hx)), Bool.true_and]
theorem zvl (vs : List Str) : lenR (zrB (-1) vs) = zjr (zpx vs) := by
 rcases ztK vs (-1) with ⟨q1, q2⟩ | ⟨ns, q1, q2, q3⟩
 ·rw [q1, q2]; rfl
 ·rw [q1, q3]
  cases ns with
  | nil => rfl
  | cons n ns =>
   have hn := q2 n (List.mem_cons_self ..);rw [zim, show decide ((0 : Int) ≤ -1) = false from rfl, Bool.false_and, if_neg yfn, zvk ns n hn (fun m hm => q2 m (List.mem_cons_of_mem _ hm)), zjr]
   cases ns.all (fun m => m == n) with
   | false => rfl
   | true =>
    rw [if_pos rfl, if_pos rfl, lenR]
    try dsimp only
    rw [if_neg (by omega)]
def zmM : Str := [116, 114, 97, 110, 115, 102, 101, 114, 45, 101, 110, 99, 111, 100, 105, 110, 103]
def zlp : Str := [99, 111, 110, 116, 101, 110, 116, 45, 108, 101, 110, 103, 116, 104]
def zhj (l : List api_Field) (nm : Str) : List Str := (l.filter (isN nm)).map (·.Value)
def zpy : Str := [99, 104, 117, 110, 107, 101, 100]
def zjs (m : Int) (te : List Str) : api_Frame × Int :=
 if ((zrz te []).2 == 0) && !(m == 0) then (match (zrz te []).1 with
  | [x] => if low x == zpy then (⟨3, 0⟩, 0) else (⟨0, 0⟩, 30)
  | _ => (⟨0, 0⟩, 30)) else (⟨0, 0⟩, 30)
def zkI (h : api_Head) (k : Int) : api_Frame × Int :=
 if (zhj h.Fields zmM) == [] then (if (zhj h.Fields zlp) == [] then (⟨k, 0⟩, 0) else zjr (zpx (zhj h.Fields zlp)))
 else if (zhj h.Fields zlp) == [] then zjs h.Minor (zhj h.Fields zmM) else (⟨0, 0⟩, 29)
theorem zxs {B : Nat} : ∀ (vs : List Str) (out : List Str), (∀ v ∈ vs, v.length ≤ B) → (∀ x ∈ out, x.length ≤ B) → ∀ x ∈ (zrz vs out).1, x.length ≤ B := by
 intro vs
 induction vs with
 | nil => intro out _ ho; exact ho
 | cons v vs ih =>
  intro out h ho;rw [zrz]
  cases hs : zhR v with
  | none => intro x hx; cases hx
  | some l =>
   have hm := zlM hs;have hv := h v (List.mem_cons_self ..);dsimp only
   split
   ·refine ih _ (fun x hx => h x (List.mem_cons_of_mem _ hx)) fun x hx => ?_
    rcases List.mem_append.1 hx with hx | hx
    ·exact ho x hx
    ·have := hm.2 x hx; omega
   ·intro x hx; cases hx
theorem zvm (r : length_reader) (vs : List Str) (hn : vs.length ≤ 1000) (hv : ∀ v ∈ vs, v.length < 400000) : zbU r vs = some (zjs r.f_minor vs) := by
 have ht := znn vs hn hv;have hb := zxs (B := 400000) vs [] (fun v h => Nat.le_of_lt (hv v h)) (fun x h => by cases h);unfold zbU zjs;rw [ht, yob];generalize zrz vs [] = q at hb;obtain ⟨l, e⟩ := q;dsimp only at hb ⊢
 cases h0 : e == 0 with
 | false => rfl
 | true =>
  cases hm : r.f_minor == 0 with
  | true => rfl
  | false =>
   rw [ynt, if_neg yfn, if_neg yfn, ynf, Bool.and_true, if_pos rfl]
   match l, hb with
   | [], _ => rfl
   | [x], hb =>
    have hx := hb x (by simp);rw [show (!((([x] : List Str).length : Int) == 1)) = false from rfl, if_neg yfn, zsR, List.getElem?_cons_zero, yob, zli _ _ (by omega) (by decide), yob, show low ([99, 104, 117, 110, 107, 101, 100] : Str) = zpy from by decide];unfold z6;dsimp only;cases low x == zpy <;> rfl
   | x :: y :: l, _ =>
    have : (!(((x :: y :: l).length : Int) == 1)) = true := by simp; omega
    rw [this];rfl
theorem zpz {k : List api_Field} {B : Nat} (h1 : k.length ≤ 1000) (h2 : zbq B k) (nm : Str) : (zhj k nm).length ≤ 1000 ∧ ∀ v ∈ zhj k nm, v.length < B := by
 unfold zhj;refine ⟨?_, fun v hv => ?_⟩
 ·rw [List.length_map];have := List.length_filter_le (isN nm) k;omega
 ·obtain ⟨f, hf, rfl⟩ := List.mem_map.1 hv;exact (h2 f (List.mem_filter.1 hf).1).2
theorem zud (l : List Str) : decide (0 < (l.length : Int)) = !(l == []) := by
 cases l with
 | nil => rfl
 | cons x l => simp <;> omega
theorem zmN (h : api_Head) (k : Int) (hl : h.Fields.length ≤ 1000) (hf : zbq 400000 h.Fields) : zhw h k = some (zkI h k) := by
 have e1 : isN ([84, 114, 97, 110, 115, 102, 101, 114, 45, 69, 110, 99, 111, 100, 105, 110, 103] : Str) = isN zmM := by
  funext f; unfold isN
  rw [show low ([84, 114, 97, 110, 115, 102, 101, 114, 45, 69, 110, 99, 111, 100, 105, 110, 103] : Str) = low zmM from by decide]
 have e2 : isN ([67, 111, 110, 116, 101, 110, 116, 45, 76, 101, 110, 103, 116, 104] : Str) = isN zlp := by
  funext f; unfold isN
  rw [show low ([67, 111, 110, 116, 101, 110, 116, 45, 76, 101, 110, 103, 116, 104] : Str) = low zlp from by decide]
 have b1 := zpz hl hf zmM;have b2 := zpz hl hf zlp;unfold zhw zkT;rw [zoV _ (by omega), yob, yob, zio _ _ (by decide) (by omega) (zW (by decide) hf), yob, zio _ _ (by decide) (by omega) (zW (by decide) hf), yob, e1, e2];unfold zkI;show (if decide (0 < ((zhj h.Fields zmM).length : Int)) = true then zdS h k ⟨h.Fields⟩ (zhj h.Fields zmM) (zhj h.Fields zlp) (decide (0 < ((zhj h.Fields zlp).length : Int))) else zdS h k ⟨h.Fields⟩ (zhj h.Fields zmM) (zhj h.Fields zlp) false) = _;unfold zdS;rw [zvm _ _ b1.1 b1.2, ztI _ _ b2.1 b2.2, zvl, zud, zud, yob, yob];cases zhj h.Fields zmM == [] <;> cases zhj h.Fields zlp == [] <;> rfl
def zrD (m : Str) (c : Int) : Bool := (m == [72, 69, 65, 68]) || decide (c < 200) || (c == 204) || (c == 304) || ((m == [67, 79, 78, 78, 69, 67, 84]) && decide (c < 300))
def zdH (m : Str) (h : api_Head) : api_Frame × Int :=
 if h.Kind == 1 then zkI h 1 else if zrD m h.Code then (⟨1, 0⟩, 0) else zkI h 4
theorem ziV (m : Str) (h : api_Head) (hl : h.Fields.length ≤ 1000) (hf : zbq 400000 h.Fields) : zdf m h = some (zdH m h) := by
 have hb : zd4 m h.Code = some (zrD m h.Code) := by
  unfold zd4 zac zrD;cases m == [72, 69, 65, 68] <;> cases decide (h.Code < 200) <;> cases h.Code == 204 <;> cases h.Code == 304 <;> cases m == [67, 79, 78, 78, 69, 67, 84] <;> rfl
 unfold zdf zdH zfW zfm;rw [zmN h 1 hl hf, zmN h 4 hl hf, hb]
 cases h.Kind == 1 with
 | true => rfl
 | false => cases zrD m h.Code <;> rfl
end Go.Dm
end
section
namespace Go.Dm
theorem zsc : ∀ (g m n : Nat), g ≤ m → n < 16 ^ (g + 1) → zjf g n = zm (zgl 16 m n)
 | 0, m, n, _, hn => by
  have hn : n < 16 := hn
  cases m with
  | zero => rw [zjf, zgl, Nat.mod_eq_of_lt hn]; rfl
  | succ m => rw [zjf, zgl, if_pos hn]; rfl
 | g + 1, m, n, h, hn => by
  obtain ⟨m, rfl⟩ : ∃ k, m = k + 1 := ⟨m - 1, by omega⟩;rw [zjf, zgl]
  by_cases h16 : n < 16
  ·rw [if_pos h16, if_pos h16]; rfl
  ·have hd : n / 16 < 16 ^ (g + 1) := by rw [Nat.pow_succ] at hn; omega
   rw [if_neg h16, if_neg h16, zsc g m (n / 16) (by omega) hd];unfold zm;rw [List.map_append];rfl
theorem ztj (n : Nat) (hn : n < 1048576) : zeD (n : Int) = some (zm (digs 16 n)) := by
 unfold zeD zfo zeN zcV;rw [ydf (show ¬ ((n : Int) < 0) by omega), if_neg yfn, if_neg (show ¬ (inI (n : Int) = true ∧ (16 : Int) = 10) by omega), if_pos ⟨rfl, by omega, by omega⟩, yob, yob, yob, Int.toNat_natCast, zsc 4 70 n (by decide) (by omega)];rfl
theorem zq3 (n : Nat) (hn : n < 1048576) : (zm (digs 16 n)).length ≤ 71 := by
 unfold zm;rw [List.length_map];exact zsJ (by decide) _ (by omega)
def zg6 (d : Str) : Str := if d == [] then [] else zm (digs 16 d.length) ++ 13 :: 10 :: (d ++ [13, 10])
theorem zjb (d : Str) (hd : d.length < 1048576) : (zg6 d).length ≤ d.length + 75 := by
 have := zq3 d.length hd;unfold zg6
 split
 ·simp
 ·simp only [yla, ylc, yln]; omega
theorem zsd (d : Str) (hd : d.length < 1048576) : zcQ d = some (zg6 d) := by
 have hl := zq3 d.length hd;unfold zcQ zg6;rw [ztj _ hd]
 cases d == [] with
 | true => rfl
 | false =>
  rw [if_neg yfn, if_neg yfn, yob];unfold zbF strings_Join
  have e : Go.Lib.join [zm (digs 16 d.length), d, []] [13, 10] = zm (digs 16 d.length) ++ 13 :: 10 :: (d ++ [13, 10]) := by
   rw [Go.Lib.join_cons]; simp [Go.Lib.joinTail]
  rw [e, if_pos ⟨by simp, by simp only [yla, ylc, yln]; omega⟩];rfl
def zhD : List api_Field → Int
 | [] => 0
 | f :: fs => if zbv f == 0 then zhD fs else zbv f
def zh5 (l : List api_Field) : Str × Int := if zhD l == 0 then (if 100 < l.length then ([], 3) else (48 :: 13 :: 10 :: zZ l, 0)) else ([], zhD l)
theorem zlD (f : api_Field) (h1 : f.Name.length < 100000000) (h2 : f.Value.length < 100000000) : zbW f = some (if zbv f == 0 then (zF f, 0) else ([], zbv f)) := by
 cases hc : zbv f == 0 with
 | true => exact zh0 f h1 h2 (by simpa using hc)
 | false =>
  unfold zbW;rw [zfp f (by omega) (by omega), yob, hc];rfl
theorem zuG (a : Str) : ∀ (l : List Str), Go.Lib.join (a :: (l ++ [[], []])) [13, 10] = a ++ 13 :: 10 :: ((l.map fun x => x ++ [13, 10]).flatten ++ [13, 10]) := by
 intro l;rw [Go.Lib.join_cons]
 congr 1
 unfold Go.Lib.joinTail
 induction l with
 | nil => rfl
 | cons x l ih =>
  simp only [List.cons_append, List.map_cons, List.flatten_cons, yaa] at ih ⊢;rw [ih];simp
theorem ztk : ∀ l : List api_Field, zZ l = ((l.map zF).map fun x => x ++ [13, 10]).flatten ++ [13, 10] := by
 intro l
 induction l with
 | nil => rfl
 | cons f l ih => rw [zZ, ih]; simp
theorem zse : ∀ {l : List api_Field}, (zhD l == 0) = true → ∀ f ∈ l, (zbv f == 0) = true := by
 intro l
 induction l with
 | nil => intro _ f hf; cases hf
 | cons g l ih =>
  intro h f hf;rw [zhD] at h
  cases hg : zbv g == 0 with
  | false => rw [hg, if_neg yfn, hg] at h; cases h
  | true =>
   rw [hg, if_pos rfl] at h
   rcases List.mem_cons.1 hf with rfl | hf
   ·exact hg
   ·exact ih h f hf
theorem ztW (l : List api_Field) (hl : l.length ≤ 200) (hs : zbq 4000 l) : zcH l = some (zh5 l) := by
 have hrl := ziv hs
 have key : ∀ (n i : Nat) (o : List Str), i ≤ l.length → l.length - i < n → o = [48] :: (l.take i).map zF → zb5 l n o (i : Int) =
   if zhD (l.drop i) == 0 then (if 100 < l.length then some ([], 3) else some (48 :: 13 :: 10 :: zZ l, 0)) else some ([], zhD (l.drop i)) := by
  intro n
  induction n with
  | zero => intro i _ _ h; omega
  | succ n ih =>
   intro i o hi h ho
   have hol : o.length = i + 1 := by rw [ho]; simp; omega
   rw [zb5]
   by_cases hlt : i < l.length
   ·have g : l[i]? = some l[i] := ygg hlt;have hsm := hs l[i] (ygm _);rw [ydt (show (i : Int) < (l.length : Int) by omega), if_pos rfl, zbd, g, yob, zlD _ (by omega) (by omega), yob, ydg hlt, zhD]
    cases hc : zbv l[i] == 0 with
    | false =>
     rw [if_neg yfn, if_neg yfn];dsimp only;rw [hc, ynf, if_pos rfl, if_neg yfn]
    | true =>
     rw [if_pos rfl, if_pos rfl];dsimp only;rw [show (!((0 : Int) == 0)) = false from rfl, if_neg yfn, if_pos (zcn (by omega) (by omega)), zM (by omega), yob];exact ih (i + 1) _ (by omega) (by omega) (by rw [ho, List.take_succ_eq_append_getElem hlt, List.map_append]; rfl)
   ·have : i = l.length := by omega
    subst this;rw [ydf (by omega), if_neg yfn, ydl, zhD];rw [show (((0 : Int) == 0)) = true from rfl, if_pos rfl]
    by_cases h100 : 100 < l.length
    ·rw [ydt (by omega), if_pos rfl, if_pos h100]
    ·rw [ydf (by omega), if_neg yfn, if_neg h100, if_pos (zcn (by omega) (by omega))]
     have e : Go.Lib.join (o ++ ([[], []] : List Str)) [13, 10] = 48 :: 13 :: 10 :: zZ l := by
      rw [ho, List.take_length, List.cons_append, zuG, ztk];rfl
     unfold zbF strings_Join;rw [e, if_pos ⟨by rw [yla]; simp; omega, by simp only [ylc]; omega⟩];rfl
 have := key fuel 0 [[48]] (yz _) (by unfold fuel; omega) (by simp);unfold zcH zh5;rw [List.drop_zero] at this;refine this.trans ?_
 cases zhD l == 0 with
 | false => rfl
 | true => by_cases h : 100 < l.length <;> simp [h]
def zd0 : Nat → Nat → Str → Str × Str
 | 0, _, s => ([], s)
 | n + 1, k, s => if k ≤ s.length then (zg6 (s.take k) ++ (zd0 n k (s.drop k)).1, (zd0 n k (s.drop k)).2) else ([], s)
theorem zqi (k : Nat) (hk : 1 ≤ k) : ∀ (n : Nat) (s : Str), s.length ≤ 600 → (zd0 n k s).1.length ≤ 700 * s.length ∧ (zd0 n k s).2.length ≤ s.length := by
 intro n
 induction n with
 | zero => intro s hs; simp [zd0]
 | succ n ih =>
  intro s hs;rw [zd0]
  split
  ·have hp := zjb (s.take k) (by simp; omega);have i1 := ih (s.drop k) (by simp; omega);simp only [yld, ylt, yla] at i1 hp ⊢;omega
  ·simp
theorem zuH (k : Nat) (hk : 1 ≤ k) (hk2 : k ≤ 65536) (t : Bool) : ∀ (n m : Nat) (o : List Str) (s : Str), s.length < n → s.length < m → s.length ≤ 600 → o.length + s.length ≤ 700 → o.flatten.length + 700 * s.length ≤ 500000 →
  zau n o (k : Int) s t = some (o.flatten ++ (zd0 m k s).1, 0, ⟨(k : Int), (zd0 m k s).2, t⟩) := by
 intro n
 induction n with
 | zero => intro m o s h; omega
 | succ n ih =>
  intro m o s hn hm hs ho hf;obtain ⟨m, rfl⟩ : ∃ j, m = j + 1 := ⟨m - 1, by omega⟩;rw [zau, zd0]
  by_cases h : k ≤ s.length
  ·have hp := zjb (s.take k) (by simp; omega);simp only [ylt] at hp;rw [ydt (by omega), if_pos rfl, if_pos h, zeY h, yob, zsd _ (by simp; omega), yob, if_pos (zcn (by omega) (by omega)), zcR h, yob];rw [ih m (o ++ [zg6 (s.take k)]) (s.drop k) (by simp; omega) (by simp; omega) (by simp; omega) (by simp; omega) (by simp only [List.flatten_append, List.flatten_cons, List.flatten_nil, yan, yla, yld]; omega)];simp
  ·rw [ydf (by omega), if_neg yfn, if_neg h];unfold zcm;rw [zps o (by omega) (by omega), yob, yan]
def zoM (size : Int) (b : Str) (tr : List api_Field) : Str × Int :=
 if decide (size < 1) || decide (65536 < size) then ([], 1) else if (zh5 tr).2 == 0 then ((zd0 601 size.toNat b).1 ++ (zg6 (zd0 601 size.toNat b).2 ++ (zh5 tr).1), 0) else ([], (zh5 tr).2)
theorem zqj {l : List api_Field} (hl : l.length ≤ 200) (hs : zbq 4000 l) : (zh5 l).1.length ≤ 2000000 := by
 have := ziv hs;unfold zh5
 split
 ·split
  ·simp
  ·simp only [ylc]; omega
 ·simp
theorem All_eq (size : Int) (b : Str) (tr : List api_Field) (hb : b.length ≤ 600) (hl : tr.length ≤ 200) (hs : zbq 4000 tr) : zgZ size b tr = some (zoM size b tr) := by
 unfold zgZ zib zoM;have bad : ((zeC size true).bind fun r2 => zlH r2.1 (zf3 b tr r2.2) (fun x4 => zdE b tr r2.2 x4.f_size x4.f_buf x4.f_done)) = some ([], 1) := rfl
 by_cases h1 : size < 1
 ·rw [ydt h1, if_pos rfl, bad, Bool.true_or, if_pos rfl]
 ·rw [ydf h1, if_neg yfn, Bool.false_or]
  by_cases h2 : 65536 < size
  ·rw [ydt h2, bad, if_pos rfl]
  ·obtain ⟨k, rfl⟩ : ∃ k : Nat, size = k := ⟨size.toNat, by omega⟩;rw [ydf h2, if_neg yfn, Int.toNat_natCast];show zdE b tr 0 (k : Int) [] false = _;obtain ⟨f1, f2⟩ := zqi k (by omega) 601 b hb;have hp := zjb (zd0 601 k b).2 (by omega);have hll := zqj hl hs;have hput := zuH k (by omega) (by omega) false fuel 601 [] b (by unfold fuel; omega) (by omega) hb (by simp; omega) (by simp; omega);unfold zdE zdl zaK;rw [show (!((0 : Int) == 0)) = false from rfl, if_neg yfn, if_neg yfn, yob];dsimp only;rw [show (!((0 : Int) == 0)) = false from rfl, if_neg yfn, zgb (by simp; omega), yob, yna, hput, yob];unfold zdm zaK;dsimp only;rw [if_neg yfn, yob, show (!((0 : Int) == 0)) = false from rfl, if_neg yfn, ztW tr hl hs, yob]
   cases hz : (zh5 tr).2 == 0 with
   | false =>
    rw [ynf, if_pos rfl, yob, if_neg yfn];dsimp only;rw [hz, ynf, if_pos rfl]
   | true =>
    rw [ynt, if_neg yfn, zsd _ (by omega), yob, zgb (by omega), yob, yob, if_pos rfl];dsimp only;rw [show (!((0 : Int) == 0)) = false from rfl, if_neg yfn, zgb (by simp only [List.flatten_nil, yna, yla]; omega), yob];rfl

end Go.Dm
end
section
namespace Go.Dm
def FL (s : Str) (n : Nat) (o : Str) (d : dechunk_Decoder) (i : Nat) (t : Bool) (e : Int) : Option (Int × Str × Bool × Int × dechunk_Decoder) :=
 zt s n o d.f_limit d.f_at d.f_line d.f_left d.f_sum d.f_spent d.f_trailers (i : Int) t e
def offD (d : dechunk_Decoder) : dechunk_Decoder := ⟨d.f_limit, 4, [], d.f_left, d.f_sum, d.f_spent, d.f_trailers⟩
theorem zoQ (s : Str) (n : Nat) (o : Str) (d : dechunk_Decoder) : FL s (n + 1) o d s.length false 0 = some ((s.length : Int), o, false, 0, d) := by
 unfold FL;rw [zt, ydf (by omega), if_neg yfn];rfl
theorem zx3 (s : Str) (n : Nat) (o : Str) (d : dechunk_Decoder) (i : Nat) : FL s (n + 1) o d i true 0 = some ((i : Int), o, true, 0, offD d) := by
 unfold FL;rw [zt];cases decide ((i : Int) < (s.length : Int)) <;> rfl
theorem zn1 {s : Str} {i k : Nat} {d d' : dechunk_Decoder} {o q : Str} {t : Bool} {e : Int} (n : Nat) (hi : i < s.length) (hl : s.length < 100000000) (ho : o.length < 100000000) (hq : q.length < 100000000) (hk : k < 100000000)
  (hs : zr d (s.drop i) = some ((k : Int), q, t, e, d')) : FL s (n + 1) o d i false 0 = FL s n (o ++ q) d' (i + k) t e := by
 unfold FL;rw [zt, ydt (by omega), if_pos rfl, ynf, if_pos rfl];unfold zao;rw [show ((0 : Int) == 0) = true from rfl, if_pos rfl, zcR (by omega), yob];show ((zr d (s.drop i)).bind _) = _;rw [hs, yob];dsimp only;rw [if_pos (zcn (by omega) (by omega)), zga (by omega), yob]
structure Seg (g : Str) (o : Str) (d : dechunk_Decoder) (o' : Str) (d' : dechunk_Decoder) : Prop where
 go : ∀ (s : Str) (i : Nat) (r : Str), s.length < 100000000 → At s i (g ++ r) → ∃ m, m ≤ g.length ∧ ∀ n, FL s (n + m) o d i false 0 = FL s n o' d' (i + g.length) false 0
 cut : ∀ (s : Str) (i : Nat) (p q : Str), s.length < 100000000 → At s i p → g = p ++ q → q ≠ [] → ∀ n, p.length < n → ∃ o2 d2, FL s n o d i false 0 = some ((s.length : Int), o2, false, 0, d2)
theorem At.end_nil {s : Str} {i : Nat} (h : At s i []) : i = s.length := by have := h.len; simpa using this
theorem Seg.nil (o : Str) (d : dechunk_Decoder) : Seg [] o d o d :=
 ⟨fun s i r _ _ => ⟨0, Nat.le_refl _, fun n => rfl⟩, fun s i p q _ _ h hq => by
  have := (List.append_eq_nil_iff.1 h.symm).2
  exact absurd this hq⟩
theorem Seg.app {a b o o1 o2 : Str} {d d1 d2 : dechunk_Decoder} (h1 : Seg a o d o1 d1) (h2 : Seg b o1 d1 o2 d2) : Seg (a ++ b) o d o2 d2 := by
 constructor
 ·intro s i r hs ha;rw [yaa] at ha;obtain ⟨m, hm, e⟩ := h1.go s i (b ++ r) hs ha
  have ha2 : At s (i + a.length) (b ++ r) := by
   have := ha.next a.length (by simp)
   rwa [List.drop_left] at this
  obtain ⟨m', hm', e'⟩ := h2.go s (i + a.length) r hs ha2;refine ⟨m' + m, by simp; omega, fun n => ?_⟩;rw [← Nat.add_assoc, e, e', yla, Nat.add_assoc]
 ·intro s i p q hs ha hpq hq n hn
  have viaA : ∀ a' : Str, p = a ++ a' → b = a' ++ q → ∃ o2 d2, FL s n o d i false 0 = some ((s.length : Int), o2, false, 0, d2) := by
   intro a' e1 e2;subst e1;obtain ⟨m, hm, e⟩ := h1.go s i a' hs ha
   have ha2 : At s (i + a.length) a' := by
    have := ha.next a.length (by simp)
    rwa [List.drop_left] at this
   rw [yla] at hn;obtain ⟨k, hk⟩ : ∃ k, n = k + m := ⟨n - m, by omega⟩;rw [hk, e];exact h2.cut s _ a' q hs ha2 e2 hq k (by omega)
  rcases List.append_eq_append_iff.1 hpq with ⟨a', e1, e2⟩ | ⟨c', e1, e2⟩
  ·exact viaA a' e1 e2
  ·by_cases hc : c' = []
   ·subst hc;exact viaA [] (by simp at e1 ⊢; exact e1.symm) (by simpa using e2.symm)
   ·exact h1.cut s i p c' hs ha e1 hc n hn
theorem Seg.one {c : UInt8} {o : Str} {d d' : dechunk_Decoder} (ho : o.length < 100000000) (h : ∀ r, zr d (c :: r) = some (1, [], false, 0, d')) : Seg [c] o d o d' := by
 constructor
 ·intro s i r hs ha;have hl := ha.len;have hd := ha.drop;refine ⟨1, by simp, fun n => ?_⟩;have := zn1 (s := s) (i := i) (k := 1) (q := []) (o := o) (d := d) (d' := d') (t := false) (e := 0) n (by simp at hl; omega) hs ho (by simp) (by decide) (by rw [hd]; exact h r);rw [this, yan];rfl
 ·intro s i p q hs ha hpq hq n hn
  cases p with
  | nil =>
   obtain ⟨n, rfl⟩ : ∃ m, n = m + 1 := ⟨n - 1, by simp at hn; omega⟩;rw [ha.end_nil];exact ⟨o, d, zoQ s n o d⟩
  | cons x p =>
   have := congrArg List.length hpq;rw [yla, ylc, ylc, yln] at this;exact absurd (List.length_eq_zero_iff.1 (by omega)) hq
theorem Seg.data {x o : Str} {L lf sm sp : Int} {tr : List api_Field} {ln : Str} (hx : x ≠ []) (hl : lf = (x.length : Int)) (hxm : x.length < 100000000) (ho : o.length < 100000000) : Seg x o ⟨L, 1, ln, lf, sm, sp, tr⟩ (o ++ x) ⟨L, 2, ln, 2, sm, sp, tr⟩ := by
 subst hl;have hxl : 0 < x.length := List.length_pos_iff.2 hx;constructor
 ·intro s i r hs ha;have hlen := ha.len;have hd := ha.drop;rw [yla] at hlen;refine ⟨1, by omega, fun n => ?_⟩;refine zn1 n (by omega) hs ho (by omega) (by omega) ?_;rw [hd];unfold zr zbV zan;dsimp only
  have e1 : min (x.length : Int) ((x ++ r).length : Int) = (x.length : Int) := by rw [yla]; omega
  rw [show ((1 : Int) == 1) = true from rfl, if_pos rfl, e1, zb6 (by omega) (by omega), yob, show (((x.length : Int) - (x.length : Int)) == 0) = true by rw [Int.sub_self]; rfl, if_pos rfl, zeY (by simp), yob, List.take_left, yob]
 ·intro s i p q hs ha hpq hq n hn;have hlen := ha.len;have hd := ha.drop
  by_cases hp : p = []
  ·subst hp;obtain ⟨n, rfl⟩ : ∃ m, n = m + 1 := ⟨n - 1, by simp at hn; omega⟩;rw [ha.end_nil];exact ⟨o, _, zoQ s n o _⟩
  ·have hql : 0 < q.length := List.length_pos_iff.2 hq
   have hle : x.length = p.length + q.length := by rw [hpq, yla]
   have hpl : 0 < p.length := List.length_pos_iff.2 hp;obtain ⟨n, rfl⟩ : ∃ m, n = m + 1 + 1 := ⟨n - 2, by omega⟩;refine ⟨o ++ p, ⟨L, 1, ln, (x.length : Int) - (p.length : Int), sm, sp, tr⟩, ?_⟩
   have := zn1 (s := s) (i := i) (k := p.length) (q := p) (o := o) (d := ⟨L, 1, ln, (x.length : Int), sm, sp, tr⟩) (d' := ⟨L, 1, ln, (x.length : Int) - (p.length : Int), sm, sp, tr⟩) (t := false) (e := 0) (n + 1) (by omega) hs ho (by omega) (by omega) (by
    rw [hd];unfold zr zbV zan;dsimp only
    have e1 : min (x.length : Int) (p.length : Int) = (p.length : Int) := by omega
    have e2 : (((x.length : Int) - (p.length : Int)) == 0) = false := by rw [beq_eq_false_iff_ne]; omega
    rw [show ((1 : Int) == 1) = true from rfl, if_pos rfl, e1, zb6 (by omega) (by omega), yob, e2, if_neg yfn, zeY (Nat.le_refl _), yob, List.take_length, yob])
   rw [this, show i + p.length = s.length by omega];exact zoQ s n _ _
def zhp (a : Int) : Int := if a == 3 then 1 else 0
theorem zmi (L a lf sm sp : Int) (u : Str) (tr : List api_Field) (c : UInt8) (i5 : Int) (hu : u.length < 4098) (h13 : ziP u = false) (hc : (c == 10) = false) (hL : i5 ≤ L) :
  zu ⟨L, a, u, lf, sm, sp, tr⟩ c i5 = some (false, 0, ⟨L, a, u ++ [c], lf, sm, i5, tr⟩) := by
 have j2 : ∀ q, q = false → zU ⟨L, a, u, lf, sm, sp, tr⟩ c i5 q = some (false, 0, ⟨L, a, u ++ [c], lf, sm, i5, tr⟩) := by
  intro q hq;subst hq;unfold zU zai;dsimp only;rw [ydf (show ¬ ((4098 : Int) ≤ (u.length : Int)) by omega), if_neg yfn, ydf (show ¬ (L < i5) by omega), if_neg yfn, hc];rw [show (!((false : Bool) == false)) = false from rfl, if_neg yfn, ynf, if_pos rfl, if_pos (zcn (by omega) (by omega))]
 unfold zu;dsimp only
 by_cases h : 0 < u.length
 ·have g : u[u.length - 1]? = some (u[u.length - 1]'(by omega)) := ygg (by omega)
  have e2 : zdZ (u.length : Int) 1 = some ((u.length - 1 : Nat) : Int) := by rw [zb6 (by omega) (by omega)]; exact congrArg some (by omega)
  rw [ydt (show 0 < (u.length : Int) by omega), if_pos rfl, e2, yob, zbd, g, yob];refine j2 _ ?_;unfold ziP at h13;rw [g] at h13;simpa using h13
 ·rw [ydf (by omega), if_neg yfn];exact j2 _ rfl
theorem zsj (L a lf sm sp : Int) (u : Str) (tr : List api_Field) (c : UInt8) (r : Str) (ha : a = 0 ∨ a = 3) (hu : u.length < 4098) (h13 : ziP u = false) (hc : (c == 10) = false) (hL : sp + zhp a ≤ L) (h0 : 0 ≤ sp) (h1 : sp < 1000000000) :
  zr ⟨L, a, u, lf, sm, sp, tr⟩ (c :: r) = some (1, [], false, 0, ⟨L, a, u ++ [c], lf, sm, sp + zhp a, tr⟩) := by
 have e1 : (a == 1) = false := by rcases ha with rfl | rfl <;> rfl
 have e2 : (a == 2) = false := by rcases ha with rfl | rfl <;> rfl
 have key : zC ⟨L, a, u, lf, sm, sp, tr⟩ c = some (false, 0, ⟨L, a, u ++ [c], lf, sm, sp + zhp a, tr⟩) := by
  unfold zC;dsimp only;unfold zhp at hL ⊢
  cases e3 : a == 3 with
  | true =>
   rw [e3, if_pos rfl] at hL;rw [if_pos rfl, if_pos rfl, zes (by omega) (by omega), yob, zmi L a lf sm sp u tr c (sp + 1) hu h13 hc hL]
  | false =>
   rw [e3, if_neg yfn] at hL;rw [if_neg yfn, if_neg yfn, zmi L a lf sm sp u tr c sp hu h13 hc (by omega), Int.add_zero]
 unfold zr;dsimp only;rw [e1, if_neg yfn, e2, if_neg yfn, zpq, show (c :: r)[0]? = some c from rfl, yob, key, yob]
theorem zm4 (L a lf sm sp : Int) (u : Str) (tr : List api_Field) (c : UInt8) (r : Str) (ha : a = 0 ∨ a = 3) :
  zr ⟨L, a, u, lf, sm, sp, tr⟩ (c :: r) = (zC ⟨L, a, u, lf, sm, sp, tr⟩ c).bind fun r25 => some (1, [], r25.1, r25.2.1, r25.2.2) := by
 have e1 : (a == 1) = false := by rcases ha with rfl | rfl <;> rfl
 have e2 : (a == 2) = false := by rcases ha with rfl | rfl <;> rfl
 unfold zr;dsimp only;rw [e1, if_neg yfn, e2, if_neg yfn, zpq, show (c :: r)[0]? = some c from rfl, yob]
theorem zx4 (L lf sm sp : Int) (u : Str) (tr : List api_Field) (c : UInt8) : zC ⟨L, 0, u, lf, sm, sp, tr⟩ c = zu ⟨L, 0, u, lf, sm, sp, tr⟩ c sp := by
 unfold zC;dsimp only;rw [show ((0 : Int) == 3) = false from rfl, if_neg yfn]
theorem ztZ (L lf sm sp : Int) (u : Str) (tr : List api_Field) (c : UInt8) (h0 : 0 ≤ sp) (h1 : sp < 1000000000) : zC ⟨L, 3, u, lf, sm, sp, tr⟩ c = zu ⟨L, 3, u, lf, sm, sp, tr⟩ c (sp + 1) := by
 unfold zC;dsimp only;rw [show ((3 : Int) == 3) = true from rfl, if_pos rfl, zes (by omega) (by omega), yob]
theorem ziF (u : Str) (c : UInt8) : ziP (u ++ [c]) = (c == 13) := by
 unfold ziP;simp
theorem zmj (L a lf sm : Int) (tr : List api_Field) (o : Str) (ha : a = 0 ∨ a = 3) (ho : o.length < 100000000) : ∀ (w u : Str) (sp : Int), (13 : UInt8) ∉ w → (10 : UInt8) ∉ w → ziP u = false → u.length + w.length < 4097 → 0 ≤ sp → sp + zhp a * (w.length + 1) ≤ L → L ≤ 1000000 →
  Seg (w ++ [13]) o ⟨L, a, u, lf, sm, sp, tr⟩ o ⟨L, a, u ++ w ++ [13], lf, sm, sp + zhp a * (w.length + 1), tr⟩
 | [], u, sp, _, _, h13, hl, h0, hL, hLm => by
  have e : zhp a * ((([] : Str).length : Int) + 1) = zhp a := by simp
  rw [e] at hL ⊢
  have hi : 0 ≤ zhp a := by unfold zhp; split <;> omega
  rw [yna, yan];simp only [yln] at hl;exact Seg.one ho fun r => zsj L a lf sm sp u tr 13 r ha (by omega) h13 rfl hL h0 (by omega)
 | c :: w, u, sp, hw, hv, h13, hl, h0, hL, hLm => by
  have hi : 0 ≤ zhp a := by unfold zhp; split <;> omega
  have e : sp + zhp a * (((c :: w).length : Int) + 1) = (sp + zhp a) + zhp a * ((w.length : Int) + 1) := by
   rw [ylc, show (((w.length + 1 : Nat) : Int) + 1) = 1 + ((w.length : Int) + 1) by omega, Int.mul_add, Int.mul_one, Int.add_assoc]
  rw [e] at hL ⊢;have hm : 0 ≤ zhp a * ((w.length : Int) + 1) := Int.mul_nonneg hi (by omega);simp only [ylc] at hl
  have hc13 : (c == 13) = false := by
   rw [beq_eq_false_iff_ne]; rintro rfl; exact hw (List.mem_cons_self ..)
  have hc10 : (c == 10) = false := by
   rw [beq_eq_false_iff_ne]; rintro rfl; exact hv (List.mem_cons_self ..)
  have h1 : Seg [c] o ⟨L, a, u, lf, sm, sp, tr⟩ o ⟨L, a, u ++ [c], lf, sm, sp + zhp a, tr⟩ := Seg.one ho fun r => zsj L a lf sm sp u tr c r ha (by omega) h13 hc10 (by omega) h0 (by omega);have h2 := zmj L a lf sm tr o ha ho w (u ++ [c]) (sp + zhp a) (fun h => hw (List.mem_cons_of_mem _ h)) (fun h => hv (List.mem_cons_of_mem _ h)) (by rw [ziF, hc13]) (by simp; omega) (by omega) hL hLm;have := h1.app h2;simpa using this
theorem zjd (L a lf sm sp : Int) (w : Str) (tr : List api_Field) (i5 : Int) (hu : w.length < 4097) (hL : i5 ≤ L) :
  zu ⟨L, a, w ++ [13], lf, sm, sp, tr⟩ 10 i5 = if (a == 0) = true then (zaZ ⟨L, a, [], lf, sm, i5, tr⟩ w).bind fun r => some (false, r.1, r.2) else (za0 ⟨L, a, [], lf, sm, i5, tr⟩ w).bind fun r => some (r.1, r.2.1, r.2.2) := by
 unfold zu;dsimp only
 have hl : ((w ++ [(13 : UInt8)]).length : Int) = (w.length : Int) + 1 := by simp
 have e2 : zdZ ((w ++ [(13 : UInt8)]).length : Int) 1 = some (w.length : Int) := by rw [hl, zb6 (by omega) (by omega)]; exact congrArg some (by omega)
 have g0 : 0 < ((w ++ [13]).length : Int) := by rw [hl]; omega
 have g1 : ¬ ((4098 : Int) ≤ ((w ++ [13]).length : Int)) := by rw [hl]; omega
 have g2 : (w ++ [(13 : UInt8)])[w.length]? = some 13 := by simp
 rw [ydt g0, if_pos rfl, e2, yob, zbd, g2, yob];unfold zU zai;dsimp only;rw [ydf g1, if_neg yfn, ydf (show ¬ (L < i5) by omega), if_neg yfn];rw [show (!(((10 : UInt8) == 10) == ((13 : UInt8) == 13))) = false from rfl, if_neg yfn, show (!((10 : UInt8) == 10)) = false from rfl, if_neg yfn, e2, yob]
 have e3 : lTo (w ++ [(13 : UInt8)]) (w.length : Int) = some w := by
  have := zeY (l := w ++ [13]) (h := w.length) (by simp);rw [List.take_left] at this;exact this
 rw [e3, yob]
end Go.Dm
end
section
namespace Go.Dm
theorem zuy {l : List Nat} (h : ∀ d ∈ l, d < 16) : vals (zm l) = l := by
 unfold vals zm;rw [List.map_map];refine (List.map_congr_left (g := id) fun d hd => ?_).trans (List.map_id l);exact (zqF d (h d hd)).1
theorem zm2 {l : List Nat} (h : ∀ d ∈ l, d < 16) : (zm l).all zhd = true := by
 unfold zm;rw [List.all_map];exact List.all_eq_true.2 fun d hd => (zqF d (h d hd)).2.1
theorem zwP (n : Nat) : zm (digs 16 n) ≠ [] := by
 unfold zm;intro h;exact zyx (List.map_eq_nil_iff.1 h)
theorem zuz (n : Nat) (hn : n < 1048576) : za1 16 (zm (digs 16 n)) 1099511627776 = ((n : Int), 0) := by
 have hd := zrq (b := 16) (by decide) n (by omega);have hv := zxl (b := 16) (by decide) n (by omega)
 have h1 : (zm (digs 16 n) == []) = false := by
  cases h : zm (digs 16 n) with
  | nil => exact absurd h (zwP n)
  | cons x l => rfl
 have h2 : (zm (digs 16 n)).all (znH 16) = true := zm2 hd;unfold za1;rw [h1, h2, zuy hd, hv, ynt, Bool.or_false, if_neg yfn, if_neg (by omega)]
theorem zr8 (x r9 : Int × Int) (u s : Str) (k n : Nat) (hs : s.length < 1000000000) (h : At s k []) (h9 : r9.2 = 0) : zcG (u, scn s k) r9 (n + 1) [] = some (r9.1, [], 0) := by
 obtain ⟨k', h1, h2⟩ := zeq hs 59 h;rw [zcG];dsimp only;rw [h2, yob];dsimp only;rw [zve, if_neg yfn, zrr h1, yob];unfold zcF;rw [h9];rfl
theorem znO (n : Nat) (hn : n < 1048576) : zd5 (zm (digs 16 n)) = some ((n : Int), [], 0) := by
 have hd := zrq (b := 16) (by decide) n (by omega);have hl := zq3 n hn;have ha := zm2 hd
 have htk : (zm (digs 16 n)).takeWhile zhd = zm (digs 16 n) := by
  have := List.takeWhile_append_of_pos (p := zhd) (l₁ := zm (digs 16 n)) (l₂ := []) (List.all_eq_true.1 ha);simpa using this
 have hdr : (zm (digs 16 n)).dropWhile zhd = [] := by
  have := List.dropWhile_append_of_pos (p := zhd) (l₁ := zm (digs 16 n)) (l₂ := []) (List.all_eq_true.1 ha);simpa using this
 obtain ⟨k', h1, h2⟩ := ziR zeI (s := zm (digs 16 n)) (by omega) (At.zero _);rw [htk] at h2;rw [hdr] at h1;unfold zd5;rw [zfH, yob, h2, yob];dsimp only;rw [zpl _ _ (by omega) (by decide) (by decide), zuz n hn, yob];exact zr8 (0, 0) _ _ (zm (digs 16 n)) k' 999999999999999999 (by omega) h1 rfl
theorem zwQ (L lf sm sp : Int) (tr : List api_Field) (n : Nat) (hn : n < 1048576) (hs0 : 0 ≤ sm) (hs : sm + n ≤ 1099511627776) :
  zaZ ⟨L, 0, [], lf, sm, sp, tr⟩ (zm (digs 16 n)) = some (0, if n = 0 then ⟨L, 3, [], lf, sm, sp, tr⟩ else ⟨L, 1, [], (n : Int), sm + n, sp, tr⟩) := by
 have g : ¬ ((1099511627776 : Int) - sm < (n : Int)) := by omega
 have e0 : (!((0 : Int) == 0)) = false := rfl;unfold zaZ;rw [znO n hn, yob];dsimp only;rw [e0, if_neg yfn, zb6 (by omega) (by omega), yob, ydf g, if_neg yfn]
 by_cases hz : n = 0
 ·have : ((n : Int) == 0) = true := by rw [beq_iff_eq]; omega
  rw [this, if_pos rfl, if_pos hz]
 ·have : ((n : Int) == 0) = false := by rw [beq_eq_false_iff_ne]; omega
  rw [this, if_neg yfn, zes (by omega) (by omega), yob, if_neg hz]
theorem zr9 (L lf sm sp : Int) (tr : List api_Field) (o : Str) (ho : o.length < 100000000) (n : Nat) (hn : n < 1048576) (h0 : 0 ≤ sp) (hL : sp ≤ L) (hLm : L ≤ 1000000) (hs0 : 0 ≤ sm) (hs : sm + n ≤ 1099511627776) :
  Seg (zm (digs 16 n) ++ [13, 10]) o ⟨L, 0, [], lf, sm, sp, tr⟩ o (if n = 0 then ⟨L, 3, [], lf, sm, sp, tr⟩ else ⟨L, 1, [], (n : Int), sm + n, sp, tr⟩) := by
 have hd := zrq (b := 16) (by decide) n (by omega);have hl := zq3 n hn;have ha := List.all_eq_true.1 (zm2 hd);have h1 := zmj L 0 lf sm tr o (.inl rfl) ho (zm (digs 16 n)) [] sp (fun h => absurd (ha _ h) (by decide)) (fun h => absurd (ha _ h) (by decide)) rfl (by simp; omega) h0 (by rw [show zhp 0 = 0 from rfl]; omega) hLm;rw [show zhp 0 = 0 from rfl, Int.zero_mul, Int.add_zero, yna] at h1
 have h2 : Seg [10] o ⟨L, 0, zm (digs 16 n) ++ [13], lf, sm, sp, tr⟩ o (if n = 0 then ⟨L, 3, [], lf, sm, sp, tr⟩ else ⟨L, 1, [], (n : Int), sm + n, sp, tr⟩) := by
  refine Seg.one ho fun r => ?_;have e0 : ((0 : Int) == 0) = true := rfl;rw [zm4 _ _ _ _ _ _ _ _ _ (.inl rfl), zx4, zjd L 0 lf sm sp _ tr sp (by omega) hL, if_pos e0, zwQ L lf sm sp tr n hn hs0 hs, yob, yob]
 have := h1.app h2;simpa using this
theorem zuA (L sm sp : Int) (tr : List api_Field) (o : Str) (ho : o.length < 100000000) : Seg [13, 10] o ⟨L, 2, [], 2, sm, sp, tr⟩ o ⟨L, 0, [], 0, sm, sp, tr⟩ := by
 have h1 : Seg [13] o ⟨L, 2, [], 2, sm, sp, tr⟩ o ⟨L, 2, [], 1, sm, sp, tr⟩ := Seg.one ho fun r => rfl;have h2 : Seg [10] o ⟨L, 2, [], 1, sm, sp, tr⟩ o ⟨L, 0, [], 0, sm, sp, tr⟩ := Seg.one ho fun r => rfl;exact h1.app h2
theorem zqh (L sm sp : Int) (tr : List api_Field) (x o : Str) (ho : o.length < 100000000) (hx : x.length < 1048576) (h0 : 0 ≤ sp) (hL : sp ≤ L) (hLm : L ≤ 1000000) (hs0 : 0 ≤ sm) (hs : sm + x.length ≤ 1099511627776) (hox : o.length + x.length < 100000000) :
  Seg (zg6 x) o ⟨L, 0, [], 0, sm, sp, tr⟩ (o ++ x) ⟨L, 0, [], 0, sm + x.length, sp, tr⟩ := by
 unfold zg6
 cases x with
 | nil =>
  rw [if_pos (show (([] : Str) == []) = true from rfl), yan]
  have : sm + (([] : Str).length : Int) = sm := by simp
  rw [this];exact Seg.nil o _
 | cons c x =>
  rw [if_neg (show ¬ ((c :: x : Str) == []) = true from yfn)];have h1 := zr9 L 0 sm sp tr o ho (c :: x).length hx h0 hL hLm hs0 hs;rw [if_neg (by simp)] at h1;have h2 := Seg.data (x := c :: x) (o := o) (L := L) (lf := ((c :: x).length : Int)) (sm := sm + ((c :: x).length : Int)) (sp := sp) (tr := tr) (ln := []) (by simp) rfl (by omega) ho;have h3 := zuA L (sm + ((c :: x).length : Int)) sp tr (o ++ c :: x) (by simp at hox ⊢; omega);have := (h1.app h2).app h3;simpa using this
theorem zsa (L sp : Int) (tr : List api_Field) (k : Nat) (hk : 1 ≤ k) (h0 : 0 ≤ sp) (hL : sp ≤ L) (hLm : L ≤ 1000000) : ∀ (n : Nat) (x o : Str) (sm : Int), x.length ≤ 600 → o.length + x.length < 10000 → 0 ≤ sm → sm + x.length ≤ 10000 →
  ∃ a, x = a ++ (zd0 n k x).2 ∧ Seg (zd0 n k x).1 o ⟨L, 0, [], 0, sm, sp, tr⟩ (o ++ a) ⟨L, 0, [], 0, sm + a.length, sp, tr⟩
 | 0, x, o, sm, hx, ho, h1, h2 => ⟨[], by simp [zd0], by
  have e : sm + (([] : Str).length : Int) = sm := by simp
  rw [e, yan]
  exact Seg.nil o _⟩
 | n + 1, x, o, sm, hx, ho, h1, h2 => by
  rw [zd0]
  by_cases hle : k ≤ x.length
  ·rw [if_pos hle]
   have htl : (x.take k).length = k := by simp; omega
   have s1 := zqh L sm sp tr (x.take k) o (by omega) (by omega) h0 hL hLm h1 (by omega) (by omega);obtain ⟨a, e, s2⟩ := zsa L sp tr k hk h0 hL hLm n (x.drop k) (o ++ x.take k) (sm + (x.take k).length) (by simp; omega) (by simp; omega) (by omega) (by simp; omega);refine ⟨x.take k ++ a, ?_, ?_⟩
   ·dsimp only;rw [yaa, ← e, List.take_append_drop]
   ·have := s1.app s2;rw [yaa] at this
    have e3 : sm + ((x.take k).length : Int) + (a.length : Int) = sm + ((x.take k ++ a).length : Int) := by rw [yla]; omega
    rw [e3] at this;exact this
  ·rw [if_neg hle];refine ⟨[], rfl, ?_⟩
   have e : sm + (([] : Str).length : Int) = sm := by simp
   rw [e, yan];exact Seg.nil o _
def spF : List api_Field → Int
 | [] => 0
 | f :: fs => ((zF f).length : Int) + 2 + spF fs
theorem zja : ∀ fs, 0 ≤ spF fs
 | [] => Int.le_refl _
 | f :: fs => by have := zja fs; unfold spF; omega
theorem zuB (L sm sp : Int) (tr : List api_Field) (o : Str) (ho : o.length < 100000000) (f : api_Field) (hf : zbv f = 0) (hl : (zF f).length < 4000) (h0 : 0 ≤ sp) (hL : sp + (zF f).length + 2 ≤ L) (hLm : L ≤ 1000000) (ht : tr.length < 100) :
  Seg (zF f ++ [13, 10]) o ⟨L, 3, [], 0, sm, sp, tr⟩ o ⟨L, 3, [], 0, sm, sp + (zF f).length + 2, tr ++ [f]⟩ := by
 obtain ⟨v1, v2⟩ := zkJ hf;obtain ⟨n1, n2⟩ := zoa v1;have h1 := zmj L 3 0 sm tr o (.inr rfl) ho (zF f) [] sp n1 n2 rfl (by simp; omega) h0 (by rw [show zhp 3 = 1 from rfl]; omega) hLm;rw [show zhp 3 = 1 from rfl, Int.one_mul, yna] at h1
 have h2 : Seg [10] o ⟨L, 3, zF f ++ [13], 0, sm, sp + ((zF f).length + 1), tr⟩ o ⟨L, 3, [], 0, sm, sp + (zF f).length + 2, tr ++ [f]⟩ := by
  refine Seg.one ho fun r => ?_
  have e0 : ¬ ((3 : Int) == 0) = true := by decide
  rw [zm4 _ _ _ _ _ _ _ _ _ (.inr rfl), ztZ _ _ _ _ _ _ _ (by omega) (by omega), zjd L 3 0 sm _ _ tr _ (by omega) (by omega), if_neg e0];unfold za0;dsimp only
  have hne : (zF f == []) = false := by
   cases h : zF f with
   | nil => exact absurd h v2
   | cons x l => rfl
  rw [hne, if_neg yfn, zfr _ (by omega), zjT hf, yob];dsimp only;rw [show (!((0 : Int) == 0)) = false from rfl, if_neg yfn, ydf (by omega), if_neg yfn, if_pos (zcn (by omega) (by omega)), yob, yob, show sp + (((zF f).length : Int) + 1) + 1 = sp + (zF f).length + 2 by omega]
 have := h1.app h2;simpa using this
theorem zsb (L sm : Int) (o : Str) (ho : o.length < 100000000) (hLm : L ≤ 1000000) : ∀ (fs tr : List api_Field) (sp : Int), (∀ f ∈ fs, zbv f = 0 ∧ (zF f).length < 4000) → 0 ≤ sp → sp + spF fs + 2 ≤ L → tr.length + fs.length ≤ 100 →
  ∃ g, zZ fs = g ++ [10] ∧ Seg g o ⟨L, 3, [], 0, sm, sp, tr⟩ o ⟨L, 3, [13], 0, sm, sp + spF fs + 1, tr ++ fs⟩
 | [], tr, sp, _, h0, hL, ht => by
  refine ⟨[13], rfl, ?_⟩;rw [yan];unfold spF at hL ⊢;have := zmj L 3 0 sm tr o (.inr rfl) ho [] [] sp (by simp) (by simp) rfl (by decide) h0 (by rw [show zhp 3 = 1 from rfl]; simp; omega) hLm;rw [show zhp 3 = 1 from rfl] at this;simpa using this
 | f :: fs, tr, sp, hc, h0, hL, ht => by
  have hn := zja fs;simp only [ylc] at ht;unfold spF at hL ⊢;obtain ⟨c1, c2⟩ := hc f (List.mem_cons_self ..);have s1 := zuB L sm sp tr o ho f c1 c2 h0 (by omega) hLm (by omega);obtain ⟨g, e, s2⟩ := zsb L sm o ho hLm fs (tr ++ [f]) (sp + (zF f).length + 2) (fun x hx => hc x (List.mem_cons_of_mem _ hx)) (by omega) (by omega) (by simp; omega);refine ⟨(zF f ++ [13, 10]) ++ g, ?_, ?_⟩
  ·rw [zZ, e]; simp
  ·have := s1.app s2
   have e5 : tr ++ [f] ++ fs = tr ++ f :: fs := by simp
   rw [e5] at this;rw [show sp + (((zF f).length : Int) + 2 + spF fs) + 1 = sp + ((zF f).length : Int) + 2 + spF fs + 1 by omega];exact this
def d0 (L : Int) : dechunk_Decoder := ⟨L, 0, [], 0, 0, 0, []⟩
theorem zxY (L : Int) (hLm : L ≤ 1000000) (k : Nat) (hk : 1 ≤ k) (x : Str) (hx : x.length ≤ 600) (tr : List api_Field) (hc : ∀ f ∈ tr, zbv f = 0 ∧ (zF f).length < 4000) (hL : spF tr + 2 ≤ L) (ht : tr.length ≤ 100) :
  ∃ g, (zd0 601 k x).1 ++ (zg6 (zd0 601 k x).2 ++ 48 :: 13 :: 10 :: zZ tr) = g ++ [10] ∧ Seg g [] (d0 L) x ⟨L, 3, [13], 0, (x.length : Int), spF tr + 1, tr⟩ := by
 have hn := zja tr;obtain ⟨a, e, s1⟩ := zsa L 0 [] k hk (Int.le_refl _) (by omega) hLm 601 x [] 0 hx (by simp; omega) (Int.le_refl _) (by omega);have hlx := congrArg List.length e;rw [yla] at hlx;have s2 := zqh L (0 + (a.length : Int)) 0 [] (zd0 601 k x).2 ([] ++ a) (by simp; omega) (by omega) (Int.le_refl _) (by omega) hLm (by omega) (by omega) (by simp; omega);rw [yna] at s1 s2;rw [← e] at s2
 have e1 : 0 + (a.length : Int) + ((zd0 601 k x).2.length : Int) = (x.length : Int) := by omega
 rw [e1] at s2;have s3 := zr9 L 0 (x.length : Int) 0 [] x (by omega) 0 (by decide) (Int.le_refl _) (by omega) hLm (by omega) (by omega);rw [if_pos rfl, show zm (digs 16 0) = [48] by decide] at s3;obtain ⟨g, e4, s4⟩ := zsb L (x.length : Int) x (by omega) hLm tr [] 0 hc (Int.le_refl _) (by omega) (by simp; omega);refine ⟨(zd0 601 k x).1 ++ (zg6 (zd0 601 k x).2 ++ (([48] ++ [13, 10]) ++ g)), ?_, ?_⟩
 ·rw [e4]; simp
 ·have := s1.app (s2.app (s3.app s4));rw [yna, Int.zero_add] at this;exact this
theorem zuC (L sm sp : Int) (tr : List api_Field) (r : Str) (h0 : 0 ≤ sp) (hL : sp + 1 ≤ L) (hLm : L ≤ 1000000) : zr ⟨L, 3, [13], 0, sm, sp, tr⟩ (10 :: r) = some (1, [], true, 0, ⟨L, 3, [], 0, sm, sp + 1, tr⟩) := by
 have e0 : ¬ ((3 : Int) == 0) = true := by decide
 rw [zm4 _ _ _ _ _ _ _ _ _ (.inr rfl), ztZ _ _ _ _ _ _ _ h0 (by omega)];have := zjd L 3 0 sm sp [] tr (sp + 1) (by decide) hL;rw [yna, if_neg e0] at this;rw [this];rfl
theorem zuD {L : Int} {g x : Str} {sm sp : Int} {tr : List api_Field} (hs : Seg g [] (d0 L) x ⟨L, 3, [13], 0, sm, sp, tr⟩) (h0 : 0 ≤ sp) (hL : sp + 1 ≤ L) (hLm : L ≤ 1000000) (hx : x.length < 100000000) (r : Str) (hl : (g ++ [10] ++ r).length < 100000000) :
  zH (d0 L) (g ++ [10] ++ r) = some (((g ++ [10]).length : Int), x, true, 0, ⟨L, 4, [], 0, sm, sp + 1, tr⟩) := by
 have ha : At (g ++ [10] ++ r) 0 (g ++ (10 :: r)) := ⟨yz _, by simp⟩;obtain ⟨m, hm, e⟩ := hs.go _ 0 _ hl ha
 have ha2 : At (g ++ [10] ++ r) (0 + g.length) (10 :: r) := by
  have := ha.next g.length (by simp)
  rwa [List.drop_left] at this
 have hlen := ha2.len;simp only [yla, ylc, yln] at hl hlen;unfold zH;show FL (g ++ [10] ++ r) fuel [] (d0 L) 0 false 0 = _;obtain ⟨n, hn⟩ : ∃ n, fuel = n + 1 + 1 + m := ⟨fuel - m - 2, by unfold fuel; omega⟩;rw [hn, e, zn1 (k := 1) (q := []) (n + 1) (by simp) (by simp; omega) hx (by simp) (by decide) (by rw [ha2.drop]; exact zuC L sm sp tr r h0 hL hLm), zx3, yan, Nat.zero_add, yla];rfl
theorem zwR {L : Int} {g x : Str} {d : dechunk_Decoder} (hs : Seg g [] (d0 L) x d) (p q : Str) (hpq : g ++ [10] = p ++ q) (hq : q ≠ []) (hl : p.length < 100000000) :
  ∃ o2 d2, zH (d0 L) p = some ((p.length : Int), o2, false, 0, d2) := by
 unfold zH;show ∃ o2 d2, FL p fuel [] (d0 L) 0 false 0 = some ((p.length : Int), o2, false, 0, d2);have ha : At p 0 p := At.zero p
 rcases List.append_eq_append_iff.1 hpq with ⟨a', e1, e2⟩ | ⟨c', e1, e2⟩
 ·cases a' with
  | nil =>
   rw [yan] at e1;subst e1;obtain ⟨m, hm, e⟩ := hs.go p 0 [] hl (by rw [yan]; exact ha);obtain ⟨n, hn⟩ : ∃ n, fuel = n + 1 + m := ⟨fuel - m - 1, by unfold fuel; omega⟩;rw [hn, e, Nat.zero_add];exact ⟨x, d, zoQ p n x d⟩
  | cons c a' =>
   have := congrArg List.length e2;rw [yla, ylc, ylc, yln] at this;exact absurd (List.length_eq_zero_iff.1 (by omega)) hq
 ·by_cases hc : c' = []
  ·subst hc;rw [yan] at e1;subst e1;obtain ⟨m, hm, e⟩ := hs.go g 0 [] hl (by rw [yan]; exact ha);obtain ⟨n, hn⟩ : ∃ n, fuel = n + 1 + m := ⟨fuel - m - 1, by unfold fuel; omega⟩;rw [hn, e, Nat.zero_add];exact ⟨x, d, zoQ g n x d⟩
  ·exact hs.cut p 0 p c' hl ha e1 hc fuel (by unfold fuel; omega)
end Go.Dm
end
section
namespace Go.Dm
def cutT (l : List api_Field) : List api_Field := (l.take 105).map fun f => ⟨f.Name.take 50, f.Value.take 200⟩
theorem zuS (s : Str) : sTo s (min (s.length : Int) 50) = some (s.take 50) := zn6 s 50
theorem zto (s : Str) : sTo s (min (s.length : Int) 200) = some (s.take 200) := zn6 s 200
theorem zoU (s : Str) : sTo s (min (s.length : Int) 500) = some (s.take 500) := zn6 s 500
theorem zml (l : List api_Field) (hl : l.length < 1000000000) : ziM l = some (cutT l) := by
 unfold ziM
 have key : ∀ (n i : Nat) (out : List api_Field), i ≤ l.length → i ≤ 105 → l.length - i < n → out.length = i → zc4 l n out (i : Int) = some (out ++ ((l.drop i).take (105 - i)).map fun f => ⟨f.Name.take 50, f.Value.take 200⟩) := by
  intro n
  induction n with
  | zero => intro i _ _ _ h; omega
  | succ n ih =>
   intro i out hi h120 hn ho;rw [zc4];unfold zf1
   by_cases hlt : i < l.length
   ·have g : l[i]? = some l[i] := ygg hlt;rw [ydt (show (i : Int) < (l.length : Int) by omega), if_pos rfl]
    by_cases h2 : i < 105
    ·rw [ydt (show (i : Int) < 105 by omega), if_pos rfl, zbd, g, yob, yob, zuS, yob, yob, yob, zto, yob, if_pos (zcn (by omega) (by omega)), zM (by omega), yob, ih (i + 1) _ (by omega) (by omega) (by omega) (by simp; omega), ydg hlt, show 105 - i = (105 - (i + 1)) + 1 by omega, List.take_succ_cons];simp
    ·have : i = 105 := by omega
     subst this;rw [ydf (by omega), if_neg (by decide)];simp
   ·have : i = l.length := by omega
    rw [ydf (by omega), if_neg (by decide), if_neg (by decide), this, ydl];simp
 have := key fuel 0 [] (yz _) (by decide) (by unfold fuel; omega) rfl;exact this
structure SmallM (m : api_Message) : Prop where
 head : smallH m.Head
 len : m.Head.Fields.length ≤ 120
 fields : zbq 401 m.Head.Fields
 body : m.Body.length ≤ 500
 tlen : m.Trailers.length ≤ 105
 trailers : zbq 401 m.Trailers
theorem few22 (m : api_Message) (hc : inI m.Head.Code = true) (hmi : inI m.Head.Minor = true) (hl : m.Head.Fields.length < 1000000000) (ht : m.Trailers.length < 1000000000) : ∃ g, zgz m = some g ∧ SmallM g := by
 unfold zgz;rw [zmm _ hl, yob, zoU, yob, zml _ ht, yob];refine ⟨_, rfl, ⟨hc, hmi, by simp; omega, by simp; omega, by simp; omega⟩, zw2 _, ztp _, by simp; omega, by unfold cutT; simp; omega, ?_⟩;intro f hf;obtain ⟨g, _, rfl⟩ := List.mem_map.1 hf
 simp; omega
def zkg (m : api_Message) : Bool :=
 if m.Frame.Kind == 1 then (m.Body == []) && (m.Trailers == []) else if m.Frame.Kind == 2 then ((m.Body.length : Int) == m.Frame.N) && (m.Trailers == []) else if m.Frame.Kind == 4 then m.Trailers == [] else true
theorem zx7 {α : Type} [DecidableEq α] (l : List α) : ((l.length : Int) == 0) = (l == []) := by
 cases l with
 | nil => rfl
 | cons x l => simp <;> omega
theorem zx8 (m : api_Message) : zf2 m = some (zkg m) := by
 unfold zf2 zd6 zd7 zkg;rw [zx7];cases m.Frame.Kind == 1 <;> cases m.Frame.Kind == 2 <;> cases m.Frame.Kind == 4 <;> cases m.Body == [] <;> cases (m.Body.length : Int) == m.Frame.N <;> rfl
def zhI (method : Str) (m : api_Message) : Int :=
 if zb7 m.Head == 0 then (if (zdH method m.Head).2 == 0 then (if (zdH method m.Head).1 == m.Frame then (if zkg m then (zh5 m.Trailers).2 else 1) else 1) else (zdH method m.Head).2) else zb7 m.Head
theorem zm7 (method : Str) (m : api_Message) (h : SmallM m) : zfd method m = some (zhI method m) := by
 have h1 := h.len;have h2 := h.tlen;unfold zfd zhI zdD;rw [zla _ h.head (by omega) (zW (by decide) h.fields), yob, ziV _ _ (by omega) (zW (by decide) h.fields), yob, zx8, yob, ztW _ (by omega) (zW (by decide) h.trailers), yob];cases zb7 m.Head == 0 <;> cases (zdH method m.Head).2 == 0 <;> cases (zdH method m.Head).1 == m.Frame <;> cases zkg m <;> rfl
def zm8 (method : Str) (m : api_Message) (lim size : Int) : Str × Int :=
 if zhI method m == 0 then (if ((zE m.Head).length : Int) ≤ lim then (if m.Frame.Kind == 3 then (if (zoM size m.Body m.Trailers).2 == 0 then (zE m.Head ++ (zoM size m.Body m.Trailers).1, 0) else ([], (zoM size m.Body m.Trailers).2)) else (zE m.Head ++ m.Body, 0)) else ([], 3)) else ([], zhI method m)
theorem zny {method : Str} {m : api_Message} (h : (zhI method m == 0) = true) : (zb7 m.Head == 0) = true := by
 unfold zhI at h
 cases hc : zb7 m.Head == 0 with
 | true => rfl
 | false => rw [hc, if_neg yfn, hc] at h; cases h
theorem zsm {size : Int} {b : Str} {tr : List api_Field} (hb : b.length ≤ 600) (hl : tr.length ≤ 200) (hs : zbq 4000 tr) : (zoM size b tr).1.length ≤ 4000000 := by
 have hll := zqj hl hs;unfold zoM
 split
 ·simp
 ·rename_i h1
  split
  ·have h1' : 1 ≤ size.toNat := by
    cases h2 : decide (size < 1) with
    | true => rw [h2] at h1; exact absurd rfl h1
    | false => have := of_decide_eq_false h2; omega
   obtain ⟨f1, f2⟩ := zqi size.toNat h1' 601 b hb;have hp := zjb (zd0 601 size.toNat b).2 (by omega);simp only [yla];omega
  ·simp
theorem zuT {h : api_Head} (hs : smallH h) (hl : h.Fields.length ≤ 200) (hf : zbq 4000 h.Fields) : (zE h).length < 200000000 := by
 have htl := zp1 hs;have hrl := ziv hf;unfold zE;simp only [yla, ylc];omega
theorem zm9 (method : Str) (m : api_Message) (lim size : Int) (hli : inI lim = true) (h : SmallM m) : zff method m lim size = some (zm8 method m lim size) := by
 have h1 := h.len;have h2 := h.tlen;have h3 := h.body;have hh := zuT h.head (by omega) (zW (by decide) h.fields);have ha := zsm (size := size) (b := m.Body) (tr := m.Trailers) (by omega) (by omega) (zW (by decide) h.trailers);unfold zff zm8;rw [zm7 _ _ h, yob]
 cases hc : zhI method m == 0 with
 | false => rfl
 | true =>
  rw [ynt, if_neg yfn, if_pos rfl, zpA _ lim hli h.head (by omega) (zW (by decide) h.fields), zny hc, if_pos rfl, yob];unfold zsT
  by_cases hfit : ((zE m.Head).length : Int) ≤ lim
  ·rw [if_pos hfit, if_pos hfit];dsimp only;rw [show (!((0 : Int) == 0)) = false from rfl, if_neg yfn, All_eq _ _ _ (by omega) (by omega) (zW (by decide) h.trailers), yob];unfold zdF;dsimp only;rw [zgb (by omega), yob, zgb (by omega), yob];cases m.Frame.Kind == 3 <;> cases (zoM size m.Body m.Trailers).2 == 0 <;> rfl
  ·rw [if_neg hfit, if_neg hfit];rfl
end Go.Dm
end
section
namespace Go.Dm
theorem ztq {k : Int} {s : Str} {x : api_Head} (h : zbO k s = (x, 0)) : (10 : UInt8) ∉ s := by
 intro hm;have hany : s.any ([13, 10] : Str).contains = true := List.any_eq_true.2 ⟨10, hm, by decide⟩;unfold zbO at h
 split at h
 ·exact absurd (show (1 : Int) = 0 from congrArg Prod.snd h) (by decide)
 ·exact absurd (show (24 : Int) = 0 from congrArg Prod.snd h) (by decide)
theorem zqo (k L : Int) (g : api_Head) (r : Str) : ∀ (w u : Str) (f i : Nat), (13 : UInt8) ∉ w → (10 : UInt8) ∉ w → ziP u = false → ((u.length + w.length : Nat) : Int) ≤ L →
  zha k L g (w ++ r) u f i = zha k L g r (u ++ w) f (i + w.length) ∧ ziP (u ++ w) = false
 | [], u, f, i, _, _, h, _ => by simp [h]
 | c :: w, u, f, i, h1, h2, h, hl => by
  have c1 : (c == 10) = false := by rw [beq_eq_false_iff_ne]; rintro rfl; exact h2 (List.mem_cons_self ..)
  have c2 : (c == 13) = false := by rw [beq_eq_false_iff_ne]; rintro rfl; exact h1 (List.mem_cons_self ..)
  rw [ylc] at hl
  have hL : ¬ (L ≤ (u.length : Int)) := by omega
  have hs : zcJ k L u f g c = ⟨false, 0, u ++ [c], f, g⟩ := by
   unfold zcJ;rw [ydf hL, if_neg yfn, c1, h, if_neg (by decide), if_pos (by decide)]
  have ih := zqo k L g r w (u ++ [c]) f (i + 1) (fun q => h1 (List.mem_cons_of_mem _ q)) (fun q => h2 (List.mem_cons_of_mem _ q)) (by rw [ziF, c2]) (by simp; omega);rw [List.cons_append, zha, hs]
  have e1 : u ++ [c] ++ w = u ++ c :: w := by simp
  rw [e1] at ih
  have e0 : ¬ (((⟨false, 0, u ++ [c], f, g⟩ : StepR).w || !((⟨false, 0, u ++ [c], f, g⟩ : StepR).e == 0)) = true) := by
   show ¬ ((false || !((0 : Int) == 0)) = true)
   decide
  refine ⟨?_, ih.2⟩;rw [if_neg e0, ih.1, ylc, show i + 1 + w.length = i + (w.length + 1) by omega]
theorem zoW (k L : Int) (g : api_Head) (r w u : Str) (f i : Nat) (h1 : (13 : UInt8) ∉ w) (h2 : (10 : UInt8) ∉ w) (h : ziP u = false) (hl : ((u.length + w.length + 2 : Nat) : Int) ≤ L) :
  zha k L g (w ++ 13 :: 10 :: r) u f i = (if ((zcJ k L (u ++ w ++ [13]) f g 10).w || !((zcJ k L (u ++ w ++ [13]) f g 10).e == 0)) = true then (some (i + w.length + 2, zcJ k L (u ++ w ++ [13]) f g 10), f) else zha k L g r (u ++ w ++ [13] ++ [10]) (zcJ k L (u ++ w ++ [13]) f g 10).f (i + w.length + 2)) := by
 obtain ⟨e, h3⟩ := zqo k L g (13 :: 10 :: r) w u f i h1 h2 h (by omega)
 have hL : ¬ (L ≤ ((u ++ w).length : Int)) := by rw [yla]; omega
 have hs : zcJ k L (u ++ w) f g 13 = ⟨false, 0, u ++ w ++ [13], f, g⟩ := by
  unfold zcJ;rw [ydf hL, if_neg yfn, h3, if_neg (by decide), if_pos (by decide)]
 have e0 : ¬ (((⟨false, 0, u ++ w ++ [13], f, g⟩ : StepR).w || !((⟨false, 0, u ++ w ++ [13], f, g⟩ : StepR).e == 0)) = true) := by
  show ¬ ((false || !((0 : Int) == 0)) = true)
  decide
 rw [e, zha, hs, if_neg e0, zha]
theorem zoX (k L : Int) (g : api_Head) (w u : Str) (f : Nat) (hl : ((u.length + w.length + 2 : Nat) : Int) ≤ L) :
  zcJ k L (u ++ w ++ [13]) f g 10 = if (f == 0) = true then ⟨false, (zbO k ((u ++ w).drop f)).2, u ++ w ++ [13] ++ [10], u.length + w.length + 2, g⟩
   else if (!((u ++ w).drop f == [])) = true then ⟨false, (zdc ((u ++ w).drop f)).2, u ++ w ++ [13] ++ [10], u.length + w.length + 2, g⟩
   else ⟨(zhf k (u ++ w ++ [13] ++ [10]) L).2 == 0, (zhf k (u ++ w ++ [13] ++ [10]) L).2, u ++ w ++ [13] ++ [10], f, (zhf k (u ++ w ++ [13] ++ [10]) L).1⟩ := by
 have hlen : (u ++ w ++ [(13 : UInt8)]).length = u.length + w.length + 1 := by simp; omega
 have hL : ¬ (L ≤ ((u ++ w ++ [(13 : UInt8)]).length : Int)) := by rw [hlen]; omega
 have ha : zkv (u ++ w ++ [13]) f = (u ++ w).drop f := by
  unfold zkv;rw [hlen, Nat.add_sub_cancel, ← yla, List.take_left]
 unfold zcJ;rw [ydf hL, if_neg yfn, ziF, if_neg (by decide), if_neg (by decide), ha, hlen]
theorem zoY (k L : Int) (r : Str) (h : api_Head) : ∀ (fs : List api_Field) (u : Str) (i : Nat), u ≠ [] → ziP u = false → (∀ f ∈ fs, zbv f = 0) → ((u.length + (zZ fs).length : Nat) : Int) ≤ L → zhf k (u ++ zZ fs) L = (h, 0) →
  ∃ z f', zha k L zaB (zZ fs ++ r) u u.length i = (some (i + (zZ fs).length, z), f') ∧ z.w = true ∧ z.e = 0 ∧ z.g = h
 | [], u, i, hu, h13, _, hl, hh => by
  have hu0 : (u.length == 0) = false := by rw [beq_eq_false_iff_ne]; exact fun q => hu (List.length_eq_zero_iff.1 q)
  have e := zoW k L zaB r [] u u.length i (by simp) (by simp) h13 (by simpa [zZ] using hl);have s := zoX k L zaB [] u u.length (by simpa [zZ] using hl)
  have hd : (u ++ []).drop u.length = [] := by simp
  have hh' : zhf k (u ++ [] ++ [13] ++ [10]) L = (h, 0) := by
   have : u ++ [] ++ [13] ++ [10] = u ++ zZ [] := by simp [zZ]
   rw [this]; exact hh
  rw [hu0, if_neg yfn, hd, if_neg (by decide), hh'] at s;rw [s] at e;refine ⟨⟨true, 0, u ++ [] ++ [13] ++ [10], u.length, h⟩, u.length, ?_, rfl, rfl, rfl⟩;exact e
 | f :: fs, u, i, hu, h13, hc, hl, hh => by
  have hu0 : (u.length == 0) = false := by rw [beq_eq_false_iff_ne]; exact fun q => hu (List.length_eq_zero_iff.1 q)
  have hf := hc f (List.mem_cons_self ..);obtain ⟨v1, v2⟩ := zkJ hf;obtain ⟨n1, n2⟩ := zoa v1;rw [zZ, yla, ylc, ylc] at hl;have e := zoW k L zaB (zZ fs ++ r) (zF f) u u.length i n1 n2 h13 (by omega);have s := zoX k L zaB (zF f) u u.length (by omega)
  have hne : (!(zF f == [])) = true := by
   cases hx : zF f with
   | nil => exact absurd hx v2
   | cons x l => rfl
  rw [hu0, if_neg yfn, List.drop_left, if_pos hne, zjT hf] at s
  have e0 : ¬ (((zcJ k L (u ++ zF f ++ [13]) u.length zaB 10).w || !((zcJ k L (u ++ zF f ++ [13]) u.length zaB 10).e == 0)) = true) := by
   rw [s];show ¬ ((false || !((0 : Int) == 0)) = true)
   decide
  rw [if_neg e0, s] at e
  have hlen : (u ++ zF f ++ [13] ++ [10]).length = u.length + (zF f).length + 2 := by simp; omega
  obtain ⟨z, f', e2, z1, z2, z3⟩ := zoY k L r h fs (u ++ zF f ++ [13] ++ [10]) (i + (zF f).length + 2) (by simp) (by rw [ziF]; rfl) (fun x hx => hc x (List.mem_cons_of_mem _ hx)) (by rw [hlen]; omega) (by
   rw [← hh, zZ]; simp)
  rw [hlen] at e2;refine ⟨z, f', ?_, z1, z2, z3⟩;rw [zZ, yla, ylc, ylc, show i + ((zF f).length + ((zZ fs).length + 1 + 1)) = i + (zF f).length + 2 + (zZ fs).length by omega, ← e2]
  have e3 : zF f ++ 13 :: 10 :: zZ fs ++ r = zF f ++ 13 :: 10 :: (zZ fs ++ r) := by simp
  rw [e3, e]
theorem zsp {h : api_Head} (hc : zb7 h = 0) {L : Int} (hl : ((zE h).length : Int) ≤ L) (r : Str) :
  ∃ z f', zha h.Kind L zaB (zE h ++ r) [] 0 0 = (some ((zE h).length, z), f') ∧ z.w = true ∧ z.e = 0 ∧ z.g = h := by
 have hb := zuf hc L hl;obtain ⟨h1, h2, h3⟩ := zhk hc;obtain ⟨e, x, k0, k1, k2, k3, k4, k5, k6⟩ := zlX h1;obtain ⟨l1, l2⟩ := zp3 k0;have l3 := ztq k0
 have hraw : zE h = zfi h ++ 13 :: 10 :: zZ h.Fields := by unfold zE; rw [e]
 rw [hraw] at hl hb ⊢;rw [yla, ylc, ylc] at hl;have e1 := zoW h.Kind L zaB (zZ h.Fields ++ r) (zfi h) [] 0 0 l1 l3 rfl (by simp; omega);have s := zoX h.Kind L zaB (zfi h) [] 0 (by simp; omega);rw [if_pos (show ((0 : Nat) == 0) = true from rfl), yna, List.drop_zero, k0] at s;rw [yna] at e1
 have e0 : ¬ (((zcJ h.Kind L (zfi h ++ [13]) 0 zaB 10).w || !((zcJ h.Kind L (zfi h ++ [13]) 0 zaB 10).e == 0)) = true) := by
  rw [s];show ¬ ((false || !((0 : Int) == 0)) = true)
  decide
 rw [if_neg e0, s] at e1
 have hlen : (zfi h ++ [13] ++ [10]).length = (zfi h).length + 2 := by simp
 obtain ⟨z, f', e2, z1, z2, z3⟩ := zoY h.Kind L r h h.Fields (zfi h ++ [13] ++ [10]) ((zfi h).length + 2) (by simp) (by rw [ziF]; rfl) h3 (by rw [hlen]; omega) (by rw [← hb]; simp);rw [hlen] at e2;refine ⟨z, f', ?_, z1, z2, z3⟩;rw [yla, ylc, ylc, show (zfi h).length + ((zZ h.Fields).length + 1 + 1) = (zfi h).length + 2 + (zZ h.Fields).length by omega, ← e2]
 have e3 : zfi h ++ 13 :: 10 :: zZ h.Fields ++ r = zfi h ++ 13 :: 10 :: (zZ h.Fields ++ r) := by simp
 rw [e3, e1];simp
theorem zt1 {k L : Int} {g : api_Head} : ∀ {s u : Str} {f i : Nat} {z : Nat × StepR} {f' : Nat}, zha k L g s u f i = (some z, f') → z.1 ≤ i + s.length
 | [], u, f, i, z, f', h => by rw [zha] at h; cases h
 | c :: s, u, f, i, z, f', h => by
  rw [zha] at h
  split at h
  ·cases h; simp
  ·have := zt1 h;rw [ylc]; omega
theorem zya {h : api_Head} (hc : zb7 h = 0) {L : Int} (hl : ((zE h).length : Int) ≤ L) {p q : Str} (hpq : zE h = p ++ q) (hq : q ≠ []) : ∃ f', zha h.Kind L zaB p [] 0 0 = (none, f') := by
 obtain ⟨z, f', e, _⟩ := zsp hc hl [];rw [yan] at e;have hql : 0 < q.length := List.length_pos_iff.2 hq
 cases hp : zha h.Kind L zaB p [] 0 0 with
 | mk a b =>
  cases a with
  | none => exact ⟨b, rfl⟩
  | some y =>
   exfalso
   have h1 := zt1 hp;have h2 := zsB h.Kind L zaB q p [] 0 0;rw [← hpq, e, hp] at h2;have h3 : (zE h).length = y.1 := congrArg (fun x => (x.1.map (·.1)).getD 0) h2;rw [hpq, yla] at h3;omega
def okFr (f : api_Frame) : Prop := f = ⟨1, 0⟩ ∨ (∃ n, f = ⟨2, n⟩) ∨ f = ⟨3, 0⟩ ∨ f = ⟨4, 0⟩
theorem ztr (o : Option (List Int)) (h : ((zjr o).2 == 0) = true) : okFr (zjr o).1 := by
 unfold zjr at h ⊢
 split
 ·cases h
 ·cases h
 ·split
  ·exact .inr (.inl ⟨_, rfl⟩)
  ·rename_i h2
   dsimp only at h;rw [if_neg h2] at h; cases h
theorem zts (m : Int) (te : List Str) (h : ((zjs m te).2 == 0) = true) : okFr (zjs m te).1 := by
 unfold zjs at h ⊢
 split
 ·rename_i h1
  rw [if_pos h1] at h
  split
  ·rename_i x hx
   rw [hx] at h;dsimp only at h
   split
   ·exact .inr (.inr (.inl rfl))
   ·rename_i h2; rw [if_neg h2] at h; cases h
  ·rename_i hx
   split at h
   ·rename_i x hx2; exact absurd hx2 (hx x)
   ·cases h
 ·rename_i h1; rw [if_neg h1] at h; cases h
theorem zqp (g : api_Head) (k : Int) (hk : k = 1 ∨ k = 4) (h : ((zkI g k).2 == 0) = true) : okFr (zkI g k).1 := by
 unfold zkI at h ⊢
 split
 ·rename_i h1
  rw [if_pos h1] at h
  split
  ·rcases hk with rfl | rfl
   ·exact .inl rfl
   ·exact .inr (.inr (.inr rfl))
  ·rename_i h2; rw [if_neg h2] at h; exact ztr _ h
 ·rename_i h1
  rw [if_neg h1] at h
  split
  ·rename_i h2; rw [if_pos h2] at h; exact zts _ _ h
  ·rename_i h2; rw [if_neg h2] at h; cases h
theorem zqq (m : Str) (g : api_Head) (h : ((zdH m g).2 == 0) = true) : okFr (zdH m g).1 := by
 unfold zdH at h ⊢
 split
 ·rename_i h1; rw [if_pos h1] at h; exact zqp g 1 (.inl rfl) h
 ·rename_i h1
  rw [if_neg h1] at h
  split
  ·exact .inl rfl
  ·rename_i h2; rw [if_neg h2] at h; exact zqp g 4 (.inr rfl) h
theorem accNew {k : Int} (hk : k = 1 ∨ k = 2) : zkS k 65536 = some (some ⟨k, 65536, [], 0, false, 0, false, zaB⟩, 0) := by rcases hk with rfl | rfl <;> rfl
def zkl : api_Message := ⟨zaB, ⟨0, 0⟩, [], []⟩
def bodyR (method : Str) (s : Str) (ended : Bool) (q : Int × Bool × Int × accum_Accum) (p : api_Head × Bool) : Option (api_Message × Int × Int) :=
 (zdf method p.1).bind fun r162 =>
 if (!(r162.2 == 0)) then some (zkl, 0, r162.2) else (zfc r162.1 65536).bind fun r171 =>
 zlH r171.1 (zdA s q) (fun x173 => bE x173.1 (zbE s ended q p r162 x173.2.f_frame.Kind x173.2.f_frame.N x173.2.f_left x173.2.f_done x173.2.f_bad x173.2.Decoder.f_limit x173.2.Decoder.f_at x173.2.Decoder.f_line x173.2.Decoder.f_left x173.2.Decoder.f_sum x173.2.Decoder.f_spent x173.2.Decoder.f_trailers) (z7 s ended q p r162 x173.2.f_frame.Kind x173.2.f_frame.N x173.2.f_left x173.2.f_done x173.2.f_bad))
theorem znz {k : Int} (hk : k = 1 ∨ k = 2) (method s : Str) (ended : Bool) (hs : s.length < 30000000) :
  zw k method s 65536 ended = (if (!((zmv k 65536 zaB [] 0 false s).2.2.1 == 0)) = true then some (zkl, 0, (zmv k 65536 zaB [] 0 false s).2.2.1) else if (!(zmv k 65536 zaB [] 0 false s).2.1) = true then some (zkl, 0, 6) else
   (zct (zmv k 65536 zaB [] 0 false s).2.2.2).bind (bodyR method s ended (zmv k 65536 zaB [] 0 false s))) := by
 have hf := zys k 65536 zaB [] 0 false s hs (by decide) ⟨yz _, fun h _ => absurd h (by decide)⟩;unfold zw;rw [accNew hk, yob];show zdB method s 65536 ended 0 k 65536 [] 0 false 0 false 0 [] [] 0 [] 0 [] = _;unfold zdB;rw [if_neg (by decide)];show ((zcs ⟨k, 65536, [], ((0 : Nat) : Int), false, 0, false, zaB⟩ s).bind _) = _;rw [hf, yob];rfl
theorem zoZ {h : api_Head} (hk : h.Kind = 1 ∨ h.Kind = 2) (hc : zb7 h = 0) (hl : ((zE h).length : Int) ≤ 65536) {p q : Str} (hpq : zE h = p ++ q) (hq : q ≠ []) (method : Str) (ended : Bool) :
  zw h.Kind method p 65536 ended = some (zkl, 0, 6) := by
 obtain ⟨f', e⟩ := zya hc hl hpq hq;have hpl := congrArg List.length hpq;rw [yla] at hpl;rw [znz hk method p ended (by omega)];unfold zmv;rw [e];rfl
theorem zjh {h : api_Head} (hk : h.Kind = 1 ∨ h.Kind = 2) (hc : zb7 h = 0) (hl : ((zE h).length : Int) ≤ 65536) (hn : h.Fields.length ≤ 1000) (hf : zbq 400000 h.Fields) (method t : Str) (ended : Bool) (ht : t.length < 29000000) {fr : api_Frame} (hfr : zdH method h = (fr, 0)) :
  ∃ a : accum_Accum, zw h.Kind method (zE h ++ t) 65536 ended = (zfc fr 65536).bind fun r171 =>
   zlH r171.1 (zdA (zE h ++ t) (((zE h).length : Int), true, 0, a)) (fun x173 => bE x173.1 (zbE (zE h ++ t) ended (((zE h).length : Int), true, 0, a) (h, true) (fr, 0) x173.2.f_frame.Kind x173.2.f_frame.N x173.2.f_left x173.2.f_done x173.2.f_bad x173.2.Decoder.f_limit x173.2.Decoder.f_at x173.2.Decoder.f_line x173.2.Decoder.f_left x173.2.Decoder.f_sum x173.2.Decoder.f_spent x173.2.Decoder.f_trailers) (z7 (zE h ++ t) ended (((zE h).length : Int), true, 0, a) (h, true) (fr, 0) x173.2.f_frame.Kind x173.2.f_frame.N x173.2.f_left x173.2.f_done x173.2.f_bad)) := by
 obtain ⟨z, f', e, z1, z2, z3⟩ := zsp hc hl t
 have hfeed : zmv h.Kind 65536 zaB [] 0 false (zE h ++ t) = (((zE h).length : Int), true, 0, ⟨h.Kind, 65536, [], (z.f : Int), true, 0, true, h⟩) := by
  unfold zmv;rw [e];dsimp only;rw [z1, z2, z3]
 refine ⟨⟨h.Kind, 65536, [], (z.f : Int), true, 0, true, h⟩, ?_⟩;rw [znz hk method _ ended (by rw [yla]; omega), hfeed];dsimp only;have e0 : (!((0 : Int) == 0)) = false := rfl;rw [e0, if_neg yfn, ynt, if_neg yfn, zyt _ (by dsimp only; omega), yob];unfold zxj bodyR;dsimp only;rw [if_pos rfl];dsimp only;rw [ziV _ _ hn hf, hfr, yob];dsimp only;rw [e0, if_neg yfn]
theorem zkV (a t : Str) : ze4 (a ++ t) (a.length : Int) = some t := by
 rw [zcR (by simp), List.drop_left]
def behind (method : Str) (h : api_Head) (t : Str) (ended : Bool) (r : Option (api_Message × Int × Int)) : Prop := zw h.Kind method (zE h ++ t) 65536 ended = r
section
variable {h : api_Head} {method t : Str} {ended : Bool}
theorem zuV (hk : h.Kind = 1 ∨ h.Kind = 2) (hc : zb7 h = 0) (hl : ((zE h).length : Int) ≤ 65536) (hn : h.Fields.length ≤ 1000) (hf : zbq 400000 h.Fields) (ht : t.length < 29000000) (hfr : zdH method h = (⟨1, 0⟩, 0)) :
  zw h.Kind method (zE h ++ t) 65536 ended = some (⟨h, ⟨1, 0⟩, [], []⟩, ((zE h).length : Int), 0) := by
 obtain ⟨a, e⟩ := zjh hk hc hl hn hf method t ended ht hfr;have hb : zfc ⟨1, 0⟩ 65536 = some (some (false, ⟨default, ⟨1, 0⟩, 0, true, false⟩), 0) := rfl;have hr : ∀ h' : api_Head, zB ⟨⟨default, ⟨1, 0⟩, 0, true, false⟩, ⟨h', ⟨1, 0⟩, [], []⟩⟩ t ended = some (0, 0, ⟨⟨default, ⟨1, 0⟩, 0, true, false⟩, ⟨h', ⟨1, 0⟩, [], []⟩⟩) := fun h' => rfl;rw [e, hb, yob];show z7 (zE h ++ t) ended (((zE h).length : Int), true, 0, a) (h, true) (⟨1, 0⟩, 0) 1 0 0 true false = _;unfold z7;dsimp only;rw [zkV, yob, hr, yob];dsimp only;rw [if_neg (by decide), zes (by omega) (by omega), yob, Int.add_zero]
theorem zyc (n : Nat) (hn : n < 1000000) : zfc ⟨2, (n : Int)⟩ 65536 = some (some (false, ⟨default, ⟨2, (n : Int)⟩, (n : Int), ((n : Int) == 0), false⟩), 0) := by
 have h1 : ¬ ((n : Int) < 0) := by omega
 have h2 : ¬ ((1099511627776 : Int) < (n : Int)) := by omega
 have hd : zh9 65536 = some (some (d0 65536), 0) := rfl;unfold zfc;rw [hd, yob];show zgX ⟨2, (n : Int)⟩ 0 65536 0 [] 0 0 0 [] = _;unfold zgX;dsimp only;rw [show (!((0 : Int) == 0)) = false from rfl, if_neg yfn, ydf (show ¬ ((2 : Int) < 1) by decide), if_neg yfn, ydf (show ¬ ((4 : Int) < 2) by decide), if_neg yfn, ydf h1, if_neg yfn, ydf h2];rfl
theorem zw3 (h' : api_Head) (n : Nat) (hn : n < 1000000) (ht : t.length < 29000000) : ∃ b : body_Body, zB ⟨⟨default, ⟨2, (n : Int)⟩, (n : Int), ((n : Int) == 0), false⟩, ⟨h', ⟨2, (n : Int)⟩, [], []⟩⟩ t ended =
  some (if n ≤ t.length then ((n : Int), 0, ⟨b, ⟨h', ⟨2, (n : Int)⟩, t.take n, []⟩⟩) else (0, 6, ⟨b, ⟨h', ⟨2, (n : Int)⟩, t, []⟩⟩)) := by
 by_cases h0 : n = 0
 ·subst h0;refine ⟨⟨default, ⟨2, 0⟩, 0, true, false⟩, ?_⟩;rw [if_pos (yz _), List.take_zero];rfl
 ·have hz : ((n : Int) == 0) = false := by rw [beq_eq_false_iff_ne]; omega
  unfold zB zbi;dsimp only;rw [hz, yob, ynf, if_pos rfl];unfold zci;dsimp only;rw [if_neg yfn];unfold zba;dsimp only;rw [if_neg yfn, if_neg (by decide), if_pos (by decide)]
  by_cases hle : n ≤ t.length
  ·have e1 : min (t.length : Int) (n : Int) = (n : Int) := by omega
   have e2 : ((n : Int) - (n : Int) == 0) = true := by rw [Int.sub_self]; rfl
   refine ⟨⟨default, ⟨2, (n : Int)⟩, (n : Int) - (n : Int), true, false⟩, ?_⟩;rw [e1, zb6 (by omega) (by omega), yob, e2];unfold zQ;rw [zeY hle, yob, yob, if_pos hle];rfl
  ·have e1 : min (t.length : Int) (n : Int) = (t.length : Int) := by omega
   have e2 : ((n : Int) - (t.length : Int) == 0) = false := by rw [beq_eq_false_iff_ne]; omega
   refine ⟨⟨default, ⟨2, (n : Int)⟩, (n : Int) - (t.length : Int), false, false⟩, ?_⟩;rw [e1, zb6 (by omega) (by omega), yob, e2];unfold zQ;rw [zeY (Nat.le_refl _), List.take_length, yob, yob, if_neg hle];rfl
theorem zsq (hk : h.Kind = 1 ∨ h.Kind = 2) (hc : zb7 h = 0) (hl : ((zE h).length : Int) ≤ 65536) (hn : h.Fields.length ≤ 1000) (hf : zbq 400000 h.Fields) (ht : t.length < 29000000) {n : Nat} (hnn : n < 1000000) (hfr : zdH method h = (⟨2, (n : Int)⟩, 0)) :
  zw h.Kind method (zE h ++ t) 65536 ended = some (if n ≤ t.length then (⟨h, ⟨2, (n : Int)⟩, t.take n, []⟩, (((zE h).length + n : Nat) : Int), 0) else (zkl, 0, 6)) := by
 obtain ⟨a, e⟩ := zjh hk hc hl hn hf method t ended ht hfr;obtain ⟨b, hr⟩ := zw3 (t := t) (ended := ended) h n hnn ht;rw [e, zyc n hnn, yob];show z7 (zE h ++ t) ended (((zE h).length : Int), true, 0, a) (h, true) (⟨2, (n : Int)⟩, 0) 2 (n : Int) (n : Int) ((n : Int) == 0) false = _;unfold z7;dsimp only;rw [zkV, yob, hr, yob]
 by_cases hle : n ≤ t.length
 ·rw [if_pos hle, if_pos hle];dsimp only;rw [if_neg (by decide), zga (by omega), yob]
 ·rw [if_neg hle, if_neg hle];rfl
theorem ztt (hk : h.Kind = 1 ∨ h.Kind = 2) (hc : zb7 h = 0) (hl : ((zE h).length : Int) ≤ 65536) (hn : h.Fields.length ≤ 1000) (hf : zbq 400000 h.Fields) (ht : t.length < 29000000) (hfr : zdH method h = (⟨4, 0⟩, 0)) :
  zw h.Kind method (zE h ++ t) 65536 true = some (⟨h, ⟨4, 0⟩, t, []⟩, (((zE h).length + t.length : Nat) : Int), 0) := by
 obtain ⟨a, e⟩ := zjh hk hc hl hn hf method t true ht hfr;have hb : zfc ⟨4, 0⟩ 65536 = some (some (false, ⟨default, ⟨4, 0⟩, 0, false, false⟩), 0) := rfl
 have hr : zB ⟨⟨default, ⟨4, 0⟩, 0, false, false⟩, ⟨h, ⟨4, 0⟩, [], []⟩⟩ t true = some ((t.length : Int), 0, ⟨⟨default, ⟨4, 0⟩, 0, true, false⟩, ⟨h, ⟨4, 0⟩, t, []⟩⟩) := by
  have hx : zci ⟨default, ⟨4, 0⟩, 0, false, false⟩ t = some ((t.length : Int), t, false, 0, ⟨default, ⟨4, 0⟩, 0, false, false⟩) := by
   show zQ ⟨default, ⟨4, 0⟩, 0, false, false⟩ t (t.length : Int) 0 false = _;unfold zQ;rw [zeY (Nat.le_refl _), List.take_length, yob]
  unfold zB zbi;dsimp only;rw [yob, ynf, if_pos rfl, hx, yob];rfl
 rw [e, hb, yob];show z7 (zE h ++ t) true (((zE h).length : Int), true, 0, a) (h, true) (⟨4, 0⟩, 0) 4 0 0 false false = _;unfold z7;dsimp only;rw [zkV, yob, hr, yob];dsimp only;rw [if_neg (by decide), zga (by omega), yob]
theorem ztu {n : Int} {o : Str} {t1 : Bool} {d : dechunk_Decoder} (hf : zH (d0 65536) t = some (n, o, t1, 0, d)) (ht : t1 = true → d.f_trailers.length < 1000000) :
  ∃ b : body_Body, zbh ⟨⟨d0 65536, ⟨3, 0⟩, 0, false, false⟩, ⟨h, ⟨3, 0⟩, [], []⟩⟩ t ended = some (if t1 = true then (n, 0, ⟨b, ⟨h, ⟨3, 0⟩, o, d.f_trailers⟩⟩) else (0, 6, ⟨b, ⟨h, ⟨3, 0⟩, o, []⟩⟩)) := by
 have hx : zfZ ⟨d0 65536, ⟨3, 0⟩, 0, false, false⟩ t = some (n, o, t1, 0, ⟨d, ⟨3, 0⟩, 0, t1, false⟩) := by
  show ((zH (d0 65536) t).bind _) = _;rw [hf, yob];rfl
 unfold zbh zdw;dsimp only;rw [yob, ynf, if_pos rfl, hx, yob];dsimp only;rw [if_neg (by decide)];unfold za9;dsimp only;rw [if_neg (by decide)];unfold za8;rw [if_neg yfn];unfold za7 zdw;dsimp only;rw [yob]
 cases t1 with
 | true =>
  refine ⟨⟨⟨d.f_limit, d.f_at, d.f_line, d.f_left, d.f_sum, d.f_spent, d.f_trailers⟩, ⟨3, 0⟩, 0, true, false⟩, ?_⟩;rw [ynt, if_neg yfn, if_pos rfl];unfold zdT zbL;have htr := ht rfl;dsimp only;rw [if_pos (zcn (by omega) (by omega)), yob, yob]
 | false =>
  refine ⟨⟨⟨d.f_limit, d.f_at, d.f_line, d.f_left, d.f_sum, d.f_spent, d.f_trailers⟩, ⟨3, 0⟩, 0, false, false⟩, ?_⟩;rw [ynf, if_pos rfl, if_neg yfn]
theorem zo0 (hk : h.Kind = 1 ∨ h.Kind = 2) (hc : zb7 h = 0) (hl : ((zE h).length : Int) ≤ 65536) (hn : h.Fields.length ≤ 1000) (hf : zbq 400000 h.Fields) (ht : t.length < 29000000) (hfr : zdH method h = (⟨3, 0⟩, 0))
  {n : Nat} {o : Str} {t1 : Bool} {d : dechunk_Decoder} (hfd : zH (d0 65536) t = some ((n : Int), o, t1, 0, d)) (htr : t1 = true → d.f_trailers.length < 1000000) (hnl : n ≤ t.length) :
  zw h.Kind method (zE h ++ t) 65536 ended = some (if t1 = true then (⟨h, ⟨3, 0⟩, o, d.f_trailers⟩, (((zE h).length + n : Nat) : Int), 0) else (zkl, 0, 6)) := by
 obtain ⟨a, e⟩ := zjh hk hc hl hn hf method t ended ht hfr;obtain ⟨b, hr⟩ := ztu (h := h) (ended := ended) hfd htr;have hb : zfc ⟨3, 0⟩ 65536 = some (some (true, ⟨d0 65536, ⟨3, 0⟩, 0, false, false⟩), 0) := rfl;rw [e, hb, yob];show zbE (zE h ++ t) ended (((zE h).length : Int), true, 0, a) (h, true) (⟨3, 0⟩, 0) 3 0 0 false false 65536 0 [] 0 0 0 [] = _;unfold zbE;dsimp only;rw [zkV, yob];show ((zbh ⟨⟨d0 65536, ⟨3, 0⟩, 0, false, false⟩, ⟨h, ⟨3, 0⟩, [], []⟩⟩ t ended).bind _) = _;rw [hr, yob]
 cases t1 with
 | true =>
  rw [if_pos rfl, if_pos rfl];dsimp only;rw [if_neg (by decide), zga (by omega), yob]
 | false =>
  rw [if_neg yfn, if_neg yfn];rfl
end
theorem few22B (m : api_Message) (hc : inI m.Head.Code = true) (hmi : inI m.Head.Minor = true) (hl : m.Head.Fields.length < 1000000000) (ht : m.Trailers.length < 1000000000) : ∃ g, zgz m = some g ∧ SmallM g ∧ (∀ f ∈ g.Trailers, (zF f).length ≤ 252) := by
 obtain ⟨g, e, hs⟩ := few22 m hc hmi hl ht;refine ⟨g, e, hs, ?_⟩;unfold zgz at e;rw [zmm _ hl, yob, zoU, yob, zml _ ht, yob] at e;cases e;intro f hf;obtain ⟨g, _, rfl⟩ := List.mem_map.1 hf;have := zmP ⟨g.Name.take 50, g.Value.take 200⟩;simp only [ylt] at this;omega
theorem zw4 : ∀ {fs : List api_Field}, (∀ f ∈ fs, (zF f).length ≤ 252) → spF fs ≤ 254 * fs.length
 | [], _ => by simp [spF]
 | f :: fs, h => by
  have h1 := h f (List.mem_cons_self ..);have h2 := zw4 (fs := fs) fun x hx => h x (List.mem_cons_of_mem _ hx);unfold spF;rw [ylc];omega
structure Parts (method : Str) (m : api_Message) : Prop where
 head : zb7 m.Head = 0
 kind : m.Head.Kind = 1 ∨ m.Head.Kind = 2
 frame : zdH method m.Head = (m.Frame, 0)
 fits : zkg m = true
 last : (zh5 m.Trailers).2 = 0
theorem zre {method : Str} {m : api_Message} (h : (zhI method m == 0) = true) : Parts method m := by
 have h0 : zhI method m = 0 := by simpa using h
 have hh : zb7 m.Head = 0 := by simpa using zny h
 unfold zhI at h0;rw [hh, if_pos (by decide)] at h0
 cases e1 : (zdH method m.Head).2 == 0 with
 | false =>
  rw [e1, if_neg yfn] at h0;rw [h0] at e1; cases e1
 | true =>
  rw [e1, if_pos rfl] at h0
  cases e2 : (zdH method m.Head).1 == m.Frame with
  | false => rw [e2, if_neg yfn] at h0; cases h0
  | true =>
   rw [e2, if_pos rfl] at h0
   cases e3 : zkg m with
   | false => rw [e3, if_neg yfn] at h0; cases h0
   | true =>
    rw [e3, if_pos rfl] at h0;exact ⟨hh, (zn7 (zhk hh).1).kind, Prod.ext (by simpa using e2) (by simpa using e1), e3, h0⟩
def zgj (m : api_Message) (size : Int) : Str := if m.Frame.Kind == 3 then (zoM size m.Body m.Trailers).1 else m.Body
theorem znA {l : List api_Field} (h : (zh5 l).2 = 0) : (∀ f ∈ l, zbv f = 0) ∧ l.length ≤ 100 ∧ (zh5 l).1 = 48 :: 13 :: 10 :: zZ l := by
 unfold zh5 at h ⊢
 cases e : zhD l == 0 with
 | false =>
  rw [e, if_neg yfn] at h;dsimp only at h;rw [h] at e; cases e
 | true =>
  rw [e, if_pos rfl] at h
  by_cases h1 : 100 < l.length
  ·rw [if_pos h1] at h; cases h
  ·refine ⟨fun f hf => by simpa using zse e f hf, by omega, ?_⟩;rw [if_pos rfl, if_neg h1]
theorem zqr {size : Int} {b : Str} {tr : List api_Field} (h1 : 1 ≤ size) (h2 : size ≤ 65536) (h : (zh5 tr).2 = 0) : zoM size b tr = ((zd0 601 size.toNat b).1 ++ (zg6 (zd0 601 size.toNat b).2 ++ 48 :: 13 :: 10 :: zZ tr), 0) := by
 unfold zoM;rw [ydf (by omega), ydf (by omega), Bool.or_false, if_neg yfn, h, if_pos (by decide), (znA h).2.2]
theorem zqs {m : api_Message} {method : Str} (hs : SmallM m) (ht : ∀ f ∈ m.Trailers, (zF f).length ≤ 252) (hp : Parts method m) {size : Int} (h1 : 1 ≤ size) (h2 : size ≤ 65536) (hk : m.Frame = ⟨3, 0⟩) :
  ∃ g, zgj m size = g ++ [10] ∧ Seg g [] (d0 65536) m.Body ⟨65536, 3, [13], 0, (m.Body.length : Int), spF m.Trailers + 1, m.Trailers⟩ ∧ spF m.Trailers + 2 ≤ 65536 := by
 obtain ⟨l1, l2, l3⟩ := znA hp.last;have hsp := zw4 ht;have hb := hs.body;obtain ⟨g, e, s⟩ := zxY 65536 (by decide) size.toNat (by omega) m.Body (by omega) m.Trailers (fun f hf => ⟨l1 f hf, by have := ht f hf; omega⟩) (by omega) l2;refine ⟨g, ?_, s, by omega⟩;unfold zgj;rw [hk, if_pos (by decide), zqr h1 h2 hp.last];exact e
theorem zna {m : api_Message} (hs : SmallM m) (size : Int) : (zgj m size).length ≤ 4000000 := by
 have h1 := hs.tlen;have h2 := hs.body;unfold zgj
 split
 ·exact zsm (by omega) (by omega) (zW (by decide) hs.trailers)
 ·omega
theorem ztv {method : Str} {m : api_Message} (hs : SmallM m) (ht : ∀ f ∈ m.Trailers, (zF f).length ≤ 252) (hp : Parts method m) (hl : ((zE m.Head).length : Int) ≤ 65536) {size : Int} (h1 : 1 ≤ size) (h2 : size ≤ 65536) (b : Str) (hb : b.length ≤ 24900000) (ended : Bool) (hk4 : (m.Frame.Kind == 4) = true → b = [] ∧ ended = true) :
  zw m.Head.Kind method (zE m.Head ++ zgj m size ++ b) 65536 ended = some (m, ((zE m.Head ++ zgj m size).length : Int), 0) := by
 have g1 := hs.len;have g2 := hs.body;have g3 := zna hs size;have hfi := hp.fits
 have hlt : (zgj m size ++ b).length < 29000000 := by rw [yla]; omega
 have hfr := zqq method m.Head (by rw [hp.frame]; rfl);rw [hp.frame] at hfr;rw [yaa, yla];obtain ⟨hd, fr, body, tr⟩ := m;have hff := hp.frame
 dsimp only at *
 rcases hfr with rfl | ⟨n, rfl⟩ | rfl | rfl
 ·unfold zkg at hfi;dsimp only at hfi;rw [if_pos (by decide), Bool.and_eq_true, beq_iff_eq, beq_iff_eq] at hfi;obtain ⟨rfl, rfl⟩ := hfi;rw [zuV (h := hd) hp.kind hp.head hl (by omega) (zW (by decide) hs.fields) hlt hff];rfl
 ·unfold zkg at hfi;dsimp only at hfi;rw [if_neg (by decide), if_pos (by decide), Bool.and_eq_true, beq_iff_eq, beq_iff_eq] at hfi;obtain ⟨rfl, rfl⟩ := hfi;have et : zgj ⟨hd, ⟨2, (body.length : Int)⟩, body, []⟩ size = body := rfl;rw [et] at hlt ⊢;rw [zsq (h := hd) hp.kind hp.head hl (by omega) (zW (by decide) hs.fields) hlt (by omega) hff, if_pos (by simp), List.take_left]
 ·obtain ⟨g, e, s, hsp⟩ := zqs hs ht hp h1 h2 rfl;have := zja tr;have hsp : spF tr + 2 ≤ 65536 := hsp;rw [e] at hlt ⊢;have hfd := zuD s (by dsimp only; omega) (by dsimp only; omega) (by decide) (by dsimp only; omega) b (by omega);rw [zo0 (h := hd) hp.kind hp.head hl (by omega) (zW (by decide) hs.fields) hlt hff hfd (fun _ => by have := hs.tlen; dsimp only at this ⊢; omega) (by simp), if_pos rfl]
 ·obtain ⟨hb0, he0⟩ := hk4 (by decide);subst hb0;subst he0;unfold zkg at hfi;dsimp only at hfi;rw [if_neg (by decide), if_neg (by decide), if_pos (by decide), beq_iff_eq] at hfi;subst hfi;have et : zgj ⟨hd, ⟨4, 0⟩, body, []⟩ size = body := rfl;rw [et] at hlt ⊢;rw [ztt (h := hd) hp.kind hp.head hl (by omega) (zW (by decide) hs.fields) hlt hff, yan]
theorem znS (m : api_Message) (h1 : m.Head.Fields.length < 1000000) (h2 : m.Trailers.length < 1000000) : zhP m m = some true := by
 unfold zhP;rw [zp0 _ _ (by omega), yob, ztL, if_pos rfl, ybs, if_pos rfl, ybs, if_pos rfl, zll _ _ (by omega), yob, ybs];rfl
theorem zuW {method : Str} {m : api_Message} (hs : SmallM m) (ht : ∀ f ∈ m.Trailers, (zF f).length ≤ 252) (hp : Parts method m) (hl : ((zE m.Head).length : Int) ≤ 65536) {size : Int} (h1 : 1 ≤ size) (h2 : size ≤ 65536) (hk4 : (m.Frame.Kind == 4) = false) {p q : Str} (hpq : zE m.Head ++ zgj m size = p ++ q) (hq : q ≠ []) (ended : Bool) :
  zw m.Head.Kind method p 65536 ended = some (zkl, 0, 6) := by
 have g1 := hs.len;have g2 := hs.body;have g3 := zna hs size;have hfi := hp.fits;have hql : 0 < q.length := List.length_pos_iff.2 hq;have hfr := zqq method m.Head (by rw [hp.frame]; rfl);rw [hp.frame] at hfr
 have bodyCase : ∀ a', p = zE m.Head ++ a' → zgj m size = a' ++ q → zw m.Head.Kind method p 65536 ended = some (zkl, 0, 6) := by
  intro a' e1 e2;subst e1;have hlen := congrArg List.length e2;rw [yla] at hlen;have hff := hp.frame;obtain ⟨hd, fr, body, tr⟩ := m
  dsimp only at *
  rcases hfr with rfl | ⟨n, rfl⟩ | rfl | rfl
  ·unfold zkg at hfi;dsimp only at hfi;rw [if_pos (by decide), Bool.and_eq_true, beq_iff_eq, beq_iff_eq] at hfi;obtain ⟨rfl, rfl⟩ := hfi;have et : zgj ⟨hd, ⟨1, 0⟩, [], []⟩ size = [] := rfl;rw [et] at hlen;simp only [yln] at hlen;omega
  ·unfold zkg at hfi;dsimp only at hfi;rw [if_neg (by decide), if_pos (by decide), Bool.and_eq_true, beq_iff_eq, beq_iff_eq] at hfi;obtain ⟨rfl, rfl⟩ := hfi;have et : zgj ⟨hd, ⟨2, (body.length : Int)⟩, body, []⟩ size = body := rfl;rw [et] at hlen;rw [zsq (h := hd) hp.kind hp.head hl (by omega) (zW (by decide) hs.fields) (by omega) (by omega) hff, if_neg (by omega)]
  ·obtain ⟨g, e, s, hsp⟩ := zqs hs ht hp h1 h2 rfl;rw [e] at e2;obtain ⟨o2, d2, hfd⟩ := zwR s a' q e2 hq (by omega);rw [zo0 (h := hd) hp.kind hp.head hl (by omega) (zW (by decide) hs.fields) (by omega) hff hfd (fun h => by cases h) (Nat.le_refl _), if_neg yfn]
  ·cases hk4
 rcases List.append_eq_append_iff.1 hpq with ⟨a', e1, e2⟩ | ⟨c', e1, e2⟩
 ·exact bodyCase a' e1 e2
 ·by_cases hc : c' = []
  ·subst hc;rw [yan] at e1;rw [yna] at e2;exact bodyCase [] (by rw [yan]; exact e1.symm) (by rw [yna]; exact e2.symm)
  ·exact zoZ hp.kind hp.head hl e1 hc method ended
end Go.Dm
end
section
namespace Go.Dm
theorem zuI {s : Str} {x : api_Head} (h : zbO 1 s = (x, 0)) : x.Code = 0 := by
 unfold zbO zpC at h
 split at h
 ·exact absurd (show (1 : Int) = 0 from congrArg Prod.snd h) (by decide)
 ·split at h
  ·exact absurd (show (24 : Int) = 0 from congrArg Prod.snd h) (by decide)
  ·rw [if_pos (by decide)] at h
   split at h
   ·exact absurd (show (26 : Int) = 0 from congrArg Prod.snd h) (by decide)
   ·split at h
    ·cases h; rfl
    ·exact absurd (show (20 : Int) = 0 from congrArg Prod.snd h) (by decide)
theorem zqk {h : api_Head} {fr : api_Frame} (hk : h.Kind = 1) (hf : zdH [] h = (fr, 0)) : (fr.Kind == 4) = false := by
 unfold zdH at hf;rw [hk, if_pos (by decide)] at hf;unfold zkI at hf
 split at hf
 ·split at hf
  ·cases hf; rfl
  ·unfold zjr at hf
   split at hf
   ·cases hf
   ·cases hf
   ·split at hf
    ·cases hf; rfl
    ·cases hf
 ·split at hf
  ·unfold zjs at hf
   split at hf
   ·split at hf
    ·split at hf
     ·cases hf; rfl
     ·cases hf
    ·cases hf
   ·cases hf
  ·cases hf
theorem zuJ {method : Str} {m : api_Message} {size lim : Int} (h1 : 1 ≤ size) (h2 : size ≤ 65536) (h : ((zm8 method m lim size).2 == 0) = true) :
  Parts method m ∧ ((zE m.Head).length : Int) ≤ lim ∧ zm8 method m lim size = (zE m.Head ++ zgj m size, 0) := by
 unfold zm8 at h ⊢;unfold zgj
 cases e1 : zhI method m == 0 with
 | false => rw [e1, if_neg yfn] at h; dsimp only at h; rw [h] at e1; cases e1
 | true =>
  rw [e1, if_pos rfl] at h
  by_cases e2 : ((zE m.Head).length : Int) ≤ lim
  ·have hp := zre e1;refine ⟨hp, e2, ?_⟩;rw [if_pos rfl, if_pos e2]
   cases m.Frame.Kind == 3 with
   | true => rw [zqr h1 h2 hp.last]; rfl
   | false => rfl
  ·rw [if_neg e2] at h; cases h
structure GoodR (m : api_Message) (t : Str) : Prop where
 small : SmallM m
 trail : ∀ f ∈ m.Trailers, (zF f).length ≤ 252
 parts : Parts [] m
 len : ((zE m.Head).length : Int) ≤ 9000
 txt : t = zE m.Head ++ zgj m 7
 kind : m.Head.Kind = 1
 meth : (m.Head.Method == [67, 79, 78, 78, 69, 67, 84]) = false
theorem GoodR.code {m : api_Message} {t : Str} (h : GoodR m t) : (m.Head.Code == 101) = false := by
 obtain ⟨_, x, e, _, _, _, _, k5, _⟩ := zlX (zhk h.parts.head).1;rw [h.kind] at e;rw [← k5, zuI e]; rfl
theorem GoodR.tlen {m : api_Message} {t : Str} (h : GoodR m t) : t.length ≤ 4009000 := by
 have h1 := zna h.small 7;have h2 := h.len;rw [h.txt, yla]; omega
theorem GoodR.back {m : api_Message} {t : Str} (h : GoodR m t) (b : Str) (hb : b.length ≤ 24900000) : zw 1 [] (t ++ b) 65536 false = some (m, (t.length : Int), 0) := by
 have h1 := ztv h.small h.trail h.parts (by have := h.len; omega) (size := 7) (by decide) (by decide) b hb false (fun h4 => by rw [zqk h.kind h.parts.frame] at h4; cases h4);rw [h.kind, ← h.txt] at h1;exact h1
theorem GoodR.cut {m : api_Message} {t p q : Str} (h : GoodR m t) (hpq : t = p ++ q) (hq : q ≠ []) : zw 1 [] p 65536 false = some (zkl, 0, 6) := by
 have h1 := zuW h.small h.trail h.parts (by have := h.len; omega) (size := 7) (by decide) (by decide) (zqk h.kind h.parts.frame) (p := p) (q := q) (by rw [← h.txt]; exact hpq) hq false;rw [h.kind] at h1;exact h1
theorem zwS {s rem : Str} {at_ k : Nat} {lim kd : Int} {me : Str} {en : Bool} {m : api_Message} (hat : at_ ≤ s.length) (hd : s.drop at_ = rem) (hp : zw kd me rem lim en = some (m, (k : Int), 0)) (hm : (m.Head.Method == [67, 79, 78, 78, 69, 67, 84]) = false) (hc : (m.Head.Code == 101) = false) (hk : at_ + k < 4611686018427387904) :
  zbc ⟨s, (at_ : Int), lim, en⟩ kd me = some (m, 0, ⟨s, ((at_ + k : Nat) : Int), lim, en⟩) := by
 unfold zbc;dsimp only;rw [zcR hat, yob, hd, hp, yob];dsimp only;rw [if_neg (by decide), hm, if_neg yfn, hc];unfold zbX;dsimp only;rw [if_neg yfn, zga hk, yob]
theorem zxZ {s rem : Str} {at_ : Nat} {lim kd k e : Int} {me : Str} {en : Bool} {m : api_Message} (hat : at_ ≤ s.length) (hd : s.drop at_ = rem) (hp : zw kd me rem lim en = some (m, k, e)) (he : (e == 0) = false) :
  zbc ⟨s, (at_ : Int), lim, en⟩ kd me = some (m, e, ⟨s, (at_ : Int), lim, en⟩) := by
 unfold zbc;dsimp only;rw [zcR hat, yob, hd, hp, yob];dsimp only;rw [he, if_pos (by decide)]
def za4 (K : List (api_Message × Str)) : Str := (K.map (·.2)).flatten
def zfM (K : List (api_Message × Str)) : List api_Message := K.map (·.1)
theorem ztl : zw 1 [] [] 65536 false = some (zkl, 0, 6) := by decide +kernel
theorem zjc : ∀ {K : List (api_Message × Str)}, (∀ p ∈ K, GoodR p.1 p.2) → (za4 K).length ≤ 4009000 * K.length
 | [], _ => by simp [za4]
 | p :: K, h => by
  have h1 := (h p (List.mem_cons_self ..)).tlen;have h2 := zjc (K := K) fun q hq => h q (List.mem_cons_of_mem _ hq)
  have e : za4 (p :: K) = p.2 ++ za4 K := by simp [za4]
  rw [e, yla, ylc]; omega
theorem ztX {s : Str} {acc : List api_Message} {n at_ : Nat} (hat : at_ ≤ s.length) (hp : zw 1 [] (s.drop at_) 65536 false = some (zkl, 0, 6)) :
  zL s (n + 1) acc s (at_ : Int) 65536 false = some (acc, (at_ : Int), if at_ = s.length then 0 else 6) := by
 rw [zL, zxZ hat rfl hp (by decide), yob];dsimp only;rw [if_pos (by decide)];unfold zaS zcI;dsimp only
 by_cases h : at_ = s.length
 ·rw [if_pos h, h, ybs, if_pos rfl]
 ·have h2 : ((at_ : Int) == (s.length : Int)) = false := by rw [beq_eq_false_iff_ne]; omega
  rw [if_neg h, h2, if_neg yfn, if_neg (by decide)]
theorem zq4 (s : Str) (hs : s.length ≤ 24900000) : ∀ (K : List (api_Message × Str)) (rem q : Str) (acc : List api_Message) (n at_ : Nat), (∀ p ∈ K, GoodR p.1 p.2) → za4 K = rem ++ q → at_ ≤ s.length → s.drop at_ = rem → K.length < n → acc.length + K.length ≤ 6 →
  ∃ (j at' : Nat) (e : Int), j ≤ K.length ∧ zL s n acc s (at_ : Int) 65536 false = some (acc ++ (zfM K).take j, (at' : Int), e) ∧ at' ≤ s.length ∧ (e = 0 ∨ e = 6) ∧ (q = [] → j = K.length ∧ at' = s.length ∧ e = 0)
 | [], rem, q, acc, n + 1, at_, _, ht, hat, hd, _, _ => by
  have hr : rem = [] := by
   have := congrArg List.length ht;simp [za4] at this;exact List.length_eq_zero_iff.1 (by omega)
  subst hr
  have hal : at_ = s.length := by have := congrArg List.length hd; rw [yld] at this; simp at this; omega
  refine ⟨0, at_, 0, Nat.le_refl _, ?_, hat, .inl rfl, fun _ => ⟨rfl, hal, rfl⟩⟩;rw [ztX hat (by rw [hd]; exact ztl), if_pos hal];simp [zfM]
 | (m, t) :: K, rem, q, acc, n + 1, at_, hg, ht, hat, hd, hn, ha => by
  have g := hg (m, t) (List.mem_cons_self ..);have hK : ∀ p ∈ K, GoodR p.1 p.2 := fun p hp => hg p (List.mem_cons_of_mem _ hp)
  have e0 : za4 ((m, t) :: K) = t ++ za4 K := by simp [za4]
  have em : zfM ((m, t) :: K) = m :: zfM K := rfl
  have hrl : at_ + rem.length = s.length := by rw [← hd, yld]; omega
  rw [e0] at ht;rw [ylc] at ha hn
  rcases List.append_eq_append_iff.1 ht with ⟨r', e1, e2⟩ | ⟨c', e1, e2⟩
  ·-- the whole text is there
   subst e1;have hp := g.back r' (by rw [yla] at hrl; omega);have h1 := zwS (k := t.length) hat hd hp g.meth g.code (by rw [yla] at hrl; omega)
   have hd' : s.drop (at_ + t.length) = r' := by rw [← List.drop_drop, hd, List.drop_left]
   obtain ⟨j, at', e, k1, k2, k3, k4, k5⟩ := zq4 s hs K r' q (acc ++ [m]) n (at_ + t.length) hK e2 (by rw [yla] at hrl; omega) hd' (by omega) (by rw [yla]; simp; omega);refine ⟨j + 1, at', e, by rw [ylc]; omega, ?_, k3, k4, fun hq => ?_⟩
   ·rw [zL, h1, yob];dsimp only;rw [if_neg (by decide)];unfold zaS;dsimp only;rw [if_neg yfn, if_pos (by decide), if_pos (by unfold zA; simp; omega), k2, em, List.take_succ_cons, yaa];rfl
   ·obtain ⟨a, b, c⟩ := k5 hq;exact ⟨by rw [ylc, a], b, c⟩
  ·by_cases hc : c' = []
   ·subst hc;rw [yan] at e1;rw [yna] at e2;subst e1;have hp := g.back [] (by simp);rw [yan] at hp;have h1 := zwS (k := t.length) hat hd hp g.meth g.code (by omega)
    have hd' : s.drop (at_ + t.length) = [] := by rw [← List.drop_drop, hd, ydl]
    obtain ⟨j, at', e, k1, k2, k3, k4, k5⟩ := zq4 s hs K [] q (acc ++ [m]) n (at_ + t.length) hK (by rw [yna]; exact e2.symm) (by omega) hd' (by omega) (by rw [yla]; simp; omega);refine ⟨j + 1, at', e, by rw [ylc]; omega, ?_, k3, k4, fun hq => ?_⟩
    ·rw [zL, h1, yob];dsimp only;rw [if_neg (by decide)];unfold zaS;dsimp only;rw [if_neg yfn, if_pos (by decide), if_pos (by unfold zA; simp; omega), k2, em, List.take_succ_cons, yaa];rfl
    ·obtain ⟨a, b, c⟩ := k5 hq;exact ⟨by rw [ylc, a], b, c⟩
   ·-- cut
    have hp := g.cut e1 hc;refine ⟨0, at_, if at_ = s.length then 0 else 6, yz _, ?_, hat, ?_, fun hq => ?_⟩
    ·rw [ztX hat (by rw [hd]; exact hp)];simp
    ·split
     ·exact .inl rfl
     ·exact .inr rfl
    ·subst hq;exact absurd (List.append_eq_nil_iff.1 e2.symm).1 hc
 | [], _, _, _, 0, _, _, _, _, _, hn, _ => by simp at hn
 | _ :: _, _, _, _, 0, _, _, _, _, _, hn, _ => by simp at hn
theorem zme {K : List (api_Message × Str)} (hg : ∀ p ∈ K, GoodR p.1 p.2) (hl : K.length ≤ 6) {s q : Str} (hs : za4 K = s ++ q) :
  ∃ (j at' : Nat) (e : Int), j ≤ K.length ∧ zcb s 65536 = some ((zfM K).take j, (at' : Int), e) ∧ at' ≤ s.length ∧ (e = 0 ∨ e = 6) ∧ (q = [] → j = K.length ∧ at' = s.length ∧ e = 0) := by
 have h1 := zjc hg;have h2 := congrArg List.length hs;rw [yla] at h2;obtain ⟨j, at', e, k1, k2, k3, k4, k5⟩ := zq4 s (by omega) K s q [] fuel 0 hg hs (yz _) (by simp) (zmI (by omega)) (by simp; omega);exact ⟨j, at', e, k1, by unfold zcb; exact k2, k3, k4, k5⟩
theorem zjx (l : List api_Message) (hl : l.length < 1000000) (h : ∀ m ∈ l, SmallM m) : zgD l l = some true := by
 have key : ∀ (n i : Nat), i ≤ l.length → l.length - i < n → zej l l n (i : Int) = some true := by
  intro n
  induction n with
  | zero => intro i _ h; omega
  | succ n ih =>
   intro i hi hn;rw [zej]
   by_cases hlt : i < l.length
   ·have g : l[i]? = some l[i] := ygg hlt;have hs := h l[i] (ygm _);have h1 := hs.len;have h2 := hs.tlen
    have hla : lAt l (i : Int) = some l[i] := by simp [lAt, g]
    rw [if_pos (by simp; omega), hla, yob, yob, znS _ (by omega) (by omega), yob, ynt, if_neg yfn, show (1 : Int) = ((1 : Nat) : Int) from rfl, zga (by omega), yob];exact ih (i + 1) (by omega) (by omega)
   ·rw [if_neg (by simp; omega)]
 unfold zgD;rw [ybs, ynt, if_neg yfn];exact key fuel 0 (yz _) (zmI (by omega))
theorem zoN {K : List (api_Message × Str)} (hg : ∀ p ∈ K, GoodR p.1 p.2) : ∀ m ∈ zfM K, SmallM m := by
 intro m hm;obtain ⟨p, hp, rfl⟩ := List.mem_map.1 hm;exact (hg p hp).small
theorem zql (K : List (api_Message × Str)) : (zfM K).length = K.length := by simp [zfM]
theorem zoO : zic = some true := by decide +kernel
theorem zsf (rec1 : Str → List api_Message → Int → Option Bool) (a0 : List api_Message) (k : UInt16) (i : Int) {K : List (api_Message × Str)} (hg : ∀ p ∈ K, GoodR p.1 p.2) (hl : K.length ≤ 6) :
  zaA rec1 a0 k (za4 K) (zfM K) i false = some true := by
 have hsl := zjc hg;have hml := zql K;obtain ⟨j, at', e, k1, k2, k3, k4, k5⟩ := zme hg hl (s := za4 K) (q := []) (by simp);obtain ⟨rfl, rfl, rfl⟩ := k5 rfl;rw [← hml, List.take_length] at k2;unfold zaA;rw [if_neg yfn, k2, yob];dsimp only;rw [zjx _ (by omega) (zoN hg), yob, ynt, if_neg yfn, ybs, ynt, if_neg yfn, ybs, ynt];unfold zbj;dsimp only
 have hpos : 0 < (za4 K).length + 1 := by omega
 have hlt := Nat.mod_lt k.toNat hpos
 have hmod : zth (k.toNat : Int) (((za4 K).length + 1 : Nat) : Int) = some ((k.toNat % ((za4 K).length + 1) : Nat) : Int) := by
  unfold zth
  have e : (k.toNat : Int) % (((za4 K).length + 1 : Nat) : Int) = ((k.toNat % ((za4 K).length + 1) : Nat) : Int) := by omega
  rw [e, if_pos ⟨by omega, by omega, by rw [zho]; omega⟩]
 have hadd : zav ((za4 K).length : Int) 1 = some (((za4 K).length + 1 : Nat) : Int) := by
  rw [show (1 : Int) = ((1 : Nat) : Int) from rfl, zga (by omega)]
 rw [if_neg yfn, hadd, yob, hmod, yob, zeY (by omega), yob];obtain ⟨j, at', e, c1, c2, c3, c4, c5⟩ := zme hg hl (s := (za4 K).take (k.toNat % ((za4 K).length + 1))) (q := (za4 K).drop (k.toNat % ((za4 K).length + 1))) (by rw [List.take_append_drop]);rw [c2, yob];dsimp only
 have hj : ((zfM K).take j).length = j := by rw [ylt, hml]; omega
 rw [ylt] at c3;have c3' := Nat.le_trans c3 (Nat.min_le_left _ _)
 have hlto : lTo (zfM K) (((zfM K).take j).length : Int) = some ((zfM K).take j) := by
  rw [hj]; unfold lTo; rw [if_pos ⟨by omega, by omega⟩]; simp
 rw [if_pos (by rw [hj]; simp; omega), hlto, yob, zjx _ (by omega) (fun m hm => zoN hg m (List.mem_of_mem_take hm)), yob, if_pos rfl, yob, hmod, yob, if_pos (ydt (Int.ofNat_le.2 c3'))];unfold zak
 rcases c4 with rfl | rfl
 ·rfl
 ·rfl
theorem zsg (K : List (api_Message × Str)) (m : api_Message) (t : Str) : za4 (K ++ [(m, t)]) = za4 K ++ t := by simp [za4]
theorem zuK (a0 : List api_Message) (k : UInt16) (ha : a0.length < 1000000000) (hq : ∀ z ∈ a0, inI z.Head.Kind = true ∧ inI z.Head.Code = true ∧ inI z.Head.Minor = true ∧ z.Head.Fields.length < 1000000000 ∧ inI z.Frame.Kind = true ∧ inI z.Frame.N = true ∧ z.Trailers.length < 1000000000) :
  ∀ (n i : Nat) (K : List (api_Message × Str)), (∀ p ∈ K, GoodR p.1 p.2) → K.length ≤ i → i ≤ 6 → 7 - i < n → zz a0 k n (za4 K) (zfM K) (i : Int) = some true := by
 intro n
 induction n with
 | zero => intro i K _ _ _ h; omega
 | succ n ih =>
  intro i K hg hl hi hn;rw [zz]
  by_cases hlt : i < a0.length
  ·rw [if_pos (by simp; omega)]
   by_cases h6 : i < 6
   ·rw [ydt (by omega : (i : Int) < 6)];unfold zaA;have g0 : a0[i]? = some a0[i] := ygg hlt
    have hla : lAt a0 (i : Int) = some a0[i] := by simp [lAt, g0]
    obtain ⟨_, q2, q3, q4, _, _, q7⟩ := hq a0[i] (ygm _);obtain ⟨g, e1, hs, h52⟩ := few22B a0[i] q2 q3 q4 q7
    have next : ∀ K', (∀ p ∈ K', GoodR p.1 p.2) → K'.length ≤ i + 1 → zay (zz a0 k n) (i : Int) (za4 K') (zfM K') = some true := by
     intro K' hg' hl';unfold zay;rw [show (1 : Int) = ((1 : Nat) : Int) from rfl, zga (by omega), yob];exact ih (i + 1) K' hg' hl' (by omega) (by omega)
    rw [if_pos rfl, hla, yob, e1, yob]
    have skip : zaz (zz a0 k n) (za4 K) (zfM K) (i : Int) g true = some true := by
     unfold zaz;rw [if_pos rfl];exact next K hg (by omega)
    cases hk : g.Head.Kind == 1 with
    | false => rw [ynf, if_pos rfl]; exact skip
    | true =>
     rw [ynt, if_neg yfn]
     cases hm : g.Head.Method == [67, 79, 78, 78, 69, 67, 84] with
     | true => exact skip
     | false =>
      unfold zaz;rw [if_neg yfn, zm9 _ _ _ _ (by decide) hs, yob]
      cases hp : (zm8 [] g 9000 7).2 == 0 with
      | false => rw [if_neg yfn]; exact next K hg (by omega)
      | true =>
       obtain ⟨p1, p2, p3⟩ := zuJ (by decide) (by decide) hp;have gg : GoodR g (zE g.Head ++ zgj g 7) := ⟨hs, h52, p1, p2, rfl, by simpa using hk, hm⟩;have hsl := zjc hg;have htl := gg.tlen;rw [if_pos rfl, p3];dsimp only;rw [zgb (by omega), yob, if_pos (by rw [zql]; unfold zA; simp; omega)]
       have e2 : zfM K ++ [g] = zfM (K ++ [(g, zE g.Head ++ zgj g 7)]) := by simp [zfM]
       rw [← zsg K g, e2];refine next _ (fun p hp => ?_) (by simp; omega)
       rcases List.mem_append.1 hp with hp | hp
       ·exact hg p hp
       ·simp at hp; subst hp; exact gg
   ·rw [ydf (by omega)];exact zsf _ a0 k _ hg (by omega)
  ·rw [if_neg (by simp; omega)];exact zsf _ a0 k _ hg (by omega)
theorem znP (a0 : List api_Message) (k : UInt16) (ha : a0.length < 1000000000) (hq : ∀ z ∈ a0, inI z.Head.Kind = true ∧ inI z.Head.Code = true ∧ inI z.Head.Minor = true ∧ z.Head.Fields.length < 1000000000 ∧ inI z.Frame.Kind = true ∧ inI z.Frame.N = true ∧ z.Trailers.length < 1000000000) :
  zeW a0 k = some true := by
 unfold zeW;rw [zoO, yob, ynt, if_neg yfn];exact zuK a0 k ha hq fuel 0 [] (fun _ h => by cases h) (Nat.le_refl _) (by omega) (zmI (by omega))
end Go.Dm
end
