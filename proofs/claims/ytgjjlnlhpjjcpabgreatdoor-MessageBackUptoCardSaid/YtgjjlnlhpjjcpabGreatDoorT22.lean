/-
 Targets: the document's, as the program's.
 Targets written, and read again: both laws.
 First lines: the program's.
 A request's line: its parts come out as they went in.
 First lines: the document's, as the program's; written, and read again.
 First lines written, and read again.
 Blanks at a text's ends. No program in sight.
 Quoted texts, and lists between commas: what they come to. No program in sight.
 Quoted texts, comments, and lists between commas: the program's.
 Quoted texts, and lists between commas: the document's, as the program's.
 Rows of fields: the program's bag, and the doc
-/
import Derived.Test.YtgjjlnlhpjjcpabGreatDoorT10O
section
namespace Go.Dm
theorem zuB (s : Str) (hs : s.length < 1000000000) : zkG s = some ((upto [63] s).length : Int) := by
 unfold zkG
 have key : ∀ (n i : Nat), i ≤ s.length → s.length - i < n → zde s n (i : Int) = some ((i + (upto [63] (s.drop i)).length : Nat) : Int) := by
  intro n
  induction n with
  | zero => intro i _ h; omega
  | succ n ih =>
   intro i hi h;rw [zde];unfold zhq;rw [zi (by omega), yob]
   by_cases hlt : i < s.length
   ·have g : s[i]? = some s[i] := ygg hlt;rw [ydt (show (i : Int) < (s.length : Int) by omega), if_pos rfl, zU, g, yob, ih (i + 1) (by omega) (by omega), ydg hlt]
    by_cases hc : s[i] = 63
    ·have h1 : (s[i] == 63) = true := by simp [hc]
     rw [h1, if_neg (by decide), zjK (by simp [hc])]; rfl
    ·have h1 : (s[i] == 63) = false := beq_eq_false_iff_ne.2 hc;rw [h1, ynf, if_pos rfl, zjM (by simp [hc])]
     congr 2
     simp only [ylc]; omega
   ·have : i = s.length := by omega
    subst this;rw [ydf (show ¬ ((s.length : Int) < (s.length : Int)) by omega), if_neg (by decide), ydl];rfl
 have := key fuel 0 (yz _) (by unfold fuel; omega);rw [List.drop_zero, Nat.zero_add] at this;exact this
theorem zm4 (t : api_Target) (s : Str) (hq : t.Query = []) (hs : s.length < 900000000) : zg1 t s =
  some (⟨t.Kind, t.Scheme, t.Host, (zI 63 s).1, (zI 63 s).2.1, (zI 63 s).2.2⟩, zfP (zI 63 s).1 && zfV (zI 63 s).2.1) := by
 unfold zg1;have hu := zot [63] s;have hl := zos 63 s;have e1 : (zI 63 s).1 = upto [63] s := rfl;rw [zuB s (by omega), yob, zc9 hu, yob, zou]
 have hj : ∀ q : Str, q.length < 900000000 → zdM t s ((upto [63] s).length : Int) (upto [63] s) q = some (⟨t.Kind, t.Scheme, t.Host, upto [63] s, q, decide ((upto [63] s).length < s.length)⟩, zfP (upto [63] s) && zfV q) := by
  intro q hq;unfold zdM zfs;rw [zum _ (by omega), yob, znR q (by omega), yob];have : decide (((upto [63] s).length : Int) < (s.length : Int)) = decide ((upto [63] s).length < s.length) := decide_eq_decide.2 (by omega);rw [this];cases zfP (upto [63] s) <;> rfl
 by_cases h0 : zbv [63] s = []
 ·have hn := (zg4 _ _).1 h0
  have hc : (zI 63 s).2.2 = false := by unfold zI; rw [h0]; rfl
  rw [ydf (by omega), if_neg (by decide), hj _ (by rw [hq]; simp), hq, zmA 63 s hc, ydf (by omega)]
  have : upto [63] s = s := by have := zdl [63] s; rw [h0, yan] at this; exact this
  rw [this]
 ·have hn : (upto [63] s).length < s.length := by
   have : ¬ (upto [63] s).length = s.length := fun h => h0 ((zg4 _ _).2 h);omega
  have hc : (zI 63 s).2.2 = true := by unfold zI; simp [h0]
  have hd : s.drop ((upto [63] s).length + 1) = (zI 63 s).2.1 := by rw [← List.drop_drop, zl4]; rfl
  rw [ydt (by omega), if_pos rfl, zi (by omega), yob, z6 (by omega), yob, hd, hj _ (by omega), ydt hn, hc, e1]
theorem zz8 (c : UInt8) : (zfh c == 58) = (c == 58) :=
 eq_of_beq (zD (fun c => (zfh c == 58) == (c == 58)) (by decide +kernel) c)
theorem zvh (c : UInt8) : (zfh c == 47) = (c == 47) :=
 eq_of_beq (zD (fun c => (zfh c == 47) == (c == 47)) (by decide +kernel) c)
theorem zrR {c : UInt8} {t : Str} : ∀ {a b : Str}, c ∉ a → zao (c :: t) (a ++ (c :: t) ++ b) = some (a, b)
 | [], b, _ => by
  show zao (c :: t) (c :: (t ++ b)) = _;rw [zao, if_pos (by simp [List.isPrefixOf_iff_prefix])];simp
 | x :: a, b, h => by
  have hx : c ≠ x := fun e => h (by simp [e]);show zao (c :: t) (x :: (a ++ (c :: t) ++ b)) = _
  have hp : (c :: t).isPrefixOf (x :: (a ++ (c :: t) ++ b)) = false := by
   rw [List.isPrefixOf_cons_cons, beq_eq_false_iff_ne.2 hx, Bool.false_and]
  rw [zao, hp, if_neg (by decide), zrR (fun hm => h (by simp [hm]))];rfl
theorem ztV (a b : Str) : low (a ++ b) = low a ++ low b := by simp [low]
theorem zDG {u : Str} (h : low u = [58, 47, 47]) : u = [58, 47, 47] := by
 match u, h with
 | [a, b, c], h =>
  simp only [low, List.map_cons, List.map_nil, List.cons.injEq, and_true] at h;obtain ⟨h1, h2, h3⟩ := h
  have g1 : a = 58 := by have := zz8 a; rw [h1] at this; simpa using this.symm
  have g2 : b = 47 := by have := zvh b; rw [h2] at this; simpa using this.symm
  have g3 : c = 47 := by have := zvh c; rw [h3] at this; simpa using this.symm
  rw [g1, g2, g3]
 | [], h => simp [low] at h
 | [_], h => simp [low] at h
 | [_, _], h => simp [low] at h
 | _ :: _ :: _ :: _ :: _, h => simp [low] at h
theorem zyF (sc s : Str) (hsc : (58 : UInt8) ∉ sc) : (sc.length + 3 ≤ s.length ∧ low (s.take (sc.length + 3)) = sc ++ [58, 47, 47]) ↔ ∃ a, zao [58, 47, 47] s = some (a, s.drop (sc.length + 3)) ∧ low a = sc := by
 constructor
 ·rintro ⟨h1, h2⟩
  have e : s = s.take sc.length ++ (s.drop sc.length).take 3 ++ s.drop (sc.length + 3) := by
   rw [yaa, ← List.drop_drop, List.take_append_drop, List.take_append_drop]
  have e2 : s.take (sc.length + 3) = s.take sc.length ++ (s.drop sc.length).take 3 := List.take_add;rw [e2, ztV] at h2;obtain ⟨g1, g2⟩ := List.append_inj h2 (by simp [low]; omega);have g3 := zDG g2
  have hn : (58 : UInt8) ∉ s.take sc.length := fun hm => by
   have : (58 : UInt8) ∈ low (s.take sc.length) := List.mem_map.2 ⟨58, hm, by decide⟩;rw [g1] at this; exact hsc this
  refine ⟨s.take sc.length, ?_, g1⟩;have := zrR (t := [47, 47]) (b := s.drop (sc.length + 3)) hn;rw [← g3, ← e, g3] at this;exact this
 ·rintro ⟨a, h1, h2⟩;have e := zdC h1
  have hal : a.length = sc.length := by rw [← h2]; simp [low]
  have hl : sc.length + 3 ≤ s.length := by have := congrArg List.length e; simp at this; omega
  refine ⟨hl, ?_⟩
  have : s.take (sc.length + 3) = a ++ [58, 47, 47] := by
   rw [e, List.take_left'];simp [hal]
  rw [this, ztV, h2];rfl
def zmL (r : api_Target × Bool) : api_Target × Int := if r.2 then (r.1, 0) else (zuF, 20)
def zmM (sc r : Str) : api_Target × Int := if (zcM (upto [47, 63] r)).2 == 0 then zmL (zmN ⟨2, sc, (zcM (upto [47, 63] r)).1, [], [], false⟩ (zbv [47, 63] r)) else (zuF, 20)
theorem zDH (q : Str) : zI 63 (47 :: 63 :: q) = ([47], q, true) := by
 unfold zI;rw [zjM (by decide), zjN (by decide), zjK (by decide), zjL (by decide)];rfl
theorem cutQ_q (q : Str) : zun (47 :: 63 :: q) = if zfV q then ([47], q, true, 0) else ([], [], false, 2) := by
 unfold zun;rw [zDH]
 have : zfP [47] = true := by decide
 rw [this, Bool.true_and]
theorem zrS (rec5 : Int → Option (api_Target × Int)) (sc r : Str) (hr : r.length < 300000000) : zcE rec5 sc r ((upto [47, 63] r).length : Int) false = some (zmM sc r) := by
 unfold zcE zmM;have hu := zot [47, 63] r;rw [if_neg (by decide), zc9 hu, yob, zou, zkt _ (by omega), yob]
 cases (zcM (upto [47, 63] r)).2 == 0 with
 | false => rfl
 | true =>
  rw [ynt, if_neg (by decide), if_pos rfl]
  cases hf : zbv [47, 63] r with
  | nil =>
   have hn := (zg4 _ _).1 hf;rw [hn, ybs, if_pos rfl];rfl
  | cons c t =>
   have hne : zbv [47, 63] r ≠ [] := by rw [hf]; simp
   have hlt : (upto [47, 63] r).length < r.length := by
    have : ¬ (upto [47, 63] r).length = r.length := fun h => hne ((zg4 _ _).2 h);omega
   have hd := zl4 [47, 63] r;rw [hf] at hd
   have g : r[(upto [47, 63] r).length]? = some c := by have := congrArg (·[0]?) hd; simpa using this
   have hd1 : r.drop ((upto [47, 63] r).length + 1) = t := by rw [← List.drop_drop, hd]; rfl
   have htl : (c :: t).length ≤ r.length := by rw [← hd]; simp
   simp only [ylc] at htl;have hbe : (((upto [47, 63] r).length : Int) == (r.length : Int)) = false := beq_eq_false_iff_ne.2 (by omega);rw [hbe, if_neg (by decide), zU, g, yob, zi (by omega), yob, z6 (by omega), yob, hd1, znR t (by omega), yob, z6 hu, yob, hd, zm4 _ _ rfl (by simp only [ylc]; omega), yob];unfold zgp zmN zmL
   have hne2 : c :: t ≠ [] := by simp
   rw [if_neg hne2, List.head?_cons, Option.some_beq_some]
   cases hc : c == 63 with
   | true =>
    have : c = 63 := by simpa using hc
    subst this;simp only [if_true];rw [cutQ_q];cases zfV t <;> rfl
   | false =>
    simp only [Bool.false_eq_true, if_false];unfold zun;cases zfP (zI 63 (c :: t)).1 && zfV (zI 63 (c :: t)).2.1 <;> rfl
theorem zxH (sc r : Str) (hr : r.length < 300000000) : zbb sc r fuel 0 = some (zmM sc r) := by
 have hu := zot [47, 63] r
 have key : ∀ (n i : Nat), i ≤ (upto [47, 63] r).length → (upto [47, 63] r).length - i < n → zbb sc r n (i : Int) = some (zmM sc r) := by
  intro n
  induction n with
  | zero => intro i _ h; omega
  | succ n ih =>
   intro i hi h;rw [zbb]
   by_cases hlt : i < (upto [47, 63] r).length
   ·have g : r[i]? = some (upto [47, 63] r)[i] := by
     have e := List.getElem?_append_left (l₂ := zbv [47, 63] r) hlt;rw [zdl] at e; rw [e]; exact ygg hlt
    have hno := zxt (upto [47, 63] r)[i] (ygm hlt);generalize (upto [47, 63] r)[i] = c at g hno
    have h1 : (c == 47) = false := by simp at hno; simp [hno.1]
    have h2 : (c == 63) = false := by simp at hno; simp [hno.2]
    rw [ydt (show (i : Int) < (r.length : Int) by omega), if_pos rfl, zU, g, yob, yob, h1, h2, ynf, if_pos rfl];unfold zcE;rw [if_pos rfl, zi (by omega), yob];exact ih (i + 1) (by omega) (by omega)
   ·have : i = (upto [47, 63] r).length := by omega
    subst this;rw [zrS _ sc r hr]
    cases hf : zbv [47, 63] r with
    | nil =>
     have hn := (zg4 _ _).1 hf;rw [ydf (by omega), if_neg (by decide)]
    | cons c t =>
     have hd := zl4 [47, 63] r;rw [hf] at hd
     have g : r[(upto [47, 63] r).length]? = some c := by have := congrArg (·[0]?) hd; simpa using this
     have hlt : (upto [47, 63] r).length < r.length := by have := congrArg List.length hd; simp at this; omega
     have hin := zrk hf;rw [ydt (by omega), if_pos rfl, zU, g, yob, yob]
     rcases zdn (c == 47) with h1 | h1
     ·rw [h1]; rfl
     ·have h2 : (c == 63) = true := by simp at hin h1 ⊢; rcases hin with h | h; exact absurd h h1; exact h
      rw [h1, h2, ynt, zrS _ sc r hr]; rfl
 exact key fuel 0 (yz _) (by unfold fuel; omega)
def zfM (sc s : Str) : Bool := decide (sc.length + 3 ≤ s.length) && low (s.take (sc.length + 3)) == sc ++ [58, 47, 47]
theorem zo6 (sc s : Str) (hsc : (58 : UInt8) ∉ sc) : zfM sc s = true ↔ ∃ a, zao [58, 47, 47] s = some (a, s.drop (sc.length + 3)) ∧ low a = sc := by
 rw [← zyF sc s hsc];unfold zfM;simp
theorem zy9 (n i : Nat) (s x : Str) (hx : lAt [[104, 116, 116, 112], [104, 116, 116, 112, 115]] (i : Int) = some x) (hi : i < 2) (hl : x.length < 10) (hs : s.length < 300000000) :
  zax (n + 1) s (i : Int) = if zfM x s = true then some (zmM x (s.drop (x.length + 3))) else zax n s ((i + 1 : Nat) : Int) := by
 rw [zax]
 have e3 : zr (x.length : Int) 3 = some ((x.length + 3 : Nat) : Int) := by rw [zb1 (by omega) (by omega)]; simp
 show (if decide ((i : Int) < 2) = true then (lAt [[104, 116, 116, 112], [104, 116, 116, 112, 115]] (i : Int)).bind _ else _) = _;rw [ydt (show (i : Int) < 2 by omega), if_pos rfl, hx, yob, e3, yob];unfold zfM zgq;rw [zi (by omega), yob]
 by_cases hlt : x.length + 3 ≤ s.length
 ·have e4 : decide ((s.length : Int) < ((x.length + 3 : Nat) : Int)) = false := ydf (by omega);rw [e4, if_neg (by decide), ydt hlt, zc9 hlt, yob, zjd _ (by simp; omega), yob, zZ (by simp; omega), yob, z6 hlt, yob, zxH x _ (by simp; omega), Bool.true_and];cases low (s.take (x.length + 3)) == x ++ [58, 47, 47] <;> rfl
 ·have e4 : decide ((s.length : Int) < ((x.length + 3 : Nat) : Int)) = true := ydt (by omega);rw [e4, if_pos rfl, if_pos rfl, ydf hlt];rfl
theorem ztW (a r : Str) (sc : Str) (h : low a = sc) : zmL (if (zcM (upto [47, 63] r)).2 == 0 then zmN ⟨2, low a, (zcM (upto [47, 63] r)).1, [], [], false⟩ (zbv [47, 63] r) else (⟨2, low a, ⟨0, [], 0⟩, [], [], false⟩, false)) = zmM sc r := by
 unfold zmM;rw [h];cases (zcM (upto [47, 63] r)).2 == 0 <;> rfl
theorem zxI (s : Str) (hs : s.length < 300000000) : zax fuel s 0 = some (zmL (zwi s)) := by
 have hf : fuel = 999999999999999997 + 1 + 1 + 1 := rfl;have s1 := zy9 (999999999999999997 + 1 + 1) 0 s zmO rfl (by decide) (by decide) hs;have s2 := zy9 (999999999999999997 + 1) 1 s zjP rfl (by decide) (by decide) hs
 have s3 : zax (999999999999999997 + 1) s ((1 + 1 : Nat) : Int) = some (zuF, 20) := by rw [zax]; rfl
 have h1 := zo6 zmO s (by decide);have h2 := zo6 zjP s (by decide);rw [hf, show (0 : Int) = ((0 : Nat) : Int) from rfl, s1, s2, s3];unfold zwi
 cases hc : zao [58, 47, 47] s with
 | none =>
  rw [hc] at h1 h2
  have g1 : ¬ zfM zmO s = true := fun h => by obtain ⟨a, ha, _⟩ := h1.1 h; cases ha
  have g2 : ¬ zfM zjP s = true := fun h => by obtain ⟨a, ha, _⟩ := h2.1 h; cases ha
  rw [if_neg g1, if_neg g2];rfl
 | some p =>
  rw [hc] at h1 h2;dsimp only
  have hp : ∀ sc : Str, low p.1 = sc → p.2 = s.drop (sc.length + 3) := fun sc h => by
   have e := zdC (a := p.1) (b := p.2) hc
   have hal : p.1.length = sc.length := by rw [← h]; simp [low]
   rw [e, ← hal, List.drop_left'];simp
  by_cases c1 : low p.1 = zmO
  ·have g1 : zfM zmO s = true := h1.2 ⟨p.1, by rw [← hp _ c1], c1⟩;rw [if_pos g1, c1];have := ztW p.1 p.2 zmO c1;rw [c1] at this;rw [if_pos (by decide), this, hp _ c1]
  ·have g1 : ¬ zfM zmO s = true := fun h => by obtain ⟨a, ha, hb⟩ := h1.1 h; cases ha; exact c1 hb
   rw [if_neg g1]
   by_cases c2 : low p.1 = zjP
   ·have g2 : zfM zjP s = true := h2.2 ⟨p.1, by rw [← hp _ c2], c2⟩;have := ztW p.1 p.2 zjP c2;rw [c2] at this;rw [if_pos g2, c2, if_pos (by decide), this, hp _ c2]
   ·have g2 : ¬ zfM zjP s = true := fun h => by obtain ⟨a, ha, hb⟩ := h2.1 h; cases ha; exact c2 hb
    rw [if_neg g2, if_neg (by simp [c1, c2])];rfl
theorem zz9 {s : Str} (h : ([47] : Str).isPrefixOf s = true) : (zwi s).2 = false := by
 obtain ⟨r, hr⟩ := List.isPrefixOf_iff_prefix.1 h;unfold zwi
 cases hc : zao [58, 47, 47] s with
 | none => rfl
 | some p =>
  have e := zdC (a := p.1) (b := p.2) hc
  have hh : low p.1 ≠ zmO ∧ low p.1 ≠ zjP := by
   cases hp : p.1 with
   | nil => exact ⟨by decide, by decide⟩
   | cons c t =>
    rw [hp, ← hr] at e
    have : c = 47 := by simp at e; exact e.1.symm
    subst this;exact ⟨by simp [low, zmO, zfh], by simp [low, zjP, zfh]⟩
  dsimp only;rw [if_neg (by simp [hh.1, hh.2])]
theorem zxJ (s : Str) (h : ([47] : Str).isPrefixOf s = true) : zmN zB7 s = (if zfP (zI 63 s).1 && zfV (zI 63 s).2.1 then ((⟨1, [], ⟨0, [], 0⟩, (zI 63 s).1, (zI 63 s).2.1, (zI 63 s).2.2⟩ : api_Target), true) else (⟨1, [], ⟨0, [], 0⟩, [], [], false⟩, false)) := by
 obtain ⟨r, hr⟩ := List.isPrefixOf_iff_prefix.1 h;subst hr;unfold zmN;rw [if_neg (by simp)];have hh : (([47] ++ r : Str).head? == some 63) = false := rfl;rw [hh];simp only [Bool.false_eq_true, if_false];unfold zun;cases zfP (zI 63 ([47] ++ r)).1 && zfV (zI 63 ([47] ++ r)).2.1 <;> rfl
theorem zyG {s : Str} (h : ([47] : Str).isPrefixOf s = false) : zfP (zI 63 s).1 = false := by
 rcases zdn (zfP (zI 63 s).1) with h1 | h1
 ·obtain ⟨r, hr⟩ := zv0 h1;have ht := zyw 63 s;rw [hr] at ht;rw [← ht] at h;simp at h
 ·exact h1
theorem zwf {r : api_Target × Bool} (h : r.2 = false) : zmL r = (zuF, 20) := by unfold zmL; rw [h]; rfl
theorem zoc (s : Str) (hs : s.length < 300000000) : zcF s false = some (if ([47] : Str).isPrefixOf s then zmL (zmN zB7 s) else zmL (zwi s)) := by
 unfold zcF;rw [if_neg (by decide), zm4 _ _ rfl (by omega), yob, zxI s hs];dsimp only
 cases h : ([47] : Str).isPrefixOf s with
 | true =>
  rw [if_pos rfl, zxJ s h]
  cases zfP (zI 63 s).1 && zfV (zI 63 s).2.1 with
  | true => rfl
  | false =>
   rw [zwf (zz9 h)];rfl
 | false =>
  rw [zyG h, Bool.false_and, if_neg (by decide), if_neg (by decide)]
theorem ztX (m s : Str) (hs : s.length < 300000000) : zjy m s = some (zkj m s) := by
 unfold zjy zkj zgo;rw [zkt s (by omega), yob];show (if (m == znk) = true then _ else _) = _
 cases hm : m == znk with
 | true =>
  rw [if_pos rfl, if_pos rfl];cases (zcM s).2 == 0 <;> cases decide ((zcM s).1.Port < 0) <;> rfl
 | false =>
  show (if (s == [42]) = true then zcF s (m == zsu) else zcF s false) = some (zmL (ofT m s));rw [zoc s hs];unfold ofT
  cases h : s == [42] with
  | true =>
   have : s = [42] := by simpa using h
   subst this
   cases m == zsu with
   | true => rfl
   | false => rw [if_pos rfl, zoc [42] (by decide)]; rfl
  | false =>
   cases ([47] : Str).isPrefixOf s <;> rfl

end Go.Dm
end
section
namespace Go.Dm
theorem zz3 (l : List Str) : Go.Lib.join l [] = l.flatten := by
 cases l with
 | nil => rfl
 | cons x r => rw [Go.Lib.join_cons]; simp [Go.Lib.joinTail]
theorem ztP (l : List Str) (h : l.length < 1000000) (h2 : l.flatten.length < 4000000000) : zcf [] l = some l.flatten := by
 unfold zcf strings_Join;rw [zz3, if_pos ⟨by omega, by omega⟩];rfl
theorem zkg (n : Int) (hn : inI n = true) : (ziN 10 n).length ≤ 71 := by
 unfold ziN
 split
 ·simp
 ·rw [zkf];have := zjb.1 hn;exact ztC (by decide) _ (by omega)
end Go.Dm
end
section
namespace Go.Dm
def zkY (r : Str) : Int × Bool × Str := match r with
 | [] => (0, false, [])
 | c :: t => if zL c then (((c - 48).toNat : Int), true, t) else (0, false, c :: t)
section
variable {s r : Str} {k : Nat}
theorem zwj (hs : s.length < 1000000000) (h : At s k r) : ∃ k', At s k' (zkY r).2.2 ∧ zbn ⟨scn s k⟩ = some ((zkY r).1, (zkY r).2.1, scn s k') := by
 unfold zbn;show ∃ k', _ ∧ (zv (scn s k)).bind _ = _;rw [zqr h, yob]
 cases r with
 | nil => exact ⟨k, h, rfl⟩
 | cons c t =>
  have e : zkY (c :: t) = if zL c then (((c - 48).toNat : Int), true, t) else (0, false, c :: t) := rfl;rw [e];show ∃ k', _ ∧ (zac c).bind (fun r6 => zbm ⟨scn s k⟩ (c, true) (!r6)) = _;rw [zi8, yob];obtain ⟨k', h1, h2⟩ := zfX hs c h;rw [zaP] at h1
  cases zL c with
  | false => exact ⟨k, h, rfl⟩
  | true =>
   refine ⟨k', h1, ?_⟩;show (zh (scn s k) c).bind (fun r11 => some (((c - 48).toNat : Int), true, r11.2)) = _;rw [h2]; rfl
def zby : Str := [72, 84, 84, 80, 47]
def zhC (r : Str) : Int × Int × Bool × Str :=
 if zby.isPrefixOf r then
  ((zkY (r.drop 5)).1, (zkY (zap 46 (zkY (r.drop 5)).2.2)).1, (zkY (r.drop 5)).2.1 && zfW 46 (zkY (r.drop 5)).2.2 && (zkY (zap 46 (zkY (r.drop 5)).2.2)).2.1, (zkY (zap 46 (zkY (r.drop 5)).2.2)).2.2)
 else (0, 0, false, r)
theorem zsv (hs : s.length < 1000000000) (h : At s k r) : ∃ k', At s k' (zhC r).2.2.2 ∧ zaU ⟨scn s k⟩ = some ((zhC r).1, (zhC r).2.1, (zhC r).2.2.1, scn s k') := by
 unfold zaU;obtain ⟨k1, h1, e1⟩ := zDB hs zby (by decide) h;show ∃ k', _ ∧ (zcN (scn s k) zby).bind _ = _;rw [e1, yob];unfold zhC
 cases hp : zby.isPrefixOf r with
 | false =>
  rw [hp, if_neg (by decide)] at h1;exact ⟨k1, h1, rfl⟩
 | true =>
  rw [hp, if_pos rfl] at h1;have h1 : At s k1 (r.drop 5) := h1;obtain ⟨k2, h2, e2⟩ := zwj hs h1;obtain ⟨k3, h3, e3⟩ := zfX hs 46 h2;obtain ⟨k4, h4, e4⟩ := zwj hs h3;refine ⟨k4, h4, ?_⟩;dsimp only;rw [ynt, if_neg (by decide), e2, yob];dsimp only;rw [e3, yob];dsimp only;rw [e4, yob, if_pos rfl];dsimp only;cases (zkY (r.drop 5)).2.1 <;> cases zfW 46 (zkY (r.drop 5)).2.2 <;> rfl
def zcV (u : Str) : Int := if (zhC u).2.2.1 && (zhC u).2.2.2 == [] then (if (zhC u).1 == 1 && decide ((zhC u).2.1 ≤ 1) then (zhC u).2.1 else 2) else -1
theorem zyH {r : Str} (h : (zkY r).2.1 = true) : ∃ c t, r = c :: t ∧ zL c = true ∧ zkY r = (((c - 48).toNat : Int), true, t) := by
 cases r with
 | nil => cases h
 | cons c t =>
  unfold zkY at h ⊢;dsimp only at h ⊢
  cases hc : zL c with
  | false => rw [hc] at h; cases h
  | true => exact ⟨c, t, rfl, hc, by simp⟩
theorem zpD {r : Str} (h : (zhC r).2.2.1 = true) : ∃ a b t, r = zby ++ a :: 46 :: b :: t ∧ zL a = true ∧ zL b = true ∧ zhC r = (((a - 48).toNat : Int), ((b - 48).toNat : Int), true, t) := by
 unfold zhC at h ⊢
 cases hp : zby.isPrefixOf r with
 | false => rw [hp] at h; cases h
 | true =>
  rw [hp, if_pos rfl] at h;rw [if_pos rfl];simp only [Bool.and_eq_true] at h;obtain ⟨⟨h1, h2⟩, h3⟩ := h;obtain ⟨t0, ht0⟩ := List.isPrefixOf_iff_prefix.1 hp
  have hd : r.drop 5 = t0 := by rw [← ht0]; rfl
  rw [hd] at h1 h2 h3 ⊢;obtain ⟨a, t1, rfl, ha, ea⟩ := zyH h1;rw [ea] at h2 h3 ⊢;have hb := zgI h2;dsimp only at h2 h3 hb ⊢;obtain ⟨b, t, e, hbd, eb⟩ := zyH h3;rw [e] at hb;rw [eb];refine ⟨a, b, t, by rw [← ht0, hb], ha, hbd, ?_⟩;simp [h2]
theorem znl {c : UInt8} (h : zL c = true) (h1 : (c - 48).toNat ≤ 1) : c = 48 ∨ c = 49 := by
 have := zD (fun c => !(zL c && decide ((c - 48).toNat ≤ 1)) || (c == 48 || c == 49)) (by decide +kernel) c;rw [h] at this;simpa [h1] using this
theorem zkk {u : Str} (h : 0 ≤ zcV u) (h2 : (zcV u == 2) = false) : (u = zby ++ [49, 46, 48] ∧ zcV u = 0) ∨ (u = zby ++ [49, 46, 49] ∧ zcV u = 1) := by
 unfold zcV at *
 cases hc : (zhC u).2.2.1 && (zhC u).2.2.2 == [] with
 | false => rw [hc] at h; exact absurd (show (0 : Int) ≤ -1 from h) (by decide)
 | true =>
  rw [hc, if_pos rfl] at h h2;rw [if_pos rfl];simp only [Bool.and_eq_true] at hc;obtain ⟨a, b, t, e, ha, hb, ev⟩ := zpD hc.1;rw [ev] at hc h h2 ⊢
  have ht : t = [] := by simpa using hc.2
  subst ht;dsimp only at h h2 ⊢
  cases hq : (((a - 48).toNat : Int) == 1 && decide (((b - 48).toNat : Int) ≤ 1)) with
  | false => rw [hq] at h2; exact absurd (show ((2 : Int) == 2) = false from h2) (by decide)
  | true =>
   rw [if_pos rfl];simp only [Bool.and_eq_true, beq_iff_eq, decide_eq_true_eq] at hq
   have ha1 : a = 49 := by
    rcases znl ha (by omega) with h | h
    ·subst h; exact absurd hq.1 (by decide)
    ·exact h
   subst ha1
   rcases znl hb (by omega) with h | h <;> subst h
   ·left; exact ⟨e, by decide⟩
   ·right; exact ⟨e, by decide⟩
theorem zkl (u : Str) (hu : u.length < 1000000000) : zdG u = some (zcV u == 2) := by
 unfold zdG;rw [zh2, yob];obtain ⟨k', h, e⟩ := zsv hu (At.zero u);rw [e, yob];dsimp only;rw [zv4 h];unfold zcV zbj
 have h1 : decide ((zhC u).2.1 ≤ 1) = !decide (1 < (zhC u).2.1) := by
  rw [Bool.eq_iff_iff]; simp
 rw [h1]
 cases hv : (zhC u).2.2.1 with
 | false => rfl
 | true =>
  rw [if_pos rfl, yob, Bool.true_and]
  cases (zhC u).2.2.2 == [] with
  | false => rfl
  | true =>
   rw [if_pos rfl, if_pos rfl];obtain ⟨a, b, t, _, ha, hb, ev⟩ := zpD hv;rw [ev];dsimp only
   cases ((a - 48).toNat : Int) == 1 with
   | false => rfl
   | true =>
    rw [ynt, if_neg (by decide), Bool.true_and]
    by_cases h2 : (1 : Int) < ((b - 48).toNat : Int)
    ·rw [ydt h2]; rfl
    ·rw [ydf h2, ynf, if_pos rfl];have : (((b - 48).toNat : Int) == 2) = false := beq_eq_false_iff_ne.2 (by omega);rw [this]
def zf1 (r : Str) : Int × Bool × Str := ((zhC r).2.1, (zhC r).2.2.1 && (zhC r).1 == 1 && decide ((zhC r).2.1 ≤ 1), (zhC r).2.2.2)
theorem zwk (hs : s.length < 1000000000) (h : At s k r) : ∃ k', At s k' (zf1 r).2.2 ∧ zbp ⟨scn s k⟩ = some ((zf1 r).1, (zf1 r).2.1, scn s k') := by
 unfold zbp zf1;obtain ⟨k', h1, e⟩ := zsv hs h;refine ⟨k', h1, ?_⟩;rw [e, yob];dsimp only;cases (zhC r).2.2.1 <;> cases (zhC r).1 == 1 <;> rfl
theorem zuG (r : Str) : ((zf1 r).2.1 && (zf1 r).2.2 == []) = (decide (0 ≤ zcV r) && !(zcV r == 2)) ∧ ((zf1 r).2.1 = true → (zf1 r).2.2 = [] → (zf1 r).1 = zcV r) := by
 unfold zf1 zcV;dsimp only
 cases hv : (zhC r).2.2.1 with
 | false => exact ⟨rfl, fun h => by cases h⟩
 | true =>
  obtain ⟨a, b, t, _, ha, hb, ev⟩ := zpD hv;rw [ev];dsimp only;rw [Bool.true_and, Bool.true_and]
  cases hq : (((a - 48).toNat : Int) == 1 && decide (((b - 48).toNat : Int) ≤ 1)) with
  | false =>
   refine ⟨?_, fun h => by cases h⟩;cases t == [] <;> rfl
  | true =>
   simp only [Bool.and_eq_true, decide_eq_true_eq] at hq;refine ⟨?_, fun _ h => ?_⟩
   ·cases t == [] with
    | false => rfl
    | true =>
     rw [if_pos rfl, if_pos rfl];have : (((b - 48).toNat : Int) == 2) = false := beq_eq_false_iff_ne.2 (by omega);rw [this, ydt (by omega)]; rfl
   ·subst h; rfl
end
def zaE : api_Head := ⟨0, [], [], 0, [], 0, []⟩
def zuH (s : Str) : Nat := match zjm s 32 s.length with
 | none => 0
 | some k => k + 1
theorem zxM (s : Str) (hs : s.length < 300000000) : ∃ r, zaG s 32 = some r ∧ zr r 1 = some (zuH s : Int) ∧ zuH s ≤ s.length := by
 rw [zlL s 32 (by omega)];unfold zuH
 cases hl : zjm s 32 s.length with
 | none => exact ⟨-1, rfl, by decide, yz _⟩
 | some k =>
  have := (znB hl).1;exact ⟨k, rfl, zi (by omega), by show k + 1 ≤ s.length; omega⟩
def znm (s : Str) : Str := s.drop (zuH s)
def zpc (s : Str) : Str := s.takeWhile zbx
def zrr (s : Str) : Str := s.dropWhile zbx
def zrV (s : Str) : Str := (zap 32 (zrr s)).takeWhile (fun b => !(b == 32))
def zk4 (s : Str) : Str := (zap 32 (zrr s)).dropWhile (fun b => !(b == 32))
def zwl (s : Str) : Bool := !(zpc s == []) && zfW 32 (zrr s) && zfW 32 (zk4 s) && ((zf1 (zap 32 (zk4 s))).2.1 && (zf1 (zap 32 (zk4 s))).2.2 == []) && (zkj (zpc s) (zrV s)).2 == 0
def zrW (s : Str) : api_Head × Int := if zcV (znm s) == 2 then (zaE, 26) else if zwl s then (⟨1, zpc s, zrV s, 0, [], (zf1 (zap 32 (zk4 s))).1, []⟩, 0) else (zaE, 20)
theorem znn (s : Str) (hs : s.length < 300000000) : zdY s = some (zrW s) := by
 unfold zdY zrW znm;obtain ⟨r, e0, hi⟩ := zxM s hs;rw [e0, yob];generalize zuH s = n at hi;rw [hi.1, yob, z6 hi.2, yob, zkl _ (by simp; omega), yob]
 cases zcV (s.drop n) == 2 with
 | true => rfl
 | false =>
  rw [if_neg (by decide), if_neg (by decide), zh2, yob]
  have hs' : s.length < 1000000000 := by omega
  obtain ⟨k1, h1, e1⟩ := zxs hs' (At.zero s);obtain ⟨k2, h2, e2⟩ := zfX hs' 32 h1;obtain ⟨k3, h3, e3⟩ := zl3 (f := zc1) (p := fun b => !(b == 32)) (fun b => rfl) hs' h2;obtain ⟨k4, h4, e4⟩ := zfX hs' 32 h3;obtain ⟨k5, h5, e5⟩ := zwk hs' h4;rw [e1, yob];dsimp only;rw [e2, yob];dsimp only;rw [e3, yob];dsimp only;rw [e4, yob];dsimp only;have hl := h2.le_len;have hl2 := zmH (fun b => !(b == 32)) (zap 32 (s.dropWhile zbx));rw [e5, yob, zrU _ _ (by omega), yob];dsimp only;rw [zv4 h5, yob];unfold z7 zwl zrV zpc zk4 zrr;cases s.takeWhile zbx == [] <;> cases zfW 32 (s.dropWhile zbx) <;> cases zfW 32 ((zap 32 (s.dropWhile zbx)).dropWhile (fun b => !(b == 32))) <;> cases (zf1 (zap 32 ((zap 32 (s.dropWhile zbx)).dropWhile (fun b => !(b == 32))))).2.1 <;> cases (zf1 (zap 32 ((zap 32 (s.dropWhile zbx)).dropWhile (fun b => !(b == 32))))).2.2 == [] <;> cases (zkj (s.takeWhile zbx) ((zap 32 (s.dropWhile zbx)).takeWhile (fun b => !(b == 32)))).2 == 0 <;> rfl
theorem zja {p : UInt8 → Bool} {s : Str} {x : UInt8} (h : x ∈ s.takeWhile p) : p x = true := by
 induction s with
 | nil => cases h
 | cons c s ih =>
  rw [List.takeWhile_cons] at h
  split at h
  ·rename_i hc
   rcases List.mem_cons.1 h with rfl | h
   ·exact hc
   ·exact ih h
  ·cases h
theorem zAd {x : UInt8} (h : zbx x = true) : x ≠ 32 := by rintro rfl; revert h; decide
theorem zpd {s : Str} (h : zwl s = true) : ∃ v, s = zpc s ++ 32 :: (zrV s ++ 32 :: v) ∧ (32 : UInt8) ∉ zpc s ∧ (32 : UInt8) ∉ zrV s ∧ zpc s ≠ [] ∧ (zpc s).all zbx = true ∧ 0 ≤ zcV v ∧ (zcV v == 2) = false ∧ (zf1 (zap 32 (zk4 s))).1 = zcV v ∧ ((zkj (zpc s) (zrV s)).2 == 0) = true := by
 unfold zwl at h;simp only [Bool.and_eq_true, Bool.not_eq_true', beq_eq_false_iff_ne] at h;obtain ⟨⟨⟨⟨h1, h2⟩, h3⟩, h4, h5⟩, h6⟩ := h;have e1 : zpc s ++ zrr s = s := List.takeWhile_append_dropWhile;have e2 := zgI h2;have e3 : zrV s ++ zk4 s = zap 32 (zrr s) := List.takeWhile_append_dropWhile;have e4 := zgI h3;have hm := zuG (zap 32 (zk4 s))
 have hk : (decide (0 ≤ zcV (zap 32 (zk4 s))) && !(zcV (zap 32 (zk4 s)) == 2)) = true := by rw [← hm.1, h4, Bool.true_and]; exact h5
 simp only [Bool.and_eq_true, decide_eq_true_eq, Bool.not_eq_true'] at hk;refine ⟨zap 32 (zk4 s), ?_, ?_, ?_, h1, ?_, hk.1, hk.2, hm.2 h4 (by simpa using h5), h6⟩
 ·rw [← e4, e3, ← e2, e1]
 ·exact fun hx => zAd (zja hx) rfl
 ·exact fun hx => by have := zja hx; simp at this
 ·exact List.all_eq_true.2 fun x hx => zja hx
def zsw (s : Str) : Str := (zap 32 (zf1 s).2.2).takeWhile zL
def zpE (s : Str) : Str := (zap 32 (zf1 s).2.2).dropWhile zL
def zvl (s : Str) : Bool := (zf1 s).2.1 && zfW 32 (zf1 s).2.2 && zfW 32 (zpE s) && ((zsw s).length : Int) == 3 && (zN 10 (zsw s) 599).2 == 0 && !decide ((zN 10 (zsw s) 599).1 < 100) && (zap 32 (zpE s)).all zek
def zt2 (s : Str) : api_Head × Int := if zcV (zI 32 s).1 == 2 then (zaE, 26) else if zvl s then (⟨2, [], [], (zN 10 (zsw s) 599).1, zap 32 (zpE s), (zf1 s).1, []⟩, 0) else (zaE, 20)
theorem zow (s : Str) (hs : s.length < 300000000) : zex s = some (zt2 s) := by
 unfold zex zt2;have hcl := zos 32 s;rw [zmX s 32 (by omega), yob, zkl _ (by omega), yob]
 cases zcV (zI 32 s).1 == 2 with
 | true => rfl
 | false =>
  rw [if_neg (by decide), if_neg (by decide), zh2, yob]
  have hs' : s.length < 1000000000 := by omega
  obtain ⟨k1, h1, e1⟩ := zwk hs' (At.zero s);obtain ⟨k2, h2, e2⟩ := zfX hs' 32 h1;obtain ⟨k3, h3, e3⟩ := zl3 zi8 hs' h2;obtain ⟨k4, h4, e4⟩ := zfX hs' 32 h3;rw [e1, yob];dsimp only;rw [e2, yob];dsimp only;rw [e3, yob];dsimp only;have hl := h2.le_len;have hl2 := zmH zL (zap 32 (zf1 s).2.2);have hl4 := h4.le_len;rw [e4, yob, zfg _ _ (by omega) (by decide) (by decide), yob];dsimp only;rw [zsi h4, yob, zdg zg5 _ (by omega), yob];unfold zV zvl zpE zsw;dsimp only;rw [zsi h4, yob];cases (zf1 s).2.1 <;> cases zfW 32 (zf1 s).2.2 <;> cases zfW 32 ((zap 32 (zf1 s).2.2).dropWhile zL) <;> cases (((zap 32 (zf1 s).2.2).takeWhile zL).length : Int) == 3 <;> cases (zN 10 ((zap 32 (zf1 s).2.2).takeWhile zL) 599).2 == 0 <;> cases decide ((zN 10 ((zap 32 (zf1 s).2.2).takeWhile zL) 599).1 < 100) <;> cases (zap 32 ((zap 32 (zf1 s).2.2).dropWhile zL)).all zek <;> rfl
def zch (kind : Int) (s : Str) : api_Head × Int := if !(kind == 1) && !(kind == 2) then (zaE, 1) else if s.any ([13, 10] : Str).contains then (zaE, 24) else if kind == 1 then zrW s else zt2 s
theorem ze0 (kind : Int) (s : Str) (hs : s.length < 300000000) : zbX kind s = some (zch kind s) := by
 unfold zbX zdr zch;rw [ziB s [13, 10] (by omega) (by decide) (by decide), yob, znn s hs, yob, zow s hs, yob];cases kind == 1 <;> cases kind == 2 <;> cases s.any ([13, 10] : Str).contains <;> rfl

end Go.Dm
end
section
namespace Go.Dm
theorem zBl {v : Str} (h : 0 ≤ zcV v) (h2 : (zcV v == 2) = false) : (32 : UInt8) ∉ v := by
 rcases zkk h h2 with ⟨h, _⟩ | ⟨h, _⟩ <;> rw [h] <;> decide
theorem zwC {m t v : Str} (h1 : (32 : UInt8) ∉ m) (h2 : (32 : UInt8) ∉ t) (h3 : (32 : UInt8) ∉ v) : zf 32 (m ++ 32 :: (t ++ 32 :: v)) = [m, t, v] := by
 rw [zf2 _ h1, zf2 _ h2, zh4 h3]
theorem zpO (c : UInt8) : ∀ (x y : Str), zf c (x ++ c :: y) = zf c x ++ zf c y
 | [], y => by rw [yna, zaR, if_pos rfl]; rfl
 | z :: x, y => by
  rw [List.cons_append, zaR, zaR, zpO c x y]
  split
  ·rfl
  ·cases h : zf c x with
   | nil => exact absurd h (zbz c x)
   | cons a l => rfl
theorem znq {c : UInt8} : ∀ {s x : Str}, zf c s = [x] → x = s
 | [], x, h => by rw [zf] at h; cases h; rfl
 | y :: s, x, h => by
  rw [zaR] at h
  split at h
  ·injection h with h1 h2
   exact absurd h2 (zbz c s)
  ·cases h3 : zf c s with
   | nil => exact absurd h3 (zbz c s)
   | cons a l =>
    rw [h3] at h
    injection h with h1 h2
    subst h2;have := znq h3;rw [← h1, this]; rfl
theorem zsI (s : Str) : (zrW s = (zaE, 26) ∨ zrW s = (zaE, 20)) ∨ zwl s = true ∧ zrW s = (⟨1, zpc s, zrV s, 0, [], (zf1 (zap 32 (zk4 s))).1, []⟩, 0) := by
 unfold zrW
 split
 ·exact .inl (.inl rfl)
 ·cases h : zwl s with
  | true => exact .inr ⟨rfl, rfl⟩
  | false => exact .inl (.inr rfl)
end Go.Dm
end
section
namespace Go.Dm
theorem zy1 (c : UInt8) : (!zL c || ((((c - 48).toNat : Int) == 1) == (c == 49))) = true := zD (fun c => !zL c || ((((c - 48).toNat : Int) == 1) == (c == 49))) (by decide +kernel) c
theorem dig_le (c : UInt8) : (!zL c || (decide (((c - 48).toNat : Int) ≤ 1) == (c == 48 || c == 49))) = true := zD (fun c => !zL c || (decide (((c - 48).toNat : Int) ≤ 1) == (c == 48 || c == 49))) (by decide +kernel) c
theorem zxf (a b : UInt8) (t : Str) (ha : zL a = true) (hb : zL b = true) : zhC (zby ++ a :: 46 :: b :: t) = (((a - 48).toNat : Int), ((b - 48).toNat : Int), true, t) := by
 unfold zhC;have hp : zby.isPrefixOf (zby ++ a :: 46 :: b :: t) = true := List.isPrefixOf_iff_prefix.2 ⟨_, rfl⟩;have hd : (zby ++ a :: 46 :: b :: t).drop 5 = a :: 46 :: b :: t := rfl;rw [if_pos hp, hd]
 have e1 : zkY (a :: 46 :: b :: t) = (((a - 48).toNat : Int), true, 46 :: b :: t) := by unfold zkY; dsimp only; rw [if_pos ha]
 have e2 : zkY (b :: t) = (((b - 48).toNat : Int), true, t) := by unfold zkY; dsimp only; rw [if_pos hb]
 rw [e1];dsimp only;rw [zaP, zcg, e2];rfl
theorem zB3 (a b : UInt8) (ha : zL a = true) (hb : zL b = true) : zcV (zby ++ [a, 46, b]) = if ([a, 46, b] : Str) == [49, 46, 48] then 0 else if ([a, 46, b] : Str) == [49, 46, 49] then 1 else 2 := by
  unfold zcV;rw [zxf a b [] ha hb];have h1 := zy1 a;have h2 := dig_le b;rw [ha] at h1;rw [hb] at h2
  have h1 : (((a - 48).toNat : Int) == 1) = (a == 49) := by simpa using h1
  have h2 : decide (((b - 48).toNat : Int) ≤ 1) = (b == 48 || b == 49) := by simpa using h2
  dsimp only;rw [h1, h2]
  have e1 : (([a, 46, b] : Str) == [49, 46, 48]) = (a == 49 && b == 48) := by
    simp only [List.cons_beq_cons, ybs, Bool.true_and, Bool.and_true]
  have e2 : (([a, 46, b] : Str) == [49, 46, 49]) = (a == 49 && b == 49) := by
    simp only [List.cons_beq_cons, ybs, Bool.true_and, Bool.and_true]
  rw [e1, e2]
  cases a == 49 with
  | false => rfl
  | true =>
    cases h3 : b == 48 with
    | true => have : b = 48 := by simpa using h3
              subst this; rfl
    | false =>
      cases h4 : b == 49 with
      | true => have : b = 49 := by simpa using h4
                subst this; rfl
      | false => rfl
theorem znT {u : Str} (h : ∀ a b, u = zby ++ [a, 46, b] → zL a = true → zL b = true → False) : zcV u = -1 := by
 unfold zcV
 cases hc : (zhC u).2.2.1 && (zhC u).2.2.2 == [] with
 | false => rfl
 | true =>
  exfalso
  simp only [Bool.and_eq_true] at hc;obtain ⟨a, b, t, e, ha, hb, ev⟩ := zpD hc.1;rw [ev] at hc
  have ht : t = [] := by simpa using hc.2
  subst ht;exact h a b e ha hb
theorem zlZ (u : Str) (hu : u.length < 1000000000) : zdc u = some (zcV u) := by
 unfold zdc zbt
 by_cases h8 : u.length = 8
 ·have e8 : ((u.length : Int) == 8) = true := by rw [h8]; rfl
  have t5 := zc9 (l := u) (h := 5) (by omega);have f5 := z6 (l := u) (i := 5) (by omega);have a5 : sAt u 5 = u[5]? := zU u 5;have a6 : sAt u 6 = u[6]? := zU u 6;have a7 : sAt u 7 = u[7]? := zU u 7;have t5 : sTo u 5 = some (u.take 5) := t5;have f5 : zbh u 5 = some (u.drop 5) := f5;rw [e8, ynt, if_neg (by decide), t5, yob, a5, a6, a7, f5, yob, yob]
  match u, h8 with
  | [c0, c1, c2, c3, c4, a, d, b], _ =>
   show (if (!(([c0, c1, c2, c3, c4] : Str) == zby)) = true then _ else (some a).bind fun b5 => (zeV b5).bind fun r6 => if (!r6) = true then _ else (some d).bind fun b8 => if (!(b8 == 46)) = true then _ else (some b).bind fun b10 => (zeV b10).bind fun r11 => if (!r11) = true then some (-1) else (if (([a, d, b] : Str) == [49, 46, 48]) = true then some 0 else if (([a, d, b] : Str) == [49, 46, 49]) = true then some 1 else some 2)) = _;simp only [yob, ztR]
   cases hp : ([c0, c1, c2, c3, c4] : Str) == zby with
   | false =>
    rw [znT (fun x y e _ _ => by
     have := congrArg (List.take 5) e;rw [show ([c0, c1, c2, c3, c4, a, d, b] : Str).take 5 = [c0, c1, c2, c3, c4] from rfl, show (zby ++ [x, 46, y]).take 5 = zby from rfl] at this;rw [this, ybs] at hp
     cases hp)]
    rfl
   | true =>
    have hp' : ([c0, c1, c2, c3, c4] : Str) = zby := by simpa using hp
    have hu : ([c0, c1, c2, c3, c4, a, d, b] : Str) = zby ++ [a, d, b] := by rw [← hp']; rfl
    rw [hu]
    have hinj : ∀ x y, zby ++ [a, d, b] = zby ++ [x, 46, y] → a = x ∧ d = 46 ∧ b = y := fun x y e => by
     have := List.append_cancel_left e;simpa using this
    cases ha : zL a with
    | false => rw [znT (fun x y e h1 _ => by obtain ⟨rfl, _, _⟩ := hinj x y e; rw [ha] at h1; cases h1)]; rfl
    | true =>
     cases hd : d == 46 with
     | false => rw [znT (fun x y e _ _ => by obtain ⟨_, h, _⟩ := hinj x y e; rw [h] at hd; exact absurd hd (by decide))]; rfl
     | true =>
      have hd' : d = 46 := by simpa using hd
      subst hd'
      cases hb : zL b with
      | false => rw [znT (fun x y e _ h2 => by obtain ⟨_, _, rfl⟩ := hinj x y e; rw [hb] at h2; cases h2)]; rfl
      | true =>
       rw [zB3 a b ha hb];cases ([a, 46, b] : Str) == [49, 46, 48] <;> cases ([a, 46, b] : Str) == [49, 46, 49] <;> rfl
 ·have e8 : ((u.length : Int) == 8) = false := beq_eq_false_iff_ne.2 (by omega);rw [e8, znT (fun a b e _ _ => h8 (by rw [e]; rfl))];rfl
theorem zxg {s : Str} {c : UInt8} : ∀ {k : Nat}, k ≤ s.length → zjm s c k = none → c ∉ s.take k
 | 0, _, _ => by simp
 | k + 1, hk, h => by
  rw [zjm] at h
  split at h
  ·cases h
  ·rename_i h2
   have ih := zxg (by omega) h;rw [List.take_add_one];intro hm
   rcases List.mem_append.1 hm with hm | hm
   ·exact ih hm
   ·have g : s[k]? = some s[k] := ygg (by omega);rw [g] at hm h2
    have : c = s[k] := by simpa using hm
    exact h2 (by rw [this])
theorem zrG {s : Str} {c : UInt8} : ∀ {k i : Nat}, k ≤ s.length → zjm s c k = some i → c ∉ (s.take k).drop (i + 1)
 | 0, _, _, h => by cases h
 | k + 1, i, hk, h => by
  rw [zjm] at h
  split at h
  ·cases h;rw [List.drop_of_length_le (by rw [ylt]; omega)];simp
  ·rename_i h2
   have ih := zrG (by omega) h;have hlt := (znB h).1;have g : s[k]? = some s[k] := ygg (by omega);rw [List.take_add_one, g, List.drop_append_of_le_length (by simp; omega)];intro hm
   rcases List.mem_append.1 hm with hm | hm
   ·exact ih hm
   ·rw [g] at h2
    have : c = s[k] := by simpa using hm
    exact h2 (by rw [this])
theorem ztu (s : Str) : ∃ l, zf 32 s = l ++ [znm s] := by
 unfold znm zuH
 cases h : zjm s 32 s.length with
 | none =>
  have := zxg (Nat.le_refl _) h;rw [List.take_length] at this;exact ⟨[], by rw [zh4 this]; rfl⟩
 | some k =>
  have h1 := znB h;have h2 := zrG (Nat.le_refl _) h;rw [List.take_length] at h2;have g : s[k]? = some s[k] := ygg h1.1;rw [g] at h1;have hc : s[k] = 32 := yoi h1.2
  have e : s = s.take k ++ 32 :: s.drop (k + 1) := by
   have := (List.take_append_drop k s).symm;rw [ydg h1.1, hc] at this;exact this
  refine ⟨zf 32 (s.take k), ?_⟩
  conv => lhs; rw [e]
  rw [zpO, zh4 h2]
theorem zpv : ∀ {s m : Str} {l : List Str}, zf 32 s = m :: l → (l = [] ∧ s = m) ∨ ∃ r, s = m ++ 32 :: r ∧ zf 32 r = l
 | [], m, l, h => by rw [zf] at h; cases h; exact .inl ⟨rfl, rfl⟩
 | y :: s, m, l, h => by
  rw [zaR] at h
  split at h
  ·rename_i e
   injection h with h1 h2
   subst h1 e;exact .inr ⟨s, rfl, h2⟩
  ·cases h3 : zf 32 s with
   | nil => exact absurd h3 (zbz 32 s)
   | cons a l' =>
    rw [h3] at h
    injection h with h1 h2
    subst h2
    rcases zpv h3 with ⟨h4, h5⟩ | ⟨r, h4, h5⟩
    ·exact .inl ⟨h4, by rw [← h1, h5]; rfl⟩
    ·exact .inr ⟨r, by rw [← h1, h4]; rfl, h5⟩
theorem zmB {p : UInt8 → Bool} {c : UInt8} (hc : p c = false) : ∀ {m : Str} (r : Str), m.all p = true → (m ++ c :: r).takeWhile p = m ∧ (m ++ c :: r).dropWhile p = c :: r
 | [], r, _ => by simp [hc]
 | x :: m, r, h => by
  simp only [List.all_cons, Bool.and_eq_true] at h;have ih := zmB hc r h.2;constructor
  ·rw [List.cons_append, List.takeWhile_cons, if_pos h.1, ih.1]
  ·rw [List.cons_append, List.dropWhile_cons, if_pos h.1, ih.2]
theorem zB4 {t : Str} (h : (32 : UInt8) ∉ t) : t.all (fun b => !(b == 32)) = true :=
 List.all_eq_true.2 fun x hx => by
  have : x ≠ 32 := fun e => h (by rw [← e]; exact hx);simp [this]
theorem zB5 {m t v : Str} (h1 : m.all zbx = true) (h2 : (32 : UInt8) ∉ t) : zpc (m ++ 32 :: (t ++ 32 :: v)) = m ∧ zrV (m ++ 32 :: (t ++ 32 :: v)) = t ∧ zrr (m ++ 32 :: (t ++ 32 :: v)) = 32 :: (t ++ 32 :: v) ∧ zk4 (m ++ 32 :: (t ++ 32 :: v)) = 32 :: v := by
 have a := zmB (p := zbx) (c := 32) (by decide) (t ++ 32 :: v) h1;have b := zmB (p := fun b => !(b == 32)) (c := 32) (by decide) v (zB4 h2);unfold zpc zrV zk4 zrr;rw [a.1, a.2, zaP, b.1, b.2];exact ⟨rfl, rfl, rfl, rfl⟩
def reqS (s : Str) : api_Head × Int :=
 if zcV (znm s) == 2 then (zaE, 26) else match zf 32 s with
 | [m, t, v] => if !decide (zcV v < 0) && zem m && (zkj m t).2 == 0 then (⟨1, m, t, 0, [], zcV v, []⟩, 0) else (zaE, 20)
 | _ => (zaE, 20)
theorem zra (m : Str) : zem m = true ↔ m ≠ [] ∧ m.all zbx = true := by
 unfold zem;cases m <;> simp
theorem zrH {s m t v : Str} (h : zf 32 s = [m, t, v]) : s = m ++ 32 :: (t ++ 32 :: v) ∧ (32 : UInt8) ∉ m ∧ (32 : UInt8) ∉ t ∧ (32 : UInt8) ∉ v ∧ znm s = v := by
 have hm := fun x (hx : x ∈ zf 32 s) => (zdO hx).1;rw [h] at hm;refine ⟨?_, hm m (by simp), hm t (by simp), hm v (by simp), ?_⟩
 ·rcases zpv h with ⟨h1, _⟩ | ⟨r, h1, h2⟩
  ·cases h1
  ·rcases zpv h2 with ⟨h3, _⟩ | ⟨r2, h3, h4⟩
   ·cases h3
   ·rw [h1, h3, znq h4]
 ·obtain ⟨l, hl⟩ := ztu s;rw [h] at hl;have := congrArg List.getLast? hl;simp at this;exact this.symm
theorem zyv (s : Str) : zrW s = reqS s := by
 unfold zrW reqS
 cases h26 : zcV (znm s) == 2 with
 | true => rfl
 | false =>
  rw [if_neg yfn, if_neg yfn]
  cases hF : zwl s with
  | true =>
   obtain ⟨v, e, n1, n2, h3, h4, k1, k2, k3, k4⟩ := zpd hF;have hv := zBl k1 k2
   have hsp : zf 32 s = [zpc s, zrV s, v] := by
    have := zwC n1 n2 hv;rw [← e] at this;exact this
   rw [if_pos rfl, hsp, k3];dsimp only;rw [ydf (show ¬ zcV v < 0 by omega), (zra _).2 ⟨h3, h4⟩, k4];rfl
  | false =>
   rw [if_neg (by decide)]
   split
   ·rename_i m t v hsp
    split
    ·rename_i hc
     exfalso
     simp only [Bool.and_eq_true, Bool.not_eq_true', decide_eq_false_iff_not] at hc;obtain ⟨⟨c1, c2⟩, c3⟩ := hc;obtain ⟨e, _, n2, _, hlast⟩ := zrH hsp;obtain ⟨t1, t2⟩ := (zra _).1 c2;obtain ⟨r1, r2, r3, r4⟩ := zB5 (v := v) t2 n2;rw [← e] at r1 r2 r3 r4;have hm := (zuG v).1;rw [hlast] at h26;rw [ydt (show 0 ≤ zcV v by omega), h26] at hm;unfold zwl at hF;rw [r1, r2, r3, r4, zcg, zaP, zcg, hm, c3] at hF
     have : (m == []) = false := by simpa using t1
     rw [this] at hF
     revert hF
     decide
    ·rfl
   ·rfl
theorem zrI (w : List Str) (v : Int) (m t u : Str) (hw : w = [m, t, u]) (hb : t.length < 300000000) (q : Bool) :
  zaN w v q = some (if q then (zaE, 20) else if (zkj m t).2 == 0 then (⟨1, m, t, 0, [], v, []⟩, 0) else (zaE, 20)) := by
 subst hw;unfold zaN;have l0 : lAt [m, t, u] 0 = some m := rfl;have l1 : lAt [m, t, u] 1 = some t := rfl;rw [l0, l1, yob, yob, ztX m t hb, yob, yob, yob];cases q <;> cases (zkj m t).2 == 0 <;> rfl
theorem zvY (s : Str) (hs : s.length < 300000000) : ((zcu ((zf 32 s).length : Int) 1).bind fun i28 => (lAt (zf 32 s) i28).bind fun x29 => (zdc x29).bind fun r32 =>
  if (r32 == 2) then (some (((⟨0, [], [], 0, [], 0, []⟩ : api_Head), 26))) else (if (!(((zf 32 s).length : Int) == 3)) then (zaN (zf 32 s) r32 true) else (if (decide (r32 < 0)) then (zaN (zf 32 s) r32 true) else ((lAt (zf 32 s) 0).bind fun x40 => (zeW x40).bind fun r43 => zaN (zf 32 s) r32 (!r43))))) = some (reqS s) := by
 have hlen := zf3 32 s;have hpos := List.length_pos_iff.2 (zbz 32 s);obtain ⟨l, hl⟩ := ztu s
 have hlw : (znm s).length ≤ s.length := by unfold znm; simp
 have e1 : zcu ((zf 32 s).length : Int) 1 = some (((zf 32 s).length - 1 : Nat) : Int) := by rw [zaJ (by omega) (by omega)]; congr 1; omega
 have e2 : (zf 32 s)[(zf 32 s).length - 1]? = some (znm s) := by rw [hl]; simp
 rw [e1, yob, zY, e2, yob, zlZ _ (by omega), yob];unfold reqS
 cases zcV (znm s) == 2 with
 | true => rfl
 | false =>
  rw [if_neg yfn, if_neg yfn]
  by_cases h3 : (zf 32 s).length = 3
  ·have e3 : (((zf 32 s).length : Int) == 3) = true := by rw [h3]; rfl
   obtain ⟨m, t, v, hsp⟩ : ∃ m t v, zf 32 s = [m, t, v] := by
    match zf 32 s, h3 with
    | [m, t, v], _ => exact ⟨m, t, v, rfl⟩
   have hmem := fun x (hx : x ∈ zf 32 s) => (zdO hx).2.1;obtain ⟨_, _, _, _, hlast⟩ := zrH hsp;rw [e3, ynt, if_neg (by decide), hlast, hsp];rw [hsp] at hmem;have hm := hmem m (by simp);have ht := hmem t (by simp);have l0 : lAt [m, t, v] 0 = some m := rfl;rw [l0, yob, zkV m (by omega), yob, zrI [m, t, v] (zcV v) m t v rfl (by omega), zrI [m, t, v] (zcV v) m t v rfl (by omega)];dsimp only;cases decide (zcV v < 0) <;> cases zem m <;> cases (zkj m t).2 == 0 <;> rfl
  ·have e3 : (((zf 32 s).length : Int) == 3) = false := beq_eq_false_iff_ne.2 (by omega);rw [e3, ynf, if_pos rfl];unfold zaN;rw [if_pos rfl]
   split
   ·rename_i m t v hsp
    rw [hsp] at h3;exact absurd rfl h3
   ·rfl
theorem zu7 (s : Str) : zf 32 s = if (zI 32 s).2.2 then (zI 32 s).1 :: zf 32 (zI 32 s).2.1 else [s] := by
 have hno : (32 : UInt8) ∉ (zI 32 s).1 := fun hm => by
  have := zxt (cs := [32]) (s := s) 32 hm;simp at this
 rcases zdn (zI 32 s).2.2 with h | h
 ·rw [if_pos h];have := ztt 32 s h
  conv => lhs; rw [← this]
  exact zf2 _ hno
 ·have hn := zmA 32 s h;rw [if_neg (by rw [h]; decide)];rw [hn] at hno;exact zh4 hno
theorem zxh (b : UInt8) (t : Str) (hb : b = 48 ∨ b = 49) : zf1 (zby ++ 49 :: 46 :: b :: t) = (((b - 48).toNat : Int), true, t) := by
 unfold zf1;rw [zxf 49 b t (by decide) (by rcases hb with h | h <;> subst h <;> decide)]
 rcases hb with h | h <;> subst h <;> rfl
theorem zmC {s : Str} {m : Int} (h : (zN 10 s m).2 = 0) : s.all zL = true ∧ s ≠ [] := by
 unfold zN at h
 split at h
 ·cases h
 ·rename_i h2
  simp only [Bool.or_eq_true, Bool.not_eq_true', not_or] at h2
  have h3 : s.all (zkR 10) = true := by simpa using h2.2
  exact ⟨List.all_eq_true.2 fun x hx => (List.all_eq_true.1 h3 x hx : zkR 10 x = true), by simpa using h2.1⟩
def ztv (s : Str) : Bool := match zf 32 s with
 | w0 :: w1 :: _ :: _ => !decide (zcV w0 < 0) && (w1.length : Int) == 3 && (zN 10 w1 599).2 == 0 && !decide ((zN 10 w1 599).1 < 100) && (s.drop 13).all zek
 | _ => false
theorem zqg {b : UInt8} {w r : Str} (hb : b = 48 ∨ b = 49) (hw : w.all zL = true) : (zf1 (zby ++ 49 :: 46 :: b :: 32 :: (w ++ 32 :: r))) = (((b - 48).toNat : Int), true, 32 :: (w ++ 32 :: r)) ∧ zsw (zby ++ 49 :: 46 :: b :: 32 :: (w ++ 32 :: r)) = w ∧ zpE (zby ++ 49 :: 46 :: b :: 32 :: (w ++ 32 :: r)) = 32 :: r := by
 have h1 := zxh b (32 :: (w ++ 32 :: r)) hb;have h2 := zmB (p := zL) (c := 32) (by decide) r hw;refine ⟨h1, ?_, ?_⟩
 ·unfold zsw; rw [h1]; dsimp only; rw [zaP, h2.1]
 ·unfold zpE; rw [h1]; dsimp only; rw [zaP, h2.2]
theorem zu8 {w : Str} (h : w.all zL = true) : (32 : UInt8) ∉ w := fun hm => by
 have := List.all_eq_true.1 h 32 hm
 revert this; decide
theorem zmD {s : Str} (h : zvl s = true) : ∃ b w r, (b = 48 ∨ b = 49) ∧ s = zby ++ 49 :: 46 :: b :: 32 :: (w ++ 32 :: r) ∧ w.all zL = true ∧ w.length = 3 := by
 unfold zvl at h;simp only [Bool.and_eq_true] at h;obtain ⟨⟨⟨⟨⟨⟨h1, h2⟩, h3⟩, h4⟩, h5⟩, h6⟩, h7⟩ := h;unfold zf1 at h1;simp only [Bool.and_eq_true, decide_eq_true_eq, beq_iff_eq] at h1;obtain ⟨⟨a1, a2⟩, a3⟩ := h1;obtain ⟨a, b, t, e, ha, hb, ev⟩ := zpD a1;rw [ev] at a2 a3
 have hm : (zf1 s).2.2 = t := by unfold zf1; rw [ev]
 rw [hm] at h2
 have ha1 : a = 49 := by
  have := zy1 a;rw [ha] at this
  have : (((a - 48).toNat : Int) == 1) = (a == 49) := by simpa using this
  rw [show (((a - 48).toNat : Int) == 1) = true from by simpa using a2] at this;simpa using this.symm
 have hb1 := znl hb (by dsimp only at a3; omega);have e2 := zgI h2;have e4 := zgI h3
 have e5 : zsw s ++ zpE s = zap 32 t := by
  unfold zsw zpE; rw [hm]; exact List.takeWhile_append_dropWhile
 have hl3 : ((zsw s).length : Int) = 3 := by simpa using h4
 refine ⟨b, zsw s, zap 32 (zpE s), hb1, ?_, (zmC (by simpa using h5)).1, by omega⟩;rw [← e4, e5, ← e2, ← ha1, e]
theorem zDr (s : Str) (h26 : (zcV (zI 32 s).1 == 2) = false) : zvl s = ztv s := by
  rw [Bool.eq_iff_iff];constructor
  · intro h
    have h' := h;obtain ⟨b, w, r, hb, e, hw, hl⟩ := zmD h;obtain ⟨m1, m2, m3⟩ := zqg (r := r) hb hw;rw [← e] at m1 m2 m3;unfold zvl at h';rw [m1, m2, m3] at h';simp only [Bool.and_eq_true, zaP] at h'
    have h32 : (32 : UInt8) ∉ (zby ++ [49, 46, b]) := by rcases hb with h | h <;> subst h <;> decide
    have hsp : zf 32 s = (zby ++ [49, 46, b]) :: w :: zf 32 r := by
      have e' : s = (zby ++ [49, 46, b]) ++ 32 :: (w ++ 32 :: r) := by rw [e]; simp
      rw [e', zf2 _ h32, zf2 _ (zu8 hw)]
    have hd : s.drop 13 = r := by
      rw [e];show (w ++ 32 :: r).drop 4 = r
      match w, hl with
      | [x, y, z], _ => rfl
    have hv : zcV (zby ++ [49, 46, b]) = ((b - 48).toNat : Int) := by rcases hb with h | h <;> subst h <;> decide
    unfold ztv;rw [hsp]
    cases hr : zf 32 r with
    | nil => exact absurd hr (zbz 32 r)
    | cons x l =>
      dsimp only;rw [hd, hv, ydf (by omega)];simp only [Bool.and_eq_true];exact ⟨⟨⟨⟨rfl, by rw [hl]; rfl⟩, h'.1.1.2⟩, h'.1.2⟩, h'.2⟩
  · intro h
    unfold ztv at h
    split at h
    · rename_i w0 w1 w2 l hsp
      simp only [Bool.and_eq_true, Bool.not_eq_true', decide_eq_false_iff_not] at h;obtain ⟨⟨⟨⟨h1, h2⟩, h3⟩, h4⟩, h5⟩ := h;have hc := zu7 s;rw [hsp] at hc
      have h0 : (zI 32 s).1 = w0 := by
        split at hc
        · injection hc with hc _; exact hc.symm
        · cases hc
      rw [h0] at h26
      rcases zpv hsp with ⟨hx, _⟩ | ⟨r1, e1, hsp1⟩
      · cases hx
      rcases zpv hsp1 with ⟨hx, _⟩ | ⟨r, e2, hsp2⟩
      · cases hx
      have hb : ∃ b, (b = 48 ∨ b = 49) ∧ w0 = zby ++ [49, 46, b] := by
        rcases zkk (u := w0) (by omega) h26 with ⟨h, _⟩ | ⟨h, _⟩
        · exact ⟨48, .inl rfl, h⟩
        · exact ⟨49, .inr rfl, h⟩
      obtain ⟨b, hb, hw0⟩ := hb;have hw := (zmC (by simpa using h3)).1
      have e : s = zby ++ 49 :: 46 :: b :: 32 :: (w1 ++ 32 :: r) := by rw [e1, hw0, e2]; simp
      obtain ⟨m1, m2, m3⟩ := zqg (r := r) hb hw;rw [← e] at m1 m2 m3
      have hl : w1.length = 3 := by have : (w1.length : Int) = 3 := by simpa using h2
                                    omega
      have hd : s.drop 13 = r := by
        rw [e];show (w1 ++ 32 :: r).drop 4 = r
        match w1, hl with
        | [x, y, z], _ => rfl
      rw [hd] at h5;unfold zvl;rw [m1, m2, m3];simp only [Bool.and_eq_true, zaP, zcg];exact ⟨⟨⟨⟨⟨⟨by first | trivial | rfl, by first | trivial | rfl⟩, by first | trivial | rfl⟩, h2⟩, h3⟩, by rw [ydf (by omega)]; rfl⟩, h5⟩
    · cases h
theorem zxi (v : Int) (rd : Int × Int) (u : Str) (hu : u.length < 1000000000) : zdA v rd u fuel 0 = some (if u.all zek && rd.2 == 0 && !decide (rd.1 < 100) then (⟨2, [], [], rd.1, u, v, []⟩, 0) else (zaE, 20)) := by
 have key : ∀ (n i : Nat), i ≤ u.length → u.length - i < n → zdA v rd u n (i : Int) = some (if (u.drop i).all zek && rd.2 == 0 && !decide (rd.1 < 100) then (⟨2, [], [], rd.1, u, v, []⟩, 0) else (zaE, 20)) := by
  intro n
  induction n with
  | zero => intro i _ h; omega
  | succ n ih =>
   intro i hi h;rw [zdA]
   by_cases hlt : i < u.length
   ·have g : u[i]? = some u[i] := ygg hlt;rw [ydt (show (i : Int) < (u.length : Int) by omega), if_pos rfl, zU, g, yob, ziD, yob, zi (by omega), yob, ih (i + 1) (by omega) (by omega), ydg hlt, List.all_cons];cases zek u[i] <;> rfl
   ·have : i = u.length := by omega
    subst this;unfold zgu;rw [ydf (by omega), if_neg (by decide), ydl];cases rd.2 == 0 <;> cases decide (rd.1 < 100) <;> rfl
 have := key fuel 0 (yz _) (by unfold fuel; omega);rw [List.drop_zero] at this;exact this
theorem zvZ (s : Str) (hs : s.length < 300000000) : ((lAt (zf 32 s) 0).bind fun x69 => (zdc x69).bind fun r72 =>
    if (r72 == 2) then (some (((⟨0, [], [], 0, [], 0, []⟩ : api_Head), 26))) else (if (decide (((zf 32 s).length : Int) < 3)) then (zaO s (zf 32 s) r72 true) else (if (decide (r72 < 0)) then (zaO s (zf 32 s) r72 true) else ((lAt (zf 32 s) 1).bind fun x80 => zaO s (zf 32 s) r72 (!((x80.length : Int) == 3)))))) = some (zt2 s) := by
  have hc := zu7 s;have hcl := zos 32 s
  have h0 : ∃ l, zf 32 s = (zI 32 s).1 :: l := by
    rcases zdn (zI 32 s).2.2 with h | h
    · rw [if_pos h] at hc; exact ⟨_, hc⟩
    · rw [if_neg (by rw [h]; decide)] at hc
      have := zmA 32 s h;exact ⟨[], by rw [hc, this]⟩
  obtain ⟨l, hl⟩ := h0
  have l0 : lAt (zf 32 s) 0 = some (zI 32 s).1 := by rw [hl]; rfl
  rw [l0, yob, zlZ _ (by omega), yob];unfold zt2
  cases h26 : zcV (zI 32 s).1 == 2 with
  | true => rfl
  | false =>
    rw [if_neg yfn, if_neg yfn];have hok := zDr s h26
    have j5t : ∀ w, zaO s w (zcV (zI 32 s).1) true = some (zaE, 20) := fun w => by unfold zaO; rw [if_pos rfl]; rfl
    by_cases h3 : (zf 32 s).length < 3
    · rw [ydt (show ((zf 32 s).length : Int) < 3 by omega), if_pos rfl, j5t, hok]
      have : ztv s = false := by
        unfold ztv
        split
        · rename_i w0 w1 w2 l' hsp
          rw [hsp] at h3; simp only [ylc] at h3; omega
        · rfl
      rw [this]; rfl
    · rw [ydf (show ¬ ((zf 32 s).length : Int) < 3 by omega), if_neg (by decide), j5t]
      obtain ⟨w1, w2, l', hsp⟩ : ∃ w1 w2 l', zf 32 s = (zI 32 s).1 :: w1 :: w2 :: l' := by
        rw [hl] at h3
        match l, h3 with
        | w1 :: w2 :: l', _ => exact ⟨w1, w2, l', hl⟩
        | [_], h => simp at h
        | [], h => simp at h
      have l1 : lAt (zf 32 s) 1 = some w1 := by rw [hsp]; rfl
      rw [l1, yob, hok]
      have hst : ztv s = (!decide (zcV (zI 32 s).1 < 0) && (w1.length : Int) == 3 && (zN 10 w1 599).2 == 0 && !decide ((zN 10 w1 599).1 < 100) && (s.drop 13).all zek) := by
        unfold ztv; rw [hsp]
      cases hneg : decide (zcV (zI 32 s).1 < 0) with
      | true => rw [if_pos rfl, hst, hneg]; rfl
      | false =>
        rw [if_neg (by decide)]
        cases hl3 : (w1.length : Int) == 3 with
        | false => rw [ynf, j5t, hst, hneg, hl3]; rfl
        | true =>
          have hw3 : w1.length = 3 := by have : (w1.length : Int) = 3 := by simpa using hl3
                                         omega
          have h13 : 13 ≤ s.length := by
            have hneg' : ¬ zcV (zI 32 s).1 < 0 := by simpa using hneg
            rcases zpv hsp with ⟨hx, _⟩ | ⟨r1, e1, hsp1⟩
            · cases hx
            rcases zpv hsp1 with ⟨hx, _⟩ | ⟨r, e2, _⟩
            · cases hx
            have h8 : (zI 32 s).1.length = 8 := by
              rcases zkk (u := (zI 32 s).1) (by omega) h26 with ⟨h, _⟩ | ⟨h, _⟩ <;> rw [h] <;> rfl
            rw [e2] at e1;have := congrArg List.length e1;simp only [yla, ylc] at this;omega
          unfold zaO;have hrd := zlx (b := 10) (.inl rfl) w1 599 (by omega) (by decide) (by decide);rw [show ((10 : Nat) : Int) = 10 from rfl] at hrd;have hfr : zbh s 13 = some (s.drop 13) := z6 (i := 13) h13;rw [ynt, if_neg (by decide), l1, yob, hrd, yob, hfr, yob, zxi _ _ _ (by simp; omega), hst, hneg, hl3]
          cases hq : (s.drop 13).all zek && (zN 10 w1 599).2 == 0 && !decide ((zN 10 w1 599).1 < 100) with
          | false =>
            have : (!false && true && (zN 10 w1 599).2 == 0 && !decide ((zN 10 w1 599).1 < 100) && (s.drop 13).all zek) = false := by
              revert hq
              cases (s.drop 13).all zek <;> cases (zN 10 w1 599).2 == 0 <;> cases decide ((zN 10 w1 599).1 < 100) <;> decide
            rw [this]; rfl
          | true =>
            have ht : (!false && true && (zN 10 w1 599).2 == 0 && !decide ((zN 10 w1 599).1 < 100) && (s.drop 13).all zek) = true := by
              revert hq
              cases (s.drop 13).all zek <;> cases (zN 10 w1 599).2 == 0 <;> cases decide ((zN 10 w1 599).1 < 100) <;> decide
            have hF : zvl s = true := by rw [hok, hst, hneg, hl3]; exact ht
            obtain ⟨b, w, r, hb, e, hw, hlw⟩ := zmD hF;obtain ⟨m1, m2, m3⟩ := zqg (r := r) hb hw;rw [← e] at m1 m2 m3
            have h32 : (32 : UInt8) ∉ (zby ++ [49, 46, b]) := by rcases hb with h | h <;> subst h <;> decide
            have hsp' : zf 32 s = (zby ++ [49, 46, b]) :: w :: zf 32 r := by
              have e' : s = (zby ++ [49, 46, b]) ++ 32 :: (w ++ 32 :: r) := by rw [e]; simp
              rw [e', zf2 _ h32, zf2 _ (zu8 hw)]
            rw [hsp] at hsp'
            injection hsp' with q1 q2
            injection q2 with q2 _
            have hd : s.drop 13 = r := by
              rw [e];show (w ++ 32 :: r).drop 4 = r
              match w, hlw with
              | [x, y, z], _ => rfl
            have hv : zcV (zby ++ [49, 46, b]) = ((b - 48).toNat : Int) := by rcases hb with h | h <;> subst h <;> decide
            rw [ht, if_pos rfl, if_pos rfl, m1, m2, m3, zaP, q1, hv, hd, q2]
theorem ztw (kind : Int) (s : Str) (hs : s.length < 300000000) : zjz kind s = some (zch kind s) := by
 unfold zjz zgv zch
 have key : ∀ (n i : Nat), i ≤ s.length → s.length - i < n → (!(kind == 1) && !(kind == 2)) = false → zbJ kind s n (i : Int) = some (if (s.drop i).any ([13, 10] : Str).contains then (zaE, 24) else if kind == 1 then zrW s else zt2 s) := by
  intro n
  induction n with
  | zero => intro i _ h; omega
  | succ n ih =>
   intro i hi h hk;rw [zbJ]
   by_cases hlt : i < s.length
   ·have g : s[i]? = some s[i] := ygg hlt;unfold zgt;rw [ydt (show (i : Int) < (s.length : Int) by omega), if_pos rfl, zU, g, yob, yob, zi (by omega), yob, ih (i + 1) (by omega) (by omega) hk, ydg hlt, List.any_cons]
    have : ([13, 10] : Str).contains s[i] = (s[i] == 13 || s[i] == 10) := by simp only [List.contains_cons, List.contains_nil, Bool.or_false]
    rw [this];cases s[i] == 13 <;> cases s[i] == 10 <;> rfl
   ·have : i = s.length := by omega
    subst this;rw [ydf (by omega), if_neg (by decide), zko s 32 (by omega), yob, ydl, zvY s hs, zvZ s hs, zyv];cases kind == 1 <;> rfl
 have := key fuel 0 (yz _) (by unfold fuel; omega);rw [List.drop_zero] at this;have this : (!(kind == 1) && !(kind == 2)) = false → zbJ kind s fuel 0 = _ := this
 cases h1 : kind == 1 with
 | true => rw [h1] at this; rw [ynt, if_neg (by decide), if_neg (by decide), this rfl]; rfl
 | false =>
  cases h2 : kind == 2 with
  | true => rw [h1, h2] at this; rw [ynf, if_pos rfl, ynt, if_neg (by decide), this rfl]; rfl
  | false => rfl
end Go.Dm
end
section
namespace Go.Dm
def zp8 (n : Int) : Str := zby ++ 49 :: 46 :: ziN 10 n
def zgG (h : api_Head) : Str := if h.Kind == 2 then zp8 h.Minor ++ 32 :: (ziN 10 h.Code ++ 32 :: h.Reason) else h.Method ++ 32 :: (h.Target ++ 32 :: zp8 h.Minor)
def zyY (x h : api_Head) : Bool := x.Method == h.Method && x.Target == h.Target && x.Minor == h.Minor && x.Code == h.Code && x.Reason == h.Reason
def ziv (h : api_Head) : Str × Int := if (zch h.Kind (zgG h)).2 == 1 then ([], 1) else if (zch h.Kind (zgG h)).2 == 0 && zyY (zch h.Kind (zgG h)).1 h then (zgG h, 0) else ([], 20)
structure smallH (h : api_Head) : Prop where
 code : inI h.Code = true
 minor : inI h.Minor = true
 method : h.Method.length < 10000000
 target : h.Target.length < 10000000
 reason : h.Reason.length < 10000000
theorem ztm {n : Int} (hn : inI n = true) : (zp8 n).length ≤ 80 := by
 have := zkg n hn;unfold zp8;simp only [yla, ylc];have : zby.length = 5 := rfl;omega
theorem ztn {h : api_Head} (hs : smallH h) : (zgG h).length < 100000000 := by
 have h1 := ztm hs.minor;have h2 := zkg h.Code hs.code;have h3 := hs.method;have h4 := hs.target;have h5 := hs.reason;unfold zgG
 split <;> simp only [yla, ylc] <;> omega
theorem join3 (a b c : Str) (hl : (a ++ [32] ++ b ++ [32] ++ c).length < 4000000000) : zcf [32] [a, b, c] = some (a ++ 32 :: (b ++ 32 :: c)) := by
 unfold zcf strings_Join
 have e : Go.Lib.join [a, b, c] [32] = a ++ [32] ++ b ++ [32] ++ c := by
  rw [Go.Lib.join_cons]; simp [Go.Lib.joinTail]
 rw [e, if_pos ⟨by simp, by omega⟩];simp
theorem zlf (h : api_Head) (hs : smallH h) : zeH h = some (ziv h) := by
 have hl := ztn hs;have h1 := ztm hs.minor;have h2 := zkg h.Code hs.code;have h2' := zkg h.Minor hs.minor;have h3 := hs.method;have h4 := hs.target;have h5 := hs.reason
 have j1 : zcS h (zgG h) = some (ziv h) := by
  unfold zcS za6 zd3;rw [ze0 _ _ (by omega), yob];unfold ziv zyY;generalize zgG h = u;generalize zch h.Kind u = p;obtain ⟨x, e⟩ := p;dsimp only
  cases h1 : e == 1 with
  | true =>
   have : e = 1 := by simpa using h1
   subst this; rfl
  | false =>
   rw [if_neg yfn, if_neg yfn];cases e == 0 <;> cases x.Method == h.Method <;> cases x.Target == h.Target <;> cases x.Minor == h.Minor <;> cases x.Code == h.Code <;> cases x.Reason == h.Reason <;> rfl
 unfold zeH;have hv : ([72, 84, 84, 80, 47, 49, 46] : Str) ++ ziN 10 h.Minor = zp8 h.Minor := rfl;rw [zjX _ hs.minor, yob, zZ (by simp; omega), yob, hv, join3 _ _ _ (by simp only [yla, ylc, yln]; omega), yob, zjX _ hs.code, yob, join3 _ _ _ (by simp only [yla, ylc, yln]; omega), yob];unfold zgG at j1
 cases hk : h.Kind == 2 with
 | true => rw [hk, if_pos rfl] at j1; rw [if_pos rfl]; exact j1
 | false => rw [hk, if_neg yfn] at j1; rw [if_neg yfn]; exact j1
theorem zuk (h : api_Head) (hs : smallH h) : zkJ h = some (ziv h) := by
 have hl := ztn hs;have h1 := ztm hs.minor;have h2 := zkg h.Code hs.code;have h2' := zkg h.Minor hs.minor;have h3 := hs.method;have h4 := hs.target;have h5 := hs.reason
 have j1 : zfH h (zgG h) = some (ziv h) := by
  unfold zfH zcp;rw [ztw _ _ (by omega), yob];unfold ziv zyY;generalize zgG h = u;generalize zch h.Kind u = p;obtain ⟨x, e⟩ := p;dsimp only
  cases e == 1 with
  | true => rfl
  | false =>
   rw [if_neg yfn, if_neg yfn];cases e == 0 <;> cases x.Method == h.Method <;> cases x.Target == h.Target <;> cases x.Minor == h.Minor <;> cases x.Code == h.Code <;> cases x.Reason == h.Reason <;> rfl
 unfold zkJ;have hv : ([72, 84, 84, 80, 47, 49, 46] : Str) ++ ziN 10 h.Minor = zp8 h.Minor := rfl;have r1 := zlw (b := 10) (.inl rfl) h.Minor hs.minor;have r2 := zlw (b := 10) (.inl rfl) h.Code hs.code;rw [show ((10 : Nat) : Int) = 10 from rfl] at r1 r2;rw [r1, yob, zZ (by simp; omega), yob, hv, zZ (by simp; omega), yob, zZ (by simp; omega), yob, zZ (by simp; omega), yob, zZ (by simp only [yla, ylc, yln]; omega), yob, zZ (by simp; omega), yob, r2, yob, zZ (by simp only [yla, ylc, yln]; omega), yob, zZ (by simp only [yla, ylc, yln]; omega), yob, zZ (by simp only [yla, ylc, yln]; omega), yob];unfold zgG at j1
 cases hk : h.Kind == 2 with
 | true =>
  rw [hk, if_pos rfl] at j1;rw [if_pos rfl]
  have e : zp8 h.Minor ++ [32] ++ ziN 10 h.Code ++ [32] ++ h.Reason = zp8 h.Minor ++ 32 :: (ziN 10 h.Code ++ 32 :: h.Reason) := by simp
  rw [e]; exact j1
 | false =>
  rw [hk, if_neg yfn] at j1;rw [if_neg yfn]
  have e : h.Method ++ [32] ++ h.Target ++ [32] ++ zp8 h.Minor = h.Method ++ 32 :: (h.Target ++ 32 :: zp8 h.Minor) := by simp
  rw [e]; exact j1
theorem zvU : ∀ a, a < 10 → ∀ b, b < 10 → ∀ c, c < 10 → 100 ≤ a * 100 + b * 10 + c → digs 10 (a * 100 + b * 10 + c) = [a, b, c] := by decide +kernel
theorem zvV (c : UInt8) : (!zL c || (decide ((c - 48).toNat < 10) && dch (c - 48).toNat == c && wor c == (c - 48).toNat)) = true := zD (fun c => !zL c || (decide ((c - 48).toNat < 10) && dch (c - 48).toNat == c && wor c == (c - 48).toNat)) (by decide +kernel) c
theorem zyr {w : Str} (hl : w.length = 3) (h : (zN 10 w 599).2 = 0) (h1 : ¬ (zN 10 w 599).1 < 100) : ziN 10 (zN 10 w 599).1 = w ∧ inI (zN 10 w 599).1 = true := by
 have hin := zkO h (by decide);refine ⟨?_, hin.2.2⟩;have hd := (zmC h).1
 match w, hl with
 | [x, y, z], _ =>
  simp only [List.all_cons, List.all_nil, Bool.and_true, Bool.and_eq_true] at hd;have fx := zvV x;have fy := zvV y;have fz := zvV z;rw [hd.1] at fx;rw [hd.2.1] at fy;rw [hd.2.2] at fz;simp only [ynt, Bool.false_or, Bool.and_eq_true, decide_eq_true_eq, beq_iff_eq] at fx fy fz
  have hval : (zN 10 [x, y, z] 599).1 = (((x - 48).toNat * 100 + (y - 48).toNat * 10 + (z - 48).toNat : Nat) : Int) := by
   unfold zN at h ⊢
   split at h
   ·cases h
   ·rename_i g1
    rw [if_neg g1]
    split at h
    ·cases h
    ·rename_i g2
     rw [if_neg g2]
     have : zbg 10 (vals [x, y, z]) = (x - 48).toNat * 100 + (y - 48).toNat * 10 + (z - 48).toNat := by
      unfold vals zbg;simp only [List.map_cons, List.map_nil, List.foldl_cons, List.foldl_nil, fx.2, fy.2, fz.2];omega
     rw [this]
  rw [hval] at h1 ⊢;unfold ziN;rw [if_neg (by omega), Int.toNat_natCast, zvU _ fx.1.1 _ fy.1.1 _ fz.1.1 (by omega)];unfold zk;simp only [List.map_cons, List.map_nil, fx.1.2, fy.1.2, fz.1.2]
theorem zto {k : Int} {s : Str} {x : api_Head} (h : zch k s = (x, 0)) : (k = 1 ∧ zrW s = (x, 0)) ∨ (k = 2 ∧ zt2 s = (x, 0)) := by
 unfold zch at h
 cases h1 : k == 1 with
 | true =>
  have hk : k = 1 := by simpa using h1
  rw [h1, ynt, Bool.false_and, if_neg yfn] at h
  split at h
  ·exact absurd (show (24 : Int) = 0 from congrArg Prod.snd h) (by decide)
  ·rw [if_pos rfl] at h; exact .inl ⟨hk, h⟩
 | false =>
  cases h2 : k == 2 with
  | true =>
   have hk : k = 2 := by simpa using h2
   rw [h1, h2, ynt, Bool.and_false, if_neg yfn] at h
   split at h
   ·exact absurd (show (24 : Int) = 0 from congrArg Prod.snd h) (by decide)
   ·rw [if_neg yfn] at h; exact .inr ⟨hk, h⟩
  | false =>
   rw [h1, h2, ynf, Bool.true_and, if_pos rfl] at h;exact absurd (show (1 : Int) = 0 from congrArg Prod.snd h) (by decide)
structure LineBack (k : Int) (s : Str) (x : api_Head) : Prop where
 kind : x.Kind = k
 raw : zgG x = s
 code : inI x.Code = true
 minor : inI x.Minor = true
 method : x.Method.length ≤ s.length
 target : x.Target.length ≤ s.length
 reason : x.Reason.length ≤ s.length
theorem zys {v : Str} (h : 0 ≤ zcV v) (h2 : (zcV v == 2) = false) : zp8 (zcV v) = v ∧ inI (zcV v) = true := by
 rcases zkk h h2 with ⟨e, e2⟩ | ⟨e, e2⟩ <;> rw [e2, e] <;> exact ⟨by decide, by decide⟩
theorem zu2 {k : Int} {s : Str} {x : api_Head} (h : zch k s = (x, 0)) : LineBack k s x := by
 rcases zto h with ⟨hk, h⟩ | ⟨hk, h⟩
 ·rcases zsI s with (h1 | h1) | ⟨h1, h2⟩
  ·rw [h1] at h; exact absurd (show (26 : Int) = 0 from congrArg Prod.snd h) (by decide)
  ·rw [h1] at h; exact absurd (show (20 : Int) = 0 from congrArg Prod.snd h) (by decide)
  ·obtain ⟨v, e, n1, n2, h3, h4, k1, k2, k3, k4⟩ := zpd h1;rw [h2] at h;have hx := congrArg Prod.fst h;dsimp only at hx;subst hx;obtain ⟨q1, q2⟩ := zys k1 k2;have hlen := congrArg List.length e;simp only [yla, ylc] at hlen;rw [k3];refine ⟨hk.symm, ?_, rfl, q2, by dsimp only; omega, by dsimp only; omega, by simp⟩;show zpc s ++ 32 :: (zrV s ++ 32 :: zp8 (zcV v)) = s;rw [q1]; exact e.symm
 ·unfold zt2 at h
  split at h
  ·exact absurd (show (26 : Int) = 0 from congrArg Prod.snd h) (by decide)
  ·split at h
   ·rename_i h26 hF
    have hF' := hF;obtain ⟨b, w, r, hb, e, hw, hl⟩ := zmD hF;obtain ⟨m1, m2, m3⟩ := zqg (r := r) hb hw;rw [← e] at m1 m2 m3;unfold zvl at hF';rw [m1, m2, m3] at hF';simp only [Bool.and_eq_true, Bool.not_eq_true', decide_eq_false_iff_not] at hF';have hx := congrArg Prod.fst h;dsimp only at hx;subst hx;obtain ⟨q1, q2⟩ := zyr hl (by simpa using hF'.1.1.2) hF'.1.2;have hlen := congrArg List.length e;simp only [yla, ylc] at hlen;rw [m1, m2, m3, zaP]
    have hv : zp8 ((b - 48).toNat : Int) = zby ++ [49, 46, b] ∧ inI ((b - 48).toNat : Int) = true := by rcases hb with h | h <;> subst h <;> exact ⟨by decide, by decide⟩
    refine ⟨hk.symm, ?_, q2, hv.2, by simp, by simp, by dsimp only; omega⟩;show zp8 ((b - 48).toNat : Int) ++ 32 :: (ziN 10 (zN 10 w 599).1 ++ 32 :: r) = s;rw [hv.1, q1, e]; simp
   ·exact absurd (show (20 : Int) = 0 from congrArg Prod.snd h) (by decide)
theorem zp9 (k : Int) (s : Str) : (zch k s).1.Fields = [] := by
 unfold zch zrW zt2
 split
 ·rfl
 ·split
  ·rfl
  ·split
   ·split
    ·rfl
    ·split <;> rfl
   ·split
    ·rfl
    ·split <;> rfl
end Go.Dm
end
section
namespace Go.Dm
def zaS (b : UInt8) : Bool := b == 32 || b == 9
def zjn (s : Str) : Str := s.dropWhile zaS
def ziK (s : Str) : Str := (s.reverse.dropWhile zaS).reverse
def zdF (s : Str) : Str := zjn (ziK s)
theorem zwY (b : UInt8) : ([32, 9] : Str).contains b = zaS b := by
 simp only [zaS, List.contains_cons, List.contains_nil, Bool.or_false]
theorem zzB : ziK [] = [] := rfl
theorem zkx (s : Str) (c : UInt8) : ziK (s ++ [c]) = if zaS c then ziK s else s ++ [c] := by
 unfold ziK;rw [List.reverse_append];simp only [List.reverse_cons, List.reverse_nil, yna, List.singleton_append, List.dropWhile_cons]
 split <;> simp
theorem zBB (s : Str) : (ziK s).length ≤ s.length := by
 unfold ziK;rw [List.length_reverse];have := (List.dropWhile_suffix (l := s.reverse) zaS).length_le;simpa using this
theorem zBC (s : Str) : (zjn s).length ≤ s.length := (List.dropWhile_suffix zaS).length_le
theorem zvK (s : Str) : (zdF s).length ≤ s.length := Nat.le_trans (zBC _) (zBB _)
theorem zrz (s : Str) : (s.all zaS = true ∧ ziK s = []) ∨ ∃ a c b, s = a ++ c :: b ∧ zaS c = false ∧ b.all zaS = true ∧ ziK s = a ++ [c] := by
 rw [← List.reverse_reverse s];generalize s.reverse = r
 induction r with
 | nil => left; exact ⟨rfl, rfl⟩
 | cons x r ih =>
  rw [List.reverse_cons, zkx]
  rcases zdn (zaS x) with h | h
  ·rw [h]
   rcases ih with ⟨h1, h2⟩ | ⟨a, c, b, h1, h2, h3, h4⟩
   ·left; refine ⟨?_, by simpa using h2⟩
    rw [List.all_append, h1]; simp [h]
   ·right; refine ⟨a, c, b ++ [x], by rw [h1]; simp, h2, by rw [List.all_append, h3]; simp [h], by simpa using h4⟩
  ·right; exact ⟨r.reverse, x, [], rfl, h, rfl, by simp [h]⟩
theorem zzC {s : Str} (h : s.all zaS = true) : zjn s = [] := by
 unfold zjn
 induction s with
 | nil => rfl
 | cons x s ih =>
  simp only [List.all_cons, Bool.and_eq_true] at h;rw [List.dropWhile_cons, h.1];exact ih h.2
theorem zzD {a : Str} {c : UInt8} {b : Str} (hc : zaS c = false) : zjn (a ++ c :: b) = zjn (a ++ [c]) ++ b := by
 unfold zjn
 induction a with
 | nil => simp [List.dropWhile_cons, hc]
 | cons x a ih =>
  simp only [List.cons_append, List.dropWhile_cons]
  split
  ·exact ih
  ·simp
theorem zBD {a : Str} {c : UInt8} (hc : zaS c = false) : ∃ d, zjn (a ++ [c]) = d ++ [c] := by
 unfold zjn
 induction a with
 | nil => exact ⟨[], by simp [List.dropWhile_cons, hc]⟩
 | cons x a ih =>
  simp only [List.cons_append, List.dropWhile_cons]
  split
  ·exact ih
  ·exact ⟨x :: a, rfl⟩
theorem zzE {d : Str} {c : UInt8} {b : Str} (hc : zaS c = false) (hb : b.all zaS = true) : ziK (d ++ c :: b) = d ++ [c] := by
 rw [← List.reverse_reverse b] at *
 generalize b.reverse = r at *
 induction r with
 | nil => rw [List.reverse_nil, zkx, hc]; rfl
 | cons x r ih =>
  rw [List.reverse_cons, List.all_append] at hb;simp only [Bool.and_eq_true, List.all_cons, List.all_nil, Bool.and_true] at hb;rw [List.reverse_cons, ← List.cons_append, ← yaa, zkx, hb.2];exact ih hb.1
theorem zqR (s : Str) : ziK (zjn s) = zdF s := by
 unfold zdF
 rcases zrz s with ⟨h1, h2⟩ | ⟨a, c, b, h1, h2, h3, h4⟩
 ·rw [h2, zzC h1]; rfl
 ·rw [h4, h1, zzD h2];obtain ⟨d, hd⟩ := zBD (a := a) h2;rw [hd, yaa];exact zzE h2 h3
theorem zC7 {c : UInt8} (h : zaS c = true) (s : Str) : zdF (c :: s) = zdF s := by
 rw [← zqR, ← zqR];unfold zjn;rw [List.dropWhile_cons, h]; rfl
theorem zBE (s : Str) : Go.Lib.trimS s [32, 9] = zdF s := by
 unfold Go.Lib.trimS Go.Lib.trimLeftS Go.Lib.trimRightS zdF zjn ziK
 have : (fun x => ([32, 9] : List UInt8).contains x) = zaS := by funext b; exact zwY b
 rw [this]
theorem zjS (s : Str) (hs : s.length < 1000000000) : zdU s [32, 9] = some (zdF s) := by
 unfold zdU;rw [if_pos ⟨by omega, by simp, by decide⟩, zBE]
theorem znC (b : UInt8) : zhY b = some (zaS b) :=
 of_decide_eq_true (zD (fun b => decide (zhY b = some (zaS b))) (by decide +kernel) b)
theorem ziX : ∀ (k n : Nat) (s : Str), s.length = k → k < n → k < 1000000000 → zcq n s = some (ziK s)
 | k, 0, s, _, h, _ => by omega
 | 0, n + 1, s, hk, h, _ => by
  have : s = [] := List.length_eq_zero_iff.1 hk;subst this; rw [zcq]; simp [zfI, zzB]
 | k + 1, n + 1, s, hk, h, hb => by
  obtain ⟨a, c, rfl⟩ : ∃ a c, s = a ++ [c] := by
   rcases List.eq_nil_or_concat s with rfl | ⟨a, c, rfl⟩
   ·simp at hk
   ·exact ⟨a, c, by simp⟩
  have hl : a.length = k := by simpa using hk
  have e : ((a ++ [c]).length : Int) - 1 = (a.length : Int) := by simp
  have h0 : (0 : Int) < ((a ++ [c]).length : Int) := by simp
  have e2 : sTo (a ++ [c]) (a.length : Int) = some a := by rw [zc9 (by simp)]; simp
  rw [zcq, zkx];rw [zaJ (by omega) (by omega), e];simp only [h0, decide_true, if_true, yob, zU, List.getElem?_concat_length, znC, zfI]
  rcases zdn (zaS c) with h1 | h1
  ·rw [h1];simp only [if_true, zaJ (show -9223372036854775808 ≤ ((a ++ [c]).length : Int) - 1 by omega) (show ((a ++ [c]).length : Int) - 1 ≤ 9223372036854775807 by simp; omega), e, yob, e2];exact ziX k n a hl (by omega) (by omega)
  ·rw [h1]; simp
theorem zlM : ∀ (n : Nat) (s : Str), s.length < n → s.length < 1000000000 → zcr n s = some (ziK (zjn s))
 | 0, s, h, _ => by omega
 | n + 1, [], h, hb => by
  rw [zcr];simp only [yln, Int.natCast_zero, Int.lt_irrefl, decide_false, Bool.false_eq_true, if_false, zfJ];exact ziX 0 fuel [] rfl (by decide) (by decide)
 | n + 1, x :: s, h, hb => by
  rw [zcr]
  have h0 : (0 : Int) < ((x :: s).length : Int) := by simp
  have e : zbh (x :: s) 1 = some s := by
   have := z6 (l := x :: s) (i := 1) (by simp); simpa using this
  simp only [h0, decide_true, if_true, ziC, List.getElem?_cons_zero, yob, znC, zfJ]
  rcases zdn (zaS x) with h1 | h1
  ·rw [h1];simp only [if_true, e, yob];rw [zlM n s (by simp at h; omega) (by simp at hb; omega)];unfold zjn; simp [List.dropWhile_cons, h1]
  ·rw [h1];simp only [Bool.false_eq_true, if_false];rw [ziX _ fuel _ rfl (by unfold fuel; omega) hb];unfold zjn; simp [List.dropWhile_cons, h1]
theorem zls (s : Str) (hs : s.length < 1000000000) : zhL s = some (zdF s) := by
 unfold zhL;rw [zlM fuel s (by unfold fuel; omega) hs, zqR]
end Go.Dm
end
section
namespace Go.Dm
def zdf : Str → Option (Str × Nat)
 | [] => none
 | c :: r => if c == 34 then some ([], 1) else if c == 92 then (match r with
   | [] => none
   | d :: t => if zek d then (zdf t).map (fun p => (d :: p.1, p.2 + 2)) else none)
  else if zek c then (zdf r).map (fun p => (c :: p.1, p.2 + 1)) else none
theorem zqY (r : Str) : zdf (34 :: r) = some ([], 1) := by rw [zdf.eq_def]; rfl
theorem zpq : zdf [92] = none := by rw [zdf.eq_def]; rfl
theorem zqZ (d : UInt8) (t : Str) : zdf (92 :: d :: t) = if zek d then (zdf t).map (fun p => (d :: p.1, p.2 + 2)) else none := by rw [zdf.eq_def]; rfl
theorem zq0 {c : UInt8} (r : Str) (h1 : (c == 34) = false) (h2 : (c == 92) = false) : zdf (c :: r) = if zek c then (zdf r).map (fun p => (c :: p.1, p.2 + 1)) else none := by
 rw [zdf.eq_def]; simp only [h1, h2, Bool.false_eq_true, if_false]
theorem zq1 {P : Str → Prop} (h0 : P []) (h1 : ∀ r, P (34 :: r)) (h2 : P [92]) (h3 : ∀ d t, P t → P (92 :: d :: t)) (h4 : ∀ c r, (c == 34) = false → (c == 92) = false → P r → P (c :: r)) : ∀ (n : Nat) (s : Str), s.length < n → P s
  | 0, s, h => by omega
  | n + 1, [], _ => h0
  | n + 1, c :: r, h => by
    simp only [ylc] at h
    cases h34 : c == 34 with
    | true => have : c = 34 := by simpa using h34
              subst this; exact h1 r
    | false =>
      cases h92 : c == 92 with
      | true =>
        have : c = 92 := by simpa using h92
        subst this
        cases r with
        | nil => exact h2
        | cons d t => simp only [ylc] at h; exact h3 d t (zq1 h0 h1 h2 h3 h4 n t (by omega))
      | false => exact h4 c r h34 h92 (zq1 h0 h1 h2 h3 h4 n r (by omega))
theorem zBQ (s : Str) : ∀ p, zdf s = some p → 1 ≤ p.2 ∧ p.2 ≤ s.length ∧ p.1.length + 1 ≤ p.2 := by
 refine zq1 (P := fun s => ∀ p, zdf s = some p → 1 ≤ p.2 ∧ p.2 ≤ s.length ∧ p.1.length + 1 ≤ p.2) ?_ ?_ ?_ ?_ ?_ (s.length + 1) s (by omega)
 ·intro p h; cases h
 ·intro r p h; rw [zqY] at h; cases h; simp
 ·intro p h; rw [zpq] at h; cases h
 ·intro d t ih p h;rw [zqZ] at h
  split at h
  ·obtain ⟨q, hq, rfl⟩ := Option.map_eq_some_iff.1 h;have := ih q hq;simp only [ylc]; omega
  ·cases h
 ·intro c r h1 h2 ih p h;rw [zq0 r h1 h2] at h
  split at h
  ·obtain ⟨q, hq, rfl⟩ := Option.map_eq_some_iff.1 h;have := ih q hq;simp only [ylc]; omega
  ·cases h
def zgF : Nat → Str → Option Nat
 | 0, _ => some 0
 | _ + 1, [] => none
 | d + 1, c :: r => if c == 40 then (zgF (d + 2) r).map (· + 1) else if c == 41 then (zgF d r).map (· + 1) else if c == 92 then (match r with
   | [] => none
   | _ :: t => (zgF (d + 1) t).map (· + 2)) else (zgF (d + 1) r).map (· + 1)
theorem zq2 (s : Str) : zgF 0 s = some 0 := by cases s <;> rfl
theorem zoq (d : Nat) (r : Str) : zgF (d + 1) (40 :: r) = (zgF (d + 2) r).map (· + 1) := by rw [zgF.eq_def]; rfl
theorem zmu (d : Nat) (r : Str) : zgF (d + 1) (41 :: r) = (zgF d r).map (· + 1) := by rw [zgF.eq_def]; rfl
theorem zq3 (d : Nat) : zgF (d + 1) [92] = none := by rw [zgF.eq_def]; rfl
theorem zp3 (d : Nat) (c : UInt8) (t : Str) : zgF (d + 1) (92 :: c :: t) = (zgF (d + 1) t).map (· + 2) := by rw [zgF.eq_def]; rfl
theorem zp4 (d : Nat) {c : UInt8} (r : Str) (h1 : (c == 40) = false) (h2 : (c == 41) = false) (h3 : (c == 92) = false) : zgF (d + 1) (c :: r) = (zgF (d + 1) r).map (· + 1) := by
 rw [zgF.eq_def]; simp only [h1, h2, h3, Bool.false_eq_true, if_false]
theorem zw7 {P : Str → Prop} (h0 : P []) (h1 : ∀ r, P r → P (40 :: r)) (h2 : ∀ r, P r → P (41 :: r)) (h3 : P [92]) (h4 : ∀ d t, P t → P (92 :: d :: t)) (h5 : ∀ c r, (c == 40) = false → (c == 41) = false → (c == 92) = false → P r → P (c :: r)) : ∀ (n : Nat) (s : Str), s.length < n → P s
  | 0, s, h => by omega
  | n + 1, [], _ => h0
  | n + 1, c :: r, h => by
    simp only [ylc] at h;have ih := fun t ht => zw7 h0 h1 h2 h3 h4 h5 n t ht
    cases c40 : c == 40 with
    | true => have : c = 40 := by simpa using c40
              subst this; exact h1 r (ih r (by omega))
    | false =>
      cases c41 : c == 41 with
      | true => have : c = 41 := by simpa using c41
                subst this; exact h2 r (ih r (by omega))
      | false =>
        cases c92 : c == 92 with
        | true =>
          have : c = 92 := by simpa using c92
          subst this
          cases r with
          | nil => exact h3
          | cons d t => simp only [ylc] at h; exact h4 d t (ih t (by omega))
        | false => exact h5 c r c40 c41 c92 (ih r (by omega))
theorem zDf (s : Str) : ∀ d n, zgF d s = some n → n ≤ s.length := by
 refine zw7 (P := fun s => ∀ d n, zgF d s = some n → n ≤ s.length) ?_ ?_ ?_ ?_ ?_ ?_ (s.length + 1) s (by omega)
 ·intro d n h; cases d with
  | zero => cases h; simp
  | succ d => cases h
 ·intro r ih d n h; cases d with
  | zero => cases h; simp
  | succ d => rw [zoq] at h; obtain ⟨m, hm, rfl⟩ := Option.map_eq_some_iff.1 h; have := ih _ _ hm; simp only [ylc]; omega
 ·intro r ih d n h; cases d with
  | zero => cases h; simp
  | succ d => rw [zmu] at h; obtain ⟨m, hm, rfl⟩ := Option.map_eq_some_iff.1 h; have := ih _ _ hm; simp only [ylc]; omega
 ·intro d n h; cases d with
  | zero => cases h; simp
  | succ d => rw [zq3] at h; cases h
 ·intro c t ih d n h; cases d with
  | zero => cases h; simp
  | succ d => rw [zp3] at h; obtain ⟨m, hm, rfl⟩ := Option.map_eq_some_iff.1 h; have := ih _ _ hm; simp only [ylc]; omega
 ·intro c r h1 h2 h3 ih d n h; cases d with
  | zero => cases h; simp
  | succ d => rw [zp4 d r h1 h2 h3] at h; obtain ⟨m, hm, rfl⟩ := Option.map_eq_some_iff.1 h; have := ih _ _ hm; simp only [ylc]; omega
def zeQ (c : UInt8) (r : Str) : Nat := if c == 34 then (match zdf r with | some p => p.2 + 1 | none => 0) else (match zgF 1 r with | some n => n + 1 | none => 0)
theorem zw8 (c : UInt8) (r : Str) : zeQ c r ≤ r.length + 1 := by
 unfold zeQ
 split
 ·cases h : zdf r with
  | none => simp
  | some p => have := zBQ r p h; dsimp only; omega
 ·cases h : zgF 1 r with
  | none => simp
  | some n => have := zDf r 1 n h; dsimp only; omega
def zis : Nat → Str → Str → Option (List Str)
 | _, cur, [] => some [cur]
 | k + 1, cur, c :: r => zis k (cur ++ [c]) r
 | 0, cur, c :: r => if c == 34 || c == 40 then (if zeQ c r = 0 then none else zis (zeQ c r - 1) (cur ++ [c]) r) else if c == 44 then (zis 0 [] r).map (cur :: ·) else zis 0 (cur ++ [c]) r
theorem ztg (k : Nat) (cur : Str) : zis k cur [] = some [cur] := by cases k <;> rfl
theorem zzP (k : Nat) (cur : Str) (c : UInt8) (r : Str) : zis (k + 1) cur (c :: r) = zis k (cur ++ [c]) r := rfl
theorem zvR (cur : Str) {c : UInt8} (r : Str) (h : (c == 34 || c == 40) = true) : zis 0 cur (c :: r) = if zeQ c r = 0 then none else zis (zeQ c r - 1) (cur ++ [c]) r := by
 rw [zis, if_pos h]
theorem zpr (cur r : Str) : zis 0 cur (44 :: r) = (zis 0 [] r).map (cur :: ·) := by rw [zis]; rfl
theorem zth (cur : Str) {c : UInt8} (r : Str) (h : (c == 34 || c == 40) = false) (h2 : (c == 44) = false) : zis 0 cur (c :: r) = zis 0 (cur ++ [c]) r := by
 rw [zis, if_neg (by rw [h]; decide), if_neg (by rw [h2]; decide)]
theorem zq4 : ∀ (k : Nat) (cur s : Str), k ≤ s.length → zis k cur s = zis 0 (cur ++ s.take k) (s.drop k)
 | 0, cur, s, _ => by simp
 | k + 1, cur, [], h => by simp at h
 | k + 1, cur, c :: r, h => by
  rw [zzP, zq4 k _ r (by simpa using h)];simp
theorem zvS {a b : Str} (hb : b.all zaS = true) : zdF (a ++ b) = zdF a := by
 have : ziK (a ++ b) = ziK a := by
  rw [← List.reverse_reverse b] at *
  generalize b.reverse = r at *
  induction r with
  | nil => simp
  | cons x r ih =>
   rw [List.reverse_cons, List.all_append] at hb;simp only [Bool.and_eq_true, List.all_cons, List.all_nil, Bool.and_true] at hb;rw [List.reverse_cons, ← yaa, zkx, hb.2, if_pos rfl];exact ih hb.1
 unfold zdF; rw [this]
def elems (l : List Str) : List Str := (l.map zdF).filter (fun x => !(x == []))
def zit (s : Str) : Option (List Str) := (zis 0 [] s).map elems
theorem zzQ (a b : List Str) : elems (a ++ b) = elems a ++ elems b := by simp [elems]
end Go.Dm
end
section
namespace Go.Dm
section
variable {s r : Str} {k : Nat}
theorem zmF (s : Str) (k : Nat) : (⟨s, (k : Int)⟩ : scan_Scanner) = scn s k := rfl
theorem zxo (b : UInt8) (r : Str) : (zap b r).length ≤ r.length := by unfold zap; split <;> simp
def zrK (r : Str) : Option (UInt8 × Str) := match zap 92 r with
 | [] => none
 | c :: t => if zek c then some (c, t) else none
theorem zzY {c : UInt8} {t : Str} (h : zrK r = some (c, t)) : t.length < r.length := by
 unfold zrK at h;have := zxo 92 r
 cases hb : zap 92 r with
 | nil => rw [hb] at h; cases h
 | cons d u =>
  rw [hb] at h this;simp only at h
  split at h
  ·cases h; simp only [ylc] at this; omega
  ·cases h
theorem zDy (hs : s.length < 1000000000) (out : Str) (ho : out.length < 1000000000) (h : At s k r) :
  (∀ c t, zrK r = some (c, t) → ∃ k', At s k' t ∧ k ≤ k' ∧ zcb ⟨scn s k, out⟩ = some (true, ⟨scn s k', out ++ [c]⟩)) ∧
  (zrK r = none → ∃ k', k' ≤ s.length ∧ k ≤ k' ∧ zcb ⟨scn s k, out⟩ = some (false, ⟨scn s k', out⟩)) := by
 unfold zcb zrK;obtain ⟨k1, h1, e1⟩ := zfX hs 92 h
 have hk : k ≤ k1 := by have := h.len; have := h1.len; have := zxo 92 r; omega
 show (∀ c t, _ → ∃ k', _ ∧ _ ∧ (zh (scn s k) 92).bind _ = _) ∧ (_ → ∃ k', _ ∧ _ ∧ (zh (scn s k) 92).bind _ = _);rw [e1];simp only [yob];rw [zqr h1]
 cases hb : zap 92 r with
 | nil =>
  rw [hb] at h1;refine ⟨fun c t h => (by cases h), fun _ => ⟨k1, h1.le, hk, rfl⟩⟩
 | cons d u =>
  rw [hb] at h1;simp only [zy5, yob, ynt, Bool.false_eq_true, if_false, zg5];unfold zb5;obtain ⟨k2, h2, e2⟩ := zfX hs d h1
  rw [zaP, zcg] at *
  cases hv : zek d with
  | false => exact ⟨fun c t h => by simp at h, fun _ => ⟨k1, h1.le, hk, by simp⟩⟩
  | true =>
   refine ⟨fun c t h => ?_, fun h => by simp at h⟩;simp at h;obtain ⟨rfl, rfl⟩ := h;refine ⟨k2, h2, by have := h1.len; have := h2.len; simp only [ylc] at *; omega, ?_⟩;rw [if_neg (by decide), if_pos (zaX (n := out.length) (m := 1) (by omega) (by omega)), e2];simp
theorem zyx (r : Str) : zdf r = if zfW 34 r then some ([], 1) else match zrK r with
    | none => none
    | some (c, t) => (zdf t).map (fun p => (c :: p.1, p.2 + (r.length - t.length))) := by
  cases r with
  | nil => rfl
  | cons c r =>
    rw [zcg]
    cases h34 : c == 34 with
    | true => have : c = 34 := by simpa using h34
              subst this; rw [zqY]; rfl
    | false =>
      rw [if_neg (by decide)];unfold zrK
      cases h92 : c == 92 with
      | true =>
        have : c = 92 := by simpa using h92
        subst this;rw [zaP]
        cases r with
        | nil => exact zpq
        | cons d t =>
          rw [zqZ];dsimp only
          cases zek d with
          | false => rfl
          | true =>
            rw [if_pos rfl, if_pos rfl];dsimp only
            congr 1
            funext p
            congr 2
            simp only [ylc]; omega
      | false =>
        rw [zpB (by rw [zcg]; exact h92), zq0 r h34 h92];dsimp only
        cases zek c with
        | false => rfl
        | true =>
          rw [if_pos rfl, if_pos rfl];dsimp only
          congr 1
          funext p
          congr 2
          simp only [ylc]; omega
theorem zv3 {s : Str} {k k0 : Nat} (h : k0 ≤ k) : zd0 (scn s k) (k0 : Int) = some (true, scn s k0) := by
 unfold zd0;rw [ydf (show ¬ ((k0 : Int) < 0) by omega), if_neg (by decide), zmG, yob];unfold zcy;rw [ydf (show ¬ ((k : Int) < (k0 : Int)) by omega), if_neg (by decide)];rfl
theorem zmZ (k0 n : Nat) (hk : k0 ≤ k) (out : Str) : zba (k0 : Int) (n + 1) s (k : Int) out false = some ([], false, scn s k0) := by
 rw [zba, if_neg (by decide)];unfold zez zf8;rw [if_neg (by decide), ynf, if_pos rfl, zmF, zv3 hk, yob]
theorem zqm (hs : s.length < 1000000000) (k0 : Nat) : ∀ (n : Nat) (r : Str) (k : Nat) (out : Str), r.length + 1 < n → At s k r → k0 ≤ k → out.length ≤ k →
  zba (k0 : Int) n s (k : Int) out true = some (match zdf r with | some p => (out ++ p.1, true, scn s (k + p.2)) | none => ([], false, scn s k0))
 | 0, _, _, _, h, _, _, _ => by omega
 | n + 1, r, k, out, hn, h, hk, ho => by
  rw [zba, if_pos rfl, zmF];obtain ⟨k1, h1, e1⟩ := zfX hs 34 h;have hkl := h.le;rw [e1, yob];unfold zez;rw [zyx]
  cases hb : zfW 34 r with
  | true =>
   rw [ynt, if_neg (by decide), if_pos rfl];have hr := zgI hb
   have hk1 : k1 = k + 1 := by
    have := h.len; have := h1.len;have := congrArg List.length hr;simp only [ylc] at this; omega
   subst hk1;unfold zf8;rw [ynt, if_neg (by decide)];simp [scn]
  | false =>
   rw [zpB hb] at h1
   have hk1 : k1 = k := by have := h.len; have := h1.len; omega
   subst hk1;rw [ynf, if_pos rfl, if_neg (by decide)];dsimp only [scn];rw [zmF];have hx := zDy hs out (by omega) h
   cases hq : zrK r with
   | none =>
    obtain ⟨k2, g1, g2, e2⟩ := hx.2 hq;rw [e2, yob];obtain ⟨m, rfl⟩ : ∃ m, n = m + 1 := ⟨n - 1, by omega⟩;exact zmZ k0 m (by omega) out
   | some ct =>
    obtain ⟨c, t⟩ := ct;obtain ⟨k2, g1, g2, e2⟩ := hx.1 c t hq;have hl := zzY hq;have l1 := h.len;have l2 := g1.len;rw [e2, yob];have ih := zqm hs k0 n t k2 (out ++ [c]) (by omega) g1 (by omega) (by simp; omega);dsimp only [scn];rw [ih]
    cases zdf t with
    | none => rfl
    | some p =>
     simp only [Option.map_some, yaa, List.singleton_append]
     have : k2 + p.2 = k1 + (p.2 + (r.length - t.length)) := by omega
     exact congrArg (fun k => some (out ++ c :: p.1, true, scn s k)) this
def zy2 (r : Str) : Option (Str × Nat) := if zfW 34 r then (zdf (zap 34 r)).map (fun p => (p.1, p.2 + 1)) else none
theorem znW (hs : s.length < 1000000000) (h : At s k r) : zjr (scn s k) = some (match zy2 r with | some p => (p.1, true, scn s (k + p.2)) | none => ([], false, scn s k)) := by
 unfold zjr zy2;rw [zmG, yob];obtain ⟨k1, h1, e1⟩ := zfX hs 34 h;rw [e1, yob];have l0 := h.len;have l1 := h1.len
 cases hb : zfW 34 r with
 | false =>
  rw [zpB hb] at h1
  have hk1 : k1 = k := by have := h1.len; omega
  subst hk1;exact zmZ k1 999999999999999999 (Nat.le_refl _) []
 | true =>
  have hr := congrArg List.length (zgI hb);simp only [ylc] at hr
  have hk1 : k1 = k + 1 := by omega
  subst hk1;have := zqm hs k fuel (zap 34 r) (k + 1) [] (by unfold fuel; omega) h1 (by omega) (by simp);dsimp only [scn] at this ⊢;rw [this, if_pos rfl]
  cases zdf (zap 34 r) with
  | none => rfl
  | some p => simp only [Option.map_some, yna]; rw [show k + 1 + p.2 = k + (p.2 + 1) by omega]
theorem zej (hs : s.length < 1000000000) (p : commas_splitter) : ∀ (n : Nat) (r : Str) (k d : Nat), r.length + 1 < n → At s k r → d ≤ k + 1 →
  ∃ k', (∀ m, zgF d r = some m → k' = k + m) ∧ k' ≤ s.length ∧ zo p n s (k : Int) (d : Int) = some ((zgF d r).isSome, ⟨scn s k', p.f_out, p.f_from, p.f_s⟩)
 | 0, _, _, _, h, _, _ => by omega
 | n + 1, r, k, 0, hn, h, hd => by
  refine ⟨k, fun m hm => (by rw [zq2] at hm; cases hm; rfl), h.le, ?_⟩;rw [zo, zq2];rfl
 | n + 1, r, k, d + 1, hn, h, hd => by
  have hl := h.len;rw [zo, ydt (show (0 : Int) < ((d + 1 : Nat) : Int) by omega), if_pos rfl, zmF, zqr h, yob]
  cases r with
  | nil => exact ⟨k, fun m hm => (by cases hm), h.le, rfl⟩
  | cons c t =>
   simp only [ylc] at hn hl;obtain ⟨k1, h1, e1⟩ := zfX hs c h;rw [zaP] at h1
   have hk1 : k1 = k + 1 := by have := h1.len; omega
   subst hk1;have i1 : zr ((d + 1 : Nat) : Int) 1 = some ((d + 2 : Nat) : Int) := zi (by omega)
   have i2 : zcu ((d + 1 : Nat) : Int) 1 = some (d : Int) := by rw [zaJ (by omega) (by omega)]; simp
   rw [show (zy5 (c :: t)) = (c, true) from rfl];dsimp only;rw [ynt, if_neg (by decide), e1, yob, i1, yob, i2, yob];dsimp only [scn];rw [zmF, zqr h1, yob]
   cases c40 : c == 40 with
   | true =>
    have : c = 40 := by simpa using c40
    subst this;obtain ⟨k', g1, g2, g3⟩ := zej hs p n t (k + 1) (d + 2) (by omega) h1 (by omega);refine ⟨k', fun m hm => ?_, g2, ?_⟩
    ·rw [zoq] at hm; obtain ⟨m', hm', rfl⟩ := Option.map_eq_some_iff.1 hm; rw [g1 m' hm']; omega
    ·rw [if_pos rfl, g3, zoq]; simp [scn]
   | false =>
    rw [if_neg (by decide)]
    cases c41 : c == 41 with
    | true =>
     have : c = 41 := by simpa using c41
     subst this;obtain ⟨k', g1, g2, g3⟩ := zej hs p n t (k + 1) d (by omega) h1 (by omega);refine ⟨k', fun m hm => ?_, g2, ?_⟩
     ·rw [zmu] at hm; obtain ⟨m', hm', rfl⟩ := Option.map_eq_some_iff.1 hm; rw [g1 m' hm']; omega
     ·rw [if_pos rfl, g3, zmu]; simp [scn]
    | false =>
     rw [if_neg (by decide)]
     cases c92 : c == 92 with
     | true =>
      have : c = 92 := by simpa using c92
      subst this;rw [if_pos rfl]
      cases t with
      | nil =>
       obtain ⟨k', g1, g2, g3⟩ := zej hs p n [] (k + 1) (d + 1) (by simp; omega) h1 (by omega);exact ⟨k', fun m hm => (by rw [zq3] at hm; cases hm), g2, by rw [if_neg (by decide), g3]; rfl⟩
      | cons x u =>
       simp only [ylc] at hn hl;obtain ⟨k2, h2, e2⟩ := zfX hs x h1;rw [zaP] at h2
       have hk2 : k2 = k + 2 := by have := h2.len; omega
       subst hk2;obtain ⟨k', g1, g2, g3⟩ := zej hs p n u (k + 2) (d + 1) (by omega) h2 (by omega);dsimp only [scn] at e2 g3 ⊢;refine ⟨k', fun m hm => ?_, g2, ?_⟩
       ·rw [zp3] at hm; obtain ⟨m', hm', rfl⟩ := Option.map_eq_some_iff.1 hm; rw [g1 m' hm']; omega
       ·rw [show (zy5 (x :: u)) = (x, true) from rfl];dsimp only;rw [if_pos rfl, e2, yob, g3, zp3]; simp
     | false =>
      obtain ⟨k', g1, g2, g3⟩ := zej hs p n t (k + 1) (d + 1) (by omega) h1 (by omega);refine ⟨k', fun m hm => ?_, g2, ?_⟩
      ·rw [zp4 d t c40 c41 c92] at hm; obtain ⟨m', hm', rfl⟩ := Option.map_eq_some_iff.1 hm; rw [g1 m' hm']; omega
      ·rw [if_neg (by decide), g3, zp4 d t c40 c41 c92]; simp [scn]
def mid (s : Str) (a b : Nat) : Str := (s.take b).drop a
theorem zqn {a n : Nat} (h : At s k r) (ha : a ≤ k) (hn : n ≤ r.length) : mid s a (k + n) = mid s a k ++ r.take n := by
 unfold mid;have hl := h.len;rw [List.take_add, h.drop, List.drop_append_of_le_length (by simp; omega)]
theorem zqo (s : Str) (a : Nat) : mid s a a = [] := by unfold mid; simp
theorem zy3 (s : Str) (a b : Nat) : (mid s a b).length ≤ s.length := by unfold mid; simp; omega
def zrL (out : List Str) (x : Str) : List Str := if zdF x == [] then out else out ++ [zdF x]
theorem zxp (out : List Str) (x : Str) : zrL out x = out ++ elems [x] := by
 unfold zrL elems;rw [List.map_cons, List.map_nil, List.filter_cons]
 cases h : zdF x == [] with
 | true => rw [if_pos rfl, ynt, if_neg (by decide), List.filter_nil, yan]
 | false => rw [if_neg (by decide), ynf, if_pos rfl, List.filter_nil]
theorem zzZ (out : List Str) (x : Str) : (zrL out x).length ≤ out.length + 1 := by unfold zrL; split <;> simp
theorem zB8 (hs : s.length < 1000000000) (out : List Str) (ho : out.length < 4000000000) (a b pos : Nat) (ha : a ≤ b) (hb : b ≤ s.length) : zbO ⟨scn s pos, out, (a : Int), s⟩ (b : Int) = some ⟨scn s pos, zrL out (mid s a b), (pos : Int), s⟩ := by
 unfold zbO;have hl := zy3 s a b;rw [zeS ha hb, yob];show (zdU (mid s a b) [32, 9]).bind _ = _;rw [zjS _ (by omega), yob];unfold zbB zrL;show (if (!(zdF (mid s a b) == [])) = true then _ else _) = _
 cases zdF (mid s a b) == [] with
 | true => rfl
 | false => rw [ynf, if_pos rfl, if_pos (zaX (n := out.length) (m := 1) (by omega) (by omega))]; rfl
theorem zrM (t : Str) : zeQ 34 t = match zdf t with | some p => p.2 + 1 | none => 0 := rfl
theorem ztA (t : Str) : zeQ 40 t = match zgF 1 t with | some n => n + 1 | none => 0 := rfl
theorem zDz (hs : s.length < 1000000000) (out : List Str) (ho : out.length ≤ k) (a : Nat) (ha : a ≤ k) (c : UInt8) (t : Str) (h : At s k (c :: t)) :
    (c = 44 → zaq ⟨scn s k, out, (a : Int), s⟩ = some (true, ⟨scn s (k + 1), zrL out (mid s a k), ((k + 1 : Nat) : Int), s⟩)) ∧
    ((c == 34 || c == 40) = true → zeQ c t ≠ 0 → zaq ⟨scn s k, out, (a : Int), s⟩ = some (true, ⟨scn s (k + zeQ c t), out, (a : Int), s⟩)) ∧
    ((c == 34 || c == 40) = true → zeQ c t = 0 → ∃ p, zaq ⟨scn s k, out, (a : Int), s⟩ = some (false, p)) ∧
    ((c == 34 || c == 40) = false → (c == 44) = false → zaq ⟨scn s k, out, (a : Int), s⟩ = some (true, ⟨scn s (k + 1), out, (a : Int), s⟩)) := by
  have hl := h.len;simp only [ylc] at hl;have e44 := ziA 44 h.le hs h.drop;have e40 := ziA 40 h.le hs h.drop;have ec := ziA c h.le hs h.drop;rw [ybs, if_pos rfl] at ec;unfold zaq;rw [show (⟨scn s k, out, (a : Int), s⟩ : commas_splitter).Scanner = scn s k from rfl, zmG, yob]
  have hno : (c == 34 || c == 40) = true → (c == 44) = false := fun hc => by
    cases h4 : c == 44 with
    | false => rfl
    | true => have : c = 44 := by simpa using h4
              subst this; exact absurd hc (by decide)
  have n44 : (c == 44) = false → zh (scn s k) 44 = some (false, scn s k) := fun h => by rw [e44, h]; rfl
  have n40 : (c == 40) = false → zh (scn s k) 40 = some (false, scn s k) := fun h => by rw [e40, h]; rfl
  have y40 : c = 40 → zh (scn s k) 40 = some (true, scn s (k + 1)) := fun h => by rw [e40, h]; rfl
  have pk : zv (scn s k) = some (c, true) := zqr h;refine ⟨fun hc => ?_, fun hc hp => ?_, fun hc hp => ?_, fun hc h44 => ?_⟩
  · subst hc
    have y44 : zh (scn s k) 44 = some (true, scn s (k + 1)) := e44;rw [y44, yob];dsimp only;rw [if_pos rfl, zB8 hs out (by omega) a k (k + 1) ha h.le, yob];rfl
  · rw [n44 (hno hc), yob]
    dsimp only;rw [if_neg (by decide)]
    cases h40 : c == 40 with
    | true =>
      have : c = 40 := by simpa using h40
      subst this;have h1 := h.next 1 (by simp);obtain ⟨k', g1, _, g3⟩ := zej hs ⟨scn s (k + 1), out, (a : Int), s⟩ fuel t (k + 1) 1 (by unfold fuel; omega) h1 (by omega);rw [ztA] at hp ⊢;rw [y40 rfl, yob];dsimp only;rw [if_pos rfl];unfold zbq
      cases hm : zgF 1 t with
      | none => rw [hm] at hp; exact absurd rfl hp
      | some m =>
        rw [hm] at g3;have hk' := g1 m hm;subst hk';have g3 : zo ⟨scn s (k + 1), out, (a : Int), s⟩ fuel (scn s (k + 1)).f_s (scn s (k + 1)).f_at 1 = some (true, ⟨scn s (k + 1 + m), out, (a : Int), s⟩) := g3;dsimp only;rw [g3, yob, show k + 1 + m = k + (m + 1) by omega]
    | false =>
      have h34 : c = 34 := by rw [h40, Bool.or_false] at hc; simpa using hc
      subst h34;rw [zrM] at hp ⊢;rw [n40 h40, yob];dsimp only;rw [if_neg (by decide), pk, yob];dsimp only;rw [if_pos (by decide), znW hs h, yob];unfold zy2;rw [zcg, zaP]
      cases hq : zdf t with
      | none => rw [hq] at hp; exact absurd rfl hp
      | some p => rfl
  · rw [n44 (hno hc), yob]
    dsimp only;rw [if_neg (by decide)]
    cases h40 : c == 40 with
    | true =>
      have : c = 40 := by simpa using h40
      subst this;have h1 := h.next 1 (by simp);obtain ⟨k', g1, _, g3⟩ := zej hs ⟨scn s (k + 1), out, (a : Int), s⟩ fuel t (k + 1) 1 (by unfold fuel; omega) h1 (by omega);rw [ztA] at hp;rw [y40 rfl, yob];dsimp only;rw [if_pos rfl];unfold zbq
      cases hm : zgF 1 t with
      | some m => rw [hm] at hp; exact absurd hp (by simp)
      | none =>
        rw [hm] at g3;have g3 : zo ⟨scn s (k + 1), out, (a : Int), s⟩ fuel (scn s (k + 1)).f_s (scn s (k + 1)).f_at 1 = some (false, ⟨scn s k', out, (a : Int), s⟩) := g3;dsimp only;exact ⟨_, by rw [g3, yob]⟩
    | false =>
      have h34 : c = 34 := by rw [h40, Bool.or_false] at hc; simpa using hc
      subst h34;rw [zrM] at hp;rw [n40 h40, yob];dsimp only;rw [if_neg (by decide), pk, yob];dsimp only;rw [if_pos (by decide), znW hs h, yob];unfold zy2;rw [zcg, zaP]
      cases hq : zdf t with
      | some p => rw [hq] at hp; exact absurd hp (by simp)
      | none => exact ⟨_, rfl⟩
  · simp only [Bool.or_eq_false_iff] at hc
    rw [n44 h44, yob];dsimp only;rw [if_neg (by decide), n40 hc.2, yob];dsimp only;rw [if_neg (by decide), pk, yob];dsimp only;rw [hc.1, if_neg (by decide), ec, yob];rfl
def znX (s : Str) : List Str × Int := match zit s with
 | some l => (l, 0)
 | none => ([], 2)
theorem zlj (hs : s.length < 1000000000) : ∀ (n : Nat) (r : Str) (k a : Nat) (out : List Str), r.length < n → At s k r → a ≤ k → out.length ≤ k →
  zcY s n out (a : Int) s s (k : Int) = some (match zis 0 (mid s a k) r with | some l => (out ++ elems l, 0) | none => ([], 2))
 | 0, _, _, _, _, h, _, _, _ => by omega
 | n + 1, r, k, a, out, hn, h, ha, ho => by
  have hl := h.len;rw [zcY, zmF, zv4 h, yob]
  cases r with
  | nil =>
   have hk : k = s.length := by simpa using hl
   subst hk;unfold zhw;rw [zmF, zB8 hs out (by omega) a s.length s.length ha (Nat.le_refl _), yob, ztg];dsimp only;rw [zxp];rfl
  | cons c t =>
   simp only [ylc] at hn hl;obtain ⟨s1, s2, s3, s4⟩ := zDz hs out ho a ha c t h;have hne : (!((c :: t : Str) == [])) = true := rfl;have m1 := zqn (a := a) (n := 1) h ha (by simp);rw [hne, if_pos rfl]
   cases hc : (c == 34 || c == 40) with
   | true =>
    rw [zvR _ t hc]
    by_cases hp : zeQ c t = 0
    ·obtain ⟨p, e⟩ := s3 hc hp;rw [if_pos hp, e, yob];rfl
    ·have hple := zw8 c t;rw [if_neg hp, s2 hc hp, yob];have hat := h.next (zeQ c t) (by simp; omega);have ih := zlj hs n _ (k + zeQ c t) a out (by simp; omega) hat (by omega) (by omega);rw [zqn h ha (by simp; omega)] at ih;obtain ⟨q, hq⟩ : ∃ q, zeQ c t = q + 1 := ⟨zeQ c t - 1, by omega⟩;rw [hq] at ih hple ⊢;rw [Nat.add_sub_cancel, zq4 q _ t (by omega)];dsimp only [scn];rw [ynt, if_neg (by decide), ih];simp
   | false =>
    cases h44 : c == 44 with
    | true =>
     have : c = 44 := by simpa using h44
     subst this;rw [s1 rfl, yob, zpr];have hat := h.next 1 (by simp);have hpl := zzZ out (mid s a k);have ih := zlj hs n t (k + 1) (k + 1) (zrL out (mid s a k)) (by omega) hat (Nat.le_refl _) (by omega);rw [zqo] at ih;dsimp only [scn];rw [ynt, if_neg (by decide), ih]
     cases zis 0 [] t with
     | none => rfl
     | some l =>
      simp only [Option.map_some];rw [zxp, show mid s a k :: l = [mid s a k] ++ l from rfl, zzQ, yaa]
    | false =>
     rw [s4 hc h44, yob, zth _ t hc h44];have hat := h.next 1 (by simp);have ih := zlj hs n t (k + 1) a out (by omega) hat (by omega) (by omega);rw [m1] at ih;dsimp only [scn];rw [ynt, if_neg (by decide), ih];rfl
theorem zm0 (s : Str) (hs : s.length < 1000000000) : zgU s = some (znX s) := by
 unfold zgU znX zit;rw [zh2, yob];have := zlj hs fuel s 0 0 [] (by unfold fuel; omega) (At.zero s) (Nat.le_refl _) (by simp);rw [zqo] at this;show zcY s fuel [] ((0 : Nat) : Int) s s ((0 : Nat) : Int) = _;rw [this]
 cases zis 0 [] s with
 | none => rfl
 | some l => rfl
end
end Go.Dm
end
section
namespace Go.Dm
theorem zCi {s : Str} {i : Nat} {c : UInt8} (h : s[i]? = some c) : zhF s (i : Int) ((i + 1 : Nat) : Int) = some [c] := by
 have hlt := (List.getElem?_eq_some_iff.1 h).1;rw [zeS (by omega) (by omega), List.drop_take, show i + 1 - i = 1 by omega, ydg hlt, List.take_succ_cons, List.take_zero, (List.getElem?_eq_some_iff.1 h).2]
theorem zrO (rec2 : Str → Int → Option (Str × Int)) (s out : Str) (i : Nat) (c : UInt8) (h : s[i]? = some c) (hs : s.length < 1000000000) (ho : out.length < 1000000000) (q : Bool) :
  zdB rec2 s out (i : Int) q = if q then some ([], 0) else rec2 (out ++ [c]) ((i + 1 : Nat) : Int) := by
 have hlt := (List.getElem?_eq_some_iff.1 h).1;unfold zdB;rw [zi (by omega), yob, zCi h, yob, zZ (by simp; omega), yob, yob]
theorem zn9 (s : Str) (hs : s.length < 1000000000) : ∀ (n i : Nat) (out : Str), i ≤ s.length → s.length - i < n → out.length ≤ i →
  zbc s n out (i : Int) = some (match zdf (s.drop i) with | some p => (out ++ p.1, ((i + p.2 : Nat) : Int)) | none => ([], 0))
 | 0, _, _, _, h, _ => by omega
 | n + 1, i, out, hi, h, ho => by
  rw [zbc]
  cases hd : s.drop i with
  | nil =>
   have : i = s.length := by have := congrArg List.length hd; simp at this; omega
   rw [ydf (by omega), if_neg (by decide)];rfl
  | cons c r =>
   obtain ⟨hlt, hr⟩ := zg3 hd
   have hx : s[i]? = some c := by have := congrArg (·[0]?) hd; simpa using this
   have hrl : r.length = s.length - (i + 1) := by rw [← hr]; simp
   rw [ydt (show (i : Int) < (s.length : Int) by omega), if_pos rfl, zU, hx, yob, zi (by omega), yob, yob, yob]
   cases h34 : c == 34 with
   | true =>
    have : c = 34 := by simpa using h34
    subst this;rw [if_pos rfl, zqY]; simp
   | false =>
    rw [if_neg (by decide)];unfold zgx
    cases h92 : c == 92 with
    | true =>
     have : c = 92 := by simpa using h92
     subst this;rw [if_pos rfl]
     cases r with
     | nil =>
      simp only [yln] at hrl
      have : (((i + 1 : Nat) : Int) == (s.length : Int)) = true := by simp; omega
      rw [this, if_pos rfl, zpq];unfold zdB;rw [if_pos rfl]
     | cons d t =>
      obtain ⟨hlt2, hr2⟩ := zg3 hr
      have hx2 : s[i + 1]? = some d := by have := congrArg (·[0]?) hr; simpa using this
      have : (((i + 1 : Nat) : Int) == (s.length : Int)) = false := beq_eq_false_iff_ne.2 (by omega);have ih := zn9 s hs n (i + 2) (out ++ [d]) (by omega) (by omega) (by simp; omega);rw [show i + 2 = i + 1 + 1 from rfl, hr2] at ih;rw [this, if_neg (by decide), zU, hx2, yob, ziD, yob, zrO _ _ _ _ d hx2 hs (by omega), zqZ, ih]
      cases zek d with
      | false => rfl
      | true =>
       rw [ynt, if_neg (by decide), if_pos rfl]
       cases zdf t with
       | none => rfl
       | some p => simp only [Option.map_some, yaa, List.singleton_append]; rw [show i + 1 + 1 + p.2 = i + (p.2 + 2) by omega]
    | false =>
     have : ((i : Int) == (s.length : Int)) = false := beq_eq_false_iff_ne.2 (by omega);have ih := zn9 s hs n (i + 1) (out ++ [c]) (by omega) (by omega) (by simp; omega);rw [hr] at ih;rw [if_neg (by decide), this, if_neg (by decide), zU, hx, yob, ziD, yob, zrO _ _ _ _ c hx hs (by omega), zq0 r h34 h92, ih]
     cases zek c with
     | false => rfl
     | true =>
      rw [ynt, if_neg (by decide), if_pos rfl]
      cases zdf r with
      | none => rfl
      | some p => simp only [Option.map_some, yaa, List.singleton_append]; rw [show i + 1 + p.2 = i + (p.2 + 1) by omega]
theorem zxD (r : Str) (hs : r.length < 900000000) : zjC (34 :: r) = some (match zdf r with | some p => (p.1, ((p.2 + 1 : Nat) : Int)) | none => ([], 0)) := by
 unfold zjC zgy;have h0 : (((34 :: r : Str).length : Int) == 0) = false := beq_eq_false_iff_ne.2 (by simp only [ylc]; omega);have := zn9 (34 :: r) (by simp; omega) fuel 1 [] (by simp) (by simp only [ylc]; unfold fuel; omega) (by simp);rw [h0, if_neg (by decide), ziC, List.getElem?_cons_zero, yob];show zbc (34 :: r) fuel [] ((1 : Nat) : Int) = _;rw [this];show some (match zdf r with | some p => (([] : Str) ++ p.1, ((1 + p.2 : Nat) : Int)) | none => ([], 0)) = _
 cases zdf r with
 | none => rfl
 | some p => simp only [yna, Nat.add_comm]
theorem zrP (s : Str) (hs : s.length < 900000000) : ∀ (n i d : Nat), i ≤ s.length + 1 → s.length + 1 - i < n → d ≤ i → zaa s n ((d + 1 : Nat) : Int) (i : Int) = some (match zgF (d + 1) (s.drop i) with | some m => ((i + m : Nat) : Int) | none => 0)
 | 0, _, _, _, h, _ => by omega
 | n + 1, i, d, hi, h, hdi => by
  rw [zaa]
  cases hd : s.drop i with
  | nil =>
   have : s.length ≤ i := by have := congrArg List.length hd; simp at this; omega
   rw [ydf (by omega), if_neg (by decide)];rfl
  | cons c r =>
   obtain ⟨hlt, hr⟩ := zg3 hd
   have hx : s[i]? = some c := by have := congrArg (·[0]?) hd; simpa using this
   have j2 : ∀ (d' i' : Nat), i' < 4000000000 → zbd (zaa s n) ((d' + 1 : Nat) : Int) (i' : Int) = zaa s n ((d' + 1 : Nat) : Int) ((i' + 1 : Nat) : Int) := fun d' i' h' => by
    unfold zbd;have : (((d' + 1 : Nat) : Int) == 0) = false := beq_eq_false_iff_ne.2 (by omega);rw [this, if_neg (by decide), zi (by omega), yob]
   have i1 : zr ((d + 1 : Nat) : Int) 1 = some ((d + 1 + 1 : Nat) : Int) := zi (by omega)
   have i2 : zcu ((d + 1 : Nat) : Int) 1 = some (d : Int) := by rw [zaJ (by omega) (by omega)]; simp
   rw [ydt (show (i : Int) < (s.length : Int) by omega), if_pos rfl, zU, hx, yob, i1, yob, i2, yob, zi (by omega), yob, j2 _ _ (by omega), j2 _ _ (by omega), j2 _ _ (by omega)];have ih := fun i' d' h1 h2 h3 => zrP s hs n i' d' h1 h2 h3
   cases c40 : c == 40 with
   | true =>
    have : c = 40 := by simpa using c40
    subst this;rw [if_pos rfl, ih (i + 1) (d + 1) (by omega) (by omega) (by omega), hr, zoq]
    cases zgF (d + 2) r with
    | none => rfl
    | some m => simp only [Option.map_some]; rw [show i + 1 + m = i + (m + 1) by omega]
   | false =>
    rw [if_neg (by decide)]
    cases c41 : c == 41 with
    | true =>
     have : c = 41 := by simpa using c41
     subst this;rw [if_pos rfl, zmu]
     cases d with
     | zero =>
      rw [zq2];unfold zbd;rw [if_pos (by decide), zi (by omega)];rfl
     | succ d =>
      rw [j2 _ _ (by omega), ih (i + 1) d (by omega) (by omega) (by omega), hr]
      cases zgF (d + 1) r with
      | none => rfl
      | some m => simp only [Option.map_some]; rw [show i + 1 + m = i + (m + 1) by omega]
    | false =>
     rw [if_neg (by decide)]
     cases c92 : c == 92 with
     | true =>
      have : c = 92 := by simpa using c92
      subst this;rw [if_pos rfl, ih (i + 1 + 1) d (by omega) (by omega) (by omega)]
      cases r with
      | nil =>
       have : s.drop (i + 1 + 1) = [] := by rw [← List.drop_drop, hr]; rfl
       rw [this, zq3];rfl
      | cons x t =>
       have : s.drop (i + 1 + 1) = t := by rw [← List.drop_drop, hr]; rfl
       rw [this, zp3]
       cases zgF (d + 1) t with
       | none => rfl
       | some m => simp only [Option.map_some]; rw [show i + 1 + 1 + m = i + (m + 2) by omega]
     | false =>
      rw [if_neg (by decide), ih (i + 1) d (by omega) (by omega) (by omega), hr, zp4 d r c40 c41 c92]
      cases zgF (d + 1) r with
      | none => rfl
      | some m => simp only [Option.map_some]; rw [show i + 1 + m = i + (m + 1) by omega]
theorem ztT (c : UInt8) (r : Str) (hs : r.length < 800000000) (hc : (c == 34 || c == 40) = true) : zjD (c :: r) = some (zeQ c r : Int) := by
 unfold zjD zeQ;rw [ziC, List.getElem?_cons_zero, yob]
 cases h34 : c == 34 with
 | true =>
  have : c = 34 := by simpa using h34
  subst this;rw [if_pos rfl, if_pos rfl, zxD r (by omega), yob];cases zdf r <;> rfl
 | false =>
  have h40 : c = 40 := by rw [h34, Bool.false_or] at hc; simpa using hc
  subst h40;rw [if_neg (by decide), if_neg (by decide), show fuel = 999999999999999999 + 1 from rfl, zaa];have h0 : decide ((0 : Int) < ((40 :: r : Str).length : Int)) = true := ydt (by simp only [ylc]; omega);rw [h0, if_pos rfl, ziC, List.getElem?_cons_zero, yob, if_pos (by decide), show zr 0 1 = some 1 from by decide, yob];unfold zbd;rw [if_neg (by decide), show zr 0 1 = some 1 from by decide, yob];have := zrP (40 :: r) (by simp; omega) 999999999999999999 1 0 (by simp) (by simp only [ylc]; omega) (by omega);show zaa (40 :: r) 999999999999999999 ((0 + 1 : Nat) : Int) ((1 : Nat) : Int) = _;rw [this];show some (match zgF 1 r with | some m => ((1 + m : Nat) : Int) | none => 0) = _
  cases zgF 1 r with
  | none => rfl
  | some m => simp only [Nat.add_comm]
theorem zxE (l : List Str) (x : Str) (hl : l.length < 900000000) : zbK l x fuel [] 0 = some ((l ++ [x]).filter (fun x => !(x == [])), 0) := by
 have key : ∀ (n i : Nat) (out : List Str), i ≤ (l ++ [x]).length → (l ++ [x]).length - i < n → out.length ≤ i → zbK l x n out (i : Int) = some (out ++ ((l ++ [x]).drop i).filter (fun x => !(x == [])), 0) := by
  have hll : (l ++ [x]).length = l.length + 1 := by simp
  intro n
  induction n with
  | zero => intro i _ _ h; omega
  | succ n ih =>
   intro i out hi h ho;rw [zbK]
   by_cases hlt : i < (l ++ [x]).length
   ·have g : (l ++ [x])[i]? = some (l ++ [x])[i] := ygg hlt;unfold zgA;rw [ydt (show (i : Int) < ((l ++ [x]).length : Int) by omega), if_pos rfl, zY, g, yob, yob, if_pos (zaX (by omega) (by omega)), zi (by omega), yob, yob, ih (i + 1) _ (by omega) (by omega) (by simp; omega), ih (i + 1) _ (by omega) (by omega) (by omega), ydg hlt, List.filter_cons];cases (l ++ [x])[i] == [] <;> simp
   ·have : i = (l ++ [x]).length := by omega
    subst this;rw [ydf (by omega), if_neg (by decide), ydl];simp
 have := key fuel 0 [] (yz _) (by simp; unfold fuel; omega) (by simp);rw [List.drop_zero, yna] at this;exact this
theorem zf0 (s : Str) (hs : s.length < 800000000) : ∀ (n k a : Nat) (out : List Str), k ≤ s.length → s.length - k < n → a ≤ k → out.length ≤ k →
  zaz s n out (a : Int) (k : Int) = some (match zis 0 (mid s a k) (s.drop k) with | some l => ((out ++ l.map zdF).filter (fun x => !(x == [])), 0) | none => ([], 2))
 | 0, _, _, _, _, h, _, _ => by omega
 | n + 1, k, a, out, hk, hn, ha, ho => by
  have hat : At s k (s.drop k) := ⟨hk, rfl⟩;have hl := hat.len;rw [zaz]
  cases hd : s.drop k with
  | nil =>
   have : k = s.length := by have := congrArg List.length hd; simp at this; omega
   subst this
   have hm : mid s a s.length = s.drop a := by unfold mid; rw [List.take_length]
   have hdl : (s.drop a).length ≤ s.length := by simp
   rw [ydf (by omega), if_neg (by decide), z6 ha, yob, zls _ (by omega), yob, if_pos (zaX (by omega) (by omega)), zxE _ _ (by omega), ztg, hm];rfl
  | cons c t =>
   obtain ⟨hlt, hr⟩ := zg3 hd
   have hx : s[k]? = some c := by have := congrArg (·[0]?) hd; simpa using this
   have htl : t.length = s.length - (k + 1) := by rw [← hr]; simp
   rw [hd] at hat
   have j2t : (c == 34 || c == 40) = true → zcG (zaz s n) s out (a : Int) (k : Int) true = some (match zis 0 (mid s a k) (c :: t) with | some l => ((out ++ l.map zdF).filter (fun x => !(x == [])), 0) | none => ([], 2)) := fun hc => by
    unfold zcG;rw [if_pos rfl, z6 hk, yob, hd, ztT c t (by omega) hc, yob, zvR _ t hc]
    by_cases hp : zeQ c t = 0
    ·rw [hp, if_pos rfl]; rfl
    ·have hple := zw8 c t;have h0 : ((zeQ c t : Int) == 0) = false := beq_eq_false_iff_ne.2 (by omega)
     have hadd : zr (k : Int) (zeQ c t : Int) = some ((k + zeQ c t : Nat) : Int) := by rw [zb1 (by omega) (by omega)]; simp
     have ih := zf0 s hs n (k + zeQ c t) a out (by omega) (by omega) (by omega) (by omega)
     have hdp : s.drop (k + zeQ c t) = (c :: t).drop (zeQ c t) := by rw [← List.drop_drop, hd]
     rw [zqn hat ha (by simp; omega), hdp] at ih;obtain ⟨q, hq⟩ : ∃ q, zeQ c t = q + 1 := ⟨zeQ c t - 1, by omega⟩;rw [h0, if_neg (by decide), if_neg hp, hadd, yob, ih, hq, Nat.add_sub_cancel, zq4 q _ t (by omega)];simp
   have j2f : (c == 34 || c == 40) = false → zcG (zaz s n) s out (a : Int) (k : Int) false = some (match zis 0 (mid s a k) (c :: t) with | some l => ((out ++ l.map zdF).filter (fun x => !(x == [])), 0) | none => ([], 2)) := fun hc => by
    unfold zcG zgz;have hml := zy3 s a k;have hsub : zhF s (a : Int) (k : Int) = some (mid s a k) := zeS ha hk;rw [if_neg (by decide), zU, hx, yob, hsub, yob, zls _ (by omega), yob, if_pos (zaX (by omega) (by omega)), zi (by omega), yob, yob]
    cases h44 : c == 44 with
    | true =>
     have : c = 44 := by simpa using h44
     subst this;have ih := zf0 s hs n (k + 1) (k + 1) (out ++ [zdF (mid s a k)]) (by omega) (by omega) (Nat.le_refl _) (by simp; omega);rw [zqo, hr] at ih;rw [if_pos rfl, ih, zpr]
     cases zis 0 [] t with
     | none => rfl
     | some l => simp
    | false =>
     have ih := zf0 s hs n (k + 1) a out (by omega) (by omega) (by omega) (by omega);have m1 := zqn (n := 1) hat ha (by simp);rw [m1, hr] at ih;rw [if_neg (by decide), yob, ih, zth _ t hc h44];rfl
   rw [ydt (show (k : Int) < (s.length : Int) by omega), if_pos rfl, zU, hx, yob, yob]
   cases h34 : c == 34 with
   | true => rw [if_pos rfl]; exact j2t (by rw [h34]; rfl)
   | false =>
    rw [if_neg (by decide)]
    cases h40 : c == 40 with
    | true => exact j2t (by rw [h40, Bool.or_true])
    | false => exact j2f (by rw [h34, h40]; rfl)
theorem zoa (s : Str) (hs : s.length < 800000000) : zh0 s = some (znX s) := by
 unfold zh0 znX zit;have := zf0 s hs fuel 0 0 [] (yz _) (by unfold fuel; omega) (Nat.le_refl _) (by simp);rw [zqo, List.drop_zero] at this;show zaz s fuel [] ((0 : Nat) : Int) ((0 : Nat) : Int) = _;rw [this]
 cases zis 0 [] s with
 | none => rfl
 | some l => rfl
end Go.Dm
end
section
namespace Go.Dm
def isN (nm : Str) (f : api_Field) : Bool := low f.Name == low nm
def zaT (m : Nat) (l : List api_Field) : Prop := ∀ f ∈ l, f.Name.length < m ∧ f.Value.length < m
theorem zw4 (f : api_Field) (nm : Str) (hf : f.Name.length < 1000000000) (hn : nm.length < 1000000000) : znI f nm = some (isN nm f) := by
 unfold znI isN;rw [zjd _ hf, yob, zjd _ hn, yob]
theorem ztc (l : List api_Field) (h : l.length < 1000000000) : zB l = some l := by
 unfold zB;rw [if_pos (zaX (by omega) (by omega))]
theorem zjT (l : List api_Field) (nm : Str) (hn : nm.length < 1000000000) (hl : l.length < 1000000000) (hs : zaT 1000000000 l) : zd8 l nm = some ((l.filter (isN nm)).map (·.Value)) := by
 unfold zd8
 have key : ∀ (n i : Nat) (out : List Str), i ≤ l.length → l.length - i < n → out.length ≤ i → zbZ l nm n out (i : Int) = some (out ++ ((l.drop i).filter (isN nm)).map (·.Value)) := by
  intro n
  induction n with
  | zero => intro i _ _ h; omega
  | succ n ih =>
   intro i out hi h ho;rw [zbZ]
   by_cases hlt : i < l.length
   ·have g : l[i]? = some l[i] := ygg hlt;have hsm := hs l[i] (ygm _);rw [ydt (show (i : Int) < (l.length : Int) by omega), if_pos rfl, zY, g, yob, zw4 _ _ hsm.1 hn, yob, yob, if_pos (zaX (by omega) (by omega))];unfold zft;rw [zi (by omega), yob, yob, ih (i + 1) _ (by omega) (by omega) (by simp; omega), ih (i + 1) _ (by omega) (by omega) (by omega), ydg hlt, List.filter_cons]
    cases isN nm l[i] with
    | true => simp
    | false => rfl
   ·have : i = l.length := by omega
    subst this;rw [ydf (by omega), if_neg (by decide), ydl];simp
 have := key fuel 0 [] (yz _) (by unfold fuel; omega) (by simp);rw [List.drop_zero, yna] at this;exact this
theorem zzK {α : Type} [BEq α] [LawfulBEq α] (a b : List α) (L : Nat → Int → Option Bool) (hl : a.length = b.length) (ha : a.length < 1000000000)
  (hE : ∀ n, L (n + 1) (a.length : Int) = some true) (hL : ∀ n (i : Nat) x y, i < a.length → a[i]? = some x → b[i]? = some y → L (n + 1) (i : Int) = if (x == y) = true then L n ((i + 1 : Nat) : Int) else some false) : L fuel 0 = some (a == b) := by
 have key : ∀ (n i : Nat), i ≤ a.length → a.length - i < n → L n (i : Int) = some (a.drop i == b.drop i) := by
  intro n
  induction n with
  | zero => intro i _ h; omega
  | succ n ih =>
   intro i hi h
   by_cases hlt : i < a.length
   ·have g1 : a[i]? = some a[i] := ygg hlt;have g2 : b[i]? = some (b[i]'(by omega)) := ygg (by omega);rw [hL n i _ _ hlt g1 g2, ih (i + 1) (by omega) (by omega), ydg hlt, ydg (show i < b.length by omega), List.cons_beq_cons];cases a[i] == b[i]'(by omega) <;> rfl
   ·have : i = a.length := by omega
    subst this;rw [hE, ydl, List.drop_of_length_le (by omega)];rfl
 have := key fuel 0 (yz _) (by unfold fuel; omega);rw [List.drop_zero, List.drop_zero] at this;exact this
theorem zo0 (a b : List api_Field) (ha : a.length < 1000000000) : zi5 a b = some (a == b) := by
 unfold zi5
 by_cases hl : a.length = b.length
 ·rw [hl, ybs, ynt, if_neg (by decide)];refine zzK a b (zei a b) hl ha (fun n => ?_) (fun n i x y hi hx hy => ?_)
  ·rw [zei, ydf (by omega), if_neg (by decide)]
  ·rw [zei, ydt (by omega), if_pos rfl, zY, hx, yob, zY, hy, yob, zi (by omega), yob];cases x == y <;> rfl
 ·have : (((a.length : Int) == (b.length : Int))) = false := beq_eq_false_iff_ne.2 (by omega);have h2 : (a == b) = false := beq_eq_false_iff_ne.2 (fun e => hl (by rw [e]));rw [this, h2]; rfl
def cutF (f : api_Field) : api_Field := ⟨f.Name.take 400, f.Value.take 400⟩
def cutL (l : List api_Field) : List api_Field := (l.take 120).map cutF
theorem zh8 (s : Str) : zgW s = some (s.take 400) := by
 unfold zgW;have := zqv s 400;rw [show ((400 : Nat) : Int) = 400 from rfl] at this;rw [this, yob]
theorem zp1 (h : api_Head) (hl : h.Fields.length < 1000000000) : zlR h = some ⟨h.Kind, h.Method.take 400, h.Target.take 400, h.Code, h.Reason.take 400, h.Minor, cutL h.Fields⟩ := by
 unfold zlR;rw [zh8, yob, zh8, yob, zh8, yob]
 have key : ∀ (n i : Nat) (out : List api_Field), i ≤ h.Fields.length → i ≤ 120 → h.Fields.length - i < n → out.length = i → zd1 h (h.Method.take 400) (h.Target.take 400) (h.Reason.take 400) n out (i : Int) = some ⟨h.Kind, h.Method.take 400, h.Target.take 400, h.Code, h.Reason.take 400, h.Minor, out ++ ((h.Fields.drop i).take (120 - i)).map cutF⟩ := by
  intro n
  induction n with
  | zero => intro i _ _ _ h; omega
  | succ n ih =>
   intro i out hi h120 hn ho;rw [zd1];unfold zii
   by_cases hlt : i < h.Fields.length
   ·have g : h.Fields[i]? = some h.Fields[i] := ygg hlt;rw [ydt (show (i : Int) < (h.Fields.length : Int) by omega), if_pos rfl]
    by_cases h2 : i < 120
    ·rw [ydt (show (i : Int) < 120 by omega), if_pos rfl, zY, g, yob, zh8, yob, yob, zh8, yob, if_pos (zaX (by omega) (by omega)), zi (by omega), yob, ih (i + 1) _ (by omega) (by omega) (by omega) (by simp; omega), ydg hlt, show 120 - i = (120 - (i + 1)) + 1 by omega, List.take_succ_cons];simp [cutF]
    ·have : i = 120 := by omega
     subst this;rw [ydf (by omega), if_neg (by decide)];simp
   ·have : i = h.Fields.length := by omega
    rw [ydf (by omega), if_neg (by decide), if_neg (by decide), this, ydl];simp
 have := key fuel 0 [] (yz _) (by decide) (by unfold fuel; omega) rfl;exact this
theorem zBK (l : List api_Field) : (cutL l).length ≤ 120 := by unfold cutL; simp; omega
theorem zyg (l : List api_Field) : zaT 401 (cutL l) := by
 intro f hf;unfold cutL at hf;obtain ⟨g, _, rfl⟩ := List.mem_map.1 hf;unfold cutF
 simp; omega
theorem zM {m n : Nat} (h : m ≤ n) {l : List api_Field} (hs : zaT m l) : zaT n l := fun f hf => by have := hs f hf; omega
end Go.Dm
end
section
namespace Go.Dm
def zy8 (a b : api_Head) : Bool := a.Kind == b.Kind && a.Method == b.Method && a.Target == b.Target && a.Minor == b.Minor && a.Code == b.Code && a.Reason == b.Reason && a.Fields == b.Fields
theorem zyE (a : api_Head) : zy8 a a = true := by unfold zy8; simp
theorem zuA (a b : api_Head) (ha : a.Fields.length < 1000000000) : zkM a b = some (zy8 a b) := by
 unfold zkM zhs zms zcs zy8;rw [zo0 _ _ ha, yob];cases a.Kind == b.Kind <;> cases a.Method == b.Method <;> cases a.Target == b.Target <;> cases a.Minor == b.Minor <;> cases a.Code == b.Code <;> cases a.Reason == b.Reason <;> rfl

end Go.Dm
end
section
namespace Go.Dm
theorem zlN (b : UInt8) : zed b = some (zaS b) :=
 of_decide_eq_true (zD (fun b => decide (zed b = some (zaS b))) (by decide +kernel) b)
def zky : api_Field := ⟨[], []⟩
def zvL (s : Str) : api_Field × Int :=
 if s.any ([13, 10] : Str).contains then (zky, 24) else if !(s.takeWhile zaS == []) then (zky, 23)
 else if s.takeWhile zbx == [] || !zfW 58 ((s.dropWhile zbx).dropWhile zaS) then (zky, 21)
 else if !((s.dropWhile zbx).takeWhile zaS == []) then (zky, 22)
 else if !((zap 58 ((s.dropWhile zbx).dropWhile zaS)).all zek) then (zky, 25)
 else (⟨s.takeWhile zbx, zdF (zap 58 ((s.dropWhile zbx).dropWhile zaS))⟩, 0)
theorem zoC (s : Str) (hs : s.length < 1000000000) : zbY s = some (zvL s) := by
 unfold zbY zvL;rw [ziB s _ hs (by decide) (by decide), yob]
 cases s.any ([13, 10] : Str).contains with
 | true => rfl
 | false =>
  obtain ⟨k1, a1, e1⟩ := zl3 zlN hs (At.zero s)
  have b1 : zaF (scn s 0) = some (s.takeWhile zaS, scn s k1) := by unfold zaF; rw [e1]; rfl
  rw [if_neg yfn, if_neg yfn, zh2, yob, b1, yob];dsimp only
  cases hb : s.takeWhile zaS == [] with
  | false => rfl
  | true =>
   have hd : s.dropWhile zaS = s := by
    have := List.takeWhile_append_dropWhile (p := zaS) (l := s)
    have h0 : s.takeWhile zaS = [] := by simpa using hb
    rwa [h0, yna] at this
   rw [hd] at a1;obtain ⟨k2, a2, e2⟩ := zxs hs a1;obtain ⟨k3, a3, e3⟩ := zl3 zlN hs a2
   have b3 : zaF (scn s k2) = some ((s.dropWhile zbx).takeWhile zaS, scn s k3) := by unfold zaF; rw [e3]; rfl
   rw [ynt, if_neg yfn, if_neg yfn, e2, yob, b3, yob];dsimp only
   cases hn : s.takeWhile zbx == [] with
   | true => rfl
   | false =>
    obtain ⟨k4, a4, e4⟩ := zfX hs 58 a3;rw [ynf, ynt, if_neg yfn, e4, yob, Bool.false_or];have hl := a4.le_len;generalize zap 58 ((s.dropWhile zbx).dropWhile zaS) = v at a4 hl;unfold zds;show (if (!zfW 58 ((s.dropWhile zbx).dropWhile zaS)) = true then _ else if (!((s.dropWhile zbx).takeWhile zaS == [])) = true then _ else (zR (scn s k4)).bind _) = _;rw [zsi a4, yob, zdg zg5 v (by omega), yob]
    cases zfW 58 ((s.dropWhile zbx).dropWhile zaS) with
    | false => rfl
    | true =>
     rw [ynt, if_neg yfn, if_neg yfn]
     cases (s.dropWhile zbx).takeWhile zaS == [] with
     | false => rfl
     | true =>
      rw [ynt, if_neg yfn, if_neg yfn]
      cases v.all zek with
      | false => rfl
      | true =>
       rw [ynt, if_neg yfn, if_neg yfn];rw [yob, zjS v (by omega), yob]
def zqS : Str → Bool
 | [] => false
 | c :: _ => zaS c
def zec (s : Str) : api_Field × Int :=
 if s.any ([13, 10] : Str).contains then (zky, 24) else if zqS s then (zky, 23)
 else if zbv [58] s == [] || !zem (zdF (upto [58] s)) then (zky, 21)
 else if decide ((zdF (upto [58] s)).length < (upto [58] s).length) then (zky, 22)
 else if !(((zbv [58] s).drop 1).all zek) then (zky, 25)
 else (⟨zdF (upto [58] s), zdF ((zbv [58] s).drop 1)⟩, 0)
theorem zye (s : Str) : (!(s.takeWhile zaS == [])) = zqS s := by
 cases s with
 | nil => rfl
 | cons c s =>
  rw [List.takeWhile_cons];show _ = zaS c;cases zaS c <;> rfl
theorem zC8 (c : UInt8) : (!zbx c || (!zaS c && !(c == 58))) = true := zD (fun c => !zbx c || (!zaS c && !(c == 58))) (by decide +kernel) c
theorem zBF (c : UInt8) : (!zaS c || (!zbx c && !(c == 58))) = true := zD (fun c => !zaS c || (!zbx c && !(c == 58))) (by decide +kernel) c
theorem zqT {n : Str} (h : n.all zbx = true) : (∀ x ∈ n, zaS x = false) ∧ (58 : UInt8) ∉ n := by
 have key : ∀ x ∈ n, zaS x = false ∧ (x == 58) = false := fun x hx => by
  have h1 := List.all_eq_true.1 h x hx;have h2 := zC8 x;rw [h1] at h2;simpa using h2
 exact ⟨fun x hx => (key x hx).1, fun hx => by have := (key _ hx).2; cases this⟩
theorem zBG {b : Str} (h : b.all zaS = true) : (58 : UInt8) ∉ b := fun hx => by
 have := List.all_eq_true.1 h _ hx;cases this
theorem zyU (u v : Str) (h : (58 : UInt8) ∉ u) : upto [58] (u ++ 58 :: v) = u ∧ zbv [58] (u ++ 58 :: v) = 58 :: v := by
 induction u with
 | nil => exact ⟨zjK (by decide), zjL (by decide)⟩
 | cons c u ih =>
  have hc : ([58] : Str).contains c = false := by
   have : c ≠ 58 := fun e => h (by rw [e]; exact List.mem_cons_self ..);simpa using this
  have ih := ih (fun hx => h (List.mem_cons_of_mem _ hx));rw [List.cons_append, zjM hc, zjN hc, ih.1, ih.2];exact ⟨rfl, rfl⟩
theorem all_takeWhile (p : UInt8 → Bool) (s : Str) : (s.takeWhile p).all p = true := List.all_eq_true.2 fun _ hx => zja hx
theorem zzF {n b v : Str} (hn : n.all zbx = true) (hb : b.all zaS = true) :
  (n ++ (b ++ 58 :: v)).takeWhile zbx = n ∧ (n ++ (b ++ 58 :: v)).dropWhile zbx = b ++ 58 :: v ∧ (b ++ 58 :: v).takeWhile zaS = b ∧ (b ++ 58 :: v).dropWhile zaS = 58 :: v := by
 have h1 := zmB (p := zaS) (c := 58) (by decide) v hb;refine ⟨?_, ?_, h1.1, h1.2⟩
 ·cases b with
  | nil => exact (zmB (p := zbx) (c := 58) (by decide) v hn).1
  | cons c b =>
   have hc : zbx c = false := by
    rw [List.all_cons, Bool.and_eq_true] at hb;have := zBF c;rw [hb.1] at this;simp only [ynt, Bool.false_or, Bool.and_eq_true, Bool.not_eq_true'] at this;exact this.1
   exact (zmB hc _ hn).1
 ·cases b with
  | nil => exact (zmB (p := zbx) (c := 58) (by decide) v hn).2
  | cons c b =>
   have hc : zbx c = false := by
    rw [List.all_cons, Bool.and_eq_true] at hb;have := zBF c;rw [hb.1] at this;simp only [ynt, Bool.false_or, Bool.and_eq_true, Bool.not_eq_true'] at this;exact this.1
   exact (zmB hc _ hn).2
theorem zwZ {s : Str} (h : ∀ x ∈ s, zaS x = false) : zdF s = s := by
 have hl : ∀ t : Str, (∀ x ∈ t, zaS x = false) → t.dropWhile zaS = t := by
  intro t ht
  cases t with
  | nil => rfl
  | cons y t => rw [List.dropWhile_cons, ht y (List.mem_cons_self ..)]; rfl
 have hr : ziK s = s := by unfold ziK; rw [hl _ (fun x hx => h x (List.mem_reverse.1 hx)), List.reverse_reverse]
 unfold zdF zjn;rw [hr, hl s h]
theorem zzG {n b : Str} (hn : n.all zbx = true) (hb : b.all zaS = true) : zdF (n ++ b) = n := by
 rw [zvS hb];exact zwZ (zqT hn).1
theorem zzH {u : Str} (h : zqS u = false) (ht : zem (zdF u) = true) : ∃ b, u = zdF u ++ b ∧ b.all zaS = true := by
 rcases zrz u with ⟨h1, h2⟩ | ⟨a, c, b, h1, h2, h3, h4⟩
 ·have : zdF u = [] := by unfold zdF; rw [h2]; rfl
  rw [this] at ht; cases ht
 ·refine ⟨b, ?_, h3⟩
  have e : zdF u = a ++ [c] := by
   unfold zdF;rw [h4];unfold zjn
   cases a with
   | nil => show [c].dropWhile zaS = _; rw [List.dropWhile_cons, h2, if_neg yfn]; rfl
   | cons x a =>
    rw [h1] at h;have hx : zaS x = false := h;rw [List.cons_append, List.dropWhile_cons, hx, if_neg yfn]
  rw [e, h1]; simp
theorem zBH (s : Str) : zvL s = zec s := by
 unfold zvL zec;rw [zye]
 cases s.any ([13, 10] : Str).contains with
 | true => rfl
 | false =>
  cases hb : zqS s with
  | true => rfl
  | false =>
   rw [if_neg yfn, if_neg yfn, if_neg yfn, if_neg yfn];have e1 := List.takeWhile_append_dropWhile (p := zbx) (l := s);have e2 := List.takeWhile_append_dropWhile (p := zaS) (l := s.dropWhile zbx);have hn := all_takeWhile zbx s;have hbb := all_takeWhile zaS (s.dropWhile zbx)
   cases hc : zfW 58 ((s.dropWhile zbx).dropWhile zaS) with
   | true =>
    have e3 := zgI hc;generalize zap 58 ((s.dropWhile zbx).dropWhile zaS) = v at e3;generalize s.takeWhile zbx = n at e1 hn;generalize (s.dropWhile zbx).takeWhile zaS = b at e2 hbb
    have es : s = (n ++ b) ++ 58 :: v := by rw [← e1, ← e2, e3, yaa]
    have hno : (58 : UInt8) ∉ n ++ b := fun hx => by
     rcases List.mem_append.1 hx with h | h
     ·exact (zqT hn).2 h
     ·exact zBG hbb h
    obtain ⟨u1, u2⟩ := zyU (n ++ b) v hno;rw [es, u1, u2, zzG hn hbb]
    have ht : zem n = !(n == []) := by unfold zem; rw [hn, Bool.true_and]
    rw [ht]
    have hlt : decide (n.length < (n ++ b).length) = !(b == []) := by
     cases b with
     | nil => simp
     | cons x b => simp
    rw [hlt];show (if (n == [] || false) = true then _ else _) = if (false || !(!(n == []))) = true then _ else _;rw [Bool.or_false, Bool.false_or, Bool.not_not];rfl
   | false =>
    rw [ynf, Bool.or_true, if_pos rfl]
    cases hf : zbv [58] s with
    | nil => rfl
    | cons c v =>
     have hc58 : c = 58 := by simpa using zrk hf
     subst hc58
     cases ht : zem (zdF (upto [58] s)) with
     | false => rfl
     | true =>
      exfalso
      have es := zdl [58] s;rw [hf] at es
      have hub : zqS (upto [58] s) = false := by
       cases hu : upto [58] s with
       | nil => rfl
       | cons x u => rw [hu] at es; rw [← es] at hb; exact hb
      obtain ⟨b, eb, hbl⟩ := zzH hub ht;unfold zem at ht;rw [Bool.and_eq_true] at ht
      have es2 : s = zdF (upto [58] s) ++ (b ++ 58 :: v) := by
       rw [← yaa, ← eb]; exact es.symm
      obtain ⟨_, q2, _, q4⟩ := zzF (v := v) ht.1 hbl;rw [es2, q2, q4] at hc;cases hc
theorem zhG (s : Str) (hs : s.length < 1000000000) : zbY s = some (zec s) := by rw [zoC s hs, zBH]
theorem zr2 (s : Str) (hs : s.length < 1000000000) : zio s = some (s.all zek) := by
 unfold zio
 have key : ∀ (n i : Nat), i ≤ s.length → s.length - i < n → zdN s n (i : Int) = some ((s.drop i).all zek) := by
  intro n
  induction n with
  | zero => intro i _ h; omega
  | succ n ih =>
   intro i hi h;rw [zdN]
   by_cases hlt : i < s.length
   ·have g : s[i]? = some s[i] := ygg hlt;rw [ydt (show (i : Int) < (s.length : Int) by omega), if_pos rfl, zU, g, yob, ziD, yob, zi (by omega), yob, ih (i + 1) (by omega) (by omega), ydg hlt, List.all_cons];cases zek s[i] <;> rfl
   ·have : i = s.length := by omega
    subst this;rw [ydf (by omega), if_neg yfn, ydl];rfl
 have := key fuel 0 (yz _) (by unfold fuel; omega);rw [List.drop_zero] at this;exact this

end Go.Dm
end
section
namespace Go.Dm
def lines : Str → List Str
 | [] => [[]]
 | [c] => [[c]]
 | c :: d :: r => if c == 13 && d == 10 then [] :: lines r else zfN [c] (lines (d :: r))
theorem zuL (c d : UInt8) (r : Str) : lines (c :: d :: r) = if c == 13 && d == 10 then [] :: lines r else zfN [c] (lines (d :: r)) := by rw [lines]
theorem zwv (c d : UInt8) (r : Str) : ([13, 10] : Str).isPrefixOf (c :: d :: r) = (c == 13 && d == 10) := by
 show ((13 : UInt8) == c && ((10 : UInt8) == d && ([] : Str).isPrefixOf r)) = _
 have : ([] : Str).isPrefixOf r = true := by simp
 rw [this, Bool.and_true, show ((13 : UInt8) == c) = (c == 13) from by rw [Bool.eq_iff_iff, beq_iff_eq, beq_iff_eq]; exact eq_comm, show ((10 : UInt8) == d) = (d == 10) from by rw [Bool.eq_iff_iff, beq_iff_eq, beq_iff_eq]; exact eq_comm]
theorem zww : ∀ (n : Nat) (s : Str), s.length < n → lines s ≠ []
 | 0, _, h => by omega
 | n + 1, [], _ => by simp [lines]
 | n + 1, [c], _ => by simp [lines]
 | n + 1, c :: d :: r, h => by
  rw [zuL]
  split
  ·simp
  ·simp only [ylc] at h
   cases hl : lines (d :: r) with
   | nil => exact absurd hl (zww n _ (by simp only [ylc]; omega))
   | cons a t => simp [zfN]
theorem zBg (s : Str) : lines s ≠ [] := zww _ s (Nat.lt_succ_self _)
theorem zuM : ∀ (n : Nat) (s : Str), s.length < n → lines s = match zao [13, 10] s with | none => [s] | some p => p.1 :: lines p.2
 | 0, _, h => by omega
 | n + 1, [], _ => by simp [lines, zao]
 | n + 1, [c], _ => by
  have : ([13, 10] : Str).isPrefixOf [c] = false := by
   show ((13 : UInt8) == c && false) = false;rw [Bool.and_false]
  rw [zao, this, if_neg yfn];simp [lines, zao]
 | n + 1, c :: d :: r, h => by
  simp only [ylc] at h;have ih := zuM n (d :: r) (by simp only [ylc]; omega);rw [zuL, zao, zwv]
  cases hc : (c == 13 && d == 10) with
  | true => rfl
  | false =>
   rw [if_neg yfn, if_neg yfn, ih]
   cases zao [13, 10] (d :: r) with
   | none => rfl
   | some p => rfl
theorem zpI (s : Str) : lines s = match zao [13, 10] s with | none => [s] | some p => p.1 :: lines p.2 := zuM _ s (Nat.lt_succ_self _)
theorem zrs : ∀ (k : Nat) (s : Str), Go.Lib.count s [13, 10] = k → Go.Lib.splitK [13, 10] 0 k s = lines s
 | k, s, h => by
  have hi := zor (t := [13, 10]) (by decide) s;rw [zpI]
  cases hc : zao [13, 10] s with
  | none =>
   rw [hc] at hi;have h0 := Go.Lib.count_miss hi
   have : k = 0 := by omega
   subst this;rfl
  | some p =>
   rw [hc] at hi;have e := zdC (a := p.1) (b := p.2) hc
   have e1 : s.take p.1.length = p.1 := by rw [e, yaa, List.take_left']; rfl
   have e2 : s.drop (p.1.length + 2) = p.2 := by rw [e, List.drop_left']; simp
   have hh := Go.Lib.count_hit (i := p.1.length) (by decide) hi;rw [show ([13, 10] : Str).length = 2 from rfl, e2] at hh;obtain ⟨m, rfl⟩ : ∃ m, k = m + 1 := ⟨k - 1, by omega⟩;have ih := zrs m p.2 (by omega);unfold Go.Lib.splitK;have hn : (((p.1.length : Int)) == -1) = false := beq_eq_false_iff_ne.2 (by omega);rw [hi];dsimp only;rw [hn, if_neg yfn, Int.toNat_natCast, Nat.add_zero, e1, show ([13, 10] : Str).length = 2 from rfl, e2, ih]
theorem zpe (s : Str) (hs : s.length < 1000000000) : strings_Split s [13, 10] = some (lines s) := by
 unfold strings_Split;rw [if_pos ⟨by omega, by decide⟩];exact congrArg some (zrs _ s rfl)
theorem zuN : ∀ (n : Nat) (s : Str), s.length < n → (lines s).length ≤ s.length + 1 ∧ ∀ l ∈ lines s, l.length ≤ s.length
 | 0, _, h => by omega
 | n + 1, s, h => by
  rw [zpI]
  cases hc : zao [13, 10] s with
  | none => simp
  | some p =>
   have e := congrArg List.length (zdC (a := p.1) (b := p.2) hc);simp only [yla, ylc, yln] at e;obtain ⟨h1, h2⟩ := zuN n p.2 (by omega);dsimp only;refine ⟨by simp only [ylc]; omega, fun l hl => ?_⟩
   rcases List.mem_cons.1 hl with h | h
   ·rw [h]; omega
   ·have := h2 l h; omega
theorem zpJ (s t : Str) (hs : s.length < 1000000000) (ht : t ≠ []) : strings_Index s t = some (match zao t s with | none => -1 | some p => (p.1.length : Int)) := by
 unfold strings_Index;rw [if_pos (by omega), zsX, zor ht]
 first | done | (cases zao t s <;> rfl)
def zha (h : api_Head) : List Str := (h.Fields.filter (isN [104, 111, 115, 116])).map (·.Value)
def zpK (h : api_Head) : Bool := if h.Kind == 1 then (if decide (1 < (zha h).length) || decide (((zha h).length : Int) < h.Minor) then false else (zha h).all (fun x => x == [] || (zcM x).2 == 0)) else true
def zkn (h : api_Head) : Int := if decide (100 < h.Fields.length) then 3 else if zpK h then 0 else 27
theorem zBh : isN ([72, 111, 115, 116] : Str) = isN [104, 111, 115, 116] := by
 funext f
 unfold isN
 have : low ([72, 111, 115, 116] : Str) = low ([104, 111, 115, 116] : Str) := by decide
 rw [this]
theorem zlp (l : List api_Field) (nm : Str) (hn : nm.length < 1000000000) (hl : l.length < 1000000000) (hs : zaT 1000000000 l) : zdt ⟨l⟩ nm = some ((l.filter (isN nm)).map (·.Value)) := by
 unfold zdt zj7;rw [ztc l hl, yob, yob]
 have key : ∀ (n i : Nat) (out : List Str), i ≤ l.length → l.length - i < n → out.length ≤ i → za2 nm l n out (i : Int) = some (out ++ ((l.drop i).filter (isN nm)).map (·.Value)) := by
  intro n
  induction n with
  | zero => intro i _ _ h; omega
  | succ n ih =>
   intro i out hi h ho;rw [za2]
   by_cases hlt : i < l.length
   ·have g : l[i]? = some l[i] := ygg hlt;have hsm := hs l[i] (ygm _);rw [ydt (show (i : Int) < (l.length : Int) by omega), if_pos rfl, zY, g, yob, zoV _ _ hsm.1 hn, yob, if_pos (zaX (by omega) (by omega))];unfold zdZ;rw [zi (by omega), yob, yob, ih (i + 1) _ (by omega) (by omega) (by simp; omega), ih (i + 1) _ (by omega) (by omega) (by omega), ydg hlt, List.filter_cons];show (if (isN nm l[i]) = true then _ else _) = _
    cases isN nm l[i] with
    | true => simp
    | false => rfl
   ·have : i = l.length := by omega
    subst this;rw [ydf (by omega), if_neg yfn, ydl];simp
 have := key fuel 0 [] (yz _) (by unfold fuel; omega) (by simp);rw [List.drop_zero, yna] at this;exact this
theorem zt4 (h : api_Head) (hl : h.Fields.length < 1000000000) (hs : zaT 400000000 h.Fields) : zkB h = some (zpK h) := by
 unfold zkB zpK
 cases h.Kind == 1 with
 | false => rfl
 | true =>
  have hvl : (zha h).length ≤ h.Fields.length := by unfold zha; rw [List.length_map]; exact List.length_filter_le _ _
  have hvm : ∀ v ∈ zha h, v.length < 400000000 := fun v hv => by
   obtain ⟨f, hf, rfl⟩ := List.mem_map.1 hv;exact (hs f (List.mem_filter.1 hf).1).2
  rw [ynt, if_neg yfn, if_pos rfl];unfold zon;rw [ztc _ hl, yob, yob, zlp _ _ (by decide) hl (zM (by decide) hs), yob, zBh];show (if decide (1 < ((zha h).length : Int)) = true then zee (zha h) true else zee (zha h) (decide (((zha h).length : Int) < h.Minor))) = _;generalize zha h = vs at hvl hvm
  have key : ∀ (n i : Nat), i ≤ vs.length → vs.length - i < n → zdb vs n (i : Int) = some ((vs.drop i).all (fun x => x == [] || (zcM x).2 == 0)) := by
   intro n
   induction n with
   | zero => intro i _ h; omega
   | succ n ih =>
    intro i hi h;rw [zdb]
    by_cases hlt : i < vs.length
    ·have g : vs[i]? = some vs[i] := ygg hlt;have hsm := hvm vs[i] (ygm _);unfold zhh;rw [ydt (show (i : Int) < (vs.length : Int) by omega), if_pos rfl, zY, g, yob, zh6 _ hsm, yob, zi (by omega), yob, ih (i + 1) (by omega) (by omega), ydg hlt, List.all_cons];cases (zcM vs[i]).2 == 0 <;> cases vs[i] == [] <;> rfl
    ·have : i = vs.length := by omega
     subst this;rw [ydf (by omega), if_neg yfn, ydl];rfl
  have hk := key fuel 0 (yz _) (by unfold fuel; omega);rw [List.drop_zero] at hk;unfold zee
  by_cases h1 : 1 < vs.length
  ·rw [ydt (show 1 < (vs.length : Int) by omega), ydt h1]; rfl
  ·rw [ydf (show ¬ 1 < (vs.length : Int) by omega), ydf h1, if_neg yfn, Bool.false_or]
   cases decide ((vs.length : Int) < h.Minor) with
   | true => rfl
   | false => exact hk
theorem zoP (h : api_Head) (hl : h.Fields.length < 1000000000) (hs : zaT 400000000 h.Fields) : ziZ h = some (zkn h) := by
 unfold ziZ zkn;rw [zt4 h hl hs, yob]
 by_cases h1 : 100 < h.Fields.length
 ·rw [ydt (show 100 < (h.Fields.length : Int) by omega), ydt h1]; rfl
 ·rw [ydf (show ¬ 100 < (h.Fields.length : Int) by omega), ydf h1];cases zpK h <;> rfl
structure GoodH (h : api_Head) : Prop where
 kind : h.Kind = 1 ∨ h.Kind = 2
 minor : h.Minor = 0 ∨ h.Minor = 1
theorem hostE (x : Str) : (zcM x).2 = 0 ∨ (zcM x).2 = 27 := by
 unfold zcM
 split
 ·exact .inl rfl
 ·split
  ·exact .inr rfl
  ·split
   ·exact .inl rfl
   ·exact .inr rfl
theorem zsB (h : api_Head) (hg : GoodH h) (hl : h.Fields.length < 1000000000) (hs : zaT 400000000 h.Fields) : zjA h = some (zkn h) := by
 unfold zjA zkn
 by_cases h1 : 100 < h.Fields.length
 ·rw [ydt (show 100 < (h.Fields.length : Int) by omega), ydt h1]; rfl
 ·rw [ydf (show ¬ 100 < (h.Fields.length : Int) by omega), ydf h1, if_neg yfn, if_neg yfn];unfold zpK
  rcases hg.kind with hk | hk
  ·rw [hk];show ((zd8 h.Fields [104, 111, 115, 116]).bind _) = _;rw [zjT _ _ (by decide) hl (zM (by decide) hs), yob]
   have hvm : ∀ v ∈ zha h, v.length < 400000000 := fun v hv => by
    obtain ⟨f, hf, rfl⟩ := List.mem_map.1 hv;exact (hs f (List.mem_filter.1 hf).1).2
   show (if decide (1 < ((zha h).length : Int)) = true then zay (zha h) true else if (h.Minor == 1) = true then zay (zha h) (((zha h).length : Int) == 0) else zay (zha h) false) = some (if (if decide (1 < (zha h).length) || decide (((zha h).length : Int) < h.Minor) then false else (zha h).all (fun x => x == [] || (zcM x).2 == 0)) = true then (0 : Int) else 27);generalize zha h = vs at hvm
   match vs, hvm with
   | [], _ => rcases hg.minor with hm | hm <;> rw [hm] <;> rfl
   | [x], hvm =>
    have hx := hvm x (List.mem_cons_self ..)
    have j : zay [x] false = some (if ([x] : List Str).all (fun x => x == [] || (zcM x).2 == 0) then 0 else 27) := by
     unfold zay zgw;show (if (!(x == [])) = true then (zeY x).bind _ else _) = _;rw [zkt x hx, yob, List.all_cons, List.all_nil, Bool.and_true]
     cases hx0 : x == [] with
     | true => rfl
     | false =>
      rcases hostE x with h | h <;> rw [h] <;> rfl
    have e1 : ∀ m : Int, m = 0 ∨ m = 1 → decide ((([x] : List Str).length : Int) < m) = false := fun m h => by
     rcases h with h | h <;> rw [h] <;> rfl
    rw [e1 _ hg.minor];show (if (h.Minor == 1) = true then zay [x] false else zay [x] false) = some (if ([x] : List Str).all (fun x => x == [] || (zcM x).2 == 0) = true then (0 : Int) else 27);rw [j];cases h.Minor == 1 <;> cases ([x] : List Str).all (fun x => x == [] || (zcM x).2 == 0) <;> rfl
   | x :: y :: l, _ =>
    have e1 : decide (1 < ((x :: y :: l : List Str).length : Int)) = true := ydt (by simp only [ylc]; omega);have e2 : decide (1 < (x :: y :: l : List Str).length) = true := ydt (by simp);rw [e1, e2]; rfl
  ·rw [hk]; rfl
theorem zxQ {k : Int} {s : Str} {x : api_Head} (h : zch k s = (x, 0)) : GoodH x := by
 have hb := zu2 h
 rcases zto h with ⟨hk, h⟩ | ⟨hk, h⟩
 ·refine ⟨.inl (hb.kind.trans hk), ?_⟩
  rcases zsI s with (h1 | h1) | ⟨h1, h2⟩
  ·rw [h1] at h; exact absurd (show (26 : Int) = 0 from congrArg Prod.snd h) (by decide)
  ·rw [h1] at h; exact absurd (show (20 : Int) = 0 from congrArg Prod.snd h) (by decide)
  ·obtain ⟨v, _, _, _, _, _, k1, k2, k3, _⟩ := zpd h1;rw [h2] at h;have hx := congrArg Prod.fst h;dsimp only at hx;rw [← hx];dsimp only;rw [k3]
   rcases zkk k1 k2 with ⟨_, e⟩ | ⟨_, e⟩
   ·exact .inl e
   ·exact .inr e
 ·refine ⟨.inr (hb.kind.trans hk), ?_⟩;unfold zt2 at h
  split at h
  ·exact absurd (show (26 : Int) = 0 from congrArg Prod.snd h) (by decide)
  ·split at h
   ·rename_i h1
    obtain ⟨b, w, r, e1, e2, _, _⟩ := zmD h1;have hx := congrArg Prod.fst h;dsimp only at hx;rw [← hx];dsimp only;rw [e2, zxh b _ e1]
    rcases e1 with e | e <;> subst e
    ·exact .inl rfl
    ·exact .inr rfl
   ·exact absurd (show (20 : Int) = 0 from congrArg Prod.snd h) (by decide)
def zuO (h : api_Head) (f : api_Field) : api_Head := ⟨h.Kind, h.Method, h.Target, h.Code, h.Reason, h.Minor, h.Fields ++ [f]⟩
def zmR : api_Head → List Str → api_Head × Int
 | h, [] => if zkn h == 0 then (h, 0) else (zaE, zkn h)
 | h, l :: ls => if (zec l).2 == 0 then zmR (zuO h (zec l).1) ls else (zaE, (zec l).2)
def zBi (k : Int) : List Str → api_Head × Int
 | [] => (zaE, 6)
 | l :: ls => if (zch k l).2 == 0 then zmR (zch k l).1 ls else (zaE, (zch k l).2)
def zjY (k : Int) (s : Str) (lim : Int) : api_Head × Int :=
 if !(k == 1) && !(k == 2) then (zaE, 1) else if decide (lim < (s.length : Int)) then (zaE, 3) else match zao [13, 10, 13, 10] s with
 | none => (zaE, 6)
 | some p => if p.2 == [] then zBi k (lines p.1) else (zaE, 6)
theorem zxR (l : Str) : (zec l).1.Name.length ≤ l.length ∧ (zec l).1.Value.length ≤ l.length := by
 unfold zec;have h1 := zvK (upto [58] l);have h2 := zot [58] l;have h3 := zvK ((zbv [58] l).drop 1);have h4 := congrArg List.length (zdl [58] l);simp only [yla] at h4;simp only [yld] at h3
 split
 ·simp [zky]
 ·split
  ·simp [zky]
  ·split
   ·simp [zky]
   ·split
    ·simp [zky]
    ·split
     ·simp [zky]
     ·dsimp only; omega
theorem zxS {h : api_Head} {l : Str} (hs : zaT 400000000 h.Fields) (hl : l.length < 400000000) : zaT 400000000 (zuO h (zec l).1).Fields := by
 intro f hf
 rcases List.mem_append.1 hf with h1 | h1
 ·exact hs f h1
 ·have := zxR l
  have e : f = (zec l).1 := by simpa using h1
  rw [e]; omega
theorem zxT (h : api_Head) (hl : h.Fields.length < 1000000000) (hs : zaT 400000000 h.Fields) : zhi h.Kind h.Method h.Target h.Code h.Reason h.Minor h.Fields = some (zmR h []) := by
 unfold zhi;rw [zoP _ hl hs, yob, zmR];cases zkn h == 0 <;> rfl
theorem zsC (ls : List Str) (hln : ls.length < 100000000) (hls : ∀ l ∈ ls, l.length < 400000000) : ∀ (n i : Nat) (h : api_Head), i ≤ ls.length → ls.length - i < n → zaT 400000000 h.Fields → h.Fields.length ≤ i →
  zfz ls n h.Kind h.Method h.Target h.Code h.Reason h.Minor h.Fields (i : Int) = some (zmR h (ls.drop i))
 | 0, _, _, _, h, _, _ => by omega
 | n + 1, i, h, hi, hn, hs, hfl => by
  rw [zfz]
  by_cases hlt : i < ls.length
  ·have g : ls[i]? = some ls[i] := ygg hlt;have hsm := hls ls[i] (ygm _);have ih := zsC ls hln hls n (i + 1) (zuO h (zec ls[i]).1) (by omega) (by omega) (zxS hs hsm) (by unfold zuO; simp; omega);rw [ydt (show (i : Int) < (ls.length : Int) by omega), if_pos rfl, zY, g, yob, zhG _ (by omega), yob, if_pos (zaX (by omega) (by omega)), zi (by omega), yob, ydg hlt, zmR]
   cases (zec ls[i]).2 == 0 with
   | false => rfl
   | true => exact ih
  ·have : i = ls.length := by omega
   subst this;rw [ydf (by omega), if_neg yfn, ydl];exact zxT h (by omega) hs
theorem zuP (k : Int) : ((zch k []).2 == 1) = (!(k == 1) && !(k == 2)) := by
 unfold zch
 cases h1 : k == 1 with
 | true => rfl
 | false =>
  cases h2 : k == 2 with
  | true => rfl
  | false => rfl
theorem zxU (k : Int) (h : (!(k == 1) && !(k == 2)) = true) : (zch k []).2 = 1 := by
 have := zuP k;rw [h] at this;simpa using this
theorem zt5 (k : Int) (s : Str) (lim : Int) (hs : s.length < 90000000) : zkC k s lim = some (zjY k s lim) := by
 unfold zkC zjY;rw [ze0 k [] (by decide), yob, zuP]
 cases hk : (!(k == 1) && !(k == 2)) with
 | true => rw [if_pos rfl, if_pos rfl, zxU k hk]; rfl
 | false =>
  rw [if_neg yfn, if_neg yfn, zpJ s _ (by omega) (by decide), yob]
  cases decide (lim < (s.length : Int)) with
  | true => rfl
  | false =>
   rw [if_neg yfn, if_neg yfn];have j1t : ∀ r, zfA k s r true = some (zaE, 6) := fun r => rfl
   cases hc : zao [13, 10, 13, 10] s with
   | none => exact j1t (-1)
   | some p =>
    have e := zdC (a := p.1) (b := p.2) hc;have el := congrArg List.length e;simp only [yla, ylc, yln] at el
    have a4 : zr (p.1.length : Int) 4 = some ((p.1.length + 4 : Nat) : Int) := by rw [zb1 (by omega) (by omega)]; exact congrArg some (by omega)
    dsimp only;rw [ydf (show ¬ (p.1.length : Int) < 0 by omega), if_neg yfn, a4, yob]
    cases hp : p.2 == [] with
    | false =>
     have hne : p.2 ≠ [] := by simpa using hp
     have hpl : 0 < p.2.length := List.length_pos_iff.2 hne;have : (((p.1.length + 4 : Nat) : Int) == (s.length : Int)) = false := beq_eq_false_iff_ne.2 (by omega);rw [this];exact j1t _
    | true =>
     have hp0 : p.2 = [] := by simpa using hp
     rw [hp0] at el;simp only [yln] at el
     have : (((p.1.length + 4 : Nat) : Int) == (s.length : Int)) = true := by rw [beq_iff_eq]; omega
     rw [this, ynt, if_pos rfl];unfold zfA
     have st : s.take p.1.length = p.1 := by rw [e, yaa, List.take_left']; rfl
     rw [if_neg yfn, zc9 (by omega), yob, st, zpe _ (by omega), yob];obtain ⟨m1, m2⟩ := zuN _ p.1 (Nat.lt_succ_self _)
     cases hl : lines p.1 with
     | nil => exact absurd hl (zBg _)
     | cons l ls =>
      rw [hl] at m1 m2;have hll := m2 l (List.mem_cons_self ..);rw [zn4, List.getElem?_cons_zero, yob, ze0 k l (by omega), yob, zBi]
      cases h0 : (zch k l).2 == 0 with
      | false => rfl
      | true =>
       have hf : zwM (l :: ls) 1 = some ls := by
        unfold zwM;rw [if_pos ⟨by decide, by simp only [ylc]; omega⟩];rfl
       rw [ynt, if_neg yfn, hf, yob, if_pos rfl];have hfs := zp9 k l;have := zsC ls (by simp only [ylc] at m1; omega) (fun x hx => by have := m2 x (List.mem_cons_of_mem _ hx); omega) fuel 0 (zch k l).1 (yz _) (by simp only [ylc] at m1; unfold fuel; omega) (by rw [hfs]; intro f hf; cases hf) (by rw [hfs]; simp);rw [List.drop_zero] at this;exact this
end Go.Dm
end
section
namespace Go.Dm
def zbi (f : api_Field) : Int := if zem f.Name then (if f.Value.all zek && zdF f.Value == f.Value then 0 else 25) else 21
theorem zhB (f : api_Field) (h1 : f.Name.length < 1000000000) (h2 : f.Value.length < 1000000000) : zdK f = some (zbi f) := by
 unfold zdK zbi;rw [zn6 _ h1, yob, zdg zg5 _ h2, yob, zjS _ h2, yob];cases zem f.Name <;> cases f.Value.all zek <;> cases zdF f.Value == f.Value <;> rfl
theorem zne (f : api_Field) (h1 : f.Name.length < 1000000000) (h2 : f.Value.length < 1000000000) : zhZ f = some (zbi f) := by
 unfold zhZ zbi;rw [zkV _ h1, yob, zr2 _ h2, yob, zls _ h2, yob];cases zem f.Name <;> cases f.Value.all zek <;> cases zdF f.Value == f.Value <;> rfl
def znf (w : Int) : List api_Field → Int
 | [] => w
 | f :: fs => if zbi f == 0 then znf w fs else zbi f
def zct (h : api_Head) : Int := if (ziv h).2 == 0 then znf (zkn h) h.Fields else (ziv h).2
theorem zsk {h : api_Head} (ht : ((ziv h).2 == 0) = true) : ziv h = (zgG h, 0) ∧ ∃ x, zch h.Kind (zgG h) = (x, 0) ∧ x.Kind = h.Kind ∧ x.Method = h.Method ∧ x.Target = h.Target ∧ x.Minor = h.Minor ∧ x.Code = h.Code ∧ x.Reason = h.Reason := by
 unfold ziv at ht ⊢
 split
 ·rename_i h1; rw [if_pos h1] at ht; cases ht
 ·rename_i h1
  rw [if_neg h1] at ht
  split
  ·rename_i h2
   refine ⟨rfl, (zch h.Kind (zgG h)).1, ?_, ?_⟩
   ·rw [Bool.and_eq_true] at h2
    have : (zch h.Kind (zgG h)).2 = 0 := by simpa using h2.1
    rw [← this]
   ·rw [Bool.and_eq_true] at h2
    have h0 : (zch h.Kind (zgG h)).2 = 0 := by simpa using h2.1
    have hb := zu2 (k := h.Kind) (s := zgG h) (x := (zch h.Kind (zgG h)).1) (by rw [← h0]);have hs := h2.2;unfold zyY at hs;simp only [Bool.and_eq_true, beq_iff_eq] at hs;exact ⟨hb.kind, hs.1.1.1.1, hs.1.1.1.2, hs.1.1.2, hs.1.2, hs.2⟩
  ·rename_i h2; rw [if_neg h2] at ht; cases ht
theorem zo7 {h : api_Head} (ht : ((ziv h).2 == 0) = true) : GoodH h := by
 obtain ⟨_, x, e, k1, _, _, k4, _, _⟩ := zsk ht;have := zxQ e;exact ⟨k1 ▸ this.kind, k4 ▸ this.minor⟩
theorem zoF (h : api_Head) (hs : smallH h) (hl : h.Fields.length < 1000000000) (hf : zaT 400000000 h.Fields) : zi2 h = some (zct h) := by
 unfold zi2 zct;rw [zlf h hs, yob]
 cases ht : (ziv h).2 == 0 with
 | false => rfl
 | true =>
  rw [ynt, if_neg yfn, if_pos rfl]
  have key : ∀ (n i : Nat), i ≤ h.Fields.length → h.Fields.length - i < n → zfB h n (i : Int) = some (znf (zkn h) (h.Fields.drop i)) := by
   intro n
   induction n with
   | zero => intro i _ h; omega
   | succ n ih =>
    intro i hi hn;rw [zfB]
    by_cases hlt : i < h.Fields.length
    ·have g : h.Fields[i]? = some h.Fields[i] := ygg hlt;have hsm := hf h.Fields[i] (ygm _);rw [ydt (show (i : Int) < (h.Fields.length : Int) by omega), if_pos rfl, zY, g, yob, zhB _ (by omega) (by omega), yob, zi (by omega), yob, ih (i + 1) (by omega) (by omega), ydg hlt, znf];cases zbi h.Fields[i] == 0 <;> rfl
    ·have : i = h.Fields.length := by omega
     subst this;rw [ydf (by omega), if_neg yfn, ydl, zoP h hl hf, yob];rfl
  have := key fuel 0 (yz _) (by unfold fuel; omega);rw [List.drop_zero] at this;exact this
theorem zsl (h : api_Head) (hs : smallH h) (hl : h.Fields.length < 1000000000) (hf : zaT 400000000 h.Fields) : zjB h = some (zct h) := by
 unfold zjB zct;rw [zuk h hs, yob]
 cases ht : (ziv h).2 == 0 with
 | false => rfl
 | true =>
  have hg := zo7 ht;rw [ynt, if_neg yfn, if_pos rfl]
  have key : ∀ (n i : Nat), i ≤ h.Fields.length → h.Fields.length - i < n → zeP h n (i : Int) = some (znf (zkn h) (h.Fields.drop i)) := by
   intro n
   induction n with
   | zero => intro i _ h; omega
   | succ n ih =>
    intro i hi hn;rw [zeP]
    by_cases hlt : i < h.Fields.length
    ·have g : h.Fields[i]? = some h.Fields[i] := ygg hlt;have hsm := hf h.Fields[i] (ygm _);rw [ydt (show (i : Int) < (h.Fields.length : Int) by omega), if_pos rfl, zY, g, yob, zne _ (by omega) (by omega), yob, zi (by omega), yob, ih (i + 1) (by omega) (by omega), ydg hlt, znf];cases zbi h.Fields[i] == 0 <;> rfl
    ·have : i = h.Fields.length := by omega
     subst this;rw [ydf (by omega), if_neg yfn, ydl, zsB h hg hl hf, yob];rfl
  have := key fuel 0 (yz _) (by unfold fuel; omega);rw [List.drop_zero] at this;exact this
theorem zng {w : Int} : ∀ {fs : List api_Field}, znf w fs = 0 → w = 0 ∧ ∀ f ∈ fs, zbi f = 0
 | [], h => ⟨h, fun f hf => by cases hf⟩
 | f :: fs, h => by
  rw [znf] at h
  split at h
  ·rename_i h0
   obtain ⟨a, b⟩ := zng h;refine ⟨a, fun g hg => ?_⟩
   rcases List.mem_cons.1 hg with e | e
   ·rw [e]; simpa using h0
   ·exact b g e
  ·rename_i h0; rw [h] at h0; exact absurd rfl h0
def zO (f : api_Field) : Str := if f.Value == [] then f.Name ++ [58] else f.Name ++ [58, 32] ++ f.Value
def zag : List api_Field → Str
 | [] => [13, 10]
 | f :: fs => zO f ++ 13 :: 10 :: zag fs
def zah (h : api_Head) : Str := (ziv h).1 ++ 13 :: 10 :: zag h.Fields
theorem zod (f : api_Field) : (zO f).length ≤ f.Name.length + f.Value.length + 2 := by
 unfold zO
 split <;> simp <;> omega
theorem zj8 {m : Nat} : ∀ {fs : List api_Field}, zaT m fs → (zag fs).length ≤ fs.length * (2 * m + 4) + 2
 | [], _ => by simp [zag]
 | f :: fs, h => by
  have h1 := h f (List.mem_cons_self ..);have ih := zj8 (m := m) (fs := fs) (fun g hg => h g (List.mem_cons_of_mem _ hg));have := zod f;simp only [zag, yla, ylc, Nat.add_mul];omega
theorem zuC {h : api_Head} (hs : smallH h) : (ziv h).1.length < 100000000 := by
 have := ztn hs;unfold ziv
 split
 ·simp
 ·split
  ·exact this
  ·simp
theorem ztY (f : api_Field) (h1 : f.Name.length < 100000000) (h2 : f.Value.length < 100000000) : zkK f = some (zO f) := by
 unfold zkK zO;rw [zZ (by simp; omega), yob, zZ (by simp; omega), yob, zZ (by simp; omega), yob];cases f.Value == [] <;> rfl
theorem zk3 (f : api_Field) (h1 : f.Name.length < 100000000) (h2 : f.Value.length < 100000000) (hc : zbi f = 0) : zcB f = some (zO f, 0) := by
 unfold zcB zO;rw [zhB f (by omega) (by omega), yob, hc, zZ (by simp; omega), yob, zZ (by simp; omega), yob, zZ (by simp; omega), yob];cases f.Value == [] <;> rfl
theorem zjO (b s : Str) (most : Int) (full : Bool) (hb : (b.length : Int) ≤ most) (hm : most ≤ 9223372036854775807) (hs : s.length < 1000000000) (hbl : b.length < 1000000000) :
  zbG ⟨⟨b, most⟩, full⟩ s = some (if ((b.length + s.length + 2 : Nat) : Int) ≤ most then ⟨⟨b ++ s ++ [13, 10], most⟩, full⟩ else ⟨⟨b, most⟩, true⟩) := by
 unfold zbG zgY zhy zgX;dsimp only;have hsub : zcu most (b.length : Int) = some (most - (b.length : Int)) := zaJ (by omega) (by omega);rw [if_pos (show zC 0 ([s] : List Str).length 16 = true from rfl), if_pos (show zC ([s] : List Str).length 1 16 = true from rfl), hsub, yob, yob];rw [show fuel = 999999999999999997 + 1 + 1 + 1 from rfl];show ((zaM ⟨b, most⟩ [s, [13, 10]] (999999999999999997 + 1 + 1 + 1) (most - (b.length : Int)) ((0 : Nat) : Int)).bind _).bind _ = _
 have L2 : zav [s, [13, 10]] fuel b most 0 = some (0, ⟨b ++ s ++ [13, 10], most⟩) := by
  rw [show fuel = 999999999999999997 + 1 + 1 + 1 from rfl, show (0 : Int) = ((0 : Nat) : Int) from rfl];rw [zav, ydt (by simp), if_pos rfl, zY, show ([s, [13, 10]] : List Str)[0]? = some s from rfl, yob, if_pos (zaX (by omega) (by omega)), zi (by decide), yob];rw [zav, ydt (by simp), if_pos rfl, zY, show ([s, [13, 10]] : List Str)[0 + 1]? = some [13, 10] from rfl, yob, if_pos (zaX (by simp; omega) (by simp; omega)), zi (by decide), yob];rw [zav, ydf (by simp), if_neg yfn];rfl
 rw [zaM, ydt (by simp), if_pos rfl, zY, show ([s, [13, 10]] : List Str)[0]? = some s from rfl, yob]
 by_cases h1 : most - (b.length : Int) < (s.length : Int)
 ·rw [ydt h1, if_pos rfl, yob, yob, if_neg (show ¬ ((b.length + s.length + 2 : Nat) : Int) ≤ most by omega)];rfl
 ·rw [ydf h1, if_neg yfn, zaJ (by omega) (by omega), yob, zi (by decide), yob];rw [zaM, ydt (by simp), if_pos rfl, zY, show ([s, [13, 10]] : List Str)[0 + 1]? = some [13, 10] from rfl, yob]
  by_cases h2 : most - (b.length : Int) - (s.length : Int) < 2
  ·rw [ydt (show most - (b.length : Int) - (s.length : Int) < (([13, 10] : Str).length : Int) from h2), if_pos rfl, yob, yob, if_neg (show ¬ ((b.length + s.length + 2 : Nat) : Int) ≤ most by omega)];rfl
  ·rw [ydf (show ¬ most - (b.length : Int) - (s.length : Int) < (([13, 10] : Str).length : Int) from h2), if_neg yfn, show (([13, 10] : Str).length : Int) = 2 from rfl, zaJ (by omega) (by omega), yob, zi (by decide), yob];rw [zaM, ydf (by simp), if_neg yfn];show ((zav [s, [13, 10]] fuel b most 0).bind _).bind _ = _;rw [L2, yob, yob, if_pos (show ((b.length + s.length + 2 : Nat) : Int) ≤ most by omega)];rfl
def zxK (h : api_Head) (most : Int) : Str × Int := if ((zah h).length : Int) ≤ most then (zah h, 0) else ([], 3)
theorem ztZ (h : api_Head) (lim : Int) (hli : inI lim = true) (hs : smallH h) (hl : h.Fields.length ≤ 200) (hf : zaT 4000 h.Fields) :
  zkD h lim = some (if zct h == 0 then zxK h lim else ([], zct h)) := by
 have htl := zuC hs;have hrl := zj8 hf;rw [zjb] at hli;unfold zkD;rw [zoF h hs (by omega) (zM (by decide) hf), yob]
 cases hck : zct h == 0 with
 | false => rfl
 | true =>
  have hc0 : zct h = 0 := by simpa using hck
  unfold zoo;rw [ynt, if_neg yfn, if_pos rfl, yob, zlf h hs, yob]
  have hfc : ∀ f ∈ h.Fields, zbi f = 0 := by
   unfold zct at hc0
   split at hc0
   ·exact (zng hc0).2
   ·rename_i hh; rw [hc0] at hh; exact absurd rfl hh
  obtain ⟨most, hmost⟩ : ∃ m, m = max lim 0 := ⟨_, rfl⟩
  have hm0 : 0 ≤ most := by omega
  have hm1 : most ≤ 9223372036854775807 := by omega
  rw [← hmost]
  -- the loop
  have fin : ∀ (t : Bool) (b : Str), (b.length : Int) ≤ most → b.length < 900000000 → zhm t b most = some (if t then ([], 3) else if ((b.length + 2 : Nat) : Int) ≤ most then (b ++ [13, 10], 0) else ([], 3)) := by
   intro t b hb hbl;unfold zhm;rw [zjO b [] most t hb hm1 (by decide) (by omega), yob];simp only [yln, Nat.add_zero, yan]
   split
   ·cases t <;> rfl
   ·cases t <;> rfl
  have key : ∀ (n i : Nat) (t : Bool) (b : Str), i ≤ h.Fields.length → h.Fields.length - i < n → (b.length : Int) ≤ most → b.length ≤ 200000000 + i * 8004 →
    zfC h n t b most (i : Int) = some (if t then ([], 3) else if ((b.length + (zag (h.Fields.drop i)).length : Nat) : Int) ≤ most then (b ++ zag (h.Fields.drop i), 0) else ([], 3)) := by
   intro n
   induction n with
   | zero => intro i _ _ _ h; omega
   | succ n ih =>
    intro i t b hi hn hb hbl;rw [zfC]
    by_cases hlt : i < h.Fields.length
    ·have g : h.Fields[i]? = some h.Fields[i] := ygg hlt;have hsm := hf h.Fields[i] (ygm _);have htf := zod h.Fields[i];rw [ydt (show (i : Int) < (h.Fields.length : Int) by omega), if_pos rfl, zY, g, yob, zk3 _ (by omega) (by omega) (hfc _ (ygm _)), yob, zjO b _ most t hb hm1 (by dsimp only; omega) (by omega), yob, zi (by omega), yob, ydg hlt, zag];dsimp only;generalize zO h.Fields[i] = x at htf
     by_cases hfit : ((b.length + x.length + 2 : Nat) : Int) ≤ most
     ·rw [if_pos hfit];have := ih (i + 1) t (b ++ x ++ [13, 10]) (by omega) (by omega) (by simp only [yla, ylc, yln]; omega) (by simp only [yla, ylc, yln]; omega);refine this.trans ?_
      have e1 : (b ++ x ++ [13, 10]).length + (zag (h.Fields.drop (i + 1))).length = b.length + (x ++ 13 :: 10 :: zag (h.Fields.drop (i + 1))).length := by simp only [yla, ylc, yln]; omega
      have e2 : b ++ x ++ [13, 10] ++ zag (h.Fields.drop (i + 1)) = b ++ (x ++ 13 :: 10 :: zag (h.Fields.drop (i + 1))) := by simp
      rw [e1, e2]
     ·rw [if_neg hfit];have := ih (i + 1) true b (by omega) (by omega) hb (Nat.le_trans hbl (Nat.add_le_add_left (Nat.mul_le_mul_right _ (Nat.le_succ i)) _));refine this.trans ?_;rw [if_pos rfl]
      have hno : ¬ ((b.length + (x ++ 13 :: 10 :: zag (h.Fields.drop (i + 1))).length : Nat) : Int) ≤ most := by simp only [yla, ylc]; omega
      rw [if_neg hno];cases t <;> rfl
    ·have : i = h.Fields.length := by omega
     subst this;rw [ydf (by omega), if_neg yfn, ydl];exact fin t b hb (by omega)
  rw [zjO [] _ most false (by simpa using hm0) hm1 (by omega) (by decide), yob];unfold zxK zah;generalize (ziv h).1 = l at htl;simp only [yln, Nat.zero_add, yna]
  have hpos : (((l ++ 13 :: 10 :: zag h.Fields).length : Int) ≤ lim) ↔ (((l ++ 13 :: 10 :: zag h.Fields).length : Int) ≤ most) := by
   simp only [yla, ylc];omega
  by_cases hfit : ((l.length + 2 : Nat) : Int) ≤ most
  ·rw [if_pos hfit];have := key fuel 0 false (l ++ [13, 10]) (yz _) (by unfold fuel; omega) (by simp only [yla, ylc, yln]; omega) (by simp only [yla, ylc, yln]; omega);refine this.trans ?_;rw [if_neg yfn, List.drop_zero]
   have e1 : (l ++ [13, 10]).length + (zag h.Fields).length = (l ++ 13 :: 10 :: zag h.Fields).length := by simp only [yla, ylc, yln]; omega
   have e2 : l ++ [13, 10] ++ zag h.Fields = l ++ 13 :: 10 :: zag h.Fields := by simp
   rw [e1, e2]
   by_cases hq : ((l ++ 13 :: 10 :: zag h.Fields).length : Int) ≤ most
   ·rw [if_pos hq, if_pos (hpos.2 hq)]
   ·rw [if_neg hq, if_neg (fun h => hq (hpos.1 h))]
  ·rw [if_neg hfit];have := key fuel 0 true [] (yz _) (by unfold fuel; omega) (by simpa using hm0) (by simp);refine this.trans ?_;rw [if_pos rfl, if_neg];intro hh;have := hpos.1 hh;simp only [yla, ylc] at this;omega
def zov : Str → List Str → Str
 | l, [] => l
 | l, m :: ms => l ++ 13 :: 10 :: zov m ms
theorem zki {t : Str} {c : UInt8} (ht : t.head? = some c) : ∀ {l : Str} (r : Str), c ∉ l → zao t (l ++ r) = (zao t r).map fun p => (l ++ p.1, p.2)
 | [], r, _ => by
  cases h : zao t r with
  | none => rw [yna, h]; rfl
  | some p => rw [yna, h]; rfl
 | x :: l, r, h => by
  have hx : c ≠ x := fun e => h (by rw [e]; exact List.mem_cons_self ..)
  have hp : t.isPrefixOf (x :: (l ++ r)) = false := by
   cases t with
   | nil => cases ht
   | cons a t =>
    have : a = c := by simpa using ht
    subst this;show ((a == x) && _) = false;rw [beq_eq_false_iff_ne.2 hx, Bool.false_and]
  rw [List.cons_append, zao, hp, if_neg yfn, zki ht r (fun hm => h (List.mem_cons_of_mem _ hm)), Option.map_map];rfl
theorem zsm : ∀ (ms : List Str) (l : Str), (13 : UInt8) ∉ l → (∀ m ∈ ms, (13 : UInt8) ∉ m) → lines (zov l ms) = l :: ms
 | [], l, hl, _ => by
  have h := zki (t := [13, 10]) (c := 13) rfl [] hl;rw [yan] at h;rw [zov, zpI, h]; rfl
 | m :: ms, l, hl, hm => by
  have h := zki (t := [13, 10]) (c := 13) rfl (13 :: 10 :: zov m ms) hl
  have hp : zao [13, 10] (13 :: 10 :: zov m ms) = some ([], zov m ms) := by
   rw [zao, if_pos (by rw [zwv]; rfl)]; rfl
  rw [hp] at h;rw [zov, zpI, h];dsimp only [Option.map_some];rw [yan, zsm ms m (hm m (List.mem_cons_self ..)) (fun x hx => hm x (List.mem_cons_of_mem _ hx))]
theorem zwg : ∀ (ms : List Str) (l : Str), (13 : UInt8) ∉ l → (∀ m ∈ ms, (13 : UInt8) ∉ m ∧ m ≠ []) → zao [13, 10, 13, 10] (zov l ms ++ [13, 10, 13, 10]) = some (zov l ms, [])
 | [], l, hl, _ => by
  rw [zov, zki (c := 13) rfl _ hl]
  have : zao [13, 10, 13, 10] [13, 10, 13, 10] = some ([], []) := by decide
  rw [this];dsimp only [Option.map_some];rw [yan]
 | m :: ms, l, hl, hm => by
  obtain ⟨h1, h2⟩ := hm m (List.mem_cons_self ..);have ih := zwg ms m h1 (fun x hx => hm x (List.mem_cons_of_mem _ hx))
  obtain ⟨y, m', rfl⟩ : ∃ y m', m = y :: m' := by
   cases m with
   | nil => exact absurd rfl h2
   | cons y m' => exact ⟨y, m', rfl⟩
  have hy : (13 == y) = false := beq_eq_false_iff_ne.2 (fun e => h1 (by rw [e]; exact List.mem_cons_self ..))
  obtain ⟨g, hg⟩ : ∃ g, zov (y :: m') ms ++ [13, 10, 13, 10] = y :: g := by
   cases ms with
   | nil => exact ⟨_, rfl⟩
   | cons z zs => exact ⟨_, rfl⟩
  rw [zov, yaa, zki (c := 13) rfl _ hl, List.cons_append, List.cons_append, hg]
  have e1 : ([13, 10, 13, 10] : Str).isPrefixOf (13 :: 10 :: y :: g) = false := by
   show ((13 : UInt8) == 13 && ((10 : UInt8) == 10 && ((13 : UInt8) == y && _))) = false;rw [hy]; rfl
  have e2 : ([13, 10, 13, 10] : Str).isPrefixOf (10 :: y :: g) = false := rfl;rw [zao, e1, if_neg yfn, zao, e2, if_neg yfn, ← hg, ih];rfl
theorem zsn (l : Str) : ∀ fs : List api_Field, l ++ 13 :: 10 :: zag fs = zov l (fs.map zO) ++ [13, 10, 13, 10]
 | [] => by simp [zag, zov]
 | f :: fs => by
  have ih := zsn (zO f) fs;rw [zag, List.map_cons, zov, ih]; simp
theorem zso {v : Str} (h : v.all zek = true) : (13 : UInt8) ∉ v ∧ (10 : UInt8) ∉ v := by
 constructor <;> intro hm <;> have := List.all_eq_true.1 h _ hm <;> cases this
theorem zCn (c : UInt8) : (!zbx c || zek c) = true := zD (fun c => !zbx c || zek c) (by decide +kernel) c
theorem zCo {p q : UInt8 → Bool} (h : ∀ c, (!p c || q c) = true) {s : Str} (hs : s.all p = true) : s.all q = true := by
 refine List.all_eq_true.2 fun x hx => ?_;have h1 := List.all_eq_true.1 hs x hx;have h2 := h x;rw [h1] at h2;exact h2
theorem zuD {f : api_Field} (h : zbi f = 0) : zem f.Name = true ∧ f.Value.all zek = true ∧ zdF f.Value = f.Value := by
 unfold zbi at h
 split at h
 ·rename_i h1
  split at h
  ·rename_i h2
   rw [Bool.and_eq_true, beq_iff_eq] at h2;exact ⟨h1, h2.1, h2.2⟩
  ·exact absurd h (by decide)
 ·exact absurd h (by decide)
theorem zoe {f : api_Field} (h : zbi f = 0) : (zO f).all zek = true ∧ zO f ≠ [] := by
 obtain ⟨h1, h2, _⟩ := zuD h;unfold zem at h1;rw [Bool.and_eq_true] at h1;have hn := zCo zCn h1.1;unfold zO
 split
 ·exact ⟨by rw [List.all_append, hn]; decide, by simp⟩
 ·exact ⟨by rw [List.all_append, List.all_append, hn, h2]; decide, by simp⟩
theorem zAa {s : Str} (h : s.all zek = true) : s.any ([13, 10] : Str).contains = false := by
 refine List.any_eq_false.2 fun x hx => ?_;have := List.all_eq_true.1 h x hx;intro hc
 have hc' : x = 13 ∨ x = 10 := by simpa using hc
 rcases hc' with e | e <;> subst e <;> cases this
theorem znh {f : api_Field} (h : zbi f = 0) : zec (zO f) = (f, 0) := by
 obtain ⟨h1, h2, h3⟩ := zuD h;have hv := (zoe h).1;have ht := h1;unfold zem at h1;rw [Bool.and_eq_true] at h1;obtain ⟨n1, n2⟩ := zqT h1.1
 obtain ⟨v, hu, hva, hvt⟩ : ∃ v, zO f = f.Name ++ 58 :: v ∧ v.all zek = true ∧ zdF v = f.Value := by
  unfold zO
  cases hx : f.Value == [] with
  | true =>
   have : f.Value = [] := by simpa using hx
   exact ⟨[], by rw [if_pos rfl], rfl, by rw [this]; rfl⟩
  | false =>
   refine ⟨32 :: f.Value, by rw [if_neg yfn]; simp, by rw [List.all_cons, h2]; decide, ?_⟩;rw [zC7 (by decide), h3]
 obtain ⟨u1, u2⟩ := zyU f.Name v n2;have hne : f.Name ≠ [] := ((zra _).1 ht).1
 have hhb : zqS (zO f) = false := by
  rw [hu]
  cases hn : f.Name with
  | nil => exact absurd hn hne
  | cons c n => rw [hn] at n1; exact n1 c (List.mem_cons_self ..)
 unfold zec;rw [zAa hv, if_neg yfn, hhb, if_neg yfn, hu, u1, u2, zwZ n1, ht];show (if false = true then _ else if decide (f.Name.length < f.Name.length) = true then _ else if (!v.all zek) = true then _ else _) = _;rw [if_neg yfn, ydf (Nat.lt_irrefl _), if_neg yfn, hva, ynt, if_neg yfn];show ((⟨f.Name, zdF v⟩, 0) : api_Field × Int) = _;rw [hvt]
theorem zrp : ∀ (fs : List api_Field) (h : api_Head), (∀ f ∈ fs, zbi f = 0) → zmR h (fs.map zO) = zmR ⟨h.Kind, h.Method, h.Target, h.Code, h.Reason, h.Minor, h.Fields ++ fs⟩ []
 | [], h, _ => by rw [List.map_nil, yan]
 | f :: fs, h, hc => by
  have e : zmR h (zO f :: fs.map zO) = if (zec (zO f)).2 == 0 then zmR (zuO h (zec (zO f)).1) (fs.map zO) else (zaE, (zec (zO f)).2) := rfl;rw [List.map_cons, e, znh (hc f (List.mem_cons_self ..)), ybs, if_pos rfl, zrp fs _ (fun g hg => hc g (List.mem_cons_of_mem _ hg))];unfold zuO;simp only [yaa, List.singleton_append]
theorem zl9 {h : api_Head} (hc : zct h = 0) : ((ziv h).2 == 0) = true ∧ zkn h = 0 ∧ ∀ f ∈ h.Fields, zbi f = 0 := by
 unfold zct at hc
 split at hc
 ·rename_i h1
  exact ⟨h1, zng hc⟩
 ·rename_i h1; rw [hc] at h1; exact absurd rfl h1
theorem zuE {k : Int} {s : Str} {x : api_Head} (h : zch k s = (x, 0)) : (13 : UInt8) ∉ s ∧ s ≠ [] := by
 constructor
 ·intro hm;have hany : s.any ([13, 10] : Str).contains = true := List.any_eq_true.2 ⟨13, hm, by decide⟩;unfold zch at h
  split at h
  ·exact absurd (show (1 : Int) = 0 from congrArg Prod.snd h) (by decide)
  ·exact absurd (show (24 : Int) = 0 from congrArg Prod.snd h) (by decide)
 ·rintro rfl;unfold zch at h
  split at h
  ·exact absurd (show (1 : Int) = 0 from congrArg Prod.snd h) (by decide)
  ·rw [show ([] : Str).any ([13, 10] : Str).contains = false from rfl, if_neg yfn] at h
   split at h
   ·exact absurd (show (20 : Int) = 0 from congrArg Prod.snd h) (by decide)
   ·exact absurd (show (20 : Int) = 0 from congrArg Prod.snd h) (by decide)
theorem zza {h : api_Head} (hc : zct h = 0) (lim : Int) (hl : ((zah h).length : Int) ≤ lim) : zjY h.Kind (zah h) lim = (h, 0) := by
 obtain ⟨h1, h2, h3⟩ := zl9 hc;have hg := zo7 h1;obtain ⟨e, x, k0, k1, k2, k3, k4, k5, k6⟩ := zsk h1;obtain ⟨l1, l2⟩ := zuE k0
 have hraw : zah h = zov (zgG h) (h.Fields.map zO) ++ [13, 10, 13, 10] := by
  unfold zah;rw [e, zsn]
 have hms : ∀ m ∈ h.Fields.map zO, (13 : UInt8) ∉ m ∧ m ≠ [] := fun m hm => by
  obtain ⟨f, hf, rfl⟩ := List.mem_map.1 hm;obtain ⟨a, b⟩ := zoe (h3 f hf);exact ⟨(zso a).1, b⟩
 have hk : (!(h.Kind == 1) && !(h.Kind == 2)) = false := by rcases hg.kind with hh | hh <;> rw [hh] <;> rfl
 have hfx := zp9 h.Kind (zgG h);rw [k0] at hfx;unfold zjY;rw [hk, if_neg yfn, ydf (by omega), if_neg yfn, hraw, zwg _ _ l1 hms];dsimp only;rw [show (([] : Str) == []) = true from rfl, if_pos rfl, zsm _ _ l1 (fun m hm => (hms m hm).1), zBi, k0, ybs, if_pos rfl, zrp _ _ h3];dsimp only at hfx
 have hx : (⟨x.Kind, x.Method, x.Target, x.Code, x.Reason, x.Minor, x.Fields ++ h.Fields⟩ : api_Head) = h := by
  rw [k1, k2, k3, k4, k5, k6, hfx, yna]
 show zmR (⟨x.Kind, x.Method, x.Target, x.Code, x.Reason, x.Minor, x.Fields ++ h.Fields⟩ : api_Head) [] = _;rw [hx, zmR, h2];rfl
def bare (s : Str) : Str := s.filter fun b => !zaS b
end Go.Dm
end
section
namespace Go.Dm
structure StepR where
 w : Bool
 e : Int
 v : Str
 f : Nat
 g : api_Head
def znV (u : Str) (frm : Nat) : Str := (u.take (u.length - 1)).drop frm
def zl0 (u : Str) : Bool := u[u.length - 1]? == some 13
def zdD (k L : Int) (u : Str) (frm : Nat) (g : api_Head) (c : UInt8) : StepR :=
 if decide (L ≤ (u.length : Int)) then ⟨false, 3, u, frm, g⟩
 else if !((c == 10) == zl0 u) then ⟨false, 24, u ++ [c], frm, g⟩
 else if !(c == 10) then ⟨false, 0, u ++ [c], frm, g⟩
 else if frm == 0 then ⟨false, (zch k (znV u frm)).2, u ++ [c], u.length + 1, g⟩
 else if !(znV u frm == []) then ⟨false, (zec (znV u frm)).2, u ++ [c], u.length + 1, g⟩
 else ⟨(zjY k (u ++ [c]) L).2 == 0, (zjY k (u ++ [c]) L).2, u ++ [c], frm, (zjY k (u ++ [c]) L).1⟩
def zxj (u : Str) (frm : Nat) : Prop := frm ≤ u.length ∧ (0 < u.length → frm = u.length → u[u.length - 1]? = some 10)
theorem zxk {u : Str} (h : zl0 u = true) : 0 < u.length ∧ u[u.length - 1]? = some 13 := by
 unfold zl0 at h
 have : u[u.length - 1]? = some 13 := by simpa using h
 refine ⟨?_, this⟩
 cases u with
 | nil => cases this
 | cons c u => simp
theorem inv_lt {u : Str} {frm : Nat} (hi : zxj u frm) (h : zl0 u = true) : frm ≤ u.length - 1 := by
 obtain ⟨h1, h2⟩ := zxk h
 by_cases he : frm = u.length
 ·have := hi.2 h1 he;rw [h2] at this; cases this
 ·have := hi.1; omega
theorem zDs (k L : Int) (u : Str) (c : UInt8) (f : Int) (t : Bool) (b : Int) (w : Bool) (g : api_Head) (hu : u.length < 80000000) : zet ⟨k, L, u ++ [c], f, t, b, w, g⟩ = some (!((c == 10) == zl0 u)) := by
 have hl : ((u ++ [c]).length : Int) = (u.length : Int) + 1 := by simp
 have j1 : ∀ q, zbN ⟨k, L, u ++ [c], f, t, b, w, g⟩ q = some (!((c == 10) == q)) := by
  intro q;unfold zbN;dsimp only
  have e1 : zcu ((u ++ [c]).length : Int) 1 = some (u.length : Int) := by rw [hl, zaJ (by omega) (by omega)]; exact congrArg some (by omega)
  rw [e1, yob, zY, show (u ++ [c])[u.length]? = some c by simp, yob]
 unfold zet;dsimp only
 by_cases h : 0 < u.length
 ·have e2 : zcu ((u ++ [c]).length : Int) 2 = some ((u.length - 1 : Nat) : Int) := by rw [hl, zaJ (by omega) (by omega)]; exact congrArg some (by omega)
  have g2 : u[u.length - 1]? = some (u[u.length - 1]'(by omega)) := ygg (by omega)
  have g1 : (u ++ [c])[u.length - 1]? = some (u[u.length - 1]'(by omega)) := by rw [List.getElem?_append_left (by omega), g2]
  rw [ydt (show 1 < ((u ++ [c]).length : Int) by omega), if_pos rfl, e2, yob, zY, g1, yob, j1];unfold zl0;rw [g2, zs5]
 ·have hu0 : u = [] := List.length_eq_zero_iff.1 (by omega);subst hu0;rw [ydf (by simp), if_neg yfn, j1];rfl
theorem zDt (k L : Int) (v : Str) (f : Nat) (t : Bool) (b : Int) (w : Bool) (g : api_Head) (s : Str) (hv : v.length < 80000000) (hs : s.length < 80000000) :
  zey ⟨k, L, v, (f : Int), t, b, w, g⟩ s = some (if f == 0 then (false, (zch k s).2, ⟨k, L, v, (v.length : Int), t, b, w, g⟩) else if !(s == []) then (false, (zec s).2, ⟨k, L, v, (v.length : Int), t, b, w, g⟩) else ((zjY k v L).2 == 0, (zjY k v L).2, (⟨k, L, v, (f : Int), t, b, w, (zjY k v L).1⟩ : accum_Accum))) := by
 unfold zey zc2;dsimp only
 have hf : ((f : Int) == 0) = (f == 0) := by rw [Bool.eq_iff_iff]; simp
 rw [hf, ze0 k s (by omega), yob, zhG s (by omega), yob, zt5 k v L (by omega), yob];cases f == 0 <;> cases s == [] <;> rfl
theorem zDu (k L : Int) (u : Str) (f : Nat) (t : Bool) (b : Int) (w : Bool) (g : api_Head) (c : UInt8) (hu : u.length < 70000000) (hi : zxj u f) :
  zdh ⟨k, L, u, (f : Int), t, b, w, g⟩ c = some ((zdD k L u f g c).w, (zdD k L u f g c).e, ⟨k, L, (zdD k L u f g c).v, ((zdD k L u f g c).f : Int), t, b, w, (zdD k L u f g c).g⟩) := by
 unfold zdh zdD;dsimp only
 cases decide (L ≤ (u.length : Int)) with
 | true => rfl
 | false =>
  rw [if_neg yfn, if_neg yfn, if_pos (zaX (by omega) (by omega)), zDs k L u c _ _ _ _ _ (by omega), yob]
  cases hb : !((c == 10) == zl0 u) with
  | true => rfl
  | false =>
   rw [if_neg yfn, if_neg yfn]
   cases hc : c == 10 with
   | false => rfl
   | true =>
    rw [hc] at hb
    have h13 : zl0 u = true := by cases h : zl0 u with
     | true => rfl
     | false => rw [h] at hb; cases hb
    obtain ⟨hp, _⟩ := zxk h13;have hf := inv_lt hi h13
    have hl : ((u ++ [c]).length : Int) = (u.length : Int) + 1 := by simp
    have e2 : zcu ((u ++ [c]).length : Int) 2 = some ((u.length - 1 : Nat) : Int) := by rw [hl, zaJ (by omega) (by omega)]; exact congrArg some (by omega)
    have e3 : lSub (u ++ [c]) (f : Int) ((u.length - 1 : Nat) : Int) = some (znV u f) := by
     have := zeS (l := u ++ [c]) (i := f) (h := u.length - 1) hf (by simp; omega);have hta : (u ++ [c]).take (u.length - 1) = u.take (u.length - 1) := List.take_append_of_le_length (by omega);unfold zhF at this;unfold lSub znV;rw [← hta];exact this
    have hll : (znV u f).length ≤ u.length := by unfold znV; simp; omega
    rw [ynt, if_neg yfn, if_neg yfn, e2, yob, e3, yob, zDt k L _ f t b w g _ (by simp; omega) (by omega), yob]
    have hn : (u ++ [c]).length = u.length + 1 := by simp
    rw [hn];cases f == 0 <;> cases znV u f == [] <;> rfl
theorem zDv {k L : Int} {u : Str} {f : Nat} {g : api_Head} {c : UInt8} (hi : zxj u f) (hw : ((zdD k L u f g c).w || !((zdD k L u f g c).e == 0)) = false) :
  (zdD k L u f g c).v = u ++ [c] ∧ (zdD k L u f g c).g = g ∧ zxj (u ++ [c]) (zdD k L u f g c).f ∧ (u.length : Int) < L := by
 have key : ∀ f', f' ≤ u.length → zxj (u ++ [c]) f' := fun f' h => ⟨by simp; omega, fun _ h2 => by simp at h2; omega⟩;have key2 : c = 10 → zxj (u ++ [c]) (u.length + 1) := fun h => ⟨by simp, fun _ _ => by rw [h]; simp⟩;unfold zdD at hw ⊢
 cases hL : decide (L ≤ (u.length : Int)) with
 | true => rw [hL, if_pos rfl] at hw; cases hw
 | false =>
  have hL' : (u.length : Int) < L := by have := of_decide_eq_false hL; omega
  rw [hL, if_neg yfn] at hw;rw [if_neg yfn]
  cases hb : !((c == 10) == zl0 u) with
  | true => rw [hb, if_pos rfl] at hw; cases hw
  | false =>
   rw [hb, if_neg yfn] at hw;rw [if_neg yfn]
   cases hc : c == 10 with
   | false => exact ⟨rfl, rfl, key f hi.1, hL'⟩
   | true =>
    have hc' : c = 10 := by simpa using hc
    rw [hc, ynt, if_neg yfn] at hw;rw [ynt, if_neg yfn]
    cases h0 : f == 0 with
    | true => exact ⟨rfl, rfl, key2 hc', hL'⟩
    | false =>
     rw [h0, if_neg yfn] at hw;rw [if_neg yfn]
     cases hl : !(znV u f == []) with
     | true => exact ⟨rfl, rfl, key2 hc', hL'⟩
     | false =>
      rw [hl, if_neg yfn] at hw
      exfalso
      dsimp only at hw
      cases hh : (zjY k (u ++ [c]) L).2 == 0 with
      | true => rw [hh] at hw; cases hw
      | false => rw [hh] at hw; cases hw
def zqh (k L : Int) (g : api_Head) : Str → Str → Nat → Nat → Option (Nat × StepR) × Nat
 | [], _, f, _ => (none, f)
 | c :: r, u, f, i => if (zdD k L u f g c).w || !((zdD k L u f g c).e == 0) then (some (i + 1, zdD k L u f g c), f) else zqh k L g r (u ++ [c]) (zdD k L u f g c).f (i + 1)
def zrJ (k L : Int) (g : api_Head) (u : Str) (f : Nat) (t : Bool) (s : Str) : Int × Bool × Int × accum_Accum := match zqh k L g s u f 0 with
 | (some z, _) => ((z.1 : Int), z.2.w, z.2.e, ⟨k, L, [], (z.2.f : Int), true, z.2.e, z.2.w, z.2.g⟩)
 | (none, f') => ((s.length : Int), false, 0, ⟨k, L, u ++ s, (f' : Int), t || !(s == []), 0, false, g⟩)
theorem ztx (k L : Int) (g : api_Head) (s : Str) (hs : s.length < 30000000) : ∀ (r : Str) (n i : Nat) (u : Str) (f : Nat) (t : Bool), s.drop i = r → i ≤ s.length → r.length < n → u.length + r.length < 60000000 → zxj u f →
  zaj s n k L u (f : Int) t 0 false g.Kind g.Method g.Target g.Code g.Reason g.Minor g.Fields (i : Int) = some (match zqh k L g r u f i with
   | (some z, _) => ((z.1 : Int), z.2.w, z.2.e, ⟨k, L, [], (z.2.f : Int), true, z.2.e, z.2.w, z.2.g⟩)
   | (none, f') => ((s.length : Int), false, 0, ⟨k, L, u ++ r, (f' : Int), t || !(r == []), 0, false, g⟩))
 | [], n, i, u, f, t, hd, hi, hn, hu, hv => by
  obtain ⟨n, rfl⟩ : ∃ m, n = m + 1 := ⟨n - 1, by simp at hn; omega⟩
  have : i = s.length := by have := congrArg List.length hd; simp at this; omega
  subst this;rw [zaj, ydf (by omega), if_neg yfn];unfold zeo zqh;dsimp only;rw [yan, show (([] : Str) == []) = true from rfl, ynt, Bool.or_false]
 | c :: r, n, i, u, f, t, hd, hi, hn, hu, hv => by
  simp only [ylc] at hn hu;obtain ⟨n, rfl⟩ : ∃ m, n = m + 1 := ⟨n - 1, by omega⟩;obtain ⟨hlt, hdr⟩ := zg3 hd
  have hg : s[i]? = some c := by have := congrArg (·[0]?) hd; simpa using this
  have ht := zDu k L u f true 0 false g c (by omega) hv;rw [zaj, ydt (by omega), if_pos rfl, zU, hg, yob];show ((zdh ⟨k, L, u, (f : Int), true, 0, false, g⟩ c).bind _) = _;rw [ht, yob, zqh];have hon := fun h => zDv (k := k) (L := L) (g := g) (c := c) hv h;generalize zdD k L u f g c = q at hon;obtain ⟨qw, qe, qv, qf, qg⟩ := q;dsimp only at hon ⊢;unfold zc3;dsimp only
  cases qw with
  | true =>
   rw [Bool.true_or, if_pos rfl, if_pos rfl, if_pos rfl, zi (by omega), yob]
  | false =>
   cases h0 : qe == 0 with
   | false =>
    rw [Bool.false_or, ynf, if_pos rfl, if_neg yfn, if_pos rfl, zi (by omega), yob]
   | true =>
    have he : qe = 0 := by simpa using h0
    subst he;obtain ⟨h1, h2, h3, _⟩ := hon (by rfl);subst h1;subst h2;rw [Bool.false_or, ynt, if_neg yfn, if_neg yfn, if_neg yfn, zi (by omega), yob];have ih := ztx k L qg s hs r n (i + 1) (u ++ [c]) qf true hdr (by omega) (by omega) (by simp; omega) h3;rw [ih]
    have e1 : u ++ [c] ++ r = u ++ c :: r := by simp
    have e2 : ((true : Bool) || !(r == [])) = (t || !((c :: r : Str) == [])) := by
     have : ((c :: r : Str) == []) = false := rfl;rw [this]; cases t <;> rfl
    rw [e1, e2]
theorem zDw (k L : Int) (g : api_Head) (u : Str) (f : Nat) (t : Bool) (s : Str) (hs : s.length < 30000000) (hu : u.length < 30000000) (hi : zxj u f) : zdi ⟨k, L, u, (f : Int), t, 0, false, g⟩ s = some (zrJ k L g u f t s) := by
 unfold zdi zc4;exact ztx k L g s hs s fuel 0 u f t rfl (yz _) (by unfold fuel; omega) (by omega) hi
def zB6 (a : accum_Accum) : api_Head × Bool := if a.f_whole then (a.f_got, true) else (zaE, false)
theorem zDx (a : accum_Accum) (h : a.f_got.Fields.length < 1000000) : zdj a = some (zB6 a) := by
 unfold zdj zB6
 cases a.f_whole with
 | false => rfl
 | true => rw [ynt, if_neg yfn, if_pos rfl, if_pos (zaX (by omega) (by omega))]

end Go.Dm
end
section
namespace Go.Dm
theorem zkP {s : Str} {l : List Str} (h : zit s = some l) : l.length ≤ s.length + 1 ∧ ∀ x ∈ l, x.length ≤ s.length := by
 unfold zit at h;obtain ⟨m, hm, rfl⟩ := Option.map_eq_some_iff.1 h
 have key : ∀ (s : Str) (k : Nat) (cur : Str) (m : List Str), zis k cur s = some m → m.length ≤ s.length + 1 ∧ ∀ x ∈ m, x.length ≤ cur.length + s.length := by
  intro s
  induction s with
  | nil => intro k cur m h; rw [ztg] at h; cases h; simp
  | cons c r ih =>
   intro k cur m h
   have one : ∀ k, zis k (cur ++ [c]) r = some m → m.length ≤ (c :: r).length + 1 ∧ ∀ x ∈ m, x.length ≤ cur.length + (c :: r).length := fun k h => by
    have := ih k _ m h
    simp only [ylc, yla, yln] at *
    exact ⟨by omega, fun x hx => by have := this.2 x hx; omega⟩
   cases k with
   | succ k => exact one k h
   | zero =>
    cases h1 : (c == 34 || c == 40) with
    | true =>
     rw [zvR cur r h1] at h
     split at h
     ·cases h
     ·exact one _ h
    | false =>
     cases h2 : c == 44 with
     | true =>
      have : c = 44 := by simpa using h2
      subst this;rw [zpr] at h;obtain ⟨m', hm', rfl⟩ := Option.map_eq_some_iff.1 h;have := ih 0 [] m' hm'
      simp only [ylc, yln] at *
      refine ⟨by omega, fun x hx => ?_⟩
      rcases List.mem_cons.1 hx with rfl | hx
      ·omega
      ·have := this.2 x hx; omega
     | false => rw [zth cur r h1 h2] at h; exact one 0 h
 have := key s 0 [] m hm;unfold elems;refine ⟨?_, fun x hx => ?_⟩
 ·have h1 := List.length_filter_le (fun x : Str => !(x == [])) (m.map zdF);rw [List.length_map] at h1;omega
 ·have h1 := (List.mem_filter.1 hx).1;obtain ⟨y, hy, rfl⟩ := List.mem_map.1 h1;have := this.2 y hy;have := zvK y
  simp at *
  omega
end Go.Dm
end
section
namespace Go.Dm
def zrl : List Str → List Str → List Str × Int
 | [], out => (out, 0)
 | v :: vs, out => match zit v with
  | none => ([], 2)
  | some l => if l.all zem then zrl vs (out ++ l) else ([], 2)
theorem zwd (rec1 : List Str → Int → Option (List Str × Int)) (l6 : List Str) (i7 : Nat) (l : List Str) (e : Int) (hl : l.length < 1000000000) (hx : ∀ x ∈ l, x.length < 900000000) (h6 : (l6.length + l.length) * 16 ≤ 140737488355328) (h7 : i7 < 1000000000) :
  zcc rec1 l6 (i7 : Int) (l, e) fuel 0 = if l.all zem then rec1 (l6 ++ l) ((i7 + 1 : Nat) : Int) else some ([], 2) := by
 have key : ∀ (n i : Nat), i ≤ l.length → l.length - i < n → zcc rec1 l6 (i7 : Int) (l, e) n (i : Int) = if (l.drop i).all zem then rec1 (l6 ++ l) ((i7 + 1 : Nat) : Int) else some ([], 2) := by
  intro n
  induction n with
  | zero => intro i _ h; omega
  | succ n ih =>
   intro i hi h;rw [zcc]
   by_cases hlt : i < l.length
   ·have g : l[i]? = some l[i] := ygg hlt;have hxl := hx l[i] (ygm _);dsimp only;rw [ydt (show (i : Int) < (l.length : Int) by omega), if_pos rfl, zY, g, yob, zn6 _ (by omega), yob, zi (by omega), yob, ih (i + 1) (by omega) (by omega), ydg hlt, List.all_cons];cases zem l[i] <;> rfl
   ·have : i = l.length := by omega
    subst this;dsimp only;rw [ydf (by omega), if_neg (by decide), if_pos (zaX h6 (by omega)), zi (by omega), yob, ydl];rfl
 have := key fuel 0 (yz _) (by unfold fuel; omega);rw [List.drop_zero] at this;exact this
theorem zrm (vs : List Str) (hn : vs.length ≤ 1000) (hv : ∀ v ∈ vs, v.length < 400000) : zhj vs = some (zrl vs []) := by
 unfold zhj
 have key : ∀ (n i : Nat) (out : List Str), i ≤ vs.length → vs.length - i < n → out.length ≤ i * 400001 → zcd vs n out (i : Int) = some (zrl (vs.drop i) out) := by
  intro n
  induction n with
  | zero => intro i _ _ h; omega
  | succ n ih =>
   intro i out hi h ho;rw [zcd]
   by_cases hlt : i < vs.length
   ·have g : vs[i]? = some vs[i] := ygg hlt;have hvl := hv vs[i] (ygm _);rw [ydt (show (i : Int) < (vs.length : Int) by omega), if_pos rfl, zY, g, yob, zm0 _ (by omega), yob, ydg hlt, zrl];unfold znX
    cases hs : zit vs[i] with
    | none => rfl
    | some l =>
     have hm := zkP hs;dsimp only;rw [if_neg (by decide), zwd _ _ _ l 0 (by omega) (fun x hx => by have := hm.2 x hx; omega) (by omega) (by omega)]
     cases ha : l.all zem with
     | false => rfl
     | true => rw [if_pos rfl, if_pos rfl, ih (i + 1) _ (by omega) (by omega) (by rw [yla]; omega)]
   ·have : i = vs.length := by omega
    subst this;rw [ydf (by omega), if_neg (by decide), ydl];rfl
 have := key fuel 0 [] (yz _) (by unfold fuel; omega) (by simp);rw [List.drop_zero] at this;exact this
theorem zux (rec1 : List Str → Int → Option (List Str × Int)) (i7 : Nat) (l : List Str) (e : Int) (l6 : List Str) (hl : l.length < 1000000000) (hx : ∀ x ∈ l, x.length < 900000000) (h6 : (l6.length + l.length) * 16 ≤ 140737488355328) (h7 : i7 < 1000000000) :
  zcZ rec1 (i7 : Int) (l, e) fuel l6 0 = if l.all zem then rec1 (l6 ++ l) ((i7 + 1 : Nat) : Int) else some ([], 2) := by
 have key : ∀ (n i : Nat) (out : List Str), i ≤ l.length → l.length - i < n → out.length = l6.length + i → zcZ rec1 (i7 : Int) (l, e) n out (i : Int) = if (l.drop i).all zem then rec1 (out ++ l.drop i) ((i7 + 1 : Nat) : Int) else some ([], 2) := by
  intro n
  induction n with
  | zero => intro i _ _ h; omega
  | succ n ih =>
   intro i out hi h ho;rw [zcZ]
   by_cases hlt : i < l.length
   ·have g : l[i]? = some l[i] := ygg hlt;have hxl := hx l[i] (ygm _);dsimp only;rw [ydt (show (i : Int) < (l.length : Int) by omega), if_pos rfl, zY, g, yob, zkV _ (by omega), yob, yob, if_pos (zaX (by omega) (by omega)), zi (by omega), yob, ih (i + 1) _ (by omega) (by omega) (by rw [yla]; simp; omega), ydg hlt, List.all_cons, yaa];cases zem l[i] <;> rfl
   ·have : i = l.length := by omega
    subst this;dsimp only;rw [ydf (by omega), if_neg (by decide), zi (by omega), yob, ydl, yan];rfl
 have := key fuel 0 l6 (yz _) (by unfold fuel; omega) rfl;rw [List.drop_zero] at this;exact this
theorem zr8 (vs : List Str) (hn : vs.length ≤ 1000) (hv : ∀ v ∈ vs, v.length < 400000) : zg2 vs = some (zrl vs []) := by
 unfold zg2
 have key : ∀ (n i : Nat) (out : List Str), i ≤ vs.length → vs.length - i < n → out.length ≤ i * 400001 → zc0 vs n out (i : Int) = some (zrl (vs.drop i) out) := by
  intro n
  induction n with
  | zero => intro i _ _ h; omega
  | succ n ih =>
   intro i out hi h ho;rw [zc0]
   by_cases hlt : i < vs.length
   ·have g : vs[i]? = some vs[i] := ygg hlt;have hvl := hv vs[i] (ygm _);rw [ydt (show (i : Int) < (vs.length : Int) by omega), if_pos rfl, zY, g, yob, zoa _ (by omega), yob, ydg hlt, zrl];unfold znX
    cases hs : zit vs[i] with
    | none => rfl
    | some l =>
     have hm := zkP hs;dsimp only;rw [if_neg (by decide), zux _ _ l 0 out (by omega) (fun x hx => by have := hm.2 x hx; omega) (by omega) (by omega)]
     cases ha : l.all zem with
     | false => rfl
     | true => rw [if_pos rfl, if_pos rfl, ih (i + 1) _ (by omega) (by omega) (by rw [yla]; omega)]
   ·have : i = vs.length := by omega
    subst this;rw [ydf (by omega), if_neg (by decide), ydl];rfl
 have := key fuel 0 [] (yz _) (by unfold fuel; omega) (by simp);rw [List.drop_zero] at this;exact this
abbrev zkX : Int := 1099511627776
def zuy : Int → List Str → Option Int
 | i, [] => some i
 | i, t :: ts => if (zN 10 t zkX).2 == 0 then (if decide (0 ≤ i) && !((zN 10 t zkX).1 == i) then none else zuy (zN 10 t zkX).1 ts) else none
def zwe : Int → List Str → Option Int
 | i, [] => some i
 | i, v :: vs => match zit v with
  | none => none
  | some l => match zuy i l with
   | none => none
   | some k => zwe k vs
def zrn : api_Frame × Int := (⟨0, 0⟩, 28)
def lenR (o : Option Int) : api_Frame × Int := match o with
 | none => zrn
 | some i => if i < 0 then zrn else (⟨2, i⟩, 0)
theorem zuz (rec1 : Int → Int → Option (api_Frame × Int)) (i7 : Nat) (l : List Str) (e : Int) (k : Int) (hl : l.length < 1000000000) (hx : ∀ x ∈ l, x.length < 900000000) (h7 : i7 < 1000000000) :
  zu rec1 (i7 : Int) (l, e) fuel k 0 = match zuy k l with | none => some zrn | some j => rec1 j ((i7 + 1 : Nat) : Int) := by
 have key : ∀ (n i : Nat) (k : Int), i ≤ l.length → l.length - i < n → zu rec1 (i7 : Int) (l, e) n k (i : Int) = match zuy k (l.drop i) with | none => some zrn | some j => rec1 j ((i7 + 1 : Nat) : Int) := by
  intro n
  induction n with
  | zero => intro i _ _ h; omega
  | succ n ih =>
   intro i k hi h;rw [zu]
   by_cases hlt : i < l.length
   ·have g : l[i]? = some l[i] := ygg hlt;have hxl := hx l[i] (ygm _)
    have hj : ∀ b : Bool, zae (zu rec1 (i7 : Int) (l, e) n) (i : Int) (zN 10 l[i] zkX) b = if b then some zrn else (match zuy (zN 10 l[i] zkX).1 (l.drop (i + 1)) with | none => some zrn | some j => rec1 j ((i7 + 1 : Nat) : Int)) := by
     intro b;unfold zae;rw [zi (by omega), yob, ih (i + 1) _ (by omega) (by omega)];rfl
    dsimp only;rw [ydt (show (i : Int) < (l.length : Int) by omega), if_pos rfl, zY, g, yob, zfg _ _ (by omega) (by decide) (by decide), yob, hj, hj, hj, ydg hlt, zuy]
    cases (zN 10 l[i] zkX).2 == 0 with
    | false => rfl
    | true =>
     cases decide (0 ≤ k) with
     | false => rfl
     | true => cases (zN 10 l[i] zkX).1 == k <;> rfl
   ·have : i = l.length := by omega
    subst this;dsimp only;rw [ydf (by omega), if_neg (by decide), zi (by omega), yob, ydl];rfl
 have := key fuel 0 k (yz _) (by unfold fuel; omega);rw [List.drop_zero] at this;exact this
theorem zyA (r : length_reader) (vs : List Str) (hn : vs.length ≤ 1000) (hv : ∀ v ∈ vs, v.length < 400000) : zb6 r vs = some (lenR (zwe (-1) vs)) := by
 unfold zb6
 have key : ∀ (n i : Nat) (k : Int), i ≤ vs.length → vs.length - i < n → zP vs n k (i : Int) = some (lenR (zwe k (vs.drop i))) := by
  intro n
  induction n with
  | zero => intro i _ _ h; omega
  | succ n ih =>
   intro i k hi h;rw [zP]
   by_cases hlt : i < vs.length
   ·have g : vs[i]? = some vs[i] := ygg hlt;have hvl := hv vs[i] (ygm _);rw [ydt (show (i : Int) < (vs.length : Int) by omega), if_pos rfl, zY, g, yob, zm0 _ (by omega), yob, ydg hlt, zwe];unfold znX
    cases hs : zit vs[i] with
    | none => rfl
    | some l =>
     have hm := zkP hs;dsimp only;rw [if_neg (by decide), zuz _ _ l 0 k (by omega) (fun x hx => by have := hm.2 x hx; omega) (by omega)]
     cases zuy k l with
     | none => rfl
     | some j => exact ih (i + 1) j (by omega) (by omega)
   ·have : i = vs.length := by omega
    subst this;rw [ydf (by omega), if_neg (by decide), ydl, zwe, lenR]
    by_cases hk : k < 0
    ·rw [ydt hk, if_pos rfl, if_pos hk]; rfl
    ·rw [ydf hk, if_neg (by decide), if_neg hk]
 have := key fuel 0 (-1) (yz _) (by unfold fuel; omega);rw [List.drop_zero] at this;exact this
def zg6 : List Str → Option (List Int)
 | [] => some []
 | t :: ts => if (zN 10 t zkX).2 == 0 then (zg6 ts).map fun ns => (zN 10 t zkX).1 :: ns else none
def zl7 : List Str → Option (List Int)
 | [] => some []
 | v :: vs => match zit v with
  | none => none
  | some l => match zg6 l with
   | none => none
   | some a => (zl7 vs).map fun b => a ++ b
def zhA : Option (List Int) → api_Frame × Int
 | none => zrn
 | some [] => zrn
 | some (n :: ns) => if ns.all (fun m => m == n) then (⟨2, n⟩, 0) else zrn
def zlk : Int → List Int → Option Int
 | i, [] => some i
 | i, n :: ns => if decide (0 ≤ i) && !(n == i) then none else zlk n ns
theorem zyB : ∀ (l : List Str) (i : Int), (zg6 l = none ∧ zuy i l = none) ∨ ∃ ns, zg6 l = some ns ∧ (∀ n ∈ ns, 0 ≤ n) ∧ zuy i l = zlk i ns := by
 intro l
 induction l with
 | nil => intro i; exact .inr ⟨[], rfl, (fun n h => by cases h), rfl⟩
 | cons t ts ih =>
  intro i;rw [zg6, zuy]
  cases h : (zN 10 t zkX).2 == 0 with
  | false => exact .inl ⟨rfl, rfl⟩
  | true =>
   have h0 := (zkO (b := 10) (s := t) (most := zkX) (by simpa using h) (by decide)).1;rw [if_pos rfl, if_pos rfl]
   rcases ih (zN 10 t zkX).1 with ⟨q1, q2⟩ | ⟨ns, q1, q2, q3⟩
   ·left
    rw [q1, q2];refine ⟨rfl, ?_⟩
    split <;> rfl
   ·right
    refine ⟨(zN 10 t zkX).1 :: ns, by rw [q1]; rfl, fun n hn => ?_, by rw [zlk, q3]⟩
    rcases List.mem_cons.1 hn with rfl | hn
    ·exact h0
    ·exact q2 n hn
theorem zz4 : ∀ (a b : List Int) (i : Int), zlk i (a ++ b) = match zlk i a with | none => none | some k => zlk k b := by
 intro a
 induction a with
 | nil => intro b i; rfl
 | cons n ns ih =>
  intro b i;rw [List.cons_append, zlk, zlk]
  split
  ·rfl
  ·exact ih b n
theorem zyC : ∀ (vs : List Str) (i : Int), (zl7 vs = none ∧ zwe i vs = none) ∨ ∃ ns, zl7 vs = some ns ∧ (∀ n ∈ ns, 0 ≤ n) ∧ zwe i vs = zlk i ns := by
 intro vs
 induction vs with
 | nil => intro i; exact .inr ⟨[], rfl, (fun n h => by cases h), rfl⟩
 | cons v vs ih =>
  intro i;rw [zl7, zwe]
  cases hs : zit v with
  | none => exact .inl ⟨rfl, rfl⟩
  | some l =>
   dsimp only
   rcases zyB l i with ⟨q1, q2⟩ | ⟨a, q1, q2, q3⟩
   ·left; rw [q1, q2]; exact ⟨rfl, rfl⟩
   ·rw [q1, q3];dsimp only
    cases hv : zl7 vs with
    | none =>
     left
     refine ⟨rfl, ?_⟩
     cases zlk i a with
     | none => rfl
     | some k =>
      rcases ih k with ⟨_, r2⟩ | ⟨ns, r1, _, _⟩
      ·exact r2
      ·rw [hv] at r1; cases r1
    | some b =>
     right
     have hb : ∀ n ∈ b, 0 ≤ n := by
      rcases ih 0 with ⟨r1, _⟩ | ⟨ns, r1, r2, _⟩
      ·rw [hv] at r1; cases r1
      ·rw [hv] at r1; cases r1; exact r2
     refine ⟨a ++ b, rfl, fun n hn => (List.mem_append.1 hn).elim (q2 n) (hb n), ?_⟩;rw [zz4]
     cases zlk i a with
     | none => rfl
     | some k =>
      rcases ih k with ⟨r1, _⟩ | ⟨ns, r1, _, r3⟩
      ·rw [hv] at r1; cases r1
      ·rw [hv] at r1; cases r1; exact r3
theorem zz5 : ∀ (ns : List Int) (n : Int), 0 ≤ n → (∀ m ∈ ns, 0 ≤ m) → zlk n ns = if ns.all (fun m => m == n) then some n else none := by
 intro ns
 induction ns with
 | nil => intro n _ _; rfl
 | cons m ns ih =>
  intro n hn h;rw [zlk, ydt hn, Bool.true_and, List.all_cons]
  cases hm : m == n with
  | false => rfl
  | true =>
   have e : m = n := by simpa using hm
   subst e;rw [ynt, if_neg yfn, ih m hn (fun x hx => h x (List.mem_cons_of_mem _ hx)), Bool.true_and]
theorem zz6 (vs : List Str) : lenR (zwe (-1) vs) = zhA (zl7 vs) := by
 rcases zyC vs (-1) with ⟨q1, q2⟩ | ⟨ns, q1, q2, q3⟩
 ·rw [q1, q2]; rfl
 ·rw [q1, q3]
  cases ns with
  | nil => rfl
  | cons n ns =>
   have hn := q2 n (List.mem_cons_self ..);rw [zlk, show decide ((0 : Int) ≤ -1) = false from rfl, Bool.false_and, if_neg yfn, zz5 ns n hn (fun m hm => q2 m (List.mem_cons_of_mem _ hm)), zhA]
   cases ns.all (fun m => m == n) with
   | false => rfl
   | true =>
    rw [if_pos rfl, if_pos rfl, lenR]
    try dsimp only
    rw [if_neg (by omega)]
theorem zCk (rec3 : List Int → Int → Option (api_Frame × Int)) (i45 : Nat) (l : List Str) (e : Int) (out : List Int) (hl : l.length < 1000000000) (hx : ∀ x ∈ l, x.length < 900000000) (h6 : (out.length + l.length) * 8 ≤ 140737488355328) (h7 : i45 < 1000000000) :
  zgB rec3 (i45 : Int) (l, e) fuel out 0 = match zg6 l with | none => some zrn | some a => rec3 (out ++ a) ((i45 + 1 : Nat) : Int) := by
 have key : ∀ (n i : Nat) (o : List Int), i ≤ l.length → l.length - i < n → o.length = out.length + i → zgB rec3 (i45 : Int) (l, e) n o (i : Int) = match zg6 (l.drop i) with | none => some zrn | some a => rec3 (o ++ a) ((i45 + 1 : Nat) : Int) := by
  intro n
  induction n with
  | zero => intro i _ _ h; omega
  | succ n ih =>
   intro i o hi h ho;rw [zgB]
   by_cases hlt : i < l.length
   ·have g : l[i]? = some l[i] := ygg hlt;have hxl := hx l[i] (ygm _);dsimp only;rw [ydt (show (i : Int) < (l.length : Int) by omega), if_pos rfl, zY, g, yob];show ((zgl l[i] ((10 : Nat) : Int) zkX).bind _) = _;rw [zlx (by simp [ziz]) _ _ (by omega) (by decide) (by decide), yob, if_pos (zaX (by omega) (by omega)), zi (by omega), yob, ih (i + 1) _ (by omega) (by omega) (by rw [yla]; simp; omega), ydg hlt, zg6]
    cases (zN 10 l[i] zkX).2 == 0 with
    | false => rfl
    | true =>
     rw [ynt, if_neg yfn, if_pos rfl]
     cases zg6 (l.drop (i + 1)) with
     | none => rfl
     | some a => dsimp only [Option.map_some]; rw [yaa]; rfl
   ·have : i = l.length := by omega
    subst this;dsimp only;rw [ydf (by omega), if_neg (by decide), zi (by omega), yob, ydl, zg6];dsimp only;rw [yan]
 have := key fuel 0 out (yz _) (by unfold fuel; omega) rfl;rw [List.drop_zero] at this;exact this
theorem zCl (ns : List Int) (hl : ns.length < 1000000000) : zgC ns fuel 0 = some (zhA (some ns)) := by
 cases ns with
 | nil => rfl
 | cons n ns =>
  have key : ∀ (f i : Nat), i ≤ (n :: ns).length → (n :: ns).length - i < f → zgC (n :: ns) f (i : Int) = some (if ((n :: ns).drop i).all (fun m => m == n) then (⟨2, n⟩, 0) else zrn) := by
   intro f
   induction f with
   | zero => intro i _ h; omega
   | succ f ih =>
    intro i hi h;rw [zgC]
    by_cases hlt : i < (n :: ns).length
    ·have g : (n :: ns)[i]? = some (n :: ns)[i] := ygg hlt;rw [ydt (show (i : Int) < ((n :: ns).length : Int) by omega), if_pos rfl, zY, g, yob, zn4, List.getElem?_cons_zero, yob, zi (by omega), yob, ih (i + 1) (by omega) (by omega), ydg hlt, List.all_cons];cases (n :: ns)[i] == n <;> rfl
    ·have : i = (n :: ns).length := by omega
     subst this;rw [ydf (by omega), if_neg (by decide), ydl, zn4, List.getElem?_cons_zero, yob]
     have h0 : (((n :: ns).length : Int) == 0) = false := by simp; omega
     rw [h0];rfl
  have := key fuel 0 (yz _) (by unfold fuel; omega);rw [List.drop_zero, List.all_cons, ybs, Bool.true_and] at this;exact this
theorem zxF : ∀ (l : List Str) (a : List Int), zg6 l = some a → a.length = l.length := by
 intro l
 induction l with
 | nil => intro a h; cases h; rfl
 | cons t ts ih =>
  intro a h;rw [zg6] at h
  split at h
  ·obtain ⟨b, hb, rfl⟩ := Option.map_eq_some_iff.1 h;simp [ih b hb]
  ·cases h
theorem zCm (vs : List Str) (hn : vs.length ≤ 1000) (hv : ∀ v ∈ vs, v.length < 400000) : zeZ vs fuel [] 0 = some (zhA (zl7 vs)) := by
 have key : ∀ (n i : Nat) (out : List Int), i ≤ vs.length → vs.length - i < n → out.length ≤ i * 400001 → zeZ vs n out (i : Int) = some (match zl7 (vs.drop i) with | none => zrn | some a => zhA (some (out ++ a))) := by
  intro n
  induction n with
  | zero => intro i _ _ h; omega
  | succ n ih =>
   intro i out hi h ho;rw [zeZ]
   by_cases hlt : i < vs.length
   ·have g : vs[i]? = some vs[i] := ygg hlt;have hvl := hv vs[i] (ygm _);rw [ydt (show (i : Int) < (vs.length : Int) by omega), if_pos rfl, zY, g, yob, zoa _ (by omega), yob, ydg hlt, zl7];unfold znX
    cases hs : zit vs[i] with
    | none => rfl
    | some l =>
     have hm := zkP hs;dsimp only;rw [if_neg (by decide), zCk _ _ l 0 out (by omega) (fun x hx => by have := hm.2 x hx; omega) (by omega) (by omega)]
     cases ha : zg6 l with
     | none => rfl
     | some a =>
      have hal := zxF l a ha;dsimp only;rw [ih (i + 1) _ (by omega) (by omega) (by rw [yla]; omega)]
      cases zl7 (vs.drop (i + 1)) with
      | none => rfl
      | some b => dsimp only [Option.map_some]; rw [yaa]
   ·have : i = vs.length := by omega
    subst this;rw [ydf (by omega), if_neg (by decide), ydl, zCl _ (by omega), zl7];dsimp only;rw [yan]
 have := key fuel 0 [] (yz _) (by unfold fuel; omega) (by simp);rw [List.drop_zero] at this;rw [show (0 : Int) = ((0 : Nat) : Int) from rfl, this];cases zl7 vs <;> rfl
def zll : Str := [116, 114, 97, 110, 115, 102, 101, 114, 45, 101, 110, 99, 111, 100, 105, 110, 103]
def ziQ : Str := [99, 111, 110, 116, 101, 110, 116, 45, 108, 101, 110, 103, 116, 104]
def zeT (l : List api_Field) (nm : Str) : List Str := (l.filter (isN nm)).map (·.Value)
def zob : Str := [99, 104, 117, 110, 107, 101, 100]
def ziG (m : Int) (te : List Str) : api_Frame × Int :=
 if ((zrl te []).2 == 0) && !(m == 0) then (match (zrl te []).1 with
  | [x] => if low x == zob then (⟨3, 0⟩, 0) else (⟨0, 0⟩, 30)
  | _ => (⟨0, 0⟩, 30)) else (⟨0, 0⟩, 30)
def zi9 (h : api_Head) (k : Int) : api_Frame × Int :=
 if (zeT h.Fields zll) == [] then (if (zeT h.Fields ziQ) == [] then (⟨k, 0⟩, 0) else zhA (zl7 (zeT h.Fields ziQ)))
 else if (zeT h.Fields ziQ) == [] then ziG h.Minor (zeT h.Fields zll) else (⟨0, 0⟩, 29)
theorem zxG {B : Nat} : ∀ (vs : List Str) (out : List Str), (∀ v ∈ vs, v.length ≤ B) → (∀ x ∈ out, x.length ≤ B) → ∀ x ∈ (zrl vs out).1, x.length ≤ B := by
 intro vs
 induction vs with
 | nil => intro out _ ho; exact ho
 | cons v vs ih =>
  intro out h ho;rw [zrl]
  cases hs : zit v with
  | none => intro x hx; cases hx
  | some l =>
   have hm := zkP hs;have hv := h v (List.mem_cons_self ..);dsimp only
   split
   ·refine ih _ (fun x hx => h x (List.mem_cons_of_mem _ hx)) fun x hx => ?_
    rcases List.mem_append.1 hx with hx | hx
    ·exact ho x hx
    ·have := hm.2 x hx; omega
   ·intro x hx; cases hx
theorem zz7 (r : length_reader) (vs : List Str) (hn : vs.length ≤ 1000) (hv : ∀ v ∈ vs, v.length < 400000) : zcz r vs = some (ziG r.f_minor vs) := by
 have ht := zrm vs hn hv;have hb := zxG (B := 400000) vs [] (fun v h => Nat.le_of_lt (hv v h)) (fun x h => by cases h);unfold zcz ziG;rw [ht, yob];generalize zrl vs [] = q at hb;obtain ⟨l, e⟩ := q;dsimp only at hb ⊢
 cases h0 : e == 0 with
 | false => rfl
 | true =>
  cases hm : r.f_minor == 0 with
  | true => rfl
  | false =>
   rw [ynt, if_neg yfn, if_neg yfn, ynf, Bool.and_true, if_pos rfl]
   match l, hb with
   | [], _ => rfl
   | [x], hb =>
    have hx := hb x (by simp);rw [show (!((([x] : List Str).length : Int) == 1)) = false from rfl, if_neg yfn, zn4, List.getElem?_cons_zero, yob, zoV _ _ (by omega) (by decide), yob, show low ([99, 104, 117, 110, 107, 101, 100] : Str) = zob from by decide];unfold zal;dsimp only;cases low x == zob <;> rfl
   | x :: y :: l, _ =>
    have : (!(((x :: y :: l).length : Int) == 1)) = true := by simp; omega
    rw [this];rfl
theorem zyD (vs : List Str) (m : Int) (hn : vs.length ≤ 1000) (hv : ∀ v ∈ vs, v.length < 400000) :
  ((zg2 vs).bind fun r19 =>
 if (!(r19.2 == 0)) then (zcH true) else (if (m == 0) then (zcH true) else (if (!((r19.1.length : Int) == 1)) then (zcH true) else ((lAt r19.1 0).bind fun x26 =>
 (zfe x26).bind fun r29 =>
 zcH (!(r29 == [99, 104, 117, 110, 107, 101, 100])))))) = some (ziG m vs) := by
 have ht := zr8 vs hn hv;have hb := zxG (B := 400000) vs [] (fun v h => Nat.le_of_lt (hv v h)) (fun x h => by cases h);unfold ziG;rw [ht, yob];generalize zrl vs [] = q at hb;obtain ⟨l, e⟩ := q;dsimp only at hb ⊢
 cases h0 : e == 0 with
 | false => rfl
 | true =>
  cases hm : m == 0 with
  | true => rfl
  | false =>
   rw [ynt, if_neg yfn, if_neg yfn, ynf, Bool.and_true, if_pos rfl]
   match l, hb with
   | [], _ => rfl
   | [x], hb =>
    have hx := hb x (by simp);rw [show (!((([x] : List Str).length : Int) == 1)) = false from rfl, if_neg yfn, zn4, List.getElem?_cons_zero, yob, zjd _ (by omega), yob];unfold zcH;show (if (!(low x == zob)) = true then _ else _) = _;dsimp only;cases low x == zob <;> rfl
   | x :: y :: l, _ =>
    have : (!(((x :: y :: l).length : Int) == 1)) = true := by simp; omega
    rw [this];rfl
theorem zmK {k : List api_Field} {B : Nat} (h1 : k.length ≤ 1000) (h2 : zaT B k) (nm : Str) : (zeT k nm).length ≤ 1000 ∧ ∀ v ∈ zeT k nm, v.length < B := by
 unfold zeT;refine ⟨?_, fun v hv => ?_⟩
 ·rw [List.length_map];have := List.length_filter_le (isN nm) k;omega
 ·obtain ⟨f, hf, rfl⟩ := List.mem_map.1 hv;exact (h2 f (List.mem_filter.1 hf).1).2
theorem zsj (l : List Str) : decide (0 < (l.length : Int)) = !(l == []) := by
 cases l with
 | nil => rfl
 | cons x l => simp <;> omega
theorem zqz (h : api_Head) (k : Int) (hl : h.Fields.length ≤ 1000) (hf : zaT 400000 h.Fields) : zkb h k = some (zi9 h k) := by
 have e1 : isN ([84, 114, 97, 110, 115, 102, 101, 114, 45, 69, 110, 99, 111, 100, 105, 110, 103] : Str) = isN zll := by
  funext f; unfold isN
  rw [show low ([84, 114, 97, 110, 115, 102, 101, 114, 45, 69, 110, 99, 111, 100, 105, 110, 103] : Str) = low zll from by decide]
 have e2 : isN ([67, 111, 110, 116, 101, 110, 116, 45, 76, 101, 110, 103, 116, 104] : Str) = isN ziQ := by
  funext f; unfold isN
  rw [show low ([67, 111, 110, 116, 101, 110, 116, 45, 76, 101, 110, 103, 116, 104] : Str) = low ziQ from by decide]
 have b1 := zmK hl hf zll;have b2 := zmK hl hf ziQ;unfold zkb zon;rw [ztc _ (by omega), yob, yob, zlp _ _ (by decide) (by omega) (zM (by decide) hf), yob, zlp _ _ (by decide) (by omega) (zM (by decide) hf), yob, e1, e2];unfold zi9;show (if decide (0 < ((zeT h.Fields zll).length : Int)) = true then ze7 h k ⟨h.Fields⟩ (zeT h.Fields zll) (zeT h.Fields ziQ) (decide (0 < ((zeT h.Fields ziQ).length : Int))) else ze7 h k ⟨h.Fields⟩ (zeT h.Fields zll) (zeT h.Fields ziQ) false) = _;unfold ze7;rw [zz7 _ _ b1.1 b1.2, zyA _ _ b2.1 b2.2, zz6, zsj, zsj, yob, yob];cases zeT h.Fields zll == [] <;> cases zeT h.Fields ziQ == [] <;> rfl
theorem zrQ (h : api_Head) (k : Int) (hl : h.Fields.length ≤ 1000) (hf : zaT 400000 h.Fields) : zlV h k = some (zi9 h k) := by
 have b1 := zmK hl hf zll;have b2 := zmK hl hf ziQ;unfold zlV;rw [zjT _ _ (by decide) (by omega) (zM (by decide) hf), yob, zjT _ _ (by decide) (by omega) (zM (by decide) hf), yob];unfold zi9;show (if decide (0 < ((zeT h.Fields zll).length : Int)) = true then zgD h k (zeT h.Fields zll) (zeT h.Fields ziQ) (decide (0 < ((zeT h.Fields ziQ).length : Int))) else zgD h k (zeT h.Fields zll) (zeT h.Fields ziQ) false) = _;unfold zgD;rw [zyD _ _ b1.1 b1.2, zCm _ b2.1 b2.2, zsj, zsj]
 have hz : (((zeT h.Fields ziQ).length : Int) == 0) = (zeT h.Fields ziQ == []) := by
  cases zeT h.Fields ziQ with
  | nil => rfl
  | cons x l => simp <;> omega
 rw [hz];cases zeT h.Fields zll == [] <;> cases zeT h.Fields ziQ == [] <;> rfl
def zro (m : Str) (c : Int) : Bool := (m == [72, 69, 65, 68]) || decide (c < 200) || (c == 204) || (c == 304) || ((m == [67, 79, 78, 78, 69, 67, 84]) && decide (c < 300))
def zcL (m : Str) (h : api_Head) : api_Frame × Int :=
 if h.Kind == 1 then zi9 h 1 else if zro m h.Code then (⟨1, 0⟩, 0) else zi9 h 4
theorem zl8 (m : Str) (h : api_Head) (hl : h.Fields.length ≤ 1000) (hf : zaT 400000 h.Fields) : zef m h = some (zcL m h) := by
 have hb : zfo m h.Code = some (zro m h.Code) := by
  unfold zfo zau zro;cases m == [72, 69, 65, 68] <;> cases decide (h.Code < 200) <;> cases h.Code == 204 <;> cases h.Code == 304 <;> cases m == [67, 79, 78, 78, 69, 67, 84] <;> rfl
 unfold zef zcL zie zhx;rw [zqz h 1 hl hf, zqz h 4 hl hf, hb]
 cases h.Kind == 1 with
 | true => rfl
 | false => cases zro m h.Code <;> rfl
theorem ztU (m : Str) (h : api_Head) (hl : h.Fields.length ≤ 1000) (hf : zaT 400000 h.Fields) : zjE m h = some (zcL m h) := by
 have hb : zgE m h = some (if zro m h.Code then (⟨1, 0⟩, 0) else zi9 h 4) := by
  have e : decide (h.Code ≤ 299) = decide (h.Code < 300) := decide_eq_decide.2 (by omega);unfold zgE zbL zcU zro;rw [zrQ h 4 hl hf, e];cases m == [72, 69, 65, 68] <;> cases decide (h.Code < 200) <;> cases h.Code == 204 <;> cases h.Code == 304 <;> cases m == [67, 79, 78, 78, 69, 67, 84] <;> cases decide (h.Code < 300) <;> rfl
 unfold zjE zcL;rw [zrQ h 1 hl hf, hb];cases h.Kind == 1 <;> rfl
end Go.Dm
end
section
namespace Go.Dm
theorem zwS : ∀ (g m n : Nat), g ≤ m → n < 16 ^ (g + 1) → zmr g n = zk (ziM 16 m n)
 | 0, m, n, _, hn => by
  have hn : n < 16 := hn
  cases m with
  | zero => rw [zmr, ziM, Nat.mod_eq_of_lt hn]; rfl
  | succ m => rw [zmr, ziM, if_pos hn]; rfl
 | g + 1, m, n, h, hn => by
  obtain ⟨m, rfl⟩ : ∃ k, m = k + 1 := ⟨m - 1, by omega⟩;rw [zmr, ziM]
  by_cases h16 : n < 16
  ·rw [if_pos h16, if_pos h16]; rfl
  ·have hd : n / 16 < 16 ^ (g + 1) := by rw [Nat.pow_succ] at hn; omega
   rw [if_neg h16, if_neg h16, zwS g m (n / 16) (by omega) hd];unfold zk;rw [List.map_append];rfl
theorem zyb (n : Nat) (hn : n < 1048576) : zgd (n : Int) = some (zk (digs 16 n)) := by
 unfold zgd zhz zgQ zdT;rw [ydf (show ¬ ((n : Int) < 0) by omega), if_neg yfn, if_neg (show ¬ (inI (n : Int) = true ∧ (16 : Int) = 10) by omega), if_pos ⟨rfl, by omega, by omega⟩, yob, yob, yob, Int.toNat_natCast, zwS 4 70 n (by decide) (by omega)];rfl
theorem zvy (n : Nat) (hn : n < 1048576) : (zk (digs 16 n)).length ≤ 71 := by
 unfold zk;rw [List.length_map];exact ztC (by decide) _ (by omega)
def zjQ (d : Str) : Str := if d == [] then [] else zk (digs 16 d.length) ++ 13 :: 10 :: (d ++ [13, 10])
theorem zmo (d : Str) (hd : d.length < 1048576) : (zjQ d).length ≤ d.length + 75 := by
 have := zvy d.length hd;unfold zjQ
 split
 ·simp
 ·simp only [yla, ylc, yln]; omega
theorem zwT (d : Str) (hd : d.length < 1048576) : zdL d = some (zjQ d) := by
 have hl := zvy d.length hd;unfold zdL zjQ;rw [zyb _ hd]
 cases d == [] with
 | true => rfl
 | false =>
  rw [if_neg yfn, if_neg yfn, yob];unfold zcf strings_Join
  have e : Go.Lib.join [zk (digs 16 d.length), d, []] [13, 10] = zk (digs 16 d.length) ++ 13 :: 10 :: (d ++ [13, 10]) := by
   rw [Go.Lib.join_cons]; simp [Go.Lib.joinTail]
  rw [e, if_pos ⟨by simp, by simp only [yla, ylc, yln]; omega⟩];rfl
def zg8 : List api_Field → Int
 | [] => 0
 | f :: fs => if zbi f == 0 then zg8 fs else zbi f
def zjZ (l : List api_Field) : Str × Int := if zg8 l == 0 then (if 100 < l.length then ([], 3) else (48 :: 13 :: 10 :: zag l, 0)) else ([], zg8 l)
theorem zpk (f : api_Field) (h1 : f.Name.length < 100000000) (h2 : f.Value.length < 100000000) : zcB f = some (if zbi f == 0 then (zO f, 0) else ([], zbi f)) := by
 cases hc : zbi f == 0 with
 | true => exact zk3 f h1 h2 (by simpa using hc)
 | false =>
  unfold zcB;rw [zhB f (by omega) (by omega), yob, hc];rfl
theorem zzx (a : Str) : ∀ (l : List Str), Go.Lib.join (a :: (l ++ [[], []])) [13, 10] = a ++ 13 :: 10 :: ((l.map fun x => x ++ [13, 10]).flatten ++ [13, 10]) := by
 intro l;rw [Go.Lib.join_cons]
 congr 1
 unfold Go.Lib.joinTail
 induction l with
 | nil => rfl
 | cons x l ih =>
  simp only [List.cons_append, List.map_cons, List.flatten_cons, yaa] at ih ⊢;rw [ih];simp
theorem zyc : ∀ l : List api_Field, zag l = ((l.map zO).map fun x => x ++ [13, 10]).flatten ++ [13, 10] := by
 intro l
 induction l with
 | nil => rfl
 | cons f l ih => rw [zag, ih]; simp
theorem zwU : ∀ {l : List api_Field}, (zg8 l == 0) = true → ∀ f ∈ l, (zbi f == 0) = true := by
 intro l
 induction l with
 | nil => intro _ f hf; cases hf
 | cons g l ih =>
  intro h f hf;rw [zg8] at h
  cases hg : zbi g == 0 with
  | false => rw [hg, if_neg yfn, hg] at h; cases h
  | true =>
   rw [hg, if_pos rfl] at h
   rcases List.mem_cons.1 hf with rfl | hf
   ·exact hg
   ·exact ih h f hf
theorem zyS (l : List api_Field) (hl : l.length ≤ 200) (hs : zaT 4000 l) : zdx l = some (zjZ l) := by
 have hrl := zj8 hs
 have key : ∀ (n i : Nat) (o : List Str), i ≤ l.length → l.length - i < n → o = [48] :: (l.take i).map zO → zcT l n o (i : Int) =
   if zg8 (l.drop i) == 0 then (if 100 < l.length then some ([], 3) else some (48 :: 13 :: 10 :: zag l, 0)) else some ([], zg8 (l.drop i)) := by
  intro n
  induction n with
  | zero => intro i _ _ h; omega
  | succ n ih =>
   intro i o hi h ho
   have hol : o.length = i + 1 := by rw [ho]; simp; omega
   rw [zcT]
   by_cases hlt : i < l.length
   ·have g : l[i]? = some l[i] := ygg hlt;have hsm := hs l[i] (ygm _);rw [ydt (show (i : Int) < (l.length : Int) by omega), if_pos rfl, zY, g, yob, zpk _ (by omega) (by omega), yob, ydg hlt, zg8]
    cases hc : zbi l[i] == 0 with
    | false =>
     rw [if_neg yfn, if_neg yfn];dsimp only;rw [hc, ynf, if_pos rfl, if_neg yfn]
    | true =>
     rw [if_pos rfl, if_pos rfl];dsimp only;rw [show (!((0 : Int) == 0)) = false from rfl, if_neg yfn, if_pos (zaX (by omega) (by omega)), zi (by omega), yob];exact ih (i + 1) _ (by omega) (by omega) (by rw [ho, List.take_succ_eq_append_getElem hlt, List.map_append]; rfl)
   ·have : i = l.length := by omega
    subst this;rw [ydf (by omega), if_neg yfn, ydl, zg8];rw [show (((0 : Int) == 0)) = true from rfl, if_pos rfl]
    by_cases h100 : 100 < l.length
    ·rw [ydt (by omega), if_pos rfl, if_pos h100]
    ·rw [ydf (by omega), if_neg yfn, if_neg h100, if_pos (zaX (by omega) (by omega))]
     have e : Go.Lib.join (o ++ ([[], []] : List Str)) [13, 10] = 48 :: 13 :: 10 :: zag l := by
      rw [ho, List.take_length, List.cons_append, zzx, zyc];rfl
     unfold zcf strings_Join;rw [e, if_pos ⟨by rw [yla]; simp; omega, by simp only [ylc]; omega⟩];rfl
 have := key fuel 0 [[48]] (yz _) (by unfold fuel; omega) (by simp);unfold zdx zjZ;rw [List.drop_zero] at this;refine this.trans ?_
 cases zg8 l == 0 with
 | false => rfl
 | true => by_cases h : 100 < l.length <;> simp [h]
theorem zBA (l : List api_Field) (hl : l.length ≤ 200) (hs : zaT 4000 l) : zkL l = some (zjZ l) := by
 have hrl := zj8 hs
 have key : ∀ (n i : Nat) (u : Str), i ≤ l.length → l.length - i < n → u.length ≤ 3 + i * 8004 → zfK l n u (i : Int) =
   if zg8 (l.drop i) == 0 then (if 100 < l.length then some ([], 3) else some (u ++ zag (l.drop i), 0)) else some ([], zg8 (l.drop i)) := by
  intro n
  induction n with
  | zero => intro i _ _ h; omega
  | succ n ih =>
   intro i u hi h hu;rw [zfK]
   by_cases hlt : i < l.length
   ·have g : l[i]? = some l[i] := ygg hlt;have hsm := hs l[i] (ygm _);have := zod l[i];rw [ydt (show (i : Int) < (l.length : Int) by omega), if_pos rfl, zY, g, yob, zne _ (by omega) (by omega), yob, yob, ztY _ (by omega) (by omega), yob, zZ (by omega), yob, zZ (by simp only [yla, ylc, yln]; omega), yob, zi (by omega), yob, ih (i + 1) _ (by omega) (by omega) (by simp only [yla, ylc, yln]; omega), ydg hlt, zg8, zag]
    cases hc : zbi l[i] == 0 with
    | false => rw [ynf, if_pos rfl, if_neg yfn, hc, if_neg yfn]
    | true =>
     rw [ynt, if_neg yfn, if_pos rfl];simp
   ·have : i = l.length := by omega
    subst this;rw [ydf (by omega), if_neg yfn, ydl, zg8];rw [show (((0 : Int) == 0)) = true from rfl, if_pos rfl]
    by_cases h100 : 100 < l.length
    ·rw [ydt (by omega), if_pos rfl, if_pos h100]
    ·rw [ydf (by omega), if_neg yfn, if_neg h100, zZ (by simp; omega), yob];rfl
 have := key fuel 0 [48, 13, 10] (yz _) (by unfold fuel; omega) (by simp);unfold zkL zjZ;rw [List.drop_zero] at this;refine this.trans ?_
 cases zg8 l == 0 with
 | false => rfl
 | true => by_cases h : 100 < l.length <;> simp [h]
def zfk : Nat → Nat → Str → Str × Str
 | 0, _, s => ([], s)
 | n + 1, k, s => if k ≤ s.length then (zjQ (s.take k) ++ (zfk n k (s.drop k)).1, (zfk n k (s.drop k)).2) else ([], s)
theorem zuU (k : Nat) (hk : 1 ≤ k) : ∀ (n : Nat) (s : Str), s.length ≤ 600 → (zfk n k s).1.length ≤ 700 * s.length ∧ (zfk n k s).2.length ≤ s.length := by
 intro n
 induction n with
 | zero => intro s hs; simp [zfk]
 | succ n ih =>
  intro s hs;rw [zfk]
  split
  ·have hp := zmo (s.take k) (by simp; omega);have i1 := ih (s.drop k) (by simp; omega);simp only [yld, ylt, yla] at i1 hp ⊢;omega
  ·simp
theorem zzy (k : Nat) (hk : 1 ≤ k) (hk2 : k ≤ 65536) (t : Bool) : ∀ (n m : Nat) (o : List Str) (s : Str), s.length < n → s.length < m → s.length ≤ 600 → o.length + s.length ≤ 700 → o.flatten.length + 700 * s.length ≤ 500000 →
  zaW n o (k : Int) s t = some (o.flatten ++ (zfk m k s).1, 0, ⟨(k : Int), (zfk m k s).2, t⟩) := by
 intro n
 induction n with
 | zero => intro m o s h; omega
 | succ n ih =>
  intro m o s hn hm hs ho hf;obtain ⟨m, rfl⟩ : ∃ j, m = j + 1 := ⟨m - 1, by omega⟩;rw [zaW, zfk]
  by_cases h : k ≤ s.length
  ·have hp := zmo (s.take k) (by simp; omega);simp only [ylt] at hp;rw [ydt (by omega), if_pos rfl, if_pos h, zc9 h, yob, zwT _ (by simp; omega), yob, if_pos (zaX (by omega) (by omega)), z6 h, yob];rw [ih m (o ++ [zjQ (s.take k)]) (s.drop k) (by simp; omega) (by simp; omega) (by simp; omega) (by simp; omega) (by simp only [List.flatten_append, List.flatten_cons, List.flatten_nil, yan, yla, yld]; omega)];simp
  ·rw [ydf (by omega), if_neg yfn, if_neg h];unfold zc8;rw [ztP o (by omega) (by omega), yob, yan]
def zs0 (size : Int) (b : Str) (tr : List api_Field) : Str × Int :=
 if decide (size < 1) || decide (65536 < size) then ([], 1) else if (zjZ tr).2 == 0 then ((zfk 601 size.toNat b).1 ++ (zjQ (zfk 601 size.toNat b).2 ++ (zjZ tr).1), 0) else ([], (zjZ tr).2)
theorem zuV {l : List api_Field} (hl : l.length ≤ 200) (hs : zaT 4000 l) : (zjZ l).1.length ≤ 2000000 := by
 have := zj8 hs;unfold zjZ
 split
 ·split
  ·simp
  ·simp only [ylc]; omega
 ·simp
theorem All_eq (size : Int) (b : Str) (tr : List api_Field) (hb : b.length ≤ 600) (hl : tr.length ≤ 200) (hs : zaT 4000 tr) : zjw size b tr = some (zs0 size b tr) := by
 unfold zjw zld zs0;have bad : ((zgc size true).bind fun r2 => zpo r2.1 (zil b tr r2.2) (fun x4 => zeJ b tr r2.2 x4.f_size x4.f_buf x4.f_done)) = some ([], 1) := rfl
 by_cases h1 : size < 1
 ·rw [ydt h1, if_pos rfl, bad, Bool.true_or, if_pos rfl]
 ·rw [ydf h1, if_neg yfn, Bool.false_or]
  by_cases h2 : 65536 < size
  ·rw [ydt h2, bad, if_pos rfl]
  ·obtain ⟨k, rfl⟩ : ∃ k : Nat, size = k := ⟨size.toNat, by omega⟩;rw [ydf h2, if_neg yfn, Int.toNat_natCast];show zeJ b tr 0 (k : Int) [] false = _;obtain ⟨f1, f2⟩ := zuU k (by omega) 601 b hb;have hp := zmo (zfk 601 k b).2 (by omega);have hll := zuV hl hs;have hput := zzy k (by omega) (by omega) false fuel 601 [] b (by unfold fuel; omega) (by omega) hb (by simp; omega) (by simp; omega);unfold zeJ zep za9;rw [show (!((0 : Int) == 0)) = false from rfl, if_neg yfn, if_neg yfn, yob];dsimp only;rw [show (!((0 : Int) == 0)) = false from rfl, if_neg yfn, zZ (by simp; omega), yob, yna, hput, yob];unfold zeq za9;dsimp only;rw [if_neg yfn, yob, show (!((0 : Int) == 0)) = false from rfl, if_neg yfn, zyS tr hl hs, yob]
   cases hz : (zjZ tr).2 == 0 with
   | false =>
    rw [ynf, if_pos rfl, yob, if_neg yfn];dsimp only;rw [hz, ynf, if_pos rfl]
   | true =>
    rw [ynt, if_neg yfn, zwT _ (by omega), yob, zZ (by omega), yob, yob, if_pos rfl];dsimp only;rw [show (!((0 : Int) == 0)) = false from rfl, if_neg yfn, zZ (by simp only [List.flatten_nil, yna, yla]; omega), yob];rfl

end Go.Dm
end
section
namespace Go.Dm
theorem zzp {l : List Nat} (h : ∀ d ∈ l, d < 16) : vals (zk l) = l := by
 unfold vals zk;rw [List.map_map];refine (List.map_congr_left (g := id) fun d hd => ?_).trans (List.map_id l);exact (zrf d (h d hd)).1
theorem zqN {l : List Nat} (h : ∀ d ∈ l, d < 16) : (zk l).all zfQ = true := by
 unfold zk;rw [List.all_map];exact List.all_eq_true.2 fun d hd => (zrf d (h d hd)).2.1
theorem zBy (n : Nat) : zk (digs 16 n) ≠ [] := by
 unfold zk;intro h;exact zsh (List.map_eq_nil_iff.1 h)
theorem zzq (n : Nat) (hn : n < 1048576) : zN 16 (zk (digs 16 n)) 1099511627776 = ((n : Int), 0) := by
 have hd := zsg (b := 16) (by decide) n (by omega);have hv := ztB (b := 16) (by decide) n (by omega)
 have h1 : (zk (digs 16 n) == []) = false := by
  cases h : zk (digs 16 n) with
  | nil => exact absurd h (zBy n)
  | cons x l => rfl
 have h2 : (zk (digs 16 n)).all (zkR 16) = true := zqN hd;unfold zN;rw [h1, h2, zzp hd, hv, ynt, Bool.or_false, if_neg yfn, if_neg (by omega)]
theorem zwN (x r9 : Int × Int) (u s : Str) (k n : Nat) (hs : s.length < 1000000000) (h : At s k []) (h9 : r9.2 = 0) : zdw (u, scn s k) r9 (n + 1) [] = some (r9.1, [], 0) := by
 obtain ⟨k', h1, h2⟩ := zfX hs 59 h;rw [zdw];dsimp only;rw [h2, yob];dsimp only;rw [zz1, if_neg yfn, zv4 h1, yob];unfold zdv;rw [h9];rfl
theorem zrZ (n : Nat) (hn : n < 1048576) : zfp (zk (digs 16 n)) = some ((n : Int), [], 0) := by
 have hd := zsg (b := 16) (by decide) n (by omega);have hl := zvy n hn;have ha := zqN hd
 have htk : (zk (digs 16 n)).takeWhile zfQ = zk (digs 16 n) := by
  have := List.takeWhile_append_of_pos (p := zfQ) (l₁ := zk (digs 16 n)) (l₂ := []) (List.all_eq_true.1 ha);simpa using this
 have hdr : (zk (digs 16 n)).dropWhile zfQ = [] := by
  have := List.dropWhile_append_of_pos (p := zfQ) (l₁ := zk (digs 16 n)) (l₂ := []) (List.all_eq_true.1 ha);simpa using this
 obtain ⟨k', h1, h2⟩ := zl3 zgK (s := zk (digs 16 n)) (by omega) (At.zero _);rw [htk] at h2;rw [hdr] at h1;unfold zfp;rw [zh2, yob, h2, yob];dsimp only;rw [ztJ _ _ (by omega) (by decide) (by decide), zzq n hn, yob];exact zwN (0, 0) _ _ (zk (digs 16 n)) k' 999999999999999999 (by omega) h1 rfl
def FL (s : Str) (n : Nat) (o : Str) (d : dechunk_Decoder) (i : Nat) (t : Bool) (e : Int) : Option (Int × Str × Bool × Int × dechunk_Decoder) :=
 zx s n o d.f_limit d.f_at d.f_line d.f_left d.f_sum d.f_spent d.f_trailers (i : Int) t e
def offD (d : dechunk_Decoder) : dechunk_Decoder := ⟨d.f_limit, 4, [], d.f_left, d.f_sum, d.f_spent, d.f_trailers⟩
theorem zx9 (s : Str) (n : Nat) (o : Str) (d : dechunk_Decoder) : FL s (n + 1) o d s.length false 0 = some ((s.length : Int), o, false, 0, d) := by
 unfold FL;rw [zx, ydf (by omega), if_neg yfn];rfl
theorem zC1 (s : Str) (n : Nat) (o : Str) (d : dechunk_Decoder) (i : Nat) : FL s (n + 1) o d i true 0 = some ((i : Int), o, true, 0, offD d) := by
 unfold FL;rw [zx];cases decide ((i : Int) < (s.length : Int)) <;> rfl
theorem zsb {s : Str} {i k : Nat} {d d' : dechunk_Decoder} {o q : Str} {t : Bool} {e : Int} (n : Nat) (hi : i < s.length) (hl : s.length < 100000000) (ho : o.length < 100000000) (hq : q.length < 100000000) (hk : k < 100000000)
  (hs : zw d (s.drop i) = some ((k : Int), q, t, e, d')) : FL s (n + 1) o d i false 0 = FL s n (o ++ q) d' (i + k) t e := by
 unfold FL;rw [zx, ydt (by omega), if_pos rfl, ynf, if_pos rfl];unfold zaI;rw [show ((0 : Int) == 0) = true from rfl, if_pos rfl, z6 (by omega), yob];show ((zw d (s.drop i)).bind _) = _;rw [hs, yob];dsimp only;rw [if_pos (zaX (by omega) (by omega)), zn5 (by omega), yob]
structure Seg (g : Str) (o : Str) (d : dechunk_Decoder) (o' : Str) (d' : dechunk_Decoder) : Prop where
 go : ∀ (s : Str) (i : Nat) (r : Str), s.length < 100000000 → At s i (g ++ r) → ∃ m, m ≤ g.length ∧ ∀ n, FL s (n + m) o d i false 0 = FL s n o' d' (i + g.length) false 0
 cut : ∀ (s : Str) (i : Nat) (p q : Str), s.length < 100000000 → At s i p → g = p ++ q → q ≠ [] → ∀ n, p.length < n → ∃ o2 d2, FL s n o d i false 0 = some ((s.length : Int), o2, false, 0, d2)
theorem At.end_nil {s : Str} {i : Nat} (h : At s i []) : i = s.length := by have := h.len; simpa using this
theorem Seg.nil (o : Str) (d : dechunk_Decoder) : Seg [] o d o d :=
 ⟨fun s i r _ _ => ⟨0, Nat.le_refl _, fun n => rfl⟩, fun s i p q _ _ h hq => by
  have := (List.append_eq_nil_iff.1 h.symm).2
  exact absurd this hq⟩
theorem Seg.app {a b o o1 o2 : Str} {d d1 d2 : dechunk_Decoder} (h1 : Seg a o d o1 d1) (h2 : Seg b o1 d1 o2 d2) : Seg (a ++ b) o d o2 d2 := by
 constructor
 ·intro s i r hs ha;rw [yaa] at ha;obtain ⟨m, hm, e⟩ := h1.go s i (b ++ r) hs ha
  have ha2 : At s (i + a.length) (b ++ r) := by
   have := ha.next a.length (by simp)
   rwa [List.drop_left] at this
  obtain ⟨m', hm', e'⟩ := h2.go s (i + a.length) r hs ha2;refine ⟨m' + m, by simp; omega, fun n => ?_⟩;rw [← Nat.add_assoc, e, e', yla, Nat.add_assoc]
 ·intro s i p q hs ha hpq hq n hn
  have viaA : ∀ a' : Str, p = a ++ a' → b = a' ++ q → ∃ o2 d2, FL s n o d i false 0 = some ((s.length : Int), o2, false, 0, d2) := by
   intro a' e1 e2;subst e1;obtain ⟨m, hm, e⟩ := h1.go s i a' hs ha
   have ha2 : At s (i + a.length) a' := by
    have := ha.next a.length (by simp)
    rwa [List.drop_left] at this
   rw [yla] at hn;obtain ⟨k, hk⟩ : ∃ k, n = k + m := ⟨n - m, by omega⟩;rw [hk, e];exact h2.cut s _ a' q hs ha2 e2 hq k (by omega)
  rcases List.append_eq_append_iff.1 hpq with ⟨a', e1, e2⟩ | ⟨c', e1, e2⟩
  ·exact viaA a' e1 e2
  ·by_cases hc : c' = []
   ·subst hc;exact viaA [] (by simp at e1 ⊢; exact e1.symm) (by simpa using e2.symm)
   ·exact h1.cut s i p c' hs ha e1 hc n hn
theorem Seg.one {c : UInt8} {o : Str} {d d' : dechunk_Decoder} (ho : o.length < 100000000) (h : ∀ r, zw d (c :: r) = some (1, [], false, 0, d')) : Seg [c] o d o d' := by
 constructor
 ·intro s i r hs ha;have hl := ha.len;have hd := ha.drop;refine ⟨1, by simp, fun n => ?_⟩;have := zsb (s := s) (i := i) (k := 1) (q := []) (o := o) (d := d) (d' := d') (t := false) (e := 0) n (by simp at hl; omega) hs ho (by simp) (by decide) (by rw [hd]; exact h r);rw [this, yan];rfl
 ·intro s i p q hs ha hpq hq n hn
  cases p with
  | nil =>
   obtain ⟨n, rfl⟩ : ∃ m, n = m + 1 := ⟨n - 1, by simp at hn; omega⟩;rw [ha.end_nil];exact ⟨o, d, zx9 s n o d⟩
  | cons x p =>
   have := congrArg List.length hpq;rw [yla, ylc, ylc, yln] at this;exact absurd (List.length_eq_zero_iff.1 (by omega)) hq
theorem Seg.data {x o : Str} {L lf sm sp : Int} {tr : List api_Field} {ln : Str} (hx : x ≠ []) (hl : lf = (x.length : Int)) (hxm : x.length < 100000000) (ho : o.length < 100000000) : Seg x o ⟨L, 1, ln, lf, sm, sp, tr⟩ (o ++ x) ⟨L, 2, ln, 2, sm, sp, tr⟩ := by
 subst hl;have hxl : 0 < x.length := List.length_pos_iff.2 hx;constructor
 ·intro s i r hs ha;have hlen := ha.len;have hd := ha.drop;rw [yla] at hlen;refine ⟨1, by omega, fun n => ?_⟩;refine zsb n (by omega) hs ho (by omega) (by omega) ?_;rw [hd];unfold zw zcA zaH;dsimp only
  have e1 : min (x.length : Int) ((x ++ r).length : Int) = (x.length : Int) := by rw [yla]; omega
  rw [show ((1 : Int) == 1) = true from rfl, if_pos rfl, e1, zaJ (by omega) (by omega), yob, show (((x.length : Int) - (x.length : Int)) == 0) = true by rw [Int.sub_self]; rfl, if_pos rfl, zc9 (by simp), yob, List.take_left, yob]
 ·intro s i p q hs ha hpq hq n hn;have hlen := ha.len;have hd := ha.drop
  by_cases hp : p = []
  ·subst hp;obtain ⟨n, rfl⟩ : ∃ m, n = m + 1 := ⟨n - 1, by simp at hn; omega⟩;rw [ha.end_nil];exact ⟨o, _, zx9 s n o _⟩
  ·have hql : 0 < q.length := List.length_pos_iff.2 hq
   have hle : x.length = p.length + q.length := by rw [hpq, yla]
   have hpl : 0 < p.length := List.length_pos_iff.2 hp;obtain ⟨n, rfl⟩ : ∃ m, n = m + 1 + 1 := ⟨n - 2, by omega⟩;refine ⟨o ++ p, ⟨L, 1, ln, (x.length : Int) - (p.length : Int), sm, sp, tr⟩, ?_⟩
   have := zsb (s := s) (i := i) (k := p.length) (q := p) (o := o) (d := ⟨L, 1, ln, (x.length : Int), sm, sp, tr⟩) (d' := ⟨L, 1, ln, (x.length : Int) - (p.length : Int), sm, sp, tr⟩) (t := false) (e := 0) (n + 1) (by omega) hs ho (by omega) (by omega) (by
    rw [hd];unfold zw zcA zaH;dsimp only
    have e1 : min (x.length : Int) (p.length : Int) = (p.length : Int) := by omega
    have e2 : (((x.length : Int) - (p.length : Int)) == 0) = false := by rw [beq_eq_false_iff_ne]; omega
    rw [show ((1 : Int) == 1) = true from rfl, if_pos rfl, e1, zaJ (by omega) (by omega), yob, e2, if_neg yfn, zc9 (Nat.le_refl _), yob, List.take_length, yob])
   rw [this, show i + p.length = s.length by omega];exact zx9 s n _ _
def zj5 (a : Int) : Int := if a == 3 then 1 else 0
theorem zpV (L a lf sm sp : Int) (u : Str) (tr : List api_Field) (c : UInt8) (i5 : Int) (hu : u.length < 4098) (h13 : zl0 u = false) (hc : (c == 10) = false) (hL : i5 ≤ L) :
  zA ⟨L, a, u, lf, sm, sp, tr⟩ c i5 = some (false, 0, ⟨L, a, u ++ [c], lf, sm, i5, tr⟩) := by
 have j2 : ∀ q, q = false → zaf ⟨L, a, u, lf, sm, sp, tr⟩ c i5 q = some (false, 0, ⟨L, a, u ++ [c], lf, sm, i5, tr⟩) := by
  intro q hq;subst hq;unfold zaf zaC;dsimp only;rw [ydf (show ¬ ((4098 : Int) ≤ (u.length : Int)) by omega), if_neg yfn, ydf (show ¬ (L < i5) by omega), if_neg yfn, hc];rw [show (!((false : Bool) == false)) = false from rfl, if_neg yfn, ynf, if_pos rfl, if_pos (zaX (by omega) (by omega))]
 unfold zA;dsimp only
 by_cases h : 0 < u.length
 ·have g : u[u.length - 1]? = some (u[u.length - 1]'(by omega)) := ygg (by omega)
  have e2 : zcu (u.length : Int) 1 = some ((u.length - 1 : Nat) : Int) := by rw [zaJ (by omega) (by omega)]; exact congrArg some (by omega)
  rw [ydt (show 0 < (u.length : Int) by omega), if_pos rfl, e2, yob, zY, g, yob];refine j2 _ ?_;unfold zl0 at h13;rw [g] at h13;simpa using h13
 ·rw [ydf (by omega), if_neg yfn];exact j2 _ rfl
theorem zwO (L a lf sm sp : Int) (u : Str) (tr : List api_Field) (c : UInt8) (r : Str) (ha : a = 0 ∨ a = 3) (hu : u.length < 4098) (h13 : zl0 u = false) (hc : (c == 10) = false) (hL : sp + zj5 a ≤ L) (h0 : 0 ≤ sp) (h1 : sp < 1000000000) :
  zw ⟨L, a, u, lf, sm, sp, tr⟩ (c :: r) = some (1, [], false, 0, ⟨L, a, u ++ [c], lf, sm, sp + zj5 a, tr⟩) := by
 have e1 : (a == 1) = false := by rcases ha with rfl | rfl <;> rfl
 have e2 : (a == 2) = false := by rcases ha with rfl | rfl <;> rfl
 have key : zJ ⟨L, a, u, lf, sm, sp, tr⟩ c = some (false, 0, ⟨L, a, u ++ [c], lf, sm, sp + zj5 a, tr⟩) := by
  unfold zJ;dsimp only;unfold zj5 at hL ⊢
  cases e3 : a == 3 with
  | true =>
   rw [e3, if_pos rfl] at hL;rw [if_pos rfl, if_pos rfl, zb1 (by omega) (by omega), yob, zpV L a lf sm sp u tr c (sp + 1) hu h13 hc hL]
  | false =>
   rw [e3, if_neg yfn] at hL;rw [if_neg yfn, if_neg yfn, zpV L a lf sm sp u tr c sp hu h13 hc (by omega), Int.add_zero]
 unfold zw;dsimp only;rw [e1, if_neg yfn, e2, if_neg yfn, ziC, show (c :: r)[0]? = some c from rfl, yob, key, yob]
theorem zqO (L a lf sm sp : Int) (u : Str) (tr : List api_Field) (c : UInt8) (r : Str) (ha : a = 0 ∨ a = 3) :
  zw ⟨L, a, u, lf, sm, sp, tr⟩ (c :: r) = (zJ ⟨L, a, u, lf, sm, sp, tr⟩ c).bind fun r25 => some (1, [], r25.1, r25.2.1, r25.2.2) := by
 have e1 : (a == 1) = false := by rcases ha with rfl | rfl <;> rfl
 have e2 : (a == 2) = false := by rcases ha with rfl | rfl <;> rfl
 unfold zw;dsimp only;rw [e1, if_neg yfn, e2, if_neg yfn, ziC, show (c :: r)[0]? = some c from rfl, yob]
theorem zC2 (L lf sm sp : Int) (u : Str) (tr : List api_Field) (c : UInt8) : zJ ⟨L, 0, u, lf, sm, sp, tr⟩ c = zA ⟨L, 0, u, lf, sm, sp, tr⟩ c sp := by
 unfold zJ;dsimp only;rw [show ((0 : Int) == 3) = false from rfl, if_neg yfn]
theorem zyR (L lf sm sp : Int) (u : Str) (tr : List api_Field) (c : UInt8) (h0 : 0 ≤ sp) (h1 : sp < 1000000000) : zJ ⟨L, 3, u, lf, sm, sp, tr⟩ c = zA ⟨L, 3, u, lf, sm, sp, tr⟩ c (sp + 1) := by
 unfold zJ;dsimp only;rw [show ((3 : Int) == 3) = true from rfl, if_pos rfl, zb1 (by omega) (by omega), yob]
theorem zlJ (u : Str) (c : UInt8) : zl0 (u ++ [c]) = (c == 13) := by
 unfold zl0;simp
theorem zpW (L a lf sm : Int) (tr : List api_Field) (o : Str) (ha : a = 0 ∨ a = 3) (ho : o.length < 100000000) : ∀ (w u : Str) (sp : Int), (13 : UInt8) ∉ w → (10 : UInt8) ∉ w → zl0 u = false → u.length + w.length < 4097 → 0 ≤ sp → sp + zj5 a * (w.length + 1) ≤ L → L ≤ 1000000 →
  Seg (w ++ [13]) o ⟨L, a, u, lf, sm, sp, tr⟩ o ⟨L, a, u ++ w ++ [13], lf, sm, sp + zj5 a * (w.length + 1), tr⟩
 | [], u, sp, _, _, h13, hl, h0, hL, hLm => by
  have e : zj5 a * ((([] : Str).length : Int) + 1) = zj5 a := by simp
  rw [e] at hL ⊢
  have hi : 0 ≤ zj5 a := by unfold zj5; split <;> omega
  rw [yna, yan];simp only [yln] at hl;exact Seg.one ho fun r => zwO L a lf sm sp u tr 13 r ha (by omega) h13 rfl hL h0 (by omega)
 | c :: w, u, sp, hw, hv, h13, hl, h0, hL, hLm => by
  have hi : 0 ≤ zj5 a := by unfold zj5; split <;> omega
  have e : sp + zj5 a * (((c :: w).length : Int) + 1) = (sp + zj5 a) + zj5 a * ((w.length : Int) + 1) := by
   rw [ylc, show (((w.length + 1 : Nat) : Int) + 1) = 1 + ((w.length : Int) + 1) by omega, Int.mul_add, Int.mul_one, Int.add_assoc]
  rw [e] at hL ⊢;have hm : 0 ≤ zj5 a * ((w.length : Int) + 1) := Int.mul_nonneg hi (by omega);simp only [ylc] at hl
  have hc13 : (c == 13) = false := by
   rw [beq_eq_false_iff_ne]; rintro rfl; exact hw (List.mem_cons_self ..)
  have hc10 : (c == 10) = false := by
   rw [beq_eq_false_iff_ne]; rintro rfl; exact hv (List.mem_cons_self ..)
  have h1 : Seg [c] o ⟨L, a, u, lf, sm, sp, tr⟩ o ⟨L, a, u ++ [c], lf, sm, sp + zj5 a, tr⟩ := Seg.one ho fun r => zwO L a lf sm sp u tr c r ha (by omega) h13 hc10 (by omega) h0 (by omega);have h2 := zpW L a lf sm tr o ha ho w (u ++ [c]) (sp + zj5 a) (fun h => hw (List.mem_cons_of_mem _ h)) (fun h => hv (List.mem_cons_of_mem _ h)) (by rw [zlJ, hc13]) (by simp; omega) (by omega) hL hLm;have := h1.app h2;simpa using this
theorem zmm (L a lf sm sp : Int) (w : Str) (tr : List api_Field) (i5 : Int) (hu : w.length < 4097) (hL : i5 ≤ L) :
  zA ⟨L, a, w ++ [13], lf, sm, sp, tr⟩ 10 i5 = if (a == 0) = true then (zbr ⟨L, a, [], lf, sm, i5, tr⟩ w).bind fun r => some (false, r.1, r.2) else (zbs ⟨L, a, [], lf, sm, i5, tr⟩ w).bind fun r => some (r.1, r.2.1, r.2.2) := by
 unfold zA;dsimp only
 have hl : ((w ++ [(13 : UInt8)]).length : Int) = (w.length : Int) + 1 := by simp
 have e2 : zcu ((w ++ [(13 : UInt8)]).length : Int) 1 = some (w.length : Int) := by rw [hl, zaJ (by omega) (by omega)]; exact congrArg some (by omega)
 have g0 : 0 < ((w ++ [13]).length : Int) := by rw [hl]; omega
 have g1 : ¬ ((4098 : Int) ≤ ((w ++ [13]).length : Int)) := by rw [hl]; omega
 have g2 : (w ++ [(13 : UInt8)])[w.length]? = some 13 := by simp
 rw [ydt g0, if_pos rfl, e2, yob, zY, g2, yob];unfold zaf zaC;dsimp only;rw [ydf g1, if_neg yfn, ydf (show ¬ (L < i5) by omega), if_neg yfn];rw [show (!(((10 : UInt8) == 10) == ((13 : UInt8) == 13))) = false from rfl, if_neg yfn, show (!((10 : UInt8) == 10)) = false from rfl, if_neg yfn, e2, yob]
 have e3 : lTo (w ++ [(13 : UInt8)]) (w.length : Int) = some w := by
  have := zc9 (l := w ++ [13]) (h := w.length) (by simp);rw [List.take_left] at this;exact this
 rw [e3, yob]
theorem zBz (L lf sm sp : Int) (tr : List api_Field) (n : Nat) (hn : n < 1048576) (hs0 : 0 ≤ sm) (hs : sm + n ≤ 1099511627776) :
  zbr ⟨L, 0, [], lf, sm, sp, tr⟩ (zk (digs 16 n)) = some (0, if n = 0 then ⟨L, 3, [], lf, sm, sp, tr⟩ else ⟨L, 1, [], (n : Int), sm + n, sp, tr⟩) := by
 have g : ¬ ((1099511627776 : Int) - sm < (n : Int)) := by omega
 have e0 : (!((0 : Int) == 0)) = false := rfl;unfold zbr;rw [zrZ n hn, yob];dsimp only;rw [e0, if_neg yfn, zaJ (by omega) (by omega), yob, ydf g, if_neg yfn]
 by_cases hz : n = 0
 ·have : ((n : Int) == 0) = true := by rw [beq_iff_eq]; omega
  rw [this, if_pos rfl, if_pos hz]
 ·have : ((n : Int) == 0) = false := by rw [beq_eq_false_iff_ne]; omega
  rw [this, if_neg yfn, zb1 (by omega) (by omega), yob, if_neg hz]
theorem zwP (L lf sm sp : Int) (tr : List api_Field) (o : Str) (ho : o.length < 100000000) (n : Nat) (hn : n < 1048576) (h0 : 0 ≤ sp) (hL : sp ≤ L) (hLm : L ≤ 1000000) (hs0 : 0 ≤ sm) (hs : sm + n ≤ 1099511627776) :
  Seg (zk (digs 16 n) ++ [13, 10]) o ⟨L, 0, [], lf, sm, sp, tr⟩ o (if n = 0 then ⟨L, 3, [], lf, sm, sp, tr⟩ else ⟨L, 1, [], (n : Int), sm + n, sp, tr⟩) := by
 have hd := zsg (b := 16) (by decide) n (by omega);have hl := zvy n hn;have ha := List.all_eq_true.1 (zqN hd);have h1 := zpW L 0 lf sm tr o (.inl rfl) ho (zk (digs 16 n)) [] sp (fun h => absurd (ha _ h) (by decide)) (fun h => absurd (ha _ h) (by decide)) rfl (by simp; omega) h0 (by rw [show zj5 0 = 0 from rfl]; omega) hLm;rw [show zj5 0 = 0 from rfl, Int.zero_mul, Int.add_zero, yna] at h1
 have h2 : Seg [10] o ⟨L, 0, zk (digs 16 n) ++ [13], lf, sm, sp, tr⟩ o (if n = 0 then ⟨L, 3, [], lf, sm, sp, tr⟩ else ⟨L, 1, [], (n : Int), sm + n, sp, tr⟩) := by
  refine Seg.one ho fun r => ?_;have e0 : ((0 : Int) == 0) = true := rfl;rw [zqO _ _ _ _ _ _ _ _ _ (.inl rfl), zC2, zmm L 0 lf sm sp _ tr sp (by omega) hL, if_pos e0, zBz L lf sm sp tr n hn hs0 hs, yob, yob]
 have := h1.app h2;simpa using this
theorem zzr (L sm sp : Int) (tr : List api_Field) (o : Str) (ho : o.length < 100000000) : Seg [13, 10] o ⟨L, 2, [], 2, sm, sp, tr⟩ o ⟨L, 0, [], 0, sm, sp, tr⟩ := by
 have h1 : Seg [13] o ⟨L, 2, [], 2, sm, sp, tr⟩ o ⟨L, 2, [], 1, sm, sp, tr⟩ := Seg.one ho fun r => rfl;have h2 : Seg [10] o ⟨L, 2, [], 1, sm, sp, tr⟩ o ⟨L, 0, [], 0, sm, sp, tr⟩ := Seg.one ho fun r => rfl;exact h1.app h2
theorem zuT (L sm sp : Int) (tr : List api_Field) (x o : Str) (ho : o.length < 100000000) (hx : x.length < 1048576) (h0 : 0 ≤ sp) (hL : sp ≤ L) (hLm : L ≤ 1000000) (hs0 : 0 ≤ sm) (hs : sm + x.length ≤ 1099511627776) (hox : o.length + x.length < 100000000) :
  Seg (zjQ x) o ⟨L, 0, [], 0, sm, sp, tr⟩ (o ++ x) ⟨L, 0, [], 0, sm + x.length, sp, tr⟩ := by
 unfold zjQ
 cases x with
 | nil =>
  rw [if_pos (show (([] : Str) == []) = true from rfl), yan]
  have : sm + (([] : Str).length : Int) = sm := by simp
  rw [this];exact Seg.nil o _
 | cons c x =>
  rw [if_neg (show ¬ ((c :: x : Str) == []) = true from yfn)];have h1 := zwP L 0 sm sp tr o ho (c :: x).length hx h0 hL hLm hs0 hs;rw [if_neg (by simp)] at h1;have h2 := Seg.data (x := c :: x) (o := o) (L := L) (lf := ((c :: x).length : Int)) (sm := sm + ((c :: x).length : Int)) (sp := sp) (tr := tr) (ln := []) (by simp) rfl (by omega) ho;have h3 := zzr L (sm + ((c :: x).length : Int)) sp tr (o ++ c :: x) (by simp at hox ⊢; omega);have := (h1.app h2).app h3;simpa using this
theorem zwQ (L sp : Int) (tr : List api_Field) (k : Nat) (hk : 1 ≤ k) (h0 : 0 ≤ sp) (hL : sp ≤ L) (hLm : L ≤ 1000000) : ∀ (n : Nat) (x o : Str) (sm : Int), x.length ≤ 600 → o.length + x.length < 10000 → 0 ≤ sm → sm + x.length ≤ 10000 →
  ∃ a, x = a ++ (zfk n k x).2 ∧ Seg (zfk n k x).1 o ⟨L, 0, [], 0, sm, sp, tr⟩ (o ++ a) ⟨L, 0, [], 0, sm + a.length, sp, tr⟩
 | 0, x, o, sm, hx, ho, h1, h2 => ⟨[], by simp [zfk], by
  have e : sm + (([] : Str).length : Int) = sm := by simp
  rw [e, yan]
  exact Seg.nil o _⟩
 | n + 1, x, o, sm, hx, ho, h1, h2 => by
  rw [zfk]
  by_cases hle : k ≤ x.length
  ·rw [if_pos hle]
   have htl : (x.take k).length = k := by simp; omega
   have s1 := zuT L sm sp tr (x.take k) o (by omega) (by omega) h0 hL hLm h1 (by omega) (by omega);obtain ⟨a, e, s2⟩ := zwQ L sp tr k hk h0 hL hLm n (x.drop k) (o ++ x.take k) (sm + (x.take k).length) (by simp; omega) (by simp; omega) (by omega) (by simp; omega);refine ⟨x.take k ++ a, ?_, ?_⟩
   ·dsimp only;rw [yaa, ← e, List.take_append_drop]
   ·have := s1.app s2;rw [yaa] at this
    have e3 : sm + ((x.take k).length : Int) + (a.length : Int) = sm + ((x.take k ++ a).length : Int) := by rw [yla]; omega
    rw [e3] at this;exact this
  ·rw [if_neg hle];refine ⟨[], rfl, ?_⟩
   have e : sm + (([] : Str).length : Int) = sm := by simp
   rw [e, yan];exact Seg.nil o _
def spF : List api_Field → Int
 | [] => 0
 | f :: fs => ((zO f).length : Int) + 2 + spF fs
theorem zmn : ∀ fs, 0 ≤ spF fs
 | [] => Int.le_refl _
 | f :: fs => by have := zmn fs; unfold spF; omega
theorem zzs (L sm sp : Int) (tr : List api_Field) (o : Str) (ho : o.length < 100000000) (f : api_Field) (hf : zbi f = 0) (hl : (zO f).length < 4000) (h0 : 0 ≤ sp) (hL : sp + (zO f).length + 2 ≤ L) (hLm : L ≤ 1000000) (ht : tr.length < 100) :
  Seg (zO f ++ [13, 10]) o ⟨L, 3, [], 0, sm, sp, tr⟩ o ⟨L, 3, [], 0, sm, sp + (zO f).length + 2, tr ++ [f]⟩ := by
 obtain ⟨v1, v2⟩ := zoe hf;obtain ⟨n1, n2⟩ := zso v1;have h1 := zpW L 3 0 sm tr o (.inr rfl) ho (zO f) [] sp n1 n2 rfl (by simp; omega) h0 (by rw [show zj5 3 = 1 from rfl]; omega) hLm;rw [show zj5 3 = 1 from rfl, Int.one_mul, yna] at h1
 have h2 : Seg [10] o ⟨L, 3, zO f ++ [13], 0, sm, sp + ((zO f).length + 1), tr⟩ o ⟨L, 3, [], 0, sm, sp + (zO f).length + 2, tr ++ [f]⟩ := by
  refine Seg.one ho fun r => ?_
  have e0 : ¬ ((3 : Int) == 0) = true := by decide
  rw [zqO _ _ _ _ _ _ _ _ _ (.inr rfl), zyR _ _ _ _ _ _ _ (by omega) (by omega), zmm L 3 0 sm _ _ tr _ (by omega) (by omega), if_neg e0];unfold zbs;dsimp only
  have hne : (zO f == []) = false := by
   cases h : zO f with
   | nil => exact absurd h v2
   | cons x l => rfl
  rw [hne, if_neg yfn, zhG _ (by omega), znh hf, yob];dsimp only;rw [show (!((0 : Int) == 0)) = false from rfl, if_neg yfn, ydf (by omega), if_neg yfn, if_pos (zaX (by omega) (by omega)), yob, yob, show sp + (((zO f).length : Int) + 1) + 1 = sp + (zO f).length + 2 by omega]
 have := h1.app h2;simpa using this
theorem zwR (L sm : Int) (o : Str) (ho : o.length < 100000000) (hLm : L ≤ 1000000) : ∀ (fs tr : List api_Field) (sp : Int), (∀ f ∈ fs, zbi f = 0 ∧ (zO f).length < 4000) → 0 ≤ sp → sp + spF fs + 2 ≤ L → tr.length + fs.length ≤ 100 →
  ∃ g, zag fs = g ++ [10] ∧ Seg g o ⟨L, 3, [], 0, sm, sp, tr⟩ o ⟨L, 3, [13], 0, sm, sp + spF fs + 1, tr ++ fs⟩
 | [], tr, sp, _, h0, hL, ht => by
  refine ⟨[13], rfl, ?_⟩;rw [yan];unfold spF at hL ⊢;have := zpW L 3 0 sm tr o (.inr rfl) ho [] [] sp (by simp) (by simp) rfl (by decide) h0 (by rw [show zj5 3 = 1 from rfl]; simp; omega) hLm;rw [show zj5 3 = 1 from rfl] at this;simpa using this
 | f :: fs, tr, sp, hc, h0, hL, ht => by
  have hn := zmn fs;simp only [ylc] at ht;unfold spF at hL ⊢;obtain ⟨c1, c2⟩ := hc f (List.mem_cons_self ..);have s1 := zzs L sm sp tr o ho f c1 c2 h0 (by omega) hLm (by omega);obtain ⟨g, e, s2⟩ := zwR L sm o ho hLm fs (tr ++ [f]) (sp + (zO f).length + 2) (fun x hx => hc x (List.mem_cons_of_mem _ hx)) (by omega) (by omega) (by simp; omega);refine ⟨(zO f ++ [13, 10]) ++ g, ?_, ?_⟩
  ·rw [zag, e]; simp
  ·have := s1.app s2
   have e5 : tr ++ [f] ++ fs = tr ++ f :: fs := by simp
   rw [e5] at this;rw [show sp + (((zO f).length : Int) + 2 + spF fs) + 1 = sp + ((zO f).length : Int) + 2 + spF fs + 1 by omega];exact this
def d0 (L : Int) : dechunk_Decoder := ⟨L, 0, [], 0, 0, 0, []⟩
theorem zC3 (L : Int) (hLm : L ≤ 1000000) (k : Nat) (hk : 1 ≤ k) (x : Str) (hx : x.length ≤ 600) (tr : List api_Field) (hc : ∀ f ∈ tr, zbi f = 0 ∧ (zO f).length < 4000) (hL : spF tr + 2 ≤ L) (ht : tr.length ≤ 100) :
  ∃ g, (zfk 601 k x).1 ++ (zjQ (zfk 601 k x).2 ++ 48 :: 13 :: 10 :: zag tr) = g ++ [10] ∧ Seg g [] (d0 L) x ⟨L, 3, [13], 0, (x.length : Int), spF tr + 1, tr⟩ := by
 have hn := zmn tr;obtain ⟨a, e, s1⟩ := zwQ L 0 [] k hk (Int.le_refl _) (by omega) hLm 601 x [] 0 hx (by simp; omega) (Int.le_refl _) (by omega);have hlx := congrArg List.length e;rw [yla] at hlx;have s2 := zuT L (0 + (a.length : Int)) 0 [] (zfk 601 k x).2 ([] ++ a) (by simp; omega) (by omega) (Int.le_refl _) (by omega) hLm (by omega) (by omega) (by simp; omega);rw [yna] at s1 s2;rw [← e] at s2
 have e1 : 0 + (a.length : Int) + ((zfk 601 k x).2.length : Int) = (x.length : Int) := by omega
 rw [e1] at s2;have s3 := zwP L 0 (x.length : Int) 0 [] x (by omega) 0 (by decide) (Int.le_refl _) (by omega) hLm (by omega) (by omega);rw [if_pos rfl, show zk (digs 16 0) = [48] by decide] at s3;obtain ⟨g, e4, s4⟩ := zwR L (x.length : Int) x (by omega) hLm tr [] 0 hc (Int.le_refl _) (by omega) (by simp; omega);refine ⟨(zfk 601 k x).1 ++ (zjQ (zfk 601 k x).2 ++ (([48] ++ [13, 10]) ++ g)), ?_, ?_⟩
 ·rw [e4]; simp
 ·have := s1.app (s2.app (s3.app s4));rw [yna, Int.zero_add] at this;exact this
theorem zzt (L sm sp : Int) (tr : List api_Field) (r : Str) (h0 : 0 ≤ sp) (hL : sp + 1 ≤ L) (hLm : L ≤ 1000000) : zw ⟨L, 3, [13], 0, sm, sp, tr⟩ (10 :: r) = some (1, [], true, 0, ⟨L, 3, [], 0, sm, sp + 1, tr⟩) := by
 have e0 : ¬ ((3 : Int) == 0) = true := by decide
 rw [zqO _ _ _ _ _ _ _ _ _ (.inr rfl), zyR _ _ _ _ _ _ _ h0 (by omega)];have := zmm L 3 0 sm sp [] tr (sp + 1) (by decide) hL;rw [yna, if_neg e0] at this;rw [this];rfl
theorem zzu {L : Int} {g x : Str} {sm sp : Int} {tr : List api_Field} (hs : Seg g [] (d0 L) x ⟨L, 3, [13], 0, sm, sp, tr⟩) (h0 : 0 ≤ sp) (hL : sp + 1 ≤ L) (hLm : L ≤ 1000000) (hx : x.length < 100000000) (r : Str) (hl : (g ++ [10] ++ r).length < 100000000) :
  zar (d0 L) (g ++ [10] ++ r) = some (((g ++ [10]).length : Int), x, true, 0, ⟨L, 4, [], 0, sm, sp + 1, tr⟩) := by
 have ha : At (g ++ [10] ++ r) 0 (g ++ (10 :: r)) := ⟨yz _, by simp⟩;obtain ⟨m, hm, e⟩ := hs.go _ 0 _ hl ha
 have ha2 : At (g ++ [10] ++ r) (0 + g.length) (10 :: r) := by
  have := ha.next g.length (by simp)
  rwa [List.drop_left] at this
 have hlen := ha2.len;simp only [yla, ylc, yln] at hl hlen;unfold zar;show FL (g ++ [10] ++ r) fuel [] (d0 L) 0 false 0 = _;obtain ⟨n, hn⟩ : ∃ n, fuel = n + 1 + 1 + m := ⟨fuel - m - 2, by unfold fuel; omega⟩;rw [hn, e, zsb (k := 1) (q := []) (n + 1) (by simp) (by simp; omega) hx (by simp) (by decide) (by rw [ha2.drop]; exact zzt L sm sp tr r h0 hL hLm), zC1, yan, Nat.zero_add, yla];rfl
end Go.Dm
end
section
namespace Go.Dm
def cutT (l : List api_Field) : List api_Field := (l.take 105).map fun f => ⟨f.Name.take 50, f.Value.take 200⟩
theorem zzI (s : Str) : sTo s (min (s.length : Int) 50) = some (s.take 50) := zqv s 50
theorem zyf (s : Str) : sTo s (min (s.length : Int) 200) = some (s.take 200) := zqv s 200
theorem zs9 (s : Str) : sTo s (min (s.length : Int) 500) = some (s.take 500) := zqv s 500
theorem zp0 (l : List api_Field) (hl : l.length < 1000000000) : zlS l = some (cutT l) := by
 unfold zlS
 have key : ∀ (n i : Nat) (out : List api_Field), i ≤ l.length → i ≤ 105 → l.length - i < n → out.length = i → zd2 l n out (i : Int) = some (out ++ ((l.drop i).take (105 - i)).map fun f => ⟨f.Name.take 50, f.Value.take 200⟩) := by
  intro n
  induction n with
  | zero => intro i _ _ _ h; omega
  | succ n ih =>
   intro i out hi h120 hn ho;rw [zd2];unfold zij
   by_cases hlt : i < l.length
   ·have g : l[i]? = some l[i] := ygg hlt;rw [ydt (show (i : Int) < (l.length : Int) by omega), if_pos rfl]
    by_cases h2 : i < 105
    ·rw [ydt (show (i : Int) < 105 by omega), if_pos rfl, zY, g, yob, yob, zzI, yob, yob, yob, zyf, yob, if_pos (zaX (by omega) (by omega)), zi (by omega), yob, ih (i + 1) _ (by omega) (by omega) (by omega) (by simp; omega), ydg hlt, show 105 - i = (105 - (i + 1)) + 1 by omega, List.take_succ_cons];simp
    ·have : i = 105 := by omega
     subst this;rw [ydf (by omega), if_neg (by decide)];simp
   ·have : i = l.length := by omega
    rw [ydf (by omega), if_neg (by decide), if_neg (by decide), this, ydl];simp
 have := key fuel 0 [] (yz _) (by decide) (by unfold fuel; omega) rfl;exact this
structure SmallM (m : api_Message) : Prop where
 head : smallH m.Head
 len : m.Head.Fields.length ≤ 120
 fields : zaT 401 m.Head.Fields
 body : m.Body.length ≤ 500
 tlen : m.Trailers.length ≤ 105
 trailers : zaT 401 m.Trailers
theorem few22 (m : api_Message) (hc : inI m.Head.Code = true) (hmi : inI m.Head.Minor = true) (hl : m.Head.Fields.length < 1000000000) (ht : m.Trailers.length < 1000000000) : ∃ g, zi1 m = some g ∧ SmallM g := by
 unfold zi1;rw [zp1 _ hl, yob, zs9, yob, zp0 _ ht, yob];refine ⟨_, rfl, ⟨hc, hmi, by simp; omega, by simp; omega, by simp; omega⟩, zBK _, zyg _, by simp; omega, by unfold cutT; simp; omega, ?_⟩;intro f hf;obtain ⟨g, _, rfl⟩ := List.mem_map.1 hf
 simp; omega
def zvM (f : api_Frame) : Prop := f.Kind = 1 ∨ f.Kind = 2 ∨ f.Kind = 3 ∨ f.Kind = 4
theorem zvN (o : Option (List Int)) (h : ((zhA o).2 == 0) = true) : zvM (zhA o).1 := by
 unfold zhA at h ⊢
 split
 ·cases h
 ·cases h
 ·split
  ·exact .inr (.inl rfl)
  ·rename_i h2
   dsimp only at h;rw [if_neg h2] at h; cases h
theorem zvO (m : Int) (te : List Str) (h : ((ziG m te).2 == 0) = true) : zvM (ziG m te).1 := by
 unfold ziG at h ⊢
 split
 ·rename_i h1
  rw [if_pos h1] at h
  split
  ·rename_i x hx
   rw [hx] at h;dsimp only at h
   split
   ·exact .inr (.inr (.inl rfl))
   ·rename_i h2; rw [if_neg h2] at h; cases h
  ·rename_i hx
   split at h
   ·rename_i x hx2; exact absurd hx2 (hx x)
   ·cases h
 ·rename_i h1; rw [if_neg h1] at h; cases h
theorem zrA (g : api_Head) (k : Int) (hk : k = 1 ∨ k = 4) (h : ((zi9 g k).2 == 0) = true) : zvM (zi9 g k).1 := by
 unfold zi9 at h ⊢
 split
 ·rename_i h1
  rw [if_pos h1] at h
  split
  ·rcases hk with rfl | rfl
   ·exact .inl rfl
   ·exact .inr (.inr (.inr rfl))
  ·rename_i h2; rw [if_neg h2] at h; exact zvN _ h
 ·rename_i h1
  rw [if_neg h1] at h
  split
  ·rename_i h2; rw [if_pos h2] at h; exact zvO _ _ h
  ·rename_i h2; rw [if_neg h2] at h; cases h
theorem zw0 (m : Str) (g : api_Head) (h : ((zcL m g).2 == 0) = true) : zvM (zcL m g).1 := by
 unfold zcL at h ⊢
 split
 ·rename_i h1; rw [if_pos h1] at h; exact zrA g 1 (.inl rfl) h
 ·rename_i h1
  rw [if_neg h1] at h
  split
  ·exact .inl rfl
  ·rename_i h2; rw [if_neg h2] at h; exact zrA g 4 (.inr rfl) h
def zoZ (m : api_Message) : Bool :=
 if m.Frame.Kind == 1 then (m.Body == []) && (m.Trailers == []) else if m.Frame.Kind == 2 then ((m.Body.length : Int) == m.Frame.N) && (m.Trailers == []) else if m.Frame.Kind == 4 then m.Trailers == [] else true
theorem zC9 {α : Type} [DecidableEq α] (l : List α) : ((l.length : Int) == 0) = (l == []) := by
 cases l with
 | nil => rfl
 | cons x l => simp <;> omega
theorem zDa {α : Type} [DecidableEq α] (l : List α) : decide (0 < (l.length : Int)) = !(l == []) := by
 cases l with
 | nil => rfl
 | cons x l => simp <;> omega
theorem zDb (m : api_Message) : zik m = some (zoZ m) := by
 unfold zik zfq zfr zoZ;rw [zC9];cases m.Frame.Kind == 1 <;> cases m.Frame.Kind == 2 <;> cases m.Frame.Kind == 4 <;> cases m.Body == [] <;> cases (m.Body.length : Int) == m.Frame.N <;> rfl
def zf4 (method : Str) (m : api_Message) : Int :=
 if zct m.Head == 0 then (if (zcL method m.Head).2 == 0 then (if (zcL method m.Head).1 == m.Frame then (if zoZ m then (zjZ m.Trailers).2 else 1) else 1) else (zcL method m.Head).2) else zct m.Head
theorem zqU (method : Str) (m : api_Message) (h : SmallM m) : zhl method m = some (zf4 method m) := by
 have h1 := h.len;have h2 := h.tlen;unfold zhl zf4 zeI;rw [zoF _ h.head (by omega) (zM (by decide) h.fields), yob, zl8 _ _ (by omega) (zM (by decide) h.fields), yob, zDb, yob, zyS _ (by omega) (zM (by decide) h.trailers), yob];cases zct m.Head == 0 <;> cases (zcL method m.Head).2 == 0 <;> cases (zcL method m.Head).1 == m.Frame <;> cases zoZ m <;> rfl
theorem zta (method : Str) (m : api_Message) (h : SmallM m) : zjF method m = some (zf4 method m) := by
 have h1 := h.len;have h2 := h.tlen;unfold zjF zf4;rw [zsl _ h.head (by omega) (zM (by decide) h.fields), yob, ztU _ _ (by omega) (zM (by decide) h.fields), yob]
 cases zct m.Head == 0 with
 | false => rfl
 | true =>
  rw [ynt, if_neg yfn, if_pos rfl]
  cases hz : (zcL method m.Head).2 == 0 with
  | false => rfl
  | true =>
   have hk := zw0 method m.Head hz;rw [ynt, if_neg yfn, if_pos rfl]
   cases hfr : (zcL method m.Head).1 == m.Frame with
   | false => rfl
   | true =>
    have e : (zcL method m.Head).1 = m.Frame := by simpa using hfr
    rw [e] at hk;rw [ynt, if_neg yfn, if_pos rfl, e];unfold zS zoZ;rw [zBA _ (by omega) (zM (by decide) h.trailers), yob, zDa]
    rcases hk with k | k | k | k
    ·rw [k];cases m.Body == [] <;> cases m.Trailers == [] <;> rfl
    ·rw [k];cases (m.Body.length : Int) == m.Frame.N <;> cases m.Trailers == [] <;> rfl
    ·rw [k]; rfl
    ·rw [k];cases m.Trailers == [] <;> rfl
def zmq (method : Str) (m : api_Message) (lim size : Int) : Str × Int :=
 if zf4 method m == 0 then (if ((zah m.Head).length : Int) ≤ lim then (if m.Frame.Kind == 3 then (if (zs0 size m.Body m.Trailers).2 == 0 then (zah m.Head ++ (zs0 size m.Body m.Trailers).1, 0) else ([], (zs0 size m.Body m.Trailers).2)) else (zah m.Head ++ m.Body, 0)) else ([], 3)) else ([], zf4 method m)
theorem zrB {method : Str} {m : api_Message} (h : (zf4 method m == 0) = true) : (zct m.Head == 0) = true := by
 unfold zf4 at h
 cases hc : zct m.Head == 0 with
 | true => rfl
 | false => rw [hc, if_neg yfn, hc] at h; cases h
theorem zw1 {size : Int} {b : Str} {tr : List api_Field} (hb : b.length ≤ 600) (hl : tr.length ≤ 200) (hs : zaT 4000 tr) : (zs0 size b tr).1.length ≤ 4000000 := by
 have hll := zuV hl hs;unfold zs0
 split
 ·simp
 ·rename_i h1
  split
  ·have h1' : 1 ≤ size.toNat := by
    cases h2 : decide (size < 1) with
    | true => rw [h2] at h1; exact absurd rfl h1
    | false => have := of_decide_eq_false h2; omega
   obtain ⟨f1, f2⟩ := zuU size.toNat h1' 601 b hb;have hp := zmo (zfk 601 size.toNat b).2 (by omega);simp only [yla];omega
  ·simp
theorem zzJ {h : api_Head} (hs : smallH h) (hl : h.Fields.length ≤ 200) (hf : zaT 4000 h.Fields) : (zah h).length < 200000000 := by
 have htl := zuC hs;have hrl := zj8 hf;unfold zah;simp only [yla, ylc];omega
theorem zqV (method : Str) (m : api_Message) (lim size : Int) (hli : inI lim = true) (h : SmallM m) : zhn method m lim size = some (zmq method m lim size) := by
 have h1 := h.len;have h2 := h.tlen;have h3 := h.body;have hh := zzJ h.head (by omega) (zM (by decide) h.fields);have ha := zw1 (size := size) (b := m.Body) (tr := m.Trailers) (by omega) (by omega) (zM (by decide) h.trailers);unfold zhn zmq;rw [zqU _ _ h, yob]
 cases hc : zf4 method m == 0 with
 | false => rfl
 | true =>
  rw [ynt, if_neg yfn, if_pos rfl, ztZ _ lim hli h.head (by omega) (zM (by decide) h.fields), zrB hc, if_pos rfl, yob];unfold zxK
  by_cases hfit : ((zah m.Head).length : Int) ≤ lim
  ·rw [if_pos hfit, if_pos hfit];dsimp only;rw [show (!((0 : Int) == 0)) = false from rfl, if_neg yfn, All_eq _ _ _ (by omega) (by omega) (zM (by decide) h.trailers), yob];unfold zeK;dsimp only;rw [zZ (by omega), yob, zZ (by omega), yob];cases m.Frame.Kind == 3 <;> cases (zs0 size m.Body m.Trailers).2 == 0 <;> rfl
  ·rw [if_neg hfit, if_neg hfit];rfl
theorem ztb : zlc = some true := by decide +kernel

end Go.Dm
end
