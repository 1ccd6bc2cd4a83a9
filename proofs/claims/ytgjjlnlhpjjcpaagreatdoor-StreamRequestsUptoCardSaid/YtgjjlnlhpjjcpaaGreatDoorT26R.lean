/-
 Targets: the program's.
 What is sent on of a target: without the document.
 Targets: the document's, as the program's.
 First lines: the program's.
 A request's line: its parts come out as they went in.
 First lines: the document's, as the program's; written, and read again.
 First lines written, and read again.
 Blanks at a text's ends. No program in sight.
 Quoted texts, and lists between commas: what they come to. No program in sight.
 Quoted texts, comments, and lists between commas: the program's.
 Quoted texts, and lists between commas: the document's, as the program's.
 Rows of fields
-/
import Derived.Test.YtgjjlnlhpjjcpaaGreatDoorT09
section
namespace Go.Dm
def zuM : api_Target := ⟨0, [], ⟨0, [], 0⟩, [], [], false⟩
def zmZ (t : api_Target) (s : Str) : api_Target × Bool :=
 if s = [] then (t, true) else
  (⟨t.Kind, t.Scheme, t.Host, if s.head? == some 63 then [] else (zum s).1, (zum (if s.head? == some 63 then 47 :: s else s)).2.1, (zum (if s.head? == some 63 then 47 :: s else s)).2.2.1⟩, (zum (if s.head? == some 63 then 47 :: s else s)).2.2.2 == 0)
theorem znz (t : api_Target) (s : Str) (hs : s.length < 900000000) : zhY t s = some (zmZ t s) := by
 unfold zhY zmZ
 cases s with
 | nil => rfl
 | cons c r =>
  have h1 : ((c :: r == ([] : Str))) = false := rfl;rw [h1, if_neg (by decide), if_neg (by simp), show (0 : Int) = ((0 : Nat) : Int) from rfl, zz, List.getElem?_cons_zero, yob, List.head?_cons, Option.some_beq_some];unfold zgq zgp;simp only [ylc] at hs
  cases hc : c == 63 with
  | true =>
   rw [if_pos rfl, if_pos rfl, zhi (by simp only [ylc, yln]; omega), yob, show ([47] : Str) ++ c :: r = 47 :: c :: r from rfl, zqs _ (by simp only [ylc]; omega), yob];rfl
  | false =>
   rw [if_neg (by decide), if_neg (by decide), zqs _ (by simp only [ylc]; omega), yob, if_neg (by decide)];rfl
def zm0 : Str := [104, 116, 116, 112]
def zjX : Str := [104, 116, 116, 112, 115]
def zwO (s : Str) : api_Target × Bool := match zaA [58, 47, 47] s with
 | none => (⟨2, low s, ⟨0, [], 0⟩, [], [], false⟩, false)
 | some p => if low p.1 == zm0 || low p.1 == zjX then
   (if (zc1 (upto [47, 63] p.2)).2 == 0 then zmZ ⟨2, low p.1, (zc1 (upto [47, 63] p.2)).1, [], [], false⟩ (zao [47, 63] p.2) else (⟨2, low p.1, ⟨0, [], 0⟩, [], [], false⟩, false))
  else (⟨2, low p.1, ⟨0, [], 0⟩, [], [], false⟩, false)
theorem zs6 (a b c : Str) (q : Bool) (hb : b.length < 300000000) : zcn (a, b, q) c ((upto [47, 63] b).length : Int) = some (if (zc1 (upto [47, 63] b)).2 == 0 then zmZ ⟨2, c, (zc1 (upto [47, 63] b)).1, [], [], false⟩ (zao [47, 63] b) else (⟨2, c, ⟨0, [], 0⟩, [], [], false⟩, false)) := by
 unfold zcn;have hu := zmq [47, 63] b
 have hf : (zao [47, 63] b).length ≤ b.length := by
  have := congrArg List.length (zck [47, 63] b); rw [yla] at this; omega
 dsimp only;rw [zbQ hu, yob, zlR, zim _ (by omega), yob, zD hu, yob, zi8, znz _ _ (by omega), yob];cases (zc1 (upto [47, 63] b)).2 == 0 <;> rfl
theorem zpn (s : Str) (hs : s.length < 300000000) : zfG s = some (zwO s) := by
 unfold zfG zwO;rw [zn9 s _ (by omega) (by simp), yob]
 cases hc : zaA [58, 47, 47] s with
 | none =>
  dsimp only;rw [zjm s (by omega), yob];rfl
 | some p =>
  have e := congrArg List.length (zbD (a := p.1) (b := p.2) hc);simp only [yla, ylc, yln] at e;have hu := zmq [47, 63] p.2;dsimp only;rw [zjm p.1 (by omega), yob]
  have hj : zaD (p.1, p.2, true) (low p.1) false = some (if (zc1 (upto [47, 63] p.2)).2 == 0 then zmZ ⟨2, low p.1, (zc1 (upto [47, 63] p.2)).1, [], [], false⟩ (zao [47, 63] p.2) else (⟨2, low p.1, ⟨0, [], 0⟩, [], [], false⟩, false)) := by
   unfold zaD;rw [if_neg (by decide)];dsimp only;rw [zj4 p.2 [47, 63] (by omega) (by decide) (by decide), yob];have hj2 := zs6 p.1 p.2 (low p.1) true (by omega)
   by_cases h0 : zao [47, 63] p.2 = []
   ·rw [if_pos h0, ydt (by omega), if_pos rfl];rw [(zd7 _ _).1 h0] at hj2;exact hj2
   ·rw [if_neg h0, ydf (by omega), if_neg (by decide)];exact hj2
  have hj0 : zaD (p.1, p.2, true) (low p.1) true = some (⟨2, low p.1, ⟨0, [], 0⟩, [], [], false⟩, false) := rfl;rw [hj, hj0, if_neg (by decide)];show (if (!(low p.1 == zm0)) = true then zaD (p.1, p.2, true) (low p.1) (!(low p.1 == zjX)) else _) = _
  cases low p.1 == zm0 with
  | true => rfl
  | false =>
   cases low p.1 == zjX with
   | true => rw [ynf, if_pos rfl, ynt, hj]; rfl
   | false => rw [ynf, if_pos rfl, hj0]; rfl
def zs7 : Str := [79, 80, 84, 73, 79, 78, 83]
def znA : Str := [67, 79, 78, 78, 69, 67, 84]
def ofT (m s : Str) : api_Target × Bool := if s == [42] then (⟨4, [], ⟨0, [], 0⟩, [], [], false⟩, m == zs7) else if ([47] : Str).isPrefixOf s then zmZ ⟨1, [], ⟨0, [], 0⟩, [], [], false⟩ s else zwO s
theorem zvz (m s : Str) (hs : s.length < 300000000) : zl1 m s = some (ofT m s) := by
 unfold zl1 ofT;rw [zgn s [47] (by omega), yob, zpn s hs, yob, znz _ s (by omega), yob];cases s == [42] <;> cases ([47] : Str).isPrefixOf s <;> rfl
def zkC (m s : Str) : api_Target × Int :=
 if m == znA then (if (zc1 s).2 == 0 && !decide ((zc1 s).1.Port < 0) then (⟨3, [], (zc1 s).1, [], [], false⟩, 0) else (zuM, 20))
 else if (ofT m s).2 then ((ofT m s).1, 0) else (zuM, 20)
theorem zrQ (m s : Str) (hs : s.length < 300000000) : ziC m s = some (zkC m s) := by
 unfold ziC zkC zfH;rw [zim s (by omega), yob, zvz m s hs, yob];show (if (m == znA) = true then _ else _) = _;cases m == znA <;> cases (zc1 s).2 == 0 <;> cases decide ((zc1 s).1.Port < 0) <;> cases (ofT m s).2 <;> rfl
end Go.Dm
end
section
namespace Go.Dm
theorem zxp (c : UInt8) (s : Str) : (zP c s).1 ++ (if (zP c s).2.2 = true then c :: (zP c s).2.1 else []) = s := by
 rcases zdX (zP c s).2.2 with h | h
 ·rw [if_pos h]; exact ztH c s h
 ·rw [if_neg (by rw [h]; decide), zmP c s h, yan]
theorem zu8 {s : Str} (h : zf7 s = true) : ∃ r, s = 47 :: r := by
 unfold zf7 at h;simp only [Bool.and_eq_true] at h;obtain ⟨r, hr⟩ := List.isPrefixOf_iff_prefix.1 h.1;exact ⟨r, hr.symm⟩
def zz5 : api_Target := ⟨1, [], ⟨0, [], 0⟩, [], [], false⟩
end Go.Dm
end
section
namespace Go.Dm
theorem zt0 (s : Str) (hs : s.length < 1000000000) : zkO s = some ((upto [63] s).length : Int) := by
 unfold zkO
 have key : ∀ (n i : Nat), i ≤ s.length → s.length - i < n → zdt s n (i : Int) = some ((i + (upto [63] (s.drop i)).length : Nat) : Int) := by
  intro n
  induction n with
  | zero => intro i _ h; omega
  | succ n ih =>
   intro i hi h;rw [zdt];unfold zhA;rw [ze (by omega), yob]
   by_cases hlt : i < s.length
   ·have g : s[i]? = some s[i] := ygg hlt;rw [ydt (show (i : Int) < (s.length : Int) by omega), if_pos rfl, zz, g, yob, ih (i + 1) (by omega) (by omega), ydg hlt]
    by_cases hc : s[i] = 63
    ·have h1 : (s[i] == 63) = true := by simp [hc]
     rw [h1, if_neg (by decide), zjw (by simp [hc])]; rfl
    ·have h1 : (s[i] == 63) = false := beq_eq_false_iff_ne.2 hc;rw [h1, ynf, if_pos rfl, zjy (by simp [hc])]
     congr 2
     simp only [ylc]; omega
   ·have : i = s.length := by omega
    subst this;rw [ydf (show ¬ ((s.length : Int) < (s.length : Int)) by omega), if_neg (by decide), ydl];rfl
 have := key fuel 0 (yz _) (by unfold fuel; omega);rw [List.drop_zero, Nat.zero_add] at this;exact this
theorem zmX (t : api_Target) (s : Str) (hq : t.Query = []) (hs : s.length < 900000000) : zhf t s =
  some (⟨t.Kind, t.Scheme, t.Host, (zP 63 s).1, (zP 63 s).2.1, (zP 63 s).2.2⟩, zf7 (zP 63 s).1 && zgf (zP 63 s).2.1) := by
 unfold zhf;have hu := zmq [63] s;have hl := zou 63 s;have e1 : (zP 63 s).1 = upto [63] s := rfl;rw [zt0 s (by omega), yob, zbQ hu, yob, zlR]
 have hj : ∀ q : Str, q.length < 900000000 → zd4 t s ((upto [63] s).length : Int) (upto [63] s) q = some (⟨t.Kind, t.Scheme, t.Host, upto [63] s, q, decide ((upto [63] s).length < s.length)⟩, zf7 (upto [63] s) && zgf q) := by
  intro q hq;unfold zd4 zfL;rw [zul _ (by omega), yob, zoe q (by omega), yob];have : decide (((upto [63] s).length : Int) < (s.length : Int)) = decide ((upto [63] s).length < s.length) := decide_eq_decide.2 (by omega);rw [this];cases zf7 (upto [63] s) <;> rfl
 by_cases h0 : zao [63] s = []
 ·have hn := (zd7 _ _).1 h0
  have hc : (zP 63 s).2.2 = false := by unfold zP; rw [h0]; rfl
  rw [ydf (by omega), if_neg (by decide), hj _ (by rw [hq]; simp), hq, zmP 63 s hc, ydf (by omega)]
  have : upto [63] s = s := by have := zck [63] s; rw [h0, yan] at this; exact this
  rw [this]
 ·have hn : (upto [63] s).length < s.length := by
   have : ¬ (upto [63] s).length = s.length := fun h => h0 ((zd7 _ _).2 h);omega
  have hc : (zP 63 s).2.2 = true := by unfold zP; simp [h0]
  have hd : s.drop ((upto [63] s).length + 1) = (zP 63 s).2.1 := by rw [← List.drop_drop, zi8]; rfl
  rw [ydt (by omega), if_pos rfl, ze (by omega), yob, zD (by omega), yob, hd, hj _ (by omega), ydt hn, hc, e1]
theorem zzq (c : UInt8) : (zfn c == 58) = (c == 58) :=
 eq_of_beq (zO (fun c => (zfn c == 58) == (c == 58)) (by decide +kernel) c)
theorem zuK (c : UInt8) : (zfn c == 47) = (c == 47) :=
 eq_of_beq (zO (fun c => (zfn c == 47) == (c == 47)) (by decide +kernel) c)
theorem zro {c : UInt8} {t : Str} : ∀ {a b : Str}, c ∉ a → zaA (c :: t) (a ++ (c :: t) ++ b) = some (a, b)
 | [], b, _ => by
  show zaA (c :: t) (c :: (t ++ b)) = _;rw [zaA, if_pos (by simp [List.isPrefixOf_iff_prefix])];simp
 | x :: a, b, h => by
  have hx : c ≠ x := fun e => h (by simp [e]);show zaA (c :: t) (x :: (a ++ (c :: t) ++ b)) = _
  have hp : (c :: t).isPrefixOf (x :: (a ++ (c :: t) ++ b)) = false := by
   rw [List.isPrefixOf_cons_cons, beq_eq_false_iff_ne.2 hx, Bool.false_and]
  rw [zaA, hp, if_neg (by decide), zro (fun hm => h (by simp [hm]))];rfl
theorem zsV (a b : Str) : low (a ++ b) = low a ++ low b := by simp [low]
theorem zDi {u : Str} (h : low u = [58, 47, 47]) : u = [58, 47, 47] := by
 match u, h with
 | [a, b, c], h =>
  simp only [low, List.map_cons, List.map_nil, List.cons.injEq, and_true] at h;obtain ⟨h1, h2, h3⟩ := h
  have g1 : a = 58 := by have := zzq a; rw [h1] at this; simpa using this.symm
  have g2 : b = 47 := by have := zuK b; rw [h2] at this; simpa using this.symm
  have g3 : c = 47 := by have := zuK c; rw [h3] at this; simpa using this.symm
  rw [g1, g2, g3]
 | [], h => simp [low] at h
 | [_], h => simp [low] at h
 | [_, _], h => simp [low] at h
 | _ :: _ :: _ :: _ :: _, h => simp [low] at h
theorem zxX (sc s : Str) (hsc : (58 : UInt8) ∉ sc) : (sc.length + 3 ≤ s.length ∧ low (s.take (sc.length + 3)) = sc ++ [58, 47, 47]) ↔ ∃ a, zaA [58, 47, 47] s = some (a, s.drop (sc.length + 3)) ∧ low a = sc := by
 constructor
 ·rintro ⟨h1, h2⟩
  have e : s = s.take sc.length ++ (s.drop sc.length).take 3 ++ s.drop (sc.length + 3) := by
   rw [yaa, ← List.drop_drop, List.take_append_drop, List.take_append_drop]
  have e2 : s.take (sc.length + 3) = s.take sc.length ++ (s.drop sc.length).take 3 := List.take_add;rw [e2, zsV] at h2;obtain ⟨g1, g2⟩ := List.append_inj h2 (by simp [low]; omega);have g3 := zDi g2
  have hn : (58 : UInt8) ∉ s.take sc.length := fun hm => by
   have : (58 : UInt8) ∈ low (s.take sc.length) := List.mem_map.2 ⟨58, hm, by decide⟩;rw [g1] at this; exact hsc this
  refine ⟨s.take sc.length, ?_, g1⟩;have := zro (t := [47, 47]) (b := s.drop (sc.length + 3)) hn;rw [← g3, ← e, g3] at this;exact this
 ·rintro ⟨a, h1, h2⟩;have e := zbD h1
  have hal : a.length = sc.length := by rw [← h2]; simp [low]
  have hl : sc.length + 3 ≤ s.length := by have := congrArg List.length e; simp at this; omega
  refine ⟨hl, ?_⟩
  have : s.take (sc.length + 3) = a ++ [58, 47, 47] := by
   rw [e, List.take_left'];simp [hal]
  rw [this, zsV, h2];rfl
def zmo (r : api_Target × Bool) : api_Target × Int := if r.2 then (r.1, 0) else (zuM, 20)
def zmp (sc r : Str) : api_Target × Int := if (zc1 (upto [47, 63] r)).2 == 0 then zmo (zmZ ⟨2, sc, (zc1 (upto [47, 63] r)).1, [], [], false⟩ (zao [47, 63] r)) else (zuM, 20)
theorem zDj (q : Str) : zP 63 (47 :: 63 :: q) = ([47], q, true) := by
 unfold zP;rw [zjy (by decide), zjz (by decide), zjw (by decide), zjx (by decide)];rfl
theorem cutQ_q (q : Str) : zum (47 :: 63 :: q) = if zgf q then ([47], q, true, 0) else ([], [], false, 2) := by
 unfold zum;rw [zDj]
 have : zf7 [47] = true := by decide
 rw [this, Bool.true_and]
theorem zrp (rec5 : Int → Option (api_Target × Int)) (sc r : Str) (hr : r.length < 300000000) : zcP rec5 sc r ((upto [47, 63] r).length : Int) false = some (zmp sc r) := by
 unfold zcP zmp;have hu := zmq [47, 63] r;rw [if_neg (by decide), zbQ hu, yob, zlR, zkt _ (by omega), yob]
 cases (zc1 (upto [47, 63] r)).2 == 0 with
 | false => rfl
 | true =>
  rw [ynt, if_neg (by decide), if_pos rfl]
  cases hf : zao [47, 63] r with
  | nil =>
   have hn := (zd7 _ _).1 hf;rw [hn, ybs, if_pos rfl];rfl
  | cons c t =>
   have hne : zao [47, 63] r ≠ [] := by rw [hf]; simp
   have hlt : (upto [47, 63] r).length < r.length := by
    have : ¬ (upto [47, 63] r).length = r.length := fun h => hne ((zd7 _ _).2 h);omega
   have hd := zi8 [47, 63] r;rw [hf] at hd
   have g : r[(upto [47, 63] r).length]? = some c := by have := congrArg (·[0]?) hd; simpa using this
   have hd1 : r.drop ((upto [47, 63] r).length + 1) = t := by rw [← List.drop_drop, hd]; rfl
   have htl : (c :: t).length ≤ r.length := by rw [← hd]; simp
   simp only [ylc] at htl;have hbe : (((upto [47, 63] r).length : Int) == (r.length : Int)) = false := beq_eq_false_iff_ne.2 (by omega);rw [hbe, if_neg (by decide), zz, g, yob, ze (by omega), yob, zD (by omega), yob, hd1, zoe t (by omega), yob, zD hu, yob, hd, zmX _ _ rfl (by simp only [ylc]; omega), yob];unfold zgG zmZ zmo
   have hne2 : c :: t ≠ [] := by simp
   rw [if_neg hne2, List.head?_cons, Option.some_beq_some]
   cases hc : c == 63 with
   | true =>
    have : c = 63 := by simpa using hc
    subst this;simp only [if_true];rw [cutQ_q];cases zgf t <;> rfl
   | false =>
    simp only [Bool.false_eq_true, if_false];unfold zum;cases zf7 (zP 63 (c :: t)).1 && zgf (zP 63 (c :: t)).2.1 <;> rfl
theorem zwD (sc r : Str) (hr : r.length < 300000000) : zbp sc r fuel 0 = some (zmp sc r) := by
 have hu := zmq [47, 63] r
 have key : ∀ (n i : Nat), i ≤ (upto [47, 63] r).length → (upto [47, 63] r).length - i < n → zbp sc r n (i : Int) = some (zmp sc r) := by
  intro n
  induction n with
  | zero => intro i _ h; omega
  | succ n ih =>
   intro i hi h;rw [zbp]
   by_cases hlt : i < (upto [47, 63] r).length
   ·have g : r[i]? = some (upto [47, 63] r)[i] := by
     have e := List.getElem?_append_left (l₂ := zao [47, 63] r) hlt;rw [zck] at e; rw [e]; exact ygg hlt
    have hno := zsZ (upto [47, 63] r)[i] (ygm hlt);generalize (upto [47, 63] r)[i] = c at g hno
    have h1 : (c == 47) = false := by simp at hno; simp [hno.1]
    have h2 : (c == 63) = false := by simp at hno; simp [hno.2]
    rw [ydt (show (i : Int) < (r.length : Int) by omega), if_pos rfl, zz, g, yob, yob, h1, h2, ynf, if_pos rfl];unfold zcP;rw [if_pos rfl, ze (by omega), yob];exact ih (i + 1) (by omega) (by omega)
   ·have : i = (upto [47, 63] r).length := by omega
    subst this;rw [zrp _ sc r hr]
    cases hf : zao [47, 63] r with
    | nil =>
     have hn := (zd7 _ _).1 hf;rw [ydf (by omega), if_neg (by decide)]
    | cons c t =>
     have hd := zi8 [47, 63] r;rw [hf] at hd
     have g : r[(upto [47, 63] r).length]? = some c := by have := congrArg (·[0]?) hd; simpa using this
     have hlt : (upto [47, 63] r).length < r.length := by have := congrArg List.length hd; simp at this; omega
     have hin := zon hf;rw [ydt (by omega), if_pos rfl, zz, g, yob, yob]
     rcases zdX (c == 47) with h1 | h1
     ·rw [h1]; rfl
     ·have h2 : (c == 63) = true := by simp at hin h1 ⊢; rcases hin with h | h; exact absurd h h1; exact h
      rw [h1, h2, ynt, zrp _ sc r hr]; rfl
 exact key fuel 0 (yz _) (by unfold fuel; omega)
def zfR (sc s : Str) : Bool := decide (sc.length + 3 ≤ s.length) && low (s.take (sc.length + 3)) == sc ++ [58, 47, 47]
theorem zoR (sc s : Str) (hsc : (58 : UInt8) ∉ sc) : zfR sc s = true ↔ ∃ a, zaA [58, 47, 47] s = some (a, s.drop (sc.length + 3)) ∧ low a = sc := by
 rw [← zxX sc s hsc];unfold zfR;simp
theorem zyH (n i : Nat) (s x : Str) (hx : lAt [[104, 116, 116, 112], [104, 116, 116, 112, 115]] (i : Int) = some x) (hi : i < 2) (hl : x.length < 10) (hs : s.length < 300000000) :
  zaJ (n + 1) s (i : Int) = if zfR x s = true then some (zmp x (s.drop (x.length + 3))) else zaJ n s ((i + 1 : Nat) : Int) := by
 rw [zaJ]
 have e3 : zp (x.length : Int) 3 = some ((x.length + 3 : Nat) : Int) := by rw [zak (by omega) (by omega)]; simp
 show (if decide ((i : Int) < 2) = true then (lAt [[104, 116, 116, 112], [104, 116, 116, 112, 115]] (i : Int)).bind _ else _) = _;rw [ydt (show (i : Int) < 2 by omega), if_pos rfl, hx, yob, e3, yob];unfold zfR zgH;rw [ze (by omega), yob]
 by_cases hlt : x.length + 3 ≤ s.length
 ·have e4 : decide ((s.length : Int) < ((x.length + 3 : Nat) : Int)) = false := ydf (by omega);rw [e4, if_neg (by decide), ydt hlt, zbQ hlt, yob, zjn _ (by simp; omega), yob, zhi (by simp; omega), yob, zD hlt, yob, zwD x _ (by simp; omega), Bool.true_and];cases low (s.take (x.length + 3)) == x ++ [58, 47, 47] <;> rfl
 ·have e4 : decide ((s.length : Int) < ((x.length + 3 : Nat) : Int)) = true := ydt (by omega);rw [e4, if_pos rfl, if_pos rfl, ydf hlt];rfl
theorem zsW (a r : Str) (sc : Str) (h : low a = sc) : zmo (if (zc1 (upto [47, 63] r)).2 == 0 then zmZ ⟨2, low a, (zc1 (upto [47, 63] r)).1, [], [], false⟩ (zao [47, 63] r) else (⟨2, low a, ⟨0, [], 0⟩, [], [], false⟩, false)) = zmp sc r := by
 unfold zmp;rw [h];cases (zc1 (upto [47, 63] r)).2 == 0 <;> rfl
theorem zwE (s : Str) (hs : s.length < 300000000) : zaJ fuel s 0 = some (zmo (zwO s)) := by
 have hf : fuel = 999999999999999997 + 1 + 1 + 1 := rfl;have s1 := zyH (999999999999999997 + 1 + 1) 0 s zm0 rfl (by decide) (by decide) hs;have s2 := zyH (999999999999999997 + 1) 1 s zjX rfl (by decide) (by decide) hs
 have s3 : zaJ (999999999999999997 + 1) s ((1 + 1 : Nat) : Int) = some (zuM, 20) := by rw [zaJ]; rfl
 have h1 := zoR zm0 s (by decide);have h2 := zoR zjX s (by decide);rw [hf, show (0 : Int) = ((0 : Nat) : Int) from rfl, s1, s2, s3];unfold zwO
 cases hc : zaA [58, 47, 47] s with
 | none =>
  rw [hc] at h1 h2
  have g1 : ¬ zfR zm0 s = true := fun h => by obtain ⟨a, ha, _⟩ := h1.1 h; cases ha
  have g2 : ¬ zfR zjX s = true := fun h => by obtain ⟨a, ha, _⟩ := h2.1 h; cases ha
  rw [if_neg g1, if_neg g2];rfl
 | some p =>
  rw [hc] at h1 h2;dsimp only
  have hp : ∀ sc : Str, low p.1 = sc → p.2 = s.drop (sc.length + 3) := fun sc h => by
   have e := zbD (a := p.1) (b := p.2) hc
   have hal : p.1.length = sc.length := by rw [← h]; simp [low]
   rw [e, ← hal, List.drop_left'];simp
  by_cases c1 : low p.1 = zm0
  ·have g1 : zfR zm0 s = true := h1.2 ⟨p.1, by rw [← hp _ c1], c1⟩;rw [if_pos g1, c1];have := zsW p.1 p.2 zm0 c1;rw [c1] at this;rw [if_pos (by decide), this, hp _ c1]
  ·have g1 : ¬ zfR zm0 s = true := fun h => by obtain ⟨a, ha, hb⟩ := h1.1 h; cases ha; exact c1 hb
   rw [if_neg g1]
   by_cases c2 : low p.1 = zjX
   ·have g2 : zfR zjX s = true := h2.2 ⟨p.1, by rw [← hp _ c2], c2⟩;have := zsW p.1 p.2 zjX c2;rw [c2] at this;rw [if_pos g2, c2, if_pos (by decide), this, hp _ c2]
   ·have g2 : ¬ zfR zjX s = true := fun h => by obtain ⟨a, ha, hb⟩ := h2.1 h; cases ha; exact c2 hb
    rw [if_neg g2, if_neg (by simp [c1, c2])];rfl
theorem zzr {s : Str} (h : ([47] : Str).isPrefixOf s = true) : (zwO s).2 = false := by
 obtain ⟨r, hr⟩ := List.isPrefixOf_iff_prefix.1 h;unfold zwO
 cases hc : zaA [58, 47, 47] s with
 | none => rfl
 | some p =>
  have e := zbD (a := p.1) (b := p.2) hc
  have hh : low p.1 ≠ zm0 ∧ low p.1 ≠ zjX := by
   cases hp : p.1 with
   | nil => exact ⟨by decide, by decide⟩
   | cons c t =>
    rw [hp, ← hr] at e
    have : c = 47 := by simp at e; exact e.1.symm
    subst this;exact ⟨by simp [low, zm0, zfn], by simp [low, zjX, zfn]⟩
  dsimp only;rw [if_neg (by simp [hh.1, hh.2])]
theorem zwF (s : Str) (h : ([47] : Str).isPrefixOf s = true) : zmZ zz5 s = (if zf7 (zP 63 s).1 && zgf (zP 63 s).2.1 then ((⟨1, [], ⟨0, [], 0⟩, (zP 63 s).1, (zP 63 s).2.1, (zP 63 s).2.2⟩ : api_Target), true) else (⟨1, [], ⟨0, [], 0⟩, [], [], false⟩, false)) := by
 obtain ⟨r, hr⟩ := List.isPrefixOf_iff_prefix.1 h;subst hr;unfold zmZ;rw [if_neg (by simp)];have hh : (([47] ++ r : Str).head? == some 63) = false := rfl;rw [hh];simp only [Bool.false_eq_true, if_false];unfold zum;cases zf7 (zP 63 ([47] ++ r)).1 && zgf (zP 63 ([47] ++ r)).2.1 <;> rfl
theorem zxY {s : Str} (h : ([47] : Str).isPrefixOf s = false) : zf7 (zP 63 s).1 = false := by
 rcases zdX (zf7 (zP 63 s).1) with h1 | h1
 ·obtain ⟨r, hr⟩ := zu8 h1;have ht := zxp 63 s;rw [hr] at ht;rw [← ht] at h;simp at h
 ·exact h1
theorem zvq {r : api_Target × Bool} (h : r.2 = false) : zmo r = (zuM, 20) := by unfold zmo; rw [h]; rfl
theorem znw (s : Str) (hs : s.length < 300000000) : zcQ s false = some (if ([47] : Str).isPrefixOf s then zmo (zmZ zz5 s) else zmo (zwO s)) := by
 unfold zcQ;rw [if_neg (by decide), zmX _ _ rfl (by omega), yob, zwE s hs];dsimp only
 cases h : ([47] : Str).isPrefixOf s with
 | true =>
  rw [if_pos rfl, zwF s h]
  cases zf7 (zP 63 s).1 && zgf (zP 63 s).2.1 with
  | true => rfl
  | false =>
   rw [zvq (zzr h)];rfl
 | false =>
  rw [zxY h, Bool.false_and, if_neg (by decide), if_neg (by decide)]
theorem zsX (m s : Str) (hs : s.length < 300000000) : zjK m s = some (zkC m s) := by
 unfold zjK zkC zgF;rw [zkt s (by omega), yob];show (if (m == znA) = true then _ else _) = _
 cases hm : m == znA with
 | true =>
  rw [if_pos rfl, if_pos rfl];cases (zc1 s).2 == 0 <;> cases decide ((zc1 s).1.Port < 0) <;> rfl
 | false =>
  show (if (s == [42]) = true then zcQ s (m == zs7) else zcQ s false) = some (zmo (ofT m s));rw [znw s hs];unfold ofT
  cases h : s == [42] with
  | true =>
   have : s = [42] := by simpa using h
   subst this
   cases m == zs7 with
   | true => rfl
   | false => rw [if_pos rfl, znw [42] (by decide)]; rfl
  | false =>
   cases ([47] : Str).isPrefixOf s <;> rfl

end Go.Dm
end
section
namespace Go.Dm
def zk6 (r : Str) : Int × Bool × Str := match r with
 | [] => (0, false, [])
 | c :: t => if zQ c then (((c - 48).toNat : Int), true, t) else (0, false, c :: t)
section
variable {s r : Str} {k : Nat}
theorem zxb (hs : s.length < 1000000000) (h : At s k r) : ∃ k', At s k' (zk6 r).2.2 ∧ zbF ⟨scn s k⟩ = some ((zk6 r).1, (zk6 r).2.1, scn s k') := by
 unfold zbF;show ∃ k', _ ∧ (zE (scn s k)).bind _ = _;rw [zqg h, yob]
 cases r with
 | nil => exact ⟨k, h, rfl⟩
 | cons c t =>
  have e : zk6 (c :: t) = if zQ c then (((c - 48).toNat : Int), true, t) else (0, false, c :: t) := rfl;rw [e];show ∃ k', _ ∧ (zae c).bind (fun r6 => zbE ⟨scn s k⟩ (c, true) (!r6)) = _;rw [zi5, yob];obtain ⟨k', h1, h2⟩ := zfA hs c h;rw [zaj] at h1
  cases zQ c with
  | false => exact ⟨k, h, rfl⟩
  | true =>
   refine ⟨k', h1, ?_⟩;show (zj (scn s k) c).bind (fun r11 => some (((c - 48).toNat : Int), true, r11.2)) = _;rw [h2]; rfl
def zb2 : Str := [72, 84, 84, 80, 47]
def zhP (r : Str) : Int × Int × Bool × Str :=
 if zb2.isPrefixOf r then
  ((zk6 (r.drop 5)).1, (zk6 (z7 46 (zk6 (r.drop 5)).2.2)).1, (zk6 (r.drop 5)).2.1 && zet 46 (zk6 (r.drop 5)).2.2 && (zk6 (z7 46 (zk6 (r.drop 5)).2.2)).2.1, (zk6 (z7 46 (zk6 (r.drop 5)).2.2)).2.2)
 else (0, 0, false, r)
theorem ztu (hs : s.length < 1000000000) (h : At s k r) : ∃ k', At s k' (zhP r).2.2.2 ∧ za5 ⟨scn s k⟩ = some ((zhP r).1, (zhP r).2.1, (zhP r).2.2.1, scn s k') := by
 unfold za5;obtain ⟨k1, h1, e1⟩ := zDC hs zb2 (by decide) h;show ∃ k', _ ∧ (zc3 (scn s k) zb2).bind _ = _;rw [e1, yob];unfold zhP
 cases hp : zb2.isPrefixOf r with
 | false =>
  rw [hp, if_neg (by decide)] at h1;exact ⟨k1, h1, rfl⟩
 | true =>
  rw [hp, if_pos rfl] at h1;have h1 : At s k1 (r.drop 5) := h1;obtain ⟨k2, h2, e2⟩ := zxb hs h1;obtain ⟨k3, h3, e3⟩ := zfA hs 46 h2;obtain ⟨k4, h4, e4⟩ := zxb hs h3;refine ⟨k4, h4, ?_⟩;dsimp only;rw [ynt, if_neg (by decide), e2, yob];dsimp only;rw [e3, yob];dsimp only;rw [e4, yob, if_pos rfl];dsimp only;cases (zk6 (r.drop 5)).2.1 <;> cases zet 46 (zk6 (r.drop 5)).2.2 <;> rfl
def zdh (u : Str) : Int := if (zhP u).2.2.1 && (zhP u).2.2.2 == [] then (if (zhP u).1 == 1 && decide ((zhP u).2.1 ≤ 1) then (zhP u).2.1 else 2) else -1
theorem zyQ {r : Str} (h : (zk6 r).2.1 = true) : ∃ c t, r = c :: t ∧ zQ c = true ∧ zk6 r = (((c - 48).toNat : Int), true, t) := by
 cases r with
 | nil => cases h
 | cons c t =>
  unfold zk6 at h ⊢;dsimp only at h ⊢
  cases hc : zQ c with
  | false => rw [hc] at h; cases h
  | true => exact ⟨c, t, rfl, hc, by simp⟩
theorem zqe {r : Str} (h : (zhP r).2.2.1 = true) : ∃ a b t, r = zb2 ++ a :: 46 :: b :: t ∧ zQ a = true ∧ zQ b = true ∧ zhP r = (((a - 48).toNat : Int), ((b - 48).toNat : Int), true, t) := by
 unfold zhP at h ⊢
 cases hp : zb2.isPrefixOf r with
 | false => rw [hp] at h; cases h
 | true =>
  rw [hp, if_pos rfl] at h;rw [if_pos rfl];simp only [Bool.and_eq_true] at h;obtain ⟨⟨h1, h2⟩, h3⟩ := h;obtain ⟨t0, ht0⟩ := List.isPrefixOf_iff_prefix.1 hp
  have hd : r.drop 5 = t0 := by rw [← ht0]; rfl
  rw [hd] at h1 h2 h3 ⊢;obtain ⟨a, t1, rfl, ha, ea⟩ := zyQ h1;rw [ea] at h2 h3 ⊢;have hb := zeF h2;dsimp only at h2 h3 hb ⊢;obtain ⟨b, t, e, hbd, eb⟩ := zyQ h3;rw [e] at hb;rw [eb];refine ⟨a, b, t, by rw [← ht0, hb], ha, hbd, ?_⟩;simp [h2]
theorem zn4 {c : UInt8} (h : zQ c = true) (h1 : (c - 48).toNat ≤ 1) : c = 48 ∨ c = 49 := by
 have := zO (fun c => !(zQ c && decide ((c - 48).toNat ≤ 1)) || (c == 48 || c == 49)) (by decide +kernel) c;rw [h] at this;simpa [h1] using this
theorem zkX {u : Str} (h : 0 ≤ zdh u) (h2 : (zdh u == 2) = false) : (u = zb2 ++ [49, 46, 48] ∧ zdh u = 0) ∨ (u = zb2 ++ [49, 46, 49] ∧ zdh u = 1) := by
 unfold zdh at *
 cases hc : (zhP u).2.2.1 && (zhP u).2.2.2 == [] with
 | false => rw [hc] at h; exact absurd (show (0 : Int) ≤ -1 from h) (by decide)
 | true =>
  rw [hc, if_pos rfl] at h h2;rw [if_pos rfl];simp only [Bool.and_eq_true] at hc;obtain ⟨a, b, t, e, ha, hb, ev⟩ := zqe hc.1;rw [ev] at hc h h2 ⊢
  have ht : t = [] := by simpa using hc.2
  subst ht;dsimp only at h h2 ⊢
  cases hq : (((a - 48).toNat : Int) == 1 && decide (((b - 48).toNat : Int) ≤ 1)) with
  | false => rw [hq] at h2; exact absurd (show ((2 : Int) == 2) = false from h2) (by decide)
  | true =>
   rw [if_pos rfl];simp only [Bool.and_eq_true, beq_iff_eq, decide_eq_true_eq] at hq
   have ha1 : a = 49 := by
    rcases zn4 ha (by omega) with h | h
    ·subst h; exact absurd hq.1 (by decide)
    ·exact h
   subst ha1
   rcases zn4 hb (by omega) with h | h <;> subst h
   ·left; exact ⟨e, by decide⟩
   ·right; exact ⟨e, by decide⟩
theorem zkY (u : Str) (hu : u.length < 1000000000) : zd1 u = some (zdh u == 2) := by
 unfold zd1;rw [zhS, yob];obtain ⟨k', h, e⟩ := ztu hu (At.zero u);rw [e, yob];dsimp only;rw [zvS h];unfold zdh zbz
 have h1 : decide ((zhP u).2.1 ≤ 1) = !decide (1 < (zhP u).2.1) := by
  rw [Bool.eq_iff_iff]; simp
 rw [h1]
 cases hv : (zhP u).2.2.1 with
 | false => rfl
 | true =>
  rw [if_pos rfl, yob, Bool.true_and]
  cases (zhP u).2.2.2 == [] with
  | false => rfl
  | true =>
   rw [if_pos rfl, if_pos rfl];obtain ⟨a, b, t, _, ha, hb, ev⟩ := zqe hv;rw [ev];dsimp only
   cases ((a - 48).toNat : Int) == 1 with
   | false => rfl
   | true =>
    rw [ynt, if_neg (by decide), Bool.true_and]
    by_cases h2 : (1 : Int) < ((b - 48).toNat : Int)
    ·rw [ydt h2]; rfl
    ·rw [ydf h2, ynf, if_pos rfl];have : (((b - 48).toNat : Int) == 2) = false := beq_eq_false_iff_ne.2 (by omega);rw [this]
def zgg (r : Str) : Int × Bool × Str := ((zhP r).2.1, (zhP r).2.2.1 && (zhP r).1 == 1 && decide ((zhP r).2.1 ≤ 1), (zhP r).2.2.2)
theorem zxc (hs : s.length < 1000000000) (h : At s k r) : ∃ k', At s k' (zgg r).2.2 ∧ zbH ⟨scn s k⟩ = some ((zgg r).1, (zgg r).2.1, scn s k') := by
 unfold zbH zgg;obtain ⟨k', h1, e⟩ := ztu hs h;refine ⟨k', h1, ?_⟩;rw [e, yob];dsimp only;cases (zhP r).2.2.1 <;> cases (zhP r).1 == 1 <;> rfl
theorem zuV (r : Str) : ((zgg r).2.1 && (zgg r).2.2 == []) = (decide (0 ≤ zdh r) && !(zdh r == 2)) ∧ ((zgg r).2.1 = true → (zgg r).2.2 = [] → (zgg r).1 = zdh r) := by
 unfold zgg zdh;dsimp only
 cases hv : (zhP r).2.2.1 with
 | false => exact ⟨rfl, fun h => by cases h⟩
 | true =>
  obtain ⟨a, b, t, _, ha, hb, ev⟩ := zqe hv;rw [ev];dsimp only;rw [Bool.true_and, Bool.true_and]
  cases hq : (((a - 48).toNat : Int) == 1 && decide (((b - 48).toNat : Int) ≤ 1)) with
  | false =>
   refine ⟨?_, fun h => by cases h⟩;cases t == [] <;> rfl
  | true =>
   simp only [Bool.and_eq_true, decide_eq_true_eq] at hq;refine ⟨?_, fun _ h => ?_⟩
   ·cases t == [] with
    | false => rfl
    | true =>
     rw [if_pos rfl, if_pos rfl];have : (((b - 48).toNat : Int) == 2) = false := beq_eq_false_iff_ne.2 (by omega);rw [this, ydt (by omega)]; rfl
   ·subst h; rfl
end
def zw : api_Head := ⟨0, [], [], 0, [], 0, []⟩
def zuW (s : Str) : Nat := match zju s 32 s.length with
 | none => 0
 | some k => k + 1
theorem zye (s : Str) (hs : s.length < 300000000) : ∃ r, zaS s 32 = some r ∧ zp r 1 = some (zuW s : Int) ∧ zuW s ≤ s.length := by
 rw [zlM s 32 (by omega)];unfold zuW
 cases hl : zju s 32 s.length with
 | none => exact ⟨-1, rfl, by decide, yz _⟩
 | some k =>
  have := (zns hl).1;exact ⟨k, rfl, ze (by omega), by show k + 1 ≤ s.length; omega⟩
def zn5 (s : Str) : Str := s.drop (zuW s)
def zpy (s : Str) : Str := s.takeWhile zF
def zrD (s : Str) : Str := s.dropWhile zF
def zrW (s : Str) : Str := (z7 32 (zrD s)).takeWhile (fun b => !(b == 32))
def zlm (s : Str) : Str := (z7 32 (zrD s)).dropWhile (fun b => !(b == 32))
def zxd (s : Str) : Bool := !(zpy s == []) && zet 32 (zrD s) && zet 32 (zlm s) && ((zgg (z7 32 (zlm s))).2.1 && (zgg (z7 32 (zlm s))).2.2 == []) && (zkC (zpy s) (zrW s)).2 == 0
def zq9 (s : Str) : api_Head × Int := if zdh (zn5 s) == 2 then (zw, 26) else if zxd s then (⟨1, zpy s, zrW s, 0, [], (zgg (z7 32 (zlm s))).1, []⟩, 0) else (zw, 20)
theorem zn6 (s : Str) (hs : s.length < 300000000) : zed s = some (zq9 s) := by
 unfold zed zq9 zn5;obtain ⟨r, e0, hi⟩ := zye s hs;rw [e0, yob];generalize zuW s = n at hi;rw [hi.1, yob, zD hi.2, yob, zkY _ (by simp; omega), yob]
 cases zdh (s.drop n) == 2 with
 | true => rfl
 | false =>
  rw [if_neg (by decide), if_neg (by decide), zhS, yob]
  have hs' : s.length < 1000000000 := by omega
  obtain ⟨k1, h1, e1⟩ := zqh hs' (At.zero s);obtain ⟨k2, h2, e2⟩ := zfA hs' 32 h1;obtain ⟨k3, h3, e3⟩ := zmb (f := zdj) (p := fun b => !(b == 32)) (fun b => rfl) hs' h2;obtain ⟨k4, h4, e4⟩ := zfA hs' 32 h3;obtain ⟨k5, h5, e5⟩ := zxc hs' h4;rw [e1, yob];dsimp only;rw [e2, yob];dsimp only;rw [e3, yob];dsimp only;rw [e4, yob];dsimp only;have hl := h2.le_len;have hl2 := zmg (fun b => !(b == 32)) (z7 32 (s.dropWhile zF));rw [e5, yob, zrQ _ _ (by omega), yob];dsimp only;rw [zvS h5, yob];unfold zab zxd zrW zpy zlm zrD;cases s.takeWhile zF == [] <;> cases zet 32 (s.dropWhile zF) <;> cases zet 32 ((z7 32 (s.dropWhile zF)).dropWhile (fun b => !(b == 32))) <;> cases (zgg (z7 32 ((z7 32 (s.dropWhile zF)).dropWhile (fun b => !(b == 32))))).2.1 <;> cases (zgg (z7 32 ((z7 32 (s.dropWhile zF)).dropWhile (fun b => !(b == 32))))).2.2 == [] <;> cases (zkC (s.takeWhile zF) ((z7 32 (s.dropWhile zF)).takeWhile (fun b => !(b == 32)))).2 == 0 <;> rfl
theorem zjq {p : UInt8 → Bool} {s : Str} {x : UInt8} (h : x ∈ s.takeWhile p) : p x = true := by
 induction s with
 | nil => cases h
 | cons c s ih =>
  rw [List.takeWhile_cons] at h
  split at h
  ·rename_i hc
   rcases List.mem_cons.1 h with rfl | h
   ·exact hc
   ·exact ih h
  ·cases h
theorem zCq {x : UInt8} (h : zF x = true) : x ≠ 32 := by rintro rfl; revert h; decide
theorem zpz {s : Str} (h : zxd s = true) : ∃ v, s = zpy s ++ 32 :: (zrW s ++ 32 :: v) ∧ (32 : UInt8) ∉ zpy s ∧ (32 : UInt8) ∉ zrW s ∧ zpy s ≠ [] ∧ (zpy s).all zF = true ∧ 0 ≤ zdh v ∧ (zdh v == 2) = false ∧ (zgg (z7 32 (zlm s))).1 = zdh v ∧ ((zkC (zpy s) (zrW s)).2 == 0) = true := by
 unfold zxd at h;simp only [Bool.and_eq_true, Bool.not_eq_true', beq_eq_false_iff_ne] at h;obtain ⟨⟨⟨⟨h1, h2⟩, h3⟩, h4, h5⟩, h6⟩ := h;have e1 : zpy s ++ zrD s = s := List.takeWhile_append_dropWhile;have e2 := zeF h2;have e3 : zrW s ++ zlm s = z7 32 (zrD s) := List.takeWhile_append_dropWhile;have e4 := zeF h3;have hm := zuV (z7 32 (zlm s))
 have hk : (decide (0 ≤ zdh (z7 32 (zlm s))) && !(zdh (z7 32 (zlm s)) == 2)) = true := by rw [← hm.1, h4, Bool.true_and]; exact h5
 simp only [Bool.and_eq_true, decide_eq_true_eq, Bool.not_eq_true'] at hk;refine ⟨z7 32 (zlm s), ?_, ?_, ?_, h1, ?_, hk.1, hk.2, hm.2 h4 (by simpa using h5), h6⟩
 ·rw [← e4, e3, ← e2, e1]
 ·exact fun hx => zCq (zjq hx) rfl
 ·exact fun hx => by have := zjq hx; simp at this
 ·exact List.all_eq_true.2 fun x hx => zjq hx
def ztv (s : Str) : Str := (z7 32 (zgg s).2.2).takeWhile zQ
def zqf (s : Str) : Str := (z7 32 (zgg s).2.2).dropWhile zQ
def zvR (s : Str) : Bool := (zgg s).2.1 && zet 32 (zgg s).2.2 && zet 32 (zqf s) && ((ztv s).length : Int) == 3 && (zK 10 (ztv s) 599).2 == 0 && !decide ((zK 10 (ztv s) 599).1 < 100) && (z7 32 (zqf s)).all zfC
def ztw (s : Str) : api_Head × Int := if zdh (zP 32 s).1 == 2 then (zw, 26) else if zvR s then (⟨2, [], [], (zK 10 (ztv s) 599).1, z7 32 (zqf s), (zgg s).1, []⟩, 0) else (zw, 20)
theorem zoG (s : Str) (hs : s.length < 300000000) : zeU s = some (ztw s) := by
 unfold zeU ztw;have hcl := zou 32 s;rw [zm7 s 32 (by omega), yob, zkY _ (by omega), yob]
 cases zdh (zP 32 s).1 == 2 with
 | true => rfl
 | false =>
  rw [if_neg (by decide), if_neg (by decide), zhS, yob]
  have hs' : s.length < 1000000000 := by omega
  obtain ⟨k1, h1, e1⟩ := zxc hs' (At.zero s);obtain ⟨k2, h2, e2⟩ := zfA hs' 32 h1;obtain ⟨k3, h3, e3⟩ := zmb zi5 hs' h2;obtain ⟨k4, h4, e4⟩ := zfA hs' 32 h3;rw [e1, yob];dsimp only;rw [e2, yob];dsimp only;rw [e3, yob];dsimp only;have hl := h2.le_len;have hl2 := zmg zQ (z7 32 (zgg s).2.2);have hl4 := h4.le_len;rw [e4, yob, zfl _ _ (by omega) (by decide) (by decide), yob];dsimp only;rw [zr5 h4, yob, zev zi6 _ (by omega), yob];unfold zaa zvR zqf ztv;dsimp only;rw [zr5 h4, yob];cases (zgg s).2.1 <;> cases zet 32 (zgg s).2.2 <;> cases zet 32 ((z7 32 (zgg s).2.2).dropWhile zQ) <;> cases (((z7 32 (zgg s).2.2).takeWhile zQ).length : Int) == 3 <;> cases (zK 10 ((z7 32 (zgg s).2.2).takeWhile zQ) 599).2 == 0 <;> cases decide ((zK 10 ((z7 32 (zgg s).2.2).takeWhile zQ) 599).1 < 100) <;> cases (z7 32 ((z7 32 (zgg s).2.2).dropWhile zQ)).all zfC <;> rfl
def zby (kind : Int) (s : Str) : api_Head × Int := if !(kind == 1) && !(kind == 2) then (zw, 1) else if s.any ([13, 10] : Str).contains then (zw, 24) else if kind == 1 then zq9 s else ztw s
theorem zhQ (kind : Int) (s : Str) (hs : s.length < 300000000) : zdc kind s = some (zby kind s) := by
 unfold zdc zdF zby;rw [zis s [13, 10] (by omega) (by decide) (by decide), yob, zn6 s hs, yob, zoG s hs, yob];cases kind == 1 <;> cases kind == 2 <;> cases s.any ([13, 10] : Str).contains <;> rfl

end Go.Dm
end
section
namespace Go.Dm
theorem zB8 {v : Str} (h : 0 ≤ zdh v) (h2 : (zdh v == 2) = false) : (32 : UInt8) ∉ v := by
 rcases zkX h h2 with ⟨h, _⟩ | ⟨h, _⟩ <;> rw [h] <;> decide
theorem zwY {m t v : Str} (h1 : (32 : UInt8) ∉ m) (h2 : (32 : UInt8) ∉ t) (h3 : (32 : UInt8) ∉ v) : zd 32 (m ++ 32 :: (t ++ 32 :: v)) = [m, t, v] := by
 rw [zgi _ h1, zgi _ h2, zih h3]
theorem zp3 (c : UInt8) : ∀ (x y : Str), zd c (x ++ c :: y) = zd c x ++ zd c y
 | [], y => by rw [yna, za3, if_pos rfl]; rfl
 | z :: x, y => by
  rw [List.cons_append, za3, za3, zp3 c x y]
  split
  ·rfl
  ·cases h : zd c x with
   | nil => exact absurd h (zbS c x)
   | cons a l => rfl
theorem znE {c : UInt8} : ∀ {s x : Str}, zd c s = [x] → x = s
 | [], x, h => by rw [zd] at h; cases h; rfl
 | y :: s, x, h => by
  rw [za3] at h
  split at h
  ·injection h with h1 h2
   exact absurd h2 (zbS c s)
  ·cases h3 : zd c s with
   | nil => exact absurd h3 (zbS c s)
   | cons a l =>
    rw [h3] at h
    injection h with h1 h2
    subst h2;have := znE h3;rw [← h1, this]; rfl
theorem zte (s : Str) : (zq9 s = (zw, 26) ∨ zq9 s = (zw, 20)) ∨ zxd s = true ∧ zq9 s = (⟨1, zpy s, zrW s, 0, [], (zgg (z7 32 (zlm s))).1, []⟩, 0) := by
 unfold zq9
 split
 ·exact .inl (.inl rfl)
 ·cases h : zxd s with
  | true => exact .inr ⟨rfl, rfl⟩
  | false => exact .inl (.inr rfl)
end Go.Dm
end
section
namespace Go.Dm
theorem zyI (c : UInt8) : (!zQ c || ((((c - 48).toNat : Int) == 1) == (c == 49))) = true := zO (fun c => !zQ c || ((((c - 48).toNat : Int) == 1) == (c == 49))) (by decide +kernel) c
theorem dig_le (c : UInt8) : (!zQ c || (decide (((c - 48).toNat : Int) ≤ 1) == (c == 48 || c == 49))) = true := zO (fun c => !zQ c || (decide (((c - 48).toNat : Int) ≤ 1) == (c == 48 || c == 49))) (by decide +kernel) c
theorem zwP (a b : UInt8) (t : Str) (ha : zQ a = true) (hb : zQ b = true) : zhP (zb2 ++ a :: 46 :: b :: t) = (((a - 48).toNat : Int), ((b - 48).toNat : Int), true, t) := by
 unfold zhP;have hp : zb2.isPrefixOf (zb2 ++ a :: 46 :: b :: t) = true := List.isPrefixOf_iff_prefix.2 ⟨_, rfl⟩;have hd : (zb2 ++ a :: 46 :: b :: t).drop 5 = a :: 46 :: b :: t := rfl;rw [if_pos hp, hd]
 have e1 : zk6 (a :: 46 :: b :: t) = (((a - 48).toNat : Int), true, 46 :: b :: t) := by unfold zk6; dsimp only; rw [if_pos ha]
 have e2 : zk6 (b :: t) = (((b - 48).toNat : Int), true, t) := by unfold zk6; dsimp only; rw [if_pos hb]
 rw [e1];dsimp only;rw [zaj, zaT, e2];rfl
theorem zB3 (a b : UInt8) (ha : zQ a = true) (hb : zQ b = true) : zdh (zb2 ++ [a, 46, b]) = if ([a, 46, b] : Str) == [49, 46, 48] then 0 else if ([a, 46, b] : Str) == [49, 46, 49] then 1 else 2 := by
  unfold zdh;rw [zwP a b [] ha hb];have h1 := zyI a;have h2 := dig_le b;rw [ha] at h1;rw [hb] at h2
  have h1 : (((a - 48).toNat : Int) == 1) = (a == 49) := by simpa using h1
  have h2 : decide (((b - 48).toNat : Int) ≤ 1) = (b == 48 || b == 49) := by simpa using h2
  dsimp only;rw [h1, h2]
  have e1 : (([a, 46, b] : Str) == [49, 46, 48]) = (a == 49 && b == 48) := by
    simp only [List.cons_beq_cons, ybs, Bool.true_and, Bool.and_true]
  have e2 : (([a, 46, b] : Str) == [49, 46, 49]) = (a == 49 && b == 49) := by
    simp only [List.cons_beq_cons, ybs, Bool.true_and, Bool.and_true]
  rw [e1, e2]
  cases a == 49 with
  | false => rfl
  | true =>
    cases h3 : b == 48 with
    | true => have : b = 48 := by simpa using h3
              subst this; rfl
    | false =>
      cases h4 : b == 49 with
      | true => have : b = 49 := by simpa using h4
                subst this; rfl
      | false => rfl
theorem znB {u : Str} (h : ∀ a b, u = zb2 ++ [a, 46, b] → zQ a = true → zQ b = true → False) : zdh u = -1 := by
 unfold zdh
 cases hc : (zhP u).2.2.1 && (zhP u).2.2.2 == [] with
 | false => rfl
 | true =>
  exfalso
  simp only [Bool.and_eq_true] at hc;obtain ⟨a, b, t, e, ha, hb, ev⟩ := zqe hc.1;rw [ev] at hc
  have ht : t = [] := by simpa using hc.2
  subst ht;exact h a b e ha hb
theorem zlU (u : Str) (hu : u.length < 1000000000) : zdr u = some (zdh u) := by
 unfold zdr zbN
 by_cases h8 : u.length = 8
 ·have e8 : ((u.length : Int) == 8) = true := by rw [h8]; rfl
  have t5 := zbQ (l := u) (h := 5) (by omega);have f5 := zD (l := u) (i := 5) (by omega);have a5 : sAt u 5 = u[5]? := zz u 5;have a6 : sAt u 6 = u[6]? := zz u 6;have a7 : sAt u 7 = u[7]? := zz u 7;have t5 : sTo u 5 = some (u.take 5) := t5;have f5 : zaH u 5 = some (u.drop 5) := f5;rw [e8, ynt, if_neg (by decide), t5, yob, a5, a6, a7, f5, yob, yob]
  match u, h8 with
  | [c0, c1, c2, c3, c4, a, d, b], _ =>
   show (if (!(([c0, c1, c2, c3, c4] : Str) == zb2)) = true then _ else (some a).bind fun b5 => (zfd b5).bind fun r6 => if (!r6) = true then _ else (some d).bind fun b8 => if (!(b8 == 46)) = true then _ else (some b).bind fun b10 => (zfd b10).bind fun r11 => if (!r11) = true then some (-1) else (if (([a, d, b] : Str) == [49, 46, 48]) = true then some 0 else if (([a, d, b] : Str) == [49, 46, 49]) = true then some 1 else some 2)) = _;simp only [yob, zsz]
   cases hp : ([c0, c1, c2, c3, c4] : Str) == zb2 with
   | false =>
    rw [znB (fun x y e _ _ => by
     have := congrArg (List.take 5) e;rw [show ([c0, c1, c2, c3, c4, a, d, b] : Str).take 5 = [c0, c1, c2, c3, c4] from rfl, show (zb2 ++ [x, 46, y]).take 5 = zb2 from rfl] at this;rw [this, ybs] at hp
     cases hp)]
    rfl
   | true =>
    have hp' : ([c0, c1, c2, c3, c4] : Str) = zb2 := by simpa using hp
    have hu : ([c0, c1, c2, c3, c4, a, d, b] : Str) = zb2 ++ [a, d, b] := by rw [← hp']; rfl
    rw [hu]
    have hinj : ∀ x y, zb2 ++ [a, d, b] = zb2 ++ [x, 46, y] → a = x ∧ d = 46 ∧ b = y := fun x y e => by
     have := List.append_cancel_left e;simpa using this
    cases ha : zQ a with
    | false => rw [znB (fun x y e h1 _ => by obtain ⟨rfl, _, _⟩ := hinj x y e; rw [ha] at h1; cases h1)]; rfl
    | true =>
     cases hd : d == 46 with
     | false => rw [znB (fun x y e _ _ => by obtain ⟨_, h, _⟩ := hinj x y e; rw [h] at hd; exact absurd hd (by decide))]; rfl
     | true =>
      have hd' : d = 46 := by simpa using hd
      subst hd'
      cases hb : zQ b with
      | false => rw [znB (fun x y e _ h2 => by obtain ⟨_, _, rfl⟩ := hinj x y e; rw [hb] at h2; cases h2)]; rfl
      | true =>
       rw [zB3 a b ha hb];cases ([a, 46, b] : Str) == [49, 46, 48] <;> cases ([a, 46, b] : Str) == [49, 46, 49] <;> rfl
 ·have e8 : ((u.length : Int) == 8) = false := beq_eq_false_iff_ne.2 (by omega);rw [e8, znB (fun a b e _ _ => h8 (by rw [e]; rfl))];rfl
theorem zwQ {s : Str} {c : UInt8} : ∀ {k : Nat}, k ≤ s.length → zju s c k = none → c ∉ s.take k
 | 0, _, _ => by simp
 | k + 1, hk, h => by
  rw [zju] at h
  split at h
  ·cases h
  ·rename_i h2
   have ih := zwQ (by omega) h;rw [List.take_add_one];intro hm
   rcases List.mem_append.1 hm with hm | hm
   ·exact ih hm
   ·have g : s[k]? = some s[k] := ygg (by omega);rw [g] at hm h2
    have : c = s[k] := by simpa using hm
    exact h2 (by rw [this])
theorem zrt {s : Str} {c : UInt8} : ∀ {k i : Nat}, k ≤ s.length → zju s c k = some i → c ∉ (s.take k).drop (i + 1)
 | 0, _, _, h => by cases h
 | k + 1, i, hk, h => by
  rw [zju] at h
  split at h
  ·cases h;rw [List.drop_of_length_le (by rw [ylt]; omega)];simp
  ·rename_i h2
   have ih := zrt (by omega) h;have hlt := (zns h).1;have g : s[k]? = some s[k] := ygg (by omega);rw [List.take_add_one, g, List.drop_append_of_le_length (by simp; omega)];intro hm
   rcases List.mem_append.1 hm with hm | hm
   ·exact ih hm
   ·rw [g] at h2
    have : c = s[k] := by simpa using hm
    exact h2 (by rw [this])
theorem zs8 (s : Str) : ∃ l, zd 32 s = l ++ [zn5 s] := by
 unfold zn5 zuW
 cases h : zju s 32 s.length with
 | none =>
  have := zwQ (Nat.le_refl _) h;rw [List.take_length] at this;exact ⟨[], by rw [zih this]; rfl⟩
 | some k =>
  have h1 := zns h;have h2 := zrt (Nat.le_refl _) h;rw [List.take_length] at h2;have g : s[k]? = some s[k] := ygg h1.1;rw [g] at h1;have hc : s[k] = 32 := yoi h1.2
  have e : s = s.take k ++ 32 :: s.drop (k + 1) := by
   have := (List.take_append_drop k s).symm;rw [ydg h1.1, hc] at this;exact this
  refine ⟨zd 32 (s.take k), ?_⟩
  conv => lhs; rw [e]
  rw [zp3, zih h2]
theorem zpo : ∀ {s m : Str} {l : List Str}, zd 32 s = m :: l → (l = [] ∧ s = m) ∨ ∃ r, s = m ++ 32 :: r ∧ zd 32 r = l
 | [], m, l, h => by rw [zd] at h; cases h; exact .inl ⟨rfl, rfl⟩
 | y :: s, m, l, h => by
  rw [za3] at h
  split at h
  ·rename_i e
   injection h with h1 h2
   subst h1 e;exact .inr ⟨s, rfl, h2⟩
  ·cases h3 : zd 32 s with
   | nil => exact absurd h3 (zbS 32 s)
   | cons a l' =>
    rw [h3] at h
    injection h with h1 h2
    subst h2
    rcases zpo h3 with ⟨h4, h5⟩ | ⟨r, h4, h5⟩
    ·exact .inl ⟨h4, by rw [← h1, h5]; rfl⟩
    ·exact .inr ⟨r, by rw [← h1, h4]; rfl, h5⟩
theorem zms {p : UInt8 → Bool} {c : UInt8} (hc : p c = false) : ∀ {m : Str} (r : Str), m.all p = true → (m ++ c :: r).takeWhile p = m ∧ (m ++ c :: r).dropWhile p = c :: r
 | [], r, _ => by simp [hc]
 | x :: m, r, h => by
  simp only [List.all_cons, Bool.and_eq_true] at h;have ih := zms hc r h.2;constructor
  ·rw [List.cons_append, List.takeWhile_cons, if_pos h.1, ih.1]
  ·rw [List.cons_append, List.dropWhile_cons, if_pos h.1, ih.2]
theorem zB4 {t : Str} (h : (32 : UInt8) ∉ t) : t.all (fun b => !(b == 32)) = true :=
 List.all_eq_true.2 fun x hx => by
  have : x ≠ 32 := fun e => h (by rw [← e]; exact hx);simp [this]
theorem zB5 {m t v : Str} (h1 : m.all zF = true) (h2 : (32 : UInt8) ∉ t) : zpy (m ++ 32 :: (t ++ 32 :: v)) = m ∧ zrW (m ++ 32 :: (t ++ 32 :: v)) = t ∧ zrD (m ++ 32 :: (t ++ 32 :: v)) = 32 :: (t ++ 32 :: v) ∧ zlm (m ++ 32 :: (t ++ 32 :: v)) = 32 :: v := by
 have a := zms (p := zF) (c := 32) (by decide) (t ++ 32 :: v) h1;have b := zms (p := fun b => !(b == 32)) (c := 32) (by decide) v (zB4 h2);unfold zpy zrW zlm zrD;rw [a.1, a.2, zaj, b.1, b.2];exact ⟨rfl, rfl, rfl, rfl⟩
def reqS (s : Str) : api_Head × Int :=
 if zdh (zn5 s) == 2 then (zw, 26) else match zd 32 s with
 | [m, t, v] => if !decide (zdh v < 0) && zeH m && (zkC m t).2 == 0 then (⟨1, m, t, 0, [], zdh v, []⟩, 0) else (zw, 20)
 | _ => (zw, 20)
theorem zuN (m : Str) : zeH m = true ↔ m ≠ [] ∧ m.all zF = true := by
 unfold zeH;cases m <;> simp
theorem zru {s m t v : Str} (h : zd 32 s = [m, t, v]) : s = m ++ 32 :: (t ++ 32 :: v) ∧ (32 : UInt8) ∉ m ∧ (32 : UInt8) ∉ t ∧ (32 : UInt8) ∉ v ∧ zn5 s = v := by
 have hm := fun x (hx : x ∈ zd 32 s) => (zd6 hx).1;rw [h] at hm;refine ⟨?_, hm m (by simp), hm t (by simp), hm v (by simp), ?_⟩
 ·rcases zpo h with ⟨h1, _⟩ | ⟨r, h1, h2⟩
  ·cases h1
  ·rcases zpo h2 with ⟨h3, _⟩ | ⟨r2, h3, h4⟩
   ·cases h3
   ·rw [h1, h3, znE h4]
 ·obtain ⟨l, hl⟩ := zs8 s;rw [h] at hl;have := congrArg List.getLast? hl;simp at this;exact this.symm
theorem zx0 (s : Str) : zq9 s = reqS s := by
 unfold zq9 reqS
 cases h26 : zdh (zn5 s) == 2 with
 | true => rfl
 | false =>
  rw [if_neg yfn, if_neg yfn]
  cases hF : zxd s with
  | true =>
   obtain ⟨v, e, n1, n2, h3, h4, k1, k2, k3, k4⟩ := zpz hF;have hv := zB8 k1 k2
   have hsp : zd 32 s = [zpy s, zrW s, v] := by
    have := zwY n1 n2 hv;rw [← e] at this;exact this
   rw [if_pos rfl, hsp, k3];dsimp only;rw [ydf (show ¬ zdh v < 0 by omega), (zuN _).2 ⟨h3, h4⟩, k4];rfl
  | false =>
   rw [if_neg (by decide)]
   split
   ·rename_i m t v hsp
    split
    ·rename_i hc
     exfalso
     simp only [Bool.and_eq_true, Bool.not_eq_true', decide_eq_false_iff_not] at hc;obtain ⟨⟨c1, c2⟩, c3⟩ := hc;obtain ⟨e, _, n2, _, hlast⟩ := zru hsp;obtain ⟨t1, t2⟩ := (zuN _).1 c2;obtain ⟨r1, r2, r3, r4⟩ := zB5 (v := v) t2 n2;rw [← e] at r1 r2 r3 r4;have hm := (zuV v).1;rw [hlast] at h26;rw [ydt (show 0 ≤ zdh v by omega), h26] at hm;unfold zxd at hF;rw [r1, r2, r3, r4, zaT, zaj, zaT, hm, c3] at hF
     have : (m == []) = false := by simpa using t1
     rw [this] at hF
     revert hF
     decide
    ·rfl
   ·rfl
theorem zrv (w : List Str) (v : Int) (m t u : Str) (hw : w = [m, t, u]) (hb : t.length < 300000000) (q : Bool) :
  za0 w v q = some (if q then (zw, 20) else if (zkC m t).2 == 0 then (⟨1, m, t, 0, [], v, []⟩, 0) else (zw, 20)) := by
 subst hw;unfold za0;have l0 : lAt [m, t, u] 0 = some m := rfl;have l1 : lAt [m, t, u] 1 = some t := rfl;rw [l0, l1, yob, yob, zsX m t hb, yob, yob, yob];cases q <;> cases (zkC m t).2 == 0 <;> rfl
theorem zvA (s : Str) (hs : s.length < 300000000) : ((zbb ((zd 32 s).length : Int) 1).bind fun i28 => (lAt (zd 32 s) i28).bind fun x29 => (zdr x29).bind fun r32 =>
  if (r32 == 2) then (some (((⟨0, [], [], 0, [], 0, []⟩ : api_Head), 26))) else (if (!(((zd 32 s).length : Int) == 3)) then (za0 (zd 32 s) r32 true) else (if (decide (r32 < 0)) then (za0 (zd 32 s) r32 true) else ((lAt (zd 32 s) 0).bind fun x40 => (zfe x40).bind fun r43 => za0 (zd 32 s) r32 (!r43))))) = some (reqS s) := by
 have hlen := zgj 32 s;have hpos := List.length_pos_iff.2 (zbS 32 s);obtain ⟨l, hl⟩ := zs8 s
 have hlw : (zn5 s).length ≤ s.length := by unfold zn5; simp
 have e1 : zbb ((zd 32 s).length : Int) 1 = some (((zd 32 s).length - 1 : Nat) : Int) := by rw [zY (by omega) (by omega)]; congr 1; omega
 have e2 : (zd 32 s)[(zd 32 s).length - 1]? = some (zn5 s) := by rw [hl]; simp
 rw [e1, yob, zaG, e2, yob, zlU _ (by omega), yob];unfold reqS
 cases zdh (zn5 s) == 2 with
 | true => rfl
 | false =>
  rw [if_neg yfn, if_neg yfn]
  by_cases h3 : (zd 32 s).length = 3
  ·have e3 : (((zd 32 s).length : Int) == 3) = true := by rw [h3]; rfl
   obtain ⟨m, t, v, hsp⟩ : ∃ m t v, zd 32 s = [m, t, v] := by
    match zd 32 s, h3 with
    | [m, t, v], _ => exact ⟨m, t, v, rfl⟩
   have hmem := fun x (hx : x ∈ zd 32 s) => (zd6 hx).2.1;obtain ⟨_, _, _, _, hlast⟩ := zru hsp;rw [e3, ynt, if_neg (by decide), hlast, hsp];rw [hsp] at hmem;have hm := hmem m (by simp);have ht := hmem t (by simp);have l0 : lAt [m, t, v] 0 = some m := rfl;rw [l0, yob, zku m (by omega), yob, zrv [m, t, v] (zdh v) m t v rfl (by omega), zrv [m, t, v] (zdh v) m t v rfl (by omega)];dsimp only;cases decide (zdh v < 0) <;> cases zeH m <;> cases (zkC m t).2 == 0 <;> rfl
  ·have e3 : (((zd 32 s).length : Int) == 3) = false := beq_eq_false_iff_ne.2 (by omega);rw [e3, ynf, if_pos rfl];unfold za0;rw [if_pos rfl]
   split
   ·rename_i m t v hsp
    rw [hsp] at h3;exact absurd rfl h3
   ·rfl
theorem zuO (s : Str) : zd 32 s = if (zP 32 s).2.2 then (zP 32 s).1 :: zd 32 (zP 32 s).2.1 else [s] := by
 have hno : (32 : UInt8) ∉ (zP 32 s).1 := fun hm => by
  have := zsZ (cs := [32]) (s := s) 32 hm;simp at this
 rcases zdX (zP 32 s).2.2 with h | h
 ·rw [if_pos h];have := ztH 32 s h
  conv => lhs; rw [← this]
  exact zgi _ hno
 ·have hn := zmP 32 s h;rw [if_neg (by rw [h]; decide)];rw [hn] at hno;exact zih hno
theorem zwR (b : UInt8) (t : Str) (hb : b = 48 ∨ b = 49) : zgg (zb2 ++ 49 :: 46 :: b :: t) = (((b - 48).toNat : Int), true, t) := by
 unfold zgg;rw [zwP 49 b t (by decide) (by rcases hb with h | h <;> subst h <;> decide)]
 rcases hb with h | h <;> subst h <;> rfl
theorem zmt {s : Str} {m : Int} (h : (zK 10 s m).2 = 0) : s.all zQ = true ∧ s ≠ [] := by
 unfold zK at h
 split at h
 ·cases h
 ·rename_i h2
  simp only [Bool.or_eq_true, Bool.not_eq_true', not_or] at h2
  have h3 : s.all (zk8 10) = true := by simpa using h2.2
  exact ⟨List.all_eq_true.2 fun x hx => (List.all_eq_true.1 h3 x hx : zk8 10 x = true), by simpa using h2.1⟩
def zs9 (s : Str) : Bool := match zd 32 s with
 | w0 :: w1 :: _ :: _ => !decide (zdh w0 < 0) && (w1.length : Int) == 3 && (zK 10 w1 599).2 == 0 && !decide ((zK 10 w1 599).1 < 100) && (s.drop 13).all zfC
 | _ => false
theorem zpW {b : UInt8} {w r : Str} (hb : b = 48 ∨ b = 49) (hw : w.all zQ = true) : (zgg (zb2 ++ 49 :: 46 :: b :: 32 :: (w ++ 32 :: r))) = (((b - 48).toNat : Int), true, 32 :: (w ++ 32 :: r)) ∧ ztv (zb2 ++ 49 :: 46 :: b :: 32 :: (w ++ 32 :: r)) = w ∧ zqf (zb2 ++ 49 :: 46 :: b :: 32 :: (w ++ 32 :: r)) = 32 :: r := by
 have h1 := zwR b (32 :: (w ++ 32 :: r)) hb;have h2 := zms (p := zQ) (c := 32) (by decide) r hw;refine ⟨h1, ?_, ?_⟩
 ·unfold ztv; rw [h1]; dsimp only; rw [zaj, h2.1]
 ·unfold zqf; rw [h1]; dsimp only; rw [zaj, h2.2]
theorem zuP {w : Str} (h : w.all zQ = true) : (32 : UInt8) ∉ w := fun hm => by
 have := List.all_eq_true.1 h 32 hm
 revert this; decide
theorem zmu {s : Str} (h : zvR s = true) : ∃ b w r, (b = 48 ∨ b = 49) ∧ s = zb2 ++ 49 :: 46 :: b :: 32 :: (w ++ 32 :: r) ∧ w.all zQ = true ∧ w.length = 3 := by
 unfold zvR at h;simp only [Bool.and_eq_true] at h;obtain ⟨⟨⟨⟨⟨⟨h1, h2⟩, h3⟩, h4⟩, h5⟩, h6⟩, h7⟩ := h;unfold zgg at h1;simp only [Bool.and_eq_true, decide_eq_true_eq, beq_iff_eq] at h1;obtain ⟨⟨a1, a2⟩, a3⟩ := h1;obtain ⟨a, b, t, e, ha, hb, ev⟩ := zqe a1;rw [ev] at a2 a3
 have hm : (zgg s).2.2 = t := by unfold zgg; rw [ev]
 rw [hm] at h2
 have ha1 : a = 49 := by
  have := zyI a;rw [ha] at this
  have : (((a - 48).toNat : Int) == 1) = (a == 49) := by simpa using this
  rw [show (((a - 48).toNat : Int) == 1) = true from by simpa using a2] at this;simpa using this.symm
 have hb1 := zn4 hb (by dsimp only at a3; omega);have e2 := zeF h2;have e4 := zeF h3
 have e5 : ztv s ++ zqf s = z7 32 t := by
  unfold ztv zqf; rw [hm]; exact List.takeWhile_append_dropWhile
 have hl3 : ((ztv s).length : Int) = 3 := by simpa using h4
 refine ⟨b, ztv s, z7 32 (zqf s), hb1, ?_, (zmt (by simpa using h5)).1, by omega⟩;rw [← e4, e5, ← e2, ← ha1, e]
theorem zDn (s : Str) (h26 : (zdh (zP 32 s).1 == 2) = false) : zvR s = zs9 s := by
  rw [Bool.eq_iff_iff];constructor
  · intro h
    have h' := h;obtain ⟨b, w, r, hb, e, hw, hl⟩ := zmu h;obtain ⟨m1, m2, m3⟩ := zpW (r := r) hb hw;rw [← e] at m1 m2 m3;unfold zvR at h';rw [m1, m2, m3] at h';simp only [Bool.and_eq_true, zaj] at h'
    have h32 : (32 : UInt8) ∉ (zb2 ++ [49, 46, b]) := by rcases hb with h | h <;> subst h <;> decide
    have hsp : zd 32 s = (zb2 ++ [49, 46, b]) :: w :: zd 32 r := by
      have e' : s = (zb2 ++ [49, 46, b]) ++ 32 :: (w ++ 32 :: r) := by rw [e]; simp
      rw [e', zgi _ h32, zgi _ (zuP hw)]
    have hd : s.drop 13 = r := by
      rw [e];show (w ++ 32 :: r).drop 4 = r
      match w, hl with
      | [x, y, z], _ => rfl
    have hv : zdh (zb2 ++ [49, 46, b]) = ((b - 48).toNat : Int) := by rcases hb with h | h <;> subst h <;> decide
    unfold zs9;rw [hsp]
    cases hr : zd 32 r with
    | nil => exact absurd hr (zbS 32 r)
    | cons x l =>
      dsimp only;rw [hd, hv, ydf (by omega)];simp only [Bool.and_eq_true];exact ⟨⟨⟨⟨rfl, by rw [hl]; rfl⟩, h'.1.1.2⟩, h'.1.2⟩, h'.2⟩
  · intro h
    unfold zs9 at h
    split at h
    · rename_i w0 w1 w2 l hsp
      simp only [Bool.and_eq_true, Bool.not_eq_true', decide_eq_false_iff_not] at h;obtain ⟨⟨⟨⟨h1, h2⟩, h3⟩, h4⟩, h5⟩ := h;have hc := zuO s;rw [hsp] at hc
      have h0 : (zP 32 s).1 = w0 := by
        split at hc
        · injection hc with hc _; exact hc.symm
        · cases hc
      rw [h0] at h26
      rcases zpo hsp with ⟨hx, _⟩ | ⟨r1, e1, hsp1⟩
      · cases hx
      rcases zpo hsp1 with ⟨hx, _⟩ | ⟨r, e2, hsp2⟩
      · cases hx
      have hb : ∃ b, (b = 48 ∨ b = 49) ∧ w0 = zb2 ++ [49, 46, b] := by
        rcases zkX (u := w0) (by omega) h26 with ⟨h, _⟩ | ⟨h, _⟩
        · exact ⟨48, .inl rfl, h⟩
        · exact ⟨49, .inr rfl, h⟩
      obtain ⟨b, hb, hw0⟩ := hb;have hw := (zmt (by simpa using h3)).1
      have e : s = zb2 ++ 49 :: 46 :: b :: 32 :: (w1 ++ 32 :: r) := by rw [e1, hw0, e2]; simp
      obtain ⟨m1, m2, m3⟩ := zpW (r := r) hb hw;rw [← e] at m1 m2 m3
      have hl : w1.length = 3 := by have : (w1.length : Int) = 3 := by simpa using h2
                                    omega
      have hd : s.drop 13 = r := by
        rw [e];show (w1 ++ 32 :: r).drop 4 = r
        match w1, hl with
        | [x, y, z], _ => rfl
      rw [hd] at h5;unfold zvR;rw [m1, m2, m3];simp only [Bool.and_eq_true, zaj, zaT];exact ⟨⟨⟨⟨⟨⟨by first | trivial | rfl, by first | trivial | rfl⟩, by first | trivial | rfl⟩, h2⟩, h3⟩, by rw [ydf (by omega)]; rfl⟩, h5⟩
    · cases h
theorem zwS (v : Int) (rd : Int × Int) (u : Str) (hu : u.length < 1000000000) : zdN v rd u fuel 0 = some (if u.all zfC && rd.2 == 0 && !decide (rd.1 < 100) then (⟨2, [], [], rd.1, u, v, []⟩, 0) else (zw, 20)) := by
 have key : ∀ (n i : Nat), i ≤ u.length → u.length - i < n → zdN v rd u n (i : Int) = some (if (u.drop i).all zfC && rd.2 == 0 && !decide (rd.1 < 100) then (⟨2, [], [], rd.1, u, v, []⟩, 0) else (zw, 20)) := by
  intro n
  induction n with
  | zero => intro i _ h; omega
  | succ n ih =>
   intro i hi h;rw [zdN]
   by_cases hlt : i < u.length
   ·have g : u[i]? = some u[i] := ygg hlt;rw [ydt (show (i : Int) < (u.length : Int) by omega), if_pos rfl, zz, g, yob, ziq, yob, ze (by omega), yob, ih (i + 1) (by omega) (by omega), ydg hlt, List.all_cons];cases zfC u[i] <;> rfl
   ·have : i = u.length := by omega
    subst this;unfold zgL;rw [ydf (by omega), if_neg (by decide), ydl];cases rd.2 == 0 <;> cases decide (rd.1 < 100) <;> rfl
 have := key fuel 0 (yz _) (by unfold fuel; omega);rw [List.drop_zero] at this;exact this
theorem zvB (s : Str) (hs : s.length < 300000000) : ((lAt (zd 32 s) 0).bind fun x69 => (zdr x69).bind fun r72 =>
    if (r72 == 2) then (some (((⟨0, [], [], 0, [], 0, []⟩ : api_Head), 26))) else (if (decide (((zd 32 s).length : Int) < 3)) then (za1 s (zd 32 s) r72 true) else (if (decide (r72 < 0)) then (za1 s (zd 32 s) r72 true) else ((lAt (zd 32 s) 1).bind fun x80 => za1 s (zd 32 s) r72 (!((x80.length : Int) == 3)))))) = some (ztw s) := by
  have hc := zuO s;have hcl := zou 32 s
  have h0 : ∃ l, zd 32 s = (zP 32 s).1 :: l := by
    rcases zdX (zP 32 s).2.2 with h | h
    · rw [if_pos h] at hc; exact ⟨_, hc⟩
    · rw [if_neg (by rw [h]; decide)] at hc
      have := zmP 32 s h;exact ⟨[], by rw [hc, this]⟩
  obtain ⟨l, hl⟩ := h0
  have l0 : lAt (zd 32 s) 0 = some (zP 32 s).1 := by rw [hl]; rfl
  rw [l0, yob, zlU _ (by omega), yob];unfold ztw
  cases h26 : zdh (zP 32 s).1 == 2 with
  | true => rfl
  | false =>
    rw [if_neg yfn, if_neg yfn];have hok := zDn s h26
    have j5t : ∀ w, za1 s w (zdh (zP 32 s).1) true = some (zw, 20) := fun w => by unfold za1; rw [if_pos rfl]; rfl
    by_cases h3 : (zd 32 s).length < 3
    · rw [ydt (show ((zd 32 s).length : Int) < 3 by omega), if_pos rfl, j5t, hok]
      have : zs9 s = false := by
        unfold zs9
        split
        · rename_i w0 w1 w2 l' hsp
          rw [hsp] at h3; simp only [ylc] at h3; omega
        · rfl
      rw [this]; rfl
    · rw [ydf (show ¬ ((zd 32 s).length : Int) < 3 by omega), if_neg (by decide), j5t]
      obtain ⟨w1, w2, l', hsp⟩ : ∃ w1 w2 l', zd 32 s = (zP 32 s).1 :: w1 :: w2 :: l' := by
        rw [hl] at h3
        match l, h3 with
        | w1 :: w2 :: l', _ => exact ⟨w1, w2, l', hl⟩
        | [_], h => simp at h
        | [], h => simp at h
      have l1 : lAt (zd 32 s) 1 = some w1 := by rw [hsp]; rfl
      rw [l1, yob, hok]
      have hst : zs9 s = (!decide (zdh (zP 32 s).1 < 0) && (w1.length : Int) == 3 && (zK 10 w1 599).2 == 0 && !decide ((zK 10 w1 599).1 < 100) && (s.drop 13).all zfC) := by
        unfold zs9; rw [hsp]
      cases hneg : decide (zdh (zP 32 s).1 < 0) with
      | true => rw [if_pos rfl, hst, hneg]; rfl
      | false =>
        rw [if_neg (by decide)]
        cases hl3 : (w1.length : Int) == 3 with
        | false => rw [ynf, j5t, hst, hneg, hl3]; rfl
        | true =>
          have hw3 : w1.length = 3 := by have : (w1.length : Int) = 3 := by simpa using hl3
                                         omega
          have h13 : 13 ≤ s.length := by
            have hneg' : ¬ zdh (zP 32 s).1 < 0 := by simpa using hneg
            rcases zpo hsp with ⟨hx, _⟩ | ⟨r1, e1, hsp1⟩
            · cases hx
            rcases zpo hsp1 with ⟨hx, _⟩ | ⟨r, e2, _⟩
            · cases hx
            have h8 : (zP 32 s).1.length = 8 := by
              rcases zkX (u := (zP 32 s).1) (by omega) h26 with ⟨h, _⟩ | ⟨h, _⟩ <;> rw [h] <;> rfl
            rw [e2] at e1;have := congrArg List.length e1;simp only [yla, ylc] at this;omega
          unfold za1;have hrd := zjl (b := 10) (.inl rfl) w1 599 (by omega) (by decide) (by decide);rw [show ((10 : Nat) : Int) = 10 from rfl] at hrd;have hfr : zaH s 13 = some (s.drop 13) := zD (i := 13) h13;rw [ynt, if_neg (by decide), l1, yob, hrd, yob, hfr, yob, zwS _ _ _ (by simp; omega), hst, hneg, hl3]
          cases hq : (s.drop 13).all zfC && (zK 10 w1 599).2 == 0 && !decide ((zK 10 w1 599).1 < 100) with
          | false =>
            have : (!false && true && (zK 10 w1 599).2 == 0 && !decide ((zK 10 w1 599).1 < 100) && (s.drop 13).all zfC) = false := by
              revert hq
              cases (s.drop 13).all zfC <;> cases (zK 10 w1 599).2 == 0 <;> cases decide ((zK 10 w1 599).1 < 100) <;> decide
            rw [this]; rfl
          | true =>
            have ht : (!false && true && (zK 10 w1 599).2 == 0 && !decide ((zK 10 w1 599).1 < 100) && (s.drop 13).all zfC) = true := by
              revert hq
              cases (s.drop 13).all zfC <;> cases (zK 10 w1 599).2 == 0 <;> cases decide ((zK 10 w1 599).1 < 100) <;> decide
            have hF : zvR s = true := by rw [hok, hst, hneg, hl3]; exact ht
            obtain ⟨b, w, r, hb, e, hw, hlw⟩ := zmu hF;obtain ⟨m1, m2, m3⟩ := zpW (r := r) hb hw;rw [← e] at m1 m2 m3
            have h32 : (32 : UInt8) ∉ (zb2 ++ [49, 46, b]) := by rcases hb with h | h <;> subst h <;> decide
            have hsp' : zd 32 s = (zb2 ++ [49, 46, b]) :: w :: zd 32 r := by
              have e' : s = (zb2 ++ [49, 46, b]) ++ 32 :: (w ++ 32 :: r) := by rw [e]; simp
              rw [e', zgi _ h32, zgi _ (zuP hw)]
            rw [hsp] at hsp'
            injection hsp' with q1 q2
            injection q2 with q2 _
            have hd : s.drop 13 = r := by
              rw [e];show (w ++ 32 :: r).drop 4 = r
              match w, hlw with
              | [x, y, z], _ => rfl
            have hv : zdh (zb2 ++ [49, 46, b]) = ((b - 48).toNat : Int) := by rcases hb with h | h <;> subst h <;> decide
            rw [ht, if_pos rfl, if_pos rfl, m1, m2, m3, zaj, q1, hv, hd, q2]
theorem znC (kind : Int) (s : Str) (hs : s.length < 300000000) : zh5 kind s = some (zby kind s) := by
 unfold zh5 zgM zby
 have key : ∀ (n i : Nat), i ≤ s.length → s.length - i < n → (!(kind == 1) && !(kind == 2)) = false → zbX kind s n (i : Int) = some (if (s.drop i).any ([13, 10] : Str).contains then (zw, 24) else if kind == 1 then zq9 s else ztw s) := by
  intro n
  induction n with
  | zero => intro i _ h; omega
  | succ n ih =>
   intro i hi h hk;rw [zbX]
   by_cases hlt : i < s.length
   ·have g : s[i]? = some s[i] := ygg hlt;unfold zgK;rw [ydt (show (i : Int) < (s.length : Int) by omega), if_pos rfl, zz, g, yob, yob, ze (by omega), yob, ih (i + 1) (by omega) (by omega) hk, ydg hlt, List.any_cons]
    have : ([13, 10] : Str).contains s[i] = (s[i] == 13 || s[i] == 10) := by simp only [List.contains_cons, List.contains_nil, Bool.or_false]
    rw [this];cases s[i] == 13 <;> cases s[i] == 10 <;> rfl
   ·have : i = s.length := by omega
    subst this;rw [ydf (by omega), if_neg (by decide), zkq s 32 (by omega), yob, ydl, zvA s hs, zvB s hs, zx0];cases kind == 1 <;> rfl
 have := key fuel 0 (yz _) (by unfold fuel; omega);rw [List.drop_zero] at this;have this : (!(kind == 1) && !(kind == 2)) = false → zbX kind s fuel 0 = _ := this
 cases h1 : kind == 1 with
 | true => rw [h1] at this; rw [ynt, if_neg (by decide), if_neg (by decide), this rfl]; rfl
 | false =>
  cases h2 : kind == 2 with
  | true => rw [h1, h2] at this; rw [ynf, if_pos rfl, ynt, if_neg (by decide), this rfl]; rfl
  | false => rfl
end Go.Dm
end
section
namespace Go.Dm
def verT (n : Int) : Str := zb2 ++ 49 :: 46 :: zmR 10 n
def rawL (h : api_Head) : Str := if h.Kind == 2 then verT h.Minor ++ 32 :: (zmR 10 h.Code ++ 32 :: h.Reason) else h.Method ++ 32 :: (h.Target ++ 32 :: verT h.Minor)
theorem zvl : ∀ a, a < 10 → ∀ b, b < 10 → ∀ c, c < 10 → 100 ≤ a * 100 + b * 10 + c → zie 10 (a * 100 + b * 10 + c) = [a, b, c] := by decide +kernel
theorem zvm (c : UInt8) : (!zQ c || (decide ((c - 48).toNat < 10) && dch (c - 48).toNat == c && wor c == (c - 48).toNat)) = true := zO (fun c => !zQ c || (decide ((c - 48).toNat < 10) && dch (c - 48).toNat == c && wor c == (c - 48).toNat)) (by decide +kernel) c
theorem zxP {w : Str} (hl : w.length = 3) (h : (zK 10 w 599).2 = 0) (h1 : ¬ (zK 10 w 599).1 < 100) : zmR 10 (zK 10 w 599).1 = w ∧ inI (zK 10 w 599).1 = true := by
 have hin := zkF h (by decide);refine ⟨?_, hin.2.2⟩;have hd := (zmt h).1
 match w, hl with
 | [x, y, z], _ =>
  simp only [List.all_cons, List.all_nil, Bool.and_true, Bool.and_eq_true] at hd;have fx := zvm x;have fy := zvm y;have fz := zvm z;rw [hd.1] at fx;rw [hd.2.1] at fy;rw [hd.2.2] at fz;simp only [ynt, Bool.false_or, Bool.and_eq_true, decide_eq_true_eq, beq_iff_eq] at fx fy fz
  have hval : (zK 10 [x, y, z] 599).1 = (((x - 48).toNat * 100 + (y - 48).toNat * 10 + (z - 48).toNat : Nat) : Int) := by
   unfold zK at h ⊢
   split at h
   ·cases h
   ·rename_i g1
    rw [if_neg g1]
    split at h
    ·cases h
    ·rename_i g2
     rw [if_neg g2]
     have : zbv 10 (vals [x, y, z]) = (x - 48).toNat * 100 + (y - 48).toNat * 10 + (z - 48).toNat := by
      unfold vals zbv;simp only [List.map_cons, List.map_nil, List.foldl_cons, List.foldl_nil, fx.2, fy.2, fz.2];omega
     rw [this]
  rw [hval] at h1 ⊢;unfold zmR;rw [if_neg (by omega), Int.toNat_natCast, zvl _ fx.1.1 _ fy.1.1 _ fz.1.1 (by omega)];unfold zu;simp only [List.map_cons, List.map_nil, fx.1.2, fy.1.2, fz.1.2]
theorem zsP {k : Int} {s : Str} {x : api_Head} (h : zby k s = (x, 0)) : (k = 1 ∧ zq9 s = (x, 0)) ∨ (k = 2 ∧ ztw s = (x, 0)) := by
 unfold zby at h
 cases h1 : k == 1 with
 | true =>
  have hk : k = 1 := by simpa using h1
  rw [h1, ynt, Bool.false_and, if_neg yfn] at h
  split at h
  ·exact absurd (show (24 : Int) = 0 from congrArg Prod.snd h) (by decide)
  ·rw [if_pos rfl] at h; exact .inl ⟨hk, h⟩
 | false =>
  cases h2 : k == 2 with
  | true =>
   have hk : k = 2 := by simpa using h2
   rw [h1, h2, ynt, Bool.and_false, if_neg yfn] at h
   split at h
   ·exact absurd (show (24 : Int) = 0 from congrArg Prod.snd h) (by decide)
   ·rw [if_neg yfn] at h; exact .inr ⟨hk, h⟩
  | false =>
   rw [h1, h2, ynf, Bool.true_and, if_pos rfl] at h;exact absurd (show (1 : Int) = 0 from congrArg Prod.snd h) (by decide)
structure LineBack (k : Int) (s : Str) (x : api_Head) : Prop where
 kind : x.Kind = k
 raw : rawL x = s
 code : inI x.Code = true
 minor : inI x.Minor = true
 method : x.Method.length ≤ s.length
 target : x.Target.length ≤ s.length
 reason : x.Reason.length ≤ s.length
theorem zxQ {v : Str} (h : 0 ≤ zdh v) (h2 : (zdh v == 2) = false) : verT (zdh v) = v ∧ inI (zdh v) = true := by
 rcases zkX h h2 with ⟨e, e2⟩ | ⟨e, e2⟩ <;> rw [e2, e] <;> exact ⟨by decide, by decide⟩
theorem zzk {k : Int} {s : Str} {x : api_Head} (h : zby k s = (x, 0)) : LineBack k s x := by
 rcases zsP h with ⟨hk, h⟩ | ⟨hk, h⟩
 ·rcases zte s with (h1 | h1) | ⟨h1, h2⟩
  ·rw [h1] at h; exact absurd (show (26 : Int) = 0 from congrArg Prod.snd h) (by decide)
  ·rw [h1] at h; exact absurd (show (20 : Int) = 0 from congrArg Prod.snd h) (by decide)
  ·obtain ⟨v, e, n1, n2, h3, h4, k1, k2, k3, k4⟩ := zpz h1;rw [h2] at h;have hx := congrArg Prod.fst h;dsimp only at hx;subst hx;obtain ⟨q1, q2⟩ := zxQ k1 k2;have hlen := congrArg List.length e;simp only [yla, ylc] at hlen;rw [k3];refine ⟨hk.symm, ?_, rfl, q2, by dsimp only; omega, by dsimp only; omega, by simp⟩;show zpy s ++ 32 :: (zrW s ++ 32 :: verT (zdh v)) = s;rw [q1]; exact e.symm
 ·unfold ztw at h
  split at h
  ·exact absurd (show (26 : Int) = 0 from congrArg Prod.snd h) (by decide)
  ·split at h
   ·rename_i h26 hF
    have hF' := hF;obtain ⟨b, w, r, hb, e, hw, hl⟩ := zmu hF;obtain ⟨m1, m2, m3⟩ := zpW (r := r) hb hw;rw [← e] at m1 m2 m3;unfold zvR at hF';rw [m1, m2, m3] at hF';simp only [Bool.and_eq_true, Bool.not_eq_true', decide_eq_false_iff_not] at hF';have hx := congrArg Prod.fst h;dsimp only at hx;subst hx;obtain ⟨q1, q2⟩ := zxP hl (by simpa using hF'.1.1.2) hF'.1.2;have hlen := congrArg List.length e;simp only [yla, ylc] at hlen;rw [m1, m2, m3, zaj]
    have hv : verT ((b - 48).toNat : Int) = zb2 ++ [49, 46, b] ∧ inI ((b - 48).toNat : Int) = true := by rcases hb with h | h <;> subst h <;> exact ⟨by decide, by decide⟩
    refine ⟨hk.symm, ?_, q2, hv.2, by simp, by simp, by dsimp only; omega⟩;show verT ((b - 48).toNat : Int) ++ 32 :: (zmR 10 (zK 10 w 599).1 ++ 32 :: r) = s;rw [hv.1, q1, e]; simp
   ·exact absurd (show (20 : Int) = 0 from congrArg Prod.snd h) (by decide)
theorem zir (k : Int) (s : Str) : (zby k s).1.Fields = [] := by
 unfold zby zq9 ztw
 split
 ·rfl
 ·split
  ·rfl
  ·split
   ·split
    ·rfl
    ·split <;> rfl
   ·split
    ·rfl
    ·split <;> rfl
end Go.Dm
end
section
namespace Go.Dm
def za4 (b : UInt8) : Bool := b == 32 || b == 9
def zj5 (s : Str) : Str := s.dropWhile za4
def ziU (s : Str) : Str := (s.reverse.dropWhile za4).reverse
def zb7 (s : Str) : Str := zj5 (ziU s)
theorem zwL (b : UInt8) : ([32, 9] : Str).contains b = za4 b := by
 simp only [za4, List.contains_cons, List.contains_nil, Bool.or_false]
theorem zzy : ziU [] = [] := rfl
theorem zkA (s : Str) (c : UInt8) : ziU (s ++ [c]) = if za4 c then ziU s else s ++ [c] := by
 unfold ziU;rw [List.reverse_append];simp only [List.reverse_cons, List.reverse_nil, yna, List.singleton_append, List.dropWhile_cons]
 split <;> simp
theorem zBY (s : Str) : (ziU s).length ≤ s.length := by
 unfold ziU;rw [List.length_reverse];have := (List.dropWhile_suffix (l := s.reverse) za4).length_le;simpa using this
theorem zBZ (s : Str) : (zj5 s).length ≤ s.length := (List.dropWhile_suffix za4).length_le
theorem zr2 (s : Str) : (zb7 s).length ≤ s.length := Nat.le_trans (zBZ _) (zBY _)
theorem zrs (s : Str) : (s.all za4 = true ∧ ziU s = []) ∨ ∃ a c b, s = a ++ c :: b ∧ za4 c = false ∧ b.all za4 = true ∧ ziU s = a ++ [c] := by
 rw [← List.reverse_reverse s];generalize s.reverse = r
 induction r with
 | nil => left; exact ⟨rfl, rfl⟩
 | cons x r ih =>
  rw [List.reverse_cons, zkA]
  rcases zdX (za4 x) with h | h
  ·rw [h]
   rcases ih with ⟨h1, h2⟩ | ⟨a, c, b, h1, h2, h3, h4⟩
   ·left; refine ⟨?_, by simpa using h2⟩
    rw [List.all_append, h1]; simp [h]
   ·right; refine ⟨a, c, b ++ [x], by rw [h1]; simp, h2, by rw [List.all_append, h3]; simp [h], by simpa using h4⟩
  ·right; exact ⟨r.reverse, x, [], rfl, h, rfl, by simp [h]⟩
theorem zzz {s : Str} (h : s.all za4 = true) : zj5 s = [] := by
 unfold zj5
 induction s with
 | nil => rfl
 | cons x s ih =>
  simp only [List.all_cons, Bool.and_eq_true] at h;rw [List.dropWhile_cons, h.1];exact ih h.2
theorem zzA {a : Str} {c : UInt8} {b : Str} (hc : za4 c = false) : zj5 (a ++ c :: b) = zj5 (a ++ [c]) ++ b := by
 unfold zj5
 induction a with
 | nil => simp [List.dropWhile_cons, hc]
 | cons x a ih =>
  simp only [List.cons_append, List.dropWhile_cons]
  split
  ·exact ih
  ·simp
theorem zB0 {a : Str} {c : UInt8} (hc : za4 c = false) : ∃ d, zj5 (a ++ [c]) = d ++ [c] := by
 unfold zj5
 induction a with
 | nil => exact ⟨[], by simp [List.dropWhile_cons, hc]⟩
 | cons x a ih =>
  simp only [List.cons_append, List.dropWhile_cons]
  split
  ·exact ih
  ·exact ⟨x :: a, rfl⟩
theorem zzB {d : Str} {c : UInt8} {b : Str} (hc : za4 c = false) (hb : b.all za4 = true) : ziU (d ++ c :: b) = d ++ [c] := by
 rw [← List.reverse_reverse b] at *
 generalize b.reverse = r at *
 induction r with
 | nil => rw [List.reverse_nil, zkA, hc]; rfl
 | cons x r ih =>
  rw [List.reverse_cons, List.all_append] at hb;simp only [Bool.and_eq_true, List.all_cons, List.all_nil, Bool.and_true] at hb;rw [List.reverse_cons, ← List.cons_append, ← yaa, zkA, hb.2];exact ih hb.1
theorem zzC (s : Str) : ziU (zj5 s) = zb7 s := by
 unfold zb7
 rcases zrs s with ⟨h1, h2⟩ | ⟨a, c, b, h1, h2, h3, h4⟩
 ·rw [h2, zzz h1]; rfl
 ·rw [h4, h1, zzA h2];obtain ⟨d, hd⟩ := zB0 (a := a) h2;rw [hd, yaa];exact zzB h2 h3
theorem zB1 (s : Str) : Go.Lib.trimS s [32, 9] = zb7 s := by
 unfold Go.Lib.trimS Go.Lib.trimLeftS Go.Lib.trimRightS zb7 zj5 ziU
 have : (fun x => ([32, 9] : List UInt8).contains x) = za4 := by funext b; exact zwL b
 rw [this]
theorem zmY (s : Str) (hs : s.length < 1000000000) : zfp s [32, 9] = some (zb7 s) := by
 unfold zfp;rw [if_pos ⟨by omega, by simp, by decide⟩, zB1]
theorem zkB (b : UInt8) : zgN b = some (za4 b) :=
 of_decide_eq_true (zO (fun b => decide (zgN b = some (za4 b))) (by decide +kernel) b)
theorem zja : ∀ (k n : Nat) (s : Str), s.length = k → k < n → k < 1000000000 → zcC n s = some (ziU s)
 | k, 0, s, _, h, _ => by omega
 | 0, n + 1, s, hk, h, _ => by
  have : s = [] := List.length_eq_zero_iff.1 hk;subst this; rw [zcC]; simp [zf0, zzy]
 | k + 1, n + 1, s, hk, h, hb => by
  obtain ⟨a, c, rfl⟩ : ∃ a c, s = a ++ [c] := by
   rcases List.eq_nil_or_concat s with rfl | ⟨a, c, rfl⟩
   ·simp at hk
   ·exact ⟨a, c, by simp⟩
  have hl : a.length = k := by simpa using hk
  have e : ((a ++ [c]).length : Int) - 1 = (a.length : Int) := by simp
  have h0 : (0 : Int) < ((a ++ [c]).length : Int) := by simp
  have e2 : sTo (a ++ [c]) (a.length : Int) = some a := by rw [zbQ (by simp)]; simp
  rw [zcC, zkA];rw [zY (by omega) (by omega), e];simp only [h0, decide_true, if_true, yob, zz, List.getElem?_concat_length, zkB, zf0]
  rcases zdX (za4 c) with h1 | h1
  ·rw [h1];simp only [if_true, zY (show -9223372036854775808 ≤ ((a ++ [c]).length : Int) - 1 by omega) (show ((a ++ [c]).length : Int) - 1 ≤ 9223372036854775807 by simp; omega), e, yob, e2];exact zja k n a hl (by omega) (by omega)
  ·rw [h1]; simp
theorem zlS : ∀ (n : Nat) (s : Str), s.length < n → s.length < 1000000000 → zcD n s = some (ziU (zj5 s))
 | 0, s, h, _ => by omega
 | n + 1, [], h, hb => by
  rw [zcD];simp only [yln, Int.natCast_zero, Int.lt_irrefl, decide_false, Bool.false_eq_true, if_false, zf1];exact zja 0 fuel [] rfl (by decide) (by decide)
 | n + 1, x :: s, h, hb => by
  rw [zcD]
  have h0 : (0 : Int) < ((x :: s).length : Int) := by simp
  have e : zaH (x :: s) 1 = some s := by
   have := zD (l := x :: s) (i := 1) (by simp); simpa using this
  simp only [h0, decide_true, if_true, zg4, List.getElem?_cons_zero, yob, zkB, zf1]
  rcases zdX (za4 x) with h1 | h1
  ·rw [h1];simp only [if_true, e, yob];rw [zlS n s (by simp at h; omega) (by simp at hb; omega)];unfold zj5; simp [List.dropWhile_cons, h1]
  ·rw [h1];simp only [Bool.false_eq_true, if_false];rw [zja _ fuel _ rfl (by unfold fuel; omega) hb];unfold zj5; simp [List.dropWhile_cons, h1]
theorem zjo (s : Str) (hs : s.length < 1000000000) : zgO s = some (zb7 s) := by
 unfold zgO;rw [zlS fuel s (by unfold fuel; omega) hs, zzC]
end Go.Dm
end
section
namespace Go.Dm
def zcZ : Str → Option (Str × Nat)
 | [] => none
 | c :: r => if c == 34 then some ([], 1) else if c == 92 then (match r with
   | [] => none
   | d :: t => if zfC d then (zcZ t).map (fun p => (d :: p.1, p.2 + 2)) else none)
  else if zfC c then (zcZ r).map (fun p => (c :: p.1, p.2 + 1)) else none
theorem zqu (r : Str) : zcZ (34 :: r) = some ([], 1) := by rw [zcZ.eq_def]; rfl
theorem zo8 : zcZ [92] = none := by rw [zcZ.eq_def]; rfl
theorem zqv (d : UInt8) (t : Str) : zcZ (92 :: d :: t) = if zfC d then (zcZ t).map (fun p => (d :: p.1, p.2 + 2)) else none := by rw [zcZ.eq_def]; rfl
theorem zqw {c : UInt8} (r : Str) (h1 : (c == 34) = false) (h2 : (c == 92) = false) : zcZ (c :: r) = if zfC c then (zcZ r).map (fun p => (c :: p.1, p.2 + 1)) else none := by
 rw [zcZ.eq_def]; simp only [h1, h2, Bool.false_eq_true, if_false]
theorem zqx {P : Str → Prop} (h0 : P []) (h1 : ∀ r, P (34 :: r)) (h2 : P [92]) (h3 : ∀ d t, P t → P (92 :: d :: t)) (h4 : ∀ c r, (c == 34) = false → (c == 92) = false → P r → P (c :: r)) : ∀ (n : Nat) (s : Str), s.length < n → P s
  | 0, s, h => by omega
  | n + 1, [], _ => h0
  | n + 1, c :: r, h => by
    simp only [ylc] at h
    cases h34 : c == 34 with
    | true => have : c = 34 := by simpa using h34
              subst this; exact h1 r
    | false =>
      cases h92 : c == 92 with
      | true =>
        have : c = 92 := by simpa using h92
        subst this
        cases r with
        | nil => exact h2
        | cons d t => simp only [ylc] at h; exact h3 d t (zqx h0 h1 h2 h3 h4 n t (by omega))
      | false => exact h4 c r h34 h92 (zqx h0 h1 h2 h3 h4 n r (by omega))
theorem zr6 (s : Str) : ∀ p, zcZ s = some p → 1 ≤ p.2 ∧ p.2 ≤ s.length ∧ p.1.length + 1 ≤ p.2 := by
 refine zqx (P := fun s => ∀ p, zcZ s = some p → 1 ≤ p.2 ∧ p.2 ≤ s.length ∧ p.1.length + 1 ≤ p.2) ?_ ?_ ?_ ?_ ?_ (s.length + 1) s (by omega)
 ·intro p h; cases h
 ·intro r p h; rw [zqu] at h; cases h; simp
 ·intro p h; rw [zo8] at h; cases h
 ·intro d t ih p h;rw [zqv] at h
  split at h
  ·obtain ⟨q, hq, rfl⟩ := Option.map_eq_some_iff.1 h;have := ih q hq;simp only [ylc]; omega
  ·cases h
 ·intro c r h1 h2 ih p h;rw [zqw r h1 h2] at h
  split at h
  ·obtain ⟨q, hq, rfl⟩ := Option.map_eq_some_iff.1 h;have := ih q hq;simp only [ylc]; omega
  ·cases h
def zgh : Nat → Str → Option Nat
 | 0, _ => some 0
 | _ + 1, [] => none
 | d + 1, c :: r => if c == 40 then (zgh (d + 2) r).map (· + 1) else if c == 41 then (zgh d r).map (· + 1) else if c == 92 then (match r with
   | [] => none
   | _ :: t => (zgh (d + 1) t).map (· + 2)) else (zgh (d + 1) r).map (· + 1)
theorem zqy (s : Str) : zgh 0 s = some 0 := by cases s <;> rfl
theorem zof (d : Nat) (r : Str) : zgh (d + 1) (40 :: r) = (zgh (d + 2) r).map (· + 1) := by rw [zgh.eq_def]; rfl
theorem zmc (d : Nat) (r : Str) : zgh (d + 1) (41 :: r) = (zgh d r).map (· + 1) := by rw [zgh.eq_def]; rfl
theorem zqz (d : Nat) : zgh (d + 1) [92] = none := by rw [zgh.eq_def]; rfl
theorem zpC (d : Nat) (c : UInt8) (t : Str) : zgh (d + 1) (92 :: c :: t) = (zgh (d + 1) t).map (· + 2) := by rw [zgh.eq_def]; rfl
theorem zpD (d : Nat) {c : UInt8} (r : Str) (h1 : (c == 40) = false) (h2 : (c == 41) = false) (h3 : (c == 92) = false) : zgh (d + 1) (c :: r) = (zgh (d + 1) r).map (· + 1) := by
 rw [zgh.eq_def]; simp only [h1, h2, h3, Bool.false_eq_true, if_false]
theorem zvZ {P : Str → Prop} (h0 : P []) (h1 : ∀ r, P r → P (40 :: r)) (h2 : ∀ r, P r → P (41 :: r)) (h3 : P [92]) (h4 : ∀ d t, P t → P (92 :: d :: t)) (h5 : ∀ c r, (c == 40) = false → (c == 41) = false → (c == 92) = false → P r → P (c :: r)) : ∀ (n : Nat) (s : Str), s.length < n → P s
  | 0, s, h => by omega
  | n + 1, [], _ => h0
  | n + 1, c :: r, h => by
    simp only [ylc] at h;have ih := fun t ht => zvZ h0 h1 h2 h3 h4 h5 n t ht
    cases c40 : c == 40 with
    | true => have : c = 40 := by simpa using c40
              subst this; exact h1 r (ih r (by omega))
    | false =>
      cases c41 : c == 41 with
      | true => have : c = 41 := by simpa using c41
                subst this; exact h2 r (ih r (by omega))
      | false =>
        cases c92 : c == 92 with
        | true =>
          have : c = 92 := by simpa using c92
          subst this
          cases r with
          | nil => exact h3
          | cons d t => simp only [ylc] at h; exact h4 d t (ih t (by omega))
        | false => exact h5 c r c40 c41 c92 (ih r (by omega))
theorem zCz (s : Str) : ∀ d n, zgh d s = some n → n ≤ s.length := by
 refine zvZ (P := fun s => ∀ d n, zgh d s = some n → n ≤ s.length) ?_ ?_ ?_ ?_ ?_ ?_ (s.length + 1) s (by omega)
 ·intro d n h; cases d with
  | zero => cases h; simp
  | succ d => cases h
 ·intro r ih d n h; cases d with
  | zero => cases h; simp
  | succ d => rw [zof] at h; obtain ⟨m, hm, rfl⟩ := Option.map_eq_some_iff.1 h; have := ih _ _ hm; simp only [ylc]; omega
 ·intro r ih d n h; cases d with
  | zero => cases h; simp
  | succ d => rw [zmc] at h; obtain ⟨m, hm, rfl⟩ := Option.map_eq_some_iff.1 h; have := ih _ _ hm; simp only [ylc]; omega
 ·intro d n h; cases d with
  | zero => cases h; simp
  | succ d => rw [zqz] at h; cases h
 ·intro c t ih d n h; cases d with
  | zero => cases h; simp
  | succ d => rw [zpC] at h; obtain ⟨m, hm, rfl⟩ := Option.map_eq_some_iff.1 h; have := ih _ _ hm; simp only [ylc]; omega
 ·intro c r h1 h2 h3 ih d n h; cases d with
  | zero => cases h; simp
  | succ d => rw [zpD d r h1 h2 h3] at h; obtain ⟨m, hm, rfl⟩ := Option.map_eq_some_iff.1 h; have := ih _ _ hm; simp only [ylc]; omega
def zeL (c : UInt8) (r : Str) : Nat := if c == 34 then (match zcZ r with | some p => p.2 + 1 | none => 0) else (match zgh 1 r with | some n => n + 1 | none => 0)
theorem zv0 (c : UInt8) (r : Str) : zeL c r ≤ r.length + 1 := by
 unfold zeL
 split
 ·cases h : zcZ r with
  | none => simp
  | some p => have := zr6 r p h; dsimp only; omega
 ·cases h : zgh 1 r with
  | none => simp
  | some n => have := zCz r 1 n h; dsimp only; omega
def zic : Nat → Str → Str → Option (List Str)
 | _, cur, [] => some [cur]
 | k + 1, cur, c :: r => zic k (cur ++ [c]) r
 | 0, cur, c :: r => if c == 34 || c == 40 then (if zeL c r = 0 then none else zic (zeL c r - 1) (cur ++ [c]) r) else if c == 44 then (zic 0 [] r).map (cur :: ·) else zic 0 (cur ++ [c]) r
theorem zr7 (k : Nat) (cur : Str) : zic k cur [] = some [cur] := by cases k <;> rfl
theorem zyW (k : Nat) (cur : Str) (c : UInt8) (r : Str) : zic (k + 1) cur (c :: r) = zic k (cur ++ [c]) r := rfl
theorem zu3 (cur : Str) {c : UInt8} (r : Str) (h : (c == 34 || c == 40) = true) : zic 0 cur (c :: r) = if zeL c r = 0 then none else zic (zeL c r - 1) (cur ++ [c]) r := by
 rw [zic, if_pos h]
theorem zo9 (cur r : Str) : zic 0 cur (44 :: r) = (zic 0 [] r).map (cur :: ·) := by rw [zic]; rfl
theorem zr8 (cur : Str) {c : UInt8} (r : Str) (h : (c == 34 || c == 40) = false) (h2 : (c == 44) = false) : zic 0 cur (c :: r) = zic 0 (cur ++ [c]) r := by
 rw [zic, if_neg (by rw [h]; decide), if_neg (by rw [h2]; decide)]
theorem zqA : ∀ (k : Nat) (cur s : Str), k ≤ s.length → zic k cur s = zic 0 (cur ++ s.take k) (s.drop k)
 | 0, cur, s, _ => by simp
 | k + 1, cur, [], h => by simp at h
 | k + 1, cur, c :: r, h => by
  rw [zyW, zqA k _ r (by simpa using h)];simp
theorem zu4 {a b : Str} (hb : b.all za4 = true) : zb7 (a ++ b) = zb7 a := by
 have : ziU (a ++ b) = ziU a := by
  rw [← List.reverse_reverse b] at *
  generalize b.reverse = r at *
  induction r with
  | nil => simp
  | cons x r ih =>
   rw [List.reverse_cons, List.all_append] at hb;simp only [Bool.and_eq_true, List.all_cons, List.all_nil, Bool.and_true] at hb;rw [List.reverse_cons, ← yaa, zkA, hb.2, if_pos rfl];exact ih hb.1
 unfold zb7; rw [this]
def elems (l : List Str) : List Str := (l.map zb7).filter (fun x => !(x == []))
def zid (s : Str) : Option (List Str) := (zic 0 [] s).map elems
theorem zyX (a b : List Str) : elems (a ++ b) = elems a ++ elems b := by simp [elems]
end Go.Dm
end
section
namespace Go.Dm
section
variable {s r : Str} {k : Nat}
theorem zmJ (s : Str) (k : Nat) : (⟨s, (k : Int)⟩ : scan_Scanner) = scn s k := rfl
theorem zxe (b : UInt8) (r : Str) : (z7 b r).length ≤ r.length := by unfold z7; split <;> simp
def zrE (r : Str) : Option (UInt8 × Str) := match z7 92 r with
 | [] => none
 | c :: t => if zfC c then some (c, t) else none
theorem zzS {c : UInt8} {t : Str} (h : zrE r = some (c, t)) : t.length < r.length := by
 unfold zrE at h;have := zxe 92 r
 cases hb : z7 92 r with
 | nil => rw [hb] at h; cases h
 | cons d u =>
  rw [hb] at h this;simp only at h
  split at h
  ·cases h; simp only [ylc] at this; omega
  ·cases h
theorem zDD (hs : s.length < 1000000000) (out : Str) (ho : out.length < 1000000000) (h : At s k r) :
  (∀ c t, zrE r = some (c, t) → ∃ k', At s k' t ∧ k ≤ k' ∧ zco ⟨scn s k, out⟩ = some (true, ⟨scn s k', out ++ [c]⟩)) ∧
  (zrE r = none → ∃ k', k' ≤ s.length ∧ k ≤ k' ∧ zco ⟨scn s k, out⟩ = some (false, ⟨scn s k', out⟩)) := by
 unfold zco zrE;obtain ⟨k1, h1, e1⟩ := zfA hs 92 h
 have hk : k ≤ k1 := by have := h.len; have := h1.len; have := zxe 92 r; omega
 show (∀ c t, _ → ∃ k', _ ∧ _ ∧ (zj (scn s k) 92).bind _ = _) ∧ (_ → ∃ k', _ ∧ _ ∧ (zj (scn s k) 92).bind _ = _);rw [e1];simp only [yob];rw [zqg h1]
 cases hb : z7 92 r with
 | nil =>
  rw [hb] at h1;refine ⟨fun c t h => (by cases h), fun _ => ⟨k1, h1.le, hk, rfl⟩⟩
 | cons d u =>
  rw [hb] at h1;simp only [zyR, yob, ynt, Bool.false_eq_true, if_false, zi6];unfold zch;obtain ⟨k2, h2, e2⟩ := zfA hs d h1
  rw [zaj, zaT] at *
  cases hv : zfC d with
  | false => exact ⟨fun c t h => by simp at h, fun _ => ⟨k1, h1.le, hk, by simp⟩⟩
  | true =>
   refine ⟨fun c t h => ?_, fun h => by simp at h⟩;simp at h;obtain ⟨rfl, rfl⟩ := h;refine ⟨k2, h2, by have := h1.len; have := h2.len; simp only [ylc] at *; omega, ?_⟩;rw [if_neg (by decide), if_pos (zba (n := out.length) (m := 1) (by omega) (by omega)), e2];simp
theorem zyf (r : Str) : zcZ r = if zet 34 r then some ([], 1) else match zrE r with
    | none => none
    | some (c, t) => (zcZ t).map (fun p => (c :: p.1, p.2 + (r.length - t.length))) := by
  cases r with
  | nil => rfl
  | cons c r =>
    rw [zaT]
    cases h34 : c == 34 with
    | true => have : c = 34 := by simpa using h34
              subst this; rw [zqu]; rfl
    | false =>
      rw [if_neg (by decide)];unfold zrE
      cases h92 : c == 92 with
      | true =>
        have : c = 92 := by simpa using h92
        subst this;rw [zaj]
        cases r with
        | nil => exact zo8
        | cons d t =>
          rw [zqv];dsimp only
          cases zfC d with
          | false => rfl
          | true =>
            rw [if_pos rfl, if_pos rfl];dsimp only
            congr 1
            funext p
            congr 2
            simp only [ylc]; omega
      | false =>
        rw [zkZ (by rw [zaT]; exact h92), zqw r h34 h92];dsimp only
        cases zfC c with
        | false => rfl
        | true =>
          rw [if_pos rfl, if_pos rfl];dsimp only
          congr 1
          funext p
          congr 2
          simp only [ylc]; omega
theorem zvT {s : Str} {k k0 : Nat} (h : k0 ≤ k) : zef (scn s k) (k0 : Int) = some (true, scn s k0) := by
 unfold zef;rw [ydf (show ¬ ((k0 : Int) < 0) by omega), if_neg (by decide), zmf, yob];unfold zcK;rw [ydf (show ¬ ((k : Int) < (k0 : Int)) by omega), if_neg (by decide)];rfl
theorem zm5 (k0 n : Nat) (hk : k0 ≤ k) (out : Str) : zbo (k0 : Int) (n + 1) s (k : Int) out false = some ([], false, scn s k0) := by
 rw [zbo, if_neg (by decide)];unfold zeX zgr;rw [if_neg (by decide), ynf, if_pos rfl, zmJ, zvT hk, yob]
theorem zqi (hs : s.length < 1000000000) (k0 : Nat) : ∀ (n : Nat) (r : Str) (k : Nat) (out : Str), r.length + 1 < n → At s k r → k0 ≤ k → out.length ≤ k →
  zbo (k0 : Int) n s (k : Int) out true = some (match zcZ r with | some p => (out ++ p.1, true, scn s (k + p.2)) | none => ([], false, scn s k0))
 | 0, _, _, _, h, _, _, _ => by omega
 | n + 1, r, k, out, hn, h, hk, ho => by
  rw [zbo, if_pos rfl, zmJ];obtain ⟨k1, h1, e1⟩ := zfA hs 34 h;have hkl := h.le;rw [e1, yob];unfold zeX;rw [zyf]
  cases hb : zet 34 r with
  | true =>
   rw [ynt, if_neg (by decide), if_pos rfl];have hr := zeF hb
   have hk1 : k1 = k + 1 := by
    have := h.len; have := h1.len;have := congrArg List.length hr;simp only [ylc] at this; omega
   subst hk1;unfold zgr;rw [ynt, if_neg (by decide)];simp [scn]
  | false =>
   rw [zkZ hb] at h1
   have hk1 : k1 = k := by have := h.len; have := h1.len; omega
   subst hk1;rw [ynf, if_pos rfl, if_neg (by decide)];dsimp only [scn];rw [zmJ];have hx := zDD hs out (by omega) h
   cases hq : zrE r with
   | none =>
    obtain ⟨k2, g1, g2, e2⟩ := hx.2 hq;rw [e2, yob];obtain ⟨m, rfl⟩ : ∃ m, n = m + 1 := ⟨n - 1, by omega⟩;exact zm5 k0 m (by omega) out
   | some ct =>
    obtain ⟨c, t⟩ := ct;obtain ⟨k2, g1, g2, e2⟩ := hx.1 c t hq;have hl := zzS hq;have l1 := h.len;have l2 := g1.len;rw [e2, yob];have ih := zqi hs k0 n t k2 (out ++ [c]) (by omega) g1 (by omega) (by simp; omega);dsimp only [scn];rw [ih]
    cases zcZ t with
    | none => rfl
    | some p =>
     simp only [Option.map_some, yaa, List.singleton_append]
     have : k2 + p.2 = k1 + (p.2 + (r.length - t.length)) := by omega
     exact congrArg (fun k => some (out ++ c :: p.1, true, scn s k)) this
def zn7 (r : Str) : Option (Str × Nat) := if zet 34 r then (zcZ (z7 34 r)).map (fun p => (p.1, p.2 + 1)) else none
theorem zk0 (hs : s.length < 1000000000) (h : At s k r) : zhZ (scn s k) = some (match zn7 r with | some p => (p.1, true, scn s (k + p.2)) | none => ([], false, scn s k)) := by
 unfold zhZ zn7;rw [zmf, yob];obtain ⟨k1, h1, e1⟩ := zfA hs 34 h;rw [e1, yob];have l0 := h.len;have l1 := h1.len
 cases hb : zet 34 r with
 | false =>
  rw [zkZ hb] at h1
  have hk1 : k1 = k := by have := h1.len; omega
  subst hk1;exact zm5 k1 999999999999999999 (Nat.le_refl _) []
 | true =>
  have hr := congrArg List.length (zeF hb);simp only [ylc] at hr
  have hk1 : k1 = k + 1 := by omega
  subst hk1;have := zqi hs k fuel (z7 34 r) (k + 1) [] (by unfold fuel; omega) h1 (by omega) (by simp);dsimp only [scn] at this ⊢;rw [this, if_pos rfl]
  cases zcZ (z7 34 r) with
  | none => rfl
  | some p => simp only [Option.map_some, yna]; rw [show k + 1 + p.2 = k + (p.2 + 1) by omega]
theorem zeG (hs : s.length < 1000000000) (p : commas_splitter) : ∀ (n : Nat) (r : Str) (k d : Nat), r.length + 1 < n → At s k r → d ≤ k + 1 →
  ∃ k', (∀ m, zgh d r = some m → k' = k + m) ∧ k' ≤ s.length ∧ zq p n s (k : Int) (d : Int) = some ((zgh d r).isSome, ⟨scn s k', p.f_out, p.f_from, p.f_s⟩)
 | 0, _, _, _, h, _, _ => by omega
 | n + 1, r, k, 0, hn, h, hd => by
  refine ⟨k, fun m hm => (by rw [zqy] at hm; cases hm; rfl), h.le, ?_⟩;rw [zq, zqy];rfl
 | n + 1, r, k, d + 1, hn, h, hd => by
  have hl := h.len;rw [zq, ydt (show (0 : Int) < ((d + 1 : Nat) : Int) by omega), if_pos rfl, zmJ, zqg h, yob]
  cases r with
  | nil => exact ⟨k, fun m hm => (by cases hm), h.le, rfl⟩
  | cons c t =>
   simp only [ylc] at hn hl;obtain ⟨k1, h1, e1⟩ := zfA hs c h;rw [zaj] at h1
   have hk1 : k1 = k + 1 := by have := h1.len; omega
   subst hk1;have i1 : zp ((d + 1 : Nat) : Int) 1 = some ((d + 2 : Nat) : Int) := ze (by omega)
   have i2 : zbb ((d + 1 : Nat) : Int) 1 = some (d : Int) := by rw [zY (by omega) (by omega)]; simp
   rw [show (zyR (c :: t)) = (c, true) from rfl];dsimp only;rw [ynt, if_neg (by decide), e1, yob, i1, yob, i2, yob];dsimp only [scn];rw [zmJ, zqg h1, yob]
   cases c40 : c == 40 with
   | true =>
    have : c = 40 := by simpa using c40
    subst this;obtain ⟨k', g1, g2, g3⟩ := zeG hs p n t (k + 1) (d + 2) (by omega) h1 (by omega);refine ⟨k', fun m hm => ?_, g2, ?_⟩
    ·rw [zof] at hm; obtain ⟨m', hm', rfl⟩ := Option.map_eq_some_iff.1 hm; rw [g1 m' hm']; omega
    ·rw [if_pos rfl, g3, zof]; simp [scn]
   | false =>
    rw [if_neg (by decide)]
    cases c41 : c == 41 with
    | true =>
     have : c = 41 := by simpa using c41
     subst this;obtain ⟨k', g1, g2, g3⟩ := zeG hs p n t (k + 1) d (by omega) h1 (by omega);refine ⟨k', fun m hm => ?_, g2, ?_⟩
     ·rw [zmc] at hm; obtain ⟨m', hm', rfl⟩ := Option.map_eq_some_iff.1 hm; rw [g1 m' hm']; omega
     ·rw [if_pos rfl, g3, zmc]; simp [scn]
    | false =>
     rw [if_neg (by decide)]
     cases c92 : c == 92 with
     | true =>
      have : c = 92 := by simpa using c92
      subst this;rw [if_pos rfl]
      cases t with
      | nil =>
       obtain ⟨k', g1, g2, g3⟩ := zeG hs p n [] (k + 1) (d + 1) (by simp; omega) h1 (by omega);exact ⟨k', fun m hm => (by rw [zqz] at hm; cases hm), g2, by rw [if_neg (by decide), g3]; rfl⟩
      | cons x u =>
       simp only [ylc] at hn hl;obtain ⟨k2, h2, e2⟩ := zfA hs x h1;rw [zaj] at h2
       have hk2 : k2 = k + 2 := by have := h2.len; omega
       subst hk2;obtain ⟨k', g1, g2, g3⟩ := zeG hs p n u (k + 2) (d + 1) (by omega) h2 (by omega);dsimp only [scn] at e2 g3 ⊢;refine ⟨k', fun m hm => ?_, g2, ?_⟩
       ·rw [zpC] at hm; obtain ⟨m', hm', rfl⟩ := Option.map_eq_some_iff.1 hm; rw [g1 m' hm']; omega
       ·rw [show (zyR (x :: u)) = (x, true) from rfl];dsimp only;rw [if_pos rfl, e2, yob, g3, zpC]; simp
     | false =>
      obtain ⟨k', g1, g2, g3⟩ := zeG hs p n t (k + 1) (d + 1) (by omega) h1 (by omega);refine ⟨k', fun m hm => ?_, g2, ?_⟩
      ·rw [zpD d t c40 c41 c92] at hm; obtain ⟨m', hm', rfl⟩ := Option.map_eq_some_iff.1 hm; rw [g1 m' hm']; omega
      ·rw [if_neg (by decide), g3, zpD d t c40 c41 c92]; simp [scn]
def mid (s : Str) (a b : Nat) : Str := (s.take b).drop a
theorem zqj {a n : Nat} (h : At s k r) (ha : a ≤ k) (hn : n ≤ r.length) : mid s a (k + n) = mid s a k ++ r.take n := by
 unfold mid;have hl := h.len;rw [List.take_add, h.drop, List.drop_append_of_le_length (by simp; omega)]
theorem zqk (s : Str) (a : Nat) : mid s a a = [] := by unfold mid; simp
theorem zyS (s : Str) (a b : Nat) : (mid s a b).length ≤ s.length := by unfold mid; simp; omega
def zrF (out : List Str) (x : Str) : List Str := if zb7 x == [] then out else out ++ [zb7 x]
theorem zxf (out : List Str) (x : Str) : zrF out x = out ++ elems [x] := by
 unfold zrF elems;rw [List.map_cons, List.map_nil, List.filter_cons]
 cases h : zb7 x == [] with
 | true => rw [if_pos rfl, ynt, if_neg (by decide), List.filter_nil, yan]
 | false => rw [if_neg (by decide), ynf, if_pos rfl, List.filter_nil]
theorem zzT (out : List Str) (x : Str) : (zrF out x).length ≤ out.length + 1 := by unfold zrF; split <;> simp
theorem zCr (hs : s.length < 1000000000) (out : List Str) (ho : out.length < 4000000000) (a b pos : Nat) (ha : a ≤ b) (hb : b ≤ s.length) : zb4 ⟨scn s pos, out, (a : Int), s⟩ (b : Int) = some ⟨scn s pos, zrF out (mid s a b), (pos : Int), s⟩ := by
 unfold zb4;have hl := zyS s a b;rw [zbt ha hb, yob];show (zfp (mid s a b) [32, 9]).bind _ = _;rw [zmY _ (by omega), yob];unfold zbT zrF;show (if (!(zb7 (mid s a b) == [])) = true then _ else _) = _
 cases zb7 (mid s a b) == [] with
 | true => rfl
 | false => rw [ynf, if_pos rfl, if_pos (zba (n := out.length) (m := 1) (by omega) (by omega))]; rfl
theorem zrG (t : Str) : zeL 34 t = match zcZ t with | some p => p.2 + 1 | none => 0 := rfl
theorem ztx (t : Str) : zeL 40 t = match zgh 1 t with | some n => n + 1 | none => 0 := rfl
theorem zDE (hs : s.length < 1000000000) (out : List Str) (ho : out.length ≤ k) (a : Nat) (ha : a ≤ k) (c : UInt8) (t : Str) (h : At s k (c :: t)) :
    (c = 44 → zaz ⟨scn s k, out, (a : Int), s⟩ = some (true, ⟨scn s (k + 1), zrF out (mid s a k), ((k + 1 : Nat) : Int), s⟩)) ∧
    ((c == 34 || c == 40) = true → zeL c t ≠ 0 → zaz ⟨scn s k, out, (a : Int), s⟩ = some (true, ⟨scn s (k + zeL c t), out, (a : Int), s⟩)) ∧
    ((c == 34 || c == 40) = true → zeL c t = 0 → ∃ p, zaz ⟨scn s k, out, (a : Int), s⟩ = some (false, p)) ∧
    ((c == 34 || c == 40) = false → (c == 44) = false → zaz ⟨scn s k, out, (a : Int), s⟩ = some (true, ⟨scn s (k + 1), out, (a : Int), s⟩)) := by
  have hl := h.len;simp only [ylc] at hl;have e44 := zii 44 h.le hs h.drop;have e40 := zii 40 h.le hs h.drop;have ec := zii c h.le hs h.drop;rw [ybs, if_pos rfl] at ec;unfold zaz;rw [show (⟨scn s k, out, (a : Int), s⟩ : commas_splitter).Scanner = scn s k from rfl, zmf, yob]
  have hno : (c == 34 || c == 40) = true → (c == 44) = false := fun hc => by
    cases h4 : c == 44 with
    | false => rfl
    | true => have : c = 44 := by simpa using h4
              subst this; exact absurd hc (by decide)
  have n44 : (c == 44) = false → zj (scn s k) 44 = some (false, scn s k) := fun h => by rw [e44, h]; rfl
  have n40 : (c == 40) = false → zj (scn s k) 40 = some (false, scn s k) := fun h => by rw [e40, h]; rfl
  have y40 : c = 40 → zj (scn s k) 40 = some (true, scn s (k + 1)) := fun h => by rw [e40, h]; rfl
  have pk : zE (scn s k) = some (c, true) := zqg h;refine ⟨fun hc => ?_, fun hc hp => ?_, fun hc hp => ?_, fun hc h44 => ?_⟩
  · subst hc
    have y44 : zj (scn s k) 44 = some (true, scn s (k + 1)) := e44;rw [y44, yob];dsimp only;rw [if_pos rfl, zCr hs out (by omega) a k (k + 1) ha h.le, yob];rfl
  · rw [n44 (hno hc), yob]
    dsimp only;rw [if_neg (by decide)]
    cases h40 : c == 40 with
    | true =>
      have : c = 40 := by simpa using h40
      subst this;have h1 := h.next 1 (by simp);obtain ⟨k', g1, _, g3⟩ := zeG hs ⟨scn s (k + 1), out, (a : Int), s⟩ fuel t (k + 1) 1 (by unfold fuel; omega) h1 (by omega);rw [ztx] at hp ⊢;rw [y40 rfl, yob];dsimp only;rw [if_pos rfl];unfold zbI
      cases hm : zgh 1 t with
      | none => rw [hm] at hp; exact absurd rfl hp
      | some m =>
        rw [hm] at g3;have hk' := g1 m hm;subst hk';have g3 : zq ⟨scn s (k + 1), out, (a : Int), s⟩ fuel (scn s (k + 1)).f_s (scn s (k + 1)).f_at 1 = some (true, ⟨scn s (k + 1 + m), out, (a : Int), s⟩) := g3;dsimp only;rw [g3, yob, show k + 1 + m = k + (m + 1) by omega]
    | false =>
      have h34 : c = 34 := by rw [h40, Bool.or_false] at hc; simpa using hc
      subst h34;rw [zrG] at hp ⊢;rw [n40 h40, yob];dsimp only;rw [if_neg (by decide), pk, yob];dsimp only;rw [if_pos (by decide), zk0 hs h, yob];unfold zn7;rw [zaT, zaj]
      cases hq : zcZ t with
      | none => rw [hq] at hp; exact absurd rfl hp
      | some p => rfl
  · rw [n44 (hno hc), yob]
    dsimp only;rw [if_neg (by decide)]
    cases h40 : c == 40 with
    | true =>
      have : c = 40 := by simpa using h40
      subst this;have h1 := h.next 1 (by simp);obtain ⟨k', g1, _, g3⟩ := zeG hs ⟨scn s (k + 1), out, (a : Int), s⟩ fuel t (k + 1) 1 (by unfold fuel; omega) h1 (by omega);rw [ztx] at hp;rw [y40 rfl, yob];dsimp only;rw [if_pos rfl];unfold zbI
      cases hm : zgh 1 t with
      | some m => rw [hm] at hp; exact absurd hp (by simp)
      | none =>
        rw [hm] at g3;have g3 : zq ⟨scn s (k + 1), out, (a : Int), s⟩ fuel (scn s (k + 1)).f_s (scn s (k + 1)).f_at 1 = some (false, ⟨scn s k', out, (a : Int), s⟩) := g3;dsimp only;exact ⟨_, by rw [g3, yob]⟩
    | false =>
      have h34 : c = 34 := by rw [h40, Bool.or_false] at hc; simpa using hc
      subst h34;rw [zrG] at hp;rw [n40 h40, yob];dsimp only;rw [if_neg (by decide), pk, yob];dsimp only;rw [if_pos (by decide), zk0 hs h, yob];unfold zn7;rw [zaT, zaj]
      cases hq : zcZ t with
      | some p => rw [hq] at hp; exact absurd hp (by simp)
      | none => exact ⟨_, rfl⟩
  · simp only [Bool.or_eq_false_iff] at hc
    rw [n44 h44, yob];dsimp only;rw [if_neg (by decide), n40 hc.2, yob];dsimp only;rw [if_neg (by decide), pk, yob];dsimp only;rw [hc.1, if_neg (by decide), ec, yob];rfl
def zn8 (s : Str) : List Str × Int := match zid s with
 | some l => (l, 0)
 | none => ([], 2)
theorem zln (hs : s.length < 1000000000) : ∀ (n : Nat) (r : Str) (k a : Nat) (out : List Str), r.length < n → At s k r → a ≤ k → out.length ≤ k →
  zdd s n out (a : Int) s s (k : Int) = some (match zic 0 (mid s a k) r with | some l => (out ++ elems l, 0) | none => ([], 2))
 | 0, _, _, _, _, h, _, _, _ => by omega
 | n + 1, r, k, a, out, hn, h, ha, ho => by
  have hl := h.len;rw [zdd, zmJ, zvS h, yob]
  cases r with
  | nil =>
   have hk : k = s.length := by simpa using hl
   subst hk;unfold zhJ;rw [zmJ, zCr hs out (by omega) a s.length s.length ha (Nat.le_refl _), yob, zr7];dsimp only;rw [zxf];rfl
  | cons c t =>
   simp only [ylc] at hn hl;obtain ⟨s1, s2, s3, s4⟩ := zDE hs out ho a ha c t h;have hne : (!((c :: t : Str) == [])) = true := rfl;have m1 := zqj (a := a) (n := 1) h ha (by simp);rw [hne, if_pos rfl]
   cases hc : (c == 34 || c == 40) with
   | true =>
    rw [zu3 _ t hc]
    by_cases hp : zeL c t = 0
    ·obtain ⟨p, e⟩ := s3 hc hp;rw [if_pos hp, e, yob];rfl
    ·have hple := zv0 c t;rw [if_neg hp, s2 hc hp, yob];have hat := h.next (zeL c t) (by simp; omega);have ih := zln hs n _ (k + zeL c t) a out (by simp; omega) hat (by omega) (by omega);rw [zqj h ha (by simp; omega)] at ih;obtain ⟨q, hq⟩ : ∃ q, zeL c t = q + 1 := ⟨zeL c t - 1, by omega⟩;rw [hq] at ih hple ⊢;rw [Nat.add_sub_cancel, zqA q _ t (by omega)];dsimp only [scn];rw [ynt, if_neg (by decide), ih];simp
   | false =>
    cases h44 : c == 44 with
    | true =>
     have : c = 44 := by simpa using h44
     subst this;rw [s1 rfl, yob, zo9];have hat := h.next 1 (by simp);have hpl := zzT out (mid s a k);have ih := zln hs n t (k + 1) (k + 1) (zrF out (mid s a k)) (by omega) hat (Nat.le_refl _) (by omega);rw [zqk] at ih;dsimp only [scn];rw [ynt, if_neg (by decide), ih]
     cases zic 0 [] t with
     | none => rfl
     | some l =>
      simp only [Option.map_some];rw [zxf, show mid s a k :: l = [mid s a k] ++ l from rfl, zyX, yaa]
    | false =>
     rw [s4 hc h44, yob, zr8 _ t hc h44];have hat := h.next 1 (by simp);have ih := zln hs n t (k + 1) a out (by omega) hat (by omega) (by omega);rw [m1] at ih;dsimp only [scn];rw [ynt, if_neg (by decide), ih];rfl
theorem zm6 (s : Str) (hs : s.length < 1000000000) : zhb s = some (zn8 s) := by
 unfold zhb zn8 zid;rw [zhS, yob];have := zln hs fuel s 0 0 [] (by unfold fuel; omega) (At.zero s) (Nat.le_refl _) (by simp);rw [zqk] at this;show zdd s fuel [] ((0 : Nat) : Int) s s ((0 : Nat) : Int) = _;rw [this]
 cases zic 0 [] s with
 | none => rfl
 | some l => rfl
end
end Go.Dm
end
section
namespace Go.Dm
theorem zCk {s : Str} {i : Nat} {c : UInt8} (h : s[i]? = some c) : zd0 s (i : Int) ((i + 1 : Nat) : Int) = some [c] := by
 have hlt := (List.getElem?_eq_some_iff.1 h).1;rw [zbt (by omega) (by omega), List.drop_take, show i + 1 - i = 1 by omega, ydg hlt, List.take_succ_cons, List.take_zero, (List.getElem?_eq_some_iff.1 h).2]
theorem zrx (rec2 : Str → Int → Option (Str × Int)) (s out : Str) (i : Nat) (c : UInt8) (h : s[i]? = some c) (hs : s.length < 1000000000) (ho : out.length < 1000000000) (q : Bool) :
  zdR rec2 s out (i : Int) q = if q then some ([], 0) else rec2 (out ++ [c]) ((i + 1 : Nat) : Int) := by
 have hlt := (List.getElem?_eq_some_iff.1 h).1;unfold zdR;rw [ze (by omega), yob, zCk h, yob, zhi (by simp; omega), yob, yob]
theorem znO (s : Str) (hs : s.length < 1000000000) : ∀ (n i : Nat) (out : Str), i ≤ s.length → s.length - i < n → out.length ≤ i →
  zbr s n out (i : Int) = some (match zcZ (s.drop i) with | some p => (out ++ p.1, ((i + p.2 : Nat) : Int)) | none => ([], 0))
 | 0, _, _, _, h, _ => by omega
 | n + 1, i, out, hi, h, ho => by
  rw [zbr]
  cases hd : s.drop i with
  | nil =>
   have : i = s.length := by have := congrArg List.length hd; simp at this; omega
   rw [ydf (by omega), if_neg (by decide)];rfl
  | cons c r =>
   obtain ⟨hlt, hr⟩ := zfm hd
   have hx : s[i]? = some c := by have := congrArg (·[0]?) hd; simpa using this
   have hrl : r.length = s.length - (i + 1) := by rw [← hr]; simp
   rw [ydt (show (i : Int) < (s.length : Int) by omega), if_pos rfl, zz, hx, yob, ze (by omega), yob, yob, yob]
   cases h34 : c == 34 with
   | true =>
    have : c = 34 := by simpa using h34
    subst this;rw [if_pos rfl, zqu]; simp
   | false =>
    rw [if_neg (by decide)];unfold zgV
    cases h92 : c == 92 with
    | true =>
     have : c = 92 := by simpa using h92
     subst this;rw [if_pos rfl]
     cases r with
     | nil =>
      simp only [yln] at hrl
      have : (((i + 1 : Nat) : Int) == (s.length : Int)) = true := by simp; omega
      rw [this, if_pos rfl, zo8];unfold zdR;rw [if_pos rfl]
     | cons d t =>
      obtain ⟨hlt2, hr2⟩ := zfm hr
      have hx2 : s[i + 1]? = some d := by have := congrArg (·[0]?) hr; simpa using this
      have : (((i + 1 : Nat) : Int) == (s.length : Int)) = false := beq_eq_false_iff_ne.2 (by omega);have ih := znO s hs n (i + 2) (out ++ [d]) (by omega) (by omega) (by simp; omega);rw [show i + 2 = i + 1 + 1 from rfl, hr2] at ih;rw [this, if_neg (by decide), zz, hx2, yob, ziq, yob, zrx _ _ _ _ d hx2 hs (by omega), zqv, ih]
      cases zfC d with
      | false => rfl
      | true =>
       rw [ynt, if_neg (by decide), if_pos rfl]
       cases zcZ t with
       | none => rfl
       | some p => simp only [Option.map_some, yaa, List.singleton_append]; rw [show i + 1 + 1 + p.2 = i + (p.2 + 2) by omega]
    | false =>
     have : ((i : Int) == (s.length : Int)) = false := beq_eq_false_iff_ne.2 (by omega);have ih := znO s hs n (i + 1) (out ++ [c]) (by omega) (by omega) (by simp; omega);rw [hr] at ih;rw [if_neg (by decide), this, if_neg (by decide), zz, hx, yob, ziq, yob, zrx _ _ _ _ c hx hs (by omega), zqw r h34 h92, ih]
     cases zfC c with
     | false => rfl
     | true =>
      rw [ynt, if_neg (by decide), if_pos rfl]
      cases zcZ r with
      | none => rfl
      | some p => simp only [Option.map_some, yaa, List.singleton_append]; rw [show i + 1 + p.2 = i + (p.2 + 1) by omega]
theorem zry (r : Str) (hs : r.length < 900000000) : zfh (34 :: r) = some (match zcZ r with | some p => (p.1, ((p.2 + 1 : Nat) : Int)) | none => ([], 0)) := by
 unfold zfh ze8;have h0 : (((34 :: r : Str).length : Int) == 0) = false := beq_eq_false_iff_ne.2 (by simp only [ylc]; omega);have := znO (34 :: r) (by simp; omega) fuel 1 [] (by simp) (by simp only [ylc]; unfold fuel; omega) (by simp);rw [h0, if_neg (by decide), zg4, List.getElem?_cons_zero, yob];show zbr (34 :: r) fuel [] ((1 : Nat) : Int) = _;rw [this];show some (match zcZ r with | some p => (([] : Str) ++ p.1, ((1 + p.2 : Nat) : Int)) | none => ([], 0)) = _
 cases zcZ r with
 | none => rfl
 | some p => simp only [yna, Nat.add_comm]
theorem zrz (s : Str) (hs : s.length < 900000000) : ∀ (n i d : Nat), i ≤ s.length + 1 → s.length + 1 - i < n → d ≤ i → zad s n ((d + 1 : Nat) : Int) (i : Int) = some (match zgh (d + 1) (s.drop i) with | some m => ((i + m : Nat) : Int) | none => 0)
 | 0, _, _, _, h, _ => by omega
 | n + 1, i, d, hi, h, hdi => by
  rw [zad]
  cases hd : s.drop i with
  | nil =>
   have : s.length ≤ i := by have := congrArg List.length hd; simp at this; omega
   rw [ydf (by omega), if_neg (by decide)];rfl
  | cons c r =>
   obtain ⟨hlt, hr⟩ := zfm hd
   have hx : s[i]? = some c := by have := congrArg (·[0]?) hd; simpa using this
   have j2 : ∀ (d' i' : Nat), i' < 4000000000 → zbs (zad s n) ((d' + 1 : Nat) : Int) (i' : Int) = zad s n ((d' + 1 : Nat) : Int) ((i' + 1 : Nat) : Int) := fun d' i' h' => by
    unfold zbs;have : (((d' + 1 : Nat) : Int) == 0) = false := beq_eq_false_iff_ne.2 (by omega);rw [this, if_neg (by decide), ze (by omega), yob]
   have i1 : zp ((d + 1 : Nat) : Int) 1 = some ((d + 1 + 1 : Nat) : Int) := ze (by omega)
   have i2 : zbb ((d + 1 : Nat) : Int) 1 = some (d : Int) := by rw [zY (by omega) (by omega)]; simp
   rw [ydt (show (i : Int) < (s.length : Int) by omega), if_pos rfl, zz, hx, yob, i1, yob, i2, yob, ze (by omega), yob, j2 _ _ (by omega), j2 _ _ (by omega), j2 _ _ (by omega)];have ih := fun i' d' h1 h2 h3 => zrz s hs n i' d' h1 h2 h3
   cases c40 : c == 40 with
   | true =>
    have : c = 40 := by simpa using c40
    subst this;rw [if_pos rfl, ih (i + 1) (d + 1) (by omega) (by omega) (by omega), hr, zof]
    cases zgh (d + 2) r with
    | none => rfl
    | some m => simp only [Option.map_some]; rw [show i + 1 + m = i + (m + 1) by omega]
   | false =>
    rw [if_neg (by decide)]
    cases c41 : c == 41 with
    | true =>
     have : c = 41 := by simpa using c41
     subst this;rw [if_pos rfl, zmc]
     cases d with
     | zero =>
      rw [zqy];unfold zbs;rw [if_pos (by decide), ze (by omega)];rfl
     | succ d =>
      rw [j2 _ _ (by omega), ih (i + 1) d (by omega) (by omega) (by omega), hr]
      cases zgh (d + 1) r with
      | none => rfl
      | some m => simp only [Option.map_some]; rw [show i + 1 + m = i + (m + 1) by omega]
    | false =>
     rw [if_neg (by decide)]
     cases c92 : c == 92 with
     | true =>
      have : c = 92 := by simpa using c92
      subst this;rw [if_pos rfl, ih (i + 1 + 1) d (by omega) (by omega) (by omega)]
      cases r with
      | nil =>
       have : s.drop (i + 1 + 1) = [] := by rw [← List.drop_drop, hr]; rfl
       rw [this, zqz];rfl
      | cons x t =>
       have : s.drop (i + 1 + 1) = t := by rw [← List.drop_drop, hr]; rfl
       rw [this, zpC]
       cases zgh (d + 1) t with
       | none => rfl
       | some m => simp only [Option.map_some]; rw [show i + 1 + 1 + m = i + (m + 2) by omega]
     | false =>
      rw [if_neg (by decide), ih (i + 1) d (by omega) (by omega) (by omega), hr, zpD d r c40 c41 c92]
      cases zgh (d + 1) r with
      | none => rfl
      | some m => simp only [Option.map_some]; rw [show i + 1 + m = i + (m + 1) by omega]
theorem ztm (c : UInt8) (r : Str) (hs : r.length < 800000000) (hc : (c == 34 || c == 40) = true) : zjN (c :: r) = some (zeL c r : Int) := by
 unfold zjN zeL;rw [zg4, List.getElem?_cons_zero, yob]
 cases h34 : c == 34 with
 | true =>
  have : c = 34 := by simpa using h34
  subst this;rw [if_pos rfl, if_pos rfl, zry r (by omega), yob];cases zcZ r <;> rfl
 | false =>
  have h40 : c = 40 := by rw [h34, Bool.false_or] at hc; simpa using hc
  subst h40;rw [if_neg (by decide), if_neg (by decide), show fuel = 999999999999999999 + 1 from rfl, zad];have h0 : decide ((0 : Int) < ((40 :: r : Str).length : Int)) = true := ydt (by simp only [ylc]; omega);rw [h0, if_pos rfl, zg4, List.getElem?_cons_zero, yob, if_pos (by decide), show zp 0 1 = some 1 from by decide, yob];unfold zbs;rw [if_neg (by decide), show zp 0 1 = some 1 from by decide, yob];have := zrz (40 :: r) (by simp; omega) 999999999999999999 1 0 (by simp) (by simp only [ylc]; omega) (by omega);show zad (40 :: r) 999999999999999999 ((0 + 1 : Nat) : Int) ((1 : Nat) : Int) = _;rw [this];show some (match zgh 1 r with | some m => ((1 + m : Nat) : Int) | none => 0) = _
  cases zgh 1 r with
  | none => rfl
  | some m => simp only [Nat.add_comm]
theorem zw4 (l : List Str) (x : Str) (hl : l.length < 900000000) : zbY l x fuel [] 0 = some ((l ++ [x]).filter (fun x => !(x == [])), 0) := by
 have key : ∀ (n i : Nat) (out : List Str), i ≤ (l ++ [x]).length → (l ++ [x]).length - i < n → out.length ≤ i → zbY l x n out (i : Int) = some (out ++ ((l ++ [x]).drop i).filter (fun x => !(x == [])), 0) := by
  have hll : (l ++ [x]).length = l.length + 1 := by simp
  intro n
  induction n with
  | zero => intro i _ _ h; omega
  | succ n ih =>
   intro i out hi h ho;rw [zbY]
   by_cases hlt : i < (l ++ [x]).length
   ·have g : (l ++ [x])[i]? = some (l ++ [x])[i] := ygg hlt;unfold zgX;rw [ydt (show (i : Int) < ((l ++ [x]).length : Int) by omega), if_pos rfl, zaG, g, yob, yob, if_pos (zba (by omega) (by omega)), ze (by omega), yob, yob, ih (i + 1) _ (by omega) (by omega) (by simp; omega), ih (i + 1) _ (by omega) (by omega) (by omega), ydg hlt, List.filter_cons];cases (l ++ [x])[i] == [] <;> simp
   ·have : i = (l ++ [x]).length := by omega
    subst this;rw [ydf (by omega), if_neg (by decide), ydl];simp
 have := key fuel 0 [] (yz _) (by simp; unfold fuel; omega) (by simp);rw [List.drop_zero, yna] at this;exact this
theorem zf9 (s : Str) (hs : s.length < 800000000) : ∀ (n k a : Nat) (out : List Str), k ≤ s.length → s.length - k < n → a ≤ k → out.length ≤ k →
  zaL s n out (a : Int) (k : Int) = some (match zic 0 (mid s a k) (s.drop k) with | some l => ((out ++ l.map zb7).filter (fun x => !(x == [])), 0) | none => ([], 2))
 | 0, _, _, _, _, h, _, _ => by omega
 | n + 1, k, a, out, hk, hn, ha, ho => by
  have hat : At s k (s.drop k) := ⟨hk, rfl⟩;have hl := hat.len;rw [zaL]
  cases hd : s.drop k with
  | nil =>
   have : k = s.length := by have := congrArg List.length hd; simp at this; omega
   subst this
   have hm : mid s a s.length = s.drop a := by unfold mid; rw [List.take_length]
   have hdl : (s.drop a).length ≤ s.length := by simp
   rw [ydf (by omega), if_neg (by decide), zD ha, yob, zjo _ (by omega), yob, if_pos (zba (by omega) (by omega)), zw4 _ _ (by omega), zr7, hm];rfl
  | cons c t =>
   obtain ⟨hlt, hr⟩ := zfm hd
   have hx : s[k]? = some c := by have := congrArg (·[0]?) hd; simpa using this
   have htl : t.length = s.length - (k + 1) := by rw [← hr]; simp
   rw [hd] at hat
   have j2t : (c == 34 || c == 40) = true → zcS (zaL s n) s out (a : Int) (k : Int) true = some (match zic 0 (mid s a k) (c :: t) with | some l => ((out ++ l.map zb7).filter (fun x => !(x == [])), 0) | none => ([], 2)) := fun hc => by
    unfold zcS;rw [if_pos rfl, zD hk, yob, hd, ztm c t (by omega) hc, yob, zu3 _ t hc]
    by_cases hp : zeL c t = 0
    ·rw [hp, if_pos rfl]; rfl
    ·have hple := zv0 c t;have h0 : ((zeL c t : Int) == 0) = false := beq_eq_false_iff_ne.2 (by omega)
     have hadd : zp (k : Int) (zeL c t : Int) = some ((k + zeL c t : Nat) : Int) := by rw [zak (by omega) (by omega)]; simp
     have ih := zf9 s hs n (k + zeL c t) a out (by omega) (by omega) (by omega) (by omega)
     have hdp : s.drop (k + zeL c t) = (c :: t).drop (zeL c t) := by rw [← List.drop_drop, hd]
     rw [zqj hat ha (by simp; omega), hdp] at ih;obtain ⟨q, hq⟩ : ∃ q, zeL c t = q + 1 := ⟨zeL c t - 1, by omega⟩;rw [h0, if_neg (by decide), if_neg hp, hadd, yob, ih, hq, Nat.add_sub_cancel, zqA q _ t (by omega)];simp
   have j2f : (c == 34 || c == 40) = false → zcS (zaL s n) s out (a : Int) (k : Int) false = some (match zic 0 (mid s a k) (c :: t) with | some l => ((out ++ l.map zb7).filter (fun x => !(x == [])), 0) | none => ([], 2)) := fun hc => by
    unfold zcS zgW;have hml := zyS s a k;have hsub : zd0 s (a : Int) (k : Int) = some (mid s a k) := zbt ha hk;rw [if_neg (by decide), zz, hx, yob, hsub, yob, zjo _ (by omega), yob, if_pos (zba (by omega) (by omega)), ze (by omega), yob, yob]
    cases h44 : c == 44 with
    | true =>
     have : c = 44 := by simpa using h44
     subst this;have ih := zf9 s hs n (k + 1) (k + 1) (out ++ [zb7 (mid s a k)]) (by omega) (by omega) (Nat.le_refl _) (by simp; omega);rw [zqk, hr] at ih;rw [if_pos rfl, ih, zo9]
     cases zic 0 [] t with
     | none => rfl
     | some l => simp
    | false =>
     have ih := zf9 s hs n (k + 1) a out (by omega) (by omega) (by omega) (by omega);have m1 := zqj (n := 1) hat ha (by simp);rw [m1, hr] at ih;rw [if_neg (by decide), yob, ih, zr8 _ t hc h44];rfl
   rw [ydt (show (k : Int) < (s.length : Int) by omega), if_pos rfl, zz, hx, yob, yob]
   cases h34 : c == 34 with
   | true => rw [if_pos rfl]; exact j2t (by rw [h34]; rfl)
   | false =>
    rw [if_neg (by decide)]
    cases h40 : c == 40 with
    | true => exact j2t (by rw [h40, Bool.or_true])
    | false => exact j2f (by rw [h34, h40]; rfl)
theorem znP (s : Str) (hs : s.length < 800000000) : zh8 s = some (zn8 s) := by
 unfold zh8 zn8 zid;have := zf9 s hs fuel 0 0 [] (yz _) (by unfold fuel; omega) (Nat.le_refl _) (by simp);rw [zqk, List.drop_zero] at this;show zaL s fuel [] ((0 : Nat) : Int) ((0 : Nat) : Int) = _;rw [this]
 cases zic 0 [] s with
 | none => rfl
 | some l => rfl
end Go.Dm
end
section
namespace Go.Dm
def isN (nm : Str) (f : api_Field) : Bool := low f.Name == low nm
def zeE (m : Nat) (l : List api_Field) : Prop := ∀ f ∈ l, f.Name.length < m ∧ f.Value.length < m
theorem zxa (f : api_Field) (nm : Str) (hf : f.Name.length < 1000000000) (hn : nm.length < 1000000000) : znV f nm = some (isN nm f) := by
 unfold znV isN;rw [zjn _ hf, yob, zjn _ hn, yob]
theorem ztt (l : List api_Field) (h : l.length < 1000000000) : zJ l = some l := by
 unfold zJ;rw [if_pos (zba (by omega) (by omega))]
theorem zj0 (l : List api_Field) (nm : Str) (hn : nm.length < 1000000000) (hl : l.length < 1000000000) (hs : zeE 1000000000 l) : zel l nm = some ((l.filter (isN nm)).map (·.Value)) := by
 unfold zel
 have key : ∀ (n i : Nat) (out : List Str), i ≤ l.length → l.length - i < n → out.length ≤ i → zcd l nm n out (i : Int) = some (out ++ ((l.drop i).filter (isN nm)).map (·.Value)) := by
  intro n
  induction n with
  | zero => intro i _ _ h; omega
  | succ n ih =>
   intro i out hi h ho;rw [zcd]
   by_cases hlt : i < l.length
   ·have g : l[i]? = some l[i] := ygg hlt;have hsm := hs l[i] (ygm _);rw [ydt (show (i : Int) < (l.length : Int) by omega), if_pos rfl, zaG, g, yob, zxa _ _ hsm.1 hn, yob, yob, if_pos (zba (by omega) (by omega))];unfold zfM;rw [ze (by omega), yob, yob, ih (i + 1) _ (by omega) (by omega) (by simp; omega), ih (i + 1) _ (by omega) (by omega) (by omega), ydg hlt, List.filter_cons]
    cases isN nm l[i] with
    | true => simp
    | false => rfl
   ·have : i = l.length := by omega
    subst this;rw [ydf (by omega), if_neg (by decide), ydl];simp
 have := key fuel 0 [] (yz _) (by unfold fuel; omega) (by simp);rw [List.drop_zero, yna] at this;exact this
theorem zzQ {α : Type} [BEq α] [LawfulBEq α] (a b : List α) (L : Nat → Int → Option Bool) (hl : a.length = b.length) (ha : a.length < 1000000000)
  (hE : ∀ n, L (n + 1) (a.length : Int) = some true) (hL : ∀ n (i : Nat) x y, i < a.length → a[i]? = some x → b[i]? = some y → L (n + 1) (i : Int) = if (x == y) = true then L n ((i + 1 : Nat) : Int) else some false) : L fuel 0 = some (a == b) := by
 have key : ∀ (n i : Nat), i ≤ a.length → a.length - i < n → L n (i : Int) = some (a.drop i == b.drop i) := by
  intro n
  induction n with
  | zero => intro i _ h; omega
  | succ n ih =>
   intro i hi h
   by_cases hlt : i < a.length
   ·have g1 : a[i]? = some a[i] := ygg hlt;have g2 : b[i]? = some (b[i]'(by omega)) := ygg (by omega);rw [hL n i _ _ hlt g1 g2, ih (i + 1) (by omega) (by omega), ydg hlt, ydg (show i < b.length by omega), List.cons_beq_cons];cases a[i] == b[i]'(by omega) <;> rfl
   ·have : i = a.length := by omega
    subst this;rw [hE, ydl, List.drop_of_length_le (by omega)];rfl
 have := key fuel 0 (yz _) (by unfold fuel; omega);rw [List.drop_zero, List.drop_zero] at this;exact this
theorem zo4 (a b : List api_Field) (ha : a.length < 1000000000) : zji a b = some (a == b) := by
 unfold zji
 by_cases hl : a.length = b.length
 ·rw [hl, ybs, ynt, if_neg (by decide)];refine zzQ a b (zeD a b) hl ha (fun n => ?_) (fun n i x y hi hx hy => ?_)
  ·rw [zeD, ydf (by omega), if_neg (by decide)]
  ·rw [zeD, ydt (by omega), if_pos rfl, zaG, hx, yob, zaG, hy, yob, ze (by omega), yob];cases x == y <;> rfl
 ·have : (((a.length : Int) == (b.length : Int))) = false := beq_eq_false_iff_ne.2 (by omega);have h2 : (a == b) = false := beq_eq_false_iff_ne.2 (fun e => hl (by rw [e]));rw [this, h2]; rfl
theorem zfj {m n : Nat} (h : m ≤ n) {l : List api_Field} (hs : zeE m l) : zeE n l := fun f hf => by have := hs f hf; omega
end Go.Dm
end
section
namespace Go.Dm
def zyJ (a b : api_Head) : Bool := a.Kind == b.Kind && a.Method == b.Method && a.Target == b.Target && a.Minor == b.Minor && a.Code == b.Code && a.Reason == b.Reason && a.Fields == b.Fields
theorem zx1 (a : api_Head) : zyJ a a = true := by unfold zyJ; simp
theorem zt3 (a b : api_Head) (ha : a.Fields.length < 1000000000) : zkS a b = some (zyJ a b) := by
 unfold zkS zhE zmE zcF zyJ;rw [zo4 _ _ ha, yob];cases a.Kind == b.Kind <;> cases a.Method == b.Method <;> cases a.Target == b.Target <;> cases a.Minor == b.Minor <;> cases a.Code == b.Code <;> cases a.Reason == b.Reason <;> rfl

end Go.Dm
end
section
namespace Go.Dm
theorem zlP (b : UInt8) : zew b = some (za4 b) :=
 of_decide_eq_true (zO (fun b => decide (zew b = some (za4 b))) (by decide +kernel) b)
def zdZ : api_Field := ⟨[], []⟩
def zvk (s : Str) : api_Field × Int :=
 if s.any ([13, 10] : Str).contains then (zdZ, 24) else if !(s.takeWhile za4 == []) then (zdZ, 23)
 else if s.takeWhile zF == [] || !zet 58 ((s.dropWhile zF).dropWhile za4) then (zdZ, 21)
 else if !((s.dropWhile zF).takeWhile za4 == []) then (zdZ, 22)
 else if !((z7 58 ((s.dropWhile zF).dropWhile za4)).all zfC) then (zdZ, 25)
 else (⟨s.takeWhile zF, zb7 (z7 58 ((s.dropWhile zF).dropWhile za4))⟩, 0)
theorem zoC (s : Str) (hs : s.length < 1000000000) : zcc s = some (zvk s) := by
 unfold zcc zvk;rw [zis s _ hs (by decide) (by decide), yob]
 cases s.any ([13, 10] : Str).contains with
 | true => rfl
 | false =>
  obtain ⟨k1, a1, e1⟩ := zmb zlP hs (At.zero s)
  have b1 : zaQ (scn s 0) = some (s.takeWhile za4, scn s k1) := by unfold zaQ; rw [e1]; rfl
  rw [if_neg yfn, if_neg yfn, zhS, yob, b1, yob];dsimp only
  cases hb : s.takeWhile za4 == [] with
  | false => rfl
  | true =>
   have hd : s.dropWhile za4 = s := by
    have := List.takeWhile_append_dropWhile (p := za4) (l := s)
    have h0 : s.takeWhile za4 = [] := by simpa using hb
    rwa [h0, yna] at this
   rw [hd] at a1;obtain ⟨k2, a2, e2⟩ := zqh hs a1;obtain ⟨k3, a3, e3⟩ := zmb zlP hs a2
   have b3 : zaQ (scn s k2) = some ((s.dropWhile zF).takeWhile za4, scn s k3) := by unfold zaQ; rw [e3]; rfl
   rw [ynt, if_neg yfn, if_neg yfn, e2, yob, b3, yob];dsimp only
   cases hn : s.takeWhile zF == [] with
   | true => rfl
   | false =>
    obtain ⟨k4, a4, e4⟩ := zfA hs 58 a3;rw [ynf, ynt, if_neg yfn, e4, yob, Bool.false_or];have hl := a4.le_len;generalize z7 58 ((s.dropWhile zF).dropWhile za4) = v at a4 hl;unfold zdG;show (if (!zet 58 ((s.dropWhile zF).dropWhile za4)) = true then _ else if (!((s.dropWhile zF).takeWhile za4 == [])) = true then _ else (zV (scn s k4)).bind _) = _;rw [zr5 a4, yob, zev zi6 v (by omega), yob]
    cases zet 58 ((s.dropWhile zF).dropWhile za4) with
    | false => rfl
    | true =>
     rw [ynt, if_neg yfn, if_neg yfn]
     cases (s.dropWhile zF).takeWhile za4 == [] with
     | false => rfl
     | true =>
      rw [ynt, if_neg yfn, if_neg yfn]
      cases v.all zfC with
      | false => rfl
      | true =>
       rw [ynt, if_neg yfn, if_neg yfn];rw [yob, zmY v (by omega), yob]
def zqR : Str → Bool
 | [] => false
 | c :: _ => za4 c
def zaR (s : Str) : api_Field × Int :=
 if s.any ([13, 10] : Str).contains then (zdZ, 24) else if zqR s then (zdZ, 23)
 else if zao [58] s == [] || !zeH (zb7 (upto [58] s)) then (zdZ, 21)
 else if decide ((zb7 (upto [58] s)).length < (upto [58] s).length) then (zdZ, 22)
 else if !(((zao [58] s).drop 1).all zfC) then (zdZ, 25)
 else (⟨zb7 (upto [58] s), zb7 ((zao [58] s).drop 1)⟩, 0)
theorem zxO (s : Str) : (!(s.takeWhile za4 == [])) = zqR s := by
 cases s with
 | nil => rfl
 | cons c s =>
  rw [List.takeWhile_cons];show _ = za4 c;cases za4 c <;> rfl
theorem zDd (c : UInt8) : (!zF c || (!za4 c && !(c == 58))) = true := zO (fun c => !zF c || (!za4 c && !(c == 58))) (by decide +kernel) c
theorem zBQ (c : UInt8) : (!za4 c || (!zF c && !(c == 58))) = true := zO (fun c => !za4 c || (!zF c && !(c == 58))) (by decide +kernel) c
theorem zuG {n : Str} (h : n.all zF = true) : (∀ x ∈ n, za4 x = false) ∧ (58 : UInt8) ∉ n := by
 have key : ∀ x ∈ n, za4 x = false ∧ (x == 58) = false := fun x hx => by
  have h1 := List.all_eq_true.1 h x hx;have h2 := zDd x;rw [h1] at h2;simpa using h2
 exact ⟨fun x hx => (key x hx).1, fun hx => by have := (key _ hx).2; cases this⟩
theorem zBR {b : Str} (h : b.all za4 = true) : (58 : UInt8) ∉ b := fun hx => by
 have := List.all_eq_true.1 h _ hx;cases this
theorem zDe (u v : Str) (h : (58 : UInt8) ∉ u) : upto [58] (u ++ 58 :: v) = u ∧ zao [58] (u ++ 58 :: v) = 58 :: v := by
 induction u with
 | nil => exact ⟨zjw (by decide), zjx (by decide)⟩
 | cons c u ih =>
  have hc : ([58] : Str).contains c = false := by
   have : c ≠ 58 := fun e => h (by rw [e]; exact List.mem_cons_self ..);simpa using this
  have ih := ih (fun hx => h (List.mem_cons_of_mem _ hx));rw [List.cons_append, zjy hc, zjz hc, ih.1, ih.2];exact ⟨rfl, rfl⟩
theorem all_takeWhile (p : UInt8 → Bool) (s : Str) : (s.takeWhile p).all p = true := List.all_eq_true.2 fun _ hx => zjq hx
theorem zzg {n b v : Str} (hn : n.all zF = true) (hb : b.all za4 = true) :
  (n ++ (b ++ 58 :: v)).takeWhile zF = n ∧ (n ++ (b ++ 58 :: v)).dropWhile zF = b ++ 58 :: v ∧ (b ++ 58 :: v).takeWhile za4 = b ∧ (b ++ 58 :: v).dropWhile za4 = 58 :: v := by
 have h1 := zms (p := za4) (c := 58) (by decide) v hb;refine ⟨?_, ?_, h1.1, h1.2⟩
 ·cases b with
  | nil => exact (zms (p := zF) (c := 58) (by decide) v hn).1
  | cons c b =>
   have hc : zF c = false := by
    rw [List.all_cons, Bool.and_eq_true] at hb;have := zBQ c;rw [hb.1] at this;simp only [ynt, Bool.false_or, Bool.and_eq_true, Bool.not_eq_true'] at this;exact this.1
   exact (zms hc _ hn).1
 ·cases b with
  | nil => exact (zms (p := zF) (c := 58) (by decide) v hn).2
  | cons c b =>
   have hc : zF c = false := by
    rw [List.all_cons, Bool.and_eq_true] at hb;have := zBQ c;rw [hb.1] at this;simp only [ynt, Bool.false_or, Bool.and_eq_true, Bool.not_eq_true'] at this;exact this.1
   exact (zms hc _ hn).2
theorem zBS {s : Str} (h : ∀ x ∈ s, za4 x = false) : zb7 s = s := by
 have hl : ∀ t : Str, (∀ x ∈ t, za4 x = false) → t.dropWhile za4 = t := by
  intro t ht
  cases t with
  | nil => rfl
  | cons y t => rw [List.dropWhile_cons, ht y (List.mem_cons_self ..)]; rfl
 have hr : ziU s = s := by unfold ziU; rw [hl _ (fun x hx => h x (List.mem_reverse.1 hx)), List.reverse_reverse]
 unfold zb7 zj5;rw [hr, hl s h]
theorem zzh {n b : Str} (hn : n.all zF = true) (hb : b.all za4 = true) : zb7 (n ++ b) = n := by
 rw [zu4 hb];exact zBS (zuG hn).1
theorem zzi {u : Str} (h : zqR u = false) (ht : zeH (zb7 u) = true) : ∃ b, u = zb7 u ++ b ∧ b.all za4 = true := by
 rcases zrs u with ⟨h1, h2⟩ | ⟨a, c, b, h1, h2, h3, h4⟩
 ·have : zb7 u = [] := by unfold zb7; rw [h2]; rfl
  rw [this] at ht; cases ht
 ·refine ⟨b, ?_, h3⟩
  have e : zb7 u = a ++ [c] := by
   unfold zb7;rw [h4];unfold zj5
   cases a with
   | nil => show [c].dropWhile za4 = _; rw [List.dropWhile_cons, h2, if_neg yfn]; rfl
   | cons x a =>
    rw [h1] at h;have hx : za4 x = false := h;rw [List.cons_append, List.dropWhile_cons, hx, if_neg yfn]
  rw [e, h1]; simp
theorem zBT (s : Str) : zvk s = zaR s := by
 unfold zvk zaR;rw [zxO]
 cases s.any ([13, 10] : Str).contains with
 | true => rfl
 | false =>
  cases hb : zqR s with
  | true => rfl
  | false =>
   rw [if_neg yfn, if_neg yfn, if_neg yfn, if_neg yfn];have e1 := List.takeWhile_append_dropWhile (p := zF) (l := s);have e2 := List.takeWhile_append_dropWhile (p := za4) (l := s.dropWhile zF);have hn := all_takeWhile zF s;have hbb := all_takeWhile za4 (s.dropWhile zF)
   cases hc : zet 58 ((s.dropWhile zF).dropWhile za4) with
   | true =>
    have e3 := zeF hc;generalize z7 58 ((s.dropWhile zF).dropWhile za4) = v at e3;generalize s.takeWhile zF = n at e1 hn;generalize (s.dropWhile zF).takeWhile za4 = b at e2 hbb
    have es : s = (n ++ b) ++ 58 :: v := by rw [← e1, ← e2, e3, yaa]
    have hno : (58 : UInt8) ∉ n ++ b := fun hx => by
     rcases List.mem_append.1 hx with h | h
     ·exact (zuG hn).2 h
     ·exact zBR hbb h
    obtain ⟨u1, u2⟩ := zDe (n ++ b) v hno;rw [es, u1, u2, zzh hn hbb]
    have ht : zeH n = !(n == []) := by unfold zeH; rw [hn, Bool.true_and]
    rw [ht]
    have hlt : decide (n.length < (n ++ b).length) = !(b == []) := by
     cases b with
     | nil => simp
     | cons x b => simp
    rw [hlt];show (if (n == [] || false) = true then _ else _) = if (false || !(!(n == []))) = true then _ else _;rw [Bool.or_false, Bool.false_or, Bool.not_not];rfl
   | false =>
    rw [ynf, Bool.or_true, if_pos rfl]
    cases hf : zao [58] s with
    | nil => rfl
    | cons c v =>
     have hc58 : c = 58 := by simpa using zon hf
     subst hc58
     cases ht : zeH (zb7 (upto [58] s)) with
     | false => rfl
     | true =>
      exfalso
      have es := zck [58] s;rw [hf] at es
      have hub : zqR (upto [58] s) = false := by
       cases hu : upto [58] s with
       | nil => rfl
       | cons x u => rw [hu] at es; rw [← es] at hb; exact hb
      obtain ⟨b, eb, hbl⟩ := zzi hub ht;unfold zeH at ht;rw [Bool.and_eq_true] at ht
      have es2 : s = zb7 (upto [58] s) ++ (b ++ 58 :: v) := by
       rw [← yaa, ← eb]; exact es.symm
      obtain ⟨_, q2, _, q4⟩ := zzg (v := v) ht.1 hbl;rw [es2, q2, q4] at hc;cases hc
theorem zhL (s : Str) (hs : s.length < 1000000000) : zcc s = some (zaR s) := by rw [zoC s hs, zBT]
theorem zrO (s : Str) (hs : s.length < 1000000000) : ziK s = some (s.all zfC) := by
 unfold ziK
 have key : ∀ (n i : Nat), i ≤ s.length → s.length - i < n → zd5 s n (i : Int) = some ((s.drop i).all zfC) := by
  intro n
  induction n with
  | zero => intro i _ h; omega
  | succ n ih =>
   intro i hi h;rw [zd5]
   by_cases hlt : i < s.length
   ·have g : s[i]? = some s[i] := ygg hlt;rw [ydt (show (i : Int) < (s.length : Int) by omega), if_pos rfl, zz, g, yob, ziq, yob, ze (by omega), yob, ih (i + 1) (by omega) (by omega), ydg hlt, List.all_cons];cases zfC s[i] <;> rfl
   ·have : i = s.length := by omega
    subst this;rw [ydf (by omega), if_neg yfn, ydl];rfl
 have := key fuel 0 (yz _) (by unfold fuel; omega);rw [List.drop_zero] at this;exact this
theorem zwy (s : Str) (hs : s.length < 1000000000) : zdP s false = some (if zao [58] s == [] || !zeH (zb7 (upto [58] s)) then (zdZ, 21)
 else if decide ((zb7 (upto [58] s)).length < (upto [58] s).length) then (zdZ, 22)
 else if !(((zao [58] s).drop 1).all zfC) then (zdZ, 25)
 else ((⟨zb7 (upto [58] s), zb7 ((zao [58] s).drop 1)⟩, 0) : api_Field × Int)) := by
 unfold zdP;rw [if_neg yfn];have hu := zmq [58] s;have htu := zr2 (upto [58] s)
 have fin : ∀ rec4, zdO rec4 s ((upto [58] s).length : Int) false = some (if zao [58] s == [] || !zeH (zb7 (upto [58] s)) then (zdZ, 21)
   else if decide ((zb7 (upto [58] s)).length < (upto [58] s).length) then (zdZ, 22)
   else if !(((zao [58] s).drop 1).all zfC) then (zdZ, 25)
   else ((⟨zb7 (upto [58] s), zb7 ((zao [58] s).drop 1)⟩, 0) : api_Field × Int)) := by
  intro rec4;unfold zdO;rw [if_neg yfn, zbQ hu, yob, zlR, zjo _ (by omega), yob, zku _ (by omega), yob]
  cases hf : zao [58] s with
  | nil =>
   have hl : (upto [58] s).length = s.length := (zd7 [58] s).1 hf;rw [hl, ybs, if_pos rfl];rfl
  | cons c v =>
   have hl := congrArg List.length (zck [58] s);rw [hf, yla, ylc] at hl;have hne : (((upto [58] s).length : Int) == (s.length : Int)) = false := beq_eq_false_iff_ne.2 (by omega)
   have hd : s.drop ((upto [58] s).length + 1) = v := by rw [← List.drop_drop, zi8, hf]; rfl
   rw [hne, if_neg yfn];unfold zgQ;show _ = some (if (false || !zeH (zb7 (upto [58] s))) = true then _ else _);rw [Bool.false_or]
   cases zeH (zb7 (upto [58] s)) with
   | false => rfl
   | true =>
    rw [ynt, if_neg yfn, if_neg yfn]
    by_cases hlt : (zb7 (upto [58] s)).length < (upto [58] s).length
    ·rw [ydt (show ((zb7 (upto [58] s)).length : Int) < ((upto [58] s).length : Int) by omega), ydt hlt]; rfl
    ·rw [ydf (show ¬ ((zb7 (upto [58] s)).length : Int) < ((upto [58] s).length : Int) by omega), ydf hlt, if_neg yfn, if_neg yfn, ze (by omega), yob, zD (by omega), yob, hd, zrO v (by omega), yob, yob, zD (by omega), yob, hd, zjo v (by omega), yob];show _ = some (if (!v.all zfC) = true then _ else _);cases v.all zfC <;> rfl
 have key : ∀ (n i : Nat), i ≤ (upto [58] s).length → (upto [58] s).length - i < n → zbq s n (i : Int) = some (if zao [58] s == [] || !zeH (zb7 (upto [58] s)) then (zdZ, 21)
   else if decide ((zb7 (upto [58] s)).length < (upto [58] s).length) then (zdZ, 22)
   else if !(((zao [58] s).drop 1).all zfC) then (zdZ, 25)
   else ((⟨zb7 (upto [58] s), zb7 ((zao [58] s).drop 1)⟩, 0) : api_Field × Int)) := by
  intro n
  induction n with
  | zero => intro i _ h; omega
  | succ n ih =>
   intro i hi h;rw [zbq]
   by_cases hlt : i < (upto [58] s).length
   ·have g : s[i]? = some (upto [58] s)[i] := by
     have e := List.getElem?_append_left (l₂ := zao [58] s) hlt;rw [zck] at e; rw [e]; exact ygg hlt
    have hno := zsZ (upto [58] s)[i] (ygm hlt);generalize (upto [58] s)[i] = c at g hno
    have h1 : (c == 58) = false := by simpa using hno
    unfold zdO;rw [ydt (show (i : Int) < (s.length : Int) by omega), if_pos rfl, zz, g, yob, h1, ynf, if_pos rfl, ze (by omega), yob];exact ih (i + 1) (by omega) (by omega)
   ·have hie : i = (upto [58] s).length := by omega
    subst hie
    cases hf : zao [58] s with
    | nil =>
     have hl : (upto [58] s).length = s.length := (zd7 [58] s).1 hf;rw [ydf (by omega), if_neg yfn];have := fin (zbq s n);rw [hf] at this;exact this
    | cons c v =>
     have hc : c = 58 := by simpa using zon hf
     subst hc;have hd := zi8 [58] s;rw [hf] at hd;have hlt2 := (zfm hd).1
     have g : s[(upto [58] s).length]? = some 58 := by have := congrArg (·[0]?) hd; simpa using this
     rw [ydt (by omega), if_pos rfl, zz, g, yob];have := fin (zbq s n);rw [hf] at this;exact this
 exact key fuel 0 (yz _) (by unfold fuel; omega)
theorem zkw (s : Str) (hs : s.length < 1000000000) : zgR s = some (zaR s) := by
 unfold zgR
 have key : ∀ (n i : Nat), i ≤ s.length → s.length - i < n → zcR s n (i : Int) = some (if (s.drop i).any ([13, 10] : Str).contains then (zdZ, 24) else if zqR s then (zdZ, 23)
   else if zao [58] s == [] || !zeH (zb7 (upto [58] s)) then (zdZ, 21)
   else if decide ((zb7 (upto [58] s)).length < (upto [58] s).length) then (zdZ, 22)
   else if !(((zao [58] s).drop 1).all zfC) then (zdZ, 25)
   else ((⟨zb7 (upto [58] s), zb7 ((zao [58] s).drop 1)⟩, 0) : api_Field × Int)) := by
  intro n
  induction n with
  | zero => intro i _ h; omega
  | succ n ih =>
   intro i hi h;rw [zcR]
   by_cases hlt : i < s.length
   ·have g : s[i]? = some s[i] := ygg hlt
    have hcc : ([13, 10] : Str).contains s[i] = (s[i] == 13 || s[i] == 10) := by simp only [List.contains_cons, List.contains_nil, Bool.or_false]
    have ihh := ih (i + 1) (by omega) (by omega);unfold zgP;rw [ydt (show (i : Int) < (s.length : Int) by omega), if_pos rfl, zz, g, yob, yob, ze (by omega), yob, ihh, ydg hlt, List.any_cons, hcc]
    cases s[i] == 13 with
    | true => rfl
    | false =>
     rw [if_neg yfn, Bool.false_or];cases s[i] == 10 <;> rfl
   ·have : i = s.length := by omega
    subst this;rw [ydf (by omega), if_neg yfn, ydl, List.any_nil, if_neg yfn];have j3 := zwy s hs;have j3t : zdP s true = some (zdZ, 23) := rfl
    cases s with
    | nil => rw [ydf (by decide), if_neg yfn, j3]; rfl
    | cons c t =>
     rw [ydt (by simp only [ylc]; omega), if_pos rfl, zg4, List.getElem?_cons_zero, yob, zkB, yob];show _ = some (if za4 c = true then _ else _)
     cases za4 c with
     | true => exact j3t
     | false => rw [j3]; rfl
 have := key fuel 0 (yz _) (by unfold fuel; omega);rw [List.drop_zero] at this;exact this
end Go.Dm
end
section
namespace Go.Dm
def lines : Str → List Str
 | [] => [[]]
 | [c] => [[c]]
 | c :: d :: r => if c == 13 && d == 10 then [] :: lines r else zeu [c] (lines (d :: r))
theorem zoi (c d : UInt8) (r : Str) : lines (c :: d :: r) = if c == 13 && d == 10 then [] :: lines r else zeu [c] (lines (d :: r)) := by rw [lines]
theorem zBM (c d : UInt8) (r : Str) : ([13, 10] : Str).isPrefixOf (c :: d :: r) = (c == 13 && d == 10) := by
 show ((13 : UInt8) == c && ((10 : UInt8) == d && ([] : Str).isPrefixOf r)) = _
 have : ([] : Str).isPrefixOf r = true := by simp
 rw [this, Bool.and_true, show ((13 : UInt8) == c) = (c == 13) from by rw [Bool.eq_iff_iff, beq_iff_eq, beq_iff_eq]; exact eq_comm, show ((10 : UInt8) == d) = (d == 10) from by rw [Bool.eq_iff_iff, beq_iff_eq, beq_iff_eq]; exact eq_comm]
theorem zwq : ∀ (n : Nat) (s : Str), s.length < n → lines s ≠ []
 | 0, _, h => by omega
 | n + 1, [], _ => by simp [lines]
 | n + 1, [c], _ => by simp [lines]
 | n + 1, c :: d :: r, h => by
  rw [zoi]
  split
  ·simp
  ·simp only [ylc] at h
   cases hl : lines (d :: r) with
   | nil => exact absurd hl (zwq n _ (by simp only [ylc]; omega))
   | cons a t => simp [zeu]
theorem znu (s : Str) : lines s ≠ [] := zwq _ s (Nat.lt_succ_self _)
theorem zuy : ∀ (n : Nat) (s : Str), s.length < n → lines s = match zaA [13, 10] s with | none => [s] | some p => p.1 :: lines p.2
 | 0, _, h => by omega
 | n + 1, [], _ => by simp [lines, zaA]
 | n + 1, [c], _ => by
  have : ([13, 10] : Str).isPrefixOf [c] = false := by
   show ((13 : UInt8) == c && false) = false;rw [Bool.and_false]
  rw [zaA, this, if_neg yfn];simp [lines, zaA]
 | n + 1, c :: d :: r, h => by
  simp only [ylc] at h;have ih := zuy n (d :: r) (by simp only [ylc]; omega);rw [zoi, zaA, zBM]
  cases hc : (c == 13 && d == 10) with
  | true => rfl
  | false =>
   rw [if_neg yfn, if_neg yfn, ih]
   cases zaA [13, 10] (d :: r) with
   | none => rfl
   | some p => rfl
theorem zwr (s : Str) : lines s = match zaA [13, 10] s with | none => [s] | some p => p.1 :: lines p.2 := zuy _ s (Nat.lt_succ_self _)
theorem zrk : ∀ (k : Nat) (s : Str), Go.Lib.count s [13, 10] = k → Go.Lib.splitK [13, 10] 0 k s = lines s
 | k, s, h => by
  have hi := zos (t := [13, 10]) (by decide) s;rw [zwr]
  cases hc : zaA [13, 10] s with
  | none =>
   rw [hc] at hi;have h0 := Go.Lib.count_miss hi
   have : k = 0 := by omega
   subst this;rfl
  | some p =>
   rw [hc] at hi;have e := zbD (a := p.1) (b := p.2) hc
   have e1 : s.take p.1.length = p.1 := by rw [e, yaa, List.take_left']; rfl
   have e2 : s.drop (p.1.length + 2) = p.2 := by rw [e, List.drop_left']; simp
   have hh := Go.Lib.count_hit (i := p.1.length) (by decide) hi;rw [show ([13, 10] : Str).length = 2 from rfl, e2] at hh;obtain ⟨m, rfl⟩ : ∃ m, k = m + 1 := ⟨k - 1, by omega⟩;have ih := zrk m p.2 (by omega);unfold Go.Lib.splitK;have hn : (((p.1.length : Int)) == -1) = false := beq_eq_false_iff_ne.2 (by omega);rw [hi];dsimp only;rw [hn, if_neg yfn, Int.toNat_natCast, Nat.add_zero, e1, show ([13, 10] : Str).length = 2 from rfl, e2, ih]
theorem zpg (s : Str) (hs : s.length < 1000000000) : strings_Split s [13, 10] = some (lines s) := by
 unfold strings_Split;rw [if_pos ⟨by omega, by decide⟩];exact congrArg some (zrk _ s rfl)
theorem zoj : ∀ (n : Nat) (s : Str), s.length < n → (lines s).length ≤ s.length + 1 ∧ ∀ l ∈ lines s, l.length ≤ s.length
 | 0, _, h => by omega
 | n + 1, s, h => by
  rw [zwr]
  cases hc : zaA [13, 10] s with
  | none => simp
  | some p =>
   have e := congrArg List.length (zbD (a := p.1) (b := p.2) hc);simp only [yla, ylc, yln] at e;obtain ⟨h1, h2⟩ := zoj n p.2 (by omega);dsimp only;refine ⟨by simp only [ylc]; omega, fun l hl => ?_⟩
   rcases List.mem_cons.1 hl with h | h
   ·rw [h]; omega
   ·have := h2 l h; omega
theorem zrl {t : Str} : ∀ {s : Str}, s.length < t.length → zaA t s = none := fun {s} h => by
 cases hc : zaA t s with
 | none => rfl
 | some p =>
  have e := congrArg List.length (zbD (a := p.1) (b := p.2) hc);simp only [yla] at e;omega
theorem zpO (s t : Str) (hs : s.length < 1000000000) (ht : t ≠ []) : strings_Index s t = some (match zaA t s with | none => -1 | some p => (p.1.length : Int)) := by
 unfold strings_Index;rw [if_pos (by omega), zsN, zos ht]
 first | done | (cases zaA t s <;> rfl)
theorem zvi (s : Str) (hs : s.length < 1000000000) : zl4 s = some (match zaA [13, 10, 13, 10] s with | none => -1 | some p => ((p.1.length + 4 : Nat) : Int)) := by
 unfold zl4
 have key : ∀ (n i : Nat), i ≤ s.length → s.length - i < n → zhg s n (i : Int) = some (match zaA [13, 10, 13, 10] (s.drop i) with | none => -1 | some p => ((i + p.1.length + 4 : Nat) : Int)) := by
  intro n
  induction n with
  | zero => intro i _ h; omega
  | succ n ih =>
   intro i hi h
   have a4 : zp (i : Int) 4 = some ((i + 4 : Nat) : Int) := by rw [zak (by omega) (by omega)]; exact congrArg some (by omega)
   rw [zhg, a4, yob, yob, yob]
   by_cases hle : i + 4 ≤ s.length
   ·have hlt : i < s.length := by omega
    have sb : zd0 s (i : Int) ((i + 4 : Nat) : Int) = some ((s.drop i).take 4) := by
     rw [zbt (by omega) hle, ← List.take_drop]
    have hpre : ((s.drop i).take 4 == ([13, 10, 13, 10] : Str)) = ([13, 10, 13, 10] : Str).isPrefixOf (s.drop i) := by
     rw [Bool.eq_iff_iff, List.isPrefixOf_iff_prefix, beq_iff_eq, List.prefix_iff_eq_take];exact eq_comm
    rw [ydt (show ((i + 4 : Nat) : Int) ≤ (s.length : Int) by omega), if_pos rfl, sb, yob, hpre, ydg hlt, zaA]
    split
    ·rfl
    ·rw [ze (by omega), yob, ih (i + 1) (by omega) (by omega)]
     cases zaA [13, 10, 13, 10] (s.drop (i + 1)) with
     | none => rfl
     | some p =>
      show some ((i + 1 + p.1.length + 4 : Nat) : Int) = some ((i + (p.1.length + 1) + 4 : Nat) : Int);exact congrArg some (by omega)
   ·rw [ydf (show ¬ ((i + 4 : Nat) : Int) ≤ (s.length : Int) by omega), if_neg yfn, zrl (by rw [yld, show ([13, 10, 13, 10] : Str).length = 4 from rfl]; omega)]
 have := key fuel 0 (yz _) (by unfold fuel; omega);rw [List.drop_zero] at this;rw [show (0 : Int) = ((0 : Nat) : Int) from rfl, this]
 cases zaA [13, 10, 13, 10] s with
 | none => rfl
 | some p =>
  show some ((0 + p.1.length + 4 : Nat) : Int) = some ((p.1.length + 4 : Nat) : Int);exact congrArg some (by omega)
def zhn (h : api_Head) : List Str := (h.Fields.filter (isN [104, 111, 115, 116])).map (·.Value)
def zpP (h : api_Head) : Bool := if h.Kind == 1 then (if decide (1 < (zhn h).length) || decide (((zhn h).length : Int) < h.Minor) then false else (zhn h).all (fun x => x == [] || (zc1 x).2 == 0)) else true
def zlx (h : api_Head) : Int := if decide (100 < h.Fields.length) then 3 else if zpP h then 0 else 27
theorem zBN : isN ([72, 111, 115, 116] : Str) = isN [104, 111, 115, 116] := by
 funext f
 unfold isN
 have : low ([72, 111, 115, 116] : Str) = low ([104, 111, 115, 116] : Str) := by decide
 rw [this]
theorem zly (l : List api_Field) (nm : Str) (hn : nm.length < 1000000000) (hl : l.length < 1000000000) (hs : zeE 1000000000 l) : zdH ⟨l⟩ nm = some ((l.filter (isN nm)).map (·.Value)) := by
 unfold zdH zke;rw [ztt l hl, yob, yob]
 have key : ∀ (n i : Nat) (out : List Str), i ≤ l.length → l.length - i < n → out.length ≤ i → zbi nm l n out (i : Int) = some (out ++ ((l.drop i).filter (isN nm)).map (·.Value)) := by
  intro n
  induction n with
  | zero => intro i _ _ h; omega
  | succ n ih =>
   intro i out hi h ho;rw [zbi]
   by_cases hlt : i < l.length
   ·have g : l[i]? = some l[i] := ygg hlt;have hsm := hs l[i] (ygm _);rw [ydt (show (i : Int) < (l.length : Int) by omega), if_pos rfl, zaG, g, yob, zoL _ _ hsm.1 hn, yob, if_pos (zba (by omega) (by omega))];unfold zee;rw [ze (by omega), yob, yob, ih (i + 1) _ (by omega) (by omega) (by simp; omega), ih (i + 1) _ (by omega) (by omega) (by omega), ydg hlt, List.filter_cons];show (if (isN nm l[i]) = true then _ else _) = _
    cases isN nm l[i] with
    | true => simp
    | false => rfl
   ·have : i = l.length := by omega
    subst this;rw [ydf (by omega), if_neg yfn, ydl];simp
 have := key fuel 0 [] (yz _) (by unfold fuel; omega) (by simp);rw [List.drop_zero, yna] at this;exact this
theorem ztR (h : api_Head) (hl : h.Fields.length < 1000000000) (hs : zeE 400000000 h.Fields) : zkI h = some (zpP h) := by
 unfold zkI zpP
 cases h.Kind == 1 with
 | false => rfl
 | true =>
  have hvl : (zhn h).length ≤ h.Fields.length := by unfold zhn; rw [List.length_map]; exact List.length_filter_le _ _
  have hvm : ∀ v ∈ zhn h, v.length < 400000000 := fun v hv => by
   obtain ⟨f, hf, rfl⟩ := List.mem_map.1 hv;exact (hs f (List.mem_filter.1 hf).1).2
  rw [ynt, if_neg yfn, if_pos rfl];unfold zoo;rw [ztt _ hl, yob, yob, zly _ _ (by decide) hl (zfj (by decide) hs), yob, zBN];show (if decide (1 < ((zhn h).length : Int)) = true then zex (zhn h) true else zex (zhn h) (decide (((zhn h).length : Int) < h.Minor))) = _;generalize zhn h = vs at hvl hvm
  have key : ∀ (n i : Nat), i ≤ vs.length → vs.length - i < n → zdq vs n (i : Int) = some ((vs.drop i).all (fun x => x == [] || (zc1 x).2 == 0)) := by
   intro n
   induction n with
   | zero => intro i _ h; omega
   | succ n ih =>
    intro i hi h;rw [zdq]
    by_cases hlt : i < vs.length
    ·have g : vs[i]? = some vs[i] := ygg hlt;have hsm := hvm vs[i] (ygm _);unfold zhu;rw [ydt (show (i : Int) < (vs.length : Int) by omega), if_pos rfl, zaG, g, yob, zim _ hsm, yob, ze (by omega), yob, ih (i + 1) (by omega) (by omega), ydg hlt, List.all_cons];cases (zc1 vs[i]).2 == 0 <;> cases vs[i] == [] <;> rfl
    ·have : i = vs.length := by omega
     subst this;rw [ydf (by omega), if_neg yfn, ydl];rfl
  have hk := key fuel 0 (yz _) (by unfold fuel; omega);rw [List.drop_zero] at hk;unfold zex
  by_cases h1 : 1 < vs.length
  ·rw [ydt (show 1 < (vs.length : Int) by omega), ydt h1]; rfl
  ·rw [ydf (show ¬ 1 < (vs.length : Int) by omega), ydf h1, if_neg yfn, Bool.false_or]
   cases decide ((vs.length : Int) < h.Minor) with
   | true => rfl
   | false => exact hk
theorem ztS (h : api_Head) (hl : h.Fields.length < 1000000000) (hs : zeE 400000000 h.Fields) : zkJ h = some (zlx h) := by
 unfold zkJ zlx;rw [ztR h hl hs, yob]
 by_cases h1 : 100 < h.Fields.length
 ·rw [ydt (show 100 < (h.Fields.length : Int) by omega), ydt h1]; rfl
 ·rw [ydf (show ¬ 100 < (h.Fields.length : Int) by omega), ydf h1];cases zpP h <;> rfl
structure GoodH (h : api_Head) : Prop where
 kind : h.Kind = 1 ∨ h.Kind = 2
 minor : h.Minor = 0 ∨ h.Minor = 1
theorem hostE (x : Str) : (zc1 x).2 = 0 ∨ (zc1 x).2 = 27 := by
 unfold zc1
 split
 ·exact .inl rfl
 ·split
  ·exact .inr rfl
  ·split
   ·exact .inl rfl
   ·exact .inr rfl
theorem zsC (h : api_Head) (hg : GoodH h) (hl : h.Fields.length < 1000000000) (hs : zeE 400000000 h.Fields) : zjL h = some (zlx h) := by
 unfold zjL zlx
 by_cases h1 : 100 < h.Fields.length
 ·rw [ydt (show 100 < (h.Fields.length : Int) by omega), ydt h1]; rfl
 ·rw [ydf (show ¬ 100 < (h.Fields.length : Int) by omega), ydf h1, if_neg yfn, if_neg yfn];unfold zpP
  rcases hg.kind with hk | hk
  ·rw [hk];show ((zel h.Fields [104, 111, 115, 116]).bind _) = _;rw [zj0 _ _ (by decide) hl (zfj (by decide) hs), yob]
   have hvm : ∀ v ∈ zhn h, v.length < 400000000 := fun v hv => by
    obtain ⟨f, hf, rfl⟩ := List.mem_map.1 hv;exact (hs f (List.mem_filter.1 hf).1).2
   show (if decide (1 < ((zhn h).length : Int)) = true then zaK (zhn h) true else if (h.Minor == 1) = true then zaK (zhn h) (((zhn h).length : Int) == 0) else zaK (zhn h) false) = some (if (if decide (1 < (zhn h).length) || decide (((zhn h).length : Int) < h.Minor) then false else (zhn h).all (fun x => x == [] || (zc1 x).2 == 0)) = true then (0 : Int) else 27);generalize zhn h = vs at hvm
   match vs, hvm with
   | [], _ => rcases hg.minor with hm | hm <;> rw [hm] <;> rfl
   | [x], hvm =>
    have hx := hvm x (List.mem_cons_self ..)
    have j : zaK [x] false = some (if ([x] : List Str).all (fun x => x == [] || (zc1 x).2 == 0) then 0 else 27) := by
     unfold zaK zgS;show (if (!(x == [])) = true then (zfg x).bind _ else _) = _;rw [zkt x hx, yob, List.all_cons, List.all_nil, Bool.and_true]
     cases hx0 : x == [] with
     | true => rfl
     | false =>
      rcases hostE x with h | h <;> rw [h] <;> rfl
    have e1 : ∀ m : Int, m = 0 ∨ m = 1 → decide ((([x] : List Str).length : Int) < m) = false := fun m h => by
     rcases h with h | h <;> rw [h] <;> rfl
    rw [e1 _ hg.minor];show (if (h.Minor == 1) = true then zaK [x] false else zaK [x] false) = some (if ([x] : List Str).all (fun x => x == [] || (zc1 x).2 == 0) = true then (0 : Int) else 27);rw [j];cases h.Minor == 1 <;> cases ([x] : List Str).all (fun x => x == [] || (zc1 x).2 == 0) <;> rfl
   | x :: y :: l, _ =>
    have e1 : decide (1 < ((x :: y :: l : List Str).length : Int)) = true := ydt (by simp only [ylc]; omega);have e2 : decide (1 < (x :: y :: l : List Str).length) = true := ydt (by simp);rw [e1, e2]; rfl
  ·rw [hk]; rfl
theorem zsD {k : Int} {s : Str} {x : api_Head} (h : zby k s = (x, 0)) : GoodH x := by
 have hb := zzk h
 rcases zsP h with ⟨hk, h⟩ | ⟨hk, h⟩
 ·refine ⟨.inl (hb.kind.trans hk), ?_⟩
  rcases zte s with (h1 | h1) | ⟨h1, h2⟩
  ·rw [h1] at h; exact absurd (show (26 : Int) = 0 from congrArg Prod.snd h) (by decide)
  ·rw [h1] at h; exact absurd (show (20 : Int) = 0 from congrArg Prod.snd h) (by decide)
  ·obtain ⟨v, _, _, _, _, _, k1, k2, k3, _⟩ := zpz h1;rw [h2] at h;have hx := congrArg Prod.fst h;dsimp only at hx;rw [← hx];dsimp only;rw [k3]
   rcases zkX k1 k2 with ⟨_, e⟩ | ⟨_, e⟩
   ·exact .inl e
   ·exact .inr e
 ·refine ⟨.inr (hb.kind.trans hk), ?_⟩;unfold ztw at h
  split at h
  ·exact absurd (show (26 : Int) = 0 from congrArg Prod.snd h) (by decide)
  ·split at h
   ·rename_i h1
    obtain ⟨b, w, r, e1, e2, _, _⟩ := zmu h1;have hx := congrArg Prod.fst h;dsimp only at hx;rw [← hx];dsimp only;rw [e2, zwR b _ e1]
    rcases e1 with e | e <;> subst e
    ·exact .inl rfl
    ·exact .inr rfl
   ·exact absurd (show (20 : Int) = 0 from congrArg Prod.snd h) (by decide)
def zmV (h : api_Head) (f : api_Field) : api_Head := ⟨h.Kind, h.Method, h.Target, h.Code, h.Reason, h.Minor, h.Fields ++ [f]⟩
def zfD : api_Head → List Str → api_Head × Int
 | h, [] => if zlx h == 0 then (h, 0) else (zw, zlx h)
 | h, l :: ls => if (zaR l).2 == 0 then zfD (zmV h (zaR l).1) ls else (zw, (zaR l).2)
def znv (k : Int) : List Str → api_Head × Int
 | [] => (zw, 6)
 | l :: ls => if (zby k l).2 == 0 then zfD (zby k l).1 ls else (zw, (zby k l).2)
def zfE (k : Int) (s : Str) (lim : Int) : api_Head × Int :=
 if !(k == 1) && !(k == 2) then (zw, 1) else if decide (lim < (s.length : Int)) then (zw, 3) else match zaA [13, 10, 13, 10] s with
 | none => (zw, 6)
 | some p => if p.2 == [] then znv k (lines p.1) else (zw, 6)
theorem zsE (l : Str) : (zaR l).1.Name.length ≤ l.length ∧ (zaR l).1.Value.length ≤ l.length := by
 unfold zaR;have h1 := zr2 (upto [58] l);have h2 := zmq [58] l;have h3 := zr2 ((zao [58] l).drop 1);have h4 := congrArg List.length (zck [58] l);simp only [yla] at h4;simp only [yld] at h3
 split
 ·simp [zdZ]
 ·split
  ·simp [zdZ]
  ·split
   ·simp [zdZ]
   ·split
    ·simp [zdZ]
    ·split
     ·simp [zdZ]
     ·dsimp only; omega
theorem zuz {h : api_Head} (hg : GoodH h) (f : api_Field) : GoodH (zmV h f) := ⟨hg.kind, hg.minor⟩
theorem zph {h : api_Head} {l : Str} (hs : zeE 400000000 h.Fields) (hl : l.length < 400000000) : zeE 400000000 (zmV h (zaR l).1).Fields := by
 intro f hf
 rcases List.mem_append.1 hf with h1 | h1
 ·exact hs f h1
 ·have := zsE l
  have e : f = (zaR l).1 := by simpa using h1
  rw [e]; omega
theorem zxH (h : api_Head) (hl : h.Fields.length < 1000000000) (hs : zeE 400000000 h.Fields) : zhv h.Kind h.Method h.Target h.Code h.Reason h.Minor h.Fields = some (zfD h []) := by
 unfold zhv;rw [ztS _ hl hs, yob, zfD];cases zlx h == 0 <;> rfl
theorem zsF (ls : List Str) (hln : ls.length < 100000000) (hls : ∀ l ∈ ls, l.length < 400000000) : ∀ (n i : Nat) (h : api_Head), i ≤ ls.length → ls.length - i < n → zeE 400000000 h.Fields → h.Fields.length ≤ i →
  zfT ls n h.Kind h.Method h.Target h.Code h.Reason h.Minor h.Fields (i : Int) = some (zfD h (ls.drop i))
 | 0, _, _, _, h, _, _ => by omega
 | n + 1, i, h, hi, hn, hs, hfl => by
  rw [zfT]
  by_cases hlt : i < ls.length
  ·have g : ls[i]? = some ls[i] := ygg hlt;have hsm := hls ls[i] (ygm _);have ih := zsF ls hln hls n (i + 1) (zmV h (zaR ls[i]).1) (by omega) (by omega) (zph hs hsm) (by unfold zmV; simp; omega);rw [ydt (show (i : Int) < (ls.length : Int) by omega), if_pos rfl, zaG, g, yob, zhL _ (by omega), yob, if_pos (zba (by omega) (by omega)), ze (by omega), yob, ydg hlt, zfD]
   cases (zaR ls[i]).2 == 0 with
   | false => rfl
   | true => exact ih
  ·have : i = ls.length := by omega
   subst this;rw [ydf (by omega), if_neg yfn, ydl];exact zxH h (by omega) hs
theorem zuA (k : Int) : ((zby k []).2 == 1) = (!(k == 1) && !(k == 2)) := by
 unfold zby
 cases h1 : k == 1 with
 | true => rfl
 | false =>
  cases h2 : k == 2 with
  | true => rfl
  | false => rfl
theorem zxI (k : Int) (h : (!(k == 1) && !(k == 2)) = true) : (zby k []).2 = 1 := by
 have := zuA k;rw [h] at this;simpa using this
theorem ztT (k : Int) (s : Str) (lim : Int) (hs : s.length < 90000000) : zkK k s lim = some (zfE k s lim) := by
 unfold zkK zfE;rw [zhQ k [] (by decide), yob, zuA]
 cases hk : (!(k == 1) && !(k == 2)) with
 | true => rw [if_pos rfl, if_pos rfl, zxI k hk]; rfl
 | false =>
  rw [if_neg yfn, if_neg yfn, zpO s _ (by omega) (by decide), yob]
  cases decide (lim < (s.length : Int)) with
  | true => rfl
  | false =>
   rw [if_neg yfn, if_neg yfn];have j1t : ∀ r, zfU k s r true = some (zw, 6) := fun r => rfl
   cases hc : zaA [13, 10, 13, 10] s with
   | none => exact j1t (-1)
   | some p =>
    have e := zbD (a := p.1) (b := p.2) hc;have el := congrArg List.length e;simp only [yla, ylc, yln] at el
    have a4 : zp (p.1.length : Int) 4 = some ((p.1.length + 4 : Nat) : Int) := by rw [zak (by omega) (by omega)]; exact congrArg some (by omega)
    dsimp only;rw [ydf (show ¬ (p.1.length : Int) < 0 by omega), if_neg yfn, a4, yob]
    cases hp : p.2 == [] with
    | false =>
     have hne : p.2 ≠ [] := by simpa using hp
     have hpl : 0 < p.2.length := List.length_pos_iff.2 hne;have : (((p.1.length + 4 : Nat) : Int) == (s.length : Int)) = false := beq_eq_false_iff_ne.2 (by omega);rw [this];exact j1t _
    | true =>
     have hp0 : p.2 = [] := by simpa using hp
     rw [hp0] at el;simp only [yln] at el
     have : (((p.1.length + 4 : Nat) : Int) == (s.length : Int)) = true := by rw [beq_iff_eq]; omega
     rw [this, ynt, if_pos rfl];unfold zfU
     have st : s.take p.1.length = p.1 := by rw [e, yaa, List.take_left']; rfl
     rw [if_neg yfn, zbQ (by omega), yob, st, zpg _ (by omega), yob];obtain ⟨m1, m2⟩ := zoj _ p.1 (Nat.lt_succ_self _)
     cases hl : lines p.1 with
     | nil => exact absurd hl (znu _)
     | cons l ls =>
      rw [hl] at m1 m2;have hll := m2 l (List.mem_cons_self ..);rw [zn3, List.getElem?_cons_zero, yob, zhQ k l (by omega), yob, znv]
      cases h0 : (zby k l).2 == 0 with
      | false => rfl
      | true =>
       have hf : zwa (l :: ls) 1 = some ls := by
        unfold zwa;rw [if_pos ⟨by decide, by simp only [ylc]; omega⟩];rfl
       rw [ynt, if_neg yfn, hf, yob, if_pos rfl];have hfs := zir k l;have := zsF ls (by simp only [ylc] at m1; omega) (fun x hx => by have := m2 x (List.mem_cons_of_mem _ hx); omega) fuel 0 (zby k l).1 (yz _) (by simp only [ylc] at m1; unfold fuel; omega) (by rw [hfs]; intro f hf; cases hf) (by rw [hfs]; simp);rw [List.drop_zero] at this;exact this
def zkv (s : Str) (a b : Nat) : Str := (s.take b).drop a
theorem zuB (s : Str) (a : Nat) : zkv s a a = [] := by unfold zkv; simp
theorem zsG (s : Str) (a b : Nat) : (zkv s a b).length ≤ s.length := by unfold zkv; simp; omega
theorem zy8 {s : Str} {a i : Nat} (hai : a ≤ i) (hi : i < s.length) : zkv s a (i + 1) = zkv s a i ++ [s[i]] := by
 unfold zkv;rw [List.take_succ_eq_append_getElem hi, List.drop_append_of_le_length (by simp; omega)]
theorem zws (h : api_Head) (hg : GoodH h) (hl : h.Fields.length < 1000000000) (hs : zeE 400000000 h.Fields) : zgT h.Kind h.Method h.Target h.Code h.Reason h.Minor h.Fields = some (zfD h []) := by
 unfold zgT;rw [zsC _ ⟨hg.kind, hg.minor⟩ hl hs, yob, zfD];cases zlx h == 0 <;> rfl
theorem zBO {T s : Str} (hsT : s = T ++ [13, 10, 13, 10]) {i : Nat} (hi : i ≤ T.length) : ∃ x y, s[i]? = some x ∧ s[i + 1]? = some y ∧ zd0 s (i : Int) ((i + 2 : Nat) : Int) = some [x, y] := by
 have hl := congrArg List.length hsT;simp only [yla, ylc, yln] at hl;have g0 : s[i]? = some s[i] := ygg (by omega);have g1 : s[i + 1]? = some s[i + 1] := ygg (by omega);refine ⟨_, _, g0, g1, ?_⟩;rw [zbt (by omega) (by omega), ← List.take_drop, ydg (show i < s.length by omega), ydg (show i + 1 < s.length by omega)];rfl
theorem zyE {k : Int} {T s : Str} (hsT : s = T ++ [13, 10, 13, 10]) (hs : s.length < 90000000) {i : Nat} (hi : i ≤ T.length) (n : Nat) (first : Bool) (h : api_Head) (a : Nat) {x y : UInt8} (h0 : s[i]? = some x) (h1 : s[i + 1]? = some y) (hne : (x == 13 && y == 10) = false) :
  zI k s (n + 1) h.Fields h.Kind h.Method h.Target h.Code h.Reason h.Minor first (a : Int) (i : Int) = zI k s n h.Fields h.Kind h.Method h.Target h.Code h.Reason h.Minor first (a : Int) ((i + 1 : Nat) : Int) := by
 have hl := congrArg List.length hsT;simp only [yla, ylc, yln] at hl;obtain ⟨x', y', g0, g1, g2⟩ := zBO hsT hi;rw [h0] at g0; cases g0;rw [h1] at g1; cases g1
 have a3 : zp (i : Int) 3 = some ((i + 3 : Nat) : Int) := by rw [zak (by omega) (by omega)]; exact congrArg some (by omega)
 have a2 : zp (i : Int) 2 = some ((i + 2 : Nat) : Int) := by rw [zak (by omega) (by omega)]; exact congrArg some (by omega)
 have hb : (([x, y] : Str) == [13, 10]) = false := by
  show (x == 13 && (y == 10 && true)) = false;rw [Bool.and_true]; exact hne
 rw [zI, a3, yob, ydt (show ((i + 3 : Nat) : Int) < (s.length : Int) by omega), if_pos rfl, a2, yob, g2, yob, hb, ynf, if_pos rfl];unfold zdQ;rw [ze (by omega), yob]
theorem zyF {k : Int} {T s : Str} (hsT : s = T ++ [13, 10, 13, 10]) (hs : s.length < 90000000) {i : Nat} (hi : i ≤ T.length) (n : Nat) (first : Bool) (h : api_Head) (a : Nat) (ha : a ≤ i) (hf : h.Fields.length < 100000000) (h0 : s[i]? = some 13) (h1 : s[i + 1]? = some 10) :
  zI k s (n + 1) h.Fields h.Kind h.Method h.Target h.Code h.Reason h.Minor first (a : Int) (i : Int) =
   if first then (if (zby k (zkv s a i)).2 == 0 then (let r := (zby k (zkv s a i)).1; zI k s n r.Fields r.Kind r.Method r.Target r.Code r.Reason r.Minor false ((i + 2 : Nat) : Int) ((i + 1 : Nat) : Int)) else some (zw, (zby k (zkv s a i)).2))
   else (if (zaR (zkv s a i)).2 == 0 then (let r := zmV h (zaR (zkv s a i)).1; zI k s n r.Fields r.Kind r.Method r.Target r.Code r.Reason r.Minor false ((i + 2 : Nat) : Int) ((i + 1 : Nat) : Int)) else some (zw, (zaR (zkv s a i)).2)) := by
 have hl := congrArg List.length hsT;simp only [yla, ylc, yln] at hl;obtain ⟨x', y', g0, g1, g2⟩ := zBO hsT hi;rw [h0] at g0; cases g0;rw [h1] at g1; cases g1
 have a3 : zp (i : Int) 3 = some ((i + 3 : Nat) : Int) := by rw [zak (by omega) (by omega)]; exact congrArg some (by omega)
 have a2 : zp (i : Int) 2 = some ((i + 2 : Nat) : Int) := by rw [zak (by omega) (by omega)]; exact congrArg some (by omega)
 have hml := zsG s a i;have hsb : zd0 s (a : Int) (i : Int) = some (zkv s a i) := zbt ha (by omega);rw [zI, a3, yob, ydt (show ((i + 3 : Nat) : Int) < (s.length : Int) by omega), if_pos rfl, a2, yob, g2, yob, show (!(([13, 10] : Str) == [13, 10])) = false from rfl, if_neg yfn, hsb, yob, yob];generalize zkv s a i = m at hml;rw [znC k m (by omega), yob, zkw m (by omega), yob, if_pos (zba (by omega) (by omega))];unfold zdQ;rw [ze (by omega), yob, yob]
 cases first with
 | true => cases (zby k m).2 == 0 <;> rfl
 | false => cases (zaR m).2 == 0 <;> rfl
theorem zBP {k : Int} {T s : Str} (hsT : s = T ++ [13, 10, 13, 10]) (hs : s.length < 90000000) (n : Nat) (h : api_Head) (hg : GoodH h) (hf : h.Fields.length < 100000000) (hsm : zeE 400000000 h.Fields) (a : Int) :
  zI k s (n + 1) h.Fields h.Kind h.Method h.Target h.Code h.Reason h.Minor false a ((T.length + 1 : Nat) : Int) = some (zfD h []) := by
 have hl := congrArg List.length hsT;simp only [yla, ylc, yln] at hl
 have a3 : zp ((T.length + 1 : Nat) : Int) 3 = some ((T.length + 4 : Nat) : Int) := by rw [zak (by omega) (by omega)]; exact congrArg some (by omega)
 rw [zI, a3, yob, ydf (show ¬ ((T.length + 4 : Nat) : Int) < (s.length : Int) by omega), if_neg yfn];exact zws h hg (by omega) hsm
theorem L3_eq {k : Int} {T s : Str} (hsT : s = T ++ [13, 10, 13, 10]) (hs : s.length < 90000000) : ∀ (d i : Nat), i ≤ T.length → T.length - i ≤ d → ∀ (n : Nat) (first : Bool) (h : api_Head) (a : Nat), T.length - i + 3 ≤ n → a ≤ i → (first = false → GoodH h) → h.Fields.length ≤ i → zeE 400000000 h.Fields →
  zI k s n h.Fields h.Kind h.Method h.Target h.Code h.Reason h.Minor first (a : Int) (i : Int) = some (if first then znv k (zeu (zkv s a i) (lines (T.drop i))) else zfD h (zeu (zkv s a i) (lines (T.drop i)))) := by
 intro d;have hl := congrArg List.length hsT;simp only [yla, ylc, yln] at hl
 induction d with
 | zero =>
  intro i hi hd n first h a hn ha hg hfl hsm
  have hie : i = T.length := by omega
  subst hie;obtain ⟨n, rfl⟩ : ∃ m, n = m + 2 := ⟨n - 2, by omega⟩
  have h0 : s[T.length]? = some 13 := by rw [hsT]; simp
  have h1 : s[T.length + 1]? = some 10 := by rw [hsT]; simp
  have hml := zsG s a T.length;rw [zyF hsT hs (Nat.le_refl _) (n + 1) first h a ha (by omega) h0 h1, ydl];show _ = some (if first = true then znv k [zkv s a T.length ++ []] else zfD h [zkv s a T.length ++ []]);rw [yan];generalize zkv s a T.length = m at hml
  cases first with
  | true =>
   rw [if_pos rfl, if_pos rfl, znv]
   cases h0 : (zby k m).2 == 0 with
   | false => rfl
   | true =>
    rw [if_pos rfl, if_pos rfl];have hfs := zir k m;have hgx : GoodH (zby k m).1 := zsD (k := k) (s := m) (by rw [show (0 : Int) = (zby k m).2 from (by simpa using h0 : (zby k m).2 = 0).symm]);exact zBP hsT hs n _ hgx (by rw [hfs]; decide) (by rw [hfs]; intro f hf; cases hf) _
  | false =>
   rw [if_neg yfn, if_neg yfn, zfD]
   cases h0 : (zaR m).2 == 0 with
   | false => rfl
   | true =>
    rw [if_pos rfl, if_pos rfl];exact zBP hsT hs n _ (zuz (hg rfl) _) (by unfold zmV; simp; omega) (zph hsm (by omega)) _
 | succ d ih =>
  intro i hi hd n first h a hn ha hg hfl hsm
  by_cases hie : T.length - i ≤ d
  ·exact ih i hi hie n first h a (by omega) ha hg hfl hsm
  ·have hlt : i < T.length := by omega
   obtain ⟨n, rfl⟩ : ∃ m, n = m + 1 := ⟨n - 1, by omega⟩
   have hsi : s[i]? = some T[i] := by rw [hsT, List.getElem?_append_left hlt]; exact ygg hlt
   obtain ⟨y, hy⟩ : ∃ y, s[i + 1]? = some y := ⟨s[i + 1]'(by omega), ygg _⟩
   have hsi' : s[i]'(by omega) = T[i] := by have := ygg (show i < s.length by omega); rw [hsi] at this; exact (yoi this).symm
   by_cases hc : (T[i] == 13 && y == 10) = true
   ·-- a line's end
    have hc' := hc;simp only [Bool.and_eq_true, beq_iff_eq] at hc';obtain ⟨c1, c2⟩ := hc'
    have h0 : s[i]? = some 13 := by rw [hsi, c1]
    have h1 : s[i + 1]? = some 10 := by rw [hy, c2]
    have hlt2 : i + 1 < T.length := by
     by_cases hh : i + 1 < T.length
     ·exact hh
     ·exfalso
      have e : i + 1 = T.length := by omega
      rw [e, hsT, List.getElem?_append_right (Nat.le_refl _)] at h1;simp at h1
    have hT1 : T[i + 1] = 10 := by
     have : s[i + 1]? = some T[i + 1] := by rw [hsT, List.getElem?_append_left hlt2]; exact ygg hlt2
     rw [h1] at this; exact (yoi this).symm
    have hlines : lines (T.drop i) = [] :: lines (T.drop (i + 2)) := by
     rw [ydg hlt, ydg hlt2, zoi, c1, hT1]; rfl
    obtain ⟨n, rfl⟩ : ∃ m, n = m + 1 := ⟨n - 1, by omega⟩;have hml := zsG s a i;rw [zyF hsT hs hi (n + 1) first h a ha (by omega) h0 h1, hlines];show _ = some (if first = true then znv k ((zkv s a i ++ []) :: lines (T.drop (i + 2))) else zfD h ((zkv s a i ++ []) :: lines (T.drop (i + 2))));rw [yan];generalize zkv s a i = m at hml
    -- behind it
    have nxt : ∀ r : api_Head, GoodH r → r.Fields.length ≤ i + 1 → zeE 400000000 r.Fields → zI k s (n + 1) r.Fields r.Kind r.Method r.Target r.Code r.Reason r.Minor false ((i + 2 : Nat) : Int) ((i + 1 : Nat) : Int) = some (zfD r (lines (T.drop (i + 2)))) := by
     intro r hgr hrl hrs;obtain ⟨z, hz⟩ : ∃ z, s[i + 1 + 1]? = some z := ⟨s[i + 1 + 1]'(by omega), ygg _⟩;rw [zyE hsT hs (by omega) n false r (i + 2) h1 hz (by rfl)];have := ih (i + 2) (by omega) (by omega) n false r (i + 2) (by omega) (Nat.le_refl _) (fun _ => hgr) (by omega) hrs;rw [zuB, zkp _ (znu _), if_neg yfn] at this;exact this
    cases first with
    | true =>
     rw [if_pos rfl, if_pos rfl, znv]
     cases h0 : (zby k m).2 == 0 with
     | false => rfl
     | true =>
      rw [if_pos rfl, if_pos rfl];have hfs := zir k m;have hgx : GoodH (zby k m).1 := zsD (k := k) (s := m) (by rw [show (0 : Int) = (zby k m).2 from (by simpa using h0 : (zby k m).2 = 0).symm]);exact nxt _ hgx (by rw [hfs]; simp) (by rw [hfs]; intro f hf; cases hf)
    | false =>
     rw [if_neg yfn, if_neg yfn, zfD]
     cases h0 : (zaR m).2 == 0 with
     | false => rfl
     | true =>
      rw [if_pos rfl, if_pos rfl];exact nxt _ (zuz (hg rfl) _) (by unfold zmV; simp; omega) (zph hsm (by omega))
   ·have hc' : (T[i] == 13 && y == 10) = false := by simpa using hc
    rw [zyE hsT hs hi n first h a hsi hy hc'];have := ih (i + 1) (by omega) (by omega) n first h a (by omega) (by omega) hg (by omega) hsm;rw [this, zy8 ha (by omega), hsi']
    have hlines : lines (T.drop i) = zeu [T[i]] (lines (T.drop (i + 1))) := by
     rw [ydg hlt]
     by_cases hlt2 : i + 1 < T.length
     ·have hy2 : y = T[i + 1] := by
       have : s[i + 1]? = some T[i + 1] := by rw [hsT, List.getElem?_append_left hlt2]; exact ygg hlt2
       rw [hy] at this; exact yoi this
      rw [ydg hlt2, zoi, ← hy2, hc', if_neg yfn]
     ·have : T.drop (i + 1) = [] := List.drop_of_length_le (by omega);rw [this]; rfl
    rw [hlines, zlp _ _ _ (znu _)]
theorem zsH (k : Int) (s : Str) (lim : Int) (hs : s.length < 90000000) : zjM k s lim = some (zfE k s lim) := by
 have j1 : ze7 k s lim (!(k == 1) && !(k == 2)) = some (zfE k s lim) := by
  unfold ze7 zfE
  cases hk : (!(k == 1) && !(k == 2)) with
  | true => rfl
  | false =>
   rw [if_neg yfn, if_neg yfn]
   cases decide (lim < (s.length : Int)) with
   | true => rfl
   | false =>
    rw [if_neg yfn, if_neg yfn, zvi s (by omega), yob];have j2t : ze6 k s true = some (zw, 6) := rfl
    by_cases h4 : s.length < 4
    ·rw [ydt (show (s.length : Int) < 4 by omega), if_pos rfl, j2t, zrl (by simpa using h4)]
    ·rw [ydf (show ¬ (s.length : Int) < 4 by omega), if_neg yfn]
     cases hc : zaA [13, 10, 13, 10] s with
     | none =>
      have : ((-1 : Int) == (s.length : Int)) = false := beq_eq_false_iff_ne.2 (by omega);dsimp only;rw [this];exact j2t
     | some p =>
      have e := zbD (a := p.1) (b := p.2) hc;have el := congrArg List.length e;simp only [yla, ylc, yln] at el;dsimp only
      cases hp : p.2 == [] with
      | false =>
       have hne : p.2 ≠ [] := by simpa using hp
       have hpl : 0 < p.2.length := List.length_pos_iff.2 hne;have : (((p.1.length + 4 : Nat) : Int) == (s.length : Int)) = false := beq_eq_false_iff_ne.2 (by omega);rw [this];exact j2t
      | true =>
       have hp0 : p.2 = [] := by simpa using hp
       rw [hp0] at el;rw [hp0, yan] at e;simp only [yln] at el
       have : (((p.1.length + 4 : Nat) : Int) == (s.length : Int)) = true := by rw [beq_iff_eq]; omega
       rw [this, ynt, if_pos rfl];unfold ze6;rw [if_neg yfn];have := L3_eq (k := k) e hs p.1.length 0 (yz _) (by omega) fuel true zw 0 (by unfold fuel; omega) (Nat.le_refl _) (fun h => by cases h) (Nat.le_refl _) (fun f hf => by cases hf);rw [zuB, List.drop_zero, zkp _ (znu _), if_pos rfl] at this;exact this
 unfold zjM
 cases h1 : k == 1 with
 | true => rw [h1] at j1; exact j1
 | false => rw [h1] at j1; exact j1
theorem zuC : ∀ (ls : List Str) (h : api_Head), (zfD h ls).1.Fields.length ≤ h.Fields.length + ls.length
 | [], h => by
  rw [zfD]
  split
  ·simp
  ·simp [zw]
 | l :: ls, h => by
  rw [zfD]
  split
  ·have := zuC ls (zmV h (zaR l).1)
   have e : (zmV h (zaR l).1).Fields.length = h.Fields.length + 1 := by unfold zmV; simp
   simp only [ylc];omega
  ·simp [zw]
theorem zy9 (k : Int) (s : Str) (lim : Int) : (zfE k s lim).1.Fields.length ≤ s.length + 1 := by
 unfold zfE
 split
 ·simp [zw]
 ·split
  ·simp [zw]
  ·cases hc : zaA [13, 10, 13, 10] s with
   | none => simp [zw]
   | some p =>
    have el := congrArg List.length (zbD (a := p.1) (b := p.2) hc);simp only [yla, ylc, yln] at el;dsimp only
    split
    ·have hm := (zoj _ p.1 (Nat.lt_succ_self _)).1
     cases hl : lines p.1 with
     | nil => simp [znv, zw]
     | cons l ls =>
      rw [hl] at hm;simp only [ylc] at hm;rw [znv]
      split
      ·have := zuC ls (zby k l).1;rw [zir] at this;simp only [yln] at this;omega
      ·simp [zw]
    ·simp [zw]
theorem zxJ {k : Int} {s : Str} {lim : Int} (h : ((zfE k s lim).2 == 0) = false) : (zfE k s lim).1 = zw := by
 have pF : ∀ (ls : List Str) (h : api_Head), ((zfD h ls).2 == 0) = false → (zfD h ls).1 = zw := by
  intro ls
  induction ls with
  | nil =>
   intro h hh;rw [zfD] at hh ⊢
   split
   ·rename_i h1; rw [if_pos h1] at hh; cases hh
   ·rfl
  | cons l ls ih =>
   intro h hh;rw [zfD] at hh ⊢
   split
   ·rename_i h1; rw [if_pos h1] at hh; exact ih _ hh
   ·rfl
 unfold zfE at h ⊢
 split
 ·rfl
 ·rename_i h1
  rw [if_neg h1] at h
  split
  ·rfl
  ·rename_i h2
   rw [if_neg h2] at h
   split
   ·rfl
   ·rename_i p hp
    rw [hp] at h;dsimp only at h
    split
    ·rename_i h3
     rw [if_pos h3] at h
     cases hl : lines p.1 with
     | nil => rfl
     | cons l ls =>
      rw [hl] at h;rw [znv] at h ⊢
      split
      ·rename_i h4; rw [if_pos h4] at h; exact pF _ _ h
      ·rfl
    ·rfl

end Go.Dm
end
section
namespace Go.Dm
theorem zp8 : ∀ (ls : List Str) (x h : api_Head), zfD x ls = (h, 0) → h = ⟨x.Kind, x.Method, x.Target, x.Code, x.Reason, x.Minor, x.Fields ++ ls.map fun l => (zaR l).1⟩ ∧ zlx h = 0
 | [], x, h, e => by
  rw [zfD] at e
  split at e
  ·rename_i h1
   have := congrArg Prod.fst e;dsimp only at this;subst this;exact ⟨by rw [List.map_nil, yan], by simpa using h1⟩
  ·rename_i h1
   have := congrArg Prod.snd e;dsimp only at this;rw [this] at h1; exact absurd rfl h1
 | l :: ls, x, h, e => by
  rw [zfD] at e
  split at e
  ·obtain ⟨a, b⟩ := zp8 ls _ h e;exact ⟨by rw [a]; unfold zmV; simp, b⟩
  ·rename_i h1
   have := congrArg Prod.snd e;dsimp only at this;rw [this] at h1; exact absurd rfl h1
theorem ztl {k : Int} {s : Str} {lim : Int} {h : api_Head} (e : zfE k s lim = (h, 0)) (hs : s.length ≤ 4000) :
  h.Fields.length ≤ 100 ∧ zeE 4000 h.Fields ∧ ∃ l x, zby k l = (x, 0) ∧ x.Method = h.Method ∧ x.Code = h.Code := by
 unfold zfE at e
 split at e
 ·exact absurd (show (1 : Int) = 0 from congrArg Prod.snd e) (by decide)
 ·split at e
  ·exact absurd (show (3 : Int) = 0 from congrArg Prod.snd e) (by decide)
  ·split at e
   ·exact absurd (show (6 : Int) = 0 from congrArg Prod.snd e) (by decide)
   ·rename_i p hp
    split at e
    ·have es := zbD (a := p.1) (b := p.2) hp;have esl := congrArg List.length es;simp only [yla, ylc, yln] at esl
     cases hl : lines p.1 with
     | nil => exact absurd hl (znu _)
     | cons l ls =>
      have hml := (zoj _ p.1 (Nat.lt_succ_self _)).2;rw [hl] at hml;rw [hl, znv] at e
      split at e
      ·rename_i h4
       have h40 : (zby k l).2 = 0 := by simpa using h4
       have hx : zby k l = ((zby k l).1, 0) := Prod.ext rfl h40;have hfx := zir k l;obtain ⟨a, b⟩ := zp8 ls _ h e;rw [hfx, yna] at a
       have hfl : h.Fields = ls.map fun l => (zaR l).1 := by rw [a]
       refine ⟨?_, ?_, l, _, hx, by rw [a], by rw [a]⟩
       ·by_cases hh : 100 < h.Fields.length
        ·unfold zlx at b;rw [ydt hh, if_pos rfl] at b;exact absurd b (by decide)
        ·omega
       ·rw [hfl];intro f hf;obtain ⟨m, hm, rfl⟩ := List.mem_map.1 hf;have := zsE m;have := hml m (List.mem_cons_of_mem _ hm);omega
      ·rename_i h4
       have := congrArg Prod.snd e;dsimp only at this;rw [this] at h4; exact absurd rfl h4
    ·exact absurd (show (6 : Int) = 0 from congrArg Prod.snd e) (by decide)
end Go.Dm
end
section
namespace Go.Dm
structure StepR where
 w : Bool
 e : Int
 v : Str
 f : Nat
 g : api_Head
def zjT (u : Str) (frm : Nat) : Str := (u.take (u.length - 1)).drop frm
def zhl (u : Str) : Bool := u[u.length - 1]? == some 13
def zaV (k L : Int) (u : Str) (frm : Nat) (g : api_Head) (c : UInt8) : StepR :=
 if decide (L ≤ (u.length : Int)) then ⟨false, 3, u, frm, g⟩
 else if !((c == 10) == zhl u) then ⟨false, 24, u ++ [c], frm, g⟩
 else if !(c == 10) then ⟨false, 0, u ++ [c], frm, g⟩
 else if frm == 0 then ⟨false, (zby k (zjT u frm)).2, u ++ [c], u.length + 1, g⟩
 else if !(zjT u frm == []) then ⟨false, (zaR (zjT u frm)).2, u ++ [c], u.length + 1, g⟩
 else ⟨(zfE k (u ++ [c]) L).2 == 0, (zfE k (u ++ [c]) L).2, u ++ [c], frm, (zfE k (u ++ [c]) L).1⟩
def zrY (u : Str) (frm : Nat) : Prop := frm ≤ u.length ∧ (0 < u.length → frm = u.length → u[u.length - 1]? = some 10)
theorem zqp {u : Str} (h : zhl u = true) : 0 < u.length ∧ u[u.length - 1]? = some 13 := by
 unfold zhl at h
 have : u[u.length - 1]? = some 13 := by simpa using h
 refine ⟨?_, this⟩
 cases u with
 | nil => cases this
 | cons c u => simp
theorem zCv {u : Str} {frm : Nat} (hi : zrY u frm) (h : zhl u = true) : frm ≤ u.length - 1 := by
 obtain ⟨h1, h2⟩ := zqp h
 by_cases he : frm = u.length
 ·have := hi.2 h1 he;rw [h2] at this; cases this
 ·have := hi.1; omega
theorem zDH (k L : Int) (u : Str) (c : UInt8) (f : Int) (t : Bool) (b : Int) (w : Bool) (g : api_Head) (hu : u.length < 80000000) : zeP ⟨k, L, u ++ [c], f, t, b, w, g⟩ = some (!((c == 10) == zhl u)) := by
 have hl : ((u ++ [c]).length : Int) = (u.length : Int) + 1 := by simp
 have j1 : ∀ q, zb3 ⟨k, L, u ++ [c], f, t, b, w, g⟩ q = some (!((c == 10) == q)) := by
  intro q;unfold zb3;dsimp only
  have e1 : zbb ((u ++ [c]).length : Int) 1 = some (u.length : Int) := by rw [hl, zY (by omega) (by omega)]; exact congrArg some (by omega)
  rw [e1, yob, zaG, show (u ++ [c])[u.length]? = some c by simp, yob]
 unfold zeP;dsimp only
 by_cases h : 0 < u.length
 ·have e2 : zbb ((u ++ [c]).length : Int) 2 = some ((u.length - 1 : Nat) : Int) := by rw [hl, zY (by omega) (by omega)]; exact congrArg some (by omega)
  have g2 : u[u.length - 1]? = some (u[u.length - 1]'(by omega)) := ygg (by omega)
  have g1 : (u ++ [c])[u.length - 1]? = some (u[u.length - 1]'(by omega)) := by rw [List.getElem?_append_left (by omega), g2]
  rw [ydt (show 1 < ((u ++ [c]).length : Int) by omega), if_pos rfl, e2, yob, zaG, g1, yob, j1];unfold zhl;rw [g2, zsx]
 ·have hu0 : u = [] := List.length_eq_zero_iff.1 (by omega);subst hu0;rw [ydf (by simp), if_neg yfn, j1];rfl
theorem zDI (k L : Int) (v : Str) (f : Nat) (t : Bool) (b : Int) (w : Bool) (g : api_Head) (s : Str) (hv : v.length < 80000000) (hs : s.length < 80000000) :
  zeV ⟨k, L, v, (f : Int), t, b, w, g⟩ s = some (if f == 0 then (false, (zby k s).2, ⟨k, L, v, (v.length : Int), t, b, w, g⟩) else if !(s == []) then (false, (zaR s).2, ⟨k, L, v, (v.length : Int), t, b, w, g⟩) else ((zfE k v L).2 == 0, (zfE k v L).2, (⟨k, L, v, (f : Int), t, b, w, (zfE k v L).1⟩ : accum_Accum))) := by
 unfold zeV zdk;dsimp only
 have hf : ((f : Int) == 0) = (f == 0) := by rw [Bool.eq_iff_iff]; simp
 rw [hf, zhQ k s (by omega), yob, zhL s (by omega), yob, ztT k v L (by omega), yob];cases f == 0 <;> cases s == [] <;> rfl
theorem zDJ (k L : Int) (u : Str) (f : Nat) (t : Bool) (b : Int) (w : Bool) (g : api_Head) (c : UInt8) (hu : u.length < 70000000) (hi : zrY u f) :
  zdw ⟨k, L, u, (f : Int), t, b, w, g⟩ c = some ((zaV k L u f g c).w, (zaV k L u f g c).e, ⟨k, L, (zaV k L u f g c).v, ((zaV k L u f g c).f : Int), t, b, w, (zaV k L u f g c).g⟩) := by
 unfold zdw zaV;dsimp only
 cases decide (L ≤ (u.length : Int)) with
 | true => rfl
 | false =>
  rw [if_neg yfn, if_neg yfn, if_pos (zba (by omega) (by omega)), zDH k L u c _ _ _ _ _ (by omega), yob]
  cases hb : !((c == 10) == zhl u) with
  | true => rfl
  | false =>
   rw [if_neg yfn, if_neg yfn]
   cases hc : c == 10 with
   | false => rfl
   | true =>
    rw [hc] at hb
    have h13 : zhl u = true := by cases h : zhl u with
     | true => rfl
     | false => rw [h] at hb; cases hb
    obtain ⟨hp, _⟩ := zqp h13;have hf := zCv hi h13
    have hl : ((u ++ [c]).length : Int) = (u.length : Int) + 1 := by simp
    have e2 : zbb ((u ++ [c]).length : Int) 2 = some ((u.length - 1 : Nat) : Int) := by rw [hl, zY (by omega) (by omega)]; exact congrArg some (by omega)
    have e3 : lSub (u ++ [c]) (f : Int) ((u.length - 1 : Nat) : Int) = some (zjT u f) := by
     have := zbt (l := u ++ [c]) (i := f) (h := u.length - 1) hf (by simp; omega);have hta : (u ++ [c]).take (u.length - 1) = u.take (u.length - 1) := List.take_append_of_le_length (by omega);unfold zd0 at this;unfold lSub zjT;rw [← hta];exact this
    have hll : (zjT u f).length ≤ u.length := by unfold zjT; simp; omega
    rw [ynt, if_neg yfn, if_neg yfn, e2, yob, e3, yob, zDI k L _ f t b w g _ (by simp; omega) (by omega), yob]
    have hn : (u ++ [c]).length = u.length + 1 := by simp
    rw [hn];cases f == 0 <;> cases zjT u f == [] <;> rfl
theorem zvW {k L : Int} {u : Str} {f : Nat} {g : api_Head} {c : UInt8} (hi : zrY u f) (hw : ((zaV k L u f g c).w || !((zaV k L u f g c).e == 0)) = false) :
  (zaV k L u f g c).v = u ++ [c] ∧ (zaV k L u f g c).g = g ∧ zrY (u ++ [c]) (zaV k L u f g c).f ∧ (u.length : Int) < L := by
 have key : ∀ f', f' ≤ u.length → zrY (u ++ [c]) f' := fun f' h => ⟨by simp; omega, fun _ h2 => by simp at h2; omega⟩;have key2 : c = 10 → zrY (u ++ [c]) (u.length + 1) := fun h => ⟨by simp, fun _ _ => by rw [h]; simp⟩;unfold zaV at hw ⊢
 cases hL : decide (L ≤ (u.length : Int)) with
 | true => rw [hL, if_pos rfl] at hw; cases hw
 | false =>
  have hL' : (u.length : Int) < L := by have := of_decide_eq_false hL; omega
  rw [hL, if_neg yfn] at hw;rw [if_neg yfn]
  cases hb : !((c == 10) == zhl u) with
  | true => rw [hb, if_pos rfl] at hw; cases hw
  | false =>
   rw [hb, if_neg yfn] at hw;rw [if_neg yfn]
   cases hc : c == 10 with
   | false => exact ⟨rfl, rfl, key f hi.1, hL'⟩
   | true =>
    have hc' : c = 10 := by simpa using hc
    rw [hc, ynt, if_neg yfn] at hw;rw [ynt, if_neg yfn]
    cases h0 : f == 0 with
    | true => exact ⟨rfl, rfl, key2 hc', hL'⟩
    | false =>
     rw [h0, if_neg yfn] at hw;rw [if_neg yfn]
     cases hl : !(zjT u f == []) with
     | true => exact ⟨rfl, rfl, key2 hc', hL'⟩
     | false =>
      rw [hl, if_neg yfn] at hw
      exfalso
      dsimp only at hw
      cases hh : (zfE k (u ++ [c]) L).2 == 0 with
      | true => rw [hh] at hw; cases hw
      | false => rw [hh] at hw; cases hw
theorem zCw {k L : Int} {u : Str} {f : Nat} {g : api_Head} {c : UInt8} (hw : ((zaV k L u f g c).w || !((zaV k L u f g c).e == 0)) = true) :
  (zaV k L u f g c).w = ((zaV k L u f g c).e == 0) ∧ ((zaV k L u f g c).w = true → zfE k (u ++ [c]) L = ((zaV k L u f g c).g, 0)) ∧ ((zaV k L u f g c).w = false → g = zw → (zaV k L u f g c).g = zw) ∧ (zaV k L u f g c).g.Fields.length ≤ g.Fields.length + u.length + 2 := by
 have nz : ∀ {e : Int}, ((false : Bool) || !(e == 0)) = true → (false : Bool) = (e == 0) := fun {e} h => by
  cases he : e == 0 with
  | true => rw [he] at h; cases h
  | false => rfl
 unfold zaV at hw ⊢
 split
 ·exact ⟨rfl, (fun h => by cases h), (fun _ h => h), by dsimp only; omega⟩
 ·rename_i h1
  rw [if_neg h1] at hw
  split
  ·exact ⟨rfl, (fun h => by cases h), (fun _ h => h), by dsimp only; omega⟩
  ·rename_i h2
   rw [if_neg h2] at hw
   split
   ·rename_i h3; rw [if_pos h3] at hw; cases hw
   ·rename_i h3
    rw [if_neg h3] at hw
    split
    ·rename_i h4; rw [if_pos h4] at hw; exact ⟨nz hw, (fun h => by cases h), (fun _ h => h), by dsimp only; omega⟩
    ·rename_i h4
     rw [if_neg h4] at hw
     split
     ·rename_i h5; rw [if_pos h5] at hw; exact ⟨nz hw, (fun h => by cases h), (fun _ h => h), by dsimp only; omega⟩
     ·have hl := zy9 k (u ++ [c]) L;refine ⟨rfl, fun h => ?_, fun h _ => zxJ h, ?_⟩
      ·have : (zfE k (u ++ [c]) L).2 = 0 := by simpa using h
       exact Prod.ext rfl this
      ·dsimp only; simp only [yla, ylc, yln] at hl; omega
def znd (k L : Int) (g : api_Head) : Str → Str → Nat → Nat → Option (Nat × StepR) × Nat
 | [], _, f, _ => (none, f)
 | c :: r, u, f, i => if (zaV k L u f g c).w || !((zaV k L u f g c).e == 0) then (some (i + 1, zaV k L u f g c), f) else znd k L g r (u ++ [c]) (zaV k L u f g c).f (i + 1)
def feedR (k L : Int) (g : api_Head) (u : Str) (f : Nat) (t : Bool) (s : Str) : Int × Bool × Int × accum_Accum := match znd k L g s u f 0 with
 | (some z, _) => ((z.1 : Int), z.2.w, z.2.e, ⟨k, L, [], (z.2.f : Int), true, z.2.e, z.2.w, z.2.g⟩)
 | (none, f') => ((s.length : Int), false, 0, ⟨k, L, u ++ s, (f' : Int), t || !(s == []), 0, false, g⟩)
theorem ztD (k L : Int) (g : api_Head) (s : Str) (hs : s.length < 30000000) : ∀ (r : Str) (n i : Nat) (u : Str) (f : Nat) (t : Bool), s.drop i = r → i ≤ s.length → r.length < n → u.length + r.length < 60000000 → zrY u f →
  zar s n k L u (f : Int) t 0 false g.Kind g.Method g.Target g.Code g.Reason g.Minor g.Fields (i : Int) = some (match znd k L g r u f i with
   | (some z, _) => ((z.1 : Int), z.2.w, z.2.e, ⟨k, L, [], (z.2.f : Int), true, z.2.e, z.2.w, z.2.g⟩)
   | (none, f') => ((s.length : Int), false, 0, ⟨k, L, u ++ r, (f' : Int), t || !(r == []), 0, false, g⟩))
 | [], n, i, u, f, t, hd, hi, hn, hu, hv => by
  obtain ⟨n, rfl⟩ : ∃ m, n = m + 1 := ⟨n - 1, by simp at hn; omega⟩
  have : i = s.length := by have := congrArg List.length hd; simp at this; omega
  subst this;rw [zar, ydf (by omega), if_neg yfn];unfold zeJ znd;dsimp only;rw [yan, show (([] : Str) == []) = true from rfl, ynt, Bool.or_false]
 | c :: r, n, i, u, f, t, hd, hi, hn, hu, hv => by
  simp only [ylc] at hn hu;obtain ⟨n, rfl⟩ : ∃ m, n = m + 1 := ⟨n - 1, by omega⟩;obtain ⟨hlt, hdr⟩ := zfm hd
  have hg : s[i]? = some c := by have := congrArg (·[0]?) hd; simpa using this
  have ht := zDJ k L u f true 0 false g c (by omega) hv;rw [zar, ydt (by omega), if_pos rfl, zz, hg, yob];show ((zdw ⟨k, L, u, (f : Int), true, 0, false, g⟩ c).bind _) = _;rw [ht, yob, znd];have hon := fun h => zvW (k := k) (L := L) (g := g) (c := c) hv h;generalize zaV k L u f g c = q at hon;obtain ⟨qw, qe, qv, qf, qg⟩ := q;dsimp only at hon ⊢;unfold zdl;dsimp only
  cases qw with
  | true =>
   rw [Bool.true_or, if_pos rfl, if_pos rfl, if_pos rfl, ze (by omega), yob]
  | false =>
   cases h0 : qe == 0 with
   | false =>
    rw [Bool.false_or, ynf, if_pos rfl, if_neg yfn, if_pos rfl, ze (by omega), yob]
   | true =>
    have he : qe = 0 := by simpa using h0
    subst he;obtain ⟨h1, h2, h3, _⟩ := hon (by rfl);subst h1;subst h2;rw [Bool.false_or, ynt, if_neg yfn, if_neg yfn, if_neg yfn, ze (by omega), yob];have ih := ztD k L qg s hs r n (i + 1) (u ++ [c]) qf true hdr (by omega) (by omega) (by simp; omega) h3;rw [ih]
    have e1 : u ++ [c] ++ r = u ++ c :: r := by simp
    have e2 : ((true : Bool) || !(r == [])) = (t || !((c :: r : Str) == [])) := by
     have : ((c :: r : Str) == []) = false := rfl;rw [this]; cases t <;> rfl
    rw [e1, e2]
theorem zDK (k L : Int) (g : api_Head) (u : Str) (f : Nat) (t : Bool) (s : Str) (hs : s.length < 30000000) (hu : u.length < 30000000) (hi : zrY u f) : zdx ⟨k, L, u, (f : Int), t, 0, false, g⟩ s = some (feedR k L g u f t s) := by
 unfold zdx zdm;exact ztD k L g s hs s fuel 0 u f t rfl (yz _) (by unfold fuel; omega) (by omega) hi
theorem zot {k L : Int} {g : api_Head} : ∀ {s u : Str} {f i : Nat} {z : Nat × StepR} {f' : Nat}, zrY u f → znd k L g s u f i = (some z, f') →
  i < z.1 ∧ z.1 ≤ i + s.length ∧ z.2.w = (z.2.e == 0) ∧ (z.2.w = true → zfE k ((u ++ s).take (u.length + (z.1 - i))) L = (z.2.g, 0)) ∧ (z.2.w = false → g = zw → z.2.g = zw) ∧ z.2.g.Fields.length ≤ g.Fields.length + u.length + s.length + 2
 | [], u, f, i, z, f', _, h => by cases h
 | c :: s, u, f, i, z, f', hi, h => by
  rw [znd] at h
  cases hw : (zaV k L u f g c).w || !((zaV k L u f g c).e == 0) with
  | true =>
   rw [hw, if_pos rfl] at h;have hz := congrArg Prod.fst h;dsimp only at hz;obtain rfl := yoi hz;obtain ⟨a, b, c', d⟩ := zCw hw;refine ⟨by dsimp only; omega, by dsimp only; rw [ylc]; omega, a, fun h => ?_, c', by simp only [ylc]; omega⟩
   have e : (u ++ c :: s).take (u.length + (i + 1 - i)) = u ++ [c] := by
    rw [show u.length + (i + 1 - i) = (u ++ [c]).length by simp, show u ++ c :: s = (u ++ [c]) ++ s by simp, List.take_left']; rfl
   dsimp only;rw [e];exact b h
  | false =>
   rw [hw, if_neg yfn] at h;obtain ⟨_, _, h3, _⟩ := zvW hi hw;obtain ⟨a, b, c', d, e', l'⟩ := zot h3 h;refine ⟨by omega, by simp only [ylc]; omega, c', fun hh => ?_, e', by simp only [yla, ylc, yln] at l' ⊢; omega⟩;have := d hh;rw [show u ++ [c] ++ s = u ++ c :: s by simp, show (u ++ [c]).length + (z.1 - (i + 1)) = u.length + (z.1 - i) by simp; omega] at this;exact this
theorem zqq : zrY [] 0 := ⟨Nat.le_refl _, fun h => absurd h (by decide)⟩
theorem zCx (k L : Int) : zkh k L = some (if !((k == 1) || (k == 2)) || decide (L < 0) || decide (65536 < L) then (none, 1) else (some ⟨k, L, [], 0, false, 0, false, zw⟩, 0)) := by
 unfold zkh zd9;cases k == 1 <;> cases k == 2 <;> cases decide (L < 0) <;> cases decide (65536 < L) <;> rfl
def zCy (a : accum_Accum) : api_Head × Bool := if a.f_whole then (a.f_got, true) else (zw, false)
theorem zDL (a : accum_Accum) (h : a.f_got.Fields.length < 1000000) : zeW a = some (zCy a) := by
 unfold zeW zCy
 cases a.f_whole with
 | false => rfl
 | true => rw [ynt, if_neg yfn, if_pos rfl, if_pos (zba (by omega) (by omega))]

end Go.Dm
end
section
namespace Go.Dm
def zsY : Option (Nat × StepR) × Nat → ref16_Fate
 | (some z, _) => ⟨(z.1 : Int), z.2.e, z.2.g⟩
 | (none, _) => ⟨0, 0, zw⟩
theorem zwG (k L : Int) (s : Str) (hs : s.length < 80000) : ∀ (r : Str) (n i f : Nat), s.drop i = r → i ≤ s.length → r.length < n → zrY (s.take i) f →
  zbm k L s n (f : Int) (i : Int) = some (zsY (znd k L zw r (s.take i) f i)) := by
 intro r
 induction r with
 | nil =>
  intro n i f hd hi hn _
  have hl : i = s.length := by have := congrArg List.length hd; simp at this; omega
  obtain ⟨n, rfl⟩ : ∃ m, n = m + 1 := ⟨n - 1, by simp at hn; omega⟩;rw [zbm, ydf (show ¬ (i : Int) < (s.length : Int) by omega), if_neg yfn];rfl
 | cons c r ihr =>
  intro n i f hd hi hn hv
  have hlt : i < s.length := by have := congrArg List.length hd; simp at this; omega
  have hg : s[i]? = some c := by have := congrArg (·[0]?) hd; simpa using this
  have hn' : r.length + 1 < n := by simpa using hn
  obtain ⟨n, rfl⟩ : ∃ m, n = m + 1 := ⟨n - 1, by omega⟩
  have hul : (s.take i).length = i := by simp; omega
  have htk : s.take (i + 1) = s.take i ++ [c] := by rw [List.take_add_one, hg]; rfl
  have hdr : s.drop (i + 1) = r := by rw [← List.drop_drop, hd]; rfl
  have ih : ∀ f', zrY (s.take i ++ [c]) f' → zbm k L s n (f' : Int) ((i + 1 : Nat) : Int) = some (zsY (znd k L zw r (s.take i ++ [c]) f' (i + 1))) := fun f' hv' => by
   rw [← htk] at hv' ⊢;exact ihr n (i + 1) f' hdr (by omega) (by omega) hv'
  rw [zbm, ydt (show (i : Int) < (s.length : Int) by omega), if_pos rfl, znd];generalize hrec : zbm k L s n = rec at ih ⊢
  have hon : ∀ f', zaV k L (s.take i) f zw c = ⟨false, 0, s.take i ++ [c], f', zw⟩ → rec (f' : Int) ((i + 1 : Nat) : Int) = some (zsY (if (zaV k L (s.take i) f zw c).w || !((zaV k L (s.take i) f zw c).e == 0) then (some (i + 1, zaV k L (s.take i) f zw c), f) else znd k L zw r (s.take i ++ [c]) (zaV k L (s.take i) f zw c).f (i + 1))) := fun f' h => by
   have hi2 := (zvW (k := k) (L := L) (g := zw) (c := c) hv (by rw [h]; rfl)).2.2.1;rw [h] at hi2 ⊢;exact ih f' hi2
  have hoff : ∀ e g', zaV k L (s.take i) f zw c = ⟨e == 0, e, s.take i ++ [c], f, g'⟩ ∨ (∃ u' f', e ≠ 0 ∧ zaV k L (s.take i) f zw c = ⟨false, e, u', f', g'⟩) → some ((⟨((i + 1 : Nat) : Int), e, g'⟩ : ref16_Fate)) = some (zsY (if (zaV k L (s.take i) f zw c).w || !((zaV k L (s.take i) f zw c).e == 0) then (some (i + 1, zaV k L (s.take i) f zw c), f) else znd k L zw r (s.take i ++ [c]) (zaV k L (s.take i) f zw c).f (i + 1))) := fun e g' h => by
   rcases h with h | ⟨u', f', he, h⟩
   ·rw [h]; cases e == 0 <;> rfl
   ·rw [h];have : (e == 0) = false := beq_eq_false_iff_ne.2 he;dsimp only;rw [this]; rfl
  by_cases hL : L ≤ (i : Int)
  ·rw [ydt hL, if_pos rfl, ze (by omega), yob];exact hoff 3 zw (.inr ⟨_, _, by decide, by unfold zaV; rw [hul, ydt hL, if_pos rfl]⟩)
  ·rw [ydf hL, if_neg yfn]
   have h13 : ∀ (X : Bool → Option ref16_Fate), (if decide ((0 : Int) < (i : Int)) = true then ((zbb (i : Int) 1).bind fun i16 => (sAt s i16).bind fun b17 => X (b17 == 13)) else X false) = X (zhl (s.take i)) := fun X => by
    unfold zhl;rw [hul]
    by_cases h0 : 0 < i
    ·have hp : i - 1 < s.length := by omega
     rw [ydt (show (0 : Int) < (i : Int) by omega), if_pos rfl, zY (by omega) (by omega), yob, show (i : Int) - 1 = ((i - 1 : Nat) : Int) by omega, zz, ygg hp, yob, List.getElem?_take, if_pos (by omega), ygg hp]
     congr 1
    ·obtain rfl : i = 0 := by omega
     rw [ydf (by omega), if_neg yfn];rfl
   rw [h13 (fun t => zgU rec k L s (f : Int) (i : Int) t)]
   have hj2 : ∀ t, zgU rec k L s (f : Int) (i : Int) t = zem rec k L s (f : Int) (i : Int) (!((c == 10) == t)) := fun t => by
    unfold zgU;simp only [zz, hg, yob]
    have b1 : ∀ t, (!(true == t)) = !t := by decide
    have b2 : ∀ t, (!(false == t)) = t := by decide
    cases c == 10 with
    | true =>
     rw [b1, if_pos rfl, ynt, if_neg yfn]
     cases t with
     | true => rw [ynt, if_neg yfn]
     | false => rw [ynf, if_pos rfl]
    | false => rw [b2, if_neg yfn, ynf, if_pos rfl]
   rw [hj2];unfold zem;have hsA : zaV k L (s.take i) f zw c = if !((c == 10) == zhl (s.take i)) then ⟨false, 24, s.take i ++ [c], f, zw⟩
     else if !(c == 10) then ⟨false, 0, s.take i ++ [c], f, zw⟩
     else if f == 0 then ⟨false, (zby k (zjT (s.take i) f)).2, s.take i ++ [c], (s.take i).length + 1, zw⟩
     else if !(zjT (s.take i) f == []) then ⟨false, (zaR (zjT (s.take i) f)).2, s.take i ++ [c], (s.take i).length + 1, zw⟩
     else ⟨(zfE k (s.take i ++ [c]) L).2 == 0, (zfE k (s.take i ++ [c]) L).2, s.take i ++ [c], f, (zfE k (s.take i ++ [c]) L).1⟩ := by
    conv => lhs; unfold zaV
    rw [hul, ydf hL, if_neg yfn]
   cases hb : !((c == 10) == zhl (s.take i)) with
   | true =>
    rw [if_pos rfl, ze (by omega), yob];exact hoff 24 zw (.inr ⟨_, _, by decide, by rw [hsA, hb, if_pos rfl]⟩)
   | false =>
    rw [if_neg yfn, zz, hg, yob];rw [hb, if_neg yfn] at hsA
    cases hc : c == 10 with
    | false =>
     rw [hc, ynf, if_pos rfl] at hsA;rw [ynf, if_pos rfl];unfold zh6;rw [ze (by omega), yob];exact hon f hsA
    | true =>
     rw [hc] at hb;rw [hc, ynt, if_neg yfn] at hsA
     have h13t : zhl (s.take i) = true := by cases h : zhl (s.take i) with
      | true => rfl
      | false => rw [h] at hb; cases hb
     obtain ⟨hp, _⟩ := zqp h13t;have hf := zCv hv h13t;rw [hul] at hp hf
     have e3 : zd0 s (f : Int) ((i - 1 : Nat) : Int) = some (zjT (s.take i) f) := by
      rw [zbt hf (by omega)];unfold zjT;rw [hul, List.take_take, Nat.min_eq_left (by omega)]
     have hll : (zjT (s.take i) f).length ≤ s.length := by unfold zjT; simp; omega
     rw [ynt, if_neg yfn, zY (by omega) (by omega), yob, show (i : Int) - 1 = ((i - 1 : Nat) : Int) by omega, e3, yob]
     have j4 : ∀ e : Int, zaV k L (s.take i) f zw c = ⟨false, e, s.take i ++ [c], (s.take i).length + 1, zw⟩ → zh7 rec (i : Int) e = some (zsY (if (zaV k L (s.take i) f zw c).w || !((zaV k L (s.take i) f zw c).e == 0) then (some (i + 1, zaV k L (s.take i) f zw c), f) else znd k L zw r (s.take i ++ [c]) (zaV k L (s.take i) f zw c).f (i + 1))) := fun e h => by
      unfold zh7
      cases he : e == 0 with
      | false =>
       rw [ynf, if_pos rfl, ze (by omega), yob];exact hoff e zw (.inr ⟨_, _, beq_eq_false_iff_ne.1 he, h⟩)
      | true =>
       obtain rfl : e = 0 := by simpa using he
       rw [ynt, if_neg yfn, ze (by omega), yob];unfold zh6;rw [ze (by omega), yob];rw [hul] at h;exact hon (i + 1) h
     have hfz : ((f : Int) == 0) = (f == 0) := by rw [Bool.eq_iff_iff, beq_iff_eq, beq_iff_eq]; omega
     rw [hfz]
     cases hf0 : f == 0 with
     | true =>
      rw [hf0, if_pos rfl] at hsA;rw [if_pos rfl, znC _ _ (by omega), yob];exact j4 _ hsA
     | false =>
      rw [hf0, if_neg yfn] at hsA;rw [if_neg yfn]
      cases hle : zjT (s.take i) f == [] with
      | false =>
       rw [hle, ynf, if_pos rfl] at hsA;rw [ynf, if_pos rfl, zkw _ (by omega), yob];exact j4 _ hsA
      | true =>
       rw [hle, ynt, if_neg yfn] at hsA;rw [ynt, if_neg yfn, ze (by omega), yob, zbQ (by omega), yob, htk, zsH _ _ _ (by simp; omega), yob, yob];exact hoff _ _ (.inl hsA)
theorem zwH (k L : Int) (s : Str) (hs : s.length < 80000) : zp9 k L s = some (zsY (znd k L zw s [] 0 0)) :=
 zwG k L s hs s fuel 0 0 rfl (yz _) (by unfold fuel; omega) zqq

end Go.Dm
end
section
namespace Go.Dm
theorem zkn {s : Str} {l : List Str} (h : zid s = some l) : l.length ≤ s.length + 1 ∧ ∀ x ∈ l, x.length ≤ s.length := by
 unfold zid at h;obtain ⟨m, hm, rfl⟩ := Option.map_eq_some_iff.1 h
 have key : ∀ (s : Str) (k : Nat) (cur : Str) (m : List Str), zic k cur s = some m → m.length ≤ s.length + 1 ∧ ∀ x ∈ m, x.length ≤ cur.length + s.length := by
  intro s
  induction s with
  | nil => intro k cur m h; rw [zr7] at h; cases h; simp
  | cons c r ih =>
   intro k cur m h
   have one : ∀ k, zic k (cur ++ [c]) r = some m → m.length ≤ (c :: r).length + 1 ∧ ∀ x ∈ m, x.length ≤ cur.length + (c :: r).length := fun k h => by
    have := ih k _ m h
    simp only [ylc, yla, yln] at *
    exact ⟨by omega, fun x hx => by have := this.2 x hx; omega⟩
   cases k with
   | succ k => exact one k h
   | zero =>
    cases h1 : (c == 34 || c == 40) with
    | true =>
     rw [zu3 cur r h1] at h
     split at h
     ·cases h
     ·exact one _ h
    | false =>
     cases h2 : c == 44 with
     | true =>
      have : c = 44 := by simpa using h2
      subst this;rw [zo9] at h;obtain ⟨m', hm', rfl⟩ := Option.map_eq_some_iff.1 h;have := ih 0 [] m' hm'
      simp only [ylc, yln] at *
      refine ⟨by omega, fun x hx => ?_⟩
      rcases List.mem_cons.1 hx with rfl | hx
      ·omega
      ·have := this.2 x hx; omega
     | false => rw [zr8 cur r h1 h2] at h; exact one 0 h
 have := key s 0 [] m hm;unfold elems;refine ⟨?_, fun x hx => ?_⟩
 ·have h1 := List.length_filter_le (fun x : Str => !(x == [])) (m.map zb7);rw [List.length_map] at h1;omega
 ·have h1 := (List.mem_filter.1 hx).1;obtain ⟨y, hy, rfl⟩ := List.mem_map.1 h1;have := this.2 y hy;have := zr2 y
  simp at *
  omega
end Go.Dm
end
section
namespace Go.Dm
def zq4 : List Str → List Str → List Str × Int
 | [], out => (out, 0)
 | v :: vs, out => match zid v with
  | none => ([], 2)
  | some l => if l.all zeH then zq4 vs (out ++ l) else ([], 2)
theorem zvP (rec1 : List Str → Int → Option (List Str × Int)) (l6 : List Str) (i7 : Nat) (l : List Str) (e : Int) (hl : l.length < 1000000000) (hx : ∀ x ∈ l, x.length < 900000000) (h6 : (l6.length + l.length) * 16 ≤ 140737488355328) (h7 : i7 < 1000000000) :
  zcp rec1 l6 (i7 : Int) (l, e) fuel 0 = if l.all zeH then rec1 (l6 ++ l) ((i7 + 1 : Nat) : Int) else some ([], 2) := by
 have key : ∀ (n i : Nat), i ≤ l.length → l.length - i < n → zcp rec1 l6 (i7 : Int) (l, e) n (i : Int) = if (l.drop i).all zeH then rec1 (l6 ++ l) ((i7 + 1 : Nat) : Int) else some ([], 2) := by
  intro n
  induction n with
  | zero => intro i _ h; omega
  | succ n ih =>
   intro i hi h;rw [zcp]
   by_cases hlt : i < l.length
   ·have g : l[i]? = some l[i] := ygg hlt;have hxl := hx l[i] (ygm _);dsimp only;rw [ydt (show (i : Int) < (l.length : Int) by omega), if_pos rfl, zaG, g, yob, zsB _ (by omega), yob, ze (by omega), yob, ih (i + 1) (by omega) (by omega), ydg hlt, List.all_cons];cases zeH l[i] <;> rfl
   ·have : i = l.length := by omega
    subst this;dsimp only;rw [ydf (by omega), if_neg (by decide), if_pos (zba h6 (by omega)), ze (by omega), yob, ydl];rfl
 have := key fuel 0 (yz _) (by unfold fuel; omega);rw [List.drop_zero] at this;exact this
theorem zq5 (vs : List Str) (hn : vs.length ≤ 1000) (hv : ∀ v ∈ vs, v.length < 400000) : zhw vs = some (zq4 vs []) := by
 unfold zhw
 have key : ∀ (n i : Nat) (out : List Str), i ≤ vs.length → vs.length - i < n → out.length ≤ i * 400001 → zcq vs n out (i : Int) = some (zq4 (vs.drop i) out) := by
  intro n
  induction n with
  | zero => intro i _ _ h; omega
  | succ n ih =>
   intro i out hi h ho;rw [zcq]
   by_cases hlt : i < vs.length
   ·have g : vs[i]? = some vs[i] := ygg hlt;have hvl := hv vs[i] (ygm _);rw [ydt (show (i : Int) < (vs.length : Int) by omega), if_pos rfl, zaG, g, yob, zm6 _ (by omega), yob, ydg hlt, zq4];unfold zn8
    cases hs : zid vs[i] with
    | none => rfl
    | some l =>
     have hm := zkn hs;dsimp only;rw [if_neg (by decide), zvP _ _ _ l 0 (by omega) (fun x hx => by have := hm.2 x hx; omega) (by omega) (by omega)]
     cases ha : l.all zeH with
     | false => rfl
     | true => rw [if_pos rfl, if_pos rfl, ih (i + 1) _ (by omega) (by omega) (by rw [yla]; omega)]
   ·have : i = vs.length := by omega
    subst this;rw [ydf (by omega), if_neg (by decide), ydl];rfl
 have := key fuel 0 [] (yz _) (by unfold fuel; omega) (by simp);rw [List.drop_zero] at this;exact this
theorem zud (rec1 : List Str → Int → Option (List Str × Int)) (i7 : Nat) (l : List Str) (e : Int) (l6 : List Str) (hl : l.length < 1000000000) (hx : ∀ x ∈ l, x.length < 900000000) (h6 : (l6.length + l.length) * 16 ≤ 140737488355328) (h7 : i7 < 1000000000) :
  zde rec1 (i7 : Int) (l, e) fuel l6 0 = if l.all zeH then rec1 (l6 ++ l) ((i7 + 1 : Nat) : Int) else some ([], 2) := by
 have key : ∀ (n i : Nat) (out : List Str), i ≤ l.length → l.length - i < n → out.length = l6.length + i → zde rec1 (i7 : Int) (l, e) n out (i : Int) = if (l.drop i).all zeH then rec1 (out ++ l.drop i) ((i7 + 1 : Nat) : Int) else some ([], 2) := by
  intro n
  induction n with
  | zero => intro i _ _ h; omega
  | succ n ih =>
   intro i out hi h ho;rw [zde]
   by_cases hlt : i < l.length
   ·have g : l[i]? = some l[i] := ygg hlt;have hxl := hx l[i] (ygm _);dsimp only;rw [ydt (show (i : Int) < (l.length : Int) by omega), if_pos rfl, zaG, g, yob, zku _ (by omega), yob, yob, if_pos (zba (by omega) (by omega)), ze (by omega), yob, ih (i + 1) _ (by omega) (by omega) (by rw [yla]; simp; omega), ydg hlt, List.all_cons, yaa];cases zeH l[i] <;> rfl
   ·have : i = l.length := by omega
    subst this;dsimp only;rw [ydf (by omega), if_neg (by decide), ze (by omega), yob, ydl, yan];rfl
 have := key fuel 0 l6 (yz _) (by unfold fuel; omega) rfl;rw [List.drop_zero] at this;exact this
theorem zrU (vs : List Str) (hn : vs.length ≤ 1000) (hv : ∀ v ∈ vs, v.length < 400000) : zhh vs = some (zq4 vs []) := by
 unfold zhh
 have key : ∀ (n i : Nat) (out : List Str), i ≤ vs.length → vs.length - i < n → out.length ≤ i * 400001 → zdf vs n out (i : Int) = some (zq4 (vs.drop i) out) := by
  intro n
  induction n with
  | zero => intro i _ _ h; omega
  | succ n ih =>
   intro i out hi h ho;rw [zdf]
   by_cases hlt : i < vs.length
   ·have g : vs[i]? = some vs[i] := ygg hlt;have hvl := hv vs[i] (ygm _);rw [ydt (show (i : Int) < (vs.length : Int) by omega), if_pos rfl, zaG, g, yob, znP _ (by omega), yob, ydg hlt, zq4];unfold zn8
    cases hs : zid vs[i] with
    | none => rfl
    | some l =>
     have hm := zkn hs;dsimp only;rw [if_neg (by decide), zud _ _ l 0 out (by omega) (fun x hx => by have := hm.2 x hx; omega) (by omega) (by omega)]
     cases ha : l.all zeH with
     | false => rfl
     | true => rw [if_pos rfl, if_pos rfl, ih (i + 1) _ (by omega) (by omega) (by rw [yla]; omega)]
   ·have : i = vs.length := by omega
    subst this;rw [ydf (by omega), if_neg (by decide), ydl];rfl
 have := key fuel 0 [] (yz _) (by unfold fuel; omega) (by simp);rw [List.drop_zero] at this;exact this
abbrev ziZ : Int := 1099511627776
def zue : Int → List Str → Option Int
 | i, [] => some i
 | i, t :: ts => if (zK 10 t ziZ).2 == 0 then (if decide (0 ≤ i) && !((zK 10 t ziZ).1 == i) then none else zue (zK 10 t ziZ).1 ts) else none
def zvQ : Int → List Str → Option Int
 | i, [] => some i
 | i, v :: vs => match zid v with
  | none => none
  | some l => match zue i l with
   | none => none
   | some k => zvQ k vs
def zq6 : api_Frame × Int := (⟨0, 0⟩, 28)
def lenR (o : Option Int) : api_Frame × Int := match o with
 | none => zq6
 | some i => if i < 0 then zq6 else (⟨2, i⟩, 0)
theorem zuf (rec1 : Int → Int → Option (api_Frame × Int)) (i7 : Nat) (l : List Str) (e : Int) (k : Int) (hl : l.length < 1000000000) (hx : ∀ x ∈ l, x.length < 900000000) (h7 : i7 < 1000000000) :
  zB rec1 (i7 : Int) (l, e) fuel k 0 = match zue k l with | none => some zq6 | some j => rec1 j ((i7 + 1 : Nat) : Int) := by
 have key : ∀ (n i : Nat) (k : Int), i ≤ l.length → l.length - i < n → zB rec1 (i7 : Int) (l, e) n k (i : Int) = match zue k (l.drop i) with | none => some zq6 | some j => rec1 j ((i7 + 1 : Nat) : Int) := by
  intro n
  induction n with
  | zero => intro i _ _ h; omega
  | succ n ih =>
   intro i k hi h;rw [zB]
   by_cases hlt : i < l.length
   ·have g : l[i]? = some l[i] := ygg hlt;have hxl := hx l[i] (ygm _)
    have hj : ∀ b : Bool, zag (zB rec1 (i7 : Int) (l, e) n) (i : Int) (zK 10 l[i] ziZ) b = if b then some zq6 else (match zue (zK 10 l[i] ziZ).1 (l.drop (i + 1)) with | none => some zq6 | some j => rec1 j ((i7 + 1 : Nat) : Int)) := by
     intro b;unfold zag;rw [ze (by omega), yob, ih (i + 1) _ (by omega) (by omega)];rfl
    dsimp only;rw [ydt (show (i : Int) < (l.length : Int) by omega), if_pos rfl, zaG, g, yob, zfl _ _ (by omega) (by decide) (by decide), yob, hj, hj, hj, ydg hlt, zue]
    cases (zK 10 l[i] ziZ).2 == 0 with
    | false => rfl
    | true =>
     cases decide (0 ≤ k) with
     | false => rfl
     | true => cases (zK 10 l[i] ziZ).1 == k <;> rfl
   ·have : i = l.length := by omega
    subst this;dsimp only;rw [ydf (by omega), if_neg (by decide), ze (by omega), yob, ydl];rfl
 have := key fuel 0 k (yz _) (by unfold fuel; omega);rw [List.drop_zero] at this;exact this
theorem zya (r : length_reader) (vs : List Str) (hn : vs.length ≤ 1000) (hv : ∀ v ∈ vs, v.length < 400000) : zci r vs = some (lenR (zvQ (-1) vs)) := by
 unfold zci
 have key : ∀ (n i : Nat) (k : Int), i ≤ vs.length → vs.length - i < n → zS vs n k (i : Int) = some (lenR (zvQ k (vs.drop i))) := by
  intro n
  induction n with
  | zero => intro i _ _ h; omega
  | succ n ih =>
   intro i k hi h;rw [zS]
   by_cases hlt : i < vs.length
   ·have g : vs[i]? = some vs[i] := ygg hlt;have hvl := hv vs[i] (ygm _);rw [ydt (show (i : Int) < (vs.length : Int) by omega), if_pos rfl, zaG, g, yob, zm6 _ (by omega), yob, ydg hlt, zvQ];unfold zn8
    cases hs : zid vs[i] with
    | none => rfl
    | some l =>
     have hm := zkn hs;dsimp only;rw [if_neg (by decide), zuf _ _ l 0 k (by omega) (fun x hx => by have := hm.2 x hx; omega) (by omega)]
     cases zue k l with
     | none => rfl
     | some j => exact ih (i + 1) j (by omega) (by omega)
   ·have : i = vs.length := by omega
    subst this;rw [ydf (by omega), if_neg (by decide), ydl, zvQ, lenR]
    by_cases hk : k < 0
    ·rw [ydt hk, if_pos rfl, if_pos hk]; rfl
    ·rw [ydf hk, if_neg (by decide), if_neg hk]
 have := key fuel 0 (-1) (yz _) (by unfold fuel; omega);rw [List.drop_zero] at this;exact this
def zes : List Str → Option (List Int)
 | [] => some []
 | t :: ts => if (zK 10 t ziZ).2 == 0 then (zes ts).map fun ns => (zK 10 t ziZ).1 :: ns else none
def zjR : List Str → Option (List Int)
 | [] => some []
 | v :: vs => match zid v with
  | none => none
  | some l => match zes l with
   | none => none
   | some a => (zjR vs).map fun b => a ++ b
def zmG : Option (List Int) → api_Frame × Int
 | none => zq6
 | some [] => zq6
 | some (n :: ns) => if ns.all (fun m => m == n) then (⟨2, n⟩, 0) else zq6
def zlk : Int → List Int → Option Int
 | i, [] => some i
 | i, n :: ns => if decide (0 ≤ i) && !(n == i) then none else zlk n ns
theorem zyb : ∀ (l : List Str) (i : Int), (zes l = none ∧ zue i l = none) ∨ ∃ ns, zes l = some ns ∧ (∀ n ∈ ns, 0 ≤ n) ∧ zue i l = zlk i ns := by
 intro l
 induction l with
 | nil => intro i; exact .inr ⟨[], rfl, (fun n h => by cases h), rfl⟩
 | cons t ts ih =>
  intro i;rw [zes, zue]
  cases h : (zK 10 t ziZ).2 == 0 with
  | false => exact .inl ⟨rfl, rfl⟩
  | true =>
   have h0 := (zkF (b := 10) (s := t) (most := ziZ) (by simpa using h) (by decide)).1;rw [if_pos rfl, if_pos rfl]
   rcases ih (zK 10 t ziZ).1 with ⟨q1, q2⟩ | ⟨ns, q1, q2, q3⟩
   ·left
    rw [q1, q2];refine ⟨rfl, ?_⟩
    split <;> rfl
   ·right
    refine ⟨(zK 10 t ziZ).1 :: ns, by rw [q1]; rfl, fun n hn => ?_, by rw [zlk, q3]⟩
    rcases List.mem_cons.1 hn with rfl | hn
    ·exact h0
    ·exact q2 n hn
theorem zzM : ∀ (a b : List Int) (i : Int), zlk i (a ++ b) = match zlk i a with | none => none | some k => zlk k b := by
 intro a
 induction a with
 | nil => intro b i; rfl
 | cons n ns ih =>
  intro b i;rw [List.cons_append, zlk, zlk]
  split
  ·rfl
  ·exact ih b n
theorem zyc : ∀ (vs : List Str) (i : Int), (zjR vs = none ∧ zvQ i vs = none) ∨ ∃ ns, zjR vs = some ns ∧ (∀ n ∈ ns, 0 ≤ n) ∧ zvQ i vs = zlk i ns := by
 intro vs
 induction vs with
 | nil => intro i; exact .inr ⟨[], rfl, (fun n h => by cases h), rfl⟩
 | cons v vs ih =>
  intro i;rw [zjR, zvQ]
  cases hs : zid v with
  | none => exact .inl ⟨rfl, rfl⟩
  | some l =>
   dsimp only
   rcases zyb l i with ⟨q1, q2⟩ | ⟨a, q1, q2, q3⟩
   ·left; rw [q1, q2]; exact ⟨rfl, rfl⟩
   ·rw [q1, q3];dsimp only
    cases hv : zjR vs with
    | none =>
     left
     refine ⟨rfl, ?_⟩
     cases zlk i a with
     | none => rfl
     | some k =>
      rcases ih k with ⟨_, r2⟩ | ⟨ns, r1, _, _⟩
      ·exact r2
      ·rw [hv] at r1; cases r1
    | some b =>
     right
     have hb : ∀ n ∈ b, 0 ≤ n := by
      rcases ih 0 with ⟨r1, _⟩ | ⟨ns, r1, r2, _⟩
      ·rw [hv] at r1; cases r1
      ·rw [hv] at r1; cases r1; exact r2
     refine ⟨a ++ b, rfl, fun n hn => (List.mem_append.1 hn).elim (q2 n) (hb n), ?_⟩;rw [zzM]
     cases zlk i a with
     | none => rfl
     | some k =>
      rcases ih k with ⟨r1, _⟩ | ⟨ns, r1, _, r3⟩
      ·rw [hv] at r1; cases r1
      ·rw [hv] at r1; cases r1; exact r3
theorem zzN : ∀ (ns : List Int) (n : Int), 0 ≤ n → (∀ m ∈ ns, 0 ≤ m) → zlk n ns = if ns.all (fun m => m == n) then some n else none := by
 intro ns
 induction ns with
 | nil => intro n _ _; rfl
 | cons m ns ih =>
  intro n hn h;rw [zlk, ydt hn, Bool.true_and, List.all_cons]
  cases hm : m == n with
  | false => rfl
  | true =>
   have e : m = n := by simpa using hm
   subst e;rw [ynt, if_neg yfn, ih m hn (fun x hx => h x (List.mem_cons_of_mem _ hx)), Bool.true_and]
theorem zzO (vs : List Str) : lenR (zvQ (-1) vs) = zmG (zjR vs) := by
 rcases zyc vs (-1) with ⟨q1, q2⟩ | ⟨ns, q1, q2, q3⟩
 ·rw [q1, q2]; rfl
 ·rw [q1, q3]
  cases ns with
  | nil => rfl
  | cons n ns =>
   have hn := q2 n (List.mem_cons_self ..);rw [zlk, show decide ((0 : Int) ≤ -1) = false from rfl, Bool.false_and, if_neg yfn, zzN ns n hn (fun m hm => q2 m (List.mem_cons_of_mem _ hm)), zmG]
   cases ns.all (fun m => m == n) with
   | false => rfl
   | true =>
    rw [if_pos rfl, if_pos rfl, lenR]
    try dsimp only
    rw [if_neg (by omega)]
theorem zCm (rec3 : List Int → Int → Option (api_Frame × Int)) (i45 : Nat) (l : List Str) (e : Int) (out : List Int) (hl : l.length < 1000000000) (hx : ∀ x ∈ l, x.length < 900000000) (h6 : (out.length + l.length) * 8 ≤ 140737488355328) (h7 : i45 < 1000000000) :
  zgY rec3 (i45 : Int) (l, e) fuel out 0 = match zes l with | none => some zq6 | some a => rec3 (out ++ a) ((i45 + 1 : Nat) : Int) := by
 have key : ∀ (n i : Nat) (o : List Int), i ≤ l.length → l.length - i < n → o.length = out.length + i → zgY rec3 (i45 : Int) (l, e) n o (i : Int) = match zes (l.drop i) with | none => some zq6 | some a => rec3 (o ++ a) ((i45 + 1 : Nat) : Int) := by
  intro n
  induction n with
  | zero => intro i _ _ h; omega
  | succ n ih =>
   intro i o hi h ho;rw [zgY]
   by_cases hlt : i < l.length
   ·have g : l[i]? = some l[i] := ygg hlt;have hxl := hx l[i] (ygm _);dsimp only;rw [ydt (show (i : Int) < (l.length : Int) by omega), if_pos rfl, zaG, g, yob];show ((zfv l[i] ((10 : Nat) : Int) ziZ).bind _) = _;rw [zjl (by simp [zif]) _ _ (by omega) (by decide) (by decide), yob, if_pos (zba (by omega) (by omega)), ze (by omega), yob, ih (i + 1) _ (by omega) (by omega) (by rw [yla]; simp; omega), ydg hlt, zes]
    cases (zK 10 l[i] ziZ).2 == 0 with
    | false => rfl
    | true =>
     rw [ynt, if_neg yfn, if_pos rfl]
     cases zes (l.drop (i + 1)) with
     | none => rfl
     | some a => dsimp only [Option.map_some]; rw [yaa]; rfl
   ·have : i = l.length := by omega
    subst this;dsimp only;rw [ydf (by omega), if_neg (by decide), ze (by omega), yob, ydl, zes];dsimp only;rw [yan]
 have := key fuel 0 out (yz _) (by unfold fuel; omega) rfl;rw [List.drop_zero] at this;exact this
theorem zCn (ns : List Int) (hl : ns.length < 1000000000) : zgZ ns fuel 0 = some (zmG (some ns)) := by
 cases ns with
 | nil => rfl
 | cons n ns =>
  have key : ∀ (f i : Nat), i ≤ (n :: ns).length → (n :: ns).length - i < f → zgZ (n :: ns) f (i : Int) = some (if ((n :: ns).drop i).all (fun m => m == n) then (⟨2, n⟩, 0) else zq6) := by
   intro f
   induction f with
   | zero => intro i _ h; omega
   | succ f ih =>
    intro i hi h;rw [zgZ]
    by_cases hlt : i < (n :: ns).length
    ·have g : (n :: ns)[i]? = some (n :: ns)[i] := ygg hlt;rw [ydt (show (i : Int) < ((n :: ns).length : Int) by omega), if_pos rfl, zaG, g, yob, zn3, List.getElem?_cons_zero, yob, ze (by omega), yob, ih (i + 1) (by omega) (by omega), ydg hlt, List.all_cons];cases (n :: ns)[i] == n <;> rfl
    ·have : i = (n :: ns).length := by omega
     subst this;rw [ydf (by omega), if_neg (by decide), ydl, zn3, List.getElem?_cons_zero, yob]
     have h0 : (((n :: ns).length : Int) == 0) = false := by simp; omega
     rw [h0];rfl
  have := key fuel 0 (yz _) (by unfold fuel; omega);rw [List.drop_zero, List.all_cons, ybs, Bool.true_and] at this;exact this
theorem zw8 : ∀ (l : List Str) (a : List Int), zes l = some a → a.length = l.length := by
 intro l
 induction l with
 | nil => intro a h; cases h; rfl
 | cons t ts ih =>
  intro a h;rw [zes] at h
  split at h
  ·obtain ⟨b, hb, rfl⟩ := Option.map_eq_some_iff.1 h;simp [ih b hb]
  ·cases h
theorem zCo (vs : List Str) (hn : vs.length ≤ 1000) (hv : ∀ v ∈ vs, v.length < 400000) : zfi vs fuel [] 0 = some (zmG (zjR vs)) := by
 have key : ∀ (n i : Nat) (out : List Int), i ≤ vs.length → vs.length - i < n → out.length ≤ i * 400001 → zfi vs n out (i : Int) = some (match zjR (vs.drop i) with | none => zq6 | some a => zmG (some (out ++ a))) := by
  intro n
  induction n with
  | zero => intro i _ _ h; omega
  | succ n ih =>
   intro i out hi h ho;rw [zfi]
   by_cases hlt : i < vs.length
   ·have g : vs[i]? = some vs[i] := ygg hlt;have hvl := hv vs[i] (ygm _);rw [ydt (show (i : Int) < (vs.length : Int) by omega), if_pos rfl, zaG, g, yob, znP _ (by omega), yob, ydg hlt, zjR];unfold zn8
    cases hs : zid vs[i] with
    | none => rfl
    | some l =>
     have hm := zkn hs;dsimp only;rw [if_neg (by decide), zCm _ _ l 0 out (by omega) (fun x hx => by have := hm.2 x hx; omega) (by omega) (by omega)]
     cases ha : zes l with
     | none => rfl
     | some a =>
      have hal := zw8 l a ha;dsimp only;rw [ih (i + 1) _ (by omega) (by omega) (by rw [yla]; omega)]
      cases zjR (vs.drop (i + 1)) with
      | none => rfl
      | some b => dsimp only [Option.map_some]; rw [yaa]
   ·have : i = vs.length := by omega
    subst this;rw [ydf (by omega), if_neg (by decide), ydl, zCn _ (by omega), zjR];dsimp only;rw [yan]
 have := key fuel 0 [] (yz _) (by unfold fuel; omega) (by simp);rw [List.drop_zero] at this;rw [show (0 : Int) = ((0 : Nat) : Int) from rfl, this];cases zjR vs <;> rfl
def zll : Str := [116, 114, 97, 110, 115, 102, 101, 114, 45, 101, 110, 99, 111, 100, 105, 110, 103]
def zi0 : Str := [99, 111, 110, 116, 101, 110, 116, 45, 108, 101, 110, 103, 116, 104]
def zfb (l : List api_Field) (nm : Str) : List Str := (l.filter (isN nm)).map (·.Value)
def zn0 : Str := [99, 104, 117, 110, 107, 101, 100]
def zor (m : Int) (te : List Str) : api_Frame × Int :=
 if ((zq4 te []).2 == 0) && !(m == 0) then (match (zq4 te []).1 with
  | [x] => if low x == zn0 then (⟨3, 0⟩, 0) else (⟨0, 0⟩, 30)
  | _ => (⟨0, 0⟩, 30)) else (⟨0, 0⟩, 30)
def zmH (h : api_Head) (k : Int) : api_Frame × Int :=
 if (zfb h.Fields zll) == [] then (if (zfb h.Fields zi0) == [] then (⟨k, 0⟩, 0) else zmG (zjR (zfb h.Fields zi0)))
 else if (zfb h.Fields zi0) == [] then zor h.Minor (zfb h.Fields zll) else (⟨0, 0⟩, 29)
theorem zw9 {B : Nat} : ∀ (vs : List Str) (out : List Str), (∀ v ∈ vs, v.length ≤ B) → (∀ x ∈ out, x.length ≤ B) → ∀ x ∈ (zq4 vs out).1, x.length ≤ B := by
 intro vs
 induction vs with
 | nil => intro out _ ho; exact ho
 | cons v vs ih =>
  intro out h ho;rw [zq4]
  cases hs : zid v with
  | none => intro x hx; cases hx
  | some l =>
   have hm := zkn hs;have hv := h v (List.mem_cons_self ..);dsimp only
   split
   ·refine ih _ (fun x hx => h x (List.mem_cons_of_mem _ hx)) fun x hx => ?_
    rcases List.mem_append.1 hx with hx | hx
    ·exact ho x hx
    ·have := hm.2 x hx; omega
   ·intro x hx; cases hx
theorem zzP (r : length_reader) (vs : List Str) (hn : vs.length ≤ 1000) (hv : ∀ v ∈ vs, v.length < 400000) : zcL r vs = some (zor r.f_minor vs) := by
 have ht := zq5 vs hn hv;have hb := zw9 (B := 400000) vs [] (fun v h => Nat.le_of_lt (hv v h)) (fun x h => by cases h);unfold zcL zor;rw [ht, yob];generalize zq4 vs [] = q at hb;obtain ⟨l, e⟩ := q;dsimp only at hb ⊢
 cases h0 : e == 0 with
 | false => rfl
 | true =>
  cases hm : r.f_minor == 0 with
  | true => rfl
  | false =>
   rw [ynt, if_neg yfn, if_neg yfn, ynf, Bool.and_true, if_pos rfl]
   match l, hb with
   | [], _ => rfl
   | [x], hb =>
    have hx := hb x (by simp);rw [show (!((([x] : List Str).length : Int) == 1)) = false from rfl, if_neg yfn, zn3, List.getElem?_cons_zero, yob, zoL _ _ (by omega) (by decide), yob, show low ([99, 104, 117, 110, 107, 101, 100] : Str) = zn0 from by decide];unfold zas;dsimp only;cases low x == zn0 <;> rfl
   | x :: y :: l, _ =>
    have : (!(((x :: y :: l).length : Int) == 1)) = true := by simp; omega
    rw [this];rfl
theorem zyd (vs : List Str) (m : Int) (hn : vs.length ≤ 1000) (hv : ∀ v ∈ vs, v.length < 400000) :
  ((zhh vs).bind fun r19 =>
 if (!(r19.2 == 0)) then (zcT true) else (if (m == 0) then (zcT true) else (if (!((r19.1.length : Int) == 1)) then (zcT true) else ((lAt r19.1 0).bind fun x26 =>
 (zfx x26).bind fun r29 =>
 zcT (!(r29 == [99, 104, 117, 110, 107, 101, 100])))))) = some (zor m vs) := by
 have ht := zrU vs hn hv;have hb := zw9 (B := 400000) vs [] (fun v h => Nat.le_of_lt (hv v h)) (fun x h => by cases h);unfold zor;rw [ht, yob];generalize zq4 vs [] = q at hb;obtain ⟨l, e⟩ := q;dsimp only at hb ⊢
 cases h0 : e == 0 with
 | false => rfl
 | true =>
  cases hm : m == 0 with
  | true => rfl
  | false =>
   rw [ynt, if_neg yfn, if_neg yfn, ynf, Bool.and_true, if_pos rfl]
   match l, hb with
   | [], _ => rfl
   | [x], hb =>
    have hx := hb x (by simp);rw [show (!((([x] : List Str).length : Int) == 1)) = false from rfl, if_neg yfn, zn3, List.getElem?_cons_zero, yob, zjn _ (by omega), yob];unfold zcT;show (if (!(low x == zn0)) = true then _ else _) = _;dsimp only;cases low x == zn0 <;> rfl
   | x :: y :: l, _ =>
    have : (!(((x :: y :: l).length : Int) == 1)) = true := by simp; omega
    rw [this];rfl
theorem zmI {k : List api_Field} {B : Nat} (h1 : k.length ≤ 1000) (h2 : zeE B k) (nm : Str) : (zfb k nm).length ≤ 1000 ∧ ∀ v ∈ zfb k nm, v.length < B := by
 unfold zfb;refine ⟨?_, fun v hv => ?_⟩
 ·rw [List.length_map];have := List.length_filter_le (isN nm) k;omega
 ·obtain ⟨f, hf, rfl⟩ := List.mem_map.1 hv;exact (h2 f (List.mem_filter.1 hf).1).2
theorem zr4 (l : List Str) : decide (0 < (l.length : Int)) = !(l == []) := by
 cases l with
 | nil => rfl
 | cons x l => simp <;> omega
theorem zqd (h : api_Head) (k : Int) (hl : h.Fields.length ≤ 1000) (hf : zeE 400000 h.Fields) : zkj h k = some (zmH h k) := by
 have e1 : isN ([84, 114, 97, 110, 115, 102, 101, 114, 45, 69, 110, 99, 111, 100, 105, 110, 103] : Str) = isN zll := by
  funext f; unfold isN
  rw [show low ([84, 114, 97, 110, 115, 102, 101, 114, 45, 69, 110, 99, 111, 100, 105, 110, 103] : Str) = low zll from by decide]
 have e2 : isN ([67, 111, 110, 116, 101, 110, 116, 45, 76, 101, 110, 103, 116, 104] : Str) = isN zi0 := by
  funext f; unfold isN
  rw [show low ([67, 111, 110, 116, 101, 110, 116, 45, 76, 101, 110, 103, 116, 104] : Str) = low zi0 from by decide]
 have b1 := zmI hl hf zll;have b2 := zmI hl hf zi0;unfold zkj zoo;rw [ztt _ (by omega), yob, yob, zly _ _ (by decide) (by omega) (zfj (by decide) hf), yob, zly _ _ (by decide) (by omega) (zfj (by decide) hf), yob, e1, e2];unfold zmH;show (if decide (0 < ((zfb h.Fields zll).length : Int)) = true then zfr h k ⟨h.Fields⟩ (zfb h.Fields zll) (zfb h.Fields zi0) (decide (0 < ((zfb h.Fields zi0).length : Int))) else zfr h k ⟨h.Fields⟩ (zfb h.Fields zll) (zfb h.Fields zi0) false) = _;unfold zfr;rw [zzP _ _ b1.1 b1.2, zya _ _ b2.1 b2.2, zzO, zr4, zr4, yob, yob];cases zfb h.Fields zll == [] <;> cases zfb h.Fields zi0 == [] <;> rfl
theorem zrC (h : api_Head) (k : Int) (hl : h.Fields.length ≤ 1000) (hf : zeE 400000 h.Fields) : zl5 h k = some (zmH h k) := by
 have b1 := zmI hl hf zll;have b2 := zmI hl hf zi0;unfold zl5;rw [zj0 _ _ (by decide) (by omega) (zfj (by decide) hf), yob, zj0 _ _ (by decide) (by omega) (zfj (by decide) hf), yob];unfold zmH;show (if decide (0 < ((zfb h.Fields zll).length : Int)) = true then zg0 h k (zfb h.Fields zll) (zfb h.Fields zi0) (decide (0 < ((zfb h.Fields zi0).length : Int))) else zg0 h k (zfb h.Fields zll) (zfb h.Fields zi0) false) = _;unfold zg0;rw [zyd _ _ b1.1 b1.2, zCo _ b2.1 b2.2, zr4, zr4]
 have hz : (((zfb h.Fields zi0).length : Int) == 0) = (zfb h.Fields zi0 == []) := by
  cases zfb h.Fields zi0 with
  | nil => rfl
  | cons x l => simp <;> omega
 rw [hz];cases zfb h.Fields zll == [] <;> cases zfb h.Fields zi0 == [] <;> rfl
def zq7 (m : Str) (c : Int) : Bool := (m == [72, 69, 65, 68]) || decide (c < 200) || (c == 204) || (c == 304) || ((m == [67, 79, 78, 78, 69, 67, 84]) && decide (c < 300))
def zfz (m : Str) (h : api_Head) : api_Frame × Int :=
 if h.Kind == 1 then zmH h 1 else if zq7 m h.Code then (⟨1, 0⟩, 0) else zmH h 4
theorem zq8 (m : Str) (h : api_Head) (hl : h.Fields.length ≤ 1000) (hf : zeE 400000 h.Fields) : zhx m h = some (zfz m h) := by
 have hb : zfI m h.Code = some (zq7 m h.Code) := by
  unfold zfI zaE zq7;cases m == [72, 69, 65, 68] <;> cases decide (h.Code < 200) <;> cases h.Code == 204 <;> cases h.Code == 304 <;> cases m == [67, 79, 78, 78, 69, 67, 84] <;> rfl
 unfold zhx zfz ziD zhK;rw [zqd h 1 hl hf, zqd h 4 hl hf, hb]
 cases h.Kind == 1 with
 | true => rfl
 | false => cases zq7 m h.Code <;> rfl
theorem ztq (m : Str) (h : api_Head) (hl : h.Fields.length ≤ 1000) (hf : zeE 400000 h.Fields) : zjO m h = some (zfz m h) := by
 have hb : zg1 m h = some (if zq7 m h.Code then (⟨1, 0⟩, 0) else zmH h 4) := by
  have e : decide (h.Code ≤ 299) = decide (h.Code < 300) := decide_eq_decide.2 (by omega);unfold zg1 zbZ zc9 zq7;rw [zrC h 4 hl hf, e];cases m == [72, 69, 65, 68] <;> cases decide (h.Code < 200) <;> cases h.Code == 204 <;> cases h.Code == 304 <;> cases m == [67, 79, 78, 78, 69, 67, 84] <;> cases decide (h.Code < 300) <;> rfl
 unfold zjO zfz;rw [zrC h 1 hl hf, hb];cases h.Kind == 1 <;> rfl
end Go.Dm
end
section
namespace Go.Dm
def FL (s : Str) (n : Nat) (o : Str) (d : dechunk_Decoder) (i : Nat) (t : Bool) (e : Int) : Option (Int × Str × Bool × Int × dechunk_Decoder) :=
 zx s n o d.f_limit d.f_at d.f_line d.f_left d.f_sum d.f_spent d.f_trailers (i : Int) t e
def offD (d : dechunk_Decoder) : dechunk_Decoder := ⟨d.f_limit, 4, [], d.f_left, d.f_sum, d.f_spent, d.f_trailers⟩
theorem zpc (s : Str) (n : Nat) (o : Str) (d : dechunk_Decoder) : FL s (n + 1) o d s.length false 0 = some ((s.length : Int), o, false, 0, d) := by
 unfold FL;rw [zx, ydf (by omega), if_neg yfn];rfl
theorem zCC (s : Str) (n : Nat) (o : Str) (d : dechunk_Decoder) (i : Nat) : FL s (n + 1) o d i true 0 = some ((i : Int), o, true, 0, offD d) := by
 unfold FL;rw [zx];cases decide ((i : Int) < (s.length : Int)) <;> rfl
theorem zig {s : Str} {i k : Nat} {d d' : dechunk_Decoder} {o q : Str} {t : Bool} {e : Int} (n : Nat) (hi : i < s.length) (hl : s.length < 100000000) (ho : o.length < 100000000) (hq : q.length < 100000000) (hk : k < 100000000)
  (hs : zk d (s.drop i) = some ((k : Int), q, t, e, d')) : FL s (n + 1) o d i false 0 = FL s n (o ++ q) d' (i + k) t e := by
 unfold FL;rw [zx, ydt (by omega), if_pos rfl, ynf, if_pos rfl];unfold zav;rw [show ((0 : Int) == 0) = true from rfl, if_pos rfl, zD (by omega), yob];show ((zk d (s.drop i)).bind _) = _;rw [hs, yob];dsimp only;rw [if_pos (zba (by omega) (by omega)), zfO (by omega), yob]
structure Seg (g : Str) (o : Str) (d : dechunk_Decoder) (o' : Str) (d' : dechunk_Decoder) : Prop where
 go : ∀ (s : Str) (i : Nat) (r : Str), s.length < 100000000 → At s i (g ++ r) → ∃ m, m ≤ g.length ∧ ∀ n, FL s (n + m) o d i false 0 = FL s n o' d' (i + g.length) false 0
 cut : ∀ (s : Str) (i : Nat) (p q : Str), s.length < 100000000 → At s i p → g = p ++ q → q ≠ [] → ∀ n, p.length < n → ∃ o2 d2, FL s n o d i false 0 = some ((s.length : Int), o2, false, 0, d2)
theorem At.end_nil {s : Str} {i : Nat} (h : At s i []) : i = s.length := by have := h.len; simpa using this
theorem Seg.nil (o : Str) (d : dechunk_Decoder) : Seg [] o d o d :=
 ⟨fun s i r _ _ => ⟨0, Nat.le_refl _, fun n => rfl⟩, fun s i p q _ _ h hq => by
  have := (List.append_eq_nil_iff.1 h.symm).2
  exact absurd this hq⟩
theorem Seg.one {c : UInt8} {o : Str} {d d' : dechunk_Decoder} (ho : o.length < 100000000) (h : ∀ r, zk d (c :: r) = some (1, [], false, 0, d')) : Seg [c] o d o d' := by
 constructor
 ·intro s i r hs ha;have hl := ha.len;have hd := ha.drop;refine ⟨1, by simp, fun n => ?_⟩;have := zig (s := s) (i := i) (k := 1) (q := []) (o := o) (d := d) (d' := d') (t := false) (e := 0) n (by simp at hl; omega) hs ho (by simp) (by decide) (by rw [hd]; exact h r);rw [this, yan];rfl
 ·intro s i p q hs ha hpq hq n hn
  cases p with
  | nil =>
   obtain ⟨n, rfl⟩ : ∃ m, n = m + 1 := ⟨n - 1, by simp at hn; omega⟩;rw [ha.end_nil];exact ⟨o, d, zpc s n o d⟩
  | cons x p =>
   have := congrArg List.length hpq;rw [yla, ylc, ylc, yln] at this;exact absurd (List.length_eq_zero_iff.1 (by omega)) hq
theorem Seg.data {x o : Str} {L lf sm sp : Int} {tr : List api_Field} {ln : Str} (hx : x ≠ []) (hl : lf = (x.length : Int)) (hxm : x.length < 100000000) (ho : o.length < 100000000) : Seg x o ⟨L, 1, ln, lf, sm, sp, tr⟩ (o ++ x) ⟨L, 2, ln, 2, sm, sp, tr⟩ := by
 subst hl;have hxl : 0 < x.length := List.length_pos_iff.2 hx;constructor
 ·intro s i r hs ha;have hlen := ha.len;have hd := ha.drop;rw [yla] at hlen;refine ⟨1, by omega, fun n => ?_⟩;refine zig n (by omega) hs ho (by omega) (by omega) ?_;rw [hd];unfold zk zbJ zat;dsimp only
  have e1 : min (x.length : Int) ((x ++ r).length : Int) = (x.length : Int) := by rw [yla]; omega
  rw [show ((1 : Int) == 1) = true from rfl, if_pos rfl, e1, zY (by omega) (by omega), yob, show (((x.length : Int) - (x.length : Int)) == 0) = true by rw [Int.sub_self]; rfl, if_pos rfl, zbQ (by simp), yob, List.take_left, yob]
 ·intro s i p q hs ha hpq hq n hn;have hlen := ha.len;have hd := ha.drop
  by_cases hp : p = []
  ·subst hp;obtain ⟨n, rfl⟩ : ∃ m, n = m + 1 := ⟨n - 1, by simp at hn; omega⟩;rw [ha.end_nil];exact ⟨o, _, zpc s n o _⟩
  ·have hql : 0 < q.length := List.length_pos_iff.2 hq
   have hle : x.length = p.length + q.length := by rw [hpq, yla]
   have hpl : 0 < p.length := List.length_pos_iff.2 hp;obtain ⟨n, rfl⟩ : ∃ m, n = m + 1 + 1 := ⟨n - 2, by omega⟩;refine ⟨o ++ p, ⟨L, 1, ln, (x.length : Int) - (p.length : Int), sm, sp, tr⟩, ?_⟩
   have := zig (s := s) (i := i) (k := p.length) (q := p) (o := o) (d := ⟨L, 1, ln, (x.length : Int), sm, sp, tr⟩) (d' := ⟨L, 1, ln, (x.length : Int) - (p.length : Int), sm, sp, tr⟩) (t := false) (e := 0) (n + 1) (by omega) hs ho (by omega) (by omega) (by
    rw [hd];unfold zk zbJ zat;dsimp only
    have e1 : min (x.length : Int) (p.length : Int) = (p.length : Int) := by omega
    have e2 : (((x.length : Int) - (p.length : Int)) == 0) = false := by rw [beq_eq_false_iff_ne]; omega
    rw [show ((1 : Int) == 1) = true from rfl, if_pos rfl, e1, zY (by omega) (by omega), yob, e2, if_neg yfn, zbQ (Nat.le_refl _), yob, List.take_length, yob])
   rw [this, show i + p.length = s.length by omega];exact zpc s n _ _
def zko (a : Int) : Int := if a == 3 then 1 else 0
theorem zqF (L a lf sm sp : Int) (u : Str) (tr : List api_Field) (c : UInt8) (r : Str) (ha : a = 0 ∨ a = 3) :
  zk ⟨L, a, u, lf, sm, sp, tr⟩ (c :: r) = (zap ⟨L, a, u, lf, sm, sp, tr⟩ c).bind fun r25 => some (1, [], r25.1, r25.2.1, r25.2.2) := by
 have e1 : (a == 1) = false := by rcases ha with rfl | rfl <;> rfl
 have e2 : (a == 2) = false := by rcases ha with rfl | rfl <;> rfl
 unfold zk;dsimp only;rw [e1, if_neg yfn, e2, if_neg yfn, zg4, show (c :: r)[0]? = some c from rfl, yob]
theorem zyk (L lf sm sp : Int) (u : Str) (tr : List api_Field) (c : UInt8) : zap ⟨L, 0, u, lf, sm, sp, tr⟩ c = zt ⟨L, 0, u, lf, sm, sp, tr⟩ c sp := by
 unfold zap;dsimp only;rw [show ((0 : Int) == 3) = false from rfl, if_neg yfn]
theorem zyl (L lf sm sp : Int) (u : Str) (tr : List api_Field) (c : UInt8) (h0 : 0 ≤ sp) (h1 : sp < 1000000000) : zap ⟨L, 3, u, lf, sm, sp, tr⟩ c = zt ⟨L, 3, u, lf, sm, sp, tr⟩ c (sp + 1) := by
 unfold zap;dsimp only;rw [show ((3 : Int) == 3) = true from rfl, if_pos rfl, zak (by omega) (by omega), yob]
theorem zyZ (u : Str) (c : UInt8) : zhl (u ++ [c]) = (c == 13) := by
 unfold zhl;simp
theorem zpF (L a lf sm sp : Int) (w : Str) (tr : List api_Field) (i5 : Int) (hu : w.length < 4097) (hL : i5 ≤ L) :
  zt ⟨L, a, w ++ [13], lf, sm, sp, tr⟩ 10 i5 = if (a == 0) = true then (zaY ⟨L, a, [], lf, sm, i5, tr⟩ w).bind fun r => some (false, r.1, r.2) else (zau ⟨L, a, [], lf, sm, i5, tr⟩ w).bind fun r => some (r.1, r.2.1, r.2.2) := by
 unfold zt;dsimp only
 have hl : ((w ++ [(13 : UInt8)]).length : Int) = (w.length : Int) + 1 := by simp
 have e2 : zbb ((w ++ [(13 : UInt8)]).length : Int) 1 = some (w.length : Int) := by rw [hl, zY (by omega) (by omega)]; exact congrArg some (by omega)
 have g0 : 0 < ((w ++ [13]).length : Int) := by rw [hl]; omega
 have g1 : ¬ ((4098 : Int) ≤ ((w ++ [13]).length : Int)) := by rw [hl]; omega
 have g2 : (w ++ [(13 : UInt8)])[w.length]? = some 13 := by simp
 rw [ydt g0, if_pos rfl, e2, yob, zaG, g2, yob];unfold zT zah;dsimp only;rw [ydf g1, if_neg yfn, ydf (show ¬ (L < i5) by omega), if_neg yfn];rw [show (!(((10 : UInt8) == 10) == ((13 : UInt8) == 13))) = false from rfl, if_neg yfn, show (!((10 : UInt8) == 10)) = false from rfl, if_neg yfn, e2, yob]
 have e3 : lTo (w ++ [(13 : UInt8)]) (w.length : Int) = some w := by
  have := zbQ (l := w ++ [13]) (h := w.length) (by simp);rw [List.take_left] at this;exact this
 rw [e3, yob]
end Go.Dm
end
section
namespace Go.Dm
def zlQ (r : Str) : Option (Str × Str) := if !(r.takeWhile zF == []) then some (r.takeWhile zF, r.dropWhile zF) else (zn7 r).map (fun p => (p.1, r.drop p.2))
theorem zi7 (p : UInt8 → Bool) (r : Str) : (r.dropWhile p).length + (r.takeWhile p).length = r.length := by
 have := congrArg List.length (List.takeWhile_append_dropWhile (p := p) (l := r));rw [yla] at this;omega
theorem zzp (b : UInt8) (r : Str) : (z7 b r).length ≤ r.length := by unfold z7; split <;> simp
theorem zuI {r : Str} {p : Str × Nat} (h : zn7 r = some p) : 1 ≤ p.2 ∧ p.2 ≤ r.length := by
 unfold zn7 at h
 split at h
 ·rename_i hb
  have hr := zeF hb
  cases hq : zcZ (z7 34 r) with
  | none => rw [hq] at h; cases h
  | some q =>
   rw [hq] at h;cases h;have := zr6 _ _ hq;have hl := congrArg List.length hr;rw [ylc] at hl;dsimp only;omega
 ·cases h
theorem zuJ {r : Str} {x r' : Str} (h : zlQ r = some (x, r')) : r'.length < r.length := by
 unfold zlQ at h;have h1 := zi7 zF r
 cases ht : r.takeWhile zF == [] with
 | false =>
  rw [ht, ynf, if_pos rfl] at h;cases h;have : r.takeWhile zF ≠ [] := beq_eq_false_iff_ne.1 ht;have := List.length_pos_iff.2 this;omega
 | true =>
  rw [ht, ynt, if_neg yfn] at h
  cases hq : zn7 r with
  | none => rw [hq] at h; cases h
  | some q =>
   rw [hq] at h;cases h;have := zuI hq;simp;omega
section
variable {s r : Str} {k : Nat}
theorem zyG (hs : s.length < 1000000000) (h : At s k r) : match zlQ r with
  | some (x, r') => ∃ k', At s k' r' ∧ zh0 (scn s k) = some (x, true, scn s k')
  | none => ∃ x c, zh0 (scn s k) = some (x, false, c) := by
 obtain ⟨k1, h1, e1⟩ := zqh hs h;unfold zh0 zlQ;rw [e1, yob];dsimp only
 cases ht : r.takeWhile zF == [] with
 | false =>
  rw [ynf, if_pos rfl, if_pos rfl];exact ⟨k1, h1, rfl⟩
 | true =>
  have hte : r.takeWhile zF = [] := by simpa using ht
  have hdr : r.dropWhile zF = r := by
   have := List.takeWhile_append_dropWhile (p := zF) (l := r)
   rwa [hte, yna] at this
  rw [hdr] at h1;rw [ynt, if_neg yfn, if_neg yfn, zk0 hs h1, yob]
  cases hq : zn7 r with
  | none => exact ⟨_, _, rfl⟩
  | some p => exact ⟨_, h1.next p.2 (zuI hq).2, rfl⟩
end
theorem zom (p : UInt8 → Bool) : ∀ (s : Str) (i : Nat), i < (s.takeWhile p).length → ∃ c, s[i]? = some c ∧ p c = true
 | [], i, h => by simp at h
 | c :: s, i, h => by
  rw [List.takeWhile_cons] at h
  cases hc : p c with
  | false => rw [hc] at h; simp at h
  | true =>
   rw [hc, if_pos rfl] at h
   cases i with
   | zero => exact ⟨c, rfl, hc⟩
   | succ i => exact zom p s i (by simpa using h)
theorem zmn (p : UInt8 → Bool) : ∀ (s : Str), s.drop (s.takeWhile p).length = s.dropWhile p ∧ ∀ c, s[(s.takeWhile p).length]? = some c → p c = false
 | [] => ⟨rfl, fun c h => by simp at h⟩
 | c :: s => by
  rw [List.takeWhile_cons, List.dropWhile_cons]
  cases hc : p c with
  | false => exact ⟨rfl, fun d h => by simp at h; subst h; exact hc⟩
  | true =>
   obtain ⟨h1, h2⟩ := zmn p s;exact ⟨h1, fun d h => h2 d (by simpa using h)⟩
theorem zsR (p : UInt8 → Bool) (s : Str) : s.take (s.takeWhile p).length = s.takeWhile p := by
 have := List.takeWhile_append_dropWhile (p := p) (l := s)
 conv => lhs; rw [← this]
 rw [List.take_append_of_le_length (by rw [this]; exact Nat.le_refl _), this];rw [List.take_of_length_le (Nat.le_refl _)]
theorem zDg (s : Str) (hs : s.length < 800000000) : zkR s = some (match zlQ s with | some (x, r') => (x, ((s.length - r'.length : Nat) : Int)) | none => ([], 0)) := by
 unfold zkR;have hd := zi7 zF s;obtain ⟨dh1, dh2⟩ := zmn zF s
 have key : ∀ (n i : Nat), i ≤ (s.takeWhile zF).length → (s.takeWhile zF).length - i < n → zdu s n (i : Int) = some (match zlQ s with | some (x, r') => (x, ((s.length - r'.length : Nat) : Int)) | none => ([], 0)) := by
  intro n
  induction n with
  | zero => intro i _ h; omega
  | succ n ih =>
   intro i hi h;rw [zdu];unfold zhC
   by_cases hlt : i < (s.takeWhile zF).length
   ·obtain ⟨c, hg, hc⟩ := zom zF s i hlt;rw [ydt (show (i : Int) < (s.length : Int) by omega), if_pos rfl, zz, hg, yob, zio, yob, hc, if_pos rfl, ze (by omega), yob];exact ih (i + 1) (by omega) (by omega)
   ·obtain rfl : i = (s.takeWhile zF).length := by omega
    have fin : (if decide ((0 : Int) < ((s.takeWhile zF).length : Int)) = true then ((sTo s ((s.takeWhile zF).length : Int)).bind fun s14 => some (s14, ((s.takeWhile zF).length : Int))) else ((zfh s).bind fun r17 => some (r17.1, r17.2))) = some (match zlQ s with | some (x, r') => (x, ((s.length - r'.length : Nat) : Int)) | none => ([], 0)) := by
     unfold zlQ
     cases ht : s.takeWhile zF with
     | cons c t =>
      have hp : (0 : Int) < ((c :: t : Str).length : Int) := by simp only [ylc]; omega
      have := zsR zF s;rw [ht] at this hd;rw [ydt hp, if_pos rfl, zbQ (by omega), yob, this];show _ = some (c :: t, ((s.length - (s.dropWhile zF).length : Nat) : Int));rw [show s.length - (s.dropWhile zF).length = (c :: t : Str).length by omega]
     | nil =>
      rw [ydf (by decide), if_neg yfn];show _ = some (match (zn7 s).map (fun p => (p.1, s.drop p.2)) with | some (x, r') => (x, ((s.length - r'.length : Nat) : Int)) | none => ([], 0));unfold zn7
      cases s with
      | nil => rfl
      | cons b r =>
       rw [zaT]
       cases hb : b == 34 with
       | false =>
        unfold zfh ze8;have hne : (((b :: r : Str).length : Int) == 0) = false := beq_eq_false_iff_ne.2 (by simp only [ylc]; omega);rw [hne, if_neg yfn, show sAt (b :: r) 0 = some b from rfl, yob, hb];rfl
       | true =>
        obtain rfl : b = 34 := by simpa using hb
        rw [zry r (by simp at hs; omega), yob, if_pos rfl, zaj]
        cases hq : zcZ r with
        | none => rfl
        | some q =>
         have := zr6 _ _ hq;show some (q.1, ((q.2 + 1 : Nat) : Int)) = some (q.1, (((34 :: r : Str).length - ((34 :: r : Str).drop (q.2 + 1)).length : Nat) : Int));rw [yld, ylc, show r.length + 1 - (r.length + 1 - (q.2 + 1)) = q.2 + 1 by omega]
    by_cases hl : (s.takeWhile zF).length < s.length
    ·have hg : s[(s.takeWhile zF).length]? = some s[(s.takeWhile zF).length] := ygg hl;have hc := dh2 _ hg;rw [ydt (show ((s.takeWhile zF).length : Int) < (s.length : Int) by omega), if_pos rfl, zz, hg, yob, zio, yob, hc, if_neg yfn];exact fin
    ·rw [ydf (show ¬ ((s.takeWhile zF).length : Int) < (s.length : Int) by omega), if_neg yfn, if_neg yfn];exact fin
 exact key fuel 0 (yz _) (by unfold fuel; omega)

end Go.Dm
end
