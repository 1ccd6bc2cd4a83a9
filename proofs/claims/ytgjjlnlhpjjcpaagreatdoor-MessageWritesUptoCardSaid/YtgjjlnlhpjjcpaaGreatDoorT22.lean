/-
 Targets: the document's, as the program's.
 Targets written, and read again: both laws.
 First lines: the program's.
 A request's line: its parts come out as they went in.
 First lines: the document's, as the program's; written, and read again.
 First lines written, and read again.
 Blanks at a text's ends. No program in sight.
 Quoted texts, and lists between commas: what they come to. No program in sight.
 Quoted texts, comments, and lists between commas: the program's.
 Quoted texts, and lists between commas: the document's, as the program's.
 Rows of fields: the program's bag, and the doc
-/
import Derived.Test.YtgjjlnlhpjjcpaaGreatDoorT10O
section
namespace Go.Dm
theorem zsu (s : Str) (hs : s.length < 1000000000) : zjN s = some ((upto [63] s).length : Int) := by
 unfold zjN
 have key : ∀ (n i : Nat), i ≤ s.length → s.length - i < n → zbX s n (i : Int) = some ((i + (upto [63] (s.drop i)).length : Nat) : Int) := by
  intro n
  induction n with
  | zero => intro i _ h; omega
  | succ n ih =>
   intro i hi h
   rw [zbX]
   unfold zgq
   rw [zo (by omega), Option.bind_some]
   by_cases hlt : i < s.length
   ·have g : s[i]? = some s[i] := List.getElem?_eq_getElem hlt
    rw [decide_eq_true (show (i : Int) < (s.length : Int) by omega), if_pos rfl, zW, g, Option.bind_some, ih (i + 1) (by omega) (by omega), List.drop_eq_getElem_cons hlt]
    by_cases hc : s[i] = 63
    ·have h1 : (s[i] == 63) = true := by simp [hc]
     rw [h1, if_neg (by decide), zj9 (by simp [hc])]; rfl
    ·have h1 : (s[i] == 63) = false := beq_eq_false_iff_ne.2 hc
     rw [h1, Bool.not_false, if_pos rfl, zkb (by simp [hc])]
     congr 2
     simp only [List.length_cons]; omega
   ·have : i = s.length := by omega
    subst this
    rw [decide_eq_false (show ¬ ((s.length : Int) < (s.length : Int)) by omega), if_neg (by decide), List.drop_length]
    rfl
 have := key fuel 0 (Nat.zero_le _) (by unfold fuel; omega)
 rw [List.drop_zero, Nat.zero_add] at this
 exact this
theorem zlS (t : api_Target) (s : Str) (hq : t.Query = []) (hs : s.length < 900000000) : zfY t s =
  some (⟨t.Kind, t.Scheme, t.Host, (zM 63 s).1, (zM 63 s).2.1, (zM 63 s).2.2⟩, ze1 (zM 63 s).1 && ze7 (zM 63 s).2.1) := by
 unfold zfY
 have hu := zoO [63] s
 have hl := znj 63 s
 have e1 : (zM 63 s).1 = upto [63] s := rfl
 rw [zsu s (by omega), Option.bind_some, zf5 hu, Option.bind_some, zne]
 have hj : ∀ q : Str, q.length < 900000000 → zc8 t s ((upto [63] s).length : Int) (upto [63] s) q = some (⟨t.Kind, t.Scheme, t.Host, upto [63] s, q, decide ((upto [63] s).length < s.length)⟩, ze1 (upto [63] s) && ze7 q) := by
  intro q hq
  unfold zc8 zeF
  rw [zsK _ (by omega), Option.bind_some, znb q (by omega), Option.bind_some]
  have : decide (((upto [63] s).length : Int) < (s.length : Int)) = decide ((upto [63] s).length < s.length) := decide_eq_decide.2 (by omega)
  rw [this]
  cases ze1 (upto [63] s) <;> rfl
 by_cases h0 : zb0 [63] s = []
 ·have hn := (zfO _ _).1 h0
  have hc : (zM 63 s).2.2 = false := by unfold zM; rw [h0]; rfl
  rw [decide_eq_false (by omega), if_neg (by decide), hj _ (by rw [hq]; simp), hq, zlO 63 s hc, decide_eq_false (by omega)]
  have : upto [63] s = s := by have := zdS [63] s; rw [h0, List.append_nil] at this; exact this
  rw [this]
 ·have hn : (upto [63] s).length < s.length := by
   have : ¬ (upto [63] s).length = s.length := fun h => h0 ((zfO _ _).2 h)
   omega
  have hc : (zM 63 s).2.2 = true := by unfold zM; simp [h0]
  have hd : s.drop ((upto [63] s).length + 1) = (zM 63 s).2.1 := by rw [← List.drop_drop, zkW]; rfl
  rw [decide_eq_true (by omega), if_pos rfl, zo (by omega), Option.bind_some, zab (by omega), Option.bind_some, hd, hj _ (by omega), decide_eq_true hn, hc, e1]
theorem zxi (c : UInt8) : (zej c == 58) = (c == 58) :=
 eq_of_beq (zU (fun c => (zej c == 58) == (c == 58)) (by decide +kernel) c)
theorem zsW (c : UInt8) : (zej c == 47) = (c == 47) :=
 eq_of_beq (zU (fun c => (zej c == 47) == (c == 47)) (by decide +kernel) c)
theorem zp4 {c : UInt8} {t : Str} : ∀ {a b : Str}, c ∉ a → zc1 (c :: t) (a ++ (c :: t) ++ b) = some (a, b)
 | [], b, _ => by
  show zc1 (c :: t) (c :: (t ++ b)) = _
  rw [zc1, if_pos (by simp [List.isPrefixOf_iff_prefix])]
  simp
 | x :: a, b, h => by
  have hx : c ≠ x := fun e => h (by simp [e])
  show zc1 (c :: t) (x :: (a ++ (c :: t) ++ b)) = _
  have hp : (c :: t).isPrefixOf (x :: (a ++ (c :: t) ++ b)) = false := by
   rw [List.isPrefixOf_cons_cons, beq_eq_false_iff_ne.2 hx, Bool.false_and]
  rw [zc1, hp, if_neg (by decide), zp4 (fun hm => h (by simp [hm]))]
  rfl
theorem zro (a b : Str) : low (a ++ b) = low a ++ low b := by simp [low]
theorem zAi {u : Str} (h : low u = [58, 47, 47]) : u = [58, 47, 47] := by
 match u, h with
 | [a, b, c], h =>
  simp only [low, List.map_cons, List.map_nil, List.cons.injEq, and_true] at h
  obtain ⟨h1, h2, h3⟩ := h
  have g1 : a = 58 := by have := zxi a; rw [h1] at this; simpa using this.symm
  have g2 : b = 47 := by have := zsW b; rw [h2] at this; simpa using this.symm
  have g3 : c = 47 := by have := zsW c; rw [h3] at this; simpa using this.symm
  rw [g1, g2, g3]
 | [], h => simp [low] at h
 | [_], h => simp [low] at h
 | [_, _], h => simp [low] at h
 | _ :: _ :: _ :: _ :: _, h => simp [low] at h
theorem zwc (sc s : Str) (hsc : (58 : UInt8) ∉ sc) : (sc.length + 3 ≤ s.length ∧ low (s.take (sc.length + 3)) = sc ++ [58, 47, 47]) ↔ ∃ a, zc1 [58, 47, 47] s = some (a, s.drop (sc.length + 3)) ∧ low a = sc := by
 constructor
 ·rintro ⟨h1, h2⟩
  have e : s = s.take sc.length ++ (s.drop sc.length).take 3 ++ s.drop (sc.length + 3) := by
   rw [List.append_assoc, ← List.drop_drop, List.take_append_drop, List.take_append_drop]
  have e2 : s.take (sc.length + 3) = s.take sc.length ++ (s.drop sc.length).take 3 := List.take_add
  rw [e2, zro] at h2
  obtain ⟨g1, g2⟩ := List.append_inj h2 (by simp [low]; omega)
  have g3 := zAi g2
  have hn : (58 : UInt8) ∉ s.take sc.length := fun hm => by
   have : (58 : UInt8) ∈ low (s.take sc.length) := List.mem_map.2 ⟨58, hm, by decide⟩
   rw [g1] at this; exact hsc this
  refine ⟨s.take sc.length, ?_, g1⟩
  have := zp4 (t := [47, 47]) (b := s.drop (sc.length + 3)) hn
  rw [← g3, ← e, g3] at this
  exact this
 ·rintro ⟨a, h1, h2⟩
  have e := zfM h1
  have hal : a.length = sc.length := by rw [← h2]; simp [low]
  have hl : sc.length + 3 ≤ s.length := by have := congrArg List.length e; simp at this; omega
  refine ⟨hl, ?_⟩
  have : s.take (sc.length + 3) = a ++ [58, 47, 47] := by
   rw [e, List.take_left']
   simp [hal]
  rw [this, zro, h2]
  rfl
def zlw (r : api_Target × Bool) : api_Target × Int := if r.2 then (r.1, 0) else (zsZ, 20)
def zlx (sc r : Str) : api_Target × Int := if (zcf (upto [47, 63] r)).2 == 0 then zlw (zlU ⟨2, sc, (zcf (upto [47, 63] r)).1, [], [], false⟩ (zb0 [47, 63] r)) else (zsZ, 20)
theorem zAj (q : Str) : zM 63 (47 :: 63 :: q) = ([47], q, true) := by
 unfold zM
 rw [zkb (by decide), zkc (by decide), zj9 (by decide), zka (by decide)]
 rfl
theorem cutQ_q (q : Str) : zsL (47 :: 63 :: q) = if ze7 q then ([47], q, true, 0) else ([], [], false, 2) := by
 unfold zsL
 rw [zAj]
 have : ze1 [47] = true := by decide
 rw [this, Bool.true_and]
theorem zp5 (rec5 : Int → Option (api_Target × Int)) (sc r : Str) (hr : r.length < 300000000) : zb8 rec5 sc r ((upto [47, 63] r).length : Int) false = some (zlx sc r) := by
 unfold zb8 zlx
 have hu := zoO [47, 63] r
 rw [if_neg (by decide), zf5 hu, Option.bind_some, zne, zjz _ (by omega), Option.bind_some]
 cases (zcf (upto [47, 63] r)).2 == 0 with
 | false => rfl
 | true =>
  rw [Bool.not_true, if_neg (by decide), if_pos rfl]
  cases hf : zb0 [47, 63] r with
  | nil =>
   have hn := (zfO _ _).1 hf
   rw [hn, beq_self_eq_true, if_pos rfl]
   rfl
  | cons c t =>
   have hne : zb0 [47, 63] r ≠ [] := by rw [hf]; simp
   have hlt : (upto [47, 63] r).length < r.length := by
    have : ¬ (upto [47, 63] r).length = r.length := fun h => hne ((zfO _ _).2 h)
    omega
   have hd := zkW [47, 63] r
   rw [hf] at hd
   have g : r[(upto [47, 63] r).length]? = some c := by have := congrArg (·[0]?) hd; simpa using this
   have hd1 : r.drop ((upto [47, 63] r).length + 1) = t := by rw [← List.drop_drop, hd]; rfl
   have htl : (c :: t).length ≤ r.length := by rw [← hd]; simp
   simp only [List.length_cons] at htl
   have hbe : (((upto [47, 63] r).length : Int) == (r.length : Int)) = false := beq_eq_false_iff_ne.2 (by omega)
   rw [hbe, if_neg (by decide), zW, g, Option.bind_some, zo (by omega), Option.bind_some, zab (by omega), Option.bind_some, hd1, znb t (by omega), Option.bind_some, zab hu, Option.bind_some, hd, zlS _ _ rfl (by simp only [List.length_cons]; omega), Option.bind_some]
   unfold zfv zlU zlw
   have hne2 : c :: t ≠ [] := by simp
   rw [if_neg hne2, List.head?_cons, Option.some_beq_some]
   cases hc : c == 63 with
   | true =>
    have : c = 63 := by simpa using hc
    subst this
    simp only [if_true]
    rw [cutQ_q]
    cases ze7 t <;> rfl
   | false =>
    simp only [Bool.false_eq_true, if_false]
    unfold zsL
    cases ze1 (zM 63 (c :: t)).1 && ze7 (zM 63 (c :: t)).2.1 <;> rfl
theorem zuX (sc r : Str) (hr : r.length < 300000000) : zaA sc r fuel 0 = some (zlx sc r) := by
 have hu := zoO [47, 63] r
 have key : ∀ (n i : Nat), i ≤ (upto [47, 63] r).length → (upto [47, 63] r).length - i < n → zaA sc r n (i : Int) = some (zlx sc r) := by
  intro n
  induction n with
  | zero => intro i _ h; omega
  | succ n ih =>
   intro i hi h
   rw [zaA]
   by_cases hlt : i < (upto [47, 63] r).length
   ·have g : r[i]? = some (upto [47, 63] r)[i] := by
     have e := List.getElem?_append_left (l₂ := zb0 [47, 63] r) hlt
     rw [zdS] at e; rw [e]; exact List.getElem?_eq_getElem hlt
    have hno := zu0 (upto [47, 63] r)[i] (List.getElem_mem hlt)
    generalize (upto [47, 63] r)[i] = c at g hno
    have h1 : (c == 47) = false := by simp at hno; simp [hno.1]
    have h2 : (c == 63) = false := by simp at hno; simp [hno.2]
    rw [decide_eq_true (show (i : Int) < (r.length : Int) by omega), if_pos rfl, zW, g, Option.bind_some, Option.bind_some, h1, h2, Bool.not_false, if_pos rfl]
    unfold zb8
    rw [if_pos rfl, zo (by omega), Option.bind_some]
    exact ih (i + 1) (by omega) (by omega)
   ·have : i = (upto [47, 63] r).length := by omega
    subst this
    rw [zp5 _ sc r hr]
    cases hf : zb0 [47, 63] r with
    | nil =>
     have hn := (zfO _ _).1 hf
     rw [decide_eq_false (by omega), if_neg (by decide)]
    | cons c t =>
     have hd := zkW [47, 63] r
     rw [hf] at hd
     have g : r[(upto [47, 63] r).length]? = some c := by have := congrArg (·[0]?) hd; simpa using this
     have hlt : (upto [47, 63] r).length < r.length := by have := congrArg List.length hd; simp at this; omega
     have hin := zsX hf
     rw [decide_eq_true (by omega), if_pos rfl, zW, g, Option.bind_some, Option.bind_some]
     rcases zcD (c == 47) with h1 | h1
     ·rw [h1]; rfl
     ·have h2 : (c == 63) = true := by simp at hin h1 ⊢; rcases hin with h | h; exact absurd h h1; exact h
      rw [h1, h2, Bool.not_true, zp5 _ sc r hr]; rfl
 exact key fuel 0 (Nat.zero_le _) (by unfold fuel; omega)
def zeN (sc s : Str) : Bool := decide (sc.length + 3 ≤ s.length) && low (s.take (sc.length + 3)) == sc ++ [58, 47, 47]
theorem znG (sc s : Str) (hsc : (58 : UInt8) ∉ sc) : zeN sc s = true ↔ ∃ a, zc1 [58, 47, 47] s = some (a, s.drop (sc.length + 3)) ∧ low a = sc := by
 rw [← zwc sc s hsc]
 unfold zeN
 simp
theorem zwQ (n i : Nat) (s x : Str) (hx : lAt [[104, 116, 116, 112], [104, 116, 116, 112, 115]] (i : Int) = some x) (hi : i < 2) (hl : x.length < 10) (hs : s.length < 300000000) :
  zag (n + 1) s (i : Int) = if zeN x s = true then some (zlx x (s.drop (x.length + 3))) else zag n s ((i + 1 : Nat) : Int) := by
 rw [zag]
 have e3 : zx (x.length : Int) 3 = some ((x.length + 3 : Nat) : Int) := by rw [zdP (by omega) (by omega)]; simp
 show (if decide ((i : Int) < 2) = true then (lAt [[104, 116, 116, 112], [104, 116, 116, 112, 115]] (i : Int)).bind _ else _) = _
 rw [decide_eq_true (show (i : Int) < 2 by omega), if_pos rfl, hx, Option.bind_some, e3, Option.bind_some]
 unfold zeN zfw
 rw [zo (by omega), Option.bind_some]
 by_cases hlt : x.length + 3 ≤ s.length
 ·have e4 : decide ((s.length : Int) < ((x.length + 3 : Nat) : Int)) = false := decide_eq_false (by omega)
  rw [e4, if_neg (by decide), decide_eq_true hlt, zf5 hlt, Option.bind_some, zir _ (by simp; omega), Option.bind_some, zD (by simp; omega), Option.bind_some, zab hlt, Option.bind_some, zuX x _ (by simp; omega), Bool.true_and]
  cases low (s.take (x.length + 3)) == x ++ [58, 47, 47] <;> rfl
 ·have e4 : decide ((s.length : Int) < ((x.length + 3 : Nat) : Int)) = true := decide_eq_true (by omega)
  rw [e4, if_pos rfl, if_pos rfl, decide_eq_false hlt]
  rfl
theorem zrp (a r : Str) (sc : Str) (h : low a = sc) : zlw (if (zcf (upto [47, 63] r)).2 == 0 then zlU ⟨2, low a, (zcf (upto [47, 63] r)).1, [], [], false⟩ (zb0 [47, 63] r) else (⟨2, low a, ⟨0, [], 0⟩, [], [], false⟩, false)) = zlx sc r := by
 unfold zlx
 rw [h]
 cases (zcf (upto [47, 63] r)).2 == 0 <;> rfl
theorem zuY (s : Str) (hs : s.length < 300000000) : zag fuel s 0 = some (zlw (zu6 s)) := by
 have hf : fuel = 999999999999999997 + 1 + 1 + 1 := rfl
 have s1 := zwQ (999999999999999997 + 1 + 1) 0 s zlV rfl (by decide) (by decide) hs
 have s2 := zwQ (999999999999999997 + 1) 1 s zi2 rfl (by decide) (by decide) hs
 have s3 : zag (999999999999999997 + 1) s ((1 + 1 : Nat) : Int) = some (zsZ, 20) := by rw [zag]; rfl
 have h1 := znG zlV s (by decide)
 have h2 := znG zi2 s (by decide)
 rw [hf, show (0 : Int) = ((0 : Nat) : Int) from rfl, s1, s2, s3]
 unfold zu6
 cases hc : zc1 [58, 47, 47] s with
 | none =>
  rw [hc] at h1 h2
  have g1 : ¬ zeN zlV s = true := fun h => by obtain ⟨a, ha, _⟩ := h1.1 h; cases ha
  have g2 : ¬ zeN zi2 s = true := fun h => by obtain ⟨a, ha, _⟩ := h2.1 h; cases ha
  rw [if_neg g1, if_neg g2]
  rfl
 | some p =>
  rw [hc] at h1 h2
  dsimp only
  have hp : ∀ sc : Str, low p.1 = sc → p.2 = s.drop (sc.length + 3) := fun sc h => by
   have e := zfM (a := p.1) (b := p.2) hc
   have hal : p.1.length = sc.length := by rw [← h]; simp [low]
   rw [e, ← hal, List.drop_left']
   simp
  by_cases c1 : low p.1 = zlV
  ·have g1 : zeN zlV s = true := h1.2 ⟨p.1, by rw [← hp _ c1], c1⟩
   rw [if_pos g1, c1]
   have := zrp p.1 p.2 zlV c1
   rw [c1] at this
   rw [if_pos (by decide), this, hp _ c1]
  ·have g1 : ¬ zeN zlV s = true := fun h => by obtain ⟨a, ha, hb⟩ := h1.1 h; cases ha; exact c1 hb
   rw [if_neg g1]
   by_cases c2 : low p.1 = zi2
   ·have g2 : zeN zi2 s = true := h2.2 ⟨p.1, by rw [← hp _ c2], c2⟩
    have := zrp p.1 p.2 zi2 c2
    rw [c2] at this
    rw [if_pos g2, c2, if_pos (by decide), this, hp _ c2]
   ·have g2 : ¬ zeN zi2 s = true := fun h => by obtain ⟨a, ha, hb⟩ := h2.1 h; cases ha; exact c2 hb
    rw [if_neg g2, if_neg (by simp [c1, c2])]
    rfl
theorem zxj {s : Str} (h : ([47] : Str).isPrefixOf s = true) : (zu6 s).2 = false := by
 obtain ⟨r, hr⟩ := List.isPrefixOf_iff_prefix.1 h
 unfold zu6
 cases hc : zc1 [58, 47, 47] s with
 | none => rfl
 | some p =>
  have e := zfM (a := p.1) (b := p.2) hc
  have hh : low p.1 ≠ zlV ∧ low p.1 ≠ zi2 := by
   cases hp : p.1 with
   | nil => exact ⟨by decide, by decide⟩
   | cons c t =>
    rw [hp, ← hr] at e
    have : c = 47 := by simp at e; exact e.1.symm
    subst this
    exact ⟨by simp [low, zlV, zej], by simp [low, zi2, zej]⟩
  dsimp only
  rw [if_neg (by simp [hh.1, hh.2])]
theorem zuZ (s : Str) (h : ([47] : Str).isPrefixOf s = true) : zlU zxX s = (if ze1 (zM 63 s).1 && ze7 (zM 63 s).2.1 then ((⟨1, [], ⟨0, [], 0⟩, (zM 63 s).1, (zM 63 s).2.1, (zM 63 s).2.2⟩ : api_Target), true) else (⟨1, [], ⟨0, [], 0⟩, [], [], false⟩, false)) := by
 obtain ⟨r, hr⟩ := List.isPrefixOf_iff_prefix.1 h
 subst hr
 unfold zlU
 rw [if_neg (by simp)]
 have hh : (([47] ++ r : Str).head? == some 63) = false := rfl
 rw [hh]
 simp only [Bool.false_eq_true, if_false]
 unfold zsL
 cases ze1 (zM 63 ([47] ++ r)).1 && ze7 (zM 63 ([47] ++ r)).2.1 <;> rfl
theorem zwd {s : Str} (h : ([47] : Str).isPrefixOf s = false) : ze1 (zM 63 s).1 = false := by
 rcases zcD (ze1 (zM 63 s).1) with h1 | h1
 ·obtain ⟨r, hr⟩ := ztl h1
  have ht := zvN 63 s
  rw [hr] at ht
  rw [← ht] at h
  simp at h
 ·exact h1
theorem ztE {r : api_Target × Bool} (h : r.2 = false) : zlw r = (zsZ, 20) := by unfold zlw; rw [h]; rfl
theorem zmu (s : Str) (hs : s.length < 300000000) : zb9 s false = some (if ([47] : Str).isPrefixOf s then zlw (zlU zxX s) else zlw (zu6 s)) := by
 unfold zb9
 rw [if_neg (by decide), zlS _ _ rfl (by omega), Option.bind_some, zuY s hs]
 dsimp only
 cases h : ([47] : Str).isPrefixOf s with
 | true =>
  rw [if_pos rfl, zuZ s h]
  cases ze1 (zM 63 s).1 && ze7 (zM 63 s).2.1 with
  | true => rfl
  | false =>
   rw [ztE (zxj h)]
   rfl
 | false =>
  rw [zwd h, Bool.false_and, if_neg (by decide), if_neg (by decide)]
theorem zrq (m s : Str) (hs : s.length < 300000000) : ziJ m s = some (zjF m s) := by
 unfold ziJ zjF zfu
 rw [zjz s (by omega), Option.bind_some]
 show (if (m == zmy) = true then _ else _) = _
 cases hm : m == zmy with
 | true =>
  rw [if_pos rfl, if_pos rfl]
  cases (zcf s).2 == 0 <;> cases decide ((zcf s).1.Port < 0) <;> rfl
 | false =>
  show (if (s == [42]) = true then zb9 s (m == zrx) else zb9 s false) = some (zlw (ofT m s))
  rw [zmu s hs]
  unfold ofT
  cases h : s == [42] with
  | true =>
   have : s = [42] := by simpa using h
   subst this
   cases m == zrx with
   | true => rfl
   | false => rw [if_pos rfl, zmu [42] (by decide)]; rfl
  | false =>
   cases ([47] : Str).isPrefixOf s <;> rfl

end Go.Dm
end
section
namespace Go.Dm
theorem zxI (l : List Str) : Go.Lib.join l [] = l.flatten := by
 cases l with
 | nil => rfl
 | cons x r => rw [Go.Lib.join_cons]; simp [Go.Lib.joinTail]
theorem zr3 (l : List Str) (h : l.length < 1000000) (h2 : l.flatten.length < 4000000000) : zbR [] l = some l.flatten := by
 unfold zbR strings_Join
 rw [zxI, if_pos ⟨by omega, by omega⟩]
 rfl
theorem zjs (n : Int) (hn : inI n = true) : (zha 10 n).length ≤ 71 := by
 unfold zha
 split
 ·simp
 ·rw [zjj]
  have := zhe.1 hn
  exact zqO (by decide) _ (by omega)
end Go.Dm
end
section
namespace Go.Dm
def zj3 (r : Str) : Int × Bool × Str := match r with
 | [] => (0, false, [])
 | c :: t => if zO c then (((c - 48).toNat : Int), true, t) else (0, false, c :: t)
section
variable {s r : Str} {k : Nat}
theorem zvB (hs : s.length < 1000000000) (h : At s k r) : ∃ k', At s k' (zj3 r).2.2 ∧ za9 ⟨scn s k⟩ = some ((zj3 r).1, (zj3 r).2.1, scn s k') := by
 unfold za9
 show ∃ k', _ ∧ (zB (scn s k)).bind _ = _
 rw [zo7 h, Option.bind_some]
 cases r with
 | nil => exact ⟨k, h, rfl⟩
 | cons c t =>
  have e : zj3 (c :: t) = if zO c then (((c - 48).toNat : Int), true, t) else (0, false, c :: t) := rfl
  rw [e]
  show ∃ k', _ ∧ (z6 c).bind (fun r6 => za8 ⟨scn s k⟩ (c, true) (!r6)) = _
  rw [zhW, Option.bind_some]
  obtain ⟨k', h1, h2⟩ := zgC hs c h
  rw [zaE] at h1
  cases zO c with
  | false => exact ⟨k, h, rfl⟩
  | true =>
   refine ⟨k', h1, ?_⟩
   show (zn (scn s k) c).bind (fun r11 => some (((c - 48).toNat : Int), true, r11.2)) = _
   rw [h2]; rfl
def zbj : Str := [72, 84, 84, 80, 47]
def zgO (r : Str) : Int × Int × Bool × Str :=
 if zbj.isPrefixOf r then
  ((zj3 (r.drop 5)).1, (zj3 (zav 46 (zj3 (r.drop 5)).2.2)).1, (zj3 (r.drop 5)).2.1 && zhI 46 (zj3 (r.drop 5)).2.2 && (zj3 (zav 46 (zj3 (r.drop 5)).2.2)).2.1, (zj3 (zav 46 (zj3 (r.drop 5)).2.2)).2.2)
 else (0, 0, false, r)
theorem zr0 (hs : s.length < 1000000000) (h : At s k r) : ∃ k', At s k' (zgO r).2.2.2 ∧ zaJ ⟨scn s k⟩ = some ((zgO r).1, (zgO r).2.1, (zgO r).2.2.1, scn s k') := by
 unfold zaJ
 obtain ⟨k1, h1, e1⟩ := zAH hs zbj (by decide) h
 show ∃ k', _ ∧ (zcg (scn s k) zbj).bind _ = _
 rw [e1, Option.bind_some]
 unfold zgO
 cases hp : zbj.isPrefixOf r with
 | false =>
  rw [hp, if_neg (by decide)] at h1
  exact ⟨k1, h1, rfl⟩
 | true =>
  rw [hp, if_pos rfl] at h1
  have h1 : At s k1 (r.drop 5) := h1
  obtain ⟨k2, h2, e2⟩ := zvB hs h1
  obtain ⟨k3, h3, e3⟩ := zgC hs 46 h2
  obtain ⟨k4, h4, e4⟩ := zvB hs h3
  refine ⟨k4, h4, ?_⟩
  dsimp only
  rw [Bool.not_true, if_neg (by decide), e2, Option.bind_some]
  dsimp only
  rw [e3, Option.bind_some]
  dsimp only
  rw [e4, Option.bind_some, if_pos rfl]
  dsimp only
  cases (zj3 (r.drop 5)).2.1 <;> cases zhI 46 (zj3 (r.drop 5)).2.2 <;> rfl
def zcp (u : Str) : Int := if (zgO u).2.2.1 && (zgO u).2.2.2 == [] then (if (zgO u).1 == 1 && decide ((zgO u).2.1 ≤ 1) then (zgO u).2.1 else 2) else -1
theorem zwZ {r : Str} (h : (zj3 r).2.1 = true) : ∃ c t, r = c :: t ∧ zO c = true ∧ zj3 r = (((c - 48).toNat : Int), true, t) := by
 cases r with
 | nil => cases h
 | cons c t =>
  unfold zj3 at h ⊢
  dsimp only at h ⊢
  cases hc : zO c with
  | false => rw [hc] at h; cases h
  | true => exact ⟨c, t, rfl, hc, by simp⟩
theorem zo5 {r : Str} (h : (zgO r).2.2.1 = true) : ∃ a b t, r = zbj ++ a :: 46 :: b :: t ∧ zO a = true ∧ zO b = true ∧ zgO r = (((a - 48).toNat : Int), ((b - 48).toNat : Int), true, t) := by
 unfold zgO at h ⊢
 cases hp : zbj.isPrefixOf r with
 | false => rw [hp] at h; cases h
 | true =>
  rw [hp, if_pos rfl] at h
  rw [if_pos rfl]
  simp only [Bool.and_eq_true] at h
  obtain ⟨⟨h1, h2⟩, h3⟩ := h
  obtain ⟨t0, ht0⟩ := List.isPrefixOf_iff_prefix.1 hp
  have hd : r.drop 5 = t0 := by rw [← ht0]; rfl
  rw [hd] at h1 h2 h3 ⊢
  obtain ⟨a, t1, rfl, ha, ea⟩ := zwZ h1
  rw [ea] at h2 h3 ⊢
  have hb := zgP h2
  dsimp only at h2 h3 hb ⊢
  obtain ⟨b, t, e, hbd, eb⟩ := zwZ h3
  rw [e] at hb
  rw [eb]
  refine ⟨a, b, t, by rw [← ht0, hb], ha, hbd, ?_⟩
  simp [h2]
theorem zm2 {c : UInt8} (h : zO c = true) (h1 : (c - 48).toNat ≤ 1) : c = 48 ∨ c = 49 := by
 have := zU (fun c => !(zO c && decide ((c - 48).toNat ≤ 1)) || (c == 48 || c == 49)) (by decide +kernel) c
 rw [h] at this
 simpa [h1] using this
theorem zjX {u : Str} (h : 0 ≤ zcp u) (h2 : (zcp u == 2) = false) : (u = zbj ++ [49, 46, 48] ∧ zcp u = 0) ∨ (u = zbj ++ [49, 46, 49] ∧ zcp u = 1) := by
 unfold zcp at *
 cases hc : (zgO u).2.2.1 && (zgO u).2.2.2 == [] with
 | false => rw [hc] at h; exact absurd (show (0 : Int) ≤ -1 from h) (by decide)
 | true =>
  rw [hc, if_pos rfl] at h h2
  rw [if_pos rfl]
  simp only [Bool.and_eq_true] at hc
  obtain ⟨a, b, t, e, ha, hb, ev⟩ := zo5 hc.1
  rw [ev] at hc h h2 ⊢
  have ht : t = [] := by simpa using hc.2
  subst ht
  dsimp only at h h2 ⊢
  cases hq : (((a - 48).toNat : Int) == 1 && decide (((b - 48).toNat : Int) ≤ 1)) with
  | false => rw [hq] at h2; exact absurd (show ((2 : Int) == 2) = false from h2) (by decide)
  | true =>
   rw [if_pos rfl]
   simp only [Bool.and_eq_true, beq_iff_eq, decide_eq_true_eq] at hq
   have ha1 : a = 49 := by
    rcases zm2 ha (by omega) with h | h
    ·subst h; exact absurd hq.1 (by decide)
    ·exact h
   subst ha1
   rcases zm2 hb (by omega) with h | h <;> subst h
   ·left; exact ⟨e, by decide⟩
   ·right; exact ⟨e, by decide⟩
theorem zjY (u : Str) (hu : u.length < 1000000000) : zc4 u = some (zcp u == 2) := by
 unfold zc4
 rw [zj6, Option.bind_some]
 obtain ⟨k', h, e⟩ := zr0 hu (At.zero u)
 rw [e, Option.bind_some]
 dsimp only
 rw [zwx h]
 unfold zcp za4
 have h1 : decide ((zgO u).2.1 ≤ 1) = !decide (1 < (zgO u).2.1) := by
  rw [Bool.eq_iff_iff]; simp
 rw [h1]
 cases hv : (zgO u).2.2.1 with
 | false => rfl
 | true =>
  rw [if_pos rfl, Option.bind_some, Bool.true_and]
  cases (zgO u).2.2.2 == [] with
  | false => rfl
  | true =>
   rw [if_pos rfl, if_pos rfl]
   obtain ⟨a, b, t, _, ha, hb, ev⟩ := zo5 hv
   rw [ev]
   dsimp only
   cases ((a - 48).toNat : Int) == 1 with
   | false => rfl
   | true =>
    rw [Bool.not_true, if_neg (by decide), Bool.true_and]
    by_cases h2 : (1 : Int) < ((b - 48).toNat : Int)
    ·rw [decide_eq_true h2]; rfl
    ·rw [decide_eq_false h2, Bool.not_false, if_pos rfl]
     have : (((b - 48).toNat : Int) == 2) = false := beq_eq_false_iff_ne.2 (by omega)
     rw [this]
def ze8 (r : Str) : Int × Bool × Str := ((zgO r).2.1, (zgO r).2.2.1 && (zgO r).1 == 1 && decide ((zgO r).2.1 ≤ 1), (zgO r).2.2.2)
theorem zvC (hs : s.length < 1000000000) (h : At s k r) : ∃ k', At s k' (ze8 r).2.2 ∧ zbb ⟨scn s k⟩ = some ((ze8 r).1, (ze8 r).2.1, scn s k') := by
 unfold zbb ze8
 obtain ⟨k', h1, e⟩ := zr0 hs h
 refine ⟨k', h1, ?_⟩
 rw [e, Option.bind_some]
 dsimp only
 cases (zgO r).2.2.1 <;> cases (zgO r).1 == 1 <;> rfl
theorem zta (r : Str) : ((ze8 r).2.1 && (ze8 r).2.2 == []) = (decide (0 ≤ zcp r) && !(zcp r == 2)) ∧ ((ze8 r).2.1 = true → (ze8 r).2.2 = [] → (ze8 r).1 = zcp r) := by
 unfold ze8 zcp
 dsimp only
 cases hv : (zgO r).2.2.1 with
 | false => exact ⟨rfl, fun h => by cases h⟩
 | true =>
  obtain ⟨a, b, t, _, ha, hb, ev⟩ := zo5 hv
  rw [ev]
  dsimp only
  rw [Bool.true_and, Bool.true_and]
  cases hq : (((a - 48).toNat : Int) == 1 && decide (((b - 48).toNat : Int) ≤ 1)) with
  | false =>
   refine ⟨?_, fun h => by cases h⟩
   cases t == [] <;> rfl
  | true =>
   simp only [Bool.and_eq_true, decide_eq_true_eq] at hq
   refine ⟨?_, fun _ h => ?_⟩
   ·cases t == [] with
    | false => rfl
    | true =>
     rw [if_pos rfl, if_pos rfl]
     have : (((b - 48).toNat : Int) == 2) = false := beq_eq_false_iff_ne.2 (by omega)
     rw [this, decide_eq_true (by omega)]; rfl
   ·subst h; rfl
end
def ziW : api_Head := ⟨0, [], [], 0, [], 0, []⟩
def ztb (s : Str) : Nat := match ziy s 32 s.length with
 | none => 0
 | some k => k + 1
theorem zww (s : Str) (hs : s.length < 300000000) : ∃ r, zaw s 32 = some r ∧ zx r 1 = some (ztb s : Int) ∧ ztb s ≤ s.length := by
 rw [zkT s 32 (by omega)]
 unfold ztb
 cases hl : ziy s 32 s.length with
 | none => exact ⟨-1, rfl, by decide, Nat.zero_le _⟩
 | some k =>
  have := (zms hl).1
  exact ⟨k, rfl, zo (by omega), by show k + 1 ≤ s.length; omega⟩
def zm3 (s : Str) : Str := s.drop (ztb s)
def zol (s : Str) : Str := s.takeWhile zi1
def zqi (s : Str) : Str := s.dropWhile zi1
def zqC (s : Str) : Str := (zav 32 (zqi s)).takeWhile (fun b => !(b == 32))
def zkt (s : Str) : Str := (zav 32 (zqi s)).dropWhile (fun b => !(b == 32))
def zvD (s : Str) : Bool := !(zol s == []) && zhI 32 (zqi s) && zhI 32 (zkt s) && ((ze8 (zav 32 (zkt s))).2.1 && (ze8 (zav 32 (zkt s))).2.2 == []) && (zjF (zol s) (zqC s)).2 == 0
def zr1 (s : Str) : api_Head × Int := if zcp (zm3 s) == 2 then (ziW, 26) else if zvD s then (⟨1, zol s, zqC s, 0, [], (ze8 (zav 32 (zkt s))).1, []⟩, 0) else (ziW, 20)
theorem zm4 (s : Str) (hs : s.length < 300000000) : zdj s = some (zr1 s) := by
 unfold zdj zr1 zm3
 obtain ⟨r, e0, hi⟩ := zww s hs
 rw [e0, Option.bind_some]
 generalize ztb s = n at hi
 rw [hi.1, Option.bind_some, zab hi.2, Option.bind_some, zjY _ (by simp; omega), Option.bind_some]
 cases zcp (s.drop n) == 2 with
 | true => rfl
 | false =>
  rw [if_neg (by decide), if_neg (by decide), zj6, Option.bind_some]
  have hs' : s.length < 1000000000 := by omega
  obtain ⟨k1, h1, e1⟩ := zzL hs' (At.zero s)
  obtain ⟨k2, h2, e2⟩ := zgC hs' 32 h1
  obtain ⟨k3, h3, e3⟩ := zr4 (f := zcr) (p := fun b => !(b == 32)) (fun b => rfl) hs' h2
  obtain ⟨k4, h4, e4⟩ := zgC hs' 32 h3
  obtain ⟨k5, h5, e5⟩ := zvC hs' h4
  rw [e1, Option.bind_some]
  dsimp only
  rw [e2, Option.bind_some]
  dsimp only
  rw [e3, Option.bind_some]
  dsimp only
  rw [e4, Option.bind_some]
  dsimp only
  have hl := h2.le_len
  have hl2 := zlp (fun b => !(b == 32)) (zav 32 (s.dropWhile zi1))
  rw [e5, Option.bind_some, zqw _ _ (by omega), Option.bind_some]
  dsimp only
  rw [zwx h5, Option.bind_some]
  unfold zZ zvD zqC zol zkt zqi
  cases s.takeWhile zi1 == [] <;> cases zhI 32 (s.dropWhile zi1) <;> cases zhI 32 ((zav 32 (s.dropWhile zi1)).dropWhile (fun b => !(b == 32))) <;> cases (ze8 (zav 32 ((zav 32 (s.dropWhile zi1)).dropWhile (fun b => !(b == 32))))).2.1 <;> cases (ze8 (zav 32 ((zav 32 (s.dropWhile zi1)).dropWhile (fun b => !(b == 32))))).2.2 == [] <;> cases (zjF (s.takeWhile zi1) ((zav 32 (s.dropWhile zi1)).takeWhile (fun b => !(b == 32)))).2 == 0 <;> rfl
theorem ziu {p : UInt8 → Bool} {s : Str} {x : UInt8} (h : x ∈ s.takeWhile p) : p x = true := by
 induction s with
 | nil => cases h
 | cons c s ih =>
  rw [List.takeWhile_cons] at h
  split at h
  ·rename_i hc
   rcases List.mem_cons.1 h with rfl | h
   ·exact hc
   ·exact ih h
  ·cases h
theorem zzK {x : UInt8} (h : zi1 x = true) : x ≠ 32 := by rintro rfl; revert h; decide
theorem zom {s : Str} (h : zvD s = true) : ∃ v, s = zol s ++ 32 :: (zqC s ++ 32 :: v) ∧ (32 : UInt8) ∉ zol s ∧ (32 : UInt8) ∉ zqC s ∧ zol s ≠ [] ∧ (zol s).all zi1 = true ∧ 0 ≤ zcp v ∧ (zcp v == 2) = false ∧ (ze8 (zav 32 (zkt s))).1 = zcp v ∧ ((zjF (zol s) (zqC s)).2 == 0) = true := by
 unfold zvD at h
 simp only [Bool.and_eq_true, Bool.not_eq_true', beq_eq_false_iff_ne] at h
 obtain ⟨⟨⟨⟨h1, h2⟩, h3⟩, h4, h5⟩, h6⟩ := h
 have e1 : zol s ++ zqi s = s := List.takeWhile_append_dropWhile
 have e2 := zgP h2
 have e3 : zqC s ++ zkt s = zav 32 (zqi s) := List.takeWhile_append_dropWhile
 have e4 := zgP h3
 have hm := zta (zav 32 (zkt s))
 have hk : (decide (0 ≤ zcp (zav 32 (zkt s))) && !(zcp (zav 32 (zkt s)) == 2)) = true := by rw [← hm.1, h4, Bool.true_and]; exact h5
 simp only [Bool.and_eq_true, decide_eq_true_eq, Bool.not_eq_true'] at hk
 refine ⟨zav 32 (zkt s), ?_, ?_, ?_, h1, ?_, hk.1, hk.2, hm.2 h4 (by simpa using h5), h6⟩
 ·rw [← e4, e3, ← e2, e1]
 ·exact fun hx => zzK (ziu hx) rfl
 ·exact fun hx => by have := ziu hx; simp at this
 ·exact List.all_eq_true.2 fun x hx => ziu hx
def zr2 (s : Str) : Str := (zav 32 (ze8 s).2.2).takeWhile zO
def zo6 (s : Str) : Str := (zav 32 (ze8 s).2.2).dropWhile zO
def zt9 (s : Str) : Bool := (ze8 s).2.1 && zhI 32 (ze8 s).2.2 && zhI 32 (zo6 s) && ((zr2 s).length : Int) == 3 && (zR 10 (zr2 s) 599).2 == 0 && !decide ((zR 10 (zr2 s) 599).1 < 100) && (zav 32 (zo6 s)).all zgd
def zua (s : Str) : api_Head × Int := if zcp (zM 32 s).1 == 2 then (ziW, 26) else if zt9 s then (⟨2, [], [], (zR 10 (zr2 s) 599).1, zav 32 (zo6 s), (ze8 s).1, []⟩, 0) else (ziW, 20)
theorem znr (s : Str) (hs : s.length < 300000000) : zdW s = some (zua s) := by
 unfold zdW zua
 have hcl := znj 32 s
 rw [zl6 s 32 (by omega), Option.bind_some, zjY _ (by omega), Option.bind_some]
 cases zcp (zM 32 s).1 == 2 with
 | true => rfl
 | false =>
  rw [if_neg (by decide), if_neg (by decide), zj6, Option.bind_some]
  have hs' : s.length < 1000000000 := by omega
  obtain ⟨k1, h1, e1⟩ := zvC hs' (At.zero s)
  obtain ⟨k2, h2, e2⟩ := zgC hs' 32 h1
  obtain ⟨k3, h3, e3⟩ := zr4 zhW hs' h2
  obtain ⟨k4, h4, e4⟩ := zgC hs' 32 h3
  rw [e1, Option.bind_some]
  dsimp only
  rw [e2, Option.bind_some]
  dsimp only
  rw [e3, Option.bind_some]
  dsimp only
  have hl := h2.le_len
  have hl2 := zlp zO (zav 32 (ze8 s).2.2)
  have hl4 := h4.le_len
  rw [e4, Option.bind_some, zei _ _ (by omega) (by decide) (by decide), Option.bind_some]
  dsimp only
  rw [zub h4, Option.bind_some, zdu zhX _ (by omega), Option.bind_some]
  unfold zV zt9 zo6 zr2
  dsimp only
  rw [zub h4, Option.bind_some]
  cases (ze8 s).2.1 <;> cases zhI 32 (ze8 s).2.2 <;> cases zhI 32 ((zav 32 (ze8 s).2.2).dropWhile zO) <;> cases (((zav 32 (ze8 s).2.2).takeWhile zO).length : Int) == 3 <;> cases (zR 10 ((zav 32 (ze8 s).2.2).takeWhile zO) 599).2 == 0 <;> cases decide ((zR 10 ((zav 32 (ze8 s).2.2).takeWhile zO) 599).1 < 100) <;> cases (zav 32 ((zav 32 (ze8 s).2.2).dropWhile zO)).all zgd <;> rfl
def zhS (kind : Int) (s : Str) : api_Head × Int := if !(kind == 1) && !(kind == 2) then (ziW, 1) else if s.any ([13, 10] : Str).contains then (ziW, 24) else if kind == 1 then zr1 s else zua s
theorem zon (kind : Int) (s : Str) (hs : s.length < 300000000) : zbB kind s = some (zhS kind s) := by
 unfold zbB zcT zhS
 rw [zly s [13, 10] (by omega) (by decide) (by decide), Option.bind_some, zm4 s hs, Option.bind_some, znr s hs, Option.bind_some]
 cases kind == 1 <;> cases kind == 2 <;> cases s.any ([13, 10] : Str).contains <;> rfl

end Go.Dm
end
section
namespace Go.Dm
theorem zzm {v : Str} (h : 0 ≤ zcp v) (h2 : (zcp v == 2) = false) : (32 : UInt8) ∉ v := by
 rcases zjX h h2 with ⟨h, _⟩ | ⟨h, _⟩ <;> rw [h] <;> decide
theorem zvm {m t v : Str} (h1 : (32 : UInt8) ∉ m) (h2 : (32 : UInt8) ∉ t) (h3 : (32 : UInt8) ∉ v) : zi 32 (m ++ 32 :: (t ++ 32 :: v)) = [m, t, v] := by
 rw [zfa _ h1, zfa _ h2, zhb h3]
theorem zoX (c : UInt8) : ∀ (x y : Str), zi c (x ++ c :: y) = zi c x ++ zi c y
 | [], y => by rw [List.nil_append, zaH, if_pos rfl]; rfl
 | z :: x, y => by
  rw [List.cons_append, zaH, zaH, zoX c x y]
  split
  ·rfl
  ·cases h : zi c x with
   | nil => exact absurd h (zbo c x)
   | cons a l => rfl
theorem zmB {c : UInt8} : ∀ {s x : Str}, zi c s = [x] → x = s
 | [], x, h => by rw [zi] at h; cases h; rfl
 | y :: s, x, h => by
  rw [zaH] at h
  split at h
  ·injection h with h1 h2
   exact absurd h2 (zbo c s)
  ·cases h3 : zi c s with
   | nil => exact absurd h3 (zbo c s)
   | cons a l =>
    rw [h3] at h
    injection h with h1 h2
    subst h2
    have := zmB h3
    rw [← h1, this]; rfl
theorem zrH (s : Str) : (zr1 s = (ziW, 26) ∨ zr1 s = (ziW, 20)) ∨ zvD s = true ∧ zr1 s = (⟨1, zol s, zqC s, 0, [], (ze8 (zav 32 (zkt s))).1, []⟩, 0) := by
 unfold zr1
 split
 ·exact .inl (.inl rfl)
 ·cases h : zvD s with
  | true => exact .inr ⟨rfl, rfl⟩
  | false => exact .inl (.inr rfl)
end Go.Dm
end
section
namespace Go.Dm
theorem zwR (c : UInt8) : (!zO c || ((((c - 48).toNat : Int) == 1) == (c == 49))) = true := zU (fun c => !zO c || ((((c - 48).toNat : Int) == 1) == (c == 49))) (by decide +kernel) c
theorem dig_le (c : UInt8) : (!zO c || (decide (((c - 48).toNat : Int) ≤ 1) == (c == 48 || c == 49))) = true := zU (fun c => !zO c || (decide (((c - 48).toNat : Int) ≤ 1) == (c == 48 || c == 49))) (by decide +kernel) c
theorem zu7 (a b : UInt8) (t : Str) (ha : zO a = true) (hb : zO b = true) : zgO (zbj ++ a :: 46 :: b :: t) = (((a - 48).toNat : Int), ((b - 48).toNat : Int), true, t) := by
 unfold zgO
 have hp : zbj.isPrefixOf (zbj ++ a :: 46 :: b :: t) = true := List.isPrefixOf_iff_prefix.2 ⟨_, rfl⟩
 have hd : (zbj ++ a :: 46 :: b :: t).drop 5 = a :: 46 :: b :: t := rfl
 rw [if_pos hp, hd]
 have e1 : zj3 (a :: 46 :: b :: t) = (((a - 48).toNat : Int), true, 46 :: b :: t) := by unfold zj3; dsimp only; rw [if_pos ha]
 have e2 : zj3 (b :: t) = (((b - 48).toNat : Int), true, t) := by unfold zj3; dsimp only; rw [if_pos hb]
 rw [e1]
 dsimp only
 rw [zaE, zbT, e2]
 rfl
theorem zzj (a b : UInt8) (ha : zO a = true) (hb : zO b = true) : zcp (zbj ++ [a, 46, b]) = if ([a, 46, b] : Str) == [49, 46, 48] then 0 else if ([a, 46, b] : Str) == [49, 46, 49] then 1 else 2 := by
  unfold zcp
  rw [zu7 a b [] ha hb]
  have h1 := zwR a
  have h2 := dig_le b
  rw [ha] at h1
  rw [hb] at h2
  have h1 : (((a - 48).toNat : Int) == 1) = (a == 49) := by simpa using h1
  have h2 : decide (((b - 48).toNat : Int) ≤ 1) = (b == 48 || b == 49) := by simpa using h2
  dsimp only
  rw [h1, h2]
  have e1 : (([a, 46, b] : Str) == [49, 46, 48]) = (a == 49 && b == 48) := by
    simp only [List.cons_beq_cons, beq_self_eq_true, Bool.true_and, Bool.and_true]
  have e2 : (([a, 46, b] : Str) == [49, 46, 49]) = (a == 49 && b == 49) := by
    simp only [List.cons_beq_cons, beq_self_eq_true, Bool.true_and, Bool.and_true]
  rw [e1, e2]
  cases a == 49 with
  | false => rfl
  | true =>
    cases h3 : b == 48 with
    | true => have : b = 48 := by simpa using h3
              subst this; rfl
    | false =>
      cases h4 : b == 49 with
      | true => have : b = 49 := by simpa using h4
                subst this; rfl
      | false => rfl
theorem zmz {u : Str} (h : ∀ a b, u = zbj ++ [a, 46, b] → zO a = true → zO b = true → False) : zcp u = -1 := by
 unfold zcp
 cases hc : (zgO u).2.2.1 && (zgO u).2.2.2 == [] with
 | false => rfl
 | true =>
  exfalso
  simp only [Bool.and_eq_true] at hc
  obtain ⟨a, b, t, e, ha, hb, ev⟩ := zo5 hc.1
  rw [ev] at hc
  have ht : t = [] := by simpa using hc.2
  subst ht
  exact h a b e ha hb
theorem zkY (u : Str) (hu : u.length < 1000000000) : zcH u = some (zcp u) := by
 unfold zcH zbg
 by_cases h8 : u.length = 8
 ·have e8 : ((u.length : Int) == 8) = true := by rw [h8]; rfl
  have t5 := zf5 (l := u) (h := 5) (by omega)
  have f5 := zab (l := u) (i := 5) (by omega)
  have a5 : sAt u 5 = u[5]? := zW u 5
  have a6 : sAt u 6 = u[6]? := zW u 6
  have a7 : sAt u 7 = u[7]? := zW u 7
  have t5 : sTo u 5 = some (u.take 5) := t5
  have f5 : za7 u 5 = some (u.drop 5) := f5
  rw [e8, Bool.not_true, if_neg (by decide), t5, Option.bind_some, a5, a6, a7, f5, Option.bind_some, Option.bind_some]
  match u, h8 with
  | [c0, c1, c2, c3, c4, a, d, b], _ =>
   show (if (!(([c0, c1, c2, c3, c4] : Str) == zbj)) = true then _ else (some a).bind fun b5 => (zeb b5).bind fun r6 => if (!r6) = true then _ else (some d).bind fun b8 => if (!(b8 == 46)) = true then _ else (some b).bind fun b10 => (zeb b10).bind fun r11 => if (!r11) = true then some (-1) else (if (([a, d, b] : Str) == [49, 46, 48]) = true then some 0 else if (([a, d, b] : Str) == [49, 46, 49]) = true then some 1 else some 2)) = _
   simp only [Option.bind_some, zq8]
   cases hp : ([c0, c1, c2, c3, c4] : Str) == zbj with
   | false =>
    rw [zmz (fun x y e _ _ => by
     have := congrArg (List.take 5) e
     rw [show ([c0, c1, c2, c3, c4, a, d, b] : Str).take 5 = [c0, c1, c2, c3, c4] from rfl, show (zbj ++ [x, 46, y]).take 5 = zbj from rfl] at this
     rw [this, beq_self_eq_true] at hp
     cases hp)]
    rfl
   | true =>
    have hp' : ([c0, c1, c2, c3, c4] : Str) = zbj := by simpa using hp
    have hu : ([c0, c1, c2, c3, c4, a, d, b] : Str) = zbj ++ [a, d, b] := by rw [← hp']; rfl
    rw [hu]
    have hinj : ∀ x y, zbj ++ [a, d, b] = zbj ++ [x, 46, y] → a = x ∧ d = 46 ∧ b = y := fun x y e => by
     have := List.append_cancel_left e
     simpa using this
    cases ha : zO a with
    | false => rw [zmz (fun x y e h1 _ => by obtain ⟨rfl, _, _⟩ := hinj x y e; rw [ha] at h1; cases h1)]; rfl
    | true =>
     cases hd : d == 46 with
     | false => rw [zmz (fun x y e _ _ => by obtain ⟨_, h, _⟩ := hinj x y e; rw [h] at hd; exact absurd hd (by decide))]; rfl
     | true =>
      have hd' : d = 46 := by simpa using hd
      subst hd'
      cases hb : zO b with
      | false => rw [zmz (fun x y e _ h2 => by obtain ⟨_, _, rfl⟩ := hinj x y e; rw [hb] at h2; cases h2)]; rfl
      | true =>
       rw [zzj a b ha hb]
       cases ([a, 46, b] : Str) == [49, 46, 48] <;> cases ([a, 46, b] : Str) == [49, 46, 49] <;> rfl
 ·have e8 : ((u.length : Int) == 8) = false := beq_eq_false_iff_ne.2 (by omega)
  rw [e8, zmz (fun a b e _ _ => h8 (by rw [e]; rfl))]
  rfl
theorem zu8 {s : Str} {c : UInt8} : ∀ {k : Nat}, k ≤ s.length → ziy s c k = none → c ∉ s.take k
 | 0, _, _ => by simp
 | k + 1, hk, h => by
  rw [ziy] at h
  split at h
  ·cases h
  ·rename_i h2
   have ih := zu8 (by omega) h
   rw [List.take_add_one]
   intro hm
   rcases List.mem_append.1 hm with hm | hm
   ·exact ih hm
   ·have g : s[k]? = some s[k] := List.getElem?_eq_getElem (by omega)
    rw [g] at hm h2
    have : c = s[k] := by simpa using hm
    exact h2 (by rw [this])
theorem zp8 {s : Str} {c : UInt8} : ∀ {k i : Nat}, k ≤ s.length → ziy s c k = some i → c ∉ (s.take k).drop (i + 1)
 | 0, _, _, h => by cases h
 | k + 1, i, hk, h => by
  rw [ziy] at h
  split at h
  ·cases h
   rw [List.drop_of_length_le (by rw [List.length_take]; omega)]
   simp
  ·rename_i h2
   have ih := zp8 (by omega) h
   have hlt := (zms h).1
   have g : s[k]? = some s[k] := List.getElem?_eq_getElem (by omega)
   rw [List.take_add_one, g, List.drop_append_of_le_length (by simp; omega)]
   intro hm
   rcases List.mem_append.1 hm with hm | hm
   ·exact ih hm
   ·rw [g] at h2
    have : c = s[k] := by simpa using hm
    exact h2 (by rw [this])
theorem zry (s : Str) : ∃ l, zi 32 s = l ++ [zm3 s] := by
 unfold zm3 ztb
 cases h : ziy s 32 s.length with
 | none =>
  have := zu8 (Nat.le_refl _) h
  rw [List.take_length] at this
  exact ⟨[], by rw [zhb this]; rfl⟩
 | some k =>
  have h1 := zms h
  have h2 := zp8 (Nat.le_refl _) h
  rw [List.take_length] at h2
  have g : s[k]? = some s[k] := List.getElem?_eq_getElem h1.1
  rw [g] at h1
  have hc : s[k] = 32 := Option.some.inj h1.2
  have e : s = s.take k ++ 32 :: s.drop (k + 1) := by
   have := (List.take_append_drop k s).symm
   rw [List.drop_eq_getElem_cons h1.1, hc] at this
   exact this
  refine ⟨zi 32 (s.take k), ?_⟩
  conv => lhs; rw [e]
  rw [zoX, zhb h2]
theorem zob : ∀ {s m : Str} {l : List Str}, zi 32 s = m :: l → (l = [] ∧ s = m) ∨ ∃ r, s = m ++ 32 :: r ∧ zi 32 r = l
 | [], m, l, h => by rw [zi] at h; cases h; exact .inl ⟨rfl, rfl⟩
 | y :: s, m, l, h => by
  rw [zaH] at h
  split at h
  ·rename_i e
   injection h with h1 h2
   subst h1 e
   exact .inr ⟨s, rfl, h2⟩
  ·cases h3 : zi 32 s with
   | nil => exact absurd h3 (zbo 32 s)
   | cons a l' =>
    rw [h3] at h
    injection h with h1 h2
    subst h2
    rcases zob h3 with ⟨h4, h5⟩ | ⟨r, h4, h5⟩
    ·exact .inl ⟨h4, by rw [← h1, h5]; rfl⟩
    ·exact .inr ⟨r, by rw [← h1, h4]; rfl, h5⟩
theorem ztN {p : UInt8 → Bool} {c : UInt8} (hc : p c = false) : ∀ {m : Str} (r : Str), m.all p = true → (m ++ c :: r).takeWhile p = m ∧ (m ++ c :: r).dropWhile p = c :: r
 | [], r, _ => by simp [hc]
 | x :: m, r, h => by
  simp only [List.all_cons, Bool.and_eq_true] at h
  have ih := ztN hc r h.2
  constructor
  ·rw [List.cons_append, List.takeWhile_cons, if_pos h.1, ih.1]
  ·rw [List.cons_append, List.dropWhile_cons, if_pos h.1, ih.2]
theorem zzk {t : Str} (h : (32 : UInt8) ∉ t) : t.all (fun b => !(b == 32)) = true :=
 List.all_eq_true.2 fun x hx => by
  have : x ≠ 32 := fun e => h (by rw [← e]; exact hx)
  simp [this]
theorem zzl {m t v : Str} (h1 : m.all zi1 = true) (h2 : (32 : UInt8) ∉ t) : zol (m ++ 32 :: (t ++ 32 :: v)) = m ∧ zqC (m ++ 32 :: (t ++ 32 :: v)) = t ∧ zqi (m ++ 32 :: (t ++ 32 :: v)) = 32 :: (t ++ 32 :: v) ∧ zkt (m ++ 32 :: (t ++ 32 :: v)) = 32 :: v := by
 have a := ztN (p := zi1) (c := 32) (by decide) (t ++ 32 :: v) h1
 have b := ztN (p := fun b => !(b == 32)) (c := 32) (by decide) v (zzk h2)
 unfold zol zqC zkt zqi
 rw [a.1, a.2, zaE, b.1, b.2]
 exact ⟨rfl, rfl, rfl, rfl⟩
def reqS (s : Str) : api_Head × Int :=
 if zcp (zm3 s) == 2 then (ziW, 26) else match zi 32 s with
 | [m, t, v] => if !decide (zcp v < 0) && zhj m && (zjF m t).2 == 0 then (⟨1, m, t, 0, [], zcp v, []⟩, 0) else (ziW, 20)
 | _ => (ziW, 20)
theorem zs0 (m : Str) : zhj m = true ↔ m ≠ [] ∧ m.all zi1 = true := by
 unfold zhj
 cases m <;> simp
theorem zp9 {s m t v : Str} (h : zi 32 s = [m, t, v]) : s = m ++ 32 :: (t ++ 32 :: v) ∧ (32 : UInt8) ∉ m ∧ (32 : UInt8) ∉ t ∧ (32 : UInt8) ∉ v ∧ zm3 s = v := by
 have hm := fun x (hx : x ∈ zi 32 s) => (zdb hx).1
 rw [h] at hm
 refine ⟨?_, hm m (by simp), hm t (by simp), hm v (by simp), ?_⟩
 ·rcases zob h with ⟨h1, _⟩ | ⟨r, h1, h2⟩
  ·cases h1
  ·rcases zob h2 with ⟨h3, _⟩ | ⟨r2, h3, h4⟩
   ·cases h3
   ·rw [h1, h3, zmB h4]
 ·obtain ⟨l, hl⟩ := zry s
  rw [h] at hl
  have := congrArg List.getLast? hl
  simp at this
  exact this.symm
theorem zwe (s : Str) : zr1 s = reqS s := by
 unfold zr1 reqS
 cases h26 : zcp (zm3 s) == 2 with
 | true => rfl
 | false =>
  rw [if_neg Bool.false_ne_true, if_neg Bool.false_ne_true]
  cases hF : zvD s with
  | true =>
   obtain ⟨v, e, n1, n2, h3, h4, k1, k2, k3, k4⟩ := zom hF
   have hv := zzm k1 k2
   have hsp : zi 32 s = [zol s, zqC s, v] := by
    have := zvm n1 n2 hv
    rw [← e] at this
    exact this
   rw [if_pos rfl, hsp, k3]
   dsimp only
   rw [decide_eq_false (show ¬ zcp v < 0 by omega), (zs0 _).2 ⟨h3, h4⟩, k4]
   rfl
  | false =>
   rw [if_neg (by decide)]
   split
   ·rename_i m t v hsp
    split
    ·rename_i hc
     exfalso
     simp only [Bool.and_eq_true, Bool.not_eq_true', decide_eq_false_iff_not] at hc
     obtain ⟨⟨c1, c2⟩, c3⟩ := hc
     obtain ⟨e, _, n2, _, hlast⟩ := zp9 hsp
     obtain ⟨t1, t2⟩ := (zs0 _).1 c2
     obtain ⟨r1, r2, r3, r4⟩ := zzl (v := v) t2 n2
     rw [← e] at r1 r2 r3 r4
     have hm := (zta v).1
     rw [hlast] at h26
     rw [decide_eq_true (show 0 ≤ zcp v by omega), h26] at hm
     unfold zvD at hF
     rw [r1, r2, r3, r4, zbT, zaE, zbT, hm, c3] at hF
     have : (m == []) = false := by simpa using t1
     rw [this] at hF
     revert hF
     decide
    ·rfl
   ·rfl
theorem zqa (w : List Str) (v : Int) (m t u : Str) (hw : w = [m, t, u]) (hb : t.length < 300000000) (q : Bool) :
  zaB w v q = some (if q then (ziW, 20) else if (zjF m t).2 == 0 then (⟨1, m, t, 0, [], v, []⟩, 0) else (ziW, 20)) := by
 subst hw
 unfold zaB
 have l0 : lAt [m, t, u] 0 = some m := rfl
 have l1 : lAt [m, t, u] 1 = some t := rfl
 rw [l0, l1, Option.bind_some, Option.bind_some, zrq m t hb, Option.bind_some, Option.bind_some, Option.bind_some]
 cases q <;> cases (zjF m t).2 == 0 <;> rfl
theorem ztO (s : Str) (hs : s.length < 300000000) : ((zdC ((zi 32 s).length : Int) 1).bind fun i28 => (lAt (zi 32 s) i28).bind fun x29 => (zcH x29).bind fun r32 =>
  if (r32 == 2) then (some (((⟨0, [], [], 0, [], 0, []⟩ : api_Head), 26))) else (if (!(((zi 32 s).length : Int) == 3)) then (zaB (zi 32 s) r32 true) else (if (decide (r32 < 0)) then (zaB (zi 32 s) r32 true) else ((lAt (zi 32 s) 0).bind fun x40 => (zec x40).bind fun r43 => zaB (zi 32 s) r32 (!r43))))) = some (reqS s) := by
 have hlen := zfb 32 s
 have hpos := List.length_pos_iff.2 (zbo 32 s)
 obtain ⟨l, hl⟩ := zry s
 have hlw : (zm3 s).length ≤ s.length := by unfold zm3; simp
 have e1 : zdC ((zi 32 s).length : Int) 1 = some (((zi 32 s).length - 1 : Nat) : Int) := by rw [zc3 (by omega) (by omega)]; congr 1; omega
 have e2 : (zi 32 s)[(zi 32 s).length - 1]? = some (zm3 s) := by rw [hl]; simp
 rw [e1, Option.bind_some, zas, e2, Option.bind_some, zkY _ (by omega), Option.bind_some]
 unfold reqS
 cases zcp (zm3 s) == 2 with
 | true => rfl
 | false =>
  rw [if_neg Bool.false_ne_true, if_neg Bool.false_ne_true]
  by_cases h3 : (zi 32 s).length = 3
  ·have e3 : (((zi 32 s).length : Int) == 3) = true := by rw [h3]; rfl
   obtain ⟨m, t, v, hsp⟩ : ∃ m t v, zi 32 s = [m, t, v] := by
    match zi 32 s, h3 with
    | [m, t, v], _ => exact ⟨m, t, v, rfl⟩
   have hmem := fun x (hx : x ∈ zi 32 s) => (zdb hx).2.1
   obtain ⟨_, _, _, _, hlast⟩ := zp9 hsp
   rw [e3, Bool.not_true, if_neg (by decide), hlast, hsp]
   rw [hsp] at hmem
   have hm := hmem m (by simp)
   have ht := hmem t (by simp)
   have l0 : lAt [m, t, v] 0 = some m := rfl
   rw [l0, Option.bind_some, zjC m (by omega), Option.bind_some, zqa [m, t, v] (zcp v) m t v rfl (by omega), zqa [m, t, v] (zcp v) m t v rfl (by omega)]
   dsimp only
   cases decide (zcp v < 0) <;> cases zhj m <;> cases (zjF m t).2 == 0 <;> rfl
  ·have e3 : (((zi 32 s).length : Int) == 3) = false := beq_eq_false_iff_ne.2 (by omega)
   rw [e3, Bool.not_false, if_pos rfl]
   unfold zaB
   rw [if_pos rfl]
   split
   ·rename_i m t v hsp
    rw [hsp] at h3
    exact absurd rfl h3
   ·rfl
theorem zs1 (s : Str) : zi 32 s = if (zM 32 s).2.2 then (zM 32 s).1 :: zi 32 (zM 32 s).2.1 else [s] := by
 have hno : (32 : UInt8) ∉ (zM 32 s).1 := fun hm => by
  have := zu0 (cs := [32]) (s := s) 32 hm
  simp at this
 rcases zcD (zM 32 s).2.2 with h | h
 ·rw [if_pos h]
  have := zsc 32 s h
  conv => lhs; rw [← this]
  exact zfa _ hno
 ·have hn := zlO 32 s h
  rw [if_neg (by rw [h]; decide)]
  rw [hn] at hno
  exact zhb hno
theorem zu9 (b : UInt8) (t : Str) (hb : b = 48 ∨ b = 49) : ze8 (zbj ++ 49 :: 46 :: b :: t) = (((b - 48).toNat : Int), true, t) := by
 unfold ze8
 rw [zu7 49 b t (by decide) (by rcases hb with h | h <;> subst h <;> decide)]
 rcases hb with h | h <;> subst h <;> rfl
theorem zlC {s : Str} {m : Int} (h : (zR 10 s m).2 = 0) : s.all zO = true ∧ s ≠ [] := by
 unfold zR at h
 split at h
 ·cases h
 ·rename_i h2
  simp only [Bool.or_eq_true, Bool.not_eq_true', not_or] at h2
  have h3 : s.all (zj4 10) = true := by simpa using h2.2
  exact ⟨List.all_eq_true.2 fun x hx => (List.all_eq_true.1 h3 x hx : zj4 10 x = true), by simpa using h2.1⟩
def zrz (s : Str) : Bool := match zi 32 s with
 | w0 :: w1 :: _ :: _ => !decide (zcp w0 < 0) && (w1.length : Int) == 3 && (zR 10 w1 599).2 == 0 && !decide ((zR 10 w1 599).1 < 100) && (s.drop 13).all zgd
 | _ => false
theorem zoR {b : UInt8} {w r : Str} (hb : b = 48 ∨ b = 49) (hw : w.all zO = true) : (ze8 (zbj ++ 49 :: 46 :: b :: 32 :: (w ++ 32 :: r))) = (((b - 48).toNat : Int), true, 32 :: (w ++ 32 :: r)) ∧ zr2 (zbj ++ 49 :: 46 :: b :: 32 :: (w ++ 32 :: r)) = w ∧ zo6 (zbj ++ 49 :: 46 :: b :: 32 :: (w ++ 32 :: r)) = 32 :: r := by
 have h1 := zu9 b (32 :: (w ++ 32 :: r)) hb
 have h2 := ztN (p := zO) (c := 32) (by decide) r hw
 refine ⟨h1, ?_, ?_⟩
 ·unfold zr2; rw [h1]; dsimp only; rw [zaE, h2.1]
 ·unfold zo6; rw [h1]; dsimp only; rw [zaE, h2.2]
theorem zs2 {w : Str} (h : w.all zO = true) : (32 : UInt8) ∉ w := fun hm => by
 have := List.all_eq_true.1 h 32 hm
 revert this; decide
theorem zlD {s : Str} (h : zt9 s = true) : ∃ b w r, (b = 48 ∨ b = 49) ∧ s = zbj ++ 49 :: 46 :: b :: 32 :: (w ++ 32 :: r) ∧ w.all zO = true ∧ w.length = 3 := by
 unfold zt9 at h
 simp only [Bool.and_eq_true] at h
 obtain ⟨⟨⟨⟨⟨⟨h1, h2⟩, h3⟩, h4⟩, h5⟩, h6⟩, h7⟩ := h
 unfold ze8 at h1
 simp only [Bool.and_eq_true, decide_eq_true_eq, beq_iff_eq] at h1
 obtain ⟨⟨a1, a2⟩, a3⟩ := h1
 obtain ⟨a, b, t, e, ha, hb, ev⟩ := zo5 a1
 rw [ev] at a2 a3
 have hm : (ze8 s).2.2 = t := by unfold ze8; rw [ev]
 rw [hm] at h2
 have ha1 : a = 49 := by
  have := zwR a
  rw [ha] at this
  have : (((a - 48).toNat : Int) == 1) = (a == 49) := by simpa using this
  rw [show (((a - 48).toNat : Int) == 1) = true from by simpa using a2] at this
  simpa using this.symm
 have hb1 := zm2 hb (by dsimp only at a3; omega)
 have e2 := zgP h2
 have e4 := zgP h3
 have e5 : zr2 s ++ zo6 s = zav 32 t := by
  unfold zr2 zo6; rw [hm]; exact List.takeWhile_append_dropWhile
 have hl3 : ((zr2 s).length : Int) = 3 := by simpa using h4
 refine ⟨b, zr2 s, zav 32 (zo6 s), hb1, ?_, (zlC (by simpa using h5)).1, by omega⟩
 rw [← e4, e5, ← e2, ← ha1, e]
theorem zAn (s : Str) (h26 : (zcp (zM 32 s).1 == 2) = false) : zt9 s = zrz s := by
  rw [Bool.eq_iff_iff]
  constructor
  · intro h
    have h' := h
    obtain ⟨b, w, r, hb, e, hw, hl⟩ := zlD h
    obtain ⟨m1, m2, m3⟩ := zoR (r := r) hb hw
    rw [← e] at m1 m2 m3
    unfold zt9 at h'
    rw [m1, m2, m3] at h'
    simp only [Bool.and_eq_true, zaE] at h'
    have h32 : (32 : UInt8) ∉ (zbj ++ [49, 46, b]) := by rcases hb with h | h <;> subst h <;> decide
    have hsp : zi 32 s = (zbj ++ [49, 46, b]) :: w :: zi 32 r := by
      have e' : s = (zbj ++ [49, 46, b]) ++ 32 :: (w ++ 32 :: r) := by rw [e]; simp
      rw [e', zfa _ h32, zfa _ (zs2 hw)]
    have hd : s.drop 13 = r := by
      rw [e]
      show (w ++ 32 :: r).drop 4 = r
      match w, hl with
      | [x, y, z], _ => rfl
    have hv : zcp (zbj ++ [49, 46, b]) = ((b - 48).toNat : Int) := by rcases hb with h | h <;> subst h <;> decide
    unfold zrz
    rw [hsp]
    cases hr : zi 32 r with
    | nil => exact absurd hr (zbo 32 r)
    | cons x l =>
      dsimp only
      rw [hd, hv, decide_eq_false (by omega)]
      simp only [Bool.and_eq_true]
      exact ⟨⟨⟨⟨rfl, by rw [hl]; rfl⟩, h'.1.1.2⟩, h'.1.2⟩, h'.2⟩
  · intro h
    unfold zrz at h
    split at h
    · rename_i w0 w1 w2 l hsp
      simp only [Bool.and_eq_true, Bool.not_eq_true', decide_eq_false_iff_not] at h
      obtain ⟨⟨⟨⟨h1, h2⟩, h3⟩, h4⟩, h5⟩ := h
      have hc := zs1 s
      rw [hsp] at hc
      have h0 : (zM 32 s).1 = w0 := by
        split at hc
        · injection hc with hc _; exact hc.symm
        · cases hc
      rw [h0] at h26
      rcases zob hsp with ⟨hx, _⟩ | ⟨r1, e1, hsp1⟩
      · cases hx
      rcases zob hsp1 with ⟨hx, _⟩ | ⟨r, e2, hsp2⟩
      · cases hx
      have hb : ∃ b, (b = 48 ∨ b = 49) ∧ w0 = zbj ++ [49, 46, b] := by
        rcases zjX (u := w0) (by omega) h26 with ⟨h, _⟩ | ⟨h, _⟩
        · exact ⟨48, .inl rfl, h⟩
        · exact ⟨49, .inr rfl, h⟩
      obtain ⟨b, hb, hw0⟩ := hb
      have hw := (zlC (by simpa using h3)).1
      have e : s = zbj ++ 49 :: 46 :: b :: 32 :: (w1 ++ 32 :: r) := by rw [e1, hw0, e2]; simp
      obtain ⟨m1, m2, m3⟩ := zoR (r := r) hb hw
      rw [← e] at m1 m2 m3
      have hl : w1.length = 3 := by have : (w1.length : Int) = 3 := by simpa using h2
                                    omega
      have hd : s.drop 13 = r := by
        rw [e]
        show (w1 ++ 32 :: r).drop 4 = r
        match w1, hl with
        | [x, y, z], _ => rfl
      rw [hd] at h5
      unfold zt9
      rw [m1, m2, m3]
      simp only [Bool.and_eq_true, zaE, zbT]
      exact ⟨⟨⟨⟨⟨⟨by first | trivial | rfl, by first | trivial | rfl⟩, by first | trivial | rfl⟩, h2⟩, h3⟩, by rw [decide_eq_false (by omega)]; rfl⟩, h5⟩
    · cases h
theorem zva (v : Int) (rd : Int × Int) (u : Str) (hu : u.length < 1000000000) : zca v rd u fuel 0 = some (if u.all zgd && rd.2 == 0 && !decide (rd.1 < 100) then (⟨2, [], [], rd.1, u, v, []⟩, 0) else (ziW, 20)) := by
 have key : ∀ (n i : Nat), i ≤ u.length → u.length - i < n → zca v rd u n (i : Int) = some (if (u.drop i).all zgd && rd.2 == 0 && !decide (rd.1 < 100) then (⟨2, [], [], rd.1, u, v, []⟩, 0) else (ziW, 20)) := by
  intro n
  induction n with
  | zero => intro i _ h; omega
  | succ n ih =>
   intro i hi h
   rw [zca]
   by_cases hlt : i < u.length
   ·have g : u[i]? = some u[i] := List.getElem?_eq_getElem hlt
    rw [decide_eq_true (show (i : Int) < (u.length : Int) by omega), if_pos rfl, zW, g, Option.bind_some, zhi, Option.bind_some, zo (by omega), Option.bind_some, ih (i + 1) (by omega) (by omega), List.drop_eq_getElem_cons hlt, List.all_cons]
    cases zgd u[i] <;> rfl
   ·have : i = u.length := by omega
    subst this
    unfold zfA
    rw [decide_eq_false (by omega), if_neg (by decide), List.drop_length]
    cases rd.2 == 0 <;> cases decide (rd.1 < 100) <;> rfl
 have := key fuel 0 (Nat.zero_le _) (by unfold fuel; omega)
 rw [List.drop_zero] at this
 exact this
theorem ztP (s : Str) (hs : s.length < 300000000) : ((lAt (zi 32 s) 0).bind fun x69 => (zcH x69).bind fun r72 =>
    if (r72 == 2) then (some (((⟨0, [], [], 0, [], 0, []⟩ : api_Head), 26))) else (if (decide (((zi 32 s).length : Int) < 3)) then (zaC s (zi 32 s) r72 true) else (if (decide (r72 < 0)) then (zaC s (zi 32 s) r72 true) else ((lAt (zi 32 s) 1).bind fun x80 => zaC s (zi 32 s) r72 (!((x80.length : Int) == 3)))))) = some (zua s) := by
  have hc := zs1 s
  have hcl := znj 32 s
  have h0 : ∃ l, zi 32 s = (zM 32 s).1 :: l := by
    rcases zcD (zM 32 s).2.2 with h | h
    · rw [if_pos h] at hc; exact ⟨_, hc⟩
    · rw [if_neg (by rw [h]; decide)] at hc
      have := zlO 32 s h
      exact ⟨[], by rw [hc, this]⟩
  obtain ⟨l, hl⟩ := h0
  have l0 : lAt (zi 32 s) 0 = some (zM 32 s).1 := by rw [hl]; rfl
  rw [l0, Option.bind_some, zkY _ (by omega), Option.bind_some]
  unfold zua
  cases h26 : zcp (zM 32 s).1 == 2 with
  | true => rfl
  | false =>
    rw [if_neg Bool.false_ne_true, if_neg Bool.false_ne_true]
    have hok := zAn s h26
    have j5t : ∀ w, zaC s w (zcp (zM 32 s).1) true = some (ziW, 20) := fun w => by unfold zaC; rw [if_pos rfl]; rfl
    by_cases h3 : (zi 32 s).length < 3
    · rw [decide_eq_true (show ((zi 32 s).length : Int) < 3 by omega), if_pos rfl, j5t, hok]
      have : zrz s = false := by
        unfold zrz
        split
        · rename_i w0 w1 w2 l' hsp
          rw [hsp] at h3; simp only [List.length_cons] at h3; omega
        · rfl
      rw [this]; rfl
    · rw [decide_eq_false (show ¬ ((zi 32 s).length : Int) < 3 by omega), if_neg (by decide), j5t]
      obtain ⟨w1, w2, l', hsp⟩ : ∃ w1 w2 l', zi 32 s = (zM 32 s).1 :: w1 :: w2 :: l' := by
        rw [hl] at h3
        match l, h3 with
        | w1 :: w2 :: l', _ => exact ⟨w1, w2, l', hl⟩
        | [_], h => simp at h
        | [], h => simp at h
      have l1 : lAt (zi 32 s) 1 = some w1 := by rw [hsp]; rfl
      rw [l1, Option.bind_some, hok]
      have hst : zrz s = (!decide (zcp (zM 32 s).1 < 0) && (w1.length : Int) == 3 && (zR 10 w1 599).2 == 0 && !decide ((zR 10 w1 599).1 < 100) && (s.drop 13).all zgd) := by
        unfold zrz; rw [hsp]
      cases hneg : decide (zcp (zM 32 s).1 < 0) with
      | true => rw [if_pos rfl, hst, hneg]; rfl
      | false =>
        rw [if_neg (by decide)]
        cases hl3 : (w1.length : Int) == 3 with
        | false => rw [Bool.not_false, j5t, hst, hneg, hl3]; rfl
        | true =>
          have hw3 : w1.length = 3 := by have : (w1.length : Int) = 3 := by simpa using hl3
                                         omega
          have h13 : 13 ≤ s.length := by
            have hneg' : ¬ zcp (zM 32 s).1 < 0 := by simpa using hneg
            rcases zob hsp with ⟨hx, _⟩ | ⟨r1, e1, hsp1⟩
            · cases hx
            rcases zob hsp1 with ⟨hx, _⟩ | ⟨r, e2, _⟩
            · cases hx
            have h8 : (zM 32 s).1.length = 8 := by
              rcases zjX (u := (zM 32 s).1) (by omega) h26 with ⟨h, _⟩ | ⟨h, _⟩ <;> rw [h] <;> rfl
            rw [e2] at e1
            have := congrArg List.length e1
            simp only [List.length_append, List.length_cons] at this
            omega
          unfold zaC
          have hrd := zkw (b := 10) (.inl rfl) w1 599 (by omega) (by decide) (by decide)
          rw [show ((10 : Nat) : Int) = 10 from rfl] at hrd
          have hfr : za7 s 13 = some (s.drop 13) := zab (i := 13) h13
          rw [Bool.not_true, if_neg (by decide), l1, Option.bind_some, hrd, Option.bind_some, hfr, Option.bind_some, zva _ _ _ (by simp; omega), hst, hneg, hl3]
          cases hq : (s.drop 13).all zgd && (zR 10 w1 599).2 == 0 && !decide ((zR 10 w1 599).1 < 100) with
          | false =>
            have : (!false && true && (zR 10 w1 599).2 == 0 && !decide ((zR 10 w1 599).1 < 100) && (s.drop 13).all zgd) = false := by
              revert hq
              cases (s.drop 13).all zgd <;> cases (zR 10 w1 599).2 == 0 <;> cases decide ((zR 10 w1 599).1 < 100) <;> decide
            rw [this]; rfl
          | true =>
            have ht : (!false && true && (zR 10 w1 599).2 == 0 && !decide ((zR 10 w1 599).1 < 100) && (s.drop 13).all zgd) = true := by
              revert hq
              cases (s.drop 13).all zgd <;> cases (zR 10 w1 599).2 == 0 <;> cases decide ((zR 10 w1 599).1 < 100) <;> decide
            have hF : zt9 s = true := by rw [hok, hst, hneg, hl3]; exact ht
            obtain ⟨b, w, r, hb, e, hw, hlw⟩ := zlD hF
            obtain ⟨m1, m2, m3⟩ := zoR (r := r) hb hw
            rw [← e] at m1 m2 m3
            have h32 : (32 : UInt8) ∉ (zbj ++ [49, 46, b]) := by rcases hb with h | h <;> subst h <;> decide
            have hsp' : zi 32 s = (zbj ++ [49, 46, b]) :: w :: zi 32 r := by
              have e' : s = (zbj ++ [49, 46, b]) ++ 32 :: (w ++ 32 :: r) := by rw [e]; simp
              rw [e', zfa _ h32, zfa _ (zs2 hw)]
            rw [hsp] at hsp'
            injection hsp' with q1 q2
            injection q2 with q2 _
            have hd : s.drop 13 = r := by
              rw [e]
              show (w ++ 32 :: r).drop 4 = r
              match w, hlw with
              | [x, y, z], _ => rfl
            have hv : zcp (zbj ++ [49, 46, b]) = ((b - 48).toNat : Int) := by rcases hb with h | h <;> subst h <;> decide
            rw [ht, if_pos rfl, if_pos rfl, m1, m2, m3, zaE, q1, hv, hd, q2]
theorem zrA (kind : Int) (s : Str) (hs : s.length < 300000000) : ziK kind s = some (zhS kind s) := by
 unfold ziK zfB zhS
 have key : ∀ (n i : Nat), i ≤ s.length → s.length - i < n → (!(kind == 1) && !(kind == 2)) = false → zaX kind s n (i : Int) = some (if (s.drop i).any ([13, 10] : Str).contains then (ziW, 24) else if kind == 1 then zr1 s else zua s) := by
  intro n
  induction n with
  | zero => intro i _ h; omega
  | succ n ih =>
   intro i hi h hk
   rw [zaX]
   by_cases hlt : i < s.length
   ·have g : s[i]? = some s[i] := List.getElem?_eq_getElem hlt
    unfold zfz
    rw [decide_eq_true (show (i : Int) < (s.length : Int) by omega), if_pos rfl, zW, g, Option.bind_some, Option.bind_some, zo (by omega), Option.bind_some, ih (i + 1) (by omega) (by omega) hk, List.drop_eq_getElem_cons hlt, List.any_cons]
    have : ([13, 10] : Str).contains s[i] = (s[i] == 13 || s[i] == 10) := by simp only [List.contains_cons, List.contains_nil, Bool.or_false]
    rw [this]
    cases s[i] == 13 <;> cases s[i] == 10 <;> rfl
   ·have : i = s.length := by omega
    subst this
    rw [decide_eq_false (by omega), if_neg (by decide), zjw s 32 (by omega), Option.bind_some, List.drop_length, ztO s hs, ztP s hs, zwe]
    cases kind == 1 <;> rfl
 have := key fuel 0 (Nat.zero_le _) (by unfold fuel; omega)
 rw [List.drop_zero] at this
 have this : (!(kind == 1) && !(kind == 2)) = false → zaX kind s fuel 0 = _ := this
 cases h1 : kind == 1 with
 | true => rw [h1] at this; rw [Bool.not_true, if_neg (by decide), if_neg (by decide), this rfl]; rfl
 | false =>
  cases h2 : kind == 2 with
  | true => rw [h1, h2] at this; rw [Bool.not_false, if_pos rfl, Bool.not_true, if_neg (by decide), this rfl]; rfl
  | false => rfl
end Go.Dm
end
section
namespace Go.Dm
def zoM (n : Int) : Str := zbj ++ 49 :: 46 :: zha 10 n
def zkV (h : api_Head) : Str := if h.Kind == 2 then zoM h.Minor ++ 32 :: (zha 10 h.Code ++ 32 :: h.Reason) else h.Method ++ 32 :: (h.Target ++ 32 :: zoM h.Minor)
def zwP (x h : api_Head) : Bool := x.Method == h.Method && x.Target == h.Target && x.Minor == h.Minor && x.Code == h.Code && x.Reason == h.Reason
def zhk (h : api_Head) : Str × Int := if (zhS h.Kind (zkV h)).2 == 1 then ([], 1) else if (zhS h.Kind (zkV h)).2 == 0 && zwP (zhS h.Kind (zkV h)).1 h then (zkV h, 0) else ([], 20)
structure smallH (h : api_Head) : Prop where
 code : inI h.Code = true
 minor : inI h.Minor = true
 method : h.Method.length < 10000000
 target : h.Target.length < 10000000
 reason : h.Reason.length < 10000000
theorem zrg {n : Int} (hn : inI n = true) : (zoM n).length ≤ 80 := by
 have := zjs n hn
 unfold zoM
 simp only [List.length_append, List.length_cons]
 have : zbj.length = 5 := rfl
 omega
theorem zrh {h : api_Head} (hs : smallH h) : (zkV h).length < 100000000 := by
 have h1 := zrg hs.minor
 have h2 := zjs h.Code hs.code
 have h3 := hs.method
 have h4 := hs.target
 have h5 := hs.reason
 unfold zkV
 split <;> simp only [List.length_append, List.length_cons] <;> omega
theorem join3 (a b c : Str) (hl : (a ++ [32] ++ b ++ [32] ++ c).length < 4000000000) : zbR [32] [a, b, c] = some (a ++ 32 :: (b ++ 32 :: c)) := by
 unfold zbR strings_Join
 have e : Go.Lib.join [a, b, c] [32] = a ++ [32] ++ b ++ [32] ++ c := by
  rw [Go.Lib.join_cons]; simp [Go.Lib.joinTail]
 rw [e, if_pos ⟨by simp, by omega⟩]
 simp
theorem zj8 (h : api_Head) (hs : smallH h) : zd4 h = some (zhk h) := by
 have hl := zrh hs
 have h1 := zrg hs.minor
 have h2 := zjs h.Code hs.code
 have h2' := zjs h.Minor hs.minor
 have h3 := hs.method
 have h4 := hs.target
 have h5 := hs.reason
 have j1 : zck h (zkV h) = some (zhk h) := by
  unfold zck zaS zdq
  rw [zon _ _ (by omega), Option.bind_some]
  unfold zhk zwP
  generalize zkV h = u
  generalize zhS h.Kind u = p
  obtain ⟨x, e⟩ := p
  dsimp only
  cases h1 : e == 1 with
  | true =>
   have : e = 1 := by simpa using h1
   subst this; rfl
  | false =>
   rw [if_neg Bool.false_ne_true, if_neg Bool.false_ne_true]
   cases e == 0 <;> cases x.Method == h.Method <;> cases x.Target == h.Target <;> cases x.Minor == h.Minor <;> cases x.Code == h.Code <;> cases x.Reason == h.Reason <;> rfl
 unfold zd4
 have hv : ([72, 84, 84, 80, 47, 49, 46] : Str) ++ zha 10 h.Minor = zoM h.Minor := rfl
 rw [ziZ _ hs.minor, Option.bind_some, zD (by simp; omega), Option.bind_some, hv, join3 _ _ _ (by simp only [List.length_append, List.length_cons, List.length_nil]; omega), Option.bind_some, ziZ _ hs.code, Option.bind_some, join3 _ _ _ (by simp only [List.length_append, List.length_cons, List.length_nil]; omega), Option.bind_some]
 unfold zkV at j1
 cases hk : h.Kind == 2 with
 | true => rw [hk, if_pos rfl] at j1; rw [if_pos rfl]; exact j1
 | false => rw [hk, if_neg Bool.false_ne_true] at j1; rw [if_neg Bool.false_ne_true]; exact j1
theorem znE (h : api_Head) (hs : smallH h) : zih h = some (zhk h) := by
 have hl := zrh hs
 have h1 := zrg hs.minor
 have h2 := zjs h.Code hs.code
 have h2' := zjs h.Minor hs.minor
 have h3 := hs.method
 have h4 := hs.target
 have h5 := hs.reason
 have j1 : zeX h (zkV h) = some (zhk h) := by
  unfold zeX zbZ
  rw [zrA _ _ (by omega), Option.bind_some]
  unfold zhk zwP
  generalize zkV h = u
  generalize zhS h.Kind u = p
  obtain ⟨x, e⟩ := p
  dsimp only
  cases e == 1 with
  | true => rfl
  | false =>
   rw [if_neg Bool.false_ne_true, if_neg Bool.false_ne_true]
   cases e == 0 <;> cases x.Method == h.Method <;> cases x.Target == h.Target <;> cases x.Minor == h.Minor <;> cases x.Code == h.Code <;> cases x.Reason == h.Reason <;> rfl
 unfold zih
 have hv : ([72, 84, 84, 80, 47, 49, 46] : Str) ++ zha 10 h.Minor = zoM h.Minor := rfl
 have r1 := zin (b := 10) (.inl rfl) h.Minor hs.minor
 have r2 := zin (b := 10) (.inl rfl) h.Code hs.code
 rw [show ((10 : Nat) : Int) = 10 from rfl] at r1 r2
 rw [r1, Option.bind_some, zD (by simp; omega), Option.bind_some, hv, zD (by simp; omega), Option.bind_some, zD (by simp; omega), Option.bind_some, zD (by simp; omega), Option.bind_some, zD (by simp only [List.length_append, List.length_cons, List.length_nil]; omega), Option.bind_some, zD (by simp; omega), Option.bind_some, r2, Option.bind_some, zD (by simp only [List.length_append, List.length_cons, List.length_nil]; omega), Option.bind_some, zD (by simp only [List.length_append, List.length_cons, List.length_nil]; omega), Option.bind_some, zD (by simp only [List.length_append, List.length_cons, List.length_nil]; omega), Option.bind_some]
 unfold zkV at j1
 cases hk : h.Kind == 2 with
 | true =>
  rw [hk, if_pos rfl] at j1
  rw [if_pos rfl]
  have e : zoM h.Minor ++ [32] ++ zha 10 h.Code ++ [32] ++ h.Reason = zoM h.Minor ++ 32 :: (zha 10 h.Code ++ 32 :: h.Reason) := by simp
  rw [e]; exact j1
 | false =>
  rw [hk, if_neg Bool.false_ne_true] at j1
  rw [if_neg Bool.false_ne_true]
  have e : h.Method ++ [32] ++ h.Target ++ [32] ++ zoM h.Minor = h.Method ++ 32 :: (h.Target ++ 32 :: zoM h.Minor) := by simp
  rw [e]; exact j1
theorem zty : ∀ a, a < 10 → ∀ b, b < 10 → ∀ c, c < 10 → 100 ≤ a * 100 + b * 10 + c → digs 10 (a * 100 + b * 10 + c) = [a, b, c] := by decide +kernel
theorem ztz (c : UInt8) : (!zO c || (decide ((c - 48).toNat < 10) && dch (c - 48).toNat == c && wor c == (c - 48).toNat)) = true := zU (fun c => !zO c || (decide ((c - 48).toNat < 10) && dch (c - 48).toNat == c && wor c == (c - 48).toNat)) (by decide +kernel) c
theorem zv7 {w : Str} (hl : w.length = 3) (h : (zR 10 w 599).2 = 0) (h1 : ¬ (zR 10 w 599).1 < 100) : zha 10 (zR 10 w 599).1 = w ∧ inI (zR 10 w 599).1 = true := by
 have hin := zjH h (by decide)
 refine ⟨?_, hin.2.2⟩
 have hd := (zlC h).1
 match w, hl with
 | [x, y, z], _ =>
  simp only [List.all_cons, List.all_nil, Bool.and_true, Bool.and_eq_true] at hd
  have fx := ztz x
  have fy := ztz y
  have fz := ztz z
  rw [hd.1] at fx
  rw [hd.2.1] at fy
  rw [hd.2.2] at fz
  simp only [Bool.not_true, Bool.false_or, Bool.and_eq_true, decide_eq_true_eq, beq_iff_eq] at fx fy fz
  have hval : (zR 10 [x, y, z] 599).1 = (((x - 48).toNat * 100 + (y - 48).toNat * 10 + (z - 48).toNat : Nat) : Int) := by
   unfold zR at h ⊢
   split at h
   ·cases h
   ·rename_i g1
    rw [if_neg g1]
    split at h
    ·cases h
    ·rename_i g2
     rw [if_neg g2]
     have : za1 10 (vals [x, y, z]) = (x - 48).toNat * 100 + (y - 48).toNat * 10 + (z - 48).toNat := by
      unfold vals za1
      simp only [List.map_cons, List.map_nil, List.foldl_cons, List.foldl_nil, fx.2, fy.2, fz.2]
      omega
     rw [this]
  rw [hval] at h1 ⊢
  unfold zha
  rw [if_neg (by omega), Int.toNat_natCast, zty _ fx.1.1 _ fy.1.1 _ fz.1.1 (by omega)]
  unfold zu
  simp only [List.map_cons, List.map_nil, fx.1.2, fy.1.2, fz.1.2]
theorem zri {k : Int} {s : Str} {x : api_Head} (h : zhS k s = (x, 0)) : (k = 1 ∧ zr1 s = (x, 0)) ∨ (k = 2 ∧ zua s = (x, 0)) := by
 unfold zhS at h
 cases h1 : k == 1 with
 | true =>
  have hk : k = 1 := by simpa using h1
  rw [h1, Bool.not_true, Bool.false_and, if_neg Bool.false_ne_true] at h
  split at h
  ·exact absurd (show (24 : Int) = 0 from congrArg Prod.snd h) (by decide)
  ·rw [if_pos rfl] at h; exact .inl ⟨hk, h⟩
 | false =>
  cases h2 : k == 2 with
  | true =>
   have hk : k = 2 := by simpa using h2
   rw [h1, h2, Bool.not_true, Bool.and_false, if_neg Bool.false_ne_true] at h
   split at h
   ·exact absurd (show (24 : Int) = 0 from congrArg Prod.snd h) (by decide)
   ·rw [if_neg Bool.false_ne_true] at h; exact .inr ⟨hk, h⟩
  | false =>
   rw [h1, h2, Bool.not_false, Bool.true_and, if_pos rfl] at h
   exact absurd (show (1 : Int) = 0 from congrArg Prod.snd h) (by decide)
structure LineBack (k : Int) (s : Str) (x : api_Head) : Prop where
 kind : x.Kind = k
 raw : zkV x = s
 code : inI x.Code = true
 minor : inI x.Minor = true
 method : x.Method.length ≤ s.length
 target : x.Target.length ≤ s.length
 reason : x.Reason.length ≤ s.length
theorem zv8 {v : Str} (h : 0 ≤ zcp v) (h2 : (zcp v == 2) = false) : zoM (zcp v) = v ∧ inI (zcp v) = true := by
 rcases zjX h h2 with ⟨e, e2⟩ | ⟨e, e2⟩ <;> rw [e2, e] <;> exact ⟨by decide, by decide⟩
theorem zsU {k : Int} {s : Str} {x : api_Head} (h : zhS k s = (x, 0)) : LineBack k s x := by
 rcases zri h with ⟨hk, h⟩ | ⟨hk, h⟩
 ·rcases zrH s with (h1 | h1) | ⟨h1, h2⟩
  ·rw [h1] at h; exact absurd (show (26 : Int) = 0 from congrArg Prod.snd h) (by decide)
  ·rw [h1] at h; exact absurd (show (20 : Int) = 0 from congrArg Prod.snd h) (by decide)
  ·obtain ⟨v, e, n1, n2, h3, h4, k1, k2, k3, k4⟩ := zom h1
   rw [h2] at h
   have hx := congrArg Prod.fst h
   dsimp only at hx
   subst hx
   obtain ⟨q1, q2⟩ := zv8 k1 k2
   have hlen := congrArg List.length e
   simp only [List.length_append, List.length_cons] at hlen
   rw [k3]
   refine ⟨hk.symm, ?_, rfl, q2, by dsimp only; omega, by dsimp only; omega, by simp⟩
   show zol s ++ 32 :: (zqC s ++ 32 :: zoM (zcp v)) = s
   rw [q1]; exact e.symm
 ·unfold zua at h
  split at h
  ·exact absurd (show (26 : Int) = 0 from congrArg Prod.snd h) (by decide)
  ·split at h
   ·rename_i h26 hF
    have hF' := hF
    obtain ⟨b, w, r, hb, e, hw, hl⟩ := zlD hF
    obtain ⟨m1, m2, m3⟩ := zoR (r := r) hb hw
    rw [← e] at m1 m2 m3
    unfold zt9 at hF'
    rw [m1, m2, m3] at hF'
    simp only [Bool.and_eq_true, Bool.not_eq_true', decide_eq_false_iff_not] at hF'
    have hx := congrArg Prod.fst h
    dsimp only at hx
    subst hx
    obtain ⟨q1, q2⟩ := zv7 hl (by simpa using hF'.1.1.2) hF'.1.2
    have hlen := congrArg List.length e
    simp only [List.length_append, List.length_cons] at hlen
    rw [m1, m2, m3, zaE]
    have hv : zoM ((b - 48).toNat : Int) = zbj ++ [49, 46, b] ∧ inI ((b - 48).toNat : Int) = true := by rcases hb with h | h <;> subst h <;> exact ⟨by decide, by decide⟩
    refine ⟨hk.symm, ?_, q2, hv.2, by simp, by simp, by dsimp only; omega⟩
    show zoM ((b - 48).toNat : Int) ++ 32 :: (zha 10 (zR 10 w 599).1 ++ 32 :: r) = s
    rw [hv.1, q1, e]; simp
   ·exact absurd (show (20 : Int) = 0 from congrArg Prod.snd h) (by decide)
end Go.Dm
end
section
namespace Go.Dm
def zj0 (b : UInt8) : Bool := b == 32 || b == 9
def zkd (s : Str) : Str := s.dropWhile zj0
def zke (s : Str) : Str := (s.reverse.dropWhile zj0).reverse
def zkG (s : Str) : Str := zkd (zke s)
theorem zu4 (b : UInt8) : ([32, 9] : Str).contains b = zj0 b := by
 simp only [zj0, List.contains_cons, List.contains_nil, Bool.or_false]
theorem zxq : zke [] = [] := rfl
theorem zlB (s : Str) (c : UInt8) : zke (s ++ [c]) = if zj0 c then zke s else s ++ [c] := by
 unfold zke
 rw [List.reverse_append]
 simp only [List.reverse_cons, List.reverse_nil, List.nil_append, List.singleton_append, List.dropWhile_cons]
 split <;> simp
theorem zzf (s : Str) : (zke s).length ≤ s.length := by
 unfold zke
 rw [List.length_reverse]
 have := (List.dropWhile_suffix (l := s.reverse) zj0).length_le
 simpa using this
theorem zzg (s : Str) : (zkd s).length ≤ s.length := (List.dropWhile_suffix zj0).length_le
theorem zAl (s : Str) : (zkG s).length ≤ s.length := Nat.le_trans (zzg _) (zzf _)
theorem zu5 (s : Str) : (s.all zj0 = true ∧ zke s = []) ∨ ∃ a c b, s = a ++ c :: b ∧ zj0 c = false ∧ b.all zj0 = true ∧ zke s = a ++ [c] := by
 rw [← List.reverse_reverse s]
 generalize s.reverse = r
 induction r with
 | nil => left; exact ⟨rfl, rfl⟩
 | cons x r ih =>
  rw [List.reverse_cons, zlB]
  rcases zcD (zj0 x) with h | h
  ·rw [h]
   rcases ih with ⟨h1, h2⟩ | ⟨a, c, b, h1, h2, h3, h4⟩
   ·left; refine ⟨?_, by simpa using h2⟩
    rw [List.all_append, h1]; simp [h]
   ·right; refine ⟨a, c, b ++ [x], by rw [h1]; simp, h2, by rw [List.all_append, h3]; simp [h], by simpa using h4⟩
  ·right; exact ⟨r.reverse, x, [], rfl, h, rfl, by simp [h]⟩
theorem zxr {s : Str} (h : s.all zj0 = true) : zkd s = [] := by
 unfold zkd
 induction s with
 | nil => rfl
 | cons x s ih =>
  simp only [List.all_cons, Bool.and_eq_true] at h
  rw [List.dropWhile_cons, h.1]
  exact ih h.2
theorem zxs {a : Str} {c : UInt8} {b : Str} (hc : zj0 c = false) : zkd (a ++ c :: b) = zkd (a ++ [c]) ++ b := by
 unfold zkd
 induction a with
 | nil => simp [List.dropWhile_cons, hc]
 | cons x a ih =>
  simp only [List.cons_append, List.dropWhile_cons]
  split
  ·exact ih
  ·simp
theorem zzh {a : Str} {c : UInt8} (hc : zj0 c = false) : ∃ d, zkd (a ++ [c]) = d ++ [c] := by
 unfold zkd
 induction a with
 | nil => exact ⟨[], by simp [List.dropWhile_cons, hc]⟩
 | cons x a ih =>
  simp only [List.cons_append, List.dropWhile_cons]
  split
  ·exact ih
  ·exact ⟨x :: a, rfl⟩
theorem zxt {d : Str} {c : UInt8} {b : Str} (hc : zj0 c = false) (hb : b.all zj0 = true) : zke (d ++ c :: b) = d ++ [c] := by
 rw [← List.reverse_reverse b] at *
 generalize b.reverse = r at *
 induction r with
 | nil => rw [List.reverse_nil, zlB, hc]; rfl
 | cons x r ih =>
  rw [List.reverse_cons, List.all_append] at hb
  simp only [Bool.and_eq_true, List.all_cons, List.all_nil, Bool.and_true] at hb
  rw [List.reverse_cons, ← List.cons_append, ← List.append_assoc, zlB, hb.2]
  exact ih hb.1
theorem zxu (s : Str) : zke (zkd s) = zkG s := by
 unfold zkG
 rcases zu5 s with ⟨h1, h2⟩ | ⟨a, c, b, h1, h2, h3, h4⟩
 ·rw [h2, zxr h1]; rfl
 ·rw [h4, h1, zxs h2]
  obtain ⟨d, hd⟩ := zzh (a := a) h2
  rw [hd, List.append_assoc]
  exact zxt h2 h3
theorem zzi (s : Str) : Go.Lib.trimS s [32, 9] = zkG s := by
 unfold Go.Lib.trimS Go.Lib.trimLeftS Go.Lib.trimRightS zkG zkd zke
 have : (fun x => ([32, 9] : List UInt8).contains x) = zj0 := by funext b; exact zu4 b
 rw [this]
theorem zlT (s : Str) (hs : s.length < 1000000000) : zdh s [32, 9] = some (zkG s) := by
 unfold zdh
 rw [if_pos ⟨by omega, by simp, by decide⟩, zzi]
theorem zmw (b : UInt8) : zg0 b = some (zj0 b) :=
 of_decide_eq_true (zU (fun b => decide (zg0 b = some (zj0 b))) (by decide +kernel) b)
theorem zhZ : ∀ (k n : Nat) (s : Str), s.length = k → k < n → k < 1000000000 → zbm n s = some (zke s)
 | k, 0, s, _, h, _ => by omega
 | 0, n + 1, s, hk, h, _ => by
  have : s = [] := List.length_eq_zero_iff.1 hk
  subst this; rw [zbm]; simp [zeU, zxq]
 | k + 1, n + 1, s, hk, h, hb => by
  obtain ⟨a, c, rfl⟩ : ∃ a c, s = a ++ [c] := by
   rcases List.eq_nil_or_concat s with rfl | ⟨a, c, rfl⟩
   ·simp at hk
   ·exact ⟨a, c, by simp⟩
  have hl : a.length = k := by simpa using hk
  have e : ((a ++ [c]).length : Int) - 1 = (a.length : Int) := by simp
  have h0 : (0 : Int) < ((a ++ [c]).length : Int) := by simp
  have e2 : sTo (a ++ [c]) (a.length : Int) = some a := by rw [zf5 (by simp)]; simp
  rw [zbm, zlB]
  rw [zc3 (by omega) (by omega), e]
  simp only [h0, decide_true, if_true, Option.bind_some, zW, List.getElem?_concat_length, zmw, zeU]
  rcases zcD (zj0 c) with h1 | h1
  ·rw [h1]
   simp only [if_true, zc3 (show -9223372036854775808 ≤ ((a ++ [c]).length : Int) - 1 by omega) (show ((a ++ [c]).length : Int) - 1 ≤ 9223372036854775807 by simp; omega), e, Option.bind_some, e2]
   exact zhZ k n a hl (by omega) (by omega)
  ·rw [h1]; simp
theorem zkX : ∀ (n : Nat) (s : Str), s.length < n → s.length < 1000000000 → zbn n s = some (zke (zkd s))
 | 0, s, h, _ => by omega
 | n + 1, [], h, hb => by
  rw [zbn]
  simp only [List.length_nil, Int.natCast_zero, Int.lt_irrefl, decide_false, Bool.false_eq_true, if_false, zeV]
  exact zhZ 0 fuel [] rfl (by decide) (by decide)
 | n + 1, x :: s, h, hb => by
  rw [zbn]
  have h0 : (0 : Int) < ((x :: s).length : Int) := by simp
  have e : za7 (x :: s) 1 = some s := by
   have := zab (l := x :: s) (i := 1) (by simp); simpa using this
  simp only [h0, decide_true, if_true, zjV, List.getElem?_cons_zero, Option.bind_some, zmw, zeV]
  rcases zcD (zj0 x) with h1 | h1
  ·rw [h1]
   simp only [if_true, e, Option.bind_some]
   rw [zkX n s (by simp at h; omega) (by simp at hb; omega)]
   unfold zkd; simp [List.dropWhile_cons, h1]
  ·rw [h1]
   simp only [Bool.false_eq_true, if_false]
   rw [zhZ _ fuel _ rfl (by unfold fuel; omega) hb]
   unfold zkd; simp [List.dropWhile_cons, h1]
theorem zkH (s : Str) (hs : s.length < 1000000000) : zgL s = some (zkG s) := by
 unfold zgL
 rw [zkX fuel s (by unfold fuel; omega) hs, zxu]
end Go.Dm
end
section
namespace Go.Dm
def zcC : Str → Option (Str × Nat)
 | [] => none
 | c :: r => if c == 34 then some ([], 1) else if c == 92 then (match r with
   | [] => none
   | d :: t => if zgd d then (zcC t).map (fun p => (d :: p.1, p.2 + 2)) else none)
  else if zgd c then (zcC r).map (fun p => (c :: p.1, p.2 + 1)) else none
theorem zpg (r : Str) : zcC (34 :: r) = some ([], 1) := by rw [zcC.eq_def]; rfl
theorem znV : zcC [92] = none := by rw [zcC.eq_def]; rfl
theorem zph (d : UInt8) (t : Str) : zcC (92 :: d :: t) = if zgd d then (zcC t).map (fun p => (d :: p.1, p.2 + 2)) else none := by rw [zcC.eq_def]; rfl
theorem zpi {c : UInt8} (r : Str) (h1 : (c == 34) = false) (h2 : (c == 92) = false) : zcC (c :: r) = if zgd c then (zcC r).map (fun p => (c :: p.1, p.2 + 1)) else none := by
 rw [zcC.eq_def]; simp only [h1, h2, Bool.false_eq_true, if_false]
theorem zpj {P : Str → Prop} (h0 : P []) (h1 : ∀ r, P (34 :: r)) (h2 : P [92]) (h3 : ∀ d t, P t → P (92 :: d :: t)) (h4 : ∀ c r, (c == 34) = false → (c == 92) = false → P r → P (c :: r)) : ∀ (n : Nat) (s : Str), s.length < n → P s
  | 0, s, h => by omega
  | n + 1, [], _ => h0
  | n + 1, c :: r, h => by
    simp only [List.length_cons] at h
    cases h34 : c == 34 with
    | true => have : c = 34 := by simpa using h34
              subst this; exact h1 r
    | false =>
      cases h92 : c == 92 with
      | true =>
        have : c = 92 := by simpa using h92
        subst this
        cases r with
        | nil => exact h2
        | cons d t => simp only [List.length_cons] at h; exact h3 d t (zpj h0 h1 h2 h3 h4 n t (by omega))
      | false => exact h4 c r h34 h92 (zpj h0 h1 h2 h3 h4 n r (by omega))
theorem zxQ (s : Str) : ∀ p, zcC s = some p → 1 ≤ p.2 ∧ p.2 ≤ s.length ∧ p.1.length + 1 ≤ p.2 := by
 refine zpj (P := fun s => ∀ p, zcC s = some p → 1 ≤ p.2 ∧ p.2 ≤ s.length ∧ p.1.length + 1 ≤ p.2) ?_ ?_ ?_ ?_ ?_ (s.length + 1) s (by omega)
 ·intro p h; cases h
 ·intro r p h; rw [zpg] at h; cases h; simp
 ·intro p h; rw [znV] at h; cases h
 ·intro d t ih p h
  rw [zph] at h
  split at h
  ·obtain ⟨q, hq, rfl⟩ := Option.map_eq_some_iff.1 h
   have := ih q hq
   simp only [List.length_cons]; omega
  ·cases h
 ·intro c r h1 h2 ih p h
  rw [zpi r h1 h2] at h
  split at h
  ·obtain ⟨q, hq, rfl⟩ := Option.map_eq_some_iff.1 h
   have := ih q hq
   simp only [List.length_cons]; omega
  ·cases h
def ze9 : Nat → Str → Option Nat
 | 0, _ => some 0
 | _ + 1, [] => none
 | d + 1, c :: r => if c == 40 then (ze9 (d + 2) r).map (· + 1) else if c == 41 then (ze9 d r).map (· + 1) else if c == 92 then (match r with
   | [] => none
   | _ :: t => (ze9 (d + 1) t).map (· + 2)) else (ze9 (d + 1) r).map (· + 1)
theorem zpk (s : Str) : ze9 0 s = some 0 := by cases s <;> rfl
theorem znc (d : Nat) (r : Str) : ze9 (d + 1) (40 :: r) = (ze9 (d + 2) r).map (· + 1) := by rw [ze9.eq_def]; rfl
theorem zlj (d : Nat) (r : Str) : ze9 (d + 1) (41 :: r) = (ze9 d r).map (· + 1) := by rw [ze9.eq_def]; rfl
theorem zpl (d : Nat) : ze9 (d + 1) [92] = none := by rw [ze9.eq_def]; rfl
theorem zor (d : Nat) (c : UInt8) (t : Str) : ze9 (d + 1) (92 :: c :: t) = (ze9 (d + 1) t).map (· + 2) := by rw [ze9.eq_def]; rfl
theorem zos (d : Nat) {c : UInt8} (r : Str) (h1 : (c == 40) = false) (h2 : (c == 41) = false) (h3 : (c == 92) = false) : ze9 (d + 1) (c :: r) = (ze9 (d + 1) r).map (· + 1) := by
 rw [ze9.eq_def]; simp only [h1, h2, h3, Bool.false_eq_true, if_false]
theorem zuf {P : Str → Prop} (h0 : P []) (h1 : ∀ r, P r → P (40 :: r)) (h2 : ∀ r, P r → P (41 :: r)) (h3 : P [92]) (h4 : ∀ d t, P t → P (92 :: d :: t)) (h5 : ∀ c r, (c == 40) = false → (c == 41) = false → (c == 92) = false → P r → P (c :: r)) : ∀ (n : Nat) (s : Str), s.length < n → P s
  | 0, s, h => by omega
  | n + 1, [], _ => h0
  | n + 1, c :: r, h => by
    simp only [List.length_cons] at h
    have ih := fun t ht => zuf h0 h1 h2 h3 h4 h5 n t ht
    cases c40 : c == 40 with
    | true => have : c = 40 := by simpa using c40
              subst this; exact h1 r (ih r (by omega))
    | false =>
      cases c41 : c == 41 with
      | true => have : c = 41 := by simpa using c41
                subst this; exact h2 r (ih r (by omega))
      | false =>
        cases c92 : c == 92 with
        | true =>
          have : c = 92 := by simpa using c92
          subst this
          cases r with
          | nil => exact h3
          | cons d t => simp only [List.length_cons] at h; exact h4 d t (ih t (by omega))
        | false => exact h5 c r c40 c41 c92 (ih r (by omega))
theorem zzS (s : Str) : ∀ d n, ze9 d s = some n → n ≤ s.length := by
 refine zuf (P := fun s => ∀ d n, ze9 d s = some n → n ≤ s.length) ?_ ?_ ?_ ?_ ?_ ?_ (s.length + 1) s (by omega)
 ·intro d n h; cases d with
  | zero => cases h; simp
  | succ d => cases h
 ·intro r ih d n h; cases d with
  | zero => cases h; simp
  | succ d => rw [znc] at h; obtain ⟨m, hm, rfl⟩ := Option.map_eq_some_iff.1 h; have := ih _ _ hm; simp only [List.length_cons]; omega
 ·intro r ih d n h; cases d with
  | zero => cases h; simp
  | succ d => rw [zlj] at h; obtain ⟨m, hm, rfl⟩ := Option.map_eq_some_iff.1 h; have := ih _ _ hm; simp only [List.length_cons]; omega
 ·intro d n h; cases d with
  | zero => cases h; simp
  | succ d => rw [zpl] at h; cases h
 ·intro c t ih d n h; cases d with
  | zero => cases h; simp
  | succ d => rw [zor] at h; obtain ⟨m, hm, rfl⟩ := Option.map_eq_some_iff.1 h; have := ih _ _ hm; simp only [List.length_cons]; omega
 ·intro c r h1 h2 h3 ih d n h; cases d with
  | zero => cases h; simp
  | succ d => rw [zos d r h1 h2 h3] at h; obtain ⟨m, hm, rfl⟩ := Option.map_eq_some_iff.1 h; have := ih _ _ hm; simp only [List.length_cons]; omega
def zdQ (c : UInt8) (r : Str) : Nat := if c == 34 then (match zcC r with | some p => p.2 + 1 | none => 0) else (match ze9 1 r with | some n => n + 1 | none => 0)
theorem zug (c : UInt8) (r : Str) : zdQ c r ≤ r.length + 1 := by
 unfold zdQ
 split
 ·cases h : zcC r with
  | none => simp
  | some p => have := zxQ r p h; dsimp only; omega
 ·cases h : ze9 1 r with
  | none => simp
  | some n => have := zzS r 1 n h; dsimp only; omega
def zg8 : Nat → Str → Str → Option (List Str)
 | _, cur, [] => some [cur]
 | k + 1, cur, c :: r => zg8 k (cur ++ [c]) r
 | 0, cur, c :: r => if c == 34 || c == 40 then (if zdQ c r = 0 then none else zg8 (zdQ c r - 1) (cur ++ [c]) r) else if c == 44 then (zg8 0 [] r).map (cur :: ·) else zg8 0 (cur ++ [c]) r
theorem zqM (k : Nat) (cur : Str) : zg8 k cur [] = some [cur] := by cases k <;> rfl
theorem zw6 (k : Nat) (cur : Str) (c : UInt8) (r : Str) : zg8 (k + 1) cur (c :: r) = zg8 k (cur ++ [c]) r := rfl
theorem zth (cur : Str) {c : UInt8} (r : Str) (h : (c == 34 || c == 40) = true) : zg8 0 cur (c :: r) = if zdQ c r = 0 then none else zg8 (zdQ c r - 1) (cur ++ [c]) r := by
 rw [zg8, if_pos h]
theorem znW (cur r : Str) : zg8 0 cur (44 :: r) = (zg8 0 [] r).map (cur :: ·) := by rw [zg8]; rfl
theorem zqN (cur : Str) {c : UInt8} (r : Str) (h : (c == 34 || c == 40) = false) (h2 : (c == 44) = false) : zg8 0 cur (c :: r) = zg8 0 (cur ++ [c]) r := by
 rw [zg8, if_neg (by rw [h]; decide), if_neg (by rw [h2]; decide)]
theorem zpm : ∀ (k : Nat) (cur s : Str), k ≤ s.length → zg8 k cur s = zg8 0 (cur ++ s.take k) (s.drop k)
 | 0, cur, s, _ => by simp
 | k + 1, cur, [], h => by simp at h
 | k + 1, cur, c :: r, h => by
  rw [zw6, zpm k _ r (by simpa using h)]
  simp
def elems (l : List Str) : List Str := (l.map zkG).filter (fun x => !(x == []))
def zg9 (s : Str) : Option (List Str) := (zg8 0 [] s).map elems
theorem zw7 (a b : List Str) : elems (a ++ b) = elems a ++ elems b := by simp [elems]
end Go.Dm
end
section
namespace Go.Dm
section
variable {s r : Str} {k : Nat}
theorem zlK (s : Str) (k : Nat) : (⟨s, (k : Int)⟩ : scan_Scanner) = scn s k := rfl
theorem zvE (b : UInt8) (r : Str) : (zav b r).length ≤ r.length := by unfold zav; split <;> simp
def zqj (r : Str) : Option (UInt8 × Str) := match zav 92 r with
 | [] => none
 | c :: t => if zgd c then some (c, t) else none
theorem zxJ {c : UInt8} {t : Str} (h : zqj r = some (c, t)) : t.length < r.length := by
 unfold zqj at h
 have := zvE 92 r
 cases hb : zav 92 r with
 | nil => rw [hb] at h; cases h
 | cons d u =>
  rw [hb] at h this
  simp only at h
  split at h
  ·cases h; simp only [List.length_cons] at this; omega
  ·cases h
theorem zAI (hs : s.length < 1000000000) (out : Str) (ho : out.length < 1000000000) (h : At s k r) :
  (∀ c t, zqj r = some (c, t) → ∃ k', At s k' t ∧ k ≤ k' ∧ zbQ ⟨scn s k, out⟩ = some (true, ⟨scn s k', out ++ [c]⟩)) ∧
  (zqj r = none → ∃ k', k' ≤ s.length ∧ k ≤ k' ∧ zbQ ⟨scn s k, out⟩ = some (false, ⟨scn s k', out⟩)) := by
 unfold zbQ zqj
 obtain ⟨k1, h1, e1⟩ := zgC hs 92 h
 have hk : k ≤ k1 := by have := h.len; have := h1.len; have := zvE 92 r; omega
 show (∀ c t, _ → ∃ k', _ ∧ _ ∧ (zn (scn s k) 92).bind _ = _) ∧ (_ → ∃ k', _ ∧ _ ∧ (zn (scn s k) 92).bind _ = _)
 rw [e1]
 simp only [Option.bind_some]
 rw [zo7 h1]
 cases hb : zav 92 r with
 | nil =>
  rw [hb] at h1
  refine ⟨fun c t h => (by cases h), fun _ => ⟨k1, h1.le, hk, rfl⟩⟩
 | cons d u =>
  rw [hb] at h1
  simp only [zw0, Option.bind_some, Bool.not_true, Bool.false_eq_true, if_false, zhX]
  unfold zbJ
  obtain ⟨k2, h2, e2⟩ := zgC hs d h1
  rw [zaE, zbT] at *
  cases hv : zgd d with
  | false => exact ⟨fun c t h => by simp at h, fun _ => ⟨k1, h1.le, hk, by simp⟩⟩
  | true =>
   refine ⟨fun c t h => ?_, fun h => by simp at h⟩
   simp at h
   obtain ⟨rfl, rfl⟩ := h
   refine ⟨k2, h2, by have := h1.len; have := h2.len; simp only [List.length_cons] at *; omega, ?_⟩
   rw [if_neg (by decide), if_pos (zcl (n := out.length) (m := 1) (by omega) (by omega)), e2]
   simp
theorem zwy (r : Str) : zcC r = if zhI 34 r then some ([], 1) else match zqj r with
    | none => none
    | some (c, t) => (zcC t).map (fun p => (c :: p.1, p.2 + (r.length - t.length))) := by
  cases r with
  | nil => rfl
  | cons c r =>
    rw [zbT]
    cases h34 : c == 34 with
    | true => have : c = 34 := by simpa using h34
              subst this; rw [zpg]; rfl
    | false =>
      rw [if_neg (by decide)]
      unfold zqj
      cases h92 : c == 92 with
      | true =>
        have : c = 92 := by simpa using h92
        subst this
        rw [zaE]
        cases r with
        | nil => exact znV
        | cons d t =>
          rw [zph]
          dsimp only
          cases zgd d with
          | false => rfl
          | true =>
            rw [if_pos rfl, if_pos rfl]
            dsimp only
            congr 1
            funext p
            congr 2
            simp only [List.length_cons]; omega
      | false =>
        rw [zoo (by rw [zbT]; exact h92), zpi r h34 h92]
        dsimp only
        cases zgd c with
        | false => rfl
        | true =>
          rw [if_pos rfl, if_pos rfl]
          dsimp only
          congr 1
          funext p
          congr 2
          simp only [List.length_cons]; omega
theorem zuc {s : Str} {k k0 : Nat} (h : k0 ≤ k) : zdl (scn s k) (k0 : Int) = some (true, scn s k0) := by
 unfold zdl
 rw [decide_eq_false (show ¬ ((k0 : Int) < 0) by omega), if_neg (by decide), zlo, Option.bind_some]
 unfold zb3
 rw [decide_eq_false (show ¬ ((k : Int) < (k0 : Int)) by omega), if_neg (by decide)]
 rfl
theorem zl4 (k0 n : Nat) (hk : k0 ≤ k) (out : Str) : zaz (k0 : Int) (n + 1) s (k : Int) out false = some ([], false, scn s k0) := by
 rw [zaz, if_neg (by decide)]
 unfold zdX zfh
 rw [if_neg (by decide), Bool.not_false, if_pos rfl, zlK, zuc hk, Option.bind_some]
theorem zo8 (hs : s.length < 1000000000) (k0 : Nat) : ∀ (n : Nat) (r : Str) (k : Nat) (out : Str), r.length + 1 < n → At s k r → k0 ≤ k → out.length ≤ k →
  zaz (k0 : Int) n s (k : Int) out true = some (match zcC r with | some p => (out ++ p.1, true, scn s (k + p.2)) | none => ([], false, scn s k0))
 | 0, _, _, _, h, _, _, _ => by omega
 | n + 1, r, k, out, hn, h, hk, ho => by
  rw [zaz, if_pos rfl, zlK]
  obtain ⟨k1, h1, e1⟩ := zgC hs 34 h
  have hkl := h.le
  rw [e1, Option.bind_some]
  unfold zdX
  rw [zwy]
  cases hb : zhI 34 r with
  | true =>
   rw [Bool.not_true, if_neg (by decide), if_pos rfl]
   have hr := zgP hb
   have hk1 : k1 = k + 1 := by
    have := h.len; have := h1.len
    have := congrArg List.length hr
    simp only [List.length_cons] at this; omega
   subst hk1
   unfold zfh
   rw [Bool.not_true, if_neg (by decide)]
   simp [scn]
  | false =>
   rw [zoo hb] at h1
   have hk1 : k1 = k := by have := h.len; have := h1.len; omega
   subst hk1
   rw [Bool.not_false, if_pos rfl, if_neg (by decide)]
   dsimp only [scn]
   rw [zlK]
   have hx := zAI hs out (by omega) h
   cases hq : zqj r with
   | none =>
    obtain ⟨k2, g1, g2, e2⟩ := hx.2 hq
    rw [e2, Option.bind_some]
    obtain ⟨m, rfl⟩ : ∃ m, n = m + 1 := ⟨n - 1, by omega⟩
    exact zl4 k0 m (by omega) out
   | some ct =>
    obtain ⟨c, t⟩ := ct
    obtain ⟨k2, g1, g2, e2⟩ := hx.1 c t hq
    have hl := zxJ hq
    have l1 := h.len
    have l2 := g1.len
    rw [e2, Option.bind_some]
    have ih := zo8 hs k0 n t k2 (out ++ [c]) (by omega) g1 (by omega) (by simp; omega)
    dsimp only [scn]
    rw [ih]
    cases zcC t with
    | none => rfl
    | some p =>
     simp only [Option.map_some, List.append_assoc, List.singleton_append]
     have : k2 + p.2 = k1 + (p.2 + (r.length - t.length)) := by omega
     exact congrArg (fun k => some (out ++ c :: p.1, true, scn s k)) this
def zw1 (r : Str) : Option (Str × Nat) := if zhI 34 r then (zcC (zav 34 r)).map (fun p => (p.1, p.2 + 1)) else none
theorem zm5 (hs : s.length < 1000000000) (h : At s k r) : ziF (scn s k) = some (match zw1 r with | some p => (p.1, true, scn s (k + p.2)) | none => ([], false, scn s k)) := by
 unfold ziF zw1
 rw [zlo, Option.bind_some]
 obtain ⟨k1, h1, e1⟩ := zgC hs 34 h
 rw [e1, Option.bind_some]
 have l0 := h.len
 have l1 := h1.len
 cases hb : zhI 34 r with
 | false =>
  rw [zoo hb] at h1
  have hk1 : k1 = k := by have := h1.len; omega
  subst hk1
  exact zl4 k1 999999999999999999 (Nat.le_refl _) []
 | true =>
  have hr := congrArg List.length (zgP hb)
  simp only [List.length_cons] at hr
  have hk1 : k1 = k + 1 := by omega
  subst hk1
  have := zo8 hs k fuel (zav 34 r) (k + 1) [] (by unfold fuel; omega) h1 (by omega) (by simp)
  dsimp only [scn] at this ⊢
  rw [this, if_pos rfl]
  cases zcC (zav 34 r) with
  | none => rfl
  | some p => simp only [Option.map_some, List.nil_append]; rw [show k + 1 + p.2 = k + (p.2 + 1) by omega]
theorem zdB (hs : s.length < 1000000000) (p : commas_splitter) : ∀ (n : Nat) (r : Str) (k d : Nat), r.length + 1 < n → At s k r → d ≤ k + 1 →
  ∃ k', (∀ m, ze9 d r = some m → k' = k + m) ∧ k' ≤ s.length ∧ zs p n s (k : Int) (d : Int) = some ((ze9 d r).isSome, ⟨scn s k', p.f_out, p.f_from, p.f_s⟩)
 | 0, _, _, _, h, _, _ => by omega
 | n + 1, r, k, 0, hn, h, hd => by
  refine ⟨k, fun m hm => (by rw [zpk] at hm; cases hm; rfl), h.le, ?_⟩
  rw [zs, zpk]
  rfl
 | n + 1, r, k, d + 1, hn, h, hd => by
  have hl := h.len
  rw [zs, decide_eq_true (show (0 : Int) < ((d + 1 : Nat) : Int) by omega), if_pos rfl, zlK, zo7 h, Option.bind_some]
  cases r with
  | nil => exact ⟨k, fun m hm => (by cases hm), h.le, rfl⟩
  | cons c t =>
   simp only [List.length_cons] at hn hl
   obtain ⟨k1, h1, e1⟩ := zgC hs c h
   rw [zaE] at h1
   have hk1 : k1 = k + 1 := by have := h1.len; omega
   subst hk1
   have i1 : zx ((d + 1 : Nat) : Int) 1 = some ((d + 2 : Nat) : Int) := zo (by omega)
   have i2 : zdC ((d + 1 : Nat) : Int) 1 = some (d : Int) := by rw [zc3 (by omega) (by omega)]; simp
   rw [show (zw0 (c :: t)) = (c, true) from rfl]
   dsimp only
   rw [Bool.not_true, if_neg (by decide), e1, Option.bind_some, i1, Option.bind_some, i2, Option.bind_some]
   dsimp only [scn]
   rw [zlK, zo7 h1, Option.bind_some]
   cases c40 : c == 40 with
   | true =>
    have : c = 40 := by simpa using c40
    subst this
    obtain ⟨k', g1, g2, g3⟩ := zdB hs p n t (k + 1) (d + 2) (by omega) h1 (by omega)
    refine ⟨k', fun m hm => ?_, g2, ?_⟩
    ·rw [znc] at hm; obtain ⟨m', hm', rfl⟩ := Option.map_eq_some_iff.1 hm; rw [g1 m' hm']; omega
    ·rw [if_pos rfl, g3, znc]; simp [scn]
   | false =>
    rw [if_neg (by decide)]
    cases c41 : c == 41 with
    | true =>
     have : c = 41 := by simpa using c41
     subst this
     obtain ⟨k', g1, g2, g3⟩ := zdB hs p n t (k + 1) d (by omega) h1 (by omega)
     refine ⟨k', fun m hm => ?_, g2, ?_⟩
     ·rw [zlj] at hm; obtain ⟨m', hm', rfl⟩ := Option.map_eq_some_iff.1 hm; rw [g1 m' hm']; omega
     ·rw [if_pos rfl, g3, zlj]; simp [scn]
    | false =>
     rw [if_neg (by decide)]
     cases c92 : c == 92 with
     | true =>
      have : c = 92 := by simpa using c92
      subst this
      rw [if_pos rfl]
      cases t with
      | nil =>
       obtain ⟨k', g1, g2, g3⟩ := zdB hs p n [] (k + 1) (d + 1) (by simp; omega) h1 (by omega)
       exact ⟨k', fun m hm => (by rw [zpl] at hm; cases hm), g2, by rw [if_neg (by decide), g3]; rfl⟩
      | cons x u =>
       simp only [List.length_cons] at hn hl
       obtain ⟨k2, h2, e2⟩ := zgC hs x h1
       rw [zaE] at h2
       have hk2 : k2 = k + 2 := by have := h2.len; omega
       subst hk2
       obtain ⟨k', g1, g2, g3⟩ := zdB hs p n u (k + 2) (d + 1) (by omega) h2 (by omega)
       dsimp only [scn] at e2 g3 ⊢
       refine ⟨k', fun m hm => ?_, g2, ?_⟩
       ·rw [zor] at hm; obtain ⟨m', hm', rfl⟩ := Option.map_eq_some_iff.1 hm; rw [g1 m' hm']; omega
       ·rw [show (zw0 (x :: u)) = (x, true) from rfl]
        dsimp only
        rw [if_pos rfl, e2, Option.bind_some, g3, zor]; simp
     | false =>
      obtain ⟨k', g1, g2, g3⟩ := zdB hs p n t (k + 1) (d + 1) (by omega) h1 (by omega)
      refine ⟨k', fun m hm => ?_, g2, ?_⟩
      ·rw [zos d t c40 c41 c92] at hm; obtain ⟨m', hm', rfl⟩ := Option.map_eq_some_iff.1 hm; rw [g1 m' hm']; omega
      ·rw [if_neg (by decide), g3, zos d t c40 c41 c92]; simp [scn]
def mid (s : Str) (a b : Nat) : Str := (s.take b).drop a
theorem zo9 {a n : Nat} (h : At s k r) (ha : a ≤ k) (hn : n ≤ r.length) : mid s a (k + n) = mid s a k ++ r.take n := by
 unfold mid
 have hl := h.len
 rw [List.take_add, h.drop, List.drop_append_of_le_length (by simp; omega)]
theorem zpa (s : Str) (a : Nat) : mid s a a = [] := by unfold mid; simp
theorem zw2 (s : Str) (a b : Nat) : (mid s a b).length ≤ s.length := by unfold mid; simp; omega
def zqk (out : List Str) (x : Str) : List Str := if zkG x == [] then out else out ++ [zkG x]
theorem zvF (out : List Str) (x : Str) : zqk out x = out ++ elems [x] := by
 unfold zqk elems
 rw [List.map_cons, List.map_nil, List.filter_cons]
 cases h : zkG x == [] with
 | true => rw [if_pos rfl, Bool.not_true, if_neg (by decide), List.filter_nil, List.append_nil]
 | false => rw [if_neg (by decide), Bool.not_false, if_pos rfl, List.filter_nil]
theorem zxK (out : List Str) (x : Str) : (zqk out x).length ≤ out.length + 1 := by unfold zqk; split <;> simp
theorem zzM (hs : s.length < 1000000000) (out : List Str) (ho : out.length < 4000000000) (a b pos : Nat) (ha : a ≤ b) (hb : b ≤ s.length) : zbv ⟨scn s pos, out, (a : Int), s⟩ (b : Int) = some ⟨scn s pos, zqk out (mid s a b), (pos : Int), s⟩ := by
 unfold zbv
 have hl := zw2 s a b
 rw [zeK ha hb, Option.bind_some]
 show (zdh (mid s a b) [32, 9]).bind _ = _
 rw [zlT _ (by omega), Option.bind_some]
 unfold zbp zqk
 show (if (!(zkG (mid s a b) == [])) = true then _ else _) = _
 cases zkG (mid s a b) == [] with
 | true => rfl
 | false => rw [Bool.not_false, if_pos rfl, if_pos (zcl (n := out.length) (m := 1) (by omega) (by omega))]; rfl
theorem zql (t : Str) : zdQ 34 t = match zcC t with | some p => p.2 + 1 | none => 0 := rfl
theorem zr5 (t : Str) : zdQ 40 t = match ze9 1 t with | some n => n + 1 | none => 0 := rfl
theorem zAJ (hs : s.length < 1000000000) (out : List Str) (ho : out.length ≤ k) (a : Nat) (ha : a ≤ k) (c : UInt8) (t : Str) (h : At s k (c :: t)) :
    (c = 44 → zaj ⟨scn s k, out, (a : Int), s⟩ = some (true, ⟨scn s (k + 1), zqk out (mid s a k), ((k + 1 : Nat) : Int), s⟩)) ∧
    ((c == 34 || c == 40) = true → zdQ c t ≠ 0 → zaj ⟨scn s k, out, (a : Int), s⟩ = some (true, ⟨scn s (k + zdQ c t), out, (a : Int), s⟩)) ∧
    ((c == 34 || c == 40) = true → zdQ c t = 0 → ∃ p, zaj ⟨scn s k, out, (a : Int), s⟩ = some (false, p)) ∧
    ((c == 34 || c == 40) = false → (c == 44) = false → zaj ⟨scn s k, out, (a : Int), s⟩ = some (true, ⟨scn s (k + 1), out, (a : Int), s⟩)) := by
  have hl := h.len
  simp only [List.length_cons] at hl
  have e44 := zhc 44 h.le hs h.drop
  have e40 := zhc 40 h.le hs h.drop
  have ec := zhc c h.le hs h.drop
  rw [beq_self_eq_true, if_pos rfl] at ec
  unfold zaj
  rw [show (⟨scn s k, out, (a : Int), s⟩ : commas_splitter).Scanner = scn s k from rfl, zlo, Option.bind_some]
  have hno : (c == 34 || c == 40) = true → (c == 44) = false := fun hc => by
    cases h4 : c == 44 with
    | false => rfl
    | true => have : c = 44 := by simpa using h4
              subst this; exact absurd hc (by decide)
  have n44 : (c == 44) = false → zn (scn s k) 44 = some (false, scn s k) := fun h => by rw [e44, h]; rfl
  have n40 : (c == 40) = false → zn (scn s k) 40 = some (false, scn s k) := fun h => by rw [e40, h]; rfl
  have y40 : c = 40 → zn (scn s k) 40 = some (true, scn s (k + 1)) := fun h => by rw [e40, h]; rfl
  have pk : zB (scn s k) = some (c, true) := zo7 h
  refine ⟨fun hc => ?_, fun hc hp => ?_, fun hc hp => ?_, fun hc h44 => ?_⟩
  · subst hc
    have y44 : zn (scn s k) 44 = some (true, scn s (k + 1)) := e44
    rw [y44, Option.bind_some]
    dsimp only
    rw [if_pos rfl, zzM hs out (by omega) a k (k + 1) ha h.le, Option.bind_some]
    rfl
  · rw [n44 (hno hc), Option.bind_some]
    dsimp only
    rw [if_neg (by decide)]
    cases h40 : c == 40 with
    | true =>
      have : c = 40 := by simpa using h40
      subst this
      have h1 := h.next 1 (by simp)
      obtain ⟨k', g1, _, g3⟩ := zdB hs ⟨scn s (k + 1), out, (a : Int), s⟩ fuel t (k + 1) 1 (by unfold fuel; omega) h1 (by omega)
      rw [zr5] at hp ⊢
      rw [y40 rfl, Option.bind_some]
      dsimp only
      rw [if_pos rfl]
      unfold zbd
      cases hm : ze9 1 t with
      | none => rw [hm] at hp; exact absurd rfl hp
      | some m =>
        rw [hm] at g3
        have hk' := g1 m hm
        subst hk'
        have g3 : zs ⟨scn s (k + 1), out, (a : Int), s⟩ fuel (scn s (k + 1)).f_s (scn s (k + 1)).f_at 1 = some (true, ⟨scn s (k + 1 + m), out, (a : Int), s⟩) := g3
        dsimp only
        rw [g3, Option.bind_some, show k + 1 + m = k + (m + 1) by omega]
    | false =>
      have h34 : c = 34 := by rw [h40, Bool.or_false] at hc; simpa using hc
      subst h34
      rw [zql] at hp ⊢
      rw [n40 h40, Option.bind_some]
      dsimp only
      rw [if_neg (by decide), pk, Option.bind_some]
      dsimp only
      rw [if_pos (by decide), zm5 hs h, Option.bind_some]
      unfold zw1
      rw [zbT, zaE]
      cases hq : zcC t with
      | none => rw [hq] at hp; exact absurd rfl hp
      | some p => rfl
  · rw [n44 (hno hc), Option.bind_some]
    dsimp only
    rw [if_neg (by decide)]
    cases h40 : c == 40 with
    | true =>
      have : c = 40 := by simpa using h40
      subst this
      have h1 := h.next 1 (by simp)
      obtain ⟨k', g1, _, g3⟩ := zdB hs ⟨scn s (k + 1), out, (a : Int), s⟩ fuel t (k + 1) 1 (by unfold fuel; omega) h1 (by omega)
      rw [zr5] at hp
      rw [y40 rfl, Option.bind_some]
      dsimp only
      rw [if_pos rfl]
      unfold zbd
      cases hm : ze9 1 t with
      | some m => rw [hm] at hp; exact absurd hp (by simp)
      | none =>
        rw [hm] at g3
        have g3 : zs ⟨scn s (k + 1), out, (a : Int), s⟩ fuel (scn s (k + 1)).f_s (scn s (k + 1)).f_at 1 = some (false, ⟨scn s k', out, (a : Int), s⟩) := g3
        dsimp only
        exact ⟨_, by rw [g3, Option.bind_some]⟩
    | false =>
      have h34 : c = 34 := by rw [h40, Bool.or_false] at hc; simpa using hc
      subst h34
      rw [zql] at hp
      rw [n40 h40, Option.bind_some]
      dsimp only
      rw [if_neg (by decide), pk, Option.bind_some]
      dsimp only
      rw [if_pos (by decide), zm5 hs h, Option.bind_some]
      unfold zw1
      rw [zbT, zaE]
      cases hq : zcC t with
      | some p => rw [hq] at hp; exact absurd hp (by simp)
      | none => exact ⟨_, rfl⟩
  · simp only [Bool.or_eq_false_iff] at hc
    rw [n44 h44, Option.bind_some]
    dsimp only
    rw [if_neg (by decide), n40 hc.2, Option.bind_some]
    dsimp only
    rw [if_neg (by decide), pk, Option.bind_some]
    dsimp only
    rw [hc.1, if_neg (by decide), ec, Option.bind_some]
    rfl
def zm6 (s : Str) : List Str × Int := match zg9 s with
 | some l => (l, 0)
 | none => ([], 2)
theorem zku (hs : s.length < 1000000000) : ∀ (n : Nat) (r : Str) (k a : Nat) (out : List Str), r.length < n → At s k r → a ≤ k → out.length ≤ k →
  zbC s n out (a : Int) s s (k : Int) = some (match zg8 0 (mid s a k) r with | some l => (out ++ elems l, 0) | none => ([], 2))
 | 0, _, _, _, _, h, _, _, _ => by omega
 | n + 1, r, k, a, out, hn, h, ha, ho => by
  have hl := h.len
  rw [zbC, zlK, zwx h, Option.bind_some]
  cases r with
  | nil =>
   have hk : k = s.length := by simpa using hl
   subst hk
   unfold zgy
   rw [zlK, zzM hs out (by omega) a s.length s.length ha (Nat.le_refl _), Option.bind_some, zqM]
   dsimp only
   rw [zvF]
   rfl
  | cons c t =>
   simp only [List.length_cons] at hn hl
   obtain ⟨s1, s2, s3, s4⟩ := zAJ hs out ho a ha c t h
   have hne : (!((c :: t : Str) == [])) = true := rfl
   have m1 := zo9 (a := a) (n := 1) h ha (by simp)
   rw [hne, if_pos rfl]
   cases hc : (c == 34 || c == 40) with
   | true =>
    rw [zth _ t hc]
    by_cases hp : zdQ c t = 0
    ·obtain ⟨p, e⟩ := s3 hc hp
     rw [if_pos hp, e, Option.bind_some]
     rfl
    ·have hple := zug c t
     rw [if_neg hp, s2 hc hp, Option.bind_some]
     have hat := h.next (zdQ c t) (by simp; omega)
     have ih := zku hs n _ (k + zdQ c t) a out (by simp; omega) hat (by omega) (by omega)
     rw [zo9 h ha (by simp; omega)] at ih
     obtain ⟨q, hq⟩ : ∃ q, zdQ c t = q + 1 := ⟨zdQ c t - 1, by omega⟩
     rw [hq] at ih hple ⊢
     rw [Nat.add_sub_cancel, zpm q _ t (by omega)]
     dsimp only [scn]
     rw [Bool.not_true, if_neg (by decide), ih]
     simp
   | false =>
    cases h44 : c == 44 with
    | true =>
     have : c = 44 := by simpa using h44
     subst this
     rw [s1 rfl, Option.bind_some, znW]
     have hat := h.next 1 (by simp)
     have hpl := zxK out (mid s a k)
     have ih := zku hs n t (k + 1) (k + 1) (zqk out (mid s a k)) (by omega) hat (Nat.le_refl _) (by omega)
     rw [zpa] at ih
     dsimp only [scn]
     rw [Bool.not_true, if_neg (by decide), ih]
     cases zg8 0 [] t with
     | none => rfl
     | some l =>
      simp only [Option.map_some]
      rw [zvF, show mid s a k :: l = [mid s a k] ++ l from rfl, zw7, List.append_assoc]
    | false =>
     rw [s4 hc h44, Option.bind_some, zqN _ t hc h44]
     have hat := h.next 1 (by simp)
     have ih := zku hs n t (k + 1) a out (by omega) hat (by omega) (by omega)
     rw [m1] at ih
     dsimp only [scn]
     rw [Bool.not_true, if_neg (by decide), ih]
     rfl
theorem zl5 (s : Str) (hs : s.length < 1000000000) : zfV s = some (zm6 s) := by
 unfold zfV zm6 zg9
 rw [zj6, Option.bind_some]
 have := zku hs fuel s 0 0 [] (by unfold fuel; omega) (At.zero s) (Nat.le_refl _) (by simp)
 rw [zpa] at this
 show zbC s fuel [] ((0 : Nat) : Int) s s ((0 : Nat) : Int) = _
 rw [this]
 cases zg8 0 [] s with
 | none => rfl
 | some l => rfl
end
end Go.Dm
end
section
namespace Go.Dm
theorem zzA {s : Str} {i : Nat} {c : UInt8} (h : s[i]? = some c) : zg7 s (i : Int) ((i + 1 : Nat) : Int) = some [c] := by
 have hlt := (List.getElem?_eq_some_iff.1 h).1
 rw [zeK (by omega) (by omega), List.drop_take, show i + 1 - i = 1 by omega, List.drop_eq_getElem_cons hlt, List.take_succ_cons, List.take_zero, (List.getElem?_eq_some_iff.1 h).2]
theorem zqd (rec2 : Str → Int → Option (Str × Int)) (s out : Str) (i : Nat) (c : UInt8) (h : s[i]? = some c) (hs : s.length < 1000000000) (ho : out.length < 1000000000) (q : Bool) :
  zcY rec2 s out (i : Int) q = if q then some ([], 0) else rec2 (out ++ [c]) ((i + 1 : Nat) : Int) := by
 have hlt := (List.getElem?_eq_some_iff.1 h).1
 unfold zcY
 rw [zo (by omega), Option.bind_some, zzA h, Option.bind_some, zD (by simp; omega), Option.bind_some, Option.bind_some]
theorem zmN (s : Str) (hs : s.length < 1000000000) : ∀ (n i : Nat) (out : Str), i ≤ s.length → s.length - i < n → out.length ≤ i →
  zaD s n out (i : Int) = some (match zcC (s.drop i) with | some p => (out ++ p.1, ((i + p.2 : Nat) : Int)) | none => ([], 0))
 | 0, _, _, _, h, _ => by omega
 | n + 1, i, out, hi, h, ho => by
  rw [zaD]
  cases hd : s.drop i with
  | nil =>
   have : i = s.length := by have := congrArg List.length hd; simp at this; omega
   rw [decide_eq_false (by omega), if_neg (by decide)]
   rfl
  | cons c r =>
   obtain ⟨hlt, hr⟩ := zhd hd
   have hx : s[i]? = some c := by have := congrArg (·[0]?) hd; simpa using this
   have hrl : r.length = s.length - (i + 1) := by rw [← hr]; simp
   rw [decide_eq_true (show (i : Int) < (s.length : Int) by omega), if_pos rfl, zW, hx, Option.bind_some, zo (by omega), Option.bind_some, Option.bind_some, Option.bind_some]
   cases h34 : c == 34 with
   | true =>
    have : c = 34 := by simpa using h34
    subst this
    rw [if_pos rfl, zpg]; simp
   | false =>
    rw [if_neg (by decide)]
    unfold zfD
    cases h92 : c == 92 with
    | true =>
     have : c = 92 := by simpa using h92
     subst this
     rw [if_pos rfl]
     cases r with
     | nil =>
      simp only [List.length_nil] at hrl
      have : (((i + 1 : Nat) : Int) == (s.length : Int)) = true := by simp; omega
      rw [this, if_pos rfl, znV]
      unfold zcY
      rw [if_pos rfl]
     | cons d t =>
      obtain ⟨hlt2, hr2⟩ := zhd hr
      have hx2 : s[i + 1]? = some d := by have := congrArg (·[0]?) hr; simpa using this
      have : (((i + 1 : Nat) : Int) == (s.length : Int)) = false := beq_eq_false_iff_ne.2 (by omega)
      have ih := zmN s hs n (i + 2) (out ++ [d]) (by omega) (by omega) (by simp; omega)
      rw [show i + 2 = i + 1 + 1 from rfl, hr2] at ih
      rw [this, if_neg (by decide), zW, hx2, Option.bind_some, zhi, Option.bind_some, zqd _ _ _ _ d hx2 hs (by omega), zph, ih]
      cases zgd d with
      | false => rfl
      | true =>
       rw [Bool.not_true, if_neg (by decide), if_pos rfl]
       cases zcC t with
       | none => rfl
       | some p => simp only [Option.map_some, List.append_assoc, List.singleton_append]; rw [show i + 1 + 1 + p.2 = i + (p.2 + 2) by omega]
    | false =>
     have : ((i : Int) == (s.length : Int)) = false := beq_eq_false_iff_ne.2 (by omega)
     have ih := zmN s hs n (i + 1) (out ++ [c]) (by omega) (by omega) (by simp; omega)
     rw [hr] at ih
     rw [if_neg (by decide), this, if_neg (by decide), zW, hx, Option.bind_some, zhi, Option.bind_some, zqd _ _ _ _ c hx hs (by omega), zpi r h34 h92, ih]
     cases zgd c with
     | false => rfl
     | true =>
      rw [Bool.not_true, if_neg (by decide), if_pos rfl]
      cases zcC r with
      | none => rfl
      | some p => simp only [Option.map_some, List.append_assoc, List.singleton_append]; rw [show i + 1 + p.2 = i + (p.2 + 1) by omega]
theorem zvq (r : Str) (hs : r.length < 900000000) : ziM (34 :: r) = some (match zcC r with | some p => (p.1, ((p.2 + 1 : Nat) : Int)) | none => ([], 0)) := by
 unfold ziM zfE
 have h0 : (((34 :: r : Str).length : Int) == 0) = false := beq_eq_false_iff_ne.2 (by simp only [List.length_cons]; omega)
 have := zmN (34 :: r) (by simp; omega) fuel 1 [] (by simp) (by simp only [List.length_cons]; unfold fuel; omega) (by simp)
 rw [h0, if_neg (by decide), zjV, List.getElem?_cons_zero, Option.bind_some]
 show zaD (34 :: r) fuel [] ((1 : Nat) : Int) = _
 rw [this]
 show some (match zcC r with | some p => (([] : Str) ++ p.1, ((1 + p.2 : Nat) : Int)) | none => ([], 0)) = _
 cases zcC r with
 | none => rfl
 | some p => simp only [List.nil_append, Nat.add_comm]
theorem zqe (s : Str) (hs : s.length < 900000000) : ∀ (n i d : Nat), i ≤ s.length + 1 → s.length + 1 - i < n → d ≤ i → zS s n ((d + 1 : Nat) : Int) (i : Int) = some (match ze9 (d + 1) (s.drop i) with | some m => ((i + m : Nat) : Int) | none => 0)
 | 0, _, _, _, h, _ => by omega
 | n + 1, i, d, hi, h, hdi => by
  rw [zS]
  cases hd : s.drop i with
  | nil =>
   have : s.length ≤ i := by have := congrArg List.length hd; simp at this; omega
   rw [decide_eq_false (by omega), if_neg (by decide)]
   rfl
  | cons c r =>
   obtain ⟨hlt, hr⟩ := zhd hd
   have hx : s[i]? = some c := by have := congrArg (·[0]?) hd; simpa using this
   have j2 : ∀ (d' i' : Nat), i' < 4000000000 → zaY (zS s n) ((d' + 1 : Nat) : Int) (i' : Int) = zS s n ((d' + 1 : Nat) : Int) ((i' + 1 : Nat) : Int) := fun d' i' h' => by
    unfold zaY
    have : (((d' + 1 : Nat) : Int) == 0) = false := beq_eq_false_iff_ne.2 (by omega)
    rw [this, if_neg (by decide), zo (by omega), Option.bind_some]
   have i1 : zx ((d + 1 : Nat) : Int) 1 = some ((d + 1 + 1 : Nat) : Int) := zo (by omega)
   have i2 : zdC ((d + 1 : Nat) : Int) 1 = some (d : Int) := by rw [zc3 (by omega) (by omega)]; simp
   rw [decide_eq_true (show (i : Int) < (s.length : Int) by omega), if_pos rfl, zW, hx, Option.bind_some, i1, Option.bind_some, i2, Option.bind_some, zo (by omega), Option.bind_some, j2 _ _ (by omega), j2 _ _ (by omega), j2 _ _ (by omega)]
   have ih := fun i' d' h1 h2 h3 => zqe s hs n i' d' h1 h2 h3
   cases c40 : c == 40 with
   | true =>
    have : c = 40 := by simpa using c40
    subst this
    rw [if_pos rfl, ih (i + 1) (d + 1) (by omega) (by omega) (by omega), hr, znc]
    cases ze9 (d + 2) r with
    | none => rfl
    | some m => simp only [Option.map_some]; rw [show i + 1 + m = i + (m + 1) by omega]
   | false =>
    rw [if_neg (by decide)]
    cases c41 : c == 41 with
    | true =>
     have : c = 41 := by simpa using c41
     subst this
     rw [if_pos rfl, zlj]
     cases d with
     | zero =>
      rw [zpk]
      unfold zaY
      rw [if_pos (by decide), zo (by omega)]
      rfl
     | succ d =>
      rw [j2 _ _ (by omega), ih (i + 1) d (by omega) (by omega) (by omega), hr]
      cases ze9 (d + 1) r with
      | none => rfl
      | some m => simp only [Option.map_some]; rw [show i + 1 + m = i + (m + 1) by omega]
    | false =>
     rw [if_neg (by decide)]
     cases c92 : c == 92 with
     | true =>
      have : c = 92 := by simpa using c92
      subst this
      rw [if_pos rfl, ih (i + 1 + 1) d (by omega) (by omega) (by omega)]
      cases r with
      | nil =>
       have : s.drop (i + 1 + 1) = [] := by rw [← List.drop_drop, hr]; rfl
       rw [this, zpl]
       rfl
      | cons x t =>
       have : s.drop (i + 1 + 1) = t := by rw [← List.drop_drop, hr]; rfl
       rw [this, zor]
       cases ze9 (d + 1) t with
       | none => rfl
       | some m => simp only [Option.map_some]; rw [show i + 1 + 1 + m = i + (m + 2) by omega]
     | false =>
      rw [if_neg (by decide), ih (i + 1) d (by omega) (by omega) (by omega), hr, zos d r c40 c41 c92]
      cases ze9 (d + 1) r with
      | none => rfl
      | some m => simp only [Option.map_some]; rw [show i + 1 + m = i + (m + 1) by omega]
theorem zrR (c : UInt8) (r : Str) (hs : r.length < 800000000) (hc : (c == 34 || c == 40) = true) : ziN (c :: r) = some (zdQ c r : Int) := by
 unfold ziN zdQ
 rw [zjV, List.getElem?_cons_zero, Option.bind_some]
 cases h34 : c == 34 with
 | true =>
  have : c = 34 := by simpa using h34
  subst this
  rw [if_pos rfl, if_pos rfl, zvq r (by omega), Option.bind_some]
  cases zcC r <;> rfl
 | false =>
  have h40 : c = 40 := by rw [h34, Bool.false_or] at hc; simpa using hc
  subst h40
  rw [if_neg (by decide), if_neg (by decide), show fuel = 999999999999999999 + 1 from rfl, zS]
  have h0 : decide ((0 : Int) < ((40 :: r : Str).length : Int)) = true := decide_eq_true (by simp only [List.length_cons]; omega)
  rw [h0, if_pos rfl, zjV, List.getElem?_cons_zero, Option.bind_some, if_pos (by decide), show zx 0 1 = some 1 from by decide, Option.bind_some]
  unfold zaY
  rw [if_neg (by decide), show zx 0 1 = some 1 from by decide, Option.bind_some]
  have := zqe (40 :: r) (by simp; omega) 999999999999999999 1 0 (by simp) (by simp only [List.length_cons]; omega) (by omega)
  show zS (40 :: r) 999999999999999999 ((0 + 1 : Nat) : Int) ((1 : Nat) : Int) = _
  rw [this]
  show some (match ze9 1 r with | some m => ((1 + m : Nat) : Int) | none => 0) = _
  cases ze9 1 r with
  | none => rfl
  | some m => simp only [Nat.add_comm]
theorem zvr (l : List Str) (x : Str) (hl : l.length < 900000000) : zaZ l x fuel [] 0 = some ((l ++ [x]).filter (fun x => !(x == [])), 0) := by
 have key : ∀ (n i : Nat) (out : List Str), i ≤ (l ++ [x]).length → (l ++ [x]).length - i < n → out.length ≤ i → zaZ l x n out (i : Int) = some (out ++ ((l ++ [x]).drop i).filter (fun x => !(x == [])), 0) := by
  have hll : (l ++ [x]).length = l.length + 1 := by simp
  intro n
  induction n with
  | zero => intro i _ _ h; omega
  | succ n ih =>
   intro i out hi h ho
   rw [zaZ]
   by_cases hlt : i < (l ++ [x]).length
   ·have g : (l ++ [x])[i]? = some (l ++ [x])[i] := List.getElem?_eq_getElem hlt
    unfold zfG
    rw [decide_eq_true (show (i : Int) < ((l ++ [x]).length : Int) by omega), if_pos rfl, zas, g, Option.bind_some, Option.bind_some, if_pos (zcl (by omega) (by omega)), zo (by omega), Option.bind_some, Option.bind_some, ih (i + 1) _ (by omega) (by omega) (by simp; omega), ih (i + 1) _ (by omega) (by omega) (by omega), List.drop_eq_getElem_cons hlt, List.filter_cons]
    cases (l ++ [x])[i] == [] <;> simp
   ·have : i = (l ++ [x]).length := by omega
    subst this
    rw [decide_eq_false (by omega), if_neg (by decide), List.drop_length]
    simp
 have := key fuel 0 [] (Nat.zero_le _) (by simp; unfold fuel; omega) (by simp)
 rw [List.drop_zero, List.nil_append] at this
 exact this
theorem ze4 (s : Str) (hs : s.length < 800000000) : ∀ (n k a : Nat) (out : List Str), k ≤ s.length → s.length - k < n → a ≤ k → out.length ≤ k →
  zah s n out (a : Int) (k : Int) = some (match zg8 0 (mid s a k) (s.drop k) with | some l => ((out ++ l.map zkG).filter (fun x => !(x == [])), 0) | none => ([], 2))
 | 0, _, _, _, _, h, _, _ => by omega
 | n + 1, k, a, out, hk, hn, ha, ho => by
  have hat : At s k (s.drop k) := ⟨hk, rfl⟩
  have hl := hat.len
  rw [zah]
  cases hd : s.drop k with
  | nil =>
   have : k = s.length := by have := congrArg List.length hd; simp at this; omega
   subst this
   have hm : mid s a s.length = s.drop a := by unfold mid; rw [List.take_length]
   have hdl : (s.drop a).length ≤ s.length := by simp
   rw [decide_eq_false (by omega), if_neg (by decide), zab ha, Option.bind_some, zkH _ (by omega), Option.bind_some, if_pos (zcl (by omega) (by omega)), zvr _ _ (by omega), zqM, hm]
   rfl
  | cons c t =>
   obtain ⟨hlt, hr⟩ := zhd hd
   have hx : s[k]? = some c := by have := congrArg (·[0]?) hd; simpa using this
   have htl : t.length = s.length - (k + 1) := by rw [← hr]; simp
   rw [hd] at hat
   have j2t : (c == 34 || c == 40) = true → zcb (zah s n) s out (a : Int) (k : Int) true = some (match zg8 0 (mid s a k) (c :: t) with | some l => ((out ++ l.map zkG).filter (fun x => !(x == [])), 0) | none => ([], 2)) := fun hc => by
    unfold zcb
    rw [if_pos rfl, zab hk, Option.bind_some, hd, zrR c t (by omega) hc, Option.bind_some, zth _ t hc]
    by_cases hp : zdQ c t = 0
    ·rw [hp, if_pos rfl]; rfl
    ·have hple := zug c t
     have h0 : ((zdQ c t : Int) == 0) = false := beq_eq_false_iff_ne.2 (by omega)
     have hadd : zx (k : Int) (zdQ c t : Int) = some ((k + zdQ c t : Nat) : Int) := by rw [zdP (by omega) (by omega)]; simp
     have ih := ze4 s hs n (k + zdQ c t) a out (by omega) (by omega) (by omega) (by omega)
     have hdp : s.drop (k + zdQ c t) = (c :: t).drop (zdQ c t) := by rw [← List.drop_drop, hd]
     rw [zo9 hat ha (by simp; omega), hdp] at ih
     obtain ⟨q, hq⟩ : ∃ q, zdQ c t = q + 1 := ⟨zdQ c t - 1, by omega⟩
     rw [h0, if_neg (by decide), if_neg hp, hadd, Option.bind_some, ih, hq, Nat.add_sub_cancel, zpm q _ t (by omega)]
     simp
   have j2f : (c == 34 || c == 40) = false → zcb (zah s n) s out (a : Int) (k : Int) false = some (match zg8 0 (mid s a k) (c :: t) with | some l => ((out ++ l.map zkG).filter (fun x => !(x == [])), 0) | none => ([], 2)) := fun hc => by
    unfold zcb zfF
    have hml := zw2 s a k
    have hsub : zg7 s (a : Int) (k : Int) = some (mid s a k) := zeK ha hk
    rw [if_neg (by decide), zW, hx, Option.bind_some, hsub, Option.bind_some, zkH _ (by omega), Option.bind_some, if_pos (zcl (by omega) (by omega)), zo (by omega), Option.bind_some, Option.bind_some]
    cases h44 : c == 44 with
    | true =>
     have : c = 44 := by simpa using h44
     subst this
     have ih := ze4 s hs n (k + 1) (k + 1) (out ++ [zkG (mid s a k)]) (by omega) (by omega) (Nat.le_refl _) (by simp; omega)
     rw [zpa, hr] at ih
     rw [if_pos rfl, ih, znW]
     cases zg8 0 [] t with
     | none => rfl
     | some l => simp
    | false =>
     have ih := ze4 s hs n (k + 1) a out (by omega) (by omega) (by omega) (by omega)
     have m1 := zo9 (n := 1) hat ha (by simp)
     rw [m1, hr] at ih
     rw [if_neg (by decide), Option.bind_some, ih, zqN _ t hc h44]
     rfl
   rw [decide_eq_true (show (k : Int) < (s.length : Int) by omega), if_pos rfl, zW, hx, Option.bind_some, Option.bind_some]
   cases h34 : c == 34 with
   | true => rw [if_pos rfl]; exact j2t (by rw [h34]; rfl)
   | false =>
    rw [if_neg (by decide)]
    cases h40 : c == 40 with
    | true => exact j2t (by rw [h40, Bool.or_true])
    | false => exact j2f (by rw [h34, h40]; rfl)
theorem zmO (s : Str) (hs : s.length < 800000000) : zg1 s = some (zm6 s) := by
 unfold zg1 zm6 zg9
 have := ze4 s hs fuel 0 0 [] (Nat.zero_le _) (by unfold fuel; omega) (Nat.le_refl _) (by simp)
 rw [zpa, List.drop_zero] at this
 show zah s fuel [] ((0 : Nat) : Int) ((0 : Nat) : Int) = _
 rw [this]
 cases zg8 0 [] s with
 | none => rfl
 | some l => rfl
end Go.Dm
end
section
namespace Go.Dm
def isN (nm : Str) (f : api_Field) : Bool := low f.Name == low nm
def zbS (m : Nat) (l : List api_Field) : Prop := ∀ f ∈ l, f.Name.length < m ∧ f.Value.length < m
theorem zvx (f : api_Field) (nm : Str) (hf : f.Name.length < 1000000000) (hn : nm.length < 1000000000) : zmW f nm = some (isN nm f) := by
 unfold zmW isN
 rw [zir _ hf, Option.bind_some, zir _ hn, Option.bind_some]
theorem zrY (l : List api_Field) (h : l.length < 1000000000) : zJ l = some l := by
 unfold zJ
 rw [if_pos (zcl (by omega) (by omega))]
theorem zi6 (l : List api_Field) (nm : Str) (hn : nm.length < 1000000000) (hl : l.length < 1000000000) (hs : zbS 1000000000 l) : zdo l nm = some ((l.filter (isN nm)).map (·.Value)) := by
 unfold zdo
 have key : ∀ (n i : Nat) (out : List Str), i ≤ l.length → l.length - i < n → out.length ≤ i → za3 l nm n out (i : Int) = some (out ++ ((l.drop i).filter (isN nm)).map (·.Value)) := by
  intro n
  induction n with
  | zero => intro i _ _ h; omega
  | succ n ih =>
   intro i out hi h ho
   rw [za3]
   by_cases hlt : i < l.length
   ·have g : l[i]? = some l[i] := List.getElem?_eq_getElem hlt
    have hsm := hs l[i] (List.getElem_mem _)
    rw [decide_eq_true (show (i : Int) < (l.length : Int) by omega), if_pos rfl, zas, g, Option.bind_some, zvx _ _ hsm.1 hn, Option.bind_some, Option.bind_some, if_pos (zcl (by omega) (by omega))]
    unfold zeG
    rw [zo (by omega), Option.bind_some, Option.bind_some, ih (i + 1) _ (by omega) (by omega) (by simp; omega), ih (i + 1) _ (by omega) (by omega) (by omega), List.drop_eq_getElem_cons hlt, List.filter_cons]
    cases isN nm l[i] with
    | true => simp
    | false => rfl
   ·have : i = l.length := by omega
    subst this
    rw [decide_eq_false (by omega), if_neg (by decide), List.drop_length]
    simp
 have := key fuel 0 [] (Nat.zero_le _) (by unfold fuel; omega) (by simp)
 rw [List.drop_zero, List.nil_append] at this
 exact this
def cutF (f : api_Field) : api_Field := ⟨f.Name.take 400, f.Value.take 400⟩
def cutL (l : List api_Field) : List api_Field := (l.take 120).map cutF
theorem zhH (s : Str) : zf0 s = some (s.take 400) := by
 unfold zf0
 have := zqK s 400
 rw [show ((400 : Nat) : Int) = 400 from rfl] at this
 rw [this, Option.bind_some]
theorem zt7 (h : api_Head) (hl : h.Fields.length < 1000000000) : zlb h = some ⟨h.Kind, h.Method.take 400, h.Target.take 400, h.Code, h.Reason.take 400, h.Minor, cutL h.Fields⟩ := by
 unfold zlb
 rw [zhH, Option.bind_some, zhH, Option.bind_some, zhH, Option.bind_some]
 have key : ∀ (n i : Nat) (out : List api_Field), i ≤ h.Fields.length → i ≤ 120 → h.Fields.length - i < n → out.length = i → zcz h (h.Method.take 400) (h.Target.take 400) (h.Reason.take 400) n out (i : Int) = some ⟨h.Kind, h.Method.take 400, h.Target.take 400, h.Code, h.Reason.take 400, h.Minor, out ++ ((h.Fields.drop i).take (120 - i)).map cutF⟩ := by
  intro n
  induction n with
  | zero => intro i _ _ _ h; omega
  | succ n ih =>
   intro i out hi h120 hn ho
   rw [zcz]
   unfold zhz
   by_cases hlt : i < h.Fields.length
   ·have g : h.Fields[i]? = some h.Fields[i] := List.getElem?_eq_getElem hlt
    rw [decide_eq_true (show (i : Int) < (h.Fields.length : Int) by omega), if_pos rfl]
    by_cases h2 : i < 120
    ·rw [decide_eq_true (show (i : Int) < 120 by omega), if_pos rfl, zas, g, Option.bind_some, zhH, Option.bind_some, Option.bind_some, zhH, Option.bind_some, if_pos (zcl (by omega) (by omega)), zo (by omega), Option.bind_some, ih (i + 1) _ (by omega) (by omega) (by omega) (by simp; omega), List.drop_eq_getElem_cons hlt, show 120 - i = (120 - (i + 1)) + 1 by omega, List.take_succ_cons]
     simp [cutF]
    ·have : i = 120 := by omega
     subst this
     rw [decide_eq_false (by omega), if_neg (by decide)]
     simp
   ·have : i = h.Fields.length := by omega
    rw [decide_eq_false (by omega), if_neg (by decide), if_neg (by decide), this, List.drop_length]
    simp
 have := key fuel 0 [] (Nat.zero_le _) (by decide) (by unfold fuel; omega) rfl
 exact this
theorem zzG (l : List api_Field) : (cutL l).length ≤ 120 := by unfold cutL; simp; omega
theorem zwr (l : List api_Field) : zbS 401 (cutL l) := by
 intro f hf
 unfold cutL at hf
 obtain ⟨g, _, rfl⟩ := List.mem_map.1 hf
 unfold cutF
 simp; omega
theorem zQ {m n : Nat} (h : m ≤ n) {l : List api_Field} (hs : zbS m l) : zbS n l := fun f hf => by have := hs f hf; omega
end Go.Dm
end
section
namespace Go.Dm
theorem all_takeWhile (p : UInt8 → Bool) (s : Str) : (s.takeWhile p).all p = true := List.all_eq_true.2 fun _ hx => ziu hx
theorem zqu (s : Str) (hs : s.length < 1000000000) : zhy s = some (s.all zgd) := by
 unfold zhy
 have key : ∀ (n i : Nat), i ≤ s.length → s.length - i < n → zcn s n (i : Int) = some ((s.drop i).all zgd) := by
  intro n
  induction n with
  | zero => intro i _ h; omega
  | succ n ih =>
   intro i hi h
   rw [zcn]
   by_cases hlt : i < s.length
   ·have g : s[i]? = some s[i] := List.getElem?_eq_getElem hlt
    rw [decide_eq_true (show (i : Int) < (s.length : Int) by omega), if_pos rfl, zW, g, Option.bind_some, zhi, Option.bind_some, zo (by omega), Option.bind_some, ih (i + 1) (by omega) (by omega), List.drop_eq_getElem_cons hlt, List.all_cons]
    cases zgd s[i] <;> rfl
   ·have : i = s.length := by omega
    subst this
    rw [decide_eq_false (by omega), if_neg Bool.false_ne_true, List.drop_length]
    rfl
 have := key fuel 0 (Nat.zero_le _) (by unfold fuel; omega)
 rw [List.drop_zero] at this
 exact this
end Go.Dm
end
section
namespace Go.Dm
def zge (h : api_Head) : List Str := (h.Fields.filter (isN [104, 111, 115, 116])).map (·.Value)
def zoL (h : api_Head) : Bool := if h.Kind == 1 then (if decide (1 < (zge h).length) || decide (((zge h).length : Int) < h.Minor) then false else (zge h).all (fun x => x == [] || (zcf x).2 == 0)) else true
def zn5 (h : api_Head) : Int := if decide (100 < h.Fields.length) then 3 else if zoL h then 0 else 27
theorem zza : isN ([72, 111, 115, 116] : Str) = isN [104, 111, 115, 116] := by
 funext f
 unfold isN
 have : low ([72, 111, 115, 116] : Str) = low ([104, 111, 115, 116] : Str) := by decide
 rw [this]
theorem zkD (l : List api_Field) (nm : Str) (hn : nm.length < 1000000000) (hl : l.length < 1000000000) (hs : zbS 1000000000 l) : zcU ⟨l⟩ nm = some ((l.filter (isN nm)).map (·.Value)) := by
 unfold zcU zjg
 rw [zrY l hl, Option.bind_some, Option.bind_some]
 have key : ∀ (n i : Nat) (out : List Str), i ≤ l.length → l.length - i < n → out.length ≤ i → zax nm l n out (i : Int) = some (out ++ ((l.drop i).filter (isN nm)).map (·.Value)) := by
  intro n
  induction n with
  | zero => intro i _ _ h; omega
  | succ n ih =>
   intro i out hi h ho
   rw [zax]
   by_cases hlt : i < l.length
   ·have g : l[i]? = some l[i] := List.getElem?_eq_getElem hlt
    have hsm := hs l[i] (List.getElem_mem _)
    rw [decide_eq_true (show (i : Int) < (l.length : Int) by omega), if_pos rfl, zas, g, Option.bind_some, zny _ _ hsm.1 hn, Option.bind_some, if_pos (zcl (by omega) (by omega))]
    unfold zdk
    rw [zo (by omega), Option.bind_some, Option.bind_some, ih (i + 1) _ (by omega) (by omega) (by simp; omega), ih (i + 1) _ (by omega) (by omega) (by omega), List.drop_eq_getElem_cons hlt, List.filter_cons]
    show (if (isN nm l[i]) = true then _ else _) = _
    cases isN nm l[i] with
    | true => simp
    | false => rfl
   ·have : i = l.length := by omega
    subst this
    rw [decide_eq_false (by omega), if_neg Bool.false_ne_true, List.drop_length]
    simp
 have := key fuel 0 [] (Nat.zero_le _) (by unfold fuel; omega) (by simp)
 rw [List.drop_zero, List.nil_append] at this
 exact this
theorem zsm (h : api_Head) (hl : h.Fields.length < 1000000000) (hs : zbS 400000000 h.Fields) : zjK h = some (zoL h) := by
 unfold zjK zoL
 cases h.Kind == 1 with
 | false => rfl
 | true =>
  have hvl : (zge h).length ≤ h.Fields.length := by unfold zge; rw [List.length_map]; exact List.length_filter_le _ _
  have hvm : ∀ v ∈ zge h, v.length < 400000000 := fun v hv => by
   obtain ⟨f, hf, rfl⟩ := List.mem_map.1 hv
   exact (hs f (List.mem_filter.1 hf).1).2
  rw [Bool.not_true, if_neg Bool.false_ne_true, if_pos rfl]
  unfold zng
  rw [zrY _ hl, Option.bind_some, Option.bind_some, zkD _ _ (by decide) hl (zQ (by decide) hs), Option.bind_some, zza]
  show (if decide (1 < ((zge h).length : Int)) = true then zdv (zge h) true else zdv (zge h) (decide (((zge h).length : Int) < h.Minor))) = _
  generalize zge h = vs at hvl hvm
  have key : ∀ (n i : Nat), i ≤ vs.length → vs.length - i < n → zbV vs n (i : Int) = some ((vs.drop i).all (fun x => x == [] || (zcf x).2 == 0)) := by
   intro n
   induction n with
   | zero => intro i _ h; omega
   | succ n ih =>
    intro i hi h
    rw [zbV]
    by_cases hlt : i < vs.length
    ·have g : vs[i]? = some vs[i] := List.getElem?_eq_getElem hlt
     have hsm := hvm vs[i] (List.getElem_mem _)
     unfold zgl
     rw [decide_eq_true (show (i : Int) < (vs.length : Int) by omega), if_pos rfl, zas, g, Option.bind_some, zhh _ hsm, Option.bind_some, zo (by omega), Option.bind_some, ih (i + 1) (by omega) (by omega), List.drop_eq_getElem_cons hlt, List.all_cons]
     cases (zcf vs[i]).2 == 0 <;> cases vs[i] == [] <;> rfl
    ·have : i = vs.length := by omega
     subst this
     rw [decide_eq_false (by omega), if_neg Bool.false_ne_true, List.drop_length]
     rfl
  have hk := key fuel 0 (Nat.zero_le _) (by unfold fuel; omega)
  rw [List.drop_zero] at hk
  unfold zdv
  by_cases h1 : 1 < vs.length
  ·rw [decide_eq_true (show 1 < (vs.length : Int) by omega), decide_eq_true h1]; rfl
  ·rw [decide_eq_false (show ¬ 1 < (vs.length : Int) by omega), decide_eq_false h1, if_neg Bool.false_ne_true, Bool.false_or]
   cases decide ((vs.length : Int) < h.Minor) with
   | true => rfl
   | false => exact hk
theorem zsn (h : api_Head) (hl : h.Fields.length < 1000000000) (hs : zbS 400000000 h.Fields) : zh4 h = some (zn5 h) := by
 unfold zh4 zn5
 rw [zsm h hl hs, Option.bind_some]
 by_cases h1 : 100 < h.Fields.length
 ·rw [decide_eq_true (show 100 < (h.Fields.length : Int) by omega), decide_eq_true h1]; rfl
 ·rw [decide_eq_false (show ¬ 100 < (h.Fields.length : Int) by omega), decide_eq_false h1]
  cases zoL h <;> rfl
structure GoodH (h : api_Head) : Prop where
 kind : h.Kind = 1 ∨ h.Kind = 2
 minor : h.Minor = 0 ∨ h.Minor = 1
theorem hostE (x : Str) : (zcf x).2 = 0 ∨ (zcf x).2 = 27 := by
 unfold zcf
 split
 ·exact .inl rfl
 ·split
  ·exact .inr rfl
  ·split
   ·exact .inl rfl
   ·exact .inr rfl
theorem zra (h : api_Head) (hg : GoodH h) (hl : h.Fields.length < 1000000000) (hs : zbS 400000000 h.Fields) : ziL h = some (zn5 h) := by
 unfold ziL zn5
 by_cases h1 : 100 < h.Fields.length
 ·rw [decide_eq_true (show 100 < (h.Fields.length : Int) by omega), decide_eq_true h1]; rfl
 ·rw [decide_eq_false (show ¬ 100 < (h.Fields.length : Int) by omega), decide_eq_false h1, if_neg Bool.false_ne_true, if_neg Bool.false_ne_true]
  unfold zoL
  rcases hg.kind with hk | hk
  ·rw [hk]
   show ((zdo h.Fields [104, 111, 115, 116]).bind _) = _
   rw [zi6 _ _ (by decide) hl (zQ (by decide) hs), Option.bind_some]
   have hvm : ∀ v ∈ zge h, v.length < 400000000 := fun v hv => by
    obtain ⟨f, hf, rfl⟩ := List.mem_map.1 hv
    exact (hs f (List.mem_filter.1 hf).1).2
   show (if decide (1 < ((zge h).length : Int)) = true then zar (zge h) true else if (h.Minor == 1) = true then zar (zge h) (((zge h).length : Int) == 0) else zar (zge h) false) = some (if (if decide (1 < (zge h).length) || decide (((zge h).length : Int) < h.Minor) then false else (zge h).all (fun x => x == [] || (zcf x).2 == 0)) = true then (0 : Int) else 27)
   generalize zge h = vs at hvm
   match vs, hvm with
   | [], _ => rcases hg.minor with hm | hm <;> rw [hm] <;> rfl
   | [x], hvm =>
    have hx := hvm x (List.mem_cons_self ..)
    have j : zar [x] false = some (if ([x] : List Str).all (fun x => x == [] || (zcf x).2 == 0) then 0 else 27) := by
     unfold zar zfC
     show (if (!(x == [])) = true then (zee x).bind _ else _) = _
     rw [zjz x hx, Option.bind_some, List.all_cons, List.all_nil, Bool.and_true]
     cases hx0 : x == [] with
     | true => rfl
     | false =>
      rcases hostE x with h | h <;> rw [h] <;> rfl
    have e1 : ∀ m : Int, m = 0 ∨ m = 1 → decide ((([x] : List Str).length : Int) < m) = false := fun m h => by
     rcases h with h | h <;> rw [h] <;> rfl
    rw [e1 _ hg.minor]
    show (if (h.Minor == 1) = true then zar [x] false else zar [x] false) = some (if ([x] : List Str).all (fun x => x == [] || (zcf x).2 == 0) = true then (0 : Int) else 27)
    rw [j]
    cases h.Minor == 1 <;> cases ([x] : List Str).all (fun x => x == [] || (zcf x).2 == 0) <;> rfl
   | x :: y :: l, _ =>
    have e1 : decide (1 < ((x :: y :: l : List Str).length : Int)) = true := decide_eq_true (by simp only [List.length_cons]; omega)
    have e2 : decide (1 < (x :: y :: l : List Str).length) = true := decide_eq_true (by simp)
    rw [e1, e2]; rfl
  ·rw [hk]; rfl
theorem zv4 {k : Int} {s : Str} {x : api_Head} (h : zhS k s = (x, 0)) : GoodH x := by
 have hb := zsU h
 rcases zri h with ⟨hk, h⟩ | ⟨hk, h⟩
 ·refine ⟨.inl (hb.kind.trans hk), ?_⟩
  rcases zrH s with (h1 | h1) | ⟨h1, h2⟩
  ·rw [h1] at h; exact absurd (show (26 : Int) = 0 from congrArg Prod.snd h) (by decide)
  ·rw [h1] at h; exact absurd (show (20 : Int) = 0 from congrArg Prod.snd h) (by decide)
  ·obtain ⟨v, _, _, _, _, _, k1, k2, k3, _⟩ := zom h1
   rw [h2] at h
   have hx := congrArg Prod.fst h
   dsimp only at hx
   rw [← hx]
   dsimp only
   rw [k3]
   rcases zjX k1 k2 with ⟨_, e⟩ | ⟨_, e⟩
   ·exact .inl e
   ·exact .inr e
 ·refine ⟨.inr (hb.kind.trans hk), ?_⟩
  unfold zua at h
  split at h
  ·exact absurd (show (26 : Int) = 0 from congrArg Prod.snd h) (by decide)
  ·split at h
   ·rename_i h1
    obtain ⟨b, w, r, e1, e2, _, _⟩ := zlD h1
    have hx := congrArg Prod.fst h
    dsimp only at hx
    rw [← hx]
    dsimp only
    rw [e2, zu9 b _ e1]
    rcases e1 with e | e <;> subst e
    ·exact .inl rfl
    ·exact .inr rfl
   ·exact absurd (show (20 : Int) = 0 from congrArg Prod.snd h) (by decide)
end Go.Dm
end
section
namespace Go.Dm
def ze0 (f : api_Field) : Int := if zhj f.Name then (if f.Value.all zgd && zkG f.Value == f.Value then 0 else 25) else 21
theorem zgG (f : api_Field) (h1 : f.Name.length < 1000000000) (h2 : f.Value.length < 1000000000) : zc9 f = some (ze0 f) := by
 unfold zc9 ze0
 rw [zmt _ h1, Option.bind_some, zdu zhX _ h2, Option.bind_some, zlT _ h2, Option.bind_some]
 cases zhj f.Name <;> cases f.Value.all zgd <;> cases zkG f.Value == f.Value <;> rfl
theorem zmG (f : api_Field) (h1 : f.Name.length < 1000000000) (h2 : f.Value.length < 1000000000) : zg2 f = some (ze0 f) := by
 unfold zg2 ze0
 rw [zjC _ h1, Option.bind_some, zqu _ h2, Option.bind_some, zkH _ h2, Option.bind_some]
 cases zhj f.Name <;> cases f.Value.all zgd <;> cases zkG f.Value == f.Value <;> rfl
def zmH (w : Int) : List api_Field → Int
 | [] => w
 | f :: fs => if ze0 f == 0 then zmH w fs else ze0 f
def zgH (h : api_Head) : Int := if (zhk h).2 == 0 then zmH (zn5 h) h.Fields else (zhk h).2
theorem zzp {h : api_Head} (ht : ((zhk h).2 == 0) = true) : zhk h = (zkV h, 0) ∧ ∃ x, zhS h.Kind (zkV h) = (x, 0) ∧ x.Kind = h.Kind ∧ x.Method = h.Method ∧ x.Target = h.Target ∧ x.Minor = h.Minor ∧ x.Code = h.Code ∧ x.Reason = h.Reason := by
 unfold zhk at ht ⊢
 split
 ·rename_i h1; rw [if_pos h1] at ht; cases ht
 ·rename_i h1
  rw [if_neg h1] at ht
  split
  ·rename_i h2
   refine ⟨rfl, (zhS h.Kind (zkV h)).1, ?_, ?_⟩
   ·rw [Bool.and_eq_true] at h2
    have : (zhS h.Kind (zkV h)).2 = 0 := by simpa using h2.1
    rw [← this]
   ·rw [Bool.and_eq_true] at h2
    have h0 : (zhS h.Kind (zkV h)).2 = 0 := by simpa using h2.1
    have hb := zsU (k := h.Kind) (s := zkV h) (x := (zhS h.Kind (zkV h)).1) (by rw [← h0])
    have hs := h2.2
    unfold zwP at hs
    simp only [Bool.and_eq_true, beq_iff_eq] at hs
    exact ⟨hb.kind, hs.1.1.1.1, hs.1.1.1.2, hs.1.1.2, hs.1.2, hs.2⟩
  ·rename_i h2; rw [if_neg h2] at ht; cases ht
theorem zwi {h : api_Head} (ht : ((zhk h).2 == 0) = true) : GoodH h := by
 obtain ⟨_, x, e, k1, _, _, k4, _, _⟩ := zzp ht
 have := zv4 e
 exact ⟨k1 ▸ this.kind, k4 ▸ this.minor⟩
theorem znR (h : api_Head) (hs : smallH h) (hl : h.Fields.length < 1000000000) (hf : zbS 400000000 h.Fields) : zif h = some (zgH h) := by
 unfold zif zgH
 rw [zj8 h hs, Option.bind_some]
 cases ht : (zhk h).2 == 0 with
 | false => rfl
 | true =>
  rw [Bool.not_true, if_neg Bool.false_ne_true, if_pos rfl]
  have key : ∀ (n i : Nat), i ≤ h.Fields.length → h.Fields.length - i < n → zdw h n (i : Int) = some (zmH (zn5 h) (h.Fields.drop i)) := by
   intro n
   induction n with
   | zero => intro i _ h; omega
   | succ n ih =>
    intro i hi hn
    rw [zdw]
    by_cases hlt : i < h.Fields.length
    ·have g : h.Fields[i]? = some h.Fields[i] := List.getElem?_eq_getElem hlt
     have hsm := hf h.Fields[i] (List.getElem_mem _)
     rw [decide_eq_true (show (i : Int) < (h.Fields.length : Int) by omega), if_pos rfl, zas, g, Option.bind_some, zgG _ (by omega) (by omega), Option.bind_some, zo (by omega), Option.bind_some, ih (i + 1) (by omega) (by omega), List.drop_eq_getElem_cons hlt, zmH]
     cases ze0 h.Fields[i] == 0 <;> rfl
    ·have : i = h.Fields.length := by omega
     subst this
     rw [decide_eq_false (by omega), if_neg Bool.false_ne_true, List.drop_length, zsn h hl hf, Option.bind_some]
     rfl
  have := key fuel 0 (Nat.zero_le _) (by unfold fuel; omega)
  rw [List.drop_zero] at this
  exact this
theorem zrJ (h : api_Head) (hs : smallH h) (hl : h.Fields.length < 1000000000) (hf : zbS 400000000 h.Fields) : ziQ h = some (zgH h) := by
 unfold ziQ zgH
 rw [znE h hs, Option.bind_some]
 cases ht : (zhk h).2 == 0 with
 | false => rfl
 | true =>
  have hg := zwi ht
  rw [Bool.not_true, if_neg Bool.false_ne_true, if_pos rfl]
  have key : ∀ (n i : Nat), i ≤ h.Fields.length → h.Fields.length - i < n → zc0 h n (i : Int) = some (zmH (zn5 h) (h.Fields.drop i)) := by
   intro n
   induction n with
   | zero => intro i _ h; omega
   | succ n ih =>
    intro i hi hn
    rw [zc0]
    by_cases hlt : i < h.Fields.length
    ·have g : h.Fields[i]? = some h.Fields[i] := List.getElem?_eq_getElem hlt
     have hsm := hf h.Fields[i] (List.getElem_mem _)
     rw [decide_eq_true (show (i : Int) < (h.Fields.length : Int) by omega), if_pos rfl, zas, g, Option.bind_some, zmG _ (by omega) (by omega), Option.bind_some, zo (by omega), Option.bind_some, ih (i + 1) (by omega) (by omega), List.drop_eq_getElem_cons hlt, zmH]
     cases ze0 h.Fields[i] == 0 <;> rfl
    ·have : i = h.Fields.length := by omega
     subst this
     rw [decide_eq_false (by omega), if_neg Bool.false_ne_true, List.drop_length, zra h hg hl hf, Option.bind_some]
     rfl
  have := key fuel 0 (Nat.zero_le _) (by unfold fuel; omega)
  rw [List.drop_zero] at this
  exact this
theorem zqc {w : Int} : ∀ {fs : List api_Field}, zmH w fs = 0 → w = 0 ∧ ∀ f ∈ fs, ze0 f = 0
 | [], h => ⟨h, fun f hf => by cases hf⟩
 | f :: fs, h => by
  rw [zmH] at h
  split at h
  ·rename_i h0
   obtain ⟨a, b⟩ := zqc h
   refine ⟨a, fun g hg => ?_⟩
   rcases List.mem_cons.1 hg with e | e
   ·rw [e]; simpa using h0
   ·exact b g e
  ·rename_i h0; rw [h] at h0; exact absurd rfl h0
def zmI (f : api_Field) : Str := if f.Value == [] then f.Name ++ [58] else f.Name ++ [58, 32] ++ f.Value
def zde : List api_Field → Str
 | [] => [13, 10]
 | f :: fs => zmI f ++ 13 :: 10 :: zde fs
def zlY (h : api_Head) : Str := (zhk h).1 ++ 13 :: 10 :: zde h.Fields
theorem znf (f : api_Field) : (zmI f).length ≤ f.Name.length + f.Value.length + 2 := by
 unfold zmI
 split <;> simp <;> omega
theorem zjn {m : Nat} : ∀ {fs : List api_Field}, zbS m fs → (zde fs).length ≤ fs.length * (2 * m + 4) + 2
 | [], _ => by simp [zde]
 | f :: fs, h => by
  have h1 := h f (List.mem_cons_self ..)
  have ih := zjn (m := m) (fs := fs) (fun g hg => h g (List.mem_cons_of_mem _ hg))
  have := znf f
  simp only [zde, List.length_append, List.length_cons, Nat.add_mul]
  omega
theorem zpF {h : api_Head} (hs : smallH h) : (zhk h).1.length < 100000000 := by
 have := zrh hs
 unfold zhk
 split
 ·simp
 ·split
  ·exact this
  ·simp
theorem znS (f : api_Field) (h1 : f.Name.length < 100000000) (h2 : f.Value.length < 100000000) : zii f = some (zmI f) := by
 unfold zii zmI
 rw [zD (by simp; omega), Option.bind_some, zD (by simp; omega), Option.bind_some, zD (by simp; omega), Option.bind_some]
 cases f.Value == [] <;> rfl
theorem zsz (h : api_Head) (hs : smallH h) (hl : h.Fields.length ≤ 200) (hf : zbS 4000 h.Fields) : zjR h = some (zlY h) := by
 have htl := zpF hs
 unfold zjR zlY
 rw [znE h hs, Option.bind_some, zD (by simp; omega), Option.bind_some]
 have key : ∀ (n i : Nat) (u : Str), i ≤ h.Fields.length → h.Fields.length - i < n → u.length ≤ 200000000 + i * 8004 → zdz h n u (i : Int) = some (u ++ zde (h.Fields.drop i)) := by
  intro n
  induction n with
  | zero => intro i _ _ h; omega
  | succ n ih =>
   intro i u hi hn hu
   rw [zdz]
   by_cases hlt : i < h.Fields.length
   ·have g : h.Fields[i]? = some h.Fields[i] := List.getElem?_eq_getElem hlt
    have hsm := hf h.Fields[i] (List.getElem_mem _)
    have := znf h.Fields[i]
    rw [decide_eq_true (show (i : Int) < (h.Fields.length : Int) by omega), if_pos rfl, zas, g, Option.bind_some, znS _ (by omega) (by omega), Option.bind_some, zD (by omega), Option.bind_some, zD (by simp only [List.length_append, List.length_cons, List.length_nil]; omega), Option.bind_some, zo (by omega), Option.bind_some, ih (i + 1) _ (by omega) (by omega) (by simp only [List.length_append, List.length_cons, List.length_nil]; omega), List.drop_eq_getElem_cons hlt, zde]
    simp
   ·have : i = h.Fields.length := by omega
    subst this
    rw [decide_eq_false (by omega), if_neg Bool.false_ne_true, List.drop_length, zD (by simp only [List.length_append, List.length_cons, List.length_nil]; omega), Option.bind_some]
    rfl
 have := key fuel 0 ((zhk h).1 ++ [13, 10]) (Nat.zero_le _) (by unfold fuel; omega) (by simp; omega)
 rw [List.drop_zero, List.append_assoc] at this
 exact this
theorem zkh (f : api_Field) (h1 : f.Name.length < 100000000) (h2 : f.Value.length < 100000000) (hc : ze0 f = 0) : zcd f = some (zmI f, 0) := by
 unfold zcd zmI
 rw [zgG f (by omega) (by omega), Option.bind_some, hc, zD (by simp; omega), Option.bind_some, zD (by simp; omega), Option.bind_some, zD (by simp; omega), Option.bind_some]
 cases f.Value == [] <;> rfl
theorem zi3 (b s : Str) (most : Int) (full : Bool) (hb : (b.length : Int) ≤ most) (hm : most ≤ 9223372036854775807) (hs : s.length < 1000000000) (hbl : b.length < 1000000000) :
  zbt ⟨⟨b, most⟩, full⟩ s = some (if ((b.length + s.length + 2 : Nat) : Int) ≤ most then ⟨⟨b ++ s ++ [13, 10], most⟩, full⟩ else ⟨⟨b, most⟩, true⟩) := by
 unfold zbt zf2 zgA zf1
 dsimp only
 have hsub : zdC most (b.length : Int) = some (most - (b.length : Int)) := zc3 (by omega) (by omega)
 rw [if_pos (show zP 0 ([s] : List Str).length 16 = true from rfl), if_pos (show zP ([s] : List Str).length 1 16 = true from rfl), hsub, Option.bind_some, Option.bind_some]
 rw [show fuel = 999999999999999997 + 1 + 1 + 1 from rfl]
 show ((zao ⟨b, most⟩ [s, [13, 10]] (999999999999999997 + 1 + 1 + 1) (most - (b.length : Int)) ((0 : Nat) : Int)).bind _).bind _ = _
 have L2 : zaa [s, [13, 10]] fuel b most 0 = some (0, ⟨b ++ s ++ [13, 10], most⟩) := by
  rw [show fuel = 999999999999999997 + 1 + 1 + 1 from rfl, show (0 : Int) = ((0 : Nat) : Int) from rfl]
  rw [zaa, decide_eq_true (by simp), if_pos rfl, zas, show ([s, [13, 10]] : List Str)[0]? = some s from rfl, Option.bind_some, if_pos (zcl (by omega) (by omega)), zo (by decide), Option.bind_some]
  rw [zaa, decide_eq_true (by simp), if_pos rfl, zas, show ([s, [13, 10]] : List Str)[0 + 1]? = some [13, 10] from rfl, Option.bind_some, if_pos (zcl (by simp; omega) (by simp; omega)), zo (by decide), Option.bind_some]
  rw [zaa, decide_eq_false (by simp), if_neg Bool.false_ne_true]
  rfl
 rw [zao, decide_eq_true (by simp), if_pos rfl, zas, show ([s, [13, 10]] : List Str)[0]? = some s from rfl, Option.bind_some]
 by_cases h1 : most - (b.length : Int) < (s.length : Int)
 ·rw [decide_eq_true h1, if_pos rfl, Option.bind_some, Option.bind_some, if_neg (show ¬ ((b.length + s.length + 2 : Nat) : Int) ≤ most by omega)]
  rfl
 ·rw [decide_eq_false h1, if_neg Bool.false_ne_true, zc3 (by omega) (by omega), Option.bind_some, zo (by decide), Option.bind_some]
  rw [zao, decide_eq_true (by simp), if_pos rfl, zas, show ([s, [13, 10]] : List Str)[0 + 1]? = some [13, 10] from rfl, Option.bind_some]
  by_cases h2 : most - (b.length : Int) - (s.length : Int) < 2
  ·rw [decide_eq_true (show most - (b.length : Int) - (s.length : Int) < (([13, 10] : Str).length : Int) from h2), if_pos rfl, Option.bind_some, Option.bind_some, if_neg (show ¬ ((b.length + s.length + 2 : Nat) : Int) ≤ most by omega)]
   rfl
  ·rw [decide_eq_false (show ¬ most - (b.length : Int) - (s.length : Int) < (([13, 10] : Str).length : Int) from h2), if_neg Bool.false_ne_true, show (([13, 10] : Str).length : Int) = 2 from rfl, zc3 (by omega) (by omega), Option.bind_some, zo (by decide), Option.bind_some]
   rw [zao, decide_eq_false (by simp), if_neg Bool.false_ne_true]
   show ((zaa [s, [13, 10]] fuel b most 0).bind _).bind _ = _
   rw [L2, Option.bind_some, Option.bind_some, if_pos (show ((b.length + s.length + 2 : Nat) : Int) ≤ most by omega)]
   rfl
def zwj (h : api_Head) (most : Int) : Str × Int := if ((zlY h).length : Int) ≤ most then (zlY h, 0) else ([], 3)
theorem zsA (h : api_Head) (lim : Int) (hli : inI lim = true) (hs : smallH h) (hl : h.Fields.length ≤ 200) (hf : zbS 4000 h.Fields) :
  zjQ h lim = some (if zgH h == 0 then zwj h lim else ([], zgH h)) := by
 have htl := zpF hs
 have hrl := zjn hf
 rw [zhe] at hli
 unfold zjQ
 rw [znR h hs (by omega) (zQ (by decide) hf), Option.bind_some]
 cases hck : zgH h == 0 with
 | false => rfl
 | true =>
  have hc0 : zgH h = 0 := by simpa using hck
  unfold znh
  rw [Bool.not_true, if_neg Bool.false_ne_true, if_pos rfl, Option.bind_some, zj8 h hs, Option.bind_some]
  have hfc : ∀ f ∈ h.Fields, ze0 f = 0 := by
   unfold zgH at hc0
   split at hc0
   ·exact (zqc hc0).2
   ·rename_i hh; rw [hc0] at hh; exact absurd rfl hh
  obtain ⟨most, hmost⟩ : ∃ m, m = max lim 0 := ⟨_, rfl⟩
  have hm0 : 0 ≤ most := by omega
  have hm1 : most ≤ 9223372036854775807 := by omega
  rw [← hmost]
  -- the loop
  have fin : ∀ (t : Bool) (b : Str), (b.length : Int) ≤ most → b.length < 900000000 → zgs t b most = some (if t then ([], 3) else if ((b.length + 2 : Nat) : Int) ≤ most then (b ++ [13, 10], 0) else ([], 3)) := by
   intro t b hb hbl
   unfold zgs
   rw [zi3 b [] most t hb hm1 (by decide) (by omega), Option.bind_some]
   simp only [List.length_nil, Nat.add_zero, List.append_nil]
   split
   ·cases t <;> rfl
   ·cases t <;> rfl
  have key : ∀ (n i : Nat) (t : Bool) (b : Str), i ≤ h.Fields.length → h.Fields.length - i < n → (b.length : Int) ≤ most → b.length ≤ 200000000 + i * 8004 →
    zdx h n t b most (i : Int) = some (if t then ([], 3) else if ((b.length + (zde (h.Fields.drop i)).length : Nat) : Int) ≤ most then (b ++ zde (h.Fields.drop i), 0) else ([], 3)) := by
   intro n
   induction n with
   | zero => intro i _ _ _ h; omega
   | succ n ih =>
    intro i t b hi hn hb hbl
    rw [zdx]
    by_cases hlt : i < h.Fields.length
    ·have g : h.Fields[i]? = some h.Fields[i] := List.getElem?_eq_getElem hlt
     have hsm := hf h.Fields[i] (List.getElem_mem _)
     have htf := znf h.Fields[i]
     rw [decide_eq_true (show (i : Int) < (h.Fields.length : Int) by omega), if_pos rfl, zas, g, Option.bind_some, zkh _ (by omega) (by omega) (hfc _ (List.getElem_mem _)), Option.bind_some, zi3 b _ most t hb hm1 (by dsimp only; omega) (by omega), Option.bind_some, zo (by omega), Option.bind_some, List.drop_eq_getElem_cons hlt, zde]
     dsimp only
     generalize zmI h.Fields[i] = x at htf
     by_cases hfit : ((b.length + x.length + 2 : Nat) : Int) ≤ most
     ·rw [if_pos hfit]
      have := ih (i + 1) t (b ++ x ++ [13, 10]) (by omega) (by omega) (by simp only [List.length_append, List.length_cons, List.length_nil]; omega) (by simp only [List.length_append, List.length_cons, List.length_nil]; omega)
      refine this.trans ?_
      have e1 : (b ++ x ++ [13, 10]).length + (zde (h.Fields.drop (i + 1))).length = b.length + (x ++ 13 :: 10 :: zde (h.Fields.drop (i + 1))).length := by simp only [List.length_append, List.length_cons, List.length_nil]; omega
      have e2 : b ++ x ++ [13, 10] ++ zde (h.Fields.drop (i + 1)) = b ++ (x ++ 13 :: 10 :: zde (h.Fields.drop (i + 1))) := by simp
      rw [e1, e2]
     ·rw [if_neg hfit]
      have := ih (i + 1) true b (by omega) (by omega) hb (Nat.le_trans hbl (Nat.add_le_add_left (Nat.mul_le_mul_right _ (Nat.le_succ i)) _))
      refine this.trans ?_
      rw [if_pos rfl]
      have hno : ¬ ((b.length + (x ++ 13 :: 10 :: zde (h.Fields.drop (i + 1))).length : Nat) : Int) ≤ most := by simp only [List.length_append, List.length_cons]; omega
      rw [if_neg hno]
      cases t <;> rfl
    ·have : i = h.Fields.length := by omega
     subst this
     rw [decide_eq_false (by omega), if_neg Bool.false_ne_true, List.drop_length]
     exact fin t b hb (by omega)
  rw [zi3 [] _ most false (by simpa using hm0) hm1 (by omega) (by decide), Option.bind_some]
  unfold zwj zlY
  generalize (zhk h).1 = l at htl
  simp only [List.length_nil, Nat.zero_add, List.nil_append]
  have hpos : (((l ++ 13 :: 10 :: zde h.Fields).length : Int) ≤ lim) ↔ (((l ++ 13 :: 10 :: zde h.Fields).length : Int) ≤ most) := by
   simp only [List.length_append, List.length_cons]
   omega
  by_cases hfit : ((l.length + 2 : Nat) : Int) ≤ most
  ·rw [if_pos hfit]
   have := key fuel 0 false (l ++ [13, 10]) (Nat.zero_le _) (by unfold fuel; omega) (by simp only [List.length_append, List.length_cons, List.length_nil]; omega) (by simp only [List.length_append, List.length_cons, List.length_nil]; omega)
   refine this.trans ?_
   rw [if_neg Bool.false_ne_true, List.drop_zero]
   have e1 : (l ++ [13, 10]).length + (zde h.Fields).length = (l ++ 13 :: 10 :: zde h.Fields).length := by simp only [List.length_append, List.length_cons, List.length_nil]; omega
   have e2 : l ++ [13, 10] ++ zde h.Fields = l ++ 13 :: 10 :: zde h.Fields := by simp
   rw [e1, e2]
   by_cases hq : ((l ++ 13 :: 10 :: zde h.Fields).length : Int) ≤ most
   ·rw [if_pos hq, if_pos (hpos.2 hq)]
   ·rw [if_neg hq, if_neg (fun h => hq (hpos.1 h))]
  ·rw [if_neg hfit]
   have := key fuel 0 true [] (Nat.zero_le _) (by unfold fuel; omega) (by simpa using hm0) (by simp)
   refine this.trans ?_
   rw [if_pos rfl, if_neg]
   intro hh
   have := hpos.1 hh
   simp only [List.length_append, List.length_cons] at this
   omega
def bare (s : Str) : Str := s.filter fun b => !zj0 b
end Go.Dm
end
section
namespace Go.Dm
theorem zjv {s : Str} {l : List Str} (h : zg9 s = some l) : l.length ≤ s.length + 1 ∧ ∀ x ∈ l, x.length ≤ s.length := by
 unfold zg9 at h
 obtain ⟨m, hm, rfl⟩ := Option.map_eq_some_iff.1 h
 have key : ∀ (s : Str) (k : Nat) (cur : Str) (m : List Str), zg8 k cur s = some m → m.length ≤ s.length + 1 ∧ ∀ x ∈ m, x.length ≤ cur.length + s.length := by
  intro s
  induction s with
  | nil => intro k cur m h; rw [zqM] at h; cases h; simp
  | cons c r ih =>
   intro k cur m h
   have one : ∀ k, zg8 k (cur ++ [c]) r = some m → m.length ≤ (c :: r).length + 1 ∧ ∀ x ∈ m, x.length ≤ cur.length + (c :: r).length := fun k h => by
    have := ih k _ m h
    simp only [List.length_cons, List.length_append, List.length_nil] at *
    exact ⟨by omega, fun x hx => by have := this.2 x hx; omega⟩
   cases k with
   | succ k => exact one k h
   | zero =>
    cases h1 : (c == 34 || c == 40) with
    | true =>
     rw [zth cur r h1] at h
     split at h
     ·cases h
     ·exact one _ h
    | false =>
     cases h2 : c == 44 with
     | true =>
      have : c = 44 := by simpa using h2
      subst this
      rw [znW] at h
      obtain ⟨m', hm', rfl⟩ := Option.map_eq_some_iff.1 h
      have := ih 0 [] m' hm'
      simp only [List.length_cons, List.length_nil] at *
      refine ⟨by omega, fun x hx => ?_⟩
      rcases List.mem_cons.1 hx with rfl | hx
      ·omega
      ·have := this.2 x hx; omega
     | false => rw [zqN cur r h1 h2] at h; exact one 0 h
 have := key s 0 [] m hm
 unfold elems
 refine ⟨?_, fun x hx => ?_⟩
 ·have h1 := List.length_filter_le (fun x : Str => !(x == [])) (m.map zkG)
  rw [List.length_map] at h1
  omega
 ·have h1 := (List.mem_filter.1 hx).1
  obtain ⟨y, hy, rfl⟩ := List.mem_map.1 h1
  have := this.2 y hy
  have := zAl y
  simp at *
  omega
end Go.Dm
end
section
namespace Go.Dm
def zpP : List Str → List Str → List Str × Int
 | [], out => (out, 0)
 | v :: vs, out => match zg9 v with
  | none => ([], 2)
  | some l => if l.all zhj then zpP vs (out ++ l) else ([], 2)
theorem zt5 (rec1 : List Str → Int → Option (List Str × Int)) (l6 : List Str) (i7 : Nat) (l : List Str) (e : Int) (hl : l.length < 1000000000) (hx : ∀ x ∈ l, x.length < 900000000) (h6 : (l6.length + l.length) * 16 ≤ 140737488355328) (h7 : i7 < 1000000000) :
  zbe rec1 l6 (i7 : Int) (l, e) fuel 0 = if l.all zhj then rec1 (l6 ++ l) ((i7 + 1 : Nat) : Int) else some ([], 2) := by
 have key : ∀ (n i : Nat), i ≤ l.length → l.length - i < n → zbe rec1 l6 (i7 : Int) (l, e) n (i : Int) = if (l.drop i).all zhj then rec1 (l6 ++ l) ((i7 + 1 : Nat) : Int) else some ([], 2) := by
  intro n
  induction n with
  | zero => intro i _ h; omega
  | succ n ih =>
   intro i hi h
   rw [zbe]
   by_cases hlt : i < l.length
   ·have g : l[i]? = some l[i] := List.getElem?_eq_getElem hlt
    have hxl := hx l[i] (List.getElem_mem _)
    dsimp only
    rw [decide_eq_true (show (i : Int) < (l.length : Int) by omega), if_pos rfl, zas, g, Option.bind_some, zmt _ (by omega), Option.bind_some, zo (by omega), Option.bind_some, ih (i + 1) (by omega) (by omega), List.drop_eq_getElem_cons hlt, List.all_cons]
    cases zhj l[i] <;> rfl
   ·have : i = l.length := by omega
    subst this
    dsimp only
    rw [decide_eq_false (by omega), if_neg (by decide), if_pos (zcl h6 (by omega)), zo (by omega), Option.bind_some, List.drop_length]
    rfl
 have := key fuel 0 (Nat.zero_le _) (by unfold fuel; omega)
 rw [List.drop_zero] at this
 exact this
theorem zpQ (vs : List Str) (hn : vs.length ≤ 1000) (hv : ∀ v ∈ vs, v.length < 400000) : zgn vs = some (zpP vs []) := by
 unfold zgn
 have key : ∀ (n i : Nat) (out : List Str), i ≤ vs.length → vs.length - i < n → out.length ≤ i * 400001 → zbf vs n out (i : Int) = some (zpP (vs.drop i) out) := by
  intro n
  induction n with
  | zero => intro i _ _ h; omega
  | succ n ih =>
   intro i out hi h ho
   rw [zbf]
   by_cases hlt : i < vs.length
   ·have g : vs[i]? = some vs[i] := List.getElem?_eq_getElem hlt
    have hvl := hv vs[i] (List.getElem_mem _)
    rw [decide_eq_true (show (i : Int) < (vs.length : Int) by omega), if_pos rfl, zas, g, Option.bind_some, zl5 _ (by omega), Option.bind_some, List.drop_eq_getElem_cons hlt, zpP]
    unfold zm6
    cases hs : zg9 vs[i] with
    | none => rfl
    | some l =>
     have hm := zjv hs
     dsimp only
     rw [if_neg (by decide), zt5 _ _ _ l 0 (by omega) (fun x hx => by have := hm.2 x hx; omega) (by omega) (by omega)]
     cases ha : l.all zhj with
     | false => rfl
     | true => rw [if_pos rfl, if_pos rfl, ih (i + 1) _ (by omega) (by omega) (by rw [List.length_append]; omega)]
   ·have : i = vs.length := by omega
    subst this
    rw [decide_eq_false (by omega), if_neg (by decide), List.drop_length]
    rfl
 have := key fuel 0 [] (Nat.zero_le _) (by unfold fuel; omega) (by simp)
 rw [List.drop_zero] at this
 exact this
theorem zsE (rec1 : List Str → Int → Option (List Str × Int)) (i7 : Nat) (l : List Str) (e : Int) (l6 : List Str) (hl : l.length < 1000000000) (hx : ∀ x ∈ l, x.length < 900000000) (h6 : (l6.length + l.length) * 16 ≤ 140737488355328) (h7 : i7 < 1000000000) :
  zbD rec1 (i7 : Int) (l, e) fuel l6 0 = if l.all zhj then rec1 (l6 ++ l) ((i7 + 1 : Nat) : Int) else some ([], 2) := by
 have key : ∀ (n i : Nat) (out : List Str), i ≤ l.length → l.length - i < n → out.length = l6.length + i → zbD rec1 (i7 : Int) (l, e) n out (i : Int) = if (l.drop i).all zhj then rec1 (out ++ l.drop i) ((i7 + 1 : Nat) : Int) else some ([], 2) := by
  intro n
  induction n with
  | zero => intro i _ _ h; omega
  | succ n ih =>
   intro i out hi h ho
   rw [zbD]
   by_cases hlt : i < l.length
   ·have g : l[i]? = some l[i] := List.getElem?_eq_getElem hlt
    have hxl := hx l[i] (List.getElem_mem _)
    dsimp only
    rw [decide_eq_true (show (i : Int) < (l.length : Int) by omega), if_pos rfl, zas, g, Option.bind_some, zjC _ (by omega), Option.bind_some, Option.bind_some, if_pos (zcl (by omega) (by omega)), zo (by omega), Option.bind_some, ih (i + 1) _ (by omega) (by omega) (by rw [List.length_append]; simp; omega), List.drop_eq_getElem_cons hlt, List.all_cons, List.append_assoc]
    cases zhj l[i] <;> rfl
   ·have : i = l.length := by omega
    subst this
    dsimp only
    rw [decide_eq_false (by omega), if_neg (by decide), zo (by omega), Option.bind_some, List.drop_length, List.append_nil]
    rfl
 have := key fuel 0 l6 (Nat.zero_le _) (by unfold fuel; omega) rfl
 rw [List.drop_zero] at this
 exact this
theorem zqA (vs : List Str) (hn : vs.length ≤ 1000) (hv : ∀ v ∈ vs, v.length < 400000) : zfZ vs = some (zpP vs []) := by
 unfold zfZ
 have key : ∀ (n i : Nat) (out : List Str), i ≤ vs.length → vs.length - i < n → out.length ≤ i * 400001 → zbE vs n out (i : Int) = some (zpP (vs.drop i) out) := by
  intro n
  induction n with
  | zero => intro i _ _ h; omega
  | succ n ih =>
   intro i out hi h ho
   rw [zbE]
   by_cases hlt : i < vs.length
   ·have g : vs[i]? = some vs[i] := List.getElem?_eq_getElem hlt
    have hvl := hv vs[i] (List.getElem_mem _)
    rw [decide_eq_true (show (i : Int) < (vs.length : Int) by omega), if_pos rfl, zas, g, Option.bind_some, zmO _ (by omega), Option.bind_some, List.drop_eq_getElem_cons hlt, zpP]
    unfold zm6
    cases hs : zg9 vs[i] with
    | none => rfl
    | some l =>
     have hm := zjv hs
     dsimp only
     rw [if_neg (by decide), zsE _ _ l 0 out (by omega) (fun x hx => by have := hm.2 x hx; omega) (by omega) (by omega)]
     cases ha : l.all zhj with
     | false => rfl
     | true => rw [if_pos rfl, if_pos rfl, ih (i + 1) _ (by omega) (by omega) (by rw [List.length_append]; omega)]
   ·have : i = vs.length := by omega
    subst this
    rw [decide_eq_false (by omega), if_neg (by decide), List.drop_length]
    rfl
 have := key fuel 0 [] (Nat.zero_le _) (by unfold fuel; omega) (by simp)
 rw [List.drop_zero] at this
 exact this
abbrev zjT : Int := 1099511627776
def zsF : Int → List Str → Option Int
 | i, [] => some i
 | i, t :: ts => if (zR 10 t zjT).2 == 0 then (if decide (0 ≤ i) && !((zR 10 t zjT).1 == i) then none else zsF (zR 10 t zjT).1 ts) else none
def zt6 : Int → List Str → Option Int
 | i, [] => some i
 | i, v :: vs => match zg9 v with
  | none => none
  | some l => match zsF i l with
   | none => none
   | some k => zt6 k vs
def zpR : api_Frame × Int := (⟨0, 0⟩, 28)
def lenR (o : Option Int) : api_Frame × Int := match o with
 | none => zpR
 | some i => if i < 0 then zpR else (⟨2, i⟩, 0)
theorem zsG (rec1 : Int → Int → Option (api_Frame × Int)) (i7 : Nat) (l : List Str) (e : Int) (k : Int) (hl : l.length < 1000000000) (hx : ∀ x ∈ l, x.length < 900000000) (h7 : i7 < 1000000000) :
  zw rec1 (i7 : Int) (l, e) fuel k 0 = match zsF k l with | none => some zpR | some j => rec1 j ((i7 + 1 : Nat) : Int) := by
 have key : ∀ (n i : Nat) (k : Int), i ≤ l.length → l.length - i < n → zw rec1 (i7 : Int) (l, e) n k (i : Int) = match zsF k (l.drop i) with | none => some zpR | some j => rec1 j ((i7 + 1 : Nat) : Int) := by
  intro n
  induction n with
  | zero => intro i _ _ h; omega
  | succ n ih =>
   intro i k hi h
   rw [zw]
   by_cases hlt : i < l.length
   ·have g : l[i]? = some l[i] := List.getElem?_eq_getElem hlt
    have hxl := hx l[i] (List.getElem_mem _)
    have hj : ∀ b : Bool, z7 (zw rec1 (i7 : Int) (l, e) n) (i : Int) (zR 10 l[i] zjT) b = if b then some zpR else (match zsF (zR 10 l[i] zjT).1 (l.drop (i + 1)) with | none => some zpR | some j => rec1 j ((i7 + 1 : Nat) : Int)) := by
     intro b
     unfold z7
     rw [zo (by omega), Option.bind_some, ih (i + 1) _ (by omega) (by omega)]
     rfl
    dsimp only
    rw [decide_eq_true (show (i : Int) < (l.length : Int) by omega), if_pos rfl, zas, g, Option.bind_some, zei _ _ (by omega) (by decide) (by decide), Option.bind_some, hj, hj, hj, List.drop_eq_getElem_cons hlt, zsF]
    cases (zR 10 l[i] zjT).2 == 0 with
    | false => rfl
    | true =>
     cases decide (0 ≤ k) with
     | false => rfl
     | true => cases (zR 10 l[i] zjT).1 == k <;> rfl
   ·have : i = l.length := by omega
    subst this
    dsimp only
    rw [decide_eq_false (by omega), if_neg (by decide), zo (by omega), Option.bind_some, List.drop_length]
    rfl
 have := key fuel 0 k (Nat.zero_le _) (by unfold fuel; omega)
 rw [List.drop_zero] at this
 exact this
theorem zwn (r : length_reader) (vs : List Str) (hn : vs.length ≤ 1000) (hv : ∀ v ∈ vs, v.length < 400000) : zbK r vs = some (lenR (zt6 (-1) vs)) := by
 unfold zbK
 have key : ∀ (n i : Nat) (k : Int), i ≤ vs.length → vs.length - i < n → zK vs n k (i : Int) = some (lenR (zt6 k (vs.drop i))) := by
  intro n
  induction n with
  | zero => intro i _ _ h; omega
  | succ n ih =>
   intro i k hi h
   rw [zK]
   by_cases hlt : i < vs.length
   ·have g : vs[i]? = some vs[i] := List.getElem?_eq_getElem hlt
    have hvl := hv vs[i] (List.getElem_mem _)
    rw [decide_eq_true (show (i : Int) < (vs.length : Int) by omega), if_pos rfl, zas, g, Option.bind_some, zl5 _ (by omega), Option.bind_some, List.drop_eq_getElem_cons hlt, zt6]
    unfold zm6
    cases hs : zg9 vs[i] with
    | none => rfl
    | some l =>
     have hm := zjv hs
     dsimp only
     rw [if_neg (by decide), zsG _ _ l 0 k (by omega) (fun x hx => by have := hm.2 x hx; omega) (by omega)]
     cases zsF k l with
     | none => rfl
     | some j => exact ih (i + 1) j (by omega) (by omega)
   ·have : i = vs.length := by omega
    subst this
    rw [decide_eq_false (by omega), if_neg (by decide), List.drop_length, zt6, lenR]
    by_cases hk : k < 0
    ·rw [decide_eq_true hk, if_pos rfl, if_pos hk]; rfl
    ·rw [decide_eq_false hk, if_neg (by decide), if_neg hk]
 have := key fuel 0 (-1) (Nat.zero_le _) (by unfold fuel; omega)
 rw [List.drop_zero] at this
 exact this
def zf4 : List Str → Option (List Int)
 | [] => some []
 | t :: ts => if (zR 10 t zjT).2 == 0 then (zf4 ts).map fun ns => (zR 10 t zjT).1 :: ns else none
def zlh : List Str → Option (List Int)
 | [] => some []
 | v :: vs => match zg9 v with
  | none => none
  | some l => match zf4 l with
   | none => none
   | some a => (zlh vs).map fun b => a ++ b
def zjh : Option (List Int) → api_Frame × Int
 | none => zpR
 | some [] => zpR
 | some (n :: ns) => if ns.all (fun m => m == n) then (⟨2, n⟩, 0) else zpR
def zkq : Int → List Int → Option Int
 | i, [] => some i
 | i, n :: ns => if decide (0 ≤ i) && !(n == i) then none else zkq n ns
theorem zwo : ∀ (l : List Str) (i : Int), (zf4 l = none ∧ zsF i l = none) ∨ ∃ ns, zf4 l = some ns ∧ (∀ n ∈ ns, 0 ≤ n) ∧ zsF i l = zkq i ns := by
 intro l
 induction l with
 | nil => intro i; exact .inr ⟨[], rfl, (fun n h => by cases h), rfl⟩
 | cons t ts ih =>
  intro i
  rw [zf4, zsF]
  cases h : (zR 10 t zjT).2 == 0 with
  | false => exact .inl ⟨rfl, rfl⟩
  | true =>
   have h0 := (zjH (b := 10) (s := t) (most := zjT) (by simpa using h) (by decide)).1
   rw [if_pos rfl, if_pos rfl]
   rcases ih (zR 10 t zjT).1 with ⟨q1, q2⟩ | ⟨ns, q1, q2, q3⟩
   ·left
    rw [q1, q2]
    refine ⟨rfl, ?_⟩
    split <;> rfl
   ·right
    refine ⟨(zR 10 t zjT).1 :: ns, by rw [q1]; rfl, fun n hn => ?_, by rw [zkq, q3]⟩
    rcases List.mem_cons.1 hn with rfl | hn
    ·exact h0
    ·exact q2 n hn
theorem zxB : ∀ (a b : List Int) (i : Int), zkq i (a ++ b) = match zkq i a with | none => none | some k => zkq k b := by
 intro a
 induction a with
 | nil => intro b i; rfl
 | cons n ns ih =>
  intro b i
  rw [List.cons_append, zkq, zkq]
  split
  ·rfl
  ·exact ih b n
theorem zwp : ∀ (vs : List Str) (i : Int), (zlh vs = none ∧ zt6 i vs = none) ∨ ∃ ns, zlh vs = some ns ∧ (∀ n ∈ ns, 0 ≤ n) ∧ zt6 i vs = zkq i ns := by
 intro vs
 induction vs with
 | nil => intro i; exact .inr ⟨[], rfl, (fun n h => by cases h), rfl⟩
 | cons v vs ih =>
  intro i
  rw [zlh, zt6]
  cases hs : zg9 v with
  | none => exact .inl ⟨rfl, rfl⟩
  | some l =>
   dsimp only
   rcases zwo l i with ⟨q1, q2⟩ | ⟨a, q1, q2, q3⟩
   ·left; rw [q1, q2]; exact ⟨rfl, rfl⟩
   ·rw [q1, q3]
    dsimp only
    cases hv : zlh vs with
    | none =>
     left
     refine ⟨rfl, ?_⟩
     cases zkq i a with
     | none => rfl
     | some k =>
      rcases ih k with ⟨_, r2⟩ | ⟨ns, r1, _, _⟩
      ·exact r2
      ·rw [hv] at r1; cases r1
    | some b =>
     right
     have hb : ∀ n ∈ b, 0 ≤ n := by
      rcases ih 0 with ⟨r1, _⟩ | ⟨ns, r1, r2, _⟩
      ·rw [hv] at r1; cases r1
      ·rw [hv] at r1; cases r1; exact r2
     refine ⟨a ++ b, rfl, fun n hn => (List.mem_append.1 hn).elim (q2 n) (hb n), ?_⟩
     rw [zxB]
     cases zkq i a with
     | none => rfl
     | some k =>
      rcases ih k with ⟨r1, _⟩ | ⟨ns, r1, _, r3⟩
      ·rw [hv] at r1; cases r1
      ·rw [hv] at r1; cases r1; exact r3
theorem zxC : ∀ (ns : List Int) (n : Int), 0 ≤ n → (∀ m ∈ ns, 0 ≤ m) → zkq n ns = if ns.all (fun m => m == n) then some n else none := by
 intro ns
 induction ns with
 | nil => intro n _ _; rfl
 | cons m ns ih =>
  intro n hn h
  rw [zkq, decide_eq_true hn, Bool.true_and, List.all_cons]
  cases hm : m == n with
  | false => rfl
  | true =>
   have e : m = n := by simpa using hm
   subst e
   rw [Bool.not_true, if_neg Bool.false_ne_true, ih m hn (fun x hx => h x (List.mem_cons_of_mem _ hx)), Bool.true_and]
theorem zxD (vs : List Str) : lenR (zt6 (-1) vs) = zjh (zlh vs) := by
 rcases zwp vs (-1) with ⟨q1, q2⟩ | ⟨ns, q1, q2, q3⟩
 ·rw [q1, q2]; rfl
 ·rw [q1, q3]
  cases ns with
  | nil => rfl
  | cons n ns =>
   have hn := q2 n (List.mem_cons_self ..)
   rw [zkq, show decide ((0 : Int) ≤ -1) = false from rfl, Bool.false_and, if_neg Bool.false_ne_true, zxC ns n hn (fun m hm => q2 m (List.mem_cons_of_mem _ hm)), zjh]
   cases ns.all (fun m => m == n) with
   | false => rfl
   | true =>
    rw [if_pos rfl, if_pos rfl, lenR]
    try dsimp only
    rw [if_neg (by omega)]
theorem zzC (rec3 : List Int → Int → Option (api_Frame × Int)) (i45 : Nat) (l : List Str) (e : Int) (out : List Int) (hl : l.length < 1000000000) (hx : ∀ x ∈ l, x.length < 900000000) (h6 : (out.length + l.length) * 8 ≤ 140737488355328) (h7 : i45 < 1000000000) :
  zef rec3 (i45 : Int) (l, e) fuel out 0 = match zf4 l with | none => some zpR | some a => rec3 (out ++ a) ((i45 + 1 : Nat) : Int) := by
 have key : ∀ (n i : Nat) (o : List Int), i ≤ l.length → l.length - i < n → o.length = out.length + i → zef rec3 (i45 : Int) (l, e) n o (i : Int) = match zf4 (l.drop i) with | none => some zpR | some a => rec3 (o ++ a) ((i45 + 1 : Nat) : Int) := by
  intro n
  induction n with
  | zero => intro i _ _ h; omega
  | succ n ih =>
   intro i o hi h ho
   rw [zef]
   by_cases hlt : i < l.length
   ·have g : l[i]? = some l[i] := List.getElem?_eq_getElem hlt
    have hxl := hx l[i] (List.getElem_mem _)
    dsimp only
    rw [decide_eq_true (show (i : Int) < (l.length : Int) by omega), if_pos rfl, zas, g, Option.bind_some]
    show ((zfr l[i] ((10 : Nat) : Int) zjT).bind _) = _
    rw [zkw (by simp [zgD]) _ _ (by omega) (by decide) (by decide), Option.bind_some, if_pos (zcl (by omega) (by omega)), zo (by omega), Option.bind_some, ih (i + 1) _ (by omega) (by omega) (by rw [List.length_append]; simp; omega), List.drop_eq_getElem_cons hlt, zf4]
    cases (zR 10 l[i] zjT).2 == 0 with
    | false => rfl
    | true =>
     rw [Bool.not_true, if_neg Bool.false_ne_true, if_pos rfl]
     cases zf4 (l.drop (i + 1)) with
     | none => rfl
     | some a => dsimp only [Option.map_some]; rw [List.append_assoc]; rfl
   ·have : i = l.length := by omega
    subst this
    dsimp only
    rw [decide_eq_false (by omega), if_neg (by decide), zo (by omega), Option.bind_some, List.drop_length, zf4]
    dsimp only
    rw [List.append_nil]
 have := key fuel 0 out (Nat.zero_le _) (by unfold fuel; omega) rfl
 rw [List.drop_zero] at this
 exact this
theorem zzD (ns : List Int) (hl : ns.length < 1000000000) : zeg ns fuel 0 = some (zjh (some ns)) := by
 cases ns with
 | nil => rfl
 | cons n ns =>
  have key : ∀ (f i : Nat), i ≤ (n :: ns).length → (n :: ns).length - i < f → zeg (n :: ns) f (i : Int) = some (if ((n :: ns).drop i).all (fun m => m == n) then (⟨2, n⟩, 0) else zpR) := by
   intro f
   induction f with
   | zero => intro i _ h; omega
   | succ f ih =>
    intro i hi h
    rw [zeg]
    by_cases hlt : i < (n :: ns).length
    ·have g : (n :: ns)[i]? = some (n :: ns)[i] := List.getElem?_eq_getElem hlt
     rw [decide_eq_true (show (i : Int) < ((n :: ns).length : Int) by omega), if_pos rfl, zas, g, Option.bind_some, zo4, List.getElem?_cons_zero, Option.bind_some, zo (by omega), Option.bind_some, ih (i + 1) (by omega) (by omega), List.drop_eq_getElem_cons hlt, List.all_cons]
     cases (n :: ns)[i] == n <;> rfl
    ·have : i = (n :: ns).length := by omega
     subst this
     rw [decide_eq_false (by omega), if_neg (by decide), List.drop_length, zo4, List.getElem?_cons_zero, Option.bind_some]
     have h0 : (((n :: ns).length : Int) == 0) = false := by simp; omega
     rw [h0]
     rfl
  have := key fuel 0 (Nat.zero_le _) (by unfold fuel; omega)
  rw [List.drop_zero, List.all_cons, beq_self_eq_true, Bool.true_and] at this
  exact this
theorem zvv : ∀ (l : List Str) (a : List Int), zf4 l = some a → a.length = l.length := by
 intro l
 induction l with
 | nil => intro a h; cases h; rfl
 | cons t ts ih =>
  intro a h
  rw [zf4] at h
  split at h
  ·obtain ⟨b, hb, rfl⟩ := Option.map_eq_some_iff.1 h
   simp [ih b hb]
  ·cases h
theorem zzE (vs : List Str) (hn : vs.length ≤ 1000) (hv : ∀ v ∈ vs, v.length < 400000) : zdp vs fuel [] 0 = some (zjh (zlh vs)) := by
 have key : ∀ (n i : Nat) (out : List Int), i ≤ vs.length → vs.length - i < n → out.length ≤ i * 400001 → zdp vs n out (i : Int) = some (match zlh (vs.drop i) with | none => zpR | some a => zjh (some (out ++ a))) := by
  intro n
  induction n with
  | zero => intro i _ _ h; omega
  | succ n ih =>
   intro i out hi h ho
   rw [zdp]
   by_cases hlt : i < vs.length
   ·have g : vs[i]? = some vs[i] := List.getElem?_eq_getElem hlt
    have hvl := hv vs[i] (List.getElem_mem _)
    rw [decide_eq_true (show (i : Int) < (vs.length : Int) by omega), if_pos rfl, zas, g, Option.bind_some, zmO _ (by omega), Option.bind_some, List.drop_eq_getElem_cons hlt, zlh]
    unfold zm6
    cases hs : zg9 vs[i] with
    | none => rfl
    | some l =>
     have hm := zjv hs
     dsimp only
     rw [if_neg (by decide), zzC _ _ l 0 out (by omega) (fun x hx => by have := hm.2 x hx; omega) (by omega) (by omega)]
     cases ha : zf4 l with
     | none => rfl
     | some a =>
      have hal := zvv l a ha
      dsimp only
      rw [ih (i + 1) _ (by omega) (by omega) (by rw [List.length_append]; omega)]
      cases zlh (vs.drop (i + 1)) with
      | none => rfl
      | some b => dsimp only [Option.map_some]; rw [List.append_assoc]
   ·have : i = vs.length := by omega
    subst this
    rw [decide_eq_false (by omega), if_neg (by decide), List.drop_length, zzD _ (by omega), zlh]
    dsimp only
    rw [List.append_nil]
 have := key fuel 0 [] (Nat.zero_le _) (by unfold fuel; omega) (by simp)
 rw [List.drop_zero] at this
 rw [show (0 : Int) = ((0 : Nat) : Int) from rfl, this]
 cases zlh vs <;> rfl
def zkr : Str := [116, 114, 97, 110, 115, 102, 101, 114, 45, 101, 110, 99, 111, 100, 105, 110, 103]
def zhQ : Str := [99, 111, 110, 116, 101, 110, 116, 45, 108, 101, 110, 103, 116, 104]
def zd8 (l : List api_Field) (nm : Str) : List Str := (l.filter (isN nm)).map (·.Value)
def zmZ : Str := [99, 104, 117, 110, 107, 101, 100]
def zks (m : Int) (te : List Str) : api_Frame × Int :=
 if ((zpP te []).2 == 0) && !(m == 0) then (match (zpP te []).1 with
  | [x] => if low x == zmZ then (⟨3, 0⟩, 0) else (⟨0, 0⟩, 30)
  | _ => (⟨0, 0⟩, 30)) else (⟨0, 0⟩, 30)
def zkM (h : api_Head) (k : Int) : api_Frame × Int :=
 if (zd8 h.Fields zkr) == [] then (if (zd8 h.Fields zhQ) == [] then (⟨k, 0⟩, 0) else zjh (zlh (zd8 h.Fields zhQ)))
 else if (zd8 h.Fields zhQ) == [] then zks h.Minor (zd8 h.Fields zkr) else (⟨0, 0⟩, 29)
theorem zvw {B : Nat} : ∀ (vs : List Str) (out : List Str), (∀ v ∈ vs, v.length ≤ B) → (∀ x ∈ out, x.length ≤ B) → ∀ x ∈ (zpP vs out).1, x.length ≤ B := by
 intro vs
 induction vs with
 | nil => intro out _ ho; exact ho
 | cons v vs ih =>
  intro out h ho
  rw [zpP]
  cases hs : zg9 v with
  | none => intro x hx; cases hx
  | some l =>
   have hm := zjv hs
   have hv := h v (List.mem_cons_self ..)
   dsimp only
   split
   ·refine ih _ (fun x hx => h x (List.mem_cons_of_mem _ hx)) fun x hx => ?_
    rcases List.mem_append.1 hx with hx | hx
    ·exact ho x hx
    ·have := hm.2 x hx; omega
   ·intro x hx; cases hx
theorem zxE (r : length_reader) (vs : List Str) (hn : vs.length ≤ 1000) (hv : ∀ v ∈ vs, v.length < 400000) : zb4 r vs = some (zks r.f_minor vs) := by
 have ht := zpQ vs hn hv
 have hb := zvw (B := 400000) vs [] (fun v h => Nat.le_of_lt (hv v h)) (fun x h => by cases h)
 unfold zb4 zks
 rw [ht, Option.bind_some]
 generalize zpP vs [] = q at hb
 obtain ⟨l, e⟩ := q
 dsimp only at hb ⊢
 cases h0 : e == 0 with
 | false => rfl
 | true =>
  cases hm : r.f_minor == 0 with
  | true => rfl
  | false =>
   rw [Bool.not_true, if_neg Bool.false_ne_true, if_neg Bool.false_ne_true, Bool.not_false, Bool.and_true, if_pos rfl]
   match l, hb with
   | [], _ => rfl
   | [x], hb =>
    have hx := hb x (by simp)
    rw [show (!((([x] : List Str).length : Int) == 1)) = false from rfl, if_neg Bool.false_ne_true, zo4, List.getElem?_cons_zero, Option.bind_some, zny _ _ (by omega) (by decide), Option.bind_some, show low ([99, 104, 117, 110, 107, 101, 100] : Str) = zmZ from by decide]
    unfold zae
    dsimp only
    cases low x == zmZ <;> rfl
   | x :: y :: l, _ =>
    have : (!(((x :: y :: l).length : Int) == 1)) = true := by simp; omega
    rw [this]
    rfl
theorem zwq (vs : List Str) (m : Int) (hn : vs.length ≤ 1000) (hv : ∀ v ∈ vs, v.length < 400000) :
  ((zfZ vs).bind fun r19 =>
 if (!(r19.2 == 0)) then (zcc true) else (if (m == 0) then (zcc true) else (if (!((r19.1.length : Int) == 1)) then (zcc true) else ((lAt r19.1 0).bind fun x26 =>
 (zet x26).bind fun r29 =>
 zcc (!(r29 == [99, 104, 117, 110, 107, 101, 100])))))) = some (zks m vs) := by
 have ht := zqA vs hn hv
 have hb := zvw (B := 400000) vs [] (fun v h => Nat.le_of_lt (hv v h)) (fun x h => by cases h)
 unfold zks
 rw [ht, Option.bind_some]
 generalize zpP vs [] = q at hb
 obtain ⟨l, e⟩ := q
 dsimp only at hb ⊢
 cases h0 : e == 0 with
 | false => rfl
 | true =>
  cases hm : m == 0 with
  | true => rfl
  | false =>
   rw [Bool.not_true, if_neg Bool.false_ne_true, if_neg Bool.false_ne_true, Bool.not_false, Bool.and_true, if_pos rfl]
   match l, hb with
   | [], _ => rfl
   | [x], hb =>
    have hx := hb x (by simp)
    rw [show (!((([x] : List Str).length : Int) == 1)) = false from rfl, if_neg Bool.false_ne_true, zo4, List.getElem?_cons_zero, Option.bind_some, zir _ (by omega), Option.bind_some]
    unfold zcc
    show (if (!(low x == zmZ)) = true then _ else _) = _
    dsimp only
    cases low x == zmZ <;> rfl
   | x :: y :: l, _ =>
    have : (!(((x :: y :: l).length : Int) == 1)) = true := by simp; omega
    rw [this]
    rfl
theorem zlJ {k : List api_Field} {B : Nat} (h1 : k.length ≤ 1000) (h2 : zbS B k) (nm : Str) : (zd8 k nm).length ≤ 1000 ∧ ∀ v ∈ zd8 k nm, v.length < B := by
 unfold zd8
 refine ⟨?_, fun v hv => ?_⟩
 ·rw [List.length_map]
  have := List.length_filter_le (isN nm) k
  omega
 ·obtain ⟨f, hf, rfl⟩ := List.mem_map.1 hv
  exact (h2 f (List.mem_filter.1 hf).1).2
theorem zqJ (l : List Str) : decide (0 < (l.length : Int)) = !(l == []) := by
 cases l with
 | nil => rfl
 | cons x l => simp <;> omega
theorem zo3 (h : api_Head) (k : Int) (hl : h.Fields.length ≤ 1000) (hf : zbS 400000 h.Fields) : zjp h k = some (zkM h k) := by
 have e1 : isN ([84, 114, 97, 110, 115, 102, 101, 114, 45, 69, 110, 99, 111, 100, 105, 110, 103] : Str) = isN zkr := by
  funext f; unfold isN
  rw [show low ([84, 114, 97, 110, 115, 102, 101, 114, 45, 69, 110, 99, 111, 100, 105, 110, 103] : Str) = low zkr from by decide]
 have e2 : isN ([67, 111, 110, 116, 101, 110, 116, 45, 76, 101, 110, 103, 116, 104] : Str) = isN zhQ := by
  funext f; unfold isN
  rw [show low ([67, 111, 110, 116, 101, 110, 116, 45, 76, 101, 110, 103, 116, 104] : Str) = low zhQ from by decide]
 have b1 := zlJ hl hf zkr
 have b2 := zlJ hl hf zhQ
 unfold zjp zng
 rw [zrY _ (by omega), Option.bind_some, Option.bind_some, zkD _ _ (by decide) (by omega) (zQ (by decide) hf), Option.bind_some, zkD _ _ (by decide) (by omega) (zQ (by decide) hf), Option.bind_some, e1, e2]
 unfold zkM
 show (if decide (0 < ((zd8 h.Fields zkr).length : Int)) = true then zep h k ⟨h.Fields⟩ (zd8 h.Fields zkr) (zd8 h.Fields zhQ) (decide (0 < ((zd8 h.Fields zhQ).length : Int))) else zep h k ⟨h.Fields⟩ (zd8 h.Fields zkr) (zd8 h.Fields zhQ) false) = _
 unfold zep
 rw [zxE _ _ b1.1 b1.2, zwn _ _ b2.1 b2.2, zxD, zqJ, zqJ, Option.bind_some, Option.bind_some]
 cases zd8 h.Fields zkr == [] <;> cases zd8 h.Fields zhQ == [] <;> rfl
theorem zqh (h : api_Head) (k : Int) (hl : h.Fields.length ≤ 1000) (hf : zbS 400000 h.Fields) : zla h k = some (zkM h k) := by
 have b1 := zlJ hl hf zkr
 have b2 := zlJ hl hf zhQ
 unfold zla
 rw [zi6 _ _ (by decide) (by omega) (zQ (by decide) hf), Option.bind_some, zi6 _ _ (by decide) (by omega) (zQ (by decide) hf), Option.bind_some]
 unfold zkM
 show (if decide (0 < ((zd8 h.Fields zkr).length : Int)) = true then zfH h k (zd8 h.Fields zkr) (zd8 h.Fields zhQ) (decide (0 < ((zd8 h.Fields zhQ).length : Int))) else zfH h k (zd8 h.Fields zkr) (zd8 h.Fields zhQ) false) = _
 unfold zfH
 rw [zwq _ _ b1.1 b1.2, zzE _ b2.1 b2.2, zqJ, zqJ]
 have hz : (((zd8 h.Fields zhQ).length : Int) == 0) = (zd8 h.Fields zhQ == []) := by
  cases zd8 h.Fields zhQ with
  | nil => rfl
  | cons x l => simp <;> omega
 rw [hz]
 cases zd8 h.Fields zkr == [] <;> cases zd8 h.Fields zhQ == [] <;> rfl
def zpS (m : Str) (c : Int) : Bool := (m == [72, 69, 65, 68]) || decide (c < 200) || (c == 204) || (c == 304) || ((m == [67, 79, 78, 78, 69, 67, 84]) && decide (c < 300))
def zgN (m : Str) (h : api_Head) : api_Frame × Int :=
 if h.Kind == 1 then zkM h 1 else if zpS m h.Code then (⟨1, 0⟩, 0) else zkM h 4
theorem zpT (m : Str) (h : api_Head) (hl : h.Fields.length ≤ 1000) (hf : zbS 400000 h.Fields) : zeP m h = some (zgN m h) := by
 have hb : zeE m h.Code = some (zpS m h.Code) := by
  unfold zeE zan zpS
  cases m == [72, 69, 65, 68] <;> cases decide (h.Code < 200) <;> cases h.Code == 204 <;> cases h.Code == 304 <;> cases m == [67, 79, 78, 78, 69, 67, 84] <;> rfl
 unfold zeP zgN zhs zgz
 rw [zo3 h 1 hl hf, zo3 h 4 hl hf, hb]
 cases h.Kind == 1 with
 | true => rfl
 | false => cases zpS m h.Code <;> rfl
theorem zrW (m : Str) (h : api_Head) (hl : h.Fields.length ≤ 1000) (hf : zbS 400000 h.Fields) : ziO m h = some (zgN m h) := by
 have hb : zfI m h = some (if zpS m h.Code then (⟨1, 0⟩, 0) else zkM h 4) := by
  have e : decide (h.Code ≤ 299) = decide (h.Code < 300) := decide_eq_decide.2 (by omega)
  unfold zfI zbr zcj zpS
  rw [zqh h 4 hl hf, e]
  cases m == [72, 69, 65, 68] <;> cases decide (h.Code < 200) <;> cases h.Code == 204 <;> cases h.Code == 304 <;> cases m == [67, 79, 78, 78, 69, 67, 84] <;> cases decide (h.Code < 300) <;> rfl
 unfold ziO zgN
 rw [zqh h 1 hl hf, hb]
 cases h.Kind == 1 <;> rfl
end Go.Dm
end
section
namespace Go.Dm
theorem zvy : ∀ (g m n : Nat), g ≤ m → n < 16 ^ (g + 1) → zlH g n = zu (zhK 16 m n)
 | 0, m, n, _, hn => by
  have hn : n < 16 := hn
  cases m with
  | zero => rw [zlH, zhK, Nat.mod_eq_of_lt hn]; rfl
  | succ m => rw [zlH, zhK, if_pos hn]; rfl
 | g + 1, m, n, h, hn => by
  obtain ⟨m, rfl⟩ : ∃ k, m = k + 1 := ⟨m - 1, by omega⟩
  rw [zlH, zhK]
  by_cases h16 : n < 16
  ·rw [if_pos h16, if_pos h16]; rfl
  ·have hd : n / 16 < 16 ^ (g + 1) := by rw [Nat.pow_succ] at hn; omega
   rw [if_neg h16, if_neg h16, zvy g m (n / 16) (by omega) hd]
   unfold zu
   rw [List.map_append]
   rfl
theorem zws (n : Nat) (hn : n < 1048576) : zfK (n : Int) = some (zu (digs 16 n)) := by
 unfold zfK zgB zfR zdg
 rw [decide_eq_false (show ¬ ((n : Int) < 0) by omega), if_neg Bool.false_ne_true, if_neg (show ¬ (inI (n : Int) = true ∧ (16 : Int) = 10) by omega), if_pos ⟨rfl, by omega, by omega⟩, Option.bind_some, Option.bind_some, Option.bind_some, Int.toNat_natCast, zvy 4 70 n (by decide) (by omega)]
 rfl
theorem zzJ (n : Nat) (hn : n < 1048576) : zer (n : Int) 16 = some (zu (digs 16 n)) := by
 have := zin (b := 16) (by simp [zgD]) (n : Int) (by rw [zhe]; omega)
 rw [show ((16 : Nat) : Int) = 16 from rfl] at this
 rw [this]
 unfold zha
 rw [if_neg (by omega), Int.toNat_natCast]
theorem zwt (n : Nat) (hn : n < 1048576) : (zu (digs 16 n)).length ≤ 71 := by
 unfold zu
 rw [List.length_map]
 exact zqO (by decide) _ (by omega)
def zkO (d : Str) : Str := if d == [] then [] else zu (digs 16 d.length) ++ 13 :: 10 :: (d ++ [13, 10])
theorem zik (d : Str) (hd : d.length < 1048576) : (zkO d).length ≤ d.length + 75 := by
 have := zwt d.length hd
 unfold zkO
 split
 ·simp
 ·simp only [List.length_append, List.length_cons, List.length_nil]; omega
theorem zvz (d : Str) (hd : d.length < 1048576) : zda d = some (zkO d) := by
 have hl := zwt d.length hd
 unfold zda zkO
 rw [zws _ hd]
 cases d == [] with
 | true => rfl
 | false =>
  rw [if_neg Bool.false_ne_true, if_neg Bool.false_ne_true, Option.bind_some]
  unfold zbR strings_Join
  have e : Go.Lib.join [zu (digs 16 d.length), d, []] [13, 10] = zu (digs 16 d.length) ++ 13 :: 10 :: (d ++ [13, 10]) := by
   rw [Go.Lib.join_cons]; simp [Go.Lib.joinTail]
  rw [e, if_pos ⟨by simp, by simp only [List.length_append, List.length_cons, List.length_nil]; omega⟩]
  rfl
theorem zs9 (d : Str) (hd : d.length < 1048576) : zg4 d = some (zkO d) := by
 have hl := zwt d.length hd
 unfold zg4 zkO
 rw [zzJ _ hd]
 cases d == [] with
 | true => rfl
 | false =>
  rw [if_neg Bool.false_ne_true, if_neg Bool.false_ne_true, Option.bind_some, zD (by simp; omega), Option.bind_some, zD (by simp; omega), Option.bind_some, zD (by simp; omega), Option.bind_some]
  simp
def zil : List api_Field → Int
 | [] => 0
 | f :: fs => if ze0 f == 0 then zil fs else ze0 f
def zl3 (l : List api_Field) : Str × Int := if zil l == 0 then (if 100 < l.length then ([], 3) else (48 :: 13 :: 10 :: zde l, 0)) else ([], zil l)
theorem zok (f : api_Field) (h1 : f.Name.length < 100000000) (h2 : f.Value.length < 100000000) : zcd f = some (if ze0 f == 0 then (zmI f, 0) else ([], ze0 f)) := by
 cases hc : ze0 f == 0 with
 | true => exact zkh f h1 h2 (by simpa using hc)
 | false =>
  unfold zcd
  rw [zgG f (by omega) (by omega), Option.bind_some, hc]
  rfl
theorem zxG (a : Str) : ∀ (l : List Str), Go.Lib.join (a :: (l ++ [[], []])) [13, 10] = a ++ 13 :: 10 :: ((l.map fun x => x ++ [13, 10]).flatten ++ [13, 10]) := by
 intro l
 rw [Go.Lib.join_cons]
 congr 1
 unfold Go.Lib.joinTail
 induction l with
 | nil => rfl
 | cons x l ih =>
  simp only [List.cons_append, List.map_cons, List.flatten_cons, List.append_assoc] at ih ⊢
  rw [ih]
  simp
theorem zwu : ∀ l : List api_Field, zde l = ((l.map zmI).map fun x => x ++ [13, 10]).flatten ++ [13, 10] := by
 intro l
 induction l with
 | nil => rfl
 | cons f l ih => rw [zde, ih]; simp
theorem zwY (l : List api_Field) (hl : l.length ≤ 200) (hs : zbS 4000 l) : zcZ l = some (zl3 l) := by
 have hrl := zjn hs
 have key : ∀ (n i : Nat) (o : List Str), i ≤ l.length → l.length - i < n → o = [48] :: (l.take i).map zmI → zbs l n o (i : Int) =
   if zil (l.drop i) == 0 then (if 100 < l.length then some ([], 3) else some (48 :: 13 :: 10 :: zde l, 0)) else some ([], zil (l.drop i)) := by
  intro n
  induction n with
  | zero => intro i _ _ h; omega
  | succ n ih =>
   intro i o hi h ho
   have hol : o.length = i + 1 := by rw [ho]; simp; omega
   rw [zbs]
   by_cases hlt : i < l.length
   ·have g : l[i]? = some l[i] := List.getElem?_eq_getElem hlt
    have hsm := hs l[i] (List.getElem_mem _)
    rw [decide_eq_true (show (i : Int) < (l.length : Int) by omega), if_pos rfl, zas, g, Option.bind_some, zok _ (by omega) (by omega), Option.bind_some, List.drop_eq_getElem_cons hlt, zil]
    cases hc : ze0 l[i] == 0 with
    | false =>
     rw [if_neg Bool.false_ne_true, if_neg Bool.false_ne_true]
     dsimp only
     rw [hc, Bool.not_false, if_pos rfl, if_neg Bool.false_ne_true]
    | true =>
     rw [if_pos rfl, if_pos rfl]
     dsimp only
     rw [show (!((0 : Int) == 0)) = false from rfl, if_neg Bool.false_ne_true, if_pos (zcl (by omega) (by omega)), zo (by omega), Option.bind_some]
     exact ih (i + 1) _ (by omega) (by omega) (by rw [ho, List.take_succ_eq_append_getElem hlt, List.map_append]; rfl)
   ·have : i = l.length := by omega
    subst this
    rw [decide_eq_false (by omega), if_neg Bool.false_ne_true, List.drop_length, zil]
    rw [show (((0 : Int) == 0)) = true from rfl, if_pos rfl]
    by_cases h100 : 100 < l.length
    ·rw [decide_eq_true (by omega), if_pos rfl, if_pos h100]
    ·rw [decide_eq_false (by omega), if_neg Bool.false_ne_true, if_neg h100, if_pos (zcl (by omega) (by omega))]
     have e : Go.Lib.join (o ++ ([[], []] : List Str)) [13, 10] = 48 :: 13 :: 10 :: zde l := by
      rw [ho, List.take_length, List.cons_append, zxG, zwu]
      rfl
     unfold zbR strings_Join
     rw [e, if_pos ⟨by rw [List.length_append]; simp; omega, by simp only [List.length_cons]; omega⟩]
     rfl
 have := key fuel 0 [[48]] (Nat.zero_le _) (by unfold fuel; omega) (by simp)
 unfold zcZ zl3
 rw [List.drop_zero] at this
 refine this.trans ?_
 cases zil l == 0 with
 | false => rfl
 | true => by_cases h : 100 < l.length <;> simp [h]
theorem zvA (l : List api_Field) (hl : l.length ≤ 200) (hs : zbS 4000 l) : zij l = some (zl3 l) := by
 have hrl := zjn hs
 have key : ∀ (n i : Nat) (u : Str), i ≤ l.length → l.length - i < n → u.length ≤ 3 + i * 8004 → zdy l n u (i : Int) =
   if zil (l.drop i) == 0 then (if 100 < l.length then some ([], 3) else some (u ++ zde (l.drop i), 0)) else some ([], zil (l.drop i)) := by
  intro n
  induction n with
  | zero => intro i _ _ h; omega
  | succ n ih =>
   intro i u hi h hu
   rw [zdy]
   by_cases hlt : i < l.length
   ·have g : l[i]? = some l[i] := List.getElem?_eq_getElem hlt
    have hsm := hs l[i] (List.getElem_mem _)
    have := znf l[i]
    rw [decide_eq_true (show (i : Int) < (l.length : Int) by omega), if_pos rfl, zas, g, Option.bind_some, zmG _ (by omega) (by omega), Option.bind_some, Option.bind_some, znS _ (by omega) (by omega), Option.bind_some, zD (by omega), Option.bind_some, zD (by simp only [List.length_append, List.length_cons, List.length_nil]; omega), Option.bind_some, zo (by omega), Option.bind_some, ih (i + 1) _ (by omega) (by omega) (by simp only [List.length_append, List.length_cons, List.length_nil]; omega), List.drop_eq_getElem_cons hlt, zil, zde]
    cases hc : ze0 l[i] == 0 with
    | false => rw [Bool.not_false, if_pos rfl, if_neg Bool.false_ne_true, hc, if_neg Bool.false_ne_true]
    | true =>
     rw [Bool.not_true, if_neg Bool.false_ne_true, if_pos rfl]
     simp
   ·have : i = l.length := by omega
    subst this
    rw [decide_eq_false (by omega), if_neg Bool.false_ne_true, List.drop_length, zil]
    rw [show (((0 : Int) == 0)) = true from rfl, if_pos rfl]
    by_cases h100 : 100 < l.length
    ·rw [decide_eq_true (by omega), if_pos rfl, if_pos h100]
    ·rw [decide_eq_false (by omega), if_neg Bool.false_ne_true, if_neg h100, zD (by simp; omega), Option.bind_some]
     rfl
 have := key fuel 0 [48, 13, 10] (Nat.zero_le _) (by unfold fuel; omega) (by simp)
 unfold zij zl3
 rw [List.drop_zero] at this
 refine this.trans ?_
 cases zil l == 0 with
 | false => rfl
 | true => by_cases h : 100 < l.length <;> simp [h]
def ziV : Nat → Nat → Str → Str × Str
 | 0, _, s => ([], s)
 | n + 1, k, s => if k ≤ s.length then (zkO (s.take k) ++ (ziV n k (s.drop k)).1, (ziV n k (s.drop k)).2) else ([], s)
theorem zpU (k : Nat) (hk : 1 ≤ k) : ∀ (n : Nat) (s : Str), s.length ≤ 600 → (ziV n k s).1.length ≤ 700 * s.length ∧ (ziV n k s).2.length ≤ s.length := by
 intro n
 induction n with
 | zero => intro s hs; simp [ziV]
 | succ n ih =>
  intro s hs
  rw [ziV]
  split
  ·have hp := zik (s.take k) (by simp; omega)
   have i1 := ih (s.drop k) (by simp; omega)
   simp only [List.length_drop, List.length_take, List.length_append] at i1 hp ⊢
   omega
  ·simp
theorem zxH (k : Nat) (hk : 1 ≤ k) (hk2 : k ≤ 65536) (t : Bool) : ∀ (n m : Nat) (o : List Str) (s : Str), s.length < n → s.length < m → s.length ≤ 600 → o.length + s.length ≤ 700 → o.flatten.length + 700 * s.length ≤ 500000 →
  zap n o (k : Int) s t = some (o.flatten ++ (ziV m k s).1, 0, ⟨(k : Int), (ziV m k s).2, t⟩) := by
 intro n
 induction n with
 | zero => intro m o s h; omega
 | succ n ih =>
  intro m o s hn hm hs ho hf
  obtain ⟨m, rfl⟩ : ∃ j, m = j + 1 := ⟨m - 1, by omega⟩
  rw [zap, ziV]
  by_cases h : k ≤ s.length
  ·have hp := zik (s.take k) (by simp; omega)
   simp only [List.length_take] at hp
   rw [decide_eq_true (by omega), if_pos rfl, if_pos h, zf5 h, Option.bind_some, zvz _ (by simp; omega), Option.bind_some, if_pos (zcl (by omega) (by omega)), zab h, Option.bind_some]
   rw [ih m (o ++ [zkO (s.take k)]) (s.drop k) (by simp; omega) (by simp; omega) (by simp; omega) (by simp; omega) (by simp only [List.flatten_append, List.flatten_cons, List.flatten_nil, List.append_nil, List.length_append, List.length_drop]; omega)]
   simp
  ·rw [decide_eq_false (by omega), if_neg Bool.false_ne_true, if_neg h]
   unfold zcB
   rw [zr3 o (by omega) (by omega), Option.bind_some, List.append_nil]
theorem zwv (k : Nat) (hk : 1 ≤ k) (hk2 : k ≤ 65536) : ∀ (n m : Nat) (s u : Str), s.length < n → s.length < m → s.length ≤ 600 → u.length + 700 * s.length ≤ 500000 →
  zdA (k : Int) n s u = some (u ++ (ziV m k s).1, (ziV m k s).2) := by
 intro n
 induction n with
 | zero => intro m s u h; omega
 | succ n ih =>
  intro m s u hn hm hs hf
  obtain ⟨m, rfl⟩ : ∃ j, m = j + 1 := ⟨m - 1, by omega⟩
  rw [zdA, ziV]
  by_cases h : k ≤ s.length
  ·have hp := zik (s.take k) (by simp; omega)
   simp only [List.length_take] at hp
   rw [decide_eq_true (by omega), if_pos rfl, if_pos h, zf5 h, Option.bind_some, zs9 _ (by simp; omega), Option.bind_some, zD (by omega), Option.bind_some, zab h, Option.bind_some]
   rw [ih m (s.drop k) (u ++ zkO (s.take k)) (by simp; omega) (by simp; omega) (by simp; omega) (by simp only [List.length_append, List.length_drop]; omega)]
   simp
  ·rw [decide_eq_false (by omega), if_neg Bool.false_ne_true, if_neg h, List.append_nil]
def zrZ (size : Int) (b : Str) (tr : List api_Field) : Str × Int :=
 if decide (size < 1) || decide (65536 < size) then ([], 1) else if (zl3 tr).2 == 0 then ((ziV 601 size.toNat b).1 ++ (zkO (ziV 601 size.toNat b).2 ++ (zl3 tr).1), 0) else ([], (zl3 tr).2)
theorem zpV {l : List api_Field} (hl : l.length ≤ 200) (hs : zbS 4000 l) : (zl3 l).1.length ≤ 2000000 := by
 have := zjn hs
 unfold zl3
 split
 ·split
  ·simp
  ·simp only [List.length_cons]; omega
 ·simp
theorem All_eq (size : Int) (b : Str) (tr : List api_Field) (hb : b.length ≤ 600) (hl : tr.length ≤ 200) (hs : zbS 4000 tr) : ziP size b tr = some (zrZ size b tr) := by
 unfold ziP zkl zrZ
 have bad : ((zfJ size true).bind fun r2 => zpI r2.1 (zhC b tr r2.2) (fun x4 => zd6 b tr r2.2 x4.f_size x4.f_buf x4.f_done)) = some ([], 1) := rfl
 by_cases h1 : size < 1
 ·rw [decide_eq_true h1, if_pos rfl, bad, Bool.true_or, if_pos rfl]
 ·rw [decide_eq_false h1, if_neg Bool.false_ne_true, Bool.false_or]
  by_cases h2 : 65536 < size
  ·rw [decide_eq_true h2, bad, if_pos rfl]
  ·obtain ⟨k, rfl⟩ : ∃ k : Nat, size = k := ⟨size.toNat, by omega⟩
   rw [decide_eq_false h2, if_neg Bool.false_ne_true, Int.toNat_natCast]
   show zd6 b tr 0 (k : Int) [] false = _
   obtain ⟨f1, f2⟩ := zpU k (by omega) 601 b hb
   have hp := zik (ziV 601 k b).2 (by omega)
   have hll := zpV hl hs
   have hput := zxH k (by omega) (by omega) false fuel 601 [] b (by unfold fuel; omega) (by omega) hb (by simp; omega) (by simp; omega)
   unfold zd6 zdM zaU
   rw [show (!((0 : Int) == 0)) = false from rfl, if_neg Bool.false_ne_true, if_neg Bool.false_ne_true, Option.bind_some]
   dsimp only
   rw [show (!((0 : Int) == 0)) = false from rfl, if_neg Bool.false_ne_true, zD (by simp; omega), Option.bind_some, List.nil_append, hput, Option.bind_some]
   unfold zdN zaU
   dsimp only
   rw [if_neg Bool.false_ne_true, Option.bind_some, show (!((0 : Int) == 0)) = false from rfl, if_neg Bool.false_ne_true, zwY tr hl hs, Option.bind_some]
   cases hz : (zl3 tr).2 == 0 with
   | false =>
    rw [Bool.not_false, if_pos rfl, Option.bind_some, if_neg Bool.false_ne_true]
    dsimp only
    rw [hz, Bool.not_false, if_pos rfl]
   | true =>
    rw [Bool.not_true, if_neg Bool.false_ne_true, zvz _ (by omega), Option.bind_some, zD (by omega), Option.bind_some, Option.bind_some, if_pos rfl]
    dsimp only
    rw [show (!((0 : Int) == 0)) = false from rfl, if_neg Bool.false_ne_true, zD (by simp only [List.flatten_nil, List.nil_append, List.length_append]; omega), Option.bind_some]
    rfl
theorem zAG (size : Int) (b : Str) (tr : List api_Field) (hb : b.length ≤ 600) (hl : tr.length ≤ 200) (hs : zbS 4000 tr) : zle size b tr = some (zrZ size b tr) := by
 unfold zle zrZ
 have bad : zf3 size b tr true = some ([], 1) := rfl
 by_cases h1 : size < 1
 ·rw [decide_eq_true h1, if_pos rfl, bad, Bool.true_or, if_pos rfl]
 ·rw [decide_eq_false h1, if_neg Bool.false_ne_true, Bool.false_or]
  by_cases h2 : 65536 < size
  ·rw [decide_eq_true h2, bad, if_pos rfl]
  ·obtain ⟨k, rfl⟩ : ∃ k : Nat, size = k := ⟨size.toNat, by omega⟩
   rw [decide_eq_false h2, if_neg Bool.false_ne_true, Int.toNat_natCast]
   obtain ⟨f1, f2⟩ := zpU k (by omega) 601 b hb
   have hp := zik (ziV 601 k b).2 (by omega)
   have hll := zpV hl hs
   have hfull := zwv k (by omega) (by omega) fuel 601 b [] (by unfold fuel; omega) (by omega) hb (by simp; omega)
   unfold zf3
   rw [if_neg Bool.false_ne_true, zvA tr hl hs, Option.bind_some]
   cases hz : (zl3 tr).2 == 0 with
   | false => rw [Bool.not_false, if_pos rfl, if_neg Bool.false_ne_true]
   | true =>
    unfold zlI
    rw [Bool.not_true, if_neg Bool.false_ne_true, hfull, Option.bind_some, zs9 _ (by dsimp only; omega), Option.bind_some, zD (by dsimp only; rw [List.nil_append]; omega), Option.bind_some, zD (by dsimp only; simp only [List.nil_append, List.length_append]; omega), Option.bind_some, if_pos rfl]
    simp
end Go.Dm
end
section
namespace Go.Dm
def cutT (l : List api_Field) : List api_Field := (l.take 105).map fun f => ⟨f.Name.take 50, f.Value.take 200⟩
theorem zxv (s : Str) : sTo s (min (s.length : Int) 50) = some (s.take 50) := zqK s 50
theorem zwg (s : Str) : sTo s (min (s.length : Int) 200) = some (s.take 200) := zqK s 200
theorem zwh (s : Str) : sTo s (min (s.length : Int) 500) = some (s.take 500) := zqK s 500
theorem ztT (l : List api_Field) (hl : l.length < 1000000000) : zlc l = some (cutT l) := by
 unfold zlc
 have key : ∀ (n i : Nat) (out : List api_Field), i ≤ l.length → i ≤ 105 → l.length - i < n → out.length = i → zcA l n out (i : Int) = some (out ++ ((l.drop i).take (105 - i)).map fun f => ⟨f.Name.take 50, f.Value.take 200⟩) := by
  intro n
  induction n with
  | zero => intro i _ _ _ h; omega
  | succ n ih =>
   intro i out hi h120 hn ho
   rw [zcA]
   unfold zhA
   by_cases hlt : i < l.length
   ·have g : l[i]? = some l[i] := List.getElem?_eq_getElem hlt
    rw [decide_eq_true (show (i : Int) < (l.length : Int) by omega), if_pos rfl]
    by_cases h2 : i < 105
    ·rw [decide_eq_true (show (i : Int) < 105 by omega), if_pos rfl, zas, g, Option.bind_some, Option.bind_some, zxv, Option.bind_some, Option.bind_some, Option.bind_some, zwg, Option.bind_some, if_pos (zcl (by omega) (by omega)), zo (by omega), Option.bind_some, ih (i + 1) _ (by omega) (by omega) (by omega) (by simp; omega), List.drop_eq_getElem_cons hlt, show 105 - i = (105 - (i + 1)) + 1 by omega, List.take_succ_cons]
     simp
    ·have : i = 105 := by omega
     subst this
     rw [decide_eq_false (by omega), if_neg (by decide)]
     simp
   ·have : i = l.length := by omega
    rw [decide_eq_false (by omega), if_neg (by decide), if_neg (by decide), this, List.drop_length]
    simp
 have := key fuel 0 [] (Nat.zero_le _) (by decide) (by unfold fuel; omega) rfl
 exact this
structure SmallM (m : api_Message) : Prop where
 head : smallH m.Head
 len : m.Head.Fields.length ≤ 120
 fields : zbS 401 m.Head.Fields
 body : m.Body.length ≤ 500
 tlen : m.Trailers.length ≤ 105
 trailers : zbS 401 m.Trailers
theorem few22 (m : api_Message) (hc : inI m.Head.Code = true) (hmi : inI m.Head.Minor = true) (hl : m.Head.Fields.length < 1000000000) (ht : m.Trailers.length < 1000000000) : ∃ g, zld m = some g ∧ SmallM g := by
 unfold zld
 rw [zt7 _ hl, Option.bind_some, zwh, Option.bind_some, ztT _ ht, Option.bind_some]
 refine ⟨_, rfl, ⟨hc, hmi, by simp; omega, by simp; omega, by simp; omega⟩, zzG _, zwr _, by simp; omega, by unfold cutT; simp; omega, ?_⟩
 intro f hf
 obtain ⟨g, _, rfl⟩ := List.mem_map.1 hf
 simp; omega
def ztU (f : api_Frame) : Prop := f.Kind = 1 ∨ f.Kind = 2 ∨ f.Kind = 3 ∨ f.Kind = 4
theorem ztV (o : Option (List Int)) (h : ((zjh o).2 == 0) = true) : ztU (zjh o).1 := by
 unfold zjh at h ⊢
 split
 ·cases h
 ·cases h
 ·split
  ·exact .inr (.inl rfl)
  ·rename_i h2
   dsimp only at h
   rw [if_neg h2] at h; cases h
theorem ztW (m : Int) (te : List Str) (h : ((zks m te).2 == 0) = true) : ztU (zks m te).1 := by
 unfold zks at h ⊢
 split
 ·rename_i h1
  rw [if_pos h1] at h
  split
  ·rename_i x hx
   rw [hx] at h
   dsimp only at h
   split
   ·exact .inr (.inr (.inl rfl))
   ·rename_i h2; rw [if_neg h2] at h; cases h
  ·rename_i hx
   split at h
   ·rename_i x hx2; exact absurd hx2 (hx x)
   ·cases h
 ·rename_i h1; rw [if_neg h1] at h; cases h
theorem zqb (g : api_Head) (k : Int) (hk : k = 1 ∨ k = 4) (h : ((zkM g k).2 == 0) = true) : ztU (zkM g k).1 := by
 unfold zkM at h ⊢
 split
 ·rename_i h1
  rw [if_pos h1] at h
  split
  ·rcases hk with rfl | rfl
   ·exact .inl rfl
   ·exact .inr (.inr (.inr rfl))
  ·rename_i h2; rw [if_neg h2] at h; exact ztV _ h
 ·rename_i h1
  rw [if_neg h1] at h
  split
  ·rename_i h2; rw [if_pos h2] at h; exact ztW _ _ h
  ·rename_i h2; rw [if_neg h2] at h; cases h
theorem zvh (m : Str) (g : api_Head) (h : ((zgN m g).2 == 0) = true) : ztU (zgN m g).1 := by
 unfold zgN at h ⊢
 split
 ·rename_i h1; rw [if_pos h1] at h; exact zqb g 1 (.inl rfl) h
 ·rename_i h1
  rw [if_neg h1] at h
  split
  ·exact .inl rfl
  ·rename_i h2; rw [if_neg h2] at h; exact zqb g 4 (.inr rfl) h
def zvi (m : api_Message) : Bool :=
 if m.Frame.Kind == 1 then (m.Body == []) && (m.Trailers == []) else if m.Frame.Kind == 2 then ((m.Body.length : Int) == m.Frame.N) && (m.Trailers == []) else if m.Frame.Kind == 4 then m.Trailers == [] else true
theorem zAr {α : Type} [DecidableEq α] (l : List α) : ((l.length : Int) == 0) = (l == []) := by
 cases l with
 | nil => rfl
 | cons x l => simp <;> omega
theorem zAs {α : Type} [DecidableEq α] (l : List α) : decide (0 < (l.length : Int)) = !(l == []) := by
 cases l with
 | nil => rfl
 | cons x l => simp <;> omega
theorem zAt (m : api_Message) : zhB m = some (zvi m) := by
 unfold zhB zeH zeI zvi
 rw [zAr]
 cases m.Frame.Kind == 1 <;> cases m.Frame.Kind == 2 <;> cases m.Frame.Kind == 4 <;> cases m.Body == [] <;> cases (m.Body.length : Int) == m.Frame.N <;> rfl
def zkI (method : Str) (m : api_Message) : Int :=
 if zgH m.Head == 0 then (if (zgN method m.Head).2 == 0 then (if (zgN method m.Head).1 == m.Frame then (if zvi m then (zl3 m.Trailers).2 else 1) else 1) else (zgN method m.Head).2) else zgH m.Head
theorem zk1 (method : Str) (m : api_Message) (h : SmallM m) : zeW method m = some (zkI method m) := by
 have h1 := h.len
 have h2 := h.tlen
 unfold zeW zkI zd5
 rw [znR _ h.head (by omega) (zQ (by decide) h.fields), Option.bind_some, zpT _ _ (by omega) (zQ (by decide) h.fields), Option.bind_some, zAt, Option.bind_some, zwY _ (by omega) (zQ (by decide) h.trailers), Option.bind_some]
 cases zgH m.Head == 0 <;> cases (zgN method m.Head).2 == 0 <;> cases (zgN method m.Head).1 == m.Frame <;> cases zvi m <;> rfl
theorem zmA (method : Str) (m : api_Message) (h : SmallM m) : zg3 method m = some (zkI method m) := by
 have h1 := h.len
 have h2 := h.tlen
 unfold zg3 zkI
 rw [zrJ _ h.head (by omega) (zQ (by decide) h.fields), Option.bind_some, zrW _ _ (by omega) (zQ (by decide) h.fields), Option.bind_some]
 cases zgH m.Head == 0 with
 | false => rfl
 | true =>
  rw [Bool.not_true, if_neg Bool.false_ne_true, if_pos rfl]
  cases hz : (zgN method m.Head).2 == 0 with
  | false => rfl
  | true =>
   have hk := zvh method m.Head hz
   rw [Bool.not_true, if_neg Bool.false_ne_true, if_pos rfl]
   cases hfr : (zgN method m.Head).1 == m.Frame with
   | false => rfl
   | true =>
    have e : (zgN method m.Head).1 = m.Frame := by simpa using hfr
    rw [e] at hk
    rw [Bool.not_true, if_neg Bool.false_ne_true, if_pos rfl, e]
    unfold zT zvi
    rw [zvA _ (by omega) (zQ (by decide) h.trailers), Option.bind_some, zAs]
    rcases hk with k | k | k | k
    ·rw [k]
     cases m.Body == [] <;> cases m.Trailers == [] <;> rfl
    ·rw [k]
     cases (m.Body.length : Int) == m.Frame.N <;> cases m.Trailers == [] <;> rfl
    ·rw [k]; rfl
    ·rw [k]
     cases m.Trailers == [] <;> rfl
def ztX (method : Str) (m : api_Message) (lim size : Int) : Str × Int :=
 if zkI method m == 0 then (if ((zlY m.Head).length : Int) ≤ lim then (if m.Frame.Kind == 3 then (if (zrZ size m.Body m.Trailers).2 == 0 then (zlY m.Head ++ (zrZ size m.Body m.Trailers).1, 0) else ([], (zrZ size m.Body m.Trailers).2)) else (zlY m.Head ++ m.Body, 0)) else ([], 3)) else ([], zkI method m)
theorem zvj {method : Str} {m : api_Message} (h : (zkI method m == 0) = true) : (zgH m.Head == 0) = true := by
 unfold zkI at h
 cases hc : zgH m.Head == 0 with
 | true => rfl
 | false => rw [hc, if_neg Bool.false_ne_true, hc] at h; cases h
theorem zvk {size : Int} {b : Str} {tr : List api_Field} (hb : b.length ≤ 600) (hl : tr.length ≤ 200) (hs : zbS 4000 tr) : (zrZ size b tr).1.length ≤ 4000000 := by
 have hll := zpV hl hs
 unfold zrZ
 split
 ·simp
 ·rename_i h1
  split
  ·have h1' : 1 ≤ size.toNat := by
    cases h2 : decide (size < 1) with
    | true => rw [h2] at h1; exact absurd rfl h1
    | false => have := of_decide_eq_false h2; omega
   obtain ⟨f1, f2⟩ := zpU size.toNat h1' 601 b hb
   have hp := zik (ziV 601 size.toNat b).2 (by omega)
   simp only [List.length_append]
   omega
  ·simp
theorem zs3 {h : api_Head} (hs : smallH h) (hl : h.Fields.length ≤ 200) (hf : zbS 4000 h.Fields) : (zlY h).length < 200000000 := by
 have htl := zpF hs
 have hrl := zjn hf
 unfold zlY
 simp only [List.length_append, List.length_cons]
 omega
theorem zpE (method : Str) (m : api_Message) (lim size : Int) (hli : inI lim = true) (h : SmallM m) : zgt method m lim size = some (ztX method m lim size) := by
 have h1 := h.len
 have h2 := h.tlen
 have h3 := h.body
 have hh := zs3 h.head (by omega) (zQ (by decide) h.fields)
 have ha := zvk (size := size) (b := m.Body) (tr := m.Trailers) (by omega) (by omega) (zQ (by decide) h.trailers)
 unfold zgt ztX
 rw [zk1 _ _ h, Option.bind_some]
 cases hc : zkI method m == 0 with
 | false => rfl
 | true =>
  rw [Bool.not_true, if_neg Bool.false_ne_true, if_pos rfl, zsA _ lim hli h.head (by omega) (zQ (by decide) h.fields), zvj hc, if_pos rfl, Option.bind_some]
  unfold zwj
  by_cases hfit : ((zlY m.Head).length : Int) ≤ lim
  ·rw [if_pos hfit, if_pos hfit]
   dsimp only
   rw [show (!((0 : Int) == 0)) = false from rfl, if_neg Bool.false_ne_true, All_eq _ _ _ (by omega) (by omega) (zQ (by decide) h.trailers), Option.bind_some]
   unfold zd7
   dsimp only
   rw [zD (by omega), Option.bind_some, zD (by omega), Option.bind_some]
   cases m.Frame.Kind == 3 <;> cases (zrZ size m.Body m.Trailers).2 == 0 <;> rfl
  ·rw [if_neg hfit, if_neg hfit]
   rfl
theorem zrF (method : Str) (m : api_Message) (lim size : Int) (h : SmallM m) : ziR method m lim size = some (ztX method m lim size) := by
 have h1 := h.len
 have h2 := h.tlen
 have h3 := h.body
 have hh := zs3 h.head (by omega) (zQ (by decide) h.fields)
 have ha := zvk (size := size) (b := m.Body) (tr := m.Trailers) (by omega) (by omega) (zQ (by decide) h.trailers)
 unfold ziR ztX
 rw [zmA _ _ h, Option.bind_some]
 cases hc : zkI method m == 0 with
 | false => rfl
 | true =>
  rw [Bool.not_true, if_neg Bool.false_ne_true, if_pos rfl, zsz _ h.head (by omega) (zQ (by decide) h.fields), Option.bind_some]
  by_cases hfit : ((zlY m.Head).length : Int) ≤ lim
  ·rw [decide_eq_false (by omega), if_neg Bool.false_ne_true, if_pos hfit, zAG _ _ _ (by omega) (by omega) (zQ (by decide) h.trailers), Option.bind_some]
   unfold zfL
   rw [zD (by omega), Option.bind_some, zD (by omega), Option.bind_some]
   cases m.Frame.Kind == 3 <;> cases (zrZ size m.Body m.Trailers).2 == 0 <;> rfl
  ·rw [decide_eq_true (by omega), if_pos rfl, if_neg hfit]
theorem zrG : zkk = some true := by decide +kernel
theorem zog (method : Str) (m : api_Message) (two : Int × Int) (_ : inI m.Head.Kind = true) (hc : inI m.Head.Code = true) (hmi : inI m.Head.Minor = true) (hl : m.Head.Fields.length < 1000000000) (_ : inI m.Frame.Kind = true) (_ : inI m.Frame.N = true) (ht : m.Trailers.length < 1000000000) (hli : inI two.1 = true) (_ : inI two.2 = true) : zdO method m two = some true := by
 obtain ⟨g, hg, hs⟩ := few22 m hc hmi hl ht
 unfold zdO
 rw [zrG, Option.bind_some, Bool.not_true, if_neg Bool.false_ne_true, hg, Option.bind_some, zpE _ _ _ _ hli hs, Option.bind_some, zrF _ _ _ _ hs, Option.bind_some, beq_self_eq_true, if_pos rfl, beq_self_eq_true, if_pos rfl, zk1 _ _ hs, Option.bind_some, zmA _ _ hs, Option.bind_some, beq_self_eq_true]
 rfl
end Go.Dm
end
