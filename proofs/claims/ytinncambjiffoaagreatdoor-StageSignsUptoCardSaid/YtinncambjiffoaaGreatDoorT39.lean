/-
  For whom messages came: what a gateway knows, as an element; it is read as it is written.
  X-Forwarded-For: elements, lists, one element more. No program in sight.
  Via: elements read and written.
  Via: the document's elements; texts; lists; one element more.
  Via: one element more, behind a head's list.
  For whom messages came: one element more, behind a head's list.
  Heads that are signed: by whom, and for whom, they came.
-/
import Derived.Test.YtinncambjiffoaaGreatDoorT15E
section
namespace Go.Dm
def zmL : Str → Str
  | [] => []
  | c :: r => if c == 34 || c == 92 then 92 :: c :: zmL r else c :: zmL r
def zrj (s : Str) : Str := 34 :: (zmL s ++ [34])
def zfi (s : Str) : Str := if zbZ s then s else zrj s
def okW (s : Str) : Bool := zbZ s || s.all zkL
theorem zsb : ∀ s : Str, (zmL s).length ≤ 2 * s.length
  | [] => Nat.le_refl _
  | c :: r => by
    have := zsb r
    rw [zmL]
    split <;> simp only [List.length_cons] <;> omega
theorem zkT (s : Str) : (zfi s).length ≤ 2 * s.length + 2 := by
  unfold zfi zrj
  have := zsb s
  split <;> simp <;> omega
theorem zwJ {s : Str} {i : Nat} {c : UInt8} (h : s[i]? = some c) : zfH s (i : Int) ((i + 1 : Nat) : Int) = some [c] := by
  have hlt : i < s.length := (List.getElem?_eq_some_iff.1 h).1
  rw [zeK (by omega) (by omega), List.take_add_one, h]
  congr 1
  rw [List.drop_append_of_le_length (by simp; omega), List.drop_eq_nil_of_le (by simp; omega)]
  rfl
theorem zoX (s : Str) (hs : s.length < 100000000) : zjn s = some (if s.all zkL then (zrj s, 0) else ([], 2)) := by
  have key : ∀ (n i : Nat) (out : Str), i ≤ s.length → s.length - i < n → out.length ≤ 1 + 2 * i → zal s n out (i : Int) = some (if (s.drop i).all zkL then (out ++ (zmL (s.drop i) ++ [34]), 0) else ([], 2)) := by
    intro n
    induction n with
    | zero => intro i _ _ h; omega
    | succ n ih =>
      intro i out hi h ho
      rw [zal]
      by_cases hlt : i < s.length
      · have g : s[i]? = some s[i] := List.getElem?_eq_getElem hlt
        rw [decide_eq_true (show (i : Int) < (s.length : Int) by omega), if_pos rfl, zaq, g, Option.bind_some, ziP, Option.bind_some, List.drop_eq_getElem_cons hlt, List.all_cons]
        generalize s[i] = c at g
        cases hv : zkL c with
        | false => rfl
        | true =>
          have j3 : ∀ u : Str, u.length ≤ 2 + 2 * i → zdR (zal s n) s (i : Int) u = zal s n (u ++ [c]) ((i + 1 : Nat) : Int) := fun u hu => by
            unfold zdR
            rw [zA (by omega), Option.bind_some, zwJ g, Option.bind_some, zam (by simp; omega), Option.bind_some, Option.bind_some]
          rw [Bool.not_true, if_neg Bool.false_ne_true, Option.bind_some, Bool.true_and, zmL]
          have j2 : ∀ t, zdS (zal s n) s out (i : Int) t = some (if (s.drop (i + 1)).all zkL then (out ++ ((if t then 92 :: c :: zmL (s.drop (i + 1)) else c :: zmL (s.drop (i + 1))) ++ [34]), 0) else ([], 2)) := fun t => by
            unfold zdS
            cases t with
            | true =>
              rw [if_pos rfl, if_pos rfl, zam (by simp; omega), Option.bind_some, j3 _ (by simp; omega), ih (i + 1) _ (by omega) (by omega) (by simp; omega)]
              simp
            | false =>
              rw [if_neg Bool.false_ne_true, if_neg Bool.false_ne_true, j3 _ (by omega), ih (i + 1) _ (by omega) (by omega) (by simp; omega)]
              simp
          cases h34 : c == 34 with
          | true => rw [if_pos rfl, j2, Bool.true_or]
          | false => rw [if_neg Bool.false_ne_true, Option.bind_some, j2, Bool.false_or]
      · obtain rfl : i = s.length := by omega
        rw [decide_eq_false (by omega), if_neg Bool.false_ne_true, zam (by simp; omega), Option.bind_some, List.drop_length]
        rfl
  have := key fuel 0 [34] (Nat.zero_le _) (by unfold fuel; omega) (by simp)
  rw [List.drop_zero] at this
  exact this
theorem zom (s : Str) (hs : s.length < 100000000) : zg9 s = some (if okW s then (zfi s, 0) else ([], 2)) := by
  unfold zg9 okW zfi
  rw [zeO s (by omega), Option.bind_some, zoX s hs, Option.bind_some]
  cases zbZ s with
  | true => rfl
  | false =>
    rw [if_neg Bool.false_ne_true, Bool.false_or]
    cases s.all zkL <;> rfl

section
variable {s r : Str} {k : Nat}
def znp (p : api_Param) : Str := p.Name ++ 61 :: zfi p.Value
def okP (p : api_Param) : Bool := okW p.Value && zbZ p.Name
def zkU (l : List api_Param) : Str := l.flatMap fun p => 59 :: znp p
def zdU : List api_Param → Str
  | [] => []
  | p :: l => znp p ++ zkU l
end
def sepP (i : Nat) (l : List api_Param) : Str := if i = 0 then zdU l else zkU l
theorem zp8 (l : List api_Param) (hn : l.length < 1000) (hv : ∀ p ∈ l, p.Name.length < 100000 ∧ p.Value.length < 100000) : zku l = some (if l.all okP && !(l == []) then (zdU l, 0) else ([], 2)) := by
  have key : ∀ (n i : Nat) (out : Str), i ≤ l.length → l.length - i < n → out.length ≤ i * 1000000 → zaY l n out (i : Int) = some (if (l.drop i).all okP && !(l == []) then (out ++ sepP i (l.drop i), 0) else ([], 2)) := by
    intro n
    induction n with
    | zero => intro i _ _ h; omega
    | succ n ih =>
      intro i out hi h ho
      rw [zaY]
      by_cases hlt : i < l.length
      · have g : l[i]? = some l[i] := List.getElem?_eq_getElem hlt
        obtain ⟨b1, b2⟩ := hv l[i] (List.getElem_mem _)
        have hne : (l == []) = false := by cases l with
          | nil => simp at hlt
          | cons _ _ => rfl
        rw [decide_eq_true (show (i : Int) < (l.length : Int) by omega), if_pos rfl, zdw, g, Option.bind_some, zom _ (by omega), Option.bind_some, List.drop_eq_getElem_cons hlt, List.all_cons]
        generalize l[i] = p at g b1 b2
        unfold okP
        cases hw : okW p.Value with
        | false =>
          rw [if_neg Bool.false_ne_true, Bool.false_and, Bool.false_and, Bool.false_and, if_neg Bool.false_ne_true]
          rfl
        | true =>
          rw [if_pos rfl, Option.bind_some, zeO _ (by omega), Option.bind_some, Bool.true_and]
          dsimp only
          rw [beq_self_eq_true, Bool.not_true, if_neg Bool.false_ne_true]
          unfold zfT
          cases ht : zbZ p.Name with
          | false => rw [Bool.not_false, if_pos rfl, Bool.false_and, Bool.false_and, if_neg Bool.false_ne_true]
          | true =>
            have he := zkT p.Value
            have j3 : ∀ u : Str, u.length ≤ i * 1000000 + 1 → zeD (zaY l n) l (i : Int) (zfi p.Value, 0) u = some (if (l.drop (i + 1)).all okP && !(l == []) then (u ++ znp p ++ zkU (l.drop (i + 1)), 0) else ([], 2)) := fun u hu => by
              unfold zeD
              have le : (u ++ p.Name ++ [61] ++ zfi p.Value).length = u.length + p.Name.length + 1 + (zfi p.Value).length := by simp only [List.length_append, List.length_cons, List.length_nil]
              rw [zdw, g, Option.bind_some, zam (by omega), Option.bind_some, zam (by simp only [List.length_append, List.length_cons, List.length_nil]; omega), Option.bind_some, zam (by simp only [List.length_append, List.length_cons, List.length_nil]; omega), Option.bind_some, zA (by omega), Option.bind_some, ih (i + 1) _ (by omega) (by omega) (by rw [le]; omega)]
              unfold sepP znp
              rw [if_neg (show ¬ i + 1 = 0 by omega), show u ++ p.Name ++ [61] ++ zfi p.Value = u ++ (p.Name ++ 61 :: zfi p.Value) by simp]
            rw [Bool.not_true, if_neg Bool.false_ne_true, Bool.true_and]
            show _ = some (if (l.drop (i + 1)).all okP && !(l == []) then _ else _)
            by_cases h0 : 0 < i
            · rw [decide_eq_true (show (0 : Int) < (i : Int) by omega), if_pos rfl, zam (by simp only [List.length_cons, List.length_nil]; omega), Option.bind_some, j3 _ (by simp only [List.length_append, List.length_cons, List.length_nil]; omega)]
              unfold sepP
              rw [if_neg (show ¬ i = 0 by omega), show out ++ [59] ++ znp p ++ zkU (l.drop (i + 1)) = out ++ zkU (p :: l.drop (i + 1)) by simp [zkU]]
            · obtain rfl : i = 0 := by omega
              rw [decide_eq_false (by omega), if_neg Bool.false_ne_true, j3 _ (by omega)]
              unfold sepP
              rw [if_pos rfl, zdU, List.append_assoc]
      · obtain rfl : i = l.length := by omega
        rw [decide_eq_false (by omega), if_neg Bool.false_ne_true, List.drop_length, List.all_nil, Bool.true_and]
        cases l with
        | nil => rfl
        | cons p l =>
          have : ((((p :: l).length : Nat) : Int) == 0) = false := beq_eq_false_iff_ne.2 (by simp only [List.length_cons]; omega)
          rw [this, if_neg Bool.false_ne_true]
          show _ = some (out ++ sepP (l.length + 1) [], 0)
          unfold sepP
          rw [if_neg (show ¬ l.length + 1 = 0 by omega)]
          simp [zkU]
  have := key fuel 0 [] (Nat.zero_le _) (by unfold fuel; omega) (by simp)
  rw [List.drop_zero] at this
  exact this

def zqK (c : Str) : Str := if zcY c then c else if zlG c then 91 :: (c ++ [93]) else [117, 110, 107, 110, 111, 119, 110]
def zci (e : api_Env) : List api_Param := ⟨[102, 111, 114], zqK e.Client⟩ :: ((if e.Host == [] then [] else [⟨[104, 111, 115, 116], e.Host⟩]) ++ (if e.Scheme == [] then [] else [⟨[112, 114, 111, 116, 111], e.Scheme⟩]))
theorem zmM (c : Str) (hc : c.length < 100000) : zeX c = some (zqK c) := by
  unfold zeX zqK
  rw [zfk c (by omega), Option.bind_some]
  cases zcY c with
  | true => rfl
  | false =>
    rw [if_neg Bool.false_ne_true, if_neg Bool.false_ne_true, zt2 c (by omega), Option.bind_some]
    cases zlG c with
    | true => rw [if_pos rfl, if_pos rfl, zam (by simp; omega), Option.bind_some, zam (by simp; omega), Option.bind_some]; simp
    | false => rfl
theorem zmN (e : api_Env) (hc : e.Client.length < 100000) : zeY e = some (zci e) := by
  unfold zeY zci
  rw [zmM _ hc, Option.bind_some]
  unfold zdm zdl
  rw [if_pos (zcn (by simp) (by simp))]
  cases e.Host == [] <;> cases e.Scheme == [] <;> rfl
theorem zp9 (e : api_Env) (hc : e.Client.length < 100000) : zi1 e = some (zci e) := by
  unfold zi1 zci zqK
  rw [zkD _ (by omega), Option.bind_some]
  have j2 : ∀ t : Str, zeB e t = some (⟨[102, 111, 114], t⟩ :: ((if e.Host == [] then [] else [⟨[104, 111, 115, 116], e.Host⟩]) ++ (if e.Scheme == [] then [] else [⟨[112, 114, 111, 116, 111], e.Scheme⟩]))) := fun t => by
    unfold zeB zfS zfR
    rw [if_pos (zcn (by simp) (by simp))]
    cases e.Host == [] <;> cases e.Scheme == [] <;> rfl
  have j1 : ∀ t : Str, zeC e t = some (⟨[102, 111, 114], if zcY e.Client then e.Client else t⟩ :: ((if e.Host == [] then [] else [⟨[104, 111, 115, 116], e.Host⟩]) ++ (if e.Scheme == [] then [] else [⟨[112, 114, 111, 116, 111], e.Scheme⟩]))) := fun t => by
    unfold zeC
    rw [zhy _ (by omega), Option.bind_some]
    cases zcY e.Client with
    | true => rw [if_pos rfl, if_pos rfl, j2]
    | false => rw [if_neg Bool.false_ne_true, if_neg Bool.false_ne_true, j2]
  cases zlG e.Client with
  | true => rw [if_pos rfl, if_pos rfl, zam (by simp; omega), Option.bind_some, zam (by simp; omega), Option.bind_some, j1]; simp
  | false => rw [if_neg Bool.false_ne_true, if_neg Bool.false_ne_true, j1]
theorem zqL (x : api_Swap) : zhr x = some ⟨x.From.take 60, x.To.take 60⟩ := by
  unfold zhr
  have a := zmK x.From 60
  have b := zmK x.To 60
  rw [show ((60 : Nat) : Int) = 60 from rfl] at a b
  rw [a, Option.bind_some, b, Option.bind_some]
theorem few26B (x : api_Env) : ∃ e, zj1 x = some e ∧ e.Client.length ≤ 60 ∧ e.Host.length ≤ 60 ∧ e.Scheme.length ≤ 60 ∧ e.By.length ≤ 60 := by
  have k6 : ∀ (n i : Nat) (out dom : List api_Swap) (c h s b : Str), i ≤ x.Locations.length → i ≤ 6 → 6 - i < n → out.length = i → ∃ l, zbS x n out c h s b dom (i : Int) = some ⟨c, h, s, b, dom, l⟩ := by
    intro n
    induction n with
    | zero => intro i _ _ _ _ _ _ _ _ h; omega
    | succ n ih =>
      intro i out dom c h s b hi h6 hn ho
      rw [zbS]
      unfold zg2 ziu
      by_cases hlt : i < x.Locations.length
      · have g : x.Locations[i]? = some x.Locations[i] := List.getElem?_eq_getElem hlt
        rw [decide_eq_true (show (i : Int) < (x.Locations.length : Int) by omega), if_pos rfl]
        by_cases h7 : i < 6
        · rw [decide_eq_true (show (i : Int) < 6 by omega), if_pos rfl, zdw, g, Option.bind_some, zqL, Option.bind_some, if_pos (zcn (by omega) (by omega)), zA (by omega), Option.bind_some]
          exact ih (i + 1) _ _ _ _ _ _ (by omega) (by omega) (by omega) (by simp; omega)
        · rw [decide_eq_false (show ¬ (i : Int) < 6 by omega), if_neg Bool.false_ne_true]
          exact ⟨_, rfl⟩
      · rw [decide_eq_false (show ¬ (i : Int) < (x.Locations.length : Int) by omega), if_neg Bool.false_ne_true, if_neg Bool.false_ne_true]
        exact ⟨_, rfl⟩
  have k3 : ∀ (n i : Nat) (out : List api_Swap) (c h s b : Str), i ≤ x.Domains.length → i ≤ 6 → 6 - i < n → out.length = i → ∃ d l, zcr x n out c h s b [] (i : Int) = some ⟨c, h, s, b, d, l⟩ := by
    intro n
    induction n with
    | zero => intro i _ _ _ _ _ _ _ h; omega
    | succ n ih =>
      intro i out c h s b hi h6 hn ho
      rw [zcr]
      unfold zg3 ziv
      have fin : ∀ out : List api_Swap, ∃ d l, zbS x fuel [] c h s b out 0 = some ⟨c, h, s, b, d, l⟩ := fun out => by
        obtain ⟨l, e⟩ := k6 fuel 0 [] out c h s b (Nat.zero_le _) (by omega) (by unfold fuel; omega) rfl
        exact ⟨out, l, e⟩
      by_cases hlt : i < x.Domains.length
      · have g : x.Domains[i]? = some x.Domains[i] := List.getElem?_eq_getElem hlt
        rw [decide_eq_true (show (i : Int) < (x.Domains.length : Int) by omega), if_pos rfl]
        by_cases h7 : i < 6
        · rw [decide_eq_true (show (i : Int) < 6 by omega), if_pos rfl, zdw, g, Option.bind_some, zqL, Option.bind_some, if_pos (zcn (by omega) (by omega)), zA (by omega), Option.bind_some]
          exact ih (i + 1) _ _ _ _ _ (by omega) (by omega) (by omega) (by simp; omega)
        · rw [decide_eq_false (show ¬ (i : Int) < 6 by omega), if_neg Bool.false_ne_true]
          exact fin out
      · rw [decide_eq_false (show ¬ (i : Int) < (x.Domains.length : Int) by omega), if_neg Bool.false_ne_true, if_neg Bool.false_ne_true]
        exact fin out
  unfold zj1
  have t60 : ∀ u : Str, sTo u (min (u.length : Int) 60) = some (u.take 60) := fun u => by
    have := zmK u 60
    rwa [show ((60 : Nat) : Int) = 60 from rfl] at this
  rw [show fuel = 999999999999999995 + 1 + 1 + 1 + 1 + 1 from rfl, zbT]
  rw [show decide ((0 : Int) < 4) = true from rfl, if_pos rfl, show lAt [x.Client, x.Host, x.Scheme, x.By] 0 = some x.Client from rfl, Option.bind_some, Option.bind_some, t60, Option.bind_some, Option.bind_some, show (zjw [x.Client, x.Host, x.Scheme, x.By] 0 (x.Client.take 60)).bind zsL = some (x.Client.take 60, x.Host, x.Scheme, x.By) from rfl, Option.bind_some, show zK 0 1 = some 1 from rfl, Option.bind_some]
  rw [zbT]
  rw [show decide ((1 : Int) < 4) = true from rfl, if_pos rfl, show lAt [x.Client.take 60, x.Host, x.Scheme, x.By] 1 = some x.Host from rfl, Option.bind_some, Option.bind_some, t60, Option.bind_some, Option.bind_some, show (zjw [x.Client.take 60, x.Host, x.Scheme, x.By] 1 (x.Host.take 60)).bind zsL = some (x.Client.take 60, x.Host.take 60, x.Scheme, x.By) from rfl, Option.bind_some, show zK 1 1 = some 2 from rfl, Option.bind_some]
  rw [zbT]
  rw [show decide ((2 : Int) < 4) = true from rfl, if_pos rfl, show lAt [x.Client.take 60, x.Host.take 60, x.Scheme, x.By] 2 = some x.Scheme from rfl, Option.bind_some, Option.bind_some, t60, Option.bind_some, Option.bind_some, show (zjw [x.Client.take 60, x.Host.take 60, x.Scheme, x.By] 2 (x.Scheme.take 60)).bind zsL = some (x.Client.take 60, x.Host.take 60, x.Scheme.take 60, x.By) from rfl, Option.bind_some, show zK 2 1 = some 3 from rfl, Option.bind_some]
  rw [zbT]
  rw [show decide ((3 : Int) < 4) = true from rfl, if_pos rfl, show lAt [x.Client.take 60, x.Host.take 60, x.Scheme.take 60, x.By] 3 = some x.By from rfl, Option.bind_some, Option.bind_some, t60, Option.bind_some, Option.bind_some, show (zjw [x.Client.take 60, x.Host.take 60, x.Scheme.take 60, x.By] 3 (x.By.take 60)).bind zsL = some (x.Client.take 60, x.Host.take 60, x.Scheme.take 60, x.By.take 60) from rfl, Option.bind_some, show zK 3 1 = some 4 from rfl, Option.bind_some]
  rw [zbT]
  rw [show decide ((4 : Int) < 4) = false from rfl, if_neg Bool.false_ne_true]
  unfold ziw
  obtain ⟨d, l, e⟩ := k3 fuel 0 [] (x.Client.take 60) (x.Host.take 60) (x.Scheme.take 60) (x.By.take 60) (Nat.zero_le _) (by omega) (by unfold fuel; omega) rfl
  exact ⟨_, e, by simp; omega, by simp; omega, by simp; omega, by simp; omega⟩
theorem zn2 {e : api_Env} (h1 : e.Client.length ≤ 60) (h2 : e.Host.length ≤ 60) (h3 : e.Scheme.length ≤ 60) : (zci e).length < 100 ∧ (∀ p ∈ zci e, p.Name.length < 100 ∧ p.Value.length < 100) := by
  have hn : (zqK e.Client).length < 100 := by
    unfold zqK
    split
    · omega
    · split
      · simp; omega
      · decide
  unfold zci
  cases e.Host == [] <;> cases e.Scheme == [] <;> simp <;> omega
end Go.Dm
end
section
namespace Go.Dm
def zps : Str := [117, 110, 107, 110, 111, 119, 110]
def zpt (s : Str) : Bool := zcY s || zlG s
def zox (c : Str) : Str := if zpt c then c else zps
theorem ztJ (c : Str) : (zpt c = true ∧ zox c = c) ∨ zox c = zps := by
  unfold zox
  cases h : zpt c with
  | true => exact .inl ⟨rfl, rfl⟩
  | false => exact .inr rfl
theorem zsI (s : Str) (hs : s.length < 900000000) : zlv s = some (zpt s) := by
  unfold zlv zhS zpt
  rw [zfk s (by omega), Option.bind_some, zt2 s hs, Option.bind_some]
  cases zcY s <;> rfl
theorem zvS (l : List api_Field) (i : Nat) (f : api_Field) (h : l[i]? = some f) : l = l.take i ++ f :: l.drop (i + 1) := by
  obtain ⟨h1, h2⟩ := List.getElem?_eq_some_iff.1 h
  have := (List.take_append_drop i l).symm
  rw [List.drop_eq_getElem_cons h1, h2] at this
  exact this
theorem set_at (l : List api_Field) (i : Nat) (f g : api_Field) (h : l[i]? = some f) : l.set i g = l.take i ++ g :: l.drop (i + 1) := by
  obtain ⟨h1, _⟩ := List.getElem?_eq_some_iff.1 h
  rw [List.set_eq_take_append_cons_drop, if_pos h1]
theorem zm3 (l : List api_Field) (nm x : Str) : (l.filter (isN nm) = [] ∧ zar l nm x = l ++ [⟨nm, x⟩]) ∨
    ∃ a f b, l = a ++ f :: b ∧ isN nm f = true ∧ b.filter (isN nm) = [] ∧ zar l nm x = a ++ ⟨f.Name, zcw f.Value x⟩ :: b := by
  unfold zar
  cases h : ziI (isN nm) l l.length with
  | none =>
    left
    refine ⟨?_, rfl⟩
    rw [List.filter_eq_nil_iff]
    intro g hg
    obtain ⟨j, hj, hg⟩ := List.getElem_of_mem hg
    have := zo6 h j hj g (by rw [← hg]; exact List.getElem?_eq_getElem hj)
    rw [this]; decide
  | some i =>
    right
    obtain ⟨h1, f, h2, h3, h4⟩ := zmr h
    dsimp only
    rw [h2]
    refine ⟨l.take i, f, l.drop (i + 1), zvS l i f h2, h3, ?_, set_at l i f _ h2⟩
    rw [List.filter_eq_nil_iff]
    intro g hg
    obtain ⟨j, hj, hg⟩ := List.getElem_of_mem hg
    simp only [List.length_drop] at hj
    rw [List.getElem_drop] at hg
    have := h4 (i + 1 + j) (by omega) (by omega) g (by rw [← hg]; exact List.getElem?_eq_getElem (by omega))
    rw [this]; decide
theorem zsJ (s x : Str) : (zcw s x).length ≤ s.length + x.length + 2 := by
  unfold zcw
  have := zsX s
  split
  · omega
  · simp; omega
theorem zil {l : List api_Field} {nm x : Str} {m : Nat} (hs : zgB m l) (hn : nm.length < m) : zgB (m + x.length + 2) (zar l nm x) := by
  rcases zm3 l nm x with ⟨_, h2⟩ | ⟨a, f, b, h1, _, _, h4⟩
  · rw [h2]
    intro g hg
    rcases List.mem_append.1 hg with hg | hg
    · have := hs g hg; omega
    · have : g = ⟨nm, x⟩ := by simpa using hg
      subst this
      dsimp only; omega
  · rw [h4]
    intro g hg
    rcases List.mem_append.1 hg with hg | hg
    · have := hs g (by rw [h1]; simp [hg]); omega
    · rcases List.mem_cons.1 hg with rfl | hg
      · have := hs f (by rw [h1]; simp)
        have := zsJ f.Value x
        dsimp only; omega
      · have := hs g (by rw [h1]; simp [hg]); omega
theorem zcK (l : List api_Field) (nm x : Str) : (zar l nm x).length ≤ l.length + 1 := by
  rcases zm3 l nm x with ⟨_, h2⟩ | ⟨a, f, b, h1, _, _, h4⟩
  · rw [h2]; simp
  · rw [h4, h1]; simp
theorem zmc (c : Str) (l : List api_Field) (hc : c.length < 900000000) (hl : l.length < 900000000) (hs : zgB 900000 l) : zhp c l = some (zar l [88, 45, 70, 111, 114, 119, 97, 114, 100, 101, 100, 45, 70, 111, 114] (zox c)) := by
  unfold zhp
  rw [zsI c hc, Option.bind_some]
  have hj : ∀ x : Str, x.length < 1000000000 → zev l x = some (zar l [88, 45, 70, 111, 114, 119, 97, 114, 100, 101, 100, 45, 70, 111, 114] x) := by
    intro x hx
    unfold zev zeG zaO
    have := zcK l [88, 45, 70, 111, 114, 119, 97, 114, 100, 101, 100, 45, 70, 111, 114] x
    rw [zhL l (by omega), Option.bind_some, Option.bind_some, zjs l _ x (by decide) hx (by omega) (zdb (by decide) hs), Option.bind_some, zhL _ (by dsimp only; omega), Option.bind_some, Option.bind_some]
  unfold zox
  cases zpt c with
  | true => rw [Bool.not_true, if_neg (by decide), if_pos rfl]; exact hj c (by omega)
  | false => rw [Bool.not_false, if_pos rfl, if_neg (by decide)]; exact hj zps (by decide)
theorem zrF (c : Str) (hc : c.length < 400000000) : zj8 c = some (zox c) := by
  unfold zj8 zha zox zpt
  rw [zhy c (by omega), Option.bind_some, zkD c hc, Option.bind_some]
  cases zcY c <;> cases zlG c <;> rfl
theorem zsK (c : Str) : (zox c).length ≤ c.length + 7 := by
  rcases ztJ c with ⟨_, e⟩ | e <;> rw [e]
  · omega
  · show 7 ≤ _; omega

end Go.Dm
end
section
namespace Go.Dm
def zim : Nat → Str → Bool
  | d, [] => d == 0
  | d, c :: r => if c == 92 then (match r with | [] => false | _ :: t => zim d t) else if c == 40 then zim (d + 1) r else if c == 41 then (match d with | 0 => false | d + 1 => zim d r) else zim d r
theorem zsN (d : Nat) : zim d [] = (d == 0) := rfl
theorem zqY (d : Nat) : zim d [92] = false := by rw [zim.eq_def]; rfl
theorem zsO (d : Nat) (c : UInt8) (t : Str) : zim d (92 :: c :: t) = zim d t := by rw [zim.eq_def]; rfl
theorem zqZ (d : Nat) (r : Str) : zim d (40 :: r) = zim (d + 1) r := by rw [zim.eq_def]; rfl
theorem zn9 (r : Str) : zim 0 (41 :: r) = false := by rw [zim.eq_def]; rfl
theorem zpv (d : Nat) (r : Str) : zim (d + 1) (41 :: r) = zim d r := by rw [zim.eq_def]; rfl
theorem zsP (d : Nat) {c : UInt8} (r : Str) (h1 : (c == 40) = false) (h2 : (c == 41) = false) (h3 : (c == 92) = false) : zim d (c :: r) = zim d r := by
  rw [zim.eq_def]; simp only [h1, h2, h3, Bool.false_eq_true, if_false]
def zpw (s : Str) : Bool := zim 0 s && s.all zkL
theorem zlf (s : Str) (hs : s.length < 900000000) : ∀ (n i d : Nat), i ≤ s.length → s.length - i < n → d ≤ i → zab s n (d : Int) (i : Int) = some (zim d (s.drop i) && s.all zkL)
  | 0, _, _, _, h, _ => by omega
  | n + 1, i, d, hi, h, hd => by
    rw [zab]
    cases hdr : s.drop i with
    | nil =>
      have : i = s.length := by have := congrArg List.length hdr; simp at this; omega
      subst this
      unfold zei
      rw [decide_eq_false (by omega), if_neg (by decide), zet zjX s (by omega), Option.bind_some, zsN]
      have : ((d : Int) == 0) = (d == 0) := by rw [Bool.eq_iff_iff]; simp
      rw [this]
      cases d == 0 <;> rfl
    | cons c r =>
      obtain ⟨hlt, hr⟩ := zgG hdr
      have hx : s[i]? = some c := by have := congrArg (·[0]?) hdr; simpa using this
      have ih := fun i' d' h1 h2 h3 => zlf s hs n i' d' h1 h2 h3
      have j2 : ∀ d' i' : Nat, i' < s.length → zaM (zab s n) s (d' : Int) (i' : Int) = zab s n (d' : Int) ((i' + 1 : Nat) : Int) := fun d' i' h' => by
        unfold zaM zce
        rw [decide_eq_false (show ¬ (d' : Int) < 0 by omega), if_neg (by decide), decide_eq_false (show ¬ (s.length : Int) ≤ (i' : Int) by omega), if_neg (by decide), zA (by omega), Option.bind_some]
      rw [decide_eq_true (show (i : Int) < (s.length : Int) by omega), if_pos rfl, zaq, hx, Option.bind_some, zA (by omega), Option.bind_some]
      cases c40 : c == 40 with
      | true =>
        have : c = 40 := by simpa using c40
        subst this
        have := j2 (d + 1) i hlt
        rw [if_pos rfl, this, ih (i + 1) (d + 1) (by omega) (by omega) (by omega), hr, zqZ]
      | false =>
        rw [if_neg (by decide)]
        cases c41 : c == 41 with
        | true =>
          have : c = 41 := by simpa using c41
          subst this
          rw [if_pos rfl, zcm (by omega) (by omega), Option.bind_some]
          cases d with
          | zero =>
            unfold zaM zce
            rw [zn9]
            rfl
          | succ d =>
            have e : ((d + 1 : Nat) : Int) - 1 = (d : Int) := by omega
            rw [e, j2 d i hlt, ih (i + 1) d (by omega) (by omega) (by omega), hr, zpv]
        | false =>
          rw [if_neg (by decide)]
          cases c92 : c == 92 with
          | true =>
            have : c = 92 := by simpa using c92
            subst this
            rw [if_pos rfl, zA (by omega), Option.bind_some]
            cases r with
            | nil =>
              have hl : s.length = i + 1 := by have := congrArg List.length hr; simp at this; omega
              unfold zaM zce
              rw [decide_eq_false (show ¬ (d : Int) < 0 by omega), if_neg (by decide), decide_eq_true (show (s.length : Int) ≤ ((i + 1 : Nat) : Int) by omega), if_pos rfl, zqY]
              rfl
            | cons x t =>
              obtain ⟨hlt2, hr2⟩ := zgG hr
              rw [j2 d (i + 1) hlt2, ih (i + 1 + 1) d (by omega) (by omega) (by omega), hr2, zsO]
          | false => rw [if_neg (by decide), j2 d i hlt, ih (i + 1) d (by omega) (by omega) (by omega), hr, zsP d r c40 c41 c92]
theorem zoB (s : Str) (hs : s.length < 900000000) : zg0 s = some (zpw s) := by
  unfold zg0 zpw
  have := zlf s hs fuel 0 0 (Nat.zero_le _) (by unfold fuel; omega) (Nat.le_refl _)
  rw [List.drop_zero] at this
  exact this
theorem zmd (s : Str) (hs : s.length < 900000000) : ∀ (n i d : Nat), i ≤ s.length → s.length - i < n → d ≤ i → zG s n (d : Int) (i : Int) = some (zim d (s.drop i) && (s.drop i).all zkL)
  | 0, _, _, _, h, _ => by omega
  | n + 1, i, d, hi, h, hd => by
    rw [zG]
    cases hdr : s.drop i with
    | nil =>
      have : i = s.length := by have := congrArg List.length hdr; simp at this; omega
      subst this
      rw [decide_eq_false (by omega), if_neg (by decide), zsN]
      have : ((d : Int) == 0) = (d == 0) := by rw [Bool.eq_iff_iff]; simp
      rw [this, List.all_nil, Bool.and_true]
    | cons c r =>
      obtain ⟨hlt, hr⟩ := zgG hdr
      have hx : s[i]? = some c := by have := congrArg (·[0]?) hdr; simpa using this
      have ih := fun i' d' h1 h2 h3 => zmd s hs n i' d' h1 h2 h3
      have j5 : ∀ d' i' : Nat, i' < s.length → zcI (zG s n) (d' : Int) (i' : Int) = zG s n (d' : Int) ((i' + 1 : Nat) : Int) := fun d' i' h' => by
        unfold zcI
        rw [zA (by omega), Option.bind_some]
      have j4 : ∀ d' : Nat, zbM (zG s n) (i : Int) (d' : Int) = zG s n (d' : Int) ((i + 1 : Nat) : Int) := fun d' => by
        unfold zbM
        rw [decide_eq_false (show ¬ (d' : Int) < 0 by omega), if_neg (by decide), j5 d' i hlt]
      rw [decide_eq_true (show (i : Int) < (s.length : Int) by omega), if_pos rfl, zaq, hx, Option.bind_some, ziP, Option.bind_some, Option.bind_some, zA (by omega), Option.bind_some, Option.bind_some, zA (by omega), Option.bind_some, List.all_cons]
      cases hv : zkL c with
      | false => rw [Bool.false_and, Bool.and_false]; rfl
      | true =>
        rw [Bool.not_true, if_neg (by decide), Bool.true_and]
        cases c92 : c == 92 with
        | true =>
          have : c = 92 := by simpa using c92
          subst this
          rw [if_pos rfl]
          unfold zdP
          cases r with
          | nil =>
            have hl : s.length = i + 1 := by have := congrArg List.length hr; simp at this; omega
            have : (((i + 1 : Nat) : Int) == (s.length : Int)) = true := by rw [hl]; simp
            rw [this, if_pos rfl, if_pos rfl, zqY]
            rfl
          | cons x t =>
            obtain ⟨hlt2, hr2⟩ := zgG hr
            have hx2 : s[i + 1]? = some x := by have := congrArg (·[0]?) hr; simpa using this
            have : (((i + 1 : Nat) : Int) == (s.length : Int)) = false := beq_eq_false_iff_ne.2 (by omega)
            rw [this, if_neg (by decide), zaq, hx2, Option.bind_some, ziP, Option.bind_some, j5 d (i + 1) hlt2, ih (i + 1 + 1) d (by omega) (by omega) (by omega), hr2, zsO, List.all_cons]
            cases zkL x with
            | false => rw [Bool.false_and, Bool.and_false]; rfl
            | true => rw [Bool.true_and]; rfl
        | false =>
          rw [if_neg (by decide)]
          unfold zdQ
          rw [zaq, hx, Option.bind_some, Option.bind_some, zcm (by omega) (by omega), Option.bind_some, zcm (by omega) (by omega), Option.bind_some]
          cases c40 : c == 40 with
          | true =>
            have : c = 40 := by simpa using c40
            subst this
            have hj := j4 (d + 1)
            rw [if_pos rfl, if_neg (by decide), hj, ih (i + 1) (d + 1) (by omega) (by omega) (by omega), hr, zqZ]
          | false =>
            rw [if_neg (by decide)]
            cases c41 : c == 41 with
            | true =>
              have : c = 41 := by simpa using c41
              subst this
              rw [if_pos rfl]
              cases d with
              | zero =>
                unfold zbM
                rw [zn9]
                rfl
              | succ d =>
                have e : ((d + 1 : Nat) : Int) - 1 = (d : Int) := by omega
                rw [e, j4 d, ih (i + 1) d (by omega) (by omega) (by omega), hr, zpv]
            | false => rw [if_neg (by decide), j4 d, ih (i + 1) d (by omega) (by omega) (by omega), hr, zsP d r c40 c41 c92]
theorem znH (s : Str) (hs : s.length < 900000000) : zfO s = some (zpw s) := by
  unfold zfO zpw
  have := zmd s hs fuel 0 0 (Nat.zero_le _) (by unfold fuel; omega) (Nat.le_refl _)
  rw [List.drop_zero] at this
  exact this
def zpx (w : Str) : Option (Str × Str) := match zu 47 w with
  | [v] => if zbZ v then some ([], v) else none
  | [p, v] => if zbZ p && zbZ v then some (p, v) else none
  | _ => none
def byOk (b : Str) : Bool := zbZ b || ((zob b).2 == 0 && !(b.any ([44, 40, 41] : Str).contains))
def zid (s : Str) : Str × Bool := if ([41] : Str).isSuffixOf s then (s.take (s.length - 1), true) else (s, false)
def zrJ (r : Str) : Option Str := if r == [] then some [] else if ([32, 40] : Str).isPrefixOf r && (zid (r.drop 2)).2 && !((zid (r.drop 2)).1 == []) && zpw (zid (r.drop 2)).1 then some (zid (r.drop 2)).1 else none
def zie : api_Via := ⟨[], [], [], []⟩
def zlU (s : Str) : api_Via × Int := match zpx (zdT 32 s).1 with
  | none => (zie, 2)
  | some pv => if (zdT 32 s).2.2 && byOk (upto [32] (zdT 32 s).2.1) then (match zrJ (zdc [32] (zdT 32 s).2.1) with
    | none => (zie, 2)
    | some c => (⟨pv.1, pv.2, upto [32] (zdT 32 s).2.1, c⟩, 0)) else (zie, 2)
def zas (s : Str) : Str × Str × Bool × Str :=
  if !(s.takeWhile zbe == []) && zjb 47 (s.dropWhile zbe) then (s.takeWhile zbe, (zcx 47 (s.dropWhile zbe)).takeWhile zbe, !((zcx 47 (s.dropWhile zbe)).takeWhile zbe == []), (zcx 47 (s.dropWhile zbe)).dropWhile zbe)
  else ([], s.takeWhile zbe, !(s.takeWhile zbe == []), s.dropWhile zbe)
section
variable {s r : Str} {k : Nat}
theorem zvU (hs : s.length < 1000000000) (h : At s k r) : ∃ k', At s k' (zas r).2.2.2 ∧ zbw ⟨scn s k⟩ zie = some ((zas r).2.2.1, scn s k', ⟨(zas r).1, (zas r).2.1, [], []⟩) := by
  unfold zbw zas
  obtain ⟨k1, h1, e1⟩ := zsz hs h
  obtain ⟨k2, h2, e2⟩ := zue hs 47 h1
  obtain ⟨k3, h3, e3⟩ := zsz hs h2
  dsimp only
  rw [e1, Option.bind_some]
  dsimp only
  rw [e2, Option.bind_some]
  unfold zbn zbm
  cases ht : r.takeWhile zbe == [] with
  | true => exact ⟨k1, h1, rfl⟩
  | false =>
    rw [Bool.not_false, if_pos rfl, Bool.true_and]
    cases hb : zjb 47 (r.dropWhile zbe) with
    | false =>
      rw [ztD hb] at h2
      exact ⟨k2, h2, rfl⟩
    | true =>
      refine ⟨k3, h3, ?_⟩
      rw [if_pos rfl]
      dsimp only [scn] at e3 ⊢
      rw [e3, Option.bind_some]
      rfl
theorem zm5 (u : Str) (hs : u.length < 1000000000) : strings_CutSuffix u [41] = some (zid u) := by
  unfold strings_CutSuffix stringslite_CutSuffix
  rw [zrw u [41] hs (by decide), Option.bind_some]
  unfold zid
  cases hp : ([41] : Str).isSuffixOf u with
  | false => rfl
  | true =>
    have hl := (List.isSuffixOf_iff_suffix.1 hp).length_le
    simp only [List.length_singleton] at hl
    have e : zcZ (u.length : Int) (([41] : Str).length : Int) = some ((u.length - 1 : Nat) : Int) := by
      rw [zcm (by simp; omega) (by simp; omega)]; congr 1; simp; omega
    rw [Bool.not_true, if_neg (by decide), e, Option.bind_some, zi9 (by omega)]
    rfl
theorem zuU (u : Str) : (zid u).1.length ≤ u.length := by unfold zid; split <;> simp
theorem zpy (hs : s.length < 800000000) (h : At s k r) (p v b : Str) : ∃ w, zbL ⟨scn s k⟩ ⟨p, v, b, []⟩ = some ((zrJ r).isSome, scn s k, w) ∧ ∀ c, zrJ r = some c → w = ⟨p, v, b, c⟩ := by
  unfold zbL zrJ
  have hl := h.le_len
  dsimp only
  rw [at_end h, Option.bind_some]
  cases hr : r == [] with
  | true => exact ⟨_, rfl, fun c hc => by cases hc; rfl⟩
  | false =>
    rw [if_neg (by decide), if_neg (by decide), zwN h, Option.bind_some, zk2 r [32, 40] (by omega), Option.bind_some]
    unfold zaC
    cases hp : ([32, 40] : Str).isPrefixOf r with
    | false =>
      rw [if_neg (by decide)]
      dsimp only
      rw [zm5 r (by omega), Option.bind_some]
      exact ⟨_, rfl, fun c hc => by cases hc⟩
    | true =>
      rw [if_pos rfl]
      have hcl := zuU (r.drop 2)
      have hdl : (r.drop 2).length ≤ r.length := by simp
      show ∃ w, ((strings_CutSuffix (r.drop 2) [41]).bind _) = _ ∧ _
      rw [zm5 _ (by omega), Option.bind_some, zoB _ (by omega), Option.bind_some]
      cases (zid (r.drop 2)).2 with
      | false => exact ⟨_, rfl, fun c hc => by cases hc⟩
      | true =>
        cases hn : (zid (r.drop 2)).1 == [] with
        | true => exact ⟨_, rfl, fun c hc => by simp at hc⟩
        | false =>
          cases hc : zpw (zid (r.drop 2)).1 with
          | false => exact ⟨_, rfl, fun c hc => by simp at hc⟩
          | true => exact ⟨_, rfl, fun c hc => by simp at hc; rw [← hc]⟩
end
def viaQ (s : Str) : api_Via × Int :=
  if (zas s).2.2.1 && zjb 32 (zas s).2.2.2 && byOk ((zcx 32 (zas s).2.2.2).takeWhile (fun b => !(b == 32))) then (match zrJ ((zcx 32 (zas s).2.2.2).dropWhile (fun b => !(b == 32))) with
    | none => (zie, 2)
    | some c => (⟨(zas s).1, (zas s).2.1, (zcx 32 (zas s).2.2.2).takeWhile (fun b => !(b == 32)), c⟩, 0)) else (zie, 2)
theorem zqv (s : Str) (hs : s.length < 300000000) : ziC s = some (viaQ s) := by
  unfold ziC viaQ
  have hs' : s.length < 1000000000 := by omega
  rw [zsF, Option.bind_some]
  obtain ⟨k1, h1, e1⟩ := zvU hs' (At.zero s)
  obtain ⟨k2, h2, e2⟩ := zue hs' 32 h1
  obtain ⟨k3, h3, e3⟩ := zsy (f := zeh) (p := fun b => !(b == 32)) (fun b => rfl) hs' h2
  obtain ⟨w, e4, h4⟩ := zpy (by omega) h3 (zas s).1 (zas s).2.1 ((zcx 32 (zas s).2.2.2).takeWhile (fun b => !(b == 32)))
  have hl2 := h2.le_len
  have htl := zmY (fun b => !(b == 32)) (zcx 32 (zas s).2.2.2)
  show (zbw ⟨scn s 0⟩ zie).bind _ = _
  rw [e1, Option.bind_some]
  unfold zd8
  dsimp only
  rw [e2, Option.bind_some]
  cases (zas s).2.2.1 with
  | false => rfl
  | true =>
    rw [Bool.not_true, if_neg (by decide), Bool.true_and]
    cases zjb 32 (zas s).2.2.2 with
    | false => rfl
    | true =>
      rw [Bool.true_and]
      dsimp only
      rw [Bool.not_true, if_neg (by decide)]
      unfold zhG
      dsimp only
      rw [e3, Option.bind_some]
      dsimp only
      rw [zm7 _ (by omega), Option.bind_some, ziQ _ (by omega), Option.bind_some, zkg _ [44, 40, 41] (by omega) (by decide) (by decide), Option.bind_some]
      unfold zcG byOk
      generalize hb : (zcx 32 (zas s).2.2.2).takeWhile (fun b => !(b == 32)) = b at e4 h4
      have fin : ((zbL ⟨scn s k3⟩ ⟨(zas s).1, (zas s).2.1, b, []⟩).bind fun r18 => if (!r18.1) = true then some (zie, (2 : Int)) else some (⟨r18.2.2.Proto, r18.2.2.Version, r18.2.2.By, r18.2.2.Comment⟩, 0)) = some (match zrJ ((zcx 32 (zas s).2.2.2).dropWhile (fun b => !(b == 32))) with | none => (zie, 2) | some c => (⟨(zas s).1, (zas s).2.1, b, c⟩, 0)) := by
        rw [e4, Option.bind_some]
        cases hc : zrJ ((zcx 32 (zas s).2.2.2).dropWhile (fun b => !(b == 32))) with
        | none => rfl
        | some c =>
          have := h4 c hc
          subst this
          rfl
      cases zbZ b with
      | true => exact fin
      | false =>
        rw [if_neg (by decide), Bool.false_or]
        cases (zob b).2 == 0 with
        | false => rfl
        | true =>
          rw [if_pos rfl, Bool.true_and]
          cases b.any ([44, 40, 41] : Str).contains with
          | true => rfl
          | false => exact fin
theorem zvV (u : Str) : upto [32] u = u.takeWhile (fun b => !(b == 32)) ∧ zdc [32] u = u.dropWhile (fun b => !(b == 32)) := by
  have : (fun c : UInt8 => !([32] : Str).contains c) = fun b => !(b == 32) := by
    funext c
    simp only [List.contains_cons, List.contains_nil, Bool.or_false]
  unfold upto zdc
  rw [this]
  exact ⟨rfl, rfl⟩
theorem zjV {m : Str} (h : m.all zbe = true) : (47 : UInt8) ∉ m ∧ (32 : UInt8) ∉ m := ⟨fun hx => by
  have := List.all_eq_true.1 h 47 hx
  revert this; decide, fun hx => by
  have := List.all_eq_true.1 h 32 hx
  revert this; decide⟩
theorem zsQ {w : Str} (u : Str) (h : (32 : UInt8) ∉ w) : zdT 32 (w ++ 32 :: u) = (w, u, true) := by
  have h1 := ztC (p := fun b => !(b == 32)) (c := 32) (by decide) u (zvE h)
  obtain ⟨e1, e2⟩ := zvV (w ++ 32 :: u)
  unfold zdT
  rw [e1, e2, h1.1, h1.2]
  rfl
theorem zvW {v : Str} (h : zbZ v = true) : zpx v = some ([], v) := by
  have := zjV ((zc2 v).1 h).2
  unfold zpx
  rw [zki this.1]
  dsimp only
  rw [if_pos h]
theorem zvX {p v : Str} (h1 : zbZ p = true) (h2 : zbZ v = true) : zpx (p ++ 47 :: v) = some (p, v) := by
  have t1 := zjV ((zc2 p).1 h1).2
  have t2 := zjV ((zc2 v).1 h2).2
  unfold zpx
  rw [zpm _ t1.1, zki t2.1]
  dsimp only
  rw [h1, h2]; rfl
theorem zlg : ∀ {w p v : Str}, zu 47 w = [p, v] → w = p ++ 47 :: v
  | [], p, v, h => by rw [zu] at h; cases h
  | y :: w, p, v, h => by
    rw [zbP] at h
    split at h
    · rename_i e
      subst e
      injection h with h1 h2
      rw [← h1, zeN h2]; rfl
    · cases h3 : zu 47 w with
      | nil => exact absurd h3 (zca 47 w)
      | cons a l =>
        rw [h3] at h
        injection h with h1 h2
        subst h2
        have := zlg h3
        rw [← h1, this]; rfl
theorem zuW {w : Str} {pv : Str × Str} (h : zpx w = some pv) : (zbZ w = true ∧ pv = ([], w)) ∨ (zbZ pv.1 = true ∧ zbZ pv.2 = true ∧ w = pv.1 ++ 47 :: pv.2) := by
  unfold zpx at h
  split at h
  · rename_i v hsp
    split at h
    · rename_i ht
      cases h
      have := zeN hsp
      subst this
      exact .inl ⟨ht, rfl⟩
    · cases h
  · rename_i p v hsp
    split at h
    · rename_i ht
      cases h
      simp only [Bool.and_eq_true] at ht
      have e : w = p ++ 47 :: v := by
        have hj := zlg hsp
        exact hj
      exact .inr ⟨ht.1, ht.2, e⟩
    · cases h
  · cases h
theorem ztL {m : Str} (c : UInt8) (r : Str) (hc : zbe c = false) (h : m.all zbe = true) : (m ++ c :: r).takeWhile zbe = m ∧ (m ++ c :: r).dropWhile zbe = c :: r := ztC hc r h
theorem ztM {v : Str} (u : Str) (h : zbZ v = true) : zas (v ++ 32 :: u) = ([], v, true, 32 :: u) := by
  obtain ⟨h1, h2⟩ := (zc2 v).1 h
  have ht := ztL 32 u (by decide) h2
  unfold zas
  rw [ht.1, ht.2]
  have : zjb 47 (32 :: u) = false := by rw [zge]; decide
  have hn : (v == []) = false := by simpa using h1
  rw [this, Bool.and_false, if_neg Bool.false_ne_true, hn]
  rfl
theorem ztN {p v : Str} (u : Str) (h1 : zbZ p = true) (h2 : zbZ v = true) : zas ((p ++ 47 :: v) ++ 32 :: u) = (p, v, true, 32 :: u) := by
  obtain ⟨p1, p2⟩ := (zc2 p).1 h1
  obtain ⟨v1, v2⟩ := (zc2 v).1 h2
  have e : (p ++ 47 :: v) ++ 32 :: u = p ++ 47 :: (v ++ 32 :: u) := by simp
  have ht := ztL 47 (v ++ 32 :: u) (by decide) p2
  have ht2 := ztL 32 u (by decide) v2
  unfold zas
  rw [e, ht.1, ht.2, zge, zmv, ht2.1, ht2.2]
  have hn : (p == []) = false := by simpa using p1
  have hn2 : (v == []) = false := by simpa using v1
  rw [hn, hn2]
  rfl
theorem viaQ_S (s : Str) : viaQ s = zlU s := by
  unfold zlU
  cases hv : zpx (zdT 32 s).1 with
  | some pv =>
    dsimp only
    rcases zgn (zdT 32 s).2.2 with hc | hc
    · have e := ztX 32 s hc
      have hp : zas s = (pv.1, pv.2, true, 32 :: (zdT 32 s).2.1) := by
        rcases zuW hv with ⟨t1, t2⟩ | ⟨t1, t2, t3⟩
        · have := ztM (zdT 32 s).2.1 t1
          rw [e] at this
          rw [this, t2]
        · have := ztN (zdT 32 s).2.1 t1 t2
          rw [← t3, e] at this
          exact this
      obtain ⟨e1, e2⟩ := zvV (zdT 32 s).2.1
      unfold viaQ
      rw [hp, hc, e1, e2]
      dsimp only
      rw [zge, zmv]
      rfl
    · -- no blank: nothing stands behind the version
      have hn := ztY 32 s hc
      rw [hc, Bool.false_and, if_neg Bool.false_ne_true]
      have hno : (32 : UInt8) ∉ s := fun hm => by
        have h0 : upto [32] s = s := by have := congrArg Prod.fst hn; exact this
        have := zpc (cs := [32]) (s := s) 32 (by rw [h0]; exact hm)
        simp at this
      have hb : zjb 32 (zas s).2.2.2 = false := by
        cases h : zjb 32 (zas s).2.2.2 with
        | false => rfl
        | true =>
          exfalso
          have hm := zmw h
          have hin : (32 : UInt8) ∈ (zas s).2.2.2 := by rw [hm]; simp
          apply hno
          unfold zas at hin
          split at hin
          · have h1 := (List.dropWhile_suffix _).mem hin
            unfold zcx at h1
            split at h1
            · exact (List.dropWhile_suffix _).mem (List.mem_of_mem_drop h1)
            · exact (List.dropWhile_suffix _).mem h1
          · exact (List.dropWhile_suffix _).mem hin
      unfold viaQ
      rw [hb, Bool.and_false, Bool.false_and, if_neg Bool.false_ne_true]
  | none =>
    dsimp only
    have hq : ((zas s).2.2.1 && zjb 32 (zas s).2.2.2) = false := by
      cases h : (zas s).2.2.1 && zjb 32 (zas s).2.2.2 with
      | false => rfl
      | true =>
        exfalso
        simp only [Bool.and_eq_true] at h
        obtain ⟨h1, h2⟩ := h
        have e2 := zmw h2
        have e0 : s.takeWhile zbe ++ s.dropWhile zbe = s := List.takeWhile_append_dropWhile
        have hall : ∀ t : Str, (t.takeWhile zbe).all zbe = true := fun t => List.all_eq_true.2 fun x hx => zqm hx
        unfold zas at h1 e2
        split at h1
        · rename_i hc
          rw [if_pos hc] at e2
          simp only [Bool.and_eq_true, Bool.not_eq_true', beq_eq_false_iff_ne] at hc
          have hb := zmw hc.2
          have e3 : (zcx 47 (s.dropWhile zbe)).takeWhile zbe ++ (zcx 47 (s.dropWhile zbe)).dropWhile zbe = zcx 47 (s.dropWhile zbe) := List.takeWhile_append_dropWhile
          have tp : zbZ (s.takeWhile zbe) = true := (zc2 _).2 ⟨hc.1, hall _⟩
          have tv : zbZ ((zcx 47 (s.dropWhile zbe)).takeWhile zbe) = true := (zc2 _).2 ⟨by simpa using h1, hall _⟩
          have es : s = (s.takeWhile zbe ++ 47 :: (zcx 47 (s.dropWhile zbe)).takeWhile zbe) ++ 32 :: zcx 32 ((zcx 47 (s.dropWhile zbe)).dropWhile zbe) := by
            rw [List.append_assoc, List.cons_append, ← e2, e3, ← hb, e0]
          have hn1 := zjV ((zc2 _).1 tp).2
          have hn2 := zjV ((zc2 _).1 tv).2
          have hcut : (zdT 32 s).1 = s.takeWhile zbe ++ 47 :: (zcx 47 (s.dropWhile zbe)).takeWhile zbe := by
            have := zsQ (w := s.takeWhile zbe ++ 47 :: (zcx 47 (s.dropWhile zbe)).takeWhile zbe) (zcx 32 ((zcx 47 (s.dropWhile zbe)).dropWhile zbe)) (fun hm => by
              rcases List.mem_append.1 hm with hm | hm
              · exact hn1.2 hm
              · rcases List.mem_cons.1 hm with hm | hm
                · exact absurd hm (by decide)
                · exact hn2.2 hm)
            rw [← es] at this
            exact congrArg Prod.fst this
          rw [hcut, zvX tp tv] at hv
          cases hv
        · rename_i hc
          rw [if_neg hc] at e2
          have tp : zbZ (s.takeWhile zbe) = true := (zc2 _).2 ⟨by simpa using h1, hall _⟩
          have es : s = s.takeWhile zbe ++ 32 :: zcx 32 (s.dropWhile zbe) := by rw [← e2, e0]
          have hn1 := zjV ((zc2 _).1 tp).2
          have hcut : (zdT 32 s).1 = s.takeWhile zbe := by
            have := zsQ (w := s.takeWhile zbe) (zcx 32 (s.dropWhile zbe)) hn1.2
            rw [← es] at this
            exact congrArg Prod.fst this
          rw [hcut, zvW tp] at hv
          cases hv
    unfold viaQ
    rw [hq, Bool.false_and, if_neg Bool.false_ne_true]
theorem zrK (s : Str) (hs : s.length < 300000000) : ziC s = some (zlU s) := by rw [zqv s hs, viaQ_S]
end Go.Dm
end
section
namespace Go.Dm
theorem zsY (t : Str) (x : UInt8) : ([41] : Str).isSuffixOf (t ++ [x]) = (x == 41) := by
  rw [Bool.eq_iff_iff, List.isSuffixOf_iff_suffix, beq_iff_eq]
  constructor
  · rintro ⟨u, hu⟩
    have := congrArg List.getLast? hu
    simp at this
    exact this.symm
  · rintro rfl; exact ⟨t, rfl⟩
def viaY (p v b r : Str) : api_Via × Int := match zrJ r with | none => (zie, 2) | some c => (⟨p, v, b, c⟩, 0)
theorem zu3 (s : Str) (hs : s.length < 900000000) (i : Nat) (hi : i ≤ s.length) (h0 : s.drop i = [] ∨ ∃ t, s.drop i = 32 :: t) (b p v : Str) (q : Bool) :
    zP s (i : Int) b p v q = some (if q then ((zie, 2) : api_Via × Int) else viaY p v b (s.drop i)) := by
  unfold zP
  cases q with
  | true => rfl
  | false =>
    rw [if_neg Bool.false_ne_true, if_neg Bool.false_ne_true]
    rcases h0 with h0 | ⟨t, h0⟩
    · have : i = s.length := by have := congrArg List.length h0; simp at this; omega
      rw [h0, this, beq_self_eq_true, if_pos rfl]
      rfl
    · have hl := congrArg List.length h0
      simp only [List.length_drop, List.length_cons] at hl
      have hne : ((i : Int) == (s.length : Int)) = false := beq_eq_false_iff_ne.2 (by omega)
      have hdr : s.drop (i + 1) = t := by rw [← List.drop_drop, h0]; rfl
      rw [hne, if_neg (by decide), zA (by omega), Option.bind_some, zc1 (by omega), Option.bind_some, hdr, h0]
      have j7t : zb6 b p v t true = some (zie, 2) := rfl
      unfold viaY zrJ
      rw [if_neg (show ¬ ((32 :: t : Str) == []) = true by simp)]
      cases t with
      | nil => rw [decide_eq_true (by simp), if_pos rfl, j7t]; rfl
      | cons c t' =>
        have hpre : ([32, 40] : Str).isPrefixOf (32 :: c :: t') = (c == 40) := by
          show ((32 : UInt8) == 32 && ((40 : UInt8) == c && ([] : Str).isPrefixOf t')) = _
          rw [beq_self_eq_true, Bool.true_and]
          have : ([] : Str).isPrefixOf t' = true := by simp
          rw [this, Bool.and_true, znm]
        have hd2 : (32 :: c :: t' : Str).drop 2 = t' := rfl
        rw [hpre, hd2]
        by_cases h3 : (c :: t' : Str).length < 3
        · rw [decide_eq_true (show ((c :: t' : Str).length : Int) < 3 by omega), if_pos rfl, j7t]
          have : ((zid t').2 && !((zid t').1 == [])) = false := by
            match t', h3 with
            | [], _ => rfl
            | [x], _ =>
              unfold zid
              split
              · rfl
              · rfl
          cases c == 40 with
          | false => rfl
          | true =>
            rw [Bool.true_and, this]
            rfl
        · rw [decide_eq_false (show ¬ ((c :: t' : Str).length : Int) < 3 by omega), if_neg (by decide), zr9, List.getElem?_cons_zero, Option.bind_some]
          have hne' : t' ≠ [] := by rintro rfl; simp at h3
          obtain ⟨m, x, rfl⟩ : ∃ m x, t' = m ++ [x] := ⟨t'.dropLast, t'.getLast hne', (List.dropLast_concat_getLast hne').symm⟩
          have hml : 1 ≤ m.length := by simp only [List.length_cons, List.length_append, List.length_nil] at h3; omega
          have hlen : (c :: (m ++ [x]) : Str).length = m.length + 2 := by simp
          have e1 : zcZ ((c :: (m ++ [x]) : Str).length : Int) 1 = some ((m.length + 1 : Nat) : Int) := by rw [hlen, zcm (by omega) (by omega)]; exact congrArg some (by omega)
          have g : (c :: (m ++ [x]) : Str)[m.length + 1]? = some x := by simp
          have e2 : zfH (c :: (m ++ [x])) 1 ((m.length + 1 : Nat) : Int) = some m := by
            have := zeK (l := c :: (m ++ [x])) (i := 1) (h := m.length + 1) (by omega) (by simp)
            rw [show ((1 : Nat) : Int) = 1 from rfl] at this
            rw [this]
            simp
          have hcut : zid (m ++ [x]) = if x == 41 then (m, true) else (m ++ [x], false) := by
            unfold zid
            rw [zsY]
            have : (m ++ [x]).take ((m ++ [x]).length - 1) = m := by simp
            rw [this]
          have hmn : (m == []) = false := by cases m with
            | nil => simp at hml
            | cons y m => rfl
          rw [e1, Option.bind_some, zaq, g, Option.bind_some, Option.bind_some, e2, Option.bind_some, znH _ (by simp at hlen hl; omega), Option.bind_some, hcut]
          unfold zb6
          rw [e1, Option.bind_some, e2, Option.bind_some]
          cases c == 40 with
          | false => rfl
          | true =>
            cases x == 41 with
            | false => rfl
            | true =>
              rw [show (if (true = true) then (m, true) else (m ++ [x], false) : Str × Bool) = (m, true) from rfl]
              dsimp only
              rw [hmn]
              cases zpw m <;> rfl
theorem zpG (s : Str) (hs : s.length < 1000000000) : zfa s = some (s.any ([44, 40, 41] : Str).contains) := by
  unfold zfa
  have key : ∀ (n i : Nat), i ≤ s.length → s.length - i < n → zaX s n (i : Int) = some ((s.drop i).any ([44, 40, 41] : Str).contains) := by
    intro n
    induction n with
    | zero => intro i _ h; omega
    | succ n ih =>
      intro i hi h
      rw [zaX]
      by_cases hlt : i < s.length
      · have g : s[i]? = some s[i] := List.getElem?_eq_getElem hlt
        unfold zdO
        rw [decide_eq_true (show (i : Int) < (s.length : Int) by omega), if_pos rfl, zaq, g, Option.bind_some, Option.bind_some, Option.bind_some, zA (by omega), Option.bind_some, ih (i + 1) (by omega) (by omega), List.drop_eq_getElem_cons hlt, List.any_cons]
        have : ([44, 40, 41] : Str).contains s[i] = (s[i] == 44 || (s[i] == 40 || s[i] == 41)) := by simp only [List.contains_cons, List.contains_nil, Bool.or_false]
        rw [this]
        cases s[i] == 44 <;> cases s[i] == 40 <;> cases s[i] == 41 <;> rfl
      · have : i = s.length := by omega
        subst this
        rw [decide_eq_false (by omega), if_neg (by decide), List.drop_length]
        rfl
  have := key fuel 0 (Nat.zero_le _) (by unfold fuel; omega)
  rw [List.drop_zero] at this
  exact this
def viaC (w b r : Str) : api_Via × Int := match zpx w with
  | none => (zie, 2)
  | some pv => if byOk b then viaY pv.1 pv.2 b r else (zie, 2)
theorem zu4 (rec3 : Int → Option (api_Via × Int)) (s : Str) (hs : s.length < 300000000) (a i : Nat) (h1 : a + 1 ≤ i) (hi : i ≤ s.length) (h0 : s.drop i = [] ∨ ∃ t, s.drop i = 32 :: t) :
    zcW rec3 s (a : Int) (i : Int) false = some (viaC (s.take a) ((s.take i).drop (a + 1)) (s.drop i)) := by
  unfold zcW
  have htl : (s.take a).length ≤ s.length := by simp; omega
  have hbl : ((s.take i).drop (a + 1)).length ≤ s.length := by simp; omega
  rw [if_neg (by decide), zi9 (by omega), Option.bind_some, zA (by omega), Option.bind_some, zeK h1 hi, Option.bind_some, Option.bind_some, ziO _ 47 (by omega), Option.bind_some]
  have hmem := fun x (hx : x ∈ zu 47 (s.take a)) => (zdV hx).2.1
  generalize (s.take i).drop (a + 1) = b at hbl
  generalize s.take a = w at htl hmem
  have j6 := zu3 s (by omega) i hi h0 b
  unfold viaC zpx
  have tail : ∀ (p v : Str), v.length ≤ w.length → ((zaA v).bind fun r61 => if (!r61) = true then zP s (i : Int) b p v true else (if (!((zob b).2 == 0)) = true then ((zaA b).bind fun r64 => zP s (i : Int) b p v (!r64)) else ((zfa b).bind fun r65 => if r65 = true then ((zaA b).bind fun r67 => zP s (i : Int) b p v (!r67)) else zP s (i : Int) b p v false))) = some (if zbZ v then (if byOk b then viaY p v b (s.drop i) else (zie, 2)) else (zie, 2) : api_Via × Int) := by
    intro p v hv
    rw [zeO v (by omega), Option.bind_some, zeO b (by omega), Option.bind_some, zpG b (by omega), Option.bind_some, j6, j6, j6]
    unfold byOk
    cases zbZ v <;> cases zbZ b <;> cases (zob b).2 == 0 <;> cases b.any ([44, 40, 41] : Str).contains <;> rfl
  match hsp : zu 47 w with
  | [] => exact absurd hsp (zca 47 w)
  | [v] =>
    have hv : v = w := (zeN hsp).symm ▸ rfl
    have hvw : v = w := by have := zeN hsp; exact this
    rw [hsp] at hmem
    show (zbq s (i : Int) b [v] [] w) = _
    unfold zbq
    rw [ziR b (by omega), Option.bind_some, show decide ((2 : Int) < (([v] : List Str).length : Int)) = false from rfl, if_neg Bool.false_ne_true, show ((([v] : List Str).length : Int) == 2) = false from rfl, if_neg Bool.false_ne_true, tail [] w (Nat.le_refl _), hvw]
    dsimp only
    cases zbZ w <;> rfl
  | [p, v] =>
    rw [hsp] at hmem
    have hp := hmem p (by simp)
    have hv := hmem v (by simp)
    show (zbq s (i : Int) b [p, v] p v) = _
    unfold zbq
    rw [ziR b (by omega), Option.bind_some, show decide ((2 : Int) < (([p, v] : List Str).length : Int)) = false from rfl, if_neg Bool.false_ne_true, show ((([p, v] : List Str).length : Int) == 2) = true from rfl, if_pos rfl, zeO p (by omega), Option.bind_some, tail p v hv, j6]
    dsimp only
    cases zbZ p <;> cases zbZ v <;> rfl
  | x :: y :: z :: l =>
    show (if (((x :: y :: z :: l : List Str).length : Int) == 2) = true then _ else _) = _
    have h2 : (((x :: y :: z :: l : List Str).length : Int) == 2) = false := beq_eq_false_iff_ne.2 (by simp only [List.length_cons]; omega)
    rw [h2, if_neg (by decide)]
    unfold zbq
    rw [ziR b (by omega), Option.bind_some, decide_eq_true (by simp only [List.length_cons]; omega), if_pos rfl, j6]
    rfl
theorem zpH (s : Str) (hs : s.length < 300000000) : zhW s = some (zlU s) := by
  unfold zhW
  have hu := zud [32] s
  -- the second part
  have fin : s.drop (upto [32] s).length ≠ [] → zaG s ((upto [32] s).length : Int) fuel (((upto [32] s).length + 1 : Nat) : Int) = some (zlU s) := by
    intro hne
    obtain ⟨u, hdu⟩ : ∃ u, s.drop (upto [32] s).length = 32 :: u := by
      have hd := zjN [32] s
      cases hf : zdc [32] s with
      | nil => rw [hd, hf] at hne; exact absurd rfl hne
      | cons c u =>
        have := zlN hf
        have hc : c = 32 := by simpa using this
        rw [hd, hf, hc]; exact ⟨u, rfl⟩
    have hcut : zdT 32 s = (upto [32] s, u, true) := by
      unfold zdT
      rw [← zjN, hdu]; rfl
    have hlen := congrArg List.length hdu
    simp only [List.length_drop, List.length_cons] at hlen
    have hd1 : s.drop ((upto [32] s).length + 1) = u := by rw [← List.drop_drop, hdu]; rfl
    have huu := zud [32] u
    have hv : zlU s = viaC (upto [32] s) (upto [32] u) (zdc [32] u) := by
      unfold zlU viaC
      rw [hcut]
      dsimp only
      rw [Bool.true_and]
      rfl
    rw [hv]
    generalize hW : (upto [32] s).length = W at *
    have key : ∀ (n i : Nat), W + 1 ≤ i → i ≤ W + 1 + (upto [32] u).length → W + 1 + (upto [32] u).length - i < n → zaG s (W : Int) n (i : Int) = some (viaC (upto [32] s) (upto [32] u) (zdc [32] u)) := by
      intro n
      induction n with
      | zero => intro i _ _ h; omega
      | succ n ih =>
        intro i hi1 hi h
        rw [zaG]
        have hgi : ∀ j, s[W + 1 + j]? = u[j]? := fun j => by rw [← hd1, List.getElem?_drop]
        by_cases hlt : i < W + 1 + (upto [32] u).length
        · have g : s[i]? = some ((upto [32] u)[i - (W + 1)]'(by omega)) := by
            have h1 := hgi (i - (W + 1))
            rw [show W + 1 + (i - (W + 1)) = i by omega] at h1
            rw [h1]
            have e := List.getElem?_append_left (l₂ := zdc [32] u) (show i - (W + 1) < (upto [32] u).length by omega)
            rw [zhj] at e
            rw [e]; exact List.getElem?_eq_getElem _
          have hno := zpc ((upto [32] u)[i - (W + 1)]'(by omega)) (List.getElem_mem _)
          generalize (upto [32] u)[i - (W + 1)]'(by omega) = c at g hno
          have h1 : (c == 32) = false := by simpa using hno
          have hlt2 := (List.getElem?_eq_some_iff.1 g).1
          unfold zcW
          rw [decide_eq_true (show (i : Int) < (s.length : Int) by omega), if_pos rfl, zaq, g, Option.bind_some, h1, Bool.not_false, if_pos rfl, zA (by omega), Option.bind_some]
          exact ih (i + 1) (by omega) (by omega) (by omega)
        · have hie : i = W + 1 + (upto [32] u).length := by omega
          have hdi : s.drop i = zdc [32] u := by rw [hie, ← List.drop_drop, hd1, zjN]
          have h0 : s.drop i = [] ∨ ∃ t, s.drop i = 32 :: t := by
            rw [hdi]
            cases hf : zdc [32] u with
            | nil => exact .inl rfl
            | cons c t =>
              have := zlN hf
              have hc : c = 32 := by simpa using this
              exact .inr ⟨t, by rw [hc]⟩
          have hile : i ≤ s.length := by omega
          have hj := zu4 (zaG s (W : Int) n) s hs W i (by omega) hile h0
          have hw : s.take W = upto [32] s := by rw [← hW]; exact zqT [32] s
          have hb : (s.take i).drop (W + 1) = upto [32] u := by
            rw [hie, List.take_add, List.drop_append_of_le_length (by simp; omega), List.drop_of_length_le (by simp; omega), List.nil_append, hd1, zqT]
          rw [hw, hb, hdi] at hj
          rcases h0 with h0 | ⟨t, h0⟩
          · have : s.length ≤ i := by have := congrArg List.length h0; simp at this; omega
            rw [decide_eq_false (by omega), if_neg (by decide)]
            exact hj
          · have hlt2 : i < s.length := by have := congrArg List.length h0; simp at this; omega
            have g : s[i]? = some 32 := by have := congrArg (·[0]?) h0; simpa using this
            rw [decide_eq_true (by omega), if_pos rfl, zaq, g, Option.bind_some]
            exact hj
    exact key fuel (W + 1) (Nat.le_refl _) (by omega) (by unfold fuel; omega)
  have key : ∀ (n i : Nat), i ≤ (upto [32] s).length → (upto [32] s).length - i < n → zbr s n (i : Int) = some (zlU s) := by
    intro n
    induction n with
    | zero => intro i _ h; omega
    | succ n ih =>
      intro i hi h
      rw [zbr]
      unfold zfd
      by_cases hlt : i < (upto [32] s).length
      · have g : s[i]? = some (upto [32] s)[i] := by
          have e := List.getElem?_append_left (l₂ := zdc [32] s) hlt
          rw [zhj] at e; rw [e]; exact List.getElem?_eq_getElem hlt
        have hno := zpc (upto [32] s)[i] (List.getElem_mem hlt)
        generalize (upto [32] s)[i] = c at g hno
        have h1 : (c == 32) = false := by simpa using hno
        rw [decide_eq_true (show (i : Int) < (s.length : Int) by omega), if_pos rfl, zaq, g, Option.bind_some, h1, Bool.not_false, if_pos rfl, zA (by omega), Option.bind_some]
        exact ih (i + 1) (by omega) (by omega)
      · have hie : i = (upto [32] s).length := by omega
        subst hie
        by_cases hne : s.drop (upto [32] s).length = []
        · have : (upto [32] s).length = s.length := by have := congrArg List.length hne; simp at this; omega
          rw [decide_eq_false (by omega), if_neg (by decide), if_neg (by decide), this, beq_self_eq_true, if_pos rfl]
          have hc : (zdT 32 s).2.2 = false := by unfold zdT; rw [← zjN, hne]; rfl
          unfold zlU
          rw [hc, Bool.false_and]
          cases zpx (zdT 32 s).1 <;> rfl
        · have hlt2 : (upto [32] s).length < s.length := by
            have : ¬ (upto [32] s).length = s.length := fun e => hne (by rw [e, List.drop_length])
            omega
          have hne2 : (((upto [32] s).length : Int) == (s.length : Int)) = false := beq_eq_false_iff_ne.2 (by omega)
          have g : s[(upto [32] s).length]? = some 32 := by
            have hd := zjN [32] s
            cases hf : zdc [32] s with
            | nil => rw [hd, hf] at hne; exact absurd rfl hne
            | cons c u =>
              have h1 := zlN hf
              have hc : c = 32 := by simpa using h1
              rw [hf, hc] at hd
              have := congrArg (·[0]?) hd
              simpa using this
          rw [decide_eq_true (by omega), if_pos rfl, zaq, g, Option.bind_some, if_neg (by decide), hne2, if_neg (by decide), zA (by omega), Option.bind_some]
          exact fin hne
  exact key fuel 0 (Nat.zero_le _) (by unfold fuel; omega)
def zeo (v : api_Via) : Str := (if v.Proto == [] then [] else v.Proto ++ [47]) ++ v.Version ++ 32 :: v.By ++ (if v.Comment == [] then [] else [32, 40] ++ v.Comment ++ [41])
def zfV (v : api_Via) : Str × Int := if (zlU (zeo v)).2 == 0 && (zlU (zeo v)).1 == v then (zeo v, 0) else ([], 2)
def zpI (v : api_Via) : Prop := v.Proto.length < 10000000 ∧ v.Version.length < 10000000 ∧ v.By.length < 10000000 ∧ v.Comment.length < 10000000
theorem zpJ {v : api_Via} (h : zpI v) : (zeo v).length < 100000000 := by
  obtain ⟨h1, h2, h3, h4⟩ := h
  unfold zeo
  split <;> split <;> simp <;> omega
theorem ztT (l : List Str) (h : l.length < 1000000) (h2 : l.flatten.length < 4000000000) : zcd [] l = some l.flatten := zoU l h h2
theorem zsZ (v : api_Via) (h : zpI v) : zlu v = some (zfV v) := by
  have hl := zpJ h
  have j2 : ∀ l : List Str, l.length < 100 → l.flatten = zeo v → zgs v l = some (zfV v) := by
    intro l h1 h2
    unfold zgs zhR
    rw [ztT l (by omega) (by rw [h2]; omega), Option.bind_some, h2, zrK _ (by omega), Option.bind_some]
    unfold zfV
    cases (zlU (zeo v)).2 == 0 <;> cases (zlU (zeo v)).1 == v <;> rfl
  have j1 : ∀ l : List Str, l.length < 50 → l.flatten = (if v.Proto == [] then [] else v.Proto ++ [47]) ++ v.Version ++ 32 :: v.By → zgt v l = some (zfV v) := by
    intro l h1 h2
    unfold zgt
    cases hc : v.Comment == [] with
    | true =>
      rw [Bool.not_true, if_neg (by decide)]
      refine j2 l (by omega) ?_
      unfold zeo
      rw [h2, hc]; simp
    | false =>
      rw [Bool.not_false, if_pos rfl, if_pos (zcn (by omega) (by omega))]
      refine j2 _ (by simp; omega) ?_
      unfold zeo
      rw [List.flatten_append, h2, hc]; simp
  unfold zlu
  cases hp : v.Proto == [] with
  | true =>
    rw [Bool.not_true, if_neg (by decide)]
    exact j1 _ (by simp) (by rw [hp]; simp)
  | false =>
    rw [Bool.not_false, if_pos rfl, if_pos (zcn (by simp) (by simp))]
    exact j1 _ (by simp) (by rw [hp]; simp)
theorem zqA (v : api_Via) (h : zpI v) : zht v = some (zfV v) := by
  have hl := zpJ h
  obtain ⟨h1, h2, h3, h4⟩ := h
  have j2 : zez v (zeo v) = some (zfV v) := by
    unfold zez zfP
    rw [zpH _ (by omega), Option.bind_some]
    unfold zfV
    cases (zlU (zeo v)).2 == 0 <;> cases (zlU (zeo v)).1 == v <;> rfl
  have j1 : ∀ u : Str, u.length < 50000000 → u = (if v.Proto == [] then [] else v.Proto ++ [47]) ++ v.Version ++ 32 :: v.By → zeA v u = some (zfV v) := by
    intro u hu he
    unfold zeA
    rw [zam (by simp; omega), Option.bind_some, zam (by simp; omega), Option.bind_some, zam (by simp; omega), Option.bind_some]
    unfold zeo at j2
    rw [← he] at j2
    cases hc : v.Comment == [] with
    | true => rw [hc, if_pos rfl, List.append_nil] at j2; rw [Bool.not_true, if_neg (by decide)]; exact j2
    | false =>
      rw [hc, if_neg Bool.false_ne_true] at j2
      rw [Bool.not_false, if_pos rfl]
      have e : u ++ [32, 40] ++ v.Comment ++ [41] = u ++ ([32, 40] ++ v.Comment ++ [41]) := by simp
      rw [e]; exact j2
  unfold zht
  rw [zam (by simp; omega), Option.bind_some, zam (by simp; omega), Option.bind_some]
  cases hp : v.Proto == [] with
  | true =>
    rw [Bool.not_true, if_neg (by decide)]
    exact j1 _ (by simp; omega) (by rw [hp]; simp)
  | false =>
    rw [Bool.not_false, if_pos rfl, zam (by simp; omega), Option.bind_some, zam (by simp; omega), Option.bind_some]
    exact j1 _ (by simp; omega) (by rw [hp]; simp)
theorem zs0 {v : api_Via} (h : ((zfV v).2 == 0) = true) : zfV v = (zeo v, 0) ∧ zlU (zeo v) = (v, 0) := by
  unfold zfV at h ⊢
  split at h
  · rename_i hc
    rw [if_pos hc]
    simp only [Bool.and_eq_true, beq_iff_eq] at hc
    refine ⟨rfl, ?_⟩
    exact Prod.ext hc.2 hc.1
  · cases h

end Go.Dm
end
section
namespace Go.Dm
theorem zqw (v : api_Via) (l : List api_Field) (h : zpI v) (hl : l.length < 900000000) (hs : zgB 900000 l) : zho v l = some (if (zfV v).2 == 0 then (zar l [86, 105, 97] (zeo v), 0) else ([], 2)) := by
  have hr := zpJ h
  unfold zho
  rw [zsZ v h, Option.bind_some]
  cases he : (zfV v).2 == 0 with
  | false =>
    have : zfV v = ([], 2) := by
      unfold zfV at he ⊢
      split
      · rename_i hc; rw [if_pos hc] at he; cases he
      · rfl
    rw [this]; rfl
  | true =>
    obtain ⟨e1, _⟩ := zs0 he
    have := zcK l [86, 105, 97] (zeo v)
    rw [e1, Bool.not_true, if_neg Bool.false_ne_true, if_pos rfl]
    unfold zeG zaO
    rw [zhL l (by omega), Option.bind_some, Option.bind_some, zjs l _ (zeo v) (by decide) (by omega) (by omega) (zdb (by decide) hs), Option.bind_some, zhL _ (by dsimp only; omega), Option.bind_some, Option.bind_some]
end Go.Dm
end
section
namespace Go.Dm
theorem zoC (s : Str) (hs : s.length < 100000000) : zg1 s = some (if s.all zkL then (zrj s, 0) else ([], 2)) := by
  have key : ∀ (n i : Nat) (out : Str), i ≤ s.length → s.length - i < n → out.length ≤ 1 + 2 * i → zai s n out (i : Int) = some (out ++ (zmL (s.drop i) ++ [34]), 0) := by
    intro n
    induction n with
    | zero => intro i _ _ h; omega
    | succ n ih =>
      intro i out hi h ho
      rw [zai]
      by_cases hlt : i < s.length
      · have g : s[i]? = some s[i] := List.getElem?_eq_getElem hlt
        rw [decide_eq_true (show (i : Int) < (s.length : Int) by omega), if_pos rfl, zaq, g, Option.bind_some, List.drop_eq_getElem_cons hlt, zmL]
        generalize s[i] = c at g
        have j3 : ∀ u : Str, u.length ≤ 2 + 2 * i → zc7 (zai s n) s (i : Int) u = some (u ++ [c] ++ (zmL (s.drop (i + 1)) ++ [34]), 0) := fun u hu => by
          unfold zc7
          rw [zaq, g, Option.bind_some, if_pos (zcn (by omega) (by omega)), zA (by omega), Option.bind_some, ih (i + 1) _ (by omega) (by omega) (by simp; omega)]
        have j2 : ∀ t, zc8 (zai s n) s out (i : Int) t = some (out ++ ((if t then 92 :: c :: zmL (s.drop (i + 1)) else c :: zmL (s.drop (i + 1))) ++ [34]), 0) := fun t => by
          unfold zc8
          cases t with
          | true =>
            rw [if_pos rfl, if_pos rfl, if_pos (zcn (by omega) (by omega)), j3 _ (by simp; omega)]
            simp
          | false =>
            rw [if_neg Bool.false_ne_true, if_neg Bool.false_ne_true, j3 _ (by omega)]
            simp
        cases h34 : c == 34 with
        | true => rw [if_pos rfl, j2, Bool.true_or]
        | false => rw [if_neg Bool.false_ne_true, Option.bind_some, j2, Bool.false_or]
      · obtain rfl : i = s.length := by omega
        rw [decide_eq_false (by omega), if_neg Bool.false_ne_true, if_pos (zcn (by omega) (by omega)), List.drop_length]
        rfl
  have := key fuel 0 [34] (Nat.zero_le _) (by unfold fuel; omega) (by simp)
  rw [List.drop_zero] at this
  unfold zg1
  rw [zet zjX s (by omega), Option.bind_some]
  cases s.all zkL with
  | false => rfl
  | true =>
    rw [Bool.not_true, if_neg Bool.false_ne_true, if_pos rfl]
    exact this
theorem znR (s : Str) (hs : s.length < 100000000) : zfL s = some (if okW s then (zfi s, 0) else ([], 2)) := by
  unfold zfL okW zfi
  rw [ziQ s (by omega), Option.bind_some, zoC s hs, Option.bind_some]
  cases zbZ s with
  | true => rfl
  | false =>
    rw [if_neg Bool.false_ne_true, Bool.false_or]
    cases s.all zkL <;> rfl
theorem zu2 : ∀ l : List api_Param, Go.Lib.join (l.map znp) [59] = zdU l
  | [] => rfl
  | p :: l => by
    rw [List.map_cons, Go.Lib.join_cons, zdU]
    congr 1
    unfold Go.Lib.joinTail zkU
    rw [List.map_map]
    rfl
theorem zpE (l : List api_Param) (hn : l.length < 1000) (hv : ∀ p ∈ l, p.Name.length < 100000 ∧ p.Value.length < 100000) (ht : (zdU l).length < 100000000) : zjl l = some (if l.all okP && !(l == []) then (zdU l, 0) else ([], 2)) := by
  have key : ∀ (n i : Nat), i ≤ l.length → l.length - i < n → zbo l n ((l.take i).map znp) (i : Int) = some (if (l.drop i).all okP && !(l == []) then (zdU l, 0) else ([], 2)) := by
    intro n
    induction n with
    | zero => intro i _ h; omega
    | succ n ih =>
      intro i hi h
      rw [zbo]
      by_cases hlt : i < l.length
      · have g : l[i]? = some l[i] := List.getElem?_eq_getElem hlt
        obtain ⟨b1, b2⟩ := hv l[i] (List.getElem_mem _)
        have hne : (l == []) = false := by cases l with
          | nil => simp at hlt
          | cons _ _ => rfl
        have ihh := ih (i + 1) (by omega) (by omega)
        rw [List.take_add_one, g] at ihh
        rw [decide_eq_true (show (i : Int) < (l.length : Int) by omega), if_pos rfl, zdw, g, Option.bind_some, znR _ (by omega), Option.bind_some, List.drop_eq_getElem_cons hlt, List.all_cons]
        generalize l[i] = p at g b1 b2 ihh
        have hl : (List.map znp (l.take i)).length ≤ 1000 := by simp; omega
        unfold okP
        cases hw : okW p.Value with
        | false =>
          rw [if_neg Bool.false_ne_true, Bool.false_and, Bool.false_and, Bool.false_and, if_neg Bool.false_ne_true]
          rfl
        | true =>
          have he := zkT p.Value
          rw [if_pos rfl, ziQ _ (by omega), Option.bind_some, Bool.true_and]
          dsimp only
          rw [beq_self_eq_true, Bool.not_true, if_neg Bool.false_ne_true]
          unfold zeZ
          cases ht : zbZ p.Name with
          | false => rw [Bool.not_false, if_pos rfl, Bool.false_and, Bool.false_and, if_neg Bool.false_ne_true]
          | true =>
            rw [Bool.not_true, if_neg Bool.false_ne_true, Bool.true_and, zam (by simp; omega), Option.bind_some, zam (by simp; omega), Option.bind_some, if_pos (zcn (by omega) (by omega)), zA (by omega), Option.bind_some]
            rw [show List.map znp (l.take i ++ (some p).toList) = List.map znp (l.take i) ++ [p.Name ++ [61] ++ zfi p.Value] by simp [znp]] at ihh
            exact ihh
      · obtain rfl : i = l.length := by omega
        rw [decide_eq_false (by omega), if_neg Bool.false_ne_true, List.drop_length, List.all_nil, Bool.true_and, List.take_length, List.length_map]
        cases l with
        | nil => rfl
        | cons p l =>
          have : ((((p :: l).length : Nat) : Int) == 0) = false := beq_eq_false_iff_ne.2 (by simp only [List.length_cons]; omega)
          rw [this, if_neg Bool.false_ne_true]
          unfold zcd strings_Join
          rw [zu2, if_pos ⟨by simp at hn ⊢; omega, by omega⟩, Option.bind_some, Option.bind_some]
          rfl
  have := key fuel 0 (Nat.zero_le _) (by unfold fuel; omega)
  rw [List.drop_zero, List.take_zero] at this
  exact this

theorem zlW (e : api_Env) (l : List api_Field) (h1 : e.Client.length < 1000) (hp : (zci e).length < 1000 ∧ ∀ p ∈ zci e, p.Name.length < 100000 ∧ p.Value.length < 100000) (ht : (zdU (zci e)).length < 100000000) (hl : l.length < 900000000) (hs : zgB 900000 l) :
    zcH e l = some (if (zci e).all okP then (zar l [70, 111, 114, 119, 97, 114, 100, 101, 100] (zdU (zci e)), 0) else ([], 2)) := by
  have hne : (zci e == []) = false := rfl
  unfold zcH
  rw [zmN e (by omega), Option.bind_some, zpE _ hp.1 hp.2 ht, Option.bind_some, hne, Bool.not_false, Bool.and_true]
  cases (zci e).all okP with
  | false => rfl
  | true =>
    have := zcK l [70, 111, 114, 119, 97, 114, 100, 101, 100] (zdU (zci e))
    rw [if_pos rfl, if_pos rfl]
    dsimp only
    rw [show (!((0 : Int) == 0)) = false from rfl, if_neg Bool.false_ne_true]
    unfold zeG zaO
    rw [zhL l (by omega), Option.bind_some, Option.bind_some, zjs l _ _ (by decide) (by omega) (by omega) (zdb (by decide) hs), Option.bind_some, zhL _ (by dsimp only; omega), Option.bind_some, Option.bind_some]
theorem zod (l : List api_Param) (hl : l.length ≤ 3) (hv : ∀ p ∈ l, p.Name.length < 100 ∧ p.Value.length < 100) : (zdU l).length < 1000 := by
  have one : ∀ p ∈ l, (znp p).length < 304 := fun p hp => by
    have h1 := hv p hp
    have h2 := zkT p.Value
    unfold znp
    simp; omega
  match l, hl with
  | [], _ => simp [zdU]
  | [p], _ => have := one p (by simp); simp [zdU, zkU]; omega
  | [p, q], _ =>
    have := one p (by simp)
    have := one q (by simp)
    simp [zdU, zkU]; omega
  | [p, q, r], _ =>
    have := one p (by simp)
    have := one q (by simp)
    have := one r (by simp)
    simp [zdU, zkU]; omega
theorem zoe (e : api_Env) : (zci e).length ≤ 3 := by
  unfold zci
  cases e.Host == [] <;> cases e.Scheme == [] <;> simp

end Go.Dm
end
section
namespace Go.Dm
def verS (m : Int) : Str := [49, 46, if m == 0 then 48 else 49]
def zdo (e : api_Env) (m : Int) : api_Via := ⟨[], verS m, e.By, []⟩
def zhZ : Str := [86, 105, 97]
def zjr : Str := [70, 111, 114, 119, 97, 114, 100, 101, 100]
def zq8 : Str := [88, 45, 70, 111, 114, 119, 97, 114, 100, 101, 100, 45, 70, 111, 114]
def ztq (e : api_Env) (m : Int) (k : Int) (l : List api_Field) : List api_Field :=
  if k == 1 then zar (zar (zar l zhZ (zeo (zdo e m))) zjr (zdU (zci e))) zq8 (zox e.Client) else zar l zhZ (zeo (zdo e m))
def zuA (e : api_Env) (m : Int) (k : Int) : Int :=
  if (!(k == 1) && !(k == 2)) || (!(m == 0) && !(m == 1)) then 1 else if (zfV (zdo e m)).2 == 0 then (if k == 1 then (if (zci e).all okP then 0 else 2) else 0) else 2
def zq9 (e : api_Env) (m : Int) (h : api_Head) : api_Head × Int :=
  if zuA e m h.Kind == 0 then (⟨h.Kind, h.Method, h.Target, h.Code, h.Reason, h.Minor, ztq e m h.Kind h.Fields⟩, 0) else (zeroH, zuA e m h.Kind)
structure SmallE (e : api_Env) : Prop where
  client : e.Client.length ≤ 60
  host : e.Host.length ≤ 60
  scheme : e.Scheme.length ≤ 60
  by_ : e.By.length ≤ 60
theorem few39 (x : api_Env) (hd : x.Domains.length < 1000000000) (hl : x.Locations.length < 1000000000) : ∃ e, zj2 x = some e ∧ SmallE e := by
  obtain ⟨r, h0, h1, h2, h3, h4⟩ := few26B x
  unfold zj2
  rw [h0, Option.bind_some, znb _ hd, Option.bind_some, znb _ hl, Option.bind_some]
  exact ⟨_, rfl, h1, h2, h3, h4⟩
theorem zoj {e : api_Env} (hs : SmallE e) (m : Int) : zpI (zdo e m) ∧ (zeo (zdo e m)).length ≤ 64 := by
  have := hs.by_
  refine ⟨⟨by simp [zdo], by simp [zdo, verS], by simp [zdo]; omega, by simp [zdo]⟩, ?_⟩
  unfold zeo zdo verS
  simp; omega
theorem done_s (b : bag_Bag) (h : api_Head) (hb : b.f_l.length < 1000000000) : zat ⟨b, h⟩ = some (⟨h.Kind, h.Method, h.Target, h.Code, h.Reason, h.Minor, b.f_l⟩, 0) := by
  unfold zat zaO
  rw [zhL _ hb, Option.bind_some, Option.bind_some]
theorem zpZ (h : api_Head) (l : List api_Field) (hl : l.length < 1000000000) : zcz h l 0 = some (⟨h.Kind, h.Method, h.Target, h.Code, h.Reason, h.Minor, l⟩, 0) := by
  unfold zcz zeG
  rw [show (!((0 : Int) == 0)) = false from rfl, if_neg Bool.false_ne_true, zhL _ hl, Option.bind_some, Option.bind_some, done_s _ _ hl, Option.bind_some]
theorem zok (h : api_Head) (l : List api_Field) (e : Int) (he : (e == 0) = false) : zcz h l e = some (zeroH, e) := by
  unfold zcz
  rw [he]; rfl
theorem zwI {v : api_Via} (he : ((zfV v).2 == 0) = false) : zfV v = ([], 2) := by
  unfold zfV at he ⊢
  split
  · rename_i hc; rw [if_pos hc] at he; cases he
  · rfl
theorem zra {m : Int} (h : (!(m == 0) && !(m == 1)) = false) : m = 0 ∨ m = 1 := by
  cases h0 : m == 0
  · cases h1 : m == 1
    · rw [h0, h1] at h; cases h
    · exact .inr (by simpa using h1)
  · exact .inl (by simpa using h0)
theorem zqH (e : api_Env) (m : Int) (h : api_Head) (hs : SmallE e) (hl : h.Fields.length ≤ 200) (hf : zgB 401 h.Fields) : ze0 e m h = some (zq9 e m h) := by
  obtain ⟨v1, v2⟩ := zoj hs m
  obtain ⟨b1, b2⟩ := zn2 hs.client hs.host hs.scheme
  have hts := zod (zci e) (zoe e) b2
  have hol := zsK e.Client
  have hcl := hs.client
  have hj : ze0 e m h = zbR e m h ((!(h.Kind == 1) && !(h.Kind == 2)) || (!(m == 0) && !(m == 1))) := by
    unfold ze0
    cases h.Kind == 1 <;> cases h.Kind == 2 <;> cases m == 0 <;> cases m == 1 <;> rfl
  rw [hj]
  unfold zq9 zuA
  cases hb : (!(h.Kind == 1) && !(h.Kind == 2)) || (!(m == 0) && !(m == 1)) with
  | true => rfl
  | false =>
    rw [Bool.or_eq_false_iff] at hb
    rw [if_neg Bool.false_ne_true]
    unfold zbR
    have hnt : zdh m = some [if m == 0 then 48 else 49] := by
      rcases zra hb.2 with rfl | rfl <;> decide +kernel
    rw [if_neg Bool.false_ne_true, hnt, Option.bind_some, zam (by simp), Option.bind_some]
    show (zho (zdo e m) h.Fields).bind _ = _
    rw [zqw _ _ v1 (by omega) (zdb (by decide) hf), Option.bind_some]
    cases he : (zfV (zdo e m)).2 == 0 with
    | false =>
      rw [if_neg Bool.false_ne_true, if_neg Bool.false_ne_true]
      dsimp only
      rw [show (((2 : Int) == 0)) = false from rfl, if_neg Bool.false_ne_true]
      unfold zew
      rw [if_neg Bool.false_ne_true]
      exact zok _ _ 2 rfl
    | true =>
      rw [if_pos rfl, if_pos rfl]
      dsimp only
      rw [show (((0 : Int) == 0)) = true from rfl, if_pos rfl]
      unfold zew ztq
      have l1 := zcK h.Fields zhZ (zeo (zdo e m))
      have s1 := zil (nm := zhZ) (x := zeo (zdo e m)) hf (by decide)
      cases hk : h.Kind == 1 with
      | false =>
        rw [if_neg Bool.false_ne_true, if_neg Bool.false_ne_true]
        exact zpZ h (zar h.Fields zhZ (zeo (zdo e m))) (by omega)
      | true =>
        rw [if_pos rfl, if_pos rfl]
        show (zcH e (zar h.Fields zhZ (zeo (zdo e m)))).bind _ = _
        rw [zlW e _ (by omega) ⟨by omega, fun p hp => by have := b2 p hp; omega⟩ (by omega) (by omega) (zdb (by omega) s1), Option.bind_some]
        cases hok : (zci e).all okP with
        | false =>
          rw [if_neg Bool.false_ne_true, if_neg Bool.false_ne_true]
          dsimp only
          rw [zmc _ _ (by omega) (by decide) (fun f hf => by cases hf), Option.bind_some]
          exact zok _ _ 2 rfl
        | true =>
          rw [if_pos rfl, if_pos rfl]
          dsimp only
          have l2 := zcK (zar h.Fields zhZ (zeo (zdo e m))) zjr (zdU (zci e))
          have s2 := zil (nm := zjr) (x := zdU (zci e)) s1 (by simp [zjr]; omega)
          have l3 := zcK (zar (zar h.Fields zhZ (zeo (zdo e m))) zjr (zdU (zci e))) zq8 (zox e.Client)
          show (zhp e.Client (zar (zar h.Fields zhZ (zeo (zdo e m))) zjr (zdU (zci e)))).bind _ = _
          rw [zmc _ _ (by omega) (by omega) (zdb (by omega) s2), Option.bind_some]
          exact zpZ h (zar (zar (zar h.Fields zhZ (zeo (zdo e m))) zjr (zdU (zci e))) zq8 (zox e.Client)) (by omega)
theorem zqI (e : api_Env) (m : Int) (h : api_Head) (hs : SmallE e) (hl : h.Fields.length ≤ 200) (hf : zgB 401 h.Fields) : zgj e m h = some (zq9 e m h) := by
  obtain ⟨v1, v2⟩ := zoj hs m
  obtain ⟨b1, b2⟩ := zn2 hs.client hs.host hs.scheme
  have hts := zod (zci e) (zoe e) b2
  have hol := zsK e.Client
  have hcl := hs.client
  have hj : zgj e m h = zbX e m h ((!(h.Kind == 1) && !(h.Kind == 2)) || (!(m == 0) && !(m == 1))) := by
    unfold zgj
    cases h.Kind == 1 <;> cases h.Kind == 2 <;> cases m == 0 <;> cases m == 1 <;> rfl
  rw [hj]
  unfold zq9 zuA
  cases hb : (!(h.Kind == 1) && !(h.Kind == 2)) || (!(m == 0) && !(m == 1)) with
  | true => rfl
  | false =>
    rw [Bool.or_eq_false_iff] at hb
    rw [if_neg Bool.false_ne_true]
    unfold zbX
    have hnt : lAt ([[49, 46, 48], [49, 46, 49]] : List Str) m = some (verS m) := by
      rcases zra hb.2 with rfl | rfl <;> rfl
    rw [if_neg Bool.false_ne_true, hnt, Option.bind_some]
    show (zht (zdo e m)).bind _ = _
    rw [zqA _ v1, Option.bind_some]
    cases he : (zfV (zdo e m)).2 == 0 with
    | false =>
      rw [zwI he]
      rfl
    | true =>
      obtain ⟨e1, e2⟩ := zs0 he
      rw [e1, if_pos rfl]
      dsimp only
      have l1 := zcK h.Fields zhZ (zeo (zdo e m))
      have s1 := zil (nm := zhZ) (x := zeo (zdo e m)) hf (by decide)
      first | rw [show (!((0 : Int) == 0)) = false from rfl, if_neg Bool.false_ne_true] | rw [show (!true) = false from rfl, if_neg Bool.false_ne_true]
      show (zbW h.Fields zhZ (zeo (zdo e m))).bind _ = _
      rw [zh1 h.Fields _ _ (by decide) (by omega) (by omega) (zdb (by decide) hf), Option.bind_some]
      unfold ztq
      cases hk : h.Kind == 1 with
      | false => rw [if_neg Bool.false_ne_true, if_neg Bool.false_ne_true]; rfl
      | true =>
        have hne : (zci e == []) = false := rfl
        rw [if_pos rfl, if_pos rfl, zp9 e (by omega), Option.bind_some, zp8 _ (by omega) (fun p hp => by have := b2 p hp; omega), Option.bind_some, hne, Bool.not_false, Bool.and_true]
        cases hok : (zci e).all okP with
        | false => rfl
        | true =>
          have l2 := zcK (zar h.Fields zhZ (zeo (zdo e m))) zjr (zdU (zci e))
          have s2 := zil (nm := zjr) (x := zdU (zci e)) s1 (by simp [zjr]; omega)
          rw [if_pos rfl, if_pos rfl]
          dsimp only
          first | rw [show (!((0 : Int) == 0)) = false from rfl, if_neg Bool.false_ne_true] | rw [show (!true) = false from rfl, if_neg Bool.false_ne_true]
          show (zbW _ zjr _).bind _ = _
          rw [zh1 _ zjr _ (by decide) (by omega) (by omega) (zdb (by omega) s1), Option.bind_some, zrF _ (by omega), Option.bind_some]
          show (zbW _ zq8 _).bind _ = _
          rw [zh1 _ zq8 _ (by decide) (by omega) (by omega) (zdb (by omega) s2), Option.bind_some]
          rfl
theorem zvf (e : api_Env) (m k : Int) (l : List api_Field) : (ztq e m k l).length ≤ l.length + 3 := by
  unfold ztq
  have l1 := zcK l zhZ (zeo (zdo e m))
  split
  · have l2 := zcK (zar l zhZ (zeo (zdo e m))) zjr (zdU (zci e))
    have l3 := zcK (zar (zar l zhZ (zeo (zdo e m))) zjr (zdU (zci e))) zq8 (zox e.Client)
    omega
  · omega
theorem zvg (e : api_Env) (m : Int) (h : api_Head) : (zq9 e m h).1.Fields.length ≤ h.Fields.length + 3 := by
  have := zvf e m h.Kind h.Fields
  unfold zq9
  split
  · exact this
  · exact Nat.zero_le _
theorem zp0 : zjm = some true := by decide +kernel
def zrb (h : api_Head) : api_Head := ⟨h.Kind, h.Method.take 400, h.Target.take 400, h.Code, h.Reason.take 400, h.Minor, zrp h.Fields⟩
theorem zoL (env : api_Env) (minor : Int) (h : api_Head) (hd : env.Domains.length < 1000000000) (hlo : env.Locations.length < 1000000000) (_ : inI minor = true) (_ : inI h.Kind = true) (_ : inI h.Code = true) (_ : inI h.Minor = true) (hf : h.Fields.length < 1000000000) : zfA env minor h = some true := by
  obtain ⟨e, he, hs⟩ := few39 env hd hlo
  have hl := zvD h.Fields
  have hsm := ztB h.Fields
  have hlen := zvg e minor (zrb h)
  unfold zfA
  rw [zp0, Option.bind_some, Bool.not_true, if_neg Bool.false_ne_true, he, Option.bind_some, zrq _ hf, Option.bind_some]
  show (ze0 e minor (zrb h)).bind _ = _
  rw [zqH e minor (zrb h) hs (by show (zrp h.Fields).length ≤ 200; omega) hsm, Option.bind_some]
  show (zgj e minor (zrb h)).bind _ = _
  rw [zqI e minor (zrb h) hs (by show (zrp h.Fields).length ≤ 200; omega) hsm, Option.bind_some, zqx _ _ (by have : (zrb h).Fields = zrp h.Fields := rfl; rw [this] at hlen; omega), Option.bind_some, ztR, beq_self_eq_true]
  rfl
end Go.Dm
end
