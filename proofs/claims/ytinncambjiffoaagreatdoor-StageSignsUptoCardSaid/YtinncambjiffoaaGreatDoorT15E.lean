/-
  The models' words: partial operations as functions into Option. No program in sight.
  The models of the functions: written by a program (wip/gen) off the translation. No program in sight.
  The library's functions as the models say them, and as the library's contracts say them. No program in sight.
  Plain tools for the laws: the partial operations at natural numbers, loops over lists. No program in sight.
  Layer 1 (bytes): what the program's and the reference's models come to.
  Layer 3 (numbers): reading and writing: the program's and the document's come to the same. No program in sight.
-/
import Derived.Lib.ItoaNum
import Derived.Lib.SplitLaws
import Derived.Lib.SlTrimSet
import Derived.Lib.Join
import Derived.Lib.IndexMore
import Derived.Lib.Bytealg
import Derived.Lib.Index
import Derived.Lib.IndexAny
section
namespace Go.Dm
abbrev Str := List UInt8

def inI (n : Int) : Bool := decide (-9223372036854775808 ≤ n) && decide (n ≤ 9223372036854775807)
theorem zje {n : Int} : inI n = true ↔ -9223372036854775808 ≤ n ∧ n ≤ 9223372036854775807 := by simp [inI]

def zK (m n : Int) : Option Int := if inI (m + n) then some (m + n) else none
def zcZ (m n : Int) : Option Int := if inI (m - n) then some (m - n) else none
def zrG (m n : Int) : Option Int := if inI (m * n) then some (m * n) else none
def zrH (m n : Int) : Option Int := if 0 ≤ m ∧ 1 ≤ n ∧ inI (m / n) = true then some (m / n) else none
def ztK (m n : Int) : Option Int := if 0 ≤ m ∧ 1 ≤ n ∧ inI (m % n) = true then some (m % n) else none
def sAt (l : Str) (i : Int) : Option UInt8 := if 0 ≤ i then l[i.toNat]? else none
def sTo (l : Str) (h : Int) : Option Str := if 0 ≤ h ∧ h ≤ l.length then some (l.take h.toNat) else none
def zdW (l : Str) (i : Int) : Option Str := if 0 ≤ i ∧ i ≤ l.length then some (l.drop i.toNat) else none
def zfH (l : Str) (i h : Int) : Option Str := if 0 ≤ i ∧ i ≤ h ∧ h ≤ l.length then some ((l.take h.toNat).drop i.toNat) else none
def zck (l m : Str) : Option Str := if l.length + m.length ≤ 9223372036854775807 then some (l ++ m) else none
def lAt {α : Type} (l : List α) (i : Int) : Option α := if 0 ≤ i then l[i.toNat]? else none
def lTo {α : Type} (l : List α) (h : Int) : Option (List α) := if 0 ≤ h ∧ h ≤ l.length then some (l.take h.toNat) else none
def zvT {α : Type} (l : List α) (i : Int) : Option (List α) := if 0 ≤ i ∧ i ≤ l.length then some (l.drop i.toNat) else none
def zjw {α : Type} (l : List α) (i : Int) (x : α) : Option (List α) := if 0 ≤ i ∧ i < l.length then some (l.set i.toNat x) else none

def zL (n m bytes : Nat) : Bool := decide (n + m ≤ 9223372036854775807) && decide ((n + m) * bytes ≤ 140737488355328)
theorem og {α : Type} {b : Bool} {x : Option α} {r : α} (h : (if b = true then x else none) = some r) : b = true ∧ x = some r := by
  cases b with
  | false => cases h
  | true => exact ⟨rfl, h⟩
theorem zgn (b : Bool) : b = true ∨ b = false := by cases b <;> simp
theorem ob {α β : Type} {m : Option α} {f : α → Option β} {r : β} (h : m.bind f = some r) : ∃ x, m = some x ∧ f x = some r := by
  cases m with
  | none => cases h
  | some x => exact ⟨x, rfl, h⟩
theorem it {α : Type} {b : Bool} {x y : Option α} {r : α} (hb : b = true) (h : (if b = true then x else y) = some r) : x = some r := by rwa [if_pos hb] at h
theorem ie {α : Type} {b : Bool} {x y : Option α} {r : α} (hb : b = false) (h : (if b = true then x else y) = some r) : y = some r := by rwa [if_neg (by simp [hb])] at h

def zn8 : Str → Str → Bool
  | _, [] => false
  | [], _ :: _ => true
  | a :: x, b :: y => a < b || (a == b && zn8 x y)
def fuel : Nat := 1000000000000000000
def zsL {α : Type} : List α → Option (α × α × α × α)
  | [a, b, c, d] => some (a, b, c, d)
  | _ => none
theorem zuS {α : Type} {o : Option (List α)} {r : α × α × α × α} (h : o.bind zsL = some r) : o = some [r.1, r.2.1, r.2.2.1, r.2.2.2] := by
  cases o with
  | none => cases h
  | some l =>
    have h : zsL l = some r := h
    unfold zsL at h
    split at h
    · cases h; rfl
    · cases h
def lClr {α : Type} (l : List α) (i : Int) (z : α) : Option (List α) := if 0 ≤ i ∧ i ≤ l.length then some (l.take i.toNat ++ List.replicate (l.length - i.toNat) z) else none
end Go.Dm
end
section
set_option linter.unusedVariables false
set_option maxRecDepth 10000
namespace Go.Dm
structure api_Field where
  Name : Str
  Value : Str
deriving DecidableEq, Inhabited
structure bag_Bag where
  f_l : List api_Field
deriving DecidableEq, Inhabited
structure scan_Scanner where
  f_s : Str
  f_at : Int
deriving DecidableEq, Inhabited
structure commas_splitter where
  Scanner : scan_Scanner
  f_out : List Str
  f_from : Int
  f_s : Str
deriving DecidableEq, Inhabited
structure quoted_reader where
  Scanner : scan_Scanner
  f_out : List UInt8
deriving DecidableEq, Inhabited
structure api_Host where
  Kind : Int
  Name : Str
  Port : Int
deriving DecidableEq, Inhabited
structure api_Target where
  Kind : Int
  Scheme : Str
  Host : api_Host
  Path : Str
  Query : Str
  HasQuery : Bool
deriving DecidableEq, Inhabited
structure api_Head where
  Kind : Int
  Method : Str
  Target : Str
  Code : Int
  Reason : Str
  Minor : Int
  Fields : List api_Field
deriving DecidableEq, Inhabited
structure stage_worker where
  Bag : bag_Bag
  f_h : api_Head
deriving DecidableEq, Inhabited
structure api_Swap where
  From : Str
  To : Str
deriving DecidableEq, Inhabited
structure api_Env where
  Client : Str
  Host : Str
  Scheme : Str
  By : Str
  Domains : List api_Swap
  Locations : List api_Swap
deriving DecidableEq, Inhabited
structure api_Ref where
  Scheme : Str
  Auth : Str
  Path : Str
  Query : Str
  Frag : Str
  HasAuth : Bool
  HasQuery : Bool
  HasFrag : Bool
deriving DecidableEq, Inhabited
structure api_Attr where
  Name : Str
  Value : Str
  Has : Bool
deriving DecidableEq, Inhabited
structure api_Cookie where
  Name : Str
  Value : Str
  Attrs : List api_Attr
deriving DecidableEq, Inhabited
structure via_reader where
  Scanner : scan_Scanner
deriving DecidableEq, Inhabited
structure api_Via where
  Proto : Str
  Version : Str
  By : Str
  Comment : Str
deriving DecidableEq, Inhabited
structure api_Param where
  Name : Str
  Value : Str
deriving DecidableEq, Inhabited
def zm9 : Str → UInt8 → Nat → Int
  | [], _, _ => -1
  | x :: l, c, k => if x == c then (k : Int) else zm9 l c (k + 1)
def strings_IndexByte (s : Str) (c : UInt8) : Option Int := some (zm9 s c 0)
def zmA : Str → Str → Bool
  | _, [] => true
  | [], _ :: _ => false
  | x :: s, y :: t => x == y && zmA s t
def zh3 : Str → Str → Nat → Int
  | s, t, k => if zmA s t then (k : Int) else match s with
    | [] => -1
    | _ :: s => zh3 s t (k + 1)
def strings_Index (s t : Str) : Option Int := if s.length < 4294967281 then some (zh3 s t 0) else none
def strings_Cut (s t : Str) : Option (Str × Str × Bool) := if s.length < 4294967281 then some (Go.Lib.cut s t) else none
def strings_Contains (s t : Str) : Option Bool := if s.length < 4294967281 then some (decide (0 ≤ zh3 s t 0)) else none
def zlj : Str → Str → Nat → Int
  | [], _, _ => -1
  | x :: l, cs, k => if cs.contains x then (k : Int) else zlj l cs (k + 1)
def strings_IndexAny (s cs : Str) : Option Int := if s.length < 4294967281 ∧ cs.length < 4294967281 ∧ cs.all (fun c => c.toNat < 128) then some (zlj s cs 0) else none
def strings_Split (s sep : Str) : Option (List Str) := if s.length < 4294967281 ∧ 1 ≤ sep.length then some (Go.Lib.splitK sep 0 (Go.Lib.countB ⟨s.toArray⟩ ⟨sep.toArray⟩) s) else none
def zu (c : UInt8) : Str → List Str
  | [] => [[]]
  | x :: s => if x = c then [] :: zu c s else match zu c s with
    | [] => [[x]]
    | h :: t => (x :: h) :: t
def zeF (n b : Int) : Option Str := if inI n = true ∧ b = 10 then some (Go.Lib.itoa n) else none
def zde (s cs : Str) : Option Str := if s.length < 4294967281 ∧ cs.length < 4294967281 ∧ cs.all (fun c => c.toNat < 128) then some (Go.Lib.trimS s cs) else none
def zdf (s cs : Str) : Option Str := if s.length < 4294967281 ∧ cs.length < 4294967281 ∧ cs.all (fun c => c.toNat < 128) then some (Go.Lib.trimRightS s cs) else none
def strings_Join (l : List Str) (sep : Str) : Option Str := if l.length ≤ 140737488355328 ∧ (Go.Lib.join l sep).length ≤ 140737488355328 then some (Go.Lib.join l sep) else none
def zS (x_s : List api_Field) : Option (List api_Field) :=
  if zL 0 x_s.length 32 then (some x_s) else none

def zeG (x_l : List api_Field) : Option bag_Bag :=
  (zS x_l).bind fun r2 =>
  some (⟨r2⟩ : bag_Bag)

def zaO (x_b : bag_Bag) : Option (List api_Field) :=
  (zS x_b.f_l).bind fun r4 =>
  some r4

def zgJ (x_b : UInt8) (t3 : Bool) : Option UInt8 :=
  if t3 then (some (x_b + 32)) else (some x_b)

def zaS (x_b : UInt8) : Option UInt8 :=
  if (decide (65 ≤ x_b)) then (zgJ x_b (decide (x_b ≤ 90))) else (zgJ x_b false)

def zcL (s : Str) : Option Str := if s.length < 4294967281 then s.mapM zaS else none

def zdr (x_a : Str) (x_b : Str) : Option Bool :=
  (zcL x_a).bind fun r2 =>
  (zcL x_b).bind fun r3 =>
  some (r2 == r3)

def zeH (rec1 : (List Str) → Int → Option (List Str)) (i10 : Int) (l28 : List Str) : Option (List Str) :=
  (zK i10 1).bind fun i29 =>
  rec1 l28 i29

def zbi (x_name : Str) (r3 : List api_Field) : Nat → (List Str) → Int → Option (List Str)
  | 0, _, _ => none
  | n + 1, l9, i10 =>
  if (decide (i10 < (r3.length : Int))) then ((lAt r3 i10).bind fun x14 =>
  (zdr x14.Name x_name).bind fun r19 =>
  if r19 then (if zL l9.length 1 16 then (zeH (zbi x_name r3 n) i10 (l9 ++ ([x14.Value] : List Str))) else none) else (zeH (zbi x_name r3 n) i10 l9)) else (some l9)

def zgK (x_b : bag_Bag) (x_name : Str) : Option (List Str) :=
  (zaO x_b).bind fun r3 =>
  zbi x_name r3 fuel [] 0

def zjZ (x_s : Str) : Option scan_Scanner :=
  some (⟨x_s, 0⟩ : scan_Scanner)

def zbj (x_c : scan_Scanner) : Option Str :=
  (zdW x_c.f_s x_c.f_at).bind fun s4 =>
  some s4

def zaP (x_c : scan_Scanner) : Option Bool :=
  (zbj x_c).bind fun r2 =>
  some (r2 == [])

def zbx (x_c : scan_Scanner) : Option Int :=
  some x_c.f_at

def zaa (x_c : scan_Scanner) : Option (UInt8 × Bool) :=
  (zaP x_c).bind fun r2 =>
  if r2 then (some (0, false)) else ((sAt x_c.f_s x_c.f_at).bind fun b7 =>
  some (b7, true))

def zb0 (x_c : scan_Scanner) (t5 : Bool) : Option (Bool × scan_Scanner) :=
  if t5 then (some (false, x_c)) else ((zK x_c.f_at 1).bind fun i9 =>
  some ((true, (⟨x_c.f_s, i9⟩ : scan_Scanner))))

def zB (x_c : scan_Scanner) (x_b : UInt8) : Option (Bool × scan_Scanner) :=
  (zaa x_c).bind fun r2 =>
  if (!r2.2) then (zb0 x_c true) else (zb0 x_c (!(r2.1 == x_b)))

def zco (x_p : commas_splitter) (l12 : List Str) : Option commas_splitter :=
  (zbx x_p.Scanner).bind fun r13 =>
  some (⟨x_p.Scanner, l12, r13, x_p.f_s⟩ : commas_splitter)

def zdy (x_p : commas_splitter) (x_at : Int) : Option commas_splitter :=
  (zfH x_p.f_s x_p.f_from x_at).bind fun s1 =>
  (zde s1 [32, 9]).bind fun r2 =>
  if (!(r2 == [])) then (if zL x_p.f_out.length 1 16 then (zco x_p (x_p.f_out ++ ([r2] : List Str))) else none) else (zco x_p x_p.f_out)

def zcM (x_p : commas_splitter) (s33 : Str) (i34 : Int) : Option (Bool × commas_splitter) :=
  some ((true, (⟨(⟨s33, i34⟩ : scan_Scanner), x_p.f_out, x_p.f_from, x_p.f_s⟩ : commas_splitter)))

def zM (x_p : commas_splitter) : Nat → Str → Int → Int → Option (Bool × commas_splitter)
  | 0, _, _, _ => none
  | n + 1, s3, i4, i5 =>
  if (decide (0 < i5)) then ((zaa (⟨s3, i4⟩ : scan_Scanner)).bind fun r9 =>
  if (!r9.2) then (some ((false, (⟨(⟨s3, i4⟩ : scan_Scanner), x_p.f_out, x_p.f_from, x_p.f_s⟩ : commas_splitter)))) else ((zB (⟨s3, i4⟩ : scan_Scanner) r9.1).bind fun r15 =>
  if (r9.1 == 40) then ((zK i5 1).bind fun i21 =>
  (zM x_p n) r15.2.f_s r15.2.f_at i21) else (if (r9.1 == 41) then ((zcZ i5 1).bind fun i24 =>
  (zM x_p n) r15.2.f_s r15.2.f_at i24) else (if (r9.1 == 92) then ((zaa r15.2).bind fun r27 =>
  if r27.2 then ((zB r15.2 r27.1).bind fun r31 =>
  (zM x_p n) r31.2.f_s r31.2.f_at i5) else ((zM x_p n) r15.2.f_s r15.2.f_at i5)) else ((zM x_p n) r15.2.f_s r15.2.f_at i5))))) else (zcM x_p s3 i4)

def zdD (x_p : commas_splitter) : Option (Bool × commas_splitter) :=
  zM x_p fuel x_p.Scanner.f_s x_p.Scanner.f_at 1

def zd4 (t3 : Bool) : Option Bool :=
  some t3

def zfW (x_b : UInt8) : Option Bool :=
  if (decide (32 < x_b)) then (zd4 (decide (x_b < 127))) else (zd4 false)

def zfm (t3 : Bool) : Option Bool :=
  some t3

def zjy (x_b : UInt8) : Option Bool :=
  if (x_b == 32) then (zfm true) else (zfm (x_b == 9))

def zdE (t6 : Bool) : Option Bool :=
  some t6

def zaJ (x_b : UInt8) : Option Bool :=
  (zfW x_b).bind fun r2 =>
  if r2 then (zdE true) else ((zjy x_b).bind fun r4 =>
  if r4 then (zdE true) else (zdE (decide (127 < x_b))))

def zcX (x_r : quoted_reader) (r2 : Bool × scan_Scanner) (r5 : UInt8 × Bool) (t9 : Bool) : Option (Bool × quoted_reader) :=
  if t9 then (some ((false, (⟨r2.2, x_r.f_out⟩ : quoted_reader)))) else (if zL x_r.f_out.length 1 1 then ((zB r2.2 r5.1).bind fun r18 =>
  some ((r18.1, (⟨r18.2, x_r.f_out ++ [r5.1]⟩ : quoted_reader)))) else none)

def zgh (x_r : quoted_reader) : Option (Bool × quoted_reader) :=
  (zB x_r.Scanner 92).bind fun r2 =>
  (zaa r2.2).bind fun r5 =>
  if (!r5.2) then (zcX x_r r2 r5 true) else ((zaJ r5.1).bind fun r8 =>
  zcX x_r r2 r5 (!r8))

def zdg (x_c : scan_Scanner) (x_at : Int) (t4 : Bool) : Option (Bool × scan_Scanner) :=
  if t4 then (some (false, x_c)) else (some ((true, (⟨x_c.f_s, x_at⟩ : scan_Scanner))))

def zgL (x_c : scan_Scanner) (x_at : Int) : Option (Bool × scan_Scanner) :=
  if (decide (x_at < 0)) then (zdg x_c x_at true) else ((zbx x_c).bind fun r3 =>
  zdg x_c x_at (decide (r3 < x_at)))

def ziS (r2 : Int) (t27 : Bool) (s28 : Str) (i29 : Int) (l32 : List UInt8) : Option (Str × Bool × scan_Scanner) :=
  if (!t27) then ((zgL (⟨s28, i29⟩ : scan_Scanner) r2).bind fun r35 =>
  some ([], false, r35.2)) else (some ((l32, true, (⟨s28, i29⟩ : scan_Scanner))))

def zgM (rec1 : Str → Int → (List UInt8) → Bool → Option (Str × Bool × scan_Scanner)) (r2 : Int) (l13 : List UInt8) (t14 : Bool) (t18 : Bool) (s19 : Str) (i20 : Int) : Option (Str × Bool × scan_Scanner) :=
  if t18 then ((zgh ((⟨(⟨s19, i20⟩ : scan_Scanner), l13⟩ : quoted_reader))).bind fun r23 =>
  rec1 r23.2.Scanner.f_s r23.2.Scanner.f_at r23.2.f_out r23.1) else (ziS r2 t14 s19 i20 l13)

def zcN (r2 : Int) : Nat → Str → Int → (List UInt8) → Bool → Option (Str × Bool × scan_Scanner)
  | 0, _, _, _, _ => none
  | n + 1, s9, i10, l13, t14 =>
  if t14 then ((zB (⟨s9, i10⟩ : scan_Scanner) 34).bind fun r16 =>
  zgM (zcN r2 n) r2 l13 t14 (!r16.1) r16.2.f_s r16.2.f_at) else (zgM (zcN r2 n) r2 l13 t14 false s9 i10)

def zlk (x_c : scan_Scanner) : Option (Str × Bool × scan_Scanner) :=
  (zbx x_c).bind fun r2 =>
  (zB x_c 34).bind fun r6 =>
  zcN r2 fuel r6.2.f_s r6.2.f_at [] r6.1

def zb7 (l34 : List Str) (i35 : Int) (s36 : Str) (s37 : Str) (i38 : Int) : Option (Bool × commas_splitter) :=
  some ((true, (⟨(⟨s37, i38⟩ : scan_Scanner), l34, i35, s36⟩ : commas_splitter)))

def zeQ (x_p : commas_splitter) : Option (Bool × commas_splitter) :=
  (zbx x_p.Scanner).bind fun r2 =>
  (zB x_p.Scanner 44).bind fun r4 =>
  if r4.1 then ((zdy (⟨r4.2, x_p.f_out, x_p.f_from, x_p.f_s⟩ : commas_splitter) r2).bind fun r8 =>
  zb7 r8.f_out r8.f_from r8.f_s r8.Scanner.f_s r8.Scanner.f_at) else ((zB r4.2 40).bind fun r12 =>
  if r12.1 then ((zdD (⟨r12.2, x_p.f_out, x_p.f_from, x_p.f_s⟩ : commas_splitter)).bind fun r16 =>
  some (r16.1, r16.2)) else ((zaa r12.2).bind fun r21 =>
  if (r21.1 == 34) then ((zlk r12.2).bind fun r25 =>
  some ((r25.2.1, (⟨r25.2.2, x_p.f_out, x_p.f_from, x_p.f_s⟩ : commas_splitter)))) else ((zB r12.2 r21.1).bind fun r30 =>
  zb7 x_p.f_out x_p.f_from x_p.f_s r30.2.f_s r30.2.f_at)))

def zh4 (x_s : Str) (l26 : List Str) (i27 : Int) (s28 : Str) (s29 : Str) (i30 : Int) : Option (List Str × Int) :=
  (zdy ((⟨(⟨s29, i30⟩ : scan_Scanner), l26, i27, s28⟩ : commas_splitter)) (x_s.length : Int)).bind fun r31 =>
  some (r31.f_out, 0)

def zed (x_s : Str) : Nat → (List Str) → Int → Str → Str → Int → Option (List Str × Int)
  | 0, _, _, _, _, _ => none
  | n + 1, l8, i9, s10, s11, i12 =>
  (zaP (⟨s11, i12⟩ : scan_Scanner)).bind fun r13 =>
  if (!r13) then ((zeQ ((⟨(⟨s11, i12⟩ : scan_Scanner), l8, i9, s10⟩ : commas_splitter))).bind fun r17 =>
  if (!r17.1) then (some ([], 2)) else ((zed x_s n) r17.2.f_out r17.2.f_from r17.2.f_s r17.2.Scanner.f_s r17.2.Scanner.f_at)) else (zh4 x_s l8 i9 s10 s11 i12)

def zko (x_s : Str) : Option (List Str × Int) :=
  (zjZ x_s).bind fun r2 =>
  zed x_s fuel [] 0 x_s r2.f_s r2.f_at

def zcp (rec1 : Int → Option Bool) (x_is : UInt8 → Option Bool) (i3 : Int) (x7 : Str) : Nat → Int → Option Bool
  | 0, _ => none
  | n + 1, i12 =>
  if (decide (i12 < (x7.length : Int))) then ((sAt x7 i12).bind fun b17 =>
  (x_is b17).bind fun r18 =>
  if (!r18) then (some false) else ((zK i12 1).bind fun i23 =>
  (zcp rec1 x_is i3 x7 n) i23)) else ((zK i3 1).bind fun i25 =>
  rec1 i25)

def zcq (x_is : UInt8 → Option Bool) (x_l : List Str) : Nat → Int → Option Bool
  | 0, _ => none
  | n + 1, i3 =>
  if (decide (i3 < (x_l.length : Int))) then ((lAt x_l i3).bind fun x7 =>
  zcp (zcq x_is x_l n) x_is i3 x7 fuel 0) else (some true)

def zbI (x_is : UInt8 → Option Bool) (x_l : List Str) : Option Bool :=
  zcq x_is x_l fuel 0

def zfn (t5 : Bool) : Option Bool :=
  some t5

def zeu (x_b : UInt8) : Option Bool :=
  (zaS x_b).bind fun r2 =>
  if (decide (97 ≤ r2)) then ((zaS x_b).bind fun r4 =>
  zfn (decide (r4 ≤ 122))) else (zfn false)

def zfo (t3 : Bool) : Option Bool :=
  some t3

def zaK (x_b : UInt8) : Option Bool :=
  if (decide (48 ≤ x_b)) then (zfo (decide (x_b ≤ 57))) else (zfo false)

def ziB (x_b : UInt8) (x_l : Str) : Option Bool :=
  (strings_IndexByte x_l x_b).bind fun r2 =>
  some (decide (0 ≤ r2))

def zdF (t7 : Bool) : Option Bool :=
  some t7

def zcy (x_b : UInt8) : Option Bool :=
  (zeu x_b).bind fun r2 =>
  if r2 then (zdF true) else ((zaK x_b).bind fun r4 =>
  if r4 then (zdF true) else ((ziB x_b [33, 35, 36, 37, 38, 39, 42, 43, 45, 46, 94, 95, 96, 124, 126]).bind fun r6 =>
  zdF r6))

def zeR (t5 : Bool) : Option Bool :=
  some t5

def zdX (x_s : Str) : Option Bool :=
  if (!(x_s == [])) then ((zbI zcy ([x_s] : List Str)).bind fun r4 =>
  zeR r4) else (zeR false)

def zdG (rec1 : (List Str) → Int → Option (List Str × Int)) (l6 : List Str) (i7 : Int) (r15 : List Str × Int) : Nat → Int → Option (List Str × Int)
  | 0, _ => none
  | n + 1, i24 =>
  if (decide (i24 < (r15.1.length : Int))) then ((lAt r15.1 i24).bind fun x28 =>
  (zdX x28).bind fun r32 =>
  if (!r32) then (some ([], 2)) else ((zK i24 1).bind fun i37 =>
  (zdG rec1 l6 i7 r15 n) i37)) else (if zL l6.length r15.1.length 16 then ((zK i7 1).bind fun i43 =>
  rec1 (l6 ++ r15.1) i43) else none)

def zcF (x_l : List Str) : Nat → (List Str) → Int → Option (List Str × Int)
  | 0, _, _ => none
  | n + 1, l6, i7 =>
  if (decide (i7 < (x_l.length : Int))) then ((lAt x_l i7).bind fun x11 =>
  (zko x11).bind fun r15 =>
  if (!(r15.2 == 0)) then (some ([], r15.2)) else (zdG (zcF x_l n) l6 i7 r15 fuel 0)) else (some (l6, 0))

def zjz (x_l : List Str) : Option (List Str × Int) :=
  zcF x_l fuel [] 0

def zag (x_s : List Str) (x_v : Str) : Nat → Int → Option Int
  | 0, _ => none
  | n + 1, i3 =>
  if (decide (i3 < (x_s.length : Int))) then ((lAt x_s i3).bind fun x8 =>
  if (x_v == x8) then (some i3) else ((zK i3 1).bind fun i15 =>
  (zag x_s x_v n) i15)) else (some (-1))

def zcb (x_s : List Str) (x_v : Str) : Option Int :=
  zag x_s x_v fuel 0

def zbB (x_s : List Str) (x_v : Str) : Option Bool :=
  (zcb x_s x_v).bind fun r2 =>
  some (decide (0 ≤ r2))

def zfp (rec2 : (List Str) → Int → Option (List Str)) (i31 : Int) (l51 : List Str) : Option (List Str) :=
  (zK i31 1).bind fun i52 =>
  rec2 l51 i52

def zfq (rec2 : (List Str) → Int → Option (List Str)) (l30 : List Str) (i31 : Int) (r39 : Str) (t43 : Bool) : Option (List Str) :=
  if t43 then (if zL l30.length 1 16 then (zfp rec2 i31 (l30 ++ ([r39] : List Str))) else none) else (zfp rec2 i31 l30)

def zbb (rec1 : (List Str) → Int → Option (List Str)) (i14 : Int) (r23 : List Str × Int) : Nat → (List Str) → Int → Option (List Str)
  | 0, _, _ => none
  | n + 1, l30, i31 =>
  if (decide (i31 < (r23.1.length : Int))) then ((lAt r23.1 i31).bind fun x35 =>
  (zcL x35).bind fun r39 =>
  if (!(r39 == [104, 111, 115, 116])) then ((zbB l30 r39).bind fun r42 =>
  zfq (zbb rec1 i14 r23 n) l30 i31 r39 (!r42)) else (zfq (zbb rec1 i14 r23 n) l30 i31 r39 false)) else ((zK i14 1).bind fun i54 =>
  rec1 l30 i54)

def zbc (r7 : List Str) : Nat → (List Str) → Int → Option (List Str)
  | 0, _, _ => none
  | n + 1, l13, i14 =>
  if (decide (i14 < (r7.length : Int))) then ((lAt r7 i14).bind fun x18 =>
  (zjz ([x18] : List Str)).bind fun r23 =>
  zbb (zbc r7 n) i14 r23 fuel l13 0) else (some l13)

def zjA (x_l : List api_Field) : Option (List Str) :=
  (zeG x_l).bind fun r3 =>
  (zgK r3 [67, 111, 110, 110, 101, 99, 116, 105, 111, 110]).bind fun r7 =>
  zbc r7 fuel [] 0

def znM : Option (List Str) :=
  some ([[99, 111, 110, 110, 101, 99, 116, 105, 111, 110], [99, 111, 110, 116, 101, 110, 116, 45, 108, 101, 110, 103, 116, 104], [107, 101, 101, 112, 45, 97, 108, 105, 118, 101], [112, 114, 111, 120, 121, 45, 99, 111, 110, 110, 101, 99, 116, 105, 111, 110], [116, 101], [116, 114, 97, 105, 108, 101, 114], [116, 114, 97, 110, 115, 102, 101, 114, 45, 101, 110, 99, 111, 100, 105, 110, 103], [117, 112, 103, 114, 97, 100, 101]] : List Str)

def znN (x_s : Str) (x_k0 : Str) : Option Bool :=
  (zdr x_s x_k0).bind fun r2 =>
  some r2

def zN (x_s : List Str) (x_f_k0 : Str) : Nat → Int → Option Int
  | 0, _ => none
  | n + 1, i3 =>
  if (decide (i3 < (x_s.length : Int))) then ((lAt x_s i3).bind fun x8 =>
  (znN x8 x_f_k0).bind fun r11 =>
  if r11 then (some i3) else ((zK i3 1).bind fun i16 =>
  (zN x_s x_f_k0 n) i16)) else (some (-1))

def zaQ (x_s : List Str) (x_f_k0 : Str) : Option Int :=
  zN x_s x_f_k0 fuel 0

def zaB (x_s : List Str) (x_f_k0 : Str) : Option Bool :=
  (zaQ x_s x_f_k0).bind fun r2 =>
  some (decide (0 ≤ r2))

def zrR (x_name : Str) (x_names : List Str) : Option Bool :=
  (zaB x_names x_name).bind fun r3 =>
  some r3

def zfr (x_f : api_Field) (x_k0 : List Str) : Option Bool :=
  (zrR x_f.Name x_k0).bind fun r3 =>
  some r3

def zH (x_s : List api_Field) (x_f_k0 : List Str) : Nat → Int → Option Int
  | 0, _ => none
  | n + 1, i3 =>
  if (decide (i3 < (x_s.length : Int))) then ((lAt x_s i3).bind fun x8 =>
  (zfr x8 x_f_k0).bind fun r11 =>
  if r11 then (some i3) else ((zK i3 1).bind fun i16 =>
  (zH x_s x_f_k0 n) i16)) else (some (-1))

def zao (x_s : List api_Field) (x_f_k0 : List Str) : Option Int :=
  zH x_s x_f_k0 fuel 0

def zQ (rec1 : (List api_Field) → Int → Int → Option (List api_Field)) (i14 : Int) (l34 : List api_Field) (i35 : Int) : Option (List api_Field) :=
  (zK i14 1).bind fun i36 =>
  rec1 l34 i35 i36

def zae (l39 : List api_Field) (i40 : Int) : Option (List api_Field) :=
  (lClr l39 i40 (⟨[], []⟩ : api_Field)).bind fun l41 =>
  (lTo l41 i40).bind fun l43 =>
  some l43

def zw (x_del_k0 : List Str) : Nat → (List api_Field) → Int → Int → Option (List api_Field)
  | 0, _, _, _ => none
  | n + 1, l12, i13, i14 =>
  if (decide (i14 < (l12.length : Int))) then ((lAt l12 i14).bind fun x18 =>
  (zfr x18 x_del_k0).bind fun r23 =>
  if (!r23) then ((lAt l12 i13).bind fun x26 =>
  (zjw l12 i13 x18).bind fun l29 =>
  (zK i13 1).bind fun i31 =>
  zQ (zw x_del_k0 n) i14 l29 i31) else (zQ (zw x_del_k0 n) i14 l12 i13)) else (zae l12 i13)

def zaj (x_s : List api_Field) (x_del_k0 : List Str) : Option (List api_Field) :=
  (zao x_s x_del_k0).bind fun r2 =>
  if (r2 == (-1)) then (some x_s) else ((zK r2 1).bind fun i8 =>
  zw x_del_k0 fuel x_s r2 i8)

def zgN (x_b : bag_Bag) (x_names : List Str) : Option (Int × bag_Bag) :=
  (zaj x_b.f_l x_names).bind fun r6 =>
  (zcZ (x_b.f_l.length : Int) (r6.length : Int)).bind fun i11 =>
  some ((i11, (⟨r6⟩ : bag_Bag)))

def znO (x_l : List api_Field) : Option (List api_Field) :=
  (zeG x_l).bind fun r2 =>
  (zjA x_l).bind fun r7 =>
  (znM).bind fun r10 =>
  if zL r7.length r10.length 16 then ((zgN r2 (r7 ++ r10)).bind fun r16 =>
  (zaO r16.2).bind fun r21 =>
  some r21) else none

def zfJ (x_b : UInt8) : Option Int :=
  (zaK x_b).bind fun r2 =>
  if r2 then (some (((x_b - 48).toNat : Int))) else ((zaS x_b).bind fun r7 =>
  (zK (((r7 - 97).toNat : Int)) 10).bind fun i8 =>
  some i8)

def zc4 (rec2 : Int → Int → Option (Int × Int)) (x_base : Int) (i11 : Int) (i12 : Int) (r18 : Int) (t23 : Bool) : Option (Int × Int) :=
  if t23 then (some (0, 7)) else ((zrG i11 x_base).bind fun i27 =>
  (zK i27 r18).bind fun i28 =>
  (zK i12 1).bind fun i30 =>
  rec2 i28 i30)

def zaL (x_s : Str) (x_base : Int) (x_most : Int) : Nat → Int → Int → Option (Int × Int)
  | 0, _, _ => none
  | n + 1, i11, i12 =>
  if (decide (i12 < (x_s.length : Int))) then ((sAt x_s i12).bind fun b17 =>
  (zfJ b17).bind fun r18 =>
  if (decide (x_most < r18)) then (zc4 (zaL x_s x_base x_most n) x_base i11 i12 r18 true) else ((zcZ x_most r18).bind fun i21 =>
  (zrH i21 x_base).bind fun i22 =>
  zc4 (zaL x_s x_base x_most n) x_base i11 i12 r18 (decide (i22 < i11)))) else (some (i11, 0))

def zc5 (x_s : Str) (x_base : Int) (x_most : Int) (t5 : Bool) : Option (Int × Int) :=
  if t5 then (some (0, 2)) else (zaL x_s x_base x_most fuel 0 0)

def zgO (x_s : Str) (x_base : Int) (x_most : Int) (x_is : UInt8 → Option Bool) : Option (Int × Int) :=
  if (x_s == []) then (zc5 x_s x_base x_most true) else ((zbI x_is ([x_s] : List Str)).bind fun r4 =>
  zc5 x_s x_base x_most (!r4))

def zc6 (x_s : Str) (x_most : Int) : Option (Int × Int) :=
  (zgO x_s 10 x_most zaK).bind fun r2 =>
  some (r2.1, r2.2)

def zio (x_n : Int) (x_base : Int) : Option Str :=
  if (decide (x_n < 0)) then (some []) else ((zeF x_n x_base).bind fun r6 =>
  some r6)

def zdh (x_n : Int) : Option Str :=
  (zio x_n 10).bind fun r2 =>
  some r2

def zb8 (t6 : Bool) : Option Bool :=
  some t6

def zcO (x_s : Str) (x_most : Int) : Option Bool :=
  (zc6 x_s x_most).bind fun r2 =>
  if (r2.2 == 0) then ((zdh r2.1).bind fun r5 =>
  zb8 (r5 == x_s)) else (zb8 false)

def zbf (s : Str) : Option Bool := if s.length < 1000000000 then ((zu 46 s).mapM (fun x => zcO x 255)).bind fun bs => some (bs.all id && decide ((bs.length : Int) = 4)) else none

def zeS (t7 : Bool) : Option Bool :=
  some t7

def zby (x_b : UInt8) : Option Bool :=
  (zaK x_b).bind fun r2 =>
  if r2 then (zeS true) else ((zaS x_b).bind fun r4 =>
  if (decide (97 ≤ r4)) then ((zaS x_b).bind fun r6 =>
  zeS (decide (r6 ≤ 102))) else (zeS false))

def zbJ (rec1 : Int → Int → Option Int) (i13 : Int) (i36 : Int) : Option Int :=
  (zK i13 1).bind fun i37 =>
  rec1 i36 i37

def za5 (rec1 : Int → Int → Option Int) (i12 : Int) (i13 : Int) (t32 : Bool) : Option Int :=
  if t32 then ((zK i12 1).bind fun i34 =>
  zbJ rec1 i13 i34) else (some (-1))

def za6 (rec1 : Int → Int → Option Int) (i12 : Int) (i13 : Int) (x17 : Str) (t25 : Bool) : Option Int :=
  if t25 then ((zK i12 2).bind fun i27 =>
  zbJ rec1 i13 i27) else (if (decide (1 ≤ (x17.length : Int))) then (if (decide ((x17.length : Int) ≤ 4)) then ((zbI zby ([x17] : List Str)).bind fun r31 =>
  za5 rec1 i12 i13 r31) else (za5 rec1 i12 i13 false)) else (za5 rec1 i12 i13 false))

def zT (x_last : Bool) (r6 : List Str) : Nat → Int → Int → Option Int
  | 0, _, _ => none
  | n + 1, i12, i13 =>
  if (decide (i13 < (r6.length : Int))) then ((lAt r6 i13).bind fun x17 =>
  if x_last then ((zcZ (r6.length : Int) 1).bind fun i22 =>
  if (i13 == i22) then ((zbf x17).bind fun r24 =>
  za6 (zT x_last r6 n) i12 i13 x17 r24) else (za6 (zT x_last r6 n) i12 i13 x17 false)) else (za6 (zT x_last r6 n) i12 i13 x17 false)) else (some i12)

def zcc (x_s : Str) (x_last : Bool) : Option Int :=
  if (x_s == []) then (some 0) else ((strings_Split x_s [58]).bind fun r6 =>
  zT x_last r6 fuel 0 0)

def zbz (t15 : Bool) : Option Bool :=
  some t15

def zdi (x_s : Str) : Option Bool :=
  (strings_Cut x_s [58, 58]).bind fun r2 =>
  if (!r2.2.2) then ((zcc x_s true).bind fun r6 =>
  some (r6 == 8)) else ((zcc r2.1 false).bind fun r9 =>
  (zcc r2.2.1 true).bind fun r10 =>
  if (decide (0 ≤ r9)) then (if (decide (0 ≤ r10)) then ((zK r9 r10).bind fun i14 =>
  zbz (decide (i14 ≤ 7))) else (zbz false)) else (zbz false))

def zah (t8 : Bool) : Option Bool :=
  some t8

def zfs (x_s : Str) : Option Bool :=
  if (decide (3 ≤ (x_s.length : Int))) then ((sAt x_s 0).bind fun b3 =>
  if (b3 == 37) then ((zfH x_s 1 3).bind fun s5 =>
  (zbI zby ([s5] : List Str)).bind fun r7 =>
  zah r7) else (zah false)) else (zah false)

def zbE (t7 : Bool) : Option Bool :=
  some t7

def zbK (x_b : UInt8) : Option Bool :=
  (zeu x_b).bind fun r2 =>
  if r2 then (zbE true) else ((zaK x_b).bind fun r4 =>
  if r4 then (zbE true) else ((ziB x_b [45, 46, 95, 126]).bind fun r6 =>
  zbE r6))

def zgo (x_b : UInt8) : Option Bool :=
  (ziB x_b [33, 36, 38, 39, 40, 41, 42, 43, 44, 59, 61]).bind fun r2 =>
  some r2

def zdH (rec1 : Str → Option Bool) (s6 : Str) (t19 : Bool) : Option Bool :=
  if t19 then ((zdW s6 1).bind fun s21 =>
  rec1 s21) else (some false)

def zaw : Nat → Str → Option Bool
  | 0, _ => none
  | n + 1, s6 =>
  if (!(s6 == [])) then ((zfs s6).bind fun r10 =>
  if r10 then ((zdW s6 3).bind fun s13 =>
  (zaw n) s13) else ((sAt s6 0).bind fun b14 =>
  (zbK b14).bind fun r15 =>
  if r15 then (zdH (zaw n) s6 true) else ((sAt s6 0).bind fun b17 =>
  (zgo b17).bind fun r18 =>
  zdH (zaw n) s6 r18))) else (some true)

def zds (x_s : Str) : Option Bool :=
  if (x_s == []) then (some false) else (zaw fuel x_s)

def zcP (i24 : Int) (s25 : Str) : Option (api_Host × Bool) :=
  some (((⟨i24, s25, (-1)⟩ : api_Host), !(i24 == 0)))

def zb1 (x_s : Str) (t14 : Bool) : Option (api_Host × Bool) :=
  if t14 then ((zcZ (x_s.length : Int) 1).bind fun i16 =>
  (zfH x_s 1 i16).bind fun s17 =>
  zcP 3 s17) else ((zbf x_s).bind fun r18 =>
  if r18 then (zcP 2 x_s) else ((zds x_s).bind fun r21 =>
  if r21 then (zcP 1 x_s) else (zcP 0 x_s)))

def zgp (x_s : Str) : Option (api_Host × Bool) :=
  if (decide (2 < (x_s.length : Int))) then ((sAt x_s 0).bind fun b6 =>
  if (b6 == 91) then ((zcZ (x_s.length : Int) 1).bind fun i8 =>
  (sAt x_s i8).bind fun b9 =>
  if (b9 == 93) then ((zcZ (x_s.length : Int) 1).bind fun i11 =>
  (zfH x_s 1 i11).bind fun s12 =>
  (zdi s12).bind fun r13 =>
  zb1 x_s r13) else (zb1 x_s false)) else (zb1 x_s false)) else (zb1 x_s false)

def zU (x_s : Str) (x_c : UInt8) : Nat → Int → Option Int
  | 0, _ => none
  | n + 1, i4 =>
  if (decide (0 ≤ i4)) then ((sAt x_s i4).bind fun b8 =>
  if (b8 == x_c) then (some i4) else ((zcZ i4 1).bind fun i13 =>
  (zU x_s x_c n) i13)) else (some (-1))

def zbd (x_s : Str) (x_c : UInt8) : Option Int :=
  (zcZ (x_s.length : Int) 1).bind fun i2 =>
  zU x_s x_c fuel i2

def zbF (x_s : Str) (x_c : UInt8) : Option Int :=
  (zbd x_s x_c).bind fun r2 =>
  some r2

def zdj (x_s : Str) (r10 : Int) (r17 : api_Host × Bool) (t24 : Bool) : Option (api_Host × Int) :=
  if t24 then (some (((⟨0, [], 0⟩ : api_Host), 27))) else ((zK r10 1).bind fun i28 =>
  (zdW x_s i28).bind fun s29 =>
  (zc6 s29 65535).bind fun r30 =>
  some (((⟨r17.1.Kind, r17.1.Name, r30.1⟩ : api_Host), 0)))

def zb2 (x_s : Str) : Option (api_Host × Int) :=
  (zgp x_s).bind fun r3 =>
  if r3.2 then (some (r3.1, 0)) else ((zbF x_s 58).bind fun r10 =>
  if (decide (r10 < 0)) then (some (((⟨0, [], 0⟩ : api_Host), 27))) else ((sTo x_s r10).bind fun s16 =>
  (zgp s16).bind fun r17 =>
  if (!r17.2) then (zdj x_s r10 r17 true) else ((zK r10 1).bind fun i21 =>
  (zdW x_s i21).bind fun s22 =>
  (zcO s22 65535).bind fun r23 =>
  zdj x_s r10 r17 (!r23))))

def zax (t4 : Bool) : Option Bool :=
  some t4

def stringslite_HasPrefix (x_s : Str) (x_prefix : Str) : Option Bool :=
  if (decide ((x_prefix.length : Int) ≤ (x_s.length : Int))) then ((sTo x_s (x_prefix.length : Int)).bind fun s3 =>
  zax (s3 == x_prefix)) else (zax false)

def strings_HasPrefix (x_s : Str) (x_prefix : Str) : Option Bool :=
  (stringslite_HasPrefix x_s x_prefix).bind fun r2 =>
  some r2

def zee (t7 : Bool) : Option Bool :=
  some t7

def ziq (x_b : UInt8) : Option Bool :=
  (zbK x_b).bind fun r2 =>
  if r2 then (zee true) else ((zgo x_b).bind fun r4 =>
  if r4 then (zee true) else ((ziB x_b [58, 64]).bind fun r6 =>
  zee r6))

def zjf (rec1 : Int → Option Bool) (i27 : Int) : Option Bool :=
  (zK i27 1).bind fun i28 =>
  rec1 i28

def zhQ (rec1 : Int → Option Bool) (i3 : Int) (t23 : Bool) : Option Bool :=
  if t23 then ((zK i3 2).bind fun i25 =>
  zjf rec1 i25) else (some false)

def zjg (rec1 : Int → Option Bool) (x_s : Str) (i3 : Int) (t12 : Bool) : Option Bool :=
  if t12 then (zjf rec1 i3) else ((sAt x_s i3).bind fun b14 =>
  if (b14 == 37) then ((zK i3 2).bind fun i16 =>
  if (decide (i16 < (x_s.length : Int))) then ((zK i3 1).bind fun i18 =>
  (zK i3 3).bind fun i19 =>
  (zfH x_s i18 i19).bind fun s20 =>
  (zbI zby ([s20] : List Str)).bind fun r22 =>
  zhQ rec1 i3 r22) else (zhQ rec1 i3 false)) else (zhQ rec1 i3 false))

def zdk (x_s : Str) (x_more : Str) : Nat → Int → Option Bool
  | 0, _ => none
  | n + 1, i3 =>
  if (decide (i3 < (x_s.length : Int))) then ((sAt x_s i3).bind fun b7 =>
  (ziq b7).bind fun r8 =>
  if r8 then (zjg (zdk x_s x_more n) x_s i3 true) else ((sAt x_s i3).bind fun b10 =>
  (strings_IndexByte x_more b10).bind fun r11 =>
  zjg (zdk x_s x_more n) x_s i3 (decide (0 ≤ r11)))) else (some true)

def zna (x_s : Str) (x_more : Str) : Option Bool :=
  zdk x_s x_more fuel 0

def zhB (t5 : Bool) : Option Bool :=
  some t5

def zmB (x_s : Str) : Option Bool :=
  (strings_HasPrefix x_s [47]).bind fun r2 =>
  if r2 then ((zna x_s [47]).bind fun r4 =>
  zhB r4) else (zhB false)

def zll (x_s : Str) : Option Bool :=
  (zna x_s [47, 63]).bind fun r2 =>
  some r2

def zir (r2 : Str × Str × Bool) (t7 : Bool) : Option (Str × Str × Bool × Int) :=
  if t7 then (some ([], [], false, 2)) else (some (r2.1, r2.2.1, r2.2.2, 0))

def znP (x_s : Str) : Option (Str × Str × Bool × Int) :=
  (strings_Cut x_s [63]).bind fun r2 =>
  (zmB r2.1).bind fun r4 =>
  if (!r4) then (zir r2 true) else ((zll r2.2.1).bind fun r6 =>
  zir r2 (!r6))

def zgP (x_t : api_Target) (r15 : Str × Str × Bool × Int) (s19 : Str) : Option (api_Target × Bool) :=
  some (((⟨x_t.Kind, x_t.Scheme, x_t.Host, s19, r15.2.1, r15.2.2.1⟩ : api_Target), r15.2.2.2 == 0))

def zgQ (x_t : api_Target) (b9 : UInt8) (s14 : Str) : Option (api_Target × Bool) :=
  (znP s14).bind fun r15 =>
  if (b9 == 63) then (zgP x_t r15 []) else (zgP x_t r15 r15.1)

def zjh (x_t : api_Target) (x_s : Str) : Option (api_Target × Bool) :=
  if (x_s == []) then (some (x_t, true)) else ((sAt x_s 0).bind fun b9 =>
  if (b9 == 63) then ((zck [47] x_s).bind fun s13 =>
  zgQ x_t b9 s13) else (zgQ x_t b9 x_s))

def zd5 (r3 : Str × Str × Bool) (r5 : Str) (i18 : Int) : Option (api_Target × Bool) :=
  (sTo r3.2.1 i18).bind fun s19 =>
  (zb2 s19).bind fun r20 =>
  if (!(r20.2 == 0)) then (some (((⟨2, r5, (⟨0, [], 0⟩ : api_Host), [], [], false⟩ : api_Target), false))) else ((zdW r3.2.1 i18).bind fun s28 =>
  (zjh (⟨2, r5, r20.1, [], [], false⟩ : api_Target) s28).bind fun r29 =>
  some (r29.1, r29.2))

def zcQ (r3 : Str × Str × Bool) (r5 : Str) (t10 : Bool) : Option (api_Target × Bool) :=
  if t10 then (some (((⟨2, r5, (⟨0, [], 0⟩ : api_Host), [], [], false⟩ : api_Target), false))) else ((strings_IndexAny r3.2.1 [47, 63]).bind fun r14 =>
  if (decide (r14 < 0)) then (zd5 r3 r5 (r3.2.1.length : Int)) else (zd5 r3 r5 r14))

def zh5 (x_s : Str) : Option (api_Target × Bool) :=
  (strings_Cut x_s [58, 47, 47]).bind fun r3 =>
  (zcL r3.1).bind fun r5 =>
  if (!r3.2.2) then (zcQ r3 r5 true) else (if (!(r5 == [104, 116, 116, 112])) then (zcQ r3 r5 (!(r5 == [104, 116, 116, 112, 115]))) else (zcQ r3 r5 false))

def znQ (x_method : Str) (x_s : Str) : Option (api_Target × Bool) :=
  if (x_s == [42]) then (some (((⟨4, [], (⟨0, [], 0⟩ : api_Host), [], [], false⟩ : api_Target), x_method == [79, 80, 84, 73, 79, 78, 83]))) else ((strings_HasPrefix x_s [47]).bind fun r7 =>
  if (!r7) then ((zh5 x_s).bind fun r10 =>
  some (r10.1, r10.2)) else ((zjh ((⟨1, [], (⟨0, [], 0⟩ : api_Host), [], [], false⟩ : api_Target)) x_s).bind fun r13 =>
  some (r13.1, r13.2)))

def zfX (r5 : api_Host × Int) (t9 : Bool) : Option (api_Target × Int) :=
  if t9 then (some (((⟨0, [], (⟨0, [], 0⟩ : api_Host), [], [], false⟩ : api_Target), 20))) else (some (((⟨3, [], r5.1, [], [], false⟩ : api_Target), 0)))

def zkp (x_method : Str) (x_s : Str) : Option (api_Target × Int) :=
  if (x_method == [67, 79, 78, 78, 69, 67, 84]) then ((zb2 x_s).bind fun r5 =>
  if (!(r5.2 == 0)) then (zfX r5 true) else (zfX r5 (decide (r5.1.Port < 0)))) else ((znQ x_method x_s).bind fun r15 =>
  if (!r15.2) then (some (((⟨0, [], (⟨0, [], 0⟩ : api_Host), [], [], false⟩ : api_Target), 20))) else (some (r15.1, 0)))

def zmC (x_path : Str) (x_query : Str) (x_has : Bool) : Option Str :=
  if (!x_has) then (some x_path) else ((zck x_path [63]).bind fun s6 =>
  (zck s6 x_query).bind fun s7 =>
  some s7)

def zft (x_t : api_Target) (s14 : Str) : Option Str :=
  (zmC s14 x_t.Query x_t.HasQuery).bind fun r15 =>
  some r15

def zjB (x_t : api_Target) : Option Str :=
  if (x_t.Kind == 4) then (some [42]) else (if (x_t.Kind == 3) then (some []) else (if (x_t.Path == []) then (zft x_t [47]) else (zft x_t x_t.Path)))

def zcd (x_sep : Str) (x_l : List Str) : Option Str :=
  (strings_Join x_l x_sep).bind fun r2 =>
  some r2

def zfu (r21 : Str) (t27 : Bool) : Option (Str × Int) :=
  if t27 then (some ([], 27)) else (some (r21, 0))

def zfv (x_h : api_Host) (l20 : List Str) : Option (Str × Int) :=
  (zcd [] l20).bind fun r21 =>
  (zb2 r21).bind fun r23 =>
  if (!(r23.2 == 0)) then (zfu r21 true) else (zfu r21 (!(r23.1 == x_h)))

def zfw (x_h : api_Host) (l10 : List Str) : Option (Str × Int) :=
  if (!(x_h.Port == (-1))) then ((zdh x_h.Port).bind fun r13 =>
  if zL l10.length 2 16 then (zfv x_h (l10 ++ ([[58], r13] : List Str))) else none) else (zfv x_h l10)

def zjC (x_h : api_Host) : Option (Str × Int) :=
  if (x_h.Kind == 3) then (zfw x_h ([[91], x_h.Name, [93]] : List Str)) else (zfw x_h ([x_h.Name] : List Str))

def zgq (x_b : bag_Bag) (x_l : List api_Field) : Option bag_Bag :=
  if zL x_b.f_l.length x_l.length 32 then (some (⟨x_b.f_l ++ x_l⟩ : bag_Bag)) else none

def zgR (s : List api_Field) (i : Int) (v : List api_Field) : Option (List api_Field) := if v.length = 1 ∧ 0 ≤ i ∧ i ≤ s.length ∧ zL s.length v.length 32 = true then some (s.take i.toNat ++ v ++ s.drop i.toNat) else none

def zjD (x_x : api_Field) (x_k0 : Str) : Option Bool :=
  (zdr x_x.Name x_k0).bind fun r3 =>
  some r3

def zI (x_s : List api_Field) (x_f_k0 : Str) : Nat → Int → Option Int
  | 0, _ => none
  | n + 1, i3 =>
  if (decide (i3 < (x_s.length : Int))) then ((lAt x_s i3).bind fun x8 =>
  (zjD x8 x_f_k0).bind fun r11 =>
  if r11 then (some i3) else ((zK i3 1).bind fun i16 =>
  (zI x_s x_f_k0 n) i16)) else (some (-1))

def zap (x_s : List api_Field) (x_f_k0 : Str) : Option Int :=
  zI x_s x_f_k0 fuel 0

def zlm (x_b : bag_Bag) (x_name : Str) (x_value : Str) : Option bag_Bag :=
  (zap x_b.f_l x_name).bind fun r7 =>
  if (decide (r7 < 0)) then ((zgq x_b ([(⟨x_name, x_value⟩ : api_Field)])).bind fun r12 =>
  some r12) else ((zgN x_b ([x_name] : List Str)).bind fun r19 =>
  (zgR r19.2.f_l r7 ([(⟨x_name, x_value⟩ : api_Field)])).bind fun r25 =>
  some (⟨r25⟩ : bag_Bag))

def zln (x_b : bag_Bag) (x_name : Str) : Option (Str × Bool) :=
  (zgK x_b x_name).bind fun r2 =>
  if ((r2.length : Int) == 0) then (some ([], false)) else ((lAt r2 0).bind fun x10 =>
  some (x10, true))

def stringslite_CutPrefix (x_s : Str) (x_prefix : Str) : Option (Str × Bool) :=
  (stringslite_HasPrefix x_s x_prefix).bind fun r2 =>
  if (!r2) then (some (x_s, false)) else ((zdW x_s (x_prefix.length : Int)).bind fun s7 =>
  some (s7, true))

def strings_CutPrefix (x_s : Str) (x_prefix : Str) : Option (Str × Bool) :=
  (stringslite_CutPrefix x_s x_prefix).bind fun r2 =>
  some (r2.1, r2.2)

def zay (t5 : Bool) : Option Bool :=
  some t5

def stringslite_HasSuffix (x_s : Str) (x_suffix : Str) : Option Bool :=
  if (decide ((x_suffix.length : Int) ≤ (x_s.length : Int))) then ((zcZ (x_s.length : Int) (x_suffix.length : Int)).bind fun i3 =>
  (zdW x_s i3).bind fun s4 =>
  zay (s4 == x_suffix)) else (zay false)

def strings_HasSuffix (x_s : Str) (x_suffix : Str) : Option Bool :=
  (stringslite_HasSuffix x_s x_suffix).bind fun r2 =>
  some r2

def zgS (rec1 : Int → Option (Str × Bool)) (i3 : Int) : Option (Str × Bool) :=
  (zK i3 1).bind fun i27 =>
  rec1 i27

def zeT (rec1 : Int → Option (Str × Bool)) (i3 : Int) (x7 : api_Swap) (r12 : Str × Bool) (t23 : Bool) : Option (Str × Bool) :=
  if t23 then ((zck x7.To r12.1).bind fun s25 =>
  some (s25, true)) else (zgS rec1 i3)

def zgT (rec1 : Int → Option (Str × Bool)) (i3 : Int) (x7 : api_Swap) (r12 : Str × Bool) (t15 : Bool) : Option (Str × Bool) :=
  if t15 then (zgS rec1 i3) else (if (r12.1 == []) then (zeT rec1 i3 x7 r12 true) else ((strings_HasSuffix x7.From [47]).bind fun r19 =>
  if r19 then (zeT rec1 i3 x7 r12 true) else ((sAt r12.1 0).bind fun b21 =>
  (strings_IndexByte [47, 63, 35] b21).bind fun r22 =>
  zeT rec1 i3 x7 r12 (decide (0 ≤ r22)))))

def zbk (x_s : Str) (x_l : List api_Swap) : Nat → Int → Option (Str × Bool)
  | 0, _ => none
  | n + 1, i3 =>
  if (decide (i3 < (x_l.length : Int))) then ((lAt x_l i3).bind fun x7 =>
  (strings_CutPrefix x_s x7.From).bind fun r12 =>
  if (!r12.2) then (zgT (zbk x_s x_l n) i3 x7 r12 true) else (zgT (zbk x_s x_l n) i3 x7 r12 (x7.From == []))) else (some (x_s, false))

def zlo (x_s : Str) (x_l : List api_Swap) : Option (Str × Bool) :=
  zbk x_s x_l fuel 0

def za7 (t8 : Bool) : Option Bool :=
  some t8

def zfY (x_b : UInt8) : Option Bool :=
  (zeu x_b).bind fun r2 =>
  if r2 then (za7 true) else ((zaK x_b).bind fun r4 =>
  if r4 then (za7 true) else (if (x_b == 43) then (za7 true) else (if (x_b == 45) then (za7 true) else (za7 (x_b == 46)))))

def zdI (t9 : Bool) : Option Bool :=
  some t9

def zjE (x_s : Str) : Option Bool :=
  if (!(x_s == [])) then ((sAt x_s 0).bind fun b4 =>
  (zeu b4).bind fun r5 =>
  if r5 then ((zbI zfY ([x_s] : List Str)).bind fun r8 =>
  zdI r8) else (zdI false)) else (zdI false)

def zgr (x_s : Str) (x_l : Str) : Option (Str × Str) :=
  (strings_IndexAny x_s x_l).bind fun r2 =>
  if (decide (0 ≤ r2)) then ((sTo x_s r2).bind fun s6 =>
  (zdW x_s r2).bind fun s7 =>
  some (s6, s7)) else (some (x_s, []))

def zfZ (s16 : Str) (s24 : Str) (t25 : Bool) (r26 : Str × Str) (s35 : Str) (t36 : Bool) (s40 : Str) (t41 : Bool) : Option api_Ref :=
  some (⟨s16, s24, r26.1, s35, s40, t25, t36, t41⟩ : api_Ref)

def zf0 (s16 : Str) (s24 : Str) (t25 : Bool) (r26 : Str × Str) (s34 : Str) (s35 : Str) (t36 : Bool) : Option api_Ref :=
  if (!(s34 == [])) then ((zdW s34 1).bind fun s39 =>
  zfZ s16 s24 t25 r26 s35 t36 s39 true) else (zfZ s16 s24 t25 r26 s35 t36 [] false)

def zf1 (s16 : Str) (s23 : Str) (s24 : Str) (t25 : Bool) : Option api_Ref :=
  (zgr s23 [63, 35]).bind fun r26 =>
  (strings_HasPrefix r26.2 [63]).bind fun r28 =>
  if r28 then ((zdW r26.2 1).bind fun s32 =>
  (zgr s32 [35]).bind fun r33 =>
  zf0 s16 s24 t25 r26 r33.2 r33.1 true) else (zf0 s16 s24 t25 r26 r26.2 [] false)

def zf2 (s15 : Str) (s16 : Str) : Option api_Ref :=
  (strings_HasPrefix s15 [47, 47]).bind fun r17 =>
  if r17 then ((zdW s15 2).bind fun s21 =>
  (zgr s21 [47, 63, 35]).bind fun r22 =>
  zf1 s16 r22.2 r22.1 true) else (zf1 s16 s15 [] false)

def zf3 (x_s : Str) (r5 : Int) (t10 : Bool) : Option api_Ref :=
  if t10 then ((sTo x_s r5).bind fun s12 =>
  (zK r5 1).bind fun i13 =>
  (zdW x_s i13).bind fun s14 =>
  zf2 s14 s12) else (zf2 x_s [])

def zkq (x_s : Str) : Option api_Ref :=
  (strings_IndexByte x_s 58).bind fun r5 =>
  if (decide (0 < r5)) then ((sTo x_s r5).bind fun s8 =>
  (zjE s8).bind fun r9 =>
  zf3 x_s r5 r9) else (zf3 x_s r5 false)

def zf4 (rec1 : Int → Option Bool) (i30 : Int) : Option Bool :=
  (zK i30 1).bind fun i31 =>
  rec1 i31

def zf5 (rec1 : Int → Option Bool) (i3 : Int) (t17 : Bool) : Option Bool :=
  if t17 then (some false) else ((zK i3 2).bind fun i21 =>
  zf4 rec1 i21)

def zf6 (rec1 : Int → Option Bool) (i3 : Int) (t27 : Bool) : Option Bool :=
  if t27 then (some false) else (zf4 rec1 i3)

def zau (x_s : Str) (x_more : Str) : Nat → Int → Option Bool
  | 0, _ => none
  | n + 1, i3 =>
  if (decide (i3 < (x_s.length : Int))) then ((sAt x_s i3).bind fun b7 =>
  if (b7 == 37) then ((zK i3 2).bind fun i10 =>
  if (decide ((x_s.length : Int) ≤ i10)) then (zf5 (zau x_s x_more n) i3 true) else ((zK i3 1).bind fun i12 =>
  (zK i3 3).bind fun i13 =>
  (zfH x_s i12 i13).bind fun s14 =>
  (zbI zby ([s14] : List Str)).bind fun r16 =>
  zf5 (zau x_s x_more n) i3 (!r16))) else ((sAt x_s i3).bind fun b22 =>
  (ziq b22).bind fun r23 =>
  if (!r23) then ((sAt x_s i3).bind fun b25 =>
  (strings_IndexByte x_more b25).bind fun r26 =>
  zf6 (zau x_s x_more n) i3 (decide (r26 < 0))) else (zf6 (zau x_s x_more n) i3 false))) else (some true)

def zfx (x_s : Str) (x_more : Str) : Option Bool :=
  zau x_s x_more fuel 0

def zgU (t21 : Bool) : Option Bool :=
  some t21

def zgV (t29 : Bool) : Option Bool :=
  some t29

def zcR (x_r : api_Ref) (r3 : Str × Str) (t14 : Bool) : Option Bool :=
  if t14 then (some false) else (if x_r.HasAuth then (if (x_r.Path == []) then (zgU true) else ((sAt x_r.Path 0).bind fun b20 =>
  zgU (b20 == 47))) else ((strings_HasPrefix x_r.Path [47, 47]).bind fun r22 =>
  if r22 then (some false) else (if (!(x_r.Scheme == [])) then (zgV true) else ((strings_Contains r3.1 [58]).bind fun r28 =>
  zgV (!r28)))))

def zlp (x_r : api_Ref) : Option Bool :=
  (zgr x_r.Path [47]).bind fun r3 =>
  (zfx x_r.Auth [91, 93]).bind fun r5 =>
  if (!r5) then (zcR x_r r3 true) else ((strings_Contains x_r.Auth [64]).bind fun r7 =>
  if r7 then (zcR x_r r3 true) else ((zfx x_r.Path [47]).bind fun r9 =>
  if (!r9) then (zcR x_r r3 true) else ((zfx x_r.Query [47, 63]).bind fun r11 =>
  if (!r11) then (zcR x_r r3 true) else ((zfx x_r.Frag [47, 63]).bind fun r13 =>
  zcR x_r r3 (!r13)))))

def zkr (x_s : Str) : Option (api_Ref × Int) :=
  (zkq x_s).bind fun r3 =>
  (zlp r3).bind fun r6 =>
  if (!r6) then (some (((⟨[], [], [], [], [], false, false, false⟩ : api_Ref), 2))) else (some (r3, 0))

def zji (x_s : Str) : Option Bool :=
  (zkr x_s).bind fun r2 =>
  some (r2.2 == 0)

def zcl (x_s : Str) (r2 : Str × Bool) (t8 : Bool) : Option Str :=
  if t8 then (some x_s) else (some r2.1)

def zhn (x_s : Str) (x_l : List api_Swap) : Option Str :=
  (zlo x_s x_l).bind fun r2 =>
  if (!r2.2) then (zcl x_s r2 true) else ((zji x_s).bind fun r5 =>
  if (!r5) then (zcl x_s r2 true) else ((zji r2.1).bind fun r7 =>
  zcl x_s r2 (!r7)))

def zbG (r2 : Int) (s14 : Str) (i15 : Int) : Option (Str × scan_Scanner) :=
  (zfH s14 r2 i15).bind fun s18 =>
  some ((s18, (⟨s14, i15⟩ : scan_Scanner)))

def zaU (rec1 : Str → Int → Option (Str × scan_Scanner)) (r2 : Int) (s4 : Str) (i5 : Int) (t10 : Bool) : Option (Str × scan_Scanner) :=
  if t10 then (zbG r2 s4 i5) else ((zK i5 1).bind fun i13 =>
  rec1 s4 i13)

def zY (x_is : UInt8 → Option Bool) (r2 : Int) : Nat → Str → Int → Option (Str × scan_Scanner)
  | 0, _, _ => none
  | n + 1, s4, i5 =>
  (zaa (⟨s4, i5⟩ : scan_Scanner)).bind fun r6 =>
  if (!r6.2) then (zaU (zY x_is r2 n) r2 s4 i5 true) else ((x_is r6.1).bind fun r9 =>
  zaU (zY x_is r2 n) r2 s4 i5 (!r9))

def zaE (x_c : scan_Scanner) (x_is : UInt8 → Option Bool) : Option (Str × scan_Scanner) :=
  (zbx x_c).bind fun r2 =>
  zY x_is r2 fuel x_c.f_s x_c.f_at

def za8 (x_c : scan_Scanner) : Option (Str × Bool × scan_Scanner) :=
  (zaE x_c zcy).bind fun r2 =>
  some ((r2.1, !(r2.1 == []), r2.2))

def zhC (x_a0 : UInt8) : Option Bool :=
  some true

def zdJ (r7 : Str × Bool × scan_Scanner) (r10 : Bool × scan_Scanner) (s20 : Str) (t28 : Bool) : Option (api_Attr × Bool) :=
  some (((⟨r7.1, s20, r10.1⟩ : api_Attr), t28))

def zgW (r7 : Str × Bool × scan_Scanner) (r10 : Bool × scan_Scanner) (s18 : Str) (i19 : Int) (s20 : Str) : Option (api_Attr × Bool) :=
  if r7.2.1 then ((zaP (⟨s18, i19⟩ : scan_Scanner)).bind fun r22 =>
  if r22 then ((zbI zaJ ([s20] : List Str)).bind fun r25 =>
  if r25 then ((zde s20 [32, 9]).bind fun r27 =>
  zdJ r7 r10 s20 (r27 == s20)) else (zdJ r7 r10 s20 false)) else (zdJ r7 r10 s20 false)) else (zdJ r7 r10 s20 false)

def zjj (x_s : Str) : Option (api_Attr × Bool) :=
  (zde x_s [32, 9]).bind fun r3 =>
  (zjZ r3).bind fun r4 =>
  (za8 r4).bind fun r7 =>
  (zB r7.2.2 61).bind fun r10 =>
  if r10.1 then ((zaE r10.2 zhC).bind fun r16 =>
  zgW r7 r10 r16.2.f_s r16.2.f_at r16.1) else (zgW r7 r10 r10.2.f_s r10.2.f_at [])

def stringslite_CutSuffix (x_s : Str) (x_suffix : Str) : Option (Str × Bool) :=
  (stringslite_HasSuffix x_s x_suffix).bind fun r2 =>
  if (!r2) then (some (x_s, false)) else ((zcZ (x_s.length : Int) (x_suffix.length : Int)).bind fun i7 =>
  (sTo x_s i7).bind fun s8 =>
  some (s8, true))

def strings_CutSuffix (x_s : Str) (x_suffix : Str) : Option (Str × Bool) :=
  (stringslite_CutSuffix x_s x_suffix).bind fun r2 =>
  some (r2.1, r2.2)

def zf7 (t5 : Bool) : Option Bool :=
  some t5

def zis (x_b : UInt8) : Option Bool :=
  (zfW x_b).bind fun r2 =>
  if r2 then ((strings_IndexByte [34, 44, 59, 92] x_b).bind fun r4 =>
  zf7 (decide (r4 < 0))) else (zf7 false)

def zf8 (t9 : Bool) : Option Bool :=
  some t9

def zks (x_s : Str) : Option Bool :=
  (strings_CutPrefix x_s [34]).bind fun r2 =>
  (strings_CutSuffix r2.1 [34]).bind fun r4 =>
  if (r2.2 == r4.2) then ((zbI zis ([r4.1] : List Str)).bind fun r8 =>
  zf8 r8) else (zf8 false)

def zh6 (s53 : Str) (s54 : Str) (l57 : List api_Attr) : Option (api_Cookie × Int) :=
  some (((⟨s53, s54, l57⟩ : api_Cookie), 0))

def zef (l23 : List Str) : Nat → (List api_Attr) → Str → Str → Int → Option (api_Cookie × Int)
  | 0, _, _, _, _ => none
  | n + 1, l29, s30, s31, i32 =>
  if (decide (i32 < (l23.length : Int))) then ((lAt l23 i32).bind fun x36 =>
  (zjj x36).bind fun r40 =>
  if (!r40.2) then (some (((⟨[], [], []⟩ : api_Cookie), 2))) else (if zL l29.length 1 40 then ((zK i32 1).bind fun i52 =>
  (zef l23 n) (l29 ++ [r40.1]) s30 s31 i52) else none)) else (zh6 s30 s31 l29)

def zeg (r3 : List Str) (r10 : api_Attr × Bool) (t16 : Bool) : Option (api_Cookie × Int) :=
  if t16 then (some (((⟨[], [], []⟩ : api_Cookie), 2))) else ((zvT r3 1).bind fun l23 =>
  zef l23 fuel [] r10.1.Name r10.1.Value 0)

def zit (x_s : Str) : Option (api_Cookie × Int) :=
  (strings_Split x_s [59]).bind fun r3 =>
  (lAt r3 0).bind fun x7 =>
  (zjj x7).bind fun r10 =>
  if (!r10.2) then (zeg r3 r10 true) else (if (!r10.1.Has) then (zeg r3 r10 true) else ((zks r10.1.Value).bind fun r15 =>
  zeg r3 r10 (!r15)))

def zeU (x_c : api_Cookie) (x_name : Str) : Nat → Int → Option Int
  | 0, _ => none
  | n + 1, i5 =>
  if (decide (0 ≤ i5)) then ((lAt x_c.Attrs i5).bind fun x9 =>
  (zdr x9.Name x_name).bind fun r12 =>
  if r12 then (some i5) else ((zcZ i5 1).bind fun i17 =>
  (zeU x_c x_name n) i17)) else (some (-1))

def zjk (x_c : api_Cookie) (x_name : Str) : Option Int :=
  (zcZ (x_c.Attrs.length : Int) 1).bind fun i3 =>
  zeU x_c x_name fuel i3

def zmD (x_c : api_Cookie) (x_name : Str) : Option (Str × Bool) :=
  (zjk x_c x_name).bind fun r3 =>
  if (decide (r3 < 0)) then (some ([], false)) else ((lAt x_c.Attrs r3).bind fun x9 =>
  some (x9.Value, true))

def stringslite_TrimPrefix (x_s : Str) (x_prefix : Str) : Option Str :=
  (stringslite_HasPrefix x_s x_prefix).bind fun r2 =>
  if r2 then ((zdW x_s (x_prefix.length : Int)).bind fun s5 =>
  some s5) else (some x_s)

def strings_TrimPrefix (x_s : Str) (x_prefix : Str) : Option Str :=
  (stringslite_TrimPrefix x_s x_prefix).bind fun r2 =>
  some r2

def zeI (t19 : Bool) : Option Bool :=
  some t19

def zb9 (x_name : Str) (x_domain : Str) (t9 : Bool) : Option Bool :=
  if t9 then (some false) else ((zcL x_name).bind fun r13 =>
  (zcL x_domain).bind fun r14 =>
  if (r13 == r14) then (zeI true) else ((zck [46] r14).bind fun s17 =>
  (strings_HasSuffix r13 s17).bind fun r18 =>
  zeI r18))

def ziT (x_name : Str) (x_domain : Str) : Option Bool :=
  (zds x_name).bind fun r2 =>
  if (!r2) then (zb9 x_name x_domain true) else ((zds x_domain).bind fun r4 =>
  if (!r4) then (zb9 x_name x_domain true) else ((zbf x_name).bind fun r6 =>
  if r6 then (zb9 x_name x_domain true) else ((zbf x_domain).bind fun r8 =>
  zb9 x_name x_domain r8)))

def zeV (x_name : Str) (x_l : List api_Swap) (r2 : Str) : Nat → Int → Option (Str × Bool)
  | 0, _ => none
  | n + 1, i5 =>
  if (decide (i5 < (x_l.length : Int))) then ((lAt x_l i5).bind fun x9 =>
  (ziT r2 x9.From).bind fun r14 =>
  if r14 then ((zcZ (r2.length : Int) (x9.From.length : Int)).bind fun i17 =>
  (sTo r2 i17).bind fun s18 =>
  (zck s18 x9.To).bind fun s19 =>
  some (s19, true)) else ((zK i5 1).bind fun i22 =>
  (zeV x_name x_l r2 n) i22)) else (some (x_name, false))

def zlq (x_name : Str) (x_l : List api_Swap) : Option (Str × Bool) :=
  (strings_TrimPrefix x_name [46]).bind fun r2 =>
  zeV x_name x_l r2 fuel 0

def zhD (rec1 : (List api_Attr) → Str → Str → Int → Option api_Cookie) (s12 : Str) (s13 : Str) (i14 : Int) (l36 : List api_Attr) : Option api_Cookie :=
  (zK i14 1).bind fun i37 =>
  rec1 l36 s12 s13 i37

def zhE (rec1 : (List api_Attr) → Str → Str → Int → Option api_Cookie) (l11 : List api_Attr) (s12 : Str) (s13 : Str) (i14 : Int) (x18 : api_Attr) (s28 : Str) (t29 : Bool) : Option api_Cookie :=
  if zL l11.length 1 40 then (zhD rec1 s12 s13 i14 (l11 ++ [(⟨x18.Name, s28, t29⟩ : api_Attr)])) else none

def zhF (s38 : Str) (s39 : Str) (l51 : List api_Attr) : Option api_Cookie :=
  some (⟨s38, s39, l51⟩ : api_Cookie)

def zjF (x_name : Str) (x_value : Str) (r4 : Int) (s38 : Str) (s39 : Str) (l42 : List api_Attr) : Option api_Cookie :=
  if (decide (r4 < 0)) then (if zL l42.length 1 40 then (zhF s38 s39 (l42 ++ [(⟨x_name, x_value, true⟩ : api_Attr)])) else none) else (zhF s38 s39 l42)

def zbQ (x_c : api_Cookie) (x_name : Str) (x_value : Str) (r4 : Int) : Nat → (List api_Attr) → Str → Str → Int → Option api_Cookie
  | 0, _, _, _, _ => none
  | n + 1, l11, s12, s13, i14 =>
  if (decide (i14 < (x_c.Attrs.length : Int))) then ((lAt x_c.Attrs i14).bind fun x18 =>
  if (i14 == r4) then (zhE (zbQ x_c x_name x_value r4 n) l11 s12 s13 i14 x18 x_value true) else ((zdr x18.Name x_name).bind fun r25 =>
  if r25 then (zhD (zbQ x_c x_name x_value r4 n) s12 s13 i14 l11) else (zhE (zbQ x_c x_name x_value r4 n) l11 s12 s13 i14 x18 x18.Value x18.Has))) else (zjF x_name x_value r4 s12 s13 l11)

def zmE (x_c : api_Cookie) (x_name : Str) (x_value : Str) : Option api_Cookie :=
  (zjk x_c x_name).bind fun r4 =>
  zbQ x_c x_name x_value r4 fuel [] x_c.Name x_c.Value 0

def z6 (x_s1 : List api_Attr) (x_s2 : List api_Attr) : Nat → Int → Option Bool
  | 0, _ => none
  | n + 1, i7 =>
  if (decide (i7 < (x_s1.length : Int))) then ((lAt x_s1 i7).bind fun x12 =>
  (lAt x_s2 i7).bind fun x15 =>
  if (!(x12 == x15)) then (some false) else ((zK i7 1).bind fun i22 =>
  (z6 x_s1 x_s2 n) i22)) else (some true)

def zbl (x_s1 : List api_Attr) (x_s2 : List api_Attr) : Option Bool :=
  if (!((x_s1.length : Int) == (x_s2.length : Int))) then (some false) else (z6 x_s1 x_s2 fuel 0)

def zeW (t7 : Bool) : Option Bool :=
  some t7

def zlr (x_a : api_Cookie) (x_b : api_Cookie) : Option Bool :=
  if (x_a.Name == x_b.Name) then (if (x_a.Value == x_b.Value) then ((zbl x_a.Attrs x_b.Attrs).bind fun r6 =>
  zeW r6) else (zeW false)) else (zeW false)

def zgX (rec1 : (List Str) → Int → Option (Str × Int)) (i11 : Int) (l34 : List Str) : Option (Str × Int) :=
  (zK i11 1).bind fun i35 =>
  rec1 l34 i35

def zgY (r37 : Str) (t46 : Bool) : Option (Str × Int) :=
  if t46 then (some ([], 2)) else (some (r37, 0))

def zcS (x_c : api_Cookie) : Nat → (List Str) → Int → Option (Str × Int)
  | 0, _, _ => none
  | n + 1, l10, i11 =>
  if (decide (i11 < (x_c.Attrs.length : Int))) then ((lAt x_c.Attrs i11).bind fun x15 =>
  if x15.Has then ((zck x15.Name [61]).bind fun s22 =>
  (zck s22 x15.Value).bind fun s23 =>
  if zL l10.length 1 16 then (zgX (zcS x_c n) i11 (l10 ++ ([s23] : List Str))) else none) else (if zL l10.length 1 16 then (zgX (zcS x_c n) i11 (l10 ++ ([x15.Name] : List Str))) else none)) else ((zcd [59, 32] l10).bind fun r37 =>
  (zit r37).bind fun r39 =>
  if (!(r39.2 == 0)) then (zgY r37 true) else ((zlr r39.1 x_c).bind fun r45 =>
  zgY r37 (!r45)))

def zls (x_c : api_Cookie) : Option (Str × Int) :=
  (zck x_c.Name [61]).bind fun s3 =>
  (zck s3 x_c.Value).bind fun s4 =>
  zcS x_c fuel ([s4] : List Str) 0

def zh7 (x_s : Str) (x_l : List api_Swap) : Option Str :=
  (zit x_s).bind fun r2 =>
  if (!(r2.2 == 0)) then (some x_s) else ((zmD r2.1 [68, 111, 109, 97, 105, 110]).bind fun r11 =>
  (zlq r11.1 x_l).bind fun r13 =>
  if (!r13.2) then (some x_s) else ((zmE r2.1 [68, 111, 109, 97, 105, 110] r13.1).bind fun r19 =>
  (zls r19).bind fun r22 =>
  if (!(r22.2 == 0)) then (some x_s) else (some r22.1)))

def zcT (rec1 : (List api_Field) → Int → Option (List api_Field)) (i12 : Int) (l41 : List api_Field) : Option (List api_Field) :=
  (zK i12 1).bind fun i42 =>
  rec1 l41 i42

def zd6 (rec1 : (List api_Field) → Int → Option (List api_Field)) (x_env : api_Env) (l11 : List api_Field) (i12 : Int) (x16 : api_Field) (r21 : Str) (t25 : Bool) : Option (List api_Field) :=
  if t25 then ((zhn x16.Value x_env.Locations).bind fun r27 =>
  (lAt l11 i12).bind fun x28 =>
  (zjw l11 i12 (⟨x28.Name, r27⟩ : api_Field)).bind fun l31 =>
  zcT rec1 i12 l31) else (if (r21 == [115, 101, 116, 45, 99, 111, 111, 107, 105, 101]) then ((zh7 x16.Value x_env.Domains).bind fun r34 =>
  (lAt l11 i12).bind fun x35 =>
  (zjw l11 i12 (⟨x35.Name, r34⟩ : api_Field)).bind fun l38 =>
  zcT rec1 i12 l38) else (zcT rec1 i12 l11))

def zgi (l45 : List api_Field) : Option (List api_Field) :=
  some l45

def zaF (x_env : api_Env) (x_l : List api_Field) : Nat → (List api_Field) → Int → Option (List api_Field)
  | 0, _, _ => none
  | n + 1, l11, i12 =>
  if (decide (i12 < (x_l.length : Int))) then ((lAt l11 i12).bind fun x16 =>
  (zcL x16.Name).bind fun r21 =>
  if (r21 == [108, 111, 99, 97, 116, 105, 111, 110]) then (zd6 (zaF x_env x_l n) x_env l11 i12 x16 r21 (r21 == [108, 111, 99, 97, 116, 105, 111, 110])) else (zd6 (zaF x_env x_l n) x_env l11 i12 x16 r21 (r21 == [99, 111, 110, 116, 101, 110, 116, 45, 108, 111, 99, 97, 116, 105, 111, 110]))) else (zgi l11)

def zh8 (x_env : api_Env) (x_l : List api_Field) : Option (List api_Field) :=
  if zL 0 x_l.length 32 then (zaF x_env x_l fuel x_l 0) else none

def zbD (x_w : stage_worker) (x_env : api_Env) (l14 : List api_Field) : Option stage_worker :=
  (zln (⟨l14⟩ : bag_Bag) [72, 111, 115, 116]).bind fun r15 =>
  if (!r15.2) then ((zgq (⟨l14⟩ : bag_Bag) ([(⟨[72, 111, 115, 116], x_env.Host⟩ : api_Field)])).bind fun r20 =>
  some (⟨r20, x_w.f_h⟩ : stage_worker)) else (some ((⟨(⟨l14⟩ : bag_Bag), x_w.f_h⟩ : stage_worker)))

def zd7 (x_w : stage_worker) (x_env : api_Env) (x_t : api_Target) : Option stage_worker :=
  if (x_t.Kind == 2) then ((zjC x_t.Host).bind fun r6 =>
  (zlm x_w.Bag [72, 111, 115, 116] r6.1).bind fun r8 =>
  zbD x_w x_env r8.f_l) else (zbD x_w x_env x_w.Bag.f_l)

def zat (x_w : stage_worker) : Option (api_Head × Int) :=
  (zaO x_w.Bag).bind fun r3 =>
  some (((⟨x_w.f_h.Kind, x_w.f_h.Method, x_w.f_h.Target, x_w.f_h.Code, x_w.f_h.Reason, x_w.f_h.Minor, r3⟩ : api_Head), 0))

def ziU (x_a1 : api_Head) (i45 : Int) (s46 : Str) (s47 : Str) (i48 : Int) (s49 : Str) (i50 : Int) (l53 : List api_Field) : Option (api_Head × Int) :=
  (zat ((⟨(⟨l53⟩ : bag_Bag), (⟨i45, s46, s47, i48, s49, i50, x_a1.Fields⟩ : api_Head)⟩ : stage_worker))).bind fun r54 =>
  some (r54.1, r54.2)

def zgZ (x_a0 : api_Env) (x_a1 : api_Head) (r8 : bag_Bag) (r18 : api_Target × Int) (t22 : Bool) : Option (api_Head × Int) :=
  if t22 then (some (((⟨0, [], [], 0, [], 0, []⟩ : api_Head), 20))) else ((zjB r18.1).bind fun r26 =>
  (zd7 ((⟨r8, (⟨x_a1.Kind, x_a1.Method, r26, x_a1.Code, x_a1.Reason, 1, x_a1.Fields⟩ : api_Head)⟩ : stage_worker)) x_a0 r18.1).bind fun r28 =>
  ziU x_a1 r28.f_h.Kind r28.f_h.Method r28.f_h.Target r28.f_h.Code r28.f_h.Reason r28.f_h.Minor r28.Bag.f_l)

def ziV (x_a1 : api_Head) (l61 : List api_Field) : Option (api_Head × Int) :=
  (zat ((⟨(⟨l61⟩ : bag_Bag), (⟨x_a1.Kind, x_a1.Method, x_a1.Target, x_a1.Code, x_a1.Reason, 1, x_a1.Fields⟩ : api_Head)⟩ : stage_worker))).bind fun r63 =>
  some (r63.1, r63.2)

def zlt (x_a0 : api_Env) (x_a1 : api_Head) : Option (api_Head × Int) :=
  (znO x_a1.Fields).bind fun r5 =>
  (zeG r5).bind fun r8 =>
  if (x_a1.Kind == 1) then ((zkp x_a1.Method x_a1.Target).bind fun r18 =>
  if (!(r18.2 == 0)) then (zgZ x_a0 x_a1 r8 r18 true) else (zgZ x_a0 x_a1 r8 r18 (r18.1.Kind == 3))) else (if (x_a1.Kind == 2) then ((zaO r8).bind fun r34 =>
  (zh8 x_a0 r34).bind fun r37 =>
  (zeG r37).bind fun r40 =>
  ziV x_a1 r40.f_l) else (some (((⟨0, [], [], 0, [], 0, []⟩ : api_Head), 1))))

def zbm (x_v : api_Via) (t17 : Bool) (s18 : Str) (i19 : Int) (s20 : Str) (s21 : Str) : Option (Bool × scan_Scanner × api_Via) :=
  some ((t17, (⟨s18, i19⟩ : scan_Scanner), (⟨s20, s21, x_v.By, x_v.Comment⟩ : api_Via)))

def zbn (x_v : api_Via) (r3 : Str × Bool × scan_Scanner) (t10 : Bool) (s11 : Str) (i12 : Int) : Option (Bool × scan_Scanner × api_Via) :=
  if t10 then ((za8 (⟨s11, i12⟩ : scan_Scanner)).bind fun r15 =>
  zbm x_v r15.2.1 r15.2.2.f_s r15.2.2.f_at r3.1 r15.1) else (zbm x_v r3.2.1 s11 i12 x_v.Proto r3.1)

def zbw (x_r : via_reader) (x_v : api_Via) : Option (Bool × scan_Scanner × api_Via) :=
  (za8 x_r.Scanner).bind fun r3 =>
  if r3.2.1 then ((zB r3.2.2 47).bind fun r8 =>
  zbn x_v r3 r8.1 r8.2.f_s r8.2.f_at) else (zbn x_v r3 false r3.2.2.f_s r3.2.2.f_at)

def zeh (x_b : UInt8) : Option Bool :=
  some (!(x_b == 32))

def strings_ContainsAny (x_s : Str) (x_chars : Str) : Option Bool :=
  (strings_IndexAny x_s x_chars).bind fun r2 =>
  some (decide (0 ≤ r2))

def zcG (x_v : api_Via) (r3 : Str × scan_Scanner) (t13 : Bool) : Option (Bool × scan_Scanner × api_Via) :=
  some ((t13, r3.2, (⟨x_v.Proto, x_v.Version, r3.1, x_v.Comment⟩ : api_Via)))

def zhG (x_r : via_reader) (x_v : api_Via) : Option (Bool × scan_Scanner × api_Via) :=
  (zaE x_r.Scanner zeh).bind fun r3 =>
  (zb2 r3.1).bind fun r6 =>
  (zdX r3.1).bind fun r9 =>
  if r9 then (zcG x_v r3 true) else (if (r6.2 == 0) then ((strings_ContainsAny r3.1 [44, 40, 41]).bind fun r12 =>
  zcG x_v r3 (!r12)) else (zcG x_v r3 false))

def zce (rec1 : Int → Int → Option Bool) (i20 : Int) (i21 : Int) (t23 : Bool) : Option Bool :=
  if t23 then (some false) else ((zK i21 1).bind fun i27 =>
  rec1 i20 i27)

def zaM (rec1 : Int → Int → Option Bool) (x_s : Str) (i20 : Int) (i21 : Int) : Option Bool :=
  if (decide (i20 < 0)) then (zce rec1 i20 i21 true) else (zce rec1 i20 i21 (decide ((x_s.length : Int) ≤ i21)))

def zei (t32 : Bool) : Option Bool :=
  some t32

def zab (x_s : Str) : Nat → Int → Int → Option Bool
  | 0, _, _ => none
  | n + 1, i4, i5 =>
  if (decide (i5 < (x_s.length : Int))) then ((sAt x_s i5).bind fun b9 =>
  if (b9 == 40) then ((zK i4 1).bind fun i13 =>
  zaM (zab x_s n) x_s i13 i5) else (if (b9 == 41) then ((zcZ i4 1).bind fun i16 =>
  zaM (zab x_s n) x_s i16 i5) else (if (b9 == 92) then ((zK i5 1).bind fun i19 =>
  zaM (zab x_s n) x_s i4 i19) else (zaM (zab x_s n) x_s i4 i5)))) else (if (i4 == 0) then ((zbI zaJ ([x_s] : List Str)).bind fun r31 =>
  zei r31) else (zei false))

def zg0 (x_s : Str) : Option Bool :=
  zab x_s fuel 0 0

def zaC (x_r : via_reader) (x_v : api_Via) (r11 : Str × Bool) (t18 : Bool) : Option (Bool × scan_Scanner × api_Via) :=
  some ((t18, x_r.Scanner, (⟨x_v.Proto, x_v.Version, x_v.By, r11.1⟩ : api_Via)))

def zbL (x_r : via_reader) (x_v : api_Via) : Option (Bool × scan_Scanner × api_Via) :=
  (zaP x_r.Scanner).bind fun r3 =>
  if r3 then (some (true, x_r.Scanner, x_v)) else ((zbj x_r.Scanner).bind fun r8 =>
  (strings_CutPrefix r8 [32, 40]).bind fun r9 =>
  (strings_CutSuffix r9.1 [41]).bind fun r11 =>
  if r9.2 then (if r11.2 then (if (!(r11.1 == [])) then ((zg0 r11.1).bind fun r17 =>
  zaC x_r x_v r11 r17) else (zaC x_r x_v r11 false)) else (zaC x_r x_v r11 false)) else (zaC x_r x_v r11 false))

def zd8 (t20 : Bool) (s21 : Str) (i22 : Int) (s23 : Str) (s24 : Str) (s25 : Str) (s26 : Str) : Option (api_Via × Int) :=
  if t20 then (some (((⟨[], [], [], []⟩ : api_Via), 2))) else (some (((⟨s23, s24, s25, s26⟩ : api_Via), 0)))

def ziC (x_s : Str) : Option (api_Via × Int) :=
  (zjZ x_s).bind fun r3 =>
  (zbw (⟨r3⟩ : via_reader) (⟨[], [], [], []⟩ : api_Via)).bind fun r9 =>
  if (!r9.1) then (zd8 true r9.2.1.f_s r9.2.1.f_at r9.2.2.Proto r9.2.2.Version r9.2.2.By r9.2.2.Comment) else ((zB r9.2.1 32).bind fun r12 =>
  if (!r12.1) then (zd8 true r12.2.f_s r12.2.f_at r9.2.2.Proto r9.2.2.Version r9.2.2.By r9.2.2.Comment) else ((zhG (⟨r12.2⟩ : via_reader) r9.2.2).bind fun r15 =>
  if (!r15.1) then (zd8 true r15.2.1.f_s r15.2.1.f_at r15.2.2.Proto r15.2.2.Version r15.2.2.By r15.2.2.Comment) else ((zbL (⟨r15.2.1⟩ : via_reader) r15.2.2).bind fun r18 =>
  zd8 (!r18.1) r18.2.1.f_s r18.2.1.f_at r18.2.2.Proto r18.2.2.Version r18.2.2.By r18.2.2.Comment)))

def zhR (r23 : Str) (t29 : Bool) : Option (Str × Int) :=
  if t29 then (some ([], 2)) else (some (r23, 0))

def zgs (x_v : api_Via) (l22 : List Str) : Option (Str × Int) :=
  (zcd [] l22).bind fun r23 =>
  (ziC r23).bind fun r25 =>
  if (!(r25.2 == 0)) then (zhR r23 true) else (zhR r23 (!(r25.1 == x_v)))

def zgt (x_v : api_Via) (l13 : List Str) : Option (Str × Int) :=
  if (!(x_v.Comment == [])) then (if zL l13.length 3 16 then (zgs x_v (l13 ++ ([[32, 40], x_v.Comment, [41]] : List Str))) else none) else (zgs x_v l13)

def zlu (x_v : api_Via) : Option (Str × Int) :=
  if (!(x_v.Proto == [])) then (if zL (([x_v.Proto, [47]] : List Str).length) 3 16 then (zgt x_v (([x_v.Proto, [47]] : List Str) ++ ([x_v.Version, [32], x_v.By] : List Str))) else none) else (zgt x_v ([x_v.Version, [32], x_v.By] : List Str))

def zdY (x_l : List Str) : Option Str :=
  (zcd [44, 32] x_l).bind fun r2 =>
  some r2

def zfK (x_s : Str) (x_l : List Str) : Option Str :=
  if ((x_l.length : Int) == 0) then (some x_s) else ((zde x_s [32, 9, 44]).bind fun r5 =>
  if (r5 == []) then ((zdY x_l).bind fun r8 =>
  some r8) else ((zdf x_s [32, 9]).bind fun r11 =>
  if zL (([r11] : List Str).length) x_l.length 16 then ((zdY (([r11] : List Str) ++ x_l)).bind fun r16 =>
  some r16) else none))

def zaT (x_b : bag_Bag) (x_name : Str) (x_element : Str) : Nat → Int → Option bag_Bag
  | 0, _ => none
  | n + 1, i5 =>
  if (decide (0 ≤ i5)) then ((lAt x_b.f_l i5).bind fun x9 =>
  (zdr x9.Name x_name).bind fun r12 =>
  if r12 then ((lAt x_b.f_l i5).bind fun x15 =>
  (zfK x15.Value ([x_element] : List Str)).bind fun r19 =>
  (lAt x_b.f_l i5).bind fun x20 =>
  (zjw x_b.f_l i5 (⟨x20.Name, r19⟩ : api_Field)).bind fun l23 =>
  some (⟨l23⟩ : bag_Bag)) else ((zcZ i5 1).bind fun i26 =>
  (zaT x_b x_name x_element n) i26)) else ((zgq x_b ([(⟨x_name, x_element⟩ : api_Field)])).bind fun r29 =>
  some r29)

def zcU (x_b : bag_Bag) (x_name : Str) (x_element : Str) : Option bag_Bag :=
  (zcZ (x_b.f_l.length : Int) 1).bind fun i3 =>
  zaT x_b x_name x_element fuel i3

def zho (x_v : api_Via) (x_l : List api_Field) : Option (List api_Field × Int) :=
  (zlu x_v).bind fun r3 =>
  if (!(r3.2 == 0)) then (some ([], r3.2)) else ((zeG x_l).bind fun r9 =>
  (zcU r9 [86, 105, 97] r3.1).bind fun r14 =>
  (zaO r14).bind fun r19 =>
  some (r19, 0))

def zeX (x_client : Str) : Option Str :=
  (zbf x_client).bind fun r2 =>
  if r2 then (some x_client) else ((zdi x_client).bind fun r6 =>
  if r6 then ((zck [91] x_client).bind fun s9 =>
  (zck s9 [93]).bind fun s10 =>
  some s10) else (some [117, 110, 107, 110, 111, 119, 110]))

def zdl (l23 : List api_Param) : Option (List api_Param) :=
  some l23

def zdm (x_env : api_Env) (l14 : List api_Param) : Option (List api_Param) :=
  if (!(x_env.Scheme == [])) then (if zL l14.length 1 32 then (zdl (l14 ++ [(⟨[112, 114, 111, 116, 111], x_env.Scheme⟩ : api_Param)])) else none) else (zdl l14)

def zeY (x_env : api_Env) : Option (List api_Param) :=
  (zeX x_env.Client).bind fun r3 =>
  if (!(x_env.Host == [])) then (if zL (([(⟨[102, 111, 114], r3⟩ : api_Param)]).length) 1 32 then (zdm x_env (([(⟨[102, 111, 114], r3⟩ : api_Param)]) ++ [(⟨[104, 111, 115, 116], x_env.Host⟩ : api_Param)])) else none) else (zdm x_env ([(⟨[102, 111, 114], r3⟩ : api_Param)]))

def zc7 (rec1 : (List UInt8) → Int → Option (Str × Int)) (x_s : Str) (i14 : Int) (l30 : List UInt8) : Option (Str × Int) :=
  (sAt x_s i14).bind fun b31 =>
  if zL l30.length 1 1 then ((zK i14 1).bind fun i37 =>
  rec1 (l30 ++ [b31]) i37) else none

def zc8 (rec1 : (List UInt8) → Int → Option (Str × Int)) (x_s : Str) (l13 : List UInt8) (i14 : Int) (t22 : Bool) : Option (Str × Int) :=
  if t22 then (if zL l13.length 1 1 then (zc7 rec1 x_s i14 (l13 ++ [92])) else none) else (zc7 rec1 x_s i14 l13)

def zai (x_s : Str) : Nat → (List UInt8) → Int → Option (Str × Int)
  | 0, _, _ => none
  | n + 1, l13, i14 =>
  if (decide (i14 < (x_s.length : Int))) then ((sAt x_s i14).bind fun b19 =>
  if (b19 == 34) then (zc8 (zai x_s n) x_s l13 i14 true) else ((sAt x_s i14).bind fun b21 =>
  zc8 (zai x_s n) x_s l13 i14 (b21 == 92))) else (if zL l13.length 1 1 then (some (l13 ++ [34], 0)) else none)

def zg1 (x_s : Str) : Option (Str × Int) :=
  (zbI zaJ ([x_s] : List Str)).bind fun r3 =>
  if (!r3) then (some ([], 2)) else (zai x_s fuel [34] 0)

def zfL (x_s : Str) : Option (Str × Int) :=
  (zdX x_s).bind fun r2 =>
  if r2 then (some (x_s, 0)) else ((zg1 x_s).bind fun r7 =>
  some (r7.1, r7.2))

def zeZ (rec1 : (List Str) → Int → Option (Str × Int)) (l6 : List Str) (i7 : Int) (x11 : api_Param) (r16 : Str × Int) (t20 : Bool) : Option (Str × Int) :=
  if t20 then (some ([], 2)) else ((zck x11.Name [61]).bind fun s24 =>
  (zck s24 r16.1).bind fun s25 =>
  if zL l6.length 1 16 then ((zK i7 1).bind fun i31 =>
  rec1 (l6 ++ ([s25] : List Str)) i31) else none)

def zbo (x_l : List api_Param) : Nat → (List Str) → Int → Option (Str × Int)
  | 0, _, _ => none
  | n + 1, l6, i7 =>
  if (decide (i7 < (x_l.length : Int))) then ((lAt x_l i7).bind fun x11 =>
  (zfL x11.Value).bind fun r16 =>
  if (!(r16.2 == 0)) then (zeZ (zbo x_l n) l6 i7 x11 r16 true) else ((zdX x11.Name).bind fun r19 =>
  zeZ (zbo x_l n) l6 i7 x11 r16 (!r19))) else (if ((l6.length : Int) == 0) then (some ([], 2)) else ((zcd [59] l6).bind fun r37 =>
  some (r37, 0)))

def zjl (x_l : List api_Param) : Option (Str × Int) :=
  zbo x_l fuel [] 0

def zcH (x_env : api_Env) (x_l : List api_Field) : Option (List api_Field × Int) :=
  (zeY x_env).bind fun r3 =>
  (zjl r3).bind fun r6 =>
  if (!(r6.2 == 0)) then (some ([], r6.2)) else ((zeG x_l).bind fun r12 =>
  (zcU r12 [70, 111, 114, 119, 97, 114, 100, 101, 100] r6.1).bind fun r17 =>
  (zaO r17).bind fun r22 =>
  some (r22, 0))

def zhS (t5 : Bool) : Option Bool :=
  some t5

def zlv (x_s : Str) : Option Bool :=
  (zbf x_s).bind fun r2 =>
  if r2 then (zhS true) else ((zdi x_s).bind fun r4 =>
  zhS r4)

def zev (x_l : List api_Field) (s5 : Str) : Option (List api_Field) :=
  (zeG x_l).bind fun r6 =>
  (zcU r6 [88, 45, 70, 111, 114, 119, 97, 114, 100, 101, 100, 45, 70, 111, 114] s5).bind fun r11 =>
  (zaO r11).bind fun r16 =>
  some r16

def zhp (x_client : Str) (x_l : List api_Field) : Option (List api_Field) :=
  (zlv x_client).bind fun r2 =>
  if (!r2) then (zev x_l [117, 110, 107, 110, 111, 119, 110]) else (zev x_l x_client)

def zcz (x_a2 : api_Head) (l31 : List api_Field) (i32 : Int) : Option (api_Head × Int) :=
  if (!(i32 == 0)) then (some (((⟨0, [], [], 0, [], 0, []⟩ : api_Head), i32))) else ((zeG l31).bind fun r37 =>
  (zat (⟨r37, x_a2⟩ : stage_worker)).bind fun r43 =>
  some (r43.1, r43.2))

def zew (x_a0 : api_Env) (x_a2 : api_Head) (r15 : List api_Field × Int) (t20 : Bool) : Option (api_Head × Int) :=
  if t20 then ((zcH x_a0 r15.1).bind fun r22 =>
  (zhp x_a0.Client r22.1).bind fun r26 =>
  zcz x_a2 r26 r22.2) else (zcz x_a2 r15.1 r15.2)

def zbR (x_a0 : api_Env) (x_a1 : Int) (x_a2 : api_Head) (t9 : Bool) : Option (api_Head × Int) :=
  if t9 then (some (((⟨0, [], [], 0, [], 0, []⟩ : api_Head), 1))) else ((zdh x_a1).bind fun r13 =>
  (zck [49, 46] r13).bind fun s14 =>
  (zho (⟨[], s14, x_a0.By, []⟩ : api_Via) x_a2.Fields).bind fun r15 =>
  if (r15.2 == 0) then (zew x_a0 x_a2 r15 (x_a2.Kind == 1)) else (zew x_a0 x_a2 r15 false))

def ze0 (x_a0 : api_Env) (x_a1 : Int) (x_a2 : api_Head) : Option (api_Head × Int) :=
  if (!(x_a2.Kind == 1)) then (if (!(x_a2.Kind == 2)) then (zbR x_a0 x_a1 x_a2 true) else (if (!(x_a1 == 0)) then (zbR x_a0 x_a1 x_a2 (!(x_a1 == 1))) else (zbR x_a0 x_a1 x_a2 false))) else (if (!(x_a1 == 0)) then (zbR x_a0 x_a1 x_a2 (!(x_a1 == 1))) else (zbR x_a0 x_a1 x_a2 false))

def zfM (rec2 : Str → Int → Option Str) (i14 : Int) (s24 : Str) : Option Str :=
  (zK i14 1).bind fun i25 =>
  rec2 s24 i25

def zbg (rec1 : Str → Int → Option Str) (x_s : Str) (s4 : Str) (i5 : Int) : Nat → Str → Int → Option Str
  | 0, _, _ => none
  | n + 1, s13, i14 =>
  if (decide (i14 < 26)) then ((sAt [65, 66, 67, 68, 69, 70, 71, 72, 73, 74, 75, 76, 77, 78, 79, 80, 81, 82, 83, 84, 85, 86, 87, 88, 89, 90] i14).bind fun b18 =>
  (sAt x_s i5).bind fun b19 =>
  if (b18 == b19) then ((zK i14 1).bind fun i22 =>
  (zfH [97, 98, 99, 100, 101, 102, 103, 104, 105, 106, 107, 108, 109, 110, 111, 112, 113, 114, 115, 116, 117, 118, 119, 120, 121, 122] i14 i22).bind fun s23 =>
  zfM (zbg rec1 x_s s4 i5 n) i14 s23) else (zfM (zbg rec1 x_s s4 i5 n) i14 s13)) else ((zck s4 s13).bind fun s27 =>
  (zK i5 1).bind fun i29 =>
  rec1 s27 i29)

def zbh (x_s : Str) : Nat → Str → Int → Option Str
  | 0, _, _ => none
  | n + 1, s4, i5 =>
  if (decide (i5 < (x_s.length : Int))) then ((zK i5 1).bind fun i9 =>
  (zfH x_s i5 i9).bind fun s10 =>
  zbg (zbh x_s n) x_s s4 i5 fuel s10 0) else (some s4)

def zhq (x_s : Str) : Option Str :=
  zbh x_s fuel [] 0

def zj0 (x_f : api_Field) (x_name : Str) : Option Bool :=
  (zhq x_f.Name).bind fun r3 =>
  (zhq x_name).bind fun r4 =>
  some (r3 == r4)

def zf9 (rec1 : (List Str) → Int → Option (List Str)) (i7 : Int) (l26 : List Str) : Option (List Str) :=
  (zK i7 1).bind fun i27 =>
  rec1 l26 i27

def zcf (x_l : List api_Field) (x_name : Str) : Nat → (List Str) → Int → Option (List Str)
  | 0, _, _ => none
  | n + 1, l6, i7 =>
  if (decide (i7 < (x_l.length : Int))) then ((lAt x_l i7).bind fun x11 =>
  (zj0 x11 x_name).bind fun r14 =>
  if r14 then ((lAt x_l i7).bind fun x17 =>
  if zL l6.length 1 16 then (zf9 (zcf x_l x_name n) i7 (l6 ++ ([x17.Value] : List Str))) else none) else (zf9 (zcf x_l x_name n) i7 l6)) else (some l6)

def zkt (x_l : List api_Field) (x_name : Str) : Option (List Str) :=
  zcf x_l x_name fuel [] 0

def zaV (t31 : Bool) : Option Bool :=
  some t31

def zjm : Option Bool :=
  (zlt (⟨[49, 46, 50, 46, 51, 46, 52], [], [], [109, 101], [], []⟩ : api_Env) (⟨1, [71, 69, 84], [104, 116, 116, 112, 58, 47, 47, 97, 58, 56, 48, 47, 120], 0, [], 0, []⟩ : api_Head)).bind fun r4 =>
  (ze0 (⟨[49, 46, 50, 46, 51, 46, 52], [], [], [109, 101], [], []⟩ : api_Env) 0 r4.1).bind fun r9 =>
  (zkt r9.1.Fields [118, 105, 97]).bind fun r14 =>
  if (r4.2 == 0) then (if (r9.2 == 0) then (if (r9.1.Target == [47, 120]) then (if (r9.1.Minor == 1) then (if ((r14.length : Int) == 1) then ((lAt r14 0).bind fun x23 =>
  if (x23 == [49, 46, 48, 32, 109, 101]) then (if ((r9.1.Fields.length : Int) == 4) then ((lAt r9.1.Fields 0).bind fun x28 =>
  zaV (x28 == (⟨[72, 111, 115, 116], [97, 58, 56, 48]⟩ : api_Field))) else (zaV false)) else (zaV false)) else (zaV false)) else (zaV false)) else (zaV false)) else (zaV false)) else (zaV false)

def zhr (x_x : api_Swap) : Option api_Swap :=
  (sTo x_x.From (min (x_x.From.length : Int) 60)).bind fun s4 =>
  (sTo x_x.To (min (x_x.To.length : Int) 60)).bind fun s5 =>
  some (⟨s4, s5⟩ : api_Swap)

def ziu (s90 : Str) (s91 : Str) (s92 : Str) (s93 : Str) (l96 : List api_Swap) (l99 : List api_Swap) : Option api_Env :=
  some (⟨s90, s91, s92, s93, l96, l99⟩ : api_Env)

def zg2 (rec6 : (List api_Swap) → Str → Str → Str → Str → (List api_Swap) → Int → Option api_Env) (x_a0 : api_Env) (l67 : List api_Swap) (s68 : Str) (s69 : Str) (s70 : Str) (s71 : Str) (l74 : List api_Swap) (i75 : Int) (t77 : Bool) : Option api_Env :=
  if t77 then ((lAt x_a0.Locations i75).bind fun x80 =>
  (zhr x80).bind fun r83 =>
  if zL l67.length 1 32 then ((zK i75 1).bind fun i89 =>
  rec6 (l67 ++ [r83]) s68 s69 s70 s71 l74 i89) else none) else (ziu s68 s69 s70 s71 l74 l67)

def zbS (x_a0 : api_Env) : Nat → (List api_Swap) → Str → Str → Str → Str → (List api_Swap) → Int → Option api_Env
  | 0, _, _, _, _, _, _, _ => none
  | n + 1, l67, s68, s69, s70, s71, l74, i75 =>
  if (decide (i75 < (x_a0.Locations.length : Int))) then (zg2 (zbS x_a0 n) x_a0 l67 s68 s69 s70 s71 l74 i75 (decide (i75 < 6))) else (zg2 (zbS x_a0 n) x_a0 l67 s68 s69 s70 s71 l74 i75 false)

def ziv (x_a0 : api_Env) (s54 : Str) (s55 : Str) (s56 : Str) (s57 : Str) (l60 : List api_Swap) (l63 : List api_Swap) : Option api_Env :=
  zbS x_a0 fuel l63 s54 s55 s56 s57 l60 0

def zg3 (rec3 : (List api_Swap) → Str → Str → Str → Str → (List api_Swap) → Int → Option api_Env) (x_a0 : api_Env) (l31 : List api_Swap) (s32 : Str) (s33 : Str) (s34 : Str) (s35 : Str) (l38 : List api_Swap) (i39 : Int) (t41 : Bool) : Option api_Env :=
  if t41 then ((lAt x_a0.Domains i39).bind fun x44 =>
  (zhr x44).bind fun r47 =>
  if zL l31.length 1 32 then ((zK i39 1).bind fun i53 =>
  rec3 (l31 ++ [r47]) s32 s33 s34 s35 l38 i53) else none) else (ziv x_a0 s32 s33 s34 s35 l31 l38)

def zcr (x_a0 : api_Env) : Nat → (List api_Swap) → Str → Str → Str → Str → (List api_Swap) → Int → Option api_Env
  | 0, _, _, _, _, _, _, _ => none
  | n + 1, l31, s32, s33, s34, s35, l38, i39 =>
  if (decide (i39 < (x_a0.Domains.length : Int))) then (zg3 (zcr x_a0 n) x_a0 l31 s32 s33 s34 s35 l38 i39 (decide (i39 < 6))) else (zg3 (zcr x_a0 n) x_a0 l31 s32 s33 s34 s35 l38 i39 false)

def ziw (x_a0 : api_Env) (s22 : Str) (s23 : Str) (s24 : Str) (s25 : Str) : Option api_Env :=
  zcr x_a0 fuel [] s22 s23 s24 s25 [] 0

def zbT (x_a0 : api_Env) : Nat → Str → Str → Str → Str → Int → Option api_Env
  | 0, _, _, _, _, _ => none
  | n + 1, s7, s8, s9, s10, i11 =>
  if (decide (i11 < 4)) then ((lAt [s7, s8, s9, s10] i11).bind fun x15 =>
  (lAt [s7, s8, s9, s10] i11).bind fun x16 =>
  (sTo x15 (min (x16.length : Int) 60)).bind fun s17 =>
  (lAt [s7, s8, s9, s10] i11).bind fun x18 =>
  ((zjw [s7, s8, s9, s10] i11 s17).bind zsL).bind fun r19 =>
  (zK i11 1).bind fun i21 =>
  (zbT x_a0 n) r19.1 r19.2.1 r19.2.2.1 r19.2.2.2 i21) else (ziw x_a0 s7 s8 s9 s10)

def zj1 (x_a0 : api_Env) : Option api_Env :=
  zbT x_a0 fuel x_a0.Client x_a0.Host x_a0.Scheme x_a0.By 0

def zd9 (rec1 : (List api_Swap) → Int → Option (List api_Swap)) (x_l : List api_Swap) (l6 : List api_Swap) (i7 : Int) (t9 : Bool) : Option (List api_Swap) :=
  if t9 then ((lAt x_l i7).bind fun x12 =>
  (lAt x_l i7).bind fun x15 =>
  (sTo x12.From (min (x15.From.length : Int) 60)).bind fun s18 =>
  (lAt x_l i7).bind fun x19 =>
  (lAt x_l i7).bind fun x22 =>
  (sTo x19.To (min (x22.To.length : Int) 60)).bind fun s25 =>
  if zL l6.length 1 32 then ((zK i7 1).bind fun i31 =>
  rec1 (l6 ++ [(⟨s18, s25⟩ : api_Swap)]) i31) else none) else (some l6)

def zcs (x_l : List api_Swap) : Nat → (List api_Swap) → Int → Option (List api_Swap)
  | 0, _, _ => none
  | n + 1, l6, i7 =>
  if (decide (i7 < (x_l.length : Int))) then (zd9 (zcs x_l n) x_l l6 i7 (decide (i7 < 70))) else (zd9 (zcs x_l n) x_l l6 i7 false)

def ziD (x_l : List api_Swap) : Option (List api_Swap) :=
  zcs x_l fuel [] 0

def zj2 (x_env : api_Env) : Option api_Env :=
  (zj1 x_env).bind fun r4 =>
  (ziD x_env.Domains).bind fun r11 =>
  (ziD x_env.Locations).bind fun r15 =>
  some (⟨r4.Client, r4.Host, r4.Scheme, r4.By, r11, r15⟩ : api_Env)

def zfy (x_s : Str) : Option Str :=
  (sTo x_s (min (x_s.length : Int) 400)).bind fun s2 =>
  some s2

def zg4 (rec1 : (List api_Field) → Int → Option api_Head) (x_h : api_Head) (r4 : Str) (r6 : Str) (r8 : Str) (l14 : List api_Field) (i15 : Int) (t17 : Bool) : Option api_Head :=
  if t17 then ((lAt x_h.Fields i15).bind fun x20 =>
  (zfy x20.Name).bind fun r23 =>
  (lAt x_h.Fields i15).bind fun x24 =>
  (zfy x24.Value).bind fun r27 =>
  if zL l14.length 1 32 then ((zK i15 1).bind fun i33 =>
  rec1 (l14 ++ [(⟨r23, r27⟩ : api_Field)]) i33) else none) else (some (⟨x_h.Kind, r4, r6, x_h.Code, r8, x_h.Minor, l14⟩ : api_Head))

def zct (x_h : api_Head) (r4 : Str) (r6 : Str) (r8 : Str) : Nat → (List api_Field) → Int → Option api_Head
  | 0, _, _ => none
  | n + 1, l14, i15 =>
  if (decide (i15 < (x_h.Fields.length : Int))) then (zg4 (zct x_h r4 r6 r8 n) x_h r4 r6 r8 l14 i15 (decide (i15 < 120))) else (zg4 (zct x_h r4 r6 r8 n) x_h r4 r6 r8 l14 i15 false)

def zj3 (x_h : api_Head) : Option api_Head :=
  (zfy x_h.Method).bind fun r4 =>
  (zfy x_h.Target).bind fun r6 =>
  (zfy x_h.Reason).bind fun r8 =>
  zct x_h r4 r6 r8 fuel [] 0

def ze1 (rec1 : (List Str) → Int → Int → Option (List Str)) (i9 : Int) (l25 : List Str) (i26 : Int) : Option (List Str) :=
  (zK i9 1).bind fun i27 =>
  rec1 l25 i26 i27

def zbp (x_s : Str) (x_c : UInt8) : Nat → (List Str) → Int → Int → Option (List Str)
  | 0, _, _, _ => none
  | n + 1, l7, i8, i9 =>
  if (decide (i9 < (x_s.length : Int))) then ((sAt x_s i9).bind fun b13 =>
  if (b13 == x_c) then ((zfH x_s i8 i9).bind fun s16 =>
  if zL l7.length 1 16 then ((zK i9 1).bind fun i22 =>
  ze1 (zbp x_s x_c n) i9 (l7 ++ ([s16] : List Str)) i22) else none) else (ze1 (zbp x_s x_c n) i9 l7 i8)) else ((zdW x_s i8).bind fun s29 =>
  if zL l7.length 1 16 then (some (l7 ++ ([s29] : List Str))) else none)

def ze2 (x_s : Str) (x_c : UInt8) : Option (List Str) :=
  zbp x_s x_c fuel [] 0 0

def ze3 (rec1 : Int → Option Int) (i5 : Int) (t12 : Bool) : Option Int :=
  if t12 then (some i5) else ((zK i5 1).bind fun i16 =>
  rec1 i16)

def zO (x_b : UInt8) (x_base : Int) : Nat → Int → Option Int
  | 0, _ => none
  | n + 1, i5 =>
  if (decide (i5 < x_base)) then ((sAt [48, 49, 50, 51, 52, 53, 54, 55, 56, 57, 97, 98, 99, 100, 101, 102] i5).bind fun b9 =>
  if (b9 == x_b) then (ze3 (zO x_b x_base n) i5 true) else ((sAt [48, 49, 50, 51, 52, 53, 54, 55, 56, 57, 65, 66, 67, 68, 69, 70] i5).bind fun b11 =>
  ze3 (zO x_b x_base n) i5 (b11 == x_b))) else (some (-1))

def zdn (x_b : UInt8) (x_base : Int) : Option Int :=
  zO x_b x_base fuel 0

def zb3 : Nat → Int → Int → Option Str
  | 0, _, _ => none
  | n + 1, x_n, x_base =>
  if (decide (x_n < x_base)) then ((zK x_n 1).bind fun i5 =>
  (zfH [48, 49, 50, 51, 52, 53, 54, 55, 56, 57, 97, 98, 99, 100, 101, 102] x_n i5).bind fun s6 =>
  some s6) else ((zrH x_n x_base).bind fun i9 =>
  ((zb3 n) i9 x_base).bind fun r10 =>
  (ztK x_n x_base).bind fun i11 =>
  (ztK x_n x_base).bind fun i12 =>
  (zK i12 1).bind fun i13 =>
  (zfH [48, 49, 50, 51, 52, 53, 54, 55, 56, 57, 97, 98, 99, 100, 101, 102] i11 i13).bind fun s14 =>
  (zck r10 s14).bind fun s15 =>
  some s15)

def zea (x_n : Int) (x_base : Int) : Option Str := zb3 fuel x_n x_base

def ze4 (rec1 : Str → Int → Option (Str × Bool)) (i5 : Int) (s21 : Str) : Option (Str × Bool) :=
  (zK i5 1).bind fun i22 =>
  rec1 s21 i22

def ze5 (rec1 : Str → Int → Option (Str × Bool)) (x_base : Int) (s4 : Str) (i5 : Int) (r10 : Int) (t17 : Bool) : Option (Str × Bool) :=
  if t17 then ((zea r10 x_base).bind fun r19 =>
  (zck s4 r19).bind fun s20 =>
  ze4 rec1 i5 s20) else (ze4 rec1 i5 s4)

def ze6 (x_s : Str) (s26 : Str) : Option (Str × Bool) :=
  some ((s26, !(x_s == [])))

def zaW (x_s : Str) (x_base : Int) : Nat → Str → Int → Option (Str × Bool)
  | 0, _, _ => none
  | n + 1, s4, i5 =>
  if (decide (i5 < (x_s.length : Int))) then ((sAt x_s i5).bind fun b9 =>
  (zdn b9 x_base).bind fun r10 =>
  if (decide (r10 < 0)) then (some ([], false)) else (if (!(s4 == [])) then (ze5 (zaW x_s x_base n) x_base s4 i5 r10 true) else (ze5 (zaW x_s x_base n) x_base s4 i5 r10 (decide (0 < r10))))) else (if (s4 == []) then (ze6 x_s [48]) else (ze6 x_s s4))

def zhT (x_s : Str) (x_base : Int) : Option (Str × Bool) :=
  zaW x_s x_base fuel [] 0

def zcA (t4 : Bool) : Option Bool :=
  some t4

def ziW (x_a : Str) (x_b : Str) : Option Bool :=
  if (decide ((x_a.length : Int) < (x_b.length : Int))) then (zcA true) else (if ((x_a.length : Int) == (x_b.length : Int)) then (zcA (zn8 x_a x_b)) else (zcA false))

def zcB (x_base : Int) (r2 : Str × Bool) : Nat → Int → Int → Option (Int × Int)
  | 0, _, _ => none
  | n + 1, i17, i18 =>
  if (decide (i18 < (r2.1.length : Int))) then ((zrG i17 x_base).bind fun i22 =>
  (sAt r2.1 i18).bind fun b23 =>
  (zdn b23 x_base).bind fun r24 =>
  (zK i22 r24).bind fun i25 =>
  (zK i18 1).bind fun i27 =>
  (zcB x_base r2 n) i25 i27) else (some (i17, 0))

def zex (x_base : Int) (r2 : Str × Bool) (t11 : Bool) : Option (Int × Int) :=
  if t11 then (some (0, 7)) else (zcB x_base r2 fuel 0 0)

def ziX (x_s : Str) (x_base : Int) (x_most : Int) : Option (Int × Int) :=
  (zhT x_s x_base).bind fun r2 =>
  if (!r2.2) then (some (0, 2)) else (if (decide (x_most < 0)) then (zex x_base r2 true) else ((zea x_most x_base).bind fun r9 =>
  (ziW r9 r2.1).bind fun r10 =>
  zex x_base r2 r10))

def ziY (x_n : Int) (x_base : Int) : Option Str :=
  if (decide (x_n < 0)) then (some []) else ((zea x_n x_base).bind fun r6 =>
  some r6)

def zdK (r6 : Int × Int) (t10 : Bool) : Option Int :=
  if t10 then (some (-1)) else (some r6.1)

def zgu (x_s : Str) (x_most : Int) : Option Int :=
  if (decide (5 < (x_s.length : Int))) then (some (-1)) else ((ziX x_s 10 x_most).bind fun r6 =>
  if (!(r6.2 == 0)) then (zdK r6 true) else ((ziY r6.1 10).bind fun r9 =>
  zdK r6 (!(r9 == x_s))))

def zcC (r2 : List Str) : Nat → Int → Option Bool
  | 0, _ => none
  | n + 1, i7 =>
  if (decide (i7 < (r2.length : Int))) then ((lAt r2 i7).bind fun x11 =>
  (zgu x11 255).bind fun r14 =>
  if (decide (r14 < 0)) then (some false) else ((zK i7 1).bind fun i19 =>
  (zcC r2 n) i19)) else (some ((r2.length : Int) == 4))

def ze7 (x_s : Str) : Option Bool :=
  (ze2 x_s 46).bind fun r2 =>
  zcC r2 fuel 0

def zhU (x_b : UInt8) (x_l : Str) : Nat → Int → Option Bool
  | 0, _ => none
  | n + 1, i3 =>
  if (decide (i3 < (x_l.length : Int))) then ((sAt x_l i3).bind fun b7 =>
  if (b7 == x_b) then (some true) else ((zK i3 1).bind fun i12 =>
  (zhU x_b x_l n) i12)) else (some false)

def zj4 (x_b : UInt8) (x_l : Str) : Option Bool :=
  zhU x_b x_l fuel 0

def zhs (x_b : UInt8) : Option Bool :=
  (zj4 x_b [48, 49, 50, 51, 52, 53, 54, 55, 56, 57, 97, 98, 99, 100, 101, 102, 65, 66, 67, 68, 69, 70]).bind fun r2 =>
  some r2

def zdL (rec1 : Int → Int → Option Bool) (i9 : Int) (i55 : Int) : Option Bool :=
  (zK i9 1).bind fun i56 =>
  rec1 i55 i56

def ze8 (rec1 : Int → Int → Option Bool) (i8 : Int) (i9 : Int) (t50 : Bool) : Option Bool :=
  if t50 then (some false) else ((zK i8 1).bind fun i54 =>
  zdL rec1 i9 i54)

def zb4 (rec1 : Int → Int → Option Bool) (r2 : List Str) (i8 : Int) (i9 : Int) : Nat → Int → Option Bool
  | 0, _ => none
  | n + 1, i25 =>
  (lAt r2 i9).bind fun x26 =>
  if (decide (i25 < (x26.length : Int))) then ((lAt r2 i9).bind fun x32 =>
  (sAt x32 i25).bind fun b35 =>
  (zhs b35).bind fun r36 =>
  if (!r36) then (some false) else ((zK i25 1).bind fun i41 =>
  (zb4 rec1 r2 i8 i9 n) i41)) else ((lAt r2 i9).bind fun x43 =>
  if (decide ((x43.length : Int) < 1)) then (ze8 rec1 i8 i9 true) else ((lAt r2 i9).bind fun x47 =>
  ze8 rec1 i8 i9 (decide (4 < (x47.length : Int)))))

def zdM (rec1 : Int → Int → Option Bool) (r2 : List Str) (i8 : Int) (i9 : Int) (t19 : Bool) : Option Bool :=
  if t19 then ((zK i8 2).bind fun i21 =>
  zdL rec1 i9 i21) else (zb4 rec1 r2 i8 i9 fuel 0)

def zak (r2 : List Str) : Nat → Int → Int → Option Bool
  | 0, _, _ => none
  | n + 1, i8, i9 =>
  if (decide (i9 < (r2.length : Int))) then ((zcZ (r2.length : Int) 1).bind fun i13 =>
  if (i9 == i13) then ((lAt r2 i9).bind fun x15 =>
  (ze7 x15).bind fun r18 =>
  zdM (zak r2 n) r2 i8 i9 r18) else (zdM (zak r2 n) r2 i8 i9 false)) else (some (i8 == 8))

def zgv (x_s : Str) : Option Bool :=
  (ze2 x_s 58).bind fun r2 =>
  zak r2 fuel 0 0

def zg5 (rec4 : Str → Int → Option Bool) (i24 : Int) (s31 : Str) : Option Bool :=
  (zck s31 [48]).bind fun s32 =>
  (zK i24 1).bind fun i34 =>
  rec4 s32 i34

def zfz (rec3 : Int → Option Bool) (i16 : Int) (s44 : Str) : Option Bool :=
  (zgv s44).bind fun r45 =>
  if r45 then (some true) else ((zK i16 1).bind fun i50 =>
  rec3 i50)

def zcu (rec3 : Int → Option Bool) (x_s : Str) (i3 : Int) (i16 : Int) : Nat → Str → Int → Option Bool
  | 0, _, _ => none
  | n + 1, s23, i24 =>
  if (decide (i24 < i16)) then (if (!(s23 == [])) then ((zck s23 [58]).bind fun s30 =>
  zg5 (zcu rec3 x_s i3 i16 n) i24 s30) else (zg5 (zcu rec3 x_s i3 i16 n) i24 s23)) else ((zK i3 2).bind fun i36 =>
  (zdW x_s i36).bind fun s37 =>
  if (!(s37 == [])) then ((zck s23 [58]).bind fun s40 =>
  (zK i3 2).bind fun i41 =>
  (zdW x_s i41).bind fun s42 =>
  (zck s40 s42).bind fun s43 =>
  zfz rec3 i16 s43) else (zfz rec3 i16 s23))

def za1 (x_s : Str) (i3 : Int) : Nat → Int → Option Bool
  | 0, _ => none
  | n + 1, i16 =>
  if (decide (i16 ≤ 8)) then ((sTo x_s i3).bind fun s20 =>
  zcu (za1 x_s i3 n) x_s i3 i16 fuel s20 0) else (some false)

def zg6 (rec1 : Int → Option Bool) (x_s : Str) (i3 : Int) (t12 : Bool) : Option Bool :=
  if t12 then ((zK i3 1).bind fun i54 =>
  rec1 i54) else (za1 x_s i3 fuel 1)

def zcv (x_s : Str) : Nat → Int → Option Bool
  | 0, _ => none
  | n + 1, i3 =>
  (zK i3 1).bind fun i4 =>
  if (decide (i4 < (x_s.length : Int))) then ((sAt x_s i3).bind fun b8 =>
  if (!(b8 == 58)) then (zg6 (zcv x_s n) x_s i3 true) else ((zK i3 1).bind fun i10 =>
  (sAt x_s i10).bind fun b11 =>
  zg6 (zcv x_s n) x_s i3 (!(b11 == 58)))) else ((zgv x_s).bind fun r56 =>
  some r56)

def zgw (x_s : Str) : Option Bool :=
  zcv x_s fuel 0

def zdN (x_b : UInt8) : Option Bool :=
  (zj4 x_b [97, 98, 99, 100, 101, 102, 103, 104, 105, 106, 107, 108, 109, 110, 111, 112, 113, 114, 115, 116, 117, 118, 119, 120, 121, 122, 65, 66, 67, 68, 69, 70, 71, 72, 73, 74, 75, 76, 77, 78, 79, 80, 81, 82, 83, 84, 85, 86, 87, 88, 89, 90, 48, 49, 50, 51, 52, 53, 54, 55, 56, 57, 45, 46, 95, 126]).bind fun r2 =>
  some r2

def zj5 (x_b : UInt8) : Option Bool :=
  (zj4 x_b [33, 36, 38, 39, 40, 41, 42, 43, 44, 59, 61]).bind fun r2 =>
  some r2

def zey (rec1 : Int → Option Bool) (i34 : Int) : Option Bool :=
  (zK i34 1).bind fun i35 =>
  rec1 i35

def zbU (rec1 : Int → Option Bool) (i3 : Int) (t19 : Bool) : Option Bool :=
  if t19 then (some false) else ((zK i3 2).bind fun i23 =>
  zey rec1 i23)

def zfN (rec1 : Int → Option Bool) (i3 : Int) (t31 : Bool) : Option Bool :=
  if t31 then (some false) else (zey rec1 i3)

def zaf (x_s : Str) : Nat → Int → Option Bool
  | 0, _ => none
  | n + 1, i3 =>
  if (decide (i3 < (x_s.length : Int))) then ((sAt x_s i3).bind fun b7 =>
  if (b7 == 37) then ((zK i3 2).bind fun i10 =>
  if (decide ((x_s.length : Int) ≤ i10)) then (zbU (zaf x_s n) i3 true) else ((zK i3 1).bind fun i12 =>
  (sAt x_s i12).bind fun b13 =>
  (zhs b13).bind fun r14 =>
  if (!r14) then (zbU (zaf x_s n) i3 true) else ((zK i3 2).bind fun i16 =>
  (sAt x_s i16).bind fun b17 =>
  (zhs b17).bind fun r18 =>
  zbU (zaf x_s n) i3 (!r18)))) else ((sAt x_s i3).bind fun b26 =>
  (zdN b26).bind fun r27 =>
  if (!r27) then ((sAt x_s i3).bind fun b29 =>
  (zj5 b29).bind fun r30 =>
  zfN (zaf x_s n) i3 (!r30)) else (zfN (zaf x_s n) i3 false))) else (some (decide (0 < (x_s.length : Int))))

def ziZ (x_s : Str) : Option Bool :=
  zaf x_s fuel 0

def zdZ (x_s : Str) (t12 : Bool) : Option api_Host :=
  if t12 then ((zcZ (x_s.length : Int) 1).bind fun i14 =>
  (zfH x_s 1 i14).bind fun s15 =>
  some ((⟨3, s15, (-1)⟩ : api_Host))) else ((ze7 x_s).bind fun r18 =>
  if r18 then (some ((⟨2, x_s, (-1)⟩ : api_Host))) else ((ziZ x_s).bind fun r23 =>
  if r23 then (some ((⟨1, x_s, (-1)⟩ : api_Host))) else (some (⟨0, [], 0⟩ : api_Host))))

def zj6 (x_s : Str) : Option api_Host :=
  if (decide (2 < (x_s.length : Int))) then ((sAt x_s 0).bind fun b4 =>
  if (b4 == 91) then ((zcZ (x_s.length : Int) 1).bind fun i6 =>
  (sAt x_s i6).bind fun b7 =>
  if (b7 == 93) then ((zcZ (x_s.length : Int) 1).bind fun i9 =>
  (zfH x_s 1 i9).bind fun s10 =>
  (zgw s10).bind fun r11 =>
  zdZ x_s r11) else (zdZ x_s false)) else (zdZ x_s false)) else (zdZ x_s false)

def ze9 (r21 : api_Host) (r25 : Int) (t28 : Bool) : Option (api_Host × Int) :=
  if t28 then (some (((⟨0, [], 0⟩ : api_Host), 27))) else (some (((⟨r21.Kind, r21.Name, r25⟩ : api_Host), 0)))

def zcV (x_s : Str) : Nat → Int → Option (api_Host × Int)
  | 0, _ => none
  | n + 1, i12 =>
  if (decide (0 ≤ i12)) then ((sAt x_s i12).bind fun b16 =>
  if (!(b16 == 58)) then ((zcZ i12 1).bind fun i35 =>
  (zcV x_s n) i35) else ((sTo x_s i12).bind fun s20 =>
  (zj6 s20).bind fun r21 =>
  (zK i12 1).bind fun i23 =>
  (zdW x_s i23).bind fun s24 =>
  (zgu s24 65535).bind fun r25 =>
  if (r21.Kind == 0) then (ze9 r21 r25 true) else (ze9 r21 r25 (decide (r25 < 0))))) else (some (((⟨0, [], 0⟩ : api_Host), 27)))

def zhV (x_s : Str) : Option (api_Host × Int) :=
  (zj6 x_s).bind fun r3 =>
  if (!(r3.Kind == 0)) then (some (r3, 0)) else ((zcZ (x_s.length : Int) 1).bind fun i10 =>
  zcV x_s fuel i10)

def zj7 (x_b : UInt8) : Option Bool :=
  (zj4 x_b [97, 98, 99, 100, 101, 102, 103, 104, 105, 106, 107, 108, 109, 110, 111, 112, 113, 114, 115, 116, 117, 118, 119, 120, 121, 122, 65, 66, 67, 68, 69, 70, 71, 72, 73, 74, 75, 76, 77, 78, 79, 80, 81, 82, 83, 84, 85, 86, 87, 88, 89, 90, 48, 49, 50, 51, 52, 53, 54, 55, 56, 57, 33, 35, 36, 37, 38, 39, 42, 43, 45, 46, 94, 95, 96, 124, 126]).bind fun r2 =>
  some r2

def zb5 (x_s : Str) : Nat → Int → Option Bool
  | 0, _ => none
  | n + 1, i3 =>
  if (decide (i3 < (x_s.length : Int))) then ((sAt x_s i3).bind fun b7 =>
  (zj7 b7).bind fun r8 =>
  if (!r8) then (some false) else ((zK i3 1).bind fun i13 =>
  (zb5 x_s n) i13)) else (some (decide (0 < (x_s.length : Int))))

def zaA (x_s : Str) : Option Bool :=
  zb5 x_s fuel 0

def zdO (rec1 : Int → Option Bool) (i3 : Int) (t12 : Bool) : Option Bool :=
  if t12 then (some true) else ((zK i3 1).bind fun i16 =>
  rec1 i16)

def zaX (x_s : Str) : Nat → Int → Option Bool
  | 0, _ => none
  | n + 1, i3 =>
  if (decide (i3 < (x_s.length : Int))) then ((sAt x_s i3).bind fun b7 =>
  if (b7 == 44) then (zdO (zaX x_s n) i3 true) else ((sAt x_s i3).bind fun b9 =>
  if (b9 == 40) then (zdO (zaX x_s n) i3 true) else ((sAt x_s i3).bind fun b11 =>
  zdO (zaX x_s n) i3 (b11 == 41)))) else (some false)

def zfa (x_s : Str) : Option Bool :=
  zaX x_s fuel 0

def zfb (t4 : Bool) : Option Bool :=
  some t4

def zfc (x_b : UInt8) : Option Bool :=
  if (decide (32 ≤ x_b)) then (if (!(x_b == 127)) then (zfb true) else (zfb (x_b == 9))) else (zfb (x_b == 9))

def zcI (rec1 : Int → Int → Option Bool) (i41 : Int) (i42 : Int) : Option Bool :=
  (zK i42 1).bind fun i43 =>
  rec1 i41 i43

def zdP (rec1 : Int → Int → Option Bool) (i4 : Int) (i18 : Int) (t23 : Bool) : Option Bool :=
  if t23 then (some false) else (zcI rec1 i4 i18)

def zbM (rec1 : Int → Int → Option Bool) (i5 : Int) (i37 : Int) : Option Bool :=
  if (decide (i37 < 0)) then (some false) else (zcI rec1 i37 i5)

def zdQ (rec1 : Int → Int → Option Bool) (x_s : Str) (i5 : Int) (i32 : Int) : Option Bool :=
  (sAt x_s i5).bind fun b33 =>
  if (b33 == 41) then ((zcZ i32 1).bind fun i36 =>
  zbM rec1 i5 i36) else (zbM rec1 i5 i32)

def zG (x_s : Str) : Nat → Int → Int → Option Bool
  | 0, _, _ => none
  | n + 1, i4, i5 =>
  if (decide (i5 < (x_s.length : Int))) then ((sAt x_s i5).bind fun b9 =>
  (zfc b9).bind fun r10 =>
  if (!r10) then (some false) else ((sAt x_s i5).bind fun b15 =>
  if (b15 == 92) then ((zK i5 1).bind fun i18 =>
  if (i18 == (x_s.length : Int)) then (zdP (zG x_s n) i4 i18 true) else ((sAt x_s i18).bind fun b21 =>
  (zfc b21).bind fun r22 =>
  zdP (zG x_s n) i4 i18 (!r22))) else ((sAt x_s i5).bind fun b28 =>
  if (b28 == 40) then ((zK i4 1).bind fun i31 =>
  zdQ (zG x_s n) x_s i5 i31) else (zdQ (zG x_s n) x_s i5 i4)))) else (some (i4 == 0))

def zfO (x_s : Str) : Option Bool :=
  zG x_s fuel 0 0

def zb6 (s28 : Str) (s45 : Str) (s46 : Str) (s77 : Str) (t89 : Bool) : Option (api_Via × Int) :=
  if t89 then (some (((⟨[], [], [], []⟩ : api_Via), 2))) else ((zcZ (s77.length : Int) 1).bind fun i93 =>
  (zfH s77 1 i93).bind fun s94 =>
  some (((⟨s45, s46, s28, s94⟩ : api_Via), 0)))

def zP (x_a0 : Str) (i18 : Int) (s28 : Str) (s45 : Str) (s46 : Str) (t68 : Bool) : Option (api_Via × Int) :=
  if t68 then (some (((⟨[], [], [], []⟩ : api_Via), 2))) else (if (i18 == (x_a0.length : Int)) then (some (((⟨s45, s46, s28, []⟩ : api_Via), 0))) else ((zK i18 1).bind fun i76 =>
  (zdW x_a0 i76).bind fun s77 =>
  if (decide ((s77.length : Int) < 3)) then (zb6 s28 s45 s46 s77 true) else ((sAt s77 0).bind fun b81 =>
  if (!(b81 == 40)) then (zb6 s28 s45 s46 s77 true) else ((zcZ (s77.length : Int) 1).bind fun i83 =>
  (sAt s77 i83).bind fun b84 =>
  if (!(b84 == 41)) then (zb6 s28 s45 s46 s77 true) else ((zcZ (s77.length : Int) 1).bind fun i86 =>
  (zfH s77 1 i86).bind fun s87 =>
  (zfO s87).bind fun r88 =>
  zb6 s28 s45 s46 s77 (!r88))))))

def zbq (x_a0 : Str) (i18 : Int) (s28 : Str) (r32 : List Str) (s45 : Str) (s46 : Str) : Option (api_Via × Int) :=
  (zhV s28).bind fun r47 =>
  if (decide (2 < (r32.length : Int))) then (zP x_a0 i18 s28 s45 s46 true) else (if ((r32.length : Int) == 2) then ((zaA s45).bind fun r52 =>
  if (!r52) then (zP x_a0 i18 s28 s45 s46 true) else ((zaA s46).bind fun r54 =>
  if (!r54) then (zP x_a0 i18 s28 s45 s46 true) else (if (!(r47.2 == 0)) then ((zaA s28).bind fun r57 =>
  zP x_a0 i18 s28 s45 s46 (!r57)) else ((zfa s28).bind fun r58 =>
  if r58 then ((zaA s28).bind fun r60 =>
  zP x_a0 i18 s28 s45 s46 (!r60)) else (zP x_a0 i18 s28 s45 s46 false))))) else ((zaA s46).bind fun r61 =>
  if (!r61) then (zP x_a0 i18 s28 s45 s46 true) else (if (!(r47.2 == 0)) then ((zaA s28).bind fun r64 =>
  zP x_a0 i18 s28 s45 s46 (!r64)) else ((zfa s28).bind fun r65 =>
  if r65 then ((zaA s28).bind fun r67 =>
  zP x_a0 i18 s28 s45 s46 (!r67)) else (zP x_a0 i18 s28 s45 s46 false)))))

def zcW (rec3 : Int → Option (api_Via × Int)) (x_a0 : Str) (i4 : Int) (i18 : Int) (t21 : Bool) : Option (api_Via × Int) :=
  if t21 then ((zK i18 1).bind fun i24 =>
  rec3 i24) else ((sTo x_a0 i4).bind fun s26 =>
  (zK i4 1).bind fun i27 =>
  (zfH x_a0 i27 i18).bind fun s28 =>
  (sTo x_a0 i4).bind fun s31 =>
  (ze2 s31 47).bind fun r32 =>
  if ((r32.length : Int) == 2) then ((lAt r32 0).bind fun x38 =>
  (lAt r32 1).bind fun x42 =>
  zbq x_a0 i18 s28 r32 x38 x42) else (zbq x_a0 i18 s28 r32 [] s26))

def zaG (x_a0 : Str) (i4 : Int) : Nat → Int → Option (api_Via × Int)
  | 0, _ => none
  | n + 1, i18 =>
  if (decide (i18 < (x_a0.length : Int))) then ((sAt x_a0 i18).bind fun b20 =>
  zcW (zaG x_a0 i4 n) x_a0 i4 i18 (!(b20 == 32))) else (zcW (zaG x_a0 i4 n) x_a0 i4 i18 false)

def zfd (rec1 : Int → Option (api_Via × Int)) (x_a0 : Str) (i4 : Int) (t7 : Bool) : Option (api_Via × Int) :=
  if t7 then ((zK i4 1).bind fun i10 =>
  rec1 i10) else (if (i4 == (x_a0.length : Int)) then (some (((⟨[], [], [], []⟩ : api_Via), 2))) else ((zK i4 1).bind fun i16 =>
  zaG x_a0 i4 fuel i16))

def zbr (x_a0 : Str) : Nat → Int → Option (api_Via × Int)
  | 0, _ => none
  | n + 1, i4 =>
  if (decide (i4 < (x_a0.length : Int))) then ((sAt x_a0 i4).bind fun b6 =>
  zfd (zbr x_a0 n) x_a0 i4 (!(b6 == 32))) else (zfd (zbr x_a0 n) x_a0 i4 false)

def zhW (x_a0 : Str) : Option (api_Via × Int) :=
  zbr x_a0 fuel 0

def zfP (s16 : Str) (t21 : Bool) : Option (Str × Int) :=
  if t21 then (some ([], 2)) else (some (s16, 0))

def zez (x_v : api_Via) (s16 : Str) : Option (Str × Int) :=
  (zhW s16).bind fun r17 =>
  if (!(r17.2 == 0)) then (zfP s16 true) else (zfP s16 (!(r17.1 == x_v)))

def zeA (x_v : api_Via) (s10 : Str) : Option (Str × Int) :=
  if (!(x_v.Comment == [])) then ((zck s10 [32, 40]).bind fun s13 =>
  (zck s13 x_v.Comment).bind fun s14 =>
  (zck s14 [41]).bind fun s15 =>
  zez x_v s15) else (zez x_v s10)

def zht (x_v : api_Via) : Option (Str × Int) :=
  (zck x_v.Version [32]).bind fun s3 =>
  (zck s3 x_v.By).bind fun s4 =>
  if (!(x_v.Proto == [])) then ((zck x_v.Proto [47]).bind fun s8 =>
  (zck s8 s4).bind fun s9 =>
  zeA x_v s9) else (zeA x_v s4)

def zfQ (rec1 : Str → Int → Option Str) (x_l : List Str) (i5 : Int) (s12 : Str) : Option Str :=
  (lAt x_l i5).bind fun x13 =>
  (zck s12 x13).bind fun s16 =>
  (zK i5 1).bind fun i18 =>
  rec1 s16 i18

def zbV (x_sep : Str) (x_l : List Str) : Nat → Str → Int → Option Str
  | 0, _, _ => none
  | n + 1, s4, i5 =>
  if (decide (i5 < (x_l.length : Int))) then (if (decide (0 < i5)) then ((zck s4 x_sep).bind fun s11 =>
  zfQ (zbV x_sep x_l n) x_l i5 s11) else (zfQ (zbV x_sep x_l n) x_l i5 s4)) else (some s4)

def zi0 (x_sep : Str) (x_l : List Str) : Option Str :=
  zbV x_sep x_l fuel [] 0

def zg7 (t3 : Bool) : Option Bool :=
  some t3

def zgx (x_b : UInt8) : Option Bool :=
  if (x_b == 32) then (zg7 true) else (zg7 (x_b == 9))

def zcg (r6 : Str) : Nat → Str → Option Str
  | 0, _ => none
  | n + 1, s20 =>
  (zcZ (s20.length : Int) 1).bind fun i21 =>
  (sAt s20 i21).bind fun b22 =>
  (zgx b22).bind fun r23 =>
  if r23 then ((zcZ (s20.length : Int) 1).bind fun i27 =>
  (sTo s20 i27).bind fun s28 =>
  (zcg r6 n) s28) else ((zck s20 [44, 32]).bind fun s30 =>
  (zck s30 r6).bind fun s31 =>
  some s31)

def zej (rec1 : Str → Int → Option Str) (r6 : Str) (s9 : Str) (i10 : Int) (t18 : Bool) : Option Str :=
  if t18 then (zcg r6 fuel s9) else ((zK i10 1).bind fun i34 =>
  rec1 s9 i34)

def za2 (r6 : Str) : Nat → Str → Int → Option Str
  | 0, _, _ => none
  | n + 1, s9, i10 =>
  if (decide (i10 < (s9.length : Int))) then ((sAt s9 i10).bind fun b14 =>
  if (!(b14 == 44)) then ((sAt s9 i10).bind fun b16 =>
  (zgx b16).bind fun r17 =>
  zej (za2 r6 n) r6 s9 i10 (!r17)) else (zej (za2 r6 n) r6 s9 i10 false)) else (some r6)

def zg8 (x_s : Str) (x_l : List Str) : Option Str :=
  if ((x_l.length : Int) == 0) then (some x_s) else ((zi0 [44, 32] x_l).bind fun r6 =>
  za2 r6 fuel x_s 0)

def zek (rec1 : Int → Int → Option (List api_Field)) (i5 : Int) (i15 : Int) : Option (List api_Field) :=
  (zK i5 1).bind fun i16 =>
  rec1 i15 i16

def zel (rec3 : (List api_Field) → Int → Option (List api_Field)) (l22 : List api_Field) (i23 : Int) (x27 : api_Field) (s36 : Str) : Option (List api_Field) :=
  if zL l22.length 1 32 then ((zK i23 1).bind fun i42 =>
  rec3 (l22 ++ [(⟨x27.Name, s36⟩ : api_Field)]) i42) else none

def zem (l52 : List api_Field) : Option (List api_Field) :=
  some l52

def za3 (x_l : List api_Field) (x_name : Str) (x_s : Str) (i4 : Int) : Nat → (List api_Field) → Int → Option (List api_Field)
  | 0, _, _ => none
  | n + 1, l22, i23 =>
  if (decide (i23 < (x_l.length : Int))) then ((lAt x_l i23).bind fun x27 =>
  if (i23 == i4) then ((zg8 x27.Value ([x_s] : List Str)).bind fun r35 =>
  zel (za3 x_l x_name x_s i4 n) l22 i23 x27 r35) else (zel (za3 x_l x_name x_s i4 n) l22 i23 x27 x27.Value)) else (if (decide (i4 < 0)) then (if zL l22.length 1 32 then (zem (l22 ++ [(⟨x_name, x_s⟩ : api_Field)])) else none) else (zem l22))

def za4 (x_l : List api_Field) (x_name : Str) (x_s : Str) : Nat → Int → Int → Option (List api_Field)
  | 0, _, _ => none
  | n + 1, i4, i5 =>
  if (decide (i5 < (x_l.length : Int))) then ((lAt x_l i5).bind fun x9 =>
  (zj0 x9 x_name).bind fun r12 =>
  if r12 then (zek (za4 x_l x_name x_s n) i5 i5) else (zek (za4 x_l x_name x_s n) i5 i4)) else (za3 x_l x_name x_s i4 fuel [] 0)

def zbW (x_l : List api_Field) (x_name : Str) (x_s : Str) : Option (List api_Field) :=
  za4 x_l x_name x_s fuel (-1) 0

def zfR (l33 : List api_Param) : Option (List api_Param) :=
  some l33

def zfS (x_env : api_Env) (l24 : List api_Param) : Option (List api_Param) :=
  if (!(x_env.Scheme == [])) then (if zL l24.length 1 32 then (zfR (l24 ++ [(⟨[112, 114, 111, 116, 111], x_env.Scheme⟩ : api_Param)])) else none) else (zfR l24)

def zeB (x_env : api_Env) (s13 : Str) : Option (List api_Param) :=
  if (!(x_env.Host == [])) then (if zL (([(⟨[102, 111, 114], s13⟩ : api_Param)]).length) 1 32 then (zfS x_env (([(⟨[102, 111, 114], s13⟩ : api_Param)]) ++ [(⟨[104, 111, 115, 116], x_env.Host⟩ : api_Param)])) else none) else (zfS x_env ([(⟨[102, 111, 114], s13⟩ : api_Param)]))

def zeC (x_env : api_Env) (s9 : Str) : Option (List api_Param) :=
  (ze7 x_env.Client).bind fun r10 =>
  if r10 then (zeB x_env x_env.Client) else (zeB x_env s9)

def zi1 (x_env : api_Env) : Option (List api_Param) :=
  (zgw x_env.Client).bind fun r4 =>
  if r4 then ((zck [91] x_env.Client).bind fun s7 =>
  (zck s7 [93]).bind fun s8 =>
  zeC x_env s8) else (zeC x_env [117, 110, 107, 110, 111, 119, 110])

def zdR (rec1 : Str → Int → Option (Str × Int)) (x_s : Str) (i5 : Int) (s21 : Str) : Option (Str × Int) :=
  (zK i5 1).bind fun i22 =>
  (zfH x_s i5 i22).bind fun s23 =>
  (zck s21 s23).bind fun s24 =>
  (zK i5 1).bind fun i26 =>
  rec1 s24 i26

def zdS (rec1 : Str → Int → Option (Str × Int)) (x_s : Str) (s4 : Str) (i5 : Int) (t18 : Bool) : Option (Str × Int) :=
  if t18 then ((zck s4 [92]).bind fun s20 =>
  zdR rec1 x_s i5 s20) else (zdR rec1 x_s i5 s4)

def zal (x_s : Str) : Nat → Str → Int → Option (Str × Int)
  | 0, _, _ => none
  | n + 1, s4, i5 =>
  if (decide (i5 < (x_s.length : Int))) then ((sAt x_s i5).bind fun b9 =>
  (zfc b9).bind fun r10 =>
  if (!r10) then (some ([], 2)) else ((sAt x_s i5).bind fun b15 =>
  if (b15 == 34) then (zdS (zal x_s n) x_s s4 i5 true) else ((sAt x_s i5).bind fun b17 =>
  zdS (zal x_s n) x_s s4 i5 (b17 == 92)))) else ((zck s4 [34]).bind fun s28 =>
  some (s28, 0))

def zjn (x_s : Str) : Option (Str × Int) :=
  zal x_s fuel [34] 0

def zg9 (x_s : Str) : Option (Str × Int) :=
  (zaA x_s).bind fun r2 =>
  if r2 then (some (x_s, 0)) else ((zjn x_s).bind fun r7 =>
  some (r7.1, r7.2))

def zeD (rec1 : Str → Int → Option (Str × Int)) (x_l : List api_Param) (i5 : Int) (r12 : Str × Int) (s26 : Str) : Option (Str × Int) :=
  (lAt x_l i5).bind fun x27 =>
  (zck s26 x27.Name).bind fun s30 =>
  (zck s30 [61]).bind fun s31 =>
  (zck s31 r12.1).bind fun s32 =>
  (zK i5 1).bind fun i34 =>
  rec1 s32 i34

def zfT (rec1 : Str → Int → Option (Str × Int)) (x_l : List api_Param) (s4 : Str) (i5 : Int) (r12 : Str × Int) (t19 : Bool) : Option (Str × Int) :=
  if t19 then (some ([], 2)) else (if (decide (0 < i5)) then ((zck s4 [59]).bind fun s25 =>
  zeD rec1 x_l i5 r12 s25) else (zeD rec1 x_l i5 r12 s4))

def zaY (x_l : List api_Param) : Nat → Str → Int → Option (Str × Int)
  | 0, _, _ => none
  | n + 1, s4, i5 =>
  if (decide (i5 < (x_l.length : Int))) then ((lAt x_l i5).bind fun x9 =>
  (zg9 x9.Value).bind fun r12 =>
  if (!(r12.2 == 0)) then (zfT (zaY x_l n) x_l s4 i5 r12 true) else ((lAt x_l i5).bind fun x15 =>
  (zaA x15.Name).bind fun r18 =>
  zfT (zaY x_l n) x_l s4 i5 r12 (!r18))) else (if ((x_l.length : Int) == 0) then (some ([], 2)) else (some (s4, 0)))

def zku (x_l : List api_Param) : Option (Str × Int) :=
  zaY x_l fuel [] 0

def zha (x_client : Str) (t5 : Bool) : Option Str :=
  if t5 then (some x_client) else (some [117, 110, 107, 110, 111, 119, 110])

def zj8 (x_client : Str) : Option Str :=
  (ze7 x_client).bind fun r2 =>
  if r2 then (zha x_client true) else ((zgw x_client).bind fun r4 =>
  zha x_client r4)

def zhH (x_a2 : api_Head) (l45 : List api_Field) : Option (api_Head × Int) :=
  some (((⟨x_a2.Kind, x_a2.Method, x_a2.Target, x_a2.Code, x_a2.Reason, x_a2.Minor, l45⟩ : api_Head), 0))

def zbX (x_a0 : api_Env) (x_a1 : Int) (x_a2 : api_Head) (t9 : Bool) : Option (api_Head × Int) :=
  if t9 then (some (((⟨0, [], [], 0, [], 0, []⟩ : api_Head), 1))) else ((lAt ([[49, 46, 48], [49, 46, 49]] : List Str) x_a1).bind fun s13 =>
  (zht (⟨[], s13, x_a0.By, []⟩ : api_Via)).bind fun r14 =>
  if (!(r14.2 == 0)) then (some (((⟨0, [], [], 0, [], 0, []⟩ : api_Head), r14.2))) else ((zbW x_a2.Fields [86, 105, 97] r14.1).bind fun r20 =>
  if (x_a2.Kind == 1) then ((zi1 x_a0).bind fun r26 =>
  (zku r26).bind fun r29 =>
  if (!(r29.2 == 0)) then (some (((⟨0, [], [], 0, [], 0, []⟩ : api_Head), r29.2))) else ((zbW r20 [70, 111, 114, 119, 97, 114, 100, 101, 100] r29.1).bind fun r35 =>
  (zj8 x_a0.Client).bind fun r39 =>
  (zbW r35 [88, 45, 70, 111, 114, 119, 97, 114, 100, 101, 100, 45, 70, 111, 114] r39).bind fun r40 =>
  zhH x_a2 r40)) else (zhH x_a2 r20)))

def zgj (x_a0 : api_Env) (x_a1 : Int) (x_a2 : api_Head) : Option (api_Head × Int) :=
  if (!(x_a2.Kind == 1)) then (if (!(x_a2.Kind == 2)) then (zbX x_a0 x_a1 x_a2 true) else (if (!(x_a1 == 0)) then (zbX x_a0 x_a1 x_a2 (!(x_a1 == 1))) else (zbX x_a0 x_a1 x_a2 false))) else (if (!(x_a1 == 0)) then (zbX x_a0 x_a1 x_a2 (!(x_a1 == 1))) else (zbX x_a0 x_a1 x_a2 false))

def zbY (t9 : Bool) : Option Bool :=
  some t9

def zkv (x_a : api_Head) (x_b : api_Head) : Option Bool :=
  if (x_a.Kind == x_b.Kind) then (if (x_a.Method == x_b.Method) then (if (x_a.Target == x_b.Target) then (if (x_a.Minor == x_b.Minor) then (if (x_a.Code == x_b.Code) then (zbY (x_a.Reason == x_b.Reason)) else (zbY false)) else (zbY false)) else (zbY false)) else (zbY false)) else (zbY false)

def zcD (x_a : List api_Field) (x_b : List api_Field) : Nat → Int → Option Bool
  | 0, _ => none
  | n + 1, i7 =>
  if (decide (i7 < (x_a.length : Int))) then ((lAt x_a i7).bind fun x11 =>
  (lAt x_b i7).bind fun x14 =>
  if (!(x11 == x14)) then (some false) else ((zK i7 1).bind fun i21 =>
  (zcD x_a x_b n) i21)) else (some true)

def zi2 (x_a : List api_Field) (x_b : List api_Field) : Option Bool :=
  if (!((x_a.length : Int) == (x_b.length : Int))) then (some false) else (zcD x_a x_b fuel 0)

def zfU (t7 : Bool) : Option Bool :=
  some t7

def zi3 (x_a : api_Head) (x_b : api_Head) : Option Bool :=
  (zkv x_a x_b).bind fun r4 =>
  if r4 then ((zi2 x_a.Fields x_b.Fields).bind fun r6 =>
  zfU r6) else (zfU false)

def zdz (t30 : Bool) : Option Bool :=
  some t30

def zfA (x_env : api_Env) (x_minor : Int) (x_h : api_Head) : Option Bool :=
  (zjm).bind fun r4 =>
  if (!r4) then (some false) else ((zj2 x_env).bind fun r9 =>
  (zj3 x_h).bind fun r14 =>
  (ze0 r9 x_minor r14).bind fun r18 =>
  (zgj r9 x_minor r14).bind fun r23 =>
  (zi3 r18.1 r23.1).bind fun r28 =>
  if r28 then (zdz (r18.2 == r23.2)) else (zdz false))

end Go.Dm
end
section
namespace Go.Dm
theorem zp1 (b : Bool) (v : Int) (k : Nat) (h : -1 ≤ v) : (if b = true then (k : Int) else if v = -1 then -1 else v + ((k + 1 : Nat) : Int)) =
    if (if b = true then 0 else if (v == -1) = true then -1 else v + 1) = -1 then -1 else (if b = true then 0 else if (v == -1) = true then -1 else v + 1) + (k : Int) := by
  cases b with
  | true => simp
  | false =>
    by_cases hm : v = -1
    · subst hm; simp
    · have h2 : ¬ (v + 1 = -1) := by omega
      have h3 : (v == -1) = false := beq_eq_false_iff_ne.2 hm
      rw [h3]
      simp only [Bool.false_eq_true, if_false, if_neg hm, if_neg h2]
      omega
theorem zol : ∀ (l : Str) (c : UInt8) (k : Nat), zm9 l c k = if Go.Lib.indexByte l c = -1 then -1 else Go.Lib.indexByte l c + k
  | [], _, _ => rfl
  | x :: l, c, k => by
    rw [zm9, Go.Lib.indexByte, zol l c (k + 1)]
    exact zp1 _ _ k (Go.Lib.indexByte_ge l c)
theorem znm (x y : UInt8) : (x == y) = (y == x) := by
  by_cases h : x = y
  · subst h; rfl
  · rw [beq_eq_false_iff_ne.2 h, beq_eq_false_iff_ne.2 (Ne.symm h)]
theorem zp2 : ∀ (s t : Str), zmA s t = t.isPrefixOf s
  | s, [] => by cases s <;> rfl
  | [], y :: t => rfl
  | x :: s, y :: t => by
    rw [zmA, List.isPrefixOf, zp2 s t, znm x y]
theorem zp3 : ∀ (l t : Str) (k : Nat), zh3 l t k = if Go.Lib.index l t = -1 then -1 else Go.Lib.index l t + k
  | [], t, k => by
    rw [zh3, Go.Lib.index]
    cases t <;> simp [zmA]
  | x :: l, t, k => by
    rw [zh3, Go.Lib.index, zp2]
    simp only [zp3 l t (k + 1)]
    exact zp1 _ _ k (Go.Lib.index_ge l t)
theorem zp4 : ∀ (l cs : Str) (k : Nat), zlj l cs k = if Go.Lib.indexAny l cs = -1 then -1 else Go.Lib.indexAny l cs + k
  | [], _, _ => rfl
  | x :: l, cs, k => by
    rw [zlj, Go.Lib.indexAny, zp4 l cs (k + 1)]
    exact zp1 _ _ k (Go.Lib.indexAny_ge cs l)
theorem ztr (l : Str) (c : UInt8) : zm9 l c 0 = Go.Lib.indexByte l c := by
  rw [zol]; have := Go.Lib.indexByte_ge l c; split <;> omega
theorem zp5 (l t : Str) : zh3 l t 0 = Go.Lib.index l t := by
  rw [zp3]; have := Go.Lib.index_ge l t; split <;> omega
theorem zt5 (l cs : Str) : zlj l cs 0 = Go.Lib.indexAny l cs := by
  rw [zp4]; have := Go.Lib.indexAny_ge cs l; split <;> omega
end Go.Dm
end
section
namespace Go.Dm
@[simp] theorem zaq (l : Str) (i : Nat) : sAt l (i : Int) = l[i]? := by simp [sAt]
@[simp] theorem zr9 (l : Str) : sAt l 0 = l[0]? := by simp [sAt]
@[simp] theorem sAt_one (l : Str) : sAt l 1 = l[1]? := by simp [sAt]
@[simp] theorem sAt_two (l : Str) : sAt l 2 = l[2]? := by simp [sAt]
@[simp] theorem zdw {α : Type} (l : List α) (i : Nat) : lAt l (i : Int) = l[i]? := by simp [lAt]
@[simp] theorem zvm {α : Type} (l : List α) : lAt l 0 = l[0]? := by simp [lAt]
theorem zhw {m n : Int} (h1 : -9223372036854775808 ≤ m + n) (h2 : m + n ≤ 9223372036854775807) : zK m n = some (m + n) := by simp [zK, inI, h1, h2]
theorem zcm {m n : Int} (h1 : -9223372036854775808 ≤ m - n) (h2 : m - n ≤ 9223372036854775807) : zcZ m n = some (m - n) := by simp [zcZ, inI, h1, h2]
theorem zt7 {m n : Int} (h1 : -9223372036854775808 ≤ m * n) (h2 : m * n ≤ 9223372036854775807) : zrG m n = some (m * n) := by simp [zrG, inI, h1, h2]
theorem zA {i : Nat} (h : i < 4611686018427387904) : zK (i : Int) 1 = some ((i + 1 : Nat) : Int) := by
  rw [zhw (by omega) (by omega)]; simp
theorem zvn {i k : Nat} (h : i + k < 4611686018427387904) : zK (i : Int) (k : Int) = some ((i + k : Nat) : Int) := by
  rw [zhw (by omega) (by omega)]; simp
theorem zi9 {l : Str} {h : Nat} (hh : h ≤ l.length) : sTo l (h : Int) = some (l.take h) := by simp [sTo, hh]
theorem zc1 {l : Str} {i : Nat} (hh : i ≤ l.length) : zdW l (i : Int) = some (l.drop i) := by simp [zdW, hh]
theorem zeK {l : Str} {i h : Nat} (h1 : i ≤ h) (h2 : h ≤ l.length) : zfH l (i : Int) (h : Int) = some ((l.take h).drop i) := by simp [zfH, h1, h2]
theorem zam {l m : Str} (h : l.length + m.length ≤ 9223372036854775807) : zck l m = some (l ++ m) := by simp [zck, h]
theorem zt8 {n : Nat} (h : n < 1000000000000000000) : n < fuel := h

theorem zqJ {α β : Type} (l : List α) (L : Nat → Int → Option β) (F : α → Option β → Option β) (E : Option β)
    (hE : ∀ n, L (n + 1) (l.length : Int) = E) (hL : ∀ n (i : Nat) x, i < l.length → l[i]? = some x → L (n + 1) (i : Int) = F x (L n ((i + 1 : Nat) : Int))) :
    ∀ (n i : Nat), i ≤ l.length → l.length - i < n → L n (i : Int) = (l.drop i).foldr F E
  | 0, _, _, h => by omega
  | n + 1, i, hi, h => by
    by_cases hlt : i < l.length
    · rw [hL n i _ hlt (List.getElem?_eq_getElem hlt), zqJ l L F E hE hL n (i + 1) (by omega) (by omega), List.drop_eq_getElem_cons hlt]
      rfl
    · have : i = l.length := by omega
      subst this
      rw [hE, List.drop_length]
      rfl
theorem zke {α β : Type} (l : List α) (L : Nat → Int → Option β) (F : α → Option β → Option β) (E : Option β) (hl : l.length < 1000000000000000000)
    (hE : ∀ n, L (n + 1) (l.length : Int) = E) (hL : ∀ n (i : Nat) x, i < l.length → l[i]? = some x → L (n + 1) (i : Int) = F x (L n ((i + 1 : Nat) : Int))) : L fuel 0 = l.foldr F E := by
  have := zqJ l L F E hE hL fuel 0 (Nat.zero_le _) (zt8 (by omega))
  simpa using this
theorem zcn {n m b : Nat} (h : (n + m) * b ≤ 140737488355328) (h2 : n + m ≤ 140737488355328) : zL n m b = true := by
  simp only [zL, Bool.and_eq_true, decide_eq_true_eq]; exact ⟨by omega, h⟩

theorem za9 (p : UInt8 → Bool) (h : (List.range 256).all (fun n => p (UInt8.ofNat n)) = true) (b : UInt8) : p b = true := by
  have := List.all_eq_true.1 h b.toNat (by simpa using b.toNat_lt)
  simpa using this
theorem zuC {α : Type} (p : α → Bool) (l : List α) : l.foldr (fun x r => if p x = true then r else some false) (some true) = some (l.all p) := by
  induction l with
  | nil => rfl
  | cons x l ih => simp only [List.foldr_cons, ih, List.all_cons]; cases p x <;> simp
theorem zmK (s : Str) (k : Nat) : sTo s (min (s.length : Int) (k : Int)) = some (s.take k) := by
  have e : min (s.length : Int) (k : Int) = ((min s.length k : Nat) : Int) := by omega
  rw [e, zi9 (Nat.min_le_left _ _)]
  congr 1
  rcases Nat.le_total s.length k with h | h
  · rw [Nat.min_eq_left h, List.take_length, List.take_of_length_le h]
  · rw [Nat.min_eq_right h]
end Go.Dm
end
section
namespace Go.Dm
def zhk (b : UInt8) : Bool := decide (48 ≤ b) && decide (b ≤ 57)
def zhl (b : UInt8) : UInt8 := if 65 ≤ b ∧ b ≤ 90 then b + 32 else b
def zvY (b : UInt8) : Bool := decide (97 ≤ zhl b) && decide (zhl b ≤ 122)
def zin (b : UInt8) : Bool := zhk b || decide (97 ≤ zhl b) && decide (zhl b ≤ 102)
def zkm (b : UInt8) : Bool := zvY b || zhk b || ([45, 46, 95, 126] : Str).contains b
def zrM (b : UInt8) : Bool := ([33, 36, 38, 39, 40, 41, 42, 43, 44, 59, 61] : Str).contains b
theorem zpA (b : UInt8) : zaS b = some (zhl b) :=
  of_decide_eq_true (za9 (fun b => decide (zaS b = some (zhl b))) (by decide +kernel) b)
theorem znI (b : UInt8) : zaK b = some (zhk b) :=
  of_decide_eq_true (za9 (fun b => decide (zaK b = some (zhk b))) (by decide +kernel) b)
theorem zlh (b : UInt8) : zby b = some (zin b) :=
  of_decide_eq_true (za9 (fun b => decide (zby b = some (zin b))) (by decide +kernel) b)
theorem zm6 (b : UInt8) : zhs b = some (zin b) :=
  of_decide_eq_true (za9 (fun b => decide (zhs b = some (zin b))) (by decide +kernel) b)
theorem zet {p : UInt8 → Bool} {f : UInt8 → Option Bool} (hf : ∀ b, f b = some (p b)) (s : Str) (hs : s.length < 1000000000) : zbI f [s] = some (s.all p) := by
  unfold zbI
  have h2 : ∀ (rec1 : Int → Option Bool) (i : Int), zcp rec1 f i s fuel 0 = s.foldr (fun x r => if p x = true then r else some false) ((zK i 1).bind rec1) := by
    intro rec1 i
    refine zke s (zcp rec1 f i s) _ _ (by omega) ?_ ?_
    · intro n; rw [zcp]; simp only [Int.lt_irrefl, decide_false, Bool.false_eq_true, if_false]
    · intro n k x hk hx
      rw [zcp]
      simp only [Int.ofNat_lt, hk, decide_true, if_true, zaq, hx, Option.bind_some, hf, zA (show k < 4611686018427387904 by omega)]
      cases p x <;> rfl
  rw [zke [s] (zcq f [s]) (fun x r => x.foldr (fun x r => if p x = true then r else some false) r) (some true) (by simp)]
  · simp only [List.foldr_cons, List.foldr_nil]
    exact zuC p s
  · intro n; rw [zcq]; simp only [Int.lt_irrefl, decide_false, Bool.false_eq_true, if_false]
  · intro n i x hi hx
    have hi0 : i = 0 := by simp at hi; exact hi
    subst hi0
    simp at hx; subst hx
    rw [zcq]
    simp [h2, zhw]
def zbe (b : UInt8) : Bool := zvY b || zhk b || ([33, 35, 36, 37, 38, 39, 42, 43, 45, 46, 94, 95, 96, 124, 126] : Str).contains b
def zkL (b : UInt8) : Bool := decide (32 ≤ b) && !(b == 127) || b == 9
theorem zjW (b : UInt8) : zcy b = some (zbe b) :=
  of_decide_eq_true (za9 (fun b => decide (zcy b = some (zbe b))) (by decide +kernel) b)
theorem zjX (b : UInt8) : zaJ b = some (zkL b) :=
  of_decide_eq_true (za9 (fun b => decide (zaJ b = some (zkL b))) (by decide +kernel) b)
theorem zkM (b : UInt8) : zbK b = some (zkm b) :=
  of_decide_eq_true (za9 (fun b => decide (zbK b = some (zkm b))) (by decide +kernel) b)
theorem zpB (b : UInt8) : zgo b = some (zrM b) :=
  of_decide_eq_true (za9 (fun b => decide (zgo b = some (zrM b))) (by decide +kernel) b)
theorem zrN (b : UInt8) : zj7 b = some (zbe b) :=
  of_decide_eq_true (za9 (fun b => decide (zj7 b = some (zbe b))) (by decide +kernel) b)
theorem ziP (b : UInt8) : zfc b = some (zkL b) :=
  of_decide_eq_true (za9 (fun b => decide (zfc b = some (zkL b))) (by decide +kernel) b)
theorem zlV (b : UInt8) : zdN b = some (zkm b) :=
  of_decide_eq_true (za9 (fun b => decide (zdN b = some (zkm b))) (by decide +kernel) b)
theorem zrO (b : UInt8) : zj5 b = some (zrM b) :=
  of_decide_eq_true (za9 (fun b => decide (zj5 b = some (zrM b))) (by decide +kernel) b)
theorem zme {α : Type} (p : α → Bool) (l : List α) (e : Bool) : l.foldr (fun x r => if p x = true then r else some false) (some e) = some (l.all p && e) := by
  induction l with
  | nil => simp
  | cons x l ih => simp only [List.foldr_cons, ih, List.all_cons]; cases p x <;> simp
def zbZ (s : Str) : Bool := s.all zbe && !(s == [])
theorem zeO (s : Str) (hs : s.length < 1000000000) : zaA s = some (zbZ s) := by
  unfold zaA
  rw [zke s (zb5 s) (fun x r => if zbe x = true then r else some false) (some (!(s == []))) (by omega)]
  · rw [zme]; rfl
  · intro n; rw [zb5]; simp only [Int.lt_irrefl, decide_false, Bool.false_eq_true, if_false]
    cases s <;> simp
  · intro n i x hi hx
    rw [zb5]
    simp only [Int.ofNat_lt, hi, decide_true, if_true, zaq, hx, Option.bind_some, zrN, zA (show i < 4611686018427387904 by omega)]
    cases zbe x <;> rfl
theorem ziQ (s : Str) (hs : s.length < 1000000000) : zdX s = some (zbZ s) := by
  unfold zdX zbZ
  rw [zet zjW s hs]
  cases s <;> simp [zeR]
end Go.Dm
end
section
namespace Go.Dm
def zba (b : Nat) (l : List Nat) : Nat := l.foldl (fun n d => n * b + d) 0
theorem zqM (b : Nat) (l : List Nat) : ∀ n, l.foldl (fun n d => n * b + d) n = n * b ^ l.length + zba b l := by
  unfold zba
  induction l with
  | nil => intro n; simp
  | cons x l ih =>
    intro n
    rw [List.foldl_cons, ih, List.foldl_cons, ih (0 * b + x), List.length_cons, Nat.pow_succ, Nat.add_mul, Nat.zero_mul, Nat.zero_add, Nat.mul_assoc, Nat.mul_comm b, Nat.add_assoc]
theorem zvo (b : Nat) : zba b [] = 0 := rfl
theorem ziy (b x : Nat) (l : List Nat) : zba b (x :: l) = x * b ^ l.length + zba b l := by
  have := zqM b l (0 * b + x)
  rw [Nat.zero_mul, Nat.zero_add] at this
  rw [← this]; unfold zba; rw [List.foldl_cons, Nat.zero_mul, Nat.zero_add]
theorem znq (b x : Nat) (l : List Nat) : zba b (l ++ [x]) = zba b l * b + x := by
  unfold zba; rw [List.foldl_append]; rfl
theorem zoM {b : Nat} (hb : 0 < b) : ∀ {l : List Nat}, (∀ d ∈ l, d < b) → zba b l < b ^ l.length
  | [], _ => by simp [zba]
  | x :: l, h => by
    have h1 := h x (List.mem_cons_self ..)
    have h2 := zoM hb (l := l) fun d hd => h d (List.mem_cons_of_mem _ hd)
    rw [ziy, List.length_cons, Nat.pow_succ]
    have : (x + 1) * b ^ l.length ≤ b * b ^ l.length := Nat.mul_le_mul_right _ h1
    rw [Nat.add_mul, Nat.one_mul] at this
    rw [Nat.mul_comm (b ^ l.length) b]; omega
def zja (b : Nat) : Nat → Nat → List Nat
  | 0, n => [n % b]
  | k + 1, n => if n < b then [n] else zja b k (n / b) ++ [n % b]
def zhd (b n : Nat) : List Nat := zja b 70 n
theorem zmp {b n k : Nat} (hb : 2 ≤ b) (h : n < 2 ^ (k + 1)) : n / b < 2 ^ k := by
  rw [Nat.div_lt_iff_lt_mul (by omega)]
  calc n < 2 ^ (k + 1) := h
    _ = 2 ^ k * 2 := Nat.pow_succ ..
    _ ≤ 2 ^ k * b := Nat.mul_le_mul_left _ hb
theorem zmq {b : Nat} (hb : 2 ≤ b) : ∀ (k m n : Nat), k ≤ m → n < 2 ^ (k + 1) → zja b m n = zja b k n
  | 0, 0, n, _, _ => rfl
  | 0, m + 1, n, _, h => by
    have hn : n < b := by have : n < 2 := by simpa using h
                          omega
    show zja b (m + 1) n = [n % b]
    rw [zja, if_pos hn, Nat.mod_eq_of_lt hn]
  | k + 1, 0, n, h, _ => by omega
  | k + 1, m + 1, n, hm, h => by
    rw [zja, zja]
    split
    · rfl
    · rw [zmq hb k m (n / b) (by omega) (zmp hb h)]
theorem zjJ {b n : Nat} (hb : 2 ≤ b) (hn : b ≤ n) (h : n < 2 ^ 64) : zhd b n = zhd b (n / b) ++ [n % b] := by
  have h1 := zmq hb 64 70 n (by decide) (Nat.lt_of_lt_of_le h (Nat.pow_le_pow_right (by decide) (by decide)))
  have h2 := zmq hb 63 70 (n / b) (by decide) (zmp hb (Nat.lt_of_lt_of_le h (Nat.pow_le_pow_right (by decide) (by decide))))
  unfold zhd
  rw [h1, h2, zja, if_neg (by omega)]
theorem zd2 {b n : Nat} (hn : n < b) : zhd b n = [n] := by unfold zhd; rw [zja, if_pos hn]
theorem zmO {b : Nat} (hb : 2 ≤ b) {P : Nat → Prop} (h0 : ∀ n, n < b → P n) (h1 : ∀ n, b ≤ n → n < 2 ^ 64 → P (n / b) → P n) : ∀ n, n < 2 ^ 64 → P n := by
  intro n
  induction n using Nat.strongRecOn with
  | _ n ih =>
    intro hn
    by_cases h : n < b
    · exact h0 n h
    · have : n / b < n := Nat.div_lt_self (by omega) (by omega)
      exact h1 n (by omega) hn (ih _ this (by omega))
theorem zsc {b : Nat} (hb : 2 ≤ b) : ∀ n, n < 2 ^ 64 → zba b (zhd b n) = n :=
  zmO hb (fun n h => by rw [zd2 h]; simp [zba]) fun n h hn ih => by
    rw [zjJ hb h hn, znq, ih, Nat.mul_comm]; exact Nat.div_add_mod n b
theorem zwK {b : Nat} (hb : 2 ≤ b) : ∀ n, n < 2 ^ 64 → ∀ d ∈ zhd b n, d < b :=
  zmO hb (fun n h d hd => by rw [zd2 h] at hd; simp at hd; omega) fun n h hn ih d hd => by
    rw [zjJ hb h hn] at hd
    rcases List.mem_append.1 hd with hd | hd
    · exact ih d hd
    · simp at hd; subst hd; exact Nat.mod_lt _ (by omega)
theorem zrk {b n : Nat} : zhd b n ≠ [] := by
  unfold zhd; rw [zja]; split <;> simp
theorem zqN {b : Nat} (hb : 2 ≤ b) : ∀ n, n < 2 ^ 64 → n = 0 ∨ (zhd b n).head? ≠ some 0 :=
  zmO hb (fun n h => by
    rw [zd2 h]; by_cases e : n = 0
    · exact .inl e
    · exact .inr (by simpa using e)) fun n h hn ih => by
    right
    rw [zjJ hb h hn]
    rcases ih with h0 | h0
    · have : b ≤ n := h
      have : 0 < n / b := Nat.div_pos h (by omega)
      omega
    · cases hd : zhd b (n / b) with
      | nil => exact absurd hd zrk
      | cons x l => rw [hd] at h0; simpa using h0
theorem zvp {b : Nat} (hb : 2 ≤ b) : ∀ n, n < 2 ^ 64 → (zhd b n).length ≤ 71 := by
  have : ∀ k n, (zja b k n).length ≤ k + 1 := by
    intro k
    induction k with
    | zero => intro n; simp [zja]
    | succ k ih => intro n; rw [zja]; split
                   · simp
                   · simp; exact ih _
  intro n _; exact this 70 n
def zoY : List Nat → List Nat → Bool
  | _, [] => false
  | [], _ :: _ => true
  | x :: l, y :: m => decide (x < y) || (x == y && zoY l m)
theorem zt9 {b : Nat} (hb : 0 < b) : ∀ (l m : List Nat), l.length = m.length → (∀ d ∈ l, d < b) → (∀ d ∈ m, d < b) → zoY l m = decide (zba b l < zba b m)
  | [], [], _, _, _ => by simp [zoY]
  | [], _ :: _, h, _, _ => by simp at h
  | _ :: _, [], h, _, _ => by simp at h
  | x :: l, y :: m, h, hl, hm => by
    have e : l.length = m.length := by simpa using h
    have h1 := zoM hb (l := l) fun d hd => hl d (List.mem_cons_of_mem _ hd)
    have h2 := zoM hb (l := m) fun d hd => hm d (List.mem_cons_of_mem _ hd)
    rw [zoY, zt9 hb l m e (fun d hd => hl d (List.mem_cons_of_mem _ hd)) (fun d hd => hm d (List.mem_cons_of_mem _ hd)), ziy, ziy, e]
    rw [e] at h1
    rcases Nat.lt_trichotomy x y with hxy | hxy | hxy
    · have : (x + 1) * b ^ m.length ≤ y * b ^ m.length := Nat.mul_le_mul_right _ hxy
      rw [Nat.add_mul, Nat.one_mul] at this
      have h3 : x * b ^ m.length + zba b l < y * b ^ m.length + zba b m := by omega
      simp [hxy, h3]
    · subst hxy; simp
    · have : (y + 1) * b ^ m.length ≤ x * b ^ m.length := Nat.mul_le_mul_right _ hxy
      rw [Nat.add_mul, Nat.one_mul] at this
      have h3 : ¬ x * b ^ m.length + zba b l < y * b ^ m.length + zba b m := by omega
      have h4 : ¬ x < y := by omega
      have h5 : (x == y) = false := beq_eq_false_iff_ne.2 (by omega)
      simp [h3, h4, h5]
def dch (d : Nat) : UInt8 := if d < 10 then UInt8.ofNat (48 + d) else UInt8.ofNat (87 + d)
def zC (l : List Nat) : Str := l.map dch
def wor (c : UInt8) : Nat := if zhk c then (c - 48).toNat else (zhl c - 97).toNat + 10
def zkF (b : Nat) (c : UInt8) : Bool := if b = 10 then zhk c else zin c
theorem zuG : ∀ d : Nat, d < 16 → (wor (dch d) = d ∧ zin (dch d) = true ∧ (d < 10 → zhk (dch d) = true)) := by decide
theorem dch_lt : ∀ d : Nat, d < 16 → ∀ e : Nat, e < 16 → (decide (dch d < dch e) = decide (d < e) ∧ (dch d == dch e) = (d == e)) := by decide
theorem zn3 : ∀ (l m : List Nat), (∀ d ∈ l, d < 16) → (∀ d ∈ m, d < 16) → zn8 (zC l) (zC m) = zoY l m
  | [], [], _, _ => rfl
  | [], _ :: _, _, _ => rfl
  | _ :: _, [], _, _ => rfl
  | x :: l, y :: m, hl, hm => by
    have ih := zn3 l m (fun d hd => hl d (List.mem_cons_of_mem _ hd)) (fun d hd => hm d (List.mem_cons_of_mem _ hd))
    obtain ⟨h1, h2⟩ := dch_lt x (hl x (List.mem_cons_self ..)) y (hm y (List.mem_cons_self ..))
    show (decide (dch x < dch y) || (dch x == dch y && zn8 (zC l) (zC m))) = _
    rw [h1, h2, ih, zoY]
theorem znr (b : UInt8) : zfJ b = some (wor b : Int) :=
  of_decide_eq_true (za9 (fun b => decide (zfJ b = some (wor b : Int))) (by decide +kernel) b)
theorem zvq (c : UInt8) : (zhk c = true → wor c < 10) ∧ (zin c = true → wor c < 16) :=
  of_decide_eq_true (za9 (fun c => decide ((zhk c = true → wor c < 10) ∧ (zin c = true → wor c < 16))) (by decide +kernel) c)
theorem zoZ (c : UInt8) (b : Int) (n : Nat) {i : Int} (hn : n ≤ fuel) (h : (zO c b n i).isSome = true) : zO c b fuel i = zO c b n i := by
  obtain ⟨k, hk⟩ : ∃ k, fuel = n + k := ⟨fuel - n, by omega⟩
  rw [hk]
  clear hk hn
  induction n generalizing i with
  | zero => simp [zO] at h
  | succ n ih =>
    rw [Nat.add_right_comm, zO, zO]
    rw [zO] at h
    split
    · rename_i hlt
      rw [if_pos hlt] at h
      cases hs : sAt [48, 49, 50, 51, 52, 53, 54, 55, 56, 57, 97, 98, 99, 100, 101, 102] i with
      | none => rfl
      | some x =>
        rw [hs] at h
        simp only [Option.bind_some] at h ⊢
        split
        · rfl
        · rename_i hne
          rw [if_neg hne] at h
          cases hs2 : sAt [48, 49, 50, 51, 52, 53, 54, 55, 56, 57, 65, 66, 67, 68, 69, 70] i with
          | none => rfl
          | some y =>
            rw [hs2] at h
            simp only [Option.bind_some, ze3] at h ⊢
            split
            · rfl
            · rename_i hne2
              rw [if_neg hne2] at h
              cases hi : zK i 1 with
              | none => rfl
              | some j => rw [hi] at h; exact ih h
    · rfl
theorem zo0 (c : UInt8) : zdn c 10 = some (if zhk c then (wor c : Int) else -1) := by
  have h1 : zO c 10 20 0 = some (if zhk c then (wor c : Int) else -1) := of_decide_eq_true (za9 (fun c => decide (zO c 10 20 0 = some (if zhk c then (wor c : Int) else -1))) (by decide +kernel) c)
  unfold zdn
  rw [← h1]
  exact zoZ c 10 20 (by decide) (by rw [h1]; rfl)
theorem zo1 (c : UInt8) : zdn c 16 = some (if zin c then (wor c : Int) else -1) := by
  have h1 : zO c 16 20 0 = some (if zin c then (wor c : Int) else -1) := of_decide_eq_true (za9 (fun c => decide (zO c 16 20 0 = some (if zin c then (wor c : Int) else -1))) (by decide +kernel) c)
  unfold zdn
  rw [← h1]
  exact zoZ c 16 20 (by decide) (by rw [h1]; rfl)
def zhg (b : Nat) : Prop := b = 10 ∨ b = 16
theorem zhg.two {b : Nat} (h : zhg b) : 2 ≤ b ∧ b ≤ 16 := by rcases h with rfl | rfl <;> omega
theorem zkV {b : Nat} (hb : zhg b) (c : UInt8) : zdn c (b : Int) = some (if zkF b c then (wor c : Int) else -1) := by
  rcases hb with rfl | rfl
  · exact zo0 c
  · exact zo1 c
theorem zo2 {b : Nat} (hb : zhg b) {c : UInt8} (h : zkF b c = true) : wor c < b := by
  rcases hb with rfl | rfl
  · exact (zvq c).1 h
  · exact (zvq c).2 h
theorem zo3 : ∀ d : Nat, d < 16 → zfH [48, 49, 50, 51, 52, 53, 54, 55, 56, 57, 97, 98, 99, 100, 101, 102] (d : Int) ((d + 1 : Nat) : Int) = some [dch d] := by decide
theorem zsd {b : Nat} (hb : zhg b) : ∀ (k m n : Nat), k ≤ m → n < 2 ^ (k + 1) → k < 63 → zb3 (m + 1) (n : Int) (b : Int) = some (zC (zhd b n)) := by
  obtain ⟨h2, h16⟩ := hb.two
  intro k
  induction k with
  | zero =>
    intro m n _ h _
    have hn : n < b := by have : n < 2 := by simpa using h
                          omega
    rw [zb3, zd2 hn]
    simp only [Int.ofNat_lt, hn, decide_true, if_true, zA (show n < 4611686018427387904 by omega), Option.bind_some, zo3 n (by omega)]
    rfl
  | succ k ih =>
    intro m n hm h hk
    obtain ⟨m, rfl⟩ : ∃ j, m = j + 1 := ⟨m - 1, by omega⟩
    have hbig : n < 2 ^ 64 := Nat.lt_of_lt_of_le h (Nat.pow_le_pow_right (by decide) (by omega))
    have hq : ∀ q : Nat, q ≤ n → inI (q : Int) = true := fun q hq => zje.2 (by
      have : n < 2 ^ 63 := Nat.lt_of_lt_of_le h (Nat.pow_le_pow_right (by decide) (by omega))
      omega)
    rw [zb3]
    by_cases hn : n < b
    · rw [zd2 hn]
      simp only [Int.ofNat_lt, hn, decide_true, if_true, zA (show n < 4611686018427387904 by omega), Option.bind_some, zo3 n (by omega)]
      rfl
    · have e1 : zrH (n : Int) (b : Int) = some ((n / b : Nat) : Int) := by
        unfold zrH
        rw [if_pos ⟨by omega, by omega, by rw [← Int.natCast_ediv]; exact hq _ (Nat.div_le_self n b)⟩, Int.natCast_ediv]
      have e2 : ztK (n : Int) (b : Int) = some ((n % b : Nat) : Int) := by
        unfold ztK
        rw [if_pos ⟨by omega, by omega, by rw [← Int.natCast_emod]; exact hq _ (Nat.mod_le n b)⟩, Int.natCast_emod]
      have hlt : n % b < b := Nat.mod_lt _ (by omega)
      have hlen := zvp h2 (n / b) (by have := Nat.div_le_self n b; omega)
      have hn' : ¬ decide ((n : Int) < (b : Int)) = true := by simp; omega
      have e3 := ih m (n / b) (by omega) (zmp h2 h) (by omega)
      have e4 := zo3 (n % b) (by omega)
      have e5 := zA (i := n % b) (by omega)
      have e6 := zjJ h2 (show b ≤ n by omega) hbig
      generalize n / b = q at *
      generalize n % b = r at *
      have e7 : zck (zC (zhd b q)) [dch r] = some (zC (zhd b q) ++ [dch r]) := zam (by simp [zC]; omega)
      rw [if_neg hn', e1, Option.bind_some, e3, Option.bind_some, e2, Option.bind_some, Option.bind_some, e5, Option.bind_some, e4, Option.bind_some, e7, Option.bind_some, e6]
      simp [zC]
theorem zh0 {b : Nat} (hb : zhg b) (n : Nat) (hn : n < 2 ^ 63) : zea (n : Int) (b : Int) = some (zC (zhd b n)) := by
  unfold zea
  obtain ⟨m, hm⟩ : ∃ m, fuel = m + 1 := ⟨999999999999999999, rfl⟩
  rw [hm]
  exact zsd hb 62 m n (by unfold fuel at hm; omega) (by omega) (by omega)
def zo4 (b : Nat) (n : Int) : Str := if n < 0 then [] else zC (zhd b n.toNat)
theorem zqa {b : Nat} (hb : zhg b) (n : Int) (hn : inI n = true) : ziY n (b : Int) = some (zo4 b n) := by
  obtain ⟨h1, h2⟩ := zje.1 hn
  unfold ziY zo4
  by_cases h : n < 0
  · simp [h]
  · obtain ⟨k, rfl⟩ : ∃ k : Nat, n = k := ⟨n.toNat, by omega⟩
    simp [h, zh0 hb k (by omega)]
theorem dec_eq : ∀ n, n < 2 ^ 64 → Go.Lib.decDigits n = zC (zhd 10 n) :=
  zmO (b := 10) (by decide) (fun n h => by rw [Go.Lib.decDigits, dif_pos h, zd2 h]; simp [zC, dch, h]) fun n h hn ih => by
    rw [Go.Lib.decDigits, dif_neg (by omega), ih, zjJ (by decide) h hn]
    have : n % 10 < 10 := Nat.mod_lt _ (by decide)
    simp [zC, dch, this]
theorem zon (n : Int) (hn : inI n = true) : zdh n = some (zo4 10 n) := by
  obtain ⟨h1, h2⟩ := zje.1 hn
  unfold zdh zio zo4
  by_cases h : n < 0
  · simp [h]
  · obtain ⟨k, rfl⟩ : ∃ k : Nat, n = k := ⟨n.toNat, by omega⟩
    have hk : ¬ ((k : Int) < 0) := by omega
    simp [hk, zeF, hn, Go.Lib.itoa, dec_eq k (by omega)]
def vals (s : Str) : List Nat := s.map wor
def zeL (b : Nat) (s : Str) (most : Int) : Int × Int :=
  if (s == [] || !s.all (zkF b)) = true then (0, 2) else if most < (zba b (vals s) : Int) then (0, 7) else (((zba b (vals s) : Nat) : Int), 0)
theorem zwL {b : Nat} (hb : zhg b) {s : Str} (h : s.all (zkF b) = true) : ∀ d ∈ vals s, d < b := by
  intro d hd
  obtain ⟨c, hc, rfl⟩ := List.mem_map.1 hd
  exact zo2 hb (List.all_eq_true.1 h c hc)
theorem zqO {b : Nat} (hb : 1 ≤ b) (l m : List Nat) : zba b l ≤ zba b (l ++ m) := by
  unfold zba
  rw [List.foldl_append]
  generalize l.foldl (fun n d => n * b + d) 0 = n
  rw [zqM]
  have : 1 ≤ b ^ m.length := Nat.one_le_pow _ _ hb
  have := Nat.le_mul_of_pos_right n this
  omega
theorem ztt {b : Nat} (hb : zhg b) (s : Str) (most : Int) (hs : s.length < 1000000000) (hd : s.all (zkF b) = true) (hm : most < 4611686018427387904) (hm0 : -4611686018427387904 < most) (hne : s ≠ []) :
    zaL s (b : Int) most fuel 0 0 = some (if most < (zba b (vals s) : Int) then (0, 7) else (((zba b (vals s) : Nat) : Int), 0)) := by
  obtain ⟨h2, h16⟩ := hb.two
  have key : ∀ (n i v : Nat), i ≤ s.length → s.length - i < n → v = zba b (vals (s.take i)) → (i = 0 ∨ (v : Int) ≤ most) → (i < s.length ∨ (v : Int) ≤ most) →
      zaL s (b : Int) most n (v : Int) (i : Int) = some (if most < (zba b (vals s) : Int) then (0, 7) else (((zba b (vals s) : Nat) : Int), 0)) := by
    intro n
    induction n with
    | zero => intro i v _ h; omega
    | succ n ih =>
      intro i v hi h hv h0 h1
      rw [zaL]
      by_cases hlt : i < s.length
      · have hx : s[i]? = some s[i] := List.getElem?_eq_getElem hlt
        have hw : wor s[i] < b := zo2 hb (List.all_eq_true.1 hd _ (List.getElem_mem hlt))
        have htk : vals (s.take (i + 1)) = vals (s.take i) ++ [wor s[i]] := by
          unfold vals
          rw [List.take_succ_eq_append_getElem hlt, List.map_append]; rfl
        have hv' : zba b (vals (s.take (i + 1))) = v * b + wor s[i] := by rw [htk, znq, ← hv]
        have hle : zba b (vals (s.take (i + 1))) ≤ zba b (vals s) := by
          have := zqO (b := b) (by omega) (vals (s.take (i + 1))) (vals (s.drop (i + 1)))
          unfold vals at this ⊢
          rwa [← List.map_append, List.take_append_drop] at this
        simp only [Int.ofNat_lt, hlt, decide_true, if_true, zaq, hx, Option.bind_some, znr]
        by_cases hov : most < (wor s[i] : Int)
        · have : most < (zba b (vals s) : Int) := by
            have := Nat.zero_le (v * b); omega
          simp [hov, zc4, this]
        · have hsub : zcZ most (wor s[i] : Int) = some (most - (wor s[i] : Int)) := zcm (by omega) (by omega)
          have hdv : zrH (most - (wor s[i] : Int)) (b : Int) = some ((most - (wor s[i] : Int)) / (b : Int)) := by
            unfold zrH
            have h5 : 0 ≤ (most - (wor s[i] : Int)) / (b : Int) := Int.ediv_nonneg (by omega) (by omega)
            have h6 : (most - (wor s[i] : Int)) / (b : Int) ≤ most - (wor s[i] : Int) := Int.ediv_le_self _ (by omega)
            rw [if_pos ⟨by omega, by omega, by rw [zje]; omega⟩]
          have hiff : (most - (wor s[i] : Int)) / (b : Int) < (v : Int) ↔ most < ((v * b + wor s[i] : Nat) : Int) := by
            rw [Int.ediv_lt_iff_lt_mul (by omega)]
            push_cast
            omega
          simp only [hov, decide_false, Bool.false_eq_true, if_false, hsub, hdv, Option.bind_some, zc4]
          by_cases hov2 : (most - (wor s[i] : Int)) / (b : Int) < (v : Int)
          · have h7 : most < (zba b (vals s) : Int) := by have := hiff.1 hov2; omega
            simp [hov2, h7]
          · have h7 : ((v * b + wor s[i] : Nat) : Int) ≤ most := by have := (not_congr hiff).1 hov2; omega
            have hmul : zrG (v : Int) (b : Int) = some ((v * b : Nat) : Int) := by
              rw [zt7 (by rw [← Int.natCast_mul]; omega) (by rw [← Int.natCast_mul]; omega), Int.natCast_mul]
            have hadd : zK ((v * b : Nat) : Int) (wor s[i] : Int) = some ((v * b + wor s[i] : Nat) : Int) := by
              rw [zhw (by omega) (by omega)]; simp
            simp only [hov2, decide_false, Bool.false_eq_true, if_false, hmul, hadd, Option.bind_some, zA (show i < 4611686018427387904 by omega)]
            exact ih (i + 1) (v * b + wor s[i]) (by omega) (by omega) hv'.symm (.inr h7) (.inr h7)
      · have : i = s.length := by omega
        subst this
        rw [List.take_length] at hv
        have h8 : ¬ most < (zba b (vals s) : Int) := by rw [← hv]; rcases h1 with h1 | h1 <;> omega
        simp [h8, hv]
  have := key fuel 0 0 (Nat.zero_le _) (by unfold fuel; omega) (by simp [vals, zba]) (.inl rfl) (.inl (by cases s with | nil => exact absurd rfl hne | cons _ _ => simp))
  simpa using this
theorem zoo {b : Nat} (hb : zhg b) (s : Str) (most : Int) (hs : s.length < 1000000000) (hm : most < 4611686018427387904) (hm0 : -4611686018427387904 < most) {f : UInt8 → Option Bool} (hf : ∀ c, f c = some (zkF b c)) :
    zgO s (b : Int) most f = some (zeL b s most) := by
  unfold zgO zeL
  rcases zgn (s == []) with h | h
  · rw [h]; simp [zc5]
  · rw [h]
    rw [zet hf s hs]
    simp only [Bool.false_eq_true, if_false, Option.bind_some, zc5, Bool.false_or]
    rcases zgn (s.all (zkF b)) with h2 | h2
    · rw [h2]
      simp only [Bool.not_true, Bool.false_eq_true, if_false]
      exact ztt hb s most hs h2 hm hm0 (by simpa using h)
    · rw [h2]; simp
theorem ziF (s : Str) (most : Int) (hs : s.length < 1000000000) (hm : most < 4611686018427387904) (hm0 : -4611686018427387904 < most) : zc6 s most = some (zeL 10 s most) := by
  unfold zc6
  have := zoo (.inl rfl) s most hs hm hm0 (f := zaK) znI
  rw [show ((10 : Nat) : Int) = 10 from rfl] at this
  rw [this]; rfl
def zhJ : List Nat → List Nat
  | 0 :: l => zhJ l
  | l => l
theorem zns (b : Nat) : ∀ l, zba b (zhJ l) = zba b l
  | [] => rfl
  | 0 :: l => by rw [zhJ, zns b l, ziy, Nat.zero_mul, Nat.zero_add]
  | (n + 1) :: l => rfl
theorem zo5 : ∀ l, (zhJ l).head? ≠ some 0
  | [] => by simp [zhJ]
  | 0 :: l => by rw [zhJ]; exact zo5 l
  | (n + 1) :: l => by simp [zhJ]
theorem zqP : ∀ {l : List Nat} {d : Nat}, d ∈ zhJ l → d ∈ l
  | [], _, h => h
  | 0 :: l, d, h => by rw [zhJ] at h; exact List.mem_cons_of_mem _ (zqP h)
  | (n + 1) :: l, _, h => h
theorem zqQ : ∀ l, (zhJ l).length ≤ l.length
  | [] => Nat.le_refl _
  | 0 :: l => by rw [zhJ]; have := zqQ l; simp; omega
  | (n + 1) :: l => Nat.le_refl _
def zhK (l : List Nat) : List Nat := if zhJ l = [] then [0] else zhJ l
theorem zvr {b : Nat} (hb : zhg b) (s : Str) (hs : s.length < 1000000000) :
    zhT s (b : Int) = some (if s.all (zkF b) then (zC (zhK (vals s)), !(s == [])) else ([], false)) := by
  obtain ⟨h2, h16⟩ := hb.two
  unfold zhT
  have key : ∀ (n i : Nat) (acc : List Nat), i ≤ s.length → s.length - i < n → acc.length ≤ i → (acc = [] ∨ acc.head? ≠ some 0) →
      zaW s (b : Int) n (zC acc) (i : Int) = some (if (s.drop i).all (zkF b) then (zC (if acc = [] then zhK (vals (s.drop i)) else acc ++ vals (s.drop i)), !(s == [])) else ([], false)) := by
    intro n
    induction n with
    | zero => intro i acc _ h; omega
    | succ n ih =>
      intro i acc hi h ha h0
      rw [zaW]
      by_cases hlt : i < s.length
      · have hx : s[i]? = some s[i] := List.getElem?_eq_getElem hlt
        rw [List.drop_eq_getElem_cons hlt]
        generalize hc : s[i] = c at hx ⊢
        simp only [Int.ofNat_lt, hlt, decide_true, if_true, zaq, hx, Option.bind_some, zkV hb, List.all_cons]
        rcases zgn (zkF b c) with hdg | hdg
        · have hw := zo2 hb hdg
          have hw0 : ¬ ((wor c : Int) < 0) := by omega
          have hdig : zea (wor c : Int) (b : Int) = some [dch (wor c)] := by
            rw [zh0 hb _ (by omega), zd2 hw]; rfl
          have hcat : zck (zC acc) [dch (wor c)] = some (zC (acc ++ [wor c])) := by
            rw [zam (by simp [zC]; omega)]; simp [zC]
          simp only [hdg, if_true, hw0, decide_false, Bool.false_eq_true, if_false, ze5, ze4, hdig, hcat, Option.bind_some, zA (show i < 4611686018427387904 by omega), Bool.true_and]
          have hvc : vals (c :: s.drop (i + 1)) = wor c :: vals (s.drop (i + 1)) := rfl
          cases acc with
          | nil =>
            by_cases hz : wor c = 0
            · have hz' : ¬ (0 < (wor c : Int)) := by omega
              simp only [show (zC [] == ([] : Str)) = true from rfl, Bool.not_true, Bool.false_eq_true, if_false, hz', decide_false]
              have := ih (i + 1) [] (by omega) (by omega) (by simp) (.inl rfl)
              rw [show zC [] = ([] : Str) from rfl] at this ⊢
              rw [this]
              simp only [if_true, hvc, hz, zhK, zhJ]
            · have hz' : 0 < (wor c : Int) := by omega
              simp only [show (zC [] == ([] : Str)) = true from rfl, Bool.not_true, Bool.false_eq_true, if_false, hz', decide_true, if_true]
              rw [ih (i + 1) ([] ++ [wor c]) (by omega) (by omega) (by simp) (.inr (by simpa using hz))]
              obtain ⟨m, hm⟩ : ∃ m, wor c = m + 1 := ⟨wor c - 1, by omega⟩
              simp [hvc, zhK, hm, zhJ]
          | cons y acc =>
            simp only [show (zC (y :: acc) == ([] : Str)) = false from rfl, Bool.not_false, if_true]
            have hy : (y :: acc ++ [wor c]) = [] ∨ (y :: acc ++ [wor c]).head? ≠ some 0 := by
              right
              rcases h0 with h0 | h0
              · cases h0
              · simpa using h0
            rw [ih (i + 1) (y :: acc ++ [wor c]) (by omega) (by omega) (by simp at ha ⊢; omega) hy]
            simp [hvc]
        · simp [hdg]
      · have : i = s.length := by omega
        subst this
        simp only [Int.lt_irrefl, decide_false, Bool.false_eq_true, if_false, List.drop_length, List.all_nil, if_true, ze6]
        cases acc with
        | nil => simp [zC, zhK, vals, zhJ, dch]
        | cons y acc => simp [zC, vals]
  have := key fuel 0 [] (Nat.zero_le _) (by unfold fuel; omega) (by simp) (.inl rfl)
  simpa [zC] using this
theorem zse {b : Nat} (hb : 0 < b) {l : List Nat} (h : ∀ d ∈ l, d < b) : zhK l ≠ [] ∧ (∀ d ∈ zhK l, d < b) ∧ (zhK l = [0] ∨ (zhK l).head? ≠ some 0) ∧ zba b (zhK l) = zba b l ∧ (zhK l).length ≤ l.length + 1 := by
  unfold zhK
  by_cases e : zhJ l = []
  · rw [if_pos e]
    have := zns b l
    rw [e, zvo] at this
    refine ⟨by simp, fun d hd => by simp at hd; omega, .inl rfl, by simp [zba] at this ⊢; exact this, by simp⟩
  · rw [if_neg e]
    exact ⟨e, fun d hd => h d (zqP hd), .inr (zo5 l), zns b l, by have := zqQ l; omega⟩
theorem zvs {b : Nat} (hb : 2 ≤ b) (l m : List Nat) (hl0 : l ≠ []) (hm0 : m ≠ []) (hl : ∀ d ∈ l, d < b) (hm : ∀ d ∈ m, d < b) (zl : l = [0] ∨ l.head? ≠ some 0) (zm : m = [0] ∨ m.head? ≠ some 0) :
    (decide (l.length < m.length) || (l.length == m.length && zoY l m)) = decide (zba b l < zba b m) := by
  have low : ∀ x : List Nat, x ≠ [] → x.head? ≠ some 0 → b ^ (x.length - 1) ≤ zba b x := by
    intro x hx h0
    cases x with
    | nil => exact absurd rfl hx
    | cons y t =>
      have hy : 1 ≤ y := by
        rcases Nat.eq_zero_or_pos y with e | e
        · subst e; simp at h0
        · exact e
      rw [ziy, List.length_cons, Nat.add_sub_cancel]
      have := Nat.mul_le_mul_right (b ^ t.length) hy
      rw [Nat.one_mul] at this; omega
  have cmp : ∀ x y : List Nat, x ≠ [] → y ≠ [] → (∀ d ∈ x, d < b) → (y = [0] ∨ y.head? ≠ some 0) → x.length < y.length → zba b x < zba b y := by
    intro x y hx hy hxd zy h
    have hyh : y.head? ≠ some 0 := by
      rcases zy with e | e
      · have : 1 ≤ x.length := by cases x with | nil => exact absurd rfl hx | cons _ _ => simp
        rw [e] at h
        have h' : x.length < 1 := h
        omega
      · exact e
    have h1 := zoM (b := b) (by omega) hxd
    have h2 := low y hy hyh
    have h3 : b ^ x.length ≤ b ^ (y.length - 1) := Nat.pow_le_pow_right (by omega) (by omega)
    omega
  rcases Nat.lt_trichotomy l.length m.length with h | h | h
  · have := cmp l m hl0 hm0 hl zm h
    simp [h, this]
  · rw [h, zt9 (b := b) (by omega) l m h hl hm]; simp
  · have h1 := cmp m l hm0 hl0 hm zl h
    have h2 : ¬ l.length < m.length := by omega
    have h3 : (l.length == m.length) = false := beq_eq_false_iff_ne.2 (by omega)
    have h4 : ¬ zba b l < zba b m := by omega
    simp [h2, h3, h4]
theorem zjK (l : List Nat) : (zC l).length = l.length := by simp [zC]
theorem znt {b : Nat} (hb : zhg b) (l : List Nat) (q : Bool) (hl : ∀ d ∈ l, d < b) (hlen : l.length < 2000000000) (hv : zba b l < 4611686018427387904) :
    zcB (b : Int) (zC l, q) fuel 0 0 = some (((zba b l : Nat) : Int), 0) := by
  obtain ⟨h2, h16⟩ := hb.two
  have key : ∀ (n i v : Nat), i ≤ l.length → l.length - i < n → v = zba b (l.take i) → zcB (b : Int) (zC l, q) n (v : Int) (i : Int) = some (((zba b l : Nat) : Int), 0) := by
    intro n
    induction n with
    | zero => intro i v _ h; omega
    | succ n ih =>
      intro i v hi h hvv
      rw [zcB]
      by_cases hlt : i < l.length
      · have hx : (zC l)[i]? = some (dch l[i]) := by simp [zC, hlt]
        have hd : l[i] < b := hl _ (List.getElem_mem hlt)
        obtain ⟨w1, w2, w3⟩ := zuG l[i] (by omega)
        have hdg : zkF b (dch l[i]) = true := by
          rcases hb with rfl | rfl
          · exact w3 hd
          · exact w2
        have hv' : zba b (l.take (i + 1)) = v * b + l[i] := by
          rw [List.take_succ_eq_append_getElem hlt, znq, ← hvv]
        have hle : zba b (l.take (i + 1)) ≤ zba b l := by
          have := zqO (b := b) (by omega) (l.take (i + 1)) (l.drop (i + 1))
          rwa [List.take_append_drop] at this
        have hmul : zrG (v : Int) (b : Int) = some ((v * b : Nat) : Int) := by
          rw [zt7 (by rw [← Int.natCast_mul]; omega) (by rw [← Int.natCast_mul]; omega), Int.natCast_mul]
        have hadd : zK ((v * b : Nat) : Int) (l[i] : Int) = some ((v * b + l[i] : Nat) : Int) := by
          rw [zhw (by omega) (by omega)]; simp
        simp only [zjK, Int.ofNat_lt, hlt, decide_true, if_true, hmul, Option.bind_some, zaq, hx, zkV hb, hdg, w1, hadd, zA (show i < 4611686018427387904 by omega)]
        exact ih (i + 1) _ (by omega) (by omega) hv'.symm
      · have : i = l.length := by omega
        subst this
        rw [List.take_length] at hvv
        simp [zjK, hvv]
  have := key fuel 0 0 (Nat.zero_le _) (by unfold fuel; omega) (by simp [zba])
  simpa using this
theorem zqb {b : Nat} (hb : zhg b) (s : Str) (most : Int) (hs : s.length < 1000000000) (hm : most < 4611686018427387904) (hm0 : -4611686018427387904 < most) : ziX s (b : Int) most = some (zeL b s most) := by
  obtain ⟨h2, h16⟩ := hb.two
  unfold ziX zeL
  rw [zvr hb s hs, Option.bind_some]
  rcases zgn (s.all (zkF b)) with hd | hd
  · rw [hd]
    simp only [if_true, Bool.not_true, Bool.or_false]
    rcases zgn (s == []) with he | he
    · rw [he]; simp
    · rw [he]
      have hv := zwL hb hd
      obtain ⟨c1, c2, c3, c4, c5⟩ := zse (b := b) (by omega) hv
      have hlen : (vals s).length = s.length := by simp [vals]
      simp only [Bool.not_false, Bool.not_true, Bool.false_eq_true, if_false]
      by_cases hneg : most < 0
      · have h7 : most < (zba b (vals s) : Int) := by omega
        simp [hneg, h7, zex]
      · obtain ⟨k, rfl⟩ : ∃ k : Nat, most = k := ⟨most.toNat, by omega⟩
        have hk : k < 2 ^ 64 := by omega
        have hless : ziW (zC (zhd b k)) (zC (zhK (vals s))) = some (decide (k < zba b (vals s))) := by
          unfold ziW
          have d1 := zwK h2 k hk
          have d3 : zhd b k = [0] ∨ (zhd b k).head? ≠ some 0 := by
            rcases zqN h2 k hk with e | e
            · left; subst e; exact zd2 (by omega)
            · exact .inr e
          have := zvs h2 (zhd b k) (zhK (vals s)) zrk c1 d1 c2 d3 c3
          rw [zsc h2 k hk, c4] at this
          rw [← this, zjK, zjK, zn3 _ _ (fun d hd => by have := d1 d hd; omega) (fun d hd => by have := c2 d hd; omega)]
          by_cases h1 : (zhd b k).length < (zhK (vals s)).length
          · simp [h1, zcA]
          · by_cases h3 : (zhd b k).length = (zhK (vals s)).length
            · simp [h3, zcA]
            · have h4 : (((zhd b k).length : Int) == ((zhK (vals s)).length : Int)) = false := beq_eq_false_iff_ne.2 (by omega)
              simp [h1, h3, h4, zcA]
        simp only [hneg, decide_false, Bool.false_eq_true, if_false, zh0 hb k (by omega), Option.bind_some, hless, zex]
        by_cases h7 : k < zba b (vals s)
        · have h8 : (k : Int) < (zba b (vals s) : Int) := by omega
          simp [h7, h8]
        · have h8 : ¬ ((k : Int) < (zba b (vals s) : Int)) := by omega
          simp only [h7, decide_false, Bool.false_eq_true, if_false, h8]
          rw [znt hb _ _ c2 (by omega) (by rw [c4]; omega), c4]
  · rw [hd]; simp
end Go.Dm
end
section
namespace Go.Dm
def low (s : Str) : Str := s.map zhl
theorem zl4 (s : Str) (hs : s.length < 1000000000) : zcL s = some (low s) := by
  unfold zcL
  rw [if_pos (by omega)]
  unfold low
  clear hs
  induction s with
  | nil => rfl
  | cons x s ih => simp [List.mapM_cons, zpA, ih]
theorem upAt : ∀ j : Nat, j < 26 → (([65, 66, 67, 68, 69, 70, 71, 72, 73, 74, 75, 76, 77, 78, 79, 80, 81, 82, 83, 84, 85, 86, 87, 88, 89, 90] : Str)[j]? = some (UInt8.ofNat (65 + j)) ∧
    zfH [97, 98, 99, 100, 101, 102, 103, 104, 105, 106, 107, 108, 109, 110, 111, 112, 113, 114, 115, 116, 117, 118, 119, 120, 121, 122] (j : Int) ((j + 1 : Nat) : Int) = some [UInt8.ofNat (97 + j)]) := by decide
theorem znA (rec1 : Str → Int → Option Str) (t : Str) (s4 : Str) (i : Nat) (x : UInt8) (hx : t[i]? = some x) : ∀ (k j n : Nat) (s : Str), j + k = 26 → k < n →
    zbg rec1 t s4 (i : Int) n s (j : Int) = (zck s4 (if 65 + j ≤ x.toNat ∧ x.toNat < 91 then [x + 32] else s)).bind fun s27 => (zK (i : Int) 1).bind fun i29 => rec1 s27 i29 := by
  intro k
  induction k with
  | zero =>
    intro j n s hj hn
    obtain ⟨n, rfl⟩ : ∃ m, n = m + 1 := ⟨n - 1, by omega⟩
    obtain rfl : j = 26 := by omega
    have h0 : ¬ (65 + 26 ≤ x.toNat ∧ x.toNat < 91) := by omega
    rw [zbg, if_neg h0]
    rfl
  | succ k ih =>
    intro j n s hj hn
    obtain ⟨n, rfl⟩ : ∃ m, n = m + 1 := ⟨n - 1, by omega⟩
    obtain ⟨h1, h2⟩ := upAt j (by omega)
    have hj26 : (j : Int) < 26 := by omega
    rw [zbg]
    simp only [hj26, decide_true, if_true, zaq, h1, hx, Option.bind_some, zA (show j < 4611686018427387904 by omega), h2, zfM]
    rw [ih (j + 1) n _ (by omega) (by omega), ih (j + 1) n _ (by omega) (by omega)]
    by_cases he : UInt8.ofNat (65 + j) = x
    · subst he
      have e1 : (UInt8.ofNat (65 + j)).toNat = 65 + j := by simp; omega
      have e2 : UInt8.ofNat (97 + j) = UInt8.ofNat (65 + j) + 32 := by
        apply UInt8.toNat_inj.1; simp; omega
      simp only [beq_self_eq_true, if_true, e1]
      rw [if_neg (by omega), if_pos (by omega), e2]
    · have hb : (UInt8.ofNat (65 + j) == x) = false := beq_eq_false_iff_ne.2 he
      have hne : x.toNat ≠ 65 + j := fun e => he (by apply UInt8.toNat_inj.1; simp; omega)
      simp only [hb, Bool.false_eq_true, if_false]
      have : (65 + (j + 1) ≤ x.toNat ∧ x.toNat < 91) ↔ (65 + j ≤ x.toNat ∧ x.toNat < 91) := by omega
      simp only [this]
theorem zuK (x : UInt8) : (if 65 ≤ x.toNat ∧ x.toNat < 91 then [x + 32] else [x]) = [zhl x] := by
  have hi : (65 ≤ x ∧ x ≤ 90) ↔ (65 ≤ x.toNat ∧ x.toNat < 91) := by
    have h1 : (65 ≤ x) ↔ (65 ≤ x.toNat) := Iff.rfl
    have h2 : (x ≤ 90) ↔ (x.toNat ≤ 90) := Iff.rfl
    rw [h1, h2]; omega
  unfold zhl
  by_cases h : 65 ≤ x.toNat ∧ x.toNat < 91
  · rw [if_pos h, if_pos (hi.2 h)]
  · rw [if_neg h, if_neg (fun e => h (hi.1 e))]
theorem zl5 (s : Str) (hs : s.length < 1000000000) : zhq s = some (low s) := by
  unfold zhq
  have key : ∀ (n i : Nat) (acc : Str), acc.length = i → i ≤ s.length → s.length - i < n → zbh s n acc (i : Int) = some (acc ++ low (s.drop i)) := by
    intro n
    induction n with
    | zero => intro i acc _ _ h; omega
    | succ n ih =>
      intro i acc ha hi h
      rw [zbh]
      by_cases hlt : i < s.length
      · have hx : s[i]? = some s[i] := List.getElem?_eq_getElem hlt
        have e1 : (s.take (i + 1)).drop i = [s[i]] := by
          rw [List.drop_take, List.drop_eq_getElem_cons hlt, show i + 1 - i = 1 by omega]
          rfl
        have h2 := znA (zbh s n) s acc i s[i] hx 26 0 fuel [s[i]] rfl (by unfold fuel; omega)
        simp only [Int.natCast_zero, Nat.add_zero, zuK] at h2
        simp only [Int.ofNat_lt, hlt, decide_true, if_true, zA (show i < 4611686018427387904 by omega), Option.bind_some, zeK (show i ≤ i + 1 by omega) (show i + 1 ≤ s.length by omega), e1, h2, zam (show acc.length + [zhl s[i]].length ≤ 9223372036854775807 by simp; omega)]
        rw [ih (i + 1) _ (by simp [ha]) (by omega) (by omega), List.drop_eq_getElem_cons hlt]
        show some ((acc ++ [zhl s[i]]) ++ low (s.drop (i + 1))) = some (acc ++ (zhl s[i] :: low (s.drop (i + 1))))
        rw [List.append_assoc]
        rfl
      · have : i = s.length := by omega
        subst this
        simp [low]
  have := key fuel 0 [] rfl (Nat.zero_le _) (by unfold fuel; omega)
  simpa using this
theorem zqj (a b : Str) (ha : a.length < 1000000000) (hb : b.length < 1000000000) : zdr a b = some (low a == low b) := by
  unfold zdr
  rw [zl4 a ha, zl4 b hb]; rfl
end Go.Dm
end
section
namespace Go.Dm
def upto (cs s : Str) : Str := s.takeWhile (fun c => !cs.contains c)
def zdc (cs s : Str) : Str := s.dropWhile (fun c => !cs.contains c)
theorem zhj (cs s : Str) : upto cs s ++ zdc cs s = s := List.takeWhile_append_dropWhile
theorem zud (cs s : Str) : (upto cs s).length ≤ s.length := by
  have := congrArg List.length (zhj cs s); simp at this; omega
theorem zqT (cs s : Str) : s.take (upto cs s).length = upto cs s := by
  have h := zhj cs s
  conv => lhs; arg 2; rw [← h]
  exact List.take_left
theorem zjN (cs s : Str) : s.drop (upto cs s).length = zdc cs s := by
  have h := zhj cs s
  conv => lhs; arg 2; rw [← h]
  exact List.drop_left
theorem zlN {cs s : Str} {c : UInt8} {r : Str} (h : zdc cs s = c :: r) : cs.contains c = true := by
  have := List.head?_dropWhile_not (fun c => !cs.contains c) s
  unfold zdc at h
  rw [h] at this
  simpa using this
theorem zpc {cs s : Str} : ∀ c ∈ upto cs s, cs.contains c = false := by
  intro c hc
  have h : (upto cs s).all (fun c => !cs.contains c) = true := List.all_takeWhile
  have := List.all_eq_true.1 h c hc
  simpa using this
theorem zsu {cs s : Str} {x : UInt8} (h : cs.contains x = true) : upto cs (x :: s) = [] := by
  unfold upto; rw [List.takeWhile_cons_of_neg (by rw [h]; simp)]
theorem zn5 {cs s : Str} {x : UInt8} (h : cs.contains x = true) : zdc cs (x :: s) = x :: s := by
  unfold zdc; rw [List.dropWhile_cons_of_neg (by rw [h]; simp)]
theorem zsv {cs s : Str} {x : UInt8} (h : cs.contains x = false) : upto cs (x :: s) = x :: upto cs s := by
  unfold upto; rw [List.takeWhile_cons_of_pos (by rw [h]; rfl)]
theorem zn6 {cs s : Str} {x : UInt8} (h : cs.contains x = false) : zdc cs (x :: s) = zdc cs s := by
  unfold zdc; rw [List.dropWhile_cons_of_pos (by rw [h]; rfl)]

theorem zqU (cs : Str) : ∀ (s : Str) (k : Nat), zlj s cs k = if zdc cs s = [] then -1 else ((k + (upto cs s).length : Nat) : Int)
  | [], k => by simp [zlj, zdc]
  | x :: s, k => by
    simp only [zlj]
    by_cases h : cs.contains x = true
    · rw [if_pos h, zsu h, zn5 h]; simp
    · have h' : cs.contains x = false := by simpa using h
      rw [if_neg h, zqU cs s (k + 1)]
      rw [zn6 h', zsv h', List.length_cons]
      split
      · rfl
      · congr 1; omega
theorem zrv (s p : Str) (hs : s.length < 1000000000) : stringslite_HasPrefix s p = some (p.isPrefixOf s) := by
  unfold stringslite_HasPrefix
  by_cases h : p.length ≤ s.length
  · have h' : (p.length : Int) ≤ (s.length : Int) := by omega
    simp only [h', decide_true, if_true, zi9 h, Option.bind_some, zax]
    congr 1
    rw [Bool.eq_iff_iff, beq_iff_eq, List.isPrefixOf_iff_prefix, List.prefix_iff_eq_take]
    exact eq_comm
  · have h' : ¬ (p.length : Int) ≤ (s.length : Int) := by omega
    simp only [h', decide_false, Bool.false_eq_true, if_false, zax]
    congr 1
    rw [eq_comm, Bool.eq_false_iff]
    intro hp
    rw [List.isPrefixOf_iff_prefix] at hp
    exact h hp.length_le
theorem zk2 (s p : Str) (hs : s.length < 1000000000) : strings_CutPrefix s p = some (if p.isPrefixOf s then (s.drop p.length, true) else (s, false)) := by
  unfold strings_CutPrefix stringslite_CutPrefix
  rw [zrv s p hs]
  cases hp : p.isPrefixOf s with
  | false => simp
  | true =>
    have h : p.length ≤ s.length := (List.isPrefixOf_iff_prefix.1 hp).length_le
    simp [zc1 h]
theorem zrw (s p : Str) (hs : s.length < 1000000000) (hp : p.length < 1000000000) : stringslite_HasSuffix s p = some (p.isSuffixOf s) := by
  unfold stringslite_HasSuffix
  by_cases h : p.length ≤ s.length
  · have h' : (p.length : Int) ≤ (s.length : Int) := by omega
    have e : (s.length : Int) - (p.length : Int) = ((s.length - p.length : Nat) : Int) := by omega
    simp only [h', decide_true, if_true, zcm (show -9223372036854775808 ≤ (s.length : Int) - (p.length : Int) by omega) (by omega), Option.bind_some, e, zc1 (show s.length - p.length ≤ s.length by omega), zay]
    congr 1
    rw [Bool.eq_iff_iff, beq_iff_eq, List.isSuffixOf_iff_suffix, List.suffix_iff_eq_drop]
    exact eq_comm
  · have h' : ¬ (p.length : Int) ≤ (s.length : Int) := by omega
    simp only [h', decide_false, Bool.false_eq_true, if_false, zay, Option.bind_some]
    congr 1
    rw [eq_comm, Bool.eq_false_iff]
    intro hp
    rw [List.isSuffixOf_iff_suffix] at hp
    exact h hp.length_le
theorem zlT (s cs : Str) (hs : s.length < 1000000000) (hc : cs.length < 1000000000) (ha : cs.all (fun c => c.toNat < 128) = true) :
    strings_IndexAny s cs = some (if zdc cs s = [] then -1 else ((upto cs s).length : Int)) := by
  unfold strings_IndexAny
  rw [if_pos ⟨by omega, by omega, ha⟩, zqU, Nat.zero_add]
theorem zsw (cs s : Str) : zdc cs s = [] ↔ s.any cs.contains = false := by
  induction s with
  | nil => simp [zdc]
  | cons x s ih =>
    rcases zgn (cs.contains x) with h | h
    · rw [zn5 h, List.any_cons, h]; simp
    · rw [zn6 h, ih, List.any_cons, h, Bool.false_or]
theorem zkg (s cs : Str) (hs : s.length < 1000000000) (hc : cs.length < 1000000000) (ha : cs.all (fun c => c.toNat < 128) = true) : strings_ContainsAny s cs = some (s.any cs.contains) := by
  unfold strings_ContainsAny
  rw [zlT s cs hs hc ha, Option.bind_some]
  rcases zgn (s.any cs.contains) with h | h
  · have e : ¬ zdc cs s = [] := fun e => by rw [(zsw cs s).1 e] at h; cases h
    rw [if_neg e, h]; simp
  · rw [if_pos ((zsw cs s).2 h), h]; rfl
end Go.Dm
end
section
namespace Go.Dm
def scn (s : Str) (k : Nat) : scan_Scanner := ⟨s, (k : Int)⟩
theorem zsF (s : Str) : zjZ s = some (scn s 0) := rfl
theorem ztF (s : Str) (k : Nat) : zbx (scn s k) = some (k : Int) := rfl
theorem zmX {s : Str} {k : Nat} (h : k ≤ s.length) : zbj (scn s k) = some (s.drop k) := by
  unfold zbj scn
  rw [zc1 h]; rfl
theorem zlb {s : Str} {k : Nat} (h : k ≤ s.length) : zaP (scn s k) = some (s.drop k == []) := by
  unfold zaP
  rw [zmX h]; rfl
theorem zl9 {s : Str} {k : Nat} (h : k ≤ s.length) (hd : s.drop k = []) : zaa (scn s k) = some (0, false) := by
  unfold zaa
  rw [zlb h, hd]; rfl
theorem zlc {s : Str} {k : Nat} {x : UInt8} {r : Str} (h : k ≤ s.length) (hd : s.drop k = x :: r) : zaa (scn s k) = some (x, true) := by
  unfold zaa
  rw [zlb h, hd]
  have hx : s[k]? = some x := by
    have := congrArg (·[0]?) hd
    simpa using this
  simp [scn, hx]
theorem zqs {s : Str} {k : Nat} (b : UInt8) (h : k ≤ s.length) (hd : s.drop k = []) : zB (scn s k) b = some (false, scn s k) := by
  unfold zB
  rw [zl9 h hd]; rfl
theorem zpn {s : Str} {k : Nat} {x : UInt8} {r : Str} (b : UInt8) (h : k ≤ s.length) (hs : s.length < 1000000000) (hd : s.drop k = x :: r) : zB (scn s k) b = some (x == b, if x == b then scn s (k + 1) else scn s k) := by
  unfold zB
  rw [zlc h hd]
  simp only [Option.bind_some, Bool.not_true, Bool.false_eq_true, if_false, zb0]
  rcases zgn (x == b) with hb | hb
  · rw [hb]; simp [scn, zA (show k < 4611686018427387904 by omega)]
  · rw [hb]; simp
theorem zgG {s : Str} {k : Nat} {x : UInt8} {r : Str} (hd : s.drop k = x :: r) : k < s.length ∧ s.drop (k + 1) = r := by
  have hl : k < s.length := by
    rcases Nat.lt_or_ge k s.length with h | h
    · exact h
    · rw [List.drop_eq_nil_of_le h] at hd; cases hd
  refine ⟨hl, ?_⟩
  rw [List.drop_eq_getElem_cons hl] at hd
  exact (List.cons.inj hd).2
theorem zqt {f : UInt8 → Option Bool} {p : UInt8 → Bool} (hf : ∀ b, f b = some (p b)) {s : Str} {k : Nat} (hs : s.length < 1000000000) (hk : k ≤ s.length) :
    zaE (scn s k) f = some ((s.drop k).takeWhile p, scn s (k + ((s.drop k).takeWhile p).length)) := by
  unfold zaE
  rw [ztF, Option.bind_some]
  show zY f k fuel s k = _
  have key : ∀ (n i : Nat), k ≤ i → i ≤ s.length → s.length - i < n → zY f k n s i = some ((s.take (i + ((s.drop i).takeWhile p).length)).drop k, scn s (i + ((s.drop i).takeWhile p).length)) := by
    intro n
    induction n with
    | zero => intro i _ _ h; omega
    | succ n ih =>
      intro i hki hi h
      rw [zY]
      have e : (⟨s, (i : Int)⟩ : scan_Scanner) = scn s i := rfl
      rw [e]
      cases hd : s.drop i with
      | nil =>
        rw [zl9 hi hd]
        simp [zaU, zbG, zeK hki hi, scn]
      | cons x r =>
        obtain ⟨hlt, hr⟩ := zgG hd
        rw [zlc hi hd]
        simp only [Option.bind_some, Bool.not_true, Bool.false_eq_true, if_false, hf, zaU, zA (show i < 4611686018427387904 by omega), ih (i + 1) (by omega) (by omega) (by omega), hr, List.takeWhile_cons]
        rcases zgn (p x) with hp | hp
        · rw [hp]; simp [Nat.add_assoc, Nat.add_comm 1]
        · rw [hp]; simp [zbG, zeK hki hi, scn]
  rw [key fuel k (Nat.le_refl _) hk (by unfold fuel; omega)]
  congr 2
  rw [List.drop_take, Nat.add_sub_cancel_left]
  have := List.takeWhile_prefix (l := s.drop k) p
  exact (List.prefix_iff_eq_take.1 this).symm
theorem zmY (p : UInt8 → Bool) (s : Str) : (s.takeWhile p).length ≤ s.length := (List.takeWhile_prefix p).length_le
theorem zuP (p : UInt8 → Bool) (s : Str) (k : Nat) (hk : k ≤ s.length) : s.drop (k + ((s.drop k).takeWhile p).length) = (s.drop k).dropWhile p ∧ k + ((s.drop k).takeWhile p).length ≤ s.length := by
  refine ⟨?_, ?_⟩
  · rw [← List.drop_drop]
    generalize s.drop k = t
    have h := List.takeWhile_append_dropWhile (p := p) (l := t)
    conv => lhs; arg 2; rw [← h]
    exact List.drop_left
  · have := zmY p (s.drop k)
    rw [List.length_drop] at this; omega
end Go.Dm
end
section
namespace Go.Dm
structure At (s : Str) (k : Nat) (r : Str) : Prop where
  le : k ≤ s.length
  drop : s.drop k = r
theorem At.zero (s : Str) : At s 0 s := ⟨Nat.zero_le _, rfl⟩
theorem At.len {s : Str} {k : Nat} {r : Str} (h : At s k r) : k + r.length = s.length := by
  have := congrArg List.length h.drop
  rw [List.length_drop] at this
  have := h.le
  omega
theorem At.le_len {s : Str} {k : Nat} {r : Str} (h : At s k r) : r.length ≤ s.length := by have := h.len; omega
theorem At.next {s : Str} {k : Nat} {r : Str} (h : At s k r) (n : Nat) (hn : n ≤ r.length) : At s (k + n) (r.drop n) :=
  ⟨by have := h.len; omega, by rw [← List.drop_drop, h.drop]⟩
def zjb (b : UInt8) (r : Str) : Bool := r.head? == some b
def zcx (b : UInt8) (r : Str) : Str := if zjb b r then r.drop 1 else r
theorem zge (b x : UInt8) (r : Str) : zjb b (x :: r) = (x == b) := Option.some_beq_some ..
theorem zmv (b : UInt8) (r : Str) : zcx b (b :: r) = r := by unfold zcx; rw [zge, beq_self_eq_true, if_pos rfl]; rfl
theorem ztD {b : UInt8} {r : Str} (h : zjb b r = false) : zcx b r = r := by unfold zcx; rw [h]; rfl
theorem zmw {b : UInt8} {r : Str} (h : zjb b r = true) : r = b :: zcx b r := by
  cases r with
  | nil => cases h
  | cons x r =>
    rw [zge] at h
    have : x = b := by simpa using h
    subst this
    rw [zmv]
section
variable {s r : Str} {k : Nat}
theorem at_end (h : At s k r) : zaP (scn s k) = some (r == []) := by rw [zlb h.le, h.drop]
theorem zwN (h : At s k r) : zbj (scn s k) = some r := by rw [zmX h.le, h.drop]
theorem zue (hs : s.length < 1000000000) (b : UInt8) (h : At s k r) : ∃ k', At s k' (zcx b r) ∧ zB (scn s k) b = some (zjb b r, scn s k') := by
  cases r with
  | nil => exact ⟨k, h, zqs b h.le h.drop⟩
  | cons x r =>
    rw [zpn b h.le hs h.drop, zge]
    unfold zcx
    rw [zge]
    cases x == b with
    | true => exact ⟨k + 1, h.next 1 (by simp), rfl⟩
    | false => exact ⟨k, h, rfl⟩
theorem zsy {f : UInt8 → Option Bool} {p : UInt8 → Bool} (hf : ∀ b, f b = some (p b)) (hs : s.length < 1000000000) (h : At s k r) : ∃ k', At s k' (r.dropWhile p) ∧ zaE (scn s k) f = some (r.takeWhile p, scn s k') := by
  have e := zqt hf hs h.le
  rw [h.drop] at e
  have hd := zuP p s k h.le
  rw [h.drop] at hd
  exact ⟨_, ⟨hd.2, hd.1⟩, e⟩
theorem zsz (hs : s.length < 1000000000) (h : At s k r) : ∃ k', At s k' (r.dropWhile zbe) ∧ za8 (scn s k) = some (r.takeWhile zbe, !(r.takeWhile zbe == []), scn s k') := by
  obtain ⟨k', h1, h2⟩ := zsy zjW hs h
  refine ⟨k', h1, ?_⟩
  unfold za8
  rw [h2]; rfl
end
end Go.Dm
end
section
namespace Go.Dm
theorem zca (c : UInt8) (s : Str) : zu c s ≠ [] := by
  cases s with
  | nil => simp [zu]
  | cons x s =>
    unfold zu
    split
    · simp
    · split <;> simp
theorem zqn {b c : UInt8} {l : Str} (h : b ≠ c) : Go.Lib.index (b :: l) [c] = if Go.Lib.index l [c] = -1 then -1 else Go.Lib.index l [c] + 1 := by
  have hp : ([c] : List UInt8).isPrefixOf (b :: l) = false := by simp [List.isPrefixOf, Ne.symm h]
  rw [Go.Lib.index, hp]; simp
theorem zqo (c : UInt8) (l : Str) : Go.Lib.index (c :: l) [c] = 0 := by
  rw [Go.Lib.index]; simp [List.isPrefixOf]
theorem zmy (c : UInt8) : ∀ (s : Str) (k : Nat), Go.Lib.count s [c] = k → Go.Lib.splitK [c] 0 k s = zu c s
  | [], k, h => by
    rw [Go.Lib.count_one] at h
    simp at h; subst h; rfl
  | b :: l, k, h => by
    by_cases hb : b = c
    · subst hb
      rw [Go.Lib.count_cons_eq] at h
      obtain ⟨m, rfl⟩ : ∃ m, k = m + 1 := ⟨k - 1, by omega⟩
      have ih := zmy b l m (by omega)
      unfold Go.Lib.splitK
      rw [zqo]
      simp [zu, ih]
    · rw [Go.Lib.count_cons_ne b c l hb] at h
      have ih := zmy c l k h
      unfold zu
      rw [if_neg hb, ← ih]
      cases k with
      | zero => simp [Go.Lib.splitK]
      | succ k =>
        unfold Go.Lib.splitK
        rw [zqn hb]
        have hge := Go.Lib.index_ge l [c]
        by_cases hm : Go.Lib.index l [c] = -1
        · rw [Go.Lib.count_miss hm] at h; omega
        · obtain ⟨j, hj⟩ : ∃ j : Nat, Go.Lib.index l [c] = j := ⟨(Go.Lib.index l [c]).toNat, by omega⟩
          have e1 : ¬ ((j : Int) + 1 = -1) := by omega
          have e2 : ¬ ((j : Int) = -1) := by omega
          have e3 : ((j : Int) + 1).toNat = j + 1 := by omega
          rw [hj]
          simp [e1, e2, e3, Nat.add_right_comm j 1 1]
theorem znD (s : Str) (c : UInt8) (hs : s.length < 1000000000) : strings_Split s [c] = some (zu c s) := by
  unfold strings_Split
  rw [if_pos ⟨by omega, by simp⟩]
  rw [zmy c s _ rfl]
def zgf (p : Str) : List Str → List Str
  | [] => [p]
  | h :: t => (p ++ h) :: t
theorem zbP (c x : UInt8) (s : Str) : zu c (x :: s) = if x = c then [] :: zu c s else zgf [x] (zu c s) := by
  rw [zu]
  split
  · rfl
  · cases h : zu c s <;> rfl
theorem zmz (l : List Str) (h : l ≠ []) : zgf [] l = l := by
  cases l with
  | nil => exact absurd rfl h
  | cons a t => rfl
theorem zl7 (p q : Str) (l : List Str) (h : l ≠ []) : zgf p (zgf q l) = zgf (p ++ q) l := by
  cases l with
  | nil => exact absurd rfl h
  | cons a t => simp [zgf]
theorem zk8 (c : UInt8) : ∀ (a s : Str), c ∉ a → zu c (a ++ s) = zgf a (zu c s)
  | [], s, _ => (zmz _ (zca c s)).symm
  | x :: a, s, h => by
    have hx : ¬ x = c := fun e => h (by simp [e])
    rw [List.cons_append, zbP, if_neg hx, zk8 c a s (fun e => h (List.mem_cons_of_mem _ e)), zl7 _ _ _ (zca c s)]
    rfl
theorem zki {c : UInt8} {a : Str} (h : c ∉ a) : zu c a = [a] := by
  have := zk8 c a [] h
  simpa [zu, zgf] using this
theorem zpm {c : UInt8} {a : Str} (s : Str) (h : c ∉ a) : zu c (a ++ c :: s) = a :: zu c s := by
  rw [zk8 c a _ h, zbP, if_pos rfl]
  simp [zgf]
theorem zdV {c : UInt8} : ∀ {s p : Str}, p ∈ zu c s → c ∉ p ∧ p.length ≤ s.length ∧ ∀ x ∈ p, x ∈ s
  | [], p, h => by
    simp [zu] at h; subst h; simp
  | x :: s, p, h => by
    rw [zbP] at h
    split at h
    · rcases List.mem_cons.1 h with rfl | h
      · simp
      · obtain ⟨h1, h2, h3⟩ := zdV h
        exact ⟨h1, by simp; omega, fun y hy => List.mem_cons_of_mem _ (h3 y hy)⟩
    · rename_i hx
      cases hl : zu c s with
      | nil => exact absurd hl (zca c s)
      | cons a t =>
        rw [hl] at h
        rcases List.mem_cons.1 h with rfl | h
        · obtain ⟨h1, h2, h3⟩ := zdV (c := c) (s := s) (p := a) (by rw [hl]; simp)
          refine ⟨?_, by simp; omega, ?_⟩
          · simp only [List.singleton_append, List.mem_cons, not_or]; exact ⟨fun e => hx e.symm, h1⟩
          · intro y hy
            simp only [List.singleton_append, List.mem_cons] at hy ⊢
            rcases hy with hy | hy
            · exact .inl hy
            · exact .inr (h3 y hy)
        · obtain ⟨h1, h2, h3⟩ := zdV (c := c) (s := s) (p := p) (by rw [hl]; exact List.mem_cons_of_mem _ h)
          exact ⟨h1, by simp; omega, fun y hy => List.mem_cons_of_mem _ (h3 y hy)⟩
theorem zgm (c : UInt8) : ∀ s : Str, (zu c s).length ≤ s.length + 1
  | [] => by simp [zu]
  | x :: s => by
    have ih := zgm c s
    rw [zbP]
    split
    · simp; omega
    · cases hl : zu c s with
      | nil => exact absurd hl (zca c s)
      | cons a t => rw [hl] at ih; simp [zgf] at ih ⊢; omega
theorem ziO (s : Str) (c : UInt8) (hs : s.length < 1000000000) : ze2 s c = some (zu c s) := by
  unfold ze2
  have key : ∀ (n i k : Nat) (acc : List Str), k ≤ i → i ≤ s.length → acc.length ≤ i → s.length - i < n → zbp s c n acc (k : Int) (i : Int) = some (acc ++ zgf ((s.take i).drop k) (zu c (s.drop i))) := by
    intro n
    induction n with
    | zero => intro i k acc _ _ _ h; omega
    | succ n ih =>
      intro i k acc hk hi ha h
      rw [zbp]
      by_cases hlt : i < s.length
      · have hx : s[i]? = some s[i] := List.getElem?_eq_getElem hlt
        have ht : (s.take (i + 1)).drop k = (s.take i).drop k ++ [s[i]] := by
          rw [List.take_succ_eq_append_getElem hlt, List.drop_append_of_le_length (by simp; omega)]
        simp only [Int.ofNat_lt, hlt, decide_true, if_true, zaq, hx, Option.bind_some, ze1, zA (show i < 4611686018427387904 by omega), zeK hk hi]
        rw [List.drop_eq_getElem_cons hlt, zbP]
        by_cases he : s[i] = c
        · simp only [he, beq_self_eq_true, if_true, zcn (n := acc.length) (m := 1) (b := 16) (by omega) (by omega)]
          rw [ih (i + 1) (i + 1) _ (by omega) (by omega) (by simp; omega) (by omega)]
          have e0 : (s.take (i + 1)).drop (i + 1) = [] := by simp
          rw [e0, zmz _ (zca _ _)]
          simp [zgf]
        · have hb : (s[i] == c) = false := beq_eq_false_iff_ne.2 he
          simp only [hb, Bool.false_eq_true, if_false, he]
          rw [ih (i + 1) k _ (by omega) (by omega) (by omega) (by omega), ht, zl7 _ _ _ (zca _ _)]
      · have : i = s.length := by omega
        subst this
        simp only [Int.lt_irrefl, decide_false, Bool.false_eq_true, if_false, zc1 hk, Option.bind_some, zcn (n := acc.length) (m := 1) (b := 16) (by omega) (by omega), if_true]
        simp [zu, zgf]
  have := key fuel 0 0 [] (Nat.le_refl _) (Nat.zero_le _) (Nat.le_refl _) (by unfold fuel; omega)
  simp only [Int.natCast_zero, List.nil_append, List.take_zero, List.drop_nil, List.drop_zero] at this
  rw [this, zmz _ (zca _ _)]
end Go.Dm
end
section
namespace Go.Dm
theorem zvH {b : Nat} : ∀ {x : List Nat}, x ≠ [] → x.head? ≠ some 0 → b ^ (x.length - 1) ≤ zba b x
  | [], h, _ => absurd rfl h
  | y :: t, _, h0 => by
    have hy : 1 ≤ y := by
      rcases Nat.eq_zero_or_pos y with e | e
      · subst e; simp at h0
      · exact e
    rw [ziy, List.length_cons, Nat.add_sub_cancel]
    have := Nat.mul_le_mul_right (b ^ t.length) hy
    rw [Nat.one_mul] at this; omega
theorem ztE {k n : Nat} (hk : 1 ≤ k) (h64 : n < 2 ^ 64) (hn : n < 10 ^ k) : (zhd 10 n).length ≤ k := by
  rcases zqN (b := 10) (by decide) n h64 with e | e
  · subst e; rw [zd2 (by decide)]; exact hk
  · have h1 := zvH (b := 10) zrk e
    rw [zsc (by decide) n h64] at h1
    rcases Nat.lt_or_ge k (zhd 10 n).length with h | h
    · have : 10 ^ k ≤ 10 ^ ((zhd 10 n).length - 1) := Nat.pow_le_pow_right (by decide) (by omega)
      omega
    · exact h
def zdx (s : Str) (most : Int) : Bool := (zeL 10 s most).2 == 0 && zo4 10 (zeL 10 s most).1 == s
theorem zk6 {b : Nat} {s : Str} {most : Int} (h : (zeL b s most).2 = 0) (hm : most < 4611686018427387904) : 0 ≤ (zeL b s most).1 ∧ (zeL b s most).1 ≤ most ∧ inI (zeL b s most).1 = true := by
  unfold zeL at *
  split at h
  · cases h
  · rename_i h1
    rw [if_neg h1]
    split at h
    · cases h
    · rename_i h2
      rw [if_neg h2]
      refine ⟨by simp only; omega, by simp only; omega, by rw [zje]; simp only; omega⟩
theorem zjc (s : Str) (most : Int) (hs : s.length < 1000000000) (hm : most < 4611686018427387904) (hm0 : -4611686018427387904 < most) : zcO s most = some (zdx s most) := by
  unfold zcO zdx
  rw [ziF s most hs hm hm0, Option.bind_some]
  by_cases h : (zeL 10 s most).2 = 0
  · have hi := (zk6 h hm).2.2
    simp [h, zon _ hi, zb8]
  · simp [h, zb8]
theorem zk7 (s : Str) (most : Int) (hs : s.length < 1000000000) (hm : most < 100000) (hm0 : -4611686018427387904 < most) : zgu s most = some (if zdx s most then (zeL 10 s most).1 else -1) := by
  unfold zgu
  have hR := zqb (b := 10) (.inl rfl) s most hs (by omega) hm0
  rw [show ((10 : Nat) : Int) = 10 from rfl] at hR
  by_cases hl : 5 < (s.length : Int)
  · have : zdx s most = false := by
      rw [Bool.eq_false_iff]
      intro h
      unfold zdx at h
      simp only [Bool.and_eq_true, beq_iff_eq] at h
      obtain ⟨h1, h2⟩ := h
      obtain ⟨g1, g2, g3⟩ := zk6 (b := 10) h1 (by omega)
      have hlen := congrArg List.length h2
      unfold zo4 at hlen
      rw [if_neg (by omega), zjK] at hlen
      have := ztE (k := 5) (n := (zeL 10 s most).1.toNat) (by decide) (by omega) (by omega)
      omega
    simp [hl, this]
  · simp only [hl, decide_false, Bool.false_eq_true, if_false, hR, Option.bind_some]
    unfold zdx
    by_cases h : (zeL 10 s most).2 = 0
    · have hi := (zk6 h (by omega)).2.2
      have hT := zqa (b := 10) (.inl rfl) _ hi
      rw [show ((10 : Nat) : Int) = 10 from rfl] at hT
      simp only [h, beq_self_eq_true, Bool.not_true, Bool.false_eq_true, if_false, hT, Option.bind_some, zdK, Bool.true_and]
      rcases zgn (zo4 10 (zeL 10 s most).1 == s) with h2 | h2 <;> rw [h2] <;> simp
    · have h' : ((zeL 10 s most).2 == 0) = false := beq_eq_false_iff_ne.2 h
      simp [h', zdK]
def zcY (s : Str) : Bool := (zu 46 s).all (fun x => zdx x 255) && decide (((zu 46 s).length : Int) = 4)
theorem zqV {α β : Type} {f : α → Option β} {g : α → β} : ∀ {l : List α}, (∀ x ∈ l, f x = some (g x)) → l.mapM f = some (l.map g)
  | [], _ => rfl
  | x :: l, h => by
    rw [List.mapM_cons, h x (List.mem_cons_self ..), zqV fun y hy => h y (List.mem_cons_of_mem _ hy)]; rfl
theorem zfk (s : Str) (hs : s.length < 1000000000) : zbf s = some (zcY s) := by
  unfold zbf zcY
  rw [if_pos hs, zqV (g := fun x => zdx x 255) fun x hx => zjc x 255 (by have := (zdV hx).2.1; omega) (by decide) (by decide)]
  simp only [Option.bind_some, List.length_map, List.all_map]
  rfl
theorem zhy (s : Str) (hs : s.length < 1000000000) : ze7 s = some (zcY s) := by
  unfold ze7 zcY
  rw [ziO s 46 hs, Option.bind_some]
  have hlen := zgm 46 s
  have hm := fun x (h : x ∈ zu 46 s) => (zdV h).2.1
  generalize zu 46 s = l at *
  rw [zke l (zcC l) (fun x r => if zdx x 255 = true then r else some false) (some (decide ((l.length : Int) = 4))) (by omega)]
  · exact zme _ _ _
  · intro n; rw [zcC]; simp only [Int.lt_irrefl, decide_false, Bool.false_eq_true, if_false]
    rw [show ((l.length : Int) == 4) = decide ((l.length : Int) = 4) from rfl]
  · intro n i x hi hx
    have hxl := hm x (List.mem_of_getElem? hx)
    rw [zcC]
    simp only [Int.ofNat_lt, hi, decide_true, if_true, zdw, hx, Option.bind_some, zk7 x 255 (by omega) (by decide) (by decide), zA (show i < 4611686018427387904 by omega)]
    rcases zgn (zdx x 255) with h | h
    · have h2 : (zeL 10 x 255).2 = 0 := by unfold zdx at h; simp at h; exact h.1
      have h3 := (zk6 h2 (by decide)).1
      have h4 : ¬ (zeL 10 x 255).1 < 0 := by omega
      rw [h]; simp [h4]
    · rw [h]; simp
def zjQ : Str → Bool
  | [] => true
  | c :: s => if c == 37 then (match s with
    | a :: b :: r => zin a && zin b && zjQ r
    | _ => false) else (zkm c || zrM c) && zjQ s
theorem zqW (s : Str) : zjQ (37 :: s) = (match s with | a :: b :: r => zin a && zin b && zjQ r | _ => false) := by
  rw [zjQ.eq_def]
  match s with
  | [] => rfl
  | [_] => rfl
  | _ :: _ :: _ => rfl
theorem zqX (c : UInt8) (s : Str) (h : (c == 37) = false) : zjQ (c :: s) = ((zkm c || zrM c) && zjQ s) := by
  rw [zjQ.eq_def]; simp only [h, Bool.false_eq_true, if_false]
def zkh (s : Str) : Bool := !(s == []) && zjQ s
theorem zny (s : Str) (hs : s.length < 1000000000) : zds s = some (zkh s) := by
  unfold zds zkh
  rcases zgn (s == []) with h0 | h0
  · rw [h0]; simp
  rw [h0]
  simp only [Bool.false_eq_true, if_false, Bool.not_false, Bool.true_and]
  have key : ∀ (n : Nat) (s : Str), s.length < n → s.length < 1000000000 → zaw n s = some (zjQ s) := by
    intro n
    induction n with
    | zero => intro s h; omega
    | succ n ih =>
      intro s h hs
      rw [zaw]
      cases s with
      | nil => simp [zjQ]
      | cons c s =>
        have h1 : ((c :: s == ([] : Str))) = false := rfl
        have e1 : zdW (c :: s) 1 = some s := by
          have := zc1 (l := c :: s) (i := 1) (by simp)
          simpa using this
        simp only [List.length_cons] at h hs
        simp only [h1, Bool.not_false, if_true, zfs, zr9, List.getElem?_cons_zero, Option.bind_some, zkM, zpB, zdH, e1, ih s (by omega) (by omega), Bool.false_eq_true, if_false]
        rcases zgn (c == 37) with hc | hc
        · have : c = 37 := by simpa using hc
          subst this
          have hu : zkm 37 = false := by decide
          have hb : zrM 37 = false := by decide
          rw [zqW]
          match s, h, hs with
          | [], _, _ => simp [hu, hb, zah]
          | [a], _, _ => simp [hu, hb, zah]
          | a :: b :: r, h, hs =>
            have h2 : (3 : Int) ≤ ((37 :: a :: b :: r : Str).length : Int) := by simp only [List.length_cons]; omega
            have e3 : zdW (37 :: a :: b :: r) 3 = some r := by
              have := zc1 (l := 37 :: a :: b :: r) (i := 3) (by simp)
              simpa using this
            have e2 : zfH (37 :: a :: b :: r) 1 3 = some [a, b] := by
              have := zeK (l := 37 :: a :: b :: r) (i := 1) (h := 3) (by decide) (by simp)
              simpa using this
            simp only [List.length_cons] at h hs
            simp only [h2, decide_true, if_true, beq_self_eq_true, e2, Option.bind_some, zet zlh [a, b] (by simp), zah, e3, ih r (by omega) (by omega), hu, hb, Bool.false_eq_true, if_false]
            cases ha : zin a <;> cases hb : zin b <;> simp [ha, hb]
        · rw [zqX c s hc, hc]
          simp only [Bool.false_eq_true, if_false, zah]
          have : (if (decide ((3 : Int) ≤ ((c :: s).length : Int))) = true then some false else some false) = some false := by split <;> rfl
          rw [this]
          simp only [Option.bind_some, Bool.false_eq_true, if_false]
          cases hp : zkm c <;> cases hq : zrM c <;> simp
  exact key fuel s (zt8 (by omega)) hs
theorem znz (rec1 : Int → Option Bool) (i : Nat) (t : Bool) (hi : i < 4000000000) : zbU rec1 (i : Int) t = if t = true then some false else rec1 ((i + 3 : Nat) : Int) := by
  unfold zbU zey
  have i2 : zK (i : Int) 2 = some ((i + 2 : Nat) : Int) := by rw [zhw (by omega) (by omega)]; simp
  have i3 : zK ((i + 2 : Nat) : Int) 1 = some ((i + 3 : Nat) : Int) := zA (i := i + 2) (by omega)
  rw [i2, Option.bind_some, i3, Option.bind_some]
theorem zqi (s : Str) (hs : s.length < 1000000000) : ziZ s = some (zkh s) := by
  unfold ziZ zkh
  have key : ∀ (n i : Nat), i ≤ s.length → s.length - i < n → zaf s n (i : Int) = some (zjQ (s.drop i) && !(s == [])) := by
    intro n
    induction n with
    | zero => intro i _ h; omega
    | succ n ih =>
      intro i hi h
      rw [zaf]
      cases hd : s.drop i with
      | nil =>
        have : i = s.length := by have := congrArg List.length hd; simp at this; omega
        subst this
        simp only [Int.lt_irrefl, decide_false, Bool.false_eq_true, if_false, zjQ, Bool.true_and]
        cases s <;> simp
      | cons c t =>
        have hlt : i < s.length := by have := congrArg List.length hd; simp at this; omega
        have hx : s[i]? = some c := by have := congrArg (·[0]?) hd; simpa using this
        have ht : s.drop (i + 1) = t := by rw [← List.drop_drop, hd]; rfl
        have htl : t.length = s.length - (i + 1) := by rw [← ht]; simp
        have i2 : zK (i : Int) 2 = some ((i + 2 : Nat) : Int) := by rw [zhw (by omega) (by omega)]; simp
        simp only [Int.ofNat_lt, hlt, decide_true, if_true, zaq, hx, Option.bind_some, zA (show i < 4611686018427387904 by omega), i2]
        rcases zgn (c == 37) with hc | hc
        · have : c = 37 := by simpa using hc
          subst this
          rw [zqW]
          match t, ht, htl with
          | [], ht, htl =>
            have : (s.length : Int) ≤ ((i + 2 : Nat) : Int) := by simp at htl; omega
            simp only [beq_self_eq_true, if_true, this, decide_true, zbU, Bool.false_and]
          | [a], ht, htl =>
            have : (s.length : Int) ≤ ((i + 2 : Nat) : Int) := by simp at htl; omega
            simp only [beq_self_eq_true, if_true, this, decide_true, zbU, Bool.false_and]
          | a :: b :: r, ht, htl =>
            have hlt2 : ¬ (s.length : Int) ≤ ((i + 2 : Nat) : Int) := by simp at htl; omega
            have ha : s[i + 1]? = some a := by have := congrArg (·[0]?) ht; simpa using this
            have hb : s[i + 2]? = some b := by have := congrArg (·[1]?) ht; simpa using this
            have hr : s.drop (i + 3) = r := by
              have : (s.drop (i + 1)).drop 2 = r := by rw [ht]; rfl
              rwa [List.drop_drop] at this
            have hi3 : i + 3 ≤ s.length := by simp at htl; omega
            have hih := ih (i + 3) hi3 (by omega)
            rw [hr] at hih
            have hj := znz (zaf s n) i
            simp only [beq_self_eq_true, if_true, hlt2, decide_false, Bool.false_eq_true, if_false, zaq, ha, hb, Option.bind_some, zm6, hj _ (by omega), hih]
            cases zin a <;> cases zin b <;> simp
        · rw [zqX c t hc, hc]
          have hih := ih (i + 1) (by omega) (by omega)
          rw [ht] at hih
          simp only [Bool.false_eq_true, if_false, zlV, zrO, Option.bind_some, zfN, zey, zA (show i < 4611686018427387904 by omega), hih]
          cases zkm c <;> cases zrM c <;> simp
  have := key fuel 0 (Nat.zero_le _) (by unfold fuel; omega)
  simp only [Int.natCast_zero, List.drop_zero] at this
  rw [this, Bool.and_comm]
def under (a b : Str) : Bool := zkh a && zkh b && !zcY a && !zcY b && (low a == low b || ((46 :: low b) : Str).isSuffixOf (low a))
end Go.Dm
end
section
namespace Go.Dm
def zgy (t : Str) : Str → Option (Str × Str)
  | [] => none
  | x :: s => if t.isPrefixOf (x :: s) then some ([], (x :: s).drop t.length) else (zgy t s).map fun p => (x :: p.1, p.2)
theorem zkz {t : Str} : ∀ {s a b : Str}, zgy t s = some (a, b) → s = a ++ t ++ b
  | [], _, _, h => by cases h
  | x :: s, a, b, h => by
    rw [zgy] at h
    split at h
    · rename_i hp
      obtain ⟨r, hr⟩ := List.isPrefixOf_iff_prefix.1 hp
      simp only [Option.some.injEq, Prod.mk.injEq] at h
      obtain ⟨rfl, rfl⟩ := h
      rw [← hr]; simp
    · cases hc : zgy t s with
      | none => rw [hc] at h; cases h
      | some p =>
        rw [hc] at h
        simp only [Option.map_some, Option.some.injEq, Prod.mk.injEq] at h
        obtain ⟨rfl, rfl⟩ := h
        have := zkz (a := p.1) (b := p.2) hc
        rw [List.cons_append, List.cons_append, ← this]
theorem zq4 {t : Str} (ht : t ≠ []) : ∀ s : Str, Go.Lib.index s t = match zgy t s with | none => -1 | some p => (p.1.length : Int)
  | [] => by
    cases t with
    | nil => exact absurd rfl ht
    | cons y t => rfl
  | x :: s => by
    rw [Go.Lib.index, zgy, zq4 ht s]
    cases t.isPrefixOf (x :: s) with
    | true => rfl
    | false =>
      cases zgy t s with
      | none => rfl
      | some p =>
        simp only [Bool.false_eq_true, if_false, Option.map_some, List.length_cons]
        have : ((p.1.length : Int) == -1) = false := beq_eq_false_iff_ne.2 (by omega)
        rw [this]
        simp
theorem zpV (s t : Str) (hs : s.length < 1000000000) (ht : t ≠ []) : strings_Cut s t = some (match zgy t s with | none => (s, [], false) | some p => (p.1, p.2, true)) := by
  unfold strings_Cut Go.Lib.cut
  rw [if_pos (by omega), zq4 ht]
  congr 1
  cases hc : zgy t s with
  | none => rfl
  | some p =>
    have e := zkz (a := p.1) (b := p.2) hc
    have h0 : (0 : Int) ≤ (p.1.length : Int) := by omega
    simp only [h0, if_true, Int.toNat_natCast]
    have e1 : s.take p.1.length = p.1 := by rw [e, List.append_assoc, List.take_left']; rfl
    have e2 : s.drop (p.1.length + t.length) = p.2 := by rw [e, List.drop_left']; simp
    rw [e1, e2]
def grp (x : Str) : Bool := decide (1 ≤ x.length) && decide (x.length ≤ 4) && x.all zin
def zW (last : Bool) : List Str → Option Nat
  | [] => some 0
  | [x] => if last && zcY x then some 2 else if grp x then some 1 else none
  | x :: y :: l => if grp x then (zW last (y :: l)).map (· + 1) else none
theorem zmJ (last : Bool) : ∀ (l m : List Str), m ≠ [] → zW last (l ++ m) = (zW false l).bind fun a => (zW last m).map (· + a)
  | [], m, _ => by simp [zW]
  | [x], m, hm => by
    cases m with
    | nil => exact absurd rfl hm
    | cons y m =>
      show zW last (x :: y :: m) = _
      rw [zW, zW]
      cases grp x <;> simp
  | x :: y :: l, m, hm => by
    show zW last (x :: y :: (l ++ m)) = _
    have ih := zmJ last (y :: l) m hm
    rw [zW, zW]
    rw [List.cons_append] at ih
    rw [ih]
    cases grp x with
    | false => rfl
    | true =>
      simp only [if_true]
      cases zW false (y :: l) with
      | none => rfl
      | some a =>
        cases zW last m with
        | none => rfl
        | some b => simp; omega
def zpW (a : Nat) : Option Nat → Int
  | none => -1
  | some k => ((a + k : Nat) : Int)
theorem zni (rec1 : Int → Int → Option Int) (a i : Nat) (hi : i < 4000000000) : zbJ rec1 (i : Int) (a : Int) = rec1 (a : Int) ((i + 1 : Nat) : Int) := by
  unfold zbJ; rw [zA (by omega), Option.bind_some]
theorem znj (rec1 : Int → Int → Option Int) (a i : Nat) (t : Bool) (hi : i < 4000000000) (ha : a < 4000000000) : za5 rec1 (a : Int) (i : Int) t = if t = true then rec1 ((a + 1 : Nat) : Int) ((i + 1 : Nat) : Int) else some (-1) := by
  unfold za5
  rw [zA (by omega), Option.bind_some, zni rec1 (a + 1) i hi]
theorem zr6 (rec1 : Int → Int → Option Int) (a i : Nat) (x : Str) (t : Bool) (hi : i < 4000000000) (ha : a < 4000000000) (hx : x.length < 1000000000) :
    za6 rec1 (a : Int) (i : Int) x t = if t = true then rec1 ((a + 2 : Nat) : Int) ((i + 1 : Nat) : Int) else if grp x = true then rec1 ((a + 1 : Nat) : Int) ((i + 1 : Nat) : Int) else some (-1) := by
  unfold za6 grp
  have i2 : zK (a : Int) 2 = some ((a + 2 : Nat) : Int) := by rw [zhw (by omega) (by omega)]; simp
  have e1 : decide ((1 : Int) ≤ (x.length : Int)) = decide (1 ≤ x.length) := decide_eq_decide.2 (by omega)
  have e2 : decide ((x.length : Int) ≤ 4) = decide (x.length ≤ 4) := decide_eq_decide.2 (by omega)
  rw [i2, Option.bind_some, zni rec1 (a + 2) i hi, zet zlh x hx, Option.bind_some, znj rec1 a i _ hi ha, znj rec1 a i _ hi ha, e1, e2]
  generalize rec1 _ _ = r1
  generalize rec1 _ _ = r2
  generalize decide (1 ≤ x.length) = d1
  generalize decide (x.length ≤ 4) = d2
  generalize x.all zin = d3
  cases t <;> cases d1 <;> cases d2 <;> cases d3 <;> rfl
theorem zkA (last : Bool) (x : Str) : zW last [x] = if last && zcY x then some 2 else if grp x then some 1 else none := rfl
theorem zjq (last : Bool) (x y : Str) (l : List Str) : zW last (x :: y :: l) = if grp x then (zW last (y :: l)).map (· + 1) else none := rfl
theorem zvd (a : Nat) (o : Option Nat) : zpW a (o.map (· + 1)) = zpW (a + 1) o := by
  cases o with
  | none => rfl
  | some k => simp only [Option.map_some, zpW]; congr 1; omega
theorem zkB (last : Bool) (l : List Str) (hl : l.length < 1000000000) (hx : ∀ x ∈ l, x.length < 1000000000) : ∀ (n i a : Nat), i ≤ l.length → l.length - i < n → a ≤ 2 * i → zT last l n (a : Int) (i : Int) = some (zpW a (zW last (l.drop i)))
  | 0, _, _, _, h, _ => by omega
  | n + 1, i, a, hi, h, ha => by
    rw [zT]
    cases hd : l.drop i with
    | nil =>
      have : i = l.length := by have := congrArg List.length hd; simp at this; omega
      subst this
      simp [zW, zpW]
    | cons x t =>
      have hlt : i < l.length := by have := congrArg List.length hd; simp at this; omega
      have hxx : l[i]? = some x := by have := congrArg (·[0]?) hd; simpa using this
      have ht : l.drop (i + 1) = t := by rw [← List.drop_drop, hd]; rfl
      have htl : t.length = l.length - (i + 1) := by rw [← ht]; simp
      have hxl := hx x (List.mem_of_getElem? hxx)
      have hsub : zcZ (l.length : Int) 1 = some ((l.length - 1 : Nat) : Int) := by rw [zcm (by omega) (by omega)]; congr 1; omega
      have ih1 := zkB last l hl hx n (i + 1) (a + 1) (by omega) (by omega) (by omega)
      have ih2 := zkB last l hl hx n (i + 1) (a + 2) (by omega) (by omega) (by omega)
      rw [ht] at ih1 ih2
      have j2 := fun t => zr6 (zT last l n) a i x t (by omega) (by omega) hxl
      simp only [Int.ofNat_lt, hlt, decide_true, if_true, zdw, hxx, Option.bind_some, hsub, zfk x hxl, j2, ih1, ih2]
      cases t with
      | nil =>
        have hei : ((i : Int) == ((l.length - 1 : Nat) : Int)) = true := by simp at htl; simp; omega
        rw [hei, zkA]
        have en : ∀ b, zW b [] = some 0 := fun _ => rfl
        rw [en]
        cases last <;> cases zcY x <;> cases grp x <;> rfl
      | cons y t =>
        have hei : ((i : Int) == ((l.length - 1 : Nat) : Int)) = false := by simp at htl; simp; omega
        rw [hei, zjq]
        have := zvd a (zW last (y :: t))
        have hn : zpW a none = -1 := rfl
        cases last <;> cases grp x <;> simp only [if_true, Bool.false_eq_true, if_false, this, hn]
def za0 (s : Str) : List Str := if s = [] then [] else zu 58 s
theorem znY (s : Str) (last : Bool) (hs : s.length < 900000000) : zcc s last = some (zpW 0 (zW last (za0 s))) := by
  unfold zcc za0
  by_cases h0 : s = []
  · subst h0; rfl
  · have h1 : (s == []) = false := beq_eq_false_iff_ne.2 h0
    rw [h1, if_neg h0]
    have hl := zgm 58 s
    simp only [Bool.false_eq_true, if_false, znD s 58 (by omega), Option.bind_some]
    have := zkB last (zu 58 s) (by omega) (fun x hx => by have := (zdV hx).2.1; omega) fuel 0 0 (by omega) (by unfold fuel; omega) (by omega)
    simpa using this
theorem zq5 (last : Bool) : ∀ (l : List Str) (k : Nat), zW last l = some k → k ≤ l.length + 1
  | [], k, h => by cases h; omega
  | [x], k, h => by
    rw [zkA] at h
    split at h
    · cases h; simp
    · split at h
      · cases h; simp
      · cases h
  | x :: y :: l, k, h => by
    rw [zjq] at h
    split at h
    · obtain ⟨j, hj, rfl⟩ := Option.map_eq_some_iff.1 h
      have := zq5 last (y :: l) j hj
      simp only [List.length_cons] at this ⊢
      omega
    · cases h
theorem znk (s : Str) (last : Bool) (hs : s.length < 900000000) (k : Nat) (h : zW last (za0 s) = some k) : k < 1000000000 := by
  have h1 := zq5 last _ k h
  have h2 := zgm 58 s
  unfold za0 at h1
  split at h1
  · simp at h1; omega
  · omega
def zhc (s : Str) : Bool := zW true (zu 58 s) == some 8
def zlG (s : Str) : Bool := match zgy [58, 58] s with
  | none => zhc s
  | some p => match zW false (za0 p.1), zW true (za0 p.2) with
    | some a, some b => decide (a + b ≤ 7)
    | _, _ => false
theorem zt2 (s : Str) (hs : s.length < 900000000) : zdi s = some (zlG s) := by
  unfold zdi zlG
  rw [zpV s [58, 58] (by omega) (by simp), Option.bind_some]
  cases hc : zgy [58, 58] s with
  | none =>
    simp only [Bool.not_false, if_true, znY s true hs, Option.bind_some, zhc]
    unfold za0
    split
    · rename_i h; subst h; rfl
    · cases zW true (zu 58 s) with
      | none => rfl
      | some k =>
        simp only [zpW, Nat.zero_add, Option.some.injEq]
        by_cases h : k = 8
        · subst h; rfl
        · have h1 : ((k : Int) == 8) = false := beq_eq_false_iff_ne.2 (by omega)
          rw [h1]; simp [h]
  | some p =>
    have e := congrArg List.length (zkz (a := p.1) (b := p.2) hc)
    simp only [List.length_append] at e
    simp only [Bool.not_true, Bool.false_eq_true, if_false, znY p.1 false (by omega), znY p.2 true (by omega), Option.bind_some]
    cases ha : zW false (za0 p.1) with
    | none => simp [zpW, zbz]
    | some a =>
      cases hb : zW true (za0 p.2) with
      | none => simp [zpW, zbz]
      | some b =>
        have hb' := (znk p.1 false (by omega) a ha)
        have hb2 := (znk p.2 true (by omega) b hb)
        simp only [zpW, Nat.zero_add]
        have e0 : decide ((0 : Int) ≤ (a : Int)) = true := by simp
        have e1 : decide ((0 : Int) ≤ (b : Int)) = true := by simp
        rw [e0, e1, if_pos rfl, if_pos rfl, zvn (by omega), Option.bind_some]
        unfold zbz
        congr 1
        exact decide_eq_decide.2 (by omega)
theorem ztm (rec1 : Int → Int → Option Bool) (l : List Str) (a i : Nat) (x : Str) (hx : l[i]? = some x) (hxl : x.length < 1000000000) (hi : i < 2000000000) (ha : a < 4000000000) :
    zb4 rec1 l (a : Int) (i : Int) fuel 0 = if grp x = true then rec1 ((a + 1 : Nat) : Int) ((i + 1 : Nat) : Int) else some false := by
  have key : ∀ (n j : Nat), j ≤ x.length → x.length - j < n → zb4 rec1 l (a : Int) (i : Int) n (j : Int) = if (x.drop j).all zin = true then (if (decide (1 ≤ x.length) && decide (x.length ≤ 4)) = true then rec1 ((a + 1 : Nat) : Int) ((i + 1 : Nat) : Int) else some false) else some false := by
    intro n
    induction n with
    | zero => intro j _ h; omega
    | succ n ih =>
      intro j hj h
      rw [zb4]
      rw [zdw, hx]
      simp only [Option.bind_some]
      by_cases hlt : j < x.length
      · have e : decide ((j : Int) < (x.length : Int)) = true := decide_eq_true (by omega)
        have hc : x[j]? = some x[j] := List.getElem?_eq_getElem hlt
        rw [e, if_pos rfl, zaq, hc, Option.bind_some, zm6, Option.bind_some, zA (by omega), Option.bind_some, ih (j + 1) (by omega) (by omega), List.drop_eq_getElem_cons hlt, List.all_cons]
        cases zin x[j] <;> rfl
      · have hjl : j = x.length := by omega
        subst hjl
        have e : decide ((x.length : Int) < (x.length : Int)) = false := decide_eq_false (by omega)
        have e1 : decide ((x.length : Int) < 1) = !decide (1 ≤ x.length) := by rw [← decide_not]; exact decide_eq_decide.2 (by omega)
        have e2 : decide (4 < (x.length : Int)) = !decide (x.length ≤ 4) := by rw [← decide_not]; exact decide_eq_decide.2 (by omega)
        rw [e, if_neg (by decide), List.drop_length, e1, e2]
        unfold ze8 zdL
        rw [zA (by omega), Option.bind_some, zA (by omega), Option.bind_some]
        generalize rec1 _ _ = r1
        generalize decide (1 ≤ x.length) = d1
        generalize decide (x.length ≤ 4) = d2
        cases d1 <;> cases d2 <;> rfl
  have := key fuel 0 (Nat.zero_le _) (by unfold fuel; omega)
  rw [show (0 : Int) = ((0 : Nat) : Int) from rfl, this, List.drop_zero]
  unfold grp
  generalize rec1 _ _ = r1
  generalize decide (1 ≤ x.length) = d1
  generalize decide (x.length ≤ 4) = d2
  generalize x.all zin = d3
  cases d1 <;> cases d2 <;> cases d3 <;> rfl
def isW (a : Nat) : Option Nat → Bool
  | none => false
  | some k => a + k == 8
theorem zwF (a : Nat) (o : Option Nat) : isW a (o.map (· + 1)) = isW (a + 1) o := by
  cases o with
  | none => rfl
  | some k => simp only [Option.map_some, isW]; congr 1; omega
theorem zlH (l : List Str) (hl : l.length < 1000000000) (hx : ∀ x ∈ l, x.length < 1000000000) : ∀ (n i a : Nat), i ≤ l.length → l.length - i < n → a ≤ 2 * i → zak l n (a : Int) (i : Int) = some (isW a (zW true (l.drop i)))
  | 0, _, _, _, h, _ => by omega
  | n + 1, i, a, hi, h, ha => by
    rw [zak]
    cases hd : l.drop i with
    | nil =>
      have : i = l.length := by have := congrArg List.length hd; simp at this; omega
      subst this
      have e : decide ((l.length : Int) < (l.length : Int)) = false := decide_eq_false (by omega)
      rw [e, if_neg (by decide)]
      show some ((a : Int) == 8) = some (a + 0 == 8)
      congr 1
      by_cases h8 : a = 8
      · subst h8; rfl
      · rw [beq_eq_false_iff_ne.2 (show (a : Int) ≠ 8 by omega), beq_eq_false_iff_ne.2 (show a + 0 ≠ 8 by omega)]
    | cons x t =>
      have hlt : i < l.length := by have := congrArg List.length hd; simp at this; omega
      have hxx : l[i]? = some x := by have := congrArg (·[0]?) hd; simpa using this
      have ht : l.drop (i + 1) = t := by rw [← List.drop_drop, hd]; rfl
      have htl : t.length = l.length - (i + 1) := by rw [← ht]; simp
      have hxl := hx x (List.mem_of_getElem? hxx)
      have hsub : zcZ (l.length : Int) 1 = some ((l.length - 1 : Nat) : Int) := by rw [zcm (by omega) (by omega)]; congr 1; omega
      have ih1 := zlH l hl hx n (i + 1) (a + 1) (by omega) (by omega) (by omega)
      have ih2 := zlH l hl hx n (i + 1) (a + 2) (by omega) (by omega) (by omega)
      rw [ht] at ih1 ih2
      have e : decide ((i : Int) < (l.length : Int)) = true := decide_eq_true (by omega)
      have i2 : zK (a : Int) 2 = some ((a + 2 : Nat) : Int) := by rw [zhw (by omega) (by omega)]; simp
      have j2 : ∀ t, zdM (zak l n) l (a : Int) (i : Int) t = if t = true then some (isW (a + 2) (zW true (l.drop (i + 1)))) else if grp x = true then some (isW (a + 1) (zW true (l.drop (i + 1)))) else some false := by
        intro t
        unfold zdM zdL
        rw [i2, Option.bind_some, zA (by omega), Option.bind_some, ztm _ l a i x hxx hxl (by omega) (by omega), ht, ih1, ih2]
      rw [e, if_pos rfl, hsub, Option.bind_some, zdw, hxx, Option.bind_some, zhy x hxl, Option.bind_some, j2, j2, ht]
      cases t with
      | nil =>
        have hei : ((i : Int) == ((l.length - 1 : Nat) : Int)) = true := by simp at htl; simp; omega
        rw [hei, zkA]
        have en : ∀ b, zW b [] = some 0 := fun _ => rfl
        rw [en]
        cases zcY x <;> cases grp x <;> rfl
      | cons y t =>
        have hei : ((i : Int) == ((l.length - 1 : Nat) : Int)) = false := by simp at htl; simp; omega
        rw [hei, zjq]
        have := zwF a (zW true (y :: t))
        have hn : isW a none = false := rfl
        cases grp x <;> simp only [if_true, Bool.false_eq_true, if_false, this, hn]
theorem ztn (s : Str) (hs : s.length < 900000000) : zgv s = some (zhc s) := by
  unfold zgv zhc
  have hl := zgm 58 s
  rw [ziO s 58 (by omega), Option.bind_some]
  have := zlH (zu 58 s) (by omega) (fun x hx => by have := (zdV hx).2.1; omega) fuel 0 0 (by omega) (by unfold fuel; omega) (by omega)
  rw [List.drop_zero] at this
  rw [show (0 : Int) = ((0 : Nat) : Int) from rfl, this]
  congr 1
  cases zW true (zu 58 s) with
  | none => rfl
  | some k => simp only [isW, Nat.zero_add]; exact (Option.some_beq_some ..).symm
def zpX : Nat → Str → Str
  | 0, s => s
  | k + 1, s => zpX k (if s = [] then [48] else s ++ [58, 48])
def zto (s b : Str) : Str := if b = [] then s else s ++ 58 :: b
theorem zt3 (p : Str) (l m : List Str) (h : l ≠ []) : zgf p (l ++ m) = zgf p l ++ m := by
  cases l with
  | nil => exact absurd rfl h
  | cons x l => rfl
theorem zlI (c : UInt8) : ∀ x y : Str, zu c (x ++ c :: y) = zu c x ++ zu c y
  | [], y => by rw [List.nil_append, zbP, if_pos rfl]; rfl
  | z :: x, y => by
    rw [List.cons_append, zbP, zbP, zlI c x y]
    split
    · rfl
    · rw [zt3 _ _ _ (zca c x)]
theorem zkC : ∀ (k : Nat) (s : Str), s ≠ [] → zu 58 (zpX k s) = zu 58 s ++ List.replicate k [48]
  | 0, s, _ => by simp [zpX]
  | k + 1, s, h => by
    rw [zpX, if_neg h, zkC k _ (by simp), show s ++ [58, 48] = s ++ (58 : UInt8) :: [48] from rfl, zlI, List.append_assoc]
    rfl
theorem zpY (k : Nat) (s : Str) : zu 58 (zpX (k + 1) s) = za0 s ++ List.replicate (k + 1) [48] := by
  unfold za0
  split
  · rename_i h
    subst h
    rw [zpX, if_pos rfl, zkC k _ (by simp)]
    rfl
  · rename_i h
    rw [zkC _ _ h]
theorem zve : zcY [48] = false := by simp [zcY, zu]
theorem ztp : grp [48] = true := by decide
theorem zlJ (last : Bool) : ∀ k : Nat, zW last (List.replicate (k + 1) [48]) = some (k + 1)
  | 0 => by rw [show List.replicate (0 + 1) ([48] : Str) = [[48]] from rfl, zkA, zve, ztp]; cases last <;> rfl
  | k + 1 => by
    have ih := zlJ last k
    rw [List.replicate_succ] at ih
    rw [List.replicate_succ, List.replicate_succ, zjq, ztp, ih]
    rfl
def znl (k : Nat) (a b : Str) : Bool := match zW false (za0 a), zW true (za0 b) with
  | some x, some y => decide (x + y + k ≤ 8)
  | _, _ => false
def sixE (k : Nat) (a b : Str) : Bool := match zW false (za0 a), zW true (za0 b) with
  | some x, some y => x + y + k == 8
  | _, _ => false
theorem zt4 (k : Nat) (a b : Str) : zhc (zto (zpX (k + 1) a) b) = sixE (k + 1) a b := by
  unfold zhc sixE
  have e : zu 58 (zto (zpX (k + 1) a) b) = za0 a ++ (List.replicate (k + 1) [48] ++ za0 b) := by
    unfold zto
    split
    · rename_i h; subst h; rw [zpY]; simp [za0]
    · rename_i h
      rw [zlI, zpY, List.append_assoc]
      congr 2
      unfold za0; rw [if_neg h]
  rw [e, zmJ _ _ _ (by simp [List.replicate_succ])]
  have e2 : zW true (List.replicate (k + 1) [48] ++ za0 b) = (zW true (za0 b)).map (· + (k + 1)) := by
    by_cases hb : za0 b = []
    · rw [hb, List.append_nil, zlJ]
      simp [zW]
    · rw [zmJ _ _ _ hb, zlJ]; rfl
  rw [e2]
  cases zW false (za0 a) with
  | none => rfl
  | some x =>
    cases zW true (za0 b) with
    | none => rfl
    | some y =>
      simp only [Option.bind_some, Option.map_some]
      have : y + (k + 1) + x = x + y + (k + 1) := by omega
      rw [this]
      exact Option.some_beq_some ..
theorem zq6 (rec3 : Int → Option Bool) (k : Nat) (t : Str) (ht : t.length < 900000000) (hk : k < 100) : zfz rec3 (k : Int) t = if zhc t = true then some true else rec3 ((k + 1 : Nat) : Int) := by
  unfold zfz
  rw [ztn t ht, Option.bind_some, zA (by omega), Option.bind_some]
theorem znZ (rec3 : Int → Option Bool) (s b : Str) (i k : Nat) (hi : i + 2 ≤ s.length) (hs : s.length < 400000000) (hb : s.drop (i + 2) = b) (hk : k < 100) : ∀ (n j : Nat) (t : Str), j ≤ k → k - j < n → t.length ≤ s.length + 2 * j →
    zcu rec3 s (i : Int) (k : Int) n t (j : Int) = if zhc (zto (zpX (k - j) t) b) = true then some true else rec3 ((k + 1 : Nat) : Int)
  | 0, _, _, _, h, _ => by omega
  | n + 1, j, t, hj, h, ht => by
    rw [zcu]
    by_cases hlt : j < k
    · have e : decide ((j : Int) < (k : Int)) = true := decide_eq_true (by omega)
      have hkj : k - j = (k - (j + 1)) + 1 := by omega
      rw [e, if_pos rfl, hkj, zpX]
      unfold zg5
      rw [zA (by omega)]
      simp only [Option.bind_some]
      by_cases h0 : t = []
      · subst h0
        have hn : (!(([] : Str) == [])) = false := rfl
        have := znZ rec3 s b i k hi hs hb hk n (j + 1) [48] (by omega) (by omega) (by simp; omega)
        rw [hn, if_neg (by decide), zam (by simp), Option.bind_some, if_pos rfl]
        exact this
      · have hn : (!(t == [])) = true := by simp [h0]
        have := znZ rec3 s b i k hi hs hb hk n (j + 1) (t ++ [58, 48]) (by omega) (by omega) (by simp; omega)
        rw [hn, if_pos rfl, zam (by simp; omega), Option.bind_some, zam (by simp; omega), Option.bind_some, if_neg h0, List.append_assoc]
        exact this
    · have hjk : j = k := by omega
      subst hjk
      have e : decide ((j : Int) < (j : Int)) = false := decide_eq_false (by omega)
      have i2 : zK (i : Int) 2 = some ((i + 2 : Nat) : Int) := by rw [zhw (by omega) (by omega)]; simp
      have hbl : b.length ≤ s.length := by rw [← hb]; simp
      rw [e, if_neg (by decide), Nat.sub_self, zpX, i2, Option.bind_some, zc1 hi, Option.bind_some, hb]
      unfold zto
      by_cases h0 : b = []
      · subst h0
        have hn : (!(([] : Str) == [])) = false := rfl
        rw [hn, if_neg (by decide), if_pos rfl, zq6 rec3 j t (by omega) hk]
      · have hn : (!(b == [])) = true := by simp [h0]
        rw [hn, if_pos rfl, zam (by simp; omega), Option.bind_some, Option.bind_some, zc1 hi, Option.bind_some, hb, zam (by simp; omega), Option.bind_some, if_neg h0, List.append_assoc]
        exact zq6 rec3 j (t ++ 58 :: b) (by simp; omega) hk
theorem zwH (k : Nat) (a b : Str) : znl k a b = (sixE k a b || znl (k + 1) a b) := by
  unfold znl sixE
  cases zW false (za0 a) with
  | none => rfl
  | some x =>
    cases zW true (za0 b) with
    | none => rfl
    | some y =>
      show decide (x + y + k ≤ 8) = (x + y + k == 8 || decide (x + y + (k + 1) ≤ 8))
      rw [Bool.eq_iff_iff]
      simp only [decide_eq_true_eq, Bool.or_eq_true, beq_iff_eq]
      omega
theorem zq7 (s b : Str) (i : Nat) (hi : i + 2 ≤ s.length) (hs : s.length < 400000000) (hb : s.drop (i + 2) = b) : ∀ (n k : Nat), k ≤ 8 → 8 - k + 1 < n → za1 s (i : Int) n ((k + 1 : Nat) : Int) = some (znl (k + 1) (s.take i) b)
  | 0, _, _, h => by omega
  | n + 1, k, hk, h => by
    rw [za1]
    by_cases hlt : k < 8
    · have e : decide (((k + 1 : Nat) : Int) ≤ 8) = true := decide_eq_true (by omega)
      have ih := zq7 s b i hi hs hb n (k + 1) (by omega) (by omega)
      rw [e, if_pos rfl, zi9 (by omega), Option.bind_some]
      have := znZ (za1 s (i : Int) n) s b i (k + 1) hi hs hb (by omega) fuel 0 (s.take i) (by omega) (by unfold fuel; omega) (by simp; omega)
      rw [Nat.sub_zero] at this
      rw [show (0 : Int) = ((0 : Nat) : Int) from rfl, this, ih, zt4, zwH (k + 1)]
      cases sixE (k + 1) (s.take i) b <;> rfl
    · have : k = 8 := by omega
      subst this
      have e : decide (((8 + 1 : Nat) : Int) ≤ 8) = false := by decide
      rw [e, if_neg (by decide)]
      congr 1
      unfold znl
      cases zW false (za0 (s.take i)) with
      | none => rfl
      | some x =>
        cases zW true (za0 b) with
        | none => rfl
        | some y => exact (decide_eq_false (by omega)).symm
theorem zxr (a b : Str) : znl 1 a b = (match zW false (za0 a), zW true (za0 b) with | some a, some b => decide (a + b ≤ 7) | _, _ => false) := by
  unfold znl
  cases zW false (za0 a) with
  | none => rfl
  | some x =>
    cases zW true (za0 b) with
    | none => rfl
    | some y => exact decide_eq_decide.2 (by omega)
theorem zkD (s : Str) (hs : s.length < 400000000) : zgw s = some (zlG s) := by
  unfold zgw
  have key : ∀ (n i : Nat), i ≤ s.length → s.length - i < n → zcv s n (i : Int) = some (match zgy [58, 58] (s.drop i) with | none => zhc s | some p => znl 1 (s.take (i + p.1.length)) p.2) := by
    intro n
    induction n with
    | zero => intro i _ h; omega
    | succ n ih =>
      intro i hi h
      rw [zcv, zA (by omega), Option.bind_some]
      by_cases hlt : i + 1 < s.length
      · have e : decide (((i + 1 : Nat) : Int) < (s.length : Int)) = true := decide_eq_true (by omega)
        have hd : s.drop i = s[i] :: s[i + 1] :: s.drop (i + 2) := by rw [List.drop_eq_getElem_cons (by omega), List.drop_eq_getElem_cons hlt]
        have hd1 : s.drop (i + 1) = s[i + 1] :: s.drop (i + 2) := List.drop_eq_getElem_cons hlt
        have g0 : s[i]? = some s[i] := List.getElem?_eq_getElem (by omega)
        have g1 : s[i + 1]? = some s[i + 1] := List.getElem?_eq_getElem hlt
        have ih1 := ih (i + 1) (by omega) (by omega)
        have hL3 := zq7 s (s.drop (i + 2)) i (by omega) hs rfl fuel 0 (by omega) (by unfold fuel; omega)
        have next : (match zgy [58, 58] (s[i] :: s.drop (i + 1)) with | none => zhc s | some p => znl 1 (s.take (i + p.1.length)) p.2) = if ([58, 58] : Str).isPrefixOf (s[i] :: s.drop (i + 1)) = true then znl 1 (s.take i) (s.drop (i + 2)) else (match zgy [58, 58] (s.drop (i + 1)) with | none => zhc s | some p => znl 1 (s.take (i + 1 + p.1.length)) p.2) := by
          rw [zgy]
          cases ([58, 58] : Str).isPrefixOf (s[i] :: s.drop (i + 1)) with
          | true =>
            rw [if_pos rfl, if_pos rfl]
            show znl 1 (s.take (i + 0)) (List.drop (1 + 1) (s[i] :: s.drop (i + 1))) = _
            rw [hd1]; rfl
          | false =>
            rw [if_neg (by decide), if_neg (by decide)]
            cases zgy [58, 58] (s.drop (i + 1)) with
            | none => rfl
            | some p =>
              show znl 1 (s.take (i + (p.1.length + 1))) p.2 = _
              rw [show i + (p.1.length + 1) = i + 1 + p.1.length from by omega]
        rw [e, if_pos rfl, zaq, g0, Option.bind_some, Option.bind_some, zaq, g1, Option.bind_some, List.drop_eq_getElem_cons (show i < s.length by omega), next]
        unfold zg6
        rw [zA (by omega), Option.bind_some, ih1]
        have hp : ([58, 58] : Str).isPrefixOf (s[i] :: s.drop (i + 1)) = (s[i] == 58 && s[i + 1] == 58) := by
          rw [hd1]
          simp only [List.isPrefixOf_cons_cons, List.isPrefixOf_nil_left, Bool.and_true]
          rw [znm 58, znm 58]
        rw [hp]
        have hL3' : za1 s (i : Int) fuel 1 = some (znl 1 (s.take i) (s.drop (i + 2))) := hL3
        rw [hL3']
        cases s[i] == 58 <;> cases s[i + 1] == 58 <;> rfl
      · have e : decide (((i + 1 : Nat) : Int) < (s.length : Int)) = false := decide_eq_false (by omega)
        rw [e, if_neg (by decide), ztn s (by omega), Option.bind_some]
        have : zgy [58, 58] (s.drop i) = none := by
          cases hd : s.drop i with
          | nil => rfl
          | cons x t =>
            have : t = [] := by have := congrArg List.length hd; simp at this; exact List.eq_nil_of_length_eq_zero (by omega)
            subst this
            rw [zgy]
            simp [List.isPrefixOf, zgy]
        rw [this]
  have := key fuel 0 (Nat.zero_le _) (by unfold fuel; omega)
  rw [List.drop_zero] at this
  rw [show (0 : Int) = ((0 : Nat) : Int) from rfl, this]
  unfold zlG
  congr 1
  cases hc : zgy [58, 58] s with
  | none => rfl
  | some p =>
    have e := zkz (a := p.1) (b := p.2) hc
    have e1 : s.take (0 + p.1.length) = p.1 := by rw [Nat.zero_add, e, List.append_assoc, List.take_left']; rfl
    simp only [e1]
    exact zxr p.1 p.2
end Go.Dm
end
section
namespace Go.Dm
def zpC (s : Str) : Str := (s.take (s.length - 1)).drop 1
def zkn (s : Str) : Bool := decide (2 < s.length) && s[0]? == some 91 && s[s.length - 1]? == some 93 && zlG (zpC s)
def zfI (s : Str) : Int × Str := if zkn s then (3, zpC s) else if zcY s then (2, s) else if zkh s then (1, s) else (0, s)
theorem zsU (x y : UInt8) : ((some x : Option UInt8) == some y) = (x == y) := Option.some_beq_some ..
theorem zuX (s : Str) : (zpC s).length ≤ s.length := by unfold zpC; simp; omega
theorem zmf {β : Type} (s : Str) (hs : s.length < 400000000) (f : Str → Option Bool) (hf : ∀ t, t.length < 400000000 → f t = some (zlG t)) (J : Bool → Option β) :
    (if (decide (2 < (s.length : Int))) then ((sAt s 0).bind fun b6 => if (b6 == 91) then ((zcZ (s.length : Int) 1).bind fun i8 => (sAt s i8).bind fun b9 => if (b9 == 93) then ((zcZ (s.length : Int) 1).bind fun i11 => (zfH s 1 i11).bind fun s12 => (f s12).bind fun r13 => J r13) else J false) else J false) else J false) = J (zkn s) := by
  unfold zkn
  by_cases h : 2 < s.length
  · have e : decide (2 < (s.length : Int)) = true := decide_eq_true (by omega)
    have e' : decide (2 < s.length) = true := decide_eq_true h
    have g0 : s[0]? = some s[0] := List.getElem?_eq_getElem (by omega)
    have g1 : s[s.length - 1]? = some s[s.length - 1] := List.getElem?_eq_getElem (by omega)
    have i1 : zcZ (s.length : Int) 1 = some ((s.length - 1 : Nat) : Int) := by rw [zcm (by omega) (by omega)]; congr 1; omega
    have s1 : zfH s 1 ((s.length - 1 : Nat) : Int) = some (zpC s) := zeK (i := 1) (by omega) (by omega)
    have := zuX s
    rw [e, e', if_pos rfl, show (0 : Int) = ((0 : Nat) : Int) from rfl, zaq, g0, Option.bind_some, i1, Option.bind_some, zaq, g1, Option.bind_some, Option.bind_some, s1, Option.bind_some, hf _ (by omega), Option.bind_some, zsU, zsU]
    cases s[0] == 91 <;> cases s[s.length - 1] == 93 <;> rfl
  · rw [decide_eq_false (show ¬ (2 < (s.length : Int)) by omega), decide_eq_false h]; rfl
theorem zli (s : Str) (hs : s.length < 400000000) : zgp s = some (⟨(zfI s).1, (zfI s).2, -1⟩, !((zfI s).1 == 0)) := by
  unfold zgp
  rw [zmf s hs zdi (fun t ht => zt2 t (by omega)) (zb1 s)]
  unfold zb1 zcP zfI
  cases hb : zkn s with
  | true =>
    have h : 2 < s.length := by unfold zkn at hb; simp at hb; exact hb.1.1.1
    have i1 : zcZ (s.length : Int) 1 = some ((s.length - 1 : Nat) : Int) := by rw [zcm (by omega) (by omega)]; congr 1; omega
    have s1 : zfH s 1 ((s.length - 1 : Nat) : Int) = some (zpC s) := zeK (i := 1) (by omega) (by omega)
    rw [if_pos rfl, i1, Option.bind_some, s1, Option.bind_some, if_pos rfl]
  | false =>
    rw [if_neg (by decide), zfk s (by omega), Option.bind_some, zny s (by omega), Option.bind_some]
    cases zcY s <;> cases zkh s <;> rfl
theorem zoa (s : Str) (hs : s.length < 400000000) : zj6 s = some (if (zfI s).1 == 0 then ⟨0, [], 0⟩ else ⟨(zfI s).1, (zfI s).2, -1⟩) := by
  unfold zj6
  rw [zmf s hs zgw zkD (zdZ s)]
  unfold zdZ zfI
  cases hb : zkn s with
  | true =>
    have h : 2 < s.length := by unfold zkn at hb; simp at hb; exact hb.1.1.1
    have i1 : zcZ (s.length : Int) 1 = some ((s.length - 1 : Nat) : Int) := by rw [zcm (by omega) (by omega)]; congr 1; omega
    have s1 : zfH s 1 ((s.length - 1 : Nat) : Int) = some (zpC s) := zeK (i := 1) (by omega) (by omega)
    rw [if_pos rfl, i1, Option.bind_some, s1, Option.bind_some, if_pos rfl]
    rfl
  | false =>
    rw [if_neg (by decide), zhy s (by omega), Option.bind_some, zqi s (by omega), Option.bind_some]
    cases zcY s <;> cases zkh s <;> rfl
def zmg (s : Str) (c : UInt8) : Nat → Option Nat
  | 0 => none
  | k + 1 => if s[k]? = some c then some k else zmg s c k
theorem zsV {s : Str} {c : UInt8} : ∀ {k i : Nat}, zmg s c k = some i → i < k ∧ s[i]? = some c
  | 0, _, h => by cases h
  | k + 1, i, h => by
    rw [zmg] at h
    split at h
    · rename_i h2; cases h; exact ⟨by omega, h2⟩
    · have := zsV h; exact ⟨by omega, this.2⟩
theorem znJ (s : Str) (c : UInt8) (hs : s.length < 1000000000) : zbF s c = some (match zmg s c s.length with | none => -1 | some k => (k : Int)) := by
  unfold zbF zbd
  have key : ∀ (n k : Nat), k ≤ s.length → k < n → zU s c n ((k : Int) - 1) = some (match zmg s c k with | none => -1 | some j => (j : Int)) := by
    intro n
    induction n with
    | zero => intro k _ h; omega
    | succ n ih =>
      intro k hk h
      rw [zU]
      cases k with
      | zero => rw [decide_eq_false (by omega)]; rfl
      | succ k =>
        have e1 : ((k + 1 : Nat) : Int) - 1 = (k : Int) := by omega
        have g : s[k]? = some s[k] := List.getElem?_eq_getElem (by omega)
        rw [e1, decide_eq_true (show (0 : Int) ≤ (k : Int) by omega), if_pos rfl, zaq, g, Option.bind_some, zcm (by omega) (by omega), Option.bind_some, ih k (by omega) (by omega), zmg, g]
        by_cases hc : s[k] = c
        · have : (s[k] == c) = true := by simp [hc]
          rw [this, if_pos rfl, if_pos (by rw [hc])]
        · have : (s[k] == c) = false := beq_eq_false_iff_ne.2 hc
          rw [this, if_neg (by decide), if_neg (by simpa using hc)]
  rw [zcm (by omega) (by omega), Option.bind_some, key fuel s.length (Nat.le_refl _) (by unfold fuel; omega), Option.bind_some]
def zob (s : Str) : api_Host × Int :=
  if !((zfI s).1 == 0) then (⟨(zfI s).1, (zfI s).2, -1⟩, 0) else match zmg s 58 s.length with
  | none => (⟨0, [], 0⟩, 27)
  | some k => if !((zfI (s.take k)).1 == 0) && zdx (s.drop (k + 1)) 65535 then (⟨(zfI (s.take k)).1, (zfI (s.take k)).2, (zeL 10 (s.drop (k + 1)) 65535).1⟩, 0) else (⟨0, [], 0⟩, 27)
theorem zm7 (s : Str) (hs : s.length < 400000000) : zb2 s = some (zob s) := by
  unfold zb2 zob
  rw [zli s hs, Option.bind_some]
  cases !((zfI s).1 == 0) with
  | true => rfl
  | false =>
    show (if false = true then _ else _) = some (if false = true then _ else _)
    rw [if_neg (by decide), if_neg (by decide), znJ s 58 (by omega), Option.bind_some]
    cases hl : zmg s 58 s.length with
    | none => rfl
    | some k =>
      have hk := (zsV hl).1
      show (if decide ((k : Int) < 0) = true then _ else _) = _
      rw [decide_eq_false (show ¬ ((k : Int) < 0) by omega), if_neg (by decide), zi9 (by omega), Option.bind_some, zli _ (by simp; omega), Option.bind_some]
      unfold zdj
      rw [zA (by omega), Option.bind_some, zc1 (by omega), Option.bind_some, Option.bind_some, zc1 (by omega), Option.bind_some, zjc _ _ (by simp; omega) (by decide) (by decide), Option.bind_some, ziF _ _ (by simp; omega) (by decide) (by decide), Option.bind_some]
      dsimp only
      cases (zfI (s.take k)).1 == 0 <;> cases zdx (s.drop (k + 1)) 65535 <;> rfl
theorem ziR (s : Str) (hs : s.length < 400000000) : zhV s = some (zob s) := by
  unfold zhV zob
  have key : ∀ (n k : Nat), k ≤ s.length → k < n → zcV s n ((k : Int) - 1) = some (match zmg s 58 k with
      | none => (⟨0, [], 0⟩, 27)
      | some k => if !((zfI (s.take k)).1 == 0) && zdx (s.drop (k + 1)) 65535 then (⟨(zfI (s.take k)).1, (zfI (s.take k)).2, (zeL 10 (s.drop (k + 1)) 65535).1⟩, 0) else (⟨0, [], 0⟩, 27)) := by
    intro n
    induction n with
    | zero => intro k _ h; omega
    | succ n ih =>
      intro k hk h
      rw [zcV]
      cases k with
      | zero => rw [decide_eq_false (by omega)]; rfl
      | succ k =>
        have e1 : ((k + 1 : Nat) : Int) - 1 = (k : Int) := by omega
        have g : s[k]? = some s[k] := List.getElem?_eq_getElem (by omega)
        rw [e1, decide_eq_true (show (0 : Int) ≤ (k : Int) by omega), if_pos rfl, zaq, g, Option.bind_some, zcm (by omega) (by omega), Option.bind_some, ih k (by omega) (by omega), zmg, g]
        by_cases hc : s[k] = 58
        · have : (s[k] == 58) = true := by simp [hc]
          rw [this, if_neg (by decide), if_pos (by rw [hc]), zi9 (by omega), Option.bind_some, zoa _ (by simp; omega), Option.bind_some, zA (by omega), Option.bind_some, zc1 (by omega), Option.bind_some, zk7 _ _ (by simp; omega) (by decide) (by decide), Option.bind_some]
          unfold ze9
          dsimp only
          cases h0 : (zfI (s.take k)).1 == 0 with
          | true => rfl
          | false =>
            simp only [Bool.false_eq_true, if_false, h0, Bool.not_false, Bool.true_and]
            cases hsm : zdx (s.drop (k + 1)) 65535 with
            | false => rfl
            | true =>
              have h2 : (zeL 10 (s.drop (k + 1)) 65535).2 = 0 := by unfold zdx at hsm; simp at hsm; exact hsm.1
              have h3 := (zk6 h2 (by decide)).1
              simp only [if_true]
              rw [decide_eq_false (by omega)]; rfl
        · have : (s[k] == 58) = false := beq_eq_false_iff_ne.2 hc
          rw [this, Bool.not_false, if_pos rfl, if_neg (by simpa using hc)]
  rw [zoa s hs, Option.bind_some]
  cases h0 : (zfI s).1 == 0 with
  | true =>
    simp only [if_true, beq_self_eq_true, Bool.not_true, Bool.false_eq_true, if_false]
    rw [zcm (by omega) (by omega), Option.bind_some, key fuel s.length (Nat.le_refl _) (by unfold fuel; omega)]
  | false =>
    simp only [Bool.false_eq_true, if_false, h0, Bool.not_false, if_true]
end Go.Dm
end
section
namespace Go.Dm
def zdT (c : UInt8) (s : Str) : Str × Str × Bool := (upto [c] s, (zdc [c] s).drop 1, !(zdc [c] s == []))
theorem ztX (c : UInt8) (s : Str) (h : (zdT c s).2.2 = true) : (zdT c s).1 ++ c :: (zdT c s).2.1 = s := by
  have e := zhj [c] s
  unfold zdT at h ⊢
  simp only [Bool.not_eq_true', beq_eq_false_iff_ne] at h
  cases hf : zdc [c] s with
  | nil => exact absurd hf h
  | cons x r =>
    have := zlN hf
    have hx : x = c := by simpa using this
    subst hx
    rw [hf] at e
    simpa [hf] using e
theorem ztY (c : UInt8) (s : Str) (h : (zdT c s).2.2 = false) : zdT c s = (s, [], false) := by
  have e := zhj [c] s
  unfold zdT at h ⊢
  simp only [Bool.not_eq_false', beq_iff_eq] at h
  rw [h, List.append_nil] at e
  rw [h, e]; rfl
end Go.Dm
end
section
namespace Go.Dm
theorem zuD (l : List Str) : Go.Lib.join l [] = l.flatten := by
  cases l with
  | nil => rfl
  | cons x r => rw [Go.Lib.join_cons]; simp [Go.Lib.joinTail]
theorem zoU (l : List Str) (h : l.length < 1000000) (h2 : l.flatten.length < 4000000000) : zcd [] l = some l.flatten := by
  unfold zcd strings_Join
  rw [zuD, if_pos ⟨by omega, by omega⟩]
  rfl
end Go.Dm
end
section
namespace Go.Dm
section
variable {s r : Str} {k : Nat}
end
def zeroH : api_Head := ⟨0, [], [], 0, [], 0, []⟩
theorem zqm {p : UInt8 → Bool} {s : Str} {x : UInt8} (h : x ∈ s.takeWhile p) : p x = true := by
  induction s with
  | nil => cases h
  | cons c s ih =>
    rw [List.takeWhile_cons] at h
    split at h
    · rename_i hc
      rcases List.mem_cons.1 h with rfl | h
      · exact hc
      · exact ih h
    · cases h
end Go.Dm
end
section
namespace Go.Dm
theorem zeN {c : UInt8} : ∀ {s x : Str}, zu c s = [x] → x = s
  | [], x, h => by rw [zu] at h; cases h; rfl
  | y :: s, x, h => by
    rw [zbP] at h
    split at h
    · injection h with h1 h2
      exact absurd h2 (zca c s)
    · cases h3 : zu c s with
      | nil => exact absurd h3 (zca c s)
      | cons a l =>
        rw [h3] at h
        injection h with h1 h2
        subst h2
        have := zeN h3
        rw [← h1, this]; rfl
end Go.Dm
end
section
namespace Go.Dm
theorem ztC {p : UInt8 → Bool} {c : UInt8} (hc : p c = false) : ∀ {m : Str} (r : Str), m.all p = true → (m ++ c :: r).takeWhile p = m ∧ (m ++ c :: r).dropWhile p = c :: r
  | [], r, _ => by simp [hc]
  | x :: m, r, h => by
    simp only [List.all_cons, Bool.and_eq_true] at h
    have ih := ztC hc r h.2
    constructor
    · rw [List.cons_append, List.takeWhile_cons, if_pos h.1, ih.1]
    · rw [List.cons_append, List.dropWhile_cons, if_pos h.1, ih.2]
theorem zvE {t : Str} (h : (32 : UInt8) ∉ t) : t.all (fun b => !(b == 32)) = true :=
  List.all_eq_true.2 fun x hx => by
    have : x ≠ 32 := fun e => h (by rw [← e]; exact hx)
    simp [this]
theorem zc2 (m : Str) : zbZ m = true ↔ m ≠ [] ∧ m.all zbe = true := by
  unfold zbZ
  cases m <;> simp
end Go.Dm
end
section
namespace Go.Dm
def few (l : List api_Swap) : List api_Swap := (l.take 70).map fun x => ⟨x.From.take 60, x.To.take 60⟩
theorem znb (l : List api_Swap) (hl : l.length < 1000000000) : ziD l = some (few l) := by
  unfold ziD
  have znG : ∀ (k i : Nat) (acc : List api_Swap), acc.length = i → i ≤ l.length → 70 - i + 1 < k + 1 → zcs l (k + 1) acc (i : Int) = some (acc ++ few (l.drop i |>.take (70 - i))) := by
    intro k
    induction k with
    | zero => intro i acc _ _ h; omega
    | succ k ih =>
      intro i acc ha hi h
      rw [zcs]
      by_cases hlt : i < l.length
      · have hx : l[i]? = some l[i] := List.getElem?_eq_getElem hlt
        simp only [Int.ofNat_lt, hlt, decide_true, if_true]
        by_cases h70 : i < 70
        · have h70' : (i : Int) < 70 := by omega
          have e60 : ∀ s : Str, sTo s (min (s.length : Int) 60) = some (s.take 60) := fun s => zmK s 60
          have hfit : zL acc.length 1 32 = true := by simp only [zL, Bool.and_eq_true, decide_eq_true_eq]; omega
          simp only [zd9, h70', decide_true, if_true, zdw, hx, Option.bind_some, e60, hfit, zA (show i < 4611686018427387904 by omega)]
          rw [ih (i + 1) _ (by simp [ha]) (by omega) (by omega)]
          have e1 : 70 - i = (70 - (i + 1)) + 1 := by omega
          rw [List.drop_eq_getElem_cons hlt, e1, List.take_succ_cons]
          have hm : ∀ (x : api_Swap) (r : List api_Swap), r.length + 1 ≤ 70 → few (x :: r) = ⟨x.From.take 60, x.To.take 60⟩ :: few r := by
            intro x r hr
            have h1 : (x :: r).take 70 = x :: r := List.take_of_length_le (by simp only [List.length_cons]; omega)
            have h2 : r.take 70 = r := List.take_of_length_le (by omega)
            simp only [few, h1, h2, List.map_cons]
          rw [hm _ _ (by simp; omega)]
          simp
        · have h70' : ¬ (i : Int) < 70 := by omega
          have e0 : 70 - i = 0 := by omega
          simp [zd9, h70', e0, few]
      · have : i = l.length := by omega
        subst this
        simp only [Int.lt_irrefl, decide_false, Bool.false_eq_true, if_false, zd9, List.drop_length]
        simp [few]
  have hf : fuel = (fuel - 1) + 1 := rfl
  rw [hf]
  have := znG (fuel - 1) 0 [] rfl (Nat.zero_le _) (by unfold fuel; omega)
  simp only [Int.natCast_zero, List.nil_append, List.drop_zero, Nat.sub_zero] at this
  rw [this]
  congr 1
  unfold few
  rw [List.take_take, Nat.min_self]

def bare (s : Str) : Str := if s.head? == some 46 then s.drop 1 else s
end Go.Dm
end
section
namespace Go.Dm
def zkN (b : UInt8) : Bool := b == 32 || b == 9
def triml (s : Str) : Str := s.dropWhile zkN
def zif (s : Str) : Str := (s.reverse.dropWhile zkN).reverse
def trim (s : Str) : Str := triml (zif s)
theorem zsW (b : UInt8) : ([32, 9] : Str).contains b = zkN b := by
  simp only [zkN, List.contains_cons, List.contains_nil, Bool.or_false]
theorem ztS (s : Str) (c : UInt8) : zif (s ++ [c]) = if zkN c then zif s else s ++ [c] := by
  unfold zif
  rw [List.reverse_append]
  simp only [List.reverse_cons, List.reverse_nil, List.nil_append, List.singleton_append, List.dropWhile_cons]
  split <;> simp
theorem zsX (s : Str) : (zif s).length ≤ s.length := by
  unfold zif
  rw [List.length_reverse]
  have := (List.dropWhile_suffix (l := s.reverse) zkN).length_le
  simpa using this
theorem zlw (b : UInt8) : zgx b = some (zkN b) :=
  of_decide_eq_true (za9 (fun b => decide (zgx b = some (zkN b))) (by decide +kernel) b)

end Go.Dm
end
section
namespace Go.Dm
def elems (l : List Str) : List Str := (l.map trim).filter (fun x => !(x == []))
def zcw (s x : Str) : Str := if (s.all fun c => zkN c || c == 44) then x else zif s ++ 44 :: 32 :: x
end Go.Dm
end
section
namespace Go.Dm
def isN (nm : Str) (f : api_Field) : Bool := low f.Name == low nm
def zgB (m : Nat) (l : List api_Field) : Prop := ∀ f ∈ l, f.Name.length < m ∧ f.Value.length < m
theorem zsl (f : api_Field) (nm : Str) (hf : f.Name.length < 1000000000) (hn : nm.length < 1000000000) : zj0 f nm = some (isN nm f) := by
  unfold zj0 isN
  rw [zl5 _ hf, Option.bind_some, zl5 _ hn, Option.bind_some]
theorem zhL (l : List api_Field) (h : l.length < 1000000000) : zS l = some l := by
  unfold zS
  rw [if_pos (zcn (by omega) (by omega))]
def ziI (p : api_Field → Bool) (l : List api_Field) : Nat → Option Nat
  | 0 => none
  | k + 1 => if (l[k]?).any p then some k else ziI p l k
theorem zmr {p : api_Field → Bool} {l : List api_Field} : ∀ {k i : Nat}, ziI p l k = some i → i < k ∧ ∃ f, l[i]? = some f ∧ p f = true ∧ ∀ j, i < j → j < k → ∀ g, l[j]? = some g → p g = false
  | 0, _, h => by cases h
  | k + 1, i, h => by
    rw [ziI] at h
    split at h
    · rename_i h2
      cases h
      cases hf : l[k]? with
      | none => rw [hf] at h2; cases h2
      | some f => rw [hf] at h2; exact ⟨by omega, f, rfl, by simpa using h2, fun j h1 h3 => by omega⟩
    · rename_i h2
      obtain ⟨h3, f, h4, h5, h6⟩ := zmr h
      refine ⟨by omega, f, h4, h5, fun j h7 h8 g hg => ?_⟩
      by_cases hj : j = k
      · subst hj; rw [hg] at h2; simpa using h2
      · exact h6 j h7 (by omega) g hg
theorem zo6 {p : api_Field → Bool} {l : List api_Field} : ∀ {k : Nat}, ziI p l k = none → ∀ j, j < k → ∀ g, l[j]? = some g → p g = false
  | 0, _, j, h, _, _ => by omega
  | k + 1, h, j, hj, g, hg => by
    rw [ziI] at h
    split at h
    · cases h
    · rename_i h2
      by_cases e : j = k
      · subst e; rw [hg] at h2; simpa using h2
      · exact zo6 h j (by omega) g hg
def zar (l : List api_Field) (nm x : Str) : List api_Field := match ziI (isN nm) l l.length with
  | none => l ++ [⟨nm, x⟩]
  | some i => match l[i]? with
    | none => l
    | some f => l.set i ⟨f.Name, zcw f.Value x⟩
theorem zl0 {p : UInt8 → Bool} : ∀ l : Str, l.dropWhile p = [] ↔ ∀ x ∈ l, p x = true
  | [] => by simp
  | y :: l => by
    rw [List.dropWhile_cons]
    cases h : p y with
    | true => rw [if_pos rfl, zl0 l]; simp [h]
    | false => rw [if_neg (by decide)]; simp [h]
theorem trimS3 (s : Str) : (Go.Lib.trimS s [32, 9, 44] == []) = s.all fun c => zkN c || c == 44 := by
  have hp : ∀ c : UInt8, ([32, 9, 44] : Str).contains c = (zkN c || c == 44) := by
    intro c; simp only [zkN, List.contains_cons, List.contains_nil, Bool.or_false, Bool.or_assoc]
  rw [Bool.eq_iff_iff, beq_iff_eq, List.all_eq_true]
  unfold Go.Lib.trimS Go.Lib.trimLeftS Go.Lib.trimRightS
  have hr : ∀ x, x ∈ (s.reverse.dropWhile (([32, 9, 44] : List UInt8).contains ·)).reverse → x ∈ s := fun x hx => List.mem_reverse.1 ((List.dropWhile_suffix _).mem (List.mem_reverse.1 hx))
  rw [zl0]
  constructor
  · intro h x hx
    rw [← hp]
    by_cases hx2 : x ∈ (s.reverse.dropWhile (([32, 9, 44] : List UInt8).contains ·)).reverse
    · exact h x hx2
    · have hx3 : x ∈ s.reverse := List.mem_reverse.2 hx
      rw [← List.takeWhile_append_dropWhile (p := (([32, 9, 44] : List UInt8).contains ·)) (l := s.reverse)] at hx3
      rcases List.mem_append.1 hx3 with h1 | h1
      · have := List.all_takeWhile (p := (([32, 9, 44] : List UInt8).contains ·)) (l := s.reverse)
        exact List.all_eq_true.1 this x h1
      · exact absurd (List.mem_reverse.2 h1) hx2
  · intro h x hx
    rw [hp]; exact h x (hr x hx)
theorem zqc (s : Str) : Go.Lib.trimRightS s [32, 9] = zif s := by
  unfold Go.Lib.trimRightS zif
  have : (fun x => ([32, 9] : List UInt8).contains x) = zkN := by funext b; exact zsW b
  rw [this]
theorem zsm (a b sep : Str) : Go.Lib.join [a, b] sep = a ++ sep ++ b := by
  rw [Go.Lib.join_cons]; simp [Go.Lib.joinTail]
theorem zsn (a sep : Str) : Go.Lib.join [a] sep = a := by
  rw [Go.Lib.join_cons]; simp [Go.Lib.joinTail]
theorem zk0 (l : List Str) (h : l.length < 1000000) (h2 : (Go.Lib.join l [44, 32]).length < 4000000000) : zdY l = some (Go.Lib.join l [44, 32]) := by
  unfold zdY zcd strings_Join
  rw [if_pos ⟨by omega, by omega⟩]
  rfl
theorem znx (s x : Str) (hs : s.length < 1000000000) (hx : x.length < 1000000000) : zfK s [x] = some (zcw s x) := by
  unfold zfK zcw
  have ht := zsX s
  have h0 : ((([x] : List Str).length : Int) == 0) = false := rfl
  have e1 : zde s [32, 9, 44] = some (Go.Lib.trimS s [32, 9, 44]) := by unfold zde; rw [if_pos ⟨by omega, by decide, by decide⟩]
  have e2 : zdf s [32, 9] = some (zif s) := by unfold zdf; rw [if_pos ⟨by omega, by decide, by decide⟩, zqc]
  have e3 : zdY [x] = some x := by rw [zk0 _ (by simp) (by rw [zsn]; omega), zsn]
  have e4 : zdY ([zif s] ++ [x]) = some (zif s ++ [44, 32] ++ x) := by
    rw [show ([zif s] ++ [x] : List Str) = [zif s, x] from rfl, zk0 _ (by simp) (by rw [zsm]; simp; omega), zsm]
  rw [h0, if_neg (by decide), e1, Option.bind_some, trimS3, e3, Option.bind_some, e2, Option.bind_some, if_pos (zcn (by simp) (by simp)), e4, Option.bind_some]
  cases s.all fun c => zkN c || c == 44 with
  | true => rfl
  | false => simp
theorem zmR (b : bag_Bag) (nm x : Str) (hn : nm.length < 1000000000) (hx : x.length < 1000000000) (hl : b.f_l.length < 1000000000) (hs : zgB 1000000000 b.f_l) : ∀ (n k : Nat), k ≤ b.f_l.length → k < n →
    zaT b nm x n ((k : Int) - 1) = some ⟨match ziI (isN nm) b.f_l k with
      | none => b.f_l ++ [⟨nm, x⟩]
      | some i => match b.f_l[i]? with
        | none => b.f_l
        | some f => b.f_l.set i ⟨f.Name, zcw f.Value x⟩⟩
  | 0, _, _, h => by omega
  | n + 1, 0, hk, h => by
    rw [zaT, decide_eq_false (by omega), if_neg (by decide)]
    unfold zgq
    rw [if_pos (zcn (by simp; omega) (by simp; omega))]
    rfl
  | n + 1, k + 1, hk, h => by
    have e1 : ((k + 1 : Nat) : Int) - 1 = (k : Int) := by omega
    have g : b.f_l[k]? = some b.f_l[k] := List.getElem?_eq_getElem (by omega)
    have hsm := hs b.f_l[k] (List.getElem_mem _)
    have ih := zmR b nm x hn hx hl hs n k (by omega) (by omega)
    rw [zaT, e1, decide_eq_true (show (0 : Int) ≤ (k : Int) by omega), if_pos rfl, zdw, g, Option.bind_some, zqj _ _ hsm.1 hn, Option.bind_some, Option.bind_some, znx _ _ hsm.2 hx, Option.bind_some, Option.bind_some, zcm (by omega) (by omega), Option.bind_some, ih, ziI, g]
    show (if isN nm b.f_l[k] = true then _ else _) = _
    rw [Option.any_some]
    cases isN nm b.f_l[k] with
    | false => rfl
    | true =>
      rw [if_pos rfl, if_pos rfl]
      have hset : zjw b.f_l (k : Int) (⟨b.f_l[k].Name, zcw b.f_l[k].Value x⟩ : api_Field) = some (b.f_l.set k ⟨b.f_l[k].Name, zcw b.f_l[k].Value x⟩) := by
        unfold zjw
        rw [if_pos ⟨by omega, by simp; omega⟩]; simp
      rw [hset, Option.bind_some]
      dsimp only
      rw [g]
theorem zjs (l : List api_Field) (nm x : Str) (hn : nm.length < 1000000000) (hx : x.length < 1000000000) (hl : l.length < 1000000000) (hs : zgB 1000000000 l) : zcU ⟨l⟩ nm x = some ⟨zar l nm x⟩ := by
  unfold zcU
  have := zmR ⟨l⟩ nm x hn hx hl hs fuel l.length (Nat.le_refl _) (by unfold fuel; omega)
  dsimp only at this ⊢
  rw [zcm (by omega) (by omega), Option.bind_some, this]
  rfl
theorem ziJ (x : Str) (hx : x.length < 1000000000) : ∀ (n : Nat) (s : Str), s.length < n → s.length < 1000000000 → (∃ c ∈ s, zkN c = false) → zcg x n s = some (zif s ++ 44 :: 32 :: x)
  | 0, s, h, _, _ => by omega
  | n + 1, s, h, hs, hc => by
    have hne : s ≠ [] := by rintro rfl; obtain ⟨c, hc, _⟩ := hc; cases hc
    obtain ⟨t, y, rfl⟩ : ∃ t y, s = t ++ [y] := ⟨s.dropLast, s.getLast hne, (List.dropLast_concat_getLast hne).symm⟩
    simp only [List.length_append, List.length_singleton] at h hs
    have e1 : zcZ (((t ++ [y]).length : Nat) : Int) 1 = some (t.length : Int) := by rw [zcm (by simp <;> omega) (by simp <;> omega)] <;> simp
    have g : (t ++ [y])[t.length]? = some y := by simp
    rw [zcg, e1, Option.bind_some, zaq, g, Option.bind_some, zlw, Option.bind_some, Option.bind_some, zi9 (by simp), Option.bind_some, ztS, List.take_left' rfl]
    cases hb : zkN y with
    | true =>
      rw [if_pos rfl, if_pos rfl]
      refine ziJ x hx n t (by omega) (by omega) ?_
      obtain ⟨c, hc, hc2⟩ := hc
      rcases List.mem_append.1 hc with h1 | h1
      · exact ⟨c, h1, hc2⟩
      · have : c = y := by simpa using h1
        subst this; rw [hb] at hc2; cases hc2
    | false =>
      rw [if_neg (by decide), if_neg (by decide), zam (by simp; omega), Option.bind_some, zam (by simp; omega), Option.bind_some]
      simp
theorem zo7 (x sep : Str) (hx : x.length < 1000000000) : zi0 sep [x] = some x := by
  unfold zi0
  rw [show fuel = 999999999999999998 + 1 + 1 from rfl, zbV]
  show (if true = true then (if false = true then _ else _) else _) = _
  rw [if_pos rfl, if_neg (by decide)]
  unfold zfQ
  rw [zvm, show ([x] : List Str)[0]? = some x from rfl, Option.bind_some, zam (by simp; omega), Option.bind_some, show zK 0 1 = some 1 from by decide, Option.bind_some, zbV]
  rfl
theorem zoq (s x : Str) (hs : s.length < 1000000000) (hx : x.length < 1000000000) : zg8 s [x] = some (zcw s x) := by
  unfold zg8 zcw
  have h0 : ((([x] : List Str).length : Int) == 0) = false := rfl
  rw [h0, if_neg (by decide), zo7 x _ hx, Option.bind_some]
  have key : ∀ (n i : Nat), i ≤ s.length → s.length - i < n → za2 x n s (i : Int) = some (if ((s.drop i).all fun c => zkN c || c == 44) = true then x else zif s ++ 44 :: 32 :: x) := by
    intro n
    induction n with
    | zero => intro i _ h; omega
    | succ n ih =>
      intro i hi h
      rw [za2]
      by_cases hlt : i < s.length
      · have g : s[i]? = some s[i] := List.getElem?_eq_getElem hlt
        rw [decide_eq_true (show (i : Int) < (s.length : Int) by omega), if_pos rfl, zaq, g, Option.bind_some, Option.bind_some, zlw, Option.bind_some, List.drop_eq_getElem_cons hlt, List.all_cons]
        unfold zej
        rw [zA (by omega), Option.bind_some, ih (i + 1) (by omega) (by omega)]
        cases h44 : s[i] == 44 with
        | true => rw [Bool.or_true, Bool.true_and]; rfl
        | false =>
          rw [Bool.or_false]
          cases hb : zkN s[i] with
          | true => rw [Bool.true_and]; rfl
          | false =>
            rw [ziJ x hx fuel s (by unfold fuel; omega) hs ⟨s[i], List.getElem_mem _, hb⟩]
            rfl
      · have : i = s.length := by omega
        subst this
        rw [decide_eq_false (by omega), if_neg (by decide), List.drop_length]
        rfl
  have := key fuel 0 (Nat.zero_le _) (by unfold fuel; omega)
  rw [List.drop_zero] at this
  exact this
def zms (o : Option Nat) : Int := match o with
  | none => -1
  | some i => (i : Int)
def zor (f' : api_Field → api_Field) : Option Nat → List api_Field → List api_Field
  | none, l => l
  | some i, l => match l[i]? with
    | none => l
    | some f => l.set i (f' f)
def zuc (l : List api_Field) (nm x : Str) (o : Option Nat) : List api_Field := match o with
  | none => l ++ [⟨nm, x⟩]
  | some i => zor (fun f => ⟨f.Name, zcw f.Value x⟩) (some i) l
theorem zso (l : List api_Field) (nm x : Str) (hn : nm.length < 1000000000) (hx : x.length < 1000000000) (hl : l.length < 1000000000) (hs : zgB 1000000000 l) (o : Option Nat) (ho : ∀ i, o = some i → i < l.length) :
    ∀ (n i : Nat), i ≤ l.length → l.length - i < n → za3 l nm x (zms o) n ((zor (fun f => ⟨f.Name, zcw f.Value x⟩) o l).take i) (i : Int) = some (zuc l nm x o) := by
  have hul : (zor (fun f => ⟨f.Name, zcw f.Value x⟩) o l).length = l.length := by
    unfold zor
    cases o with
    | none => rfl
    | some i => dsimp only; split <;> simp
  intro n
  induction n with
  | zero => intro i _ h; omega
  | succ n ih =>
    intro i hi h
    rw [za3]
    by_cases hlt : i < l.length
    · have g : l[i]? = some l[i] := List.getElem?_eq_getElem hlt
      have hsm := hs l[i] (List.getElem_mem _)
      have hih := ih (i + 1) (by omega) (by omega)
      rw [decide_eq_true (show (i : Int) < (l.length : Int) by omega), if_pos rfl, zdw, g, Option.bind_some, zoq _ _ hsm.2 hx, Option.bind_some]
      unfold zel
      rw [zA (by omega), Option.bind_some, if_pos (zcn (by simp; omega) (by simp; omega)), Option.bind_some, if_pos (zcn (by simp; omega) (by simp; omega))]
      have htake : (zor (fun f => ⟨f.Name, zcw f.Value x⟩) o l).take (i + 1) = (zor (fun f => ⟨f.Name, zcw f.Value x⟩) o l).take i ++ [if ((i : Int) == zms o) = true then ⟨l[i].Name, zcw l[i].Value x⟩ else ⟨l[i].Name, l[i].Value⟩] := by
        rw [List.take_add_one]
        congr 1
        unfold zor zms
        cases o with
        | none =>
          have : ((i : Int) == -1) = false := beq_eq_false_iff_ne.2 (by omega)
          dsimp only
          rw [this, g, if_neg (by decide)]
          rfl
        | some j =>
          have hj := ho j rfl
          have gj : l[j]? = some l[j] := List.getElem?_eq_getElem hj
          dsimp only
          rw [gj]
          dsimp only
          by_cases hij : i = j
          · subst hij
            rw [List.getElem?_set_self hlt, beq_self_eq_true, if_pos rfl]
            rfl
          · have : ((i : Int) == (j : Int)) = false := beq_eq_false_iff_ne.2 (by omega)
            rw [List.getElem?_set_ne (fun e => hij e.symm), g, this, if_neg (by decide)]
            rfl
      rw [htake] at hih
      cases hq : ((i : Int) == zms o) with
      | true => rw [hq, if_pos rfl] at hih; rw [if_pos rfl]; exact hih
      | false => rw [hq, if_neg (by decide)] at hih; rw [if_neg (by decide)]; exact hih
    · have : i = l.length := by omega
      subst this
      have htk : (zor (fun f => ⟨f.Name, zcw f.Value x⟩) o l).take l.length = zor (fun f => ⟨f.Name, zcw f.Value x⟩) o l := List.take_of_length_le (by omega)
      rw [decide_eq_false (by omega), if_neg (by decide), htk]
      unfold zem
      cases o with
      | none =>
        rw [show zms none = -1 from rfl, decide_eq_true (by decide), if_pos rfl, if_pos (zcn (by simp [zor]; omega) (by simp [zor]; omega))]
        rfl
      | some j =>
        rw [show zms (some j) = (j : Int) from rfl, decide_eq_false (by omega), if_neg (by decide)]
        rfl
theorem ztA (p : api_Field → Bool) (l : List api_Field) (i : Nat) (x : api_Field) (h : l[i]? = some x) : ziI p l (i + 1) = if p x then some i else ziI p l i := by
  rw [ziI, h, Option.any_some]
theorem zh1 (l : List api_Field) (nm x : Str) (hn : nm.length < 1000000000) (hx : x.length < 1000000000) (hl : l.length < 1000000000) (hs : zgB 1000000000 l) : zbW l nm x = some (zar l nm x) := by
  unfold zbW
  have key : ∀ (n i : Nat), i ≤ l.length → l.length - i < n → za4 l nm x n (zms (ziI (isN nm) l i)) (i : Int) = some (zar l nm x) := by
    intro n
    induction n with
    | zero => intro i _ h; omega
    | succ n ih =>
      intro i hi h
      rw [za4]
      by_cases hlt : i < l.length
      · have g : l[i]? = some l[i] := List.getElem?_eq_getElem hlt
        have hsm := hs l[i] (List.getElem_mem _)
        have hih := ih (i + 1) (by omega) (by omega)
        rw [ztA _ _ _ _ g] at hih
        rw [decide_eq_true (show (i : Int) < (l.length : Int) by omega), if_pos rfl, zdw, g, Option.bind_some, zsl _ _ hsm.1 hn, Option.bind_some]
        unfold zek
        rw [zA (by omega), Option.bind_some, Option.bind_some]
        cases hq : isN nm l[i] with
        | true => rw [hq, if_pos rfl] at hih; rw [if_pos rfl]; exact hih
        | false => rw [hq, if_neg (by decide)] at hih; rw [if_neg (by decide)]; exact hih
      · have : i = l.length := by omega
        subst this
        have := zso l nm x hn hx hl hs (ziI (isN nm) l l.length) (fun i hi => (zmr hi).1) fuel 0 (Nat.zero_le _) (by unfold fuel; omega)
        rw [List.take_zero] at this
        rw [decide_eq_false (by omega), if_neg (by decide)]
        refine this.trans ?_
        unfold zar zuc zor
        cases ziI (isN nm) l l.length <;> rfl
  exact key fuel 0 (Nat.zero_le _) (by unfold fuel; omega)
theorem zuH {α : Type} [BEq α] [LawfulBEq α] (a b : List α) (L : Nat → Int → Option Bool) (hl : a.length = b.length) (ha : a.length < 1000000000)
    (hE : ∀ n, L (n + 1) (a.length : Int) = some true) (hL : ∀ n (i : Nat) x y, i < a.length → a[i]? = some x → b[i]? = some y → L (n + 1) (i : Int) = if (x == y) = true then L n ((i + 1 : Nat) : Int) else some false) : L fuel 0 = some (a == b) := by
  have key : ∀ (n i : Nat), i ≤ a.length → a.length - i < n → L n (i : Int) = some (a.drop i == b.drop i) := by
    intro n
    induction n with
    | zero => intro i _ h; omega
    | succ n ih =>
      intro i hi h
      by_cases hlt : i < a.length
      · have g1 : a[i]? = some a[i] := List.getElem?_eq_getElem hlt
        have g2 : b[i]? = some (b[i]'(by omega)) := List.getElem?_eq_getElem (by omega)
        rw [hL n i _ _ hlt g1 g2, ih (i + 1) (by omega) (by omega), List.drop_eq_getElem_cons hlt, List.drop_eq_getElem_cons (show i < b.length by omega), List.cons_beq_cons]
        cases a[i] == b[i]'(by omega) <;> rfl
      · have : i = a.length := by omega
        subst this
        rw [hE, List.drop_length, List.drop_of_length_le (by omega)]
        rfl
  have := key fuel 0 (Nat.zero_le _) (by unfold fuel; omega)
  rw [List.drop_zero, List.drop_zero] at this
  exact this
theorem zqd (a b : List api_Field) (ha : a.length < 1000000000) : zi2 a b = some (a == b) := by
  unfold zi2
  by_cases hl : a.length = b.length
  · rw [hl, beq_self_eq_true, Bool.not_true, if_neg (by decide)]
    refine zuH a b (zcD a b) hl ha (fun n => ?_) (fun n i x y hi hx hy => ?_)
    · rw [zcD, decide_eq_false (by omega), if_neg (by decide)]
    · rw [zcD, decide_eq_true (by omega), if_pos rfl, zdw, hx, Option.bind_some, zdw, hy, Option.bind_some, zA (by omega), Option.bind_some]
      cases x == y <;> rfl
  · have : (((a.length : Int) == (b.length : Int))) = false := beq_eq_false_iff_ne.2 (by omega)
    have h2 : (a == b) = false := beq_eq_false_iff_ne.2 (fun e => hl (by rw [e]))
    rw [this, h2]; rfl
def cutF (f : api_Field) : api_Field := ⟨f.Name.take 400, f.Value.take 400⟩
def zrp (l : List api_Field) : List api_Field := (l.take 120).map cutF
theorem zgC (s : Str) : zfy s = some (s.take 400) := by
  unfold zfy
  have := zmK s 400
  rw [show ((400 : Nat) : Int) = 400 from rfl] at this
  rw [this, Option.bind_some]
theorem zrq (h : api_Head) (hl : h.Fields.length < 1000000000) : zj3 h = some ⟨h.Kind, h.Method.take 400, h.Target.take 400, h.Code, h.Reason.take 400, h.Minor, zrp h.Fields⟩ := by
  unfold zj3
  rw [zgC, Option.bind_some, zgC, Option.bind_some, zgC, Option.bind_some]
  have key : ∀ (n i : Nat) (out : List api_Field), i ≤ h.Fields.length → i ≤ 120 → h.Fields.length - i < n → out.length = i → zct h (h.Method.take 400) (h.Target.take 400) (h.Reason.take 400) n out (i : Int) = some ⟨h.Kind, h.Method.take 400, h.Target.take 400, h.Code, h.Reason.take 400, h.Minor, out ++ ((h.Fields.drop i).take (120 - i)).map cutF⟩ := by
    intro n
    induction n with
    | zero => intro i _ _ _ h; omega
    | succ n ih =>
      intro i out hi h120 hn ho
      rw [zct]
      unfold zg4
      by_cases hlt : i < h.Fields.length
      · have g : h.Fields[i]? = some h.Fields[i] := List.getElem?_eq_getElem hlt
        rw [decide_eq_true (show (i : Int) < (h.Fields.length : Int) by omega), if_pos rfl]
        by_cases h2 : i < 120
        · rw [decide_eq_true (show (i : Int) < 120 by omega), if_pos rfl, zdw, g, Option.bind_some, zgC, Option.bind_some, Option.bind_some, zgC, Option.bind_some, if_pos (zcn (by omega) (by omega)), zA (by omega), Option.bind_some, ih (i + 1) _ (by omega) (by omega) (by omega) (by simp; omega), List.drop_eq_getElem_cons hlt, show 120 - i = (120 - (i + 1)) + 1 by omega, List.take_succ_cons]
          simp [cutF]
        · have : i = 120 := by omega
          subst this
          rw [decide_eq_false (by omega), if_neg (by decide)]
          simp
      · have : i = h.Fields.length := by omega
        rw [decide_eq_false (by omega), if_neg (by decide), if_neg (by decide), this, List.drop_length]
        simp
  have := key fuel 0 [] (Nat.zero_le _) (by decide) (by unfold fuel; omega) rfl
  exact this
theorem zvD (l : List api_Field) : (zrp l).length ≤ 120 := by unfold zrp; simp; omega
theorem ztB (l : List api_Field) : zgB 401 (zrp l) := by
  intro f hf
  unfold zrp at hf
  obtain ⟨g, _, rfl⟩ := List.mem_map.1 hf
  unfold cutF
  simp; omega
theorem zdb {m n : Nat} (h : m ≤ n) {l : List api_Field} (hs : zgB m l) : zgB n l := fun f hf => by have := hs f hf; omega
end Go.Dm
end
section
namespace Go.Dm
def zum (a b : api_Head) : Bool := a.Kind == b.Kind && a.Method == b.Method && a.Target == b.Target && a.Minor == b.Minor && a.Code == b.Code && a.Reason == b.Reason && a.Fields == b.Fields
theorem ztR (a : api_Head) : zum a a = true := by unfold zum; simp
theorem zqx (a b : api_Head) (ha : a.Fields.length < 1000000000) : zi3 a b = some (zum a b) := by
  unfold zi3 zfU zkv zbY zum
  rw [zqd _ _ ha, Option.bind_some]
  cases a.Kind == b.Kind <;> cases a.Method == b.Method <;> cases a.Target == b.Target <;> cases a.Minor == b.Minor <;> cases a.Code == b.Code <;> cases a.Reason == b.Reason <;> rfl

end Go.Dm
end
