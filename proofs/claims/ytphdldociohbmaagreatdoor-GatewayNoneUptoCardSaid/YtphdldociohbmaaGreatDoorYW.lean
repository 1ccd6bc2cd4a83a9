/-
  Data, models and contracts of a program's functions, written by a program (wip/gen).
  Contracts of a program's functions: the facts that show them, written by a program (wip/gen).
  The law, by a whole run.
-/
import Derived.Test.YtphdldociohbmaaGreatDoorYLb
import Derived.Test.YtphdldociohbmaaGreatDoorW0
import Derived.KernelRfl
section
set_option linter.unusedVariables false
set_option maxRecDepth 100000
namespace Go.Proofs
open Go.Dk Go.Dm Go.RowKit Go.Rk
abbrev S1 := Str × Str
abbrev S0 := Str × Str × Str × Str × List S1 × List S1
abbrev S2 := Int × Int × Int
abbrev S4 := Int × Str
abbrev S3 := Int × Int × Str × Str × Int × Str × Str × List S4
abbrev S5 := Str × Str × Str × Str
abbrev S6 := Str × Int
abbrev S7 := S6
abbrev S8 := Int × Str × Int
abbrev S9 := Str × Str × Str × Str × Str × Bool × Bool × Bool
abbrev S12 := Str × Int × Bool
abbrev S11 := List S12 × Int × Bool
abbrev S14 := Str × Str
abbrev S13 := Int × Int × List UInt8 × Int × Bool × Int × Bool × Int × Str × Str × Int × Str × Int × List S14
abbrev S16 := Int × Int × List UInt8 × Int × Int × Int × List S14
abbrev S15 := Option S16 × Int × Int × Int × Bool × Bool
abbrev S18 := Int × Str × Bool
abbrev S17 := Option S18 × Int × Int × Int × Bool
abbrev S10 := Option S11 × Str × Str × Str × Str × List S1 × List S1 × Int × Int × Int × List S3 × Option S13 × Option S15 × Option S17 × Option S13 × Option S15 × Option S17 × List UInt8 × List UInt8 × Int × Bool × Bool × Bool × Bool × Bool × Bool × Bool
abbrev S19 := Option S13 × Option S15 × Option S17
abbrev S20 := List S12 × Int
abbrev S21 := Int × Str × Str × Int × Str × Int × List S14
abbrev S22 := Int × Str × Str × Int × Str × Int × List S14
abbrev S23 := Int × Int
abbrev S24 := List S14
abbrev S25 := S24 × Int
abbrev S26 := S6 × List Str × Int × Str
abbrev S27 := S6 × List UInt8
abbrev S28 := Int × Str × Int × Str × Int × Str × Str × Bool
abbrev S29 := S24 × Int × Str × Str × Int × Str × Int × List S14
abbrev S30 := Str × Str × Bool
abbrev S31 := Str × Str × List S30
abbrev S32 := Str × Str × List S30
abbrev S33 := Str × Str
abbrev S34 := Int × Str × Str × List S4 × Int
abbrev S35 := List S34
abbrev S36 := Int × Str × Str
abbrev S37 := Int × Str × Str × List S4 × Int
abbrev S38 := S24 × List S33 × Int
abbrev S39 := S6
abbrev S40 := List UInt8 × Int
abbrev S41 := S40 × Bool
abbrev S42 := Int × Int
def tau : Nat → Type
  | 0 => S0
  | 1 => S1
  | 2 => S2
  | 3 => S3
  | 4 => S4
  | 5 => S5
  | 6 => S6
  | 7 => S7
  | 8 => S8
  | 9 => S9
  | 10 => S10
  | 11 => S11
  | 12 => S12
  | 13 => S13
  | 14 => S14
  | 15 => S15
  | 16 => S16
  | 17 => S17
  | 18 => S18
  | 19 => S19
  | 20 => S20
  | 21 => S21
  | 22 => S22
  | 23 => S23
  | 24 => S24
  | 25 => S25
  | 26 => S26
  | 27 => S27
  | 28 => S28
  | 29 => S29
  | 30 => S30
  | 31 => S31
  | 32 => S32
  | 33 => S33
  | 34 => S34
  | 35 => S35
  | 36 => S36
  | 37 => S37
  | 38 => S38
  | 39 => S39
  | 40 => S40
  | 41 => S41
  | 42 => S42
  | _ => Unit
def eq1 (x y : S1) : Bool := x == y
def eq4 (x y : S4) : Bool := x == y
def eq5 (x y : S5) : Bool := x == y
def eq8 (x y : S8) : Bool := x == y
def eq12 (x y : S12) : Bool := x == y
def eq14 (x y : S14) : Bool := x == y
def eq23 (x y : S23) : Bool := x == y
def eq30 (x y : S30) : Bool := x == y
def eq33 (x y : S33) : Bool := x == y
def eq36 (x y : S36) : Bool := x == y
def eq42 (x y : S42) : Bool := x == y
def lIndexByte (p : Str × UInt8) : Option Int := strings_IndexByte p.1 p.2
def lIndex (p : Str × Str) : Option Int := strings_Index p.1 p.2
def lContains (p : Str × Str) : Option Bool := strings_Contains p.1 p.2
def lIndexAny (p : Str × Str) : Option Int := strings_IndexAny p.1 p.2
def lTrim (p : Str × Str) : Option Str := strings_Trim p.1 p.2
def lTrimRight (p : Str × Str) : Option Str := strings_TrimRight p.1 p.2
def lJoin (p : List Str × Str) : Option Str := strings_Join p.1 p.2
def lFormatInt (p : Int × Int) : Option Str := strconv_FormatInt p.1 p.2
def lCut (p : Str × Str) : Option (Str × Str × Bool) := strings_Cut p.1 p.2
def lSplit (p : Str × Str) : Option (List Str) := strings_Split p.1 p.2
def f78 (p : Str × List Str) : Option (Str) := (lJoin (p.2, p.1)).bind fun r1 => some r1
def f111 (p : Str) : Option (S6) := some (p, 0)
def f225 (p : S6) : Option (Int) := some p.2
def f166 (p : S6) : Option (Str) := (sFrom p.1 p.2).bind fun r1 => some r1
def f164 (p : S6) : Option (Bool) := (f166 p).bind fun r1 => some (r1 == [])
def f161 (p : S6) : Option (UInt8 × Bool) := (f164 p).bind fun r1 => if r1 = true then some (0, false) else (sAt p.1 p.2).bind fun r2 => some (r2, true)
def f234 (p : UInt8) : Option (UInt8) := if (decide (p ≥ 65)) = true then if (decide (p ≤ 90)) = true then some (p + 32) else some p else some p
def f231 (p : UInt8) : Option (Bool) := (f234 p).bind fun r1 => if (decide (r1 ≥ 97)) = true then (f234 p).bind fun r2 => some (decide (r2 ≤ 122)) else some false
def f122 (p : UInt8) : Option (Bool) := if (decide (p ≥ 48)) = true then some (decide (p ≤ 57)) else some false
def f232 (p : UInt8 × Str) : Option (Bool) := (lIndexByte (p.2, p.1)).bind fun r1 => some (decide (r1 ≥ 0))
def f184 (p : UInt8) : Option (Bool) := (f231 p).bind fun r1 => if r1 = true then some true else (f122 p).bind fun r2 => if r2 = true then some true else (f232 (p, [33, 35, 36, 37, 38, 39, 42, 43, 45, 46, 94, 95, 96, 124, 126])).bind fun r3 => some r3
def f113a (p : S6 × UInt8) : Option (Bool × S6) := (f161 p.1).bind fun r1 => if (!r1.2) = true then some (false, p.1) else if (!(r1.1 == p.2)) = true then some (false, p.1) else (iAdd p.1.2 1).bind fun r2 => some (true, (p.1.1, r2))
def lFour (s : Str) : Option Bool := hostport_Four s
def f176_L1 (k0 : (UInt8 → Option Bool) × List Str × Int × Int → Option (Bool)) : Nat → (UInt8 → Option Bool) × Str × List Str × Int × Int × Int × Int → Option (Bool)
  | 0, _ => none
  | n + 1, t => if (decide (t.2.2.2.2.2.2 < t.2.2.2.2.2.1)) = true then (sAt t.2.1 t.2.2.2.2.2.2).bind fun r1 => (t.1 r1).bind fun r2 => if (!r2) = true then some false else (iAdd t.2.2.2.2.2.2 1).bind fun r3 => f176_L1 k0 n (t.1, t.2.1, t.2.2.1, t.2.2.2.1, t.2.2.2.2.1, t.2.2.2.2.2.1, r3) else (iAdd t.2.2.2.2.1 1).bind fun r4 => k0 (t.1, t.2.2.1, t.2.2.2.1, r4)
def f176_L0 : Nat → (UInt8 → Option Bool) × List Str × Int × Int → Option (Bool)
  | 0, _ => none
  | n + 1, t => if (decide (t.2.2.2 < t.2.2.1)) = true then (lAt t.2.1 t.2.2.2).bind fun r1 => f176_L1 (f176_L0 n) fuel (t.1, r1, t.2.1, t.2.2.1, t.2.2.2, (r1.length : Int), 0) else some true
def f176 (p : (UInt8 → Option Bool) × List Str) : Option (Bool) := f176_L0 fuel (p.1, p.2, (p.2.length : Int), 0)
def f229 (p : UInt8) : Option (Bool) := (f122 p).bind fun r1 => if r1 = true then some true else (f234 p).bind fun r2 => if (decide (r2 ≥ 97)) = true then (f234 p).bind fun r3 => some (decide (r3 ≤ 102)) else some false
def f170_j1 (k0 : Bool × List Str × Int × Int × Int → Option (Int)) (t : Bool × List Str × Int × Int × Int) : Option (Int) := (iAdd t.2.2.2.2 1).bind fun r1 => k0 (t.1, t.2.1, t.2.2.1, t.2.2.2.1, r1)
def f170_j2 (k0 : Bool × List Str × Int × Int × Int → Option (Int)) (t : Bool × List Str × Int × Int × Int × Bool) : Option (Int) := if t.2.2.2.2.2 = true then (iAdd t.2.2.1 1).bind fun r1 => f170_j1 k0 (t.1, t.2.1, r1, t.2.2.2.1, t.2.2.2.2.1) else some (-1)
def f170_j3 (k0 : Bool × List Str × Int × Int × Int → Option (Int)) (t : Bool × List Str × Int × Str × Int × Int × Bool) : Option (Int) := if t.2.2.2.2.2.2 = true then (iAdd t.2.2.1 2).bind fun r1 => f170_j1 k0 (t.1, t.2.1, r1, t.2.2.2.2.1, t.2.2.2.2.2.1) else if (decide ((t.2.2.2.1.length : Int) ≥ 1)) = true then if (decide ((t.2.2.2.1.length : Int) ≤ 4)) = true then (f176 (f229, [t.2.2.2.1])).bind fun r2 => f170_j2 k0 (t.1, t.2.1, t.2.2.1, t.2.2.2.2.1, t.2.2.2.2.2.1, r2) else f170_j2 k0 (t.1, t.2.1, t.2.2.1, t.2.2.2.2.1, t.2.2.2.2.2.1, false) else f170_j2 k0 (t.1, t.2.1, t.2.2.1, t.2.2.2.2.1, t.2.2.2.2.2.1, false)
def f170_L0 : Nat → Bool × List Str × Int × Int × Int → Option (Int)
  | 0, _ => none
  | n + 1, t => if (decide (t.2.2.2.2 < t.2.2.2.1)) = true then (lAt t.2.1 t.2.2.2.2).bind fun r1 => if t.1 = true then (iSub (t.2.1.length : Int) 1).bind fun r2 => if (t.2.2.2.2 == r2) = true then (lFour r1).bind fun r3 => f170_j3 (f170_L0 n) (t.1, t.2.1, t.2.2.1, r1, t.2.2.2.1, t.2.2.2.2, r3) else f170_j3 (f170_L0 n) (t.1, t.2.1, t.2.2.1, r1, t.2.2.2.1, t.2.2.2.2, false) else f170_j3 (f170_L0 n) (t.1, t.2.1, t.2.2.1, r1, t.2.2.2.1, t.2.2.2.2, false) else some t.2.2.1
def f170 (p : Str × Bool) : Option (Int) := if (p.1 == []) = true then some 0 else (lSplit (p.1, [58])).bind fun r1 => f170_L0 fuel (p.2, r1, 0, (r1.length : Int), 0)
def f116 (p : Str) : Option (Bool) := (lCut (p, [58, 58])).bind fun r1 => if (!r1.2.2) = true then (f170 (p, true)).bind fun r2 => some (r2 == 8) else (f170 (r1.1, false)).bind fun r3 => (f170 (r1.2.1, true)).bind fun r4 => if (decide (r3 ≥ 0)) = true then if (decide (r4 ≥ 0)) = true then (iAdd r3 r4).bind fun r5 => some (decide (r5 ≤ 7)) else some false else some false
def f172 (p : Str) : Option (Bool) := if (decide ((p.length : Int) ≥ 3)) = true then (sAt p 0).bind fun r1 => if (r1 == 37) = true then (sSub p 1 3).bind fun r2 => (f176 (f229, [r2])).bind fun r3 => some r3 else some false else some false
def f173 (p : UInt8) : Option (Bool) := (f231 p).bind fun r1 => if r1 = true then some true else (f122 p).bind fun r2 => if r2 = true then some true else (f232 (p, [45, 46, 95, 126])).bind fun r3 => some r3
def f174 (p : UInt8) : Option (Bool) := (f232 (p, [33, 36, 38, 39, 40, 41, 42, 43, 44, 59, 61])).bind fun r1 => some r1
def f118_L0 : Nat → Str → Option (Bool)
  | 0, _ => none
  | n + 1, t => if (!(t == [])) = true then (f172 t).bind fun r1 => if r1 = true then (sFrom t 3).bind fun r2 => f118_L0 n r2 else (sAt t 0).bind fun r3 => (f173 r3).bind fun r4 => if r4 = true then (sFrom t 1).bind fun r5 => f118_L0 n r5 else (sAt t 0).bind fun r6 => (f174 r6).bind fun r7 => if r7 = true then (sFrom t 1).bind fun r8 => f118_L0 n r8 else some false else some true
def f118 (p : Str) : Option (Bool) := if (p == []) = true then some false else f118_L0 fuel p
def f80_j0 (t : Str × S8 × S8 × Bool) : Option (S8 × Bool) := if t.2.2.2 = true then (iSub (t.1.length : Int) 1).bind fun r1 => (sSub t.1 1 r1).bind fun r2 => some ((3, r2, t.2.2.1.2.2), !((3 : Int) == 0)) else (lFour t.1).bind fun r3 => if r3 = true then some ((2, t.2.2.1.2.1, t.2.2.1.2.2), !((2 : Int) == 0)) else (f118 t.1).bind fun r4 => if r4 = true then some ((1, t.2.2.1.2.1, t.2.2.1.2.2), !((1 : Int) == 0)) else some (t.2.2.1, !(t.2.2.1.1 == 0))
def f80 (p : Str) : Option (S8 × Bool) := if (decide ((p.length : Int) > 2)) = true then (sAt p 0).bind fun r1 => if (r1 == 91) = true then (iSub (p.length : Int) 1).bind fun r2 => (sAt p r2).bind fun r3 => if (r3 == 93) = true then (iSub (p.length : Int) 1).bind fun r4 => (sSub p 1 r4).bind fun r5 => (f116 r5).bind fun r6 => f80_j0 (p, (0, [], 0), (0, p, (-1)), r6) else f80_j0 (p, (0, [], 0), (0, p, (-1)), false) else f80_j0 (p, (0, [], 0), (0, p, (-1)), false) else f80_j0 (p, (0, [], 0), (0, p, (-1)), false)
def f119_L0 : Nat → Str × UInt8 × Int → Option (Int)
  | 0, _ => none
  | n + 1, t => if (decide (t.2.2 ≥ 0)) = true then (sAt t.1 t.2.2).bind fun r1 => if (r1 == t.2.1) = true then some t.2.2 else (iSub t.2.2 1).bind fun r2 => f119_L0 n (t.1, t.2.1, r2) else some (-1)
def f119 (p : Str × UInt8) : Option (Int) := (iSub (p.1.length : Int) 1).bind fun r1 => f119_L0 fuel (p.1, p.2, r1)
def f81 (p : Str × UInt8) : Option (Int) := (f119 p).bind fun r1 => some r1
def f177 (p : UInt8) : Option (Int) := (f122 p).bind fun r1 => if r1 = true then some ((p - 48).toNat : Int) else (f234 p).bind fun r2 => (iAdd ((r2 - 97).toNat : Int) 10).bind fun r3 => some r3
def f121_L0 : Nat → Str × Int × Int × Int × Int × Int → Option (Int × Int)
  | 0, _ => none
  | n + 1, t => if (decide (t.2.2.2.2.2 < t.2.2.2.2.1)) = true then (sAt t.1 t.2.2.2.2.2).bind fun r1 => (f177 r1).bind fun r2 => if (decide (r2 > t.2.2.1)) = true then some (0, 7) else (iSub t.2.2.1 r2).bind fun r3 => (iDiv r3 t.2.1).bind fun r4 => if (decide (t.2.2.2.1 > r4)) = true then some (0, 7) else (iMul t.2.2.2.1 t.2.1).bind fun r5 => (iAdd r5 r2).bind fun r6 => (iAdd t.2.2.2.2.2 1).bind fun r7 => f121_L0 n (t.1, t.2.1, t.2.2.1, r6, t.2.2.2.2.1, r7) else some (t.2.2.2.1, 0)
def f121 (p : Str × Int × Int × (UInt8 → Option Bool)) : Option (Int × Int) := if (p.1 == []) = true then some (0, 2) else (f176 (p.2.2.2, [p.1])).bind fun r1 => if (!r1) = true then some (0, 2) else f121_L0 fuel (p.1, p.2.1, p.2.2.1, 0, (p.1.length : Int), 0)
def f83 (p : Str × Int) : Option (Int × Int) := (f121 (p.1, 10, p.2, f122)).bind fun r1 => some r1
def f175 (p : Int × Int) : Option (Str) := if (decide (p.1 < 0)) = true then some [] else (lFormatInt p).bind fun r1 => some r1
def f120 (p : Int) : Option (Str) := (f175 (p, 10)).bind fun r1 => some r1
def f82 (p : Str × Int) : Option (Bool) := (f83 p).bind fun r1 => if (r1.2 == 0) = true then (f120 r1.1).bind fun r2 => some (r2 == p.1) else some false
def f50 (p : Str) : Option (S8 × Int) := (f80 p).bind fun r1 => if r1.2 = true then some (r1.1, 0) else (f81 (p, 58)).bind fun r2 => if (decide (r2 < 0)) = true then some ((0, [], 0), 27) else (sTo p r2).bind fun r3 => (f80 r3).bind fun r4 => if (!r4.2) = true then some ((0, [], 0), 27) else (iAdd r2 1).bind fun r5 => (sFrom p r5).bind fun r6 => (f82 (r6, 65535)).bind fun r7 => if (!r7) = true then some ((0, [], 0), 27) else (iAdd r2 1).bind fun r8 => (sFrom p r8).bind fun r9 => (f83 (r9, 65535)).bind fun r10 => some ((r4.1.1, r4.1.2.1, r10.1), 0)
def f84 (p : Str) : Option (Bool) := (f118 p).bind fun r1 => if r1 = true then (lFour p).bind fun r2 => some (!r2) else some false
def f85 (p : Str × Str) : Option (Bool) := (lIndexAny p).bind fun r1 => some (decide (r1 ≥ 0))
def f51_L0 : Nat → List S1 × List S1 × Int × Int → Option (Int)
  | 0, _ => none
  | n + 1, t => if (decide (t.2.2.2 < t.2.2.1)) = true then (lAt t.2.1 t.2.2.2).bind fun r1 => (f84 r1.1).bind fun r2 => if (!r2) = true then some 27 else (f84 r1.2).bind fun r3 => if (!r3) = true then some 27 else (f85 (r1.2, [44, 59])).bind fun r4 => if r4 = true then some 27 else (iAdd t.2.2.2 1).bind fun r5 => f51_L0 n (t.1, t.2.1, t.2.2.1, r5) else if (decide ((t.1.length : Int) > 64)) = true then some 3 else some 0
def f51 (p : List S1) : Option (Int) := f51_L0 fuel (p, p, (p.length : Int), 0)
def f292 (p : UInt8) : Option (Bool) := (f231 p).bind fun r1 => if r1 = true then some true else (f122 p).bind fun r2 => if r2 = true then some true else if (p == 43) = true then some true else if (p == 45) = true then some true else some (p == 46)
def f239 (p : Str) : Option (Bool) := if (!(p == [])) = true then (sAt p 0).bind fun r1 => (f231 r1).bind fun r2 => if r2 = true then (f176 (f292, [p])).bind fun r3 => some r3 else some false else some false
def f286 (p : Str × Str) : Option (Bool) := if (decide ((p.1.length : Int) ≥ (p.2.length : Int))) = true then (sTo p.1 (p.2.length : Int)).bind fun r1 => some (r1 == p.2) else some false
def f240 (p : Str × Str) : Option (Bool) := (f286 p).bind fun r1 => some r1
def f241 (p : Str × Str) : Option (Str × Str) := (lIndexAny p).bind fun r1 => if (decide (r1 ≥ 0)) = true then (sTo p.1 r1).bind fun r2 => (sFrom p.1 r1).bind fun r3 => some (r2, r3) else some (p.1, [])
def f182_j1 (t : S9 × S9) : Option (S9) := some t.2
def f182_j0 (t : Str × S9 × S9) : Option (S9) := if (!(t.1 == [])) = true then (sFrom t.1 1).bind fun r1 => f182_j1 (t.2.1, (t.2.2.1, t.2.2.2.1, t.2.2.2.2.1, t.2.2.2.2.2.1, r1, t.2.2.2.2.2.2.2.1, t.2.2.2.2.2.2.2.2.1, true)) else f182_j1 t.2
def f182_j2 (t : Str × S9 × S9) : Option (S9) := (f241 (t.1, [63, 35])).bind fun r1 => (f240 (r1.2, [63])).bind fun r2 => if r2 = true then (sFrom r1.2 1).bind fun r3 => (f241 (r3, [35])).bind fun r4 => f182_j0 (r4.2, t.2.1, (t.2.2.1, t.2.2.2.1, r1.1, r4.1, t.2.2.2.2.2.2.1, t.2.2.2.2.2.2.2.1, true, t.2.2.2.2.2.2.2.2.2)) else f182_j0 (r1.2, t.2.1, (t.2.2.1, t.2.2.2.1, r1.1, t.2.2.2.2.2.1, t.2.2.2.2.2.2.1, t.2.2.2.2.2.2.2.1, t.2.2.2.2.2.2.2.2.1, t.2.2.2.2.2.2.2.2.2))
def f182_j3 (t : Str × S9 × S9) : Option (S9) := (f240 (t.1, [47, 47])).bind fun r1 => if r1 = true then (sFrom t.1 2).bind fun r2 => (f241 (r2, [47, 63, 35])).bind fun r3 => f182_j2 (r3.2, t.2.1, (t.2.2.1, r3.1, t.2.2.2.2.1, t.2.2.2.2.2.1, t.2.2.2.2.2.2.1, true, t.2.2.2.2.2.2.2.2.1, t.2.2.2.2.2.2.2.2.2)) else f182_j2 t
def f182_j4 (t : Str × S9 × S9 × Int × Bool) : Option (S9) := if t.2.2.2.2 = true then (sTo t.1 t.2.2.2.1).bind fun r1 => (iAdd t.2.2.2.1 1).bind fun r2 => (sFrom t.1 r2).bind fun r3 => f182_j3 (r3, t.2.1, (r1, t.2.2.1.2.1, t.2.2.1.2.2.1, t.2.2.1.2.2.2.1, t.2.2.1.2.2.2.2.1, t.2.2.1.2.2.2.2.2.1, t.2.2.1.2.2.2.2.2.2.1, t.2.2.1.2.2.2.2.2.2.2)) else f182_j3 (t.1, t.2.1, t.2.2.1)
def f182 (p : Str) : Option (S9) := (lIndexByte (p, 58)).bind fun r1 => if (decide (r1 > 0)) = true then (sTo p r1).bind fun r2 => (f239 r2).bind fun r3 => f182_j4 (p, ([], [], [], [], [], false, false, false), ([], [], [], [], [], false, false, false), r1, r3) else f182_j4 (p, ([], [], [], [], [], false, false, false), ([], [], [], [], [], false, false, false), r1, false)
def f293 (p : UInt8) : Option (Bool) := (f173 p).bind fun r1 => if r1 = true then some true else (f174 p).bind fun r2 => if r2 = true then some true else (f232 (p, [58, 64])).bind fun r3 => some r3
def f242_j1 (k0 : Str × Str × Int → Option (Bool)) (t : Str × Str × Int × Bool) : Option (Bool) := if t.2.2.2 = true then some false else (iAdd t.2.2.1 1).bind fun r1 => k0 (t.1, t.2.1, r1)
def f242_L0 : Nat → Str × Str × Int → Option (Bool)
  | 0, _ => none
  | n + 1, t => if (decide (t.2.2 < (t.1.length : Int))) = true then (sAt t.1 t.2.2).bind fun r1 => if (r1 == 37) = true then (iAdd t.2.2 2).bind fun r2 => if (decide (r2 ≥ (t.1.length : Int))) = true then some false else (iAdd t.2.2 1).bind fun r3 => (iAdd t.2.2 3).bind fun r4 => (sSub t.1 r3 r4).bind fun r5 => (f176 (f229, [r5])).bind fun r6 => if (!r6) = true then some false else (iAdd t.2.2 2).bind fun r7 => (iAdd r7 1).bind fun r8 => f242_L0 n (t.1, t.2.1, r8) else (sAt t.1 t.2.2).bind fun r9 => (f293 r9).bind fun r10 => if (!r10) = true then (sAt t.1 t.2.2).bind fun r11 => (lIndexByte (t.2.1, r11)).bind fun r12 => f242_j1 (f242_L0 n) (t.1, t.2.1, t.2.2, decide (r12 < 0)) else f242_j1 (f242_L0 n) (t.1, t.2.1, t.2.2, false) else some true
def f242 (p : Str × Str) : Option (Bool) := f242_L0 fuel (p.1, p.2, 0)
def f183 (p : S9) : Option (Bool) := (f241 (p.2.2.1, [47])).bind fun r1 => (f242 (p.2.1, [91, 93])).bind fun r2 => if (!r2) = true then some false else (lContains (p.2.1, [64])).bind fun r3 => if r3 = true then some false else (f242 (p.2.2.1, [47])).bind fun r4 => if (!r4) = true then some false else (f242 (p.2.2.2.1, [47, 63])).bind fun r5 => if (!r5) = true then some false else (f242 (p.2.2.2.2.1, [47, 63])).bind fun r6 => if (!r6) = true then some false else if p.2.2.2.2.2.1 = true then if (p.2.2.1 == []) = true then some true else (sAt p.2.2.1 0).bind fun r7 => some (r7 == 47) else (f240 (p.2.2.1, [47, 47])).bind fun r8 => if r8 = true then some false else if (!(p.1 == [])) = true then some true else (lContains (r1.1, [58])).bind fun r9 => some (!r9)
def f124 (p : Str) : Option (S9 × Int) := (f182 p).bind fun r1 => (f183 r1).bind fun r2 => if (!r2) = true then some (([], [], [], [], [], false, false, false), 2) else some (r1, 0)
def f86 (p : Str) : Option (Bool) := (f124 p).bind fun r1 => some (r1.2 == 0)
def f52_L0 : Nat → List S1 × List S1 × Int × Int → Option (Int)
  | 0, _ => none
  | n + 1, t => if (decide (t.2.2.2 < t.2.2.1)) = true then (lAt t.2.1 t.2.2.2).bind fun r1 => if (r1.1 == []) = true then some 2 else (f86 r1.1).bind fun r2 => if (!r2) = true then some 2 else (f86 r1.2).bind fun r3 => if (!r3) = true then some 2 else (iAdd t.2.2.2 1).bind fun r4 => f52_L0 n (t.1, t.2.1, t.2.2.1, r4) else if (decide ((t.1.length : Int) > 64)) = true then some 3 else some 0
def f52 (p : List S1) : Option (Int) := f52_L0 fuel (p, p, (p.length : Int), 0)
def f25 (p : Int) : Option (Option S18 × Int) := if (decide (p < 1)) = true then some (none, 1) else if (decide (p > 65536)) = true then some (none, 1) else some (some (p, [], false), 0)
def f26 (p : Int) : Option (Option S11 × Int) := if (decide (p < 1)) = true then some (none, 1) else if (decide (p > 64)) = true then some (none, 1) else some (some ([], p, false), 0)
def f87 (p : Int) : Option (List Str) := if (p == 1) = true then some ([[99, 108, 105, 101, 110, 116], [104, 111, 115, 116], [109, 101, 116, 104, 111, 100], [112, 97, 116, 104], [115, 99, 104, 101, 109, 101]]) else if (p == 2) = true then some ([[99, 108, 105, 101, 110, 116], [104, 111, 115, 116], [115, 99, 104, 101, 109, 101], [115, 116, 97, 116, 117, 115]]) else some []
def lClone28 (p : List S1) : Option (List S1) := if fitsApp 0 p.length 32 = true then some p else none
def lClone29 (p : List S4) : Option (List S4) := if fitsApp 0 p.length 24 = true then some p else none
def f54_j0 (t : Int × Int × Bool) : Option (Option S13 × Int) := if t.2.2 = true then some (none, 1) else some (some (t.1, t.2.1, [], 0, false, 0, false, 0, [], [], 0, [], 0, []), 0)
def f54 (p : Int × Int) : Option (Option S13 × Int) := if (!(p.1 == 1)) = true then if (!(p.1 == 2)) = true then f54_j0 (p.1, p.2, true) else if (decide (p.2 < 0)) = true then f54_j0 (p.1, p.2, true) else f54_j0 (p.1, p.2, decide (p.2 > 65536)) else if (decide (p.2 < 0)) = true then f54_j0 (p.1, p.2, true) else f54_j0 (p.1, p.2, decide (p.2 > 65536))
def f30 (p : Int × Int) : Option (S19) := (f54 p).bind fun r1 => optK r1.1 (some (none, none, none)) fun r2 => some (some r2, none, none)
def f55 (p : Unit) : Option (Bool) := some true
def f55a (p : S13) : Option (Bool) := some (!p.2.2.2.2.1)
def f31 (p : S19) : Option (Bool) := optK p.2.1 (optK p.1 ((f55 ()).bind fun r3 => some r3) fun r2 => (f55a r2).bind fun r4 => some r4) fun r1 => some false
def f32 (p : Unit) : Option (Bool) := some false
def f56 (p : S20) : Option (Int) := (iSub p.2 (p.1.length : Int)).bind fun r1 => some r1
def f32a (p : S11) : Option (Bool) := (f56 (p.1, p.2.1)).bind fun r1 => some (r1 == 0)
def f15 (p : S10) : Option (Bool) := if (!p.2.2.2.2.2.2.2.2.2.2.2.2.2.2.2.2.2.2.2.2.2.2.2.2.2.2) = true then if (!p.2.2.2.2.2.2.2.2.2.2.2.2.2.2.2.2.2.2.2.2.1) = true then (f31 (p.2.2.2.2.2.2.2.2.2.2.2.1, p.2.2.2.2.2.2.2.2.2.2.2.2.1, p.2.2.2.2.2.2.2.2.2.2.2.2.2.1)).bind fun r1 => if (!r1) = true then some true else optK p.1 ((f32 ()).bind fun r3 => some (!r3)) fun r2 => (f32a r2).bind fun r4 => some (!r4) else some false else some false
def f33 (p : Unit × Str) : Option (Int × Bool × Int) := some (0, false, 5)
def f58 (p : Int) : Option (Int) := if (p == 0) = true then some 0 else if (p == 3) = true then some 431 else some 400
def f59 (p : Unit) : Option (S22 × Bool) := some ((0, [], [], 0, [], 0, []), false)
def lClone218 (p : List S14) : Option (List S14) := if fitsApp 0 p.length 32 = true then some p else none
def f148 (p : List S14) : Option (S24) := (lClone218 p).bind fun r1 => some r1
def f205 (p : S24) : Option (List S14) := (lClone218 p).bind fun r1 => some r1
def lFold (s : Str) : Option Str := octet_Fold s
def f219 (p : Str × Str) : Option (Bool) := (lFold p.1).bind fun r1 => (lFold p.2).bind fun r2 => some (r1 == r2)
def f149_j1 (k0 : Str × List Str × List S14 × Int × Int → Option (List Str)) (t : Str × List Str × List S14 × Int × Int) : Option (List Str) := (iAdd t.2.2.2.2 1).bind fun r1 => k0 (t.1, t.2.1, t.2.2.1, t.2.2.2.1, r1)
def f149_L0 : Nat → Str × List Str × List S14 × Int × Int → Option (List Str)
  | 0, _ => none
  | n + 1, t => if (decide (t.2.2.2.2 < t.2.2.2.1)) = true then (lAt t.2.2.1 t.2.2.2.2).bind fun r1 => (f219 (r1.1, t.1)).bind fun r2 => if r2 = true then if fitsApp t.2.1.length ([r1.2] : List Str).length 16 then f149_j1 (f149_L0 n) (t.1, t.2.1 ++ [r1.2], t.2.2.1, t.2.2.2.1, t.2.2.2.2) else none else f149_j1 (f149_L0 n) t else some t.2.1
def f149 (p : S24 × Str) : Option (List Str) := (f205 p.1).bind fun r1 => f149_L0 fuel (p.2, [], r1, (r1.length : Int), 0)
def f244 (p : UInt8) : Option (Bool) := if (decide (p > 32)) = true then some (decide (p < 127)) else some false
def f245 (p : UInt8) : Option (Bool) := if (p == 32) = true then some true else some (p == 9)
def f185 (p : UInt8) : Option (Bool) := (f244 p).bind fun r1 => if r1 = true then some true else (f245 p).bind fun r2 => if r2 = true then some true else some (decide (p > 127))
def f372a (p : S27) : Option (Bool × S27) := (f113a (p.1, 92)).bind fun r1 => (f161 r1.2).bind fun r2 => if (!r2.2) = true then some (false, (r1.2, p.2)) else (f185 r2.1).bind fun r3 => if (!r3) = true then some (false, (r1.2, p.2)) else if fitsApp p.2.length ([r2.1] : List UInt8).length 1 then (f113a (r1.2, r2.1)).bind fun r4 => some (r4.1, (r4.2, p.2 ++ [r2.1])) else none
def f373a (p : S6 × Int) : Option (Bool × S6) := if (decide (p.2 < 0)) = true then some (false, p.1) else (f225 p.1).bind fun r1 => if (decide (p.2 > r1)) = true then some (false, p.1) else some (true, (p.1.1, p.2))
def f303a_j0 (t : S26) : Option (S26) := (f225 t.1).bind fun r1 => some (t.1, t.2.1, r1, t.2.2.2)
def f303a (p : S26 × Int) : Option (S26) := (sSub p.1.2.2.2 p.1.2.2.1 p.2).bind fun r1 => (lTrim (r1, [32, 9])).bind fun r2 => if (!(r2 == [])) = true then if fitsApp p.1.2.1.length ([r2] : List Str).length 16 then f303a_j0 (p.1.1, p.1.2.1 ++ [r2], p.1.2.2.1, p.1.2.2.2) else none else f303a_j0 p.1
def f125 (p : Str) : Option (Bool) := if (!(p == [])) = true then (f176 (f184, [p])).bind fun r1 => some r1 else some false
def f253_L0 : Nat → List Str × Str × Int × Int → Option (Int)
  | 0, _ => none
  | n + 1, t => if (decide (t.2.2.2 < t.2.2.1)) = true then (lAt t.1 t.2.2.2).bind fun r1 => if (t.2.1 == r1) = true then some t.2.2.2 else (iAdd t.2.2.2 1).bind fun r2 => f253_L0 n (t.1, t.2.1, t.2.2.1, r2) else some (-1)
def f253 (p : List Str × Str) : Option (Int) := f253_L0 fuel (p.1, p.2, (p.1.length : Int), 0)
def f188 (p : List Str × Str) : Option (Bool) := (f253 p).bind fun r1 => some (decide (r1 ≥ 0))
def f252 (p : Unit) : Option (List Str) := some ([[99, 111, 110, 110, 101, 99, 116, 105, 111, 110], [99, 111, 110, 116, 101, 110, 116, 45, 108, 101, 110, 103, 116, 104], [107, 101, 101, 112, 45, 97, 108, 105, 118, 101], [112, 114, 111, 120, 121, 45, 99, 111, 110, 110, 101, 99, 116, 105, 111, 110], [116, 101], [116, 114, 97, 105, 108, 101, 114], [116, 114, 97, 110, 115, 102, 101, 114, 45, 101, 110, 99, 111, 100, 105, 110, 103], [117, 112, 103, 114, 97, 100, 101]])
def f323_j1 (k0 : Str × Str × Int → Option (Bool)) (t : Str × Str × Int × Bool) : Option (Bool) := if t.2.2.2 = true then (iAdd t.2.2.1 2).bind fun r1 => (iAdd r1 1).bind fun r2 => k0 (t.1, t.2.1, r2) else some false
def f323_L0 : Nat → Str × Str × Int → Option (Bool)
  | 0, _ => none
  | n + 1, t => if (decide (t.2.2 < (t.1.length : Int))) = true then (sAt t.1 t.2.2).bind fun r1 => (f293 r1).bind fun r2 => if r2 = true then (iAdd t.2.2 1).bind fun r3 => f323_L0 n (t.1, t.2.1, r3) else (sAt t.1 t.2.2).bind fun r4 => (lIndexByte (t.2.1, r4)).bind fun r5 => if (decide (r5 ≥ 0)) = true then (iAdd t.2.2 1).bind fun r6 => f323_L0 n (t.1, t.2.1, r6) else (sAt t.1 t.2.2).bind fun r7 => if (r7 == 37) = true then (iAdd t.2.2 2).bind fun r8 => if (decide (r8 < (t.1.length : Int))) = true then (iAdd t.2.2 1).bind fun r9 => (iAdd t.2.2 3).bind fun r10 => (sSub t.1 r9 r10).bind fun r11 => (f176 (f229, [r11])).bind fun r12 => f323_j1 (f323_L0 n) (t.1, t.2.1, t.2.2, r12) else f323_j1 (f323_L0 n) (t.1, t.2.1, t.2.2, false) else f323_j1 (f323_L0 n) (t.1, t.2.1, t.2.2, false) else some true
def f323 (p : Str × Str) : Option (Bool) := f323_L0 fuel (p.1, p.2, 0)
def f276 (p : Str) : Option (Bool) := (f240 (p, [47])).bind fun r1 => if r1 = true then (f323 (p, [47])).bind fun r2 => some r2 else some false
def f277 (p : Str) : Option (Bool) := (f323 (p, [47, 63])).bind fun r1 => some r1
def f210 (p : Str) : Option (Str × Str × Bool × Int) := (lCut (p, [63])).bind fun r1 => (f276 r1.1).bind fun r2 => if (!r2) = true then some ([], [], false, 2) else (f277 r1.2.1).bind fun r3 => if (!r3) = true then some ([], [], false, 2) else some (r1.1, r1.2.1, r1.2.2, 0)
def f308_j0 (t : S28 × S28 × Int) : Option (S28 × Bool) := some (t.1, t.2.2 == 0)
def f308_j1 (t : Str × S28 × S28 × Bool) : Option (S28 × Bool) := (f210 t.1).bind fun r1 => if t.2.2.2 = true then f308_j0 ((t.2.1.1, t.2.1.2.1, t.2.1.2.2.1, t.2.1.2.2.2.1, t.2.1.2.2.2.2.1, [], r1.2.1, r1.2.2.1), t.2.2.1, r1.2.2.2) else f308_j0 ((t.2.1.1, t.2.1.2.1, t.2.1.2.2.1, t.2.1.2.2.2.1, t.2.1.2.2.2.2.1, r1.1, r1.2.1, r1.2.2.1), t.2.2.1, r1.2.2.2)
def f308 (p : S28 × Str) : Option (S28 × Bool) := if (p.2 == []) = true then some (p.1, true) else (sAt p.2 0).bind fun r1 => if (r1 == 63) = true then (sCat [47] p.2).bind fun r2 => f308_j1 (r2, p.1, (0, [], 0, [], 0, [], [], false), r1 == 63) else f308_j1 (p.2, p.1, (0, [], 0, [], 0, [], [], false), r1 == 63)
def f307_j0 (t : S28 × Str × S28 × Int) : Option (S28 × Bool) := (sTo t.2.1 t.2.2.2).bind fun r1 => (f50 r1).bind fun r2 => if (!(r2.2 == 0)) = true then some (t.2.2.1, false) else (sFrom t.2.1 t.2.2.2).bind fun r3 => (f308 ((t.2.2.1.1, t.2.2.1.2.1, r2.1.1, r2.1.2.1, r2.1.2.2, t.2.2.1.2.2.2.2.2.1, t.2.2.1.2.2.2.2.2.2.1, t.2.2.1.2.2.2.2.2.2.2), r3)).bind fun r4 => some r4
def f307_j1 (t : S28 × Str × S28 × Bool) : Option (S28 × Bool) := if t.2.2.2 = true then some (t.2.2.1, false) else (lIndexAny (t.2.1, [47, 63])).bind fun r1 => if (decide (r1 < 0)) = true then f307_j0 (t.1, t.2.1, t.2.2.1, (t.2.1.length : Int)) else f307_j0 (t.1, t.2.1, t.2.2.1, r1)
def f307 (p : Str) : Option (S28 × Bool) := (lCut (p, [58, 47, 47])).bind fun r1 => (lFold r1.1).bind fun r2 => if (!r1.2.2) = true then f307_j1 ((0, [], 0, [], 0, [], [], false), r1.2.1, (2, r2, 0, [], 0, [], [], false), true) else if (!(r2 == [104, 116, 116, 112])) = true then f307_j1 ((0, [], 0, [], 0, [], [], false), r1.2.1, (2, r2, 0, [], 0, [], [], false), !(r2 == [104, 116, 116, 112, 115])) else f307_j1 ((0, [], 0, [], 0, [], [], false), r1.2.1, (2, r2, 0, [], 0, [], [], false), false)
def f266 (p : Str × Str) : Option (S28 × Bool) := if (p.2 == [42]) = true then some ((4, [], 0, [], 0, [], [], false), p.1 == [79, 80, 84, 73, 79, 78, 83]) else (f240 (p.2, [47])).bind fun r1 => if (!r1) = true then (f307 p.2).bind fun r2 => some r2 else (f308 ((1, [], 0, [], 0, [], [], false), p.2)).bind fun r3 => some r3
def f201 (p : Str × Str) : Option (S28 × Int) := if (p.1 == [67, 79, 78, 78, 69, 67, 84]) = true then (f50 p.2).bind fun r1 => if (!(r1.2 == 0)) = true then some ((0, [], 0, [], 0, [], [], false), 20) else if (decide (r1.1.2.2 < 0)) = true then some ((0, [], 0, [], 0, [], [], false), 20) else some ((3, [], r1.1.1, r1.1.2.1, r1.1.2.2, [], [], false), 0) else (f266 p).bind fun r2 => if (!r2.2) = true then some ((0, [], 0, [], 0, [], [], false), 20) else some (r2.1, 0)
def f267 (p : Str × Str × Bool) : Option (Str) := if (!p.2.2) = true then some p.1 else (sCat p.1 [63]).bind fun r1 => (sCat r1 p.2.1).bind fun r2 => some r2
def f202_j0 (t : S28 × Str) : Option (Str) := (f267 (t.2, t.1.2.2.2.2.2.2.1, t.1.2.2.2.2.2.2.2)).bind fun r1 => some r1
def f202 (p : S28) : Option (Str) := if (p.1 == 4) = true then some [42] else if (p.1 == 3) = true then some [] else if (p.2.2.2.2.2.1 == []) = true then f202_j0 (p, [47]) else f202_j0 (p, p.2.2.2.2.2.1)
def f268_j0 (t : S8 × List Str) : Option (Str × Int) := (f78 ([], t.2)).bind fun r1 => (f50 r1).bind fun r2 => if (!(r2.2 == 0)) = true then some ([], 27) else if (!(eq8 r2.1 t.1)) = true then some ([], 27) else some (r1, 0)
def f268_j1 (t : S8 × List Str) : Option (Str × Int) := if (!(t.1.2.2 == (-1))) = true then (f120 t.1.2.2).bind fun r1 => if fitsApp t.2.length ([[58], r1] : List Str).length 16 then f268_j0 (t.1, t.2 ++ ([[58], r1])) else none else f268_j0 t
def f268 (p : S8) : Option (Str × Int) := if (p.1 == 3) = true then f268_j1 (p, [[91], p.2.1, [93]]) else f268_j1 (p, [p.2.1])
def f270 (p : S24 × Str) : Option (Str × Bool) := (f149 p).bind fun r1 => if ((r1.length : Int) == 0) = true then some ([], false) else (lAt r1 0).bind fun r2 => some (r2, true)
def f226 (p : Str × Str) : Option (Str × Bool) := (f286 p).bind fun r1 => if (!r1) = true then some (p.1, false) else (sFrom p.1 (p.2.length : Int)).bind fun r2 => some (r2, true)
def f165 (p : Str × Str) : Option (Str × Bool) := (f226 p).bind fun r1 => some r1
def f287 (p : Str × Str) : Option (Bool) := if (decide ((p.1.length : Int) ≥ (p.2.length : Int))) = true then (iSub (p.1.length : Int) (p.2.length : Int)).bind fun r1 => (sFrom p.1 r1).bind fun r2 => some (r2 == p.2) else some false
def f351 (p : Str × Str) : Option (Bool) := (f287 p).bind fun r1 => some r1
def f312_j2 (k0 : Str × List S1 × Int × Int → Option (Str × Bool)) (t : Str × List S1 × Int × Int) : Option (Str × Bool) := (iAdd t.2.2.2 1).bind fun r1 => k0 (t.1, t.2.1, t.2.2.1, r1)
def f312_j1 (k0 : Str × List S1 × Int × Int → Option (Str × Bool)) (t : Str × S1 × Str × List S1 × Int × Int × Bool) : Option (Str × Bool) := if t.2.2.2.2.2.2 = true then f312_j2 k0 (t.1, t.2.2.2.1, t.2.2.2.2.1, t.2.2.2.2.2.1) else if (t.2.2.1 == []) = true then (sCat t.2.1.2 t.2.2.1).bind fun r1 => some (r1, true) else (f351 (t.2.1.1, [47])).bind fun r2 => if r2 = true then (sCat t.2.1.2 t.2.2.1).bind fun r3 => some (r3, true) else (sAt t.2.2.1 0).bind fun r4 => (lIndexByte ([47, 63, 35], r4)).bind fun r5 => if (decide (r5 ≥ 0)) = true then (sCat t.2.1.2 t.2.2.1).bind fun r6 => some (r6, true) else f312_j2 k0 (t.1, t.2.2.2.1, t.2.2.2.2.1, t.2.2.2.2.2.1)
def f312_L0 : Nat → Str × List S1 × Int × Int → Option (Str × Bool)
  | 0, _ => none
  | n + 1, t => if (decide (t.2.2.2 < t.2.2.1)) = true then (lAt t.2.1 t.2.2.2).bind fun r1 => (f165 (t.1, r1.1)).bind fun r2 => if (!r2.2) = true then f312_j1 (f312_L0 n) (t.1, r1, r2.1, t.2.1, t.2.2.1, t.2.2.2, true) else f312_j1 (f312_L0 n) (t.1, r1, r2.1, t.2.1, t.2.2.1, t.2.2.2, r1.1 == []) else some (t.1, false)
def f312 (p : Str × List S1) : Option (Str × Bool) := f312_L0 fuel (p.1, p.2, (p.2.length : Int), 0)
def f272 (p : Str × List S1) : Option (Str) := (f312 p).bind fun r1 => if (!r1.2) = true then some p.1 else (f86 p.1).bind fun r2 => if (!r2) = true then some p.1 else (f86 r1.1).bind fun r3 => if (!r3) = true then some p.1 else some r1.1
def f376 (p : UInt8) : Option (Bool) := some true
def f162a_L0 : Nat → S6 × (UInt8 → Option Bool) × Int → Option (Str × S6)
  | 0, _ => none
  | n + 1, t => (f161 t.1).bind fun r1 => if (!r1.2) = true then (sSub t.1.1 t.2.2 t.1.2).bind fun r2 => some (r2, t.1) else (t.2.1 r1.1).bind fun r3 => if (!r3) = true then (sSub t.1.1 t.2.2 t.1.2).bind fun r4 => some (r4, t.1) else (iAdd t.1.2 1).bind fun r5 => f162a_L0 n ((t.1.1, r5), t.2.1, t.2.2)
def f162a (p : S6 × (UInt8 → Option Bool)) : Option (Str × S6) := (f225 p.1).bind fun r1 => f162a_L0 fuel (p.1, p.2, r1)
def f227 (p : Str × Str) : Option (Str × Bool) := (f287 p).bind fun r1 => if (!r1) = true then some (p.1, false) else (iSub (p.1.length : Int) (p.2.length : Int)).bind fun r2 => (sTo p.1 r2).bind fun r3 => some (r3, true)
def f167 (p : Str × Str) : Option (Str × Bool) := (f227 p).bind fun r1 => some r1
def f377 (p : UInt8) : Option (Bool) := (f244 p).bind fun r1 => if r1 = true then (lIndexByte ([34, 44, 59, 92], p)).bind fun r2 => some (decide (r2 < 0)) else some false
def f353 (p : Str) : Option (Bool) := (f165 (p, [34])).bind fun r1 => (f167 (r1.1, [34])).bind fun r2 => if (r1.2 == r2.2) = true then (f176 (f377, [r2.1])).bind fun r3 => some r3 else some false
def f354_L0 : Nat → Str × S31 × Int → Option (Int)
  | 0, _ => none
  | n + 1, t => if (decide (t.2.2 ≥ 0)) = true then (lAt t.2.1.2.2 t.2.2).bind fun r1 => (f219 (r1.1, t.1)).bind fun r2 => if r2 = true then some t.2.2 else (iSub t.2.2 1).bind fun r3 => f354_L0 n (t.1, t.2.1, r3) else some (-1)
def f354 (p : S31 × Str) : Option (Int) := (iSub (p.1.2.2.length : Int) 1).bind fun r1 => f354_L0 fuel (p.2, p.1, r1)
def f314 (p : S31 × Str) : Option (Str × Bool) := (f354 p).bind fun r1 => if (decide (r1 < 0)) = true then some ([], false) else (lAt p.1.2.2 r1).bind fun r2 => some (r2.2.1, true)
def f378 (p : Str × Str) : Option (Str) := (f286 p).bind fun r1 => if r1 = true then (sFrom p.1 (p.2.length : Int)).bind fun r2 => some r2 else some p.1
def f355 (p : Str × Str) : Option (Str) := (f378 p).bind fun r1 => some r1
def f356 (p : Str × Str) : Option (Bool) := (f118 p.1).bind fun r1 => if (!r1) = true then some false else (f118 p.2).bind fun r2 => if (!r2) = true then some false else (lFour p.1).bind fun r3 => if r3 = true then some false else (lFour p.2).bind fun r4 => if r4 = true then some false else (lFold p.1).bind fun r5 => (lFold p.2).bind fun r6 => if (r5 == r6) = true then some true else (sCat [46] r6).bind fun r7 => (f351 (r5, r7)).bind fun r8 => some r8
def f315_L0 : Nat → Str × Str × List S1 × Int × Int → Option (Str × Bool)
  | 0, _ => none
  | n + 1, t => if (decide (t.2.2.2.2 < t.2.2.2.1)) = true then (lAt t.2.2.1 t.2.2.2.2).bind fun r1 => (f356 (t.2.1, r1.1)).bind fun r2 => if r2 = true then (iSub (t.2.1.length : Int) (r1.1.length : Int)).bind fun r3 => (sTo t.2.1 r3).bind fun r4 => (sCat r4 r1.2).bind fun r5 => some (r5, true) else (iAdd t.2.2.2.2 1).bind fun r6 => f315_L0 n (t.1, t.2.1, t.2.2.1, t.2.2.2.1, r6) else some (t.1, false)
def f315 (p : Str × List S1) : Option (Str × Bool) := (f355 (p.1, [46])).bind fun r1 => f315_L0 fuel (p.1, r1, p.2, (p.2.length : Int), 0)
def f317_j1 (k0 : Str × Str × S32 × Int × S32 × List S30 × Int × Int → Option (S32)) (t : Str × Str × S32 × Int × S32 × List S30 × Int × Int) : Option (S32) := (iAdd t.2.2.2.2.2.2.2 1).bind fun r1 => k0 (t.1, t.2.1, t.2.2.1, t.2.2.2.1, t.2.2.2.2.1, t.2.2.2.2.2.1, t.2.2.2.2.2.2.1, r1)
def f317_j2 (k0 : Str × Str × S32 × Int × S32 × List S30 × Int × Int → Option (S32)) (t : Str × Str × S32 × Int × S32 × S30 × List S30 × Int × Int) : Option (S32) := if fitsApp t.2.2.2.2.1.2.2.length ([t.2.2.2.2.2.1] : List S30).length 40 then f317_j1 k0 (t.1, t.2.1, t.2.2.1, t.2.2.2.1, (t.2.2.2.2.1.1, t.2.2.2.2.1.2.1, t.2.2.2.2.1.2.2 ++ [t.2.2.2.2.2.1]), t.2.2.2.2.2.2.1, t.2.2.2.2.2.2.2.1, t.2.2.2.2.2.2.2.2) else none
def f317_j3 (t : S32 × S32) : Option (S32) := some t.2
def f317_L0 : Nat → Str × Str × S32 × Int × S32 × List S30 × Int × Int → Option (S32)
  | 0, _ => none
  | n + 1, t => if (decide (t.2.2.2.2.2.2.2 < t.2.2.2.2.2.2.1)) = true then (lAt t.2.2.2.2.2.1 t.2.2.2.2.2.2.2).bind fun r1 => if (t.2.2.2.2.2.2.2 == t.2.2.2.1) = true then f317_j2 (f317_L0 n) (t.1, t.2.1, t.2.2.1, t.2.2.2.1, t.2.2.2.2.1, (r1.1, t.2.1, true), t.2.2.2.2.2.1, t.2.2.2.2.2.2.1, t.2.2.2.2.2.2.2) else (f219 (r1.1, t.1)).bind fun r2 => if r2 = true then f317_j1 (f317_L0 n) t else f317_j2 (f317_L0 n) (t.1, t.2.1, t.2.2.1, t.2.2.2.1, t.2.2.2.2.1, r1, t.2.2.2.2.2.1, t.2.2.2.2.2.2.1, t.2.2.2.2.2.2.2) else if (decide (t.2.2.2.1 < 0)) = true then if fitsApp t.2.2.2.2.1.2.2.length ([(t.1, t.2.1, true)] : List S30).length 40 then f317_j3 (t.2.2.1, (t.2.2.2.2.1.1, t.2.2.2.2.1.2.1, t.2.2.2.2.1.2.2 ++ [(t.1, t.2.1, true)])) else none else f317_j3 (t.2.2.1, t.2.2.2.2.1)
def f317 (p : S31 × Str × Str) : Option (S32) := (f354 (p.1, p.2.1)).bind fun r1 => f317_L0 fuel (p.2.1, p.2.2, ([], [], []), r1, (p.1.1, p.1.2.1, []), p.1.2.2, (p.1.2.2.length : Int), 0)
def f379_L0 : Nat → List S30 × List S30 × Int × Int → Option (Bool)
  | 0, _ => none
  | n + 1, t => if (decide (t.2.2.2 < t.2.2.1)) = true then (lAt t.1 t.2.2.2).bind fun r1 => (lAt t.2.1 t.2.2.2).bind fun r2 => if (!(eq30 r1 r2)) = true then some false else (iAdd t.2.2.2 1).bind fun r3 => f379_L0 n (t.1, t.2.1, t.2.2.1, r3) else some true
def f379 (p : List S30 × List S30) : Option (Bool) := if (!((p.1.length : Int) == (p.2.length : Int))) = true then some false else f379_L0 fuel (p.1, p.2, (p.1.length : Int), 0)
def f357 (p : S31 × S31) : Option (Bool) := if (p.1.1 == p.2.1) = true then if (p.1.2.1 == p.2.2.1) = true then (f379 (p.1.2.2, p.2.2.2)).bind fun r1 => some r1 else some false else some false
def f209 (p : Str × Str) : Option (S33) := some p
def f135 (p : S0 × S21) : Option (List S33) := (f209 ([99, 108, 105, 101, 110, 116], p.1.1)).bind fun r1 => (f209 ([104, 111, 115, 116], p.1.2.1)).bind fun r2 => (f209 ([115, 99, 104, 101, 109, 101], p.1.2.2.1)).bind fun r3 => if (p.2.1 == 1) = true then (f210 p.2.2.2.1).bind fun r4 => (f209 ([109, 101, 116, 104, 111, 100], p.2.2.1)).bind fun r5 => (f209 ([112, 97, 116, 104], r4.1)).bind fun r6 => some [r1, r2, r5, r6, r3] else if (p.2.1 == 2) = true then (f120 p.2.2.2.2.1).bind fun r7 => (f209 ([115, 116, 97, 116, 117, 115], r7)).bind fun r8 => some [r1, r2, r3, r8] else some []
def f358 (p : S3) : Option (List Str) := (lFold p.2.2.2.2.2.1).bind fun r1 => if (p.2.2.2.2.1 == 4) = true then (lFold p.2.2.2.2.2.2.1).bind fun r2 => if fitsApp ([r1] : List Str).length ([r2] : List Str).length 16 then some (([r1] : List Str) ++ [r2]) else none else some [r1]
def f318_j1 (k0 : List S3 × S36 × Int → Option (Int)) (t : List S3 × S36 × Int × Bool) : Option (Int) := if t.2.2.2 = true then (iAdd t.2.2.1 1).bind fun r1 => k0 (t.1, t.2.1, r1) else some t.2.2.1
def f318_L0 : Nat → List S3 × S36 × Int → Option (Int)
  | 0, _ => none
  | n + 1, t => if (decide (t.2.2 < (t.1.length : Int))) = true then (lAt t.1 t.2.2).bind fun r1 => if (eq36 (r1.2.1, r1.2.2.1, r1.2.2.2.1) t.2.1) = true then (iSub t.2.2 1).bind fun r2 => (lAt t.1 r2).bind fun r3 => (f358 r3).bind fun r4 => (lFold t.2.1.2.1).bind fun r5 => (f188 (r4, r5)).bind fun r6 => f318_j1 (f318_L0 n) (t.1, t.2.1, t.2.2, !r6) else f318_j1 (f318_L0 n) (t.1, t.2.1, t.2.2, false) else f318_j1 (f318_L0 n) (t.1, t.2.1, t.2.2, false)
def f318 (p : List S3) : Option (Int) := (lAt p 0).bind fun r1 => f318_L0 fuel (p, (r1.2.1, r1.2.2.1, r1.2.2.2.1), 1)
def f319 (p : S36 × Int) : Option (S37) := if (p.1.1 == 1) = true then some (1, p.1.2.1, [], [], p.2) else if (p.1.1 == 2) = true then some (2, p.1.2.1, [], [], p.2) else if (p.1.1 == 3) = true then some (3, p.1.2.1, p.1.2.2, [], p.2) else some (0, p.1.2.1, [], [], p.2)
def f359 (p : S3) : Option (S37) := if (p.2.2.2.2.1 == 1) = true then (lClone29 p.2.2.2.2.2.2.2).bind fun r1 => some (6, p.2.2.2.2.2.1, [], r1, 0) else if (p.2.2.2.2.1 == 2) = true then (lClone29 p.2.2.2.2.2.2.2).bind fun r2 => some (5, p.2.2.2.2.2.1, [], r2, 0) else if (p.2.2.2.2.1 == 3) = true then some (4, p.2.2.2.2.2.1, [], [], 0) else if (p.2.2.2.2.1 == 4) = true then some (7, p.2.2.2.2.2.1, p.2.2.2.2.2.2.1, [], 0) else some (0, [], [], [], 0)
def f320a_L0 : Nat → S35 × List S3 × Int × Int → Option (S35)
  | 0, _ => none
  | n + 1, t => if (decide (t.2.2.2 < t.2.2.1)) = true then (lAt t.2.1 t.2.2.2).bind fun r1 => (f359 r1).bind fun r2 => if fitsApp t.1.length ([r2] : List S34).length 72 then (iAdd t.2.2.2 1).bind fun r3 => f320a_L0 n (t.1 ++ [r2], t.2.1, t.2.2.1, r3) else none else some t.1
def f320a (p : S35 × List S3) : Option (S35) := f320a_L0 fuel (p.1, p.2, (p.2.length : Int), 0)
def f274b_j1 (k0 : S35 × List S3 → Option (S35)) (t : S35 × List S3 × Int) : Option (S35) := (lTo t.2.1 t.2.2).bind fun r1 => (f320a (t.1, r1)).bind fun r2 => (lFrom t.2.1 t.2.2).bind fun r3 => k0 (r2, r3)
def f274b_L0 : Nat → S35 × List S3 → Option (S35)
  | 0, _ => none
  | n + 1, t => if (decide ((t.2.length : Int) > 0)) = true then (lAt t.2 0).bind fun r1 => if (!(r1.2.1 == 0)) = true then (f318 t.2).bind fun r2 => (f319 ((r1.2.1, r1.2.2.1, r1.2.2.2.1), r2)).bind fun r3 => if fitsApp t.1.length ([r3] : List S34).length 72 then f274b_j1 (f274b_L0 n) (t.1 ++ [r3], t.2, r2) else none else f274b_j1 (f274b_L0 n) (t.1, t.2, 1) else some t.1
def f274b (p : S35 × List S3) : Option (S35) := f274b_L0 fuel p
def f321 (p : S38 × S34) : Option (Bool) := (f270 (p.1.1, p.2.2.1)).bind fun r1 => if (p.2.1 == 1) = true then some (!r1.2) else if (p.2.1 == 2) = true then some r1.2 else if (p.2.1 == 3) = true then if (!r1.2) = true then some true else some (!(r1.1 == p.2.2.2.1)) else some false
def f384_L0 : Nat → Str × List S33 × Int × Int → Option (Str)
  | 0, _ => none
  | n + 1, t => if (decide (t.2.2.2 < t.2.2.1)) = true then (lAt t.2.1 t.2.2.2).bind fun r1 => if (r1.1 == t.1) = true then some r1.2 else (iAdd t.2.2.2 1).bind fun r2 => f384_L0 n (t.1, t.2.1, t.2.2.1, r2) else some []
def f384 (p : List S33 × Str) : Option (Str) := f384_L0 fuel (p.2, p.1, (p.1.length : Int), 0)
def f385_j1 (k0 : Str × List UInt8 × Int → Option (Str)) (t : Str × List UInt8 × Int) : Option (Str) := (iAdd t.2.2 1).bind fun r1 => k0 (t.1, t.2.1, r1)
def f385_j2 (k0 : Str × List UInt8 × Int → Option (Str)) (t : Str × List UInt8 × Int × Bool) : Option (Str) := if t.2.2.2 = true then (sAt t.1 t.2.2.1).bind fun r1 => (f185 r1).bind fun r2 => if r2 = true then (sAt t.1 t.2.2.1).bind fun r3 => if fitsApp t.2.1.length ([r3] : List UInt8).length 1 then f385_j1 k0 (t.1, t.2.1 ++ [r3], t.2.2.1) else none else f385_j1 k0 (t.1, t.2.1, t.2.2.1) else (lTrim (t.2.1, [32, 9])).bind fun r4 => some r4
def f385_L0 : Nat → Str × List UInt8 × Int → Option (Str)
  | 0, _ => none
  | n + 1, t => if (decide (t.2.2 < (t.1.length : Int))) = true then f385_j2 (f385_L0 n) (t.1, t.2.1, t.2.2, decide ((t.2.1.length : Int) < 65536)) else f385_j2 (f385_L0 n) (t.1, t.2.1, t.2.2, false)
def f385 (p : Str) : Option (Str) := f385_L0 fuel (p, [], 0)
def f380_j1 (k0 : List S33 × S24 × List Str × List S4 × Int × Int → Option (Str)) (t : List S33 × S24 × List Str × List S4 × Int × Int) : Option (Str) := (iAdd t.2.2.2.2.2 1).bind fun r1 => k0 (t.1, t.2.1, t.2.2.1, t.2.2.2.1, t.2.2.2.2.1, r1)
def f380_L0 : Nat → List S33 × S24 × List Str × List S4 × Int × Int → Option (Str)
  | 0, _ => none
  | n + 1, t => if (decide (t.2.2.2.2.2 < t.2.2.2.2.1)) = true then (lAt t.2.2.2.1 t.2.2.2.2.2).bind fun r1 => if (r1.1 == 1) = true then if fitsApp t.2.2.1.length ([r1.2] : List Str).length 16 then f380_j1 (f380_L0 n) (t.1, t.2.1, t.2.2.1 ++ [r1.2], t.2.2.2.1, t.2.2.2.2.1, t.2.2.2.2.2) else none else if (r1.1 == 2) = true then (f384 (t.1, r1.2)).bind fun r2 => if fitsApp t.2.2.1.length ([r2] : List Str).length 16 then f380_j1 (f380_L0 n) (t.1, t.2.1, t.2.2.1 ++ [r2], t.2.2.2.1, t.2.2.2.2.1, t.2.2.2.2.2) else none else if (r1.1 == 3) = true then (f270 (t.2.1, r1.2)).bind fun r3 => if fitsApp t.2.2.1.length ([r3.1] : List Str).length 16 then f380_j1 (f380_L0 n) (t.1, t.2.1, t.2.2.1 ++ [r3.1], t.2.2.2.1, t.2.2.2.2.1, t.2.2.2.2.2) else none else f380_j1 (f380_L0 n) t else (f78 ([], t.2.2.1)).bind fun r4 => (f385 r4).bind fun r5 => some r5
def f380 (p : List S33 × List S14 × List S4) : Option (Str) := (f148 p.2.1).bind fun r1 => f380_L0 fuel (p.1, r1, [], p.2.2, (p.2.2.length : Int), 0)
def f360 (p : S38 × List S4) : Option (Str) := (f205 p.1.1).bind fun r1 => (f380 (p.1.2.1, r1, p.2)).bind fun r2 => some r2
def f362 (p : List Str) : Option (Str) := (f78 ([44, 32], p)).bind fun r1 => some r1
def f324 (p : Str × List Str) : Option (Str) := if ((p.2.length : Int) == 0) = true then some p.1 else (lTrim (p.1, [32, 9, 44])).bind fun r1 => if (r1 == []) = true then (f362 p.2).bind fun r2 => some r2 else (lTrimRight (p.1, [32, 9])).bind fun r3 => if fitsApp ([r3] : List Str).length p.2.length 16 then (f362 (([r3] : List Str) ++ p.2)).bind fun r4 => some r4 else none
def f271b (p : S24 × List S14) : Option (S24) := if fitsApp p.1.length p.2.length 32 then some (p.1 ++ p.2) else none
def f278a_L0 : Nat → S24 × Str × Str × Int → Option (S24)
  | 0, _ => none
  | n + 1, t => if (decide (t.2.2.2 ≥ 0)) = true then (lAt t.1 t.2.2.2).bind fun r1 => (f219 (r1.1, t.2.1)).bind fun r2 => if r2 = true then (lAt t.1 t.2.2.2).bind fun r3 => (f324 (r3.2, [t.2.2.1])).bind fun r4 => (lAt t.1 t.2.2.2).bind fun r5 => (lSet t.1 t.2.2.2 (r5.1, r4)).bind fun r6 => some r6 else (iSub t.2.2.2 1).bind fun r7 => f278a_L0 n (t.1, t.2.1, t.2.2.1, r7) else (f271b (t.1, [(t.2.1, t.2.2.1)])).bind fun r8 => some r8
def f278a (p : S24 × Str × Str) : Option (S24) := (iSub (p.1.length : Int) 1).bind fun r1 => f278a_L0 fuel (p.1, p.2.1, p.2.2, r1)
def f326 (p : Str) : Option (Str) := (lFour p).bind fun r1 => if r1 = true then some p else (f116 p).bind fun r2 => if r2 = true then (sCat [91] p).bind fun r3 => (sCat r3 [93]).bind fun r4 => some r4 else some [117, 110, 107, 110, 111, 119, 110]
def f280_j0 (t : List S33) : Option (List S33) := some t
def f280_j1 (t : S0 × List S33) : Option (List S33) := if (!(t.1.2.2.1 == [])) = true then if fitsApp t.2.length ([([112, 114, 111, 116, 111], t.1.2.2.1)] : List S33).length 32 then f280_j0 (t.2 ++ ([([112, 114, 111, 116, 111], t.1.2.2.1)])) else none else f280_j0 t.2
def f280 (p : S0) : Option (List S33) := (f326 p.1).bind fun r1 => if (!(p.2.1 == [])) = true then if fitsApp ([([102, 111, 114], r1)] : List S33).length ([([104, 111, 115, 116], p.2.1)] : List S33).length 32 then f280_j1 (p, ([([102, 111, 114], r1)] : List S33) ++ ([([104, 111, 115, 116], p.2.1)])) else none else f280_j1 (p, [([102, 111, 114], r1)])
def f364_j2 (k0 : Str × List UInt8 × Int × Int → Option (Str × Int)) (t : Str × List UInt8 × Int × Int × Int) : Option (Str × Int) := (sAt t.1 t.2.2.1).bind fun r1 => if fitsApp t.2.1.length ([r1] : List UInt8).length 1 then (iAdd t.2.2.2.2 1).bind fun r2 => k0 (t.1, t.2.1 ++ [r1], t.2.2.2.1, r2) else none
def f364_j1 (k0 : Str × List UInt8 × Int × Int → Option (Str × Int)) (t : Str × List UInt8 × Int × Int × Int × Bool) : Option (Str × Int) := if t.2.2.2.2.2 = true then if fitsApp t.2.1.length ([92] : List UInt8).length 1 then f364_j2 k0 (t.1, t.2.1 ++ [92], t.2.2.1, t.2.2.2.1, t.2.2.2.2.1) else none else f364_j2 k0 (t.1, t.2.1, t.2.2.1, t.2.2.2.1, t.2.2.2.2.1)
def f364_L0 : Nat → Str × List UInt8 × Int × Int → Option (Str × Int)
  | 0, _ => none
  | n + 1, t => if (decide (t.2.2.2 < t.2.2.1)) = true then (sAt t.1 t.2.2.2).bind fun r1 => if (r1 == 34) = true then f364_j1 (f364_L0 n) (t.1, t.2.1, t.2.2.2, t.2.2.1, t.2.2.2, true) else (sAt t.1 t.2.2.2).bind fun r2 => f364_j1 (f364_L0 n) (t.1, t.2.1, t.2.2.2, t.2.2.1, t.2.2.2, r2 == 92) else if fitsApp t.2.1.length ([34] : List UInt8).length 1 then some (t.2.1 ++ [34], 0) else none
def f364 (p : Str) : Option (Str × Int) := (f176 (f185, [p])).bind fun r1 => if (!r1) = true then some ([], 2) else f364_L0 fuel (p, [34], (p.length : Int), 0)
def f325 (p : Str) : Option (Str × Int) := (f125 p).bind fun r1 => if r1 = true then some (p, 0) else (f364 p).bind fun r2 => some r2
def f279_L0 : Nat → List Str × List S33 × Int × Int → Option (Str × Int)
  | 0, _ => none
  | n + 1, t => if (decide (t.2.2.2 < t.2.2.1)) = true then (lAt t.2.1 t.2.2.2).bind fun r1 => (f325 r1.2).bind fun r2 => if (!(r2.2 == 0)) = true then some ([], 2) else (f125 r1.1).bind fun r3 => if (!r3) = true then some ([], 2) else (sCat r1.1 [61]).bind fun r4 => (sCat r4 r2.1).bind fun r5 => if fitsApp t.1.length ([r5] : List Str).length 16 then (iAdd t.2.2.2 1).bind fun r6 => f279_L0 n (t.1 ++ [r5], t.2.1, t.2.2.1, r6) else none else if ((t.1.length : Int) == 0) = true then some ([], 2) else (f78 ([59], t.1)).bind fun r7 => some (r7, 0)
def f279 (p : List S33) : Option (Str × Int) := f279_L0 fuel ([], p, (p.length : Int), 0)
def f212 (p : S0 × List S14) : Option (List S14 × Int) := (f280 p.1).bind fun r1 => (f279 r1).bind fun r2 => if (!(r2.2 == 0)) = true then some ([], r2.2) else (f148 p.2).bind fun r3 => (f278a (r3, [70, 111, 114, 119, 97, 114, 100, 101, 100], r2.1)).bind fun r4 => (f205 r4).bind fun r5 => some (r5, 0)
def f281 (p : Str) : Option (Bool) := (lFour p).bind fun r1 => if r1 = true then some true else (f116 p).bind fun r2 => some r2
def f213_j0 (t : Str × List S14) : Option (List S14) := (f148 t.2).bind fun r1 => (f278a (r1, [88, 45, 70, 111, 114, 119, 97, 114, 100, 101, 100, 45, 70, 111, 114], t.1)).bind fun r2 => (f205 r2).bind fun r3 => some r3
def f213 (p : Str × List S14) : Option (List S14) := (f281 p.1).bind fun r1 => if (!r1) = true then f213_j0 ([117, 110, 107, 110, 111, 119, 110], p.2) else f213_j0 p
def f137 (p : S23) : Option (List S14) := if (p.1 == 2) = true then (f120 p.2).bind fun r1 => some ([([67, 111, 110, 116, 101, 110, 116, 45, 76, 101, 110, 103, 116, 104], r1)]) else if (p.1 == 3) = true then some ([([84, 114, 97, 110, 115, 102, 101, 114, 45, 69, 110, 99, 111, 100, 105, 110, 103], [99, 104, 117, 110, 107, 101, 100])]) else some []
def f337a (p : S6 × Str) : Option (Bool × S6) := (f166 p.1).bind fun r1 => (f240 (r1, p.2)).bind fun r2 => if (!r2) = true then some (false, p.1) else (iAdd p.1.2 (p.2.length : Int)).bind fun r3 => some (true, (p.1.1, r3))
def f258 (p : UInt8) : Option (Bool) := some (!(p == 32))
def f126 (p : S14) : Option (Int) := (f125 p.1).bind fun r1 => if (!r1) = true then some 21 else (f176 (f185, [p.2])).bind fun r2 => if (!r2) = true then some 25 else (lTrim (p.2, [32, 9])).bind fun r3 => if (!(r3 == p.2)) = true then some 25 else some 0
def f262_j1 (k0 : List Str × Int × Int → Option (Bool)) (t : List Str × Int × Int × Bool) : Option (Bool) := if t.2.2.2 = true then some false else (iAdd t.2.2.1 1).bind fun r1 => k0 (t.1, t.2.1, r1)
def f262_L0 : Nat → List Str × Int × Int → Option (Bool)
  | 0, _ => none
  | n + 1, t => if (decide (t.2.2 < t.2.1)) = true then (lAt t.1 t.2.2).bind fun r1 => (f50 r1).bind fun r2 => if (!(r2.2 == 0)) = true then f262_j1 (f262_L0 n) (t.1, t.2.1, t.2.2, !(r1 == [])) else f262_j1 (f262_L0 n) (t.1, t.2.1, t.2.2, false) else some true
def f262 (p : S21) : Option (Bool) := if (!(p.1 == 1)) = true then some true else (f148 p.2.2.2.2.2.2).bind fun r1 => (f149 (r1, [72, 111, 115, 116])).bind fun r2 => if (decide ((r2.length : Int) > 1)) = true then some false else if (decide ((r2.length : Int) < p.2.2.2.2.2.1)) = true then some false else f262_L0 fuel (r2, (r2.length : Int), 0)
def f197 (p : S21) : Option (Int) := if (decide ((p.2.2.2.2.2.2.length : Int) > 100)) = true then some 3 else (f262 p).bind fun r1 => if (!r1) = true then some 27 else some 0
def f139 (p : Int) : Option (S40) := some ([], max p 0)
def f327 (p : S40) : Option (Int) := (iSub p.2 (p.1.length : Int)).bind fun r1 => some r1
def f142 (p : S14) : Option (Str × Int) := (f126 p).bind fun r1 => if (!(r1 == 0)) = true then some ([], r1) else if (p.2 == []) = true then (sCat p.1 [58]).bind fun r2 => some (r2, 0) else (sCat p.1 [58, 32]).bind fun r3 => (sCat r3 p.2).bind fun r4 => some (r4, 0)
def f143 (p : S40) : Option (Str) := some p.1
def f96 (p : Int) : Option (Option S16 × Int) := if (decide (p < 0)) = true then some (none, 1) else if (decide (p > 65536)) = true then some (none, 1) else some (some (p, 0, [], 0, 0, 0, []), 0)
def f61_j0 (t : S15) : Option (Option S15 × Int) := some (some t, 0)
def f61_j1 (t : S23 × S15) : Option (Option S15 × Int) := if (t.1.1 == 1) = true then f61_j0 (t.2.1, t.2.2.1, t.2.2.2.1, t.2.2.2.2.1, true, t.2.2.2.2.2.2) else if (t.1.1 == 2) = true then f61_j0 (t.2.1, t.2.2.1, t.2.2.2.1, t.2.2.2.2.1, t.1.2 == 0, t.2.2.2.2.2.2) else f61_j0 (t.2.1, t.2.2.1, t.2.2.2.1, t.2.2.2.2.1, false, t.2.2.2.2.2.2)
def f61_j2 (t : S23 × Option S16 × Int) : Option (Option S15 × Int) := if (!(t.2.2 == 0)) = true then some (none, 1) else if (decide (t.1.1 < 1)) = true then some (none, 1) else if (decide (t.1.1 > 4)) = true then some (none, 1) else if (decide (t.1.2 < 0)) = true then some (none, 1) else if (decide (t.1.2 > 1099511627776)) = true then some (none, 1) else if (t.1.1 == 3) = true then f61_j1 (t.1, (t.2.1, t.1.1, t.1.2, t.1.2, false, false)) else f61_j1 (t.1, (none, t.1.1, t.1.2, t.1.2, false, false))
def f61 (p : S23 × Int) : Option (Option S15 × Int) := (f96 p.2).bind fun r1 => optK r1.1 (f61_j2 (p.1, none, r1.2)) fun r2 => f61_j2 (p.1, some r2, r1.2)
def f59a (p : S13) : Option (S22 × Bool) := if (!p.2.2.2.2.2.2.1) = true then some ((0, [], [], 0, [], 0, []), false) else if fitsApp ([] : List S14).length p.2.2.2.2.2.2.2.2.2.2.2.2.2.length 32 then some ((p.2.2.2.2.2.2.2.1, p.2.2.2.2.2.2.2.2.1, p.2.2.2.2.2.2.2.2.2.1, p.2.2.2.2.2.2.2.2.2.2.1, p.2.2.2.2.2.2.2.2.2.2.2.1, p.2.2.2.2.2.2.2.2.2.2.2.2.1, ([] : List S14) ++ p.2.2.2.2.2.2.2.2.2.2.2.2.2), true) else none
def f36 (p : Unit × Str) : Option (Int × Str × Bool × Int) := some (0, [], false, 5)
def f65 (p : Unit) : Option (Int) := some 5
def f44 (p : Unit) : Option (List S14) := some []
def f68 (p : Unit × List S12) : Option (Int) := some 5
def f74 (p : Unit) : Option (List S14) := some []
def f74a (p : S16) : Option (List S14) := if fitsApp ([] : List S14).length p.2.2.2.2.2.2.length 32 then some (([] : List S14) ++ p.2.2.2.2.2.2) else none
def f44a (p : S15) : Option (List S14) := optK p.1 ((f74 ()).bind fun r2 => some r2) fun r1 => (f74a r1).bind fun r3 => some r3
def f65a (p : S17) : Option (Int) := if p.2.2.2.2 = true then some 8 else some 0
def f98 (p : Unit) : Option (Int) := some 5
def f109_L0 : Nat → List S14 × List Str × List S14 × Int × Int → Option (Str × Int)
  | 0, _ => none
  | n + 1, t => if (decide (t.2.2.2.2 < t.2.2.2.1)) = true then (lAt t.2.2.1 t.2.2.2.2).bind fun r1 => (f142 r1).bind fun r2 => if (!(r2.2 == 0)) = true then some ([], r2.2) else if fitsApp t.2.1.length ([r2.1] : List Str).length 16 then (iAdd t.2.2.2.2 1).bind fun r3 => f109_L0 n (t.1, t.2.1 ++ [r2.1], t.2.2.1, t.2.2.2.1, r3) else none else if (decide ((t.1.length : Int) > 100)) = true then some ([], 3) else if fitsApp t.2.1.length ([[], []] : List Str).length 16 then (f78 ([13, 10], t.2.1 ++ ([[], []]))).bind fun r4 => some (r4, 0) else none
def f109 (p : List S14) : Option (Str × Int) := f109_L0 fuel (p, [[48]], p, (p.length : Int), 0)
def f98a (p : S18) : Option (Int) := if p.2.2 = true then some 8 else some 0
def f217 (p : Int) : Option (Str) := (f175 (p, 16)).bind fun r1 => some r1
def f147 (p : Int) : Option (Str) := (f217 p).bind fun r1 => some r1
def f99 (p : Str) : Option (Str) := if (p == []) = true then some [] else (f147 (p.length : Int)).bind fun r1 => (f78 ([13, 10], [r1, p, []])).bind fun r2 => some r2
def f64 (p : Unit × Str) : Option (Int × Str × Bool × Int) := some (0, [], false, 5)
def f18 (p : Unit) : Option (Int) := some 0
def f18a (p : S11) : Option (Int) := some (p.1.length : Int)
def f13a (p : S10) : Option (Str × S10) := some (p.2.2.2.2.2.2.2.2.2.2.2.2.2.2.2.2.2.2.1, (p.1, p.2.1, p.2.2.1, p.2.2.2.1, p.2.2.2.2.1, p.2.2.2.2.2.1, p.2.2.2.2.2.2.1, p.2.2.2.2.2.2.2.1, p.2.2.2.2.2.2.2.2.1, p.2.2.2.2.2.2.2.2.2.1, p.2.2.2.2.2.2.2.2.2.2.1, p.2.2.2.2.2.2.2.2.2.2.2.1, p.2.2.2.2.2.2.2.2.2.2.2.2.1, p.2.2.2.2.2.2.2.2.2.2.2.2.2.1, p.2.2.2.2.2.2.2.2.2.2.2.2.2.2.1, p.2.2.2.2.2.2.2.2.2.2.2.2.2.2.2.1, p.2.2.2.2.2.2.2.2.2.2.2.2.2.2.2.2.1, p.2.2.2.2.2.2.2.2.2.2.2.2.2.2.2.2.2.1, [], p.2.2.2.2.2.2.2.2.2.2.2.2.2.2.2.2.2.2.2.1, p.2.2.2.2.2.2.2.2.2.2.2.2.2.2.2.2.2.2.2.2.1, p.2.2.2.2.2.2.2.2.2.2.2.2.2.2.2.2.2.2.2.2.2.1, p.2.2.2.2.2.2.2.2.2.2.2.2.2.2.2.2.2.2.2.2.2.2.1, p.2.2.2.2.2.2.2.2.2.2.2.2.2.2.2.2.2.2.2.2.2.2.2.1, p.2.2.2.2.2.2.2.2.2.2.2.2.2.2.2.2.2.2.2.2.2.2.2.2.1, p.2.2.2.2.2.2.2.2.2.2.2.2.2.2.2.2.2.2.2.2.2.2.2.2.2.1, p.2.2.2.2.2.2.2.2.2.2.2.2.2.2.2.2.2.2.2.2.2.2.2.2.2.2))
def f70 (p : Unit) : Option (S12 × Bool) := some (([], 0, false), false)
def f156 (p : Str × Int) : Option (Bool) := if (p.1 == [72, 69, 65, 68]) = true then some true else if (decide (p.2 < 200)) = true then some true else if (p.2 == 204) = true then some true else if (p.2 == 304) = true then some true else if (p.1 == [67, 79, 78, 78, 69, 67, 84]) = true then some (decide (p.2 < 300)) else some false
def f107 (p : S23 × Int) : Option (S23) := if (p.1.1 == 1) = true then some p.1 else if (p.1.1 == 2) = true then some p.1 else if (p.2 == 1) = true then some (3, 0) else some (4, 0)
def f105 (p : S20) : Option (S12 × Bool) := if ((p.1.length : Int) == 0) = true then some (([], 0, false), false) else (lAt p.1 0).bind fun r1 => some (r1, true)
def f70a (p : S11) : Option (S12 × Bool) := (f105 (p.1, p.2.1)).bind fun r1 => some r1
def f45 (p : Unit) : Option (Bool) := some false
def f12a (p : S10) : Option (Str × S10) := some (p.2.2.2.2.2.2.2.2.2.2.2.2.2.2.2.2.2.1, (p.1, p.2.1, p.2.2.1, p.2.2.2.1, p.2.2.2.2.1, p.2.2.2.2.2.1, p.2.2.2.2.2.2.1, p.2.2.2.2.2.2.2.1, p.2.2.2.2.2.2.2.2.1, p.2.2.2.2.2.2.2.2.2.1, p.2.2.2.2.2.2.2.2.2.2.1, p.2.2.2.2.2.2.2.2.2.2.2.1, p.2.2.2.2.2.2.2.2.2.2.2.2.1, p.2.2.2.2.2.2.2.2.2.2.2.2.2.1, p.2.2.2.2.2.2.2.2.2.2.2.2.2.2.1, p.2.2.2.2.2.2.2.2.2.2.2.2.2.2.2.1, p.2.2.2.2.2.2.2.2.2.2.2.2.2.2.2.2.1, [], p.2.2.2.2.2.2.2.2.2.2.2.2.2.2.2.2.2.2.1, p.2.2.2.2.2.2.2.2.2.2.2.2.2.2.2.2.2.2.2.1, p.2.2.2.2.2.2.2.2.2.2.2.2.2.2.2.2.2.2.2.2.1, p.2.2.2.2.2.2.2.2.2.2.2.2.2.2.2.2.2.2.2.2.2.1, p.2.2.2.2.2.2.2.2.2.2.2.2.2.2.2.2.2.2.2.2.2.2.1, p.2.2.2.2.2.2.2.2.2.2.2.2.2.2.2.2.2.2.2.2.2.2.2.1, p.2.2.2.2.2.2.2.2.2.2.2.2.2.2.2.2.2.2.2.2.2.2.2.2.1, p.2.2.2.2.2.2.2.2.2.2.2.2.2.2.2.2.2.2.2.2.2.2.2.2.2.1, p.2.2.2.2.2.2.2.2.2.2.2.2.2.2.2.2.2.2.2.2.2.2.2.2.2.2))
def f10 (p : S10) : Option (Int) := optK p.1 ((f18 ()).bind fun r2 => some r2) fun r1 => (f18a r1).bind fun r3 => some r3
def f9 (p : S10) : Option (Bool) := some p.2.2.2.2.2.2.2.2.2.2.2.2.2.2.2.2.2.2.2.2.2.2.2.2.2.2
def f5a (p : Unit × Str) : Option (Int × Int) := some (0, 5)
def f6a (p : Unit × Str) : Option (Int × Int) := some (0, 5)
def f7 (p : Unit) : Option (Int) := some 5
def f8 (p : Unit) : Option (Int) := some 5
def f9a (p : Unit) : Option (Bool) := some true
def f10a (p : Unit) : Option (Int) := some 0
def f11 (p : Unit) : Option (S42) := some (0, 0)
def f12b (p : Unit) : Option (Str) := some []
def f13b (p : Unit) : Option (Str) := some []
def f9b (p : Option S10) : Option (Bool × Option S10) := optK p (some (true, none)) fun r1 => some (r1.2.2.2.2.2.2.2.2.2.2.2.2.2.2.2.2.2.2.2.2.2.2.2.2.2.2, some r1)
def f20 (p : Unit) : Option (Bool × Int) := some (false, 5)
def f42b_L0 : Nat → S10 × List Str × Int × Int → Option (S10)
  | 0, _ => none
  | n + 1, t => if (decide (t.2.2.2 < t.2.2.1)) = true then (lAt t.2.1 t.2.2.2).bind fun r1 => if fitsApp t.1.2.2.2.2.2.2.2.2.2.2.2.2.2.2.2.2.2.1.length r1.length 1 then (iAdd t.2.2.2 1).bind fun r2 => f42b_L0 n ((t.1.1, t.1.2.1, t.1.2.2.1, t.1.2.2.2.1, t.1.2.2.2.2.1, t.1.2.2.2.2.2.1, t.1.2.2.2.2.2.2.1, t.1.2.2.2.2.2.2.2.1, t.1.2.2.2.2.2.2.2.2.1, t.1.2.2.2.2.2.2.2.2.2.1, t.1.2.2.2.2.2.2.2.2.2.2.1, t.1.2.2.2.2.2.2.2.2.2.2.2.1, t.1.2.2.2.2.2.2.2.2.2.2.2.2.1, t.1.2.2.2.2.2.2.2.2.2.2.2.2.2.1, t.1.2.2.2.2.2.2.2.2.2.2.2.2.2.2.1, t.1.2.2.2.2.2.2.2.2.2.2.2.2.2.2.2.1, t.1.2.2.2.2.2.2.2.2.2.2.2.2.2.2.2.2.1, t.1.2.2.2.2.2.2.2.2.2.2.2.2.2.2.2.2.2.1 ++ r1, t.1.2.2.2.2.2.2.2.2.2.2.2.2.2.2.2.2.2.2.1, t.1.2.2.2.2.2.2.2.2.2.2.2.2.2.2.2.2.2.2.2.1, t.1.2.2.2.2.2.2.2.2.2.2.2.2.2.2.2.2.2.2.2.2.1, t.1.2.2.2.2.2.2.2.2.2.2.2.2.2.2.2.2.2.2.2.2.2.1, t.1.2.2.2.2.2.2.2.2.2.2.2.2.2.2.2.2.2.2.2.2.2.2.1, t.1.2.2.2.2.2.2.2.2.2.2.2.2.2.2.2.2.2.2.2.2.2.2.2.1, t.1.2.2.2.2.2.2.2.2.2.2.2.2.2.2.2.2.2.2.2.2.2.2.2.2.1, t.1.2.2.2.2.2.2.2.2.2.2.2.2.2.2.2.2.2.2.2.2.2.2.2.2.2.1, t.1.2.2.2.2.2.2.2.2.2.2.2.2.2.2.2.2.2.2.2.2.2.2.2.2.2.2), t.2.1, t.2.2.1, r2) else none else some t.1
def f42b (p : S10 × List Str) : Option (S10) := f42b_L0 fuel (p.1, p.2, (p.2.length : Int), 0)
def f22a (p : S10) : Option (S10) := some (p.1, p.2.1, p.2.2.1, p.2.2.2.1, p.2.2.2.2.1, p.2.2.2.2.2.1, p.2.2.2.2.2.2.1, p.2.2.2.2.2.2.2.1, p.2.2.2.2.2.2.2.2.1, p.2.2.2.2.2.2.2.2.2.1, p.2.2.2.2.2.2.2.2.2.2.1, none, none, none, none, none, none, p.2.2.2.2.2.2.2.2.2.2.2.2.2.2.2.2.2.1, p.2.2.2.2.2.2.2.2.2.2.2.2.2.2.2.2.2.2.1, p.2.2.2.2.2.2.2.2.2.2.2.2.2.2.2.2.2.2.2.1, p.2.2.2.2.2.2.2.2.2.2.2.2.2.2.2.2.2.2.2.2.1, p.2.2.2.2.2.2.2.2.2.2.2.2.2.2.2.2.2.2.2.2.2.1, p.2.2.2.2.2.2.2.2.2.2.2.2.2.2.2.2.2.2.2.2.2.2.1, p.2.2.2.2.2.2.2.2.2.2.2.2.2.2.2.2.2.2.2.2.2.2.2.1, p.2.2.2.2.2.2.2.2.2.2.2.2.2.2.2.2.2.2.2.2.2.2.2.2.1, p.2.2.2.2.2.2.2.2.2.2.2.2.2.2.2.2.2.2.2.2.2.2.2.2.2.1, true)
def f73c (p : S18 × List S14) : Option (Str × Int × S18) := (f98a p.1).bind fun r1 => if (!(r1 == 0)) = true then some ([], r1, p.1) else (f109 p.2).bind fun r2 => if (!(r2.2 == 0)) = true then some ([], r2.2, p.1) else (f99 p.1.2.1).bind fun r3 => (sCat r3 r2.1).bind fun r4 => some (r4, 0, (p.1.1, [], true))
def f20b_j0 (t : S15) : Option (Bool × Int × S15) := some (true, 0, t)
def f20b (p : S15) : Option (Bool × Int × S15) := if (p.2.1 == 4) = true then f20b_j0 (p.1, p.2.1, p.2.2.1, p.2.2.2.1, true, p.2.2.2.2.2) else if (!p.2.2.2.2.1) = true then some (false, 6, p) else f20b_j0 p
def f12c (p : Option S10) : Option (Str × Option S10) := optK p (some ([], none)) fun r1 => some (r1.2.2.2.2.2.2.2.2.2.2.2.2.2.2.2.2.2.1, some (r1.1, r1.2.1, r1.2.2.1, r1.2.2.2.1, r1.2.2.2.2.1, r1.2.2.2.2.2.1, r1.2.2.2.2.2.2.1, r1.2.2.2.2.2.2.2.1, r1.2.2.2.2.2.2.2.2.1, r1.2.2.2.2.2.2.2.2.2.1, r1.2.2.2.2.2.2.2.2.2.2.1, r1.2.2.2.2.2.2.2.2.2.2.2.1, r1.2.2.2.2.2.2.2.2.2.2.2.2.1, r1.2.2.2.2.2.2.2.2.2.2.2.2.2.1, r1.2.2.2.2.2.2.2.2.2.2.2.2.2.2.1, r1.2.2.2.2.2.2.2.2.2.2.2.2.2.2.2.1, r1.2.2.2.2.2.2.2.2.2.2.2.2.2.2.2.2.1, [], r1.2.2.2.2.2.2.2.2.2.2.2.2.2.2.2.2.2.2.1, r1.2.2.2.2.2.2.2.2.2.2.2.2.2.2.2.2.2.2.2.1, r1.2.2.2.2.2.2.2.2.2.2.2.2.2.2.2.2.2.2.2.2.1, r1.2.2.2.2.2.2.2.2.2.2.2.2.2.2.2.2.2.2.2.2.2.1, r1.2.2.2.2.2.2.2.2.2.2.2.2.2.2.2.2.2.2.2.2.2.2.1, r1.2.2.2.2.2.2.2.2.2.2.2.2.2.2.2.2.2.2.2.2.2.2.2.1, r1.2.2.2.2.2.2.2.2.2.2.2.2.2.2.2.2.2.2.2.2.2.2.2.2.1, r1.2.2.2.2.2.2.2.2.2.2.2.2.2.2.2.2.2.2.2.2.2.2.2.2.2.1, r1.2.2.2.2.2.2.2.2.2.2.2.2.2.2.2.2.2.2.2.2.2.2.2.2.2.2))
def f163 (p : UInt8) : Option (Bool) := some (!(p == 32))
def f340 (p : UInt8) : Option (Bool) := (f185 p).bind fun r1 => if r1 = true then some (!(p == 36)) else some false
def f371 (p : UInt8) : Option (Bool) := if (decide (p ≥ 97)) = true then some (decide (p ≤ 122)) else some false
noncomputable section
set_option maxHeartbeats 8000000 in
def G : Sig tau where
  fs
    | 0 => [.str, .str, .str, .str, .sl (.st 1), .sl (.st 1)]
    | 1 => [.str, .str]
    | 2 => [.int, .int, .int]
    | 3 => [.int, .int, .str, .str, .int, .str, .str, .sl (.st 4)]
    | 4 => [.int, .str]
    | 5 => [.str, .str, .str, .str]
    | 6 => [.str, .int]
    | 7 => [.po 6]
    | 8 => [.int, .str, .int]
    | 9 => [.str, .str, .str, .str, .str, .bool, .bool, .bool]
    | 10 => [.pn 11, .str, .str, .str, .str, .sl (.st 1), .sl (.st 1), .int, .int, .int, .so 71 (.st 3), .pn 13, .pn 15, .pn 17, .pn 13, .pn 15, .pn 17, .so 5 .u8, .so 5 .u8, .int, .bool, .bool, .bool, .bool, .bool, .bool, .bool]
    | 11 => [.so 116 (.st 12), .int, .bool]
    | 12 => [.str, .int, .bool]
    | 13 => [.int, .int, .so 5 .u8, .int, .bool, .int, .bool, .int, .str, .str, .int, .str, .int, .sl (.st 14)]
    | 14 => [.str, .str]
    | 15 => [.pn 16, .int, .int, .int, .bool, .bool]
    | 16 => [.int, .int, .so 5 .u8, .int, .int, .int, .so 192 (.st 14)]
    | 17 => [.pn 18, .int, .int, .int, .bool]
    | 18 => [.int, .str, .bool]
    | 19 => [.pn 13, .pn 15, .pn 17]
    | 20 => [.so 116 (.st 12), .int]
    | 21 => [.int, .str, .str, .int, .str, .int, .sl (.st 14)]
    | 22 => [.int, .str, .str, .int, .str, .int, .so 192 (.st 14)]
    | 23 => [.int, .int]
    | 24 => [.so 192 (.st 14)]
    | 25 => [.po 24, .int]
    | 26 => [.po 6, .so 9 .str, .int, .str]
    | 27 => [.po 6, .so 5 .u8]
    | 28 => [.int, .str, .int, .str, .int, .str, .str, .bool]
    | 29 => [.po 24, .int, .str, .str, .int, .str, .int, .sl (.st 14)]
    | 30 => [.str, .str, .bool]
    | 31 => [.str, .str, .sl (.st 30)]
    | 32 => [.str, .str, .so 389 (.st 30)]
    | 33 => [.str, .str]
    | 34 => [.int, .str, .str, .sl (.st 4), .int]
    | 35 => [.so 382 (.st 34)]
    | 36 => [.int, .str, .str]
    | 37 => [.int, .str, .str, .so 75 (.st 4), .int]
    | 38 => [.po 24, .sl (.st 33), .int]
    | 39 => [.po 6]
    | 40 => [.so 5 .u8, .int]
    | 41 => [.po 40, .bool]
    | 42 => [.int, .int]
    | _ => []
  ti
    | 0 => 37
    | 1 => 63
    | 2 => 39
    | 3 => 71
    | 4 => 75
    | 5 => 103
    | 6 => 235
    | 7 => 180
    | 8 => 106
    | 9 => 187
    | 10 => 50
    | 11 => 90
    | 12 => 116
    | 13 => 120
    | 14 => 192
    | 15 => 96
    | 16 => 163
    | 17 => 132
    | 18 => 111
    | 19 => 47
    | 20 => 88
    | 21 => 118
    | 22 => 118
    | 23 => 93
    | 24 => 297
    | 25 => 265
    | 26 => 363
    | 27 => 422
    | 28 => 273
    | 29 => 270
    | 30 => 389
    | 31 => 373
    | 32 => 373
    | 33 => 284
    | 34 => 382
    | 35 => 337
    | 36 => 67
    | 37 => 382
    | 38 => 341
    | 39 => 320
    | 40 => 292
    | 41 => 211
    | 42 => 30
    | _ => 0
  ctor
    | 0, p => p
    | 1, p => p
    | 2, p => p
    | 3, p => p
    | 4, p => p
    | 5, p => p
    | 6, p => p
    | 7, p => p
    | 8, p => p
    | 9, p => p
    | 10, p => p
    | 11, p => p
    | 12, p => p
    | 13, p => p
    | 14, p => p
    | 15, p => p
    | 16, p => p
    | 17, p => p
    | 18, p => p
    | 19, p => p
    | 20, p => p
    | 21, p => p
    | 22, p => p
    | 23, p => p
    | 24, p => p
    | 25, p => p
    | 26, p => p
    | 27, p => p
    | 28, p => p
    | 29, p => p
    | 30, p => p
    | 31, p => p
    | 32, p => p
    | 33, p => p
    | 34, p => p
    | 35, p => p
    | 36, p => p
    | 37, p => p
    | 38, p => p
    | 39, p => p
    | 40, p => p
    | 41, p => p
    | 42, p => p
    | _ + 43, _ => ()
  dtor
    | 0, p => p
    | 1, p => p
    | 2, p => p
    | 3, p => p
    | 4, p => p
    | 5, p => p
    | 6, p => p
    | 7, p => p
    | 8, p => p
    | 9, p => p
    | 10, p => p
    | 11, p => p
    | 12, p => p
    | 13, p => p
    | 14, p => p
    | 15, p => p
    | 16, p => p
    | 17, p => p
    | 18, p => p
    | 19, p => p
    | 20, p => p
    | 21, p => p
    | 22, p => p
    | 23, p => p
    | 24, p => p
    | 25, p => p
    | 26, p => p
    | 27, p => p
    | 28, p => p
    | 29, p => p
    | 30, p => p
    | 31, p => p
    | 32, p => p
    | 33, p => p
    | 34, p => p
    | 35, p => p
    | 36, p => p
    | 37, p => p
    | 38, p => p
    | 39, p => p
    | 40, p => p
    | 41, p => p
    | 42, p => p
    | _ + 43, _ => ()
  cd
    | 0, _ => rfl
    | 1, _ => rfl
    | 2, _ => rfl
    | 3, _ => rfl
    | 4, _ => rfl
    | 5, _ => rfl
    | 6, _ => rfl
    | 7, _ => rfl
    | 8, _ => rfl
    | 9, _ => rfl
    | 10, _ => rfl
    | 11, _ => rfl
    | 12, _ => rfl
    | 13, _ => rfl
    | 14, _ => rfl
    | 15, _ => rfl
    | 16, _ => rfl
    | 17, _ => rfl
    | 18, _ => rfl
    | 19, _ => rfl
    | 20, _ => rfl
    | 21, _ => rfl
    | 22, _ => rfl
    | 23, _ => rfl
    | 24, _ => rfl
    | 25, _ => rfl
    | 26, _ => rfl
    | 27, _ => rfl
    | 28, _ => rfl
    | 29, _ => rfl
    | 30, _ => rfl
    | 31, _ => rfl
    | 32, _ => rfl
    | 33, _ => rfl
    | 34, _ => rfl
    | 35, _ => rfl
    | 36, _ => rfl
    | 37, _ => rfl
    | 38, _ => rfl
    | 39, _ => rfl
    | 40, _ => rfl
    | 41, _ => rfl
    | 42, _ => rfl
    | _ + 43, _ => rfl
  dc
    | 0, _ => rfl
    | 1, _ => rfl
    | 2, _ => rfl
    | 3, _ => rfl
    | 4, _ => rfl
    | 5, _ => rfl
    | 6, _ => rfl
    | 7, _ => rfl
    | 8, _ => rfl
    | 9, _ => rfl
    | 10, _ => rfl
    | 11, _ => rfl
    | 12, _ => rfl
    | 13, _ => rfl
    | 14, _ => rfl
    | 15, _ => rfl
    | 16, _ => rfl
    | 17, _ => rfl
    | 18, _ => rfl
    | 19, _ => rfl
    | 20, _ => rfl
    | 21, _ => rfl
    | 22, _ => rfl
    | 23, _ => rfl
    | 24, _ => rfl
    | 25, _ => rfl
    | 26, _ => rfl
    | 27, _ => rfl
    | 28, _ => rfl
    | 29, _ => rfl
    | 30, _ => rfl
    | 31, _ => rfl
    | 32, _ => rfl
    | 33, _ => rfl
    | 34, _ => rfl
    | 35, _ => rfl
    | 36, _ => rfl
    | 37, _ => rfl
    | 38, _ => rfl
    | 39, _ => rfl
    | 40, _ => rfl
    | 41, _ => rfl
    | 42, _ => rfl
    | _ + 43, _ => rfl
  eq
    | 1, x, y => eq1 x y
    | 4, x, y => eq4 x y
    | 5, x, y => eq5 x y
    | 8, x, y => eq8 x y
    | 12, x, y => eq12 x y
    | 14, x, y => eq14 x y
    | 23, x, y => eq23 x y
    | 30, x, y => eq30 x y
    | 33, x, y => eq33 x y
    | 36, x, y => eq36 x y
    | 42, x, y => eq42 x y
    | _, _, _ => true
  fp := [(122, f122), (163, f163), (173, f173), (174, f174), (184, f184), (185, f185), (229, f229), (231, f231), (244, f244), (245, f245), (258, f258), (292, f292), (293, f293), (340, f340), (371, f371), (376, f376), (377, f377)]
  gl := []
  ax h := ∀ w, Fz.on h w → GlobT w
  axm hh ha w hw := ha w fun b o e => hw b o (hh b o e)
def G0 : Sig tau := ⟨G.fs, G.ti, G.ctor, G.dtor, G.cd, G.dc, G.eq, [], [], fun _ => True, fun _ h => h⟩
def tyl : List (TypeId × Ty) := [(5, .u8), (9, .str), (30, .st 42), (63, .st 1), (67, .st 36), (71, .st 3), (75, .st 4), (93, .st 23), (103, .st 5), (106, .st 8), (116, .st 12), (192, .st 14), (284, .st 33), (382, .st 34), (389, .st 30)]
def KlFour : Con tau := ⟨[.str], [.bool], 1, [], lFour⟩
def KlClone28 : Con tau := ⟨[.sl (.st 1)], [.so 63 (.st 1)], 1, [], lClone28⟩
def KlClone29 : Con tau := ⟨[.sl (.st 4)], [.so 75 (.st 4)], 1, [], lClone29⟩
def KlClone218 : Con tau := ⟨[.sl (.st 14)], [.so 192 (.st 14)], 1, [], lClone218⟩
def KlFold : Con tau := ⟨[.str], [.str], 1, [], lFold⟩
def KlJoin : Con tau := ⟨[.sl .str, .str], [.str], 1, [], lJoin⟩
def KlIndexAny : Con tau := ⟨[.str, .str], [.int], 1, [], lIndexAny⟩
def KlCut : Con tau := ⟨[.str, .str], [.str, .str, .bool], 3, [], lCut⟩
def KlTrim : Con tau := ⟨[.str, .str], [.str], 1, [], lTrim⟩
def KlIndex : Con tau := ⟨[.str, .str], [.int], 1, [], lIndex⟩
def KlSplit : Con tau := ⟨[.str, .str], [.so 9 .str], 1, [], lSplit⟩
def KlFormatInt : Con tau := ⟨[.int, .int], [.str], 1, [], lFormatInt⟩
def KlIndexByte : Con tau := ⟨[.str, .u8], [.int], 1, [], lIndexByte⟩
def KlContains : Con tau := ⟨[.str, .str], [.bool], 1, [], lContains⟩
def KlTrimRight : Con tau := ⟨[.str, .str], [.str], 1, [], lTrimRight⟩
def Kf78 : Con tau := ⟨[.str, .sl .str], [.str], 1, [], f78⟩
def Kf111 : Con tau := ⟨[.str], [.po 6], 1, [], f111⟩
def Kf225 : Con tau := ⟨[.pt 6], [.int], 1, [], f225⟩
def Kf166 : Con tau := ⟨[.pt 6], [.str], 1, [], f166⟩
def Kf164 : Con tau := ⟨[.pt 6], [.bool], 1, [], f164⟩
def Kf161 : Con tau := ⟨[.pt 6], [.u8, .bool], 2, [], f161⟩
def Kf234 : Con tau := ⟨[.u8], [.u8], 1, [], f234⟩
def Kf231 : Con tau := ⟨[.u8], [.bool], 1, [], f231⟩
def Kf122 : Con tau := ⟨[.u8], [.bool], 1, [], f122⟩
def Kf232 : Con tau := ⟨[.u8, .str], [.bool], 1, [], f232⟩
def Kf184 : Con tau := ⟨[.u8], [.bool], 1, [], f184⟩
def Kf113a : Con tau := ⟨[.po 6, .u8], [.bool, .po 6], 1, [0], f113a⟩
def Kf176 : Con tau := ⟨[.fn, .sl .str], [.bool], 1, [], f176⟩
def Kf229 : Con tau := ⟨[.u8], [.bool], 1, [], f229⟩
def Kf170 : Con tau := ⟨[.str, .bool], [.int], 1, [], f170⟩
def Kf116 : Con tau := ⟨[.str], [.bool], 1, [], f116⟩
def Kf172 : Con tau := ⟨[.str], [.bool], 1, [], f172⟩
def Kf173 : Con tau := ⟨[.u8], [.bool], 1, [], f173⟩
def Kf174 : Con tau := ⟨[.u8], [.bool], 1, [], f174⟩
def Kf118 : Con tau := ⟨[.str], [.bool], 1, [], f118⟩
def Kf80 : Con tau := ⟨[.str], [.st 8, .bool], 2, [], f80⟩
def Kf119 : Con tau := ⟨[.str, .u8], [.int], 1, [], f119⟩
def Kf81 : Con tau := ⟨[.str, .u8], [.int], 1, [], f81⟩
def Kf177 : Con tau := ⟨[.u8], [.int], 1, [], f177⟩
def Kf121 : Con tau := ⟨[.str, .int, .int, .fn], [.int, .int], 2, [], f121⟩
def Kf83 : Con tau := ⟨[.str, .int], [.int, .int], 2, [], f83⟩
def Kf175 : Con tau := ⟨[.int, .int], [.str], 1, [], f175⟩
def Kf120 : Con tau := ⟨[.int], [.str], 1, [], f120⟩
def Kf82 : Con tau := ⟨[.str, .int], [.bool], 1, [], f82⟩
def Kf50 : Con tau := ⟨[.str], [.st 8, .int], 2, [], f50⟩
def Kf84 : Con tau := ⟨[.str], [.bool], 1, [], f84⟩
def Kf85 : Con tau := ⟨[.str, .str], [.bool], 1, [], f85⟩
def Kf51 : Con tau := ⟨[.sl (.st 1)], [.int], 1, [], f51⟩
def Kf292 : Con tau := ⟨[.u8], [.bool], 1, [], f292⟩
def Kf239 : Con tau := ⟨[.str], [.bool], 1, [], f239⟩
def Kf286 : Con tau := ⟨[.str, .str], [.bool], 1, [], f286⟩
def Kf240 : Con tau := ⟨[.str, .str], [.bool], 1, [], f240⟩
def Kf241 : Con tau := ⟨[.str, .str], [.str, .str], 2, [], f241⟩
def Kf182 : Con tau := ⟨[.str], [.st 9], 1, [], f182⟩
def Kf293 : Con tau := ⟨[.u8], [.bool], 1, [], f293⟩
def Kf242 : Con tau := ⟨[.str, .str], [.bool], 1, [], f242⟩
def Kf183 : Con tau := ⟨[.st 9], [.bool], 1, [], f183⟩
def Kf124 : Con tau := ⟨[.str], [.st 9, .int], 2, [], f124⟩
def Kf86 : Con tau := ⟨[.str], [.bool], 1, [], f86⟩
def Kf52 : Con tau := ⟨[.sl (.st 1)], [.int], 1, [], f52⟩
def Kf25 : Con tau := ⟨[.int], [.pn 18, .int], 2, [], f25⟩
def Kf26 : Con tau := ⟨[.int], [.pn 11, .int], 2, [], f26⟩
def Kf87 : Con tau := ⟨[.int], [.so 9 .str], 1, [], f87⟩
def Kf54 : Con tau := ⟨[.int, .int], [.pn 13, .int], 2, [], f54⟩
def Kf30 : Con tau := ⟨[.int, .int], [.st 19], 1, [], f30⟩
def Kf55 : Con tau := ⟨[.nil], [.bool], 1, [], f55⟩
def Kf55a : Con tau := ⟨[.pt 13], [.bool], 1, [], f55a⟩
def Kf31 : Con tau := ⟨[.pt 19], [.bool], 1, [], f31⟩
def Kf32 : Con tau := ⟨[.nil], [.bool], 1, [], f32⟩
def Kf56 : Con tau := ⟨[.pt 20], [.int], 1, [], f56⟩
def Kf32a : Con tau := ⟨[.pt 11], [.bool], 1, [], f32a⟩
def Kf15 : Con tau := ⟨[.pt 10], [.bool], 1, [], f15⟩
def Kf33 : Con tau := ⟨[.nil, .str], [.int, .bool, .int], 3, [], f33⟩
def Kf58 : Con tau := ⟨[.int], [.int], 1, [], f58⟩
def Kf59 : Con tau := ⟨[.nil], [.st 22, .bool], 2, [], f59⟩
def Kf148 : Con tau := ⟨[.sl (.st 14)], [.po 24], 1, [], f148⟩
def Kf205 : Con tau := ⟨[.pt 24], [.so 192 (.st 14)], 1, [], f205⟩
def Kf219 : Con tau := ⟨[.str, .str], [.bool], 1, [], f219⟩
def Kf149 : Con tau := ⟨[.pt 24, .str], [.so 9 .str], 1, [], f149⟩
def Kf244 : Con tau := ⟨[.u8], [.bool], 1, [], f244⟩
def Kf245 : Con tau := ⟨[.u8], [.bool], 1, [], f245⟩
def Kf185 : Con tau := ⟨[.u8], [.bool], 1, [], f185⟩
def Kf372a : Con tau := ⟨[.po 27], [.bool, .po 27], 1, [0], f372a⟩
def Kf373a : Con tau := ⟨[.po 6, .int], [.bool, .po 6], 1, [0], f373a⟩
def Kf303a : Con tau := ⟨[.po 26, .int], [.po 26], 0, [0], f303a⟩
def Kf125 : Con tau := ⟨[.str], [.bool], 1, [], f125⟩
def Kf253 : Con tau := ⟨[.sl .str, .str], [.int], 1, [], f253⟩
def Kf188 : Con tau := ⟨[.sl .str, .str], [.bool], 1, [], f188⟩
def Kf252 : Con tau := ⟨[], [.so 9 .str], 1, [], f252⟩
def Kf323 : Con tau := ⟨[.str, .str], [.bool], 1, [], f323⟩
def Kf276 : Con tau := ⟨[.str], [.bool], 1, [], f276⟩
def Kf277 : Con tau := ⟨[.str], [.bool], 1, [], f277⟩
def Kf210 : Con tau := ⟨[.str], [.str, .str, .bool, .int], 4, [], f210⟩
def Kf308 : Con tau := ⟨[.st 28, .str], [.st 28, .bool], 2, [], f308⟩
def Kf307 : Con tau := ⟨[.str], [.st 28, .bool], 2, [], f307⟩
def Kf266 : Con tau := ⟨[.str, .str], [.st 28, .bool], 2, [], f266⟩
def Kf201 : Con tau := ⟨[.str, .str], [.st 28, .int], 2, [], f201⟩
def Kf267 : Con tau := ⟨[.str, .str, .bool], [.str], 1, [], f267⟩
def Kf202 : Con tau := ⟨[.st 28], [.str], 1, [], f202⟩
def Kf268 : Con tau := ⟨[.st 8], [.str, .int], 2, [], f268⟩
def Kf270 : Con tau := ⟨[.pt 24, .str], [.str, .bool], 2, [], f270⟩
def Kf226 : Con tau := ⟨[.str, .str], [.str, .bool], 2, [], f226⟩
def Kf165 : Con tau := ⟨[.str, .str], [.str, .bool], 2, [], f165⟩
def Kf287 : Con tau := ⟨[.str, .str], [.bool], 1, [], f287⟩
def Kf351 : Con tau := ⟨[.str, .str], [.bool], 1, [], f351⟩
def Kf312 : Con tau := ⟨[.str, .sl (.st 1)], [.str, .bool], 2, [], f312⟩
def Kf272 : Con tau := ⟨[.str, .sl (.st 1)], [.str], 1, [], f272⟩
def Kf376 : Con tau := ⟨[.u8], [.bool], 1, [], f376⟩
def Kf162a : Con tau := ⟨[.po 6, .fn], [.str, .po 6], 1, [0], f162a⟩
def Kf227 : Con tau := ⟨[.str, .str], [.str, .bool], 2, [], f227⟩
def Kf167 : Con tau := ⟨[.str, .str], [.str, .bool], 2, [], f167⟩
def Kf377 : Con tau := ⟨[.u8], [.bool], 1, [], f377⟩
def Kf353 : Con tau := ⟨[.str], [.bool], 1, [], f353⟩
def Kf354 : Con tau := ⟨[.st 31, .str], [.int], 1, [], f354⟩
def Kf314 : Con tau := ⟨[.st 31, .str], [.str, .bool], 2, [], f314⟩
def Kf378 : Con tau := ⟨[.str, .str], [.str], 1, [], f378⟩
def Kf355 : Con tau := ⟨[.str, .str], [.str], 1, [], f355⟩
def Kf356 : Con tau := ⟨[.str, .str], [.bool], 1, [], f356⟩
def Kf315 : Con tau := ⟨[.str, .sl (.st 1)], [.str, .bool], 2, [], f315⟩
def Kf317 : Con tau := ⟨[.st 31, .str, .str], [.st 32], 1, [], f317⟩
def Kf379 : Con tau := ⟨[.sl (.st 30), .sl (.st 30)], [.bool], 1, [], f379⟩
def Kf357 : Con tau := ⟨[.st 31, .st 31], [.bool], 1, [], f357⟩
def Kf209 : Con tau := ⟨[.str, .str], [.st 33], 1, [], f209⟩
def Kf135 : Con tau := ⟨[.st 0, .st 21], [.so 284 (.st 33)], 1, [], f135⟩
def Kf358 : Con tau := ⟨[.st 3], [.so 9 .str], 1, [], f358⟩
def Kf318 : Con tau := ⟨[.sl (.st 3)], [.int], 1, [], f318⟩
def Kf319 : Con tau := ⟨[.st 36, .int], [.st 37], 1, [], f319⟩
def Kf359 : Con tau := ⟨[.st 3], [.st 37], 1, [], f359⟩
def Kf320a : Con tau := ⟨[.po 35, .sl (.st 3)], [.po 35], 0, [0], f320a⟩
def Kf274b : Con tau := ⟨[.po 35, .sl (.st 3)], [.po 35], 0, [0], f274b⟩
def Kf321 : Con tau := ⟨[.pt 38, .st 34], [.bool], 1, [], f321⟩
def Kf384 : Con tau := ⟨[.sl (.st 33), .str], [.str], 1, [], f384⟩
def Kf385 : Con tau := ⟨[.str], [.str], 1, [], f385⟩
def Kf380 : Con tau := ⟨[.sl (.st 33), .sl (.st 14), .sl (.st 4)], [.str], 1, [], f380⟩
def Kf360 : Con tau := ⟨[.pt 38, .sl (.st 4)], [.str], 1, [], f360⟩
def Kf362 : Con tau := ⟨[.sl .str], [.str], 1, [], f362⟩
def Kf324 : Con tau := ⟨[.str, .sl .str], [.str], 1, [], f324⟩
def Kf271b : Con tau := ⟨[.po 24, .sl (.st 14)], [.po 24], 0, [0], f271b⟩
def Kf278a : Con tau := ⟨[.po 24, .str, .str], [.po 24], 0, [0], f278a⟩
def Kf326 : Con tau := ⟨[.str], [.str], 1, [], f326⟩
def Kf280 : Con tau := ⟨[.st 0], [.so 284 (.st 33)], 1, [], f280⟩
def Kf364 : Con tau := ⟨[.str], [.str, .int], 2, [], f364⟩
def Kf325 : Con tau := ⟨[.str], [.str, .int], 2, [], f325⟩
def Kf279 : Con tau := ⟨[.sl (.st 33)], [.str, .int], 2, [], f279⟩
def Kf212 : Con tau := ⟨[.st 0, .sl (.st 14)], [.so 192 (.st 14), .int], 2, [], f212⟩
def Kf281 : Con tau := ⟨[.str], [.bool], 1, [], f281⟩
def Kf213 : Con tau := ⟨[.str, .sl (.st 14)], [.so 192 (.st 14)], 1, [], f213⟩
def Kf137 : Con tau := ⟨[.st 23], [.so 192 (.st 14)], 1, [], f137⟩
def Kf337a : Con tau := ⟨[.po 6, .str], [.bool, .po 6], 1, [0], f337a⟩
def Kf258 : Con tau := ⟨[.u8], [.bool], 1, [], f258⟩
def Kf126 : Con tau := ⟨[.st 14], [.int], 1, [], f126⟩
def Kf262 : Con tau := ⟨[.st 21], [.bool], 1, [], f262⟩
def Kf197 : Con tau := ⟨[.st 21], [.int], 1, [], f197⟩
def Kf139 : Con tau := ⟨[.int], [.po 40], 1, [], f139⟩
def Kf327 : Con tau := ⟨[.pt 40], [.int], 1, [], f327⟩
def Kf142 : Con tau := ⟨[.st 14], [.str, .int], 2, [], f142⟩
def Kf143 : Con tau := ⟨[.pt 40], [.str], 1, [], f143⟩
def Kf96 : Con tau := ⟨[.int], [.pn 16, .int], 2, [], f96⟩
def Kf61 : Con tau := ⟨[.st 23, .int], [.pn 15, .int], 2, [], f61⟩
def Kf59a : Con tau := ⟨[.pt 13], [.st 22, .bool], 2, [], f59a⟩
def Kf36 : Con tau := ⟨[.nil, .str], [.int, .str, .bool, .int], 4, [], f36⟩
def Kf65 : Con tau := ⟨[.nil], [.int], 1, [], f65⟩
def Kf44 : Con tau := ⟨[.nil], [.so 192 (.st 14)], 1, [], f44⟩
def Kf68 : Con tau := ⟨[.nil, .sl (.st 12)], [.int], 1, [], f68⟩
def Kf74 : Con tau := ⟨[.nil], [.so 192 (.st 14)], 1, [], f74⟩
def Kf74a : Con tau := ⟨[.pt 16], [.so 192 (.st 14)], 1, [], f74a⟩
def Kf44a : Con tau := ⟨[.pt 15], [.so 192 (.st 14)], 1, [], f44a⟩
def Kf65a : Con tau := ⟨[.pt 17], [.int], 1, [], f65a⟩
def Kf98 : Con tau := ⟨[.nil], [.int], 1, [], f98⟩
def Kf109 : Con tau := ⟨[.sl (.st 14)], [.str, .int], 2, [], f109⟩
def Kf98a : Con tau := ⟨[.pt 18], [.int], 1, [], f98a⟩
def Kf217 : Con tau := ⟨[.int], [.str], 1, [], f217⟩
def Kf147 : Con tau := ⟨[.int], [.str], 1, [], f147⟩
def Kf99 : Con tau := ⟨[.str], [.str], 1, [], f99⟩
def Kf64 : Con tau := ⟨[.nil, .str], [.int, .str, .bool, .int], 4, [], f64⟩
def Kf18 : Con tau := ⟨[.nil], [.int], 1, [], f18⟩
def Kf18a : Con tau := ⟨[.pt 11], [.int], 1, [], f18a⟩
def Kf13a : Con tau := ⟨[.po 10], [.str, .po 10], 1, [0], f13a⟩
def Kf70 : Con tau := ⟨[.nil], [.st 12, .bool], 2, [], f70⟩
def Kf156 : Con tau := ⟨[.str, .int], [.bool], 1, [], f156⟩
def Kf107 : Con tau := ⟨[.st 23, .int], [.st 23], 1, [], f107⟩
def Kf105 : Con tau := ⟨[.pt 20], [.st 12, .bool], 2, [], f105⟩
def Kf70a : Con tau := ⟨[.pt 11], [.st 12, .bool], 2, [], f70a⟩
def Kf45 : Con tau := ⟨[.nil], [.bool], 1, [], f45⟩
def Kf12a : Con tau := ⟨[.po 10], [.str, .po 10], 1, [0], f12a⟩
def Kf10 : Con tau := ⟨[.pt 10], [.int], 1, [], f10⟩
def Kf9 : Con tau := ⟨[.pt 10], [.bool], 1, [], f9⟩
def Kf5a : Con tau := ⟨[.nil, .str], [.int, .int], 2, [], f5a⟩
def Kf6a : Con tau := ⟨[.nil, .str], [.int, .int], 2, [], f6a⟩
def Kf7 : Con tau := ⟨[.nil], [.int], 1, [], f7⟩
def Kf8 : Con tau := ⟨[.nil], [.int], 1, [], f8⟩
def Kf9a : Con tau := ⟨[.nil], [.bool], 1, [], f9a⟩
def Kf10a : Con tau := ⟨[.nil], [.int], 1, [], f10a⟩
def Kf11 : Con tau := ⟨[.nil], [.st 42], 1, [], f11⟩
def Kf12b : Con tau := ⟨[.nil], [.str], 1, [], f12b⟩
def Kf13b : Con tau := ⟨[.nil], [.str], 1, [], f13b⟩
def Kf9b : Con tau := ⟨[.pn 10], [.bool, .pn 10], 1, [0], f9b⟩
def Kf20 : Con tau := ⟨[.nil], [.bool, .int], 2, [], f20⟩
def Kf42b : Con tau := ⟨[.po 10, .sl .str], [.po 10], 0, [0], f42b⟩
def Kf22a : Con tau := ⟨[.po 10], [.po 10], 0, [0], f22a⟩
def Kf73c : Con tau := ⟨[.po 18, .sl (.st 14)], [.str, .int, .po 18], 2, [0], f73c⟩
def Kf20b : Con tau := ⟨[.po 15], [.bool, .int, .po 15], 2, [0], f20b⟩
def Kf12c : Con tau := ⟨[.pn 10], [.str, .pn 10], 1, [0], f12c⟩
def Kf163 : Con tau := ⟨[.u8], [.bool], 1, [], f163⟩
def Kf340 : Con tau := ⟨[.u8], [.bool], 1, [], f340⟩
def Kf371 : Con tau := ⟨[.u8], [.bool], 1, [], f371⟩
theorem hmix : Tryz.prog.follows .mixedOrders = true := by kernel_rfl
theorem hNm : ∀ (f : FuncId) (fn : Func), Tryz.prog.funcs[f]? = some fn → (fn.name == "runtime.NumGoroutine") = false := names_ok (by kernel_rfl)
theorem heq : ∀ n ∈ [1, 4, 5, 8, 12, 14, 23, 30, 33, 36, 42], ∀ x y, G.eq n x y = eqD (G.fs n) (G.dtor n x) (G.dtor n y) := by
  intro n hn
  simp only [List.mem_cons, List.not_mem_nil, or_false] at hn
  rcases hn with rfl | rfl | rfl | rfl | rfl | rfl | rfl | rfl | rfl | rfl | rfl <;> intro x y <;> rfl
theorem tyk : ∀ cs n, TyOk (⟨Tryz.prog, G, tyl, cs, n, fun _ => .bool false⟩ : Cx tau) := ty_all [1, 4, 5, 8, 12, 14, 23, 30, 33, 36, 42] (by kernel_rfl) (by kernel_rfl) heq
theorem tyk0 : ∀ cs n, TyOk (⟨Tryz.prog, G0, tyl, cs, n, fun _ => .bool false⟩ : Cx tau) := ty_all [1, 4, 5, 8, 12, 14, 23, 30, 33, 36, 42] (by kernel_rfl) (by kernel_rfl) heq
end
end Go.Proofs
end
section
set_option linter.unusedVariables false
set_option maxRecDepth 100000
namespace Go.Proofs
open Go.Dk Go.Dm Go.RowKit Go.Rk
noncomputable section
theorem c_lFour : COk Tryz.prog G 117 KlFour := cok_scal rfl rfl rfl rfl ⟨_, Tryz.func117, by kernel_rfl, by kernel_rfl⟩ fun w h p r on gl hm => w_hostport_Four p r w (gl.2 w on) hm
theorem r_lClone28 (l : List S1) : rowV G (.st 1) l = cells enc_api_Swap (l.map (fun x : S1 => (⟨x.1, x.2⟩ : api_Swap))) := by unfold cells; rw [List.flatMap_map]; rfl
theorem o_lClone28 (w : World) (hG : Glob w) (xs : List S1) (ad : Option Addr) (c : Nat) (hs : Sees w ad (cells enc_api_Swap (xs.map (fun x : S1 => (⟨x.1, x.2⟩ : api_Swap))))) (hc : xs.length ≤ c) (hf : fitsApp 0 xs.length 32 = true) :
    Calls Tryz.prog 28 #[.slice ad xs.length c] w fun e' w' => ∃ p0 c0, e' = .returned (.slice p0 xs.length c0) ∧ Dk.Own w [] w' [.row (.slice p0 xs.length c0) 63 2 xs.length (cells enc_api_Swap (xs.map (fun x : S1 => (⟨x.1, x.2⟩ : api_Swap))))] := by
  have h2 := w_slices_Clone_gapi_Swap_api_Swap_ (xs.map (fun x : S1 => (⟨x.1, x.2⟩ : api_Swap))) (xs.map (fun x : S1 => (⟨x.1, x.2⟩ : api_Swap))) w hG hs (by rw [List.length_map]; exact hc) (by unfold slices_Clone_gapi_Swap_api_Swap_; rw [List.length_map, if_pos hf])
  simpa only [List.length_map] using h2
theorem c_lClone28 : COk Tryz.prog G 28 KlClone28 := cok_copy rfl ⟨_, Tryz.func28, by kernel_rfl, by kernel_rfl⟩ fun w h xs R ad c on gl hm hs hc => by
  have hm : (if fitsApp 0 xs.length 32 = true then some xs else none) = some R := hm
  split at hm
  · rename_i hf
    cases hm
    refine Calls.mono (o_lClone28 w (gl.2 w on).1 xs ad c ((congrArg (fun l => Sees w ad l) (r_lClone28 xs)).mp hs) hc hf) ?_
    rintro e1 w' ⟨p0, c0, e2, hO⟩
    exact ⟨p0, c0, e2, (congrArg (fun l => Dk.Own w [] w' [Res.row (.slice p0 xs.length c0) 63 2 xs.length l]) (r_lClone28 xs)).mpr hO⟩
  · cases hm
theorem r_lClone29 (l : List S4) : rowV G (.st 4) l = cells enc_api_Part (l.map (fun x : S4 => (⟨x.1, x.2⟩ : api_Part))) := by unfold cells; rw [List.flatMap_map]; rfl
theorem o_lClone29 (w : World) (hG : Glob w) (xs : List S4) (ad : Option Addr) (c : Nat) (hs : Sees w ad (cells enc_api_Part (xs.map (fun x : S4 => (⟨x.1, x.2⟩ : api_Part))))) (hc : xs.length ≤ c) (hf : fitsApp 0 xs.length 24 = true) :
    Calls Tryz.prog 29 #[.slice ad xs.length c] w fun e' w' => ∃ p0 c0, e' = .returned (.slice p0 xs.length c0) ∧ Dk.Own w [] w' [.row (.slice p0 xs.length c0) 75 2 xs.length (cells enc_api_Part (xs.map (fun x : S4 => (⟨x.1, x.2⟩ : api_Part))))] := by
  have h2 := w_slices_Clone_gapi_Part_api_Part_ (xs.map (fun x : S4 => (⟨x.1, x.2⟩ : api_Part))) (xs.map (fun x : S4 => (⟨x.1, x.2⟩ : api_Part))) w hG hs (by rw [List.length_map]; exact hc) (by unfold slices_Clone_gapi_Part_api_Part_; rw [List.length_map, if_pos hf])
  simpa only [List.length_map] using h2
theorem c_lClone29 : COk Tryz.prog G 29 KlClone29 := cok_copy rfl ⟨_, Tryz.func29, by kernel_rfl, by kernel_rfl⟩ fun w h xs R ad c on gl hm hs hc => by
  have hm : (if fitsApp 0 xs.length 24 = true then some xs else none) = some R := hm
  split at hm
  · rename_i hf
    cases hm
    refine Calls.mono (o_lClone29 w (gl.2 w on).1 xs ad c ((congrArg (fun l => Sees w ad l) (r_lClone29 xs)).mp hs) hc hf) ?_
    rintro e1 w' ⟨p0, c0, e2, hO⟩
    exact ⟨p0, c0, e2, (congrArg (fun l => Dk.Own w [] w' [Res.row (.slice p0 xs.length c0) 75 2 xs.length l]) (r_lClone29 xs)).mpr hO⟩
  · cases hm
theorem r_lClone218 (l : List S14) : rowV G (.st 14) l = cells enc_api_Field (l.map (fun x : S14 => (⟨x.1, x.2⟩ : api_Field))) := by unfold cells; rw [List.flatMap_map]; rfl
theorem o_lClone218 (w : World) (hG : Glob w) (xs : List S14) (ad : Option Addr) (c : Nat) (hs : Sees w ad (cells enc_api_Field (xs.map (fun x : S14 => (⟨x.1, x.2⟩ : api_Field))))) (hc : xs.length ≤ c) (hf : fitsApp 0 xs.length 32 = true) :
    Calls Tryz.prog 218 #[.slice ad xs.length c] w fun e' w' => ∃ p0 c0, e' = .returned (.slice p0 xs.length c0) ∧ Dk.Own w [] w' [.row (.slice p0 xs.length c0) 192 2 xs.length (cells enc_api_Field (xs.map (fun x : S14 => (⟨x.1, x.2⟩ : api_Field))))] := by
  have h2 := w_slices_Clone_gapi_Field_api_Field_ (xs.map (fun x : S14 => (⟨x.1, x.2⟩ : api_Field))) (xs.map (fun x : S14 => (⟨x.1, x.2⟩ : api_Field))) w hG hs (by rw [List.length_map]; exact hc) (by unfold slices_Clone_gapi_Field_api_Field_; rw [List.length_map, if_pos hf])
  simpa only [List.length_map] using h2
theorem c_lClone218 : COk Tryz.prog G 218 KlClone218 := cok_copy rfl ⟨_, Tryz.func218, by kernel_rfl, by kernel_rfl⟩ fun w h xs R ad c on gl hm hs hc => by
  have hm : (if fitsApp 0 xs.length 32 = true then some xs else none) = some R := hm
  split at hm
  · rename_i hf
    cases hm
    refine Calls.mono (o_lClone218 w (gl.2 w on).1 xs ad c ((congrArg (fun l => Sees w ad l) (r_lClone218 xs)).mp hs) hc hf) ?_
    rintro e1 w' ⟨p0, c0, e2, hO⟩
    exact ⟨p0, c0, e2, (congrArg (fun l => Dk.Own w [] w' [Res.row (.slice p0 xs.length c0) 192 2 xs.length l]) (r_lClone218 xs)).mpr hO⟩
  · cases hm
theorem c_lFold : COk Tryz.prog G 189 KlFold := cok_scal rfl rfl rfl rfl ⟨_, Tryz.func189, by kernel_rfl, by kernel_rfl⟩ fun w h p r on gl hm => w_octet_Fold p r w (gl.2 w on).1 hm
theorem c_lJoin : COk Tryz.prog G 110 KlJoin := cok_join ⟨_, Tryz.func110, by kernel_rfl, by kernel_rfl⟩ fun w h xs s R ad c on gl hm hs hc => w_strings_Join xs s R w (gl.2 w on).1 (by rw [show cells enc_str xs = xs.map str from cells_str xs]; exact hs) hc hm
theorem c_lIndexAny : COk Tryz.prog G 123 KlIndexAny := cok_scal rfl rfl rfl rfl ⟨_, Tryz.func123, by kernel_rfl, by kernel_rfl⟩ fun w h p r on gl hm => w_strings_IndexAny p.1 p.2 r w (gl.2 w on).1 hm
theorem c_lCut : COk Tryz.prog G 169 KlCut := cok_scal rfl rfl rfl rfl ⟨_, Tryz.func169, by kernel_rfl, by kernel_rfl⟩ fun w h p r on gl hm => w_strings_Cut p.1 p.2 r w (gl.2 w on).1 hm
theorem c_lTrim : COk Tryz.prog G 186 KlTrim := cok_scal rfl rfl rfl rfl ⟨_, Tryz.func186, by kernel_rfl, by kernel_rfl⟩ fun w h p r on gl hm => w_strings_Trim p.1 p.2 r w (gl.2 w on).1 hm
theorem c_lIndex : COk Tryz.prog G 195 KlIndex := cok_scal rfl rfl rfl rfl ⟨_, Tryz.func195, by kernel_rfl, by kernel_rfl⟩ fun w h p r on gl hm => w_strings_Index p.1 p.2 r w (gl.2 w on).1 hm
theorem c_lSplit : COk Tryz.prog G 196 KlSplit := cok_rows rfl rfl ⟨_, Tryz.func196, by kernel_rfl, by kernel_rfl⟩ fun w h p R on gl hm => by
  have := w_strings_Split p.1 p.2 R w (gl.2 w on).1 hm
  rw [show rowV G .str R = cells enc_str R from rfl]
  exact this
theorem c_lFormatInt : COk Tryz.prog G 233 KlFormatInt := cok_scal rfl rfl rfl rfl ⟨_, Tryz.func233, by kernel_rfl, by kernel_rfl⟩ fun w h p r on gl hm => w_strconv_FormatInt p.1 p.2 r w (gl.2 w on) hm
theorem c_lIndexByte : COk Tryz.prog G 235 KlIndexByte := cok_scal rfl rfl rfl rfl ⟨_, Tryz.func235, by kernel_rfl, by kernel_rfl⟩ fun w h p r on gl hm => w_strings_IndexByte p.1 p.2 r w (gl.2 w on).1 hm
theorem c_lContains : COk Tryz.prog G 243 KlContains := cok_scal rfl rfl rfl rfl ⟨_, Tryz.func243, by kernel_rfl, by kernel_rfl⟩ fun w h p r on gl hm => w_strings_Contains p.1 p.2 r w (gl.2 w on).1 hm
theorem c_lTrimRight : COk Tryz.prog G 363 KlTrimRight := cok_scal rfl rfl rfl rfl ⟨_, Tryz.func363, by kernel_rfl, by kernel_rfl⟩ fun w h p r on gl hm => w_strings_TrimRight p.1 p.2 r w (gl.2 w on).1 hm
-- doorstep/octet.Lower
theorem d_f234 : COk Tryz.prog G0 234 Kf234 := con_ok hmix hNm tyk0 CLs.nil 12 Tryz.func234 (by kernel_rfl) (hn := .e) (by unfold Fact; intro fx; kernel_rfl)
-- doorstep/octet.IsAlpha
theorem d_f231 : COk Tryz.prog G0 231 Kf231 := con_ok hmix hNm tyk0 (CLs.nil.add d_f234) 11 Tryz.func231 (by kernel_rfl) (hn := .e) (by unfold Fact; intro fx; kernel_rfl)
-- doorstep/octet.IsDigit
theorem d_f122 : COk Tryz.prog G0 122 Kf122 := con_ok hmix hNm tyk0 CLs.nil 9 Tryz.func122 (by kernel_rfl) (hn := .e) (by unfold Fact; intro fx; kernel_rfl)
theorem ib0 (s : Str) (c : UInt8) (R : Int) (w0 : World) (hm : strings_IndexByte s c = some R) : Calls Tryz.prog 235 #[str s, byte c] w0 fun e w' => e = .returned (int R) ∧ Below w0.heap.size w0 w' := by
  refine (Tryz.strings_IndexByte ⟨s.toArray⟩ c.toNat w0).mono fun e w' ⟨he, hw⟩ => ?_
  subst he hw
  refine ⟨?_, Below.refl _ _⟩
  unfold strings_IndexByte at hm
  rw [idxByte_eqL] at hm
  cases hm
  simp
theorem d_lIndexByte : COk Tryz.prog G0 235 KlIndexByte := cok_scal rfl rfl rfl rfl ⟨_, Tryz.func235, by kernel_rfl, by kernel_rfl⟩ fun w h p r on gl hm => ib0 p.1 p.2 r w hm
-- doorstep/octet.one
theorem d_f232 : COk Tryz.prog G0 232 Kf232 := con_ok hmix hNm tyk0 (CLs.nil.add d_lIndexByte) 9 Tryz.func232 (by kernel_rfl) (hn := .e) (by unfold Fact; intro fx; kernel_rfl)
-- doorstep/octet.IsToken
theorem d_f184 : COk Tryz.prog G0 184 Kf184 := con_ok hmix hNm tyk0 (((CLs.nil.add d_f232).add d_f122).add d_f231) 13 Tryz.func184 (by kernel_rfl) (hn := .e) (by unfold Fact; intro fx; kernel_rfl)
-- doorstep/octet.IsHex
theorem d_f229 : COk Tryz.prog G0 229 Kf229 := con_ok hmix hNm tyk0 ((CLs.nil.add d_f234).add d_f122) 15 Tryz.func229 (by kernel_rfl) (hn := .e) (by unfold Fact; intro fx; kernel_rfl)
-- doorstep/uriref.scheme$1
theorem d_f292 : COk Tryz.prog G0 292 Kf292 := con_ok hmix hNm tyk0 ((CLs.nil.add d_f122).add d_f231) 21 Tryz.func292 (by kernel_rfl) (hn := .e) (by unfold Fact; intro fx; kernel_rfl)
-- doorstep/cookie.part$1
theorem d_f376 : COk Tryz.prog G0 376 Kf376 := con_ok hmix hNm tyk0 CLs.nil 3 Tryz.func376 (by kernel_rfl) (hn := .e) (by unfold Fact; intro fx; kernel_rfl)
-- doorstep/octet.IsVisible
theorem d_f244 : COk Tryz.prog G0 244 Kf244 := con_ok hmix hNm tyk0 CLs.nil 9 Tryz.func244 (by kernel_rfl) (hn := .e) (by unfold Fact; intro fx; kernel_rfl)
-- doorstep/octet.IsBlank
theorem d_f245 : COk Tryz.prog G0 245 Kf245 := con_ok hmix hNm tyk0 CLs.nil 9 Tryz.func245 (by kernel_rfl) (hn := .e) (by unfold Fact; intro fx; kernel_rfl)
-- doorstep/octet.IsValue
theorem d_f185 : COk Tryz.prog G0 185 Kf185 := con_ok hmix hNm tyk0 ((CLs.nil.add d_f245).add d_f244) 13 Tryz.func185 (by kernel_rfl) (hn := .e) (by unfold Fact; intro fx; kernel_rfl)
-- doorstep/cookie.plain
theorem d_f377 : COk Tryz.prog G0 377 Kf377 := con_ok hmix hNm tyk0 ((CLs.nil.add d_lIndexByte).add d_f244) 10 Tryz.func377 (by kernel_rfl) (hn := .e) (by unfold Fact; intro fx; kernel_rfl)
-- doorstep/startline.request$1
theorem d_f258 : COk Tryz.prog G0 258 Kf258 := con_ok hmix hNm tyk0 CLs.nil 5 Tryz.func258 (by kernel_rfl) (hn := .e) (by unfold Fact; intro fx; kernel_rfl)
-- (doorstep/via.reader).by$1
theorem d_f163 : COk Tryz.prog G0 163 Kf163 := con_ok hmix hNm tyk0 CLs.nil 5 Tryz.func163 (by kernel_rfl) (hn := .e) (by unfold Fact; intro fx; kernel_rfl)
-- doorstep/octet.IsUnreserved
theorem d_f173 : COk Tryz.prog G0 173 Kf173 := con_ok hmix hNm tyk0 (((CLs.nil.add d_f232).add d_f122).add d_f231) 13 Tryz.func173 (by kernel_rfl) (hn := .e) (by unfold Fact; intro fx; kernel_rfl)
-- doorstep/octet.IsSub
theorem d_f174 : COk Tryz.prog G0 174 Kf174 := con_ok hmix hNm tyk0 (CLs.nil.add d_f232) 5 Tryz.func174 (by kernel_rfl) (hn := .e) (by unfold Fact; intro fx; kernel_rfl)
-- doorstep/octet.IsPath
theorem d_f293 : COk Tryz.prog G0 293 Kf293 := con_ok hmix hNm tyk0 (((CLs.nil.add d_f232).add d_f174).add d_f173) 13 Tryz.func293 (by kernel_rfl) (hn := .e) (by unfold Fact; intro fx; kernel_rfl)
-- doorstep/tmpl.plain
theorem d_f340 : COk Tryz.prog G0 340 Kf340 := con_ok hmix hNm tyk0 (CLs.nil.add d_f185) 9 Tryz.func340 (by kernel_rfl) (hn := .e) (by unfold Fact; intro fx; kernel_rfl)
-- doorstep/tmpl.small
theorem d_f371 : COk Tryz.prog G0 371 Kf371 := con_ok hmix hNm tyk0 CLs.nil 9 Tryz.func371 (by kernel_rfl) (hn := .e) (by unfold Fact; intro fx; kernel_rfl)
theorem g0ok : ∀ h, GlOk Tryz.prog G0 h := fun h => ⟨fun p hp => (by cases hp), trivial⟩
theorem f0ok : FpOk Tryz.prog G0 := fun p hp => by cases hp
theorem fpok : FpOk Tryz.prog G := fp_cons (fn_of (m := f122) g0ok f0ok d_f122) (fp_cons (fn_of (m := f163) g0ok f0ok d_f163) (fp_cons (fn_of (m := f173) g0ok f0ok d_f173) (fp_cons (fn_of (m := f174) g0ok f0ok d_f174) (fp_cons (fn_of (m := f184) g0ok f0ok d_f184) (fp_cons (fn_of (m := f185) g0ok f0ok d_f185) (fp_cons (fn_of (m := f229) g0ok f0ok d_f229) (fp_cons (fn_of (m := f231) g0ok f0ok d_f231) (fp_cons (fn_of (m := f244) g0ok f0ok d_f244) (fp_cons (fn_of (m := f245) g0ok f0ok d_f245) (fp_cons (fn_of (m := f258) g0ok f0ok d_f258) (fp_cons (fn_of (m := f292) g0ok f0ok d_f292) (fp_cons (fn_of (m := f293) g0ok f0ok d_f293) (fp_cons (fn_of (m := f340) g0ok f0ok d_f340) (fp_cons (fn_of (m := f371) g0ok f0ok d_f371) (fp_cons (fn_of (m := f376) g0ok f0ok d_f376) (fp_cons (fn_of (m := f377) g0ok f0ok d_f377) (fp_nil)))))))))))))))))
-- doorstep/quill.Join
theorem c_f78 : COk Tryz.prog G 78 Kf78 := con_ok hmix hNm tyk (CLs.nil.add c_lJoin) 8 Tryz.func78 (by kernel_rfl) (hn := .e) (by unfold Fact; intro fx; kernel_rfl)
-- doorstep/scan.New
theorem c_f111 : COk Tryz.prog G 111 Kf111 := con_ok hmix hNm tyk CLs.nil 6 Tryz.func111 (by kernel_rfl) (hn := .e) (by unfold Fact; intro fx; kernel_rfl)
-- (*doorstep/scan.Scanner).At
theorem c_f225 : COk Tryz.prog G 225 Kf225 := con_ok hmix hNm tyk CLs.nil 9 Tryz.func225 (by kernel_rfl) (hn := .e) (by unfold Fact; intro fx; kernel_rfl)
-- (*doorstep/scan.Scanner).Rest
theorem c_f166 : COk Tryz.prog G 166 Kf166 := con_ok hmix hNm tyk CLs.nil 14 Tryz.func166 (by kernel_rfl) (hn := .e) (by unfold Fact; intro fx; kernel_rfl)
-- (*doorstep/scan.Scanner).End
theorem c_f164 : COk Tryz.prog G 164 Kf164 := con_ok hmix hNm tyk (CLs.nil.add c_f166) 6 Tryz.func164 (by kernel_rfl) (hn := .e) (by unfold Fact; intro fx; kernel_rfl)
-- (*doorstep/scan.Scanner).Peek
theorem c_f161 : COk Tryz.prog G 161 Kf161 := con_ok hmix hNm tyk (CLs.nil.add c_f164) 15 Tryz.func161 (by kernel_rfl) (hn := .e) (by unfold Fact; intro fx; kernel_rfl)
-- doorstep/octet.Lower
theorem c_f234 : COk Tryz.prog G 234 Kf234 := con_ok hmix hNm tyk CLs.nil 12 Tryz.func234 (by kernel_rfl) (hn := .e) (by unfold Fact; intro fx; kernel_rfl)
-- doorstep/octet.IsAlpha
theorem c_f231 : COk Tryz.prog G 231 Kf231 := con_ok hmix hNm tyk (CLs.nil.add c_f234) 11 Tryz.func231 (by kernel_rfl) (hn := .e) (by unfold Fact; intro fx; kernel_rfl)
-- doorstep/octet.IsDigit
theorem c_f122 : COk Tryz.prog G 122 Kf122 := con_ok hmix hNm tyk CLs.nil 9 Tryz.func122 (by kernel_rfl) (hn := .e) (by unfold Fact; intro fx; kernel_rfl)
-- doorstep/octet.one
theorem c_f232 : COk Tryz.prog G 232 Kf232 := con_ok hmix hNm tyk (CLs.nil.add c_lIndexByte) 9 Tryz.func232 (by kernel_rfl) (hn := .e) (by unfold Fact; intro fx; kernel_rfl)
-- doorstep/octet.IsToken
theorem c_f184 : COk Tryz.prog G 184 Kf184 := con_ok hmix hNm tyk (((CLs.nil.add c_f232).add c_f122).add c_f231) 13 Tryz.func184 (by kernel_rfl) (hn := .e) (by unfold Fact; intro fx; kernel_rfl)
-- (*doorstep/scan.Scanner).Byte
theorem c_f113a : COk Tryz.prog G 113 Kf113a := con_ok hmix hNm tyk (CLs.nil.add c_f161) 26 Tryz.func113 (by kernel_rfl) (hn := .e) (by unfold Fact; intro fx; kernel_rfl)
-- doorstep/octet.All
theorem c_f176 : COk Tryz.prog G 176 Kf176 := con_ok hmix hNm tyk CLs.nil 27 Tryz.func176 (by kernel_rfl) (hn := .n 1 (.q (.n 1 (.w [(0, .fn), (8, .sl .str), (9, .int), (10, .int)] [] f176_L0 fun n0 => .n 2 (.q (.n 2 (.w [(0, .fn), (6, .str), (8, .sl .str), (9, .int), (10, .int), (15, .int), (16, .int)] [] (f176_L1 (f176_L0 n0)) fun n1 => .e)) .e))) .e)) (by unfold Fact; intro fx; kernel_rfl)
-- doorstep/octet.IsHex
theorem c_f229 : COk Tryz.prog G 229 Kf229 := con_ok hmix hNm tyk ((CLs.nil.add c_f234).add c_f122) 15 Tryz.func229 (by kernel_rfl) (hn := .e) (by unfold Fact; intro fx; kernel_rfl)
-- doorstep/hostport.groups
theorem c_f170 : COk Tryz.prog G 170 Kf170 := con_ok hmix hNm tyk (((CLs.nil.add c_f176).add c_lFour).add c_lSplit) 53 Tryz.func170 (by kernel_rfl) (hn := .n 4 (.q (.n 1 (.w [(1, .bool), (5, .so 9 .str), (6, .int), (14, .int), (15, .int)] [(13, 5)] f170_L0 fun n0 => .n 2 (.j [(1, .bool), (5, .so 9 .str), (6, .int), (14, .int), (15, .int)] [(13, 5)] (f170_j1 (f170_L0 n0)) (.n 1 (.j [(1, .bool), (5, .so 9 .str), (6, .int), (8, .str), (14, .int), (15, .int), (20, .bool)] [(13, 5)] (f170_j3 (f170_L0 n0)) .e (.q .e (.j [(1, .bool), (5, .so 9 .str), (6, .int), (14, .int), (15, .int), (35, .bool)] [(13, 5)] (f170_j2 (f170_L0 n0)) .e .e)))) .e))) .e)) (by unfold Fact; intro fx; kernel_rfl)
-- doorstep/hostport.Six
theorem c_f116 : COk Tryz.prog G 116 Kf116 := con_ok hmix hNm tyk ((CLs.nil.add c_f170).add c_lCut) 35 Tryz.func116 (by kernel_rfl) (hn := .e) (by unfold Fact; intro fx; kernel_rfl)
-- doorstep/hostport.percent
theorem c_f172 : COk Tryz.prog G 172 Kf172 := con_ok hmix hNm tyk (CLs.nil.add c_f176) 17 Tryz.func172 (by kernel_rfl) (hn := .e) (by unfold Fact; intro fx; kernel_rfl)
-- doorstep/octet.IsUnreserved
theorem c_f173 : COk Tryz.prog G 173 Kf173 := con_ok hmix hNm tyk (((CLs.nil.add c_f232).add c_f122).add c_f231) 13 Tryz.func173 (by kernel_rfl) (hn := .e) (by unfold Fact; intro fx; kernel_rfl)
-- doorstep/octet.IsSub
theorem c_f174 : COk Tryz.prog G 174 Kf174 := con_ok hmix hNm tyk (CLs.nil.add c_f232) 5 Tryz.func174 (by kernel_rfl) (hn := .e) (by unfold Fact; intro fx; kernel_rfl)
-- doorstep/hostport.Name
theorem c_f118 : COk Tryz.prog G 118 Kf118 := con_ok hmix hNm tyk (((CLs.nil.add c_f174).add c_f173).add c_f172) 23 Tryz.func118 (by kernel_rfl) (hn := .n 2 (.q (.w [(0, .str)] [] f118_L0 fun n0 => .e) .e)) (by unfold Fact; intro fx; kernel_rfl)
-- doorstep/hostport.of
theorem c_f80 : COk Tryz.prog G 80 Kf80 := con_ok hmix hNm tyk (((CLs.nil.add c_f118).add c_lFour).add c_f116) 51 Tryz.func80 (by kernel_rfl) (hn := .n 2 (.q (.j [(0, .str), (2, .po 8), (4, .po 8), (7, .bool)] [] f80_j0 .e .e) .e)) (by unfold Fact; intro fx; kernel_rfl)
-- internal/bytealg.LastIndexByteString
theorem c_f119 : COk Tryz.prog G 119 Kf119 := con_ok hmix hNm tyk CLs.nil 19 Tryz.func119 (by kernel_rfl) (hn := .n 1 (.q (.n 1 (.w [(0, .str), (1, .u8), (5, .int)] [] f119_L0 fun n0 => .e)) .e)) (by unfold Fact; intro fx; kernel_rfl)
-- strings.LastIndexByte
theorem c_f81 : COk Tryz.prog G 81 Kf81 := con_ok hmix hNm tyk (CLs.nil.add c_f119) 8 Tryz.func81 (by kernel_rfl) (hn := .e) (by unfold Fact; intro fx; kernel_rfl)
-- doorstep/numeral.worth
theorem c_f177 : COk Tryz.prog G 177 Kf177 := con_ok hmix hNm tyk ((CLs.nil.add c_f234).add c_f122) 13 Tryz.func177 (by kernel_rfl) (hn := .e) (by unfold Fact; intro fx; kernel_rfl)
-- doorstep/numeral.read
theorem c_f121 : COk Tryz.prog G 121 Kf121 := con_ok hmix hNm tyk ((CLs.nil.add c_f177).add c_f176) 50 Tryz.func121 (by kernel_rfl) (hn := .n 3 (.q (.n 1 (.w [(0, .str), (1, .int), (2, .int), (10, .int), (23, .int), (24, .int)] [] f121_L0 fun n0 => .e)) .e)) (by unfold Fact; intro fx; kernel_rfl)
-- doorstep/numeral.Decimal
theorem c_f83 : COk Tryz.prog G 83 Kf83 := con_ok hmix hNm tyk (CLs.nil.add c_f121) 11 Tryz.func83 (by kernel_rfl) (hn := .e) (by unfold Fact; intro fx; kernel_rfl)
-- doorstep/numeral.text
theorem c_f175 : COk Tryz.prog G 175 Kf175 := con_ok hmix hNm tyk (CLs.nil.add c_lFormatInt) 10 Tryz.func175 (by kernel_rfl) (hn := .e) (by unfold Fact; intro fx; kernel_rfl)
-- doorstep/numeral.Text
theorem c_f120 : COk Tryz.prog G 120 Kf120 := con_ok hmix hNm tyk (CLs.nil.add c_f175) 5 Tryz.func120 (by kernel_rfl) (hn := .e) (by unfold Fact; intro fx; kernel_rfl)
-- doorstep/hostport.small
theorem c_f82 : COk Tryz.prog G 82 Kf82 := con_ok hmix hNm tyk ((CLs.nil.add c_f120).add c_f83) 21 Tryz.func82 (by kernel_rfl) (hn := .e) (by unfold Fact; intro fx; kernel_rfl)
-- doorstep/hostport.Parse
theorem c_f50 : COk Tryz.prog G 50 Kf50 := con_ok hmix hNm tyk ((((CLs.nil.add c_f83).add c_f82).add c_f81).add c_f80) 49 Tryz.func50 (by kernel_rfl) (hn := .e) (by unfold Fact; intro fx; kernel_rfl)
-- doorstep/domains.name
theorem c_f84 : COk Tryz.prog G 84 Kf84 := con_ok hmix hNm tyk ((CLs.nil.add c_lFour).add c_f118) 10 Tryz.func84 (by kernel_rfl) (hn := .e) (by unfold Fact; intro fx; kernel_rfl)
-- strings.ContainsAny
theorem c_f85 : COk Tryz.prog G 85 Kf85 := con_ok hmix hNm tyk (CLs.nil.add c_lIndexAny) 9 Tryz.func85 (by kernel_rfl) (hn := .e) (by unfold Fact; intro fx; kernel_rfl)
-- doorstep/domains.Check
theorem c_f51 : COk Tryz.prog G 51 Kf51 := con_ok hmix hNm tyk ((CLs.nil.add c_f85).add c_f84) 30 Tryz.func51 (by kernel_rfl) (hn := .n 1 (.q (.n 1 (.w [(0, .sl (.st 1)), (5, .sl (.st 1)), (6, .int), (7, .int)] [] f51_L0 fun n0 => .e)) .e)) (by unfold Fact; intro fx; kernel_rfl)
-- doorstep/uriref.scheme$1
theorem c_f292 : COk Tryz.prog G 292 Kf292 := con_ok hmix hNm tyk ((CLs.nil.add c_f122).add c_f231) 21 Tryz.func292 (by kernel_rfl) (hn := .e) (by unfold Fact; intro fx; kernel_rfl)
-- doorstep/uriref.scheme
theorem c_f239 : COk Tryz.prog G 239 Kf239 := con_ok hmix hNm tyk ((CLs.nil.add c_f176).add c_f231) 17 Tryz.func239 (by kernel_rfl) (hn := .e) (by unfold Fact; intro fx; kernel_rfl)
-- internal/stringslite.HasPrefix
theorem c_f286 : COk Tryz.prog G 286 Kf286 := con_ok hmix hNm tyk CLs.nil 18 Tryz.func286 (by kernel_rfl) (hn := .e) (by unfold Fact; intro fx; kernel_rfl)
-- strings.HasPrefix
theorem c_f240 : COk Tryz.prog G 240 Kf240 := con_ok hmix hNm tyk (CLs.nil.add c_f286) 8 Tryz.func240 (by kernel_rfl) (hn := .e) (by unfold Fact; intro fx; kernel_rfl)
-- doorstep/uriref.upto
theorem c_f241 : COk Tryz.prog G 241 Kf241 := con_ok hmix hNm tyk (CLs.nil.add c_lIndexAny) 19 Tryz.func241 (by kernel_rfl) (hn := .e) (by unfold Fact; intro fx; kernel_rfl)
-- doorstep/uriref.parts
theorem c_f182 : COk Tryz.prog G 182 Kf182 := con_ok hmix hNm tyk ((((CLs.nil.add c_f241).add c_f240).add c_f239).add c_lIndexByte) 56 Tryz.func182 (by kernel_rfl) (hn := .n 2 (.j [(0, .str), (2, .po 9), (3, .po 9)] [] f182_j3 (.n 1 (.j [(0, .str), (2, .po 9), (3, .po 9), (4, .int), (14, .bool)] [] f182_j4 .e .e)) (.j [(0, .str), (2, .po 9), (3, .po 9)] [] f182_j2 .e (.n 1 (.j [(0, .str), (2, .po 9), (3, .po 9)] [] f182_j0 .e (.j [(2, .po 9), (3, .po 9)] [] f182_j1 .e .e)))))) (by unfold Fact; intro fx; kernel_rfl)
-- doorstep/octet.IsPath
theorem c_f293 : COk Tryz.prog G 293 Kf293 := con_ok hmix hNm tyk (((CLs.nil.add c_f232).add c_f174).add c_f173) 13 Tryz.func293 (by kernel_rfl) (hn := .e) (by unfold Fact; intro fx; kernel_rfl)
-- doorstep/uriref.bytes
theorem c_f242 : COk Tryz.prog G 242 Kf242 := con_ok hmix hNm tyk (((CLs.nil.add c_lIndexByte).add c_f293).add c_f176) 49 Tryz.func242 (by kernel_rfl) (hn := .n 1 (.q (.n 1 (.w [(0, .str), (1, .str), (5, .int)] [] f242_L0 fun n0 => .n 1 (.q (.n 1 (.q .e (.j [(0, .str), (1, .str), (5, .int), (35, .bool)] [] (f242_j1 (f242_L0 n0)) .e .e))) .e))) .e)) (by unfold Fact; intro fx; kernel_rfl)
-- doorstep/uriref.well
theorem c_f183 : COk Tryz.prog G 183 Kf183 := con_ok hmix hNm tyk ((((CLs.nil.add c_f240).add c_lContains).add c_f242).add c_f241) 63 Tryz.func183 (by kernel_rfl) (hn := .e) (by unfold Fact; intro fx; kernel_rfl)
-- doorstep/uriref.Parse
theorem c_f124 : COk Tryz.prog G 124 Kf124 := con_ok hmix hNm tyk ((CLs.nil.add c_f183).add c_f182) 12 Tryz.func124 (by kernel_rfl) (hn := .e) (by unfold Fact; intro fx; kernel_rfl)
-- doorstep/location.is
theorem c_f86 : COk Tryz.prog G 86 Kf86 := con_ok hmix hNm tyk (CLs.nil.add c_f124) 12 Tryz.func86 (by kernel_rfl) (hn := .e) (by unfold Fact; intro fx; kernel_rfl)
-- doorstep/location.Check
theorem c_f52 : COk Tryz.prog G 52 Kf52 := con_ok hmix hNm tyk (CLs.nil.add c_f86) 30 Tryz.func52 (by kernel_rfl) (hn := .n 1 (.q (.n 1 (.w [(0, .sl (.st 1)), (5, .sl (.st 1)), (6, .int), (7, .int)] [] f52_L0 fun n0 => .e)) .e)) (by unfold Fact; intro fx; kernel_rfl)
-- doorstep/enchunk.New
theorem c_f25 : COk Tryz.prog G 25 Kf25 := con_ok hmix hNm tyk CLs.nil 13 Tryz.func25 (by kernel_rfl) (hn := .e) (by unfold Fact; intro fx; kernel_rfl)
-- doorstep/pairing.New
theorem c_f26 : COk Tryz.prog G 26 Kf26 := con_ok hmix hNm tyk CLs.nil 14 Tryz.func26 (by kernel_rfl) (hn := .e) (by unfold Fact; intro fx; kernel_rfl)
-- doorstep/rule.Known
theorem c_f87 : COk Tryz.prog G 87 Kf87 := con_ok hmix hNm tyk CLs.nil 10 Tryz.func87 (by kernel_rfl) (hn := .e) (by unfold Fact; intro fx; kernel_rfl)
-- doorstep/accum.New
theorem c_f54 : COk Tryz.prog G 54 Kf54 := con_ok hmix hNm tyk CLs.nil 24 Tryz.func54 (by kernel_rfl) (hn := .n 1 (.q (.j [(0, .int), (1, .int), (19, .bool)] [] f54_j0 .e .e) .e)) (by unfold Fact; intro fx; kernel_rfl)
-- doorstep/gateway.fresh
theorem c_f30 : COk Tryz.prog G 30 Kf30 := con_ok hmix hNm tyk (CLs.nil.add c_f54) 15 Tryz.func30 (by kernel_rfl) (hn := .e) (by unfold Fact; intro fx; kernel_rfl)
-- (*doorstep/accum.Accum).Empty
theorem c_f55 : COk Tryz.prog G 55 Kf55 := con_ok hmix hNm tyk CLs.nil 12 Tryz.func55 (by kernel_rfl) (hn := .e) (by unfold Fact; intro fx; kernel_rfl)
-- (*doorstep/accum.Accum).Empty
theorem c_f55a : COk Tryz.prog G 55 Kf55a := con_ok hmix hNm tyk CLs.nil 12 Tryz.func55 (by kernel_rfl) (hn := .e) (by unfold Fact; intro fx; kernel_rfl)
-- (*doorstep/gateway.side).idle
theorem c_f31 : COk Tryz.prog G 31 Kf31 := con_ok hmix hNm tyk ((CLs.nil.add c_f55a).add c_f55) 15 Tryz.func31 (by kernel_rfl) (hn := .e) (by unfold Fact; intro fx; kernel_rfl)
-- (*doorstep/pairing.Queue).Full
theorem c_f32 : COk Tryz.prog G 32 Kf32 := con_ok hmix hNm tyk CLs.nil 12 Tryz.func32 (by kernel_rfl) (hn := .e) (by unfold Fact; intro fx; kernel_rfl)
-- (*doorstep/pairing.row[doorstep/pairing.Ticket]).room
theorem c_f56 : COk Tryz.prog G 56 Kf56 := con_ok hmix hNm tyk CLs.nil 13 Tryz.func56 (by kernel_rfl) (hn := .e) (by unfold Fact; intro fx; kernel_rfl)
-- (*doorstep/pairing.Queue).Full
theorem c_f32a : COk Tryz.prog G 32 Kf32a := con_ok hmix hNm tyk (CLs.nil.add c_f56) 12 Tryz.func32 (by kernel_rfl) (hn := .e) (by unfold Fact; intro fx; kernel_rfl)
-- (*doorstep/gateway.Gateway).reads
theorem c_f15 : COk Tryz.prog G 15 Kf15 := con_ok hmix hNm tyk (((CLs.nil.add c_f32a).add c_f32).add c_f31) 30 Tryz.func15 (by kernel_rfl) (hn := .e) (by unfold Fact; intro fx; kernel_rfl)
-- (*doorstep/accum.Accum).Feed
theorem c_f33 : COk Tryz.prog G 33 Kf33 := con_ok hmix hNm tyk CLs.nil 72 Tryz.func33 (by kernel_rfl) (hn := .e) (by unfold Fact; intro fx; kernel_rfl)
-- doorstep/reply.Code
theorem c_f58 : COk Tryz.prog G 58 Kf58 := con_ok hmix hNm tyk CLs.nil 8 Tryz.func58 (by kernel_rfl) (hn := .e) (by unfold Fact; intro fx; kernel_rfl)
-- (*doorstep/accum.Accum).Head
theorem c_f59 : COk Tryz.prog G 59 Kf59 := con_ok hmix hNm tyk CLs.nil 25 Tryz.func59 (by kernel_rfl) (hn := .e) (by unfold Fact; intro fx; kernel_rfl)
-- doorstep/bag.New
theorem c_f148 : COk Tryz.prog G 148 Kf148 := con_ok hmix hNm tyk (CLs.nil.add c_lClone218) 7 Tryz.func148 (by kernel_rfl) (hn := .e) (by unfold Fact; intro fx; kernel_rfl)
-- (*doorstep/bag.Bag).List
theorem c_f205 : COk Tryz.prog G 205 Kf205 := con_ok hmix hNm tyk (CLs.nil.add c_lClone218) 10 Tryz.func205 (by kernel_rfl) (hn := .e) (by unfold Fact; intro fx; kernel_rfl)
-- doorstep/octet.Same
theorem c_f219 : COk Tryz.prog G 219 Kf219 := con_ok hmix hNm tyk (CLs.nil.add c_lFold) 10 Tryz.func219 (by kernel_rfl) (hn := .e) (by unfold Fact; intro fx; kernel_rfl)
-- (*doorstep/bag.Bag).Values
theorem c_f149 : COk Tryz.prog G 149 Kf149 := con_ok hmix hNm tyk ((CLs.nil.add c_f219).add c_f205) 26 Tryz.func149 (by kernel_rfl) (hn := .n 2 (.q (.n 1 (.w [(1, .str), (5, .so 9 .str), (9, .so 192 (.st 14)), (10, .int), (11, .int)] [] f149_L0 fun n0 => .n 2 (.j [(1, .str), (5, .so 9 .str), (9, .so 192 (.st 14)), (10, .int), (11, .int)] [] (f149_j1 (f149_L0 n0)) .e .e))) .e)) (by unfold Fact; intro fx; kernel_rfl)
-- doorstep/octet.IsVisible
theorem c_f244 : COk Tryz.prog G 244 Kf244 := con_ok hmix hNm tyk CLs.nil 9 Tryz.func244 (by kernel_rfl) (hn := .e) (by unfold Fact; intro fx; kernel_rfl)
-- doorstep/octet.IsBlank
theorem c_f245 : COk Tryz.prog G 245 Kf245 := con_ok hmix hNm tyk CLs.nil 9 Tryz.func245 (by kernel_rfl) (hn := .e) (by unfold Fact; intro fx; kernel_rfl)
-- doorstep/octet.IsValue
theorem c_f185 : COk Tryz.prog G 185 Kf185 := con_ok hmix hNm tyk ((CLs.nil.add c_f245).add c_f244) 13 Tryz.func185 (by kernel_rfl) (hn := .e) (by unfold Fact; intro fx; kernel_rfl)
-- (*doorstep/quoted.reader).next
theorem c_f372a : COk Tryz.prog G 372 Kf372a := con_ok hmix hNm tyk (((CLs.nil.add c_f185).add c_f161).add c_f113a) 41 Tryz.func372 (by kernel_rfl) (hn := .e) (by unfold Fact; intro fx; kernel_rfl)
-- (*doorstep/scan.Scanner).Back
theorem c_f373a : COk Tryz.prog G 373 Kf373a := con_ok hmix hNm tyk (CLs.nil.add c_f225) 19 Tryz.func373 (by kernel_rfl) (hn := .e) (by unfold Fact; intro fx; kernel_rfl)
-- (*doorstep/commas.splitter).end
theorem c_f303a : COk Tryz.prog G 303 Kf303a := con_ok hmix hNm tyk ((CLs.nil.add c_f225).add c_lTrim) 36 Tryz.func303 (by kernel_rfl) (hn := .j [(9000, .po 26)] [(0, 9000)] f303a_j0 .e .e) (by unfold Fact; intro fx; kernel_rfl)
-- doorstep/octet.Token
theorem c_f125 : COk Tryz.prog G 125 Kf125 := con_ok hmix hNm tyk (CLs.nil.add c_f176) 10 Tryz.func125 (by kernel_rfl) (hn := .e) (by unfold Fact; intro fx; kernel_rfl)
-- slices.Index[[]string,string]
theorem c_f253 : COk Tryz.prog G 253 Kf253 := con_ok hmix hNm tyk CLs.nil 19 Tryz.func253 (by kernel_rfl) (hn := .n 1 (.q (.n 1 (.w [(0, .sl .str), (1, .str), (7, .int), (8, .int)] [] f253_L0 fun n0 => .e)) .e)) (by unfold Fact; intro fx; kernel_rfl)
-- slices.Contains[[]string,string]
theorem c_f188 : COk Tryz.prog G 188 Kf188 := con_ok hmix hNm tyk (CLs.nil.add c_f253) 9 Tryz.func188 (by kernel_rfl) (hn := .e) (by unfold Fact; intro fx; kernel_rfl)
-- doorstep/hop.names
theorem c_f252 : COk Tryz.prog G 252 Kf252 := con_ok hmix hNm tyk CLs.nil 2 Tryz.func252 (by kernel_rfl) (hn := .e) (by unfold Fact; intro fx; kernel_rfl)
-- doorstep/pathq.of
theorem c_f323 : COk Tryz.prog G 323 Kf323 := con_ok hmix hNm tyk (((CLs.nil.add c_f176).add c_lIndexByte).add c_f293) 49 Tryz.func323 (by kernel_rfl) (hn := .n 1 (.q (.n 1 (.w [(0, .str), (1, .str), (5, .int)] [] f323_L0 fun n0 => .n 1 (.q (.n 1 (.q .e (.j [(0, .str), (1, .str), (5, .int), (25, .bool)] [] (f323_j1 (f323_L0 n0)) .e .e))) .e))) .e)) (by unfold Fact; intro fx; kernel_rfl)
-- doorstep/pathq.Path
theorem c_f276 : COk Tryz.prog G 276 Kf276 := con_ok hmix hNm tyk ((CLs.nil.add c_f323).add c_f240) 9 Tryz.func276 (by kernel_rfl) (hn := .e) (by unfold Fact; intro fx; kernel_rfl)
-- doorstep/pathq.Query
theorem c_f277 : COk Tryz.prog G 277 Kf277 := con_ok hmix hNm tyk (CLs.nil.add c_f323) 5 Tryz.func277 (by kernel_rfl) (hn := .e) (by unfold Fact; intro fx; kernel_rfl)
-- doorstep/pathq.Cut
theorem c_f210 : COk Tryz.prog G 210 Kf210 := con_ok hmix hNm tyk (((CLs.nil.add c_f277).add c_f276).add c_lCut) 23 Tryz.func210 (by kernel_rfl) (hn := .e) (by unfold Fact; intro fx; kernel_rfl)
-- doorstep/target.tail
theorem c_f308 : COk Tryz.prog G 308 Kf308 := con_ok hmix hNm tyk (CLs.nil.add c_f210) 32 Tryz.func308 (by kernel_rfl) (hn := .n 4 (.j [(1, .str), (2, .po 28), (4, .po 28), (7, .bool)] [] f308_j1 .e (.n 1 (.j [(2, .po 28), (4, .po 28), (6, .int)] [] f308_j0 .e .e)))) (by unfold Fact; intro fx; kernel_rfl)
-- doorstep/target.absolute
theorem c_f307 : COk Tryz.prog G 307 Kf307 := con_ok hmix hNm tyk (((((CLs.nil.add c_f308).add c_f50).add c_lIndexAny).add c_lFold).add c_lCut) 58 Tryz.func307 (by kernel_rfl) (hn := .n 3 (.q (.j [(2, .po 28), (5, .str), (7, .po 28), (31, .bool)] [] f307_j1 .e .e) (.n 1 (.j [(2, .po 28), (5, .str), (7, .po 28), (8, .int)] [] f307_j0 .e .e)))) (by unfold Fact; intro fx; kernel_rfl)
-- doorstep/target.of
theorem c_f266 : COk Tryz.prog G 266 Kf266 := con_ok hmix hNm tyk (((CLs.nil.add c_f308).add c_f307).add c_f240) 28 Tryz.func266 (by kernel_rfl) (hn := .e) (by unfold Fact; intro fx; kernel_rfl)
-- doorstep/target.Parse
theorem c_f201 : COk Tryz.prog G 201 Kf201 := con_ok hmix hNm tyk ((CLs.nil.add c_f266).add c_f50) 37 Tryz.func201 (by kernel_rfl) (hn := .e) (by unfold Fact; intro fx; kernel_rfl)
-- doorstep/pathq.Join
theorem c_f267 : COk Tryz.prog G 267 Kf267 := con_ok hmix hNm tyk CLs.nil 14 Tryz.func267 (by kernel_rfl) (hn := .e) (by unfold Fact; intro fx; kernel_rfl)
-- doorstep/target.Origin
theorem c_f202 : COk Tryz.prog G 202 Kf202 := con_ok hmix hNm tyk (CLs.nil.add c_f267) 20 Tryz.func202 (by kernel_rfl) (hn := .n 3 (.j [(1, .po 28), (3, .str)] [] f202_j0 .e .e)) (by unfold Fact; intro fx; kernel_rfl)
-- doorstep/hostport.Text
theorem c_f268 : COk Tryz.prog G 268 Kf268 := con_ok hmix hNm tyk (((CLs.nil.add c_f50).add c_f78).add c_f120) 41 Tryz.func268 (by kernel_rfl) (hn := .n 2 (.j [(1, .po 8), (4, .so 9 .str)] [] f268_j1 .e (.j [(1, .po 8), (4, .so 9 .str)] [] f268_j0 .e .e))) (by unfold Fact; intro fx; kernel_rfl)
-- (*doorstep/bag.Bag).Get
theorem c_f270 : COk Tryz.prog G 270 Kf270 := con_ok hmix hNm tyk (CLs.nil.add c_f149) 16 Tryz.func270 (by kernel_rfl) (hn := .e) (by unfold Fact; intro fx; kernel_rfl)
-- internal/stringslite.CutPrefix
theorem c_f226 : COk Tryz.prog G 226 Kf226 := con_ok hmix hNm tyk (CLs.nil.add c_f286) 15 Tryz.func226 (by kernel_rfl) (hn := .e) (by unfold Fact; intro fx; kernel_rfl)
-- strings.CutPrefix
theorem c_f165 : COk Tryz.prog G 165 Kf165 := con_ok hmix hNm tyk (CLs.nil.add c_f226) 11 Tryz.func165 (by kernel_rfl) (hn := .e) (by unfold Fact; intro fx; kernel_rfl)
-- internal/stringslite.HasSuffix
theorem c_f287 : COk Tryz.prog G 287 Kf287 := con_ok hmix hNm tyk CLs.nil 21 Tryz.func287 (by kernel_rfl) (hn := .e) (by unfold Fact; intro fx; kernel_rfl)
-- strings.HasSuffix
theorem c_f351 : COk Tryz.prog G 351 Kf351 := con_ok hmix hNm tyk (CLs.nil.add c_f287) 8 Tryz.func351 (by kernel_rfl) (hn := .e) (by unfold Fact; intro fx; kernel_rfl)
-- doorstep/uriref.Swap
theorem c_f312 : COk Tryz.prog G 312 Kf312 := con_ok hmix hNm tyk (((CLs.nil.add c_lIndexByte).add c_f351).add c_f165) 49 Tryz.func312 (by kernel_rfl) (hn := .n 1 (.q (.n 1 (.w [(0, .str), (10, .sl (.st 1)), (11, .int), (12, .int)] [] f312_L0 fun n0 => .n 2 (.j [(0, .str), (10, .sl (.st 1)), (11, .int), (12, .int)] [] (f312_j2 (f312_L0 n0)) (.n 2 (.q (.j [(0, .str), (7, .po 1), (8, .str), (10, .sl (.st 1)), (11, .int), (12, .int), (29, .bool)] [] (f312_j1 (f312_L0 n0)) .e .e) .e)) .e))) .e)) (by unfold Fact; intro fx; kernel_rfl)
-- doorstep/location.Rewrite
theorem c_f272 : COk Tryz.prog G 272 Kf272 := con_ok hmix hNm tyk ((CLs.nil.add c_f86).add c_f312) 27 Tryz.func272 (by kernel_rfl) (hn := .e) (by unfold Fact; intro fx; kernel_rfl)
-- doorstep/cookie.part$1
theorem c_f376 : COk Tryz.prog G 376 Kf376 := con_ok hmix hNm tyk CLs.nil 3 Tryz.func376 (by kernel_rfl) (hn := .e) (by unfold Fact; intro fx; kernel_rfl)
-- (*doorstep/scan.Scanner).While
theorem c_f162a : COk Tryz.prog G 162 Kf162a := con_ok hmix hNm tyk ((CLs.nil.add c_f161).add c_f225) 42 Tryz.func162 (by kernel_rfl) (hn := .n 2 (.q (.w [(9000, .po 6), (1, .fn), (5, .int)] [(0, 9000)] f162a_L0 fun n0 => .e) .e)) (by unfold Fact; intro fx; kernel_rfl)
-- internal/stringslite.CutSuffix
theorem c_f227 : COk Tryz.prog G 227 Kf227 := con_ok hmix hNm tyk (CLs.nil.add c_f287) 18 Tryz.func227 (by kernel_rfl) (hn := .e) (by unfold Fact; intro fx; kernel_rfl)
-- strings.CutSuffix
theorem c_f167 : COk Tryz.prog G 167 Kf167 := con_ok hmix hNm tyk (CLs.nil.add c_f227) 11 Tryz.func167 (by kernel_rfl) (hn := .e) (by unfold Fact; intro fx; kernel_rfl)
-- doorstep/cookie.plain
theorem c_f377 : COk Tryz.prog G 377 Kf377 := con_ok hmix hNm tyk ((CLs.nil.add c_lIndexByte).add c_f244) 10 Tryz.func377 (by kernel_rfl) (hn := .e) (by unfold Fact; intro fx; kernel_rfl)
-- doorstep/cookie.value
theorem c_f353 : COk Tryz.prog G 353 Kf353 := con_ok hmix hNm tyk (((CLs.nil.add c_f176).add c_f167).add c_f165) 24 Tryz.func353 (by kernel_rfl) (hn := .e) (by unfold Fact; intro fx; kernel_rfl)
-- doorstep/cookie.last
theorem c_f354 : COk Tryz.prog G 354 Kf354 := con_ok hmix hNm tyk (CLs.nil.add c_f219) 23 Tryz.func354 (by kernel_rfl) (hn := .n 1 (.q (.n 1 (.w [(1, .str), (2, .po 31), (5, .int)] [] f354_L0 fun n0 => .e)) .e)) (by unfold Fact; intro fx; kernel_rfl)
-- doorstep/cookie.Get
theorem c_f314 : COk Tryz.prog G 314 Kf314 := con_ok hmix hNm tyk (CLs.nil.add c_f354) 18 Tryz.func314 (by kernel_rfl) (hn := .e) (by unfold Fact; intro fx; kernel_rfl)
-- internal/stringslite.TrimPrefix
theorem c_f378 : COk Tryz.prog G 378 Kf378 := con_ok hmix hNm tyk (CLs.nil.add c_f286) 13 Tryz.func378 (by kernel_rfl) (hn := .e) (by unfold Fact; intro fx; kernel_rfl)
-- strings.TrimPrefix
theorem c_f355 : COk Tryz.prog G 355 Kf355 := con_ok hmix hNm tyk (CLs.nil.add c_f378) 8 Tryz.func355 (by kernel_rfl) (hn := .e) (by unfold Fact; intro fx; kernel_rfl)
-- doorstep/hostport.Under
theorem c_f356 : COk Tryz.prog G 356 Kf356 := con_ok hmix hNm tyk ((((CLs.nil.add c_f351).add c_lFold).add c_lFour).add c_f118) 36 Tryz.func356 (by kernel_rfl) (hn := .e) (by unfold Fact; intro fx; kernel_rfl)
-- doorstep/domains.Map
theorem c_f315 : COk Tryz.prog G 315 Kf315 := con_ok hmix hNm tyk ((CLs.nil.add c_f356).add c_f355) 34 Tryz.func315 (by kernel_rfl) (hn := .n 2 (.q (.n 1 (.w [(0, .str), (6, .str), (11, .sl (.st 1)), (12, .int), (13, .int)] [] f315_L0 fun n0 => .e)) .e)) (by unfold Fact; intro fx; kernel_rfl)
-- doorstep/cookie.Set
theorem c_f317 : COk Tryz.prog G 317 Kf317 := con_ok hmix hNm tyk ((CLs.nil.add c_f219).add c_f354) 55 Tryz.func317 (by kernel_rfl) (hn := .n 3 (.q (.n 1 (.w [(1, .str), (2, .str), (6, .po 32), (7, .int), (8, .po 32), (20, .sl (.st 30)), (21, .int), (22, .int)] [] f317_L0 fun n0 => .n 2 (.j [(1, .str), (2, .str), (6, .po 32), (7, .int), (8, .po 32), (20, .sl (.st 30)), (21, .int), (22, .int)] [] (f317_j1 (f317_L0 n0)) (.n 1 (.j [(1, .str), (2, .str), (6, .po 32), (7, .int), (8, .po 32), (10, .po 30), (20, .sl (.st 30)), (21, .int), (22, .int)] [] (f317_j2 (f317_L0 n0)) .e .e)) .e))) (.j [(6, .po 32), (8, .po 32)] [] f317_j3 .e .e))) (by unfold Fact; intro fx; kernel_rfl)
-- slices.Equal[[]doorstep/api.Attr,doorstep/api.Attr]
theorem c_f379 : COk Tryz.prog G 379 Kf379 := con_ok hmix hNm tyk CLs.nil 26 Tryz.func379 (by kernel_rfl) (hn := .n 2 (.q (.n 1 (.w [(0, .sl (.st 30)), (1, .sl (.st 30)), (12, .int), (13, .int)] [] f379_L0 fun n0 => .e)) .e)) (by unfold Fact; intro fx; kernel_rfl)
-- doorstep/cookie.Same
theorem c_f357 : COk Tryz.prog G 357 Kf357 := con_ok hmix hNm tyk (CLs.nil.add c_f379) 24 Tryz.func357 (by kernel_rfl) (hn := .e) (by unfold Fact; intro fx; kernel_rfl)
-- doorstep/stage.Known$1
theorem c_f209 : COk Tryz.prog G 209 Kf209 := con_ok hmix hNm tyk CLs.nil 8 Tryz.func209 (by kernel_rfl) (hn := .e) (by unfold Fact; intro fx; kernel_rfl)
-- doorstep/stage.Known
theorem c_f135 : COk Tryz.prog G 135 Kf135 := con_ok hmix hNm tyk (((CLs.nil.add c_f120).add c_f210).add c_f209) 59 Tryz.func135 (by kernel_rfl) (hn := .e) (by unfold Fact; intro fx; kernel_rfl)
-- doorstep/rule.Writes
theorem c_f358 : COk Tryz.prog G 358 Kf358 := con_ok hmix hNm tyk (CLs.nil.add c_lFold) 18 Tryz.func358 (by kernel_rfl) (hn := .e) (by unfold Fact; intro fx; kernel_rfl)
-- doorstep/compile.run
theorem c_f318 : COk Tryz.prog G 318 Kf318 := con_ok hmix hNm tyk (((CLs.nil.add c_f188).add c_lFold).add c_f358) 38 Tryz.func318 (by kernel_rfl) (hn := .n 3 (.q (.w [(0, .sl (.st 3)), (3, .po 36), (4, .int)] [] f318_L0 fun n0 => .q (.j [(0, .sl (.st 3)), (3, .po 36), (4, .int), (34, .bool)] [] (f318_j1 (f318_L0 n0)) .e .e) .e) .e)) (by unfold Fact; intro fx; kernel_rfl)
-- doorstep/compile.guard
theorem c_f319 : COk Tryz.prog G 319 Kf319 := con_ok hmix hNm tyk CLs.nil 25 Tryz.func319 (by kernel_rfl) (hn := .e) (by unfold Fact; intro fx; kernel_rfl)
-- doorstep/compile.Own
theorem c_f359 : COk Tryz.prog G 359 Kf359 := con_ok hmix hNm tyk (CLs.nil.add c_lClone29) 34 Tryz.func359 (by kernel_rfl) (hn := .e) (by unfold Fact; intro fx; kernel_rfl)
-- (*doorstep/compile.compiler).put
theorem c_f320a : COk Tryz.prog G 320 Kf320a := con_ok hmix hNm tyk (CLs.nil.add c_f359) 24 Tryz.func320 (by kernel_rfl) (hn := .n 1 (.w [(9000, .po 35), (6, .sl (.st 3)), (7, .int), (8, .int)] [(0, 9000)] f320a_L0 fun n0 => .e)) (by unfold Fact; intro fx; kernel_rfl)
-- (*doorstep/compile.compiler).all
theorem c_f274b : COk Tryz.prog G 274 Kf274b := con_ok hmix hNm tyk (((CLs.nil.add c_f320a).add c_f319).add c_f318) 38 Tryz.func274 (by kernel_rfl) (hn := .w [(9000, .po 35), (1, .sl (.st 3))] [(0, 9000)] f274b_L0 fun n0 => .n 2 (.j [(9000, .po 35), (1, .sl (.st 3)), (4, .int)] [(0, 9000)] (f274b_j1 (f274b_L0 n0)) .e .e)) (by unfold Fact; intro fx; kernel_rfl)
-- (*doorstep/machine.machine).skips
theorem c_f321 : COk Tryz.prog G 321 Kf321 := con_ok hmix hNm tyk (CLs.nil.add c_f270) 36 Tryz.func321 (by kernel_rfl) (hn := .e) (by unfold Fact; intro fx; kernel_rfl)
-- doorstep/tmpl.find
theorem c_f384 : COk Tryz.prog G 384 Kf384 := con_ok hmix hNm tyk CLs.nil 20 Tryz.func384 (by kernel_rfl) (hn := .n 1 (.q (.n 1 (.w [(1, .str), (7, .sl (.st 33)), (8, .int), (9, .int)] [] f384_L0 fun n0 => .e)) .e)) (by unfold Fact; intro fx; kernel_rfl)
-- doorstep/tmpl.clean
theorem c_f385 : COk Tryz.prog G 385 Kf385 := con_ok hmix hNm tyk ((CLs.nil.add c_lTrim).add c_f185) 29 Tryz.func385 (by kernel_rfl) (hn := .n 2 (.q (.n 1 (.w [(0, .str), (3, .so 5 .u8), (4, .int)] [] f385_L0 fun n0 => .q (.j [(0, .str), (3, .so 5 .u8), (4, .int), (13, .bool)] [] (f385_j2 (f385_L0 n0)) .e .e) (.j [(0, .str), (3, .so 5 .u8), (4, .int)] [] (f385_j1 (f385_L0 n0)) .e .e))) .e)) (by unfold Fact; intro fx; kernel_rfl)
-- doorstep/tmpl.Eval
theorem c_f380 : COk Tryz.prog G 380 Kf380 := con_ok hmix hNm tyk (((((CLs.nil.add c_f385).add c_f78).add c_f270).add c_f384).add c_f148) 56 Tryz.func380 (by kernel_rfl) (hn := .n 3 (.q (.n 1 (.w [(0, .sl (.st 33)), (7, .po 24), (8, .so 9 .str), (15, .sl (.st 4)), (16, .int), (17, .int)] [] f380_L0 fun n0 => .n 2 (.j [(0, .sl (.st 33)), (7, .po 24), (8, .so 9 .str), (15, .sl (.st 4)), (16, .int), (17, .int)] [] (f380_j1 (f380_L0 n0)) .e .e))) .e)) (by unfold Fact; intro fx; kernel_rfl)
-- (*doorstep/machine.machine).value
theorem c_f360 : COk Tryz.prog G 360 Kf360 := con_ok hmix hNm tyk ((CLs.nil.add c_f380).add c_f205) 16 Tryz.func360 (by kernel_rfl) (hn := .e) (by unfold Fact; intro fx; kernel_rfl)
-- doorstep/commas.Join
theorem c_f362 : COk Tryz.prog G 362 Kf362 := con_ok hmix hNm tyk (CLs.nil.add c_f78) 5 Tryz.func362 (by kernel_rfl) (hn := .e) (by unfold Fact; intro fx; kernel_rfl)
-- doorstep/commas.Append
theorem c_f324 : COk Tryz.prog G 324 Kf324 := con_ok hmix hNm tyk (((CLs.nil.add c_lTrimRight).add c_f362).add c_lTrim) 22 Tryz.func324 (by kernel_rfl) (hn := .e) (by unfold Fact; intro fx; kernel_rfl)
-- (*doorstep/bag.Bag).Add
theorem c_f271b : COk Tryz.prog G 271 Kf271b := con_ok hmix hNm tyk CLs.nil 15 Tryz.func271 (by kernel_rfl) (hn := .e) (by unfold Fact; intro fx; kernel_rfl)
-- (*doorstep/bag.Bag).Behind
theorem c_f278a : COk Tryz.prog G 278 Kf278a := con_ok hmix hNm tyk (((CLs.nil.add c_f271b).add c_f324).add c_f219) 53 Tryz.func278 (by kernel_rfl) (hn := .n 1 (.q (.n 1 (.w [(9000, .po 24), (1, .str), (2, .str), (6, .int)] [(0, 9000)] f278a_L0 fun n0 => .e)) .e)) (by unfold Fact; intro fx; kernel_rfl)
-- doorstep/forwarded.Node
theorem c_f326 : COk Tryz.prog G 326 Kf326 := con_ok hmix hNm tyk ((CLs.nil.add c_f116).add c_lFour) 13 Tryz.func326 (by kernel_rfl) (hn := .e) (by unfold Fact; intro fx; kernel_rfl)
-- doorstep/forwarded.Make
theorem c_f280 : COk Tryz.prog G 280 Kf280 := con_ok hmix hNm tyk (CLs.nil.add c_f326) 28 Tryz.func280 (by kernel_rfl) (hn := .n 2 (.j [(1, .po 0), (3, .so 284 (.st 33))] [] f280_j1 .e (.j [(3, .so 284 (.st 33))] [] f280_j0 .e .e))) (by unfold Fact; intro fx; kernel_rfl)
-- doorstep/quoted.Quote
theorem c_f364 : COk Tryz.prog G 364 Kf364 := con_ok hmix hNm tyk (CLs.nil.add c_f176) 40 Tryz.func364 (by kernel_rfl) (hn := .n 3 (.q (.n 1 (.w [(0, .str), (4, .so 5 .u8), (12, .int), (13, .int)] [] f364_L0 fun n0 => .n 2 (.q (.n 1 (.j [(0, .str), (4, .so 5 .u8), (5, .int), (12, .int), (13, .int)] [] (f364_j2 (f364_L0 n0)) (.j [(0, .str), (4, .so 5 .u8), (5, .int), (12, .int), (13, .int), (25, .bool)] [] (f364_j1 (f364_L0 n0)) .e .e) .e)) .e))) .e)) (by unfold Fact; intro fx; kernel_rfl)
-- doorstep/quoted.Either
theorem c_f325 : COk Tryz.prog G 325 Kf325 := con_ok hmix hNm tyk ((CLs.nil.add c_f364).add c_f125) 11 Tryz.func325 (by kernel_rfl) (hn := .e) (by unfold Fact; intro fx; kernel_rfl)
-- doorstep/params.Text
theorem c_f279 : COk Tryz.prog G 279 Kf279 := con_ok hmix hNm tyk (((CLs.nil.add c_f78).add c_f125).add c_f325) 43 Tryz.func279 (by kernel_rfl) (hn := .n 2 (.q (.n 1 (.w [(4, .so 9 .str), (9, .sl (.st 33)), (10, .int), (11, .int)] [] f279_L0 fun n0 => .e)) .e)) (by unfold Fact; intro fx; kernel_rfl)
-- doorstep/forwarded.Append
theorem c_f212 : COk Tryz.prog G 212 Kf212 := con_ok hmix hNm tyk (((((CLs.nil.add c_f205).add c_f278a).add c_f148).add c_f279).add c_f280) 25 Tryz.func212 (by kernel_rfl) (hn := .e) (by unfold Fact; intro fx; kernel_rfl)
-- doorstep/xff.bare
theorem c_f281 : COk Tryz.prog G 281 Kf281 := con_ok hmix hNm tyk ((CLs.nil.add c_f116).add c_lFour) 9 Tryz.func281 (by kernel_rfl) (hn := .e) (by unfold Fact; intro fx; kernel_rfl)
-- doorstep/xff.Append
theorem c_f213 : COk Tryz.prog G 213 Kf213 := con_ok hmix hNm tyk ((((CLs.nil.add c_f205).add c_f278a).add c_f148).add c_f281) 16 Tryz.func213 (by kernel_rfl) (hn := .n 1 (.j [(0, .str), (1, .sl (.st 14))] [] f213_j0 .e .e)) (by unfold Fact; intro fx; kernel_rfl)
-- doorstep/length.Fields
theorem c_f137 : COk Tryz.prog G 137 Kf137 := con_ok hmix hNm tyk (CLs.nil.add c_f120) 16 Tryz.func137 (by kernel_rfl) (hn := .e) (by unfold Fact; intro fx; kernel_rfl)
-- (*doorstep/scan.Scanner).Text
theorem c_f337a : COk Tryz.prog G 337 Kf337a := con_ok hmix hNm tyk ((CLs.nil.add c_f240).add c_f166) 21 Tryz.func337 (by kernel_rfl) (hn := .e) (by unfold Fact; intro fx; kernel_rfl)
-- doorstep/startline.request$1
theorem c_f258 : COk Tryz.prog G 258 Kf258 := con_ok hmix hNm tyk CLs.nil 5 Tryz.func258 (by kernel_rfl) (hn := .e) (by unfold Fact; intro fx; kernel_rfl)
-- doorstep/fieldline.Check
theorem c_f126 : COk Tryz.prog G 126 Kf126 := con_ok hmix hNm tyk (((CLs.nil.add c_lTrim).add c_f176).add c_f125) 22 Tryz.func126 (by kernel_rfl) (hn := .e) (by unfold Fact; intro fx; kernel_rfl)
-- doorstep/head.hosts
theorem c_f262 : COk Tryz.prog G 262 Kf262 := con_ok hmix hNm tyk (((CLs.nil.add c_f50).add c_f149).add c_f148) 43 Tryz.func262 (by kernel_rfl) (hn := .n 4 (.q (.n 1 (.w [(25, .so 9 .str), (26, .int), (27, .int)] [] f262_L0 fun n0 => .n 2 (.q (.n 2 (.j [(25, .so 9 .str), (26, .int), (27, .int), (41, .bool)] [] (f262_j1 (f262_L0 n0)) .e .e)) .e))) .e)) (by unfold Fact; intro fx; kernel_rfl)
-- doorstep/head.whole
theorem c_f197 : COk Tryz.prog G 197 Kf197 := con_ok hmix hNm tyk (CLs.nil.add c_f262) 12 Tryz.func197 (by kernel_rfl) (hn := .e) (by unfold Fact; intro fx; kernel_rfl)
-- doorstep/quill.New
theorem c_f139 : COk Tryz.prog G 139 Kf139 := con_ok hmix hNm tyk CLs.nil 7 Tryz.func139 (by kernel_rfl) (hn := .e) (by unfold Fact; intro fx; kernel_rfl)
-- (*doorstep/quill.Quill).Left
theorem c_f327 : COk Tryz.prog G 327 Kf327 := con_ok hmix hNm tyk CLs.nil 15 Tryz.func327 (by kernel_rfl) (hn := .e) (by unfold Fact; intro fx; kernel_rfl)
-- doorstep/fieldline.Text
theorem c_f142 : COk Tryz.prog G 142 Kf142 := con_ok hmix hNm tyk (CLs.nil.add c_f126) 22 Tryz.func142 (by kernel_rfl) (hn := .e) (by unfold Fact; intro fx; kernel_rfl)
-- (*doorstep/quill.Quill).Text
theorem c_f143 : COk Tryz.prog G 143 Kf143 := con_ok hmix hNm tyk CLs.nil 10 Tryz.func143 (by kernel_rfl) (hn := .e) (by unfold Fact; intro fx; kernel_rfl)
-- doorstep/dechunk.New
theorem c_f96 : COk Tryz.prog G 96 Kf96 := con_ok hmix hNm tyk CLs.nil 13 Tryz.func96 (by kernel_rfl) (hn := .e) (by unfold Fact; intro fx; kernel_rfl)
-- doorstep/body.New
theorem c_f61 : COk Tryz.prog G 61 Kf61 := con_ok hmix hNm tyk (CLs.nil.add c_f96) 65 Tryz.func61 (by kernel_rfl) (hn := .n 1 (.j [(2, .po 23), (6, .pn 16), (7, .int)] [] f61_j2 .e (.n 2 (.j [(2, .po 23), (8, .po 15)] [] f61_j1 .e (.j [(8, .po 15)] [] f61_j0 .e .e))))) (by unfold Fact; intro fx; kernel_rfl)
-- (*doorstep/accum.Accum).Head
theorem c_f59a : COk Tryz.prog G 59 Kf59a := con_ok hmix hNm tyk CLs.nil 25 Tryz.func59 (by kernel_rfl) (hn := .e) (by unfold Fact; intro fx; kernel_rfl)
-- (*doorstep/body.Body).Feed
theorem c_f36 : COk Tryz.prog G 36 Kf36 := con_ok hmix hNm tyk CLs.nil 87 Tryz.func36 (by kernel_rfl) (hn := .e) (by unfold Fact; intro fx; kernel_rfl)
-- (*doorstep/reframe.Writer).ready
theorem c_f65 : COk Tryz.prog G 65 Kf65 := con_ok hmix hNm tyk CLs.nil 11 Tryz.func65 (by kernel_rfl) (hn := .e) (by unfold Fact; intro fx; kernel_rfl)
-- (*doorstep/body.Body).Trailers
theorem c_f44 : COk Tryz.prog G 44 Kf44 := con_ok hmix hNm tyk CLs.nil 10 Tryz.func44 (by kernel_rfl) (hn := .e) (by unfold Fact; intro fx; kernel_rfl)
-- (*doorstep/pairing.Queue).Push
theorem c_f68 : COk Tryz.prog G 68 Kf68 := con_ok hmix hNm tyk CLs.nil 44 Tryz.func68 (by kernel_rfl) (hn := .e) (by unfold Fact; intro fx; kernel_rfl)
-- (*doorstep/dechunk.Decoder).Trailers
theorem c_f74 : COk Tryz.prog G 74 Kf74 := con_ok hmix hNm tyk CLs.nil 11 Tryz.func74 (by kernel_rfl) (hn := .e) (by unfold Fact; intro fx; kernel_rfl)
-- (*doorstep/dechunk.Decoder).Trailers
theorem c_f74a : COk Tryz.prog G 74 Kf74a := con_ok hmix hNm tyk CLs.nil 11 Tryz.func74 (by kernel_rfl) (hn := .e) (by unfold Fact; intro fx; kernel_rfl)
-- (*doorstep/body.Body).Trailers
theorem c_f44a : COk Tryz.prog G 44 Kf44a := con_ok hmix hNm tyk ((CLs.nil.add c_f74a).add c_f74) 10 Tryz.func44 (by kernel_rfl) (hn := .e) (by unfold Fact; intro fx; kernel_rfl)
-- (*doorstep/reframe.Writer).ready
theorem c_f65a : COk Tryz.prog G 65 Kf65a := con_ok hmix hNm tyk CLs.nil 11 Tryz.func65 (by kernel_rfl) (hn := .e) (by unfold Fact; intro fx; kernel_rfl)
-- (*doorstep/enchunk.Encoder).ready
theorem c_f98 : COk Tryz.prog G 98 Kf98 := con_ok hmix hNm tyk CLs.nil 11 Tryz.func98 (by kernel_rfl) (hn := .e) (by unfold Fact; intro fx; kernel_rfl)
-- doorstep/chunkline.Last
theorem c_f109 : COk Tryz.prog G 109 Kf109 := con_ok hmix hNm tyk ((CLs.nil.add c_f78).add c_f142) 36 Tryz.func109 (by kernel_rfl) (hn := .n 2 (.q (.n 1 (.w [(0, .sl (.st 14)), (4, .so 9 .str), (10, .sl (.st 14)), (11, .int), (12, .int)] [] f109_L0 fun n0 => .e)) .e)) (by unfold Fact; intro fx; kernel_rfl)
-- (*doorstep/enchunk.Encoder).ready
theorem c_f98a : COk Tryz.prog G 98 Kf98a := con_ok hmix hNm tyk CLs.nil 11 Tryz.func98 (by kernel_rfl) (hn := .e) (by unfold Fact; intro fx; kernel_rfl)
-- doorstep/numeral.HexText
theorem c_f217 : COk Tryz.prog G 217 Kf217 := con_ok hmix hNm tyk (CLs.nil.add c_f175) 5 Tryz.func217 (by kernel_rfl) (hn := .e) (by unfold Fact; intro fx; kernel_rfl)
-- doorstep/chunkline.Text
theorem c_f147 : COk Tryz.prog G 147 Kf147 := con_ok hmix hNm tyk (CLs.nil.add c_f217) 5 Tryz.func147 (by kernel_rfl) (hn := .e) (by unfold Fact; intro fx; kernel_rfl)
-- doorstep/chunkline.Piece
theorem c_f99 : COk Tryz.prog G 99 Kf99 := con_ok hmix hNm tyk ((CLs.nil.add c_f78).add c_f147) 11 Tryz.func99 (by kernel_rfl) (hn := .e) (by unfold Fact; intro fx; kernel_rfl)
-- (*doorstep/dechunk.Decoder).Feed
theorem c_f64 : COk Tryz.prog G 64 Kf64 := con_ok hmix hNm tyk CLs.nil 63 Tryz.func64 (by kernel_rfl) (hn := .e) (by unfold Fact; intro fx; kernel_rfl)
-- (*doorstep/pairing.Queue).Len
theorem c_f18 : COk Tryz.prog G 18 Kf18 := con_ok hmix hNm tyk CLs.nil 11 Tryz.func18 (by kernel_rfl) (hn := .e) (by unfold Fact; intro fx; kernel_rfl)
-- (*doorstep/pairing.Queue).Len
theorem c_f18a : COk Tryz.prog G 18 Kf18a := con_ok hmix hNm tyk CLs.nil 11 Tryz.func18 (by kernel_rfl) (hn := .e) (by unfold Fact; intro fx; kernel_rfl)
-- (*doorstep/gateway.Gateway).ToUpstream
theorem c_f13a : COk Tryz.prog G 13 Kf13a := con_ok hmix hNm tyk CLs.nil 15 Tryz.func13 (by kernel_rfl) (hn := .e) (by unfold Fact; intro fx; kernel_rfl)
-- (*doorstep/pairing.Queue).Front
theorem c_f70 : COk Tryz.prog G 70 Kf70 := con_ok hmix hNm tyk CLs.nil 13 Tryz.func70 (by kernel_rfl) (hn := .e) (by unfold Fact; intro fx; kernel_rfl)
-- doorstep/length.bodiless
theorem c_f156 : COk Tryz.prog G 156 Kf156 := con_ok hmix hNm tyk CLs.nil 27 Tryz.func156 (by kernel_rfl) (hn := .e) (by unfold Fact; intro fx; kernel_rfl)
-- doorstep/reframe.Out
theorem c_f107 : COk Tryz.prog G 107 Kf107 := con_ok hmix hNm tyk CLs.nil 20 Tryz.func107 (by kernel_rfl) (hn := .e) (by unfold Fact; intro fx; kernel_rfl)
-- (*doorstep/pairing.row[doorstep/pairing.Ticket]).first
theorem c_f105 : COk Tryz.prog G 105 Kf105 := con_ok hmix hNm tyk CLs.nil 18 Tryz.func105 (by kernel_rfl) (hn := .e) (by unfold Fact; intro fx; kernel_rfl)
-- (*doorstep/pairing.Queue).Front
theorem c_f70a : COk Tryz.prog G 70 Kf70a := con_ok hmix hNm tyk (CLs.nil.add c_f105) 13 Tryz.func70 (by kernel_rfl) (hn := .e) (by unfold Fact; intro fx; kernel_rfl)
-- (*doorstep/pairing.Queue).Pop
theorem c_f45 : COk Tryz.prog G 45 Kf45 := con_ok hmix hNm tyk CLs.nil 11 Tryz.func45 (by kernel_rfl) (hn := .e) (by unfold Fact; intro fx; kernel_rfl)
-- (*doorstep/gateway.Gateway).ToClient
theorem c_f12a : COk Tryz.prog G 12 Kf12a := con_ok hmix hNm tyk CLs.nil 15 Tryz.func12 (by kernel_rfl) (hn := .e) (by unfold Fact; intro fx; kernel_rfl)
-- (*doorstep/gateway.Gateway).Waiting
theorem c_f10 : COk Tryz.prog G 10 Kf10 := con_ok hmix hNm tyk ((CLs.nil.add c_f18a).add c_f18) 10 Tryz.func10 (by kernel_rfl) (hn := .e) (by unfold Fact; intro fx; kernel_rfl)
-- (*doorstep/gateway.Gateway).Closed
theorem c_f9 : COk Tryz.prog G 9 Kf9 := con_ok hmix hNm tyk CLs.nil 11 Tryz.func9 (by kernel_rfl) (hn := .e) (by unfold Fact; intro fx; kernel_rfl)
-- (*doorstep/gateway.Gateway).Client
theorem c_f5a : COk Tryz.prog G 5 Kf5a := con_ok hmix hNm tyk CLs.nil 39 Tryz.func5 (by kernel_rfl) (hn := .e) (by unfold Fact; intro fx; kernel_rfl)
-- (*doorstep/gateway.Gateway).Upstream
theorem c_f6a : COk Tryz.prog G 6 Kf6a := con_ok hmix hNm tyk CLs.nil 57 Tryz.func6 (by kernel_rfl) (hn := .e) (by unfold Fact; intro fx; kernel_rfl)
-- (*doorstep/gateway.Gateway).ClientEnd
theorem c_f7 : COk Tryz.prog G 7 Kf7 := con_ok hmix hNm tyk CLs.nil 29 Tryz.func7 (by kernel_rfl) (hn := .e) (by unfold Fact; intro fx; kernel_rfl)
-- (*doorstep/gateway.Gateway).UpstreamEnd
theorem c_f8 : COk Tryz.prog G 8 Kf8 := con_ok hmix hNm tyk CLs.nil 42 Tryz.func8 (by kernel_rfl) (hn := .e) (by unfold Fact; intro fx; kernel_rfl)
-- (*doorstep/gateway.Gateway).Closed
theorem c_f9a : COk Tryz.prog G 9 Kf9a := con_ok hmix hNm tyk CLs.nil 11 Tryz.func9 (by kernel_rfl) (hn := .e) (by unfold Fact; intro fx; kernel_rfl)
-- (*doorstep/gateway.Gateway).Waiting
theorem c_f10a : COk Tryz.prog G 10 Kf10a := con_ok hmix hNm tyk CLs.nil 10 Tryz.func10 (by kernel_rfl) (hn := .e) (by unfold Fact; intro fx; kernel_rfl)
-- (*doorstep/gateway.Gateway).Use
theorem c_f11 : COk Tryz.prog G 11 Kf11 := con_ok hmix hNm tyk CLs.nil 15 Tryz.func11 (by kernel_rfl) (hn := .e) (by unfold Fact; intro fx; kernel_rfl)
-- (*doorstep/gateway.Gateway).ToClient
theorem c_f12b : COk Tryz.prog G 12 Kf12b := con_ok hmix hNm tyk CLs.nil 15 Tryz.func12 (by kernel_rfl) (hn := .e) (by unfold Fact; intro fx; kernel_rfl)
-- (*doorstep/gateway.Gateway).ToUpstream
theorem c_f13b : COk Tryz.prog G 13 Kf13b := con_ok hmix hNm tyk CLs.nil 15 Tryz.func13 (by kernel_rfl) (hn := .e) (by unfold Fact; intro fx; kernel_rfl)
-- (*doorstep/gateway.Gateway).Closed
theorem c_f9b : COk Tryz.prog G 9 Kf9b := con_ok hmix hNm tyk CLs.nil 11 Tryz.func9 (by kernel_rfl) (hn := .e) (by unfold Fact; intro fx; kernel_rfl)
-- (*doorstep/body.Body).End
theorem c_f20 : COk Tryz.prog G 20 Kf20 := con_ok hmix hNm tyk CLs.nil 23 Tryz.func20 (by kernel_rfl) (hn := .e) (by unfold Fact; intro fx; kernel_rfl)
-- (*doorstep/gateway.Gateway).send
theorem c_f42b : COk Tryz.prog G 42 Kf42b := con_ok hmix hNm tyk CLs.nil 22 Tryz.func42 (by kernel_rfl) (hn := .n 1 (.w [(9000, .po 10), (6, .sl .str), (7, .int), (8, .int)] [(0, 9000)] f42b_L0 fun n0 => .e)) (by unfold Fact; intro fx; kernel_rfl)
-- (*doorstep/gateway.Gateway).close
theorem c_f22a : COk Tryz.prog G 22 Kf22a := con_ok hmix hNm tyk CLs.nil 13 Tryz.func22 (by kernel_rfl) (hn := .e) (by unfold Fact; intro fx; kernel_rfl)
-- (*doorstep/enchunk.Encoder).End
theorem c_f73c : COk Tryz.prog G 73 Kf73c := con_ok hmix hNm tyk (((CLs.nil.add c_f99).add c_f109).add c_f98a) 37 Tryz.func73 (by kernel_rfl) (hn := .e) (by unfold Fact; intro fx; kernel_rfl)
-- (*doorstep/body.Body).End
theorem c_f20b : COk Tryz.prog G 20 Kf20b := con_ok hmix hNm tyk CLs.nil 23 Tryz.func20 (by kernel_rfl) (hn := .n 1 (.j [(9000, .po 15)] [] f20b_j0 .e .e)) (by unfold Fact; intro fx; kernel_rfl)
-- (*doorstep/gateway.Gateway).ToClient
theorem c_f12c : COk Tryz.prog G 12 Kf12c := con_ok hmix hNm tyk CLs.nil 15 Tryz.func12 (by kernel_rfl) (hn := .e) (by unfold Fact; intro fx; kernel_rfl)
-- (doorstep/via.reader).by$1
theorem c_f163 : COk Tryz.prog G 163 Kf163 := con_ok hmix hNm tyk CLs.nil 5 Tryz.func163 (by kernel_rfl) (hn := .e) (by unfold Fact; intro fx; kernel_rfl)
-- doorstep/tmpl.plain
theorem c_f340 : COk Tryz.prog G 340 Kf340 := con_ok hmix hNm tyk (CLs.nil.add c_f185) 9 Tryz.func340 (by kernel_rfl) (hn := .e) (by unfold Fact; intro fx; kernel_rfl)
-- doorstep/tmpl.small
theorem c_f371 : COk Tryz.prog G 371 Kf371 := con_ok hmix hNm tyk CLs.nil 9 Tryz.func371 (by kernel_rfl) (hn := .e) (by unfold Fact; intro fx; kernel_rfl)
end
end Go.Proofs
end
section
set_option linter.unusedVariables false
set_option maxRecDepth 100000
namespace Go.Proofs
open Go.Dk Go.Dm Go.RowKit Go.Rk
noncomputable section
theorem glob_fz {w : World} (hG : GlobT w) : GlOk Tryz.prog G (fun b => w.heap[b]?) := ⟨fun p hp => (by cases hp), fun w' on => hG.same (fz_size on) fun g hg => by
  have hlt : g < w.heap.size := Nat.lt_of_lt_of_le hg hG.size
  rw [Array.getElem?_eq_getElem hlt]
  exact on g _ (Array.getElem?_eq_getElem hlt)⟩
def Cz : CLs Tryz.prog G := ((((((((((((((((((((((((((((((((((((((((((((((((((((((((((((((((((((((((((((((((((((((((((((((((((((((((((((((((((((((((((((((((((((((((((((((((((((((((((((((((((((((((((((((((((((((((((((((((((((((((((((((CLs.nil.add c_lTrimRight).add c_lContains).add c_lIndexByte).add c_lFormatInt).add c_lSplit).add c_lIndex).add c_lTrim).add c_lCut).add c_lIndexAny).add c_lJoin).add c_f371).add c_f340).add c_f163).add c_f12c).add c_f20b).add c_f73c).add c_f22a).add c_f42b).add c_f20).add c_f9b).add c_f13b).add c_f12b).add c_f11).add c_f10a).add c_f9a).add c_f8).add c_f7).add c_f6a).add c_f5a).add c_f9).add c_f10).add c_f12a).add c_f45).add c_f70a).add c_f105).add c_f107).add c_f156).add c_f70).add c_f13a).add c_f18a).add c_f18).add c_f64).add c_f99).add c_f147).add c_f217).add c_f98a).add c_f109).add c_f98).add c_f65a).add c_f44a).add c_f74a).add c_f74).add c_f68).add c_f44).add c_f65).add c_f36).add c_f59a).add c_f61).add c_f96).add c_f143).add c_f142).add c_f327).add c_f139).add c_f197).add c_f262).add c_f126).add c_f258).add c_f337a).add c_f137).add c_f213).add c_f281).add c_f212).add c_f279).add c_f325).add c_f364).add c_f280).add c_f326).add c_f278a).add c_f271b).add c_f324).add c_f362).add c_f360).add c_f380).add c_f385).add c_f384).add c_f321).add c_f274b).add c_f320a).add c_f359).add c_f319).add c_f318).add c_f358).add c_f135).add c_f209).add c_f357).add c_f379).add c_f317).add c_f315).add c_f356).add c_f355).add c_f378).add c_f314).add c_f354).add c_f353).add c_f377).add c_f167).add c_f227).add c_f162a).add c_f376).add c_f272).add c_f312).add c_f351).add c_f287).add c_f165).add c_f226).add c_f270).add c_f268).add c_f202).add c_f267).add c_f201).add c_f266).add c_f307).add c_f308).add c_f210).add c_f277).add c_f276).add c_f323).add c_f252).add c_f188).add c_f253).add c_f125).add c_f303a).add c_f373a).add c_f372a).add c_f185).add c_f245).add c_f244).add c_f149).add c_f219).add c_lFold).add c_f205).add c_f148).add c_lClone218).add c_f59).add c_f58).add c_f33).add c_f15).add c_f32a).add c_f56).add c_f32).add c_f31).add c_f55a).add c_f55).add c_f30).add c_f54).add c_lClone29).add c_lClone28).add c_f87).add c_f26).add c_f25).add c_f52).add c_f86).add c_f124).add c_f183).add c_f242).add c_f293).add c_f182).add c_f241).add c_f240).add c_f286).add c_f239).add c_f292).add c_f51).add c_f85).add c_f84).add c_f50).add c_f82).add c_f120).add c_f175).add c_f83).add c_f121).add c_f177).add c_f81).add c_f119).add c_f80).add c_f118).add c_f174).add c_f173).add c_f172).add c_f116).add c_f170).add c_f229).add c_f176).add c_lFour).add c_f113a).add c_f184).add c_f232).add c_f122).add c_f231).add c_f234).add c_f161).add c_f164).add c_f166).add c_f225).add c_f111).add c_f78)
theorem zr_awake : zrun (⟨Tryz.prog, G, tyl, Cz.cs, 0, fun _ => .bool false⟩ : Cx tau) 100000000 4 [] = some true := by kernel_rfl
def Kaw : Con tau := ⟨[], [.bool], 1, [], fun _ => some true⟩
theorem c_aw : COk Tryz.prog G 4 Kaw := zcon_ok hmix hNm (tyk Cz.cs 0) fpok Cz.ok ⟨_, Tryz.func4, by kernel_rfl, by kernel_rfl⟩ zr_awake
def Cw : CLs Tryz.prog G := Cz.add c_aw
theorem zr_law (x0 : Str) : zrun (⟨Tryz.prog, G, tyl, Cw.cs, 0, fun _ => .bool false⟩ : Cx tau) 100000000 3 [.c (.s x0)] = some true := by kernel_rfl
def law44_GatewayNone (x0 : Str) : Option Bool := some true
theorem w_law44_GatewayNone (x0 : Str) (R : Bool) (w0 : World) (hG : GlobT w0) (hm : law44_GatewayNone x0 = some R) :
    Calls Tryz.prog 3 #[str x0] w0 fun e w' => e = .returned (.bool R) ∧ Below w0.heap.size w0 w' := by
  cases hm
  refine zlaw_ok hmix hNm (tyk Cw.cs 0) fpok Cw.ok (zr_law x0) (glob_fz hG) [str x0] rfl ?_
  intro i A u h1 h2
  match i, h1, h2 with
  | 0, h1, h2 => cases h1; cases h2; rfl
  | _ + 1, h1, _ => simp at h1
end
end Go.Proofs
end
