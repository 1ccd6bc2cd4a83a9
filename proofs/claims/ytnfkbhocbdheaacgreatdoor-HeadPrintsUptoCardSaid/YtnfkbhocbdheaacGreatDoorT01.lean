/-
  Layer 1 (bytes): what the program's and the reference's models come to.
-/
import Derived.Test.YtnfkbhocbdheaacGreatDoorTool
import Derived.Test.YtnfkbhocbdheaacGreatDoorMdl
namespace Go.Dm
def cDigit (b : UInt8) : Bool := decide (48 ≤ b) && decide (b ≤ 57)
def cLower (b : UInt8) : UInt8 := if 65 ≤ b ∧ b ≤ 90 then b + 32 else b
def cAlpha (b : UInt8) : Bool := decide (97 ≤ cLower b) && decide (cLower b ≤ 122)
def cHex (b : UInt8) : Bool := cDigit b || decide (97 ≤ cLower b) && decide (cLower b ≤ 102)
def cUnres (b : UInt8) : Bool := cAlpha b || cDigit b || ([45, 46, 95, 126] : Str).contains b
def cSub (b : UInt8) : Bool := ([33, 36, 38, 39, 40, 41, 42, 43, 44, 59, 61] : Str).contains b
def cPath (b : UInt8) : Bool := cUnres b || cSub b || b == 58 || b == 64

theorem idxByte_ge (l : Str) (c : UInt8) (k : Nat) : decide (0 ≤ idxByte l c k) = l.contains c := by
  induction l generalizing k with
  | nil => simp [idxByte]
  | cons x l ih =>
    simp only [idxByte, List.contains_cons]
    by_cases h : x = c
    · simp [h]
    · have h' : (c == x) = false := by simp; exact fun e => h e.symm
      simp [h, h', ih]
theorem octet_Lower_eq (b : UInt8) : octet_Lower b = some (cLower b) :=
  of_decide_eq_true (all_bytes (fun b => decide (octet_Lower b = some (cLower b))) (by decide +kernel) b)
theorem octet_IsDigit_eq (b : UInt8) : octet_IsDigit b = some (cDigit b) :=
  of_decide_eq_true (all_bytes (fun b => decide (octet_IsDigit b = some (cDigit b))) (by decide +kernel) b)
theorem octet_IsHex_eq (b : UInt8) : octet_IsHex b = some (cHex b) :=
  of_decide_eq_true (all_bytes (fun b => decide (octet_IsHex b = some (cHex b))) (by decide +kernel) b)
theorem octet_IsPath_eq (b : UInt8) : octet_IsPath b = some (cPath b) :=
  of_decide_eq_true (all_bytes (fun b => decide (octet_IsPath b = some (cPath b))) (by decide +kernel) b)
theorem octet_All_one {p : UInt8 → Bool} {f : UInt8 → Option Bool} (hf : ∀ b, f b = some (p b)) (s : Str) (hs : s.length < 1000000000) : octet_All f [s] = some (s.all p) := by
  unfold octet_All
  have h2 : ∀ (rec1 : Int → Option Bool) (i : Int), octet_All_L2 rec1 f i s fuel 0 = s.foldr (fun x r => if p x = true then r else some false) ((iAdd i 1).bind rec1) := by
    intro rec1 i
    refine loop_start s (octet_All_L2 rec1 f i s) _ _ (by omega) ?_ ?_
    · intro n; rw [octet_All_L2]; simp only [Int.lt_irrefl, decide_false, Bool.false_eq_true, if_false]
    · intro n k x hk hx
      rw [octet_All_L2]
      simp only [Int.ofNat_lt, hk, decide_true, if_true, sAt_nat, hx, Option.bind_some, hf, iAdd_one (show k < 4611686018427387904 by omega)]
      cases p x <;> rfl
  rw [loop_start [s] (octet_All_L1 f [s]) (fun x r => x.foldr (fun x r => if p x = true then r else some false) r) (some true) (by simp)]
  · simp only [List.foldr_cons, List.foldr_nil]
    exact foldr_and p s
  · intro n; rw [octet_All_L1]; simp only [Int.lt_irrefl, decide_false, Bool.false_eq_true, if_false]
  · intro n i x hi hx
    have hi0 : i = 0 := by simp at hi; exact hi
    subst hi0
    simp at hx; subst hx
    rw [octet_All_L1]
    simp [h2, iAdd_ok]
def cTok (b : UInt8) : Bool := cAlpha b || cDigit b || ([33, 35, 36, 37, 38, 39, 42, 43, 45, 46, 94, 95, 96, 124, 126] : Str).contains b
def cVal (b : UInt8) : Bool := decide (32 ≤ b) && !(b == 127) || b == 9
theorem octet_IsToken_eq (b : UInt8) : octet_IsToken b = some (cTok b) :=
  of_decide_eq_true (all_bytes (fun b => decide (octet_IsToken b = some (cTok b))) (by decide +kernel) b)
theorem octet_IsValue_eq (b : UInt8) : octet_IsValue b = some (cVal b) :=
  of_decide_eq_true (all_bytes (fun b => decide (octet_IsValue b = some (cVal b))) (by decide +kernel) b)
theorem octet_IsUnreserved_eq (b : UInt8) : octet_IsUnreserved b = some (cUnres b) :=
  of_decide_eq_true (all_bytes (fun b => decide (octet_IsUnreserved b = some (cUnres b))) (by decide +kernel) b)
theorem octet_IsSub_eq (b : UInt8) : octet_IsSub b = some (cSub b) :=
  of_decide_eq_true (all_bytes (fun b => decide (octet_IsSub b = some (cSub b))) (by decide +kernel) b)
def isTok (s : Str) : Bool := s.all cTok && !(s == [])
theorem octet_Token_eq (s : Str) (hs : s.length < 1000000000) : octet_Token s = some (isTok s) := by
  unfold octet_Token isTok
  rw [octet_All_one octet_IsToken_eq s hs]
  cases s <;> simp [octet_Token_j1]
end Go.Dm
