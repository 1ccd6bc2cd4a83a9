/-
  Layer 8 (hosts): names, numbers, addresses of four, domains: the program's and the document's come to the same. No program in sight.
-/
import Derived.Test.YtnfkbhocbdheaabGreatDoorT03
import Derived.Test.YtnfkbhocbdheaabGreatDoorTLib
import Derived.Test.YtnfkbhocbdheaabGreatDoorTFold
import Derived.Test.YtnfkbhocbdheaabGreatDoorTSplit
namespace Go.Dm
theorem valB_low {b : Nat} : ∀ {x : List Nat}, x ≠ [] → x.head? ≠ some 0 → b ^ (x.length - 1) ≤ valB b x
  | [], h, _ => absurd rfl h
  | y :: t, _, h0 => by
    have hy : 1 ≤ y := by
      rcases Nat.eq_zero_or_pos y with e | e
      · subst e; simp at h0
      · exact e
    rw [valB_cons, List.length_cons, Nat.add_sub_cancel]
    have := Nat.mul_le_mul_right (b ^ t.length) hy
    rw [Nat.one_mul] at this; omega
theorem digs_short {k n : Nat} (hk : 1 ≤ k) (h64 : n < 2 ^ 64) (hn : n < 10 ^ k) : (digs 10 n).length ≤ k := by
  rcases digs_head (b := 10) (by decide) n h64 with e | e
  · subst e; rw [digs_small (by decide)]; exact hk
  · have h1 := valB_low (b := 10) digs_ne e
    rw [digs_val (by decide) n h64] at h1
    rcases Nat.lt_or_ge k (digs 10 n).length with h | h
    · have : 10 ^ k ≤ 10 ^ ((digs 10 n).length - 1) := Nat.pow_le_pow_right (by decide) (by omega)
      omega
    · exact h
/-- Is a text a number up to one, without noughts ahead? -/
def smallOk (s : Str) (most : Int) : Bool := (readN 10 s most).2 == 0 && textN 10 (readN 10 s most).1 == s
theorem readN_in {b : Nat} {s : Str} {most : Int} (h : (readN b s most).2 = 0) (hm : most < 4611686018427387904) : 0 ≤ (readN b s most).1 ∧ (readN b s most).1 ≤ most ∧ inI (readN b s most).1 = true := by
  unfold readN at *
  split at h
  · cases h
  · rename_i h1
    rw [if_neg h1]
    split at h
    · cases h
    · rename_i h2
      rw [if_neg h2]
      refine ⟨by simp only; omega, by simp only; omega, by rw [inI_iff]; simp only; omega⟩
theorem hostport_small_eq (s : Str) (most : Int) (hs : s.length < 1000000000) (hm : most < 4611686018427387904) (hm0 : -4611686018427387904 < most) : hostport_small s most = some (smallOk s most) := by
  unfold hostport_small smallOk
  rw [numeral_Decimal_eq s most hs hm hm0, Option.bind_some]
  by_cases h : (readN 10 s most).2 = 0
  · have hi := (readN_in h hm).2.2
    simp [h, numeral_Text_eq _ hi, hostport_small_j1]
  · simp [h, hostport_small_j1]
theorem ref08_Small_eq (s : Str) (most : Int) (hs : s.length < 1000000000) (hm : most < 100000) (hm0 : -4611686018427387904 < most) : ref08_Small s most = some (if smallOk s most then (readN 10 s most).1 else -1) := by
  unfold ref08_Small
  have hR := ref03_Read_eq (b := 10) (.inl rfl) s most hs (by omega) hm0
  rw [show ((10 : Nat) : Int) = 10 from rfl] at hR
  by_cases hl : 5 < (s.length : Int)
  · have : smallOk s most = false := by
      rw [Bool.eq_false_iff]
      intro h
      unfold smallOk at h
      simp only [Bool.and_eq_true, beq_iff_eq] at h
      obtain ⟨h1, h2⟩ := h
      obtain ⟨g1, g2, g3⟩ := readN_in (b := 10) h1 (by omega)
      have hlen := congrArg List.length h2
      unfold textN at hlen
      rw [if_neg (by omega), chars_len] at hlen
      have := digs_short (k := 5) (n := (readN 10 s most).1.toNat) (by decide) (by omega) (by omega)
      omega
    simp [hl, this]
  · simp only [hl, decide_false, Bool.false_eq_true, if_false, hR, Option.bind_some]
    unfold smallOk
    by_cases h : (readN 10 s most).2 = 0
    · have hi := (readN_in h (by omega)).2.2
      have hT := ref03_Text_eq (b := 10) (.inl rfl) _ hi
      rw [show ((10 : Nat) : Int) = 10 from rfl] at hT
      simp only [h, beq_self_eq_true, Bool.not_true, Bool.false_eq_true, if_false, hT, Option.bind_some, ref08_Small_j1, Bool.true_and]
      rcases bcase (textN 10 (readN 10 s most).1 == s) with h2 | h2 <;> rw [h2] <;> simp
    · have h' : ((readN 10 s most).2 == 0) = false := beq_eq_false_iff_ne.2 h
      simp [h', ref08_Small_j1]
def fourOk (s : Str) : Bool := (splitOn 46 s).all (fun x => smallOk x 255) && decide (((splitOn 46 s).length : Int) = 4)
theorem mapM_some {α β : Type} {f : α → Option β} {g : α → β} : ∀ {l : List α}, (∀ x ∈ l, f x = some (g x)) → l.mapM f = some (l.map g)
  | [], _ => rfl
  | x :: l, h => by
    rw [List.mapM_cons, h x (List.mem_cons_self ..), mapM_some fun y hy => h y (List.mem_cons_of_mem _ hy)]; rfl
theorem hostport_Four_eq (s : Str) (hs : s.length < 1000000000) : hostport_Four s = some (fourOk s) := by
  unfold hostport_Four fourOk
  rw [if_pos hs, mapM_some (g := fun x => smallOk x 255) fun x hx => hostport_small_eq x 255 (by have := (splitOn_mem hx).2.1; omega) (by decide) (by decide)]
  simp only [Option.bind_some, List.length_map, List.all_map]
  rfl
theorem ref08_Four_eq (s : Str) (hs : s.length < 1000000000) : ref08_Four s = some (fourOk s) := by
  unfold ref08_Four fourOk
  rw [ref08_Parts_eq s 46 hs, Option.bind_some]
  have hlen := splitOn_len 46 s
  have hm := fun x (h : x ∈ splitOn 46 s) => (splitOn_mem h).2.1
  generalize splitOn 46 s = l at *
  rw [loop_start l (ref08_Four_L1 l) (fun x r => if smallOk x 255 = true then r else some false) (some (decide ((l.length : Int) = 4))) (by omega)]
  · exact foldr_and_end _ _ _
  · intro n; rw [ref08_Four_L1]; simp only [Int.lt_irrefl, decide_false, Bool.false_eq_true, if_false]
    rw [show ((l.length : Int) == 4) = decide ((l.length : Int) = 4) from rfl]
  · intro n i x hi hx
    have hxl := hm x (List.mem_of_getElem? hx)
    rw [ref08_Four_L1]
    simp only [Int.ofNat_lt, hi, decide_true, if_true, lAt_nat, hx, Option.bind_some, ref08_Small_eq x 255 (by omega) (by decide) (by decide), iAdd_one (show i < 4611686018427387904 by omega)]
    rcases bcase (smallOk x 255) with h | h
    · have h2 : (readN 10 x 255).2 = 0 := by unfold smallOk at h; simp at h; exact h.1
      have h3 := (readN_in h2 (by decide)).1
      have h4 : ¬ (readN 10 x 255).1 < 0 := by omega
      rw [h]; simp [h4]
    · rw [h]; simp
/-- The bytes of a host's name. -/
def nameL : Str → Bool
  | [] => true
  | c :: s => if c == 37 then (match s with
    | a :: b :: r => cHex a && cHex b && nameL r
    | _ => false) else (cUnres c || cSub c) && nameL s
def nameOk (s : Str) : Bool := !(s == []) && nameL s
/-- Does a name stand under a domain? -/
def under (a b : Str) : Bool := nameOk a && nameOk b && !fourOk a && !fourOk b && (low a == low b || ((46 :: low b) : Str).isSuffixOf (low a))
end Go.Dm
