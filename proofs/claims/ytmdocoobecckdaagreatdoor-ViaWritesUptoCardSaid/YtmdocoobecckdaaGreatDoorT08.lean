/-
  Layer 8 (hosts): names, numbers, addresses of four, domains: the program's and the document's come to the same. No program in sight.
-/
import Derived.Test.YtmdocoobecckdaaGreatDoorT03
import Derived.Test.YtmdocoobecckdaaGreatDoorTLib
import Derived.Test.YtmdocoobecckdaaGreatDoorTFold
import Derived.Test.YtmdocoobecckdaaGreatDoorTSplit
namespace Go.Dm
theorem valB_low {b : Nat} : ∀ {x : List Nat}, x ≠ [] → x.head? ≠ some 0 → b ^ (x.length - 1) ≤ valB b x
  | [], h, _ => absurd rfl h
  | y :: t, _, h0 => by
    have hy : 1 ≤ y := by
      rcases Nat.eq_zero_or_pos y with e | e
      · subst e; simp at h0
      · exact e
    rw [valB_cons, List.length_cons, Nat.add_sub_cancel]
    have := Nat.mul_le_mul_right (b ^ t.length) hy
    rw [Nat.one_mul] at this; omega
theorem digs_short {k n : Nat} (hk : 1 ≤ k) (h64 : n < 2 ^ 64) (hn : n < 10 ^ k) : (digs 10 n).length ≤ k := by
  rcases digs_head (b := 10) (by decide) n h64 with e | e
  · subst e; rw [digs_small (by decide)]; exact hk
  · have h1 := valB_low (b := 10) digs_ne e
    rw [digs_val (by decide) n h64] at h1
    rcases Nat.lt_or_ge k (digs 10 n).length with h | h
    · have : 10 ^ k ≤ 10 ^ ((digs 10 n).length - 1) := Nat.pow_le_pow_right (by decide) (by omega)
      omega
    · exact h
/-- Is a text a number up to one, without noughts ahead? -/
def smallOk (s : Str) (most : Int) : Bool := (readN 10 s most).2 == 0 && textN 10 (readN 10 s most).1 == s
theorem readN_in {b : Nat} {s : Str} {most : Int} (h : (readN b s most).2 = 0) (hm : most < 4611686018427387904) : 0 ≤ (readN b s most).1 ∧ (readN b s most).1 ≤ most ∧ inI (readN b s most).1 = true := by
  unfold readN at *
  split at h
  · cases h
  · rename_i h1
    rw [if_neg h1]
    split at h
    · cases h
    · rename_i h2
      rw [if_neg h2]
      refine ⟨by simp only; omega, by simp only; omega, by rw [inI_iff]; simp only; omega⟩
theorem hostport_small_eq (s : Str) (most : Int) (hs : s.length < 1000000000) (hm : most < 4611686018427387904) (hm0 : -4611686018427387904 < most) : hostport_small s most = some (smallOk s most) := by
  unfold hostport_small smallOk
  rw [numeral_Decimal_eq s most hs hm hm0, Option.bind_some]
  by_cases h : (readN 10 s most).2 = 0
  · have hi := (readN_in h hm).2.2
    simp [h, numeral_Text_eq _ hi, hostport_small_j1]
  · simp [h, hostport_small_j1]
theorem ref08_Small_eq (s : Str) (most : Int) (hs : s.length < 1000000000) (hm : most < 100000) (hm0 : -4611686018427387904 < most) : ref08_Small s most = some (if smallOk s most then (readN 10 s most).1 else -1) := by
  unfold ref08_Small
  have hR := ref03_Read_eq (b := 10) (.inl rfl) s most hs (by omega) hm0
  rw [show ((10 : Nat) : Int) = 10 from rfl] at hR
  by_cases hl : 5 < (s.length : Int)
  · have : smallOk s most = false := by
      rw [Bool.eq_false_iff]
      intro h
      unfold smallOk at h
      simp only [Bool.and_eq_true, beq_iff_eq] at h
      obtain ⟨h1, h2⟩ := h
      obtain ⟨g1, g2, g3⟩ := readN_in (b := 10) h1 (by omega)
      have hlen := congrArg List.length h2
      unfold textN at hlen
      rw [if_neg (by omega), chars_len] at hlen
      have := digs_short (k := 5) (n := (readN 10 s most).1.toNat) (by decide) (by omega) (by omega)
      omega
    simp [hl, this]
  · simp only [hl, decide_false, Bool.false_eq_true, if_false, hR, Option.bind_some]
    unfold smallOk
    by_cases h : (readN 10 s most).2 = 0
    · have hi := (readN_in h (by omega)).2.2
      have hT := ref03_Text_eq (b := 10) (.inl rfl) _ hi
      rw [show ((10 : Nat) : Int) = 10 from rfl] at hT
      simp only [h, beq_self_eq_true, Bool.not_true, Bool.false_eq_true, if_false, hT, Option.bind_some, ref08_Small_j1, Bool.true_and]
      rcases bcase (textN 10 (readN 10 s most).1 == s) with h2 | h2 <;> rw [h2] <;> simp
    · have h' : ((readN 10 s most).2 == 0) = false := beq_eq_false_iff_ne.2 h
      simp [h', ref08_Small_j1]
def fourOk (s : Str) : Bool := (splitOn 46 s).all (fun x => smallOk x 255) && decide (((splitOn 46 s).length : Int) = 4)
theorem mapM_some {α β : Type} {f : α → Option β} {g : α → β} : ∀ {l : List α}, (∀ x ∈ l, f x = some (g x)) → l.mapM f = some (l.map g)
  | [], _ => rfl
  | x :: l, h => by
    rw [List.mapM_cons, h x (List.mem_cons_self ..), mapM_some fun y hy => h y (List.mem_cons_of_mem _ hy)]; rfl
theorem hostport_Four_eq (s : Str) (hs : s.length < 1000000000) : hostport_Four s = some (fourOk s) := by
  unfold hostport_Four fourOk
  rw [if_pos hs, mapM_some (g := fun x => smallOk x 255) fun x hx => hostport_small_eq x 255 (by have := (splitOn_mem hx).2.1; omega) (by decide) (by decide)]
  simp only [Option.bind_some, List.length_map, List.all_map]
  rfl
theorem ref08_Four_eq (s : Str) (hs : s.length < 1000000000) : ref08_Four s = some (fourOk s) := by
  unfold ref08_Four fourOk
  rw [ref08_Parts_eq s 46 hs, Option.bind_some]
  have hlen := splitOn_len 46 s
  have hm := fun x (h : x ∈ splitOn 46 s) => (splitOn_mem h).2.1
  generalize splitOn 46 s = l at *
  rw [loop_start l (ref08_Four_L1 l) (fun x r => if smallOk x 255 = true then r else some false) (some (decide ((l.length : Int) = 4))) (by omega)]
  · exact foldr_and_end _ _ _
  · intro n; rw [ref08_Four_L1]; simp only [Int.lt_irrefl, decide_false, Bool.false_eq_true, if_false]
    rw [show ((l.length : Int) == 4) = decide ((l.length : Int) = 4) from rfl]
  · intro n i x hi hx
    have hxl := hm x (List.mem_of_getElem? hx)
    rw [ref08_Four_L1]
    simp only [Int.ofNat_lt, hi, decide_true, if_true, lAt_nat, hx, Option.bind_some, ref08_Small_eq x 255 (by omega) (by decide) (by decide), iAdd_one (show i < 4611686018427387904 by omega)]
    rcases bcase (smallOk x 255) with h | h
    · have h2 : (readN 10 x 255).2 = 0 := by unfold smallOk at h; simp at h; exact h.1
      have h3 := (readN_in h2 (by decide)).1
      have h4 : ¬ (readN 10 x 255).1 < 0 := by omega
      rw [h]; simp [h4]
    · rw [h]; simp
/-- The bytes of a host's name. -/
def nameL : Str → Bool
  | [] => true
  | c :: s => if c == 37 then (match s with
    | a :: b :: r => cHex a && cHex b && nameL r
    | _ => false) else (cUnres c || cSub c) && nameL s
theorem nameL_pct (s : Str) : nameL (37 :: s) = (match s with | a :: b :: r => cHex a && cHex b && nameL r | _ => false) := by
  rw [nameL.eq_def]
  match s with
  | [] => rfl
  | [_] => rfl
  | _ :: _ :: _ => rfl
theorem nameL_oth (c : UInt8) (s : Str) (h : (c == 37) = false) : nameL (c :: s) = ((cUnres c || cSub c) && nameL s) := by
  rw [nameL.eq_def]; simp only [h, Bool.false_eq_true, if_false]
def nameOk (s : Str) : Bool := !(s == []) && nameL s
theorem hostport_Name_eq (s : Str) (hs : s.length < 1000000000) : hostport_Name s = some (nameOk s) := by
  unfold hostport_Name nameOk
  rcases bcase (s == []) with h0 | h0
  · rw [h0]; simp
  rw [h0]
  simp only [Bool.false_eq_true, if_false, Bool.not_false, Bool.true_and]
  have key : ∀ (n : Nat) (s : Str), s.length < n → s.length < 1000000000 → hostport_Name_L1 n s = some (nameL s) := by
    intro n
    induction n with
    | zero => intro s h; omega
    | succ n ih =>
      intro s h hs
      rw [hostport_Name_L1]
      cases s with
      | nil => simp [nameL]
      | cons c s =>
        have h1 : ((c :: s == ([] : Str))) = false := rfl
        have e1 : sFrom (c :: s) 1 = some s := by
          have := sFrom_nat (l := c :: s) (i := 1) (by simp)
          simpa using this
        simp only [List.length_cons] at h hs
        simp only [h1, Bool.not_false, if_true, hostport_percent, sAt_zero, List.getElem?_cons_zero, Option.bind_some, octet_IsUnreserved_eq, octet_IsSub_eq, hostport_Name_j2, e1, ih s (by omega) (by omega), Bool.false_eq_true, if_false]
        rcases bcase (c == 37) with hc | hc
        · have : c = 37 := by simpa using hc
          subst this
          have hu : cUnres 37 = false := by decide
          have hb : cSub 37 = false := by decide
          rw [nameL_pct]
          match s, h, hs with
          | [], _, _ => simp [hu, hb, hostport_percent_j1]
          | [a], _, _ => simp [hu, hb, hostport_percent_j1]
          | a :: b :: r, h, hs =>
            have h2 : (3 : Int) ≤ ((37 :: a :: b :: r : Str).length : Int) := by simp only [List.length_cons]; omega
            have e3 : sFrom (37 :: a :: b :: r) 3 = some r := by
              have := sFrom_nat (l := 37 :: a :: b :: r) (i := 3) (by simp)
              simpa using this
            have e2 : sSub (37 :: a :: b :: r) 1 3 = some [a, b] := by
              have := sSub_nat (l := 37 :: a :: b :: r) (i := 1) (h := 3) (by decide) (by simp)
              simpa using this
            simp only [List.length_cons] at h hs
            simp only [h2, decide_true, if_true, beq_self_eq_true, e2, Option.bind_some, octet_All_one octet_IsHex_eq [a, b] (by simp), hostport_percent_j1, e3, ih r (by omega) (by omega), hu, hb, Bool.false_eq_true, if_false]
            cases ha : cHex a <;> cases hb : cHex b <;> simp [ha, hb]
        · rw [nameL_oth c s hc, hc]
          simp only [Bool.false_eq_true, if_false, hostport_percent_j1]
          have : (if (decide ((3 : Int) ≤ ((c :: s).length : Int))) = true then some false else some false) = some false := by split <;> rfl
          rw [this]
          simp only [Option.bind_some, Bool.false_eq_true, if_false]
          cases hp : cUnres c <;> cases hq : cSub c <;> simp
  exact key fuel s (fuel_gt (by omega)) hs
theorem ref08_Name_j2_eq (rec1 : Int → Option Bool) (i : Nat) (t : Bool) (hi : i < 4000000000) : ref08_Name_j2 rec1 (i : Int) t = if t = true then some false else rec1 ((i + 3 : Nat) : Int) := by
  unfold ref08_Name_j2 ref08_Name_j4
  have i2 : iAdd (i : Int) 2 = some ((i + 2 : Nat) : Int) := by rw [iAdd_ok (by omega) (by omega)]; simp
  have i3 : iAdd ((i + 2 : Nat) : Int) 1 = some ((i + 3 : Nat) : Int) := iAdd_one (i := i + 2) (by omega)
  rw [i2, Option.bind_some, i3, Option.bind_some]
theorem ref08_Name_eq (s : Str) (hs : s.length < 1000000000) : ref08_Name s = some (nameOk s) := by
  unfold ref08_Name nameOk
  have key : ∀ (n i : Nat), i ≤ s.length → s.length - i < n → ref08_Name_L1 s n (i : Int) = some (nameL (s.drop i) && !(s == [])) := by
    intro n
    induction n with
    | zero => intro i _ h; omega
    | succ n ih =>
      intro i hi h
      rw [ref08_Name_L1]
      cases hd : s.drop i with
      | nil =>
        have : i = s.length := by have := congrArg List.length hd; simp at this; omega
        subst this
        simp only [Int.lt_irrefl, decide_false, Bool.false_eq_true, if_false, nameL, Bool.true_and]
        cases s <;> simp
      | cons c t =>
        have hlt : i < s.length := by have := congrArg List.length hd; simp at this; omega
        have hx : s[i]? = some c := by have := congrArg (·[0]?) hd; simpa using this
        have ht : s.drop (i + 1) = t := by rw [← List.drop_drop, hd]; rfl
        have htl : t.length = s.length - (i + 1) := by rw [← ht]; simp
        have i2 : iAdd (i : Int) 2 = some ((i + 2 : Nat) : Int) := by rw [iAdd_ok (by omega) (by omega)]; simp
        simp only [Int.ofNat_lt, hlt, decide_true, if_true, sAt_nat, hx, Option.bind_some, iAdd_one (show i < 4611686018427387904 by omega), i2]
        rcases bcase (c == 37) with hc | hc
        · have : c = 37 := by simpa using hc
          subst this
          rw [nameL_pct]
          match t, ht, htl with
          | [], ht, htl =>
            have : (s.length : Int) ≤ ((i + 2 : Nat) : Int) := by simp at htl; omega
            simp only [beq_self_eq_true, if_true, this, decide_true, ref08_Name_j2, Bool.false_and]
          | [a], ht, htl =>
            have : (s.length : Int) ≤ ((i + 2 : Nat) : Int) := by simp at htl; omega
            simp only [beq_self_eq_true, if_true, this, decide_true, ref08_Name_j2, Bool.false_and]
          | a :: b :: r, ht, htl =>
            have hlt2 : ¬ (s.length : Int) ≤ ((i + 2 : Nat) : Int) := by simp at htl; omega
            have ha : s[i + 1]? = some a := by have := congrArg (·[0]?) ht; simpa using this
            have hb : s[i + 2]? = some b := by have := congrArg (·[1]?) ht; simpa using this
            have hr : s.drop (i + 3) = r := by
              have : (s.drop (i + 1)).drop 2 = r := by rw [ht]; rfl
              rwa [List.drop_drop] at this
            have hi3 : i + 3 ≤ s.length := by simp at htl; omega
            have hih := ih (i + 3) hi3 (by omega)
            rw [hr] at hih
            have hj := ref08_Name_j2_eq (ref08_Name_L1 s n) i
            simp only [beq_self_eq_true, if_true, hlt2, decide_false, Bool.false_eq_true, if_false, sAt_nat, ha, hb, Option.bind_some, ref01_Hex_eq, hj _ (by omega), hih]
            cases cHex a <;> cases cHex b <;> simp
        · rw [nameL_oth c t hc, hc]
          have hih := ih (i + 1) (by omega) (by omega)
          rw [ht] at hih
          simp only [Bool.false_eq_true, if_false, ref01_Unreserved_eq, ref01_Sub_eq, Option.bind_some, ref08_Name_j3, ref08_Name_j4, iAdd_one (show i < 4611686018427387904 by omega), hih]
          cases cUnres c <;> cases cSub c <;> simp
  have := key fuel 0 (Nat.zero_le _) (by unfold fuel; omega)
  simp only [Int.natCast_zero, List.drop_zero] at this
  rw [this, Bool.and_comm]
/-- Does a name stand under a domain? -/
def under (a b : Str) : Bool := nameOk a && nameOk b && !fourOk a && !fourOk b && (low a == low b || ((46 :: low b) : Str).isSuffixOf (low a))
end Go.Dm
