/-
  strings.IndexRune at a rune beyond ASCII, in a text of ASCII bytes: -1; and strings.IndexAny, the looked-for bytes ASCII, the text whatever. Over any program that holds the library's texts.
-/
import Derived.Shelf.Strings.IndexAnyAll
import Derived.Laws.RangeAny
import Derived.Laws.Runes
import Derived.Below
import Derived.Lib.OthersKept
import Derived.Shelf.RegionOpenPlain
import Derived.Shelf.Small.Utf8
namespace Go.Dk
open Go.Proofs Go.Shelf Go.RowKit Go.Lib
variable {P : Program} {ρ : Ren}

theorem bcase' (b : Bool) : b = true ∨ b = false := by cases b <;> simp
theorem below_iter (w : World) (s : ByteArray) (i : Nat) : Below w.heap.size w (w.iter s i) := (Below.refl _ _).alloc (Nat.le_refl _) _
set_option maxHeartbeats 8000000 in
set_option maxRecDepth 1000000 in
theorem indexRune_err (L : Lays.n152 P ρ) (s : ByteArray) (w : World) (hascii : ∀ (j : Nat) b, s.data.toList[j]? = some b → b.toNat < 128) :
    Calls P (ρ.f 152) #[.string s, .int .i32 65533] w fun e w' => e = .returned (.int .i64 (-1)) ∧ Below w.heap.size w w' := by
  have HA : Aside (∀ (j : Nat) b, s.data.toList[j]? = some b → b.toNat < 128) := hascii
  clear hascii
  have mixed := L.mixed
  have t3 := L.t3; have a3 := L.a3; have z3 := L.z3; have v3 := L.v3
  have t4 := L.t4; have a4 := L.a4; have z4 := L.z4; have v4 := L.v4
  have t5 := L.t5; have a5 := L.a5; have z5 := L.z5; have v5 := L.v5
  have t9 := L.t9; have a9 := L.a9; have z9 := L.z9; have v9 := L.v9
  have t21 := L.t21; have a21 := L.a21; have z21 := L.z21; have v21 := L.v21
  go_enter L.f152, Body.n152_ntmps ρ
  go_wp2
  go_loopg [5, 6] s.size (fun g _ _ wx => ∃ i : Nat, i + g = s.size ∧ wx = w.iter s i)
  case atStart => exact ⟨0, by omega, rfl⟩
  case round =>
    obtain ⟨i, hig, rfl⟩ := hrel
    cases gk with
    | zero =>
      obtain rfl : i = s.size := by omega
      have hnx := run_next_end (P := P) w s s.size
      go_wp2
      go_ret
      exact ⟨rfl, below_iter ..⟩
    | succ g =>
      have hi : i < s.size := by omega
      obtain ⟨x, hx⟩ : ∃ x : UInt8, s[i]'hi = x := ⟨_, rfl⟩
      have hxl : s.data.toList[i]? = some x := by rw [← hx]; exact Lib.data_getElem? s i hi
      have hx128 : x.toNat < 128 := HA.out i x hxl
      have hnx := fun ty => run_next_ascii (P := P) w s i ty hi (by rw [hx]; exact hx128)
      rw [hx] at hnx
      have hne : ((x.toNat : Int) == 65533) = false := beq_eq_false_iff_ne.2 (by omega)
      go_wp2
      go_roundg g
      case measure => omega
      case rel => exact ⟨i + 1, by omega, rfl⟩

set_option maxHeartbeats 8000000 in
set_option maxRecDepth 1000000 in
theorem indexRune_bad (L : Lays.n152 P ρ) (s : ByteArray) (r : Int) (w : World) (h1 : 128 ≤ r) (hne : (r == 65533) = false) (hv : Go.Lib.validRune r = false) :
    Calls P (ρ.f 152) #[.string s, .int .i32 r] w fun e w' => e = .returned (.int .i64 (-1)) ∧ w' = w := by
  have mixed := L.mixed
  have t3 := L.t3; have a3 := L.a3; have z3 := L.z3; have v3 := L.v3
  have t4 := L.t4; have a4 := L.a4; have z4 := L.z4; have v4 := L.v4
  have t5 := L.t5; have a5 := L.a5; have z5 := L.z5; have v5 := L.v5
  have t9 := L.t9; have a9 := L.a9; have z9 := L.z9; have v9 := L.v9
  have t21 := L.t21; have a21 := L.a21; have z21 := L.z21; have v21 := L.v21
  have e119 : ∀ args w, (callFunc (ρ.f 119) args).run P w = .ok (.enter (ρ.f 119) args) w := enters_of L.f119 (by kernel_rfl) rfl
  have h0 : (0 : Int) ≤ r := by omega
  have h2 : ¬ (r < 128) := by omega
  go_enter L.f152, Body.n152_ntmps ρ
  go_wp2_with (go_at_fn (ρ.f 119); refine (Any.utf8_ValidRune { L with } _ _).mono ?_; rintro e w' ⟨rfl, hw⟩; rw [hw, hv])
  go_ret
  exact ⟨rfl, rfl⟩

/-- The bytes of a rune beyond ASCII: at least two, the last one beyond ASCII. -/
theorem encode_last (r : Int) (h1 : 128 ≤ r) (hv : Lib.validRune r = true) : 1 < (Utf8.encode r).size ∧ (Utf8.encode r).size ≤ 4 ∧ ∀ (h : (Utf8.encode r).size - 1 < (Utf8.encode r).size), 128 ≤ ((Utf8.encode r)[(Utf8.encode r).size - 1]'h).toNat := by
  have hv' : Utf8.valid r = true := by
    simp only [Lib.validRune, decide_eq_true_eq] at hv
    simp [Utf8.valid]; omega
  exact encode_facts r hv' h1
theorem no_byte (l : List UInt8) (c : UInt8) (hc : 128 ≤ c.toNat) (h : ∀ b ∈ l, b.toNat < 128) : Lib.indexByte l c = -1 := by
  induction l with
  | nil => rfl
  | cons b l ih =>
    have hb : (b == c) = false := by
      refine beq_eq_false_iff_ne.2 fun e => ?_
      have := h b (List.mem_cons_self ..)
      rw [e] at this; omega
    simp only [Lib.indexByte, hb, ih (fun x hx => h x (List.mem_cons_of_mem _ hx))]
    rfl
set_option maxHeartbeats 8000000 in
set_option maxRecDepth 1000000 in
theorem indexRune_far (L : Lays.n152 P ρ) (s : ByteArray) (r : Int) (w : World) (h1 : 128 ≤ r) (hne : (r == 65533) = false) (hv : Go.Lib.validRune r = true) (hs : s.size < 4294967281) (hascii : ∀ (j : Nat) b, s.data.toList[j]? = some b → b.toNat < 128) :
    Calls P (ρ.f 152) #[.string s, .int .i32 r] w fun e w' => e = .returned (.int .i64 (-1)) ∧ Below w.heap.size w w' := by
  have HA : Aside (∀ (j : Nat) b, s.data.toList[j]? = some b → b.toNat < 128) := hascii
  clear hascii
  have mixed := L.mixed
  have t3 := L.t3; have a3 := L.a3; have z3 := L.z3; have v3 := L.v3
  have t4 := L.t4; have a4 := L.a4; have z4 := L.z4; have v4 := L.v4
  have t5 := L.t5; have a5 := L.a5; have z5 := L.z5; have v5 := L.v5
  have t9 := L.t9; have a9 := L.a9; have z9 := L.z9; have v9 := L.v9
  have t21 := L.t21; have a21 := L.a21; have z21 := L.z21; have v21 := L.v21
  have e119 : ∀ args w, (callFunc (ρ.f 119) args).run P w = .ok (.enter (ρ.f 119) args) w := enters_of L.f119 (by kernel_rfl) rfl
  have e137 : ∀ args w, (callFunc (ρ.f 137) args).run P w = .ok (.enter (ρ.f 137) args) w := enters_of L.f137 (by kernel_rfl) rfl
  have h0 : (0 : Int) ≤ r := by omega
  have h2 : ¬ (r < 128) := by omega
  have hsome : (P.underlying (ρ.t 21)).isSome = true := by rw [t21]; rfl
  obtain ⟨hz, h4, hl⟩ := encode_last r h1 hv
  obtain ⟨rs, hrs⟩ : ∃ rs, Utf8.encode r = rs := ⟨_, rfl⟩
  have hcv := fun w => run_convert_int_string (P := P) w (ρ.t 21) (ρ.t 9) .i32 r hsome t9
  rw [hrs] at hcv hz h4 hl
  obtain ⟨m, hm⟩ : ∃ m, rs.size = m + 1 := ⟨rs.size - 1, by omega⟩
  have hmr : m < rs.size := by omega
  have hlm : 128 ≤ (rs[m]'hmr).toNat := by
    have := hl (by omega)
    simpa only [show rs.size - 1 = m by omega] using this
  clear hl
  have hsz : (rs.size : Int) - 1 = (m : Int) := by omega
  obtain ⟨c, hc⟩ : ∃ c : UInt8, rs[m]'hmr = c := ⟨_, rfl⟩
  rw [hc] at hlm
  go_enter L.f152, Body.n152_ntmps ρ
  go_wp2_with (go_at_fn (ρ.f 119); refine (Any.utf8_ValidRune { L with } _ _).mono ?_; rintro e w' ⟨rfl, hw⟩; rw [hw, hv])
  go_step3
  go_wp2
  go_loopg [9, 10, 11, 12] 0 (fun g v _ _ _ wx => v = .int .i64 (m : Int) ∧ wx = w)
  case atStart => exact ⟨rfl, rfl⟩
  case round =>
    obtain ⟨rfl, rfl⟩ := hrel
    by_cases hlt : (m : Int) < (s.size : Int)
    · have hms : m < s.size := by omega
      obtain ⟨x, hx⟩ : ∃ x : UInt8, s[m]'hms = x := ⟨_, rfl⟩
      have hxl : s.data.toList[m]? = some x := by rw [← hx]; exact Lib.data_getElem? s m hms
      have hx128 : x.toNat < 128 := HA.out m x hxl
      have hne : ((x.toNat : Int) == (c.toNat : Int)) = false := beq_eq_false_iff_ne.2 (by omega)
      clear hxl
      go_wp2
      go_step3
      go_wp2
      go_region_o
      go_wp2
      have hno : Lib.indexByte (List.take (s.size - (m + 1)) (List.drop (m + 1) s.data.toList)) c = -1 := by
        refine no_byte _ _ hlm fun b hb => ?_
        obtain ⟨j, hj⟩ := List.mem_iff_getElem?.1 (List.mem_of_mem_drop (List.mem_of_mem_take hb))
        exact HA.out j b hj
      have hlt0 : Lib.indexByte (List.take (s.size - (m + 1)) (List.drop (m + 1) s.data.toList)) c < 0 := by omega
      have hq1 : (0 : Int) ≤ (m : Int) + 1 := by omega
      have hq2 : (m : Int) + 1 ≤ (s.size : Int) := by omega
      have hwr : IntKind.i64.wrap ((m : Int) + 1) = (m : Int) + 1 := by simp [IntKind.wrap, IntKind.signed, IntKind.bits]; omega
      have hq3 : m + 1 ≤ s.size := hms
      have hq4 : ¬ ((s.size : Int) < (m : Int) + 1) := by omega
      have hq5 : ¬ (s.size < m + 1) := by omega
      have hq6 : (m : Int) < (m : Int) + 1 := by omega
      have hback : ((c.toNat : Int)).toNat.toUInt8 = c := by simp
      go_region_with_o (go_at_fn (ρ.f 137); refine (Any.strings_IndexByte { L with } _ _ _).mono ?_; rintro e w' ⟨rfl, rfl⟩)
      go_wp2
      simp only [Exit.noGoto, Exit.inBlock, Exit.then]
      go_ret
      exact ⟨rfl, ((Below.refl _ _).drew).drew⟩
    · go_wp2
      go_ret
      exact ⟨rfl, Below.refl _ _⟩

/-- Whatever rune beyond ASCII. -/
theorem indexRune_hi (L : Lays.n152 P ρ) (s : ByteArray) (r : Int) (w : World) (h1 : 128 ≤ r) (hs : s.size < 4294967281) (hascii : ∀ (j : Nat) b, s.data.toList[j]? = some b → b.toNat < 128) :
    Calls P (ρ.f 152) #[.string s, .int .i32 r] w fun e w' => e = .returned (.int .i64 (-1)) ∧ Below w.heap.size w w' := by
  by_cases he : r = 65533
  · subst he; exact indexRune_err L s w hascii
  · have hne : (r == 65533) = false := beq_eq_false_iff_ne.2 he
    cases hv : Lib.validRune r with
    | false => exact (indexRune_bad L s r w h1 hne hv).mono fun e w' ⟨h, hw⟩ => ⟨h, by rw [hw]; exact Below.refl _ _⟩
    | true => exact indexRune_far L s r w h1 hne hv hs hascii

/-- The places that a rune beyond ASCII takes. -/
theorem decode_span (s : ByteArray) (i : Nat) (h : i < s.size) (ha : 128 ≤ (s[i]'h).toNat) : i + (Utf8.decode s i).2 ≤ s.size ∧ ∀ k, k < (Utf8.decode s i).2 → ∀ b, s.data.toList[i + k]? = some b → 128 ≤ b.toNat := by
  have hg : ∀ k (hk : i + k < s.size), s.get! (i + k) = s[i + k]'hk := fun k hk => by
    show s.get! (i + k) = _
    simp [ByteArray.get!, getElem!_pos, hk]
    rfl
  have key : ∀ k b, s.data.toList[i + k]? = some b → ∃ hk : i + k < s.size, s[i + k]'hk = b := by
    intro k b hb
    have hl := (List.getElem?_eq_some_iff.1 hb).1
    have hk : i + k < s.size := by rw [Lib.size_eq]; exact hl
    refine ⟨hk, ?_⟩
    have := Lib.data_getElem? s (i + k) hk
    rw [hb] at this
    exact (Option.some.inj this).symm
  have hb0 : ¬ (s.get! (i + 0)).toNat < 128 := by rw [hg 0 h]; simpa using ha
  have hcont : ∀ k, (decide (i + k < s.size) && (s.get! (i + k)).toNat / 64 == 2) = true → i + k < s.size ∧ ∀ b, s.data.toList[i + k]? = some b → 128 ≤ b.toNat := by
    intro k hk
    simp only [Bool.and_eq_true, decide_eq_true_eq, beq_iff_eq] at hk
    refine ⟨hk.1, fun b hb => ?_⟩
    obtain ⟨_, rfl⟩ := key k b hb
    rw [hg k hk.1] at hk
    omega
  have h00 : ∀ b, s.data.toList[i + 0]? = some b → 128 ≤ b.toNat := by
    intro b hb
    obtain ⟨_, rfl⟩ := key 0 b hb
    simpa using ha
  have one : i + 1 ≤ s.size ∧ ∀ k, k < 1 → ∀ b, s.data.toList[i + k]? = some b → 128 ≤ b.toNat := ⟨h, fun k hk => by
    have h0 : k = 0 := by omega
    subst h0
    exact h00⟩
  have step : ∀ n, (i + n ≤ s.size ∧ ∀ k, k < n → ∀ b, s.data.toList[i + k]? = some b → 128 ≤ b.toNat) → (decide (i + n < s.size) && (s.get! (i + n)).toNat / 64 == 2) = true → (i + (n + 1) ≤ s.size ∧ ∀ k, k < n + 1 → ∀ b, s.data.toList[i + k]? = some b → 128 ≤ b.toNat) := by
    intro n hn hc
    obtain ⟨hlt, hb⟩ := hcont n hc
    refine ⟨by omega, fun k hk => ?_⟩
    by_cases e : k = n
    · subst e; exact hb
    · exact hn.2 k (by omega)
  simp only [Utf8.decode, hb0, if_false]
  split
  · rename_i hc
    rw [Bool.and_eq_true] at hc
    split
    · exact step 1 one hc.2
    · exact one
  · split
    · rename_i hc
      rw [Bool.and_eq_true, Bool.and_eq_true] at hc
      split
      · exact step 2 (step 1 one hc.1.2) hc.2
      · exact one
    · split
      · rename_i hc
        rw [Bool.and_eq_true, Bool.and_eq_true, Bool.and_eq_true] at hc
        split
        · exact step 3 (step 2 (step 1 one hc.1.1.2) hc.1.2) hc.2
        · exact one
      · exact one

set_option maxHeartbeats 8000000 in
set_option maxRecDepth 1000000 in
/-- A text of at most 8 bytes, whatever they are; the looked-for bytes are two or more, ASCII. -/
theorem indexAny_short (L : Lays.n153 P ρ) (s chars : ByteArray) (w : World) (h2 : 2 ≤ chars.size) (h8 : s.size ≤ 8) (hcs : chars.size < 4294967281) (hascii : ∀ (j : Nat) b, chars.data.toList[j]? = some b → b.toNat < 128) :
    Calls P (ρ.f 153) #[.string s, .string chars] w fun e w' => e = .returned (.int .i64 (Lib.indexAny s.data.toList chars.data.toList)) ∧ Below w.heap.size w w' := by
  have HA : Aside (∀ (j : Nat) b, chars.data.toList[j]? = some b → b.toNat < 128) := hascii
  clear hascii
  have hemp : chars.toList.isEmpty = false := by
    rw [Lib.toList_data]
    cases h : chars.data.toList with
    | nil => have := Lib.size_eq chars; rw [h, List.length_nil] at this; omega
    | cons _ _ => rfl
  have hn1 : ((chars.size : Int) == 1) = false := beq_eq_false_iff_ne.2 (by omega)
  have h8z : decide ((8 : Int) < (s.size : Int)) = false := decide_eq_false (by omega)
  have t3 := L.t3; have a3 := L.a3; have z3 := L.z3; have v3 := L.v3
  have t4 := L.t4; have a4 := L.a4; have z4 := L.z4; have v4 := L.v4
  have t5 := L.t5; have a5 := L.a5; have z5 := L.z5; have v5 := L.v5
  have t9 := L.t9; have a9 := L.a9; have z9 := L.z9; have v9 := L.v9
  have t21 := L.t21; have a21 := L.a21; have z21 := L.z21; have v21 := L.v21
  have e152 : ∀ args w, (callFunc (ρ.f 152) args).run P w = .ok (.enter (ρ.f 152) args) w := enters_of L.f152 (by kernel_rfl) rfl
  have e226 : ∀ args w, (callFunc (ρ.f 226) args).run P w = .ok (.enter (ρ.f 226) args) w := enters_of L.f226 (by kernel_rfl) rfl
  go_enter L.f153, Body.n153_ntmps ρ
  go_wp2_with (go_at_fn (ρ.f 226); refine (Any.strings_shouldUseASCIISet { L with } _ _).mono ?_; rintro e w' ⟨rfl, hw⟩; rw [hw, h8z])
  go_loopg [9, 10] s.size (fun g _ _ wx => ∃ i : Nat, i + g = s.size ∧ wx.heap[w.heap.size]? = some (.stringIter s i) ∧ Below w.heap.size w wx ∧ Lib.NoAny s.data.toList chars.data.toList i)
  case atStart => exact ⟨0, by omega, World.iter_heap .., below_iter .., Lib.NoAny.zero _ _⟩
  case round =>
    obtain ⟨i, hig, hk, hbel, hno⟩ := hrel
    have HN : Aside (Lib.NoAny s.data.toList chars.data.toList i) := hno
    have HB : Aside (Below w.heap.size w wr) := hbel
    clear hno hbel
    by_cases hi : i < s.size
    · obtain ⟨x, hx⟩ : ∃ x : UInt8, s[i]'hi = x := ⟨_, rfl⟩
      have hxl : s.data.toList[i]? = some x := by rw [← hx]; exact Lib.data_getElem? s i hi
      have Hx : Aside (s.data.toList[i]? = some x) := hxl
      clear hxl
      have HK : Aside (wr.heap[w.heap.size]? = some (.stringIter s i)) := hk
      have HX2 : Aside (s[i]'hi = x) := hx
      by_cases hx128 : x.toNat < 128
      · have hnx := fun ty => run_next_ascii_at (P := P) wr w.heap.size s i ty hk hi (by rw [hx]; exact hx128)
        rw [hx] at hnx
        clear hx hk
        have hcon := Lib.contains_iff_indexByte chars.data.toList x
        have hback : ((x.toNat : Int)).toNat.toUInt8 = x := by simp
        cases hin : chars.data.toList.contains x
        · rw [hin] at hcon
          have hlt : ¬ ((0 : Int) ≤ Lib.indexByte chars.data.toList x) := of_decide_eq_false hcon.symm
          clear hcon
          go_wp2_with (go_at_fn (ρ.f 152); refine (Any.strings_IndexRune_ascii { L with } _ _ _ (by omega) (by omega)).mono ?_; rintro e w' ⟨rfl, hw⟩; rw [hw, hback])
          go_roundg (gk - 1)
          case measure => omega
          case rel => exact ⟨i + 1, by omega, iterAt_heap _ _ _ _ _ HK.out, below_iterAt HB.out (Nat.le_refl _) _ _, HN.out.succ Hx.out hin⟩
        · rw [hin] at hcon
          have hge : (0 : Int) ≤ Lib.indexByte chars.data.toList x := of_decide_eq_true hcon.symm
          clear hcon
          go_wp2_with (go_at_fn (ρ.f 152); refine (Any.strings_IndexRune_ascii { L with } _ _ _ (by omega) (by omega)).mono ?_; rintro e w' ⟨rfl, hw⟩; rw [hw, hback])
          go_ret
          exact ⟨by rw [Lib.indexAny_hit HN.out Hx.out hin]; rfl, below_iterAt HB.out (Nat.le_refl _) _ _⟩
      · have hhi : 128 ≤ (s[i]'hi).toNat := by rw [hx]; omega
        have hnx := fun ty => run_next_any_at (P := P) wr w.heap.size s i ty hk hi
        obtain ⟨hspan, hbytes⟩ := decode_span s i hi hhi
        obtain ⟨h128, hwid⟩ := decode_high s i hi hhi
        have HS : Aside (∀ k, k < (Utf8.decode s i).2 → ∀ b, s.data.toList[i + k]? = some b → 128 ≤ b.toNat) := hbytes
        clear hbytes hx hk hhi
        obtain ⟨dr, hdr⟩ : ∃ dr, (Utf8.decode s i).1 = dr := ⟨_, rfl⟩
        obtain ⟨dw, hdw⟩ : ∃ dw, (Utf8.decode s i).2 = dw := ⟨_, rfl⟩
        rw [hdr] at hnx h128
        rw [hdw] at hnx hspan hwid HS
        clear hdr hdw
        have hdr : (128 : Int) ≤ (dr : Int) := by omega
        go_wp2_with (go_at_fn (ρ.f 152); refine (indexRune_hi { L with } _ _ _ hdr hcs HA.out).mono ?_; rintro e w' ⟨rfl, hw⟩)
        go_roundg (gk - dw)
        case measure => omega
        case rel =>
          refine ⟨i + dw, by omega, ?_, ?_, fun j b hj hb => ?_⟩
          · exact (hw.block _ (by rw [iterAt_size]; exact (Array.getElem?_eq_some_iff.1 HK.out).1)).trans (iterAt_heap _ _ _ _ _ HK.out)
          · have hge : w.heap.size ≤ (wr.iterAt w.heap.size s (i + dw)).heap.size := by
              rw [iterAt_size]; exact HB.out.size
            exact (below_iterAt HB.out (Nat.le_refl _) _ _).trans (hw.mono hge)
          · by_cases hji : j < i
            · exact HN.out j b hji hb
            · have h128b := HS.out (j - i) (by omega) b (by rw [show i + (j - i) = j by omega]; exact hb)
              rcases bcase' (chars.data.toList.contains b) with hc | hc
              · exfalso
                obtain ⟨q, hq⟩ := List.mem_iff_getElem?.1 (List.contains_iff_mem.1 hc)
                have := HA.out q b hq
                omega
              · exact hc
    · have hnx := fun ty => run_next_end_at (P := P) wr w.heap.size s i ty hk hi
      go_wp2
      go_ret
      have : i = s.size := by omega
      subst this
      exact ⟨by rw [Lib.indexAny_none (by rw [← Lib.size_eq]; exact HN.out)]; rfl, HB.out⟩

/-- strings.IndexAny, the looked-for bytes ASCII, the text whatever. -/
theorem indexAny_all (L : Lays.n153 P ρ) (h116 : (P.info? (ρ.t 116)).map (fun i => (i.zero, i.size)) = some (some (.agg (Array.replicate 256 (.bool false))), 256)) (s chars : ByteArray) (w : World) (hs : s.size < 4294967281) (hcs : chars.size < 4294967281)
    (hac : ∀ (j : Nat) b, chars.data.toList[j]? = some b → b.toNat < 128) :
    Calls P (ρ.f 153) #[.string s, .string chars] w fun e w' => e = .returned (.int .i64 (Lib.indexAny s.data.toList chars.data.toList)) ∧ Below w.heap.size w w' := by
  by_cases h0 : chars.size = 0
  · exact (Any.strings_IndexAny_none L s chars w h0).mono fun e w' ⟨h, hw⟩ => ⟨h, by rw [hw]; exact Below.refl _ _⟩
  · by_cases h1 : chars.size = 1
    · exact (Any.strings_IndexAny_one L s chars w h1 hac).mono fun e w' ⟨h, hw⟩ => ⟨h, by rw [hw]; exact Below.refl _ _⟩
    · by_cases h8 : s.size ≤ 8
      · exact indexAny_short L s chars w (by omega) h8 hcs hac
      · refine (Any.strings_IndexAny_long L (zero_of_info h116).1 (zero_of_info h116).2 s chars w (by omega) (by omega) hs hcs hac).mono fun e w' ⟨h, hw⟩ => ⟨h, ?_⟩
        rw [hw]
        exact ((Below.refl _ _).alloc (Nat.le_refl _) _).alloc (Nat.le_of_lt (by show _ < (Array.push _ _).size; simp)) _
end Go.Dk
