/-
 strings.IndexRune at a rune beyond ASCII, in a text of ASCII bytes: -1; and strings.IndexAny, the looked-for bytes ASCII, the text whatever. Over any program that holds the library's texts.
 DERIVED: THE SHELF's CONTRACTS AT THIS DUMP, IN PLAIN WORDS (tools/lay-plain.mjs out of 'TryzShelf.lean', which tools/lay-shelf.mjs wrote): THE SAME DECLARATIONS UNDER THE SAME NAMES: 'import', 'namespace', 'open', 'def', 'theorem' AND NOTHING ELSE: no command of the shelf's: FOR A HAND-IN. Each laying: the table of numbers ('.._ren') and one theorem, a field a fact of the dump's own or the kernel's compa
-/
import Derived.Test.YtlcienkhiklpaaaGreatDoorP0
import Derived.Shelf.Strings.IndexAnyAll
import Derived.Laws.RangeAny
import Derived.Laws.Runes
import Derived.Below
import Derived.Lib.OthersKept
import Derived.Shelf.RegionOpenPlain
import Derived.Shelf.Small.Utf8
import Derived.Shelf.Strings.Builder1
import Derived.Shelf.Strings.Builder2
import Derived.Shelf.Strings.OnBuilder
import Derived.Shelf.Strings.Trim
import Derived.Shelf.Small.Strs
import Derived.Shelf.Small.Wraps
import Derived.Shelf.Strconv.Itoa0
import Derived.Shelf.Strconv.Itoa1
import Derived.Shelf.LaysM
import Derived.Shelf.Strconv.Itoa2
import Derived.Shelf.Strconv.Itoa3
import Derived.Shelf.Strconv.Itoa4
import Derived.Shelf.Strings.Search1
import Derived.Shelf.Strings.Search2
import Derived.Shelf.Strings.Search3
import Derived.Shelf.Strings.Cut
import Derived.Shelf.Strings.Count
import Derived.Shelf.Strings.Shaped
import Derived.Shelf.Strings.Prefix
import Derived.Shelf.Strings.Split
import Derived.Shelf.Strings.Replace
import Derived.Shelf.Strings.SplitShaped
import Derived.Shelf.Unicode.Decode
import Derived.Shelf.Strings.Runes
import Derived.Shelf.Strings.RuneCount
import Derived.Shelf.Strings.IndexAny
import Derived.Shelf.Strings.AsciiSet
import Derived.Shelf.Strings.Explode
import Derived.Shelf.Unicode.DecodeSlow
import Derived.Test.YtlcienkhiklpaaaGreatDoorProg
import Derived.KernelRfl
set_option linter.unusedVariables false
set_option linter.unusedSimpArgs false
section
namespace Go.Dk
open Go.Proofs Go.Shelf Go.RowKit Go.Lib
variable {P : Program} {ρ : Ren}

theorem bcase' (b : Bool) : b = true ∨ b = false := by cases b <;> simp
theorem zrt (w : World) (s : ByteArray) (i : Nat) : Below w.heap.size w (w.iter s i) := (Below.refl _ _).alloc (Nat.le_refl _) _
set_option maxHeartbeats 8000000 in
set_option maxRecDepth 1000000 in
theorem zte (L : Lays.n152 P ρ) (s : ByteArray) (w : World) (hascii : ∀ (j : Nat) b,s.data.toList[j]? = some b → b.toNat < 128) :
  Calls P (ρ.f 152) #[.string s, .int .i32 65533] w fun e w' => e = .returned (.int .i64 (-1)) ∧ Below w.heap.size w w' := by
 have HA : Aside (∀ (j : Nat) b,s.data.toList[j]? = some b → b.toNat < 128) := hascii
 clear hascii
 have mixed := L.mixed
 have t3 := L.t3; have a3 := L.a3; have z3 := L.z3; have v3 := L.v3
 have t4 := L.t4; have a4 := L.a4; have z4 := L.z4; have v4 := L.v4
 have t5 := L.t5; have a5 := L.a5; have z5 := L.z5; have v5 := L.v5
 have t9 := L.t9; have a9 := L.a9; have z9 := L.z9; have v9 := L.v9
 have t21 := L.t21; have a21 := L.a21; have z21 := L.z21; have v21 := L.v21
 go_enter L.f152,Body.n152_ntmps ρ
 go_wp2
 go_loopg [5,6] s.size (fun g _ _ wx => ∃ i : Nat,i + g = s.size ∧ wx = w.iter s i)
 case atStart => exact ⟨0,by omega,rfl⟩
 case round =>
  obtain ⟨i,hig,rfl⟩ := hrel
  cases gk with
  | zero =>
   obtain rfl : i = s.size := by omega
   have hnx := run_next_end (P := P) w s s.size
   go_wp2
   go_ret
   exact ⟨rfl,zrt ..⟩
  | succ g =>
   have hi : i < s.size := by omega
   obtain ⟨x,hx⟩ : ∃ x : UInt8,s[i]'hi = x := ⟨_,rfl⟩
   have hxl : s.data.toList[i]? = some x := by rw [← hx]; exact Lib.data_getElem? s i hi
   have hx128 : x.toNat < 128 := HA.out i x hxl
   have hnx := fun ty => run_next_ascii (P := P) w s i ty hi (by rw [hx]; exact hx128)
   rw [hx] at hnx
   have hne : ((x.toNat : Int) == 65533) = false := beq_eq_false_iff_ne.2 (by omega)
   go_wp2
   go_roundg g
   case measure => omega
   case rel => exact ⟨i + 1,by omega,rfl⟩

set_option maxHeartbeats 8000000 in
set_option maxRecDepth 1000000 in
theorem ztf (L : Lays.n152 P ρ) (s : ByteArray) (r : Int) (w : World) (h1 : 128 ≤ r) (hne : (r == 65533) = false) (hv : Go.Lib.validRune r = false) :
  Calls P (ρ.f 152) #[.string s, .int .i32 r] w fun e w' => e = .returned (.int .i64 (-1)) ∧ w' = w := by
 have mixed := L.mixed
 have t3 := L.t3; have a3 := L.a3; have z3 := L.z3; have v3 := L.v3
 have t4 := L.t4; have a4 := L.a4; have z4 := L.z4; have v4 := L.v4
 have t5 := L.t5; have a5 := L.a5; have z5 := L.z5; have v5 := L.v5
 have t9 := L.t9; have a9 := L.a9; have z9 := L.z9; have v9 := L.v9
 have t21 := L.t21; have a21 := L.a21; have z21 := L.z21; have v21 := L.v21
 have e119 : ∀ args w,(callFunc (ρ.f 119) args).run P w = .ok (.enter (ρ.f 119) args) w := enters_of L.f119 (by kernel_rfl) rfl
 have h0 : (0 : Int) ≤ r := by omega
 have h2 : ¬ (r < 128) := by omega
 go_enter L.f152,Body.n152_ntmps ρ
 go_wp2_with (go_at_fn (ρ.f 119); refine (Any.utf8_ValidRune { L with } _ _).mono ?_; rintro e w' ⟨rfl,hw⟩; rw [hw,hv])
 go_ret
 exact ⟨rfl,rfl⟩

theorem zw0 (r : Int) (h1 : 128 ≤ r) (hv : Lib.validRune r = true) : 1 < (Utf8.encode r).size ∧ (Utf8.encode r).size ≤ 4 ∧ ∀ (h : (Utf8.encode r).size - 1 < (Utf8.encode r).size),128 ≤ ((Utf8.encode r)[(Utf8.encode r).size - 1]'h).toNat := by
 have hv' : Utf8.valid r = true := by
  simp only [Lib.validRune,decide_eq_true_eq] at hv
  simp [Utf8.valid]; omega
 exact encode_facts r hv' h1
theorem zEL (l : List UInt8) (c : UInt8) (hc : 128 ≤ c.toNat) (h : ∀ b ∈ l,b.toNat < 128) : Lib.indexByte l c = -1 := by
 induction l with
 | nil => rfl
 | cons b l ih =>
  have hb : (b == c) = false := by
   refine beq_eq_false_iff_ne.2 fun e => ?_
   have := h b (List.mem_cons_self ..)
   rw [e] at this; omega
  simp only [Lib.indexByte,hb,ih (fun x hx => h x (List.mem_cons_of_mem _ hx))]
  rfl
set_option maxHeartbeats 8000000 in
set_option maxRecDepth 1000000 in
theorem ztg (L : Lays.n152 P ρ) (s : ByteArray) (r : Int) (w : World) (h1 : 128 ≤ r) (hne : (r == 65533) = false) (hv : Go.Lib.validRune r = true) (hs : s.size < 4294967281) (hascii : ∀ (j : Nat) b,s.data.toList[j]? = some b → b.toNat < 128) :
  Calls P (ρ.f 152) #[.string s, .int .i32 r] w fun e w' => e = .returned (.int .i64 (-1)) ∧ Below w.heap.size w w' := by
 have HA : Aside (∀ (j : Nat) b,s.data.toList[j]? = some b → b.toNat < 128) := hascii
 clear hascii
 have mixed := L.mixed
 have t3 := L.t3; have a3 := L.a3; have z3 := L.z3; have v3 := L.v3
 have t4 := L.t4; have a4 := L.a4; have z4 := L.z4; have v4 := L.v4
 have t5 := L.t5; have a5 := L.a5; have z5 := L.z5; have v5 := L.v5
 have t9 := L.t9; have a9 := L.a9; have z9 := L.z9; have v9 := L.v9
 have t21 := L.t21; have a21 := L.a21; have z21 := L.z21; have v21 := L.v21
 have e119 : ∀ args w,(callFunc (ρ.f 119) args).run P w = .ok (.enter (ρ.f 119) args) w := enters_of L.f119 (by kernel_rfl) rfl
 have e137 : ∀ args w,(callFunc (ρ.f 137) args).run P w = .ok (.enter (ρ.f 137) args) w := enters_of L.f137 (by kernel_rfl) rfl
 have h0 : (0 : Int) ≤ r := by omega
 have h2 : ¬ (r < 128) := by omega
 have hsome : (P.underlying (ρ.t 21)).isSome = true := by rw [t21]; rfl
 obtain ⟨hz,h4,hl⟩ := zw0 r h1 hv
 obtain ⟨rs,hrs⟩ : ∃ rs,Utf8.encode r = rs := ⟨_,rfl⟩
 have hcv := fun w => run_convert_int_string (P := P) w (ρ.t 21) (ρ.t 9) .i32 r hsome t9
 rw [hrs] at hcv hz h4 hl
 obtain ⟨m,hm⟩ : ∃ m,rs.size = m + 1 := ⟨rs.size - 1,by omega⟩
 have hmr : m < rs.size := by omega
 have hlm : 128 ≤ (rs[m]'hmr).toNat := by
  have := hl (by omega)
  simpa only [show rs.size - 1 = m by omega] using this
 clear hl
 have hsz : (rs.size : Int) - 1 = (m : Int) := by omega
 obtain ⟨c,hc⟩ : ∃ c : UInt8,rs[m]'hmr = c := ⟨_,rfl⟩
 rw [hc] at hlm
 go_enter L.f152,Body.n152_ntmps ρ
 go_wp2_with (go_at_fn (ρ.f 119); refine (Any.utf8_ValidRune { L with } _ _).mono ?_; rintro e w' ⟨rfl,hw⟩; rw [hw,hv])
 go_step3
 go_wp2
 go_loopg [9,10,11,12] 0 (fun g v _ _ _ wx => v = .int .i64 (m : Int) ∧ wx = w)
 case atStart => exact ⟨rfl,rfl⟩
 case round =>
  obtain ⟨rfl,rfl⟩ := hrel
  by_cases hlt : (m : Int) < (s.size : Int)
  ·have hms : m < s.size := by omega
   obtain ⟨x,hx⟩ : ∃ x : UInt8,s[m]'hms = x := ⟨_,rfl⟩
   have hxl : s.data.toList[m]? = some x := by rw [← hx]; exact Lib.data_getElem? s m hms
   have hx128 : x.toNat < 128 := HA.out m x hxl
   have hne : ((x.toNat : Int) == (c.toNat : Int)) = false := beq_eq_false_iff_ne.2 (by omega)
   clear hxl
   go_wp2
   go_step3
   go_wp2
   go_region_o
   go_wp2
   have hno : Lib.indexByte (List.take (s.size - (m + 1)) (List.drop (m + 1) s.data.toList)) c = -1 := by
    refine zEL _ _ hlm fun b hb => ?_
    obtain ⟨j,hj⟩ := List.mem_iff_getElem?.1 (List.mem_of_mem_drop (List.mem_of_mem_take hb))
    exact HA.out j b hj
   have hlt0 : Lib.indexByte (List.take (s.size - (m + 1)) (List.drop (m + 1) s.data.toList)) c < 0 := by omega
   have hq1 : (0 : Int) ≤ (m : Int) + 1 := by omega
   have hq2 : (m : Int) + 1 ≤ (s.size : Int) := by omega
   have hwr : IntKind.i64.wrap ((m : Int) + 1) = (m : Int) + 1 := by simp [IntKind.wrap,IntKind.signed,IntKind.bits]; omega
   have hq3 : m + 1 ≤ s.size := hms
   have hq4 : ¬ ((s.size : Int) < (m : Int) + 1) := by omega
   have hq5 : ¬ (s.size < m + 1) := by omega
   have hq6 : (m : Int) < (m : Int) + 1 := by omega
   have hback : ((c.toNat : Int)).toNat.toUInt8 = c := by simp
   go_region_with_o (go_at_fn (ρ.f 137); refine (Any.strings_IndexByte { L with } _ _ _).mono ?_; rintro e w' ⟨rfl,rfl⟩)
   go_wp2
   simp only [Exit.noGoto,Exit.inBlock,Exit.then]
   go_ret
   exact ⟨rfl,((Below.refl _ _).drew).drew⟩
  ·go_wp2
   go_ret
   exact ⟨rfl,Below.refl _ _⟩

theorem zuY (L : Lays.n152 P ρ) (s : ByteArray) (r : Int) (w : World) (h1 : 128 ≤ r) (hs : s.size < 4294967281) (hascii : ∀ (j : Nat) b,s.data.toList[j]? = some b → b.toNat < 128) :
  Calls P (ρ.f 152) #[.string s, .int .i32 r] w fun e w' => e = .returned (.int .i64 (-1)) ∧ Below w.heap.size w w' := by
 by_cases he : r = 65533
 ·subst he; exact zte L s w hascii
 ·have hne : (r == 65533) = false := beq_eq_false_iff_ne.2 he
  cases hv : Lib.validRune r with
  | false => exact (ztf L s r w h1 hne hv).mono fun e w' ⟨h,hw⟩ => ⟨h,by rw [hw]; exact Below.refl _ _⟩
  | true => exact ztg L s r w h1 hne hv hs hascii

theorem zw1 (s : ByteArray) (i : Nat) (h : i < s.size) (ha : 128 ≤ (s[i]'h).toNat) : i + (Utf8.decode s i).2 ≤ s.size ∧ ∀ k,k < (Utf8.decode s i).2 → ∀ b,s.data.toList[i + k]? = some b → 128 ≤ b.toNat := by
 have hg : ∀ k (hk : i + k < s.size),s.get! (i + k) = s[i + k]'hk := fun k hk => by
  show s.get! (i + k) = _
  simp [ByteArray.get!,getElem!_pos,hk]
  rfl
 have key : ∀ k b,s.data.toList[i + k]? = some b → ∃ hk : i + k < s.size,s[i + k]'hk = b := by
  intro k b hb
  have hl := (List.getElem?_eq_some_iff.1 hb).1
  have hk : i + k < s.size := by rw [Lib.size_eq]; exact hl
  refine ⟨hk,?_⟩
  have := Lib.data_getElem? s (i + k) hk
  rw [hb] at this
  exact (Option.some.inj this).symm
 have hb0 : ¬ (s.get! (i + 0)).toNat < 128 := by rw [hg 0 h]; simpa using ha
 have hcont : ∀ k,(decide (i + k < s.size) && (s.get! (i + k)).toNat / 64 == 2) = true → i + k < s.size ∧ ∀ b,s.data.toList[i + k]? = some b → 128 ≤ b.toNat := by
  intro k hk
  simp only [Bool.and_eq_true,decide_eq_true_eq,beq_iff_eq] at hk
  refine ⟨hk.1,fun b hb => ?_⟩
  obtain ⟨_,rfl⟩ := key k b hb
  rw [hg k hk.1] at hk
  omega
 have h00 : ∀ b,s.data.toList[i + 0]? = some b → 128 ≤ b.toNat := by
  intro b hb
  obtain ⟨_,rfl⟩ := key 0 b hb
  simpa using ha
 have one : i + 1 ≤ s.size ∧ ∀ k,k < 1 → ∀ b,s.data.toList[i + k]? = some b → 128 ≤ b.toNat := ⟨h,fun k hk => by
  have h0 : k = 0 := by omega
  subst h0
  exact h00⟩
 have step : ∀ n,(i + n ≤ s.size ∧ ∀ k,k < n → ∀ b,s.data.toList[i + k]? = some b → 128 ≤ b.toNat) → (decide (i + n < s.size) && (s.get! (i + n)).toNat / 64 == 2) = true → (i + (n + 1) ≤ s.size ∧ ∀ k,k < n + 1 → ∀ b,s.data.toList[i + k]? = some b → 128 ≤ b.toNat) := by
  intro n hn hc
  obtain ⟨hlt,hb⟩ := hcont n hc
  refine ⟨by omega,fun k hk => ?_⟩
  by_cases e : k = n
  ·subst e; exact hb
  ·exact hn.2 k (by omega)
 simp only [Utf8.decode,hb0,if_false]
 split
 ·rename_i hc
  rw [Bool.and_eq_true] at hc
  split
  ·exact step 1 one hc.2
  ·exact one
 ·split
  ·rename_i hc
   rw [Bool.and_eq_true,Bool.and_eq_true] at hc
   split
   ·exact step 2 (step 1 one hc.1.2) hc.2
   ·exact one
  ·split
   ·rename_i hc
    rw [Bool.and_eq_true,Bool.and_eq_true,Bool.and_eq_true] at hc
    split
    ·exact step 3 (step 2 (step 1 one hc.1.1.2) hc.1.2) hc.2
    ·exact one
   ·exact one

set_option maxHeartbeats 8000000 in
set_option maxRecDepth 1000000 in
theorem zru (L : Lays.n153 P ρ) (s chars : ByteArray) (w : World) (h2 : 2 ≤ chars.size) (h8 : s.size ≤ 8) (hcs : chars.size < 4294967281) (hascii : ∀ (j : Nat) b,chars.data.toList[j]? = some b → b.toNat < 128) :
  Calls P (ρ.f 153) #[.string s, .string chars] w fun e w' => e = .returned (.int .i64 (Lib.indexAny s.data.toList chars.data.toList)) ∧ Below w.heap.size w w' := by
 have HA : Aside (∀ (j : Nat) b,chars.data.toList[j]? = some b → b.toNat < 128) := hascii
 clear hascii
 have hemp : chars.toList.isEmpty = false := by
  rw [Lib.toList_data]
  cases h : chars.data.toList with
  | nil => have := Lib.size_eq chars; rw [h,List.length_nil] at this; omega
  | cons _ _ => rfl
 have hn1 : ((chars.size : Int) == 1) = false := beq_eq_false_iff_ne.2 (by omega)
 have h8z : decide ((8 : Int) < (s.size : Int)) = false := decide_eq_false (by omega)
 have t3 := L.t3; have a3 := L.a3; have z3 := L.z3; have v3 := L.v3
 have t4 := L.t4; have a4 := L.a4; have z4 := L.z4; have v4 := L.v4
 have t5 := L.t5; have a5 := L.a5; have z5 := L.z5; have v5 := L.v5
 have t9 := L.t9; have a9 := L.a9; have z9 := L.z9; have v9 := L.v9
 have t21 := L.t21; have a21 := L.a21; have z21 := L.z21; have v21 := L.v21
 have e152 : ∀ args w,(callFunc (ρ.f 152) args).run P w = .ok (.enter (ρ.f 152) args) w := enters_of L.f152 (by kernel_rfl) rfl
 have e226 : ∀ args w,(callFunc (ρ.f 226) args).run P w = .ok (.enter (ρ.f 226) args) w := enters_of L.f226 (by kernel_rfl) rfl
 go_enter L.f153,Body.n153_ntmps ρ
 go_wp2_with (go_at_fn (ρ.f 226); refine (Any.strings_shouldUseASCIISet { L with } _ _).mono ?_; rintro e w' ⟨rfl,hw⟩; rw [hw,h8z])
 go_loopg [9,10] s.size (fun g _ _ wx => ∃ i : Nat,i + g = s.size ∧ wx.heap[w.heap.size]? = some (.stringIter s i) ∧ Below w.heap.size w wx ∧ Lib.NoAny s.data.toList chars.data.toList i)
 case atStart => exact ⟨0,by omega,World.iter_heap ..,zrt ..,Lib.NoAny.zero _ _⟩
 case round =>
  obtain ⟨i,hig,hk,hbel,hno⟩ := hrel
  have HN : Aside (Lib.NoAny s.data.toList chars.data.toList i) := hno
  have HB : Aside (Below w.heap.size w wr) := hbel
  clear hno hbel
  by_cases hi : i < s.size
  ·obtain ⟨x,hx⟩ : ∃ x : UInt8,s[i]'hi = x := ⟨_,rfl⟩
   have hxl : s.data.toList[i]? = some x := by rw [← hx]; exact Lib.data_getElem? s i hi
   have Hx : Aside (s.data.toList[i]? = some x) := hxl
   clear hxl
   have HK : Aside (wr.heap[w.heap.size]? = some (.stringIter s i)) := hk
   have HX2 : Aside (s[i]'hi = x) := hx
   by_cases hx128 : x.toNat < 128
   ·have hnx := fun ty => run_next_ascii_at (P := P) wr w.heap.size s i ty hk hi (by rw [hx]; exact hx128)
    rw [hx] at hnx
    clear hx hk
    have hcon := Lib.contains_iff_indexByte chars.data.toList x
    have hback : ((x.toNat : Int)).toNat.toUInt8 = x := by simp
    cases hin : chars.data.toList.contains x
    ·rw [hin] at hcon
     have hlt : ¬ ((0 : Int) ≤ Lib.indexByte chars.data.toList x) := of_decide_eq_false hcon.symm
     clear hcon
     go_wp2_with (go_at_fn (ρ.f 152); refine (Any.strings_IndexRune_ascii { L with } _ _ _ (by omega) (by omega)).mono ?_; rintro e w' ⟨rfl,hw⟩; rw [hw,hback])
     go_roundg (gk - 1)
     case measure => omega
     case rel => exact ⟨i + 1,by omega,iterAt_heap _ _ _ _ _ HK.out,below_iterAt HB.out (Nat.le_refl _) _ _,HN.out.succ Hx.out hin⟩
    ·rw [hin] at hcon
     have hge : (0 : Int) ≤ Lib.indexByte chars.data.toList x := of_decide_eq_true hcon.symm
     clear hcon
     go_wp2_with (go_at_fn (ρ.f 152); refine (Any.strings_IndexRune_ascii { L with } _ _ _ (by omega) (by omega)).mono ?_; rintro e w' ⟨rfl,hw⟩; rw [hw,hback])
     go_ret
     exact ⟨by rw [Lib.indexAny_hit HN.out Hx.out hin]; rfl,below_iterAt HB.out (Nat.le_refl _) _ _⟩
   ·have hhi : 128 ≤ (s[i]'hi).toNat := by rw [hx]; omega
    have hnx := fun ty => run_next_any_at (P := P) wr w.heap.size s i ty hk hi
    obtain ⟨hspan,hbytes⟩ := zw1 s i hi hhi
    obtain ⟨h128,hwid⟩ := decode_high s i hi hhi
    have HS : Aside (∀ k,k < (Utf8.decode s i).2 → ∀ b,s.data.toList[i + k]? = some b → 128 ≤ b.toNat) := hbytes
    clear hbytes hx hk hhi
    obtain ⟨dr,hdr⟩ : ∃ dr,(Utf8.decode s i).1 = dr := ⟨_,rfl⟩
    obtain ⟨dw,hdw⟩ : ∃ dw,(Utf8.decode s i).2 = dw := ⟨_,rfl⟩
    rw [hdr] at hnx h128
    rw [hdw] at hnx hspan hwid HS
    clear hdr hdw
    have hdr : (128 : Int) ≤ (dr : Int) := by omega
    go_wp2_with (go_at_fn (ρ.f 152); refine (zuY { L with } _ _ _ hdr hcs HA.out).mono ?_; rintro e w' ⟨rfl,hw⟩)
    go_roundg (gk - dw)
    case measure => omega
    case rel =>
     refine ⟨i + dw,by omega,?_,?_,fun j b hj hb => ?_⟩
     ·exact (hw.block _ (by rw [iterAt_size]; exact (Array.getElem?_eq_some_iff.1 HK.out).1)).trans (iterAt_heap _ _ _ _ _ HK.out)
     ·have hge : w.heap.size ≤ (wr.iterAt w.heap.size s (i + dw)).heap.size := by
       rw [iterAt_size]; exact HB.out.size
      exact (below_iterAt HB.out (Nat.le_refl _) _ _).trans (hw.mono hge)
     ·by_cases hji : j < i
      ·exact HN.out j b hji hb
      ·have h128b := HS.out (j - i) (by omega) b (by rw [show i + (j - i) = j by omega]; exact hb)
       rcases bcase' (chars.data.toList.contains b) with hc | hc
       ·exfalso
        obtain ⟨q,hq⟩ := List.mem_iff_getElem?.1 (List.contains_iff_mem.1 hc)
        have := HA.out q b hq
        omega
       ·exact hc
  ·have hnx := fun ty => run_next_end_at (P := P) wr w.heap.size s i ty hk hi
   go_wp2
   go_ret
   have : i = s.size := by omega
   subst this
   exact ⟨by rw [Lib.indexAny_none (by rw [← Lib.size_eq]; exact HN.out)]; rfl,HB.out⟩

theorem zuZ (L : Lays.n153 P ρ) (h116 : (P.info? (ρ.t 116)).map (fun i => (i.zero,i.size)) = some (some (.agg (Array.replicate 256 (.bool false))),256)) (s chars : ByteArray) (w : World) (hs : s.size < 4294967281) (hcs : chars.size < 4294967281)
  (hac : ∀ (j : Nat) b,chars.data.toList[j]? = some b → b.toNat < 128) :
  Calls P (ρ.f 153) #[.string s, .string chars] w fun e w' => e = .returned (.int .i64 (Lib.indexAny s.data.toList chars.data.toList)) ∧ Below w.heap.size w w' := by
 by_cases h0 : chars.size = 0
 ·exact (Any.strings_IndexAny_none L s chars w h0).mono fun e w' ⟨h,hw⟩ => ⟨h,by rw [hw]; exact Below.refl _ _⟩
 ·by_cases h1 : chars.size = 1
  ·exact (Any.strings_IndexAny_one L s chars w h1 hac).mono fun e w' ⟨h,hw⟩ => ⟨h,by rw [hw]; exact Below.refl _ _⟩
  ·by_cases h8 : s.size ≤ 8
   ·exact zru L s chars w (by omega) h8 hcs hac
   ·refine (Any.strings_IndexAny_long L (zero_of_info h116).1 (zero_of_info h116).2 s chars w (by omega) (by omega) hs hcs hac).mono fun e w' ⟨h,hw⟩ => ⟨h,?_⟩
    rw [hw]
    exact ((Below.refl _ _).alloc (Nat.le_refl _) _).alloc (Nat.le_of_lt (by show _ < (Array.push _ _).size; simp)) _
end Go.Dk
end
section
namespace Go.Proofs
open Go.Shelf
def Tryz.lays156_ren : Go.Shelf.Ren := ⟨fun | 156 => 79 | 165 => 134 | 166 => 135 | 169 => 136 | 240 => 204 | 241 => 205 | 276 => 265 | 277 => 266 | n => n,fun | 31 => 46 | 9 => 9 | 3 => 3 | 4 => 4 | 0 => 0 | 20 => 20 | 72 => 200 | 76 => 204 | 70 => 197 | 37 => 198 | 75 => 203 | 127 => 260 | 164 => 307 | 5 => 5 | 80 => 206 | n => n,fun | n => n⟩
theorem Tryz.lays156 : Go.Proofs.Lays.n156 Tryz.prog Tryz.lays156_ren := {
 mixed := by kernel_rfl
 f156 := Tryz.func79.trans (congrArg some (by kernel_rfl))
 f165 := Tryz.func134.trans (congrArg some (by kernel_rfl))
 f166 := Tryz.func135.trans (congrArg some (by kernel_rfl))
 f169 := Tryz.func136.trans (congrArg some (by kernel_rfl))
 f240 := Tryz.func204.trans (congrArg some (by kernel_rfl))
 f241 := Tryz.func205.trans (congrArg some (by kernel_rfl))
 f276 := Tryz.func265.trans (congrArg some (by kernel_rfl))
 f277 := Tryz.func266.trans (congrArg some (by kernel_rfl))
 t0 := Tryz.underlying0
 a0 := Tryz.isAgg0
 z0 := Tryz.sizeOf0
 v0 := Tryz.zeroValue0
 t3 := Tryz.underlying3
 a3 := Tryz.isAgg3
 z3 := Tryz.sizeOf3
 v3 := Tryz.zeroValue3
 t4 := Tryz.underlying4
 a4 := Tryz.isAgg4
 z4 := Tryz.sizeOf4
 v4 := Tryz.zeroValue4
 t9 := Tryz.underlying9
 a9 := Tryz.isAgg9
 z9 := Tryz.sizeOf9
 v9 := Tryz.zeroValue9
 t20 := Tryz.underlying20
 a20 := Tryz.isAgg20
 z20 := Tryz.sizeOf20
 v20 := Tryz.zeroValue20
 t31 := Tryz.underlying46
 a31 := Tryz.isAgg46
 z31 := Tryz.sizeOf46
 v31 := Tryz.zeroValue46
 t37 := Tryz.underlying198
 a37 := Tryz.isAgg198
 z37 := Tryz.sizeOf198
 v37 := Tryz.zeroValue198
 t70 := Tryz.underlying197
 a70 := Tryz.isAgg197
 z70 := Tryz.sizeOf197
 v70 := Tryz.zeroValue197
 t72 := Tryz.underlying200
 a72 := Tryz.isAgg200
 z72 := Tryz.sizeOf200
 v72 := Tryz.zeroValue200
 t75 := Tryz.underlying203
 a75 := Tryz.isAgg203
 z75 := Tryz.sizeOf203
 v75 := Tryz.zeroValue203
 t76 := Tryz.underlying204
 a76 := Tryz.isAgg204
 z76 := Tryz.sizeOf204
 v76 := Tryz.zeroValue204
 t127 := Tryz.underlying260
 a127 := Tryz.isAgg260
 z127 := Tryz.sizeOf260
 v127 := Tryz.zeroValue260
 t164 := Tryz.underlying307
 a164 := Tryz.isAgg307
 z164 := Tryz.sizeOf307
 v164 := Tryz.zeroValue307 }
theorem Tryz.Builder_Extra_156 : Builder.Extra Tryz.prog Tryz.lays156_ren := {
 sizeBuilder := by kernel_rfl
 liesBuilder := by kernel_rfl
 t5 := Tryz.underlying5
 a5 := Tryz.isAgg5
 z5 := Tryz.sizeOf5
 v5 := Tryz.zeroValue5
 infoByte := by kernel_rfl
 cellsByte := by kernel_rfl
 sizeByte := by kernel_rfl
 neB5 := by decide }
open Go.RowKit in
theorem Tryz.strings_Join_none (a : Option Addr) (c : Nat) (sep : ByteArray) (w : World) :
  Calls Tryz.prog 79 #[.slice a 0 c, .string sep] w fun e w' => e = .returned (.string ⟨#[]⟩) ∧ w' = w := Any.strings_Join_none Tryz.lays156 Tryz.Builder_Extra_156 a c sep w
open Go.RowKit in
theorem Tryz.strings_Join (bk o c : Nat) (xs : List ByteArray) (sep : ByteArray) (w : World) (hcells : ∀ (j : Nat) x,xs[j]? = some x → w.cell? ⟨bk,o + j,none⟩ = some (.string x)) (hbk : bk < w.heap.size) (hN : xs.length ≤ 140737488355328) (hcap : xs.length ≤ c) (hlen : (Lib.join (xs.map (·.data.toList)) sep.data.toList).length ≤ 140737488355328) :
  Calls Tryz.prog 79 #[.slice (some ⟨bk,o,none⟩) xs.length c, .string sep] w fun e w' => e = .returned (.string ⟨(Lib.join (xs.map (·.data.toList)) sep.data.toList).toArray⟩) ∧ Below w.heap.size w w' := Any.strings_Join Tryz.lays156 Tryz.Builder_Extra_156 bk o c xs sep w hcells hbk hN hcap hlen
def Tryz.lays162_ren : Go.Shelf.Ren := ⟨fun | 162 => 254 | 232 => 87 | 227 => 88 | 234 => 90 | 236 => 92 | 228 => 151 | 271 => 154 | 151 => 153 | 120 => 214 | 197 => 152 | 152 => 206 | 260 => 213 | 137 => 212 | 119 => 267 | 224 => 268 | 225 => 269 | 217 => 272 | 266 => 304 | n => n,fun | 9 => 9 | 4 => 4 | 3 => 3 | 5 => 5 | 117 => 145 | 116 => 144 | 0 => 0 | 124 => 148 | 21 => 21 | 105 => 218 | 46 => 312 | 119 => 313 | 139 => 316 | 138 => 315 | n => n,fun | 3 => 1 | 4 => 2 | n => n⟩
theorem Tryz.lays162 : Go.Proofs.Lays.n162 Tryz.prog Tryz.lays162_ren := {
 mixed := by kernel_rfl
 f119 := Tryz.func267.trans (congrArg some (by kernel_rfl))
 f120 := Tryz.func214.trans (congrArg some (by kernel_rfl))
 f137 := Tryz.func212.trans (congrArg some (by kernel_rfl))
 f151 := Tryz.func153.trans (congrArg some (by kernel_rfl))
 f152 := Tryz.func206.trans (congrArg some (by kernel_rfl))
 f162 := Tryz.func254.trans (congrArg some (by kernel_rfl))
 f197 := Tryz.func152.trans (congrArg some (by kernel_rfl))
 f217 := Tryz.func272.trans (congrArg some (by kernel_rfl))
 f224 := Tryz.func268.trans (congrArg some (by kernel_rfl))
 f225 := Tryz.func269.trans (congrArg some (by kernel_rfl))
 f227 := Tryz.func88.trans (congrArg some (by kernel_rfl))
 f228 := Tryz.func151.trans (congrArg some (by kernel_rfl))
 f232 := Tryz.func87.trans (congrArg some (by kernel_rfl))
 f234 := Tryz.func90.trans (congrArg some (by kernel_rfl))
 f236 := Tryz.func92.trans (congrArg some (by kernel_rfl))
 f260 := Tryz.func213.trans (congrArg some (by kernel_rfl))
 f266 := Tryz.func304.trans (congrArg some (by kernel_rfl))
 f271 := Tryz.func154.trans (congrArg some (by kernel_rfl))
 t0 := Tryz.underlying0
 a0 := Tryz.isAgg0
 z0 := Tryz.sizeOf0
 v0 := Tryz.zeroValue0
 t3 := Tryz.underlying3
 a3 := Tryz.isAgg3
 z3 := Tryz.sizeOf3
 v3 := Tryz.zeroValue3
 t4 := Tryz.underlying4
 a4 := Tryz.isAgg4
 z4 := Tryz.sizeOf4
 v4 := Tryz.zeroValue4
 t5 := Tryz.underlying5
 a5 := Tryz.isAgg5
 z5 := Tryz.sizeOf5
 v5 := Tryz.zeroValue5
 t9 := Tryz.underlying9
 a9 := Tryz.isAgg9
 z9 := Tryz.sizeOf9
 v9 := Tryz.zeroValue9
 t21 := Tryz.underlying21
 a21 := Tryz.isAgg21
 z21 := Tryz.sizeOf21
 v21 := Tryz.zeroValue21
 t46 := Tryz.underlying312
 a46 := Tryz.isAgg312
 z46 := Tryz.sizeOf312
 v46 := Tryz.zeroValue312
 t105 := Tryz.underlying218
 a105 := Tryz.isAgg218
 z105 := Tryz.sizeOf218
 v105 := Tryz.zeroValue218
 t116 := Tryz.underlying144
 a116 := Tryz.isAgg144
 z116 := Tryz.sizeOf144
 t117 := Tryz.underlying145
 a117 := Tryz.isAgg145
 z117 := Tryz.sizeOf145
 v117 := Tryz.zeroValue145
 t119 := Tryz.underlying313
 a119 := Tryz.isAgg313
 z119 := Tryz.sizeOf313
 t124 := Tryz.underlying148
 a124 := Tryz.isAgg148
 z124 := Tryz.sizeOf148
 v124 := Tryz.zeroValue148
 t138 := Tryz.underlying315
 a138 := Tryz.isAgg315
 z138 := Tryz.sizeOf315
 v138 := Tryz.zeroValue315
 t139 := Tryz.underlying316
 a139 := Tryz.isAgg316
 z139 := Tryz.sizeOf316
 v139 := Tryz.zeroValue316
 g3 := by kernel_rfl
 g4 := by kernel_rfl }
def Tryz.lays160_ren : Go.Shelf.Ren := ⟨fun | 160 => 49 | 232 => 87 | 231 => 86 | 227 => 88 | 234 => 90 | 233 => 89 | 236 => 92 | 235 => 91 | 228 => 151 | 271 => 154 | 151 => 153 | 197 => 152 | 120 => 214 | 152 => 206 | 260 => 213 | 137 => 212 | 119 => 267 | 224 => 268 | 225 => 269 | 217 => 272 | 266 => 304 | n => n,fun | 9 => 9 | 4 => 4 | 3 => 3 | 5 => 5 | 117 => 145 | 116 => 144 | 0 => 0 | 124 => 148 | 21 => 21 | 105 => 218 | 46 => 312 | 119 => 313 | 139 => 316 | 138 => 315 | n => n,fun | 3 => 1 | 4 => 2 | n => n⟩
theorem Tryz.lays160 : Go.Proofs.Lays.n160 Tryz.prog Tryz.lays160_ren := {
 mixed := by kernel_rfl
 f119 := Tryz.func267.trans (congrArg some (by kernel_rfl))
 f120 := Tryz.func214.trans (congrArg some (by kernel_rfl))
 f137 := Tryz.func212.trans (congrArg some (by kernel_rfl))
 f151 := Tryz.func153.trans (congrArg some (by kernel_rfl))
 f152 := Tryz.func206.trans (congrArg some (by kernel_rfl))
 f160 := Tryz.func49.trans (congrArg some (by kernel_rfl))
 f197 := Tryz.func152.trans (congrArg some (by kernel_rfl))
 f217 := Tryz.func272.trans (congrArg some (by kernel_rfl))
 f224 := Tryz.func268.trans (congrArg some (by kernel_rfl))
 f225 := Tryz.func269.trans (congrArg some (by kernel_rfl))
 f227 := Tryz.func88.trans (congrArg some (by kernel_rfl))
 f228 := Tryz.func151.trans (congrArg some (by kernel_rfl))
 f231 := Tryz.func86.trans (congrArg some (by kernel_rfl))
 f232 := Tryz.func87.trans (congrArg some (by kernel_rfl))
 f233 := Tryz.func89.trans (congrArg some (by kernel_rfl))
 f234 := Tryz.func90.trans (congrArg some (by kernel_rfl))
 f235 := Tryz.func91.trans (congrArg some (by kernel_rfl))
 f236 := Tryz.func92.trans (congrArg some (by kernel_rfl))
 f260 := Tryz.func213.trans (congrArg some (by kernel_rfl))
 f266 := Tryz.func304.trans (congrArg some (by kernel_rfl))
 f271 := Tryz.func154.trans (congrArg some (by kernel_rfl))
 t0 := Tryz.underlying0
 a0 := Tryz.isAgg0
 z0 := Tryz.sizeOf0
 v0 := Tryz.zeroValue0
 t3 := Tryz.underlying3
 a3 := Tryz.isAgg3
 z3 := Tryz.sizeOf3
 v3 := Tryz.zeroValue3
 t4 := Tryz.underlying4
 a4 := Tryz.isAgg4
 z4 := Tryz.sizeOf4
 v4 := Tryz.zeroValue4
 t5 := Tryz.underlying5
 a5 := Tryz.isAgg5
 z5 := Tryz.sizeOf5
 v5 := Tryz.zeroValue5
 t9 := Tryz.underlying9
 a9 := Tryz.isAgg9
 z9 := Tryz.sizeOf9
 v9 := Tryz.zeroValue9
 t21 := Tryz.underlying21
 a21 := Tryz.isAgg21
 z21 := Tryz.sizeOf21
 v21 := Tryz.zeroValue21
 t46 := Tryz.underlying312
 a46 := Tryz.isAgg312
 z46 := Tryz.sizeOf312
 v46 := Tryz.zeroValue312
 t105 := Tryz.underlying218
 a105 := Tryz.isAgg218
 z105 := Tryz.sizeOf218
 v105 := Tryz.zeroValue218
 t116 := Tryz.underlying144
 a116 := Tryz.isAgg144
 z116 := Tryz.sizeOf144
 t117 := Tryz.underlying145
 a117 := Tryz.isAgg145
 z117 := Tryz.sizeOf145
 v117 := Tryz.zeroValue145
 t119 := Tryz.underlying313
 a119 := Tryz.isAgg313
 z119 := Tryz.sizeOf313
 t124 := Tryz.underlying148
 a124 := Tryz.isAgg148
 z124 := Tryz.sizeOf148
 v124 := Tryz.zeroValue148
 t138 := Tryz.underlying315
 a138 := Tryz.isAgg315
 z138 := Tryz.sizeOf315
 v138 := Tryz.zeroValue315
 t139 := Tryz.underlying316
 a139 := Tryz.isAgg316
 z139 := Tryz.sizeOf316
 v139 := Tryz.zeroValue316
 g3 := by kernel_rfl
 g4 := by kernel_rfl }
def Tryz.lays119_ren : Go.Shelf.Ren := ⟨fun | 119 => 267 | n => n,fun | 21 => 21 | 4 => 4 | n => n,fun | n => n⟩
theorem Tryz.lays119 : Go.Proofs.Lays.n119 Tryz.prog Tryz.lays119_ren := {
 mixed := by kernel_rfl
 f119 := Tryz.func267.trans (congrArg some (by kernel_rfl))
 t4 := Tryz.underlying4
 a4 := Tryz.isAgg4
 z4 := Tryz.sizeOf4
 v4 := Tryz.zeroValue4
 t21 := Tryz.underlying21
 a21 := Tryz.isAgg21
 z21 := Tryz.sizeOf21
 v21 := Tryz.zeroValue21 }
theorem Tryz.utf8_ValidRune (r : Int) (w : World) :
  Calls Tryz.prog 267 #[.int .i32 r] w fun e w' => e = .returned (.bool (Lib.validRune r)) ∧ w' = w := Any.utf8_ValidRune Tryz.lays119 r w
def Tryz.lays137_ren : Go.Shelf.Ren := ⟨fun | 137 => 212 | 217 => 272 | 266 => 304 | n => n,fun | 9 => 9 | 5 => 5 | 3 => 3 | n => n,fun | n => n⟩
theorem Tryz.lays137 : Go.Proofs.Lays.n137 Tryz.prog Tryz.lays137_ren := {
 mixed := by kernel_rfl
 f137 := Tryz.func212.trans (congrArg some (by kernel_rfl))
 f217 := Tryz.func272.trans (congrArg some (by kernel_rfl))
 f266 := Tryz.func304.trans (congrArg some (by kernel_rfl))
 t3 := Tryz.underlying3
 a3 := Tryz.isAgg3
 z3 := Tryz.sizeOf3
 v3 := Tryz.zeroValue3
 t5 := Tryz.underlying5
 a5 := Tryz.isAgg5
 z5 := Tryz.sizeOf5
 v5 := Tryz.zeroValue5
 t9 := Tryz.underlying9
 a9 := Tryz.isAgg9
 z9 := Tryz.sizeOf9
 v9 := Tryz.zeroValue9 }
open Go.RowKit in
theorem Tryz.strings_IndexByte (s : ByteArray) (c : Int) (w : World) :
  Calls Tryz.prog 212 #[.string s, .int .u8 c] w fun e w' => e = .returned (.int .i64 (Lib.indexByte s.data.toList c.toNat.toUInt8)) ∧ w' = w := Any.strings_IndexByte Tryz.lays137 s c w
def Tryz.lays210_ren : Go.Shelf.Ren := ⟨fun | 210 => 279 | 206 => 226 | n => n,fun | 9 => 9 | 4 => 4 | 3 => 3 | n => n,fun | n => n⟩
theorem Tryz.lays210 : Go.Proofs.Lays.n210 Tryz.prog Tryz.lays210_ren := {
 mixed := by kernel_rfl
 f206 := Tryz.func226.trans (congrArg some (by kernel_rfl))
 f210 := Tryz.func279.trans (congrArg some (by kernel_rfl))
 t3 := Tryz.underlying3
 a3 := Tryz.isAgg3
 z3 := Tryz.sizeOf3
 v3 := Tryz.zeroValue3
 t4 := Tryz.underlying4
 a4 := Tryz.isAgg4
 z4 := Tryz.sizeOf4
 v4 := Tryz.zeroValue4
 t9 := Tryz.underlying9
 a9 := Tryz.isAgg9
 z9 := Tryz.sizeOf9
 v9 := Tryz.zeroValue9 }
open Go.RowKit in
theorem Tryz.stringslite_CutPrefix (s p : ByteArray) (w : World) :
  Calls Tryz.prog 279 #[.string s, .string p] w fun e w' => e = .returned (.tuple #[.string ⟨(Lib.trimPrefix s.data.toList p.data.toList).toArray⟩, .bool (Lib.hasPrefix s.data.toList p.data.toList)]) ∧ w' = w := Any.stringslite_CutPrefix Tryz.lays210 s p w
def Tryz.lays103_ren : Go.Shelf.Ren := ⟨fun | 103 => 229 | 210 => 279 | 206 => 226 | n => n,fun | 9 => 9 | 4 => 4 | 24 => 170 | 3 => 3 | n => n,fun | n => n⟩
theorem Tryz.lays103 : Go.Proofs.Lays.n103 Tryz.prog Tryz.lays103_ren := {
 mixed := by kernel_rfl
 f103 := Tryz.func229.trans (congrArg some (by kernel_rfl))
 f206 := Tryz.func226.trans (congrArg some (by kernel_rfl))
 f210 := Tryz.func279.trans (congrArg some (by kernel_rfl))
 t3 := Tryz.underlying3
 a3 := Tryz.isAgg3
 z3 := Tryz.sizeOf3
 v3 := Tryz.zeroValue3
 t4 := Tryz.underlying4
 a4 := Tryz.isAgg4
 z4 := Tryz.sizeOf4
 v4 := Tryz.zeroValue4
 t9 := Tryz.underlying9
 a9 := Tryz.isAgg9
 z9 := Tryz.sizeOf9
 v9 := Tryz.zeroValue9
 t24 := Tryz.underlying170
 a24 := Tryz.isAgg170
 z24 := Tryz.sizeOf170
 v24 := Tryz.zeroValue170 }
open Go.RowKit in
theorem Tryz.strings_CutPrefix (s p : ByteArray) (w : World) :
  Calls Tryz.prog 229 #[.string s, .string p] w fun e w' => e = .returned (.tuple #[.string ⟨(Lib.trimPrefix s.data.toList p.data.toList).toArray⟩, .bool (Lib.hasPrefix s.data.toList p.data.toList)]) ∧ w' = w := Any.strings_CutPrefix Tryz.lays103 s p w
def Tryz.lays211_ren : Go.Shelf.Ren := ⟨fun | 211 => 313 | 207 => 280 | n => n,fun | 9 => 9 | 4 => 4 | 3 => 3 | n => n,fun | n => n⟩
theorem Tryz.lays211 : Go.Proofs.Lays.n211 Tryz.prog Tryz.lays211_ren := {
 mixed := by kernel_rfl
 f207 := Tryz.func280.trans (congrArg some (by kernel_rfl))
 f211 := Tryz.func313.trans (congrArg some (by kernel_rfl))
 t3 := Tryz.underlying3
 a3 := Tryz.isAgg3
 z3 := Tryz.sizeOf3
 v3 := Tryz.zeroValue3
 t4 := Tryz.underlying4
 a4 := Tryz.isAgg4
 z4 := Tryz.sizeOf4
 v4 := Tryz.zeroValue4
 t9 := Tryz.underlying9
 a9 := Tryz.isAgg9
 z9 := Tryz.sizeOf9
 v9 := Tryz.zeroValue9 }
open Go.RowKit in
theorem Tryz.stringslite_CutSuffix (s p : ByteArray) (w : World) (hs : s.size ≤ 9223372036854775807) :
  Calls Tryz.prog 313 #[.string s, .string p] w fun e w' => e = .returned (.tuple #[.string ⟨(Lib.trimSuffix s.data.toList p.data.toList).toArray⟩, .bool (Lib.hasSuffix s.data.toList p.data.toList)]) ∧ w' = w := Any.stringslite_CutSuffix Tryz.lays211 s p w hs
def Tryz.lays104_ren : Go.Shelf.Ren := ⟨fun | 104 => 285 | 211 => 313 | 207 => 280 | n => n,fun | 9 => 9 | 4 => 4 | 24 => 170 | 3 => 3 | n => n,fun | n => n⟩
theorem Tryz.lays104 : Go.Proofs.Lays.n104 Tryz.prog Tryz.lays104_ren := {
 mixed := by kernel_rfl
 f104 := Tryz.func285.trans (congrArg some (by kernel_rfl))
 f207 := Tryz.func280.trans (congrArg some (by kernel_rfl))
 f211 := Tryz.func313.trans (congrArg some (by kernel_rfl))
 t3 := Tryz.underlying3
 a3 := Tryz.isAgg3
 z3 := Tryz.sizeOf3
 v3 := Tryz.zeroValue3
 t4 := Tryz.underlying4
 a4 := Tryz.isAgg4
 z4 := Tryz.sizeOf4
 v4 := Tryz.zeroValue4
 t9 := Tryz.underlying9
 a9 := Tryz.isAgg9
 z9 := Tryz.sizeOf9
 v9 := Tryz.zeroValue9
 t24 := Tryz.underlying170
 a24 := Tryz.isAgg170
 z24 := Tryz.sizeOf170
 v24 := Tryz.zeroValue170 }
open Go.RowKit in
theorem Tryz.strings_CutSuffix (s p : ByteArray) (w : World) (hs : s.size ≤ 9223372036854775807) :
  Calls Tryz.prog 285 #[.string s, .string p] w fun e w' => e = .returned (.tuple #[.string ⟨(Lib.trimSuffix s.data.toList p.data.toList).toArray⟩, .bool (Lib.hasSuffix s.data.toList p.data.toList)]) ∧ w' = w := Any.strings_CutSuffix Tryz.lays104 s p w hs
def Tryz.laysM173_ren : Go.Shelf.Ren := ⟨fun | 173 => 128 | 246 => 199 | 283 => 258 | 284 => 259 | 285 => 260 | 286 => 261 | 129 => 298 | 317 => 297 | 318 => 299 | 319 => 300 | 320 => 301 | 337 => 321 | 338 => 322 | n => n,fun | 2 => 2 | 3 => 3 | 9 => 9 | 4 => 4 | 171 => 299 | 0 => 0 | 53 => 300 | 37 => 198 | 5 => 5 | 173 => 303 | 212 => 326 | 51 => 327 | 20 => 20 | 213 => 328 | 46 => 312 | 232 => 347 | 233 => 348 | n => n,fun | 17 => 3 | 18 => 4 | 19 => 5 | n => n⟩
theorem Tryz.laysM173 : Go.Proofs.LaysM.n173 Tryz.prog Tryz.laysM173_ren := {
 mixed := by kernel_rfl
 f129 := Tryz.func298.trans (congrArg some (by kernel_rfl))
 f173 := Tryz.func128.trans (congrArg some (by kernel_rfl))
 f246 := Tryz.func199.trans (congrArg some (by kernel_rfl))
 f283 := Tryz.func258.trans (congrArg some (by kernel_rfl))
 f284 := Tryz.func259.trans (congrArg some (by kernel_rfl))
 f285 := Tryz.func260.trans (congrArg some (by kernel_rfl))
 f286 := Tryz.func261.trans (congrArg some (by kernel_rfl))
 f317 := Tryz.func297.trans (congrArg some (by kernel_rfl))
 f318 := Tryz.func299.trans (congrArg some (by kernel_rfl))
 f319 := Tryz.func300.trans (congrArg some (by kernel_rfl))
 f320 := Tryz.func301.trans (congrArg some (by kernel_rfl))
 f337 := Tryz.func321.trans (congrArg some (by kernel_rfl))
 f338 := Tryz.func322.trans (congrArg some (by kernel_rfl))
 t0 := Tryz.underlying0
 a0 := Tryz.isAgg0
 z0 := Tryz.sizeOf0
 v0 := Tryz.zeroValue0
 t2 := Tryz.underlying2
 a2 := Tryz.isAgg2
 z2 := Tryz.sizeOf2
 v2 := Tryz.zeroValue2
 t3 := Tryz.underlying3
 a3 := Tryz.isAgg3
 z3 := Tryz.sizeOf3
 v3 := Tryz.zeroValue3
 t4 := Tryz.underlying4
 a4 := Tryz.isAgg4
 z4 := Tryz.sizeOf4
 v4 := Tryz.zeroValue4
 t5 := Tryz.underlying5
 a5 := Tryz.isAgg5
 z5 := Tryz.sizeOf5
 v5 := Tryz.zeroValue5
 t9 := Tryz.underlying9
 a9 := Tryz.isAgg9
 z9 := Tryz.sizeOf9
 v9 := Tryz.zeroValue9
 t20 := Tryz.underlying20
 a20 := Tryz.isAgg20
 z20 := Tryz.sizeOf20
 v20 := Tryz.zeroValue20
 t37 := Tryz.underlying198
 a37 := Tryz.isAgg198
 z37 := Tryz.sizeOf198
 v37 := Tryz.zeroValue198
 t46 := Tryz.underlying312
 a46 := Tryz.isAgg312
 z46 := Tryz.sizeOf312
 v46 := Tryz.zeroValue312
 t51 := Tryz.underlying327
 a51 := Tryz.isAgg327
 z51 := Tryz.sizeOf327
 v51 := Tryz.zeroValue327
 t53 := Tryz.underlying300
 a53 := Tryz.isAgg300
 z53 := Tryz.sizeOf300
 v53 := Tryz.zeroValue300
 t171 := Tryz.underlying299
 a171 := Tryz.isAgg299
 z171 := Tryz.sizeOf299
 v171 := Tryz.zeroValue299
 t173 := Tryz.underlying303
 a173 := Tryz.isAgg303
 z173 := Tryz.sizeOf303
 v173 := Tryz.zeroValue303
 t212 := Tryz.underlying326
 a212 := Tryz.isAgg326
 z212 := Tryz.sizeOf326
 v212 := Tryz.zeroValue326
 t213 := Tryz.underlying328
 a213 := Tryz.isAgg328
 z213 := Tryz.sizeOf328
 t232 := Tryz.underlying347
 a232 := Tryz.isAgg347
 z232 := Tryz.sizeOf347
 v232 := Tryz.zeroValue347
 t233 := Tryz.underlying348
 a233 := Tryz.isAgg348
 z233 := Tryz.sizeOf348
 v233 := Tryz.zeroValue348
 g17 := by kernel_rfl
 g18 := by kernel_rfl
 g19 := by kernel_rfl
 i0 := by kernel_rfl
 i2 := by kernel_rfl
 i3 := by kernel_rfl
 i4 := by kernel_rfl
 i5 := by kernel_rfl
 i9 := by kernel_rfl
 i20 := by kernel_rfl
 i37 := by kernel_rfl
 i46 := by kernel_rfl
 i51 := by kernel_rfl
 i53 := by kernel_rfl
 i171 := by kernel_rfl
 i173 := by kernel_rfl
 i212 := by kernel_rfl
 i232 := by kernel_rfl
 i233 := by kernel_rfl
 m17 := by kernel_rfl
 m18 := by kernel_rfl
 m19 := by kernel_rfl }
open Go.RowKit Go.Sort Go.Lib in
theorem Tryz.strconv_FormatInt_10 (n : Int) (h0 : -9223372036854775808 ≤ n) (h1 : n ≤ 9223372036854775807) (w : World) (htab : Lib.TabIs Tryz.prog w "internal/strconv.uint64pow10" .u64 Lib.pow10Tab) :
  Calls Tryz.prog 128 #[.int .i64 n, .int .i64 10] w fun e w' => e = .returned (.string ⟨(Lib.itoa n).toArray⟩) ∧ ∃ k os,w' = grow (w.drewN k) os := Any.strconv_FormatInt_10 Tryz.laysM173 n h0 h1 w htab
def Tryz.lays143_ren : Go.Shelf.Ren := ⟨fun | 143 => 312 | 219 => 247 | 217 => 272 | 225 => 269 | 224 => 268 | 267 => 293 | 266 => 304 | 314 => 319 | n => n,fun | 9 => 9 | 3 => 3 | 4 => 4 | 5 => 5 | 46 => 312 | 146 => 340 | 51 => 327 | n => n,fun | 1 => 0 | n => n⟩
theorem Tryz.lays143 : Go.Proofs.Lays.n143 Tryz.prog Tryz.lays143_ren := {
 mixed := by kernel_rfl
 f143 := Tryz.func312.trans (congrArg some (by kernel_rfl))
 f217 := Tryz.func272.trans (congrArg some (by kernel_rfl))
 f219 := Tryz.func247.trans (congrArg some (by kernel_rfl))
 f224 := Tryz.func268.trans (congrArg some (by kernel_rfl))
 f225 := Tryz.func269.trans (congrArg some (by kernel_rfl))
 f266 := Tryz.func304.trans (congrArg some (by kernel_rfl))
 f267 := Tryz.func293.trans (congrArg some (by kernel_rfl))
 f314 := Tryz.func319.trans (congrArg some (by kernel_rfl))
 t3 := Tryz.underlying3
 a3 := Tryz.isAgg3
 z3 := Tryz.sizeOf3
 v3 := Tryz.zeroValue3
 t4 := Tryz.underlying4
 a4 := Tryz.isAgg4
 z4 := Tryz.sizeOf4
 v4 := Tryz.zeroValue4
 t5 := Tryz.underlying5
 a5 := Tryz.isAgg5
 z5 := Tryz.sizeOf5
 v5 := Tryz.zeroValue5
 t9 := Tryz.underlying9
 a9 := Tryz.isAgg9
 z9 := Tryz.sizeOf9
 v9 := Tryz.zeroValue9
 t46 := Tryz.underlying312
 a46 := Tryz.isAgg312
 z46 := Tryz.sizeOf312
 v46 := Tryz.zeroValue312
 t51 := Tryz.underlying327
 a51 := Tryz.isAgg327
 z51 := Tryz.sizeOf327
 v51 := Tryz.zeroValue327
 t146 := Tryz.underlying340
 a146 := Tryz.isAgg340
 z146 := Tryz.sizeOf340
 v146 := Tryz.zeroValue340
 g1 := by kernel_rfl }
open Go.RowKit Go.Lib in
theorem Tryz.strings_Index (s sub : ByteArray) (m : Int) (w : World) (hs : s.size < 4294967281) (hm : w.cell? ⟨0,0,none⟩ = some (.int .i64 m)) :
  Calls Tryz.prog 312 #[.string s, .string sub] w fun e w' => e = .returned (.int .i64 (Lib.index s.data.toList sub.data.toList)) ∧ w' = w := Any.strings_Index Tryz.lays143 s sub m w hs hm
def Tryz.lays144_ren : Go.Shelf.Ren := ⟨fun | 144 => 309 | 143 => 312 | 219 => 247 | 217 => 272 | 225 => 269 | 224 => 268 | 267 => 293 | 266 => 304 | 314 => 319 | n => n,fun | 9 => 9 | 4 => 4 | 3 => 3 | 5 => 5 | 46 => 312 | 146 => 340 | 51 => 327 | n => n,fun | 1 => 0 | n => n⟩
theorem Tryz.lays144 : Go.Proofs.Lays.n144 Tryz.prog Tryz.lays144_ren := {
 mixed := by kernel_rfl
 f143 := Tryz.func312.trans (congrArg some (by kernel_rfl))
 f144 := Tryz.func309.trans (congrArg some (by kernel_rfl))
 f217 := Tryz.func272.trans (congrArg some (by kernel_rfl))
 f219 := Tryz.func247.trans (congrArg some (by kernel_rfl))
 f224 := Tryz.func268.trans (congrArg some (by kernel_rfl))
 f225 := Tryz.func269.trans (congrArg some (by kernel_rfl))
 f266 := Tryz.func304.trans (congrArg some (by kernel_rfl))
 f267 := Tryz.func293.trans (congrArg some (by kernel_rfl))
 f314 := Tryz.func319.trans (congrArg some (by kernel_rfl))
 t3 := Tryz.underlying3
 a3 := Tryz.isAgg3
 z3 := Tryz.sizeOf3
 v3 := Tryz.zeroValue3
 t4 := Tryz.underlying4
 a4 := Tryz.isAgg4
 z4 := Tryz.sizeOf4
 v4 := Tryz.zeroValue4
 t5 := Tryz.underlying5
 a5 := Tryz.isAgg5
 z5 := Tryz.sizeOf5
 v5 := Tryz.zeroValue5
 t9 := Tryz.underlying9
 a9 := Tryz.isAgg9
 z9 := Tryz.sizeOf9
 v9 := Tryz.zeroValue9
 t46 := Tryz.underlying312
 a46 := Tryz.isAgg312
 z46 := Tryz.sizeOf312
 v46 := Tryz.zeroValue312
 t51 := Tryz.underlying327
 a51 := Tryz.isAgg327
 z51 := Tryz.sizeOf327
 v51 := Tryz.zeroValue327
 t146 := Tryz.underlying340
 a146 := Tryz.isAgg340
 z146 := Tryz.sizeOf340
 v146 := Tryz.zeroValue340
 g1 := by kernel_rfl }
open Go.RowKit Go.Lib in
theorem Tryz.strings_Contains (s sub : ByteArray) (m : Int) (w : World) (hs : s.size < 4294967281) (hm : w.cell? ⟨0,0,none⟩ = some (.int .i64 m)) :
  Calls Tryz.prog 309 #[.string s, .string sub] w fun e w' => e = .returned (.bool (Lib.contains s.data.toList sub.data.toList)) ∧ w' = w := Any.strings_Contains Tryz.lays144 s sub m w hs hm
def Tryz.lays145_ren : Go.Shelf.Ren := ⟨fun | 145 => 120 | 220 => 191 | 219 => 247 | 217 => 272 | 225 => 269 | 224 => 268 | 267 => 293 | 266 => 304 | 314 => 319 | n => n,fun | 9 => 9 | 4 => 4 | 59 => 184 | 3 => 3 | 5 => 5 | 46 => 312 | 146 => 340 | 51 => 327 | n => n,fun | 1 => 0 | n => n⟩
theorem Tryz.lays145 : Go.Proofs.Lays.n145 Tryz.prog Tryz.lays145_ren := {
 mixed := by kernel_rfl
 f145 := Tryz.func120.trans (congrArg some (by kernel_rfl))
 f217 := Tryz.func272.trans (congrArg some (by kernel_rfl))
 f219 := Tryz.func247.trans (congrArg some (by kernel_rfl))
 f220 := Tryz.func191.trans (congrArg some (by kernel_rfl))
 f224 := Tryz.func268.trans (congrArg some (by kernel_rfl))
 f225 := Tryz.func269.trans (congrArg some (by kernel_rfl))
 f266 := Tryz.func304.trans (congrArg some (by kernel_rfl))
 f267 := Tryz.func293.trans (congrArg some (by kernel_rfl))
 f314 := Tryz.func319.trans (congrArg some (by kernel_rfl))
 t3 := Tryz.underlying3
 a3 := Tryz.isAgg3
 z3 := Tryz.sizeOf3
 v3 := Tryz.zeroValue3
 t4 := Tryz.underlying4
 a4 := Tryz.isAgg4
 z4 := Tryz.sizeOf4
 v4 := Tryz.zeroValue4
 t5 := Tryz.underlying5
 a5 := Tryz.isAgg5
 z5 := Tryz.sizeOf5
 v5 := Tryz.zeroValue5
 t9 := Tryz.underlying9
 a9 := Tryz.isAgg9
 z9 := Tryz.sizeOf9
 v9 := Tryz.zeroValue9
 t46 := Tryz.underlying312
 a46 := Tryz.isAgg312
 z46 := Tryz.sizeOf312
 v46 := Tryz.zeroValue312
 t51 := Tryz.underlying327
 a51 := Tryz.isAgg327
 z51 := Tryz.sizeOf327
 v51 := Tryz.zeroValue327
 t59 := Tryz.underlying184
 a59 := Tryz.isAgg184
 z59 := Tryz.sizeOf184
 v59 := Tryz.zeroValue184
 t146 := Tryz.underlying340
 a146 := Tryz.isAgg340
 z146 := Tryz.sizeOf340
 v146 := Tryz.zeroValue340
 g1 := by kernel_rfl }
open Go.RowKit Go.Lib in
theorem Tryz.strings_Cut (s sep : ByteArray) (m : Int) (w : World) (hs : s.size < 4294967281) (hm : w.cell? ⟨0,0,none⟩ = some (.int .i64 m)) :
  Calls Tryz.prog 120 #[.string s, .string sep] w fun e w' => e = .returned (.tuple #[.string ⟨(Lib.cut s.data.toList sep.data.toList).1.toArray⟩, .string ⟨(Lib.cut s.data.toList sep.data.toList).2.1.toArray⟩, .bool (Lib.cut s.data.toList sep.data.toList).2.2]) ∧ ∃ n,w' = w.drewN n := Any.strings_Cut Tryz.lays145 s sep m w hs hm
def Tryz.lays206_ren : Go.Shelf.Ren := ⟨fun | 206 => 226 | n => n,fun | 9 => 9 | 4 => 4 | 3 => 3 | n => n,fun | n => n⟩
theorem Tryz.lays206 : Go.Proofs.Lays.n206 Tryz.prog Tryz.lays206_ren := {
 mixed := by kernel_rfl
 f206 := Tryz.func226.trans (congrArg some (by kernel_rfl))
 t3 := Tryz.underlying3
 a3 := Tryz.isAgg3
 z3 := Tryz.sizeOf3
 v3 := Tryz.zeroValue3
 t4 := Tryz.underlying4
 a4 := Tryz.isAgg4
 z4 := Tryz.sizeOf4
 v4 := Tryz.zeroValue4
 t9 := Tryz.underlying9
 a9 := Tryz.isAgg9
 z9 := Tryz.sizeOf9
 v9 := Tryz.zeroValue9 }
open Go.RowKit Go.Lib in
theorem Tryz.stringslite_HasPrefix (s p : ByteArray) (w : World) :
  Calls Tryz.prog 226 #[.string s, .string p] w fun e w' => e = .returned (.bool (Lib.hasPrefix s.data.toList p.data.toList)) ∧ w' = w := Any.stringslite_HasPrefix Tryz.lays206 s p w
def Tryz.lays99_ren : Go.Shelf.Ren := ⟨fun | 99 => 171 | 206 => 226 | n => n,fun | 9 => 9 | 4 => 4 | 3 => 3 | n => n,fun | n => n⟩
theorem Tryz.lays99 : Go.Proofs.Lays.n99 Tryz.prog Tryz.lays99_ren := {
 mixed := by kernel_rfl
 f99 := Tryz.func171.trans (congrArg some (by kernel_rfl))
 f206 := Tryz.func226.trans (congrArg some (by kernel_rfl))
 t3 := Tryz.underlying3
 a3 := Tryz.isAgg3
 z3 := Tryz.sizeOf3
 v3 := Tryz.zeroValue3
 t4 := Tryz.underlying4
 a4 := Tryz.isAgg4
 z4 := Tryz.sizeOf4
 v4 := Tryz.zeroValue4
 t9 := Tryz.underlying9
 a9 := Tryz.isAgg9
 z9 := Tryz.sizeOf9
 v9 := Tryz.zeroValue9 }
open Go.RowKit Go.Lib in
theorem Tryz.strings_HasPrefix (s p : ByteArray) (w : World) :
  Calls Tryz.prog 171 #[.string s, .string p] w fun e w' => e = .returned (.bool (Lib.hasPrefix s.data.toList p.data.toList)) ∧ w' = w := Any.strings_HasPrefix Tryz.lays99 s p w
def Tryz.lays207_ren : Go.Shelf.Ren := ⟨fun | 207 => 280 | n => n,fun | 9 => 9 | 4 => 4 | 3 => 3 | n => n,fun | n => n⟩
theorem Tryz.lays207 : Go.Proofs.Lays.n207 Tryz.prog Tryz.lays207_ren := {
 mixed := by kernel_rfl
 f207 := Tryz.func280.trans (congrArg some (by kernel_rfl))
 t3 := Tryz.underlying3
 a3 := Tryz.isAgg3
 z3 := Tryz.sizeOf3
 v3 := Tryz.zeroValue3
 t4 := Tryz.underlying4
 a4 := Tryz.isAgg4
 z4 := Tryz.sizeOf4
 v4 := Tryz.zeroValue4
 t9 := Tryz.underlying9
 a9 := Tryz.isAgg9
 z9 := Tryz.sizeOf9
 v9 := Tryz.zeroValue9 }
open Go.RowKit Go.Lib in
theorem Tryz.stringslite_HasSuffix (s p : ByteArray) (w : World) (hs : s.size ≤ 9223372036854775807) :
  Calls Tryz.prog 280 #[.string s, .string p] w fun e w' => e = .returned (.bool (Lib.hasSuffix s.data.toList p.data.toList)) ∧ w' = w := Any.stringslite_HasSuffix Tryz.lays207 s p w hs
def Tryz.lays100_ren : Go.Shelf.Ren := ⟨fun | 100 => 230 | 207 => 280 | n => n,fun | 9 => 9 | 4 => 4 | 3 => 3 | n => n,fun | n => n⟩
theorem Tryz.lays100 : Go.Proofs.Lays.n100 Tryz.prog Tryz.lays100_ren := {
 mixed := by kernel_rfl
 f100 := Tryz.func230.trans (congrArg some (by kernel_rfl))
 f207 := Tryz.func280.trans (congrArg some (by kernel_rfl))
 t3 := Tryz.underlying3
 a3 := Tryz.isAgg3
 z3 := Tryz.sizeOf3
 v3 := Tryz.zeroValue3
 t4 := Tryz.underlying4
 a4 := Tryz.isAgg4
 z4 := Tryz.sizeOf4
 v4 := Tryz.zeroValue4
 t9 := Tryz.underlying9
 a9 := Tryz.isAgg9
 z9 := Tryz.sizeOf9
 v9 := Tryz.zeroValue9 }
open Go.RowKit Go.Lib in
theorem Tryz.strings_HasSuffix (s p : ByteArray) (w : World) (hs : s.size ≤ 9223372036854775807) :
  Calls Tryz.prog 230 #[.string s, .string p] w fun e w' => e = .returned (.bool (Lib.hasSuffix s.data.toList p.data.toList)) ∧ w' = w := Any.strings_HasSuffix Tryz.lays100 s p w hs
def Tryz.lays208_ren : Go.Shelf.Ren := ⟨fun | 208 => 287 | 206 => 226 | n => n,fun | 9 => 9 | 4 => 4 | 3 => 3 | n => n,fun | n => n⟩
theorem Tryz.lays208 : Go.Proofs.Lays.n208 Tryz.prog Tryz.lays208_ren := {
 mixed := by kernel_rfl
 f206 := Tryz.func226.trans (congrArg some (by kernel_rfl))
 f208 := Tryz.func287.trans (congrArg some (by kernel_rfl))
 t3 := Tryz.underlying3
 a3 := Tryz.isAgg3
 z3 := Tryz.sizeOf3
 v3 := Tryz.zeroValue3
 t4 := Tryz.underlying4
 a4 := Tryz.isAgg4
 z4 := Tryz.sizeOf4
 v4 := Tryz.zeroValue4
 t9 := Tryz.underlying9
 a9 := Tryz.isAgg9
 z9 := Tryz.sizeOf9
 v9 := Tryz.zeroValue9 }
open Go.RowKit Go.Lib in
theorem Tryz.stringslite_TrimPrefix (s p : ByteArray) (w : World) :
  Calls Tryz.prog 287 #[.string s, .string p] w fun e w' => e = .returned (.string ⟨(Lib.trimPrefix s.data.toList p.data.toList).toArray⟩) ∧ w' = w := Any.stringslite_TrimPrefix Tryz.lays208 s p w
def Tryz.lays101_ren : Go.Shelf.Ren := ⟨fun | 101 => 236 | 208 => 287 | 206 => 226 | n => n,fun | 9 => 9 | 4 => 4 | 3 => 3 | n => n,fun | n => n⟩
theorem Tryz.lays101 : Go.Proofs.Lays.n101 Tryz.prog Tryz.lays101_ren := {
 mixed := by kernel_rfl
 f101 := Tryz.func236.trans (congrArg some (by kernel_rfl))
 f206 := Tryz.func226.trans (congrArg some (by kernel_rfl))
 f208 := Tryz.func287.trans (congrArg some (by kernel_rfl))
 t3 := Tryz.underlying3
 a3 := Tryz.isAgg3
 z3 := Tryz.sizeOf3
 v3 := Tryz.zeroValue3
 t4 := Tryz.underlying4
 a4 := Tryz.isAgg4
 z4 := Tryz.sizeOf4
 v4 := Tryz.zeroValue4
 t9 := Tryz.underlying9
 a9 := Tryz.isAgg9
 z9 := Tryz.sizeOf9
 v9 := Tryz.zeroValue9 }
open Go.RowKit Go.Lib in
theorem Tryz.strings_TrimPrefix (s p : ByteArray) (w : World) :
  Calls Tryz.prog 236 #[.string s, .string p] w fun e w' => e = .returned (.string ⟨(Lib.trimPrefix s.data.toList p.data.toList).toArray⟩) ∧ w' = w := Any.strings_TrimPrefix Tryz.lays101 s p w
def Tryz.lays146_ren : Go.Shelf.Ren := ⟨fun | 146 => 232 | 221 => 283 | 268 => 310 | 138 => 311 | 143 => 312 | 195 => 324 | 197 => 152 | 218 => 325 | 219 => 247 | 260 => 213 | 217 => 272 | 225 => 269 | 224 => 268 | 267 => 293 | 266 => 304 | 314 => 319 | n => n,fun | 9 => 9 | 31 => 46 | 3 => 3 | 4 => 4 | 0 => 0 | 105 => 218 | 21 => 21 | 5 => 5 | 46 => 312 | 119 => 313 | 139 => 316 | 138 => 315 | 146 => 340 | 51 => 327 | n => n,fun | 1 => 0 | 3 => 1 | 4 => 2 | n => n⟩
theorem Tryz.lays146 : Go.Proofs.Lays.n146 Tryz.prog Tryz.lays146_ren := {
 mixed := by kernel_rfl
 f138 := Tryz.func311.trans (congrArg some (by kernel_rfl))
 f143 := Tryz.func312.trans (congrArg some (by kernel_rfl))
 f146 := Tryz.func232.trans (congrArg some (by kernel_rfl))
 f195 := Tryz.func324.trans (congrArg some (by kernel_rfl))
 f197 := Tryz.func152.trans (congrArg some (by kernel_rfl))
 f217 := Tryz.func272.trans (congrArg some (by kernel_rfl))
 f218 := Tryz.func325.trans (congrArg some (by kernel_rfl))
 f219 := Tryz.func247.trans (congrArg some (by kernel_rfl))
 f221 := Tryz.func283.trans (congrArg some (by kernel_rfl))
 f224 := Tryz.func268.trans (congrArg some (by kernel_rfl))
 f225 := Tryz.func269.trans (congrArg some (by kernel_rfl))
 f260 := Tryz.func213.trans (congrArg some (by kernel_rfl))
 f266 := Tryz.func304.trans (congrArg some (by kernel_rfl))
 f267 := Tryz.func293.trans (congrArg some (by kernel_rfl))
 f268 := Tryz.func310.trans (congrArg some (by kernel_rfl))
 f314 := Tryz.func319.trans (congrArg some (by kernel_rfl))
 t0 := Tryz.underlying0
 a0 := Tryz.isAgg0
 z0 := Tryz.sizeOf0
 v0 := Tryz.zeroValue0
 t3 := Tryz.underlying3
 a3 := Tryz.isAgg3
 z3 := Tryz.sizeOf3
 v3 := Tryz.zeroValue3
 t4 := Tryz.underlying4
 a4 := Tryz.isAgg4
 z4 := Tryz.sizeOf4
 v4 := Tryz.zeroValue4
 t5 := Tryz.underlying5
 a5 := Tryz.isAgg5
 z5 := Tryz.sizeOf5
 v5 := Tryz.zeroValue5
 t9 := Tryz.underlying9
 a9 := Tryz.isAgg9
 z9 := Tryz.sizeOf9
 v9 := Tryz.zeroValue9
 t21 := Tryz.underlying21
 a21 := Tryz.isAgg21
 z21 := Tryz.sizeOf21
 v21 := Tryz.zeroValue21
 t31 := Tryz.underlying46
 a31 := Tryz.isAgg46
 z31 := Tryz.sizeOf46
 v31 := Tryz.zeroValue46
 t46 := Tryz.underlying312
 a46 := Tryz.isAgg312
 z46 := Tryz.sizeOf312
 v46 := Tryz.zeroValue312
 t51 := Tryz.underlying327
 a51 := Tryz.isAgg327
 z51 := Tryz.sizeOf327
 v51 := Tryz.zeroValue327
 t105 := Tryz.underlying218
 a105 := Tryz.isAgg218
 z105 := Tryz.sizeOf218
 v105 := Tryz.zeroValue218
 t119 := Tryz.underlying313
 a119 := Tryz.isAgg313
 z119 := Tryz.sizeOf313
 t138 := Tryz.underlying315
 a138 := Tryz.isAgg315
 z138 := Tryz.sizeOf315
 v138 := Tryz.zeroValue315
 t139 := Tryz.underlying316
 a139 := Tryz.isAgg316
 z139 := Tryz.sizeOf316
 v139 := Tryz.zeroValue316
 t146 := Tryz.underlying340
 a146 := Tryz.isAgg340
 z146 := Tryz.sizeOf340
 v146 := Tryz.zeroValue340
 g1 := by kernel_rfl
 g3 := by kernel_rfl
 g4 := by kernel_rfl }
open Go.RowKit Go.Lib in
theorem Tryz.strings_Split (s sep : ByteArray) (m : Int) (w : World) (hs : s.size < 4294967281) (hm : w.cell? ⟨0,0,none⟩ = some (.int .i64 m)) (h1 : 1 ≤ sep.size) :
  Calls Tryz.prog 232 #[.string s, .string sep] w fun e w' =>
   e = .returned (.slice (some ⟨w.heap.size,0,none⟩) (Lib.countB s sep + 1) (Lib.countB s sep + 1)) ∧ w' = w.alloc (.cells ((Lib.splitB sep 0 (Lib.countB s sep) s).map Value.string).toArray 9) := Any.strings_Split Tryz.lays146 (by kernel_rfl) s sep m w hs hm h1
def Tryz.lays155_ren : Go.Shelf.Ren := ⟨fun | 155 => 326 | 154 => 329 | 138 => 311 | 165 => 134 | 143 => 312 | 166 => 135 | 197 => 152 | 169 => 136 | 195 => 324 | 218 => 325 | 240 => 204 | 241 => 205 | 219 => 247 | 260 => 213 | 276 => 265 | 277 => 266 | 217 => 272 | 225 => 269 | 224 => 268 | 267 => 293 | 266 => 304 | 314 => 319 | n => n,fun | 9 => 9 | 3 => 3 | 4 => 4 | 72 => 200 | 0 => 0 | 76 => 204 | 105 => 218 | 21 => 21 | 5 => 5 | 70 => 197 | 20 => 20 | 37 => 198 | 75 => 203 | 127 => 260 | 164 => 307 | 46 => 312 | 119 => 313 | 139 => 316 | 138 => 315 | 146 => 340 | 51 => 327 | 80 => 206 | n => n,fun | 1 => 0 | 3 => 1 | 4 => 2 | n => n⟩
theorem Tryz.lays155 : Go.Proofs.Lays.n155 Tryz.prog Tryz.lays155_ren := {
 mixed := by kernel_rfl
 f138 := Tryz.func311.trans (congrArg some (by kernel_rfl))
 f143 := Tryz.func312.trans (congrArg some (by kernel_rfl))
 f154 := Tryz.func329.trans (congrArg some (by kernel_rfl))
 f155 := Tryz.func326.trans (congrArg some (by kernel_rfl))
 f165 := Tryz.func134.trans (congrArg some (by kernel_rfl))
 f166 := Tryz.func135.trans (congrArg some (by kernel_rfl))
 f169 := Tryz.func136.trans (congrArg some (by kernel_rfl))
 f195 := Tryz.func324.trans (congrArg some (by kernel_rfl))
 f197 := Tryz.func152.trans (congrArg some (by kernel_rfl))
 f217 := Tryz.func272.trans (congrArg some (by kernel_rfl))
 f218 := Tryz.func325.trans (congrArg some (by kernel_rfl))
 f219 := Tryz.func247.trans (congrArg some (by kernel_rfl))
 f224 := Tryz.func268.trans (congrArg some (by kernel_rfl))
 f225 := Tryz.func269.trans (congrArg some (by kernel_rfl))
 f240 := Tryz.func204.trans (congrArg some (by kernel_rfl))
 f241 := Tryz.func205.trans (congrArg some (by kernel_rfl))
 f260 := Tryz.func213.trans (congrArg some (by kernel_rfl))
 f266 := Tryz.func304.trans (congrArg some (by kernel_rfl))
 f267 := Tryz.func293.trans (congrArg some (by kernel_rfl))
 f276 := Tryz.func265.trans (congrArg some (by kernel_rfl))
 f277 := Tryz.func266.trans (congrArg some (by kernel_rfl))
 f314 := Tryz.func319.trans (congrArg some (by kernel_rfl))
 t0 := Tryz.underlying0
 a0 := Tryz.isAgg0
 z0 := Tryz.sizeOf0
 v0 := Tryz.zeroValue0
 t3 := Tryz.underlying3
 a3 := Tryz.isAgg3
 z3 := Tryz.sizeOf3
 v3 := Tryz.zeroValue3
 t4 := Tryz.underlying4
 a4 := Tryz.isAgg4
 z4 := Tryz.sizeOf4
 v4 := Tryz.zeroValue4
 t5 := Tryz.underlying5
 a5 := Tryz.isAgg5
 z5 := Tryz.sizeOf5
 v5 := Tryz.zeroValue5
 t9 := Tryz.underlying9
 a9 := Tryz.isAgg9
 z9 := Tryz.sizeOf9
 v9 := Tryz.zeroValue9
 t20 := Tryz.underlying20
 a20 := Tryz.isAgg20
 z20 := Tryz.sizeOf20
 v20 := Tryz.zeroValue20
 t21 := Tryz.underlying21
 a21 := Tryz.isAgg21
 z21 := Tryz.sizeOf21
 v21 := Tryz.zeroValue21
 t37 := Tryz.underlying198
 a37 := Tryz.isAgg198
 z37 := Tryz.sizeOf198
 v37 := Tryz.zeroValue198
 t46 := Tryz.underlying312
 a46 := Tryz.isAgg312
 z46 := Tryz.sizeOf312
 v46 := Tryz.zeroValue312
 t51 := Tryz.underlying327
 a51 := Tryz.isAgg327
 z51 := Tryz.sizeOf327
 v51 := Tryz.zeroValue327
 t70 := Tryz.underlying197
 a70 := Tryz.isAgg197
 z70 := Tryz.sizeOf197
 v70 := Tryz.zeroValue197
 t72 := Tryz.underlying200
 a72 := Tryz.isAgg200
 z72 := Tryz.sizeOf200
 v72 := Tryz.zeroValue200
 t75 := Tryz.underlying203
 a75 := Tryz.isAgg203
 z75 := Tryz.sizeOf203
 v75 := Tryz.zeroValue203
 t76 := Tryz.underlying204
 a76 := Tryz.isAgg204
 z76 := Tryz.sizeOf204
 v76 := Tryz.zeroValue204
 t105 := Tryz.underlying218
 a105 := Tryz.isAgg218
 z105 := Tryz.sizeOf218
 v105 := Tryz.zeroValue218
 t119 := Tryz.underlying313
 a119 := Tryz.isAgg313
 z119 := Tryz.sizeOf313
 t127 := Tryz.underlying260
 a127 := Tryz.isAgg260
 z127 := Tryz.sizeOf260
 v127 := Tryz.zeroValue260
 t138 := Tryz.underlying315
 a138 := Tryz.isAgg315
 z138 := Tryz.sizeOf315
 v138 := Tryz.zeroValue315
 t139 := Tryz.underlying316
 a139 := Tryz.isAgg316
 z139 := Tryz.sizeOf316
 v139 := Tryz.zeroValue316
 t146 := Tryz.underlying340
 a146 := Tryz.isAgg340
 z146 := Tryz.sizeOf340
 v146 := Tryz.zeroValue340
 t164 := Tryz.underlying307
 a164 := Tryz.isAgg307
 z164 := Tryz.sizeOf307
 v164 := Tryz.zeroValue307
 g1 := by kernel_rfl
 g3 := by kernel_rfl
 g4 := by kernel_rfl }
theorem Tryz.Builder_Extra_155 : Builder.Extra Tryz.prog Tryz.lays155_ren := {
 sizeBuilder := by kernel_rfl
 liesBuilder := by kernel_rfl
 t5 := Tryz.underlying5
 a5 := Tryz.isAgg5
 z5 := Tryz.sizeOf5
 v5 := Tryz.zeroValue5
 infoByte := by kernel_rfl
 cellsByte := by kernel_rfl
 sizeByte := by kernel_rfl
 neB5 := by decide }
open Go.RowKit Go.Lib in
theorem Tryz.strings_ReplaceAll (s old new : ByteArray) (m : Int) (w : World) (hs : s.size < 4294967281) (hm : w.cell? ⟨0,0,none⟩ = some (.int .i64 m)) (h1 : 1 ≤ old.size) (hlen : s.size + Lib.countB s old * new.size ≤ 140737488355328) :
  Calls Tryz.prog 326 #[.string s, .string old, .string new] w fun e w' =>
   e = .returned (.string ⟨(Lib.replaceAll s.data.toList old.data.toList new.data.toList).toArray⟩) ∧ Below w.heap.size w w' := Any.strings_ReplaceAll Tryz.lays155 Tryz.Builder_Extra_155 s old new m w hs hm h1 hlen
def Tryz.lays152_ren : Go.Shelf.Ren := ⟨fun | 152 => 206 | 137 => 212 | 119 => 267 | 224 => 268 | 225 => 269 | 217 => 272 | 266 => 304 | n => n,fun | 9 => 9 | 21 => 21 | 3 => 3 | 4 => 4 | 5 => 5 | 0 => 0 | 46 => 312 | n => n,fun | n => n⟩
theorem Tryz.lays152 : Go.Proofs.Lays.n152 Tryz.prog Tryz.lays152_ren := {
 mixed := by kernel_rfl
 f119 := Tryz.func267.trans (congrArg some (by kernel_rfl))
 f137 := Tryz.func212.trans (congrArg some (by kernel_rfl))
 f152 := Tryz.func206.trans (congrArg some (by kernel_rfl))
 f217 := Tryz.func272.trans (congrArg some (by kernel_rfl))
 f224 := Tryz.func268.trans (congrArg some (by kernel_rfl))
 f225 := Tryz.func269.trans (congrArg some (by kernel_rfl))
 f266 := Tryz.func304.trans (congrArg some (by kernel_rfl))
 t0 := Tryz.underlying0
 a0 := Tryz.isAgg0
 z0 := Tryz.sizeOf0
 v0 := Tryz.zeroValue0
 t3 := Tryz.underlying3
 a3 := Tryz.isAgg3
 z3 := Tryz.sizeOf3
 v3 := Tryz.zeroValue3
 t4 := Tryz.underlying4
 a4 := Tryz.isAgg4
 z4 := Tryz.sizeOf4
 v4 := Tryz.zeroValue4
 t5 := Tryz.underlying5
 a5 := Tryz.isAgg5
 z5 := Tryz.sizeOf5
 v5 := Tryz.zeroValue5
 t9 := Tryz.underlying9
 a9 := Tryz.isAgg9
 z9 := Tryz.sizeOf9
 v9 := Tryz.zeroValue9
 t21 := Tryz.underlying21
 a21 := Tryz.isAgg21
 z21 := Tryz.sizeOf21
 v21 := Tryz.zeroValue21
 t46 := Tryz.underlying312
 a46 := Tryz.isAgg312
 z46 := Tryz.sizeOf312
 v46 := Tryz.zeroValue312 }
open Go.RowKit Go.Lib in
theorem Tryz.strings_IndexRune_ascii (s : ByteArray) (r : Int) (w : World) (h0 : 0 ≤ r) (h1 : r < 128) :
  Calls Tryz.prog 206 #[.string s, .int .i32 r] w fun e w' => e = .returned (.int .i64 (Lib.indexByte s.data.toList r.toNat.toUInt8)) ∧ w' = w := Any.strings_IndexRune_ascii Tryz.lays152 s r w h0 h1
def Tryz.lays226_ren : Go.Shelf.Ren := ⟨fun | 226 => 207 | n => n,fun | 3 => 3 | 4 => 4 | n => n,fun | n => n⟩
theorem Tryz.lays226 : Go.Proofs.Lays.n226 Tryz.prog Tryz.lays226_ren := {
 mixed := by kernel_rfl
 f226 := Tryz.func207.trans (congrArg some (by kernel_rfl))
 t3 := Tryz.underlying3
 a3 := Tryz.isAgg3
 z3 := Tryz.sizeOf3
 v3 := Tryz.zeroValue3
 t4 := Tryz.underlying4
 a4 := Tryz.isAgg4
 z4 := Tryz.sizeOf4
 v4 := Tryz.zeroValue4 }
open Go.RowKit Go.Lib in
theorem Tryz.strings_shouldUseASCIISet (n : Int) (w : World) :
  Calls Tryz.prog 207 #[.int .i64 n] w fun e w' => e = .returned (.bool (decide (8 < n))) ∧ w' = w := Any.strings_shouldUseASCIISet Tryz.lays226 n w
def Tryz.lays153_ren : Go.Shelf.Ren := ⟨fun | 153 => 137 | 152 => 206 | 226 => 207 | 227 => 88 | 228 => 151 | 137 => 212 | 119 => 267 | 224 => 268 | 225 => 269 | 217 => 272 | 266 => 304 | n => n,fun | 9 => 9 | 3 => 3 | 4 => 4 | 5 => 5 | 21 => 21 | 117 => 145 | 116 => 144 | 0 => 0 | 46 => 312 | 124 => 148 | n => n,fun | n => n⟩
theorem Tryz.lays153 : Go.Proofs.Lays.n153 Tryz.prog Tryz.lays153_ren := {
 mixed := by kernel_rfl
 f119 := Tryz.func267.trans (congrArg some (by kernel_rfl))
 f137 := Tryz.func212.trans (congrArg some (by kernel_rfl))
 f152 := Tryz.func206.trans (congrArg some (by kernel_rfl))
 f153 := Tryz.func137.trans (congrArg some (by kernel_rfl))
 f217 := Tryz.func272.trans (congrArg some (by kernel_rfl))
 f224 := Tryz.func268.trans (congrArg some (by kernel_rfl))
 f225 := Tryz.func269.trans (congrArg some (by kernel_rfl))
 f226 := Tryz.func207.trans (congrArg some (by kernel_rfl))
 f227 := Tryz.func88.trans (congrArg some (by kernel_rfl))
 f228 := Tryz.func151.trans (congrArg some (by kernel_rfl))
 f266 := Tryz.func304.trans (congrArg some (by kernel_rfl))
 t0 := Tryz.underlying0
 a0 := Tryz.isAgg0
 z0 := Tryz.sizeOf0
 v0 := Tryz.zeroValue0
 t3 := Tryz.underlying3
 a3 := Tryz.isAgg3
 z3 := Tryz.sizeOf3
 v3 := Tryz.zeroValue3
 t4 := Tryz.underlying4
 a4 := Tryz.isAgg4
 z4 := Tryz.sizeOf4
 v4 := Tryz.zeroValue4
 t5 := Tryz.underlying5
 a5 := Tryz.isAgg5
 z5 := Tryz.sizeOf5
 v5 := Tryz.zeroValue5
 t9 := Tryz.underlying9
 a9 := Tryz.isAgg9
 z9 := Tryz.sizeOf9
 v9 := Tryz.zeroValue9
 t21 := Tryz.underlying21
 a21 := Tryz.isAgg21
 z21 := Tryz.sizeOf21
 v21 := Tryz.zeroValue21
 t46 := Tryz.underlying312
 a46 := Tryz.isAgg312
 z46 := Tryz.sizeOf312
 v46 := Tryz.zeroValue312
 t116 := Tryz.underlying144
 a116 := Tryz.isAgg144
 z116 := Tryz.sizeOf144
 t117 := Tryz.underlying145
 a117 := Tryz.isAgg145
 z117 := Tryz.sizeOf145
 v117 := Tryz.zeroValue145
 t124 := Tryz.underlying148
 a124 := Tryz.isAgg148
 z124 := Tryz.sizeOf148
 v124 := Tryz.zeroValue148 }
open Go.RowKit Go.Lib in
theorem Tryz.strings_IndexAny_none (s chars : ByteArray) (w : World) (h0 : chars.size = 0) :
  Calls Tryz.prog 137 #[.string s, .string chars] w fun e w' => e = .returned (.int .i64 (Lib.indexAny s.data.toList chars.data.toList)) ∧ w' = w := Any.strings_IndexAny_none Tryz.lays153 s chars w h0
open Go.RowKit Go.Lib in
theorem Tryz.strings_IndexAny_one (s chars : ByteArray) (w : World) (h1 : chars.size = 1) (hascii : ∀ (j : Nat) b,chars.data.toList[j]? = some b → b.toNat < 128) :
  Calls Tryz.prog 137 #[.string s, .string chars] w fun e w' => e = .returned (.int .i64 (Lib.indexAny s.data.toList chars.data.toList)) ∧ w' = w := Any.strings_IndexAny_one Tryz.lays153 s chars w h1 hascii
open Go.RowKit Go.Lib in
theorem Tryz.strings_IndexAny_long (hv116 : ∀ w,(zeroValue 144).run Tryz.prog w = .ok (.agg (Array.replicate 256 (.bool false))) w) (s chars : ByteArray) (w : World) (h2 : 2 ≤ chars.size) (h8 : 8 < s.size) (hs : s.size < 4294967281) (hcs : chars.size < 4294967281) (hascii : ∀ (j : Nat) b,chars.data.toList[j]? = some b → b.toNat < 128) :
  Calls Tryz.prog 137 #[.string s, .string chars] w fun e w' => e = .returned (.int .i64 (Lib.indexAny s.data.toList chars.data.toList)) ∧ w' = ((w.alloc (.cells (Lib.setCells chars.data.toList) 144)).alloc (.cells (Lib.setCells chars.data.toList) 144)) := Any.strings_IndexAny_long Tryz.lays153 hv116 (by kernel_rfl) s chars w h2 h8 hs hcs hascii
open Go.RowKit Go.Lib in
theorem Tryz.strings_IndexAny (hv116 : ∀ w,(zeroValue 144).run Tryz.prog w = .ok (.agg (Array.replicate 256 (.bool false))) w) (s chars : ByteArray) (w : World) (hs : s.size < 4294967281) (hcs : chars.size < 4294967281) (has : ∀ (j : Nat) b,s.data.toList[j]? = some b → b.toNat < 128) (hac : ∀ (j : Nat) b,chars.data.toList[j]? = some b → b.toNat < 128) :
  Calls Tryz.prog 137 #[.string s, .string chars] w fun e w' => e = .returned (.int .i64 (Lib.indexAny s.data.toList chars.data.toList)) ∧ Below w.heap.size w w' := Any.strings_IndexAny Tryz.lays153 hv116 (by kernel_rfl) s chars w hs hcs has hac
def Tryz.lays150_ren : Go.Shelf.Ren := ⟨fun | 150 => 80 | 153 => 137 | 152 => 206 | 226 => 207 | 227 => 88 | 228 => 151 | 137 => 212 | 119 => 267 | 224 => 268 | 225 => 269 | 217 => 272 | 266 => 304 | n => n,fun | 9 => 9 | 4 => 4 | 3 => 3 | 5 => 5 | 21 => 21 | 117 => 145 | 116 => 144 | 0 => 0 | 46 => 312 | 124 => 148 | n => n,fun | n => n⟩
theorem Tryz.lays150 : Go.Proofs.Lays.n150 Tryz.prog Tryz.lays150_ren := {
 mixed := by kernel_rfl
 f119 := Tryz.func267.trans (congrArg some (by kernel_rfl))
 f137 := Tryz.func212.trans (congrArg some (by kernel_rfl))
 f150 := Tryz.func80.trans (congrArg some (by kernel_rfl))
 f152 := Tryz.func206.trans (congrArg some (by kernel_rfl))
 f153 := Tryz.func137.trans (congrArg some (by kernel_rfl))
 f217 := Tryz.func272.trans (congrArg some (by kernel_rfl))
 f224 := Tryz.func268.trans (congrArg some (by kernel_rfl))
 f225 := Tryz.func269.trans (congrArg some (by kernel_rfl))
 f226 := Tryz.func207.trans (congrArg some (by kernel_rfl))
 f227 := Tryz.func88.trans (congrArg some (by kernel_rfl))
 f228 := Tryz.func151.trans (congrArg some (by kernel_rfl))
 f266 := Tryz.func304.trans (congrArg some (by kernel_rfl))
 t0 := Tryz.underlying0
 a0 := Tryz.isAgg0
 z0 := Tryz.sizeOf0
 v0 := Tryz.zeroValue0
 t3 := Tryz.underlying3
 a3 := Tryz.isAgg3
 z3 := Tryz.sizeOf3
 v3 := Tryz.zeroValue3
 t4 := Tryz.underlying4
 a4 := Tryz.isAgg4
 z4 := Tryz.sizeOf4
 v4 := Tryz.zeroValue4
 t5 := Tryz.underlying5
 a5 := Tryz.isAgg5
 z5 := Tryz.sizeOf5
 v5 := Tryz.zeroValue5
 t9 := Tryz.underlying9
 a9 := Tryz.isAgg9
 z9 := Tryz.sizeOf9
 v9 := Tryz.zeroValue9
 t21 := Tryz.underlying21
 a21 := Tryz.isAgg21
 z21 := Tryz.sizeOf21
 v21 := Tryz.zeroValue21
 t46 := Tryz.underlying312
 a46 := Tryz.isAgg312
 z46 := Tryz.sizeOf312
 v46 := Tryz.zeroValue312
 t116 := Tryz.underlying144
 a116 := Tryz.isAgg144
 z116 := Tryz.sizeOf144
 t117 := Tryz.underlying145
 a117 := Tryz.isAgg145
 z117 := Tryz.sizeOf145
 v117 := Tryz.zeroValue145
 t124 := Tryz.underlying148
 a124 := Tryz.isAgg148
 z124 := Tryz.sizeOf148
 v124 := Tryz.zeroValue148 }
open Go.RowKit Go.Lib in
theorem Tryz.strings_ContainsAny (hv116 : ∀ w,(zeroValue 144).run Tryz.prog w = .ok (.agg (Array.replicate 256 (.bool false))) w) (s chars : ByteArray) (w : World) (hs : s.size < 4294967281) (hcs : chars.size < 4294967281) (has : ∀ (j : Nat) b,s.data.toList[j]? = some b → b.toNat < 128) (hac : ∀ (j : Nat) b,chars.data.toList[j]? = some b → b.toNat < 128) :
  Calls Tryz.prog 80 #[.string s, .string chars] w fun e w' => e = .returned (.bool (Lib.containsAny s.data.toList chars.data.toList)) ∧ Below w.heap.size w w' := Any.strings_ContainsAny Tryz.lays150 hv116 (by kernel_rfl) s chars w hs hcs has hac
end Go.Proofs
end
section
namespace Go.Dk
open Go.RowKit Go.Dm

inductive Fr where
 | sq (y : Code)
 | ct (K : Act → World → Prop)
 | bk (id : Nat)
def QS (P : Program) (Q0 : Exit → Act → World → Prop) : List Fr → Exit → Act → World → Prop
 | [] => Q0
 | .sq y :: fs => Exit.then (y.wp P (QS P Q0 fs)) (QS P Q0 fs)
 | .ct K :: fs => Exit.then K (QS P Q0 fs)
 | .bk id :: fs => Exit.inBlock id (QS P Q0 fs)
inductive Cur where
 | co (c : Code)
 | op (all : Array Oper) (rest : List Oper)
 | no
 | ex (id : Nat)
 | rt
def wpU (P : Program) (Q0 : Exit → Act → World → Prop) : Cur → List Fr → Act → World → Prop
 | .co c,fs => c.wp P (QS P Q0 fs)
 | .op all rest,fs => wpList P all (QS P Q0 fs) rest
 | .no,fs => QS P Q0 fs .normal
 | .ex id,fs => QS P Q0 fs (.exit id)
 | .rt,fs => QS P Q0 fs .ret

abbrev Kn := List (Nat × Option Bool)
def lkB : Kn → Nat → Option Bool
 | [],_ => none
 | (k,v) :: B,d => bif Nat.beq k d then v else lkB B d
def zsE (d : Nat) (k : Option Bool) (B : Kn) : Kn :=
 match k with
 | some b => (d,some b) :: B
 | none => match lkB B d with
  | some _ => (d,none) :: B
  | none => B
def Kns (B : Kn) (a : Act) : Prop := ∀ d b,lkB B d = some b → a.tmps[d]? = some (.bool b)
def kOf (B : Kn) : Operand → Option Bool
 | .tmp s => lkB B s
 | .const (.bool b) => some b
 | _ => none
def knO (B : Kn) : Op → Option Bool
 | .move x => kOf B x
 | .assign x => kOf B x
 | .pick c x y => match kOf B c with
  | some true => kOf B x
  | some false => kOf B y
  | none => none
 | .unOp .not _ x => match kOf B x with
  | some true => some false
  | some false => some true
  | none => none
 | _ => none

structure Tab where
 und : List (Nat × TypeDesc)
 fa : List (Nat × Nat × Nat)
 ag : List (Nat × Bool)
 sz : List (Nat × Nat)
class TabOk (P : Program) (τ : Tab) : Prop where
 und : ∀ p ∈ τ.und,P.underlying p.1 = some p.2
 fa : ∀ p ∈ τ.fa, ∀ b o w,(Instr.fieldAt p.1 (ptr b o) p.2.1).run P w = .ok (ptr b (o + p.2.2)) w
 ag : ∀ p ∈ τ.ag,zun P p.1 = some p.2
 sz : ∀ p ∈ τ.sz,zhG P p.1 = some p.2
def allP {α : Type} (Q : α → Prop) : List α → Prop
 | [] => True
 | x :: l => Q x ∧ allP Q l
theorem zlC {α : Type} {Q : α → Prop} : ∀ {l : List α},allP Q l → ∀ x ∈ l,Q x
 | [],_,x,hx => by cases hx
 | y :: l,h,x,hx => by
  rcases List.mem_cons.1 hx with rfl | hx
  ·exact h.1
  ·exact zlC h.2 x hx
def ass {α : Type} : List (Nat × α) → Nat → Option α
 | [],_ => none
 | (k,v) :: l,t => bif Nat.beq k t then some v else ass l t
def offs : List (Nat × Nat × Nat) → Nat → Nat → Option Nat
 | [],_,_ => none
 | (k,j,v) :: l,t,i => bif Nat.beq k t then bif Nat.beq j i then some v else offs l t i else offs l t i
theorem zkl {α : Type} : ∀ {l : List (Nat × α)} {t : Nat} {v : α},ass l t = some v → (t,v) ∈ l
 | [],_,_,h => by cases h
 | (k,u) :: l,t,v,h => by
  simp only [ass] at h
  by_cases e : Nat.beq k t = true
  ·simp only [e,cond_true,Option.some.injEq] at h
   have : k = t := by simpa using e
   subst this; subst h
   exact List.mem_cons_self ..
  ·simp only [e] at h
   exact List.mem_cons_of_mem _ (zkl h)
theorem zqX : ∀ {l : List (Nat × Nat × Nat)} {t i v : Nat},offs l t i = some v → (t,i,v) ∈ l
 | [],_,_,_,h => by cases h
 | (k,j,u) :: l,t,i,v,h => by
  simp only [offs] at h
  by_cases e : Nat.beq k t = true
  ·by_cases e2 : Nat.beq j i = true
   ·simp only [e,e2,cond_true,Option.some.injEq] at h
    have h1 : k = t := by simpa using e
    have h2 : j = i := by simpa using e2
    subst h1; subst h2; subst h
    exact List.mem_cons_self ..
   ·simp only [e,e2,cond_true] at h
    exact List.mem_cons_of_mem _ (zqX h)
  ·simp only [e] at h
   exact List.mem_cons_of_mem _ (zqX h)
def nth {α : Type} : List α → Nat → Option α
 | [],_ => none
 | x :: _,0 => some x
 | _ :: l,n + 1 => nth l n
theorem zkm {α : Type} : ∀ (l : List α) (n : Nat),nth l n = l[n]?
 | [],_ => by simp [nth]
 | _ :: _,0 => by simp [nth]
 | _ :: l,n + 1 => by simp [nth,zkm l n]

def cmpI (o : BinOp) (m n : Int) : Option Value :=
 match o with
 | .eql => some (.bool (m == n))
 | .neq => some (.bool (!(m == n)))
 | .lss => some (.bool (decide (m < n)))
 | .leq => some (.bool (decide (m ≤ n)))
 | .gtr => some (.bool (decide (n < m)))
 | .geq => some (.bool (decide (n ≤ m)))
 | _ => none
def evO (τ : Tab) (E : Env) (B : Kn) : Op → Option Value
 | .move x => evl E x
 | .assign x => evl E x
 | .pick c x y => match kOf B c with
  | some true => evl E x
  | some false => evl E y
  | none => none
 | .unOp .not _ x => match evl E x with
  | some (.bool b) => some (.bool (!b))
  | _ => none
 | .binOp o _ x y _ => match evl E x with
  | some (.int .i64 m) => match evl E y with
   | some (.int .i64 n) => cmpI o m n
   | _ => none
  | some (.string ⟨⟨l⟩⟩) => match evl E y with
   | some (.string ⟨⟨m⟩⟩) => match o with
    | .eql => some (.bool (l == m))
    | .neq => some (.bool (!(l == m)))
    | _ => none
   | _ => none
  | _ => none
 | .extract x i => match evl E x with
  | some (.tuple ⟨l⟩) => nth l i
  | _ => none
 | .nilCheck x => match evl E x with
  | some (.pointer (some ad)) => some (.pointer (some ad))
  | _ => none
 | .fieldAddr t x i => match evl E x with
  | some (.pointer (some ⟨b,o,none⟩)) => match offs τ.fa t i with
   | some f => some (.pointer (some ⟨b,o + f,none⟩))
   | none => none
  | _ => none
 | .call ⟨.builtin .len,⟨[x]⟩,⟨[t]⟩⟩ => match ass τ.und t with
  | some .string => match evl E x with
   | some (.string ⟨⟨l⟩⟩) => some (.int .i64 l.length)
   | _ => none
  | some (.slice _) => match evl E x with
   | some (.slice _ n _) => some (.int .i64 n)
   | _ => none
  | _ => none
 | _ => none

section
variable {P : Program} {τ : Tab} {N : Nat} {E : Env} {B : Kn} {a : Act} {w : World}

theorem ze8 (hB : Kns B a) {x : Operand} {b : Bool} (h : kOf B x = some b) : a.eval x = .bool b := by
 cases x with
 | tmp s => have := hB s b h; simp [Act.eval,Array.getD_eq_getD_getElem?,this]
 | const c =>
  cases c <;> first | (simp [kOf] at h; done) | skip
  simp only [kOf,Option.some.injEq] at h
  subst h; rfl
 | global g => simp [kOf] at h
 | func f => simp [kOf] at h

theorem evO_ok [hτ : TabOk P τ] {o : Oper} {v : Value} (hf : Fits N E a) (hB : Kns B a) (h : evO τ E B o.op = some v) :
  (execOp a.eval o).run P w = .ok (.value v) w ∧ ∀ b,knO B o.op = some b → v = .bool b := by
 obtain ⟨dst,op,t,p,af,gd⟩ := o
 dsimp only at h ⊢
 unfold evO at h
 split at h
 ·exact ⟨zAv hf h,fun b hb => (hf.ev h).symm.trans (ze8 hB hb)⟩
 ·exact ⟨zt6 hf h,fun b hb => (hf.ev h).symm.trans (ze8 hB hb)⟩
 ·rename_i c x y
  split at h
  ·rename_i hc
   refine ⟨?_,fun b hb => ?_⟩
   ·simp only [execOp]; rw [ze8 hB hc,hf.ev h]; simp [asBool]
   ·simp only [knO,hc] at hb; exact (hf.ev h).symm.trans (ze8 hB hb)
  ·rename_i hc
   refine ⟨?_,fun b hb => ?_⟩
   ·simp only [execOp]; rw [ze8 hB hc,hf.ev h]; simp [asBool]
   ·simp only [knO,hc] at hb; exact (hf.ev h).symm.trans (ze8 hB hb)
  ·cases h
 ·rename_i ti x
  split at h
  ·rename_i b hx
   obtain rfl := Option.some.inj h
   refine ⟨zzr hf hx,fun b' hb => ?_⟩
   simp only [knO] at hb
   split at hb
   ·rename_i hk
    have := (hf.ev hx).symm.trans (ze8 hB hk)
    cases this; cases hb; rfl
   ·rename_i hk
    have := (hf.ev hx).symm.trans (ze8 hB hk)
    cases this; cases hb; rfl
   ·cases hb
  ·cases h
 ·rename_i bo ti x y ty
  refine ⟨?_,fun b hb => by simp [knO] at hb⟩
  split at h
  ·rename_i m hx
   split at h
   ·rename_i n hy
    cases bo <;> first | (cases h; done) | skip
    ·obtain rfl := Option.some.inj h; exact zDc hf hx hy
    ·obtain rfl := Option.some.inj h; exact zzs hf hx hy
    ·obtain rfl := Option.some.inj h; exact zDd hf hx hy
    ·obtain rfl := Option.some.inj h; exact zDe hf hx hy
    ·obtain rfl := Option.some.inj h; exact zDf hf hx hy
    ·obtain rfl := Option.some.inj h; exact zDg hf hx hy
   ·cases h
  ·rename_i l hx
   split at h
   ·rename_i m hy
    split at h
    ·obtain rfl := Option.some.inj h; exact zya hf hx hy
    ·obtain rfl := Option.some.inj h; exact zyb hf hx hy
    ·cases h
   ·cases h
  ·cases h
 ·rename_i x i
  refine ⟨?_,fun b hb => by simp [knO] at hb⟩
  split at h
  ·rename_i l hx
   exact znO hf hx (by rw [zkm] at h; simpa using h)
  ·cases h
 ·refine ⟨?_,fun b hb => by simp [knO] at hb⟩
  split at h
  ·rename_i ad hx
   obtain rfl := Option.some.inj h
   exact zmk hf hx
  ·cases h
 ·refine ⟨?_,fun b hb => by simp [knO] at hb⟩
  split at h
  ·rename_i b o hx
   split at h
   ·rename_i f ho
    obtain rfl := Option.some.inj h
    exact zB6 (fun b o w => hτ.fa _ (zqX ho) b o w) hf hx
   ·cases h
  ·cases h
 ·refine ⟨?_,fun b hb => by simp [knO] at hb⟩
  split at h
  ·rename_i ht
   split at h
   ·rename_i l hx
    obtain rfl := Option.some.inj h
    exact zyc (hτ.und _ (zkl ht)) hf hx
   ·cases h
  ·rename_i e ht
   split at h
   ·rename_i n c hx
    obtain rfl := Option.some.inj h
    exact zka (hτ.und _ (zkl ht)) hf hx
   ·cases h
  ·cases h
 ·cases h

def gd (all : Array Oper) (E : Env) (B : Kn) : Option (Nat × Bool) → Option Bool
 | none => some true
 | some (j,b) => match nth all.toList j with
  | some ⟨some s,_,_,_,_,_⟩ => match lkB B s with
   | some b' => some (b' == b)
   | none => match look E s with
    | some (.tuple ⟨[]⟩) => some false
    | _ => none
  | _ => none
theorem zBR {all : Array Oper} {o : Oper} {m : Bool} (hf : Fits N E a) (hB : Kns B a) (h : gd all E B o.guard = some m) : Region.wanted o (yielded all a.tmps) = m := by
 unfold gd at h
 split at h
 ·rename_i hg
  obtain rfl := Option.some.inj h
  simp [Region.wanted,hg]
 ·rename_i j b hg
  split at h
  ·rename_i s _ _ _ _ _ hs
   rw [zkm] at hs
   have hs' : (all[j]?).bind (·.dst) = some s := by rw [← Array.getElem?_toList,hs]; rfl
   split at h
   ·rename_i b' hb'
    obtain rfl := Option.some.inj h
    have hy : yielded all a.tmps j = some b' := by simp [yielded,hs',hB s _ hb']
    cases b <;> cases b' <;> simp [Region.wanted,hg,hy]
   ·split at h
    ·rename_i hu
     obtain rfl := Option.some.inj h
     have hy : yielded all a.tmps j = none := by simp [yielded,hs',hf.has s _ hu]
     simp [Region.wanted,hg,hy]
    ·cases h
  ·cases h

abbrev Cfg := Cur × List Fr × Env × Kn
def zyA (τ : Tab) (N : Nat) (all : Array Oper) (o : Oper) (rest : List Oper) (fs : List Fr) (E : Env) (B : Kn) : Option Cfg :=
 match gd all E B o.guard with
 | some true => match evO τ E B o.op with
  | some v => match o.dst with
   | some d => match Nat.blt d N with
    | true => match zsE d (knO B o.op) B with
     | [] => some (.op all rest,fs,(d,v) :: E,[])
     | k :: B' => some (.op all rest,fs,(d,v) :: E,k :: B')
    | false => none
   | none => some (.op all rest,fs,E,B)
  | none => none
 | some false => match o.dst with
  | some d => match Nat.blt d N with
   | true => match zsE d none B with
    | [] => some (.op all rest,fs,(d,undef) :: E,[])
    | k :: B' => some (.op all rest,fs,(d,undef) :: E,k :: B')
   | false => none
  | none => some (.op all rest,fs,E,B)
 | none => none
def step (τ : Tab) (N : Nat) (E : Env) (B : Kn) : Cur → List Fr → Option Cfg
 | .co .skip,fs => some (.no,fs,E,B)
 | .co (.seq x y),fs => some (.co x, .sq y :: fs,E,B)
 | .co (.region _ ops false),fs => some (.op ops ops.toList,fs,E,B)
 | .co (.cond c x y),fs => match kOf B c with
  | some true => some (.co x,fs,E,B)
  | some false => some (.co y,fs,E,B)
  | none => none
 | .co (.block id c),fs => some (.co c, .bk id :: fs,E,B)
 | .co (.exit id),fs => some (.ex id,fs,E,B)
 | .co .ret,fs => some (.rt,fs,E,B)
 | .no, .sq y :: fs => some (.co y,fs,E,B)
 | .no, .bk _ :: fs => some (.no,fs,E,B)
 | .ex id, .sq _ :: fs => some (.ex id,fs,E,B)
 | .ex id, .ct _ :: fs => some (.ex id,fs,E,B)
 | .ex id, .bk i :: fs => match Nat.beq id i with
  | true => some (.no,fs,E,B)
  | false => some (.ex id,fs,E,B)
 | .rt,_ :: fs => some (.rt,fs,E,B)
 | .op _ [],fs => some (.no,fs,E,B)
 | .op all (o :: rest),fs => zyA τ N all o rest fs E B
 | _,_ => none
def zlD (τ : Tab) (N : Nat) : Nat → Cur → List Fr → Env → Kn → Cfg
 | 0,c,fs,E,B => (c,fs,E,B)
 | n + 1,c,fs,E,B => match step τ N E B c fs with
  | some (c',fs',E',B') => zlD τ N n c' fs' E' B'
  | none => (c,fs,E,B)

variable {Q0 : Exit → Act → World → Prop}

theorem zBS {d : Nat} {k : Option Bool} {d' : Nat} {b : Bool} (h : lkB (zsE d k B) d' = some b) : (d = d' ∧ k = some b) ∨ (d ≠ d' ∧ lkB B d' = some b) := by
 unfold zsE at h
 by_cases e : d = d'
 ·subst e
  left
  split at h
  ·simp [lkB] at h; exact ⟨rfl,by rw [h]⟩
  ·split at h
   ·simp [lkB] at h
   ·rename_i hn; rw [hn] at h; cases h
 ·right
  refine ⟨e,?_⟩
  have hb : Nat.beq d d' = false := zaO.2 e
  split at h
  ·simpa [lkB,hb] using h
  ·split at h
   ·simpa [lkB,hb] using h
   ·exact h
theorem Kns.put (hf : Fits N E a) (hB : Kns B a) {d : Nat} (hd : Nat.blt d N = true) {v : Value} {k : Option Bool} (hk : ∀ b,k = some b → v = .bool b) : Kns (zsE d k B) (a.put (some d) v) := by
 intro d' b h
 have hd' : d < a.tmps.size := by rw [hf.size]; simpa [Nat.blt_eq] using hd
 rcases zBS h with ⟨rfl,hkb⟩ | ⟨hne,hb⟩
 ·simp [Act.put,hd',hk b hkb]
 ·simp [Act.put,hne,hB d' b hb]
theorem Kns.nil : Kns [] a := fun _ _ h => by cases h

theorem zug {Q : Exit → Act → World → Prop} {all : Array Oper} {rest : List Oper} {o : Oper} {v : Value} (hg : Region.wanted o (yielded all a.tmps) = true) (hx : (execOp a.eval o).run P w = .ok (.value v) w)
  (hk : wpList P all Q rest (a.put o.dst v) w) : wpList P all Q (o :: rest) a w := by
 unfold wpList
 rw [if_pos hg]
 left
 unfold Oper.wp
 rw [hx]
 exact hk
theorem zBT {Q : Exit → Act → World → Prop} {all : Array Oper} {rest : List Oper} {o : Oper} (hg : Region.wanted o (yielded all a.tmps) = false)
  (hk : wpList P all Q rest (a.put o.dst undef) w) : wpList P all Q (o :: rest) a w := by
 unfold wpList
 rw [if_neg (by simp [hg])]
 exact hk
theorem zEv {Q : Exit → Act → World → Prop} {all : Array Oper} {rest : List Oper} {dst : Option Nat} {op : Op} {t : Nat} {p : String} {af : Array Edge} {g : Option (Nat × Bool)}
  (hg : Region.wanted ⟨dst,op,t,p,af,g⟩ (yielded all a.tmps) = true) (hk : wpList P all Q (⟨dst,op,t,p,af,none⟩ :: rest) a w) : wpList P all Q (⟨dst,op,t,p,af,g⟩ :: rest) a w := by
 unfold wpList at hk ⊢
 rw [if_pos hg]
 rw [if_pos (by simp [Region.wanted])] at hk
 exact hk

theorem zAU [TabOk P τ] {all : Array Oper} {o : Oper} {rest : List Oper} {fs : List Fr} {c : Cfg} (h : zyA τ N all o rest fs E B = some c) (hf : Fits N E a) (hB : Kns B a)
  (k : ∀ a,Fits N c.2.2.1 a → Kns c.2.2.2 a → wpU P Q0 c.1 c.2.1 a w) : wpU P Q0 (.op all (o :: rest)) fs a w := by
 unfold zyA at h
 split at h
 ·rename_i hg
  have hw := zBR hf hB hg
  split at h
  ·rename_i v hv
   obtain ⟨hx,hkn⟩ := evO_ok (P := P) (w := w) hf hB hv
   split at h
   ·rename_i d hd
    split at h
    ·rename_i hN
     have hs := Kns.put hf hB hN (v := v) hkn
     refine zug hw hx ?_
     rw [hd]
     split at h <;> (obtain rfl := Option.some.inj h; rename_i e; rw [e] at hs; exact k _ (hf.put hN _) hs)
    ·cases h
   ·rename_i hd
    obtain rfl := Option.some.inj h
    refine zug hw hx ?_
    rw [hd]
    exact k _ hf hB
  ·cases h
 ·rename_i hg
  have hw := zBR hf hB hg
  refine zBT hw ?_
  split at h
  ·rename_i d hd
   split at h
   ·rename_i hN
    have hs := Kns.put hf hB hN (v := undef) (k := none) (fun b h => by cases h)
    rw [hd]
    split at h <;> (obtain rfl := Option.some.inj h; rename_i e; rw [e] at hs; exact k _ (hf.put hN _) hs)
   ·cases h
  ·rename_i hd
   obtain rfl := Option.some.inj h
   rw [hd]
   exact k _ hf hB
 ·cases h
theorem zEw [TabOk P τ] {cu : Cur} {fs : List Fr} {c : Cfg} (h : step τ N E B cu fs = some c) (hf : Fits N E a) (hB : Kns B a)
  (k : ∀ a,Fits N c.2.2.1 a → Kns c.2.2.2 a → wpU P Q0 c.1 c.2.1 a w) : wpU P Q0 cu fs a w := by
 unfold step at h
 split at h
 ·obtain rfl := Option.some.inj h; exact wp_skip (k a hf hB)
 ·obtain rfl := Option.some.inj h; exact wp_seq (k a hf hB)
 ·obtain rfl := Option.some.inj h; exact wp_region_list (k a hf hB)
 ·split at h
  ·rename_i hc; obtain rfl := Option.some.inj h; exact wp_cond_true (ze8 hB hc) (k a hf hB)
  ·rename_i hc; obtain rfl := Option.some.inj h; exact wp_cond_false (ze8 hB hc) (k a hf hB)
  ·cases h
 ·obtain rfl := Option.some.inj h; exact wp_block (k a hf hB)
 ·obtain rfl := Option.some.inj h; exact wp_exit (k a hf hB)
 ·obtain rfl := Option.some.inj h; exact wp_ret (k a hf hB)
 ·obtain rfl := Option.some.inj h; exact k a hf hB
 ·obtain rfl := Option.some.inj h; exact k a hf hB
 ·obtain rfl := Option.some.inj h; exact k a hf hB
 ·obtain rfl := Option.some.inj h; exact k a hf hB
 ·rename_i id i fs
  split at h
  ·rename_i e
   obtain rfl := Option.some.inj h
   have e' : id = i := by simpa using e
   subst e'
   exact zpi (k a hf hB)
  ·rename_i e
   obtain rfl := Option.some.inj h
   exact zpj e (k a hf hB)
 ·rename_i f fs
  obtain rfl := Option.some.inj h
  cases f with
  | sq y => exact k a hf hB
  | ct K => exact k a hf hB
  | bk id => exact k a hf hB
 ·obtain rfl := Option.some.inj h; exact k a hf hB
 ·exact zAU h hf hB k
 ·cases h
theorem ze9 [TabOk P τ] : ∀ {n : Nat} {c c' : Cur} {fs fs' : List Fr} {E E' : Env} {B B' : Kn} {a : Act},zlD τ N n c fs E B = (c',fs',E',B') → Fits N E a → Kns B a →
  (∀ a,Fits N E' a → Kns B' a → wpU P Q0 c' fs' a w) → wpU P Q0 c fs a w
 | 0,c,c',fs,fs',E,E',B,B',a,h,hf,hB,k => by cases h; exact k a hf hB
 | n + 1,c,c',fs,fs',E,E',B,B',a,h,hf,hB,k => by
  unfold zlD at h
  split at h
  ·rename_i h1
   exact zEw h1 hf hB fun a hf hB => ze9 h hf hB k
  ·cases h; exact k a hf hB
end

def S (P : Program) (τ : Tab) (N : Nat) {ρ : Type} (R : ρ) (Q0 : Exit → Act → World → Prop) (w0 : World) (F : List Nat) (c : Cur) (fs : List Fr) (E : Env) (B : Kn) (L : List Res) (M : Option ρ) : Prop :=
 ∀ a w,Fits N E a → Kns B a → Own w0 F w L → M = some R → wpU P Q0 c fs a w
def far : Nat := 100000000

section
variable {P : Program} {τ : Tab} {N : Nat} {Q0 : Exit → Act → World → Prop} {w0 : World} {F : List Nat} {ρ α : Type} {R : ρ} {c c' : Cur} {fs fs' : List Fr} {E E' : Env} {B B' : Kn} {L : List Res} {M : Option ρ}
variable {all : Array Oper} {rest : List Oper} {d : Nat} {o : Oper}

theorem S.at [TabOk P τ] (h : zlD τ N far c fs E B = (c',fs',E',B')) (k : S P τ N R Q0 w0 F c' fs' E' B' L M) : S P τ N R Q0 w0 F c fs E B L M :=
 fun _ w hf hB hO hm => ze9 h hf hB fun a hf hB => k a w hf hB hO hm
theorem S.enter (τ : Tab) {f : FuncId} {fn : Func} {co : Code} {vs : List Value} {Rp : Ending → World → Prop}
  (hf : P.funcs[f]? = some fn) (hb : fn.body = some co) (hN : fn.ntmps = N) (hv : Nat.ble vs.length N = true)
  (h : S P τ N R (bodyPost P fn Rp) w0 F (.co co) [] (params 0 vs) [] L M) (hO : Own w0 F w0 L) (hm : M = some R) : Calls P f vs.toArray w0 Rp :=
 zxc hf hb hN hv fun a hf => h a w0 hf Kns.nil hO hm
theorem S.op (τ : Tab) {a : Act} {w : World} (h : S P τ N R Q0 w0 F (.op all rest) fs E [] L M) (hf : Fits N E a) (hO : Own w0 F w L) (hm : M = some R) : wpList P all (QS P Q0 fs) rest a w := h a w hf Kns.nil hO hm
theorem S.co (τ : Tab) {a : Act} {w : World} {co : Code} (h : S P τ N R Q0 w0 F (.co co) fs E [] L M) (hf : Fits N E a) (hO : Own w0 F w L) (hm : M = some R) : co.wp P (QS P Q0 fs) a w := h a w hf Kns.nil hO hm
theorem S.no (τ : Tab) {a : Act} {w : World} (h : S P τ N R Q0 w0 F .no fs E [] L M) (hf : Fits N E a) (hO : Own w0 F w L) (hm : M = some R) : QS P Q0 fs .normal a w := h a w hf Kns.nil hO hm

def nxO (τ : Tab) (N : Nat) (c : Cur) (fs : List Fr) (E : Env) (B : Kn) : Option (Array Oper × Oper × List Oper × List Fr × Env × Kn) :=
 match zlD τ N far c fs E B with
 | (.op all (o :: rest),fs,E,B) => match gd all E B o.guard with
  | some true => match o with
   | ⟨dst,op,t,p,af,_⟩ => some (all,⟨dst,op,t,p,af,none⟩,rest,fs,E,B)
  | _ => none
 | _ => none
theorem zo5 [TabOk P τ] {a : Act} {w : World} (h : nxO τ N c fs E B = some (all,o,rest,fs',E',B')) (hf : Fits N E a) (hB : Kns B a)
  (k : ∀ a,Fits N E' a → Kns B' a → wpList P all (QS P Q0 fs') (o :: rest) a w) : wpU P Q0 c fs a w := by
 unfold nxO at h
 split at h
 ·rename_i hd
  split at h
  ·rename_i hg
   obtain ⟨dst,op,t,p,af,g⟩ := ‹Oper›
   cases h
   exact ze9 hd hf hB fun a hf hB => zEv (zBR hf hB hg) (k a hf hB)
  ·cases h
 ·cases h
theorem rw_ [TabOk P τ] (h : nxO τ N c fs E B = some (all,o,rest,fs',E',B'))
  (k : ∀ a w,Fits N E' a → Own w0 F w L → M = some R → wpList P all (QS P Q0 fs') (o :: rest) a w) : S P τ N R Q0 w0 F c fs E B L M :=
 fun _ w hf hB hO hm => zo5 h hf hB fun a hf _ => k a w hf hO hm
theorem rc_ [TabOk P τ] {co : Code} (h : zlD τ N far c fs E B = (.co co,fs',E',B'))
  (k : ∀ a w,Fits N E' a → Own w0 F w L → M = some R → co.wp P (QS P Q0 fs') a w) : S P τ N R Q0 w0 F c fs E B L M :=
 fun _ w hf hB hO hm => ze9 h hf hB fun a hf _ => k a w hf hO hm
theorem vl [TabOk P τ] {op : Op} {t : Nat} {p : String} {af : Array Edge} {v : Value} (h : nxO τ N c fs E B = some (all,⟨some d,op,t,p,af,none⟩,rest,fs',E',B')) (hd : Nat.blt d N = true)
  (hx : ∀ a w,Fits N E' a → Own w0 F w L → (execOp a.eval ⟨some d,op,t,p,af,none⟩).run P w = .ok (.value v) w)
  (k : S P τ N R Q0 w0 F (.op all rest) fs' ((d,v) :: E') (zsE d none B') L M) : S P τ N R Q0 w0 F c fs E B L M :=
 fun _ w hf hB hO hm => zo5 h hf hB fun a hf hB => zug (by simp [Region.wanted]) (hx a w hf hO) (k _ w (hf.put hd _) (Kns.put hf hB hd fun _ e => by cases e) hO hm)
def zqG (L : List Res) (i : Nat) : Option (Nat × List Value) := match nth L i with
 | some (.blk b cs _) => some (b,cs)
 | some (.shr (some ⟨b,0,none⟩) cs) => some (b,cs)
 | _ => none
theorem zyB {w : World} {L : List Res} {i b : Nat} {cs : List Value} (hO : Own w0 F w L) (h : zqG L i = some (b,cs)) : zbX w (some ⟨b,0,none⟩) cs := by
 unfold zqG at h
 split at h
 ·rename_i h1
  rw [zkm] at h1
  cases h
  exact hO.blkSees h1
 ·rename_i h1
  rw [zkm] at h1
  cases h
  exact hO.sees h1
 ·cases h
def cut (l : List Value) : Nat → Nat → Option (List Value)
 | _,0 => some []
 | o,n + 1 => match nth l o with
  | some v => match cut l (o + 1) n with
   | some r => some (v :: r)
   | none => none
  | none => none
theorem cut_ok {l : List Value} : ∀ {n o : Nat} {r : List Value},cut l o n = some r → (l.drop o).take n = r ∧ r.length = n
 | 0,o,r,h => by cases h; simp
 | n + 1,o,r,h => by
  unfold cut at h
  split at h
  ·rename_i v hv
   split at h
   ·rename_i r' hr
    cases h
    obtain ⟨h1,h2⟩ := cut_ok hr
    rw [zkm] at hv
    have hlt : o < l.length := (List.getElem?_eq_some_iff.1 hv).1
    rw [List.drop_eq_getElem_cons hlt,List.take_succ_cons,h1]
    have : l[o] = v := (List.getElem?_eq_some_iff.1 hv).2
    exact ⟨by rw [this],by simp [h2]⟩
   ·cases h
  ·cases h
def ldV (τ : Tab) (cs : List Value) (t o : Nat) : Option Value := match ass τ.ag t with
 | some false => nth cs o
 | some true => match ass τ.sz t with
  | some n => match cut cs o n with
   | some vs => some (.agg ⟨vs⟩)
   | none => none
  | none => none
 | none => none
def one1 : Value → Bool
 | .agg _ => false
 | .tuple _ => false
 | _ => true
def put1 (cs vs : List Value) : Nat → Option (List Value)
 | 0 => over cs vs
 | o + 1 => match cs with
  | [] => none
  | c :: cs => match put1 cs vs o with
   | some r => some (c :: r)
   | none => none
where over : List Value → List Value → Option (List Value)
 | cs,[] => some cs
 | _ :: cs,v :: vs => match over cs vs with
  | some r => some (v :: r)
  | none => none
 | [],_ :: _ => none
theorem zzT : ∀ {vs cs r : List Value},put1.over cs vs = some r → r = vs ++ cs.drop vs.length ∧ vs.length ≤ cs.length
 | [],cs,r,h => by
  unfold put1.over at h
  cases h; simp
 | v :: vs,[],r,h => by unfold put1.over at h; cases h
 | v :: vs,c :: cs,r,h => by
  unfold put1.over at h
  split at h
  ·rename_i r' hr
   cases h
   obtain ⟨h1,h2⟩ := zzT hr
   subst h1
   simp [h2]
  ·cases h
theorem zzU : ∀ {o : Nat} {cs vs r : List Value},put1 cs vs o = some r → r = cs.take o ++ vs ++ cs.drop (o + vs.length) ∧ o + vs.length ≤ cs.length
 | 0,cs,vs,r,h => by
  unfold put1 at h
  obtain ⟨h1,h2⟩ := zzT h
  simp [h1,h2]
 | o + 1,[],vs,r,h => by unfold put1 at h; cases h
 | o + 1,c :: cs,vs,r,h => by
  cases hr : put1 cs vs o with
  | none => rw [put1,hr] at h; cases h
  | some r' =>
   rw [put1,hr] at h
   cases h
   obtain ⟨h1,h2⟩ := zzU hr
   subst h1
   refine ⟨?_,by simp only [List.length_cons]; omega⟩
   rw [show o + 1 + vs.length = (o + vs.length) + 1 by omega,List.take_succ_cons,List.drop_succ_cons]
   rfl
theorem zEy {cs : List Value} {o : Nat} {v : Value} (h : o < cs.length) : cs.take o ++ [v] ++ cs.drop (o + [v].length) = cs.set o v := by
 rw [List.set_eq_take_append_cons_drop,if_pos h]; simp
def setR : List Res → Nat → Res → Option (List Res)
 | [],_,_ => none
 | _ :: L,0,r => some (r :: L)
 | x :: L,i + 1,r => match setR L i r with
  | some l => some (x :: l)
  | none => none
theorem zzV {r : Res} : ∀ {L l : List Res} {i : Nat},setR L i r = some l → l = L.set i r
 | [],_,_,h => by cases h
 | _ :: _,_,0,h => by cases h; rfl
 | x :: L,l,i + 1,h => by
  unfold setR at h
  split at h
  ·rename_i l' hl
   cases h
   rw [List.set_cons_succ, ← zzV hl]
  ·cases h
theorem zEA {v : Value} (h : one1 v = true) : v.oneCell' = true ∧ v.cells = #[v] := by
 cases v <;> first | exact ⟨rfl,rfl⟩ | cases h
def cvs : Value → Option (Bool × List Value)
 | .agg ⟨l⟩ => match l.all one1 with
  | true => some (true,l)
  | false => none
 | .tuple _ => none
 | v => some (false,[v])
def nxS (τ : Tab) (N : Nat) (i : Nat) (L : List Res) (c : Cur) (fs : List Fr) (E : Env) (B : Kn) : Option (Array Oper × List Oper × List Fr × Env × Kn × Nat × Nat × List Res) :=
 match nxO τ N c fs E B with
 | some (all,⟨none, .store t x y,_,_,_,none⟩,rest,fs,E,B) => match evl E x with
  | some (.pointer (some ⟨b,o,none⟩)) => match evl E y with
   | some v => match nth L i with
    | some (.blk b' cs ty) => match cvs v with
     | some (_,vs) => match ass τ.sz t with
      | some n => match Nat.beq n vs.length with
       | true => match put1 cs vs o with
        | some cs' => match setR L i (.blk b' cs' ty) with
         | some L' => some (all,rest,fs,E,B,b,b',L')
         | none => none
        | none => none
       | false => none
      | none => none
     | none => none
    | _ => none
   | none => none
  | _ => none
 | _ => none
theorem st [hτ : TabOk P τ] (i : Nat) {b b' : Nat} {L' : List Res} (h : nxS τ N i L c fs E B = some (all,rest,fs',E',B',b,b',L')) (hb : b' = b)
  (k : S P τ N R Q0 w0 F (.op all rest) fs' E' B' L' M) : S P τ N R Q0 w0 F c fs E B L M := by
 intro a w hf hB hO hm
 subst hb
 unfold nxS at h
 split at h
 ·rename_i h0
  split at h
  ·rename_i b1 o hx
   split at h
   ·rename_i v hv
    split at h
    ·rename_i b2 cs ty hi
     rw [zkm] at hi
     split at h
     ·rename_i g vs hvs
      split at h
      ·rename_i n hn
       split at h
       ·rename_i hnl
        split at h
        ·rename_i cs' hp
         split at h
         ·rename_i L1 hL
          cases h
          obtain ⟨p1,p2⟩ := zzU hp
          have hnl' : n = vs.length := by simpa using hnl
          refine zo5 h0 hf hB fun a hf hB => ?_
          have hk : ∀ w,Own w0 F w (L.set i (.blk b' cs' ty)) → wpList P all (QS P Q0 fs') rest a w := fun w hO' => k a w hf hB (by rw [zzV hL]; exact hO') hm
          have hst := hτ.sz _ (zkl hn)
          cases v with
          | agg l =>
           obtain ⟨l⟩ := l
           cases ha : l.all one1 with
           | false => rw [cvs,ha] at hvs; cases hvs
           | true =>
            rw [cvs,ha] at hvs
            cases hvs
            exact zA0 (n := n) hst hi (by omega) (by simpa [hnl'] using p2) (fun v hv => (zEA (List.all_eq_true.1 ha v hv)).1) p1 hf hx hv hO hk
          | tuple l => cases hvs
          | _ =>
           cases hvs
           have hn1 : n = 1 := hnl'
           subst hn1
           have ho : o < cs.length := by simp only [List.length_cons,List.length_nil] at p2; omega
           refine zAZ (o := o) hst hi (by simpa [Nat.blt_eq] using ho) rfl rfl hf hx hv hO fun w hO' => hk w ?_
           rw [p1,zEy ho]
           exact hO'
         ·cases h
        ·cases h
       ·cases h
      ·cases h
     ·cases h
    ·cases h
   ·cases h
  ·cases h
 ·cases h
def nxA (τ : Tab) (N : Nat) (c : Cur) (fs : List Fr) (E : Env) (B : Kn) : Option (Array Oper × List Oper × List Fr × Env × Kn × Nat × Nat) :=
 match nxO τ N c fs E B with
 | some (all,⟨some d, .alloc ty,_,_,_,none⟩,rest,fs,E,B) => match Nat.blt d N with
  | true => match zsE d none B with
   | [] => some (all,rest,fs,E,[],d,ty)
   | k :: B' => some (all,rest,fs,E,k :: B',d,ty)
  | false => none
 | _ => none
theorem al [TabOk P τ] {ty : Nat} {cs : List Value} (hal : ∀ w,(Instr.alloc ty true (.tuple #[])).run P w = .ok (ptr w.heap.size 0) (w.alloc (.cells cs.toArray ty)))
  (h : nxA τ N c fs E B = some (all,rest,fs',E',B',d,ty)) (k : ∀ b,S P τ N R Q0 w0 F (.op all rest) fs' ((d,ptr b 0) :: E') B' (.blk b cs ty :: L) M) : S P τ N R Q0 w0 F c fs E B L M := by
 intro a w hf hB hO hm
 unfold nxA at h
 split at h
 ·rename_i h0
  split at h
  ·rename_i hN
   refine zo5 h0 hf hB fun a hf hB => ?_
   have hs := fun v => Kns.put hf hB hN (v := v) (k := none) (fun b h => by cases h)
   split at h <;> (rename_i e; cases h; rw [e] at hs; exact zrE (v := ptr w.heap.size 0) rfl (by simp only [execOp,Sem.run_bind,hal w,Result.andThen,Sem.run_pure]) (k _ _ _ (hf.put hN _) (hs _) (hO.newBlk cs ty) hm))
  ·cases h
 ·cases h
def nxX (τ : Tab) (N : Nat) (c : Cur) (fs : List Fr) (E : Env) (B : Kn) : Option (Array Oper × List Oper × List Fr × Env × Kn × Nat × Nat × List Value) :=
 match nxO τ N c fs E B with
 | some (all,⟨some d, .box ty x,_,_,_,none⟩,rest,fs,E,B) => match Nat.blt d N with
  | true => match evl E x with
   | some v => match cvs v with
    | some (_,cs) => match zsE d none B with
     | [] => some (all,rest,fs,E,[],d,ty,cs)
     | k :: B' => some (all,rest,fs,E,k :: B',d,ty,cs)
    | none => none
   | none => none
  | false => none
 | _ => none
theorem cvs_ok {v : Value} {g : Bool} {cs : List Value} (h : cvs v = some (g,cs)) : v.cells = cs.toArray := by
 cases v with
 | agg l =>
  obtain ⟨l⟩ := l
  cases ha : l.all one1 with
  | false => rw [cvs,ha] at h; cases h
  | true => rw [cvs,ha] at h; cases h; rfl
 | tuple l => cases h
 | _ => cases h; rfl
theorem bo [TabOk P τ] {ty : Nat} {cs : List Value} (h : nxX τ N c fs E B = some (all,rest,fs',E',B',d,ty,cs))
  (k : ∀ b,S P τ N R Q0 w0 F (.op all rest) fs' ((d,ptr b 0) :: E') B' (.blk b cs ty :: L) M) : S P τ N R Q0 w0 F c fs E B L M := by
 intro a w hf hB hO hm
 unfold nxX at h
 split at h
 ·rename_i h0
  split at h
  ·rename_i hN
   split at h
   ·rename_i v hv
    split at h
    ·rename_i g cs1 hc
     refine zo5 h0 hf hB fun a hf hB => ?_
     have hs := fun v => Kns.put hf hB hN (v := v) (k := none) (fun b h => by cases h)
     have hcs := cvs_ok hc
     split at h <;> (rename_i e; cases h; rw [e] at hs; exact zrE (v := ptr w.heap.size 0) (w' := w.alloc (.cells cs.toArray ty)) rfl (by simp only [execOp]; rw [hf.ev hv]; unfold Instr.box newVar; rw [hcs]; simp [newRow,go_sem]) (k _ _ _ (hf.put hN _) (hs _) (hO.newBlk cs ty) hm))
    ·cases h
   ·cases h
  ·cases h
 ·cases h
abbrev Ret {ρ : Type} (w0 : World) (V : ρ → Value) (R : ρ) : Ending → World → Prop := fun e w' => e = .returned (V R) ∧ Below w0.heap.size w0 w'
theorem nl (e sz : Nat) (k : S P τ N R Q0 w0 F c fs E B (.row (.slice none 0 0) e sz 0 [] :: L) M) : S P τ N R Q0 w0 F c fs E B L M :=
 fun a w hf hB hO hm => k a w hf hB (hO.nilRow e sz) hm
def nxC (τ : Tab) (N : Nat) (c : Cur) (fs : List Fr) (E : Env) (B : Kn) : Option (Array Oper × List Oper × List Fr × Env × Kn × Nat × Nat × List Value) :=
 match nxO τ N c fs E B with
 | some (all,⟨some d, .call ⟨.value (.func f),⟨xs⟩,_⟩,_,_,_,none⟩,rest,fs,E,B) => match Nat.blt d N with
  | true => match ztK E xs with
   | some vs => match zsE d none B with
    | [] => some (all,rest,fs,E,[],d,f,vs)
    | k :: B' => some (all,rest,fs,E,k :: B',d,f,vs)
   | none => none
  | false => none
 | _ => none
theorem zAV {Q : Exit → Act → World → Prop} {a : Act} {w : World} {f t : Nat} {p : String} {af : Array Edge} {xs : List Operand} {ats : Array TypeId} {vs : List Value} {K : Ending → World → Prop} (hc : zbZ P f) (hf : Fits N E a) (hB : Kns B a) (hd : Nat.blt d N = true) (hv : ztK E xs = some vs)
  (hw : Calls P f vs.toArray w K) (k : ∀ e w',K e w' → ∃ v,e = .returned v ∧ ∀ a,Fits N ((d,v) :: E) a → Kns (zsE d none B) a → wpList P all Q rest a w') :
  wpList P all Q (⟨some d, .call ⟨.value (.func f),⟨xs⟩,ats⟩,t,p,af,none⟩ :: rest) a w := by
 have hx := zFj (w := w) (dst := some d) (t := t) (p := p) (af := af) (gd := none) (ats := ats) hc hf (args := ⟨xs⟩) hv
 unfold wpList
 rw [if_pos (by simp [Region.wanted])]
 left
 unfold Oper.wp
 rw [hx,Oper.upon_enter]
 refine hw.mono fun e w' he => ?_
 obtain ⟨v,rfl,hk⟩ := k e w' he
 exact hk _ (hf.put hd _) (Kns.put hf hB hd fun b h => by cases h)
theorem nxC_ok [TabOk P τ] {a : Act} {w : World} {f : Nat} {vs : List Value} {K : Ending → World → Prop} (hc : zbZ P f) (h : nxC τ N c fs E B = some (all,rest,fs',E',B',d,f,vs)) (hf : Fits N E a) (hB : Kns B a)
  (hw : Calls P f vs.toArray w K) (k : ∀ e w',K e w' → ∃ v,e = .returned v ∧ ∀ a,Fits N ((d,v) :: E') a → Kns B' a → wpList P all (QS P Q0 fs') rest a w') : wpU P Q0 c fs a w := by
 unfold nxC at h
 split at h
 ·rename_i h0
  split at h
  ·rename_i hN
   split at h
   ·rename_i p hp
    refine zo5 h0 hf hB fun a hf hB => ?_
    have hs := fun v => Kns.put hf hB hN (v := v) (k := none) (fun b h => by cases h)
    split at h <;> (rename_i e; cases h; refine zAV hc hf hB hN hp hw fun e1 w' he => ?_; rw [e]; exact k e1 w' he)
   ·cases h
  ·cases h
 ·cases h
theorem cl [TabOk P τ] {f : Nat} {vs : List Value} {m : Option α} {g : α → Option ρ} {enc : α → Value} (hc : zbZ P f) (h : nxC τ N c fs E B = some (all,rest,fs',E',B',d,f,vs))
  (hw : ∀ x w,m = some x → Own w0 F w L → Calls P f vs.toArray w (Ret w enc x))
  (k : ∀ x,m = some x → S P τ N R Q0 w0 F (.op all rest) fs' ((d,enc x) :: E') B' L (g x)) : S P τ N R Q0 w0 F c fs E B L (m.bind g) := by
 intro a w hf hB hO hm
 obtain ⟨x,hx,hm⟩ := ob hm
 exact nxC_ok hc h hf hB (hw x w hx hO) fun e w' ⟨he,hb⟩ => ⟨_,he,fun a hf hB => k x hx a w' hf hB (hO.grow hb) hm⟩

def keys : Env → List Nat
 | [] => []
 | (k,_) :: E => k :: keys E
def zlE (E : Env) : List Nat → Option Env
 | [] => some []
 | k :: ks => match look E k with
  | some v => match zlE E ks with
   | some l => some ((k,v) :: l)
   | none => none
  | none => none
theorem Fits.vals {a : Act} (hf : Fits N E a) : ∀ {ks : List Nat} {E' : Env},zlE E ks = some E' → Fits N E' a
 | [],E',h => by cases h; exact hf.nil
 | k :: ks,E',h => by
  unfold zlE at h
  split at h
  ·rename_i v hv
   split at h
   ·rename_i l hl
    cases h
    exact hf.cons hv (hf.vals hl)
   ·cases h
  ·cases h
theorem Fits.sel {a : Act} (hf : Fits N E a) (h : zlE E (keys E') = some E') : Fits N E' a := hf.vals h
theorem eo [TabOk P τ] {K : Act → World → Prop} (h : zlD τ N far c fs E B = (.no, .ct K :: fs',E',B'))
  (k : ∀ a w,Fits N E' a → Own w0 F w L → M = some R → K a w) : S P τ N R Q0 w0 F c fs E B L M :=
 fun _ w hf hB hO hm => ze9 h hf hB fun a hf _ => k a w hf hO hm
abbrev Jp (N : Nat) (w0 : World) (F : List Nat) {ρ : Type} (R : ρ) (a : Act) (w : World) (E : Env) (L : List Res) (M : Option ρ) : Prop := Fits N E a ∧ Own w0 F w L ∧ M = some R
def zws (L : List Res) : List Nat → Option (List Res)
 | [] => some []
 | i :: is => match nth L i with
  | some r => match zws L is with
   | some l => some (r :: l)
   | none => none
  | none => none
theorem zwt {L : List Res} : ∀ {is : List Nat} {l : List Res},zws L is = some l → pick L is = l
 | [],_,h => by cases h; rfl
 | i :: is,l,h => by
  unfold zws at h
  split at h
  ·rename_i r hr
   split at h
   ·rename_i l' hl
    cases h
    rw [zkm] at hr
    rw [pick,hr]
    dsimp only
    rw [zwt hl]
   ·cases h
  ·cases h
theorem en [TabOk P τ] {K : Act → World → Prop} (h : zlD τ N far c fs E B = (.no, .ct K :: fs',E',B'))
  (k : ∀ a w,(∀ {E2},zlE E' (keys E2) = some E2 → Jp N w0 F R a w E2 L M) → K a w) : S P τ N R Q0 w0 F c fs E B L M :=
 eo h fun a w hf hO hm => k a w fun h => ⟨hf.sel h,hO,hm⟩
def nxW (τ : Tab) (N : Nat) (ks is : List Nat) (L : List Res) (c : Cur) (fs : List Fr) (E : Env) (B : Kn) : Option (Code × List Fr × Env × Kn × Env × List Res) :=
 match zlD τ N far c fs E B with
 | (.co (.loop co),fs,E,B) => match zlE E ks with
  | some Ek => match zws L is with
   | some Lk => some (co,fs,E,B,Ek,Lk)
   | none => none
  | none => none
 | _ => none
theorem lv [TabOk P τ] (ks is : List Nat) (I : (Env → List Res → Option ρ → Prop) → Env → List Res → Nat → Prop) {co : Code} {Ek : Env} {Lk : List Res}
  (h : nxW τ N ks is L c fs E B = some (co,fs',E',B',Ek,Lk))
  (h0 : ∀ a w,(∀ {E2},zlE E' (keys E2) = some E2 → Jp N w0 F R a w E2 L M) → I (Jp N w0 F R a w) Ek Lk fuel)
  (k : ∀ n a w,I (Jp N w0 F R a w) Ek Lk n → co.wp P (QS P Q0 (.ct (fun a w => ∃ m,m < n ∧ I (Jp N w0 F R a w) Ek Lk m) :: fs')) a w) : S P τ N R Q0 w0 F c fs E B L M := by
 intro a w hf hB hO hm
 unfold nxW at h
 split at h
 ·rename_i hd
  split at h
  ·split at h
   ·cases h
    exact ze9 hd hf hB fun a hf _ => zt2 (fun n a w => I (Jp N w0 F R a w) Ek Lk n) (fun n a w hI => k n a w hI) fuel (h0 a w fun h => ⟨hf.sel h,hO,hm⟩)
   ·cases h
  ·cases h
 ·cases h
theorem ch (is : List Nat) {L2 : List Res} (hd : zhM is = true) (hp : zws L is = some L2) (k : S P τ N R Q0 w0 F c fs E B L2 M) : S P τ N R Q0 w0 F c fs E B L M :=
 fun a w hf hB hO hm => k a w hf hB (by rw [← zwt hp]; exact hO.choose is hd) hm
def vsOf (E : Env) : List ResultVar → Option (List Value)
 | [] => some []
 | .tmp t :: rs => match look E t with
  | some v => match vsOf E rs with
   | some vs => some (v :: vs)
   | none => none
  | none => none
 | _ => none
theorem zuh {w : World} : ∀ {rs : List ResultVar} {vs : List Value},vsOf E rs = some vs → ResV P w E rs vs
 | [],vs,h => by cases h; exact .nil
 | .tmp t :: rs,vs,h => by
  unfold vsOf at h
  split at h
  ·rename_i v hv
   split at h
   ·rename_i l hl
    cases h
    exact .tmp hv (zuh hl)
   ·cases h
  ·cases h
 | .cell _ _ :: _,_,h => by cases h
def nxR (τ : Tab) (N : Nat) (rs : List ResultVar) (c : Cur) (fs : List Fr) (E : Env) (B : Kn) : Option Value :=
 match zlD τ N far c fs E B with
 | (.rt,[],E,_) => match vsOf E rs with
  | some vs => some (tup vs)
  | none => none
 | (.no,[],E,_) => match vsOf E rs with
  | some vs => some (tup vs)
  | none => none
 | _ => none
theorem rt [TabOk P τ] {fn : Func} {rs : List ResultVar} {r : ρ} {V : ρ → Value} (hr : fn.results = rs.toArray) (h : nxR τ N rs c fs E B = some (V r)) :
  S P τ N R (bodyPost P fn (Ret w0 V R)) w0 [] c fs E B L (some r) := by
 intro a w hf hB hO hm
 obtain rfl := Option.some.inj hm
 unfold nxR at h
 split at h
 ·rename_i hd
  split at h
  ·rename_i vs hv
   refine ze9 hd hf hB fun a hf _ => ?_
   exact zye (R := fun e w' => e = .returned (V r) ∧ Below w0.heap.size w0 w') hr hf (zuh hv) ⟨by rw [Option.some.inj h],hO.below⟩
  ·cases h
 ·rename_i hd
  split at h
  ·rename_i vs hv
   refine ze9 hd hf hB fun a hf _ => ?_
   exact zyf (R := fun e w' => e = .returned (V r) ∧ Below w0.heap.size w0 w') hr hf (zuh hv) ⟨by rw [Option.some.inj h],hO.below⟩
  ·cases h
 ·cases h
end
end Go.Dk
end
section
namespace Go.Dk
open Go.RowKit Go.Dm
section
variable {P : Program} {τ : Tab} {N : Nat} {Q0 : Exit → Act → World → Prop} {w0 : World} {F : List Nat} {ρ α : Type} {R : ρ} {c : Cur} {fs fs' : List Fr} {E E' : Env} {B B' : Kn} {L : List Res} {all : Array Oper} {rest : List Oper} {d f : Nat} {vs : List Value} {m : Option α} {g : α → Option ρ}
def part (n : Nat) (L : List Res) (is : List Nat) : List Res × List Res := ((pick L is).take n,(pick L is).drop n)
theorem Own.part {w : World} (h : Own w0 F w L) (is : List Nat) (n : Nat) (hd : zhM is = true) : Own w0 F w ((Dk.part n L is).1 ++ (Dk.part n L is).2) := by
 unfold Dk.part
 rw [List.take_append_drop]
 exact h.choose is hd
def vsW (τ : Tab) (L : List Res) (E : Env) : List Nat → List ResultVar → Option (List Value × List (Nat × Nat))
 | _,[] => some ([],[])
 | js, .tmp t :: rs => match look E t with
  | some v => match vsW τ L E js rs with
   | some (vs,bs) => some (v :: vs,bs)
   | none => none
  | none => none
 | j :: js, .cell t ty :: rs => match look E t with
  | some (.pointer (some ⟨b,o,none⟩)) => match zqG L j with
   | some (b',cs) => match ldV τ cs ty o with
    | some v => match vsW τ L E js rs with
     | some (vs,bs) => some (v :: vs,(b',b) :: bs)
     | none => none
    | none => none
   | none => none
  | _ => none
 | [], .cell _ _ :: _ => none
def Eqs : List (Nat × Nat) → Prop
 | [] => True
 | p :: l => p.1 = p.2 ∧ Eqs l
theorem zwe [hτ : TabOk P τ] {w : World} (hO : Own w0 F w L) : ∀ {rs : List ResultVar} {js : List Nat} {vs : List Value} {bs : List (Nat × Nat)},vsW τ L E js rs = some (vs,bs) → Eqs bs → ResV P w E rs vs
 | [],js,vs,bs,h,_ => by
  unfold vsW at h
  cases h; exact .nil
 | .tmp t :: rs,js,vs,bs,h,hb => by
  unfold vsW at h
  split at h
  ·rename_i v hv
   split at h
   ·rename_i l bl hl
    cases h
    exact .tmp hv (zwe hO hl hb)
   ·cases h
  ·cases h
 | .cell t ty :: rs,[],vs,bs,h,_ => by
  unfold vsW at h
  cases h
 | .cell t ty :: rs,j :: js,vs,bs,h,hb => by
  unfold vsW at h
  split at h
  ·rename_i b ofs hv
   split at h
   ·rename_i b' cs hc
    split at h
    ·rename_i v hld
     split at h
     ·rename_i l bl hl
      cases h
      have hbb : b' = b := hb.1
      subst hbb
      have hS := zyB hO hc
      refine .cell hv ?_ (zwe hO hl hb.2)
      unfold ldV at hld
      split at hld
      ·rename_i ha
       rw [zkm] at hld
       refine zkn (hτ.ag _ (zkl ha)) ?_
       have := hS.cell hld
       rwa [Nat.zero_add] at this
      ·rename_i ha
       split at hld
       ·rename_i n hn
        split at hld
        ·rename_i vs hvs
         cases hld
         refine zko (hτ.ag _ (zkl ha)) (hτ.sz _ (zkl hn)) (cut_ok hvs).2 fun j v hj => ?_
         have := hS.cells (cut_ok hvs).1 j v hj
         rwa [Nat.zero_add] at this
        ·cases hld
       ·cases hld
      ·cases hld
     ·cases h
    ·cases h
   ·cases h
  ·cases h
def nxMr (τ : Tab) (N : Nat) (rs : List ResultVar) (js : List Nat) (L : List Res) (c : Cur) (fs : List Fr) (E : Env) (B : Kn) : Option (List Value × List (Nat × Nat)) :=
 match zlD τ N far c fs E B with
 | (.rt,[],E,_) => vsW τ L E js rs
 | (.no,[],E,_) => vsW τ L E js rs
 | _ => none
theorem rm [TabOk P τ] {fn : Func} {rs : List ResultVar} {r : ρ} {Pr : Ending → World → Prop} {ws : List Value} {bs : List (Nat × Nat)} (hr : fn.results = rs.toArray) (is js : List Nat) (h : nxMr τ N rs js L c fs E B = some (ws,bs))
  (hb : Eqs bs) (hd : zhM is = true) (k : ∀ w,Own w0 F w (pick L is) → r = R → Pr (.returned (tup ws)) w) : S P τ N R (bodyPost P fn Pr) w0 F c fs E B L (some r) := by
 intro a w hf hB hO hm
 have hm := Option.some.inj hm
 unfold nxMr at h
 split at h
 ·rename_i hdr
  exact ze9 hdr hf hB fun a hf _ => zye (R := Pr) hr hf (zwe hO h hb) (k w (hO.choose is hd) hm)
 ·rename_i hdr
  exact ze9 hdr hf hB fun a hf _ => zyf (R := Pr) hr hf (zwe hO h hb) (k w (hO.choose is hd) hm)
 ·cases h
theorem rm0 [TabOk P τ] {fn : Func} {rs : List ResultVar} {r : ρ} {Pr : Ending → World → Prop} {ws : List Value} {bs : List (Nat × Nat)} (hr : fn.results = rs.toArray) (is js : List Nat) (h : nxMr τ N rs js L c fs E B = some (ws,bs))
  (hb : Eqs bs := by first | exact trivial | exact ⟨rfl,trivial⟩ | exact ⟨rfl,rfl,trivial⟩ | exact ⟨rfl,rfl,rfl,trivial⟩) (hd : zhM is = true := by rfl) (k : ∀ w,Own w0 F w (pick L is) → r = R → Pr (.returned (tup ws)) w := by intro _ hO h; cases h; first | exact ⟨rfl,hO⟩ | exact ⟨_,rfl,hO⟩ | exact ⟨_,_,rfl,hO⟩ | exact ⟨_,_,_,rfl,hO⟩ | exact ⟨_,_,_,_,rfl,hO⟩ | exact ⟨_,_,_,_,_,rfl,hO⟩ | exact ⟨_,_,_,_,_,_,rfl,hO⟩ | exact ⟨_,_,_,_,_,_,_,rfl,hO⟩ | exact ⟨_,_,_,_,_,_,_,_,rfl,hO⟩ | exact ⟨_,_,_,_,_,_,_,_,_,rfl,hO⟩ | exact ⟨_,_,_,_,_,_,_,_,_,_,rfl,hO⟩ | exact ⟨_,_,_,_,_,_,_,_,_,_,_,rfl,hO⟩ | exact ⟨_,_,_,_,_,_,_,_,_,_,_,_,rfl,hO⟩) : S P τ N R (bodyPost P fn Pr) w0 F c fs E B L (some r) := rm hr is js h hb hd k
theorem Own.addS {w : World} {a : Option Addr} {cs : List Value} (h : Own w [] w L) (hs : zbX w a cs) (hr : ∀ r ∈ L,r.shared = true := by simp [Res.shared]) : Own w [] w (.shr a cs :: L) := h.addShr hs hr
theorem lw [TabOk P τ] {M : Option ρ} (ks is : List Nat) (I : (Env → List Res → Option ρ → Prop) → Env → List Res → Nat → Prop) {co : Code} {Ek : Env} {Lk : List Res}
  (h : nxW τ N ks is L c fs E B = some (co,fs',E',B',Ek,Lk))
  (k : ∀ n a w,I (Jp N w0 F R a w) Ek Lk n → co.wp P (QS P Q0 (.ct (fun a w => ∃ m,m < n ∧ I (Jp N w0 F R a w) Ek Lk m) :: fs')) a w)
  (h0 : ∀ a w,(∀ {E2 L' M'},M = M' → L = L' → zlE E' (keys E2) = some E2 → Jp N w0 F R a w E2 L' M') → I (Jp N w0 F R a w) Ek Lk fuel := by intro _ _ j; (repeat apply Exists.intro); exact j rfl rfl rfl) : S P τ N R Q0 w0 F c fs E B L M :=
 lv ks is I h (fun a w j => h0 a w fun e1 e2 e3 => by rw [← e1, ← e2]; exact j e3) k
end
end Go.Dk
end
section
namespace Go.Dk
open Go.RowKit Go.Dm

def nthL : List (List Res) → Nat → List Res
 | [],_ => []
 | [l],_ => l
 | l :: _ :: _,0 => l
 | _ :: m :: ms,k + 1 => nthL (m :: ms) k
def sg (w0 : World) (F : List Nat) {S : Type} (Ls : S → List (List Res)) (k : Nat) (σ : S) (w : World) : Prop := Own w0 F w (nthL (Ls σ) k)
def Rng (p : Nat → Prop) : Nat → Nat → Prop
 | lo,0 => p lo
 | lo,n + 1 => p lo ∧ Rng p (lo + 1) n
theorem Rng.get {p : Nat → Prop} : ∀ {n lo : Nat},Rng p lo n → ∀ k,lo ≤ k → k ≤ lo + n → p k
 | 0,lo,h,k,h1,h2 => by
  have : k = lo := by omega
  subst this; exact h
 | n + 1,lo,⟨h,h'⟩,k,h1,h2 => by
  by_cases e : k = lo
  ·subst e; exact h
  ·exact Rng.get h' k (by omega) (by omega)
section
variable {P : Program} {N : Nat} {Q : Exit → Act → World → Prop} {S : Type} {l : List Oper} {D : S → List DOp} {es : List Nat} {i s : Nat} {o : Oper} {w0 : World} {F : List Nat} {Ls : S → List (List Res)}

def ldAt (τ : Tab) (L : List Res) (j : Nat) (E : Env) : Op → Option (Nat × Nat × Value)
 | .load t x => match evl E x with
  | some (.pointer (some ⟨b,o,none⟩)) => match zqG L j with
   | some (b',cs) => match ldV τ cs t o with
    | some v => some (b',b,v)
    | none => none
   | none => none
  | _ => none
 | _ => none
def zzX (τ : Tab) (Ls : List (List Res)) (E : Env) (op : Op) (v : Value) : Nat → List Nat → Prop
 | _,[] => True
 | k,j :: js => (∃ b,ldAt τ (nthL Ls k) j E op = some (b,b,v)) ∧ zzX τ Ls E op v (k + 1) js
theorem zzX.get {τ : Tab} {Ls : List (List Res)} {E : Env} {op : Op} {v : Value} : ∀ {js : List Nat} {lo : Nat},zzX τ Ls E op v lo js → ∀ k,lo ≤ k → k < lo + js.length → ∃ j b,ldAt τ (nthL Ls k) j E op = some (b,b,v)
 | [],lo,_,k,h1,h2 => by simp at h2; omega
 | j :: js,lo,⟨h,h'⟩,k,h1,h2 => by
  by_cases e : k = lo
  ·subst e; exact ⟨j,h⟩
  ·exact zzX.get h' k (by omega) (by simp at h2; omega)
variable {a : Act} {w : World} {L : List Res} {E : Env}
theorem Fits.all {E0 : Env} (hf : Fits N E a) (h : AllE (fun p => look E p.1 = some p.2) E0) : Fits N E0 a := by
 induction E0 with
 | nil => exact hf.nil
 | cons p E0 ih => exact hf.cons h.1 (ih h.2)
end
end Go.Dk
end
section
namespace Go.Dk
open Go.RowKit Go.Dm
section
variable {P : Program} {Q : Exit → Act → World → Prop} {a : Act} {w w' w0 : World} {N : Nat} {E : Env} {F : List Nat} {L K : List Res}
variable {ops : Array Oper} {rest : List Oper} {t t' ty d : Nat} {p : String} {af : Array Edge} {x y : Operand}

theorem Inner.append {s : Option Addr × Nat × Nat} {y : List Value} (hs : zop w s.1 y) (hc : s.2.1 ≤ s.2.2) : ∀ {ss : List (Option Addr × Nat × Nat)} {xs : List (List Value)},Inner w ss xs → Inner w (ss ++ [s]) (xs ++ [y])
 | [],[],_ => ⟨⟨hs,hc⟩,trivial⟩
 | [],_ :: _,h => h.elim
 | _ :: _,[],h => h.elim
 | _ :: _,_ :: _,⟨h1,h2⟩ => ⟨h1,Inner.append hs hc h2⟩
theorem Inner.get : ∀ {ss : List (Option Addr × Nat × Nat)} {xs : List (List Value)},Inner w ss xs → ∀ (i : Nat) (x : List Value),xs[i]? = some x → ∃ s,ss[i]? = some s ∧ zop w s.1 x ∧ s.2.1 ≤ s.2.2
 | [],[],_,i,x,h => by simp at h
 | [],_ :: _,h,_,_,_ => h.elim
 | _ :: _,[],h,_,_,_ => h.elim
 | s :: ss,y :: xs,⟨h1,h2⟩,0,x,h => by simp at h; subst h; exact ⟨s,by simp,h1⟩
 | s :: ss,y :: xs,⟨h1,h2⟩,i + 1,x,h => by
  obtain ⟨s',h3,h4⟩ := Inner.get h2 i x (by simpa using h)
  exact ⟨s',by simpa using h3,h4⟩
end
end Go.Dk
end
section
namespace Go.Dk
open Go.RowKit Go.Dm
structure Sub (α A : Type) where
 fp : α → A → List Nat
 ok : World → α → A → Prop
 lt : ∀ {w : World} {x : α} {a : A},ok w x a → ∀ b ∈ fp x a,b < w.heap.size
 mono : ∀ {w w' : World} {x : α} {a : A},ok w x a → w.heap.size ≤ w'.heap.size → (∀ b ∈ fp x a,w'.heap[b]? = w.heap[b]?) → ok w' x a
structure DE (α A : Type) extends Sub α A where
 enc : α → A → List Value
def zu8 {α A : Type} (d : DE α A) : List α → List A → List Value
 | x :: xs,a :: gs => d.enc x a ++ zu8 d xs gs
 | _,_ => []
def fpsD {α A : Type} (d : DE α A) : List α → List A → List Nat
 | x :: xs,a :: gs => d.fp x a ++ fpsD d xs gs
 | _,_ => []
def zt3 {α A : Type} (d : DE α A) (w : World) : List α → List A → Prop
 | [],[] => True
 | x :: xs,a :: gs => d.ok w x a ∧ zt3 d w xs gs
 | _,_ => False
def zoz {α A : Type} (d : DE α A) (w : World) (ad : Option Addr) (c : Nat) (xs : List α) (gs : List A) : Prop := zbX w ad (zu8 d xs gs) ∧ xs.length ≤ c ∧ zt3 d w xs gs
def fpD {α A : Type} (d : DE α A) (ad : Option Addr) (xs : List α) (gs : List A) : List Nat := znm ad (zu8 d xs gs) ++ fpsD d xs gs
section
variable {α A B β : Type} {d : DE α A} {w w' : World} {ad : Option Addr} {c : Nat} {xs : List α} {gs : List A}
theorem zrG : ∀ {xs : List α} {gs : List A},zt3 d w xs gs → ∀ b ∈ fpsD d xs gs,b < w.heap.size
 | [],[],_,b,hb => by cases hb
 | [],_ :: _,h,_,_ => h.elim
 | _ :: _,[],h,_,_ => h.elim
 | x :: xs,a :: gs,h,b,hb => by
  rcases List.mem_append.1 hb with hb | hb
  ·exact d.lt h.1 b hb
  ·exact zrG h.2 b hb
theorem znC (hs : w.heap.size ≤ w'.heap.size) : ∀ {xs : List α} {gs : List A},zt3 d w xs gs → (∀ b ∈ fpsD d xs gs,w'.heap[b]? = w.heap[b]?) → zt3 d w' xs gs
 | [],[],_,_ => trivial
 | [],_ :: _,h,_ => h.elim
 | _ :: _,[],h,_ => h.elim
 | x :: xs,a :: gs,h,hb => ⟨d.mono h.1 hs fun b hm => hb b (List.mem_append_left _ hm),znC hs h.2 fun b hm => hb b (List.mem_append_right _ hm)⟩
theorem zoz.lt (h : zoz d w ad c xs gs) : ∀ b ∈ fpD d ad xs gs,b < w.heap.size := by
 intro b hb
 rcases List.mem_append.1 hb with hb | hb
 ·exact zuX h.1 hb
 ·exact zrG h.2.2 b hb
theorem zoz.mono (h : zoz d w ad c xs gs) (hs : w.heap.size ≤ w'.heap.size) (hb : ∀ b ∈ fpD d ad xs gs,w'.heap[b]? = w.heap[b]?) : zoz d w' ad c xs gs :=
 ⟨zuW h.1 hs fun b e => hb b (List.mem_append_left _ e),h.2.1,znC hs h.2.2 fun b e => hb b (List.mem_append_right _ e)⟩
theorem zoz.nil (d : DE α A) (w : World) (c : Nat) : zoz d w none c [] [] := ⟨rfl,Nat.zero_le _,trivial⟩
def Sub.row (en : β → List Value) (get : α → List β) : Sub α (Option Addr × Nat) where
 fp x a := znm a.1 (cells en (get x))
 ok w x a := zbX w a.1 (cells en (get x)) ∧ (get x).length ≤ a.2
 lt h b hb := zuX h.1 hb
 mono h hs hb := ⟨zuW h.1 hs hb,h.2⟩
def RowD (d : DE α A) (v : Value) (e sz : Nat) (xs : List α) (gs : List A) (w : World) : Prop :=
 w.ownsRow 0 e sz v xs.length (zu8 d xs gs) ∧ zt3 d w xs gs ∧ ∀ b,v.ownBlock = some b → b ∉ fpsD d xs gs
abbrev rowD (d : DE α A) (v : Value) (e sz : Nat) (xs : List α) (gs : List A) : Res := .gen (v.ownBlock.toList ++ fpsD d xs gs) (RowD d v e sz xs gs)
theorem RowD.holds {v : Value} {e sz : Nat} (h : RowD d v e sz xs gs w) : (rowD d v e sz xs gs).holds w 0 := by
 refine ⟨h,fun b hb => ?_,fun w1 w2 h hs hb => ⟨zrr h.1 fun b e => hb b (List.mem_append_left _ (by rw [e]; simp)),znC hs h.2.1 fun b e => hb b (List.mem_append_right _ e),h.2.2⟩⟩
 rcases List.mem_append.1 hb with hb | hb
 ·exact zuV h.1 (by simpa using hb)
 ·exact zrG h.2.1 b hb
theorem RowD.sees {e sz : Nat} (h : RowD d (.slice ad xs.length c) e sz xs gs w) : zoz d w ad c xs gs := by
 refine ⟨zkv h.1,?_,h.2.1⟩
 obtain ⟨_,⟨h1,h2⟩ | ⟨g,cap,cur,hv,_,_,hle,_⟩⟩ := h.1
 ·simp at h1; omega
 ·simp at hv; omega
theorem Own.getD {w0 : World} {F : List Nat} {L : List Res} {e sz i : Nat} (hO : Own w0 F w L) (hi : L[i]? = some (rowD d (.slice ad xs.length c) e sz xs gs)) : zoz d w ad c xs gs := (hO.get hi).1.sees
end
section
variable {P : Program} {Q : Exit → Act → World → Prop} {a : Act} {w w' w0 : World} {N : Nat} {E : Env} {F : List Nat} {L K : List Res} {α A β : Type} {d : DE α A}
variable {ops : Array Oper} {rest : List Oper} {t t' ty s : Nat} {p : String} {af : Array Edge} {x y : Operand}
def Tk (s : Sub α A) (w : World) (x : α) (a : A) (Lc : List Res) : Prop := s.ok w x a ∧ ∀ b ∈ s.fp x a,b ∈ fps Lc
theorem tk_row {en : β → List Value} {q : Option Addr} {n c e sz : Nat} {l : List β} (h : (Res.row (.slice q n c) e sz n (cells en l)).holds w 0) (hn : n = l.length) : (zbX w q (cells en l) ∧ l.length ≤ c) ∧ ∀ b ∈ znm q (cells en l),b ∈ (Res.row (.slice q n c) e sz n (cells en l)).fp := by
 refine ⟨⟨zkv h,?_⟩,fun b hb => ?_⟩
 ·obtain ⟨_,⟨h1,h2⟩ | ⟨g,cap,cur,hv,_,_,hle,_⟩⟩ := h
  ·simp at h1; omega
  ·simp at hv; omega
 ·have e := (zpc hb).2
  cases q with
  | none => cases e
  | some x =>
   obtain ⟨_,⟨h1,h2⟩ | ⟨g,cap,cur,hv,_⟩⟩ := h
   ·simp at h1
   ·simp at hv; simp at e; rw [hv.1] at e ⊢; simp at e; simp [Res.fp,Value.ownBlock,e]
theorem Tk.row {en : β → List Value} {get : α → List β} {q : Option Addr} {c e sz : Nat} {x : α} {Lc : List Res} (j : Nat) (hj : Lc[j]? = some (.row (.slice q (get x).length c) e sz (get x).length (cells en (get x)))) (h : ∀ r ∈ Lc,r.holds w 0) : Tk (.row en get) w x (q,c) Lc := by
 have hm := List.mem_of_getElem? hj
 obtain ⟨h1,h2⟩ := tk_row (h _ hm) rfl
 exact ⟨h1,fun b hb => mem_fps.2 ⟨_,hm,h2 b hb⟩⟩
theorem Tk.nil {en : β → List Value} {get : α → List β} {x : α} {Lc : List Res} (h : get x = []) : Tk (.row en get) w x (none,0) Lc :=
 ⟨⟨by show cells en (get x) = []; rw [h]; rfl,by rw [h]; exact Nat.zero_le _⟩,fun b hb => by have := (zpc hb).2; cases this⟩
end
end Go.Dk
end
