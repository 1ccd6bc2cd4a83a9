/-
  The library functions that the walks call. Over this translation.
-/
import Derived.Test.YtnfkbhocbdheaacGreatDoorSeat
import Derived.Test.YtnfkbhocbdheaacGreatDoorShelf
import Derived.Test.YtnfkbhocbdheaacGreatDoorRune
import Derived.Test.YtnfkbhocbdheaacGreatDoorLibEq
import Derived.Test.YtnfkbhocbdheaacGreatDoorFold
import Derived.Shelf.Strings.SlTrimAscii
import Derived.Lib.AppendIntMem
namespace Go.Proofs
open Go.Dk Go.Dm Go.RowKit
theorem w_strings_IndexByte (s : Str) (c : UInt8) (R : Int) (w0 : World) (hG : Glob w0) (hm : strings_IndexByte s c = some R) :
    Calls Tryz.prog 159 #[str s, byte c] w0 fun e w' => e = .returned (int R) ∧ Below w0.heap.size w0 w' := by
  refine (Tryz.strings_IndexByte ⟨s.toArray⟩ c.toNat w0).mono fun e w' ⟨he, hw⟩ => ?_
  subst he hw
  refine ⟨?_, Below.refl _ _⟩
  unfold strings_IndexByte at hm
  rw [idxByte_eqL] at hm
  cases hm
  simp
theorem w_strings_Index (s t : Str) (R : Int) (w0 : World) (hG : Glob w0) (hm : strings_Index s t = some R) :
    Calls Tryz.prog 31 #[str s, str t] w0 fun e w' => e = .returned (int R) ∧ Below w0.heap.size w0 w' := by
  unfold strings_Index at hm
  split at hm
  · rename_i hs
    obtain ⟨m, hg⟩ := hG.max
    refine (Tryz.strings_Index ⟨s.toArray⟩ ⟨t.toArray⟩ m w0 hs hg).mono fun e w' ⟨he, hw⟩ => ?_
    subst he hw
    rw [idxStr_eqL] at hm
    cases hm
    exact ⟨rfl, Below.refl _ _⟩
  · cases hm
theorem w_strings_Cut (s t : Str) (R : Str × Str × Bool) (w0 : World) (hG : Glob w0) (hm : strings_Cut s t = some R) :
    Calls Tryz.prog 99 #[str s, str t] w0 fun e w' => e = .returned (.tuple #[str R.1, str R.2.1, .bool R.2.2]) ∧ Below w0.heap.size w0 w' := by
  unfold strings_Cut at hm
  split at hm
  · rename_i hs
    obtain ⟨m, hg⟩ := hG.max
    refine (Tryz.strings_Cut ⟨s.toArray⟩ ⟨t.toArray⟩ m w0 hs hg).mono fun e w' ⟨he, n, hw⟩ => ?_
    subst he hw
    cases hm
    exact ⟨rfl, ⟨rfl, rfl, rfl, Nat.le_refl _, fun _ _ => rfl⟩⟩
  · cases hm
theorem w_strings_IndexAny (s cs : Str) (R : Int) (w0 : World) (hG : Glob w0) (hm : strings_IndexAny s cs = some R) :
    Calls Tryz.prog 91 #[str s, str cs] w0 fun e w' => e = .returned (int R) ∧ Below w0.heap.size w0 w' := by
  unfold strings_IndexAny at hm
  split at hm
  · rename_i hs
    refine (indexAny_all Tryz.lays153 (by kernel_rfl) ⟨s.toArray⟩ ⟨cs.toArray⟩ w0 hs.1 hs.2.1 (fun j b hb => ?_)).mono fun e w' ⟨he, hw⟩ => ?_
    · have := List.all_eq_true.1 hs.2.2 b (List.mem_of_getElem? hb)
      simpa using this
    · subst he
      rw [idxAny_eqL] at hm
      cases hm
      exact ⟨rfl, hw⟩
  · cases hm
theorem w_strconv_FormatInt (n b : Int) (R : Str) (w0 : World) (hG : GlobT w0) (hm : strconv_FormatInt n b = some R) :
    Calls Tryz.prog 116 #[int n, int b] w0 fun e w' => e = .returned (str R) ∧ Below w0.heap.size w0 w' := by
  unfold strconv_FormatInt at hm
  split at hm
  · rename_i h
    obtain ⟨h1, rfl⟩ := h
    obtain ⟨h2, h3⟩ := inI_iff.1 h1
    cases hm
    refine (Tryz.strconv_FormatInt_10 n h2 h3 w0 hG.2).mono fun e w' ⟨he, k, os, hw⟩ => ?_
    subst he hw
    exact ⟨rfl, Lib.below_grow _ _ (Nat.le_refl _) _ _⟩
  · cases hm
theorem w_strings_Split (s sep : Str) (R : List Str) (w0 : World) (hG : Glob w0) (hm : strings_Split s sep = some R) :
    Calls Tryz.prog 32 #[str s, str sep] w0 fun e w' => ∃ (p0 : Option Addr) (c0 : Nat), e = .returned (.slice p0 R.length c0) ∧ Own w0 [] w' [.row (.slice p0 R.length c0) 9 1 R.length (cells enc_str R)] := by
  unfold strings_Split at hm
  split at hm
  · rename_i hs
    obtain ⟨m, hg⟩ := hG.max
    refine (Tryz.strings_Split ⟨s.toArray⟩ ⟨sep.toArray⟩ m w0 hs.1 hg hs.2).mono fun e w' ⟨he, hw⟩ => ?_
    subst he hw
    have hlen := Go.Lib.splitB_all ⟨sep.toArray⟩ hs.2 0 _ ⟨s.toArray⟩ rfl
    have hdat := Go.Lib.splitB_data ⟨sep.toArray⟩ 0 (Go.Lib.countB ⟨s.toArray⟩ ⟨sep.toArray⟩) ⟨s.toArray⟩
    have hR : R = (Go.Lib.splitB ⟨sep.toArray⟩ 0 (Go.Lib.countB ⟨s.toArray⟩ ⟨sep.toArray⟩) ⟨s.toArray⟩).map (·.data.toList) := by
      rw [hdat]; exact (Option.some.inj hm).symm
    have hRl : R.length = Go.Lib.countB ⟨s.toArray⟩ ⟨sep.toArray⟩ + 1 := by rw [hR, List.length_map, hlen]
    have hcells : (Go.Lib.splitB ⟨sep.toArray⟩ 0 (Go.Lib.countB ⟨s.toArray⟩ ⟨sep.toArray⟩) ⟨s.toArray⟩).map Value.string = cells enc_str R := by
      rw [hR]
      generalize Go.Lib.splitB _ _ _ _ = l
      induction l with
      | nil => rfl
      | cons x l ih => obtain ⟨⟨x⟩⟩ := x; rw [List.map_cons, List.map_cons, ih]; rfl
    have hle := Go.Lib.countB_le ⟨sep.toArray⟩ hs.2 _ ⟨s.toArray⟩ (Nat.le_refl _)
    have hsz : (⟨s.toArray⟩ : ByteArray).size = s.length := rfl
    have hO := (Own.refl w0).newRow (cells enc_str R) 9 1 R.length (cells_length (enc := enc_str) (sz := 1) (fun _ => rfl) R) (by unfold maxLen; omega)
    rw [hcells, ← hRl]
    exact ⟨_, _, rfl, hO⟩
  · cases hm
theorem w_strings_Trim (s cs : Str) (R : Str) (w0 : World) (hG : Glob w0) (hm : strings_Trim s cs = some R) :
    Calls Tryz.prog 52 #[str s, str cs] w0 fun e w' => e = .returned (str R) ∧ Below w0.heap.size w0 w' := by
  unfold strings_Trim at hm
  split at hm
  · rename_i hs
    refine (Any.strings_Trim_laid Tryz.lays160 (by kernel_rfl) ⟨s.toArray⟩ ⟨cs.toArray⟩ w0 (Nat.le_trans (Nat.le_of_lt hs.1) (by decide)) hs.2.1 (fun j b hb => ?_)).mono fun e w' ⟨he, hw⟩ => ?_
    · have := List.all_eq_true.1 hs.2.2 b (List.mem_of_getElem? hb)
      simpa using this
    · subst he
      cases hm
      exact ⟨rfl, hw⟩
  · cases hm
theorem w_strings_Join (l : List Str) (sep : Str) (R : Str) (w0 : World) (hG : Glob w0) {x_p : Option Addr} {x_c : Nat} (hs0 : Sees w0 x_p (cells enc_str l)) (hc0 : l.length ≤ x_c) (hm : strings_Join l sep = some R) :
    Calls Tryz.prog 71 #[.slice x_p l.length x_c, str sep] w0 fun e w' => e = .returned (str R) ∧ Below w0.heap.size w0 w' := by
  unfold strings_Join at hm
  split at hm
  · rename_i hb
    cases hm
    have hmap : (l.map fun x => (⟨x.toArray⟩ : ByteArray)).map (·.data.toList) = l := by
      rw [List.map_map]; exact List.map_id' l
    cases x_p with
    | none =>
      have hnil : cells enc_str l = [] := hs0
      have : l = [] := by
        cases l with
        | nil => rfl
        | cons x l => simp [cells, enc_str] at hnil
      subst this
      exact (Tryz.strings_Join_none none x_c ⟨sep.toArray⟩ w0).mono fun e w' h => by
        obtain ⟨he, hw⟩ := h
        subst he hw
        exact ⟨rfl, Below.refl _ _⟩
    | some a =>
      obtain ⟨bk, o, spot⟩ := a
      obtain ⟨h1, h2, h3⟩ := hs0
      simp only at h1; subst h1
      have := Tryz.strings_Join bk o x_c (l.map fun x => (⟨x.toArray⟩ : ByteArray)) ⟨sep.toArray⟩ w0 (fun j x hx => ?_) h2 (by simpa using hb.1) (by simpa using hc0) (by rw [hmap]; exact hb.2)
      · rw [hmap, List.length_map] at this
        exact this
      · rw [List.getElem?_map] at hx
        obtain ⟨y, hy, rfl⟩ := Option.map_eq_some_iff.1 hx
        refine h3 j _ ?_
        have := cells_get (enc := enc_str) (sz := 1) (fun _ => rfl) l j 0 y hy (by omega)
        rw [Nat.mul_one, Nat.add_zero] at this
        exact this
  · cases hm
end Go.Proofs
