/-
  The library functions that the walks call. Over this translation.
-/
import Derived.Test.YtleciepobekniaaSeat
import Derived.Test.YtleciepobekniaaShelf
import Derived.Test.YtleciepobekniaaRune
import Derived.Test.YtleciepobekniaaLibEq
namespace Go.Proofs
open Go.Dk Go.Dm Go.RowKit
theorem w_strings_IndexByte (s : Str) (c : UInt8) (R : Int) (w0 : World) (hG : Glob w0) (hm : strings_IndexByte s c = some R) :
    Calls Try.prog 19 #[str s, byte c] w0 fun e w' => e = .returned (int R) ∧ Below w0.heap.size w0 w' := by
  refine (Try.strings_IndexByte ⟨s.toArray⟩ c.toNat w0).mono fun e w' ⟨he, hw⟩ => ?_
  subst he hw
  refine ⟨?_, Below.refl _ _⟩
  unfold strings_IndexByte at hm
  rw [idxByte_eqL] at hm
  cases hm
  simp
theorem w_strings_Index (s t : Str) (R : Int) (w0 : World) (hG : Glob w0) (hm : strings_Index s t = some R) :
    Calls Try.prog 48 #[str s, str t] w0 fun e w' => e = .returned (int R) ∧ Below w0.heap.size w0 w' := by
  unfold strings_Index at hm
  split at hm
  · rename_i hs
    obtain ⟨m, hg⟩ := hG
    refine (Try.strings_Index ⟨s.toArray⟩ ⟨t.toArray⟩ m w0 hs hg).mono fun e w' ⟨he, hw⟩ => ?_
    subst he hw
    rw [idxStr_eqL] at hm
    cases hm
    exact ⟨rfl, Below.refl _ _⟩
  · cases hm
theorem w_strings_Contains (s t : Str) (R : Bool) (w0 : World) (hG : Glob w0) (hm : strings_Contains s t = some R) :
    Calls Try.prog 38 #[str s, str t] w0 fun e w' => e = .returned (.bool R) ∧ Below w0.heap.size w0 w' := by
  unfold strings_Contains at hm
  split at hm
  · rename_i hs
    obtain ⟨m, hg⟩ := hG
    refine (Try.strings_Contains ⟨s.toArray⟩ ⟨t.toArray⟩ m w0 hs hg).mono fun e w' ⟨he, hw⟩ => ?_
    subst he hw
    rw [idxStr_eqL] at hm
    cases hm
    exact ⟨rfl, Below.refl _ _⟩
  · cases hm
theorem w_strings_IndexAny (s cs : Str) (R : Int) (w0 : World) (hG : Glob w0) (hm : strings_IndexAny s cs = some R) :
    Calls Try.prog 45 #[str s, str cs] w0 fun e w' => e = .returned (int R) ∧ Below w0.heap.size w0 w' := by
  unfold strings_IndexAny at hm
  split at hm
  · rename_i hs
    refine (indexAny_all Try.lays153 (by kernel_rfl) ⟨s.toArray⟩ ⟨cs.toArray⟩ w0 hs.1 hs.2.1 (fun j b hb => ?_)).mono fun e w' ⟨he, hw⟩ => ?_
    · have := List.all_eq_true.1 hs.2.2 b (List.mem_of_getElem? hb)
      simpa using this
    · subst he
      rw [idxAny_eqL] at hm
      cases hm
      exact ⟨rfl, hw⟩
  · cases hm
end Go.Proofs
