/-
  Targets written, and read again: both laws.
-/
import Derived.Test.YtmdocoobecckdaaGreatDoorT09
import Derived.Test.YtmdocoobecckdaaGreatDoorT08P
import Derived.Test.YtmdocoobecckdaaGreatDoorTFold
namespace Go.Dm
theorem join_flat (l : List Str) : Go.Lib.join l [] = l.flatten := by
  cases l with
  | nil => rfl
  | cons x r => rw [Go.Lib.join_cons]; simp [Go.Lib.joinTail]
theorem quill_Join_nil (l : List Str) (h : l.length < 1000000) (h2 : l.flatten.length < 4000000000) : quill_Join [] l = some l.flatten := by
  unfold quill_Join strings_Join
  rw [join_flat, if_pos ⟨by omega, by omega⟩]
  rfl
end Go.Dm
