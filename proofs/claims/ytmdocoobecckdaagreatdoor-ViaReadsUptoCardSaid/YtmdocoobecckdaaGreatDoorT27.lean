/-
  X-Forwarded-For: elements, lists, one element more. No program in sight.
-/
import Derived.Test.YtmdocoobecckdaaGreatDoorT13
import Derived.Test.YtmdocoobecckdaaGreatDoorT05Q
import Derived.Test.YtmdocoobecckdaaGreatDoorT08P
namespace Go.Dm
theorem splitC_mem {s : Str} {l : List Str} (h : splitC s = some l) : l.length ≤ s.length + 1 ∧ ∀ x ∈ l, x.length ≤ s.length := by
  unfold splitC at h
  obtain ⟨m, hm, rfl⟩ := Option.map_eq_some_iff.1 h
  have key : ∀ (s : Str) (k : Nat) (cur : Str) (m : List Str), segs k cur s = some m → m.length ≤ s.length + 1 ∧ ∀ x ∈ m, x.length ≤ cur.length + s.length := by
    intro s
    induction s with
    | nil => intro k cur m h; rw [segs_nil] at h; cases h; simp
    | cons c r ih =>
      intro k cur m h
      have one : ∀ k, segs k (cur ++ [c]) r = some m → m.length ≤ (c :: r).length + 1 ∧ ∀ x ∈ m, x.length ≤ cur.length + (c :: r).length := fun k h => by
        have := ih k _ m h
        simp only [List.length_cons, List.length_append, List.length_nil] at *
        exact ⟨by omega, fun x hx => by have := this.2 x hx; omega⟩
      cases k with
      | succ k => exact one k h
      | zero =>
        cases h1 : (c == 34 || c == 40) with
        | true =>
          rw [segs_in cur r h1] at h
          split at h
          · cases h
          · exact one _ h
        | false =>
          cases h2 : c == 44 with
          | true =>
            have : c = 44 := by simpa using h2
            subst this
            rw [segs_comma] at h
            obtain ⟨m', hm', rfl⟩ := Option.map_eq_some_iff.1 h
            have := ih 0 [] m' hm'
            simp only [List.length_cons, List.length_nil] at *
            refine ⟨by omega, fun x hx => ?_⟩
            rcases List.mem_cons.1 hx with rfl | hx
            · omega
            · have := this.2 x hx; omega
          | false => rw [segs_oth cur r h1 h2] at h; exact one 0 h
  have := key s 0 [] m hm
  unfold elems
  refine ⟨?_, fun x hx => ?_⟩
  · have h1 := List.length_filter_le (fun x : Str => !(x == [])) (m.map trim)
    rw [List.length_map] at h1
    omega
  · have h1 := (List.mem_filter.1 hx).1
    obtain ⟨y, hy, rfl⟩ := List.mem_map.1 h1
    have := this.2 y hy
    have := trim_le y
    simp at *
    omega
end Go.Dm
