/-
  LocationRewrites: the plain law: what its model comes to is true.
-/
import Derived.Test.YtgdhdeemlhllpabGreatDoorT11
import Derived.Test.YtgdhdeemlhllpabGreatDoorT29
namespace Go.Dm
def okR (s : Str) : Bool := (parseR s).2 == 0
theorem location_is_eq (s : Str) (hs : s.length < 1000000000) : location_is s = some (okR s) := by
  unfold location_is
  rw [uriref_Parse_eq s hs]; rfl
def rewriteOf (s : Str) (l : List api_Swap) : Str := if (swapOf s l).2 = true ∧ okR s = true ∧ okR (swapOf s l).1 = true then (swapOf s l).1 else s
theorem swapOf_len (s : Str) (l : List api_Swap) (k : Nat) (h : ∀ x ∈ l, x.To.length ≤ k) : (swapOf s l).1.length ≤ s.length + k := by
  induction l with
  | nil => simp [swapOf]
  | cons x l ih =>
    unfold swapOf
    split
    · have := h x (List.mem_cons_self ..)
      simp only [List.length_append, List.length_drop]; omega
    · exact ih fun y hy => h y (List.mem_cons_of_mem _ hy)
section
variable {s : Str} {l : List api_Swap} (hs : s.length ≤ 450) (hl : l.length ≤ 70) (hx : ∀ x ∈ l, x.From.length ≤ 60 ∧ x.To.length ≤ 60)
include hs hl hx
omit hl in
theorem small_swap : (swapOf s l).1.length < 1000000000 := by
  have := swapOf_len s l 60 (fun x h => (hx x h).2); omega
theorem location_Rewrite_eq : location_Rewrite s l = some (rewriteOf s l) := by
  unfold location_Rewrite
  rw [uriref_Swap_eq s l (by omega) (by omega) (fun x h => by have := hx x h; omega), Option.bind_some]
  unfold rewriteOf
  cases h1 : (swapOf s l).2 with
  | false => simp [location_Rewrite_j1]
  | true =>
    simp only [Bool.not_true, Bool.false_eq_true, if_false, location_is_eq s (by omega), Option.bind_some]
    cases h2 : okR s with
    | false => simp [location_Rewrite_j1]
    | true =>
      simp only [Bool.not_true, Bool.false_eq_true, if_false, location_is_eq _ (small_swap hs hx), Option.bind_some]
      cases h3 : okR (swapOf s l).1 <;> simp [location_Rewrite_j1]
theorem ref30_Rewrite_eq : ref30_Rewrite s l = some (rewriteOf s l) := by
  unfold ref30_Rewrite
  rw [ref11_Parse_eq s (by omega), Option.bind_some, ref11_Swap_eq s l (by omega) (by omega) (fun x h => by have := hx x h; omega), Option.bind_some, ref11_Parse_eq _ (small_swap hs hx), Option.bind_some]
  unfold rewriteOf okR
  cases h2 : ((parseR s).2 == 0) with
  | false => simp [ref30_Rewrite_j1]
  | true =>
    cases h1 : (swapOf s l).2 with
    | false => simp [ref30_Rewrite_j1]
    | true => cases h3 : ((parseR (swapOf s l).1).2 == 0) <;> simp [ref30_Rewrite_j1]
end
end Go.Dm
