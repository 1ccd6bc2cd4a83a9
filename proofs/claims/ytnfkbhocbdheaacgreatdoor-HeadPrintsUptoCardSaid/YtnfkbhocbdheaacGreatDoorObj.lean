/-
  Objects: a call that is lent what its caller owns, and hands it back. Over any program.
-/
import Derived.Test.YtnfkbhocbdheaacGreatDoorDraw
namespace Go.Dk
open Go.RowKit Go.Dm

/-- The blocks that these resources take. -/
def fps (U : List Res) : List Nat := U.filterMap Res.fp
theorem mem_fps {U : List Res} {b : Nat} : b ∈ fps U ↔ ∃ r ∈ U, r.fp = some b := by
  simp [fps, List.mem_filterMap]
/-- Views of what stays with the caller. -/
def Lent (w : World) (K : List Res) : List Res → Prop
  | [] => True
  | s :: S => (s.shared = true ∧ s.holds w 0 ∧ ∀ b, s.fp = some b → ∃ r ∈ K, r.fp = some b) ∧ Lent w K S
theorem Lent.all {w : World} {K : List Res} : ∀ {S : List Res}, Lent w K S → ∀ s ∈ S, s.shared = true ∧ s.holds w 0 ∧ ∀ b, s.fp = some b → ∃ r ∈ K, r.fp = some b
  | [], _, s, hs => by cases hs
  | x :: S, h, s, hs => by
    rcases List.mem_cons.1 hs with rfl | hs
    · exact h.1
    · exact Lent.all h.2 s hs
def owned (L : List Res) : Bool := L.all fun r => !r.shared
theorem owned_mem {L : List Res} (h : owned L = true) {r : Res} (hr : r ∈ L) : r.shared = false := by
  have := List.all_eq_true.1 h r hr
  simpa using this

section
variable {w0 w w' : World} {F : List Nat} {U K S L : List Res}
theorem Own.lend (h : Own w0 F w (U ++ K)) (hU : owned U = true) (hS : Lent w K S) : Own w (fps U) w (U ++ S) := by
  have hsep := List.pairwise_append.1 h.sep
  refine ⟨rfl, rfl, rfl, Nat.le_refl _, fun _ _ _ => rfl, fun r hr => ?_, fun r hr hs b hb => ?_, ?_⟩
  · rcases List.mem_append.1 hr with hr | hr
    · exact h.holds r (List.mem_append_left _ hr)
    · exact (hS.all r hr).2.1
  · rcases List.mem_append.1 hr with hr | hr
    · exact .inl (mem_fps.2 ⟨r, hr, hb⟩)
    · rw [(hS.all r hr).1] at hs; cases hs
  · refine List.pairwise_append.2 ⟨hsep.1, ?_, fun r hr s hs => .inr fun b h1 h2 => ?_⟩
    · refine List.Pairwise.imp_of_mem (R := fun _ _ => True) (fun {a b} ha hb _ => .inl ⟨(hS.all a ha).1, (hS.all b hb).1⟩) ?_
      exact List.pairwise_of_forall fun _ _ => trivial
    · obtain ⟨k, hk, hkb⟩ := (hS.all s hs).2.2 b h2
      rcases hsep.2.2 r hr k hk with ⟨h3, _⟩ | h3
      · rw [owned_mem hU hr] at h3; cases h3
      · exact h3 b h1 hkb

theorem Own.back {L' : List Res} (h : Own w0 F w (U ++ K)) (hU : owned U = true) (h' : Own w (fps U) w' L') (hn : owned L' = true) : Own w0 F w' (L' ++ K) := by
  have hsep := List.pairwise_append.1 h.sep
  have hK : ∀ k ∈ K, ∀ b, k.fp = some b → b ∉ fps U ∧ b < w.heap.size := by
    intro k hk b hb
    refine ⟨fun hm => ?_, Res.fp_lt (h.holds k (List.mem_append_right _ hk)) hb⟩
    obtain ⟨r, hr, hrb⟩ := mem_fps.1 hm
    rcases hsep.2.2 r hr k hk with ⟨h3, _⟩ | h3
    · rw [owned_mem hU hr] at h3; cases h3
    · exact h3 b hrb hb
  have hfr : ∀ b, b ∈ fps U → b ∈ F ∨ w0.heap.size ≤ b := by
    intro b hb
    obtain ⟨r, hr, hrb⟩ := mem_fps.1 hb
    exact h.fresh r (List.mem_append_left _ hr) (owned_mem hU hr) b hrb
  refine ⟨h'.os.trans h.os, h'.tape.trans h.tape, h'.output.trans h.output, Nat.le_trans h.size h'.size, fun b h1 h2 => ?_, fun r hr => ?_, fun r hr hs b hb => ?_, ?_⟩
  · rw [h'.frame b (Nat.lt_of_lt_of_le h1 h.size) (fun hm => ?_)]
    · exact h.frame b h1 h2
    · rcases hfr b hm with h3 | h3
      · exact h2 h3
      · omega
  · rcases List.mem_append.1 hr with hr | hr
    · exact h'.holds r hr
    · refine Res.holds_of (h.holds r (List.mem_append_right _ hr)) h'.size fun b hb => ?_
      obtain ⟨h1, h2⟩ := hK r hr b hb
      exact h'.frame b h2 h1
  · rcases List.mem_append.1 hr with hr | hr
    · rcases h'.fresh r hr hs b hb with h1 | h1
      · exact hfr b h1
      · exact .inr (Nat.le_trans h.size h1)
    · exact h.fresh r (List.mem_append_right _ hr) hs b hb
  · refine List.pairwise_append.2 ⟨h'.sep, hsep.2.1, fun r hr s hs => .inr fun b h1 h2 => ?_⟩
    obtain ⟨h3, h4⟩ := hK s hs b h2
    rcases h'.fresh r hr (owned_mem hn hr) b h1 with h5 | h5
    · exact h3 h5
    · omega

/-- What the lent blocks keep away from. -/
theorem Own.far {N : Nat} (h : Own w0 F w (U ++ K)) (hU : owned U = true) (hF : ∀ b ∈ F, N ≤ b) (hN : N ≤ w0.heap.size) : ∀ b ∈ fps U, N ≤ b := by
  intro b hb
  obtain ⟨r, hr, hrb⟩ := mem_fps.1 hb
  rcases h.fresh r (List.mem_append_left _ hr) (owned_mem hU hr) b hrb with h3 | h3
  · exact hF b h3
  · omega
theorem lent_row {ad : Option Addr} {e sz n c : Nat} {xs : List Value} (hs : Sees w ad xs) (hm : (.row (.slice ad n c) e sz n xs) ∈ K) :
    (Res.shr ad xs).shared = true ∧ (Res.shr ad xs).holds w 0 ∧ ∀ b, (Res.shr ad xs).fp = some b → ∃ r ∈ K, r.fp = some b := by
  refine ⟨rfl, hs, fun b hb => ⟨_, hm, ?_⟩⟩
  cases ad with
  | none => cases hb
  | some x => simpa [Res.fp, Value.ownBlock] using hb
end
end Go.Dk
