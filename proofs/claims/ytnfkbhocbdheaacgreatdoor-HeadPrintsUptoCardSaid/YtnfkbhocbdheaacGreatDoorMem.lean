/-
  Memory: what a call owns, what it reads, and one law for each operation that touches memory. Over any program.
-/
import Derived.Test.YtnfkbhocbdheaacGreatDoorOps
import Derived.Laws.Rows
import Derived.Laws.AppendOwn
import Derived.Laws.AppendOwnNone
namespace Go.Dk
open Go.RowKit Go.Dm

/-- The cells that a slice (or an address) shows. -/
def Sees (w : World) (a : Option Addr) (cs : List Value) : Prop :=
  match a with
  | none => cs = []
  | some x => x.spot = none ∧ x.block < w.heap.size ∧ ∀ (i : Nat) v, cs[i]? = some v → w.cell? ⟨x.block, x.off + i, none⟩ = some v

inductive Res where
  | blk (b : Nat) (cs : List Value) (ty : TypeId)
  | row (v : Value) (e : TypeId) (sz n : Nat) (xs : List Value)
  | shr (a : Option Addr) (cs : List Value)

def Res.fp : Res → Option Nat
  | .blk b _ _ => some b
  | .row v _ _ _ _ => v.ownBlock
  | .shr a _ => a.map (·.block)
def Res.shared : Res → Bool
  | .shr _ _ => true
  | _ => false
def Res.holds (w : World) (base : Nat) : Res → Prop
  | .blk b cs ty => w.heap[b]? = some (.cells cs.toArray ty (0, 0))
  | .row v e sz n xs => w.ownsRow base e sz v n xs
  | .shr a cs => Sees w a cs
def Res.apart (r s : Res) : Prop := (r.shared = true ∧ s.shared = true) ∨ ∀ b, r.fp = some b → s.fp = some b → False

structure Own (w0 : World) (F : List Nat) (w : World) (L : List Res) : Prop where
  os : w.os = w0.os
  tape : w.tape = w0.tape
  output : w.output = w0.output
  size : w0.heap.size ≤ w.heap.size
  frame : ∀ b, b < w0.heap.size → b ∉ F → w.heap[b]? = w0.heap[b]?
  holds : ∀ r ∈ L, r.holds w 0
  fresh : ∀ r ∈ L, r.shared = false → ∀ b, r.fp = some b → b ∈ F ∨ w0.heap.size ≤ b
  sep : L.Pairwise Res.apart

theorem Own.below {w0 w : World} {L : List Res} (h : Own w0 [] w L) : Below w0.heap.size w0 w :=
  ⟨h.os, h.tape, h.output, h.size, fun k hk => h.frame k hk (by simp)⟩
theorem Own.refl (w : World) : Own w [] w [] :=
  ⟨rfl, rfl, rfl, Nat.le_refl _, fun _ _ _ => rfl, fun _ h => by simp at h, fun _ h => by simp at h, .nil⟩

theorem Sees.lt {w : World} {x : Addr} {cs : List Value} (h : Sees w (some x) cs) : x.block < w.heap.size := h.2.1
theorem Res.fp_lt {w : World} {r : Res} {b0 b : Nat} (h : r.holds w b0) (hb : r.fp = some b) : b < w.heap.size := by
  cases r with
  | blk b' cs ty =>
    simp only [Res.fp, Option.some.injEq] at hb
    subst hb
    exact (Array.getElem?_eq_some_iff.1 h).1
  | row v e sz n xs =>
    obtain ⟨_, h | ⟨g, cap, cur, hv, _, hg, _⟩⟩ := h
    · rw [Res.fp, h.1] at hb; simp [Value.ownBlock] at hb
    · rw [Res.fp, hv] at hb; simp [Value.ownBlock] at hb
      subst hb
      exact (Array.getElem?_eq_some_iff.1 hg).1
  | shr a cs =>
    cases a with
    | none => simp [Res.fp] at hb
    | some x => simp [Res.fp] at hb; subst hb; exact h.2.1

/-- A resource whose block has not turned holds. -/
theorem Res.holds_of {w w' : World} {r : Res} {b0 : Nat} (h : r.holds w b0) (hs : w.heap.size ≤ w'.heap.size) (hb : ∀ b, r.fp = some b → w'.heap[b]? = w.heap[b]?) : r.holds w' b0 := by
  cases r with
  | blk b cs ty => exact (hb b rfl).trans h
  | row v e sz n xs =>
    obtain ⟨h1, h | ⟨g, cap, cur, hv, hge, hg, r⟩⟩ := h
    · exact ⟨h1, .inl h⟩
    · exact ⟨h1, .inr ⟨g, cap, cur, hv, hge, (hb g (by rw [Res.fp, hv]; rfl)).trans hg, r⟩⟩
  | shr a cs =>
    cases a with
    | none => exact h
    | some x => exact ⟨h.1, Nat.lt_of_lt_of_le h.2.1 hs, fun i v hv => (World.cell?_of_block (w := w) (a := ⟨x.block, x.off + i, none⟩) (hb x.block rfl)).trans (h.2.2 i v hv)⟩

section
variable {w0 w w' : World} {F : List Nat} {L : List Res}

/-- Behind a change that turns nothing that is there. -/
theorem Own.grow (h : Own w0 F w L) (hb : Below w.heap.size w w') : Own w0 F w' L :=
  ⟨hb.os.trans h.os, hb.tape.trans h.tape, hb.output.trans h.output, Nat.le_trans h.size hb.size,
   fun b h1 h2 => (hb.block b (Nat.lt_of_lt_of_le h1 h.size)).trans (h.frame b h1 h2),
   fun r hr => Res.holds_of (h.holds r hr) hb.size fun b hbf => hb.block b (Res.fp_lt (h.holds r hr) hbf),
   h.fresh, h.sep⟩

theorem Own.drew (h : Own w0 F w L) : Own w0 F w.drew L := h.grow ⟨rfl, rfl, rfl, Nat.le_refl _, fun _ _ => rfl⟩

/-- A call that hands back memory of its own. -/
theorem Own.call {L' : List Res} (h : Own w0 F w L) (h' : Own w [] w' L') (hn : ∀ r ∈ L', r.shared = false) : Own w0 F w' (L' ++ L) := by
  have hg := h.grow h'.below
  refine ⟨hg.os, hg.tape, hg.output, hg.size, hg.frame, ?_, ?_, ?_⟩
  · intro r hr
    rcases List.mem_append.1 hr with hr | hr
    · exact h'.holds r hr
    · exact hg.holds r hr
  · intro r hr hs b hb
    rcases List.mem_append.1 hr with hr | hr
    · rcases h'.fresh r hr hs b hb with h1 | h1
      · simp at h1
      · exact .inr (Nat.le_trans h.size h1)
    · exact hg.fresh r hr hs b hb
  · refine List.pairwise_append.2 ⟨h'.sep, hg.sep, fun r hr s hs => .inr fun b h1 h2 => ?_⟩
    rcases h'.fresh r hr (hn r hr) b h1 with h3 | h3
    · simp at h3
    · have := Res.fp_lt (h.holds s hs) h2
      omega

/-- Fewer resources. -/
theorem Own.sub {L' : List Res} (h : Own w0 F w L) (hs : L'.Sublist L) : Own w0 F w L' :=
  ⟨h.os, h.tape, h.output, h.size, h.frame, fun r hr => h.holds r (hs.subset hr), fun r hr => h.fresh r (hs.subset hr), h.sep.sublist hs⟩

def pick (L : List Res) : List Nat → List Res
  | [] => []
  | i :: is => match L[i]? with
    | some r => r :: pick L is
    | none => pick L is

def distinct : List Nat → Bool
  | [] => true
  | i :: is => !(is.any (Nat.beq i)) && distinct is
theorem pick_mem {L : List Res} : ∀ {is : List Nat} {r : Res}, r ∈ pick L is → ∃ j ∈ is, L[j]? = some r
  | [], r, h => by simp [pick] at h
  | i :: is, r, h => by
    unfold pick at h
    split at h
    · rename_i r0 h0
      rcases List.mem_cons.1 h with rfl | h
      · exact ⟨i, List.mem_cons_self .., h0⟩
      · obtain ⟨j, hj, hr⟩ := pick_mem h
        exact ⟨j, List.mem_cons_of_mem _ hj, hr⟩
    · obtain ⟨j, hj, hr⟩ := pick_mem h
      exact ⟨j, List.mem_cons_of_mem _ hj, hr⟩
theorem Res.apart_symm {r s : Res} (h : r.apart s) : s.apart r := by
  rcases h with ⟨h1, h2⟩ | h
  · exact .inl ⟨h2, h1⟩
  · exact .inr fun b h1 h2 => h b h2 h1
theorem pick_apart {L : List Res} (hs : L.Pairwise Res.apart) : ∀ {is : List Nat}, distinct is = true → (pick L is).Pairwise Res.apart
  | [], _ => .nil
  | i :: is, hd => by
    simp only [distinct, Bool.and_eq_true, Bool.not_eq_true'] at hd
    have ih := pick_apart hs hd.2
    unfold pick
    split
    · rename_i r0 h0
      refine List.pairwise_cons.2 ⟨fun s hs' => ?_, ih⟩
      obtain ⟨j, hj, hsj⟩ := pick_mem hs'
      have hne : i ≠ j := by
        intro e
        subst e
        have := List.any_eq_false.1 hd.1 i hj
        simp at this
      obtain ⟨hi', hi⟩ := List.getElem?_eq_some_iff.1 h0
      obtain ⟨hj', hj2⟩ := List.getElem?_eq_some_iff.1 hsj
      have hp := List.pairwise_iff_getElem.1 hs
      rcases Nat.lt_or_gt_of_ne hne with h | h
      · have := hp i j hi' hj' h
        rwa [hi, hj2] at this
      · have := hp j i hj' hi' h
        rw [hi, hj2] at this
        exact Res.apart_symm this
    · exact ih
/-- Some of the resources, in whatever order. -/
theorem Own.choose (h : Own w0 F w L) (is : List Nat) (hd : distinct is = true) : Own w0 F w (pick L is) :=
  ⟨h.os, h.tape, h.output, h.size, h.frame, fun r hr => by obtain ⟨j, _, hj⟩ := pick_mem hr; exact h.holds r (List.mem_of_getElem? hj), fun r hr => by obtain ⟨j, _, hj⟩ := pick_mem hr; exact h.fresh r (List.mem_of_getElem? hj), pick_apart h.sep hd⟩
theorem Own.get {i : Nat} {r : Res} (h : Own w0 F w L) (hi : L[i]? = some r) : r.holds w 0 := h.holds r (List.mem_of_getElem? hi)

theorem Own.sees (h : Own w0 F w L) {i : Nat} {a : Option Addr} {cs : List Value} (hi : L[i]? = some (.shr a cs)) : Sees w a cs := h.get hi

theorem ownsRow_sees {base e sz n c : Nat} {a : Option Addr} {xs : List Value} (h : w.ownsRow base e sz (.slice a n c) n xs) : Sees w a xs := by
  obtain ⟨h1, h | ⟨g, cap, cur, hv, _, hg, _, _, hcs, ht⟩⟩ := h
  · obtain ⟨e1, e2⟩ := h
    simp at e1
    obtain ⟨rfl, _, _⟩ := e1
    subst e2
    simpa [Sees] using h1
  · simp at hv
    obtain ⟨rfl, rfl⟩ := hv
    refine ⟨rfl, (Array.getElem?_eq_some_iff.1 hg).1, fun i v hv => ?_⟩
    simp only [World.cell?, hg]
    rw [← ht, List.getElem?_take] at hv
    split at hv
    · simpa using hv
    · cases hv

theorem Own.rowSees (h : Own w0 F w L) {i : Nat} {e sz n c : Nat} {a : Option Addr} {xs : List Value} (hi : L[i]? = some (.row (.slice a n c) e sz n xs)) : Sees w a xs := ownsRow_sees (h.get hi)

theorem Own.rowCap (h : Own w0 F w L) {i : Nat} {e sz n c : Nat} {a : Option Addr} {xs : List Value} (hi : L[i]? = some (.row (.slice a n c) e sz n xs)) : n ≤ c := by
  obtain ⟨_, ⟨h1, h2⟩ | ⟨g, cap, cur, hv, _, _, hle, _⟩⟩ := h.get hi
  · omega
  · cases hv; exact hle

theorem Own.blkSees (h : Own w0 F w L) {i b ty : Nat} {cs : List Value} (hi : L[i]? = some (.blk b cs ty)) : Sees w (some ⟨b, 0, none⟩) cs := by
  have hb : w.heap[b]? = _ := h.get hi
  refine ⟨rfl, (Array.getElem?_eq_some_iff.1 hb).1, fun i v hv => ?_⟩
  simp [World.cell?, hb, hv]

/-- What is shared may be looked at in parts. -/
theorem Own.share (h : Own w0 F w L) {i : Nat} {a a' : Option Addr} {cs cs' : List Value} (hi : L[i]? = some (.shr a cs)) (hfp : ∀ x, a' = some x → ∃ y, a = some y ∧ y.block = x.block) (hs : Sees w a' cs') : Own w0 F w (.shr a' cs' :: L) := by
  refine ⟨h.os, h.tape, h.output, h.size, h.frame, ?_, ?_, ?_⟩
  · intro r hr
    rcases List.mem_cons.1 hr with rfl | hr
    · exact hs
    · exact h.holds r hr
  · intro r hr hsh b hb
    rcases List.mem_cons.1 hr with rfl | hr
    · cases hsh
    · exact h.fresh r hr hsh b hb
  · refine List.pairwise_cons.2 ⟨fun s hs' => ?_, h.sep⟩
    by_cases hsh : s.shared = true
    · exact .inl ⟨rfl, hsh⟩
    · refine .inr fun b h1 h2 => ?_
      cases a' with
      | none => simp [Res.fp] at h1
      | some x =>
        simp [Res.fp] at h1
        subst h1
        obtain ⟨y, rfl, hy⟩ := hfp x rfl
        -- the shared one at place i and s
        obtain ⟨j, hj⟩ := List.mem_iff_getElem?.1 hs'
        have hij : i ≠ j := by
          intro e; subst e; rw [hi] at hj; obtain rfl := Option.some.inj hj; exact hsh rfl
        have hap : (Res.shr (some y) cs).apart s ∨ s.apart (Res.shr (some y) cs) := by
          obtain ⟨hi1, hi2⟩ := List.getElem?_eq_some_iff.1 hi
          obtain ⟨hj1, hj2⟩ := List.getElem?_eq_some_iff.1 hj
          have hp := List.pairwise_iff_getElem.1 h.sep
          rcases Nat.lt_or_gt_of_ne hij with hlt | hlt
          · left; have := hp i j hi1 hj1 hlt; rwa [hi2, hj2] at this
          · right; have := hp j i hj1 hi1 hlt; rwa [hi2, hj2] at this
        rcases hap with (⟨_, h5⟩ | h5) | (⟨h5, _⟩ | h5)
        · exact hsh h5
        · exact h5 x.block (by simp [Res.fp, hy]) h2
        · exact hsh h5
        · exact h5 x.block h2 (by simp [Res.fp, hy])

theorem heap_new (o : Obj) : (w.alloc o).heap[w.heap.size]? = some o := by
  show (w.heap.push o)[w.heap.size]? = _
  simp

theorem below_alloc (w : World) (o : Obj) : Below w.heap.size w (w.alloc o) := (Below.refl _ _).alloc (Nat.le_refl _) o

/-- A new block. -/
theorem Own.newRes (h : Own w0 F w L) (o : Obj) (r : Res) (hr : r.shared = false) (hfp : r.fp = some w.heap.size) (hh : r.holds (w.alloc o) 0) : Own w0 F (w.alloc o) (r :: L) := by
  have hg := h.grow (below_alloc w o)
  refine ⟨hg.os, hg.tape, hg.output, hg.size, hg.frame, ?_, ?_, ?_⟩
  · intro s hs
    rcases List.mem_cons.1 hs with rfl | hs
    · exact hh
    · exact hg.holds s hs
  · intro s hs hsh b hb
    rcases List.mem_cons.1 hs with rfl | hs
    · rw [hfp] at hb; obtain rfl := Option.some.inj hb
      exact .inr h.size
    · exact hg.fresh s hs hsh b hb
  · refine List.pairwise_cons.2 ⟨fun s hs => .inr fun b h1 h2 => ?_, hg.sep⟩
    rw [hfp] at h1; obtain rfl := Option.some.inj h1
    have := Res.fp_lt (h.holds s hs) h2
    omega
theorem Own.newBlk (h : Own w0 F w L) (cs : List Value) (ty : TypeId) : Own w0 F (w.alloc (.cells cs.toArray ty)) (.blk w.heap.size cs ty :: L) :=
  h.newRes _ _ rfl rfl (heap_new _)
theorem Own.newRow (h : Own w0 F w L) (cs : List Value) (e sz n : Nat) (hl : cs.length = n * sz) (hn : n ≤ maxLen) : Own w0 F (w.alloc (.cells cs.toArray e)) (.row (.slice (some ⟨w.heap.size, 0, none⟩) n n) e sz n cs :: L) :=
  h.newRes _ _ rfl rfl ⟨hl, .inr ⟨w.heap.size, n, cs.toArray, rfl, Nat.zero_le _, heap_new _, Nat.le_refl _, hn, by simpa using hl, by rw [← hl]; simp⟩⟩

/-- A change of one block of the call's own. -/
theorem Own.turn (h : Own w0 F w L) {i : Nat} {r r' : Res} {b : Nat} (hi : L[i]? = some r) (hr : r.shared = false) (hfp : r.fp = some b) (hfp' : r'.fp = some b) (hr' : r'.shared = false)
    (hos : w'.os = w.os) (htape : w'.tape = w.tape) (hout : w'.output = w.output) (hsz : w'.heap.size = w.heap.size) (hblk : ∀ k, k ≠ b → w'.heap[k]? = w.heap[k]?) (hh : r'.holds w' 0) : Own w0 F w' (L.set i r') := by
  obtain ⟨hi1, hi2⟩ := List.getElem?_eq_some_iff.1 hi
  have hp := List.pairwise_iff_getElem.1 h.sep
  have hfr := h.fresh r (List.mem_of_getElem? hi) hr b hfp
  have hne : ∀ j (hj : j < L.length), j ≠ i → L[j].fp ≠ some b := by
    intro j hj hji e
    rcases Nat.lt_or_gt_of_ne hji with hlt | hlt
    · rcases hp j i hj hi1 hlt with ⟨_, h2⟩ | h2
      · rw [hi2, hr] at h2; cases h2
      · exact h2 b e (by rw [hi2]; exact hfp)
    · rcases hp i j hi1 hj hlt with ⟨h2, _⟩ | h2
      · rw [hi2, hr] at h2; cases h2
      · exact h2 b (by rw [hi2]; exact hfp) e
  refine ⟨hos.trans h.os, htape.trans h.tape, hout.trans h.output, by rw [hsz]; exact h.size, ?_, ?_, ?_, ?_⟩
  · intro k h1 h2
    have : k ≠ b := by
      rintro rfl
      rcases hfr with h3 | h3
      · exact h2 h3
      · omega
    exact (hblk k this).trans (h.frame k h1 h2)
  · intro s hs
    obtain ⟨j, hj, rfl⟩ := List.mem_iff_getElem.1 hs
    rw [List.getElem_set] at *
    split
    · exact hh
    · rename_i hji
      have hj' : j < L.length := by simpa using hj
      exact Res.holds_of (h.holds _ (List.getElem_mem hj')) (by rw [hsz]; exact Nat.le_refl _) fun k hk => hblk k fun e => hne j hj' (fun e => hji e.symm) (e ▸ hk)
  · intro s hs hsh k hk
    obtain ⟨j, hj, rfl⟩ := List.mem_iff_getElem.1 hs
    rw [List.getElem_set] at hsh hk
    split at hk
    · rw [hfp'] at hk; obtain rfl := Option.some.inj hk; exact hfr
    · rename_i hji
      rw [if_neg hji] at hsh
      exact h.fresh _ (List.getElem_mem (by simpa using hj)) hsh k hk
  · refine List.pairwise_iff_getElem.2 fun j k hj hk hlt => ?_
    have hj' : j < L.length := by simpa using hj
    have hk' : k < L.length := by simpa using hk
    rw [List.getElem_set, List.getElem_set]
    by_cases e1 : i = j
    · subst e1
      have e2 : ¬ i = k := by omega
      rw [if_pos rfl, if_neg e2]
      exact .inr fun x h1 h2 => hne k hk' (fun e => e2 e.symm) (by rw [hfp'] at h1; obtain rfl := Option.some.inj h1; exact h2)
    · by_cases e2 : i = k
      · subst e2
        rw [if_neg e1, if_pos rfl]
        exact .inr fun x h1 h2 => hne j hj' (fun e => e1 e.symm) (by rw [hfp'] at h2; obtain rfl := Option.some.inj h2; exact h1)
      · rw [if_neg e1, if_neg e2]
        exact hp j k hj' hk' hlt

theorem Own.store (h : Own w0 F w L) {i b ty o : Nat} {cs : List Value} (hi : L[i]? = some (.blk b cs ty)) (v : Value) : Own w0 F (w.setCell ⟨b, o, none⟩ v) (L.set i (.blk b (cs.set o v) ty)) := by
  have hb : w.heap[b]? = _ := h.get hi
  refine h.turn (b := b) hi rfl rfl rfl rfl rfl rfl rfl (by simp [World.setCell]) (fun k hk => Below.heap_setCell _ _ _ _ hk) ?_
  show (w.setCell _ v).heap[b]? = _
  simp [World.setCell, Array.getElem?_modify, hb]

end
end Go.Dk
