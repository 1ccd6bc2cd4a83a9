/-
  The core of the walks: environments of live slots, rules of control, one law an operation. Over any program.
-/
import Derived.WalkKit
import Derived.WalkLawsBesides
import Derived.ProofKit
import Derived.Below
import Derived.Lib.Strings
import Derived.Deep.Quiet
namespace Go.Dk
open Go.RowKit

abbrev Env := List (Nat × Value)
def look : Env → Nat → Option Value
  | [], _ => none
  | (k, v) :: E, t => bif Nat.beq k t then some v else look E t
def evl (E : Env) : Operand → Option Value
  | .tmp t => look E t
  | .const v => some v
  | .global g => some (.pointer (some ⟨g, 0, none⟩))
  | .func f => some (.func (.func f) #[] #[])
structure Fits (N : Nat) (E : Env) (a : Act) : Prop where
  nodef : a.defers = []
  size : a.tmps.size = N
  has : ∀ t v, look E t = some v → a.tmps[t]? = some v

theorem nbeq_false {a b : Nat} : Nat.beq a b = false ↔ a ≠ b := by
  rw [← Bool.not_eq_true, Nat.beq_eq]
theorem least {p : Nat → Prop} : ∀ (n : Nat), p n → ∃ m, p m ∧ ∀ k, p k → m ≤ k := by
  intro n
  induction n using Nat.strongRecOn with
  | _ n ih =>
    intro h
    by_cases e : ∃ k, k < n ∧ p k
    · obtain ⟨k, hk, hp⟩ := e
      exact ih k hk hp
    · exact ⟨n, h, fun k hp => Nat.le_of_not_lt fun hk => e ⟨k, hk, hp⟩⟩

theorem Fits.ev {N : Nat} {E : Env} {a : Act} {x : Operand} {v : Value} (h : Fits N E a) (hx : evl E x = some v) : a.eval x = v := by
  cases x with
  | tmp t => have := h.has t v hx; simp [Act.eval, Array.getD_eq_getD_getElem?, this]
  | const c => exact Option.some.inj hx
  | global g => exact Option.some.inj hx
  | func f => exact Option.some.inj hx

theorem Fits.put {N : Nat} {E : Env} {a : Act} (h : Fits N E a) {d : Nat} (hd : Nat.blt d N = true) (v : Value) : Fits N ((d, v) :: E) (a.put (some d) v) := by
  have hd' : d < N := by simpa [Nat.blt_eq] using hd
  refine ⟨h.nodef, by simp [Act.put, h.size], fun t u hu => ?_⟩
  simp only [look] at hu
  by_cases e : d = t
  · subst e
    simp at hu
    simp [Act.put, h.size, hd', hu]
  · have : Nat.beq d t = false := nbeq_false.2 e
    simp [this] at hu
    simp [Act.put, e, h.has t u hu]

/-- Whatever environment, slot by slot. -/
theorem Fits.to {N : Nat} {E E' : Env} {a : Act} (h : Fits N E a) (hs : ∀ p ∈ E', look E p.1 = some p.2) : Fits N E' a := by
  refine ⟨h.nodef, h.size, fun t v hv => h.has t v ?_⟩
  clear h
  induction E' with
  | nil => simp [look] at hv
  | cons p E' ih =>
    obtain ⟨k, u⟩ := p
    simp only [look] at hv
    by_cases e : Nat.beq k t = true
    · simp [e] at hv
      have ekt : k = t := by simpa using e
      subst ekt; subst hv
      exact hs _ (List.mem_cons_self ..)
    · simp [e] at hv
      exact ih (fun p hp => hs p (List.mem_cons_of_mem _ hp)) hv

theorem Fits.nil {N : Nat} {E : Env} {a : Act} (h : Fits N E a) : Fits N [] a := ⟨h.nodef, h.size, fun t v hv => by simp [look] at hv⟩
theorem Fits.cons {N : Nat} {E E' : Env} {a : Act} {k : Nat} {v : Value} (h : Fits N E a) (hx : look E k = some v) (h' : Fits N E' a) : Fits N ((k, v) :: E') a := by
  refine ⟨h.nodef, h.size, fun t u hu => ?_⟩
  simp only [look] at hu
  by_cases e : Nat.beq k t = true
  · simp [e] at hu
    have ekt : k = t := by simpa using e
    subst ekt; subst hu
    exact h.has _ _ hx
  · simp [e] at hu
    exact h'.has _ _ hu

def params : Nat → List Value → Env
  | _, [] => []
  | i, v :: vs => (i, v) :: params (i + 1) vs

theorem look_params : ∀ (vs : List Value) (i t : Nat) (v : Value), look (params i vs) t = some v → i ≤ t ∧ vs[t - i]? = some v
  | [], _, _, _, h => by simp [params, look] at h
  | u :: vs, i, t, v, h => by
    simp only [params, look] at h
    by_cases e : Nat.beq i t = true
    · have : i = t := by simpa using e
      subst this
      simp at h
      subst h
      simp
    · simp [e] at h
      obtain ⟨h1, h2⟩ := look_params vs (i + 1) t v h
      refine ⟨by omega, ?_⟩
      have : t - i = (t - (i + 1)) + 1 := by omega
      rw [this]; simpa using h2

/-- The frame at a call's beginning. -/
theorem Fits.enter (vs : List Value) (N : Nat) (h : vs.length ≤ N) :
    Fits N (params 0 vs) { tmps := vs.toArray ++ Array.replicate (N - vs.toArray.size) undef, defers := [] } := by
  refine ⟨rfl, by simp; omega, fun t v hv => ?_⟩
  obtain ⟨_, h2⟩ := look_params vs 0 t v hv
  simp only [Nat.sub_zero] at h2
  have hlt : t < vs.length := by
    by_cases hh : t < vs.length
    · exact hh
    · simp [List.getElem?_eq_none (by omega : vs.length ≤ t)] at h2
  rw [Array.getElem?_append_left (by simpa using hlt)]
  simpa using h2

theorem calls_enter {P : Program} {f : FuncId} {fn : Func} {c : Code} {vs : List Value} {w : World} {R : Ending → World → Prop} {N : Nat}
    (hf : P.funcs[f]? = some fn) (hb : fn.body = some c) (hN : fn.ntmps = N) (hv : Nat.ble vs.length N = true)
    (h : ∀ a, Fits N (params 0 vs) a → c.wp P (bodyPost P fn R) a w) : Calls P f vs.toArray w R := by
  refine calls_of_wp hf hb ?_
  rw [hN]
  exact h _ (Fits.enter vs N (by simpa using hv))

section
variable {P : Program} {Q : Exit → Act → World → Prop} {a : Act} {w : World} {N : Nat} {E : Env}

theorem wp_seq_cut {x y : Code} (K : Act → World → Prop) (hx : x.wp P (Exit.then K Q) a w) (hy : ∀ a w, K a w → y.wp P Q a w) : (Code.seq x y).wp P Q a w :=
  wp_seq (Code.wp_mono (fun e a w h => by cases e <;> first | exact h | exact hy _ _ h) hx)

theorem wp_cond_cut {c : Operand} {x y : Code} {b : Bool} (hf : Fits N E a) (hc : evl E c = some (.bool b)) (h1 : b = true → x.wp P Q a w) (h0 : b = false → y.wp P Q a w) : (Code.cond c x y).wp P Q a w :=
  wp_cond_split (hf.ev hc) h1 h0

theorem wp_cond_t {c : Operand} {x y : Code} {b : Bool} (hf : Fits N E a) (hc : evl E c = some (.bool b)) (hb : b = true) (h : x.wp P Q a w) : (Code.cond c x y).wp P Q a w := by
  subst hb
  exact wp_cond_true (hf.ev hc) h
theorem wp_cond_f {c : Operand} {x y : Code} {b : Bool} (hf : Fits N E a) (hc : evl E c = some (.bool b)) (hb : b = false) (h : y.wp P Q a w) : (Code.cond c x y).wp P Q a w := by
  subst hb
  exact wp_cond_false (hf.ev hc) h
theorem nor_then {K : Act → World → Prop} (h : K a w) : Exit.then K Q .normal a w := h

theorem wp_loop_n {c : Code} (I : Nat → Act → World → Prop) (round : ∀ n a w, I n a w → c.wp P (Exit.then (fun a' w' => ∃ m, m < n ∧ I m a' w') Q) a w)
    (n : Nat) (h : I n a w) : (Code.loop c).wp P Q a w := by
  have hL : ∀ a w, (∃ n, I n a w) → ∃ n, I n a w ∧ ∀ k, I k a w → n ≤ k := fun a w ⟨n, h⟩ => least (p := fun n => I n a w) n h
  classical
  let μ : Act → World → Nat := fun a w => if h : ∃ n, I n a w then (hL a w h).choose else 0
  refine wp_loop (fun a w => ∃ n, I n a w) μ ⟨n, h⟩ ?_
  intro a w hI
  have hm : μ a w = (hL a w hI).choose := dif_pos hI
  refine Code.wp_mono ?_ (round _ a w (hL a w hI).choose_spec.1)
  intro e a' w' he
  cases e with
  | normal =>
    obtain ⟨m, hlt, hI'⟩ := he
    refine ⟨⟨m, hI'⟩, ?_⟩
    have h1 : μ a' w' = (hL a' w' ⟨m, hI'⟩).choose := dif_pos (⟨m, hI'⟩ : ∃ n, I n a' w')
    rw [h1, hm]
    exact Nat.lt_of_le_of_lt ((hL a' w' ⟨m, hI'⟩).choose_spec.2 m hI') hlt
  | _ => exact he

theorem exit_then {K : Act → World → Prop} {id : Nat} (h : Q (.exit id) a w) : Exit.then K Q (.exit id) a w := h
theorem exit_here {id : Nat} (h : Q .normal a w) : Exit.inBlock id Q (.exit id) a w := by simpa [Exit.inBlock] using h
theorem exit_past {id id' : Nat} (hne : Nat.beq id' id = false) (h : Q (.exit id') a w) : Exit.inBlock id Q (.exit id') a w := by
  have : ¬ id' = id := nbeq_false.1 hne
  simpa [Exit.inBlock, this] using h
theorem ret_then {K : Act → World → Prop} (h : Q .ret a w) : Exit.then K Q .ret a w := h
theorem ret_block {id : Nat} (h : Q .ret a w) : Exit.inBlock id Q .ret a w := h
theorem nor_block {id : Nat} (h : Q .normal a w) : Exit.inBlock id Q .normal a w := h

variable {ops : Array Oper} {rest : List Oper} {o : Oper}

theorem op_run (hg : o.guard = none) {v : Value} {w' : World} (hx : (execOp a.eval o).run P w = .ok (.value v) w') (hk : wpList P ops Q rest (a.put o.dst v) w') : wpList P ops Q (o :: rest) a w := by
  unfold wpList
  rw [if_pos (by simp [Region.wanted, hg])]
  left
  unfold Oper.wp
  rw [hx]
  exact hk

/-- An operation under a guard that is met. -/
theorem op_guard {j : Nat} {b : Bool} (hg : o.guard = some (j, b)) {s : Nat} (hf : Fits N E a) (hs : (ops[j]?).bind (·.dst) = some s) {b' : Bool} (hb : look E s = some (.bool b')) (hbb : b' = b)
    (h : wpList P ops Q ({ o with guard := none } :: rest) a w) : wpList P ops Q (o :: rest) a w := by
  subst hbb
  have hy : yielded ops a.tmps j = some b' := by simp [yielded, hs, hf.has s _ hb]
  unfold wpList at h ⊢
  rw [if_pos (by simp [Region.wanted, hg, hy])]
  rw [if_pos (by simp [Region.wanted])] at h
  exact h

/-- .. and of one that is not met: it is passed over. -/
theorem op_pass {j : Nat} {b : Bool} (hg : o.guard = some (j, b)) {s d : Nat} (hf : Fits N E a) (hs : (ops[j]?).bind (·.dst) = some s) {b' : Bool} (hb : look E s = some (.bool b')) (hne : b' = !b)
    (hd : o.dst = some d) (hdN : Nat.blt d N = true)
    (h : ∀ a, Fits N ((d, undef) :: E) a → wpList P ops Q rest a w) : wpList P ops Q (o :: rest) a w := by
  have hy : yielded ops a.tmps j = some b' := by simp [yielded, hs, hf.has s _ hb]
  unfold wpList
  rw [if_neg (by subst hne; simp [Region.wanted, hg, hy])]
  rw [hd]
  exact h _ (hf.put hdN _)

theorem op_passu {j : Nat} {b : Bool} (hg : o.guard = some (j, b)) {s d : Nat} (hf : Fits N E a) (hs : (ops[j]?).bind (·.dst) = some s) (hb : look E s = some undef)
    (hd : o.dst = some d) (hdN : Nat.blt d N = true) (h : ∀ a, Fits N ((d, undef) :: E) a → wpList P ops Q rest a w) : wpList P ops Q (o :: rest) a w := by
  have hy : yielded ops a.tmps j = none := by simp [yielded, hs, hf.has s _ hb, undef]
  unfold wpList
  rw [if_neg (by simp [Region.wanted, hg, hy])]
  rw [hd]
  exact h _ (hf.put hdN _)
end
end Go.Dk
