/-
  One law an operation (values alone; memory: another text). Over any program.
-/
import Derived.Test.YtnfkbhocbdheaacGreatDoorCore
import Derived.Test.YtnfkbhocbdheaacGreatDoorPrim
import Derived.Laws.DeepStrings4
import Derived.Laws.StructEq
namespace Go.Dk
open Go.RowKit Go.Dm

abbrev str (l : Str) : Value := .string ⟨l.toArray⟩
abbrev int (n : Int) : Value := .int .i64 n
abbrev byte (c : UInt8) : Value := .int .u8 (c.toNat : Int)

theorem wrap_i64 {n : Int} (h : inI n = true) : IntKind.i64.wrap n = n := by
  rw [inI_iff] at h
  exact IntWalk.i64_in _ (by omega)

theorem byte_eq (b c : UInt8) : ((b.toNat : Int) == (c.toNat : Int)) = (b == c) := by
  rw [Bool.eq_iff_iff]; simp only [beq_iff_eq, Int.natCast_inj, UInt8.toNat_inj]
theorem wrap_u8 (n : Int) : IntKind.u8.wrap n = ((n % 256 : Int)) := by
  simp [IntKind.wrap, IntKind.bits, IntKind.signed]

def evls (E : Env) : List Operand → Option (List Value)
  | [] => some []
  | x :: xs => match evl E x with
    | none => none
    | some v => match evls E xs with
      | none => none
      | some vs => some (v :: vs)

theorem Fits.evs {N : Nat} {E : Env} {a : Act} (h : Fits N E a) : ∀ {xs : List Operand} {vs : List Value}, evls E xs = some vs → xs.map a.eval = vs
  | [], _, e => by simp [evls] at e; simp [e]
  | x :: xs, vs, e => by
    cases hx : evl E x with
    | none => simp [evls, hx] at e
    | some v =>
      cases hxs : evls E xs with
      | none => simp [evls, hx, hxs] at e
      | some us =>
        simp [evls, hx, hxs] at e
        subst e
        simp [h.ev hx, Fits.evs h hxs]

section
variable {P : Program} {Q : Exit → Act → World → Prop} {a : Act} {w : World} {N : Nat} {E : Env}
variable {ops : Array Oper} {rest : List Oper} {t t' ty d : Nat} {p : String} {af : Array Edge} {x y : Operand} {dst : Option Nat} {gd : Option (Nat × Bool)}

/-- An operation that yields a value in the world that it got. -/
theorem op_val {o : Oper} {v : Value} (hx : (execOp a.eval o).run P w = .ok (.value v) w) (hg : o.guard = none) (hf : Fits N E a) (hdst : o.dst = some d) (hd : Nat.blt d N = true)
    (k : ∀ a, Fits N ((d, v) :: E) a → wpList P ops Q rest a w) : wpList P ops Q (o :: rest) a w :=
  op_run hg hx (by rw [hdst]; exact k _ (hf.put hd _))

theorem ex_move {v : Value} (hf : Fits N E a) (hx : evl E x = some v) : (execOp a.eval { dst := dst, op := .move x, type := t, pos := p, after := af, guard := gd }).run P w = .ok (.value v) w := by
  simp only [execOp]; rw [hf.ev hx]; rfl
theorem ex_assign {v : Value} (hf : Fits N E a) (hx : evl E x = some v) : (execOp a.eval { dst := dst, op := .assign x, type := t, pos := p, after := af, guard := gd }).run P w = .ok (.value v) w := by
  simp only [execOp]; rw [hf.ev hx]; rfl
theorem op_mv {v : Value} (hf : Fits N E a) (hx : evl E x = some v) (hd : Nat.blt d N = true) (k : ∀ a, Fits N ((d, v) :: E) a → wpList P ops Q rest a w) : wpList P ops Q ({ dst := some d, op := .move x, type := t, pos := p, after := af, guard := none } :: rest) a w :=
  op_val (ex_move hf hx) rfl hf rfl hd k
theorem op_as {v : Value} (hf : Fits N E a) (hx : evl E x = some v) (hd : Nat.blt d N = true) (k : ∀ a, Fits N ((d, v) :: E) a → wpList P ops Q rest a w) : wpList P ops Q ({ dst := some d, op := .assign x, type := t, pos := p, after := af, guard := none } :: rest) a w :=
  op_val (ex_assign hf hx) rfl hf rfl hd k
theorem ex_pick_t {v : Value} {c : Operand} (hf : Fits N E a) {b : Bool} (hc : evl E c = some (.bool b)) (hb : b = true) (hx : evl E x = some v) : (execOp a.eval { dst := dst, op := .pick c x y, type := t, pos := p, after := af, guard := gd }).run P w = .ok (.value v) w := by
  subst hb; simp only [execOp]; rw [hf.ev hc, hf.ev hx]; simp [asBool]
theorem ex_pick_f {v : Value} {c : Operand} (hf : Fits N E a) {b : Bool} (hc : evl E c = some (.bool b)) (hb : b = false) (hy : evl E y = some v) : (execOp a.eval { dst := dst, op := .pick c x y, type := t, pos := p, after := af, guard := gd }).run P w = .ok (.value v) w := by
  subst hb; simp only [execOp]; rw [hf.ev hc, hf.ev hy]; simp [asBool]
theorem ex_not {b : Bool} (hf : Fits N E a) (hx : evl E x = some (.bool b)) : (execOp a.eval { dst := dst, op := .unOp .not t' x, type := t, pos := p, after := af, guard := gd }).run P w = .ok (.value (.bool (!b))) w := by
  simp only [execOp]; rw [hf.ev hx]; simp [go_sem]
theorem ex_add {m n r : Int} (hf : Fits N E a) (hx : evl E x = some (int m)) (hy : evl E y = some (int n)) (hr : iAdd m n = some r) : (execOp a.eval { dst := dst, op := .binOp .add t' x y ty, type := t, pos := p, after := af, guard := gd }).run P w = .ok (.value (int r)) w := by
  unfold iAdd at hr
  by_cases h : inI (m + n) = true
  · rw [if_pos h] at hr; obtain rfl := Option.some.inj hr
    simp only [execOp]; rw [hf.ev hx, hf.ev hy]; simp [go_sem, Op.intArith, wrap_i64 h]
  · rw [if_neg h] at hr; cases hr
theorem ex_sub {m n r : Int} (hf : Fits N E a) (hx : evl E x = some (int m)) (hy : evl E y = some (int n)) (hr : iSub m n = some r) : (execOp a.eval { dst := dst, op := .binOp .sub t' x y ty, type := t, pos := p, after := af, guard := gd }).run P w = .ok (.value (int r)) w := by
  unfold iSub at hr
  by_cases h : inI (m - n) = true
  · rw [if_pos h] at hr; obtain rfl := Option.some.inj hr
    simp only [execOp]; rw [hf.ev hx, hf.ev hy]; simp [go_sem, Op.intArith, wrap_i64 h]
  · rw [if_neg h] at hr; cases hr
theorem ex_mul {m n r : Int} (hf : Fits N E a) (hx : evl E x = some (int m)) (hy : evl E y = some (int n)) (hr : iMul m n = some r) : (execOp a.eval { dst := dst, op := .binOp .mul t' x y ty, type := t, pos := p, after := af, guard := gd }).run P w = .ok (.value (int r)) w := by
  unfold iMul at hr
  by_cases h : inI (m * n) = true
  · rw [if_pos h] at hr; obtain rfl := Option.some.inj hr
    simp only [execOp]; rw [hf.ev hx, hf.ev hy]; simp [go_sem, Op.intArith, wrap_i64 h]
  · rw [if_neg h] at hr; cases hr
theorem ex_quo {m n r : Int} (hf : Fits N E a) (hx : evl E x = some (int m)) (hy : evl E y = some (int n)) (hr : iDiv m n = some r) : (execOp a.eval { dst := dst, op := .binOp .quo t' x y ty, type := t, pos := p, after := af, guard := gd }).run P w = .ok (.value (int r)) w := by
  unfold iDiv at hr
  split at hr
  · rename_i h
    obtain rfl := Option.some.inj hr
    have hn : ¬ n = 0 := by omega
    have hd : m.tdiv n = m / n := Int.tdiv_eq_ediv_of_nonneg h.1
    simp only [execOp]; rw [hf.ev hx, hf.ev hy]; simp [go_sem, Op.intArith, hn, hd, wrap_i64 h.2.2]
  · cases hr
theorem ex_eql {kd : IntKind} {m n : Int} (hf : Fits N E a) (hx : evl E x = some (.int kd m)) (hy : evl E y = some (.int kd n)) : (execOp a.eval { dst := dst, op := .binOp .eql t' x y ty, type := t, pos := p, after := af, guard := gd }).run P w = .ok (.value (.bool (m == n))) w := by
  simp only [execOp]; rw [hf.ev hx, hf.ev hy]; simp [go_sem]
theorem ex_neq {kd : IntKind} {m n : Int} (hf : Fits N E a) (hx : evl E x = some (.int kd m)) (hy : evl E y = some (.int kd n)) : (execOp a.eval { dst := dst, op := .binOp .neq t' x y ty, type := t, pos := p, after := af, guard := gd }).run P w = .ok (.value (.bool (!(m == n)))) w := by
  simp only [execOp]; rw [hf.ev hx, hf.ev hy]; simp [go_sem, bne]
theorem ex_lss {kd : IntKind} {m n : Int} (hf : Fits N E a) (hx : evl E x = some (.int kd m)) (hy : evl E y = some (.int kd n)) : (execOp a.eval { dst := dst, op := .binOp .lss t' x y ty, type := t, pos := p, after := af, guard := gd }).run P w = .ok (.value (.bool (decide (m < n)))) w := by
  simp only [execOp]; rw [hf.ev hx, hf.ev hy]; simp [go_sem]
theorem ex_leq {kd : IntKind} {m n : Int} (hf : Fits N E a) (hx : evl E x = some (.int kd m)) (hy : evl E y = some (.int kd n)) : (execOp a.eval { dst := dst, op := .binOp .leq t' x y ty, type := t, pos := p, after := af, guard := gd }).run P w = .ok (.value (.bool (decide (m ≤ n)))) w := by
  simp only [execOp]; rw [hf.ev hx, hf.ev hy]; simp [go_sem]
theorem ex_gtr {kd : IntKind} {m n : Int} (hf : Fits N E a) (hx : evl E x = some (.int kd m)) (hy : evl E y = some (.int kd n)) : (execOp a.eval { dst := dst, op := .binOp .gtr t' x y ty, type := t, pos := p, after := af, guard := gd }).run P w = .ok (.value (.bool (decide (n < m)))) w := by
  simp only [execOp]; rw [hf.ev hx, hf.ev hy]; simp [go_sem]
theorem ex_geq {kd : IntKind} {m n : Int} (hf : Fits N E a) (hx : evl E x = some (.int kd m)) (hy : evl E y = some (.int kd n)) : (execOp a.eval { dst := dst, op := .binOp .geq t' x y ty, type := t, pos := p, after := af, guard := gd }).run P w = .ok (.value (.bool (decide (n ≤ m)))) w := by
  simp only [execOp]; rw [hf.ev hx, hf.ev hy]; simp [go_sem]
theorem ex_eql_b {b c : UInt8} (hf : Fits N E a) (hx : evl E x = some (byte b)) (hy : evl E y = some (byte c)) : (execOp a.eval { dst := dst, op := .binOp .eql t' x y ty, type := t, pos := p, after := af, guard := gd }).run P w = .ok (.value (.bool (b == c))) w := by
  simp only [execOp]; rw [hf.ev hx, hf.ev hy]; simp [go_sem, byte_eq]
theorem ex_neq_b {b c : UInt8} (hf : Fits N E a) (hx : evl E x = some (byte b)) (hy : evl E y = some (byte c)) : (execOp a.eval { dst := dst, op := .binOp .neq t' x y ty, type := t, pos := p, after := af, guard := gd }).run P w = .ok (.value (.bool (!(b == c)))) w := by
  simp only [execOp]; rw [hf.ev hx, hf.ev hy]; simp [go_sem, bne, byte_eq]
theorem ex_lss_b {b c : UInt8} (hf : Fits N E a) (hx : evl E x = some (byte b)) (hy : evl E y = some (byte c)) : (execOp a.eval { dst := dst, op := .binOp .lss t' x y ty, type := t, pos := p, after := af, guard := gd }).run P w = .ok (.value (.bool (decide (b < c)))) w := by
  simp only [execOp]; rw [hf.ev hx, hf.ev hy]; simp [go_sem, UInt8.lt_iff_toNat_lt]
theorem ex_leq_b {b c : UInt8} (hf : Fits N E a) (hx : evl E x = some (byte b)) (hy : evl E y = some (byte c)) : (execOp a.eval { dst := dst, op := .binOp .leq t' x y ty, type := t, pos := p, after := af, guard := gd }).run P w = .ok (.value (.bool (decide (b ≤ c)))) w := by
  simp only [execOp]; rw [hf.ev hx, hf.ev hy]; simp [go_sem, UInt8.le_iff_toNat_le]
theorem ex_gtr_b {b c : UInt8} (hf : Fits N E a) (hx : evl E x = some (byte b)) (hy : evl E y = some (byte c)) : (execOp a.eval { dst := dst, op := .binOp .gtr t' x y ty, type := t, pos := p, after := af, guard := gd }).run P w = .ok (.value (.bool (decide (c < b)))) w := by
  simp only [execOp]; rw [hf.ev hx, hf.ev hy]; simp [go_sem, UInt8.lt_iff_toNat_lt]
theorem ex_geq_b {b c : UInt8} (hf : Fits N E a) (hx : evl E x = some (byte b)) (hy : evl E y = some (byte c)) : (execOp a.eval { dst := dst, op := .binOp .geq t' x y ty, type := t, pos := p, after := af, guard := gd }).run P w = .ok (.value (.bool (decide (c ≤ b)))) w := by
  simp only [execOp]; rw [hf.ev hx, hf.ev hy]; simp [go_sem, UInt8.le_iff_toNat_le]
theorem ex_add_b {b c : UInt8} (hf : Fits N E a) (hx : evl E x = some (byte b)) (hy : evl E y = some (byte c)) : (execOp a.eval { dst := dst, op := .binOp .add t' x y ty, type := t, pos := p, after := af, guard := gd }).run P w = .ok (.value (byte (b + c))) w := by
  simp only [execOp]; rw [hf.ev hx, hf.ev hy]; simp only [go_sem, Sem.run_bind, eqGuard, Op.intArith, wrap_u8]
  have e : ((b.toNat : Int) + (c.toNat : Int)) % 256 = ((b + c).toNat : Int) := by simp [UInt8.toNat_add]
  rw [e]; rfl
theorem ex_sub_b {b c : UInt8} (hf : Fits N E a) (hx : evl E x = some (byte b)) (hy : evl E y = some (byte c)) : (execOp a.eval { dst := dst, op := .binOp .sub t' x y ty, type := t, pos := p, after := af, guard := gd }).run P w = .ok (.value (byte (b - c))) w := by
  simp only [execOp]; rw [hf.ev hx, hf.ev hy]; simp only [go_sem, Sem.run_bind, eqGuard, Op.intArith, wrap_u8]
  have e : ((b.toNat : Int) - (c.toNat : Int)) % 256 = ((b - c).toNat : Int) := by
    have := b.toNat_lt; have := c.toNat_lt
    simp [UInt8.toNat_sub]; omega
  rw [e]; rfl
theorem run_equalIn_pn (d : Nat) {ti e : TypeId} (ad : Addr) (ht : P.underlying ti = some (.pointer e)) : (Op.equalIn (d + 1) ti (.pointer (some ad)) (.pointer none)).run P w = .ok false w := by
  simp [Op.equalIn, run_underlying ht]
theorem run_eql_pn {ti e : TypeId} (ad : Addr) (ht : P.underlying ti = some (.pointer e)) : (binOp .eql ti (.pointer (some ad)) (.pointer none)).run P w = .ok (.bool false) w := by
  simp only [binOp]
  simp [Op.equal, Op.maxDepth, run_equalIn_pn 9999 ad ht]
theorem run_neq_pn {ti e : TypeId} (ad : Addr) (ht : P.underlying ti = some (.pointer e)) : (binOp .neq ti (.pointer (some ad)) (.pointer none)).run P w = .ok (.bool true) w := by
  simp only [binOp]
  simp [Op.equal, Op.maxDepth, run_equalIn_pn 9999 ad ht]
theorem ex_eql_pn {e : Nat} {ad : Addr} (ht : P.underlying t' = some (.pointer e)) (hf : Fits N E a) (hx : evl E x = some (.pointer (some ad))) (hy : evl E y = some (.pointer none)) : (execOp a.eval { dst := dst, op := .binOp .eql t' x y ty, type := t, pos := p, after := af, guard := gd }).run P w = .ok (.value (.bool false)) w := by
  simp only [execOp]; rw [hf.ev hx, hf.ev hy]; simp [eqGuard, run_eql_pn ad ht, Result.andThen]
theorem ex_neq_pn {e : Nat} {ad : Addr} (ht : P.underlying t' = some (.pointer e)) (hf : Fits N E a) (hx : evl E x = some (.pointer (some ad))) (hy : evl E y = some (.pointer none)) : (execOp a.eval { dst := dst, op := .binOp .neq t' x y ty, type := t, pos := p, after := af, guard := gd }).run P w = .ok (.value (.bool true)) w := by
  simp only [execOp]; rw [hf.ev hx, hf.ev hy]; simp [eqGuard, run_neq_pn ad ht, Result.andThen]
theorem ex_eql_s {l m : Str} (hf : Fits N E a) (hx : evl E x = some (str l)) (hy : evl E y = some (str m)) : (execOp a.eval { dst := dst, op := .binOp .eql t' x y ty, type := t, pos := p, after := af, guard := gd }).run P w = .ok (.value (.bool (l == m))) w := by
  simp only [execOp]; rw [hf.ev hx, hf.ev hy]; simp [go_sem]
theorem ex_neq_s {l m : Str} (hf : Fits N E a) (hx : evl E x = some (str l)) (hy : evl E y = some (str m)) : (execOp a.eval { dst := dst, op := .binOp .neq t' x y ty, type := t, pos := p, after := af, guard := gd }).run P w = .ok (.value (.bool (!(l == m)))) w := by
  simp only [execOp]; rw [hf.ev hx, hf.ev hy]; simp [go_sem]
theorem ex_neq_t {xs ys : Array Value} {b : Bool} (hg : P.eqGuardType P.depth t' = false) (he : ∀ w, (Op.equalIn 10000 t' (.agg xs) (.agg ys)).run P w = .ok b w) (hf : Fits N E a) (hx : evl E x = some (.agg xs)) (hy : evl E y = some (.agg ys)) : (execOp a.eval { dst := dst, op := .binOp .neq t' x y ty, type := t, pos := p, after := af, guard := gd }).run P w = .ok (.value (.bool (!b))) w := by
  simp only [execOp]; rw [hf.ev hx, hf.ev hy]; simp [run_eqGuard_agg w .neq t' x y xs ys hg, run_neq_struct, he, Result.andThen]
theorem str_toList (l : Str) : (⟨l.toArray⟩ : ByteArray).toList = l := by rw [ByteArray.toList_eq]
theorem ex_cat {l m r : Str} (hf : Fits N E a) (hx : evl E x = some (str l)) (hy : evl E y = some (str m)) (hr : sCat l m = some r) : (execOp a.eval { dst := dst, op := .binOp .add t' x y ty, type := t, pos := p, after := af, guard := gd }).run P w = .ok (.value (str r)) w := by
  unfold sCat at hr
  split at hr
  · rename_i h
    obtain rfl := Option.some.inj hr
    simp only [execOp]; rw [hf.ev hx, hf.ev hy]; simp [go_sem, ByteArray.mk_append_mk]; omega
  · cases hr
section
variable {ev : Operand → Value}
theorem exec_len_s {l : Str} (ht : P.underlying t' = some .string) (hv : ev x = str l) {dst : Option Nat} {g : Option (Nat × Bool)} :
    (execOp ev { dst := dst, op := .call { callee := .builtin .len, args := #[x], argTypes := #[t'] }, type := t, pos := p, after := af, guard := g }).run P w = .ok (.value (int l.length)) w := by
  simp [execOp, go_sem, hv, ht, ByteArray.size, goInt]
theorem exec_len_l {ad : Option Addr} {n c e : Nat} (ht : P.underlying t' = some (.slice e)) (hv : ev x = .slice ad n c) {dst : Option Nat} {g : Option (Nat × Bool)} :
    (execOp ev { dst := dst, op := .call { callee := .builtin .len, args := #[x], argTypes := #[t'] }, type := t, pos := p, after := af, guard := g }).run P w = .ok (.value (int n)) w := by
  simp [execOp, go_sem, hv, Builtin.len_, run_underlying ht, goInt]
theorem exec_min {m n : Int} (h1 : ev x = int m) (h2 : ev y = int n) {dst : Option Nat} {g : Option (Nat × Bool)} :
    (execOp ev { dst := dst, op := .call { callee := .builtin .min, args := #[x, y], argTypes := #[t', ty] }, type := t, pos := p, after := af, guard := g }).run P w = .ok (.value (int (min m n))) w := by
  simp [execOp, go_sem, h1, h2, Builtin.min_, Builtin.min2]; omega
theorem exec_max {m n : Int} (h1 : ev x = int m) (h2 : ev y = int n) {dst : Option Nat} {g : Option (Nat × Bool)} :
    (execOp ev { dst := dst, op := .call { callee := .builtin .max, args := #[x, y], argTypes := #[t', ty] }, type := t, pos := p, after := af, guard := g }).run P w = .ok (.value (int (max m n))) w := by
  simp [execOp, go_sem, h1, h2, Builtin.max_, Builtin.max2]; omega
end
theorem ex_len_s {l : Str} (ht : P.underlying t' = some .string) (hf : Fits N E a) (hx : evl E x = some (str l)) :
    (execOp a.eval { dst := dst, op := .call { callee := .builtin .len, args := #[x], argTypes := #[t'] }, type := t, pos := p, after := af, guard := gd }).run P w = .ok (.value (int l.length)) w := exec_len_s ht (hf.ev hx)
theorem ex_len_l {ad : Option Addr} {n c e : Nat} (ht : P.underlying t' = some (.slice e)) (hf : Fits N E a) (hx : evl E x = some (.slice ad n c)) :
    (execOp a.eval { dst := dst, op := .call { callee := .builtin .len, args := #[x], argTypes := #[t'] }, type := t, pos := p, after := af, guard := gd }).run P w = .ok (.value (int n)) w := exec_len_l ht (hf.ev hx)
theorem ex_min {m n : Int} (hf : Fits N E a) (hx : evl E x = some (int m)) (hy : evl E y = some (int n)) :
    (execOp a.eval { dst := dst, op := .call { callee := .builtin .min, args := #[x, y], argTypes := #[t', ty] }, type := t, pos := p, after := af, guard := gd }).run P w = .ok (.value (int (min m n))) w := exec_min (hf.ev hx) (hf.ev hy)
theorem ex_max {m n : Int} (hf : Fits N E a) (hx : evl E x = some (int m)) (hy : evl E y = some (int n)) :
    (execOp a.eval { dst := dst, op := .call { callee := .builtin .max, args := #[x, y], argTypes := #[t', ty] }, type := t, pos := p, after := af, guard := gd }).run P w = .ok (.value (int (max m n))) w := exec_max (hf.ev hx) (hf.ev hy)

theorem ex_index {l : Str} {i : Int} {c : UInt8} (ht : P.underlying t' = some .string) (hf : Fits N E a) (hx : evl E x = some (str l)) (hy : evl E y = some (int i)) (hr : sAt l i = some c) : (execOp a.eval { dst := dst, op := .index t' x y, type := t, pos := p, after := af, guard := gd }).run P w = .ok (.value (byte c)) w := by
  unfold sAt at hr
  split at hr
  · rename_i h0
    obtain ⟨hlt, he⟩ := List.getElem?_eq_some_iff.1 hr
    have h1 : 0 ≤ i ∧ i < ((⟨l.toArray⟩ : ByteArray).size : Nat) := ⟨h0, by simp [ByteArray.size]; omega⟩
    have hxv := hf.ev hx
    have hyv := hf.ev hy
    simp only [execOp]
    rw [hxv, hyv]
    simp only [Sem.run_bind, run_index_string w t' _ _ i ht, dif_pos h1, Result.andThen, Sem.run_pure]
    congr 3
    subst he
    rfl
  · cases hr
theorem extract_list (l : Str) (i j : Nat) : (⟨l.toArray⟩ : ByteArray).extract i j = ⟨((l.take j).drop i).toArray⟩ := by
  apply ByteArray.ext
  simp [ByteArray.data_extract, List.drop_take]
theorem ex_sub_s {l r : Str} {i j : Int} {z : Operand} (ht : P.underlying t' = some .string) (hf : Fits N E a) (hx : evl E x = some (str l)) (hy : evl E y = some (int i)) (hz : evl E z = some (int j)) (hr : sSub l i j = some r) : (execOp a.eval { dst := dst, op := .slice t' x (some y) (some z) none, type := t, pos := p, after := af, guard := gd }).run P w = .ok (.value (str r)) w := by
  unfold sSub at hr
  split at hr
  · rename_i h
    obtain rfl := Option.some.inj hr
    have e1 : (0 : Int) ≤ j ∧ j ≤ ((⟨l.toArray⟩ : ByteArray).size : Nat) := by simp [ByteArray.size]; omega
    have e2 : (0 : Int) ≤ i ∧ i ≤ j := by omega
    have hxv := hf.ev hx
    have hyv := hf.ev hy
    have hzv := hf.ev hz
    simp only [execOp, Option.map]
    rw [hxv, hyv, hzv]
    simp only [run_sliceAt_string w t' _ _ _ _ ht, Sem.run_bind, run_slice_string_if (P := P) w t' _ _ _ i j ht, if_pos e1, if_pos e2, Result.andThen, Sem.run_pure, extract_list]
  · cases hr
theorem ex_to_s {l r : Str} {j : Int} {z : Operand} (ht : P.underlying t' = some .string) (hf : Fits N E a) (hx : evl E x = some (str l)) (hz : evl E z = some (int j)) (hr : sTo l j = some r) : (execOp a.eval { dst := dst, op := .slice t' x none (some z) none, type := t, pos := p, after := af, guard := gd }).run P w = .ok (.value (str r)) w := by
  unfold sTo at hr
  split at hr
  · rename_i h
    obtain rfl := Option.some.inj hr
    have e1 : j ≤ ((⟨l.toArray⟩ : ByteArray).size : Nat) := by simp [ByteArray.size]; omega
    have hxv := hf.ev hx
    have hzv := hf.ev hz
    simp only [execOp, Option.map]
    rw [hxv, hzv]
    have := run_sliceBound (P := P) w .i64 j (⟨l.toArray⟩ : ByteArray).size .sliceAlen h.1 e1
    simp [run_sliceAt_string w t' _ _ _ _ ht, Instr.slice, run_underlying ht, Instr.sliceBounds, this, extract_list]
  · cases hr
theorem ex_from_s {l r : Str} {i : Int} (ht : P.underlying t' = some .string) (hf : Fits N E a) (hx : evl E x = some (str l)) (hy : evl E y = some (int i)) (hr : sFrom l i = some r) : (execOp a.eval { dst := dst, op := .slice t' x (some y) none none, type := t, pos := p, after := af, guard := gd }).run P w = .ok (.value (str r)) w := by
  unfold sFrom at hr
  split at hr
  · rename_i h
    obtain rfl := Option.some.inj hr
    have e1 : i ≤ ((⟨l.toArray⟩ : ByteArray).size : Nat) := by simp [ByteArray.size]; omega
    have hxv := hf.ev hx
    have hyv := hf.ev hy
    simp only [execOp, Option.map]
    rw [hxv, hyv]
    have := run_sliceBound (P := P) w .i64 i l.length .sliceB h.1 h.2
    simp [run_sliceAt_string w t' _ _ _ _ ht, Instr.slice, run_underlying ht, Instr.sliceBounds, this, extract_list, ByteArray.size_mk']
  · cases hr
theorem ex_extract {vs : Array Value} {i : Nat} {v : Value} (hf : Fits N E a) (hx : evl E x = some (.tuple vs)) (hv : vs[i]? = some v) : (execOp a.eval { dst := dst, op := .extract x i, type := t, pos := p, after := af, guard := gd }).run P w = .ok (.value v) w := by
  simp only [execOp]; rw [hf.ev hx]; simp [Instr.extract, hv]
/-- A number made an int. -/
theorem ex_conv_i {kd : IntKind} {n : Int} {s : Nat} {us : TypeDesc} (ht : P.underlying ty = some (.int .i64)) (hs : P.underlying s = some us) (hn : inI n = true) (hf : Fits N E a) (hx : evl E x = some (.int kd n)) : (execOp a.eval { dst := dst, op := .convert s ty x, type := t, pos := p, after := af, guard := gd }).run P w = .ok (.value (int n)) w := by
  simp only [execOp]; rw [hf.ev hx]; simp [convert, run_underlying ht, run_underlying hs, Conv.intToInt, wrap_i64 hn]
theorem byte_inI (c : UInt8) : inI (c.toNat : Int) = true := by
  rw [inI_iff]; have := c.toNat_lt; omega
theorem callsE {f : Nat} {vs : List Value} {R : Ending → World → Prop} (h : Calls P f vs.toArray w R) : Calls P f (#[] ++ vs.toArray ++ #[]) w R := by simpa using h
theorem ex_nilCheck {ad : Addr} (hf : Fits N E a) (hx : evl E x = some (.pointer (some ad))) : (execOp a.eval { dst := dst, op := .nilCheck x, type := t, pos := p, after := af, guard := gd }).run P w = .ok (.value (.pointer (some ad))) w := by
  simp only [execOp]; rw [hf.ev hx]; rfl
/-- A function of the program's own text. -/
def Callable (P : Program) (f : Nat) : Prop := ∃ fn, P.funcs[f]? = some fn ∧ fn.body.isNone = false ∧ (fn.name == "runtime.NumGoroutine") = false
theorem ex_call {f : Nat} {args : Array Operand} {vs : List Value} {ats : Array TypeId} (hfn : Callable P f) (hf : Fits N E a) (hx : evls E args.toList = some vs) :
    (execOp a.eval { dst := dst, op := .call { callee := .value (.func f), args := args, argTypes := ats }, type := t, pos := p, after := af, guard := gd }).run P w = .ok (.enter f vs.toArray) w := by
  obtain ⟨fn, hfn, hbody, hname⟩ := hfn
  have hargs : args.map a.eval = vs.toArray := by
    have h1 := hf.evs hx
    apply Array.toList_inj.1
    simpa using h1
  simp only [execOp, resolve, hargs, Act.eval, Deferred.ofValue]
  have hb : ¬ fn.body = none := by intro e; rw [e] at hbody; cases hbody
  have hn : ¬ fn.name = "runtime.NumGoroutine" := by intro e; rw [e] at hname; cases hname
  simp [invoke, callFunc, hfn, hn, hb]
theorem ex_callv {f : Nat} {first captured : Array Value} {args : Array Operand} {vs : List Value} {ats : Array TypeId} (hfn : Callable P f) (hf : Fits N E a) (hv : evl E x = some (.func (.func f) first captured)) (hx : evls E args.toList = some vs) :
    (execOp a.eval { dst := dst, op := .call { callee := .value x, args := args, argTypes := ats }, type := t, pos := p, after := af, guard := gd }).run P w = .ok (.enter f (first ++ vs.toArray ++ captured)) w := by
  obtain ⟨fn, hfn, hbody, hname⟩ := hfn
  have hargs : args.map a.eval = vs.toArray := by
    have h1 := hf.evs hx
    apply Array.toList_inj.1
    simpa using h1
  simp only [execOp, resolve, hargs]
  rw [hf.ev hv]
  simp only [Deferred.ofValue]
  have hb : ¬ fn.body = none := by intro e; rw [e] at hbody; cases hbody
  have hn : ¬ fn.name = "runtime.NumGoroutine" := by intro e; rw [e] at hname; cases hname
  simp [invoke, callFunc, hfn, hn, hb]
theorem op_enter {o : Oper} {f : Nat} {vs : Array Value} {R : Ending → World → Prop} (hx : (execOp a.eval o).run P w = .ok (.enter f vs) w) (hg : o.guard = none) (hf : Fits N E a) (hdst : o.dst = some d) (hd : Nat.blt d N = true) (hc : Calls P f vs w R)
    (k : ∀ e w', R e w' → ∃ v, e = .returned v ∧ ∀ a, Fits N ((d, v) :: E) a → wpList P ops Q rest a w') : wpList P ops Q (o :: rest) a w := by
  unfold wpList
  rw [if_pos (by simp [Region.wanted, hg])]
  left
  unfold Oper.wp
  rw [hx, Oper.upon_enter]
  refine hc.mono fun e w' he => ?_
  obtain ⟨v, rfl, hk⟩ := k e w' he
  rw [hdst]
  exact hk _ (hf.put hd _)
theorem op_skipw {o : Oper} {w' : World} (hx : (execOp a.eval o).run P w = .ok .skip w') (hg : o.guard = none) (hdst : o.dst = none) (k : wpList P ops Q rest a w') : wpList P ops Q (o :: rest) a w := by
  unfold wpList
  rw [if_pos (by simp [Region.wanted, hg])]
  left
  unfold Oper.wp
  rw [hx, Oper.upon_skip, hdst]
  exact k

inductive ResV (P : Program) (w : World) (E : Env) : List ResultVar → List Value → Prop where
  | nil : ResV P w E [] []
  | tmp {t : Nat} {v : Value} {rs : List ResultVar} {vs : List Value} (h : look E t = some v) (r : ResV P w E rs vs) : ResV P w E (.tmp t :: rs) (v :: vs)
  | cell {t ty : Nat} {ad : Addr} {v : Value} {rs : List ResultVar} {vs : List Value} (h : look E t = some (.pointer (some ad))) (hl : (loadVar ty ad).run P w = .ok v w) (r : ResV P w E rs vs) : ResV P w E (.cell t ty :: rs) (v :: vs)
def resOne (tmps : Array Value) : ResultVar → Sem Value
  | .tmp t => pure (tmps.getD t undef)
  | .cell x t => do loadVar t (← asAddr (tmps.getD x undef))
theorem run_mapM_res {rs : List ResultVar} {vs : List Value} (hf : Fits N E a) (h : ResV P w E rs vs) : (rs.mapM (resOne a.tmps)).run P w = .ok vs w := by
  induction h with
  | nil => simp
  | @tmp t v rs vs h r ih =>
    have := hf.has _ _ h
    have e1 : (resOne a.tmps (.tmp t)).run P w = .ok v w := by simp [resOne, Array.getD_eq_getD_getElem?, this]
    rw [List.mapM_cons]
    simp only [Sem.run_bind, e1, ih, Result.andThen, Sem.run_pure]
  | @cell t ty ad v rs vs h hl r ih =>
    have := hf.has _ _ h
    have e1 : (resOne a.tmps (.cell t ty)).run P w = .ok v w := by simp [resOne, Array.getD_eq_getD_getElem?, this, asAddr, hl, Result.andThen]
    rw [List.mapM_cons]
    simp only [Sem.run_bind, e1, ih, Result.andThen, Sem.run_pure]
def tup : List Value → Value
  | [v] => v
  | vs => .tuple vs.toArray
theorem post_of {fn : Func} {R : Ending → World → Prop} {rs : List ResultVar} {vs : List Value} (hr : fn.results = rs.toArray) (hf : Fits N E a) (h : ResV P w E rs vs) (hR : R (.returned (tup vs)) w) :
    a.defers = [] ∧ ∃ v, (results fn a.tmps).run P w = .ok v w ∧ R (.returned v) w := by
  refine ⟨hf.nodef, _, ?_, hR⟩
  have hm := run_mapM_res hf h
  have hu : results fn a.tmps = (do
      let vs ← fn.results.mapM (resOne a.tmps)
      pure (if h : vs.size = 1 then vs[0] else .tuple vs)) := rfl
  rw [hu, hr, List.mapM_toArray]
  simp only [Sem.run_bind, Sem.run_map, hm, Result.andThen, Sem.run_pure]
  match vs with
  | [] => simp [tup]
  | [v] => simp [tup]
  | u :: v :: vs => simp [tup]
theorem post_ret {fn : Func} {R : Ending → World → Prop} {rs : List ResultVar} {vs : List Value} (hr : fn.results = rs.toArray) (hf : Fits N E a) (h : ResV P w E rs vs) (hR : R (.returned (tup vs)) w) : bodyPost P fn R .ret a w := post_of hr hf h hR
theorem post_end {fn : Func} {R : Ending → World → Prop} {rs : List ResultVar} {vs : List Value} (hr : fn.results = rs.toArray) (hf : Fits N E a) (h : ResV P w E rs vs) (hR : R (.returned (tup vs)) w) : bodyPost P fn R .normal a w := post_of hr hf h hR
end
end Go.Dk
