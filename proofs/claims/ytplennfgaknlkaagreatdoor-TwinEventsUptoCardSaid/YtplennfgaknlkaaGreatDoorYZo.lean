/-
  Walks by evaluation: operations put together. Over any program.
  Walks by evaluation: calls. Over any program.
  Walks by evaluation: calls, and operations as a whole. Over any program.
  Walks by evaluation: regions. Over any program.
  Walks by evaluation: regions that draw their order. Over any program.
  Walks by evaluation: code. Over any program.
  Walks by evaluation: functions. Over any program.
  Walks by evaluation, calls and loops with them: what a whole run makes of abstract values. Over any program.
  Walks by evaluation: whole runs are right. Over any program.
  Walks by evalu
-/
import Derived.Test.YtplennfgaknlkaaGreatDoorYRw
import Derived.Test.YtplennfgaknlkaaGreatDoorSeat
section
namespace Go.Rk
open Go.RowKit Go.Dm Go.Dk
variable {τ : Nat → Type}
section
variable {ρ : Type} {X : Cx τ} {w0 w w' : World} {h0 h H : Fz} {F : List Nat} {o : Oper} {E : EnvX τ} {L L2 : Hp τ} {ν ν' : Vn τ} {φ φ' : Nat → List Nat} {nid nid' : Nat} {K : Nx τ ρ} {r : ρ} {v : XV τ} {U : Hp τ} {tch : List Nat} {g : List (XV τ)}
variable {a : Act} {x y z : Operand} {t' t ty u' : Nat} {dst : Option Nat} {p : String} {af : Array Edge} {gd : Option (Nat × Bool)}
theorem szE_ok {te : TypeId} {e : Ty} (k : szE X te e = true) : szO X.P te = some (ets X.G e).length ∧ 0 < (ets X.G e).length := by
  unfold szE at k
  split at k
  · rename_i n hn
    simp only [Bool.and_eq_true, Nat.beq_eq, Nat.blt_eq] at k
    obtain ⟨rfl, h⟩ := k
    exact ⟨hn, h⟩
  · cases k
theorem bc_t {α : Type} {b : Bool} {x : Option α} {r : α} (e : bc b x none = some r) : b = true ∧ x = some r := by
  cases b with
  | false => cases e
  | true => exact ⟨rfl, e⟩
theorem bc_f {α : Type} {b : Bool} {x : Option α} {r : α} (e : bc b none x = some r) : b = false ∧ x = some r := by
  cases b with
  | false => exact ⟨rfl, e⟩
  | true => cases e
theorem slice_does {lo hi : Option Operand} {te : Nat} {e : Ty} {c : CV τ} {l s : List (e.den τ)} {ids : List Nat} (hu : X.P.underlying t' = some (.slice te)) (hx : evC E x = some c) (hs : sliO L c = some ⟨e, l, U, ids⟩) (hsz : szO X.P te = some (ets X.G e).length) (i j : Nat) (hij : i ≤ j) (hj : j ≤ l.length) (hsub : s = (l.take j).drop i)
    (hlo : ∀ {a : Act} {Ea : Env} {N : Nat} {L2 : Hp τ} {ν h φ} {w : World} {ad : Option Addr} {n cp : Nat}, Fits N Ea a → (∀ t, Dk.look Ea t = a.tmps[t]?) → EnvOn X h ν a (rdO (.slice t' x lo hi none)) E → evl Ea x = some (.slice ad n cp) → Mem X.P X.G w0 h0 F L2 w ν h φ → n = l.length → l.length ≤ cp →
      (execOp a.eval ⟨dst, .slice t' x lo hi none, t, p, af, gd⟩).run X.P w = .ok (.value (.slice (if cp = i then ad else ad.map (·.add (i * (ets X.G e).length))) (j - i) (cp - i))) w)
    (k : K (.c (.sl e s)) [] U ids nid = some r) : Does X w0 h0 F ⟨dst, .slice t' x lo hi none, t, p, af, gd⟩ E L nid K r := by
  refine ⟨_, _, _, _, _, k, Nat.le_refl _, (fun _ h => by cases h), fun L2 ν h φ a w next Q hd M hE ha hn k => ?_⟩
  obtain ⟨Ea, hf, hl'⟩ := envA a hd
  obtain ⟨vx, h1, h2⟩ := evC_of hl' (hE.op (by simp [Op.operands])) hx
  obtain ⟨h', φ', M', hle, hrp⟩ := sli_ok M hs ha h2
  have hform : ∃ ad n cp, vx = .slice ad n cp := by cases hrp; exact ⟨_, _, _, rfl⟩
  obtain ⟨ad, n, cp, rfl⟩ := hform
  obtain ⟨hn1, hn2, hsub'⟩ := sub_rp hrp hij hj
  have hexec := hlo hf hl' hE h1 M hn1 hn2
  subst hsub
  exact wp_val hexec (k ν h' φ' w _ M' (Vn.le.refl _) hle (Fresh.refl _ _ _) hsub')
theorem slice3 {te : Nat} {e : Ty} {c : CV τ} {l s : List (e.den τ)} {i j : Int} {ids : List Nat} (hu : X.P.underlying t' = some (.slice te)) (hx : evC E x = some c) (hs : sliO L c = some ⟨e, l, U, ids⟩) (hsz : szO X.P te = some (ets X.G e).length) (hy : evC E y = some (.i i)) (hz : evC E z = some (.i j)) (hr : lSub l i j = some s)
    (k : K (.c (.sl e s)) [] U ids nid = some r) : Does X w0 h0 F ⟨dst, .slice t' x (some y) (some z) none, t, p, af, gd⟩ E L nid K r := by
  unfold lSub at hr
  split at hr
  · rename_i hb
    cases hr
    have ei : (i.toNat : Int) = i := by omega
    have ej : (j.toNat : Int) = j := by omega
    refine slice_does hu hx hs hsz i.toNat j.toNat (by omega) (by omega) rfl (fun {a Ea N L2 ν h φ w ad n cp} hf hl hE hvx M hn hcp => ?_) k
    obtain ⟨vy, h1, h2⟩ := evC_of hl (hE.op (by simp [Op.operands])) hy
    obtain ⟨vz, h3, h4⟩ := evC_of hl (hE.op (by simp [Op.operands])) hz
    obtain rfl : vy = _ := h2
    obtain rfl : vz = _ := h4
    refine ex_sliceSub hu (fun w => ?_) hf hvx h1 h3
    have := (run_slice3 (w := w) (ad := ad) hu (szO_ok hsz) (show i.toNat ≤ j.toNat by omega) (show j.toNat ≤ n by omega) (show n ≤ cp by omega)).1
    rwa [ei, ej] at this
  · cases hr
theorem slice1 {te : Nat} {e : Ty} {c : CV τ} {l s : List (e.den τ)} {i : Int} {ids : List Nat} (hu : X.P.underlying t' = some (.slice te)) (hx : evC E x = some c) (hs : sliO L c = some ⟨e, l, U, ids⟩) (hsz : szO X.P te = some (ets X.G e).length) (hy : evC E y = some (.i i)) (hr : lFrom l i = some s)
    (k : K (.c (.sl e s)) [] U ids nid = some r) : Does X w0 h0 F ⟨dst, .slice t' x (some y) none none, t, p, af, gd⟩ E L nid K r := by
  unfold lFrom at hr
  split at hr
  · rename_i hb
    cases hr
    have ei : (i.toNat : Int) = i := by omega
    refine slice_does hu hx hs hsz i.toNat l.length (by omega) (Nat.le_refl _) (by rw [List.take_length]) (fun {a Ea N L2 ν h φ w ad n cp} hf hl hE hvx M hn hcp => ?_) k
    obtain ⟨vy, h1, h2⟩ := evC_of hl (hE.op (by simp [Op.operands])) hy
    obtain rfl : vy = _ := h2
    refine ex_sliceFrom hu (fun w => ?_) hf hvx h1
    have := (run_slice3 (w := w) (ad := ad) hu (szO_ok hsz) (show i.toNat ≤ l.length by omega) (show l.length ≤ n by omega) (show n ≤ cp by omega)).2.2 hn.symm
    rwa [ei] at this
  · cases hr
theorem slice2 {te : Nat} {e : Ty} {c : CV τ} {l s : List (e.den τ)} {j : Int} {ids : List Nat} (hu : X.P.underlying t' = some (.slice te)) (hx : evC E x = some c) (hs : sliO L c = some ⟨e, l, U, ids⟩) (hsz : szO X.P te = some (ets X.G e).length) (hz : evC E z = some (.i j)) (hr : lTo l j = some s)
    (k : K (.c (.sl e s)) [] U ids nid = some r) : Does X w0 h0 F ⟨dst, .slice t' x none (some z) none, t, p, af, gd⟩ E L nid K r := by
  unfold lTo at hr
  split at hr
  · rename_i hb
    cases hr
    have ej : (j.toNat : Int) = j := by omega
    refine slice_does hu hx hs hsz 0 j.toNat (by omega) (by omega) rfl (fun {a Ea N L2 ν h φ w ad n cp} hf hl hE hvx M hn hcp => ?_) k
    obtain ⟨vz, h3, h4⟩ := evC_of hl (hE.op (by simp [Op.operands])) hz
    obtain rfl : vz = _ := h4
    refine ex_sliceTo hu (fun w => ?_) hf hvx h3
    have := (run_slice3 (w := w) (ad := ad) hu (szO_ok hsz) (show 0 ≤ j.toNat by omega) (show j.toNat ≤ n by omega) (show n ≤ cp by omega)).2.1 rfl
    rwa [ej] at this
  · cases hr
theorem Mem.drew (M : Mem X.P X.G w0 h0 F L w ν h φ) : Mem X.P X.G w0 h0 F L w.drew ν h φ := M.grow ⟨rfl, rfl, rfl, Nat.le_refl _, fun _ _ => rfl⟩
theorem Mem.newFz (M : Mem X.P X.G w0 h0 F L w ν h φ) (o : Obj) : Mem X.P X.G w0 h0 F L (w.alloc o) ν (fun b => if b = w.heap.size then some o else h b) φ ∧ h.le (fun b => if b = w.heap.size then some o else h b) := by
  have hle : h.le (fun b => if b = w.heap.size then some o else h b) := by
    intro b o' e
    have := M.in_lt (b := b) (by rw [e]; simp)
    show (if b = w.heap.size then some o else h b) = _
    rw [if_neg (by omega)]; exact e
  refine ⟨?_, hle⟩
  refine M.upd [] (fun _ _ => rfl) (fun _ _ => rfl) (Vn.le.refl _) hle rfl rfl rfl (by simp) (fun b hb _ => heap_push o hb) (fun b o' h1 h2 => ?_) (fun b h1 h2 => ?_) (fun i hi => by cases hi) (fun i hi => by cases hi) (fun i hi => by cases hi)
  · split at h2
    · rename_i e
      cases h2
      subst e
      exact heap_new _
    · rw [h1] at h2; cases h2
  · split at h2
    · rename_i e; subst e; exact .inr (Nat.le_refl _)
    · exact (h2 h1).elim
theorem bytes_ok {te : Nat} {l : Str} (hx : evC E x = some (.s l)) (hs : X.P.underlying ty = some .string) (hd' : X.P.underlying t' = some (.slice te)) (he : X.P.underlying te = some (.int .u8)) (k : K (.c (.sl .u8 l)) [] [] [] nid = some r) :
    Does X w0 h0 F ⟨dst, .convert ty t' x, t, p, af, gd⟩ E L nid K r := by
  refine ⟨_, _, _, _, _, k, Nat.le_refl _, (fun _ h => by cases h), fun L2 ν h φ a w next Q hd M hE ha hn k => ?_⟩
  obtain ⟨Ea, hf, hl'⟩ := envA a hd
  obtain ⟨vx, h1, h2⟩ := evC_of hl' (hE.op (by simp [Op.operands])) hx
  obtain rfl : vx = _ := h2
  have hr := run_bytes_of_string (P := X.P) w ty t' te ⟨l.toArray⟩ hs hd' he
  have hsz : (⟨l.toArray⟩ : ByteArray).size = l.length := rfl
  rw [hsz] at hr
  generalize hc : grownCap w l.length 0 te = c at hr
  have hcl : l.length ≤ c := by rw [← hc]; exact grownCap_ge _ _ _ _
  obtain ⟨M1, hle⟩ := M.drew.newFz (.cells (bytesRow ⟨l.toArray⟩ c) te ((bytesRow ⟨l.toArray⟩ c).size, (bytesRow ⟨l.toArray⟩ c).size + 1))
  refine wp_val (u := .slice (some ⟨w.drew.heap.size, 0, none⟩) l.length c) (by simp only [execOp]; rw [hf.ev h1]; simp only [Sem.run_bind, hr, Result.andThen_ok, Sem.run_pure]; rfl) (k ν _ φ _ _ M1 (Vn.le.refl _) hle (Fresh.refl _ _ _) ?_)
  refine .sl .u8 l _ c (cells (fun b => [byte b]) l) hcl (.inr ⟨w.drew.heap.size, 0, _, te, _, rfl, if_pos rfl, fun i v hv => ?_⟩) (u8_cells rfl)
  have hce : ∀ m : Str, cells (fun b => [byte b]) m = m.map byte := fun m => by
    unfold cells
    induction m with
    | nil => rfl
    | cons x m ih => rw [List.flatMap_cons, ih]; rfl
  rw [hce, List.getElem?_map] at hv
  obtain ⟨x, hx1, hx2⟩ := Option.map_eq_some_iff.1 hv
  have hil : i < l.length := (List.getElem?_eq_some_iff.1 hx1).1
  rw [Nat.zero_add]
  unfold bytesRow
  rw [Array.getElem?_append_left (by simpa using hil), Array.getElem?_map]
  have : (⟨l.toArray⟩ : ByteArray).data[i]? = some x := by simpa using hx1
  rw [this, ← hx2]
  rfl
theorem u8_row : ∀ {l : List UInt8} {vs : List Value}, RpR X.P X.G h .u8 l vs → vs = cells (fun b => [byte b]) l
  | [], vs, e => by cases e; rfl
  | b :: l, _, .cons _ _ _ us ws h1 h2 => by
    have h3 := u8_row h2
    cases h1 with
    | cons _ _ _ v vs h4 h5 =>
      cases h5
      cases h4
      rw [h3]; rfl
theorem str_ok {te : Nat} {c : CV τ} {l : Str} {ids : List Nat} (hx : evC E x = some c) (hd' : X.P.underlying t' = some .string) (hs : X.P.underlying ty = some (.slice te)) (he : X.P.underlying te = some (.int .u8)) (hr : rowO L .u8 c = some (l, ids)) (k : K (.c (.s l)) [] [] ids nid = some r) :
    Does X w0 h0 F ⟨dst, .convert ty t' x, t, p, af, gd⟩ E L nid K r := by
  refine does_pure k fun L2 ν h φ a w hd M hE ha => ?_
  obtain ⟨Ea, hf, hl'⟩ := envA a hd
  obtain ⟨vx, h1, h2⟩ := evC_of hl' (hE.op (by simp [Op.operands])) hx
  obtain ⟨ad, cp, cs, rfl, hc, hsee, hrr, _⟩ := rowO_ok M hr ha h2
  rw [u8_row hrr] at hsee
  exact ⟨_, ex_conv_bs (fun _ => rfl) hd' hs he hsee hf h1, rfl⟩
theorem sAt_does {l : Str} {i : Int} {c : UInt8} (hu : X.P.underlying t' = some .string) (hx : evC E x = some (.s l)) (hy : evC E y = some (.i i)) (hr : sAt l i = some c) (k : K (.c (.u8 c)) [] [] [] nid = some r) : Does X w0 h0 F ⟨dst, .index t' x y, t, p, af, gd⟩ E L nid K r := by
  refine does_pure k fun L2 ν h φ a w hd M hE ha => ?_
  obtain ⟨Ea, hf, hl'⟩ := envA a hd
  obtain ⟨vx, h1, h2⟩ := evC_of hl' (hE.op (by simp [Op.operands])) hx
  obtain ⟨vy, h3, h4⟩ := evC_of hl' (hE.op (by simp [Op.operands])) hy
  obtain rfl : vx = _ := h2
  obtain rfl : vy = _ := h4
  exact ⟨_, ex_index hu hf h1 h3 hr, rfl⟩
theorem sSlice_does {lo hi : Option Operand} {l s : Str} (hx : evC E x = some (.s l))
    (hrun : ∀ {a : Act} {Ea : Env} {N : Nat} {ν h} {w : World}, Fits N Ea a → (∀ t, Dk.look Ea t = a.tmps[t]?) → EnvOn X h ν a (rdO (.slice t' x lo hi none)) E → evl Ea x = some (str l) → (execOp a.eval ⟨dst, .slice t' x lo hi none, t, p, af, gd⟩).run X.P w = .ok (.value (str s)) w)
    (k : K (.c (.s s)) [] [] [] nid = some r) : Does X w0 h0 F ⟨dst, .slice t' x lo hi none, t, p, af, gd⟩ E L nid K r := by
  refine does_pure k fun L2 ν h φ a w hd M hE ha => ?_
  obtain ⟨Ea, hf, hl'⟩ := envA a hd
  obtain ⟨vx, h1, h2⟩ := evC_of hl' (hE.op (by simp [Op.operands])) hx
  obtain rfl : vx = _ := h2
  exact ⟨_, hrun hf hl' hE h1, rfl⟩
theorem castT_self {t : Ty} (x : t.den τ) : castT (t' := t) x = some x := dif_pos rfl
theorem splice1 (V ws : List Value) (i sz o : Nat) (h1 : o + ws.length ≤ sz) (h2 : i + sz ≤ V.length) :
    V.take i ++ (((V.drop i).take sz).take o ++ ws ++ ((V.drop i).take sz).drop (o + ws.length)) ++ V.drop (i + sz) = V.take (i + o) ++ ws ++ V.drop (i + o + ws.length) := by
  have e1 : V.take (i + o) = V.take i ++ (V.drop i).take o := by rw [List.take_add]
  have e2 : ((V.drop i).take sz).take o = (V.drop i).take o := by rw [List.take_take, Nat.min_eq_left (by omega)]
  have e3 : V.drop (i + o + ws.length) = ((V.drop i).take sz).drop (o + ws.length) ++ V.drop (i + sz) := by
    have h3 : V.drop i = (V.drop i).take sz ++ V.drop (i + sz) := by rw [← List.drop_drop, List.take_append_drop]
    have h4 : V.drop (i + o + ws.length) = (V.drop i).drop (o + ws.length) := by rw [List.drop_drop, Nat.add_assoc]
    rw [h4]
    conv => lhs; rw [h3]
    rw [List.drop_append]
    have h5 : ((V.drop i).take sz).length = sz := by rw [List.length_take, List.length_drop]; omega
    rw [h5, show o + ws.length - sz = 0 by omega, List.drop_zero]
  rw [e1, e2, e3]
  simp only [List.append_assoc]
theorem splice2 (C ws : List Value) (A N : Nat) (h1 : A + ws.length ≤ N) (h2 : N ≤ C.length) :
    (C.take A ++ ws ++ C.drop (A + ws.length)).take N = (C.take N).take A ++ ws ++ (C.take N).drop (A + ws.length) := by
  have h3 : (C.take A ++ ws).length = A + ws.length := by rw [List.length_append, List.length_take]; omega
  rw [List.take_append, List.take_of_length_le (by omega), h3, List.take_take, Nat.min_eq_left (by omega), List.drop_take]
theorem storeR_ok {A : XV τ} {vs cs : List (CV τ)} {n id o k te : Nat} {m : Int} {ty e : Ty} {z : ty.den τ} {xs l : List (e.den τ)} {q : DP τ (ets X.G ty)} {ids : List Nat} {z' : e.den τ} (hA : evX E y = some A) (hc : cellsX A = some vs) (ht : szO X.P t' = some n) (hn : vs.length = n) (hx : evC E x = some (.oe id k m ty z o)) (hl : lk L id = .row te e xs k)
    (hp : putL (cellsT X.G ty z) o vs = some cs) (hq : lokL (lok X.G L depth) (ets X.G ty) cs = some (q, ids)) (hz : castT (ect X.G ty q) = some z') (hU : freeze L ids = some U) (hid : mem ids id = false) (hs : lSet xs m z' = some l)
    (ek : K .un [] ((id, .row te e l nid) :: U) (id :: ids) (nid + 1) = some r) : Does X w0 h0 F ⟨dst, .store t' x y, t, p, af, gd⟩ E L nid K r := by
  refine ⟨_, _, _, _, _, ek, Nat.le_succ _, (fun _ h => by cases h), fun L2 ν h φ a w next Q hd M hE ha hfr kk => ?_⟩
  have hn' := hfr nid (Nat.le_refl _) (Nat.lt_succ_self _)
  obtain ⟨Ea, hf, hl'⟩ := envA a hd
  obtain ⟨u, h1, h2⟩ := evC_of hl' (hE.op (by simp [Op.operands])) hx
  obtain ⟨ws, g1, g2, _⟩ := cellsX_ok hc (ev_ok hd (hE.op (by simp [Op.operands])) hA)
  obtain ⟨b, n', cp, q0, xs', u', hν, hνk, hlz, rfl⟩ := h2
  have hr := M.res id
  rw [ha id (List.mem_cons_self ..), hl] at hr
  obtain ⟨v0, q1, vsr, u1, c1, c2, c3, c4, c5⟩ := hr
  rw [hν] at c1
  cases c1
  rw [hνk] at c5
  injection c5 with c5
  injection c5 with _ c5
  injection c5 with c5
  cases c5
  rw [castT_self] at hz
  cases hz
  have hle := M.lend_le ids
  obtain ⟨hz1, hm0⟩ := lAt_some hlz
  obtain ⟨d1, d2⟩ := c4.get hz1
  obtain ⟨f1, f2⟩ := putL_ok (avs_ok (ν := ν) d1) g2 hp
  have ha2 : ∀ i ∈ ids, lk L2 i = lk L i := fun i hi => ha i (List.mem_cons_of_mem _ hi)
  have f3 := lokL_ok (A := LookAt L2 L φ (lend h w (fps φ ids)) w) (fun _ _ => LookAt.app) (lok_ok M hle depth) hq (M.look ha2) f2
  have f4 := f3
  rw [← edt_ect X.G ty q] at f4
  unfold lSet at hs
  split at hs
  · rename_i hb
    cases hs
    have hset := RpR.set (c4.le hle) (i := m.toNat) (by omega) f4
    obtain ⟨hlen, ⟨e1, _⟩ | ⟨g, cap, cur, e1, _, hg, hnc, hcm, hcs, htk⟩⟩ := c3
    · cases e1
    · cases e1
      have husl : ((vsr.drop (m.toNat * (ets X.G ty).length)).take (ets X.G ty).length).length = (ets X.G ty).length := by rw [List.length_take, List.length_drop]; omega
      have hcl : cur.toList.length = cp * (ets X.G ty).length := by simpa using hcs
      have hN : xs'.length * (ets X.G ty).length ≤ cur.toList.length := by rw [hcl]; exact Nat.mul_le_mul_right _ hnc
      rw [husl] at f1
      have hsp := splice1 vsr ws (m.toNat * (ets X.G ty).length) (ets X.G ty).length o f1 d2
      rw [hsp] at hset
      have hsz2 : m.toNat * (ets X.G ty).length + o + ws.length ≤ cur.size := by
        have : cur.toList.length = cur.size := by simp
        omega
      have hrun := run_storeV (X := X) (dst := dst) (t := t) (p := p) (af := af) (gd := gd) (hf.ev h1) g1 (szO_ok ht) (by rw [g2.len, hn]) hg hsz2 g2.one
      have M1 := M.freeze hU ha2
      have hnin : id ∉ ids := fun hi => by rw [mem_any.2 hi] at hid; cases hid
      have hne : id ≠ nid := by rintro rfl; rw [hn'] at hν; cases hν
      refine wp_skp hrun (kk (up1 ν nid (some (undef, some ⟨ty, _⟩))) _ _ _ undef (M1.turn (i := id) (b := b) (.row te ty _ nid) (by rw [offs1_out hnin, c2]; rfl) (up1_le hn') rfl rfl rfl (by simp [World.setRow]) (fun j hj => setRow_other w b j _ hj) ⟨_, q0, _, undef, (up1_ne ν _ hne).trans hν, rfl, ?_, hset, up1_at _ _ _⟩) (up1_le hn') hle fresh_one rfl)
      have hlen2 := hset.len
      refine ⟨hlen2, .inr ⟨b, cp, _, by simp, Nat.zero_le _, setRow_heap w b cur _ te (0, 0) hg, by simpa using hnc, hcm, ?_, ?_⟩⟩
      · simp only [List.size_toArray, List.length_append, List.length_take, List.length_drop]
        omega
      · have h7 := splice2 cur.toList ws (m.toNat * (ets X.G ty).length + o) (xs'.length * (ets X.G ty).length) (by omega) hN
        rw [htk] at h7
        simpa using h7
  · cases hs
theorem fa_does {i f ft id ko : Nat} {k0 : Hp τ → List Nat → Nat → Option ρ} (hfl : fldO X.P t' i = some (f, ft)) (hx : evC E x = some (.pt id ko)) (hk : ∀ U l nid, k0 U l nid = K (.c (.pt id (ko + f))) [] U l nid) (e : ptK X L nid id k0 = some r) : Does X w0 h0 F ⟨dst, .fieldAddr t' x i, t, p, af, gd⟩ E L nid K r := by
  obtain ⟨U, nid', h1, h2, h3⟩ := ptK_ok (w0 := w0) (h0 := h0) (F := F) e
  rw [hk] at h1
  refine ⟨_, _, _, _, _, h1, h2, (fun _ h => by cases h), fun L2 ν h φ a w next Q hd M hE ha hn k => ?_⟩
  obtain ⟨Ea, hf, hl'⟩ := envA a hd
  obtain ⟨u, g1, g2⟩ := evC_of hl' (hE.op (by simp [Op.operands])) hx
  obtain ⟨ν', φ', b, q, M', hle, hfr, hν⟩ := h3 L2 ν h φ w M (ha id (by simp)) hn
  obtain ⟨u', q', g3, rfl, _⟩ := g2
  rw [hν] at g3
  cases g3
  refine wp_val (u := ptr b (0 + ko + f)) ?_ (k ν' h φ' w _ M' hle (Fz.le.refl _) hfr ⟨some ⟨b, 0, none⟩, q, hle _ _ hν, by simp [shiftV, Nat.add_assoc], fun _ => ⟨b, rfl⟩⟩)
  simp only [execOp]; rw [hf.ev g1]; simp [shiftV, run_fieldAt hfl, Result.andThen]
theorem nc_does {id k : Nat} {k0 : Hp τ → List Nat → Nat → Option ρ} (hx : evC E x = some (.pt id k)) (hk : ∀ U l nid, k0 U l nid = K (.c (.pt id k)) [] U l nid) (e : ptK X L nid id k0 = some r) : Does X w0 h0 F ⟨dst, .nilCheck x, t, p, af, gd⟩ E L nid K r := by
  obtain ⟨U, nid', h1, h2, h3⟩ := ptK_ok (w0 := w0) (h0 := h0) (F := F) e
  rw [hk] at h1
  refine ⟨_, _, _, _, _, h1, h2, (fun _ h => by cases h), fun L2 ν h φ a w next Q hd M hE ha hn k => ?_⟩
  obtain ⟨Ea, hf, hl'⟩ := envA a hd
  obtain ⟨u, g1, g2⟩ := evC_of hl' (hE.op (by simp [Op.operands])) hx
  obtain ⟨ν', φ', b, q, M', hle, hfr, hν⟩ := h3 L2 ν h φ w M (ha id (by simp)) hn
  obtain ⟨u', q', g3, rfl, g4⟩ := g2
  rw [hν] at g3
  cases g3
  exact wp_val (ex_nilCheck hf g1) (k ν' h φ' w _ M' hle (Fz.le.refl _) hfr ⟨_, _, hle _ _ hν, rfl, fun _ => ⟨b, rfl⟩⟩)
theorem en_does {bo : BinOp} {e' id : Nat} {k0 : Bool → Hp τ → List Nat → Nat → Option ρ} (hu : X.P.underlying t' = some (.pointer e')) (hx : evX E x = some (.c (.pt id 0))) (hy : evX E y = some (.c .nl)) (hk : ∀ z U l nid, k0 z U l nid = match okX (eqO bo z) with
      | some v => K v [] U l nid
      | none => none) (e : nlK X L nid id k0 = some r) : Does X w0 h0 F ⟨dst, .binOp bo t' x y ty, t, p, af, gd⟩ E L nid K r := by
  obtain ⟨z, U, nid', h1, h2, h3⟩ := nlK_ok (w0 := w0) (h0 := h0) (F := F) e
  rw [hk] at h1
  split at h1
  · rename_i v hv
    obtain ⟨b, hb, rfl⟩ := okX_ok hv
    refine ⟨_, _, _, _, _, h1, h2, (fun _ h => by cases h), fun L2 ν h φ a w next Q hd M hE ha hn k => ?_⟩
    obtain ⟨Ea, hf, hl'⟩ := envA a hd
    obtain ⟨u, g1, g2⟩ := evl_of hl' (hE.op (by simp [Op.operands])) hx rfl
    obtain ⟨uy, g3, g4⟩ := evl_of hl' (hE.op (by simp [Op.operands])) hy rfl
    obtain rfl : uy = _ := g4
    obtain ⟨ν', φ', up, q, M', hle, hfr, hν, hz1, hz0⟩ := h3 L2 ν h φ w M (ha id (by simp)) hn
    obtain ⟨u', q', g5, rfl, _⟩ := g2
    rw [hν] at g5
    cases g5
    have fin : ∀ {vb : Bool}, (execOp a.eval ⟨dst, .binOp bo t' x y ty, t, p, af, gd⟩).run X.P w = .ok (.value (.bool vb)) w → vb = b → (⟨dst, .binOp bo t' x y ty, t, p, af, gd⟩ : Oper).wp X.P a w next Q := by
      intro vb hx e
      subst e
      exact wp_val hx (k ν' h φ' w _ M' hle (Fz.le.refl _) hfr rfl)
    cases z with
    | true =>
      rw [hz1 rfl] at g1
      cases bo <;> first | (cases hb; done) | skip
      all_goals cases hb
      · exact fin (ex_eql_nn hu hf g1 g3) rfl
      · exact fin (ex_neq_nn hu hf g1 g3) rfl
    | false =>
      obtain ⟨bb, rfl⟩ := hz0 rfl
      cases bo <;> first | (cases hb; done) | skip
      all_goals cases hb
      · exact fin (ex_eql_pn hu hf g1 g3) rfl
      · exact fin (ex_neq_pn hu hf g1 g3) rfl
  · cases h1
theorem partZ_run {te : Nat} {e : Ty} {xs s : List (e.den τ)} {lo hi : Option Operand} {i : Nat} (hu : X.P.underlying t' = some (.slice te)) (hsz : szO X.P te = some (ets X.G e).length) (k : partZ E e xs lo hi = some (i, s)) : ∃ j, i ≤ j ∧ j ≤ xs.length ∧ s = (xs.take j).drop i ∧
    ∀ {a : Act} {Ea : Env} {N : Nat} {ν h} {w : World} {ad : Option Addr} {n cp : Nat}, Fits N Ea a → (∀ t, Dk.look Ea t = a.tmps[t]?) → EnvOn X h ν a (rdO (.slice t' x lo hi none)) E → evl Ea x = some (.slice ad n cp) → n = xs.length → xs.length ≤ cp →
      (execOp a.eval ⟨dst, .slice t' x lo hi none, t, p, af, gd⟩).run X.P w = .ok (.value (.slice (if cp = i then ad else ad.map (·.add (i * (ets X.G e).length))) (j - i) (cp - i))) w := by
  unfold partZ at k
  split at k
  · split at k
    · rename_i i hy
      split at k
      · rename_i j hz
        split at k
        · rename_i s' hr
          cases k
          unfold lSub at hr
          split at hr
          · rename_i hb
            cases hr
            have ei : (i.toNat : Int) = i := by omega
            have ej : (j.toNat : Int) = j := by omega
            refine ⟨j.toNat, by omega, by omega, rfl, fun {a Ea N ν h w ad n cp} hf hl hE hvx hn hcp => ?_⟩
            obtain ⟨vy, h1, h2⟩ := evC_of hl (hE.op (by simp [Op.operands])) hy
            obtain ⟨vz, h3, h4⟩ := evC_of hl (hE.op (by simp [Op.operands])) hz
            obtain rfl : vy = _ := h2
            obtain rfl : vz = _ := h4
            refine ex_sliceSub hu (fun w => ?_) hf hvx h1 h3
            have := (run_slice3 (w := w) (ad := ad) hu (szO_ok hsz) (show i.toNat ≤ j.toNat by omega) (show j.toNat ≤ n by omega) (show n ≤ cp by omega)).1
            rwa [ei, ej] at this
          · cases hr
        · cases k
      · cases k
    · cases k
  · split at k
    · rename_i i hy
      split at k
      · rename_i s' hr
        cases k
        unfold lFrom at hr
        split at hr
        · rename_i hb
          cases hr
          have ei : (i.toNat : Int) = i := by omega
          refine ⟨xs.length, by omega, Nat.le_refl _, by rw [List.take_length], fun {a Ea N ν h w ad n cp} hf hl hE hvx hn hcp => ?_⟩
          obtain ⟨vy, h1, h2⟩ := evC_of hl (hE.op (by simp [Op.operands])) hy
          obtain rfl : vy = _ := h2
          refine ex_sliceFrom hu (fun w => ?_) hf hvx h1
          have := (run_slice3 (w := w) (ad := ad) hu (szO_ok hsz) (show i.toNat ≤ xs.length by omega) (show xs.length ≤ n by omega) (show n ≤ cp by omega)).2.2 hn.symm
          rwa [ei] at this
        · cases hr
      · cases k
    · cases k
  · split at k
    · rename_i j hz
      split at k
      · rename_i s' hr
        cases k
        unfold lTo at hr
        split at hr
        · rename_i hb
          cases hr
          have ej : (j.toNat : Int) = j := by omega
          refine ⟨j.toNat, by omega, by omega, rfl, fun {a Ea N ν h w ad n cp} hf hl hE hvx hn hcp => ?_⟩
          obtain ⟨vz, h3, h4⟩ := evC_of hl (hE.op (by simp [Op.operands])) hz
          obtain rfl : vz = _ := h4
          refine ex_sliceTo hu (fun w => ?_) hf hvx h3
          have := (run_slice3 (w := w) (ad := ad) hu (szO_ok hsz) (show 0 ≤ j.toNat by omega) (show j.toNat ≤ n by omega) (show n ≤ cp by omega)).2.1 rfl
          rwa [ej] at this
        · cases hr
      · cases k
    · cases k
  · cases k
theorem part_does {te te' id kk i : Nat} {e' : Ty} {xs s : List (e'.den τ)} {lo hi : Option Operand} (hu : X.P.underlying t' = some (.slice te)) (hx : evC E x = some (.os id)) (hlk : lk L id = .row te' e' xs kk) (hsz : szO X.P te = some (ets X.G e').length) (hp : partZ E e' xs lo hi = some (i, s))
    (e : K (.c (.os nid)) [] [(nid, .vw id kk e' i s)] [id] (nid + 1) = some r) : Does X w0 h0 F ⟨dst, .slice t' x lo hi none, t, p, af, gd⟩ E L nid K r := by
  obtain ⟨j, h1, h2, hs, hrun⟩ := partZ_run (X := X) (x := x) (dst := dst) (t := t) (p := p) (af := af) (gd := gd) hu hsz hp
  refine ⟨_, _, _, _, _, e, Nat.le_succ _, (fun _ h => by cases h), fun L2 ν h φ a w next Q hd M hE ha hfr kc => ?_⟩
  have hn := hfr nid (Nat.le_refl _) (Nat.lt_succ_self _)
  obtain ⟨Ea, hf, hl'⟩ := envA a hd
  obtain ⟨vx, g1, g2⟩ := evC_of hl' (hE.op (by simp [Op.operands])) hx
  obtain ⟨ad, n, cp, q, hν, rfl⟩ := g2
  have hres := M.res id
  rw [ha id (List.mem_singleton.2 rfl), hlk] at hres
  obtain ⟨v', q', vs, u, c1, c2, c3, c4, c5⟩ := hres
  rw [hν] at c1
  cases c1
  have hnl : n = xs.length ∧ n ≤ cp := by
    obtain ⟨_, ⟨e, hz⟩ | ⟨g, cap, cur, e, _, _, hc, _⟩⟩ := c3
    · cases e; exact ⟨hz.symm, Nat.le_refl _⟩
    · cases e; exact ⟨rfl, hc⟩
  have hexec := hrun (w := w) hf hl' hE g1 hnl.1 (by omega)
  have hsl : s.length = j - i := by rw [hs, List.length_drop, List.length_take]; omega
  have hadd := M.add hn (.vw id kk e' i s) (.slice (if cp = i then ad else ad.map (·.add (i * (ets X.G e').length))) (j - i) (cp - i), none) (fp := [])
    ⟨ad, n, cp, q, none, u, xs, _, _, (up1_le hn) _ _ hν, (up1_le hn) _ _ c5, by omega, by rw [hs]; congr 1; rw [← hs, hsl]; congr 1; omega, by rw [hsl], by omega, fun hne => by
      have : 0 < s.length := List.length_pos_iff.2 hne
      rw [if_neg (by omega)], rfl⟩ (fun b hb => by cases hb)
  exact wp_val hexec (kc _ h _ w _ hadd (up1_le hn) (Fz.le.refl _) fresh_one ⟨_, _, _, none, up1_at _ _ _, rfl⟩)
theorem vw_does {te : Nat} {c : CV τ} {id k : Nat} {l : Str} {lo hi' : Option Operand} (hu : X.P.underlying t' = some (.slice te)) (hx : evC E x = some c) (hv : vwO L c = some (id, k, l)) (hsz : szO X.P te = some (ets X.G .u8).length) (e : vwX E nid K id k l lo hi' = some r) :
    Does X w0 h0 F ⟨dst, .slice t' x lo hi' none, t, p, af, gd⟩ E L nid K r := by
  unfold vwO at hv
  split at hv
  · split at hv
    · rename_i te' e0 xs kk hlk
      split at hv
      · rename_i l' hc
        obtain ⟨rfl, rfl⟩ := castL_eq hc
        cases hv
        unfold vwX Rk.hi at e
        split at e
        · rename_i y z
          split at e
          · rename_i i hy
            split at e
            · rename_i j hz
              obtain ⟨s, hs, e⟩ := ob e
              have hs : lSub (α := Ty.den τ .u8) xs i j = some s := hs
              exact part_does hu hx hlk hsz (by unfold partZ; dsimp only; rw [hy]; dsimp only; rw [hz]; dsimp only; rw [hs]) e
            · cases e
          · cases e
        · rename_i y
          split at e
          · rename_i i hy
            obtain ⟨s, hs, e⟩ := ob e
            have hs : lFrom (α := Ty.den τ .u8) xs i = some s := hs
            exact part_does hu hx hlk hsz (by unfold partZ; dsimp only; rw [hy]; dsimp only; rw [hs]) e
          · cases e
        · rename_i z
          split at e
          · rename_i j hz
            obtain ⟨s, hs, e⟩ := ob e
            have hs : lTo (α := Ty.den τ .u8) xs j = some s := hs
            exact part_does hu hx hlk hsz (by unfold partZ; dsimp only; rw [hz]; dsimp only; rw [hs]) e
          · cases e
        · cases e
      · cases hv
    · cases hv
  · cases hv
theorem lenv_does {id i k0 te lo : Nat} {e : Ty} {xs : List (e.den τ)} (hx : evC E x = some (.os id)) (hl : lk L id = .vw i k0 e lo xs) (hu : elO X.P t' = some te) (k : K (.c (.i (xs.length : Int))) [] [] [id] nid = some r) :
    Does X w0 h0 F ⟨dst, .call ⟨.builtin .len, ⟨[x]⟩, ⟨[t']⟩⟩, t, p, af, gd⟩ E L nid K r := by
  refine does_pure k fun L2 ν h φ a w hd M hE ha => ?_
  obtain ⟨Ea, hf, hl'⟩ := envA a hd
  obtain ⟨vx, h1, h2⟩ := evC_of hl' (hE.op (by simp [Op.operands, Call.operands])) hx
  obtain ⟨ad, m, cp, q, hν, rfl⟩ := h2
  have hr := M.res id
  rw [ha id (List.mem_singleton.2 rfl), hl] at hr
  obtain ⟨a1, n1, c1, q1, q2, u1, ys1, a2, c2, g1, g2, g3, g4, g5, g6, g7, _⟩ := hr
  rw [hν] at g5
  cases g5
  exact ⟨_, ex_len_l (elO_ok hu) hf h1, rfl⟩
end
end Go.Rk
end
section
namespace Go.Rk
open Go.RowKit Go.Dm Go.Dk
variable {τ : Nat → Type}

section
variable (P : Program) (G : Sig τ) (h : Fz) (w : World)
def TrX : (t : Ty) → t.den τ → Value → List Nat → Prop
  | .st n, x, v, fp => ∃ vs, v = .agg ⟨vs⟩ ∧ TrL P G h w (G.fs n) (G.dtor n x) vs fp
  | .pr _ _, _, _, fp => fp = []
  | t, x, v, fp => Tr P G h w t x v fp
inductive TrXs : (ts : List Ty) → DP τ ts → List Value → List Nat → Prop
  | nil : TrXs [] () [] []
  | cons (t : Ty) (ts : List Ty) (p : DP τ (t :: ts)) (v : Value) (vs : List Value) (f f' : List Nat) (h1 : TrX P G h w t p.hd v f) (h2 : TrXs ts p.tl vs f') (hd : ∀ b ∈ f, b ∉ f') : TrXs (t :: ts) p (v :: vs) (f ++ f')
end
def retV : List Value → Value
  | [v] => v
  | vs => .tuple ⟨vs⟩
structure Left (h : Fz) (w : World) (fp : List Nat) (h' : Fz) (w' : World) (fp' : List Nat) : Prop where
  os : w'.os = w.os
  tape : w'.tape = w.tape
  output : w'.output = w.output
  size : w.heap.size ≤ w'.heap.size
  frame : ∀ b, b < w.heap.size → b ∉ fp → w'.heap[b]? = w.heap[b]?
  le : h.le h'
  on : h'.on w'
  new : ∀ b, h' b ≠ none → h b ≠ none ∨ b ∈ fp ∨ w.heap.size ≤ b
  own : ∀ b ∈ fp', h' b = none ∧ (b ∈ fp ∨ w.heap.size ≤ b)
def cellV (v : Value) : Nat → Value
  | 0 => v
  | i + 1 => match v with
    | .agg ⟨ws⟩ => ws.getD i undef
    | _ => undef
def bkV (vs : List Value) (j : Nat) : Value := cellV (vs.getD (j % 32) undef) (j / 32)
def COk (P : Program) (G : Sig τ) (f : FuncId) (k : Con τ) : Prop :=
  Callable P f ∧ ∀ (h : Fz) (w : World) (p : DP τ k.ps) (r : DP τ k.rs) (vs : List Value) (fp : List Nat), GlOk P G h → FpOk P G → h.on w → TrXs P G h w k.ps p vs fp → (∀ b ∈ fp, h b = none) → k.m p = some r →
    Calls P f vs.toArray w fun e w' => ∃ h' rs fp', e = .returned (retV (rs.take k.nr)) ∧ Left h w fp h' w' fp' ∧ TrXs P G h' w' k.rs r rs fp' ∧ rs.drop k.nr = k.bk.map (bkV vs)
section
variable {P : Program} {G : Sig τ} {w0 w w' : World} {h0 h h' H : Fz} {F : List Nat} {L L' L2 : Hp τ} {ν ν' : Vn τ} {φ φ' : Nat → List Nat}
theorem TrX.plain {t : Ty} {x : t.den τ} {v : Value} {fp : List Nat} (hp : Tr P G h w t x v fp) (h1 : ∀ n, t ≠ .st n) : TrX P G h w t x v fp := by
  cases t with
  | st n => exact (h1 n rfl).elim
  | pr a b => cases hp with | fz _ _ _ _ hr => cases hr
  | _ => exact hp
theorem res_st {n : Nat} {c : CV τ} : ∀ d, res G L d (.st n) c = none
  | 0 => rfl
  | d + 1 => by unfold res; dsimp only; unfold lok; rfl
theorem resX_ok (M : Mem P G w0 h0 F L2 w ν h φ) (hH : h.le H) {t : Ty} {A : XV τ} {x : t.den τ} {l m : List Nat} {v : Value} (k : resX G L t A = some (x, l, m)) (ha : ∀ i ∈ l, lk L2 i = lk L i) (hm : LookAt L2 L φ H w m) (hn : nod l = true) (hv : XOk P G h ν A v) : TrX P G H w t x v (fps φ l) := by
  unfold resX at k
  split at k
  · rename_i n cs
    split at k
    · rename_i q l' m' hq
      cases k
      obtain ⟨vs, rfl, hc⟩ := hv
      refine ⟨vs, rfl, ?_⟩
      rw [G.dc]
      exact resL_ok M (res_ok M hH depth) hq ha hm hn hc
    · cases k
  · rename_i c
    refine TrX.plain (res_ok M hH _ _ _ _ _ _ _ k ha hm hn hv) ?_
    rintro n rfl
    rw [res_st] at k; cases k
  · split at k
    · cases k; rfl
    · cases k
  · cases k
theorem resXs_ok (M : Mem P G w0 h0 F L2 w ν h φ) (hH : h.le H) : ∀ {ts : List Ty} {As : List (XV τ)} {p : DP τ ts} {l m : List Nat} {vs : List Value}, resXs G L ts As = some (p, l, m) → (∀ i ∈ l, lk L2 i = lk L i) → LookAt L2 L φ H w m → nod l = true →
    vs.length = As.length → (∀ (i : Nat) (A : XV τ) (v : Value), As[i]? = some A → vs[i]? = some v → XOk P G h ν A v) → TrXs P G H w ts p vs (fps φ l)
  | [], [], p, l, m, vs, e, _, _, _, hl, _ => by
    cases e
    have : vs = [] := List.eq_nil_of_length_eq_zero hl
    subst this; exact .nil
  | t :: ts, A :: As, p, l, m, vs, e, ha, hm, hn, hl, hv => by
    unfold resXs at e
    split at e
    · rename_i x l1 m1 hx
      split at e
      · rename_i q l2 m2 hq
        cases e
        obtain ⟨n1, n2, n3⟩ := nod_app hn
        cases vs with
        | nil => simp at hl
        | cons v vs =>
          rw [fps_append]
          refine .cons t ts _ v vs _ _ ?_ ?_ (M.fps_dis n3)
          · rw [DP.hd_mk]; exact resX_ok M hH hx (fun i hi => ha i (List.mem_append_left _ hi)) hm.app.1 n1 (hv 0 A v rfl rfl)
          · rw [DP.tl_mk]; exact resXs_ok M hH hq (fun i hi => ha i (List.mem_append_right _ hi)) hm.app.2 n2 (by simpa using hl) (fun i A v h1 h2 => hv (i + 1) A v h1 h2)
      · cases e
    · cases e
  | [], _ :: _, _, _, _, _, e, _, _, _, _, _ => by cases e
  | _ :: _, [], _, _, _, _, e, _, _, _, _, _ => by cases e

structure Adds (P : Program) (G : Sig τ) (w0 : World) (h0 : Fz) (F : List Nat) (L : Hp τ) (w : World) (ν : Vn τ) (h : Fz) (φ : Nat → List Nat) (U : Hp τ) (nid nid' : Nat) (fp : List Nat) (ν' : Vn τ) (φ' : Nat → List Nat) : Prop where
  mem : Mem P G w0 h0 F (U ++ L) w ν' h φ'
  le : ν.le ν'
  fresh : Fresh ν ν' nid nid'
  sub : ∀ j b, b ∈ φ' j → b ∈ φ j ∨ b ∈ fp
theorem Grew.adds {U : Hp τ} {nid nid' : Nat} {fp : List Nat} (g : Grew P G w0 h0 F L w ν h φ U nid nid' fp ν' φ') : Adds P G w0 h0 F L w ν h φ U nid nid' fp ν' φ' :=
  ⟨g.mem, g.le, g.fresh, fun j b hb => by
    by_cases e : nid ≤ j ∧ j < nid'
    · exact .inr (g.fp j b e.1 e.2 hb)
    · rw [(g.same j e).2] at hb; exact .inl hb⟩
theorem Free.adds {U : Hp τ} {nid nid' : Nat} {fp fp' : List Nat} (g : Adds P G w0 h0 F L w ν h φ U nid nid' fp ν' φ') (hf : Free w0 h F φ fp') (hd : ∀ b ∈ fp', b ∉ fp) : Free w0 h F φ' fp' := fun b hb =>
  ⟨fun i hi => by
    rcases g.sub i b hi with h1 | h1
    · exact (hf b hb).1 i h1
    · exact hd b hb h1, (hf b hb).2⟩
theorem Adds.seq {U U' : Hp τ} {a b c : Nat} {fp fp' : List Nat} {ν'' : Vn τ} {φ'' : Nat → List Nat} (g : Adds P G w0 h0 F L w ν h φ U' b c fp' ν' φ') (g' : Adds P G w0 h0 F (U' ++ L) w ν' h φ' U a b fp ν'' φ'') (h1 : a ≤ b) (h2 : b ≤ c) : Adds P G w0 h0 F L w ν h φ (U ++ U') a c (fp ++ fp') ν'' φ'' :=
  ⟨by rw [List.append_assoc]; exact g'.mem, g.le.trans g'.le, fun i e1 e2 => by
    by_cases e : ν' i = none
    · have := g'.fresh i e e2; omega
    · have := g.fresh i e1 e; omega, fun j b hb => by
    rcases g'.sub j b hb with h3 | h3
    · rcases g.sub j b h3 with h4 | h4
      · exact .inl h4
      · exact .inr (List.mem_append_right _ h4)
    · exact .inr (List.mem_append_left _ h3)⟩
theorem expX_le {t : Ty} {x : t.den τ} {nid nid' : Nat} {v : XV τ} {U : Hp τ} (e : expX G t x nid = (v, U, nid')) : nid ≤ nid' := by
  cases t
  case st n =>
    have e : expS G _ x nid = (v, U, nid') := e
    unfold expS at e
    split at e
    rename_i h1
    cases e
    exact expL_le (expC_le G depth) h1
  case pr a b => cases e; exact Nat.le_refl _
  all_goals
    have e : expO G _ x nid = (v, U, nid') := e
    unfold expO at e
    split at e
    rename_i h1
    cases e
    exact expC_le G depth _ _ _ _ _ _ h1
theorem expX_ky {t : Ty} {x : t.den τ} {nid nid' : Nat} {v : XV τ} {U : Hp τ} (e : expX G t x nid = (v, U, nid')) : ∀ j ∈ kys U, nid ≤ j ∧ j < nid' := by
  cases t
  case st n =>
    have e : expS G _ x nid = (v, U, nid') := e
    unfold expS at e
    split at e
    rename_i h1
    cases e
    exact expL_ky (expC_le G depth) (expC_ky G depth) h1
  case pr a b => cases e; intro j hj; cases hj
  all_goals
    have e : expO G _ x nid = (v, U, nid') := e
    unfold expO at e
    split at e
    rename_i h1
    cases e
    exact expC_ky G depth _ _ _ _ _ _ h1
theorem expX_ok (M : Mem P G w0 h0 F L w ν h φ) {t : Ty} {x : t.den τ} {nid nid' : Nat} {A : XV τ} {U : Hp τ} {v : Value} {fp : List Nat} (e : expX G t x nid = (A, U, nid')) (ht : TrX P G h w t x v fp) (hn : ∀ i, nid ≤ i → i < nid' → ν i = none) (hf : Free w0 h F φ fp) :
    ∃ ν' φ', Adds P G w0 h0 F L w ν h φ U nid nid' fp ν' φ' ∧ XOk P G h ν' A v := by
  have flat : ∀ {t : Ty} {x : t.den τ} {c : CV τ}, expC G depth t x nid = (c, U, nid') → Tr P G h w t x v fp → ∃ ν' φ', Adds P G w0 h0 F L w ν h φ U nid nid' fp ν' φ' ∧ XOk P G h ν' (.c c) v := by
    intro t x c h1 ht
    obtain ⟨ν', φ', g, hc⟩ := expC_ok depth _ _ _ _ _ _ _ _ _ _ _ h1 ht M hn hf
    exact ⟨ν', φ', g.adds, hc⟩
  cases t
  case st n =>
    have e : expS G _ x nid = (A, U, nid') := e
    unfold expS at e
    split at e
    rename_i cs U1 n1 h1
    cases e
    obtain ⟨vs, rfl, hl⟩ := ht
    obtain ⟨ν', φ', g, hc⟩ := expL_ok (expC_le G depth) (expC_ok depth) h1 hl M hn hf
    exact ⟨ν', φ', g.adds, vs, rfl, hc⟩
  case pr a b =>
    cases e
    exact ⟨ν, φ, (Grew.nil M _ fp).adds, trivial⟩
  all_goals
    have e : expO G _ x nid = (A, U, nid') := e
    unfold expO at e
    split at e
    rename_i h1
    cases e
    exact flat h1 ht
theorem expAt_adds (M : Mem P G w0 h0 F L w ν h φ) {i n nid nid' : Nat} {x : τ n} {U : Hp τ} {v : Value} {q : Option ((e : Ty) × List (e.den τ))} {fp : List Nat} (e : expAt G i n x nid = (U, nid')) (hg : lk L i = .gone) (hi : ν i = some (v, q)) (ht : Tr P G h w (.po n) x v fp) (hf : Free w0 h F φ fp)
    (hn : ∀ i, nid ≤ i → i < nid' → ν i = none) : ∃ ν' φ' b, Adds P G w0 h0 F L w ν h φ U nid nid' fp ν' φ' ∧ v = ptr b 0 := by
  obtain ⟨_, ν', φ', t, cs, b, h1, h2, h3, h4, _, h5, h6⟩ := expAt_ok M e hg hi ht hf hn
  refine ⟨ν', φ', b, ⟨h1, h2, h3, fun j b hb => ?_⟩, h4⟩
  by_cases hj : j = i ∨ nid ≤ j ∧ j < nid'
  · exact .inr (h6 j b hj hb)
  · rw [h5 j (fun a => hj (.inr a)) (fun a => hj (.inl a))] at hb
    exact .inl hb
theorem expAt_le {i n nid nid' : Nat} {x : τ n} {U : Hp τ} (e : expAt G i n x nid = (U, nid')) : nid ≤ nid' := by
  unfold expAt at e
  split at e
  rename_i h1
  cases e
  exact expL_le (expC_le G depth) h1
theorem Mem.gone_of (M : Mem P G w0 h0 F L w ν h φ) {i : Nat} (hi : ν i = none) : lk L i = .gone := by
  have hr := M.res i
  rw [hi] at hr
  cases e : lk L i with
  | gone => rfl
  | blk t cs => rw [e] at hr; obtain ⟨_, _, _, h, _⟩ := hr; cases h
  | row t e' xs k => rw [e] at hr; obtain ⟨_, _, _, _, h, _⟩ := hr; cases h
  | fz e' xs => rw [e] at hr; obtain ⟨_, _, h, _⟩ := hr; cases h
  | tree n x => rw [e] at hr; obtain ⟨_, _, h, _⟩ := hr; cases h
  | nilp => rw [e] at hr; obtain ⟨_, h, _⟩ := hr; cases h
  | clo f bs cs => rw [e] at hr; obtain ⟨_, _, _, h, _⟩ := hr; cases h
  | sb i' n => rw [e] at hr; obtain ⟨_, _, _, _, h, _⟩ := hr; cases h
  | vw i' k e' lo xs => rw [e] at hr; obtain ⟨_, _, _, _, _, _, _, _, _, _, _, _, _, h, _⟩ := hr; cases h

def RootsOk (L : Hp τ) (ν : Vn τ) : List (Option (Option Nat)) → List Value → Prop
  | some (some i) :: rs, v :: vs => lk L i = .gone ∧ (∃ q, ν i = some (v, q)) ∧ some (some i) ∉ rs ∧ RootsOk L ν rs vs
  | some none :: rs, v :: vs => v = .pointer none ∧ RootsOk L ν rs vs
  | none :: rs, _ :: vs => RootsOk L ν rs vs
  | _, _ => True
def outs : List (Option (Option Nat)) → List Value → List Value
  | none :: rs, v :: vs => v :: outs rs vs
  | some _ :: rs, _ :: vs => outs rs vs
  | _, _ => []
def XsOk (P : Program) (G : Sig τ) (h : Fz) (ν : Vn τ) : List (XV τ) → List Value → Prop
  | [], vs => vs = []
  | x :: xs, vs => ∃ v us, vs = v :: us ∧ XOk P G h ν x v ∧ XsOk P G h ν xs us
theorem XsOk.le (hh : h.le h') (hν : ν.le ν') : ∀ {xs : List (XV τ)} {vs : List Value}, XsOk P G h ν xs vs → XsOk P G h' ν' xs vs
  | [], _, e => e
  | _ :: _, _, ⟨v, us, e, h1, h2⟩ => ⟨v, us, e, h1.le hh hν, h2.le hh hν⟩
theorem resH_ok {ρ : Type} {r : ρ} {a : Option (Option Nat)} {t : Ty} {x : t.den τ} {nid : Nat} {k : Option (XV τ) → Hp τ → Nat → Option ρ} (e : resH G a t x nid k = some r) : ∃ x0 U n1, k x0 U n1 = some r ∧ nid ≤ n1 ∧ (∀ j ∈ kys U, some (some j) = a ∨ nid ≤ j ∧ j < n1) ∧
    ∀ (L : Hp τ) (w : World) (ν : Vn τ) (h : Fz) (φ : Nat → List Nat) (v : Value) (fp : List Nat), Mem P G w0 h0 F L w ν h φ → TrX P G h w t x v fp → (∀ i, nid ≤ i → i < n1 → ν i = none) → Free w0 h F φ fp → (∀ i, a = some (some i) → lk L i = .gone ∧ ∃ q, ν i = some (v, q)) → (a = some none → v = .pointer none) →
      ∃ ν' φ', Adds P G w0 h0 F L w ν h φ U nid n1 fp ν' φ' ∧ ((a = none ∧ ∃ y, x0 = some y ∧ XOk P G h ν' y v) ∨ (a ≠ none ∧ x0 = none)) := by
  unfold resH at e
  split at e
  · rename_i i n x
    obtain ⟨U, n1, h1⟩ : ∃ U n1, expAt G i n x nid = (U, n1) := ⟨_, _, rfl⟩
    rw [h1] at e
    refine ⟨none, U, n1, e, expAt_le h1, fun j hj => ?_, fun L w ν h φ v fp M ht hn hf ha _ => ?_⟩
    · rcases expAt_ky h1 j hj with h2 | h2
      · exact .inl (by rw [h2])
      · exact .inr h2
    · obtain ⟨hg, q, hi⟩ := ha i rfl
      obtain ⟨ν', φ', b, A, _⟩ := expAt_adds M h1 hg hi ht hf hn
      exact ⟨ν', φ', A, .inr ⟨by simp, rfl⟩⟩
  · rename_i i n x
    refine ⟨none, _, _, e, Nat.le_refl _, fun j hj => ?_, fun L w ν h φ v fp M ht hn hf ha _ => ?_⟩
    · simp [kys] at hj
      subst hj; exact .inl rfl
    · obtain ⟨hg, q, hi⟩ := ha i rfl
      refine ⟨ν, _, ⟨M.put (i := i) hg (.tree n x) (fp := fp) ⟨v, q, hi, ht⟩ hf, Vn.le.refl _, Fresh.refl _ _ _, fun j b hb => ?_⟩, .inr ⟨by simp, rfl⟩⟩
      by_cases hj : j = i
      · subst hj; rw [up1_at] at hb; exact .inr hb
      · rw [up1_ne _ _ hj] at hb; exact .inl hb
  · rename_i i te ee x
    refine ⟨none, _, _, e, Nat.le_succ _, fun j hj => ?_, fun L w ν h φ v fp M ht hn hf ha _ => ?_⟩
    · simp [kys] at hj
      subst hj; exact .inl rfl
    · obtain ⟨hg, q, hi⟩ := ha i rfl
      have hn' := hn nid (Nat.le_refl _) (Nat.lt_succ_self _)
      have hle : ν.le (up1 ν nid (some (v, some ⟨ee, x⟩))) := up1_le hn'
      have ht : Tr P G h w (.so te ee) x v fp := ht
      cases ht with
      | fz _ _ _ hz _ => cases hz
      | so _ _ _ _ vs ho hr =>
        refine ⟨up1 ν nid (some (v, some ⟨ee, x⟩)), _, ⟨(M.ext hle).put (i := i) hg (.row te ee x nid) ⟨v, q, vs, v, hle _ _ hi, rfl, ho, hr, up1_at _ _ _⟩ hf, hle, fun j e1 e2 => ?_, fun j b hb => ?_⟩, .inr ⟨by simp, rfl⟩⟩
        · by_cases hj : j = nid
          · omega
          · rw [up1_ne _ _ hj] at e2
            exact (e2 e1).elim
        · by_cases hj : j = i
          · subst hj; rw [up1_at] at hb; exact .inr hb
          · rw [up1_ne _ _ hj] at hb; exact .inl hb
  · refine ⟨none, _, _, e, Nat.le_refl _, (fun j hj => by cases hj), fun L w ν h φ v fp M ht hn hf ha _ => ⟨ν, φ, (Grew.nil M _ _).adds, .inr ⟨by simp, rfl⟩⟩⟩
  · refine ⟨none, _, _, e, Nat.le_refl _, (fun j hj => by cases hj), fun L w ν h φ v fp M ht hn hf ha _ => ⟨ν, φ, (Grew.nil M _ _).adds, .inr ⟨by simp, rfl⟩⟩⟩
  · rename_i n x
    cases x with
    | none =>
      refine ⟨_, _, _, e, Nat.le_refl _, (fun j hj => by cases hj), fun L w ν h φ v fp M ht hn hf ha _ => ⟨ν, φ, (Grew.nil M _ _).adds, .inl ⟨rfl, _, rfl, ?_⟩⟩⟩
      exact (Tr.pn_none ht).1
    | some y =>
      obtain ⟨U, n1, h1⟩ : ∃ U n1, expAt G nid n y (nid + 1) = (U, n1) := ⟨_, _, rfl⟩
      simp only [optK, h1] at e
      have hle := expAt_le h1
      refine ⟨_, _, _, e, by omega, fun j hj => ?_, fun L w ν h φ v fp M ht hn hf ha _ => ?_⟩
      · rcases expAt_ky h1 j hj with h2 | h2
        · exact .inr (by omega)
        · exact .inr (by omega)
      · have hn' := hn nid (Nat.le_refl _) (by omega)
        have hne : ∀ i, nid + 1 ≤ i → i < n1 → up1 ν nid (some (v, none)) i = none := fun i a b => by rw [up1_ne _ _ (by omega)]; exact hn i (by omega) b
        obtain ⟨ν', φ', b, A, rfl⟩ := expAt_adds (M.ext (up1_le (x := some (v, none)) hn')) h1 (M.gone_of hn') (up1_at _ _ _) (Tr.pn_some ht) hf hne
        refine ⟨ν', φ', ⟨A.mem, (up1_le hn').trans A.le, fun i e1 e2 => ?_, A.sub⟩, .inl ⟨rfl, _, rfl, some ⟨b, 0, none⟩, none, A.le _ _ (up1_at _ _ _), rfl, fun _ => ⟨b, rfl⟩⟩⟩
        by_cases hi : i = nid
        · omega
        · have := A.fresh i (by rw [up1_ne _ _ hi]; exact e1) e2; omega
  · obtain ⟨v, U, n1, h1⟩ : ∃ v U n1, expX G t x nid = (v, U, n1) := ⟨_, _, _, rfl⟩
    rw [h1] at e
    refine ⟨_, _, _, e, expX_le h1, fun j hj => .inr (expX_ky h1 j hj), fun L w ν h φ v fp M ht hn hf ha _ => ?_⟩
    obtain ⟨ν', φ', A, hx⟩ := expX_ok M h1 ht hn hf
    exact ⟨ν', φ', A, .inl ⟨rfl, _, rfl, hx⟩⟩
  · cases e
theorem resK_ok {ρ : Type} {r : ρ} : ∀ (ts : List Ty) (rs : List (Option (Option Nat))) (p : DP τ ts) (nid : Nat) (K0 : List (XV τ) → Hp τ → Nat → Option ρ), resK G rs ts p nid K0 = some r → ∃ l U nid', K0 l U nid' = some r ∧ nid ≤ nid' ∧ (∀ j ∈ kys U, some (some j) ∈ rs ∨ nid ≤ j ∧ j < nid') ∧
    ∀ (L : Hp τ) (w : World) (ν : Vn τ) (h : Fz) (φ : Nat → List Nat) (vals : List Value) (fp : List Nat), Mem P G w0 h0 F L w ν h φ → TrXs P G h w ts p vals fp → (∀ i, nid ≤ i → i < nid' → ν i = none) → Free w0 h F φ fp → RootsOk L ν rs vals →
      ∃ ν' φ', Adds P G w0 h0 F L w ν h φ U nid nid' fp ν' φ' ∧ XsOk P G h ν' l (outs rs vals) := by
  intro ts
  induction ts with
  | nil =>
    intro rs p nid K0 e
    refine ⟨[], [], nid, ?_, Nat.le_refl _, (fun j hj => by cases hj), fun L w ν h φ vals fp M ht hn hf hr => ?_⟩
    · unfold resK hi at e; exact e
    · cases ht
      refine ⟨ν, φ, (Grew.nil M _ _).adds, ?_⟩
      cases rs with
      | nil => rfl
      | cons a rs => cases a <;> rfl
  | cons t ts ih =>
    intro rs p nid K0 e
    cases rs with
    | nil => cases e
    | cons a0 rs' =>
      unfold resK at e
      obtain ⟨x0, U1, n1, e1, hle, hky, hdo⟩ := resH_ok (P := P) (w0 := w0) (h0 := h0) (F := F) e
      obtain ⟨l, U, nid', g1, g2, g3, g4⟩ := ih rs' p.tl n1 _ e1
      refine ⟨_, _, nid', g1, by omega, fun j hj => ?_, fun L w ν h φ vals fp M ht hn hf hr => ?_⟩
      · simp only [kys, List.map_append] at hj
        rcases List.mem_append.1 hj with hj | hj
        · rcases hky j hj with h1 | h1
          · exact .inl (h1 ▸ List.mem_cons_self ..)
          · exact .inr (by omega)
        · rcases g3 j hj with h1 | h1
          · exact .inl (List.mem_cons_of_mem _ h1)
          · exact .inr (by omega)
      · cases ht with
        | cons _ _ _ v vs f f' t1 t2 hd =>
          have hr2 : RootsOk L ν rs' vs := by
            cases a0 with
            | none => exact hr
            | some a1 =>
              cases a1 with
              | none => exact hr.2
              | some i => exact hr.2.2.2
          obtain ⟨ν1, φ1, A1, x1⟩ := g4 L w ν h φ vs f' M t2 (fun i a b => hn i (by omega) b) (hf.sub fun b hb => List.mem_append_right _ hb) hr2
          have hν1 : ∀ i, nid ≤ i → i < n1 → ν1 i = none := by
            intro i a b
            cases e : ν1 i with
            | none => rfl
            | some y =>
              have := A1.fresh i (hn i a (by omega)) (by rw [e]; simp)
              omega
          obtain ⟨ν2, φ2, A2, x2⟩ := hdo (U ++ L) w ν1 h φ1 v f A1.mem t1 hν1 (Free.adds A1 (hf.sub fun b hb => List.mem_append_left _ hb) hd) (fun i ha => by
            subst ha
            obtain ⟨q1, ⟨q, q2⟩, q3, _⟩ := hr
            refine ⟨?_, q, A1.le _ _ q2⟩
            rw [lk_app_out]
            · exact q1
            · intro hi
              rcases g3 i hi with h1 | h1
              · exact q3 h1
              · rw [hn i (by omega) h1.2] at q2; cases q2) (fun ha => by subst ha; exact hr.1)
          refine ⟨ν2, φ2, Adds.seq A1 A2 hle g2, ?_⟩
          rcases x2 with ⟨rfl, x, rfl, hx⟩ | ⟨ha, rfl⟩
          · exact ⟨v, _, rfl, hx, x1.le (Fz.le.refl _) A2.le⟩
          · cases a0 with
            | none => exact (ha rfl).elim
            | some a1 => exact x1.le (Fz.le.refl _) A2.le

theorem scal_rp {t : Ty} {x : t.den τ} {v : Value} (hs : scal t = true) (hr : Rp P G h t x v) : Rp P G h' t x v := by
  cases hr <;> first | (cases hs; done) | constructor
theorem scal_rl : ∀ {ts : List Ty} {q : DP τ ts} {vs : List Value}, RpL P G h ts q vs → ts.all scal = true → RpL P G h' ts q vs
  | _, _, _, .nil, _ => .nil
  | _, _, _, .cons t ts q v vs h1 h2, hs => by
    simp only [List.all_cons, Bool.and_eq_true] at hs
    exact .cons t ts q v vs (scal_rp hs.1 h1) (scal_rl h2 hs.2)
theorem scal_rr : ∀ {e : Ty} {xs : List (e.den τ)} {vs : List Value}, RpR P G h e xs vs → (ets G e).all scal = true → RpR P G h' e xs vs
  | _, _, _, .nil e, _ => .nil e
  | _, _, _, .cons e x xs vs ws h1 h2, hs => .cons e x xs vs ws (scal_rl h1 hs) (scal_rr h2 hs)
theorem unshowL {f : Ty → Bool} (hf : ∀ t x v fp, f t = false → Tr P G h w t x v fp → Tr P G h' w t x v fp) : ∀ {ts : List Ty} {q : DP τ ts} {vs : List Value} {fp : List Nat}, TrL P G h w ts q vs fp → ts.any f = false → TrL P G h' w ts q vs fp
  | _, _, _, _, .nil, _ => .nil
  | _, _, _, _, .cons t ts q v vs f1 f2 h1 h2 hd, hs => by
    simp only [List.any_cons, Bool.or_eq_false_iff] at hs
    exact .cons t ts q v vs f1 f2 (hf _ _ _ _ hs.1 h1) (unshowL hf h2 hs.2) hd
theorem unshow : ∀ (d : Nat) (t : Ty) (x : t.den τ) (v : Value) (fp : List Nat), shows G d t = false → Tr P G h w t x v fp → Tr P G h' w t x v fp
  | 0, t, x, v, fp, hs, _ => by cases hs
  | d + 1, t, x, v, fp, hs, ht => by
    unfold shows at hs
    cases ht with
    | fz _ _ _ hz hr =>
      refine .fz t x v hz ?_
      cases hr <;> first | (cases hs; done) | (cases hz; done) | (constructor; done) | exact .fn _ _ ‹_›
    | so te e xs _ vs ho hr =>
      refine .so te e xs v vs ho (scal_rr hr ?_)
      simpa using hs
    | po n y b vs fp hb hl hn => exact .po n y b vs fp hb (unshowL (unshow d) hl hs) hn
    | pn0 n => exact .pn0 n
    | pn1 n y _ _ hp =>
      refine .pn1 n y v fp ?_
      cases hp with
      | fz _ _ _ hz _ => cases hz
      | po _ _ b vs fp hb hl hn => exact .po n y b vs fp hb (unshowL (unshow d) hl hs) hn
theorem unshowX {d : Nat} {t : Ty} {x : t.den τ} {v : Value} {fp : List Nat} (hs : shows G (d + 1) t = false) (ht : TrX P G h w t x v fp) : TrX P G h' w t x v fp := by
  cases t
  case st n =>
    obtain ⟨vs, rfl, hl⟩ := ht
    unfold shows at hs
    exact ⟨vs, rfl, unshowL (unshow d) hl hs⟩
  case pr a b => exact ht
  all_goals exact unshow (d + 1) _ _ _ _ hs ht
theorem unshowXs {d : Nat} : ∀ {ts : List Ty} {q : DP τ ts} {vs : List Value} {fp : List Nat}, TrXs P G h w ts q vs fp → ts.any (shows G (d + 1)) = false → TrXs P G h' w ts q vs fp
  | _, _, _, _, .nil, _ => .nil
  | _, _, _, _, .cons t ts q v vs f1 f2 h1 h2 hd, hs => by
    simp only [List.any_cons, Bool.or_eq_false_iff] at hs
    exact .cons t ts q v vs f1 f2 (unshowX hs.1 h1) (unshowXs h2 hs.2) hd

theorem outs_nones {rs : List (Option (Option Nat))} (hr : ∀ a ∈ rs, a ≠ none) : ∀ (n : Nat) (vs : List Value), outs (nones n rs) vs = vs.take n
  | 0, vs => by
    have : ∀ (rs : List (Option (Option Nat))) (vs : List Value), (∀ a ∈ rs, a ≠ none) → outs rs vs = [] := by
      intro rs
      induction rs with
      | nil => intro vs _; rfl
      | cons a rs ih =>
        intro vs h
        cases a with
        | none => exact (h none (List.mem_cons_self ..) rfl).elim
        | some a =>
          cases vs with
          | nil => rfl
          | cons v vs => exact ih vs fun b hb => h b (List.mem_cons_of_mem _ hb)
    rw [List.take_zero]; exact this rs vs hr
  | n + 1, [] => rfl
  | n + 1, v :: vs => by
    show v :: outs (nones n rs) vs = _
    rw [outs_nones hr n vs, List.take_succ_cons]
theorem roots_some {avs : List (XV τ)} : ∀ {js : List Nat} {rs : List (Option (Option Nat))}, roots avs js = some rs → ∀ a ∈ rs, a ≠ none
  | [], rs, e, a, ha => by cases e; cases ha
  | j :: js, rs, e, a, ha => by
    unfold roots at e
    split at e
    · rename_i rs' h1
      split at e
      · split at e
        · cases e
          rcases List.mem_cons.1 ha with rfl | ha
          · simp
          · exact roots_some h1 a ha
        · cases e
          rcases List.mem_cons.1 ha with rfl | ha
          · simp
          · exact roots_some h1 a ha
        · cases e
          rcases List.mem_cons.1 ha with rfl | ha
          · simp
          · exact roots_some h1 a ha
        · cases e
      · cases e
    · cases e
theorem rootX_ok {v : XV τ} {u : Value} (hv : XOk P G h ν v u) : ∀ {i : Nat} {c : CV τ}, rootX v i = some c → CVOk P G h ν c (cellV u i)
  | 0, c, e => by
    cases v with
    | c c' => have e : some c' = some c := e; cases e; exact hv
    | _ => cases e
  | i + 1, c, e => by
    cases v with
    | g cs =>
      have e : nthL cs i = some c := e
      obtain ⟨vs, rfl, hc⟩ := hv
      rw [nthL_eq] at e
      obtain ⟨w, h1, h2⟩ := CVs.get (X := ⟨P, G, [], [], 0, fun _ => .bool false⟩) hc e
      show CVOk P G h ν c (vs.getD i undef)
      rw [List.getD_eq_getElem?_getD, h1]; exact h2
    | _ => cases e
theorem rids_mem : ∀ {rs : List (Option (Option Nat))} {i : Nat}, some (some i) ∈ rs → i ∈ rids rs
  | a :: rs, i, h => by
    rcases List.mem_cons.1 h with e | h
    · subst e; exact List.mem_cons_self ..
    · have := rids_mem h
      cases a with
      | none => exact this
      | some a =>
        cases a with
        | none => exact this
        | some j => exact List.mem_cons_of_mem _ this
theorem roots_ok {avs : List (XV τ)} {vs : List Value} (hl : vs.length = avs.length) (hv : ∀ (i : Nat) (A : XV τ) (v : Value), avs[i]? = some A → vs[i]? = some v → XOk P G h ν A v) :
    ∀ {js : List Nat} {rs : List (Option (Option Nat))}, roots avs js = some rs → nod (rids rs) = true → (∀ i ∈ rids rs, lk L i = .gone) → RootsOk L ν rs (js.map (bkV vs))
  | [], rs, e, _, _ => by cases e; trivial
  | j :: js, rs, e, hn, hg => by
    unfold roots at e
    split at e
    · rename_i rs' h1
      split at e
      · rename_i A hj
        rw [nthL_eq] at hj
        have hlt : j % 32 < vs.length := by rw [hl]; exact (List.getElem?_eq_some_iff.1 hj).1
        have hvj : vs[j % 32]? = some (vs.getD (j % 32) undef) := by rw [List.getD_eq_getElem?_getD, List.getElem?_eq_getElem hlt]; rfl
        have hA := hv _ _ _ hj hvj
        split at e
        · rename_i id hr
          cases e
          simp only [rids, nod, Bool.and_eq_true, Bool.not_eq_true'] at hn
          obtain ⟨u, q, hν, he, _⟩ := rootX_ok hA hr
          refine ⟨hg id (List.mem_cons_self ..), ⟨q, ?_⟩, fun hm => ?_, roots_ok hl hv h1 hn.2 fun i hi => hg i (List.mem_cons_of_mem _ hi)⟩
          · show ν id = some (bkV vs j, q)
            unfold bkV
            rw [he, hν]; cases u <;> rfl
          · rw [mem_any.2 (rids_mem hm)] at hn; cases hn.1
        · rename_i id hr
          cases e
          simp only [rids, nod, Bool.and_eq_true, Bool.not_eq_true'] at hn
          obtain ⟨u1, u2, u3, q, hν, he⟩ := rootX_ok hA hr
          refine ⟨hg id (List.mem_cons_self ..), ⟨q, ?_⟩, fun hm => ?_, roots_ok hl hv h1 hn.2 fun i hi => hg i (List.mem_cons_of_mem _ hi)⟩
          · show ν id = some (bkV vs j, q)
            unfold bkV
            rw [he, hν]
          · rw [mem_any.2 (rids_mem hm)] at hn; cases hn.1
        · rename_i hr
          cases e
          exact ⟨rootX_ok hA hr, roots_ok hl hv h1 hn hg⟩
        · cases e
      · cases e
    · cases e
theorem rootsN_ok {rs : List (Option (Option Nat))} : ∀ {n : Nat} {vs : List Value}, RootsOk L ν rs (vs.drop n) → RootsOk L ν (nones n rs) vs
  | 0, vs, h => by rw [List.drop_zero] at h; exact h
  | n + 1, [], h => trivial
  | n + 1, v :: vs, h => rootsN_ok (n := n) (vs := vs) (by simpa using h)
theorem tupX_ok {l : List (XV τ)} {v : XV τ} {vs : List Value} (e : tupX l = some v) (h1 : XsOk P G h ν l vs) : XOk P G h ν v (retV vs) := by
  have hgo : ∀ {l : List (XV τ)} {ts : List (Bool × List (CV τ))} {vs : List Value}, tupX.go l = some ts → XsOk P G h ν l vs → TVs P G h ν ts vs := by
    intro l
    induction l with
    | nil => intro ts vs e h1; cases e; exact h1
    | cons x l ih =>
      intro ts vs e h1
      obtain ⟨v, us, rfl, h2, h3⟩ := h1
      unfold tupX.go at e
      split at e
      · cases ‹_ :: _ = []›
      · rename_i heq
        cases heq
        split at e
        · rename_i l' hl'
          cases e
          exact ⟨v, us, rfl, h2, ih hl' h3⟩
        · cases e
      · rename_i heq
        cases heq
        split at e
        · rename_i l' hl'
          cases e
          obtain ⟨ws, rfl, h4⟩ := h2
          exact ⟨ws, us, rfl, h4, ih hl' h3⟩
        · cases e
      · cases e
  unfold tupX at e
  split at e
  · cases e
    obtain ⟨u, us, rfl, h2, h3⟩ := h1
    cases h3
    exact h2
  · cases e; cases h1
    exact ⟨[], rfl, rfl⟩
  · rename_i hne1 hne2
    split at e
    · rename_i ts hts
      cases e
      have := hgo hts h1
      have hr : retV vs = .tuple ⟨vs⟩ := by
        cases l with
        | nil => exact (hne2 rfl).elim
        | cons x l =>
          cases l with
          | nil => exact (hne1 _ rfl).elim
          | cons y l =>
            obtain ⟨v, us, rfl, _, v', us', rfl, _⟩ := h1
            rfl
      rw [hr]
      exact ⟨vs, rfl, this⟩
    · cases e
theorem gones_ky (l : List Nat) : kys (gones (τ := τ) l) = l := by
  induction l with
  | nil => rfl
  | cons i l ih => exact congrArg (i :: ·) ih
theorem gones_lk (l : List Nat) (Z : Hp τ) {i : Nat} (hi : i ∈ l) : lk (gones l ++ Z) i = .gone := by
  induction l with
  | nil => cases hi
  | cons j l ih =>
    by_cases e : i = j
    · subst e; exact lk_cons_self ..
    · have : lk (gones (j :: l) ++ Z) i = lk (gones l ++ Z) i := lk_cons_ne _ _ e
      rw [this]
      exact ih ((List.mem_cons.1 hi).resolve_left e)
end
end Go.Rk
end
section
namespace Go.Rk
open Go.RowKit Go.Dm Go.Dk
variable {τ : Nat → Type}
section
variable {ρ : Type} {X : Cx τ} {w0 w w' : World} {h0 h h' H : Fz} {F : List Nat} {o : Oper} {E : EnvX τ} {L L2 : Hp τ} {ν ν' : Vn τ} {φ φ' : Nat → List Nat} {nid nid' : Nat} {K : Nx τ ρ} {r : ρ} {v : XV τ} {U : Hp τ} {tch : List Nat} {g : List (XV τ)}
variable {a : Act} {x y z : Operand} {t' t ty u' : Nat} {dst : Option Nat} {p : String} {af : Array Edge} {gd : Option (Nat × Bool)}
theorem evXs_len : ∀ {args : List Operand} {avs : List (XV τ)}, evXs E args = some avs → avs.length = args.length ∧ ∀ (i : Nat) (A : XV τ), avs[i]? = some A → ∃ z, args[i]? = some z ∧ evX E z = some A
  | [], avs, e => by cases e; exact ⟨rfl, fun i A h => by simp at h⟩
  | z :: args, avs, e => by
    unfold evXs at e
    split at e
    · rename_i A hA
      split at e
      · rename_i As hAs
        cases e
        obtain ⟨h1, h2⟩ := evXs_len hAs
        refine ⟨by simp [h1], fun i B hB => ?_⟩
        cases i with
        | zero => simp at hB; subst hB; exact ⟨z, rfl, hA⟩
        | succ i => exact h2 i B hB
      · cases e
    · cases e
theorem ex_callE {f : Nat} {args : Array Operand} {vs : List Value} {ats : Array TypeId} (hfn : Callable X.P f) (hv : a.eval x = .func (.func f) #[] #[]) (hargs : args.map a.eval = vs.toArray) :
    (execOp a.eval { dst := dst, op := .call { callee := .value x, args := args, argTypes := ats }, type := t, pos := p, after := af, guard := gd }).run X.P w = .ok (.enter f vs.toArray) w := by
  obtain ⟨fn, hfn, hbody, hname⟩ := hfn
  simp only [execOp, resolve, hargs]
  rw [hv]
  simp only [Deferred.ofValue]
  have hb : ¬ fn.body = none := by intro e; rw [e] at hbody; cases hbody
  have hn : ¬ fn.name = "runtime.NumGoroutine" := by intro e; rw [e] at hname; cases hname
  simp [invoke, callFunc, hfn, hn, hb]
theorem Mem.called (M : Mem X.P X.G w0 h0 F L2 w ν h φ) {l m : List Nat} {Z : Hp τ} {h2 : Fz} {fp' : List Nat} (hl : Left (lend h w (fps φ m)) w (fps φ l) h' w' fp') (hlm : ∀ i ∈ l, i ∉ m) (ha : ∀ i ∈ l ++ m, lk L2 i = lk L i)
    (hz : (Rk.freeze L m = some Z ∧ h2 = h') ∨ (Z = [] ∧ h2 = h)) : ∃ φ', Mem X.P X.G w0 h0 F ((gones l ++ Z) ++ L2) w' ν h2 φ' ∧ Free w0 h2 F φ' fp' := by
  have hH := M.lend_le m
  have hHon := lend_on (h := h) (bs := fps φ m) M.on
  have hlh : ∀ b ∈ fps φ l, h b = none := fun b hb => by obtain ⟨i, _, hi⟩ := mem_fps.1 hb; exact (M.out i b hi).1
  have hmem : ∀ b, lend h w (fps φ m) b ≠ none → h b ≠ none ∨ b ∈ fps φ m := by
    intro b hb
    by_cases e : b ∈ fps φ m
    · exact .inr e
    · rw [lend_out e] at hb; exact .inl hb
  have hfree : ∀ {φ' : Nat → List Nat} {h2 : Fz}, (∀ i b, b ∈ φ' i → b ∈ φ i ∧ i ∉ l) → (∀ b, h2 b ≠ none → h' b ≠ none) → Free w0 h2 F φ' fp' := by
    intro φ' h2 h1 h3 b hb
    obtain ⟨g1, g2⟩ := hl.own b hb
    refine ⟨fun i hi => ?_, ?_, ?_⟩
    · obtain ⟨h5, h6⟩ := h1 i b hi
      rcases g2 with g2 | g2
      · obtain ⟨j, hj, hbj⟩ := mem_fps.1 g2
        exact h6 (M.dis i j b h5 hbj ▸ hj)
      · have := M.lt h5; omega
    · cases e : h2 b with
      | none => rfl
      | some o => exact (h3 b (by rw [e]; simp) g1).elim
    · rcases g2 with g2 | g2
      · obtain ⟨j, _, hbj⟩ := mem_fps.1 g2; exact (M.out j b hbj).2
      · exact .inr (Nat.le_trans M.size g2)
  rcases hz with ⟨hf, rfl⟩ | ⟨rfl, rfl⟩
  · obtain ⟨hk, hlz⟩ := freeze_lk hf
    have hin : ∀ i, i ∉ l ++ m → lk ((gones l ++ Z) ++ L2) i = lk L2 i := fun i hi => lk_app_out _ (by
      simp only [kys, List.map_append]
      intro hc
      rcases List.mem_append.1 hc with hc | hc
      · exact hi (List.mem_append_left _ (by rw [← gones_ky (τ := τ) l]; exact hc))
      · exact hi (List.mem_append_right _ (by rw [← hk]; exact hc)))
    have hlk : ∀ i ∈ l ++ m, lk ((gones l ++ Z) ++ L2) i = lk (gones l ++ Z) i := fun i hi => lk_app_in _ (by
      simp only [kys, List.map_append]
      rcases List.mem_append.1 hi with hi | hi
      · exact List.mem_append_left _ (by have := gones_ky (τ := τ) l; rw [kys] at this; rw [this]; exact hi)
      · exact List.mem_append_right _ (by rw [kys] at hk; rw [hk]; exact hi))
    have hlkm : ∀ i ∈ m, lk (gones l ++ Z) i = lk Z i := fun i hi => by
      rw [lk_app_out]
      rw [gones_ky]
      exact fun hc => hlm i hc hi
    refine ⟨offs1 φ (l ++ m), ?_, hfree (fun i b hb => ?_) (fun b hb => hb)⟩
    · refine M.upd (l ++ m) hin (fun i hi => offs1_out hi) (Vn.le.refl _) (hH.trans hl.le) hl.os hl.tape hl.output hl.size (fun b hb hc => hl.frame b hb fun hd => hc (by rw [fps_append]; exact List.mem_append_left _ hd))
        (fun b o _ e => hl.on b o e) (fun b e1 e2 => ?_) (fun i hi => ?_) (fun i hi b hb => by rw [offs1_in hi] at hb; cases hb) (fun i hi j _ b hb => by rw [offs1_in hi] at hb; cases hb)
      · rcases hl.new b e2 with h1 | h1 | h1
        · rcases hmem b h1 with h2 | h2
          · exact (h2 e1).elim
          · exact .inl (by rw [fps_append]; exact List.mem_append_right _ h2)
        · exact .inl (by rw [fps_append]; exact List.mem_append_left _ h1)
        · exact .inr h1
      · rw [hlk i hi, offs1_in hi]
        by_cases hil : i ∈ l
        · rw [gones_lk l Z hil]; rfl
        · have him : i ∈ m := (List.mem_append.1 hi).resolve_left hil
          rw [hlkm i him]
          obtain ⟨e', xs, h1, h2⟩ := hlz i him
          rw [h1]
          have hr := M.res i
          rw [ha i hi] at hr
          rcases h2 with ⟨te, k, h2⟩ | h2
          · rw [h2] at hr
            obtain ⟨v, q, vs, u, h3, h4, h5, h6, _⟩ := hr
            refine ⟨v, q, h3, rfl, row_rp (w := w) (hH.trans hl.le) h5 h6 fun b hb => ?_⟩
            have hbm : b ∈ fps φ m := mem_fps.2 ⟨i, him, by rw [h4]; exact hb⟩
            have hlt := row_lt h5 hb
            have : lend h w (fps φ m) b = some w.heap[b] := by rw [lend_in hbm]; exact Array.getElem?_eq_getElem hlt
            rw [hl.le _ _ this]; exact (Array.getElem?_eq_getElem hlt).symm
          · rw [h2] at hr
            obtain ⟨v, q, h3, _, h4⟩ := hr
            exact ⟨v, q, h3, rfl, h4.le (hH.trans hl.le)⟩
    · by_cases hi : i ∈ l ++ m
      · rw [offs1_in hi] at hb; cases hb
      · rw [offs1_out hi] at hb; exact ⟨hb, fun hc => hi (List.mem_append_left _ hc)⟩
  · have hin : ∀ i, i ∉ l → lk ((gones l ++ []) ++ L2) i = lk L2 i := fun i hi => lk_app_out _ (by rw [List.append_nil, gones_ky]; exact hi)
    refine ⟨offs1 φ l, ?_, hfree (fun i b hb => ?_) (fun b hb => ?_)⟩
    · refine M.upd l hin (fun i hi => offs1_out hi) (Vn.le.refl _) (Fz.le.refl _) hl.os hl.tape hl.output hl.size (fun b hb hc => hl.frame b hb hc)
        (fun b o e1 e2 => by rw [e1] at e2; cases e2) (fun b e1 e2 => (e2 e1).elim) (fun i hi => ?_) (fun i hi b hb => by rw [offs1_in hi] at hb; cases hb) (fun i hi j _ b hb => by rw [offs1_in hi] at hb; cases hb)
      rw [offs1_in hi, lk_app_in _ (by rw [List.append_nil, gones_ky]; exact hi), gones_lk l [] hi]; rfl
    · by_cases hi : i ∈ l
      · rw [offs1_in hi] at hb; cases hb
      · rw [offs1_out hi] at hb; exact ⟨hb, hi⟩
    · cases e : h2 b with
      | none => exact (hb e).elim
      | some o => rw [hl.le _ _ (hH _ _ e)]; simp
theorem bcT {α : Type} {x y : α} : bc true x y = x := rfl
theorem bcF {α : Type} {x y : α} : bc false x y = y := rfl
def Entr (X : Cx τ) (w0 : World) (h0 : Fz) (F : List Nat) (E : EnvX τ) (L : Hp τ) (T0 : List Nat) (o : Oper) (f : Nat) (avs : List (XV τ)) : Prop := ∀ (L2 : Hp τ) (ν : Vn τ) (h : Fz) (φ : Nat → List Nat) (a : Act) (w : World), a.defers = [] → Mem X.P X.G w0 h0 F L2 w ν h φ → EnvOn X h ν a (rdO o.op) E → (∀ i ∈ T0, lk L2 i = lk L i) → Callable X.P f →
  ∃ vs : List Value, vs.length = avs.length ∧ (∀ (i : Nat) (A : XV τ) (v : Value), avs[i]? = some A → vs[i]? = some v → XOk X.P X.G h ν A v) ∧ (execOp a.eval o).run X.P w = .ok (.enter f vs.toArray) w
theorem callG_ok {f : Nat} {avs : List (XV τ)} (T0 : List Nat) (hen : Entr X w0 h0 F E L T0 o f avs) : ∀ {cs : Cons τ}, (∀ q ∈ cs, COk X.P X.G q.1 q.2) → callX X L nid (fun v g U t n => K v g U (T0 ++ t) n) f avs cs = some r →
    Does X w0 h0 F o E L nid K r
  | [], _, e => by cases e
  | (g, k) :: cs, hC, e => by
    have ih : callX X L nid (fun v g U t n => K v g U (T0 ++ t) n) f avs cs = some r → Does X w0 h0 F o E L nid K r := callG_ok T0 hen fun q hq => hC q (List.mem_cons_of_mem _ hq)
    unfold callX at e
    cases hg : Nat.beq g f with
    | false => rw [hg, bcF] at e; exact ih e
    | true =>
      rw [hg, bcT] at e
      have hgf : g = f := by simpa using hg
      subst hgf
      split at e
      · rename_i pp l m hres
        cases hn : (nod l && disj l m) with
        | false => rw [hn, bcF] at e; exact ih e
        | true =>
          rw [hn, bcT] at e
          simp only [Bool.and_eq_true] at hn
          split at e
          · rename_i Z hZ
            split at e
            · rename_i rs hrs
              obtain ⟨hroots, e⟩ := bc_t e
              simp only [Bool.and_eq_true, List.all_eq_true] at hroots
              obtain ⟨R, hR, e⟩ := ob e
              obtain ⟨outl, U, nid', h1, h2, _, h4⟩ := resK_ok (P := X.P) (w0 := w0) (h0 := h0) (F := F) _ _ _ _ _ e
              split at h1
              · rename_i v hv
                refine ⟨_, _, _, _, _, h1, h2, fun z hz => by rw [List.mem_singleton.1 hz]; rfl, fun L2 ν h φ a w next Q hd M hE ha0 hfr kk => ?_⟩
                have ha : ∀ i ∈ l ++ m, lk L2 i = lk L i := fun i hi => ha0 i (List.mem_append_right _ hi)
                obtain ⟨hcall, hok⟩ := hC _ (List.mem_cons_self ..)
                have hdis := disj_spec hn.2
                obtain ⟨avals, hlen, hvs, hexec⟩ := hen L2 ν h φ a w hd M hE (fun i hi => ha0 i (List.mem_append_left _ hi)) hcall
                have hH := M.lend_le m
                have hlook : LookAt L2 L φ (lend h w (fps φ m)) w m := M.look fun i hi => ha i (List.mem_append_right _ hi)
                have htr := resXs_ok M hH hres (fun i hi => ha i (List.mem_append_left _ hi)) hlook hn.1 hlen hvs
                have hnone : ∀ b ∈ fps φ l, lend h w (fps φ m) b = none := by
                  intro b hb
                  rw [lend_out (M.fps_dis hdis b hb)]
                  obtain ⟨i, _, hi⟩ := mem_fps.1 hb
                  exact (M.out i b hi).1
                have hcalls := hok _ w pp R avals _ (M.gl.le hH) M.fp (lend_on M.on) htr hnone hR
                unfold Oper.wp
                rw [hexec]
                refine Calls.mono hcalls ?_
                rintro e1 w' ⟨h', rvs, fp', rfl, hleft, hres', hback⟩
                have hzz : (freeze L m = some Z ∧ (if k.rs.any (shows X.G depth) = true then h' else h) = h') ∨ (Z = [] ∧ (if k.rs.any (shows X.G depth) = true then h' else h) = h) := by
                  cases hs : k.rs.any (shows X.G depth) with
                  | true => rw [hs] at hZ; exact .inl ⟨hZ, by simp⟩
                  | false => rw [hs] at hZ; cases hZ; exact .inr ⟨rfl, by simp⟩
                obtain ⟨φ', M', hfree⟩ := Mem.called (Z := Z) M hleft hdis ha hzz
                have hres2 : TrXs X.P X.G (if k.rs.any (shows X.G depth) = true then h' else h) w' k.rs R rvs fp' := by
                  cases hs : k.rs.any (shows X.G depth) with
                  | true => simpa using hres'
                  | false => simpa using unshowXs (h' := h) hres' hs
                have hgl : ∀ i ∈ rids rs, lk ((gones l ++ Z) ++ L2) i = .gone := by
                  intro i hi
                  have hil : i ∈ l := mem_any.1 (hroots.2 i hi)
                  rw [lk_app_in, gones_lk l Z hil]
                  simp only [kys, List.map_append]
                  exact List.mem_append_left _ (by have := gones_ky (τ := τ) l; rw [kys] at this; rw [this]; exact hil)
                have hRo : RootsOk ((gones l ++ Z) ++ L2) ν (nones k.nr rs) rvs := rootsN_ok (by
                  rw [hback]
                  exact roots_ok (P := X.P) (G := X.G) (h := h) hlen hvs hrs hroots.1 hgl)
                obtain ⟨ν', φ'', A, hxs⟩ := h4 _ w' ν _ φ' rvs fp' M' hres2 hfr hfree hRo
                rw [outs_nones (roots_some hrs)] at hxs
                have hle2 : h.le (if k.rs.any (shows X.G depth) = true then h' else h) := by
                  split
                  · exact hH.trans hleft.le
                  · exact Fz.le.refl _
                exact kk ν' _ φ'' w' _ (by rw [List.append_assoc]; exact A.mem) A.le hle2 A.fresh (tupX_ok hv hxs)
              · cases h1
            · cases e
          · cases e
      · exact ih e
theorem args_ok {args : List Operand} {avs : List (XV τ)} {x : Operand} {ats : Array TypeId} (hargs : evXs E args = some avs) (hd : a.defers = []) (hE : EnvOn X h ν a (rdO (.call ⟨.value x, ⟨args⟩, ats⟩)) E) :
    (args.map a.eval).length = avs.length ∧ ∀ (i : Nat) (A : XV τ) (v : Value), avs[i]? = some A → (args.map a.eval)[i]? = some v → XOk X.P X.G h ν A v := by
  obtain ⟨hlen, hidx⟩ := evXs_len hargs
  refine ⟨by simp [hlen], fun i A v hA hv => ?_⟩
  obtain ⟨z, hz, hzA⟩ := hidx i A hA
  rw [List.getElem?_map, hz] at hv
  cases hv
  exact ev_ok hd (hE.op (by simp only [Op.operands, Call.operands]; simp; exact .inr (List.mem_of_getElem? hz))) hzA
theorem callX_ok {f : Nat} {args : List Operand} {avs : List (XV τ)} {ats : Array TypeId} (hx : evC E x = some (.fn f)) (hargs : evXs E args = some avs) {cs : Cons τ} (hC : ∀ q ∈ cs, COk X.P X.G q.1 q.2) (e : callX X L nid K f avs cs = some r) :
    Does X w0 h0 F ⟨dst, .call ⟨.value x, ⟨args⟩, ats⟩, t, p, af, gd⟩ E L nid K r :=
  callG_ok [] (fun L2 ν h φ a w hd M hE _ hcall => by
    obtain ⟨h1, h2⟩ := args_ok hargs hd hE
    obtain ⟨Ea, hf, hl'⟩ := envA a hd
    obtain ⟨vx, g1, g2⟩ := evC_of hl' (hE.op (by simp [Op.operands, Call.operands])) hx
    obtain rfl : vx = _ := g2
    exact ⟨_, h1, h2, ex_callE (X := X) (w := w) (dst := dst) (t := t) (p := p) (af := af) (gd := gd) (ats := ats) (args := ⟨args⟩) (vs := args.map a.eval) hcall (hf.ev g1) (by simp)⟩) hC e
theorem ex_callC {f : Nat} {args : Array Operand} {us vs cs : List Value} {ats : Array TypeId} (hfn : Callable X.P f) (hv : a.eval x = .func (.func f) ⟨us⟩ ⟨cs⟩) (hargs : args.map a.eval = vs.toArray) :
    (execOp a.eval { dst := dst, op := .call { callee := .value x, args := args, argTypes := ats }, type := t, pos := p, after := af, guard := gd }).run X.P w = .ok (.enter f (us ++ (vs ++ cs)).toArray) w := by
  obtain ⟨fn, hfn, hbody, hname⟩ := hfn
  simp only [execOp, resolve, hargs]
  rw [hv]
  simp only [Deferred.ofValue]
  have hb : ¬ fn.body = none := by intro e; rw [e] at hbody; cases hbody
  have hn : ¬ fn.name = "runtime.NumGoroutine" := by intro e; rw [e] at hname; cases hname
  simp [invoke, callFunc, hfn, hn, hb]
theorem callL_ok {f : Nat} {args : List Operand} {avs : List (XV τ)} {ats : Array TypeId} {tc : Ty} {xc : tc.den τ} (hx : evC E x = some (.cl f tc xc)) (hargs : evXs E args = some avs) {cs : Cons τ} (hC : ∀ q ∈ cs, COk X.P X.G q.1 q.2) (e : callX X L nid K f (avs ++ [.c (tc.av xc)]) cs = some r) :
    Does X w0 h0 F ⟨dst, .call ⟨.value x, ⟨args⟩, ats⟩, t, p, af, gd⟩ E L nid K r :=
  callG_ok [] (fun L2 ν h φ a w hd M hE _ hcall => by
    obtain ⟨h1, h2⟩ := args_ok hargs hd hE
    obtain ⟨Ea, hf, hl'⟩ := envA a hd
    obtain ⟨vx, g1, g2⟩ := evC_of hl' (hE.op (by simp [Op.operands, Call.operands])) hx
    have g2 : Rp X.P X.G h (.cl f tc) xc vx := g2
    cases g2 with
    | cl _ _ _ u hr =>
      refine ⟨args.map a.eval ++ [u], by simp [h1], fun i A v hA hv => ?_, ?_⟩
      · by_cases hi : i < avs.length
        · rw [List.getElem?_append_left hi] at hA
          rw [List.getElem?_append_left (by omega)] at hv
          exact h2 i A v hA hv
        · rw [List.getElem?_append_right (by omega)] at hA
          rw [List.getElem?_append_right (by omega), h1] at hv
          cases hj : i - avs.length with
          | zero =>
            rw [hj] at hA hv
            cases hA
            cases hv
            exact av_ok hr
          | succ j => rw [hj] at hA; simp at hA
      · have := ex_callC (X := X) (w := w) (dst := dst) (t := t) (p := p) (af := af) (gd := gd) (ats := ats) (args := ⟨args⟩) (us := []) (vs := args.map a.eval) (cs := [u]) hcall (hf.ev g1) (by simp)
        simpa using this) hC e
theorem make_ok {f : Nat} {c : CV τ} (hx : evC E x = some c) (k : K (.c (.cf nid)) [] [(nid, .clo f [] [c])] [] (nid + 1) = some r) : Does X w0 h0 F ⟨dst, .makeFunc (.func f) ⟨[]⟩ ⟨[x]⟩, t, p, af, gd⟩ E L nid K r := by
  refine ⟨_, _, _, _, _, k, Nat.le_succ _, (fun _ h => by cases h), fun L2 ν h φ a w next Q hd M hE ha hfr kk => ?_⟩
  have hn := hfr nid (Nat.le_refl _) (Nat.lt_succ_self _)
  obtain ⟨Ea, hf, hl'⟩ := envA a hd
  obtain ⟨vx, g1, g2⟩ := evC_of hl' (hE.op (by simp [Op.operands])) hx
  have hrun : (execOp a.eval ⟨dst, .makeFunc (.func f) ⟨[]⟩ ⟨[x]⟩, t, p, af, gd⟩).run X.P w = .ok (.value (.func (.func f) ⟨[]⟩ ⟨[a.eval x]⟩)) w := by
    simp [execOp, Instr.makeFunc, Result.andThen]
  rw [hf.ev g1] at hrun
  refine wp_val hrun (kk (up1 ν nid (some (.func (.func f) ⟨[]⟩ ⟨[vx]⟩, none))) h _ w _ (M.add hn (.clo f [] [c]) _ (fp := []) ⟨_, _, _, rfl, rfl, rfl, ⟨vx, [], rfl, g2.le (Fz.le.refl _) (up1_le hn), rfl⟩⟩ (fun b hb => by cases hb)) (up1_le hn) (Fz.le.refl _) fresh_one ⟨f, _, _, none, up1_at _ _ _, rfl⟩)
theorem arK_ok {m : Int} {K : Nat → Option ρ} : ∀ {n k : Nat}, arK m n k K = some r → ∃ j, k ≤ j ∧ j < k + n ∧ m = (j : Int) ∧ K j = some r
  | 0, k, e => by cases e
  | n + 1, k, e => by
    unfold arK at e
    split at e
    · rename_i h
      exact ⟨k, Nat.le_refl _, by omega, by simpa [isN] using h, e⟩
    · obtain ⟨j, h1, h2, h3, h4⟩ := arK_ok e
      exact ⟨j, by omega, by omega, h3, h4⟩
theorem arr_ok {n s id j : Nat} {m : Int} {bt : TypeId} {cs : List (CV τ)} (ha : arO X.P t' = some (n, s)) (hx : evC E x = some (.pt id 0)) (hy : evC E y = some (.i m)) (hl : lk L id = .blk bt cs) (hj : j < n) (hm : m = (j : Int)) (k : K (.c (.pt id (j * s))) [] [] [id] nid = some r) :
    Does X w0 h0 F ⟨dst, .indexAddr t' x y, t, p, af, gd⟩ E L nid K r := by
  refine does_pure k fun L2 ν h φ a w hd M hE hal => ?_
  obtain ⟨Ea, hf, hl'⟩ := envA a hd
  obtain ⟨vx, h1, h2⟩ := evC_of hl' (hE.op (by simp [Op.operands])) hx
  obtain ⟨vy, h3, h4⟩ := evC_of hl' (hE.op (by simp [Op.operands])) hy
  obtain rfl : vy = _ := h4
  obtain ⟨u, q, g1, g2, _⟩ := h2
  have hr := M.res id
  rw [hal id (List.mem_singleton.2 rfl), hl] at hr
  obtain ⟨b, q', vs, g3, _, g4, _⟩ := hr
  rw [g1] at g3
  cases g3
  obtain rfl : vx = ptr b 0 := g2
  subst hm
  obtain ⟨e, hu, hs⟩ : ∃ e, X.P.underlying t' = some (.array n e) ∧ sizeO X.P e = some s := by
    unfold arO at ha
    split at ha
    · rename_i n' e he
      cases hb : Nat.ble n' 8 with
      | false => rw [hb] at ha; cases ha
      | true =>
        rw [hb] at ha
        dsimp only [cond_true] at ha
        split at ha
        · rename_i s' hs
          cases ha
          exact ⟨e, he, szO_ok hs⟩
        · cases ha
    · cases ha
  have hadd : (⟨b, 0, none⟩ : Addr).add (j * s) = ⟨b, j * s, none⟩ := by unfold Addr.add; split <;> simp_all
  refine ⟨ptr b (j * s), ?_, some ⟨b, 0, none⟩, q, g1, by simp [shiftV], fun _ => ⟨b, rfl⟩⟩
  refine ex_indexAddrA (fun w => ?_) hf h1 h3
  simp [Instr.indexAt, Instr.sureAddr, ptr, asIntOf, run_underlying hu, run_sizeO hs, hj, hadd, Result.andThen]
theorem fm_ok {m : UInt8 → Option Bool} {c : UInt8} {b : Bool} {ats : Array TypeId} (hf : evC E x = some (.fm m)) (hy : evC E y = some (.u8 c)) (hm : m c = some b) (k : K (.c (.b b)) [] [] [] nid = some r) : Does X w0 h0 F ⟨dst, .call ⟨.value x, ⟨[y]⟩, ats⟩, t, p, af, gd⟩ E L nid K r := by
  refine ⟨_, _, _, _, _, k, Nat.le_refl _, (fun _ h => by cases h), fun L2 ν h φ a w next Q hd M hE ha hn k => ?_⟩
  obtain ⟨Ea, hfi, hl'⟩ := envA a hd
  obtain ⟨vf, g1, g2⟩ := evC_of hl' (hE.op (by simp [Op.operands, Call.operands])) hf
  obtain ⟨vy, g3, g4⟩ := evC_of hl' (hE.op (by simp [Op.operands, Call.operands])) hy
  obtain rfl : vy = _ := g4
  have g2 : Rp X.P X.G h .fn m vf := g2
  cases g2 with
  | fn _ f hfn =>
    have hexec := ex_callE (X := X) (w := w) (dst := dst) (t := t) (p := p) (af := af) (gd := gd) (ats := ats) (args := ⟨[y]⟩) (vs := [byte c]) hfn.1 (hfi.ev g1) (by simp [hfi.ev g3])
    unfold Oper.wp
    rw [hexec]
    refine Calls.mono (hfn.2 c b w hm) ?_
    rintro e w' ⟨rfl, hb⟩
    exact k ν h φ w' _ (M.grow hb) (Vn.le.refl _) (Fz.le.refl _) (Fresh.refl _ _ _) rfl
theorem conv_i {n m : Int} {us : TypeDesc} (hx : evC E x = some (.i n)) (ht : X.P.underlying t' = some (.int .i64)) (hs : X.P.underlying ty = some us) (hr : iConv n = some m) (k : K (.c (.i m)) [] [] [] nid = some r) : Does X w0 h0 F ⟨dst, .convert ty t' x, t, p, af, gd⟩ E L nid K r := by
  refine does_pure k fun L2 ν h φ a w hd M hE ha => ?_
  obtain ⟨Ea, hf, hl'⟩ := envA a hd
  obtain ⟨vx, h1, h2⟩ := evC_of hl' (hE.op (by simp [Op.operands])) hx
  obtain rfl : vx = _ := h2
  exact ⟨_, ex_conv_p ht hs hf h1 hr, rfl⟩
theorem len_os {id e : Nat} {n : Nat} (hx : evC E x = some (.os id)) (hu : elO X.P t' = some e) (k : K (.c (.i (n : Int))) [] [] [id] nid = some r) (hn : (∃ te e xs kk, lk L id = .row te e xs kk ∧ xs.length = n) ∨ (∃ e xs, lk L id = .fz e xs ∧ xs.length = n)) :
    Does X w0 h0 F ⟨dst, .call ⟨.builtin .len, ⟨[x]⟩, ⟨[t']⟩⟩, t, p, af, gd⟩ E L nid K r := by
  refine does_pure k fun L2 ν h φ a w hd M hE ha => ?_
  obtain ⟨Ea, hf, hl'⟩ := envA a hd
  obtain ⟨vx, h1, h2⟩ := evC_of hl' (hE.op (by simp [Op.operands, Call.operands])) hx
  obtain ⟨ad, m, cp, q, hν, rfl⟩ := h2
  have hm : m = n := by
    have hr := M.res id
    rw [ha id (List.mem_singleton.2 rfl)] at hr
    rcases hn with ⟨te, e, xs, kk, hl, rfl⟩ | ⟨e, xs, hl, rfl⟩
    · rw [hl] at hr
      obtain ⟨v', q', vs, u, h3, h4, h5, _⟩ := hr
      rw [hν] at h3
      cases h3
      obtain ⟨_, ⟨e, hz⟩ | ⟨g, cap, cur, e, _⟩⟩ := h5
      · cases e; exact hz.symm
      · cases e; rfl
    · rw [hl] at hr
      obtain ⟨v', q', h3, _, h4⟩ := hr
      rw [hν] at h3
      cases h3
      cases h4; rfl
  subst hm
  exact ⟨_, ex_len_l (elO_ok hu) hf h1, rfl⟩
theorem opX_ok (hT : TyOk X) (hC : ∀ q ∈ X.cs, COk X.P X.G q.1 q.2) (e : opX X E L nid K o.op = some r) : Does X w0 h0 F o E L nid K r := by
  obtain ⟨dst, op, t, p, af, gd⟩ := o
  dsimp only at e
  unfold opX at e
  split at e
  · rename_i v hv
    exact does_pure e fun L2 ν h φ a w hd M hE ha => opP_ok hT hd M.on hE hv
  · split at e
    · split at e
      · rename_i A hA
        split at e
        · rename_i B hB
          split at e
          · split at e
            · rename_i hu
              exact en_does hu hA hB (fun _ _ _ _ => rfl) e
            · cases e
          · exact opI_ok hA hB e
        · cases e
      · cases e
    · split at e
      · rename_i hx
        exact nc_does hx (fun _ _ _ => rfl) e
      · cases e
    · split at e
      · rename_i hf
        split at e
        · rename_i hx
          exact fa_does hf hx (fun _ _ _ => rfl) e
        · cases e
      · cases e
    · split at e
      · rename_i hu
        split at e
        · rename_i hx
          split at e
          · rename_i hy
            obtain ⟨z, hz, e⟩ := ob e
            exact sAt_does hu hx hy hz e
          · cases e
        · cases e
      · cases e
    · split at e
      · rename_i hu
        split at e
        · rename_i l hx
          split at e
          · split at e
            · rename_i hy
              split at e
              · rename_i hz
                obtain ⟨s, hs, e⟩ := ob e
                refine sSlice_does hx (fun hf hl hE h1 => ?_) e
                obtain ⟨vy, h2, h3⟩ := evC_of hl (hE.op (by simp [Op.operands])) hy
                obtain ⟨vz, h4, h5⟩ := evC_of hl (hE.op (by simp [Op.operands])) hz
                obtain rfl : vy = _ := h3
                obtain rfl : vz = _ := h5
                exact ex_sub_s hu hf h1 h2 h4 hs
              · cases e
            · cases e
          · split at e
            · rename_i hy
              obtain ⟨s, hs, e⟩ := ob e
              refine sSlice_does hx (fun hf hl hE h1 => ?_) e
              obtain ⟨vy, h2, h3⟩ := evC_of hl (hE.op (by simp [Op.operands])) hy
              obtain rfl : vy = _ := h3
              exact ex_from_s hu hf h1 h2 hs
            · cases e
          · split at e
            · rename_i hz
              obtain ⟨s, hs, e⟩ := ob e
              refine sSlice_does hx (fun hf hl hE h1 => ?_) e
              obtain ⟨vz, h4, h5⟩ := evC_of hl (hE.op (by simp [Op.operands])) hz
              obtain rfl : vz = _ := h5
              exact ex_to_s hu hf h1 h4 hs
            · cases e
          · exact sSlice_does hx (fun hf hl hE h1 => ex_all_s hu hf h1) e
        · cases e
      · rename_i te hu
        split at e
        · rename_i c hx
          split at e
          · rename_i hv
            obtain ⟨hsz, e⟩ := bc_t e
            exact vw_does hu hx hv (szE_ok hsz).1 e
          · split at e
            · rename_i e' l U ids hs
              obtain ⟨hsz, e⟩ := bc_t e
              obtain ⟨hsz, _⟩ := szE_ok hsz
              split at e
              · split at e
                · rename_i hy
                  split at e
                  · rename_i hz
                    obtain ⟨s, hr, e⟩ := ob e
                    exact slice3 hu hx hs hsz hy hz hr e
                  · cases e
                · cases e
              · split at e
                · rename_i hy
                  obtain ⟨s, hr, e⟩ := ob e
                  exact slice1 hu hx hs hsz hy hr e
                · cases e
              · split at e
                · rename_i hz
                  obtain ⟨s, hr, e⟩ := ob e
                  exact slice2 hu hx hs hsz hz hr e
                · cases e
              · cases e
            · cases e
        · cases e
      · cases e
    · split at e
      · rename_i hx
        split at e
        · rename_i hs
          split at e
          · rename_i hd'
            obtain ⟨m, hm, e⟩ := ob e
            exact conv_i hx hd' hs hm e
          · cases e
        · cases e
      · rename_i hx
        split at e
        · rename_i hs
          split at e
          · rename_i hd'
            split at e
            · rename_i he
              exact bytes_ok hx hs hd' he e
            · cases e
          · cases e
        · cases e
      · rename_i hx
        split at e
        · rename_i hd'
          split at e
          · rename_i hs
            split at e
            · rename_i he
              split at e
              · rename_i hr
                exact str_ok hx hd' hs he hr e
              · cases e
            · cases e
          · cases e
        · cases e
      · cases e
    · split at e
      · rename_i hz
        exact alloc_ok hz e
      · cases e
    · split at e
      · rename_i hA
        split at e
        · rename_i hc
          exact box_ok hA hc e
        · cases e
      · cases e
    · split at e
      · rename_i hx
        exact loadX_ok hx e
      · cases e
    · split at e
      · rename_i A hA
        split at e
        · rename_i vs hc
          split at e
          · rename_i n hn
            obtain ⟨hl, e⟩ := bc_t e
            have hl : vs.length = n := by simpa using hl
            split at e
            · rename_i c hx
              unfold storeX at e
              split at e
              · split at e
                · rename_i hlk
                  split at e
                  · rename_i hp
                    exact storeB_ok hA hc hn hl hx hlk hp e
                  · cases e
                · cases e
              · split at e
                · rename_i hlk
                  have hk := Nat.eq_of_beq_eq_true (bc_t e).1
                  replace e := (bc_t e).2
                  subst hk
                  split at e
                  · rename_i hp
                    split at e
                    · rename_i hq
                      split at e
                      · rename_i hz
                        split at e
                        · rename_i hU
                          obtain ⟨hid, e⟩ := bc_f e
                          obtain ⟨l, hs, e⟩ := ob e
                          exact storeR_ok hA hc hn hl hx hlk hp hq hz hU hid hs e
                        · cases e
                      · cases e
                    · cases e
                  · cases e
                · cases e
              · cases e
            · cases e
          · cases e
        · cases e
      · cases e
    · split at e
      · rename_i ha
        split at e
        · rename_i hy
          split at e
          · rename_i hx
            split at e
            · rename_i hl
              obtain ⟨j, _, h2, h3, e⟩ := arK_ok e
              exact arr_ok ha hx hy hl (by omega) h3 e
            · cases e
          · cases e
        · cases e
      · split at e
        · rename_i te hel
          split at e
          · rename_i m hy
            split at e
            · rename_i e' xs hx
              obtain ⟨hsz, e⟩ := bc_t e
              obtain ⟨hsz, hpos⟩ := szE_ok hsz
              obtain ⟨d, hd, e⟩ := ob e
              exact ix_ok hT hel hx hy hd hsz hpos e fun _ _ _ _ _ _ _ _ h => h
            · rename_i id hx
              split at e
              · rename_i hlk
                obtain ⟨hsz, e⟩ := bc_t e
                obtain ⟨hsz, hpos⟩ := szE_ok hsz
                obtain ⟨d, hd, e⟩ := ob e
                exact ixo_ok hel hx hy hlk hd hsz hpos e
              · rename_i hlk
                obtain ⟨hsz, e⟩ := bc_t e
                obtain ⟨hsz, hpos⟩ := szE_ok hsz
                obtain ⟨d, hd, e⟩ := ob e
                refine ix_ok hT hel hx hy hd hsz hpos e fun L2 ν h φ w u M ha hu => ?_
                obtain ⟨ad, n, cp, q, hν, rfl⟩ := hu
                have hr := M.res id
                rw [ha id (List.mem_singleton.2 rfl), hlk] at hr
                obtain ⟨v', q', h3, _, h4⟩ := hr
                rw [hν] at h3
                cases h3
                exact h4
              · cases e
            · cases e
          · cases e
        · cases e
    · split at e
      · rename_i hel
        split at e
        · rename_i hte
          split at e
          · rename_i hx
            obtain ⟨hb, e⟩ := bc_t e
            simp only [Bool.and_eq_true, Nat.beq_eq, Nat.ble_eq] at hb
            split at e
            · rename_i hU
              exact bs_ok hT hel hte hx hb.1 hb.2 hU e
            · cases e
          · cases e
        · cases e
      · cases e
    · split at e
      · rename_i id hx
        split at e
        · rename_i hu
          split at e
          · rename_i hl
            exact len_os hx hu e (.inl ⟨_, _, _, _, hl, rfl⟩)
          · rename_i hl
            exact len_os hx hu e (.inr ⟨_, _, hl, rfl⟩)
          · rename_i hl
            exact lenv_does hx hl hu e
          · cases e
        · cases e
      · cases e
    · split at e
      · rename_i te hel
        split at e
        · rename_i e' hte
          split at e
          · rename_i hx
            split at e
            · rename_i hA
              split at e
              · rename_i hy
                split at e
                · rename_i hu
                  split at e
                  · rename_i hl
                    obtain ⟨hb, e⟩ := bc_t e
                    obtain ⟨hfit, e⟩ := og e
                    exact appendS_ok hel hx hA hy hu hl hb hfit e
                  · cases e
                · cases e
              · rename_i hy
                have hb := Nat.eq_of_beq_eq_true (bc_t e).1
                replace e := (bc_t e).2
                subst hb
                exact app0_ok hT hel hel hte hx hA hy e rfl
              · rename_i hy
                split at e
                · rename_i hB
                  have hb := (bc_t e).1
                  replace e := (bc_t e).2
                  simp only [Bool.and_eq_true, Nat.beq_eq] at hb
                  obtain ⟨hdj, rfl⟩ := hb
                  obtain ⟨hfit, e⟩ := og e
                  exact appendR_ok hT hel hel hte hx hA hy hB hdj hfit e rfl
                · cases e
              · cases e
            · cases e
          · cases e
        · cases e
      · cases e
    · split at e
      · rename_i hx
        split at e
        · rename_i hargs
          exact callX_ok hx hargs hC e
        · cases e
      · rename_i hx
        split at e
        · rename_i hargs
          exact callL_ok hx hargs hC e
        · cases e
      · rename_i hf
        split at e
        · split at e
          · rename_i hy
            obtain ⟨b, hb, e⟩ := ob e
            exact fm_ok hf hy hb e
          · cases e
        · cases e
      · cases e
    · split at e
      · rename_i hx
        exact make_ok hx e
      · cases e
    · cases e
end
end Go.Rk
end
section
namespace Go.Rk
open Go.RowKit Go.Dm Go.Dk
variable {τ : Nat → Type}
section
variable {ρ : Type} {X : Cx τ} {w0 w w' : World} {h0 h h' : Fz} {F : List Nat} {o : Oper} {E E' E'' : EnvX τ} {L L2 : Hp τ} {ν ν' : Vn τ} {φ φ' : Nat → List Nat} {nid nid' : Nat} {r : ρ} {a : Act}
def EnvOk (X : Cx τ) (h : Fz) (ν : Vn τ) (a : Act) (E : EnvX τ) : Prop := ∀ t x, asc E t = some x → SlotOk X h ν a t x
theorem EnvOk.on (hE : EnvOk X h ν a E) (l : List Nat) : EnvOn X h ν a l E := fun t _ x e => hE t x e
theorem SlotOk.le (hh : h.le h') (hν : ν.le ν') {t : Nat} {x : XV τ} (hs : SlotOk X h ν a t x) : SlotOk X h' ν' a t x :=
  let ⟨v, h1, h2⟩ := hs; ⟨v, h1.le hh hν, h2⟩
def Ref (E E' : EnvX τ) : Prop := ∀ t x, asc E' t = some x → asc E t = some x ∨ ∃ b, x = .c (.k b) ∧ asc E t = some (.c (.b b))
theorem Ref.refl (E : EnvX τ) : Ref E E := fun _ _ e => .inl e
theorem SlotOk.ref {t : Nat} {b : Bool} (hs : SlotOk X h ν a t (.c (.b b))) : SlotOk X h ν a t (.c (.k b)) := hs
theorem Ref.env (hr : Ref E E') (hE : EnvOk X h ν a E) : EnvOk X h ν a E' := by
  intro t x e
  rcases hr t x e with h1 | ⟨b, rfl, h1⟩
  · exact hE t x h1
  · exact (hE t _ h1).ref
theorem Ref.on {l : List Nat} (hr : Ref E E') (hE : EnvOn X h ν a l E) : EnvOn X h ν a l E' := by
  intro t ht x e
  rcases hr t x e with h1 | ⟨b, rfl, h1⟩
  · exact hE t ht x h1
  · exact (hE t ht _ h1).ref
theorem asc_app {α : Type} : ∀ (U L : List (Nat × α)) (t : Nat), asc (U ++ L) t = match asc U t with
    | some v => some v
    | none => asc L t
  | [], L, t => rfl
  | (k, v) :: U, L, t => by
    simp only [List.cons_append, asc_nil, asc_cons]
    cases Nat.beq k t with
    | true => rfl
    | false => exact asc_app U L t
theorem Ref.app (hr : Ref E E') (N : EnvX τ) : Ref (N ++ E) (N ++ E') := by
  intro t x e
  rw [asc_app] at e ⊢
  cases hn : asc N t with
  | some v => rw [hn] at e; exact .inl e
  | none => rw [hn] at e; exact hr t x e
theorem Ref.known (hr : Ref E E') {s : Nat} {b : Bool} (hb : asc E' s = some (.c (.b b))) : Ref E ((s, .c (.k b)) :: E') := by
  intro t x e
  simp only [asc_nil, asc_cons] at e
  cases hst : Nat.beq s t with
  | true =>
    rw [hst] at e
    cases e
    have : s = t := by simpa using hst
    subst this
    rcases hr s _ hb with h1 | ⟨b', h1, _⟩
    · exact .inr ⟨b, rfl, h1⟩
    · cases h1
  | false => rw [hst] at e; exact hr t x e
theorem Ref.trans (h1 : Ref E E') (h2 : Ref E' E'') : Ref E E'' := by
  intro t x e
  rcases h2 t x e with h3 | ⟨b, rfl, h3⟩
  · exact h1 t x h3
  · rcases h1 t _ h3 with h4 | ⟨b', h4, _⟩
    · exact .inr ⟨b, rfl, h4⟩
    · cases h4
theorem dstO_eq {all : List Oper} {j s : Nat} (e : dstO all j = some s) : (all.toArray[j]?).bind (·.dst) = some s := by
  unfold dstO at e
  split at e
  · rename_i o ho
    rw [nthL_eq] at ho
    simp [ho, e]
  · cases e
theorem guardX_ok {all : List Oper} {g : Option (Nat × Bool)} {run pass : EnvX τ → Option ρ} (e : guardX all E g run pass = some r) :
    ∃ (m : Bool) (E' : EnvX τ), (if m then run E' else pass E') = some r ∧ Ref E E' ∧ ∀ (X : Cx τ) (h : Fz) (ν : Vn τ) (a : Act) (o : Oper), o.guard = g → EnvOn X h ν a (gdR all g) E → Region.wanted o (yielded all.toArray a.tmps) = m := by
  unfold guardX hi at e
  split at e
  · exact ⟨true, E, e, Ref.refl E, fun X h ν a o hg _ => by simp [Region.wanted, hg]⟩
  · rename_i j w
    split at e
    · rename_i s hs
      obtain ⟨hlt, e⟩ := bc_t e
      have hs' := dstO_eq hs
      have hy : ∀ {X : Cx τ} {h : Fz} {ν : Vn τ} {a : Act} {x : XV τ}, EnvOn X h ν a (gdR all (some (j, w))) E → asc E s = some x → isGv x = false → ∃ v, XOk X.P X.G h ν x v ∧ a.tmps[s]? = some v := by
        intro X h ν a x hE hx hg
        obtain ⟨v, h1, h2, _⟩ := hE s (by simp [gdR, hs, hlt]) x hx
        exact ⟨v, h1, h2 hlt hg⟩
      have hb : ∀ {b : Bool} {X : Cx τ} {h : Fz} {ν : Vn τ} {a : Act} {o : Oper}, (asc E s = some (.c (.b b)) ∨ asc E s = some (.c (.k b))) → o.guard = some (j, w) → EnvOn X h ν a (gdR all (some (j, w))) E → Region.wanted o (yielded all.toArray a.tmps) = (b == w) := by
        intro b X h ν a o hx hg hE
        have : a.tmps[s]? = some (.bool b) := by
          rcases hx with hx | hx
          · obtain ⟨v, h1, h2⟩ := hy hE hx rfl; rw [h2, show v = _ from h1]
          · obtain ⟨v, h1, h2⟩ := hy hE hx rfl; rw [h2, show v = _ from h1]
        have hyl : yielded all.toArray a.tmps j = some b := by
          unfold yielded; rw [hs']; simp [this]
        cases b <;> cases w <;> simp [Region.wanted, hg, hyl]
      split at e
      · rename_i hx
        refine ⟨false, E, e, Ref.refl E, fun X h ν a o hg hE => ?_⟩
        obtain ⟨v, h1, h2⟩ := hy hE hx rfl
        have hyl : yielded all.toArray a.tmps j = none := by
          unfold yielded; rw [hs']; simp [h2, show v = undef from h1, undef]
        simp [Region.wanted, hg, hyl]
      · rename_i b hx
        refine ⟨b == w, E, ?_, Ref.refl E, fun X h ν a o hg hE => hb (.inr hx) hg hE⟩
        cases b <;> cases w <;> exact e
      · rename_i b hx
        cases b with
        | true =>
          rw [if_pos rfl] at e
          refine ⟨true == w, _, ?_, (Ref.refl E).known hx, fun X h ν a o hg hE => hb (.inl hx) hg hE⟩
          cases w <;> exact e
        | false =>
          rw [if_neg (by simp)] at e
          refine ⟨false == w, _, ?_, (Ref.refl E).known hx, fun X h ν a o hg hE => hb (.inl hx) hg hE⟩
          cases w <;> exact e
      · cases e
    · cases e

structure St (X : Cx τ) (w0 : World) (h0 : Fz) (F : List Nat) (E : EnvX τ) (L : Hp τ) (nid : Nat) (a : Act) (w : World) : Prop where
  nodef : a.defers = []
  size : a.tmps.size = X.n
  st : ∃ ν h φ, Mem X.P X.G w0 h0 F L w ν h φ ∧ EnvOk X h ν a E ∧ ∀ i, nid ≤ i → ν i = none
theorem St.ref (s : St X w0 h0 F E L nid a w) (hr : Ref E E') : St X w0 h0 F E' L nid a w :=
  ⟨s.nodef, s.size, let ⟨ν, h, φ, M, hE, hn⟩ := s.st; ⟨ν, h, φ, M, hr.env hE, hn⟩⟩
def newE (l : List Oper) (d : Option Nat) (v : XV τ) (g : List (XV τ)) : EnvX τ := putT v (ghost g l d []) d
theorem nextE_eq (l : List Oper) (d : Option Nat) (v : XV τ) (g : List (XV τ)) (E : EnvX τ) : nextE l d v g E = newE l d v g ++ E := by
  unfold nextE newE putT ghost
  cases d with
  | none =>
    cases g with
    | nil => rfl
    | cons x g => cases g <;> rfl
  | some d =>
    cases g with
    | nil => rfl
    | cons x g => cases g <;> rfl
theorem unT_eq (d : Option Nat) (E : EnvX τ) : unT E d = newE [] d .un [] ++ E := by cases d <;> rfl
theorem gv_slot {t : Nat} {x : XV τ} (hg : isGv x = true) : SlotOk X h ν a t x := by
  cases x with
  | gv t' y => exact ⟨if t < 20000 then X.fx (t - gh) else ptr (t - gb) 0, trivial, (fun _ e => by cases e), fun h => if_neg (by unfold gb at h; omega), fun _ h => if_pos h⟩
  | _ => cases hg
theorem newE_ok {l : List Oper} {d : Option Nat} {v : XV τ} {g : List (XV τ)} {u : Value} (hN : X.n ≤ gh) (hd : dOk X.n d = true) (hs : a.tmps.size = X.n) (hg : ∀ x ∈ g, isGv x = true) (hv : XOk X.P X.G h ν v u) (hE : ∀ t x, asc E t = some x → d ≠ some t → SlotOk X h ν a t x) :
    EnvOk X h ν (a.put d u) (newE l d v g ++ E) := by
  have old : ∀ t x, asc E t = some x → d ≠ some t → SlotOk X h ν (a.put d u) t x := by
    intro t x e hne
    obtain ⟨v', h1, h2, h3⟩ := hE t x e hne
    refine ⟨v', h1, fun a1 a2 => ?_, h3⟩
    cases d with
    | none => exact h2 a1 a2
    | some d =>
      have : d ≠ t := fun e => hne (by rw [e])
      simp [Act.put, this, h2 a1 a2]
  have gh_ok : ∀ t x, asc (ghost g l d []) t = some x → SlotOk X h ν (a.put d u) t x := by
    intro t x e
    unfold ghost at e
    split at e
    · rename_i y
      have hy := hg y (List.mem_singleton.2 rfl)
      cases d with
      | none =>
        simp only [asc_nil, asc_cons] at e
        cases hb : Nat.beq (30000 + l.length % 10000) t with
        | true => rw [hb] at e; cases e; exact gv_slot hy
        | false => rw [hb] at e; cases e
      | some d =>
        simp only [asc_nil, asc_cons] at e
        cases hb : Nat.beq (20000 + d) t with
        | true => rw [hb] at e; cases e; exact gv_slot hy
        | false => rw [hb] at e; cases e
    · cases e
  intro t x e
  unfold newE putT at e
  cases d with
  | none =>
    simp only at e
    rw [asc_app] at e
    cases hgt : asc (ghost g l none []) t with
    | some y => rw [hgt] at e; cases e; exact gh_ok t _ hgt
    | none => rw [hgt] at e; exact old t x e (by simp)
  | some d =>
    simp only [List.cons_append, asc_nil, asc_cons] at e
    cases hb : Nat.beq d t with
    | true =>
      rw [hb] at e
      cases e
      have : d = t := by simpa using hb
      subst this
      have hlt : d < X.n := by simpa [dOk] using hd
      refine ⟨u, hv, fun _ _ => ?_, fun hge => ?_, fun hge => ?_⟩
      · simp [Act.put, hs, hlt]
      · exfalso
        unfold gb at hge; unfold gh at hN; omega
      · exfalso; omega
    | false =>
      rw [hb, cond_false, asc_app] at e
      cases hgt : asc (ghost g l (some d) []) t with
      | some y => rw [hgt] at e; cases e; exact gh_ok t _ hgt
      | none =>
        rw [hgt] at e
        refine old t x e ?_
        intro e2
        cases e2
        simp at hb
theorem EnvOk.le (hh : h.le h') (hν : ν.le ν') (hE : EnvOk X h ν a E) : EnvOk X h' ν' a E := fun t x e => (hE t x e).le hh hν
theorem put_size (a : Act) (d : Option Nat) (v : Value) : (a.put d v).tmps.size = a.tmps.size := by cases d <;> simp [Act.put]
theorem put_def (a : Act) (d : Option Nat) (v : Value) : (a.put d v).defers = a.defers := by cases d <;> rfl
theorem opsX_ok (hT : TyOk X) (hC : ∀ q ∈ X.cs, COk X.P X.G q.1 q.2) (hN : X.n ≤ gh) {all : List Oper} {Q : Exit → Act → World → Prop} {K : EnvX τ → Hp τ → Nat → Option ρ}
    (hK : ∀ E L nid a w, K E L nid = some r → St X w0 h0 F E L nid a w → Q .normal a w) : ∀ {l : List Oper} {E : EnvX τ} {L : Hp τ} {nid : Nat} {a : Act} {w : World}, opsX X all l E L nid K = some r → St X w0 h0 F E L nid a w → wpList X.P all.toArray Q l a w
  | [], E, L, nid, a, w, e, s => hK _ _ _ _ _ e s
  | o :: l, E, L, nid, a, w, e, s => by
    unfold opsX at e
    obtain ⟨hd, e⟩ := bc_t e
    obtain ⟨m, E', e, hr, hw⟩ := guardX_ok e
    obtain ⟨ν, h, φ, M, hE, hn⟩ := s.st
    have hwant := hw X h ν a o rfl (hE.on _)
    unfold wpList
    rw [hwant]
    cases m with
    | false =>
      simp only [Bool.false_eq_true, if_false] at e ⊢
      rw [unT_eq] at e
      refine opsX_ok hT hC hN hK e ⟨?_, ?_, ν, h, φ, M, ?_, hn⟩
      · rw [put_def]; exact s.nodef
      · rw [put_size]; exact s.size
      · exact newE_ok hN hd s.size (fun _ h => by cases h) rfl fun t x e _ => hr.env hE t x e
    | true =>
      simp only [if_true] at e ⊢
      left
      obtain ⟨v, g, U, tch, nid', e1, hle, hg, hok⟩ := opX_ok (w0 := w0) (h0 := h0) (F := F) hT hC e
      refine hok L ν h φ a w _ Q s.nodef M ((hr.env hE).on _) (fun _ _ => rfl) (fun i h1 _ => hn i h1) fun ν' h' φ' w' u M' hν hh hfr hv => ?_
      simp only [nextE_eq] at e1
      refine opsX_ok hT hC hN hK e1 ⟨?_, ?_, ν', h', φ', M', ?_, fun i hi => ?_⟩
      · rw [put_def]; exact s.nodef
      · rw [put_size]; exact s.size
      · exact newE_ok hN hd s.size hg hv fun t x e _ => ((hr.env hE).le hh hν) t x e
      · cases e : ν' i with
        | none => rfl
        | some y =>
          have := hfr i (hn i (by omega)) (by rw [e]; simp)
          omega
end
end Go.Rk
end
section
namespace Go.Rk
open Go.RowKit Go.Dm Go.Dk
variable {τ : Nat → Type}

section
variable {R α : Type}
noncomputable def accS (q : R → List (Nat × α)) : List R → Nat → (Nat → Bool) → List (Nat × α) → List (Nat × α)
  | [], _, _, B => B
  | r :: rs, i, f, B => accS q rs (i + 1) f (if f i = true then q r ++ B else B)
noncomputable def lookS (q : R → List (Nat × α)) : List R → Nat → (Nat → Bool) → Nat → Option α
  | [], _, _, _ => none
  | r :: rs, i, f, t => match lookS q rs (i + 1) f t with
    | some v => some v
    | none => if f i = true then asc (q r) t else none
theorem asc_accS (q : R → List (Nat × α)) : ∀ (rs : List R) (i : Nat) (f : Nat → Bool) (B : List (Nat × α)) (t : Nat), asc (accS q rs i f B) t = match lookS q rs i f t with
    | some v => some v
    | none => asc B t
  | [], _, _, _, _ => rfl
  | r :: rs, i, f, B, t => by
    simp only [accS, lookS]
    rw [asc_accS q rs (i + 1) f _ t]
    cases lookS q rs (i + 1) f t with
    | some v => rfl
    | none =>
      by_cases hf : f i = true
      · simp only [hf, if_true]
        first
          | (rw [asc_app]; done)
          | (rw [asc_app]; cases asc (q r) t <;> rfl)
      · simp only [hf, if_false, Bool.false_eq_true]
def wr (l : List (Nat × α)) (t : Nat) : Prop := ∃ v, asc l t = some v
theorem lookS_congr (q : R → List (Nat × α)) {f f' : Nat → Bool} {t : Nat} : ∀ (rs : List R) (i : Nat), (∀ j r, rs[j]? = some r → wr (q r) t → f (i + j) = f' (i + j)) → lookS q rs i f t = lookS q rs i f' t
  | [], _, _ => rfl
  | r :: rs, i, h => by
    simp only [lookS]
    rw [lookS_congr q (f := f) (f' := f') (t := t) rs (i + 1) fun j r' hj hw => by
      have := h (j + 1) r' (by simpa using hj) hw
      rwa [show i + (j + 1) = i + 1 + j by omega] at this]
    cases lookS q rs (i + 1) f' t with
    | some v => rfl
    | none =>
      cases ha : asc (q r) t with
      | none => simp
      | some v =>
        have := h 0 r rfl ⟨v, ha⟩
        simp only [Nat.add_zero] at this
        simp [this]
theorem lookS_none (q : R → List (Nat × α)) {f : Nat → Bool} {t : Nat} : ∀ (rs : List R) (i : Nat), (∀ j r, rs[j]? = some r → wr (q r) t → f (i + j) = false) → lookS q rs i f t = none
  | [], _, _ => rfl
  | r :: rs, i, h => by
    simp only [lookS]
    rw [lookS_none q rs (i + 1) fun j r' hj hw => by
      have := h (j + 1) r' (by simpa using hj) hw
      rwa [show i + (j + 1) = i + 1 + j by omega] at this]
    cases ha : asc (q r) t with
    | none => simp
    | some v => simp [show f i = false from h 0 r rfl ⟨v, ha⟩]
theorem lookS_last (q : R → List (Nat × α)) {f : Nat → Bool} {t : Nat} {v : α} : ∀ (rs : List R) (i k : Nat) (r : R), rs[k]? = some r → f (i + k) = true → asc (q r) t = some v → (∀ j r', rs[j]? = some r' → wr (q r') t → k < j → f (i + j) = false) → lookS q rs i f t = some v
  | [], _, _, _, hr, _, _, _ => by simp at hr
  | r0 :: rs, i, 0, r, hr, hf, hv, h => by
    simp at hr
    subst hr
    simp only [lookS]
    rw [lookS_none q rs (i + 1) fun j r' hj hw => by
      have := h (j + 1) r' (by simpa using hj) hw (by omega)
      rwa [show i + (j + 1) = i + 1 + j by omega] at this]
    simp only [Nat.add_zero] at hf
    simp [hf, hv]
  | r0 :: rs, i, k + 1, r, hr, hf, hv, h => by
    simp only [lookS]
    rw [lookS_last q rs (i + 1) k r (by simpa using hr) (by rwa [show i + 1 + k = i + (k + 1) by omega]) hv fun j r' hj hw hlt => by
      have := h (j + 1) r' (by simpa using hj) hw (by omega)
      rwa [show i + (j + 1) = i + 1 + j by omega] at this]
end
theorem lk_asc : ∀ (L : Hp τ) (i : Nat), lk L i = match asc L i with
    | some r => r
    | none => .gone
  | [], _ => rfl
  | (k, v) :: L, i => by
    simp only [lk_nil, lk_cons, asc_nil, asc_cons]
    cases Nat.beq k i with
    | true => rfl
    | false => exact lk_asc L i
theorem wr_kys {U : Hp τ} {i : Nat} : wr U i ↔ i ∈ kys U := by
  constructor
  · rintro ⟨v, h⟩
    exact List.mem_map.2 ⟨_, asc_mem h, rfl⟩
  · intro h
    induction U with
    | nil => cases h
    | cons p U ih =>
      by_cases e : p.1 = i
      · exact ⟨p.2, by obtain ⟨k, v⟩ := p; simp at e; subst e; simp [asc_nil, asc_cons]⟩
      · obtain ⟨k, v⟩ := p
        rcases List.mem_cons.1 h with h | h
        · exact (e h.symm).elim
        · obtain ⟨u, hu⟩ := ih h
          exact ⟨u, by simp only [asc_nil, asc_cons]; rw [nbeq_false.2 e]; exact hu⟩

def befO (all : List Oper) (i : Nat) : List Nat := match all[i]? with
  | none => []
  | some o => (o.after.toList.filter (Region.binds .any)).map (·.on)
theorem aheads_pre : ∀ (l : List Oper) (P : List (List Nat)) (k : Nat), k < P.length → nthL (aheads P l) k = nthL P k
  | [], P, k, _ => rfl
  | o :: l, P, k, hk => by
    unfold aheads
    rw [aheads_pre l _ k (by simp; omega), nthL_eq, nthL_eq, List.getElem?_append_left hk]
theorem aheads_at : ∀ (l : List Oper) (P : List (List Nat)) (j : Nat) (o : Oper), l[j]? = some o → ∃ P', P'.length = P.length + j ∧ (∀ k, k < P.length + j → nthL P' k = nthL (aheads P l) k) ∧ nthL (aheads P l) (P.length + j) = some (aheadO P' o)
  | [], P, j, o, h => by simp at h
  | o' :: l, P, 0, o, h => by
    simp at h
    subst h
    refine ⟨P, rfl, fun k hk => ?_, ?_⟩
    · rw [aheads_pre (o' :: l) P k (by omega)]
    · unfold aheads
      rw [aheads_pre l _ _ (by simp), nthL_eq]
      simp
  | o' :: l, P, j + 1, o, h => by
    unfold aheads
    obtain ⟨P', h1, h2, h3⟩ := aheads_at l (P ++ [aheadO P o']) j o (by simpa using h)
    simp only [List.length_append, List.length_singleton] at h1 h2 h3
    refine ⟨P', by omega, fun k hk => h2 k (by omega), ?_⟩
    rw [show P.length + (j + 1) = P.length + 1 + j by omega]
    exact h3
theorem ahead_done {all : List Oper} {f : Nat → Bool} (hcl : ∀ j, f j = true → ∀ e ∈ befO all j, f e = true) : ∀ (j : Nat) (l : List Nat), nthL (aheads [] all) j = some l → (∀ e ∈ befO all j, f e = true) → ∀ e ∈ l, f e = true := by
  intro j
  induction j using Nat.strongRecOn with
  | _ j ih =>
    intro l hl hb e he
    have hj : j < all.length := by
      rcases Nat.lt_or_ge j all.length with h | h
      · exact h
      · exfalso
        have hlen : ∀ (l : List Oper) (P : List (List Nat)), (aheads P l).length = P.length + l.length := by
          intro l
          induction l with
          | nil => intro P; rfl
          | cons o l ih => intro P; unfold aheads; rw [ih]; simp; omega
        rw [nthL_eq] at hl
        have := (List.getElem?_eq_some_iff.1 hl).1
        rw [hlen] at this
        simp at this; omega
    obtain ⟨P', h1, h2, h3⟩ := aheads_at all [] j all[j] (List.getElem?_eq_getElem hj)
    simp only [List.length_nil, Nat.zero_add] at h1 h2 h3
    rw [h3] at hl
    cases hl
    unfold aheadO at he
    obtain ⟨ed, hed, he⟩ := List.mem_flatMap.1 he
    have hbe : ed.on ∈ befO all j := by
      unfold befO
      rw [List.getElem?_eq_getElem hj]
      exact List.mem_map.2 ⟨ed, hed, rfl⟩
    have hfe := hb _ hbe
    rcases List.mem_cons.1 he with rfl | he
    · exact hfe
    · split at he
      · rename_i l' hl'
        have hlt : ed.on < j := by
          rw [nthL_eq] at hl'
          have := (List.getElem?_eq_some_iff.1 hl').1
          omega
        rw [h2 _ hlt] at hl'
        exact ih _ hlt l' hl' (hcl _ hfe) e he
      · cases he

structure Rec (τ : Nat → Type) where
  o : Oper
  W : EnvX τ
  E : EnvX τ
  L : Hp τ
  lo : Nat
  hi : Nat
  v : XV τ
  g : List (XV τ)
  ls : List Oper
  U : Hp τ
  t : List Nat
  run : Bool
def Rec.ne (r : Rec τ) : EnvX τ := newE r.ls r.o.dst r.v r.g
section
variable {ρ : Type} {X : Cx τ} {w0 w w' : World} {h0 h h' : Fz} {F : List Nat} {o : Oper} {E E' Eb : EnvX τ} {L L2 : Hp τ} {ν ν' : Vn τ} {φ φ' : Nat → List Nat} {nid nid' : Nat} {r : ρ} {a : Act}
structure RecOk (X : Cx τ) (w0 : World) (h0 : Fz) (F : List Nat) (all : List Oper) (Eb : EnvX τ) (q : Rec τ) : Prop where
  refw : Ref Eb q.W
  ref : Ref Eb q.E
  up : q.lo ≤ q.hi
  dst : dOk X.n q.o.dst = true
  want : ∀ (h : Fz) (ν : Vn τ) (a : Act), EnvOn X h ν a (gdR all q.o.guard) q.W → Region.wanted q.o (yielded all.toArray a.tmps) = q.run
  gv : ∀ x ∈ q.g, isGv x = true
  pass : q.run = false → q.U = [] ∧ q.v = .un
  does : q.run = true → Ok1 X w0 h0 F q.o q.E q.L q.lo q.v q.U q.t q.hi
def Chain (X : Cx τ) (w0 : World) (h0 : Fz) (F : List Nat) (all : List Oper) : List Oper → EnvX τ → Hp τ → Nat → List (Rec τ) → EnvX τ → Hp τ → Nat → Prop
  | [], Eb, L, nid, [], E', L', nid' => E' = Eb ∧ L' = L ∧ nid' = nid
  | o :: l, Eb, L, nid, q :: qs, E', L', nid' => q.o = o ∧ q.L = L ∧ q.lo = nid ∧ RecOk X w0 h0 F all Eb q ∧ Chain X w0 h0 F all l (q.ne ++ Eb) (q.U ++ L) q.hi qs E' L' nid'
  | _, _, _, _, _, _, _, _ => False
def drs (all : List Oper) : Nat → List (Rec τ) → List Dr
  | _, [] => []
  | i, q :: qs => ⟨i, q.o.dst, readsO all q.o, (if q.run = true then q.t ++ kys q.U else []), kys q.U⟩ :: drs all (i + 1) qs
theorem dpath (hT : TyOk X) (hC : ∀ q ∈ X.cs, COk X.P X.G q.1 q.2) {all : List Oper} {K : EnvX τ → Hp τ → Nat → Option ρ} : ∀ {l : List Oper} {i : Nat} {R : List Dr} {E Eb : EnvX τ} {L : Hp τ} {nid : Nat}, dopsX X all i l R E L nid K = some r → Ref Eb E →
    ∃ qs Eb' L' nid' E', Chain X w0 h0 F all l Eb L nid qs Eb' L' nid' ∧ Ref Eb' E' ∧ drawOk all ((drs all i qs).reverse ++ R) = true ∧ K E' L' nid' = some r
  | [], i, R, E, Eb, L, nid, e, hr => by
    unfold dopsX hi at e
    obtain ⟨h1, e⟩ := bc_t e
    exact ⟨[], Eb, L, nid, E, ⟨rfl, rfl, rfl⟩, hr, h1, e⟩
  | o :: l, i, R, E, Eb, L, nid, e, hr => by
    unfold dopsX at e
    obtain ⟨hd, e⟩ := bc_t e
    obtain ⟨m, E1, e, hr1, hw⟩ := guardX_ok e
    have hr2 := hr.trans hr1
    have hwant : ∀ (h : Fz) (ν : Vn τ) (a : Act), EnvOn X h ν a (gdR all o.guard) E → Region.wanted o (yielded all.toArray a.tmps) = m := fun h ν a => hw X h ν a o rfl
    cases m with
    | false =>
      simp only [Bool.false_eq_true, if_false] at e
      rw [unT_eq] at e
      obtain ⟨qs, Eb', L', nid', E', h1, h2, h3, h4⟩ := dpath hT hC e (hr2.app _)
      refine ⟨⟨o, E, E1, L, nid, nid, .un, [], [], [], [], false⟩ :: qs, Eb', L', nid', E', ⟨rfl, rfl, rfl, ⟨hr, hr2, Nat.le_refl _, hd, hwant, (fun _ h => by cases h), fun _ => ⟨rfl, rfl⟩, fun h => by cases h⟩, h1⟩, h2, ?_, h4⟩
      simpa [drs, kys] using h3
    | true =>
      simp only [if_true] at e
      obtain ⟨v, g, U, tch, n1, e1, hle, hg, hok⟩ := opX_ok (w0 := w0) (h0 := h0) (F := F) hT hC e
      simp only [nextE_eq] at e1
      obtain ⟨qs, Eb', L', nid', E', h1, h2, h3, h4⟩ := dpath hT hC e1 (hr2.app _)
      refine ⟨⟨o, E, E1, L, nid, n1, v, g, l, U, tch, true⟩ :: qs, Eb', L', nid', E', ⟨rfl, rfl, rfl, ⟨hr, hr2, hle, hd, hwant, hg, (fun h => by cases h), fun _ => hok⟩, h1⟩, h2, ?_, h4⟩
      simpa [drs] using h3
theorem accS_none {R α : Type} (q : R → List (Nat × α)) {f : Nat → Bool} : ∀ (rs : List R) (i : Nat) (B : List (Nat × α)), (∀ j, i ≤ j → f j = false) → accS q rs i f B = B
  | [], _, _, _ => rfl
  | r :: rs, i, B, h => by
    simp only [accS]
    rw [h i (Nat.le_refl _)]
    exact accS_none q rs (i + 1) B fun j hj => h j (by omega)
theorem lookS_some {R α : Type} (q : R → List (Nat × α)) {f : Nat → Bool} {t : Nat} {v : α} : ∀ (rs : List R) (i : Nat), lookS q rs i f t = some v → ∃ j r, rs[j]? = some r ∧ f (i + j) = true ∧ asc (q r) t = some v
  | [], _, h => by cases h
  | r :: rs, i, h => by
    simp only [lookS] at h
    cases hl : lookS q rs (i + 1) f t with
    | some u =>
      rw [hl] at h
      cases h
      obtain ⟨j, r', h1, h2, h3⟩ := lookS_some q rs (i + 1) hl
      exact ⟨j + 1, r', by simpa using h1, by rwa [show i + (j + 1) = i + 1 + j by omega], h3⟩
    | none =>
      rw [hl] at h
      by_cases hf : f i = true
      · simp only [hf, if_true] at h
        exact ⟨0, r, rfl, hf, h⟩
      · simp [hf] at h
theorem Chain.get {all : List Oper} : ∀ {l : List Oper} {Eb : EnvX τ} {L : Hp τ} {nid : Nat} {qs : List (Rec τ)} {E' : EnvX τ} {L' : Hp τ} {nid' : Nat} (k : Nat), Chain X w0 h0 F all l Eb L nid qs E' L' nid' →
    nid ≤ nid' ∧ qs.length = l.length ∧ E' = accS Rec.ne qs k (fun _ => true) Eb ∧ L' = accS Rec.U qs k (fun _ => true) L ∧
    (∀ (i : Nat) (q : Rec τ), qs[i]? = some q → l[i]? = some q.o ∧ q.L = accS Rec.U qs k (fun j => Nat.blt j (k + i)) L ∧ RecOk X w0 h0 F all (accS Rec.ne qs k (fun j => Nat.blt j (k + i)) Eb) q ∧ nid ≤ q.lo ∧ q.hi ≤ nid') ∧
    (∀ (i j : Nat) (q q' : Rec τ), qs[i]? = some q → qs[j]? = some q' → i < j → q.hi ≤ q'.lo)
  | [], Eb, L, nid, [], E', L', nid', k, h => by
    obtain ⟨rfl, rfl, rfl⟩ := h
    exact ⟨Nat.le_refl _, rfl, rfl, rfl, fun i q hq => by simp at hq, fun i j q q' hq => by simp at hq⟩
  | o :: l, Eb, L, nid, q :: qs, E', L', nid', k, h => by
    obtain ⟨rfl, hL, rfl, hR, hc⟩ := h
    obtain ⟨g1, g2, g3, g4, g5, g6⟩ := Chain.get (k + 1) hc
    refine ⟨Nat.le_trans hR.up g1, by simp [g2], ?_, ?_, fun i q' hq => ?_, fun i j q1 q2 h1 h2 hij => ?_⟩
    · simp only [accS, if_true]; exact g3
    · simp only [accS, if_true]; exact g4
    · cases i with
      | zero =>
        simp at hq
        subst hq
        have e1 : ∀ {α : Type} (f : Rec τ → List (Nat × α)) (B : List (Nat × α)), accS f (q :: qs) k (fun j => Nat.blt j (k + 0)) B = B := fun f B => accS_none f _ _ _ fun j hj => by
          rw [← Bool.not_eq_true, Nat.blt_eq]; omega
        refine ⟨rfl, by rw [e1]; exact hL, by rw [e1]; exact hR, Nat.le_refl _, g1⟩
      | succ i =>
        obtain ⟨a1, a2, a3, a4, a5⟩ := g5 i q' (by simpa using hq)
        have hb : Nat.blt k (k + (i + 1)) = true := by rw [Nat.blt_eq]; omega
        have hs : k + (i + 1) = k + 1 + i := by omega
        refine ⟨by simpa using a1, ?_, ?_, Nat.le_trans hR.up a4, a5⟩
        · simp only [accS, hb, if_true]; rw [hs]; exact a2
        · simp only [accS, hb, if_true]; rw [hs]; exact a3
    · cases j with
      | zero => omega
      | succ j =>
        cases i with
        | zero =>
          simp at h1
          subst h1
          exact (g5 j q2 (by simpa using h2)).2.2.2.1
        | succ i => exact g6 i j q1 q2 (by simpa using h1) (by simpa using h2) (by omega)
  | [], _, _, _, _ :: _, _, _, _, _, h => h.elim
  | _ :: _, _, _, _, [], _, _, _, _, h => h.elim
theorem drs_mem {all : List Oper} : ∀ {qs : List (Rec τ)} (k i : Nat) (q : Rec τ), qs[i]? = some q → (⟨k + i, q.o.dst, readsO all q.o, (if q.run = true then q.t ++ kys q.U else []), kys q.U⟩ : Dr) ∈ drs all k qs
  | [], _, _, _, h => by simp at h
  | q0 :: qs, k, 0, q, h => by simp at h; subst h; exact List.mem_cons_self ..
  | q0 :: qs, k, i + 1, q, h => by
    have := drs_mem (all := all) (k + 1) i q (by simpa using h)
    rw [show k + 1 + i = k + (i + 1) by omega] at this
    exact List.mem_cons_of_mem _ this
theorem ne_wr {q : Rec τ} {t : Nat} {x : XV τ} (hg : ∀ y ∈ q.g, isGv y = true) (h : asc q.ne t = some x) : q.o.dst = some t ∨ (isGv x = true ∧ 20000 ≤ t ∧ t < 40000) ∨ (isGv x = true ∧ ∃ d : Nat, q.o.dst = some d ∧ t = 20000 + d) := by
  unfold Rec.ne newE at h
  have gh_ok : ∀ {d : Option Nat}, asc (ghost q.g q.ls d []) t = some x → (isGv x = true ∧ 20000 ≤ t ∧ t < 40000) ∨ (isGv x = true ∧ ∃ d' : Nat, d = some d' ∧ t = 20000 + d') := by
    intro d e
    unfold ghost at e
    split at e
    · rename_i y hy
      have hgy := hg y (by rw [hy]; exact List.mem_singleton.2 rfl)
      cases d with
      | none =>
        simp only [asc_nil, asc_cons] at e
        cases hb : Nat.beq (30000 + q.ls.length % 10000) t with
        | true =>
          rw [hb] at e; cases e
          have : 30000 + q.ls.length % 10000 = t := by simpa using hb
          exact .inl ⟨hgy, by omega, by omega⟩
        | false => rw [hb] at e; cases e
      | some d =>
        simp only [asc_nil, asc_cons] at e
        cases hb : Nat.beq (20000 + d) t with
        | true =>
          rw [hb] at e; cases e
          have : 20000 + d = t := by simpa using hb
          exact .inr ⟨hgy, d, rfl, this.symm⟩
        | false => rw [hb] at e; cases e
    · cases e
  unfold putT at h
  split at h
  · rename_i d hd
    simp only [asc_nil, asc_cons] at h
    cases hb : Nat.beq d t with
    | true =>
      have : d = t := by simpa using hb
      subst this
      exact .inl hd
    | false => rw [hb] at h; rw [hd] at h; rcases gh_ok h with h1 | ⟨h1, d', h2, h3⟩
               · exact .inr (.inl h1)
               · exact .inr (.inr ⟨h1, d', by rw [hd]; exact h2, h3⟩)
  · rename_i hd
    rw [hd] at h
    rcases gh_ok h with h1 | ⟨h1, d', h2, h3⟩
    · exact .inr (.inl h1)
    · cases h2
theorem meets_spec {l m : List Nat} {i : Nat} (h1 : i ∈ l) (h2 : i ∈ m) : meets l m = true := by
  cases m with
  | nil => cases h2
  | cons j m => exact (anyR_eq _ _).trans (List.any_eq_true.2 ⟨i, h1, mem_any.2 h2⟩)
theorem drawOk_spec {all : List Oper} {R : List Dr} (h : drawOk all R = true) : (∀ a ∈ R, ∀ b ∈ R, a.i = b.i ∨ clash a b = false ∨ tied (aheads [] all) a.i b.i = true) ∧ ∀ a ∈ R, ∃ l, nthL (aheads [] all) a.i = some l ∧ ∀ j ∈ l, j < a.i := by
  unfold drawOk at h
  simp only [allR_eq, Bool.and_eq_true, List.all_eq_true, Bool.or_eq_true] at h
  obtain ⟨h1, h2⟩ := h
  refine ⟨fun a ha b hb => ?_, fun a ha => ?_⟩
  · rcases h1 a ha b hb with h3 | h3
    · exact .inl (by simpa using h3)
    · split at h3
      · simp only [Bool.or_eq_true, Bool.not_eq_true'] at h3
        exact .inr h3
      · simp only [Bool.or_eq_true, Bool.not_eq_true'] at h3
        exact .inr h3.symm
  · have := h2 a ha
    split at this
    · rename_i l hl
      exact ⟨l, hl, fun j hj => by simpa using List.all_eq_true.1 this j hj⟩
    · cases this
theorem tied_spec {P : List (List Nat)} {i j : Nat} (h : tied P i j = true) : (∃ l, nthL P i = some l ∧ j ∈ l) ∨ (∃ l, nthL P j = some l ∧ i ∈ l) := by
  unfold tied at h
  simp only [Bool.or_eq_true] at h
  rcases h with h | h
  · left
    split at h
    · rename_i l hl; exact ⟨l, hl, mem_any.1 h⟩
    · cases h
  · right
    split at h
    · rename_i l hl; exact ⟨l, hl, mem_any.1 h⟩
    · cases h
theorem reads_real {all : List Oper} {o : Oper} {t : Nat} (h : t ∈ readsO all o) : t < 20000 ∨ 40000 ≤ t := by
  have key : ∀ {s t : Nat}, t ∈ (bif Nat.blt s gh then [s] else []) → t < 20000 := by
    intro s t h
    cases hb : Nat.blt s gh with
    | true =>
      rw [hb] at h
      have : s < gh := by simpa using hb
      have h : t ∈ [s] := h
      rw [List.mem_singleton.1 h]
      unfold gh at this; omega
    | false => rw [hb] at h; cases h
  unfold readsO at h
  rcases List.mem_append.1 h with h | h
  · unfold rdO at h
    obtain ⟨x, _, hx⟩ := List.mem_flatMap.1 h
    unfold tmpO at hx
    split at hx
    · exact .inl (key hx)
    · rw [List.mem_singleton.1 hx]; unfold gb; omega
    · cases hx
  · unfold gdR at h
    split at h
    · split at h
      · exact .inl (key h)
      · cases h
    · cases h
theorem lk_accS (qs : List (Rec τ)) (i : Nat) (f : Nat → Bool) (L : Hp τ) (k : Nat) : lk (accS Rec.U qs i f L) k = match lookS Rec.U qs i f k with
    | some v => v
    | none => lk L k := by
  rw [lk_asc, asc_accS, lk_asc]
  cases lookS Rec.U qs i f k <;> rfl
theorem accS_app {R α : Type} (q : R → List (Nat × α)) : ∀ (rs : List R) (i : Nat) (f : Nat → Bool) (B : List (Nat × α)), accS q rs i f B = accS q rs i f [] ++ B
  | [], _, _, _ => rfl
  | r :: rs, i, f, B => by
    simp only [accS]
    rw [accS_app q rs (i + 1) f (if f i = true then q r ++ B else B), accS_app q rs (i + 1) f (if f i = true then q r ++ [] else [])]
    split <;> simp
theorem draw_core (hm : X.P.follows .mixedOrders = true) (hN : X.n ≤ gh) {id : Nat} {l : List Oper} {qs : List (Rec τ)} {Eb' E' : EnvX τ} {L' : Hp τ} {T : List Nat} (hch : Chain X w0 h0 F l l E L nid qs Eb' L' nid') (hrf : Ref Eb' E') (hok : drawOk l ((drs l 0 qs).reverse ++ []) = true)
    (hTT : ∀ q ∈ qs, q.run = true → ∀ k ∈ q.t, k ∈ T) {L2 : Hp τ} {ν0 : Vn τ} {hh0 : Fz} {φ0 : Nat → List Nat} {a : Act} {w : World} {Q : Exit → Act → World → Prop} (hnod0 : a.defers = []) (hsize0 : a.tmps.size = X.n) (M0 : Mem X.P X.G w0 h0 F L2 w ν0 hh0 φ0) (hE0 : EnvOk X hh0 ν0 a E)
    (hL2 : ∀ k ∈ T, lk L2 k = lk L k) (hn0 : ∀ k, nid ≤ k → k < nid' → ν0 k = none)
    (hQ : ∀ ν' h' φ' a' w', a'.defers = [] → a'.tmps.size = X.n → Mem X.P X.G w0 h0 F (accS Rec.U qs 0 (fun _ => true) [] ++ L2) w' ν' h' φ' → ν0.le ν' → hh0.le h' → Fresh ν0 ν' nid nid' → EnvOk X h' ν' a' E' → Q .normal a' w') : (Code.region id l.toArray true).wp X.P Q a w := by
  obtain ⟨c1, c2, c3, c4, c5, c6⟩ := Chain.get 0 hch
  obtain ⟨hcl2, hah⟩ := drawOk_spec hok
  have hdr : ∀ (j : Nat) (q : Rec τ), qs[j]? = some q → (⟨j, q.o.dst, readsO l q.o, (if q.run = true then q.t ++ kys q.U else []), kys q.U⟩ : Dr) ∈ ((drs l 0 qs).reverse ++ []) := by
    intro j q hq
    have := drs_mem (all := l) 0 j q hq
    rw [Nat.zero_add] at this
    simpa using this
  have hrec : ∀ (j : Nat) (q : Rec τ), qs[j]? = some q → RecOk X w0 h0 F l (accS Rec.ne qs 0 (fun k => Nat.blt k j) E) q := fun j q hq => by
    have := (c5 j q hq).2.2.1
    simpa using this
  -- the invariant
  refine wp_region_inv hm (fun li a w => li.size = l.length ∧ (∀ j, li.getD j false = true → ∀ e ∈ befO l j, li.getD e false = true) ∧ a.defers = [] ∧ a.tmps.size = X.n ∧
    ∃ ν h φ, Mem X.P X.G w0 h0 F (accS Rec.U qs 0 (fun j => li.getD j false) L2) w ν h φ ∧ EnvOk X h ν a (accS Rec.ne qs 0 (fun j => li.getD j false) E) ∧ ν0.le ν ∧ hh0.le h ∧
      ∀ k, ν k ≠ none → ν0 k ≠ none ∨ ∃ j q, qs[j]? = some q ∧ li.getD j false = true ∧ q.lo ≤ k ∧ k < q.hi) ?_ ?_ ?_ ?_
  · rintro li a w ⟨h, _⟩; simpa using h
  · have hf : ∀ j, (Array.replicate l.toArray.size false).getD j false = false := by
      intro j
      simp [Array.getD_eq_getD_getElem?, Array.getElem?_replicate]
      split <;> simp
    refine ⟨by simp, fun j hj => (by rw [hf] at hj; cases hj), hnod0, hsize0, ν0, hh0, φ0, ?_, ?_, Vn.le.refl _, Fz.le.refl _, fun k hk => .inl hk⟩
    · rw [accS_none _ _ _ _ fun j _ => hf j]; exact M0.drew
    · rw [accS_none _ _ _ _ fun j _ => hf j]; exact hE0
  · rintro li a w i ⟨hls, hcl, hnod, hsize, ν, h, φ, M, hE, hle1, hle2, hν⟩ hi
    have hi' : i < l.length ∧ li.getD i true = false ∧ ∀ e ∈ befO l i, li.getD e false = true := by
      unfold Region.ready at hi
      simp only [List.mem_filter, List.mem_range, Bool.and_eq_true, Bool.not_eq_true', List.size_toArray] at hi
      refine ⟨hi.1, hi.2.1, fun e he => ?_⟩
      have h2 := hi.2.2
      have hoi : l.toArray[i]? = some (l[i]'hi.1) := by simp [hi.1]
      rw [hoi] at h2
      simp only [Option.map_some, Option.getD_some, Array.all_eq_true'] at h2
      unfold befO at he
      rw [List.getElem?_eq_getElem hi.1] at he
      simp only [List.mem_map, List.mem_filter] at he
      obtain ⟨ed, ⟨hed, hb⟩, rfl⟩ := he
      have := h2 ed (by simpa using hed)
      simpa [hb] using this
    obtain ⟨hil, hiu, hpre⟩ := hi'
    have hfi : li.getD i false = false := by
      have h1 : i < li.size := by omega
      simp [Array.getD_eq_getD_getElem?, h1] at hiu ⊢
      exact hiu
    have hqi : i < qs.length := by omega
    obtain ⟨q, hq⟩ : ∃ q, qs[i]? = some q := ⟨_, List.getElem?_eq_getElem hqi⟩
    obtain ⟨ho, hL, hR, hlo, hhi⟩ := c5 i q hq
    rw [Nat.zero_add] at hL hR
    have hcl' : ∀ j, li.getD j false = true → ∀ e ∈ befO l j, li.getD e false = true := hcl
    -- two that clash stand in their order
    have hT2 : ∀ (j : Nat) (q' : Rec τ), qs[j]? = some q' → j ≠ i → (clash ⟨i, q.o.dst, readsO l q.o, (if q.run = true then q.t ++ kys q.U else []), kys q.U⟩ ⟨j, q'.o.dst, readsO l q'.o, (if q'.run = true then q'.t ++ kys q'.U else []), kys q'.U⟩ = true) → li.getD j false = Nat.blt j i := by
      intro j q' hq' hne hcla
      obtain ⟨li1, hli1, hlt1⟩ := hah _ (hdr i q hq)
      obtain ⟨lj1, hlj1, hlt2⟩ := hah _ (hdr j q' hq')
      have htied : tied (aheads [] l) i j = true := by
        rcases hcl2 _ (hdr i q hq) _ (hdr j q' hq') with h1 | h1 | h1
        · exact (hne h1.symm).elim
        · rw [h1] at hcla; cases hcla
        · exact h1
      rcases tied_spec htied with ⟨l1, h1, h2⟩ | ⟨l1, h1, h2⟩
      · have hf := ahead_done (f := fun k => li.getD k false) hcl' i l1 h1 hpre j h2
        have h1' : nthL (aheads [] l) i = some li1 := hli1
        rw [h1] at h1'
        cases h1'
        have := hlt1 j h2
        have hbl : Nat.blt j i = true := by rw [Nat.blt_eq]; exact this
        rw [hbl]; exact hf
      · have h1' : nthL (aheads [] l) j = some lj1 := hlj1
        rw [h1] at h1'
        cases h1'
        have hlt : i < j := hlt2 i h2
        have hbl : Nat.blt j i = false := by rw [← Bool.not_eq_true, Nat.blt_eq]; omega
        rw [hbl]
        cases hfj : li.getD j false with
        | false => rfl
        | true =>
          have : li.getD i false = true := ahead_done (f := fun k => li.getD k false) hcl' j _ h1 (hcl' j hfj) i h2
          rw [hfi] at this; cases this
    have hii : Nat.blt i i = false := by rw [← Bool.not_eq_true, Nat.blt_eq]; omega
    have hclD : ∀ {q' : Rec τ} {d : Nat}, q'.o.dst = some d → d ∈ readsO l q.o → ∀ j : Nat, clash ⟨i, q.o.dst, readsO l q.o, (if q.run = true then q.t ++ kys q.U else []), kys q.U⟩ ⟨j, q'.o.dst, readsO l q'.o, (if q'.run = true then q'.t ++ kys q'.U else []), kys q'.U⟩ = true := by
      intro q' d hd hm j
      simp only [clash, hd, mem_any.2 hm, Bool.true_or, Bool.or_true]
    have hclE : ∀ {q' : Rec τ} {d : Nat}, q'.o.dst = some d → q.o.dst = some d → ∀ j : Nat, clash ⟨i, q.o.dst, readsO l q.o, (if q.run = true then q.t ++ kys q.U else []), kys q.U⟩ ⟨j, q'.o.dst, readsO l q'.o, (if q'.run = true then q'.t ++ kys q'.U else []), kys q'.U⟩ = true := by
      intro q' d hd hd2 j
      simp only [clash, hd, hd2, Nat.beq_refl, Bool.or_true]
    have hclU : ∀ {q' : Rec τ} {k : Nat}, q.run = true → k ∈ kys q'.U → (k ∈ q.t ∨ k ∈ kys q.U) → ∀ j : Nat, clash ⟨i, q.o.dst, readsO l q.o, (if q.run = true then q.t ++ kys q.U else []), kys q.U⟩ ⟨j, q'.o.dst, readsO l q'.o, (if q'.run = true then q'.t ++ kys q'.U else []), kys q'.U⟩ = true := by
      intro q' k hrun hk hk2 j
      simp only [clash, hrun, if_true]
      rw [meets_spec (i := k) hk (List.mem_append.2 hk2), Bool.true_or]
    -- what it reads
    have hreads : EnvOn X h ν a (readsO l q.o) (accS Rec.ne qs 0 (fun k => Nat.blt k i) E) := by
      intro t ht x hx
      refine hE t x ?_
      rw [asc_accS] at hx ⊢
      rw [← lookS_congr Rec.ne (f := fun j => li.getD j false) (f' := fun k => Nat.blt k i) (t := t) qs 0 ?_] at hx
      · exact hx
      · intro j q' hq' hw
        rw [Nat.zero_add]
        by_cases hji : j = i
        · subst hji; rw [hfi, hii]
        · obtain ⟨y, hy⟩ := hw
          refine hT2 j q' hq' hji ?_
          rcases ne_wr (hrec j q' hq').gv hy with h1 | ⟨_, h1, h2⟩ | ⟨_, d, h1, h2⟩
          · exact hclD h1 ht j
          · rcases reads_real ht with h3 | h3 <;> omega
          · have hdl := (hrec j q' hq').dst
            rw [h1] at hdl
            have hdl2 : d < X.n := Nat.le_of_ble_eq_true hdl
            have hN2 : X.n ≤ 9000 := hN
            have h4 : t < 40000 := by omega
            rcases reads_real ht with h3 | h3
            · omega
            · omega
    have hdone : ∀ j, (li.setIfInBounds i true).getD j false = (li.getD j false || Nat.beq j i) := by
      intro j
      have h1 : i < li.size := by omega
      by_cases hji : j = i
      · subst hji
        simp [Array.getD_eq_getD_getElem?, h1]
      · have : Nat.beq j i = false := nbeq_false.2 hji
        simp [Array.getD_eq_getD_getElem?, Ne.symm hji, this]
    have hdoneN : ∀ j, j ≠ i → (li.setIfInBounds i true).getD j false = li.getD j false := fun j hj => by rw [hdone, nbeq_false.2 hj, Bool.or_false]
    have hdoneI : (li.setIfInBounds i true).getD i false = true := by rw [hdone]; simp
    have hcl3 : ∀ j, (li.setIfInBounds i true).getD j false = true → ∀ e ∈ befO l j, (li.setIfInBounds i true).getD e false = true := by
      intro j hj e he
      have hle : ∀ e, li.getD e false = true → (li.setIfInBounds i true).getD e false = true := fun e h => by rw [hdone, h]; rfl
      by_cases hji : j = i
      · subst hji; exact hle e (hpre e he)
      · rw [hdoneN j hji] at hj; exact hle e (hcl j hj e he)
    -- the environment behind it
    have henv : ∀ {a' : Act} {h' : Fz} {ν' : Vn τ}, EnvOk X h' ν' a' (q.ne ++ accS Rec.ne qs 0 (fun j => li.getD j false) E) → EnvOk X h' ν' a' (accS Rec.ne qs 0 (fun j => (li.setIfInBounds i true).getD j false) E) := by
      intro a' h' ν' hE2 t x hx
      by_cases hgv : isGv x = true
      · exact gv_slot hgv
      · refine hE2 t x ?_
        rw [asc_accS] at hx
        rw [asc_app, asc_accS]
        have hreal : ∀ {j : Nat} {q' : Rec τ}, qs[j]? = some q' → ∀ y, asc q'.ne t = some y → isGv y = false → q'.o.dst = some t := by
          intro j q' hq' y hy hg
          rcases ne_wr (hrec j q' hq').gv hy with h1 | ⟨h1, _⟩ | ⟨h1, _⟩
          · exact h1
          · rw [h1] at hg; cases hg
          · rw [h1] at hg; cases hg
        cases hlk : lookS Rec.ne qs 0 (fun j => (li.setIfInBounds i true).getD j false) t with
        | some y =>
          rw [hlk] at hx
          cases hx
          obtain ⟨j, q', hq', hfj, hy⟩ := lookS_some Rec.ne qs 0 hlk
          rw [Nat.zero_add] at hfj
          have hdj := hreal hq' x hy (by simpa using hgv)
          cases hne : asc q.ne t with
          | some z =>
            have h1 : q.o.dst = some t := by
              rcases ne_wr (hrec i q hq).gv hne with h1 | ⟨h1, h2, h3⟩ | ⟨_, d, h2, h3⟩
              · exact h1
              · have hdl := (hrec j q' hq').dst
                rw [hdj] at hdl
                have hdl : t < X.n := by simpa [dOk] using hdl
                unfold gh at hN; omega
              · have hdl := (hrec j q' hq').dst
                rw [hdj] at hdl
                have hdl : t < X.n := by simpa [dOk] using hdl
                unfold gh at hN; omega
            have hlast := lookS_last Rec.ne (f := fun j => (li.setIfInBounds i true).getD j false) (t := t) qs 0 i q hq (by rw [Nat.zero_add]; exact hdoneI) hne fun j2 q2 hq2 hw hlt => by
              rw [Nat.zero_add, hdoneN j2 (by omega)]
              obtain ⟨y2, hy2⟩ := hw
              have hd2 : q2.o.dst = some t := by
                rcases ne_wr (hrec j2 q2 hq2).gv hy2 with h2 | ⟨_, h2, h3⟩ | ⟨_, d, h2, h3⟩
                · exact h2
                · have hdl := (hrec i q hq).dst
                  rw [h1] at hdl
                  have hdl : t < X.n := by simpa [dOk] using hdl
                  unfold gh at hN; omega
                · have hdl := (hrec i q hq).dst
                  rw [h1] at hdl
                  have hdl : t < X.n := by simpa [dOk] using hdl
                  unfold gh at hN; omega
              rw [hT2 j2 q2 hq2 (by omega) (hclE hd2 h1 j2), ← Bool.not_eq_true, Nat.blt_eq]
              omega
            rw [hlk] at hlast
            cases hlast
            rfl
          | none =>
            rw [lookS_congr Rec.ne (f := fun j => li.getD j false) (f' := fun j => (li.setIfInBounds i true).getD j false) (t := t) qs 0 (fun j2 q2 hq2 hw => by
              rw [Nat.zero_add]
              by_cases hji : j2 = i
              · subst hji
                rw [hq] at hq2
                cases hq2
                obtain ⟨z, hz⟩ := hw
                rw [hne] at hz; cases hz
              · rw [hdoneN j2 hji]), hlk]
        | none =>
          rw [hlk] at hx
          have hni : asc q.ne t = none := by
            cases hz : asc q.ne t with
            | none => rfl
            | some z =>
              exfalso
              have : ∀ (rs : List (Rec τ)) (k : Nat) (q' : Rec τ), rs[k]? = some q' → ∀ (i0 : Nat) (f : Nat → Bool), f (i0 + k) = true → asc q'.ne t = some z → lookS Rec.ne rs i0 f t ≠ none := by
                intro rs
                induction rs with
                | nil => intro k q' h; simp at h
                | cons r rs ih =>
                  intro k q' hk i0 f hf hz
                  simp only [lookS]
                  cases hl : lookS Rec.ne rs (i0 + 1) f t with
                  | some v => simp
                  | none =>
                    cases k with
                    | zero =>
                      simp at hk; subst hk
                      simp only [Nat.add_zero] at hf
                      simp [hf, hz]
                    | succ k => exact (ih k q' (by simpa using hk) (i0 + 1) f (by rwa [show i0 + 1 + k = i0 + (k + 1) by omega]) hz hl).elim
              exact this qs i q hq 0 _ (by rw [Nat.zero_add]; exact hdoneI) hz hlk
          rw [hni]
          rw [lookS_congr Rec.ne (f := fun j => li.getD j false) (f' := fun j => (li.setIfInBounds i true).getD j false) (t := t) qs 0 (fun j2 q2 hq2 hw => by
              rw [Nat.zero_add]
              by_cases hji : j2 = i
              · subst hji
                rw [hq] at hq2
                cases hq2
                obtain ⟨z, hz⟩ := hw
                rw [hni] at hz; cases hz
              · rw [hdoneN j2 hji]), hlk]
          exact hx
    have hsz2 : (li.setIfInBounds i true).size = l.length := by simpa using hls
    have hol : l.toArray[i]? = some q.o := by simpa using ho
    unfold wpOp
    rw [hol]
    dsimp only
    have hRo := hrec i q hq
    rw [hRo.want h ν a (fun t ht x hx => (Ref.on (l := readsO l q.o) hRo.refw hreads) t (by unfold readsO; exact List.mem_append_right _ ht) x hx)]
    cases hrun : q.run with
    | false =>
      obtain ⟨hU, hv⟩ := hRo.pass hrun
      rw [if_neg (by simp)]
      refine ⟨hsz2, hcl3, by rw [put_def]; exact hnod, by rw [put_size]; exact hsize, ν, h, φ, M.congr fun k => ?_, henv ?_, hle1, hle2, fun k hk => ?_⟩
      · rw [lk_accS, lk_accS]
        rw [lookS_congr Rec.U (f := fun j => (li.setIfInBounds i true).getD j false) (f' := fun j => li.getD j false) (t := k) qs 0 fun j2 q2 hq2 hw => by
          rw [Nat.zero_add]
          by_cases hji : j2 = i
          · subst hji
            rw [hq] at hq2
            cases hq2
            obtain ⟨z, hz⟩ := hw
            rw [hU] at hz; cases hz
          · rw [hdoneN j2 hji]]
      · unfold Rec.ne
        rw [hv]
        exact newE_ok hN hRo.dst hsize hRo.gv rfl fun t x hx _ => hE t x hx
      · rcases hν k hk with h1 | ⟨j, q', h1, h2, h3⟩
        · exact .inl h1
        · exact .inr ⟨j, q', h1, by rw [hdone, h2]; rfl, h3⟩
    | true =>
      rw [if_pos rfl]
      left
      refine hRo.does hrun _ ν h φ a w _ Q hnod M (fun t ht x hx => (Ref.on (l := readsO l q.o) hRo.ref hreads) t (by unfold readsO; exact List.mem_append_left _ ht) x hx) (fun k hk => ?_) (fun k h1 h2 => ?_) fun ν' h' φ' w' u M' hν' hh hfr hv => ?_
      · rw [hL, lk_accS, lk_accS, hL2 k (hTT q (List.mem_of_getElem? hq) hrun k hk)]
        rw [lookS_congr Rec.U (f := fun j => li.getD j false) (f' := fun k => Nat.blt k i) (t := k) qs 0 fun j2 q2 hq2 hw => by
          rw [Nat.zero_add]
          by_cases hji : j2 = i
          · subst hji; rw [hfi, hii]
          · exact hT2 j2 q2 hq2 hji (hclU hrun (wr_kys.1 hw) (.inl hk) j2)]
      · cases hνk : ν k with
        | none => rfl
        | some y =>
          exfalso
          rcases hν k (by rw [hνk]; simp) with h3 | ⟨j, q', h3, h4, h5, h6⟩
          · exact h3 (hn0 k (by omega) (by omega))
          · rcases Nat.lt_trichotomy j i with hj | hj | hj
            · have := c6 j i q' q h3 hq hj; omega
            · subst hj; rw [hfi] at h4; cases h4
            · have := c6 i j q q' hq h3 hj; omega
      · refine ⟨hsz2, hcl3, by rw [put_def]; exact hnod, by rw [put_size]; exact hsize, ν', h', φ', M'.congr fun k => ?_, henv ?_, hle1.trans hν', hle2.trans hh, fun k hk => ?_⟩
        · rw [lk_asc, lk_asc, asc_accS, asc_app, asc_accS]
          cases hUk : asc q.U k with
          | some z =>
            have hlast := lookS_last Rec.U (f := fun j => (li.setIfInBounds i true).getD j false) (t := k) qs 0 i q hq (by rw [Nat.zero_add]; exact hdoneI) hUk fun j2 q2 hq2 hw hlt => by
              rw [Nat.zero_add, hdoneN j2 (by omega), hT2 j2 q2 hq2 (by omega) (hclU hrun (wr_kys.1 hw) (.inr (wr_kys.1 ⟨z, hUk⟩)) j2), ← Bool.not_eq_true, Nat.blt_eq]
              omega
            rw [hlast]
          | none =>
            rw [lookS_congr Rec.U (f := fun j => (li.setIfInBounds i true).getD j false) (f' := fun j => li.getD j false) (t := k) qs 0 fun j2 q2 hq2 hw => by
              rw [Nat.zero_add]
              by_cases hji : j2 = i
              · subst hji
                rw [hq] at hq2
                cases hq2
                obtain ⟨z, hz⟩ := hw
                rw [hUk] at hz; cases hz
              · rw [hdoneN j2 hji]]
        · exact newE_ok hN hRo.dst hsize hRo.gv hv fun t x hx _ => (hE.le hh hν') t x hx
        · by_cases hk0 : ν k = none
          · obtain ⟨h1, h2⟩ := hfr k hk0 hk
            exact .inr ⟨i, q, hq, hdoneI, h1, h2⟩
          · rcases hν k hk0 with h1 | ⟨j, q', h1, h2, h3⟩
            · exact .inl h1
            · exact .inr ⟨j, q', h1, by rw [hdone, h2]; rfl, h3⟩
  · rintro li a w ⟨hls, hcl, hnod, hsize, ν, h, φ, M, hE, hle1, hle2, hν⟩ hr
    have hall : ∀ i, i < l.length → li.getD i false = true := by
      intro i
      induction i using Nat.strongRecOn with
      | _ i ih =>
        intro hi
        cases hb : li.getD i false with
        | true => rfl
        | false =>
          exfalso
          have hmem : i ∈ Region.ready .any l.toArray li := by
            unfold Region.ready
            simp only [List.mem_filter, List.mem_range, Bool.and_eq_true, Bool.not_eq_true', List.size_toArray]
            have h1 : i < li.size := by omega
            refine ⟨hi, by simpa [Array.getD_eq_getD_getElem?, h1] using hb, ?_⟩
            have hoi : l.toArray[i]? = some l[i] := by simp [hi]
            rw [hoi]
            simp only [Option.map_some, Option.getD_some, Array.all_eq_true']
            intro e he
            cases hbe : Region.binds .any e with
            | false => rfl
            | true =>
              have hlt : e.on < i := by
                have hqi : i < qs.length := by omega
                obtain ⟨l1, h2, h3⟩ := hah _ (hdr i _ (List.getElem?_eq_getElem hqi))
                obtain ⟨P', _, _, h4⟩ := aheads_at l [] i l[i] (List.getElem?_eq_getElem hi)
                simp only [List.length_nil, Nat.zero_add] at h4
                have h2 : nthL (aheads [] l) i = some l1 := h2
                rw [h4] at h2
                cases h2
                refine h3 e.on ?_
                unfold aheadO
                refine List.mem_flatMap.2 ⟨e, List.mem_filter.2 ⟨by simpa using he, hbe⟩, List.mem_cons_self ..⟩
              simpa using ih e.on hlt (by omega)
          rw [hr] at hmem
          cases hmem
    have hcong : ∀ {α : Type} (f : Rec τ → List (Nat × α)) (B : List (Nat × α)) (t : Nat), asc (accS f qs 0 (fun j => li.getD j false) B) t = asc (accS f qs 0 (fun _ => true) B) t := by
      intro α f B t
      rw [asc_accS, asc_accS, lookS_congr f (f := fun j => li.getD j false) (f' := fun _ => true) (t := t) qs 0 fun j q hq _ => by
        rw [Nat.zero_add]
        refine hall j ?_
        have := (List.getElem?_eq_some_iff.1 hq).1
        omega]
    refine hQ ν h φ a w hnod hsize (M.congr fun k => ?_) hle1 hle2 (fun k h1 h2 => ?_) (hrf.env (fun t x hx => hE t x ?_))
    · rw [← accS_app, lk_asc, lk_asc, hcong]
    · rcases hν k h2 with h3 | ⟨j, q, h3, h4, h5, h6⟩
      · exact (h3 h1).elim
      · have := (c5 j q h3).2.2.2; omega
    · rw [hcong, ← c3]; exact hx
theorem draw_ok (hm : X.P.follows .mixedOrders = true) (hT : TyOk X) (hC : ∀ q ∈ X.cs, COk X.P X.G q.1 q.2) (hN : X.n ≤ gh) {id : Nat} {l : List Oper} {Q : Exit → Act → World → Prop} {K : EnvX τ → Hp τ → Nat → Option ρ}
    (hK : ∀ E L nid a w, K E L nid = some r → St X w0 h0 F E L nid a w → Q .normal a w) (e : dopsX X l 0 l [] E L nid K = some r) (s : St X w0 h0 F E L nid a w) : (Code.region id l.toArray true).wp X.P Q a w := by
  obtain ⟨qs, Eb', L', nid', E', hch, hrf, hok, hfin⟩ := dpath (w0 := w0) (h0 := h0) (F := F) hT hC e (Ref.refl E)
  obtain ⟨c1, _, _, c4, _, _⟩ := Chain.get 0 hch
  obtain ⟨ν, h, φ, M, hE, hn⟩ := s.st
  refine draw_core hm hN hch hrf hok (T := qs.flatMap (·.t)) (fun q hq _ k hk => List.mem_flatMap.2 ⟨q, hq, hk⟩) s.nodef s.size M hE (fun _ _ => rfl) (fun k h1 _ => hn k h1) fun ν' h' φ' a' w' h1 h2 M' _ _ hfr hE' => ?_
  refine hK E' L' nid' a' w' hfin ⟨h1, h2, ν', h', φ', by rw [c4, accS_app]; exact M', hE', fun k hk => ?_⟩
  cases hνk : ν' k with
  | none => rfl
  | some y =>
    have := hfr k (hn k (by omega)) (by rw [hνk]; simp)
    omega
end
end Go.Rk
end
section
namespace Go.Rk
open Go.RowKit Go.Dm Go.Dk
variable {τ : Nat → Type}
section
variable {ρ : Type} {X : Cx τ} {w0 w w' : World} {h0 h h' H : Fz} {F : List Nat} {E E' Eb : EnvX τ} {L L2 : Hp τ} {ν ν' : Vn τ} {φ φ' : Nat → List Nat} {nid nid' : Nat} {r : ρ} {a : Act}
def SlV (X : Cx τ) (a : Act) (t : Nat) (ty : Ty) (v : Value) : Prop := (Nat.blt t gh = true → (∀ x y, ty ≠ .pr x y) → a.tmps[t]? = some v) ∧ (gb ≤ t → v = ptr (t - gb) 0) ∧ (gh ≤ t → t < 20000 → v = X.fx (t - gh))
def SlVs (X : Cx τ) (a : Act) : Pl → List Value → Prop
  | [], vs => vs = []
  | (t, ty) :: l, vs => ∃ v us, vs = v :: us ∧ SlV X a t ty v ∧ SlVs X a l us
theorem resX_gv {G : Sig τ} {t : Ty} {A : XV τ} {q : t.den τ × List Nat × List Nat} (k : resX G L t A = some q) : (∀ x y, t ≠ .pr x y) → isGv A = false := by
  intro hne
  unfold resX at k
  split at k
  · rfl
  · rfl
  · exact (hne _ _ rfl).elim
  · cases k
theorem leaf_ok (M : Mem X.P X.G w0 h0 F L w ν h φ) (hE : EnvOk X h ν a E) (hH : h.le H) : ∀ {l : Pl} {p : DP τ l.ts} {m n : List Nat}, leaf X.G E L l = some (p, m, n) → (∀ b ∈ fps φ n, H b = w.heap[b]?) → nod m = true → ∃ vs, TrXs X.P X.G H w l.ts p vs (fps φ m) ∧ SlVs X a l vs
  | [], p, m, n, e, _, _ => by cases e; exact ⟨[], .nil, rfl⟩
  | (t, ty) :: l, p, m, n, e, hb, hn => by
    unfold leaf at e
    split at e
    · rename_i A hA
      split at e
      · rename_i x m1 n1 hx
        split at e
        · rename_i q m2 n2 hq
          cases e
          obtain ⟨k1, k2, k3⟩ := nod_app hn
          obtain ⟨v, h1, h2, h3, h4⟩ := hE t A hA
          obtain ⟨vs, g1, g2⟩ := leaf_ok M hE hH hq (fun b hb' => hb b (by rw [fps_append]; exact List.mem_append_right _ hb')) k2
          refine ⟨v :: vs, ?_, v, vs, rfl, ⟨fun a1 a2 => h2 a1 (resX_gv hx a2), h3, h4⟩, g2⟩
          rw [fps_append]
          refine .cons ty _ _ v vs _ _ ?_ ?_ (M.fps_dis k3)
          · rw [DP.hd_mk]; exact resX_ok (L := L) M hH hx (fun _ _ => rfl) ⟨fun _ _ => rfl, fun b hb' => hb b (by rw [fps_append]; exact List.mem_append_left _ hb')⟩ k1 h1
          · rw [DP.tl_mk]; exact g1
        · cases e
      · cases e
    · cases e
theorem packE_ok {P : Program} (hP : X.P = P) : ∀ {l : Pl} {p : DP τ l.ts} {nid : Nat} {E : EnvX τ} {L : Hp τ} {nid' : Nat} {vs : List Value} {fp : List Nat} {L0 : Hp τ} {ν : Vn τ} {φ : Nat → List Nat}, packE X.G l p nid = (E, L, nid') → Mem X.P X.G w0 h0 F L0 w ν h φ → TrXs X.P X.G h w l.ts p vs fp → SlVs X a l vs →
    Free w0 h F φ fp → (∀ i, nid ≤ i → i < nid' → ν i = none) → nid ≤ nid' ∧ ∃ ν' φ', Adds X.P X.G w0 h0 F L0 w ν h φ L nid nid' fp ν' φ' ∧ EnvOk X h ν' a E
  | [], p, nid, E, L, nid', vs, fp, L0, ν, φ, e, M, ht, hs, hf, hn => by
    cases e
    exact ⟨Nat.le_refl _, ν, φ, (Grew.nil M _ _).adds, fun t x e => by cases e⟩
  | (t, ty) :: l, p, nid, E, L, nid', vs, fp, L0, ν, φ, e, M, ht, hs, hf, hn => by
    unfold packE at e
    split at e
    rename_i A U n1 h1
    split at e
    rename_i E2 L2 n2 h2
    cases e
    obtain ⟨v, us, rfl, s1, s2⟩ := hs
    cases ht with
    | cons _ _ _ _ _ f f' t1 t2 hd =>
      have l1 := expX_le h1
      have hle2 : n1 ≤ nid' := packE_le h2
      obtain ⟨_, ν1, φ1, A1, e1⟩ := packE_ok hP h2 M t2 s2 (hf.sub fun b hb => List.mem_append_right _ hb) (fun i a b => hn i (by omega) b)
      obtain ⟨ν2, φ2, A2, hx⟩ := expX_ok A1.mem h1 t1 (fun i a b => by
        cases e : ν1 i with
        | none => rfl
        | some y =>
          have := A1.fresh i (hn i a (by omega)) (by rw [e]; simp)
          omega) (Free.adds A1 (hf.sub fun b hb => List.mem_append_left _ hb) hd)
      refine ⟨by omega, ν2, φ2, Adds.seq A1 A2 l1 hle2, fun t' x e => ?_⟩
      simp only [asc_nil, asc_cons] at e
      cases hb : Nat.beq t t' with
      | true =>
        rw [hb] at e
        cases e
        have : t = t' := by simpa using hb
        subst this
        refine ⟨v, hx, fun a1 a2 => s1.1 a1 fun x y hxy => ?_, s1.2⟩
        subst hxy
        cases h1
        cases a2
      | false =>
        rw [hb] at e
        exact (e1 t' x e).le (Fz.le.refl _) A2.le
where
  packE_le : ∀ {l : Pl} {p : DP τ l.ts} {nid : Nat} {E : EnvX τ} {L : Hp τ} {nid' : Nat}, packE X.G l p nid = (E, L, nid') → nid ≤ nid'
  | [], p, nid, E, L, nid', e => by cases e; exact Nat.le_refl _
  | (t, ty) :: l, p, nid, E, L, nid', e => by
    unfold packE at e
    split at e
    rename_i A U n1 h1
    split at e
    rename_i E2 L2 n2 h2
    cases e
    exact Nat.le_trans (expX_le h1) (packE_le h2)
theorem glE_ok (hg : GlOk X.P X.G h) (hgl : ∀ p ∈ X.G.gl, True) : EnvOk X h ν a (glE X.G.gl) := by
  intro t x e
  obtain ⟨p, hp, hpe⟩ := List.mem_map.1 (asc_mem e)
  cases hpe
  obtain ⟨vs, h1, h2⟩ := hg.1 p hp
  refine ⟨ptr p.1 0, ⟨p.1, 0, vs, rfl, h1, h2⟩, fun h => ?_, fun _ => by rw [Nat.add_sub_cancel_left], fun h1 h2 => ?_⟩
  · exfalso
    simp only [Nat.blt_eq, gb, gh] at h
    omega
  · exfalso
    simp only [gb] at h2
    omega
theorem EnvOk.app (h1 : EnvOk X h ν a E) (h2 : EnvOk X h ν a E') : EnvOk X h ν a (E ++ E') := by
  intro t x e
  rw [asc_app] at e
  cases hE : asc E t with
  | some y => rw [hE] at e; cases e; exact h1 t _ hE
  | none => rw [hE] at e; exact h2 t x e
def SameV (X : Cx τ) (w0 : World) (h0 : Fz) (F : List Nat) (w : World) (a : Act) (E : EnvX τ) (L : Hp τ) (s t : Nat) : Prop := ∀ (h : Fz) (ν : Vn τ) (φ : Nat → List Nat) x, Mem X.P X.G w0 h0 F L w ν h φ → EnvOk X h ν a E → alV E L t = some x → SlotOk X h ν a s x
theorem alias_ok (M : Mem X.P X.G w0 h0 F L w ν h φ) (hE : EnvOk X h ν a E) : ∀ {al : List (Nat × Nat)}, (∀ p ∈ al, SameV X w0 h0 F w a E L p.1 p.2) → EnvOk X h ν a (alias E L al)
  | [], _ => hE
  | (s, t) :: al, hs => by
    have ih := alias_ok M hE (al := al) fun p hp => hs p (List.mem_cons_of_mem _ hp)
    unfold alias
    split
    · rename_i v hv
      intro t' x e
      simp only [asc_nil, asc_cons] at e
      cases hb : Nat.beq s t' with
      | true =>
        rw [hb] at e
        cases e
        have : s = t' := by simpa using hb
        subst this
        exact hs _ (List.mem_cons_self ..) h ν φ _ M hE hv
      | false => rw [hb] at e; exact ih t' x e
    · exact ih
theorem Mem.none (M : Mem X.P X.G w0 h0 F L w ν h φ) (hH : h.le H) (hon : H.on w) (hnew : ∀ b, H b ≠ none → h b ≠ none ∨ b ∈ F ∨ w0.heap.size ≤ b) : Mem X.P X.G w0 h0 F [] w (fun _ => Option.none) H (fun _ => []) :=
  ⟨M.os, M.tape, M.output, M.size, M.frame, M.le.trans hH, hon, fun b hb => by
    rcases hnew b hb with h1 | h1
    · exact M.new b h1
    · exact .inr h1, fun _ => rfl, (fun _ _ _ h => by cases h), (fun _ _ h => by cases h), M.gl.le hH, M.fp⟩
theorem sameX_ok {x y : XV τ} {v u : Value} (hs : sameX (some x) (some y) = true) (hx : XOk X.P X.G h ν x v) (hy : XOk X.P X.G h ν y u) : v = u := by
  unfold sameX at hs
  split at hs
  · rename_i i j h1 h2
    cases h1; cases h2
    have : i = j := by simpa using hs
    subst this
    obtain ⟨u1, q1, a1, a2, _⟩ := hx
    obtain ⟨u2, q2, b1, b2, _⟩ := hy
    rw [a1] at b1
    cases b1
    rw [a2, b2]
  · rename_i i j h1 h2
    cases h1; cases h2
    have : i = j := by simpa using hs
    subst this
    obtain ⟨_, _, _, _, a1, a2⟩ := hx
    obtain ⟨_, _, _, _, b1, b2⟩ := hy
    rw [a1] at b1
    cases b1
    rw [a2, b2]
  · cases hs
theorem sameX_gv {x y : XV τ} (hs : sameX (some x) (some y) = true) : isGv x = false ∧ isGv y = false := by
  refine ⟨?_, ?_⟩
  · cases x <;> first | rfl | (simp [sameX] at hs)
  · cases y <;> first | rfl | (cases x <;> simp [sameX] at hs; done) | (exfalso; unfold sameX at hs; split at hs <;> first | (rename_i h3; cases h3; done) | (rename_i _ h3; cases h3; done) | cases hs)
def SlU (X : Cx τ) (a : Act) (t : Nat) (v : Value) : Prop := (Nat.blt t gh = true → a.tmps[t]? = some v) ∧ (gb ≤ t → v = ptr (t - gb) 0) ∧ (gh ≤ t → t < 20000 → v = X.fx (t - gh))
theorem SlU.one {t : Nat} {u v : Value} (h1 : SlU X a t u) (h2 : SlU X a t v) (hlt : t < 20000) : u = v := by
  cases hg : Nat.blt t gh with
  | true =>
    have h3 := h1.1 hg
    rw [h2.1 hg] at h3
    exact (Option.some.inj h3).symm
  | false =>
    have hge : gh ≤ t := by
      have : ¬ t < gh := by rw [← Nat.blt_eq, hg]; simp
      omega
    rw [h1.2.2 hge hlt, h2.2.2 hge hlt]
theorem SlotOk.u {t : Nat} {x : XV τ} (hs : SlotOk X h ν a t x) (hg : isGv x = false) : ∃ v, XOk X.P X.G h ν x v ∧ SlU X a t v :=
  let ⟨v, h1, h2, h3, h4⟩ := hs; ⟨v, h1, fun h => h2 h hg, h3, h4⟩
def AlU (X : Cx τ) (w : World) (a : Act) (t : Nat) (v : Value) : Prop := match t / 100000 with
  | 0 => SlU X a t v
  | o + 1 => ∃ b vs ti, SlU X a (t % 100000) (ptr b 0) ∧ w.heap[b]? = some (.cells vs ti (0, 0)) ∧ vs[o]? = some v
theorem nthL_cvs {P : Program} {G : Sig τ} : ∀ {cs : List (CV τ)} {vs : List Value} {o : Nat} {c : CV τ}, CVs P G h ν cs vs → nthL cs o = some c → ∃ v, vs[o]? = some v ∧ CVOk P G h ν c v
  | [], _, _, _, _, e => by cases e
  | d :: cs, _, 0, c, ⟨v, us, rfl, h1, _⟩, e => by cases e; exact ⟨v, rfl, h1⟩
  | d :: cs, _, o + 1, c, ⟨v, us, rfl, _, h2⟩, e => nthL_cvs (cs := cs) (vs := us) h2 e
theorem alV_ok (M : Mem X.P X.G w0 h0 F L w ν h φ) (hE : EnvOk X h ν a E) {t : Nat} {x : XV τ} (hg : isGv x = false) (e : alV E L t = some x) : ∃ v, XOk X.P X.G h ν x v ∧ AlU X w a t v := by
  unfold alV at e
  unfold AlU
  split at e
  · rename_i h0
    obtain ⟨v, h1, h2⟩ := (hE t x e).u hg
    rw [h0]
    exact ⟨v, h1, h2⟩
  · rename_i o ho
    split at e
    · rename_i i hi
      split at e
      · rename_i ti cs hl
        split at e
        · rename_i c hc
          cases e
          obtain ⟨pv, h1, h2⟩ := (hE _ _ hi).u rfl
          have hr := M.res i
          rw [hl] at hr
          obtain ⟨b, q, vs, g1, _, g2, g3⟩ := hr
          obtain ⟨u, q', k1, k2, _⟩ := h1
          rw [g1] at k1
          cases k1
          obtain rfl : pv = ptr b 0 := k2
          obtain ⟨v, h3, h4⟩ := nthL_cvs g3 hc
          rw [ho]
          exact ⟨v, h4, b, vs.toArray, ti, h2, g2, by simpa using h3⟩
        · cases e
      · cases e
    · cases e
theorem AlU.one {t : Nat} {u v : Value} (h1 : AlU X w a t u) (h2 : AlU X w a t v) (hlt : t % 100000 < 20000) : u = v := by
  unfold AlU at h1 h2
  split at h1
  · rename_i h0
    rw [h0] at h2
    have : t < 100000 := by omega
    rw [Nat.mod_eq_of_lt this] at hlt
    exact h1.one h2 hlt
  · rename_i o ho
    rw [ho] at h2
    obtain ⟨b, vs, ti, g1, g2, g3⟩ := h1
    obtain ⟨b', vs', ti', k1, k2, k3⟩ := h2
    have := g1.one k1 hlt
    cases this
    rw [g2] at k2
    cases k2
    rw [g3] at k3
    exact Option.some.inj k3
theorem alike_ok (M : Mem X.P X.G w0 h0 F L w ν h φ) (hE : EnvOk X h ν a E) {al : List (Nat × Nat)} (e : alike E L al = true) : ∀ p ∈ al, p.2 % 100000 < 20000 ∧ ∃ v, SlU X a p.1 v ∧ AlU X w a p.2 v := by
  intro p hp
  have hs := List.all_eq_true.1 e p hp
  simp only [Bool.and_eq_true, Nat.blt_eq] at hs
  obtain ⟨hlt, hs⟩ := hs
  cases h1 : asc E p.1 with
  | none => rw [h1] at hs; cases hs
  | some x =>
    cases h2 : alV E L p.2 with
    | none => rw [h1, h2] at hs; simp [sameX] at hs
    | some y =>
      rw [h1, h2] at hs
      obtain ⟨gx, gy⟩ := sameX_gv hs
      obtain ⟨v, a1, a2⟩ := (hE _ _ h1).u gx
      obtain ⟨u, b1, b2⟩ := alV_ok M hE gy h2
      have := sameX_ok hs a1 b1
      subst this
      exact ⟨hlt, v, a2, b2⟩
theorem cut_ok {l : Pl} {al : List (Nat × Nat)} {f : DP τ l.ts → Option ρ} (s : St X w0 h0 F E L nid a w) (e : cutK X.G l al f E L = some r) :
    ∃ p, f p = some r ∧ ∀ (K : EnvX τ → Hp τ → Nat → Option ρ), fromE X.G l al p K = some r → ∃ E' L' nid', K E' L' nid' = some r ∧ St X w0 h0 F E' L' nid' a w := by
  unfold cutK hi at e
  split at e
  · rename_i p m n hl
    obtain ⟨hb, e⟩ := bc_t e
    simp only [Bool.and_eq_true] at hb
    obtain ⟨⟨hnod, hdis⟩, hal⟩ := hb
    refine ⟨p, e, fun K e2 => ?_⟩
    obtain ⟨ν, h, φ, M, hE, hn⟩ := s.st
    obtain ⟨vs, ht, hs⟩ := leaf_ok M hE (M.lend_le n) hl (fun b hb => lend_in hb) hnod
    have hdis' := M.fps_dis (disj_spec hdis)
    unfold fromE hi at e2
    split at e2
    rename_i E1 L1 n1 hp
    have M0 := M.none (M.lend_le n) (lend_on M.on) (fun b hb => by
      by_cases hbn : b ∈ fps φ n
      · obtain ⟨i, _, hi⟩ := mem_fps.1 hbn
        exact .inr (M.out i b hi).2
      · rw [lend_out hbn] at hb; exact .inl hb)
    have hfree : Free w0 (lend h w (fps φ n)) F (fun _ => []) (fps φ m) := fun b hb => by
      obtain ⟨i, _, hi⟩ := mem_fps.1 hb
      refine ⟨(fun _ h => by cases h), ?_, (M.out i b hi).2⟩
      rw [lend_out (hdis' b hb)]; exact (M.out i b hi).1
    obtain ⟨_, ν', φ', A, hE1⟩ := packE_ok (X := X) rfl hp M0 ht hs hfree (fun _ _ _ => rfl)
    have M1 := A.mem
    rw [List.append_nil] at M1
    refine ⟨_, _, _, e2, s.nodef, s.size, ν', _, φ', M1, (alias_ok M1 hE1 fun q hq => ?_).app (glE_ok M0.gl fun _ _ => trivial), fun i hi => ?_⟩
    · obtain ⟨hlt, v, a1, a2⟩ := alike_ok M hE hal q hq
      intro h2 ν2 φ2 x M2 hE2 hx
      by_cases hgv : isGv x = true
      · exact gv_slot hgv
      · obtain ⟨u, b1, b2⟩ := alV_ok M2 hE2 (by simpa using hgv) hx
        have huv := b2.one a2 hlt
        subst huv
        exact ⟨u, b1, fun h _ => a1.1 h, a1.2⟩
    · cases e : ν' i with
      | none => rfl
      | some y =>
        have := A.fresh i rfl (by rw [e]; simp)
        omega
  · cases e

theorem evC_tmp {t : Nat} {c : CV τ} (hc : evC E (.tmp t) = some c) : asc E t = some (.c c) := by
  have hc : (match (bif Nat.blt t gh then asc E t else none) with
    | some (.c c) => some c
    | _ => none) = some c := hc
  cases hb : Nat.blt t gh with
  | false => rw [hb] at hc; cases hc
  | true =>
    rw [hb] at hc
    dsimp only [cond_true] at hc
    split at hc
    · rename_i c' hc'
      cases hc
      exact hc'
    · cases hc
def exT : Ex → Exit
  | .no => .normal
  | .ex id => .exit id
  | .rt => .ret
def KOk (X : Cx τ) (w0 : World) (h0 : Fz) (F : List Nat) (K : Kx τ ρ) (Q : Exit → Act → World → Prop) (r : ρ) : Prop := ∀ e E L nid a w, K e E L nid = some r → St X w0 h0 F E L nid a w → Q (exT e) a w
theorem KOk.thn {K : Kx τ ρ} {Q : Exit → Act → World → Prop} {next : Act → World → Prop} {K0 : EnvX τ → Hp τ → Nat → Option ρ} (hK : KOk X w0 h0 F K Q r) (h0' : ∀ E L nid a w, K0 E L nid = some r → St X w0 h0 F E L nid a w → next a w) :
    KOk X w0 h0 F (fun e E L nid => match e with
      | .no => K0 E L nid
      | e => K e E L nid) (Exit.then next Q) r := by
  intro e E L nid a w he s
  cases e with
  | no => exact h0' E L nid a w he s
  | ex id => exact hK (.ex id) E L nid a w he s
  | rt => exact hK .rt E L nid a w he s
theorem exX_ok (hm : X.P.follows .mixedOrders = true) (hT : TyOk X) (hC : ∀ q ∈ X.cs, COk X.P X.G q.1 q.2) (hN : X.n ≤ gh) (c : Code) : ∀ (hn : Hn τ ρ) (K : Kx τ ρ) (Q : Exit → Act → World → Prop) (E : EnvX τ) (L : Hp τ) (nid : Nat) (a : Act) (w : World),
    exX X c hn E L nid K = some r → hn.giv = runs X c hn K → KOk X w0 h0 F K Q r → St X w0 h0 F E L nid a w → c.wp X.P Q a w := by
  induction c with
  | skip =>
    intro hn K Q E L nid a w e _ hK s
    exact wp_skip (hK .no E L nid a w e s)
  | region id ops d =>
    intro hn K Q E L nid a w e _ hK s
    obtain ⟨l⟩ := ops
    cases d with
    | true => exact draw_ok hm hT hC hN (fun E L nid a w h s => hK .no E L nid a w h s) e s
    | false => exact wp_region_list (opsX_ok hT hC hN (fun E L nid a w h s => hK .no E L nid a w h s) e s)
  | seq x y ihx ihy =>
    intro hn K Q E L nid a w e hg hK s
    have two : ∀ (h1 h2 : Hn τ ρ), exX X x h1 E L nid (thenK X y h2 K) = some r → h1.giv = runs X x h1 (thenK X y h2 K) → h2.giv = runs X y h2 K → (Code.seq x y).wp X.P Q a w := by
      intro h1 h2 e g1 g2
      refine wp_seq (ihx h1 _ _ E L nid a w e g1 (hK.thn fun E L nid a w he s => ihy h2 K Q E L nid a w he g2 hK s) s)
    cases hn with
    | e => exact two .e .e e rfl rfl
    | q h1 h2 =>
      have hg' : (h1.giv, h2.giv) = (runs X x h1 (thenK X y h2 K), runs X y h2 K) := hg
      injection hg' with g1 g2
      exact two h1 h2 e g1 g2
    | n k h1 =>
      cases k with
      | zero => exact two .e .e e rfl rfl
      | succ k =>
        cases k with
        | zero => exact two .e h1 e rfl hg
        | succ k => exact two .e (.n (k + 1) h1) e rfl hg
    | w l al f h1 => exact two .e .e e rfl rfl
    | j l al f h1 h2 =>
      have hg' : (f, h1.giv, h2.giv) = ((fun t => fromE X.G l al t fun E L nid => exX X y h2 E L nid K), runs X x h1 (cutT X l al f K), runs X y h2 K) := hg
      injection hg' with g0 g12
      injection g12 with g1 g2
      refine wp_seq (ihx h1 (cutT X l al f K) _ E L nid a w e g1 (hK.thn fun E L nid a w he s => ?_) s)
      obtain ⟨p, hp, hcut⟩ := cut_ok s he
      have hp2 := congrFun g0 p
      rw [hp] at hp2
      obtain ⟨E', L', nid', h3, s'⟩ := hcut _ hp2.symm
      exact ihy h2 K Q E' L' nid' a w h3 g2 hK s'
  | cond c x y ihx ihy =>
    intro hn K Q E L nid a w e hg hK s
    have g1 : hn.fst.giv = runs X x hn.fst K := by
      cases hn with
      | q h1 h2 =>
        have hg' : (h1.giv, h2.giv) = (runs X x h1 K, runs X y h2 K) := hg
        injection hg' with g1 _
      | _ => rfl
    have g2 : hn.sn2.giv = runs X y hn.sn2 K := by
      cases hn with
      | q h1 h2 =>
        have hg' : (h1.giv, h2.giv) = (runs X x h1 K, runs X y h2 K) := hg
        injection hg' with _ g2
      | _ => rfl
    obtain ⟨ν, h, φ, M, hE, hnn⟩ := s.st
    obtain ⟨Ea, hf, hl⟩ := envA a s.nodef
    unfold exX at e
    split at e
    · rename_i b hc
      obtain ⟨v, h1, h2⟩ := evC_of hl (hE.on _) hc
      obtain rfl : v = _ := h2
      cases b with
      | true => exact wp_cond_true (hf.ev h1) (ihx hn.fst K Q E L nid a w e g1 hK s)
      | false => exact wp_cond_false (hf.ev h1) (ihy hn.sn2 K Q E L nid a w e g2 hK s)
    · rename_i b hc
      obtain ⟨v, h1, h2⟩ := evC_of hl (hE.on _) hc
      obtain rfl : v = _ := h2
      split at e
      · rename_i t
        have ha : asc E t = some (.c (.b b)) := evC_tmp hc
        cases b with
        | true =>
          rw [if_pos rfl] at e
          exact wp_cond_true (hf.ev h1) (ihx hn.fst K Q _ L nid a w e g1 hK (s.ref ((Ref.refl E).known ha)))
        | false =>
          rw [if_neg (by simp)] at e
          exact wp_cond_false (hf.ev h1) (ihy hn.sn2 K Q _ L nid a w e g2 hK (s.ref ((Ref.refl E).known ha)))
      · cases e
    · cases e
  | block id c ih =>
    intro hn K Q E L nid a w e hg hK s
    refine wp_block (ih hn (blkK id K) _ E L nid a w e hg (fun e E L nid a w he s => ?_) s)
    cases e with
    | no => exact hK .no E L nid a w he s
    | rt => exact hK .rt E L nid a w he s
    | ex i =>
      unfold blkK at he
      simp only at he
      cases hb : Nat.beq i id with
      | true =>
        rw [hb] at he
        have : i = id := by simpa using hb
        subst this
        exact exit_here (hK .no E L nid a w he s)
      | false =>
        rw [hb] at he
        exact exit_past hb (hK (.ex i) E L nid a w he s)
  | loop c ih =>
    intro hn K Q E L nid a w e hg hK s
    cases hn with
    | w l al f h1 =>
      have hg' : ((fun n t => f (n + 1) t), (fun t => f 0 t), fun n => (h1 n).giv) = ((fun n t => fromE X.G l al t fun E L nid => exX X c (h1 n) E L nid (cutT X l al (f n) K)), (fun _ => none), fun n => runs X c (h1 n) (cutT X l al (f n) K)) := hg
      injection hg' with g0 g12
      injection g12 with g1 g2
      have key : ∀ (n : Nat) (a : Act) (w : World), (∃ E L nid, cutK X.G l al (f n) E L = some r ∧ St X w0 h0 F E L nid a w) → c.wp X.P (Exit.then (fun a' w' => ∃ m, m < n ∧ ∃ E L nid, cutK X.G l al (f m) E L = some r ∧ St X w0 h0 F E L nid a' w') Q) a w := by
        rintro n a w ⟨E, L, nid, he, s⟩
        obtain ⟨p, hp, hcut⟩ := cut_ok s he
        cases n with
        | zero =>
          have := congrFun g1 p
          rw [hp] at this; cases this
        | succ n =>
          have hp2 := congrFun (congrFun g0 n) p
          rw [hp] at hp2
          obtain ⟨E', L', nid', h3, s'⟩ := hcut _ hp2.symm
          exact ih (h1 n) (cutT X l al (f n) K) _ E' L' nid' a w h3 (congrFun g2 n) (hK.thn fun E L nid a w he s => ⟨n, Nat.lt_succ_self n, E, L, nid, he, s⟩) s'
      exact wp_loop_n (fun n a w => ∃ E L nid, cutK X.G l al (f n) E L = some r ∧ St X w0 h0 F E L nid a w) key fuel ⟨E, L, nid, e, s⟩
    | e => cases e
    | q h1 h2 => cases e
    | n k h1 => cases e
    | j l al f h1 h2 => cases e
  | exit id =>
    intro hn K Q E L nid a w e _ hK s
    exact wp_exit (hK (.ex id) E L nid a w e s)
  | ret =>
    intro hn K Q E L nid a w e _ hK s
    exact wp_ret (hK .rt E L nid a w e s)
  | rangeFunc _ _ _ _ _ _ => intro hn K Q E L nid a w e; cases e
  | scope _ _ => intro hn K Q E L nid a w e; cases e
  | label _ => intro hn K Q E L nid a w e; cases e
  | goto _ => intro hn K Q E L nid a w e; cases e
  | refuse _ => intro hn K Q E L nid a w e; cases e
end
end Go.Rk
end
section
namespace Go.Rk
open Go.RowKit Go.Dm Go.Dk
variable {τ : Nat → Type}
section
variable {ρ : Type} {X : Cx τ} {w0 w w' : World} {h0 h h' H : Fz} {F : List Nat} {E E' Eb : EnvX τ} {L L2 : Hp τ} {ν ν' : Vn τ} {φ φ' : Nat → List Nat} {nid nid' : Nat} {a : Act}
theorem run_mapM {P : Program} {α : Type} {f : α → Sem Value} : ∀ {l : List α} {vs : List Value}, l.length = vs.length → (∀ (i : Nat) x v, l[i]? = some x → vs[i]? = some v → (f x).run P w = .ok v w) → (l.mapM f).run P w = .ok vs w
  | [], [], _, _ => by simp
  | x :: l, v :: vs, hl, h => by
    have h1 := h 0 x v rfl rfl
    have h2 := run_mapM (f := f) (l := l) (vs := vs) (by simpa using hl) fun i x v a b => h (i + 1) x v (by simpa using a) (by simpa using b)
    simp [List.mapM_cons, h1, h2, Result.andThen]
  | [], _ :: _, h, _ => by simp at h
  | _ :: _, [], h, _ => by simp at h
def rv1 (tmps : Array Value) : ResultVar → Sem Value
  | .tmp t => pure (tmps.getD t undef)
  | .cell a t => do loadVar t (← asAddr (tmps.getD a undef))
theorem results_eq (fn : Func) (tmps : Array Value) : results fn tmps = (do
    let vs ← fn.results.mapM (rv1 tmps)
    pure (if h : vs.size = 1 then vs[0] else .tuple vs)) := by
  unfold results
  have : (fun x => match x with
    | ResultVar.tmp t => pure (tmps.getD t undef)
    | ResultVar.cell a t => do loadVar t (← asAddr (tmps.getD a undef))) = rv1 tmps := funext fun x => by cases x <;> rfl
  rw [← this]
  rfl
theorem results_run {fn : Func} {rv : List ResultVar} {tmps : Array Value} {vs : List Value} (hr : fn.results = ⟨rv⟩) (hl : rv.length = vs.length) (h : ∀ (i : Nat) x v, rv[i]? = some x → vs[i]? = some v → (rv1 tmps x).run X.P w = .ok v w) : (results fn tmps).run X.P w = .ok (retV vs) w := by
  have h1 := run_mapM (P := X.P) (w := w) hl h
  have h2 : (fn.results.mapM (rv1 tmps)).run X.P w = .ok vs.toArray w := by
    rw [hr]
    simp [h1, Result.andThen]
  have h3 : ∀ u : List Value, (if h : u.toArray.size = 1 then u.toArray[0] else Value.tuple u.toArray) = retV u := by
    intro u
    match u with
    | [] => rfl
    | [v] => rfl
    | v :: v' :: u => rfl
  rw [results_eq, Sem.run_bind, h2]
  simp only [Result.andThen_ok, Sem.run_pure, h3]
theorem outX_ok (M : Mem X.P X.G w0 h0 F L w ν h φ) (hE : EnvOk X h ν a E) : ∀ {rv : List ResultVar} {xs : List (XV τ)}, outX X E L rv = some xs → (∀ y ∈ xs, isGv y = false) → ∃ vs : List Value, rv.length = vs.length ∧ vs.length = xs.length ∧ (∀ (i : Nat) x v, rv[i]? = some x → vs[i]? = some v → (rv1 a.tmps x).run X.P w = .ok v w) ∧ ∀ (i : Nat) A v, xs[i]? = some A → vs[i]? = some v → XOk X.P X.G h ν A v
  | [], xs, e, _ => by cases e; exact ⟨[], rfl, rfl, (fun i x v h => by simp at h), fun i A v h => by simp at h⟩
  | .tmp t :: rv, xs, e, hgv => by
    unfold outX at e
    obtain ⟨hlt, e⟩ := bc_t e
    split at e
    · rename_i A hA
      split at e
      · rename_i As hAs
        cases e
        obtain ⟨vs, h1, h2, h3, h4⟩ := outX_ok M hE hAs fun y hy => hgv y (List.mem_cons_of_mem _ hy)
        obtain ⟨v, g1, g2, _⟩ := hE t A hA
        have g2 := g2 hlt (hgv A (List.mem_cons_self ..))
        refine ⟨v :: vs, by simp [h1], by simp [h2], fun i x u hx hu => ?_, fun i B u hB hu => ?_⟩
        · cases i with
          | zero =>
            simp at hx hu
            subst hx; subst hu
            simp [rv1, Array.getD_eq_getD_getElem?, g2]
          | succ i => exact h3 i x u (by simpa using hx) (by simpa using hu)
        · cases i with
          | zero => simp at hB hu; subst hB; subst hu; exact g1
          | succ i => exact h4 i B u (by simpa using hB) (by simpa using hu)
      · cases e
    · cases e
  | .cell t ty :: rv, xs, e, hgv => by
    unfold outX at e
    obtain ⟨hlt, e⟩ := bc_t e
    split at e
    · rename_i id hA
      split at e
      · rename_i bt cs hl
        split at e
        · rename_i n hn
          split at e
          · rename_i A hone
            split at e
            · rename_i As hAs
              cases e
              obtain ⟨vs, h1, h2, h3, h4⟩ := outX_ok M hE hAs fun y hy => hgv y (List.mem_cons_of_mem _ hy)
              obtain ⟨pv, g1, g2, _⟩ := hE t _ hA
              have g2 := g2 hlt rfl
              obtain ⟨b, q, us, hν, rfl, _, hh, hcs, hs⟩ := pt_blk M g1 hl
              have hld : ∃ u, (loadVar ty ⟨b, 0, none⟩).run X.P w = .ok u w ∧ XOk X.P X.G h ν A u := by
                unfold oneO at hone
                split at hone
                · rename_i l hcut
                  obtain ⟨k1, k2⟩ := hcs.cut hcut
                  have hlen := cutL_len hcut
                  split at hone
                  · rename_i hag
                    cases hone
                    refine ⟨_, run_loadVarN (isA_ok hag) (szO_ok hn) (vs := (us.drop 0).take n) (by rw [k1.len, hlen]) (fun j v hj => ?_), _, rfl, k1⟩
                    have := hs.cells (o := 0) (n := n) rfl j v hj
                    simpa using this
                  · rename_i hag
                    split at hone
                    · rename_i c
                      cases hone
                      obtain ⟨u, us', k3, k4, _⟩ := k1
                      refine ⟨u, run_loadVar1 (isA_ok hag) (hs.cell (o := 0) ?_), k4⟩
                      have : ((us.drop 0).take n)[0]? = some u := by rw [k3]; rfl
                      rw [List.getElem?_take] at this
                      split at this
                      · simpa using this
                      · cases this
                    · cases hone
                  · cases hone
                · cases hone
              obtain ⟨u, k1, k2⟩ := hld
              refine ⟨u :: vs, by simp [h1], by simp [h2], fun i x u' hx hu => ?_, fun i B u' hB hu => ?_⟩
              · cases i with
                | zero =>
                  simp at hx hu
                  subst hx; subst hu
                  simp [rv1, Array.getD_eq_getD_getElem?, g2, asAddr, k1, Result.andThen]
                | succ i => exact h3 i x u' (by simpa using hx) (by simpa using hu)
              · cases i with
                | zero => simp at hB hu; subst hB; subst hu; exact k2
                | succ i => exact h4 i B u' (by simpa using hB) (by simpa using hu)
            · cases e
          · cases e
        · cases e
      · cases e
    · cases e
theorem backs_ok (hE : EnvOk X h ν a E) : ∀ {js : List Nat} {xs : List (XV τ)}, backs E js = some xs → xs.length = js.length ∧ ∀ (i : Nat) A v, xs[i]? = some A → (js.map X.fx)[i]? = some v → XOk X.P X.G h ν A v
  | [], xs, e => by cases e; exact ⟨rfl, fun i A v h => by simp at h⟩
  | j :: js, xs, e => by
    unfold backs at e
    obtain ⟨hlt, e⟩ := bc_t e
    split at e
    · rename_i A hA
      split at e
      · rename_i As hAs
        cases e
        obtain ⟨h1, h2⟩ := backs_ok hE hAs
        obtain ⟨v, g1, _, _, g2⟩ := hE _ A hA
        have hj : j < gh := by simpa using hlt
        have hv : v = X.fx j := by
          have := g2 (Nat.le_add_right ..) (by unfold gh at hj ⊢; omega)
          rwa [Nat.add_sub_cancel_left] at this
        subst hv
        refine ⟨by simp [h1], fun i B u hB hu => ?_⟩
        cases i with
        | zero => simp at hB hu; subst hB; subst hu; exact g1
        | succ i => exact h2 i B u (by simpa using hB) (by simpa using hu)
      · cases e
    · cases e

theorem packP_ok : ∀ {ts : List Ty} {p : DP τ ts} {i0 : Nat} {nid : Nat} {E : EnvX τ} {L : Hp τ} {nid' : Nat} {vs : List Value} {fp : List Nat} {L0 : Hp τ} {ν : Vn τ} {φ : Nat → List Nat}, packP X.G i0 ts p nid = (E, L, nid') → Mem X.P X.G w0 h0 F L0 w ν h φ → TrXs X.P X.G h w ts p vs fp → (∀ (j : Nat) v, vs[j]? = some v → a.tmps[i0 + j]? = some v) →
    i0 + ts.length ≤ gh → Free w0 h F φ fp → (∀ i, nid ≤ i → i < nid' → ν i = none) → nid ≤ nid' ∧ (∃ ν' φ', Adds X.P X.G w0 h0 F L0 w ν h φ L nid nid' fp ν' φ' ∧ EnvOk X h ν' a E) ∧ ∀ t x, asc E t = some x → i0 ≤ t ∧ t < i0 + ts.length
  | [], p, i0, nid, E, L, nid', vs, fp, L0, ν, φ, e, M, ht, hs, hlt, hf, hn => by
    cases e
    exact ⟨Nat.le_refl _, ⟨ν, φ, (Grew.nil M _ _).adds, fun t x e => by cases e⟩, fun t x e => by cases e⟩
  | ty :: ts, p, i0, nid, E, L, nid', vs, fp, L0, ν, φ, e, M, ht, hs, hlt, hf, hn => by
    unfold packP at e
    split at e
    rename_i A U n1 h1
    split at e
    rename_i E2 L2 n2 h2
    cases e
    simp only [List.length_cons] at hlt
    cases ht with
    | cons _ _ _ v us f f' t1 t2 hd =>
      have l1 := expX_le h1
      have hle2 : n1 ≤ nid' := packP_le h2
      obtain ⟨_, ⟨ν1, φ1, A1, e1⟩, hk⟩ := packP_ok h2 M t2 (fun j v hj => by have := hs (j + 1) v (by simpa using hj); rwa [show i0 + (j + 1) = i0 + 1 + j by omega] at this) (by omega) (hf.sub fun b hb => List.mem_append_right _ hb) (fun i a b => hn i (by omega) b)
      obtain ⟨ν2, φ2, A2, hx⟩ := expX_ok A1.mem h1 t1 (fun i a b => by
        cases e : ν1 i with
        | none => rfl
        | some y =>
          have := A1.fresh i (hn i a (by omega)) (by rw [e]; simp)
          omega) (Free.adds A1 (hf.sub fun b hb => List.mem_append_left _ hb) hd)
      refine ⟨by omega, ⟨ν2, φ2, Adds.seq A1 A2 l1 hle2, fun t' x e => ?_⟩, fun t' x e => ?_⟩
      · simp only [asc_nil, asc_cons] at e
        cases hb : Nat.beq i0 t' with
        | true =>
          rw [hb] at e
          cases e
          have : i0 = t' := by simpa using hb
          subst this
          refine ⟨v, hx, fun _ _ => ?_, fun h => ?_, fun h => ?_⟩
          · have := hs 0 v rfl; rwa [Nat.add_zero] at this
          · exfalso; unfold gb at h; unfold gh at hlt; omega
          · exfalso; omega
        | false =>
          rw [hb] at e
          exact (e1 t' x e).le (Fz.le.refl _) A2.le
      · simp only [asc_nil, asc_cons] at e
        simp only [List.length_cons]
        cases hb : Nat.beq i0 t' with
        | true =>
          have : i0 = t' := by simpa using hb
          omega
        | false =>
          rw [hb] at e
          have := hk t' x e
          omega
where
  packP_le : ∀ {ts : List Ty} {p : DP τ ts} {i0 nid : Nat} {E : EnvX τ} {L : Hp τ} {nid' : Nat}, packP X.G i0 ts p nid = (E, L, nid') → nid ≤ nid'
  | [], p, i0, nid, E, L, nid', e => by cases e; exact Nat.le_refl _
  | ty :: ts, p, i0, nid, E, L, nid', e => by
    unfold packP at e
    split at e
    rename_i A U n1 h1
    split at e
    rename_i E2 L2 n2 h2
    cases e
    exact Nat.le_trans (expX_le h1) (packP_le h2)
theorem TrXs.len {P : Program} {G : Sig τ} : ∀ {ts : List Ty} {q : DP τ ts} {vs : List Value} {fp : List Nat}, TrXs P G h w ts q vs fp → vs.length = ts.length
  | _, _, _, _, .nil => rfl
  | _, _, _, _, .cons _ _ _ _ _ _ _ _ h2 _ => by simp [h2.len]
theorem resXs_gv {G : Sig τ} : ∀ {ts : List Ty} {As : List (XV τ)} {q : DP τ ts × List Nat × List Nat}, resXs G L ts As = some q → (∀ t ∈ ts, ∀ x y, t ≠ .pr x y) → ∀ y ∈ As, isGv y = false
  | [], [], _, _, _, y, hy => by cases hy
  | t :: ts, A :: As, q, e, hp, y, hy => by
    unfold resXs at e
    split at e
    · rename_i x l m hx
      split at e
      · rename_i q' hq
        rcases List.mem_cons.1 hy with rfl | hy
        · exact resX_gv hx (hp t (List.mem_cons_self ..))
        · exact resXs_gv hq (fun t ht => hp t (List.mem_cons_of_mem _ ht)) y hy
      · cases e
    · cases e
  | [], _ :: _, _, e, _, _, _ => by cases e
  | _ :: _, [], _, e, _, _, _ => by cases e
theorem gho_ok {vs : List Value} {X : Cx τ} {a : Act} {E : EnvX τ} {h : Fz} {ν : Vn τ} (hE : EnvOk (X.w (bkV vs)) h ν a E) (hv : ∀ (j : Nat) x, asc E j = some x → isGv x = false → XOk X.P X.G h ν x (vs.getD j undef)) : ∀ {js : List Nat}, EnvOk (X.w (bkV vs)) h ν a (gho E js)
  | [] => fun t x e => by cases e
  | j :: js => by
    unfold gho
    split
    · rename_i v hv1
      split
      · rename_i c hc
        cases hb : Nat.blt j gh with
        | false => exact gho_ok hE hv
        | true =>
          intro t x e
          simp only [cond_true, asc_nil, asc_cons] at e
          cases ht : Nat.beq (gh + j) t with
          | false => rw [ht] at e; exact gho_ok hE hv t x e
          | true =>
            rw [ht] at e
            cases e
            have : gh + j = t := by simpa using ht
            subst this
            have hjg : j < gh := by simpa using hb
            have hg : isGv v = false := by
              cases v with
              | gv t x => cases hj : j / 32 <;> rw [hj] at hc <;> cases hc
              | _ => rfl
            refine ⟨bkV vs j, rootX_ok (hv _ _ hv1 hg) hc, fun h => ?_, fun h => ?_, fun _ _ => ?_⟩
            · exfalso; rw [Nat.blt_eq] at h; omega
            · exfalso; unfold gb gh at *; omega
            · show _ = bkV vs (gh + j - gh); rw [Nat.add_sub_cancel_left]
      · exact gho_ok hE hv
    · exact gho_ok hE hv
def noPr : Ty → Bool
  | .pr _ _ => false
  | _ => true
structure FnOkk (X : Cx τ) (f : FuncId) (fn : Func) (c : Code) (rv : List ResultVar) (k : Con τ) : Prop where
  at_ : X.P.funcs[f]? = some fn
  body : fn.body = some c
  name : (fn.name == "runtime.NumGoroutine") = false
  size : fn.ntmps = X.n
  small : X.n ≤ gh
  pars : k.ps.length ≤ X.n
  rs : fn.results = ⟨rv⟩
  pr : k.rs.all noPr = true
theorem fact_ok {f : FuncId} {fn : Func} {c : Code} {rv : List ResultVar} {k : Con τ} {hn : Hn τ (DP τ k.rs)} (hm : X.P.follows .mixedOrders = true) (hT : TyOk X) (hC : ∀ q ∈ X.cs, COk X.P X.G q.1 q.2) (hf : FnOkk X f fn c rv k) (hF : Fact X k c rv hn) : COk X.P X.G f k := by
  refine ⟨⟨fn, hf.at_, by rw [hf.body]; rfl, hf.name⟩, fun h w p r vs fp hgl hfp hon htr hnone hr => ?_⟩
  refine calls_of_wp hf.at_ hf.body ?_
  have hfact := hF (bkV vs)
  injection hfact with f1 f2
  have f1 := congrFun f1 p
  rw [hr] at f1
  have hT2 : TyOk (X.w (bkV vs)) := ⟨hT.el, hT.eq⟩
  unfold entX at f1
  split at f1
  rename_i E0 L0 n0 hp
  have hlen := htr.len
  have M0 : Mem (X.w (bkV vs)).P (X.w (bkV vs)).G w h fp [] w (fun _ => none) h (fun _ => []) :=
    ⟨rfl, rfl, rfl, Nat.le_refl _, fun _ _ _ => rfl, Fz.le.refl _, hon, fun b hb => .inl hb, fun _ => rfl, (fun _ _ _ h => by cases h), (fun _ _ h => by cases h), hgl, hfp⟩
  have htm : ∀ (j : Nat) v, vs[j]? = some v → (vs.toArray ++ Array.replicate (fn.ntmps - vs.toArray.size) undef)[0 + j]? = some v := by
    intro j v hj
    rw [Nat.zero_add, Array.getElem?_append_left (by simpa using (List.getElem?_eq_some_iff.1 hj).1)]
    simpa using hj
  obtain ⟨_, ⟨ν', φ', A, hE0⟩, hk⟩ := packP_ok (X := X.w (bkV vs)) (a := ⟨vs.toArray ++ Array.replicate (fn.ntmps - vs.toArray.size) undef, []⟩) hp M0 htr htm (by have := hf.pars; have := hf.small; simp only [Nat.zero_add]; exact Nat.le_trans hf.pars hf.small) (fun b hb => ⟨(fun _ h => by cases h), hnone b hb, .inl hb⟩) (fun _ _ _ => rfl)
  have hsz : (vs.toArray ++ Array.replicate (fn.ntmps - vs.toArray.size) undef).size = X.n := by
    have := hf.pars
    have := hf.size
    simp; omega
  have hS : St (X.w (bkV vs)) w h fp ((gho E0 k.bk ++ E0) ++ glE X.G.gl) L0 n0 ⟨vs.toArray ++ Array.replicate (fn.ntmps - vs.toArray.size) undef, []⟩ w := by
    refine ⟨rfl, hsz, ν', h, φ', by have := A.mem; rwa [List.append_nil] at this, ((gho_ok hE0 fun j x hx hg => ?_).app hE0).app (glE_ok hgl fun _ _ => trivial), fun i hi => ?_⟩
    · obtain ⟨v, b1, b2, _⟩ := hE0 j x hx
      have hj := hk j x hx
      have hjg : j < gh := by have := hf.pars; have := hf.small; omega
      have hv := b2 (by rw [Nat.blt_eq]; exact hjg) hg
      have hjl : j < vs.length := by omega
      have h3 := htm j _ (List.getElem?_eq_getElem hjl)
      rw [Nat.zero_add] at h3
      rw [h3] at hv
      cases hv
      rw [List.getD_eq_getElem?_getD, List.getElem?_eq_getElem hjl]
      exact b1
    · cases e : ν' i with
      | none => rfl
      | some y =>
        have := A.fresh i rfl (by rw [e]; simp)
        omega
  refine exX_ok (X := X.w (bkV vs)) (w0 := w) (h0 := h) (F := fp) hm hT2 hC hf.small c hn _ (bodyPost X.P fn _) _ L0 n0 _ w f1.symm f2 ?_ hS
  -- the end
  intro e E L nid a w' he s
  have key : ∀ {xs ws : List (XV τ)} {l m : List Nat}, outX (X.w (bkV vs)) E L rv = some xs → backs E k.bk = some ws → resXs X.G L k.rs (xs ++ ws) = some (r, l, m) → (Nat.beq xs.length k.nr && (nod l && disj l m)) = true →
      a.defers = [] ∧ ∃ v, (results fn a.tmps).run X.P w' = .ok v w' ∧ ∃ h' rs fp', Ending.returned v = .returned (retV (rs.take k.nr)) ∧ Left h w fp h' w' fp' ∧ TrXs X.P X.G h' w' k.rs r rs fp' ∧ rs.drop k.nr = k.bk.map (bkV vs) := by
    intro xs ws l m ho hb hres hck
    simp only [Bool.and_eq_true, Nat.beq_eq] at hck
    obtain ⟨hnr, hnod, hdis⟩ := hck
    obtain ⟨ν, h1, φ, M, hE, _⟩ := s.st
    have hgv := resXs_gv hres fun t ht x y e => by
      have := List.all_eq_true.1 hf.pr t ht
      rw [e] at this; cases this
    obtain ⟨vals, o1, o2, o3, o4⟩ := outX_ok M hE ho fun y hy => hgv y (List.mem_append_left _ hy)
    obtain ⟨b1, b2⟩ := backs_ok hE hb
    have hall : ∀ (i : Nat) (A : XV τ) (v : Value), (xs ++ ws)[i]? = some A → (vals ++ k.bk.map (bkV vs))[i]? = some v → XOk X.P X.G h1 ν A v := by
      intro i A v hA hv
      by_cases hi : i < xs.length
      · rw [List.getElem?_append_left hi] at hA
        rw [List.getElem?_append_left (by omega)] at hv
        exact o4 i A v hA hv
      · rw [List.getElem?_append_right (by omega)] at hA
        rw [List.getElem?_append_right (by omega), o2] at hv
        exact b2 _ A v hA hv
    have htr := resXs_ok (L := L) M (M.lend_le m) hres (fun _ _ => rfl) (M.look fun _ _ => rfl) hnod (by simp [o2, b1]) hall
    refine ⟨s.nodef, retV vals, results_run (X := X) hf.rs o1 o3, lend h1 w' (fps φ m), _, fps φ l, ?_, ⟨M.os, M.tape, M.output, M.size, M.frame, M.le.trans (M.lend_le m), lend_on M.on, fun b hb => ?_, fun b hb => ?_⟩, htr, ?_⟩
    · rw [List.take_append_of_le_length (by omega), List.take_of_length_le (by omega)]
    · by_cases hbm : b ∈ fps φ m
      · obtain ⟨i, _, hi⟩ := mem_fps.1 hbm
        exact .inr (M.out i b hi).2
      · rw [lend_out hbm] at hb; exact M.new b hb
    · obtain ⟨i, _, hi⟩ := mem_fps.1 hb
      rw [lend_out (M.fps_dis (disj_spec hdis) b hb)]
      exact M.out i b hi
    · rw [List.drop_append, List.drop_eq_nil_of_le (by omega), List.nil_append, show k.nr - vals.length = 0 by omega, List.drop_zero]
  have fin : (match outX (X.w (bkV vs)) E L rv with
    | some vs => match backs E k.bk with
      | some ws => match resXs X.G L k.rs (vs ++ ws) with
        | some (p, l, m) => bc (Nat.beq vs.length k.nr && (nod l && disj l m)) (some p) none
        | none => none
      | none => none
    | none => none) = some r → a.defers = [] ∧ ∃ v, (results fn a.tmps).run X.P w' = .ok v w' ∧ ∃ h' rs fp', Ending.returned v = .returned (retV (rs.take k.nr)) ∧ Left h w fp h' w' fp' ∧ TrXs X.P X.G h' w' k.rs r rs fp' ∧ rs.drop k.nr = k.bk.map (bkV vs) := by
    intro he
    split at he
    · rename_i xs ho
      split at he
      · rename_i ws hb
        split at he
        · rename_i q l m hres
          obtain ⟨hck, he⟩ := bc_t he
          cases he
          exact key ho hb hres hck
        · cases he
      · cases he
    · cases he
  cases e with
  | ex id => cases he
  | no => exact fin he
  | rt => exact fin he
end
end Go.Rk
end
section
namespace Go.Rk
open Go.RowKit Go.Dm Go.Dk
noncomputable section
variable {τ : Nat → Type} {ρ : Type}
abbrev Kz (τ : Nat → Type) (ρ : Type) := Ex → EnvX τ → Hp τ → List Nat → Nat → Option ρ
abbrev OpF (τ : Nat → Type) (ρ : Type) := EnvX τ → Hp τ → Nat → Nx τ ρ → Op → Option ρ
def frN {α : Type} (n : Nat) (k : Nat → α) : α := match n with
  | 0 => k 0
  | n + 1 => k (n + 1)
def ap {α : Type} (U L : List α) : List α := List.rec (motive := fun _ => List α) L (fun x _ ih => x :: ih) U
theorem ap_eq {α : Type} (U L : List α) : ap U L = U ++ L := by
  induction U with
  | nil => rfl
  | cons x U ih => show x :: ap U L = _; rw [ih]; rfl
def opsZ (op : OpF τ ρ) (n : Nat) (all : List Oper) : List Oper → EnvX τ → Hp τ → List Nat → Nat → (EnvX τ → Hp τ → List Nat → Nat → Option ρ) → Option ρ
  | [], E, L, T, nid, K => K E L T nid
  | o :: l, E, L, T, nid, K => bc (dOk n o.dst) (guardX all E o.guard
      (fun E => op E L nid (fun v g U t nid => frN nid fun nid => opsZ op n all l (nextE l o.dst v g E) (ap U L) (ap t T) nid K) o.op)
      fun E => opsZ op n all l (unT E o.dst) L T nid K) none
def dopsZ (op : OpF τ ρ) (n : Nat) (all : List Oper) : Nat → List Oper → List Dr → EnvX τ → Hp τ → List Nat → Nat → (EnvX τ → Hp τ → List Nat → Nat → Option ρ) → Option ρ
  | _, [], R, E, L, T, nid, K => bc (drawOk all R) (K E L T nid) none
  | i, o :: l, R, E, L, T, nid, K => bc (dOk n o.dst) (guardX all E o.guard
      (fun E => op E L nid (fun v g U t nid => frN nid fun nid => dopsZ op n all (i + 1) l (⟨i, o.dst, readsO all o, ap t (kys U), kys U⟩ :: R) (nextE l o.dst v g E) (ap U L) (ap t T) nid K) o.op)
      fun E => dopsZ op n all (i + 1) l (⟨i, o.dst, readsO all o, [], []⟩ :: R) (unT E o.dst) L T nid K) none
def bsM (s k : Nat) : Bool := Nat.beq (Nat.land (Nat.shiftRight s k) 1) 1
def bsA (s k : Nat) : Nat := Nat.lor s (Nat.shiftLeft 1 k)
theorem bsM_eq (s k : Nat) : bsM s k = s.testBit k := by
  have h1 : Nat.land (Nat.shiftRight s k) 1 = (s >>> k) % 2 := Nat.and_one_is_mod (s >>> k)
  unfold bsM
  rw [h1, Nat.testBit_eq_decide_div_mod_eq, Nat.shiftRight_eq_div_pow]
  cases Nat.mod_two_eq_zero_or_one (s / 2 ^ k) with
  | inl h => rw [h]; rfl
  | inr h => rw [h]; rfl
theorem bsM_bsA (s k j : Nat) : bsM (bsA s k) j = (bsM s j || Nat.beq k j) := by
  rw [bsM_eq, bsM_eq]
  have h1 : bsA s k = s ||| (1 <<< k) := rfl
  rw [h1, Nat.testBit_or, Nat.one_shiftLeft, Nat.testBit_two_pow]
  cases hb : Nat.beq k j with
  | true => rw [decide_eq_true (by simpa using hb)]
  | false => rw [decide_eq_false (fun e => by subst e; simp at hb)]
theorem bsM_zero (j : Nat) : bsM 0 j = false := by rw [bsM_eq]; exact Nat.zero_testBit j
def Bsr (s : Nat) (l : List Nat) : Prop := ∀ k, bsM s k = mem l k
theorem Bsr.nil : Bsr 0 [] := fun k => by rw [bsM_zero]; rfl
theorem Bsr.cons {s : Nat} {l : List Nat} (h : Bsr s l) (k : Nat) : Bsr (bsA s k) (k :: l) := fun j => by
  rw [bsM_bsA, h j]
  rw [mem_cons]
  have : Nat.beq k j = Nat.beq j k := by
    cases hb : Nat.beq k j with
    | true => have : k = j := by simpa using hb
              subst this; exact hb.symm
    | false =>
      cases hc : Nat.beq j k with
      | false => rfl
      | true => have : j = k := by simpa using hc
                subst this; rw [hc] at hb; cases hb
  rw [this, Bool.or_comm]
def cmU (lo hi : Nat) : List Nat → Hp τ → Hp τ
  | _, [] => []
  | sn, (k, v) :: U => bif mem sn k then cmU lo hi sn U else match v with
    | .gone => bif Nat.ble lo k && Nat.blt k hi then cmU lo hi (k :: sn) U else (k, .gone) :: cmU lo hi (k :: sn) U
    | v => (k, v) :: cmU lo hi (k :: sn) U
def cmUb (lo hi : Nat) : Nat → Hp τ → Hp τ
  | _, [] => []
  | s, (k, v) :: U => bif bsM s k then cmUb lo hi s U else match v with
    | .gone => bif Nat.ble lo k && Nat.blt k hi then cmUb lo hi (bsA s k) U else (k, .gone) :: cmUb lo hi (bsA s k) U
    | v => (k, v) :: cmUb lo hi (bsA s k) U
theorem cmUb_eq {lo hi : Nat} : ∀ {U : Hp τ} {s : Nat} {sn : List Nat}, Bsr s sn → cmUb lo hi s U = cmU lo hi sn U
  | [], _, _, _ => rfl
  | (k, v) :: U, s, sn, h => by
    unfold cmUb cmU
    rw [h k, cmUb_eq h, cmUb_eq (h.cons k)]
def dd (lo hi : Nat) : List Nat → List Nat → List Nat
  | _, [] => []
  | sn, t :: T => bif mem sn t || (Nat.ble lo t && Nat.blt t hi) then dd lo hi sn T else t :: dd lo hi (t :: sn) T
def ddb (lo hi : Nat) : Nat → List Nat → List Nat
  | _, [] => []
  | s, t :: T => bif bsM s t || (Nat.ble lo t && Nat.blt t hi) then ddb lo hi s T else t :: ddb lo hi (bsA s t) T
theorem ddb_eq {lo hi : Nat} : ∀ {T : List Nat} {s : Nat} {sn : List Nat}, Bsr s sn → ddb lo hi s T = dd lo hi sn T
  | [], _, _, _ => rfl
  | t :: T, s, sn, h => by
    unfold ddb dd
    rw [h t, ddb_eq h, ddb_eq (h.cons t)]
def nodB : Nat → List Nat → Bool
  | _, [] => true
  | s, i :: l => bif bsM s i then false else nodB (bsA s i) l
theorem nodB_ok : ∀ {l : List Nat} {s : Nat} {sn : List Nat}, Bsr s sn → nodB s l = true → nod l = true ∧ ∀ i ∈ l, i ∉ sn
  | [], _, _, _, _ => ⟨rfl, fun i h => by cases h⟩
  | i :: l, s, sn, h, e => by
    unfold nodB at e
    cases hb : bsM s i with
    | true => rw [hb] at e; cases e
    | false =>
      rw [hb] at e
      obtain ⟨h1, h2⟩ := nodB_ok (h.cons i) e
      have hni : i ∉ l := fun hi => h2 i hi (List.mem_cons_self ..)
      refine ⟨?_, fun j hj hs => ?_⟩
      · unfold nod
        rw [h1]
        cases hm : mem l i with
        | false => rfl
        | true =>
          obtain ⟨j, hj, hji⟩ := List.any_eq_true.1 (mem_def _ _ ▸ hm)
          have : i = j := by simpa using hji
          subst this
          exact (hni hj).elim
      · rcases List.mem_cons.1 hj with rfl | hj
        · have h3 := h j
          rw [hb] at h3
          have : mem sn j = true := by rw [mem_def]; exact List.any_eq_true.2 ⟨j, hs, by simp⟩
          rw [this] at h3
          cases h3
        · exact h2 j hj (List.mem_cons_of_mem _ hs)
def bsL : List Nat → Nat
  | [] => 0
  | i :: l => bsA (bsL l) i
theorem bsL_ok : ∀ l : List Nat, Bsr (bsL l) l
  | [] => Bsr.nil
  | i :: l => (bsL_ok l).cons i
def disjB (l m : List Nat) : Bool := match m with
  | [] => true
  | m => (fun s => allR l fun i => !bsM s i) (bsL m)
theorem disjB_ok {l m : List Nat} (h : disjB l m = true) : disj l m = true := by
  cases m with
  | nil => rw [disj_def, List.all_eq_true]; intro i _; rfl
  | cons j m =>
    have h : (allR l fun i => !bsM (bsL (j :: m)) i) = true := h
    rw [allR_eq] at h
    rw [disj_def]
    rw [List.all_eq_true] at h ⊢
    intro i hi
    rw [← bsL_ok (j :: m) i]
    exact h i hi
def cmT (lo hi : Nat) (L : Hp τ) (T : List Nat) : List Nat := bif allR L fun p => Nat.blt p.1 lo then ddb lo hi 0 T else T
def gvB : XV τ → Bool
  | .gv _ _ => true
  | _ => false
def Cx.wn (X : Cx τ) (n : Nat) : Cx τ := ⟨X.P, X.G, X.ty, X.cs, n, X.fx⟩
def nfE : List Nat → EnvX τ → (EnvX τ → Option ρ) → Option ρ
  | _, [], K => K []
  | sn, (t, v) :: E, K => bc (mem sn t) (nfE sn E K) (nfE (t :: sn) E fun E => K ((t, v) :: E))
def argE : Nat → List (XV τ) → EnvX τ
  | _, [] => []
  | i, v :: vs => (i, v) :: argE (i + 1) vs
def incB : Nat → List Nat → Bool
  | _, [] => true
  | k, i :: l => bif Nat.blt k i then incB i l else false
def nodF : List Nat → Bool
  | [] => true
  | i :: l => bif incB i l then true else nodB 0 (i :: l)
theorem incB_lt : ∀ {l : List Nat} {k : Nat}, incB k l = true → ∀ j ∈ l, k < j
  | [], _, _, j, hj => by cases hj
  | i :: l, k, h, j, hj => by
    unfold incB at h
    cases hb : Nat.blt k i with
    | false => rw [hb] at h; cases h
    | true =>
      rw [hb] at h
      have hk : k < i := by simpa using hb
      rcases List.mem_cons.1 hj with rfl | hj
      · exact hk
      · exact Nat.lt_trans hk (incB_lt h j hj)
theorem incB_nod : ∀ {l : List Nat} {k : Nat}, incB k l = true → nod (k :: l) = true
  | l, k, h => by
    have hm : mem l k = false := by
      cases hc : mem l k with
      | false => rfl
      | true =>
        obtain ⟨j, hj, hjk⟩ := List.any_eq_true.1 (mem_def _ _ ▸ hc)
        have := incB_lt h j hj
        simp at hjk
        omega
    unfold nod
    rw [hm]
    cases l with
    | nil => rfl
    | cons i l =>
      unfold incB at h
      cases hb : Nat.blt k i with
      | false => rw [hb] at h; cases h
      | true => rw [hb] at h; simpa using incB_nod h
theorem nodF_nod {l : List Nat} (h : nodF l = true) : nod l = true := by
  cases l with
  | nil => rfl
  | cons i l =>
    replace h : (bif incB i l then true else nodB 0 (i :: l)) = true := h
    cases hb : incB i l with
    | true => exact incB_nod hb
    | false => rw [hb] at h; exact (nodB_ok Bsr.nil h).1
def callZ (X : Cx τ) (L : Hp τ) (nid : Nat) (K : Nx τ ρ) (f : FuncId) (avs : List (XV τ)) (z : Option ρ) : Cons τ → Option ρ
  | [] => z
  | (g, k) :: cs => bc (Nat.beq g f) (match resXs X.G L k.ps avs with
  | some (p, l, m) => bc (nodF l && disjB l m)
      (match (bif k.rs.any (shows X.G depth) then freeze L m else some []) with
      | some Z => match roots avs k.bk with
        | some rs => bc (nod (rids rs) && (rids rs).all (mem l)) (match k.m p with
          | some r => resK X.G (nones k.nr rs) k.rs r nid fun vs U nid' => match tupX vs with
            | some v => K v [.gv (prT k.rs) (DP.pr k.rs r)] (U ++ (gones l ++ Z)) (l ++ m) nid'
            | none => none
          | none => callZ X L nid K f avs z cs) z
        | none => z
      | none => z)
      (callZ X L nid K f avs z cs)
  | none => callZ X L nid K f avs z cs) (callZ X L nid K f avs z cs)
def outI (E : EnvX τ) : List ResultVar → List Nat
  | [] => []
  | .tmp _ :: rs => outI E rs
  | .cell t _ :: rs => match asc E t with
    | some (.c (.pt id 0)) => id :: outI E rs
    | _ => outI E rs
inductive Bt (α : Type) where
  | nil
  | lf (k : Nat) (v : α)
  | nd (k : Nat) (a b : Bt α)
def Bt.get {α : Type} : Bt α → Nat → Option α
  | .nil, _ => none
  | .lf k v, f => bif Nat.beq k f then some v else none
  | .nd k a b, f => bif Nat.blt f k then a.get f else b.get f
structure FnS (P : Program) where
  f : FuncId
  fn : Func
  ok : P.funcs[f]? = some fn
def fnS {P : Program} {f : FuncId} {fn : Func} (h : P.funcs[f]? = some fn) : FnS P := ⟨f, fn, h⟩
structure Zx (X : Cx τ) where
  ct : FuncId → Cons τ
  ft : Bt (FnS X.P)
abbrev InF (τ : Nat → Type) (ρ : Type) := Nat → Code → EnvX τ → Hp τ → List Nat → Nat → Kz τ ρ → Option ρ
def inl (X : Cx τ) (Z : Zx X) (ih : InF τ ρ) (L : Hp τ) (nid : Nat) (K : Nx τ ρ) (f : FuncId) (avs : List (XV τ)) (T : List Nat) : Option ρ := match Z.ft.get f with
  | some s => bc (Nat.beq s.f f) (match s.fn.body with
    | some c => bc (Nat.ble avs.length s.fn.ntmps && Nat.ble s.fn.ntmps gh) (ih s.fn.ntmps c (argE 0 avs ++ glE X.G.gl) L T nid fun e E L' T nid' => match e with
      | .ex _ => none
      | _ => match outX X E L' s.fn.results.toList with
        | some vs => bc (vs.any gvB) none (match tupX vs with
          | some v => K v [] (cmUb nid nid' 0 (L'.take (L'.length - L.length))) (cmT nid nid' L (outI E s.fn.results.toList ++ T)) nid'
          | none => none)
        | none => none) none
    | none => none) none
  | none => none
def evCs (E : EnvX τ) : List Operand → Option (List (CV τ))
  | [] => some []
  | x :: xs => match evC E x with
    | some c => match evCs E xs with
      | some cs => some (c :: cs)
      | none => none
    | none => none
def z1B (P : Program) (te : TypeId) : Bool := match P.info? te with
  | some i => match i.zero with
    | some _ => Nat.beq i.size 1
    | none => false
  | none => false
def cellsZ (E : EnvX τ) : Nat → List (Nat × Operand) → Option (List (CV τ))
  | _, [] => some []
  | k, (i, x) :: ps => bif Nat.beq i k then (match evC E x with
    | some c => match cellsZ E (k + 1) ps with
      | some cs => some (c :: cs)
      | none => none
    | none => none) else none
def rowZ (L : Hp τ) : CV τ → Option ((e : Ty) × List (e.den τ) × List Nat)
  | .sl e xs => some ⟨e, xs, []⟩
  | .os id => match lk L id with
    | .row _ e xs _ => some ⟨e, xs, [id]⟩
    | .fz e xs => some ⟨e, xs, [id]⟩
    | .vw i k e _ xs => match lk L i with
      | .row _ _ _ k' => bif Nat.beq k k' then some ⟨e, xs, [id, i]⟩ else none
      | _ => none
    | _ => none
  | _ => none
def nilZ (G : Sig τ) (L : Hp τ) (c : CV τ) : Option (Bool × List Nat) := match c with
  | .n0 => some (true, [])
  | c => match rowZ L c with
    | some ⟨e, _ :: _, ids⟩ => match ets G e with
      | _ :: _ => some (false, ids)
      | [] => none
    | _ => none
def sliZ (X : Cx τ) (E : EnvX τ) (L : Hp τ) (nid : Nat) (K : Nx τ ρ) (id : Nat) (te : TypeId) (lo hi : Option Operand) : Option ρ := match lk L id with
  | .row _ e xs k => bc (szE X te e) (match partZ E e xs lo hi with
    | some (i, s) => K (.c (.os nid)) [] [(nid, .vw id k e i s)] [id] (nid + 1)
    | none => none) none
  | _ => none
def vwB : AR τ → Bool
  | .vw _ _ _ _ _ => true
  | .sb _ _ => true
  | _ => false
def rvB : AR τ → Bool
  | .vw _ _ _ _ _ => true
  | .row _ _ _ _ => true
  | _ => false
def ixZ (X : Cx τ) (L : Hp τ) (nid : Nat) (K : Nx τ ρ) (id : Nat) (te : TypeId) (m : Int) : Option ρ := match lk L id with
  | .vw i k e lo xs => match lk L i with
    | .row _ _ _ k' => bc (Nat.beq k k' && szE X te e) ((lAt xs m).bind fun z => K (.c (.oe i k (lo + m.toNat : Nat) e z 0)) [] [] [id, i] nid) none
    | _ => none
  | .sb i n => match szO X.P te with
    | some 1 => if 0 ≤ m ∧ m < n then K (.c (.pt i m.toNat)) [] [] [id] nid else none
    | _ => none
  | _ => none
def opZ (X : Cx τ) (Z : Zx X) (ih : InF τ ρ) : OpF τ ρ := fun E L nid K o => match o with
  | .binOp b t x y u => match evX E y with
    | some (.c .n0) => match X.P.underlying t with
      | some (.slice _) => match evC E x with
        | some c => match nilZ X.G L c with
          | some (z, ids) => match okX (eqO b z) with
            | some v => K v [] [] ids nid
            | none => none
          | none => none
        | none => none
      | _ => none
    | _ => opX X E L nid K (.binOp b t x y u)
  | .call ⟨.value f, ⟨args⟩, ats⟩ => match evC E f with
    | some (.fn g) => match evXs E args with
      | some avs => callZ X L nid K g avs (inl X Z ih L nid K g avs []) (Z.ct g)
      | none => none
    | some (.cf id) => match lk L id with
      | .clo g bs cs => match evXs E args with
        | some avs => callZ X L nid (fun v g U t n => K v g U ([id] ++ t) n) g (bs.map .c ++ (avs ++ cs.map .c)) (inl X Z ih L nid K g (bs.map .c ++ (avs ++ cs.map .c)) [id]) (Z.ct g)
        | none => none
      | _ => none
    | _ => opX X E L nid K o
  | .slice t x lo hi none => match evC E x with
    | some (.os id) => bc (rvB (lk L id)) (match X.P.underlying t with
      | some (.slice te) => sliZ X E L nid K id te lo hi
      | _ => none) (opX X E L nid K (.slice t x lo hi none))
    | _ => opX X E L nid K (.slice t x lo hi none)
  | .indexAddr t x y => match evC E x with
    | some (.os id) => bc (vwB (lk L id)) (match elO X.P t with
      | some te => match evC E y with
        | some (.i m) => ixZ X L nid K id te m
        | _ => none
      | none => none) (opX X E L nid K (.indexAddr t x y))
    | _ => opX X E L nid K (.indexAddr t x y)
  | .call ⟨.builtin .len, ⟨[x]⟩, ⟨[t]⟩⟩ => match evC E x with
    | some (.os id) => match lk L id with
      | .sb _ n => match elO X.P t with
        | some _ => K (.c (.i (n : Int))) [] [] [id] nid
        | none => none
      | _ => opX X E L nid K (.call ⟨.builtin .len, ⟨[x]⟩, ⟨[t]⟩⟩)
    | _ => opX X E L nid K (.call ⟨.builtin .len, ⟨[x]⟩, ⟨[t]⟩⟩)
  | .makeFunc (.func f) ⟨fs⟩ ⟨caps⟩ => match evCs E fs with
    | some bs => match evCs E caps with
      | some cs => K (.c (.cf nid)) [] [(nid, .clo f bs cs)] [] (nid + 1)
      | none => none
    | none => none
  | .buildSlice t n ⟨ps⟩ => match elO X.P t with
    | some te => match asc X.ty te with
      | some _ => opX X E L nid K (.buildSlice t n ⟨ps⟩)
      | none => bc (z1B X.P te) (match cellsZ E 0 ps with
        | some cs => bc (Nat.beq cs.length n && Nat.ble n 65536) (K (.c (.os (nid + 1))) [] [(nid + 1, .sb nid n), (nid, .blk te cs)] [] (nid + 2)) none
        | none => none) none
    | none => none
  | o => opX X E L nid K o
def inZ (X : Cx τ) (Z : Zx X) : Nat → InF τ ρ
  | 0, _, _, _, _, _, _, _ => none
  | k + 1, n, c, E, L, T, nid, K => match c with
    | .skip => K .no E L T nid
    | .region _ ⟨l⟩ d => bc d (dopsZ (opZ X Z (inZ X Z k)) n l 0 l [] E L T nid (K .no)) (opsZ (opZ X Z (inZ X Z k)) n l l E L T nid (K .no))
    | .seq x y => inZ X Z k n x E L T nid fun e E L T nid => match e with
      | .no => inZ X Z k n y E L T nid K
      | e => K e E L T nid
    | .cond c x y => match evC E c with
      | some (.k b) => bc b (inZ X Z k n x E L T nid K) (inZ X Z k n y E L T nid K)
      | some (.b b) => match c with
        | .tmp s => if b = true then inZ X Z k n x ((s, .c (.k true)) :: E) L T nid K else inZ X Z k n y ((s, .c (.k false)) :: E) L T nid K
        | _ => none
      | _ => none
    | .block id c => inZ X Z k n c E L T nid fun e E L T nid => match e with
      | .ex i => bc (Nat.beq i id) (K .no E L T nid) (K (.ex i) E L T nid)
      | e => K e E L T nid
    | .loop c => inZ X Z k n c E L T nid fun e E L T nid => match e with
      | .no => nfE [] E fun E => inZ X Z k n (.loop c) E L T nid K
      | e => K e E L T nid
    | .exit id => K (.ex id) E L T nid
    | .ret => K .rt E L T nid
    | _ => none
def zrun (X : Cx τ) (Z : Zx X) (k : Nat) (f : FuncId) (avs : List (XV τ)) : Option Bool := inl X Z (inZ X Z k) [] 0 (fun v _ _ _ _ => match v with
  | .c (.b b) => some b
  | .c (.k b) => some b
  | _ => none) f avs []
end
end Go.Rk
end
section
namespace Go.Rk
open Go.RowKit Go.Dm Go.Dk
variable {τ : Nat → Type}
section
variable {ρ : Type} {X : Cx τ} {w0 w w' : World} {h0 h h' H : Fz} {F : List Nat} {E E' Eb : EnvX τ} {L L2 : Hp τ} {ν ν' : Vn τ} {φ φ' : Nat → List Nat} {nid nid' : Nat} {r : ρ} {a : Act}
theorem frN_eq {α : Type} (n : Nat) (k : Nat → α) : frN n k = k n := by cases n <;> rfl
def OpOk (X : Cx τ) (w0 : World) (h0 : Fz) (F : List Nat) (op : OpF τ ρ) : Prop := ∀ (r : ρ) (o : Oper) (E : EnvX τ) (L : Hp τ) (nid : Nat) (K : Nx τ ρ), op E L nid K o.op = some r → Does X w0 h0 F o E L nid K r
def OkC (X : Cx τ) (w0 : World) (h0 : Fz) (F : List Nat) (W : (Exit → Act → World → Prop) → Act → World → Prop) (E : EnvX τ) (L : Hp τ) (nid : Nat) (e : Ex) (E2 : EnvX τ) (U : Hp τ) (T : List Nat) (nid2 : Nat) : Prop :=
  ∀ (L2 : Hp τ) (ν : Vn τ) (h : Fz) (φ : Nat → List Nat) (a : Act) (w : World) (Q : Exit → Act → World → Prop), a.defers = [] → a.tmps.size = X.n → Mem X.P X.G w0 h0 F L2 w ν h φ → EnvOk X h ν a E →
    (∀ i ∈ T, lk L2 i = lk L i) → (∀ i, nid ≤ i → i < nid2 → ν i = none) →
    (∀ ν' h' φ' a' w', a'.defers = [] → a'.tmps.size = X.n → Mem X.P X.G w0 h0 F (U ++ L2) w' ν' h' φ' → ν.le ν' → h.le h' → Fresh ν ν' nid nid2 → EnvOk X h' ν' a' E2 → Q (exT e) a' w') → W Q a w
theorem lk_same {U L L2 : Hp τ} {i : Nat} (h : lk L2 i = lk L i) : lk (U ++ L2) i = lk (U ++ L) i := by
  by_cases hi : i ∈ kys U
  · rw [lk_app_in _ hi, lk_app_in _ hi]
  · rw [lk_app_out _ hi, lk_app_out _ hi, h]
theorem fresh_lo {a b c : Nat} (hfr : Fresh ν ν' a b) (hn : ∀ i, a ≤ i → i < c → ν i = none) (hab : a ≤ b) : ∀ i, b ≤ i → i < c → ν' i = none := by
  intro i h1 h2
  cases e : ν' i with
  | none => rfl
  | some y =>
    have := hfr i (hn i (by omega) h2) (by rw [e]; simp)
    omega
theorem fresh_seq {ν'' : Vn τ} {a b c : Nat} (h1 : Fresh ν ν' a b) (h2 : Fresh ν' ν'' b c) (hab : a ≤ b) (hbc : b ≤ c) : Fresh ν ν'' a c := h1.trans h2 hab hbc
theorem OkC.seq {W W1 W2 : (Exit → Act → World → Prop) → Act → World → Prop} {E1 E2 : EnvX τ} {U1 U2 : Hp τ} {T1 T2 : List Nat} {n1 n2 : Nat} {e : Ex} (h1 : OkC X w0 h0 F W1 E L nid .no E1 U1 T1 n1) (h2 : OkC X w0 h0 F W2 E1 (U1 ++ L) n1 e E2 U2 T2 n2) (l1 : nid ≤ n1) (l2 : n1 ≤ n2)
    (hW : ∀ Q a w, W1 (Exit.then (W2 Q) Q) a w → W Q a w) : OkC X w0 h0 F W E L nid e E2 (U2 ++ U1) (T2 ++ T1) n2 := by
  intro L2 ν h φ a w Q hd hs M hE hT hn hQ
  refine hW Q a w (h1 L2 ν h φ a w _ hd hs M hE (fun i hi => hT i (List.mem_append_right _ hi)) (fun i a b => hn i a (by omega)) fun ν' h' φ' a' w' hd' hs' M' hν hh hfr hE' => ?_)
  refine h2 (U1 ++ L2) ν' h' φ' a' w' Q hd' hs' M' hE' (fun i hi => lk_same (hT i (List.mem_append_left _ hi))) (fresh_lo hfr hn l1) fun ν'' h'' φ'' a'' w'' hd'' hs'' M'' hν' hh' hfr' hE'' => ?_
  exact hQ ν'' h'' φ'' a'' w'' hd'' hs'' (by rw [List.append_assoc]; exact M'') (hν.trans hν') (hh.trans hh') (fresh_seq hfr hfr' l1 l2) hE''
theorem OkC.out {W W1 : (Exit → Act → World → Prop) → Act → World → Prop} {E1 : EnvX τ} {U1 : Hp τ} {T1 : List Nat} {n1 : Nat} {e e' : Ex} (h1 : OkC X w0 h0 F W1 E L nid e E1 U1 T1 n1)
    (hW : ∀ Q a w, (∀ Q', (∀ a' w', Q (exT e') a' w' → Q' (exT e) a' w') → W1 Q' a w) → W Q a w) : OkC X w0 h0 F W E L nid e' E1 U1 T1 n1 := by
  intro L2 ν h φ a w Q hd hs M hE hT hn hQ
  exact hW Q a w fun Q' hq => h1 L2 ν h φ a w Q' hd hs M hE hT hn fun ν' h' φ' a' w' hd' hs' M' hν hh hfr hE' => hq a' w' (hQ ν' h' φ' a' w' hd' hs' M' hν hh hfr hE')
theorem OkC.nil {W : (Exit → Act → World → Prop) → Act → World → Prop} {e : Ex} (hW : ∀ Q a w, Q (exT e) a w → W Q a w) : OkC X w0 h0 F W E L nid e E [] [] nid :=
  fun _ ν h φ a w Q hd hs M hE _ _ hQ => hW Q a w (hQ ν h φ a w hd hs M (Vn.le.refl _) (Fz.le.refl _) (Fresh.refl _ _ _) hE)
theorem OkC.ref {W : (Exit → Act → World → Prop) → Act → World → Prop} {E2 : EnvX τ} {U : Hp τ} {T : List Nat} {e : Ex} (hr : Ref E E') (h1 : OkC X w0 h0 F W E' L nid e E2 U T nid') : OkC X w0 h0 F W E L nid e E2 U T nid' :=
  fun L2 ν h φ a w Q hd hs M hE => h1 L2 ν h φ a w Q hd hs M (hr.env hE)
theorem opsZ_ok {op : OpF τ ρ} (hop : OpOk X w0 h0 F op) (hN : X.n ≤ gh) {all : List Oper} : ∀ {l : List Oper} {E : EnvX τ} {L : Hp τ} {T0 : List Nat} {nid : Nat} {K : EnvX τ → Hp τ → List Nat → Nat → Option ρ}, opsZ op X.n all l E L T0 nid K = some r →
    ∃ E2 U T nid2, K E2 (U ++ L) (T ++ T0) nid2 = some r ∧ nid ≤ nid2 ∧ OkC X w0 h0 F (fun Q a w => wpList X.P all.toArray Q l a w) E L nid .no E2 U T nid2
  | [], E, L, T0, nid, K, e => ⟨E, [], [], nid, e, Nat.le_refl _, OkC.nil fun Q a w h => h⟩
  | o :: l, E, L, T0, nid, K, e => by
    unfold opsZ at e
    obtain ⟨hd, e⟩ := bc_t e
    obtain ⟨m, E1, e, hr, hw⟩ := guardX_ok e
    cases m with
    | false =>
      simp only [Bool.false_eq_true, if_false] at e
      rw [unT_eq] at e
      obtain ⟨E2, U, T, n2, g1, g2, g3⟩ := opsZ_ok hop hN e
      refine ⟨E2, U, T, n2, g1, g2, fun L2 ν h φ a w Q hdf hs M hE hT hn hQ => ?_⟩
      have hwant := hw X h ν a o rfl (hE.on _)
      show wpList X.P all.toArray Q (o :: l) a w
      unfold wpList
      rw [hwant]
      simp only [Bool.false_eq_true, if_false]
      refine g3 L2 ν h φ _ w Q (by rw [put_def]; exact hdf) (by rw [put_size]; exact hs) M ?_ hT hn hQ
      exact newE_ok hN hd hs (fun _ h => by cases h) rfl fun t x e _ => hr.env hE t x e
    | true =>
      simp only [if_true] at e
      obtain ⟨v, g, U1, tch, n1, e1, hle, hg, hok⟩ := hop _ _ _ _ _ _ e
      simp only [frN_eq] at e1
      simp only [nextE_eq, ap_eq] at e1
      obtain ⟨E2, U, T, n2, g1, g2, g3⟩ := opsZ_ok hop hN e1
      refine ⟨E2, U ++ U1, T ++ tch, n2, by rw [List.append_assoc, List.append_assoc]; exact g1, by omega, fun L2 ν h φ a w Q hdf hs M hE hT hn hQ => ?_⟩
      have hwant := hw X h ν a o rfl (hE.on _)
      show wpList X.P all.toArray Q (o :: l) a w
      unfold wpList
      rw [hwant]
      simp only [if_true]
      left
      refine hok L2 ν h φ a w _ Q hdf M ((hr.env hE).on _) (fun i hi => hT i (List.mem_append_right _ hi)) (fun i h1 h2 => hn i h1 (by omega)) fun ν' h' φ' w' u M' hν hh hfr hv => ?_
      refine g3 (U1 ++ L2) ν' h' φ' _ w' Q (by rw [put_def]; exact hdf) (by rw [put_size]; exact hs) M' (newE_ok hN hd hs hg hv fun t x e _ => ((hr.env hE).le hh hν) t x e) (fun i hi => lk_same (hT i (List.mem_append_left _ hi))) (fresh_lo hfr hn hle) fun ν'' h'' φ'' a'' w'' hd'' hs'' M'' hν' hh' hfr' hE'' => ?_
      exact hQ ν'' h'' φ'' a'' w'' hd'' hs'' (by rw [List.append_assoc]; exact M'') (hν.trans hν') (hh.trans hh') (fresh_seq hfr hfr' hle g2) hE''
theorem dpathZ {op : OpF τ ρ} (hop : OpOk X w0 h0 F op) {all : List Oper} {K : EnvX τ → Hp τ → List Nat → Nat → Option ρ} : ∀ {l : List Oper} {i : Nat} {R : List Dr} {E Eb : EnvX τ} {L : Hp τ} {T0 : List Nat} {nid : Nat}, dopsZ op X.n all i l R E L T0 nid K = some r → Ref Eb E →
    ∃ qs Eb' L' nid' E' T, Chain X w0 h0 F all l Eb L nid qs Eb' L' nid' ∧ Ref Eb' E' ∧ drawOk all ((drs all i qs).reverse ++ R) = true ∧ K E' L' (T ++ T0) nid' = some r ∧ ∀ q ∈ qs, q.run = true → ∀ k ∈ q.t, k ∈ T
  | [], i, R, E, Eb, L, T0, nid, e, hr => by
    unfold dopsZ at e
    obtain ⟨h1, e⟩ := bc_t e
    exact ⟨[], Eb, L, nid, E, [], ⟨rfl, rfl, rfl⟩, hr, h1, e, fun q hq => by cases hq⟩
  | o :: l, i, R, E, Eb, L, T0, nid, e, hr => by
    unfold dopsZ at e
    obtain ⟨hd, e⟩ := bc_t e
    obtain ⟨m, E1, e, hr1, hw⟩ := guardX_ok e
    have hr2 := hr.trans hr1
    have hwant : ∀ (h : Fz) (ν : Vn τ) (a : Act), EnvOn X h ν a (gdR all o.guard) E → Region.wanted o (yielded all.toArray a.tmps) = m := fun h ν a => hw X h ν a o rfl
    cases m with
    | false =>
      simp only [Bool.false_eq_true, if_false] at e
      rw [unT_eq] at e
      obtain ⟨qs, Eb', L', nid', E', T, h1, h2, h3, h4, h5⟩ := dpathZ hop e (hr2.app _)
      refine ⟨⟨o, E, E1, L, nid, nid, .un, [], [], [], [], false⟩ :: qs, Eb', L', nid', E', T, ⟨rfl, rfl, rfl, ⟨hr, hr2, Nat.le_refl _, hd, hwant, (fun _ h => by cases h), fun _ => ⟨rfl, rfl⟩, fun h => by cases h⟩, h1⟩, h2, ?_, h4, fun q hq hrun k hk => ?_⟩
      · simpa [drs, kys] using h3
      · rcases List.mem_cons.1 hq with rfl | hq
        · cases hrun
        · exact h5 q hq hrun k hk
    | true =>
      simp only [if_true] at e
      obtain ⟨v, g, U, tch, n1, e1, hle, hg, hok⟩ := hop _ _ _ _ _ _ e
      simp only [frN_eq] at e1
      simp only [nextE_eq, ap_eq] at e1
      obtain ⟨qs, Eb', L', nid', E', T, h1, h2, h3, h4, h5⟩ := dpathZ hop e1 (hr2.app _)
      refine ⟨⟨o, E, E1, L, nid, n1, v, g, l, U, tch, true⟩ :: qs, Eb', L', nid', E', T ++ tch, ⟨rfl, rfl, rfl, ⟨hr, hr2, hle, hd, hwant, hg, (fun h => by cases h), fun _ => hok⟩, h1⟩, h2, ?_, by rw [List.append_assoc]; exact h4, fun q hq hrun k hk => ?_⟩
      · simpa [drs] using h3
      · rcases List.mem_cons.1 hq with rfl | hq
        · exact List.mem_append_right _ hk
        · exact List.mem_append_left _ (h5 q hq hrun k hk)
theorem dopsZ_ok (hm : X.P.follows .mixedOrders = true) (hN : X.n ≤ gh) {op : OpF τ ρ} (hop : OpOk X w0 h0 F op) {id : Nat} {l : List Oper} {T0 : List Nat} {K : EnvX τ → Hp τ → List Nat → Nat → Option ρ} (e : dopsZ op X.n l 0 l [] E L T0 nid K = some r) :
    ∃ E2 U T nid2, K E2 (U ++ L) (T ++ T0) nid2 = some r ∧ nid ≤ nid2 ∧ OkC X w0 h0 F (fun Q a w => (Code.region id l.toArray true).wp X.P Q a w) E L nid .no E2 U T nid2 := by
  obtain ⟨qs, Eb', L', nid', E', T, hch, hrf, hok, hfin, hTT⟩ := dpathZ hop e (Ref.refl E)
  obtain ⟨c1, _, _, c4, _, _⟩ := Chain.get 0 hch
  refine ⟨E', accS Rec.U qs 0 (fun _ => true) [], T, nid', by rw [← accS_app, ← c4]; exact hfin, c1, fun L2 ν h φ a w Q hd hs M hE hT hn hQ => ?_⟩
  exact draw_core hm hN hch hrf hok hTT hd hs M hE hT hn hQ
theorem nfE_ok : ∀ {E : EnvX τ} {sn : List Nat} {K : EnvX τ → Option ρ}, nfE sn E K = some r → ∃ E', K E' = some r ∧ ∀ t x, asc E' t = some x → asc E t = some x ∧ t ∉ sn
  | [], sn, K, e => ⟨[], e, fun t x h => by cases h⟩
  | (t, v) :: E, sn, K, e => by
    unfold nfE at e
    cases hm : mem sn t with
    | true =>
      rw [hm] at e
      obtain ⟨E', h1, h2⟩ := nfE_ok (K := K) (sn := sn) e
      refine ⟨E', h1, fun t' x hx => ?_⟩
      obtain ⟨h3, h4⟩ := h2 t' x hx
      refine ⟨?_, h4⟩
      have : Nat.beq t t' = false := nbeq_false.2 fun e => h4 (e ▸ mem_any.1 hm)
      simp only [asc_nil, asc_cons, this, cond_false]; exact h3
    | false =>
      rw [hm] at e
      obtain ⟨E', h1, h2⟩ := nfE_ok (K := fun E => K ((t, v) :: E)) (sn := t :: sn) e
      refine ⟨_, h1, fun t' x hx => ?_⟩
      simp only [asc_nil, asc_cons] at hx ⊢
      cases hb : Nat.beq t t' with
      | true =>
        rw [hb] at hx
        have : t = t' := by simpa using hb
        subst this
        exact ⟨hx, fun h => by rw [mem_any.2 h] at hm; cases hm⟩
      | false =>
        rw [hb] at hx
        obtain ⟨h3, h4⟩ := h2 t' x hx
        exact ⟨h3, fun h => h4 (List.mem_cons_of_mem _ h)⟩
theorem wn_env {n : Nat} {h : Fz} {ν : Vn τ} {a : Act} {E : EnvX τ} : EnvOk (X.wn n) h ν a E ↔ EnvOk X h ν a E := Iff.rfl
def Wm (P : Program) (m : Nat) : Code → (Exit → Act → World → Prop) → Act → World → Prop
  | .loop c, Q, a, w => Code.rounds P c Q m a w
  | c, Q, a, w => c.wp P Q a w
theorem Wm_wp {P : Program} {m : Nat} {c : Code} {Q : Exit → Act → World → Prop} {a : Act} {w : World} (h : Wm P m c Q a w) : c.wp P Q a w := by
  cases c with
  | loop c => exact wp_loop_rounds m h
  | _ => exact h
theorem OkC.wp {m : Nat} {c : Code} {E2 : EnvX τ} {U : Hp τ} {T : List Nat} {e : Ex} (h1 : OkC X w0 h0 F (Wm X.P m c) E L nid e E2 U T nid') : OkC X w0 h0 F (fun Q a w => c.wp X.P Q a w) E L nid e E2 U T nid' :=
  fun L2 ν h φ a w Q hd hs M hE hT hn hQ => Wm_wp (h1 L2 ν h φ a w Q hd hs M hE hT hn hQ)
def InOk (X : Cx τ) (w0 : World) (h0 : Fz) (F : List Nat) (ih : InF τ ρ) : Prop := ∀ (r : ρ) (n : Nat) (c : Code) (E : EnvX τ) (L : Hp τ) (T0 : List Nat) (nid : Nat) (K : Kz τ ρ), n ≤ gh → ih n c E L T0 nid K = some r →
  ∃ e E2 U T nid2 m, K e E2 (U ++ L) (T ++ T0) nid2 = some r ∧ nid ≤ nid2 ∧ OkC (X.wn n) w0 h0 F (Wm X.P m c) E L nid e E2 U T nid2
theorem cmU_lk {lo hi : Nat} : ∀ {U : Hp τ} {sn : List Nat} {L : Hp τ}, (∀ k, lo ≤ k → k < hi → lk L k = .gone) → ∀ k, k ∉ sn → lk (cmU lo hi sn U ++ L) k = lk (U ++ L) k
  | [], _, _, _, _, _ => rfl
  | (j, v) :: U, sn, L, hg, k, hk => by
    have skip : lk ((j, v) :: U ++ L) k = bif Nat.beq j k then v else lk (U ++ L) k := lk_cons ..
    have keep : ∀ (u : AR τ), lk ((j, u) :: cmU lo hi (j :: sn) U ++ L) k = bif Nat.beq j k then u else lk (U ++ L) k := by
      intro u
      rw [List.cons_append, lk_cons]
      cases hb : Nat.beq j k with
      | true => rfl
      | false =>
        have hne : ¬ j = k := nbeq_false.1 hb
        exact cmU_lk hg k fun h => by
          rcases List.mem_cons.1 h with h | h
          · exact hne h.symm
          · exact hk h
    rw [skip]
    unfold cmU
    cases hm : mem sn j with
    | true =>
      have hne : Nat.beq j k = false := nbeq_false.2 fun e => hk (e ▸ mem_any.1 hm)
      rw [hne]
      exact cmU_lk hg k hk
    | false =>
      simp only [cond_false]
      split
      · cases hb : (Nat.ble lo j && Nat.blt j hi) with
        | false => exact keep .gone
        | true =>
          simp only [cond_true]
          cases hjk : Nat.beq j k with
          | true =>
            have : j = k := by simpa using hjk
            subst this
            simp only [Bool.and_eq_true, Nat.ble_eq, Nat.blt_eq] at hb
            have hin : ∀ (U : Hp τ) (sn : List Nat), j ∈ sn → j ∉ kys (cmU lo hi sn U) := by
              intro U
              induction U with
              | nil => intro sn _ h; cases h
              | cons p U ih =>
                obtain ⟨i, v⟩ := p
                intro sn hs
                unfold cmU
                cases hmi : mem sn i with
                | true => exact ih sn hs
                | false =>
                  simp only [cond_false]
                  have hne : ¬ j = i := fun e => by rw [← e, mem_any.2 hs] at hmi; cases hmi
                  split
                  · cases (Nat.ble lo i && Nat.blt i hi) with
                    | true => exact ih _ (List.mem_cons_of_mem _ hs)
                    | false =>
                      intro h
                      rcases List.mem_cons.1 h with h | h
                      · exact hne h
                      · exact ih _ (List.mem_cons_of_mem _ hs) h
                  · intro h
                    rcases List.mem_cons.1 h with h | h
                    · exact hne h
                    · exact ih _ (List.mem_cons_of_mem _ hs) h
            rw [lk_app_out _ (hin U (j :: sn) (List.mem_cons_self ..)), hg j hb.1 hb.2]; rfl
          | false =>
            have hne : ¬ j = k := nbeq_false.1 hjk
            exact cmU_lk hg k fun h => by
              rcases List.mem_cons.1 h with h | h
              · exact hne h.symm
              · exact hk h
      · exact keep _
theorem dd_mem {lo hi : Nat} : ∀ {T : List Nat} {sn : List Nat} {t : Nat}, t ∈ T → t ∈ sn ∨ (lo ≤ t ∧ t < hi) ∨ t ∈ dd lo hi sn T
  | [], _, _, h => by cases h
  | s :: T, sn, t, h => by
    unfold dd
    cases hb : (mem sn s || (Nat.ble lo s && Nat.blt s hi)) with
    | true =>
      simp only [cond_true]
      rcases List.mem_cons.1 h with rfl | h
      · rw [Bool.or_eq_true, Bool.and_eq_true] at hb
        rcases hb with hb | hb
        · exact .inl (mem_any.1 hb)
        · exact .inr (.inl (by simpa using hb))
      · exact dd_mem h
    | false =>
      simp only [cond_false]
      rcases List.mem_cons.1 h with rfl | h
      · exact .inr (.inr (List.mem_cons_self ..))
      · rcases dd_mem (sn := s :: sn) h with h1 | h1 | h1
        · rcases List.mem_cons.1 h1 with rfl | h1
          · exact .inr (.inr (List.mem_cons_self ..))
          · exact .inl h1
        · exact .inr (.inl h1)
        · exact .inr (.inr (List.mem_cons_of_mem _ h1))
theorem cmT_ok {lo hi : Nat} {T : List Nat} (h : ∀ i ∈ cmT lo hi L T, lk L2 i = lk L i) (hg : ∀ i, lo ≤ i → i < hi → lk L2 i = .gone) : ∀ i ∈ T, lk L2 i = lk L i := by
  intro i hi'
  unfold cmT at h
  cases hb : (allR L fun p => Nat.blt p.1 lo) with
  | false => rw [hb] at h; exact h i hi'
  | true =>
    rw [hb] at h
    have h : ∀ i ∈ ddb lo hi 0 T, lk L2 i = lk L i := h
    rw [ddb_eq Bsr.nil] at h
    rcases dd_mem (lo := lo) (hi := hi) (sn := []) hi' with h1 | ⟨h1, h2⟩ | h1
    · cases h1
    · rw [hg i h1 h2]
      have : i ∉ kys L := fun hk => by
        obtain ⟨p, hp, rfl⟩ := List.mem_map.1 hk
        have := List.all_eq_true.1 (allR_eq _ _ ▸ hb) p hp
        rw [Nat.blt_eq] at this; omega
      have h3 := lk_app_out (U := L) [] this
      rw [List.append_nil] at h3
      rw [h3]; rfl
    · exact h i h1
theorem argE_get : ∀ {avs : List (XV τ)} {i t : Nat} {A : XV τ}, asc (argE i avs) t = some A → i ≤ t ∧ avs[t - i]? = some A
  | [], _, _, _, h => by cases h
  | v :: vs, i, t, A, h => by
    simp only [argE, asc_nil, asc_cons] at h
    cases hb : Nat.beq i t with
    | true =>
      rw [hb] at h
      have : i = t := by simpa using hb
      subst this
      cases h
      exact ⟨Nat.le_refl _, by simp⟩
    | false =>
      rw [hb] at h
      have hne : ¬ i = t := nbeq_false.1 hb
      obtain ⟨h1, h2⟩ := argE_get h
      refine ⟨by omega, ?_⟩
      rw [show t - i = (t - (i + 1)) + 1 by omega]; exact h2
def InlOk (X : Cx τ) (w0 : World) (h0 : Fz) (F : List Nat) (f : FuncId) (avs : List (XV τ)) (L : Hp τ) (nid : Nat) (v : XV τ) (U : Hp τ) (T : List Nat) (nid' : Nat) : Prop :=
  Callable X.P f ∧ ∀ (L2 : Hp τ) (ν : Vn τ) (h : Fz) (φ : Nat → List Nat) (w : World) (vals : List Value), Mem X.P X.G w0 h0 F L2 w ν h φ → vals.length = avs.length → (∀ (i : Nat) (A : XV τ) (u : Value), avs[i]? = some A → vals[i]? = some u → XOk X.P X.G h ν A u) →
    (∀ i ∈ T, lk L2 i = lk L i) → (∀ i, nid ≤ i → i < nid' → ν i = none) →
    Calls X.P f vals.toArray w fun e w' => ∃ u ν' h' φ', e = .returned u ∧ Mem X.P X.G w0 h0 F (U ++ L2) w' ν' h' φ' ∧ ν.le ν' ∧ h.le h' ∧ Fresh ν ν' nid nid' ∧ XOk X.P X.G h' ν' v u
theorem outX_congr {L' : Hp τ} {E : EnvX τ} : ∀ {rv : List ResultVar}, (∀ i ∈ outI E rv, lk L' i = lk L i) → outX X E L' rv = outX X E L rv
  | [], _ => rfl
  | .tmp t :: rv, h => by
    unfold outX
    rw [outX_congr (rv := rv) h]
  | .cell t ty :: rv, h => by
    unfold outI at h
    unfold outX
    split
    · rename_i id hx
      rw [hx] at h
      have h : ∀ i ∈ id :: outI E rv, lk L' i = lk L i := h
      rw [h id (List.mem_cons_self ..), outX_congr (rv := rv) fun i hi => h i (List.mem_cons_of_mem _ hi)]
    · rfl
theorem XsOk_of : ∀ {xs : List (XV τ)} {vs : List Value}, vs.length = xs.length → (∀ (i : Nat) (A : XV τ) (v : Value), xs[i]? = some A → vs[i]? = some v → XOk X.P X.G h ν A v) → XsOk X.P X.G h ν xs vs
  | [], vs, hl, _ => List.eq_nil_of_length_eq_zero hl
  | x :: xs, [], hl, _ => by simp at hl
  | x :: xs, v :: vs, hl, hv => ⟨v, vs, rfl, hv 0 x v rfl rfl, XsOk_of (by simpa using hl) fun i A u h1 h2 => hv (i + 1) A u h1 h2⟩
theorem gvB_eq {x : XV τ} : gvB x = isGv x := by cases x <;> rfl
theorem inl_ok (hNm : ∀ (f : FuncId) (fn : Func), X.P.funcs[f]? = some fn → (fn.name == "runtime.NumGoroutine") = false) {Z : Zx X} {ih : InF τ ρ} (hih : InOk X w0 h0 F ih) {K : Nx τ ρ} {f : FuncId} {avs : List (XV τ)} {T0 : List Nat} (e : inl X Z ih L nid K f avs T0 = some r) :
    ∃ v U T nid', K v [] U T nid' = some r ∧ nid ≤ nid' ∧ InlOk X w0 h0 F f avs L nid v U T nid' ∧ ∀ {L2 : Hp τ}, (∀ i ∈ T, lk L2 i = lk L i) → (∀ i, nid ≤ i → i < nid' → lk L2 i = .gone) → ∀ i ∈ T0, lk L2 i = lk L i := by
  unfold inl at e
  split at e
  · rename_i s hs
    have e2 := (bc_t e).2
    have hsf := (bc_t e).1
    clear e
    obtain ⟨f', fn, hfn⟩ := s
    have : f = f' := (show f' = f by simpa using hsf).symm
    subst this
    dsimp only at e2
    split at e2
    · rename_i c hc
      obtain ⟨hb, e⟩ := bc_t e2
      simp only [Bool.and_eq_true, Nat.ble_eq] at hb
      obtain ⟨ex, E2, U, T, n2, m, e, hle, hok⟩ := hih _ _ _ _ _ _ _ _ hb.2 e
      have main : ∀ {xs : List (XV τ)} {v : XV τ}, (∀ i, ex ≠ .ex i) → outX X E2 (U ++ L) fn.results.toList = some xs → xs.any gvB = false → tupX xs = some v → InlOk X w0 h0 F f avs L nid v (cmUb nid n2 0 ((U ++ L).take ((U ++ L).length - L.length))) (cmT nid n2 L (outI E2 fn.results.toList ++ (T ++ T0))) n2 := by
        intro xs v hex ho hgv htp
        refine ⟨⟨fn, hfn, by rw [hc]; rfl, hNm f fn hfn⟩, fun L2 ν h φ w vals M hlen hvals hT hn => ?_⟩
        have htake : (U ++ L).take ((U ++ L).length - L.length) = U := by
          rw [List.length_append, Nat.add_sub_cancel]; exact List.take_left
        rw [htake]
        have hgone : ∀ i, nid ≤ i → i < n2 → lk L2 i = .gone := fun i h1 h2 => M.gone_of (hn i h1 h2)
        have hT' := cmT_ok hT hgone
        refine calls_of_wp hfn hc ?_
        have hsz : (vals.toArray ++ Array.replicate (fn.ntmps - vals.toArray.size) undef).size = fn.ntmps := by simp; omega
        refine Wm_wp (hok L2 ν h φ ⟨vals.toArray ++ Array.replicate (fn.ntmps - vals.toArray.size) undef, []⟩ w _ rfl hsz M ?_ (fun i hi => hT' i (List.mem_append_right _ (List.mem_append_left _ hi))) hn ?_)
        · refine EnvOk.app (X := X) (fun t x hx => ?_) (glE_ok M.gl fun _ _ => trivial)
          obtain ⟨_, h2⟩ := argE_get hx
          rw [Nat.sub_zero] at h2
          have hlt : t < avs.length := (List.getElem?_eq_some_iff.1 h2).1
          have hv : vals[t]? = some vals[t] := List.getElem?_eq_getElem (by omega)
          have hgh : t < gh := by omega
          refine ⟨vals[t], hvals t x _ h2 hv, fun _ _ => ?_, fun h => ?_, fun h => ?_⟩
          · show (vals.toArray ++ Array.replicate (fn.ntmps - vals.toArray.size) undef)[t]? = _
            rw [Array.getElem?_append_left (by simp; omega)]
            simp
          · exfalso; unfold gb gh at *; omega
          · exfalso; omega
        · intro ν' h' φ' a' w' hd' hs' M' hν hh hfr hE'
          have hgv2 : ∀ y ∈ xs, isGv y = false := fun y hy => by
            rw [← gvB_eq]
            cases hg : gvB y with
            | false => rfl
            | true => rw [List.any_eq_true.2 ⟨y, hy, hg⟩] at hgv; cases hgv
          have ho2 : outX X E2 (U ++ L2) fn.results.toList = some xs := by
            rw [outX_congr (L := U ++ L) fun i hi => lk_same (hT' i (List.mem_append_left _ hi))]; exact ho
          obtain ⟨vs, o1, o2, o3, o4⟩ := outX_ok (X := X) M' hE' ho2 hgv2
          have hres := results_run (X := X) (w := w') (fn := fn) (rv := fn.results.toList) (tmps := a'.tmps) rfl o1 o3
          have hpost : ∃ u ν2 h2 φ2, Ending.returned (retV vs) = .returned u ∧ Mem X.P X.G w0 h0 F (cmUb nid n2 0 U ++ L2) w' ν2 h2 φ2 ∧ ν.le ν2 ∧ h.le h2 ∧ Fresh ν ν2 nid n2 ∧ XOk X.P X.G h2 ν2 v u :=
            ⟨_, ν', h', φ', rfl, M'.congr fun k => by rw [cmUb_eq Bsr.nil]; exact cmU_lk hgone k (by simp), hν, hh, hfr, tupX_ok htp (XsOk_of o2 o4)⟩
          cases ex with
          | no => exact ⟨hd', _, hres, hpost⟩
          | rt => exact ⟨hd', _, hres, hpost⟩
          | ex i => exact (hex i rfl).elim
      have done : ∀ {xs : List (XV τ)} {v : XV τ}, (∀ i, ex ≠ .ex i) → outX X E2 (U ++ L) fn.results.toList = some xs → xs.any gvB = false → tupX xs = some v → K v [] (cmUb nid n2 0 ((U ++ L).take ((U ++ L).length - L.length))) (cmT nid n2 L (outI E2 fn.results.toList ++ (T ++ T0))) n2 = some r →
          ∃ v U T nid', K v [] U T nid' = some r ∧ nid ≤ nid' ∧ InlOk X w0 h0 F f avs L nid v U T nid' ∧ ∀ {L2 : Hp τ}, (∀ i ∈ T, lk L2 i = lk L i) → (∀ i, nid ≤ i → i < nid' → lk L2 i = .gone) → ∀ i ∈ T0, lk L2 i = lk L i :=
        fun hex ho hgv htp e => ⟨_, _, _, _, e, hle, main hex ho hgv htp, fun hT hg i hi => cmT_ok hT hg i (List.mem_append_right _ (List.mem_append_right _ hi))⟩
      have go : (∀ i, ex ≠ .ex i) → (match outX X E2 (U ++ L) fn.results.toList with
          | some vs => bc (vs.any gvB) none (match tupX vs with
            | some v => K v [] (cmUb nid n2 0 ((U ++ L).take ((U ++ L).length - L.length))) (cmT nid n2 L (outI E2 fn.results.toList ++ (T ++ T0))) n2
            | none => none)
          | none => none) = some r → ∃ v U T nid', K v [] U T nid' = some r ∧ nid ≤ nid' ∧ InlOk X w0 h0 F f avs L nid v U T nid' ∧ ∀ {L2 : Hp τ}, (∀ i ∈ T, lk L2 i = lk L i) → (∀ i, nid ≤ i → i < nid' → lk L2 i = .gone) → ∀ i ∈ T0, lk L2 i = lk L i := by
        intro hex e
        split at e
        · rename_i xs ho
          obtain ⟨hgv, e⟩ := bc_f e
          split at e
          · rename_i v htp
            exact done hex ho hgv htp e
          · cases e
        · cases e
      cases ex with
      | ex i => cases e
      | no => exact go (fun i h => by cases h) e
      | rt => exact go (fun i h => by cases h) e
    · cases e2
  · cases e
end
end Go.Rk
end
section
namespace Go.Rk
open Go.RowKit Go.Dm Go.Dk
variable {τ : Nat → Type}
section
variable {ρ : Type} {X : Cx τ} {w0 w w' : World} {h0 h h' H : Fz} {F : List Nat} {o : Oper} {E : EnvX τ} {L L2 : Hp τ} {ν ν' : Vn τ} {φ φ' : Nat → List Nat} {nid nid' : Nat} {K : Nx τ ρ} {r : ρ} {v : XV τ} {U : Hp τ} {tch : List Nat} {g : List (XV τ)}
variable {a : Act} {x y z : Operand} {t' t ty u' : Nat} {dst : Option Nat} {p : String} {af : Array Edge} {gd : Option (Nat × Bool)}
theorem castL_self {e : Ty} (xs : List (e.den τ)) : castL (t' := e) xs = some xs := dif_pos rfl
theorem rowZ_lokS {c : CV τ} {e : Ty} {xs : List (e.den τ)} {ids : List Nat} (k : rowZ L c = some ⟨e, xs, ids⟩) : lokS L e c = some (xs, ids) := by
  unfold rowZ at k
  split at k
  · cases k; unfold lokS; dsimp only; rw [castL_self]
  · rename_i id
    split at k
    · rename_i hl; cases k; unfold lokS; dsimp only; rw [hl]; dsimp only; rw [castL_self]
    · rename_i hl; cases k; unfold lokS; dsimp only; rw [hl]; dsimp only; rw [castL_self]
    · rename_i i kk e' lo xs' hl
      split at k
      · rename_i te e2 ys k' hl2
        cases hb : Nat.beq kk k' with
        | false => rw [hb] at k; cases k
        | true =>
          rw [hb] at k
          cases k
          unfold lokS; dsimp only; rw [hl]; dsimp only; rw [hl2]; dsimp only; rw [hb, cond_true, castL_self]
      · cases k
    · cases k
  · cases k
theorem nilZ_ok (M : Mem X.P X.G w0 h0 F L2 w ν h φ) {c : CV τ} {z : Bool} {ids : List Nat} {v : Value} (k : nilZ X.G L c = some (z, ids)) (ha : ∀ i ∈ ids, lk L2 i = lk L i) (hv : CVOk X.P X.G h ν c v) : ∃ ad n cp, v = .slice ad n cp ∧ ad.isNone = z := by
  unfold nilZ at k
  split at k
  · cases k; cases hv; exact ⟨none, 0, 0, rfl, rfl⟩
  · split at k
    · rename_i e x xs ids' hr
      split at k
      · rename_i c0 cs hets
        cases k
        have hrp := lokS_ok M (M.lend_le ids) (rowZ_lokS hr) ha (fun b hb => lend_in hb) hv
        cases hrp with
        | sl _ _ ad cp vs hc hs hrr =>
          refine ⟨ad, _, cp, rfl, ?_⟩
          rcases hs with rfl | ⟨b, o, cc, e', zz, rfl, _⟩
          · have := hrr.len
            rw [hets] at this
            simp only [List.length_nil, List.length_cons] at this
            rw [Nat.mul_comm, Nat.succ_mul] at this
            omega
          · rfl
      · cases k
    · cases k
theorem nil_does {bo : BinOp} {el : Nat} {c : CV τ} {zb : Bool} {ids : List Nat} (hu : X.P.underlying t' = some (.slice el)) (hx : evC E x = some c) (hy : evX E y = some (.c .n0)) (hz : nilZ X.G L c = some (zb, ids)) (hb : okX (eqO bo zb) = some v) (k : K v [] [] ids nid = some r) :
    Does X w0 h0 F ⟨dst, .binOp bo t' x y ty, t, p, af, gd⟩ E L nid K r := by
  obtain ⟨b, hb, rfl⟩ := okX_ok hb
  refine does_pure k fun L2 ν h φ a w hd M hE ha => ?_
  obtain ⟨Ea, hf, hl'⟩ := envA a hd
  obtain ⟨vx, h1, h2⟩ := evC_of hl' (hE.op (by simp [Op.operands])) hx
  obtain ⟨uy, g3, g4⟩ := evl_of hl' (hE.op (by simp [Op.operands])) hy rfl
  obtain rfl : uy = _ := g4
  obtain ⟨ad, n, cp, rfl, hn⟩ := nilZ_ok M hz ha h2
  cases bo <;> first | (cases hb; done) | skip
  all_goals cases hb
  · exact ⟨_, ex_eql_sn hu hf h1 g3, by rw [hn]; rfl⟩
  · exact ⟨_, ex_neq_sn hu hf h1 g3, by rw [hn]; rfl⟩
theorem call_does {f : Nat} {args : List Operand} {avs : List (XV τ)} {ats : Array TypeId} {T : List Nat} (hx : evC E x = some (.fn f)) (hargs : evXs E args = some avs) (k : K v [] U T nid' = some r) (hle : nid ≤ nid') (hi : InlOk X w0 h0 F f avs L nid v U T nid') :
    Does X w0 h0 F ⟨dst, .call ⟨.value x, ⟨args⟩, ats⟩, t, p, af, gd⟩ E L nid K r := by
  refine ⟨_, _, _, _, _, k, hle, (fun _ h => by cases h), fun L2 ν h φ a w next Q hd M hE ha hfr kk => ?_⟩
  obtain ⟨hlen, hidx⟩ := evXs_len hargs
  have hvs : ∀ (i : Nat) (A : XV τ) (v : Value), avs[i]? = some A → (args.map a.eval)[i]? = some v → XOk X.P X.G h ν A v := by
    intro i A v hA hv
    obtain ⟨z, hz, hzA⟩ := hidx i A hA
    rw [List.getElem?_map, hz] at hv
    cases hv
    exact ev_ok hd (hE.op (by simp only [Op.operands, Call.operands]; simp; exact .inr (List.mem_of_getElem? hz))) hzA
  have hcalls := hi.2 L2 ν h φ w (args.map a.eval) M (by simp [hlen]) hvs ha hfr
  obtain ⟨Ea, hf, hl'⟩ := envA a hd
  obtain ⟨vx, g1, g2⟩ := evC_of hl' (hE.op (by simp [Op.operands, Call.operands])) hx
  obtain rfl : vx = _ := g2
  have hexec := ex_callE (X := X) (w := w) (dst := dst) (t := t) (p := p) (af := af) (gd := gd) (ats := ats) (args := ⟨args⟩) (vs := args.map a.eval) hi.1 (hf.ev g1) (by simp)
  unfold Oper.wp
  rw [hexec]
  refine Calls.mono hcalls ?_
  rintro e1 w' ⟨u, ν', h', φ', rfl, M', hν, hh, hfr', hv⟩
  exact kk ν' h' φ' w' u M' hν hh hfr' hv
theorem CVs.getl : ∀ {cs : List (CV τ)} {vs : List Value}, CVs X.P X.G h ν cs vs → vs.length = cs.length ∧ ∀ (i : Nat) (c : CV τ) (v : Value), cs[i]? = some c → vs[i]? = some v → CVOk X.P X.G h ν c v
  | [], vs, e => by cases e; exact ⟨rfl, fun i c v h => by simp at h⟩
  | c :: cs, _, ⟨u, us, rfl, h1, h2⟩ => by
    obtain ⟨h3, h4⟩ := CVs.getl h2
    refine ⟨by simp [h3], fun i d v hc hv => ?_⟩
    cases i with
    | zero => simp at hc hv; subst hc; subst hv; exact h1
    | succ i => exact h4 i d v (by simpa using hc) (by simpa using hv)
theorem clo_entr {f id : Nat} {args : List Operand} {avs : List (XV τ)} {bs cs : List (CV τ)} {ats : Array TypeId} (hx : evC E x = some (.cf id)) (hlk : lk L id = .clo f bs cs) (hargs : evXs E args = some avs) :
    Entr X w0 h0 F E L [id] ⟨dst, .call ⟨.value x, ⟨args⟩, ats⟩, t, p, af, gd⟩ f (bs.map .c ++ (avs ++ cs.map .c)) := fun L2 ν h φ a w hd M hE ha hcall => by
  obtain ⟨hlen, hidx⟩ := evXs_len hargs
  obtain ⟨Ea, hf, hl'⟩ := envA a hd
  obtain ⟨vx, g1, g2⟩ := evC_of hl' (hE.op (by simp [Op.operands, Call.operands])) hx
  obtain ⟨f', us', vs', q, g3, rfl⟩ := g2
  have hres := M.res id
  rw [ha id (List.mem_singleton.2 rfl), hlk] at hres
  obtain ⟨us, vs, q', g4, _, g5, g6⟩ := hres
  rw [g3] at g4
  cases g4
  obtain ⟨hbl, hbg⟩ := CVs.getl g5
  obtain ⟨hcl, hcg⟩ := CVs.getl g6
  refine ⟨us' ++ (args.map a.eval ++ vs'), by simp [hlen, hcl, hbl], fun i A v hA hv => ?_, ex_callC (X := X) (w := w) (dst := dst) (t := t) (p := p) (af := af) (gd := gd) (ats := ats) (args := ⟨args⟩) (us := us') (vs := args.map a.eval) (cs := vs') hcall (hf.ev g1) (by simp)⟩
  by_cases hb : i < bs.length
  · rw [List.getElem?_append_left (by simpa using hb), List.getElem?_map] at hA
    rw [List.getElem?_append_left (by omega)] at hv
    obtain ⟨c, hc, rfl⟩ := Option.map_eq_some_iff.1 hA
    exact hbg _ c v hc hv
  rw [List.getElem?_append_right (by simp; omega)] at hA
  rw [List.getElem?_append_right (by omega)] at hv
  simp only [List.length_map] at hA
  rw [hbl] at hv
  by_cases hi : i - bs.length < avs.length
  · rw [List.getElem?_append_left hi] at hA
    rw [List.getElem?_append_left (by simp; omega)] at hv
    obtain ⟨z, hz, hzA⟩ := hidx _ A hA
    rw [List.getElem?_map, hz] at hv
    cases hv
    exact ev_ok hd (hE.op (by simp only [Op.operands, Call.operands]; simp; exact .inr (List.mem_of_getElem? hz))) hzA
  · rw [List.getElem?_append_right (by omega), List.getElem?_map] at hA
    rw [List.getElem?_append_right (by simp; omega)] at hv
    obtain ⟨c, hc, rfl⟩ := Option.map_eq_some_iff.1 hA
    simp only [List.length_map] at hv
    rw [← hlen] at hv
    exact hcg _ c v hc hv
theorem callc_does {f id : Nat} {args : List Operand} {avs : List (XV τ)} {bs cs : List (CV τ)} {ats : Array TypeId} {T : List Nat} (hx : evC E x = some (.cf id)) (hlk : lk L id = .clo f bs cs) (hargs : evXs E args = some avs) (k : K v [] U T nid' = some r) (hle : nid ≤ nid') (hi : InlOk X w0 h0 F f (bs.map .c ++ (avs ++ cs.map .c)) L nid v U T nid')
    (hT : ∀ {L2 : Hp τ}, (∀ i ∈ T, lk L2 i = lk L i) → (∀ i, nid ≤ i → i < nid' → lk L2 i = .gone) → ∀ i ∈ [id], lk L2 i = lk L i) :
    Does X w0 h0 F ⟨dst, .call ⟨.value x, ⟨args⟩, ats⟩, t, p, af, gd⟩ E L nid K r := by
  refine ⟨_, _, _, _, _, k, hle, (fun _ h => by cases h), fun L2 ν h φ a w next Q hd M hE ha hfr kk => ?_⟩
  obtain ⟨vals, h1, h2, hexec⟩ := clo_entr (dst := dst) (ats := ats) (t := t) (p := p) (af := af) (gd := gd) hx hlk hargs L2 ν h φ a w hd M hE (hT ha fun i h1 h2 => M.gone_of (hfr i h1 h2)) hi.1
  have hcalls := hi.2 L2 ν h φ w vals M h1 h2 ha hfr
  unfold Oper.wp
  rw [hexec]
  refine Calls.mono hcalls ?_
  rintro e1 w' ⟨u, ν', h', φ', rfl, M', hν, hh, hfr', hv⟩
  exact kk ν' h' φ' w' u M' hν hh hfr' hv
theorem evCs_ok {Ea : Env} {N : Nat} (hf : Fits N Ea a) (hl : ∀ t, Dk.look Ea t = a.tmps[t]?) : ∀ {xs : List Operand} {cs : List (CV τ)}, evCs E xs = some cs → (∀ x ∈ xs, EnvOn X h ν a (tmpO x) E) → CVs X.P X.G h ν cs (xs.map a.eval)
  | [], cs, e, _ => by cases e; rfl
  | x :: xs, cs, e, hE => by
    unfold evCs at e
    split at e
    · rename_i c hc
      split at e
      · rename_i cs' hcs
        cases e
        obtain ⟨v, h1, h2⟩ := evC_of hl (hE x (List.mem_cons_self ..)) hc
        exact ⟨a.eval x, xs.map a.eval, rfl, by rw [hf.ev h1]; exact h2, evCs_ok hf hl hcs fun x hx => hE x (List.mem_cons_of_mem _ hx)⟩
      · cases e
    · cases e
theorem make_does {f : Nat} {fs caps : List Operand} {bs cs : List (CV τ)} (hb : evCs E fs = some bs) (hc : evCs E caps = some cs) (k : K (.c (.cf nid)) [] [(nid, .clo f bs cs)] [] (nid + 1) = some r) : Does X w0 h0 F ⟨dst, .makeFunc (.func f) ⟨fs⟩ ⟨caps⟩, t, p, af, gd⟩ E L nid K r := by
  refine ⟨_, _, _, _, _, k, Nat.le_succ _, (fun _ h => by cases h), fun L2 ν h φ a w next Q hd M hE ha hfr kk => ?_⟩
  have hn := hfr nid (Nat.le_refl _) (Nat.lt_succ_self _)
  obtain ⟨Ea, hf, hl'⟩ := envA a hd
  have hbv := evCs_ok (h := h) (ν := ν) hf hl' hb fun x hx => hE.op (by simp [Op.operands]; exact .inl hx)
  have hcv := evCs_ok (h := h) (ν := ν) hf hl' hc fun x hx => hE.op (by simp [Op.operands]; exact .inr hx)
  have hrun : (execOp a.eval ⟨dst, .makeFunc (.func f) ⟨fs⟩ ⟨caps⟩, t, p, af, gd⟩).run X.P w = .ok (.value (.func (.func f) ⟨fs.map a.eval⟩ ⟨caps.map a.eval⟩)) w := by
    simp [execOp, Instr.makeFunc, Result.andThen]
  refine wp_val hrun (kk (up1 ν nid (some (.func (.func f) ⟨fs.map a.eval⟩ ⟨caps.map a.eval⟩, none))) h _ w _ (M.add hn (.clo f bs cs) _ (fp := []) ⟨_, _, _, rfl, rfl, hbv.le (Fz.le.refl _) (up1_le hn), hcv.le (Fz.le.refl _) (up1_le hn)⟩ (fun b hb => by cases hb)) (up1_le hn) (Fz.le.refl _) fresh_one ⟨f, _, _, none, up1_at _ _ _, rfl⟩)
theorem cellsZ_ok {Ea : Env} {N : Nat} (hf : Fits N Ea a) (hl : ∀ t, Dk.look Ea t = a.tmps[t]?) : ∀ {ps : List (Nat × Operand)} {k : Nat} {cs : List (CV τ)} {pre rest : List Value}, cellsZ E k ps = some cs → (∀ q ∈ ps, EnvOn X h ν a (tmpO q.2) E) → pre.length = k → rest.length = ps.length →
    cs.length = ps.length ∧ CVs X.P X.G h ν cs (ps.map fun q => a.eval q.2) ∧ Instr.fill (fun i => some (i * 1, 1)) (pre ++ rest).toArray (ps.map fun q => (q.1, a.eval q.2)) = some (pre ++ ps.map fun q => a.eval q.2).toArray
  | [], k, cs, pre, rest, e, _, _, hr => by
    cases e
    have : rest = [] := List.eq_nil_of_length_eq_zero hr
    subst this
    exact ⟨rfl, rfl, by simp [Instr.fill]⟩
  | (i, x) :: ps, k, cs, pre, rest, e, hE, hp, hr => by
    unfold cellsZ at e
    cases hb : Nat.beq i k with
    | false => rw [hb] at e; cases e
    | true =>
      rw [hb, cond_true] at e
      have : i = k := by simpa using hb
      subst this
      split at e
      · rename_i c hc
        split at e
        · rename_i cs' hcs
          cases e
          obtain ⟨v, h1, h2⟩ := evC_of hl (hE (i, x) (List.mem_cons_self ..)) hc
          have hv : a.eval x = v := hf.ev h1
          cases rest with
          | nil => simp at hr
          | cons r0 rest =>
            obtain ⟨g1, g2, g3⟩ := cellsZ_ok hf hl (pre := pre ++ [a.eval x]) (rest := rest) hcs (fun q hq => hE q (List.mem_cons_of_mem _ hq)) (by simp [hp]) (by simpa using hr)
            refine ⟨by simp [g1], ⟨_, _, rfl, by show CVOk X.P X.G h ν c (a.eval x); rw [hv]; exact h2, g2⟩, ?_⟩
            have hcell : (a.eval x).cells = #[a.eval x] := by rw [hv]; exact (CVOk.one h2).2
            simp only [List.map_cons, Instr.fill, hcell]
            rw [if_neg (by simp; omega)]
            have h8 : (Array.zipIdx #[a.eval x]).foldl (fun cs (q : Value × Nat) => cs.setIfInBounds (i * 1 + q.2) q.1) (pre ++ r0 :: rest).toArray = (pre ++ [a.eval x] ++ rest).toArray := by simp [← hp]
            refine Eq.trans (congrArg (fun z => Instr.fill _ z _) h8) ?_
            rw [g3]; simp
        · cases e
      · cases e
theorem bz_does {te n : Nat} {ps : List (Nat × Operand)} {cs : List (CV τ)} (hel : elO X.P t' = some te) (hz1 : z1B X.P te = true) (hc : cellsZ E 0 ps = some cs) (hn : cs.length = n) (hsz : n ≤ 65536)
    (k : K (.c (.os (nid + 1))) [] [(nid + 1, .sb nid n), (nid, .blk te cs)] [] (nid + 2) = some r) : Does X w0 h0 F ⟨dst, .buildSlice t' n ⟨ps⟩, t, p, af, gd⟩ E L nid K r := by
  unfold z1B at hz1
  split at hz1
  · rename_i ti hti
    split at hz1
    · rename_i z hz
      have hs1 : ti.size = 1 := by simpa using hz1
      refine ⟨_, _, _, _, _, k, by omega, (fun _ h => by cases h), fun L2 ν h φ a w next Q hd M hE ha hfr kk => ?_⟩
      have hn0 := hfr nid (Nat.le_refl _) (by omega)
      have hn1 := hfr (nid + 1) (by omega) (by omega)
      obtain ⟨Ea, hf, hl'⟩ := envA a hd
      have hEo : ∀ q ∈ ps, EnvOn X h ν a (tmpO q.2) E := fun q hq => hE.op (by simp only [Op.operands, List.toList_toArray, List.mem_map]; exact ⟨q, hq, rfl⟩)
      have hrng : ∀ f : Nat → Value, (Array.range (n * ti.size)).map f = ((List.range (n * ti.size)).map f).toArray := by
        intro f; apply Array.toList_inj.1; simp
      have hpl : ps.length = n := by
        have := (cellsZ_ok (h := h) (ν := ν) hf hl' (pre := []) (rest := List.replicate ps.length undef) hc hEo rfl (by simp)).1
        omega
      have hfill : ∀ zc : Array Value, Instr.fill (fun i => some (i * ti.size, ti.size)) ((Array.range (n * ti.size)).map (zc[· % zc.size]!)) (ps.map fun q => (q.1, a.eval q.2)) = some (ps.map fun q => a.eval q.2).toArray := by
        intro zc
        obtain ⟨_, _, h3⟩ := cellsZ_ok (h := h) (ν := ν) hf hl' (pre := []) (rest := (List.range (n * ti.size)).map (zc[· % zc.size]!)) hc hEo rfl (by simp [hs1, hpl])
        rw [hrng]
        simp only [hs1] at h3 ⊢
        simpa using h3
      have hcv := (cellsZ_ok (h := h) (ν := ν) hf hl' (pre := []) (rest := List.replicate ps.length undef) hc hEo rfl (by simp)).2.1
      have hpm : (Array.map (fun x => match x with | (i, x) => (i, a.eval x)) (⟨ps⟩ : Array (Nat × Operand))) = (ps.map fun q => (q.1, a.eval q.2)).toArray := by
        have : (Array.map (fun (q : Nat × Operand) => (q.1, a.eval q.2)) ⟨ps⟩) = (ps.map fun q => (q.1, a.eval q.2)).toArray := by simp
        exact this
      have hexec : (execOp a.eval ⟨dst, .buildSlice t' n ⟨ps⟩, t, p, af, gd⟩).run X.P w = .ok (.value (.slice (some ⟨w.heap.size, 0, none⟩) n n)) (w.alloc (.cells (ps.map fun q => a.eval q.2).toArray te)) := by
        have hb : ¬(n * ti.size > 2 ^ 24) := by rw [hs1]; omega
        simp only [execOp]
        rw [hpm, Sem.run_bind, run_bs (elO_ok hel) hti hz hb (hfill _)]
        rfl
      have M1 := M.alloc hn0 (.cells (ps.map fun q => a.eval q.2).toArray te) (.blk te cs) (ptr w.heap.size 0, none) ⟨_, none, _, rfl, rfl, heap_new _, hcv.le (Fz.le.refl _) (up1_le hn0)⟩
      have hne : ¬ nid + 1 = nid := by omega
      have hn1' : up1 ν nid (some (ptr w.heap.size 0, none)) (nid + 1) = none := (up1_ne _ _ hne).trans hn1
      have M2 := M1.add hn1' (.sb nid n) (.slice (some ⟨w.heap.size, 0, none⟩) n n, none) (fp := []) ⟨w.heap.size, none, none, (up1_le hn1') _ _ (up1_at _ _ _), rfl, rfl⟩ (fun b hb => by cases hb)
      refine wp_val hexec (kk _ h _ _ _ M2 ((up1_le hn0).trans (up1_le hn1')) (Fz.le.refl _) (fun i h1 h2 => ?_) ⟨_, _, _, none, up1_at _ _ _, rfl⟩)
      by_cases e1 : i = nid + 1
      · omega
      · rw [up1_ne _ _ e1] at h2
        by_cases e2 : i = nid
        · omega
        · rw [up1_ne _ _ e2] at h2; exact (h2 h1).elim
    · cases hz1
  · cases hz1
theorem lens_does {id i n te : Nat} (hx : evC E x = some (.os id)) (hl : lk L id = .sb i n) (hu : elO X.P t' = some te) (k : K (.c (.i (n : Int))) [] [] [id] nid = some r) :
    Does X w0 h0 F ⟨dst, .call ⟨.builtin .len, ⟨[x]⟩, ⟨[t']⟩⟩, t, p, af, gd⟩ E L nid K r := by
  refine does_pure k fun L2 ν h φ a w hd M hE ha => ?_
  obtain ⟨Ea, hf, hl'⟩ := envA a hd
  obtain ⟨vx, h1, h2⟩ := evC_of hl' (hE.op (by simp [Op.operands, Call.operands])) hx
  obtain ⟨ad, m, cp, q, hν, rfl⟩ := h2
  have hr := M.res id
  rw [ha id (List.mem_singleton.2 rfl), hl] at hr
  obtain ⟨b, q1, q2, g1, g2, _⟩ := hr
  rw [hν] at g2
  cases g2
  exact ⟨_, ex_len_l (elO_ok hu) hf h1, rfl⟩
theorem sli_does {te id : Nat} {lo hi : Option Operand} (hu : X.P.underlying t' = some (.slice te)) (hx : evC E x = some (.os id)) (e : sliZ X E L nid K id te lo hi = some r) : Does X w0 h0 F ⟨dst, .slice t' x lo hi none, t, p, af, gd⟩ E L nid K r := by
  unfold sliZ at e
  split at e
  · rename_i te' e' xs kk hlk
    obtain ⟨hsz, e⟩ := bc_t e
    obtain ⟨hsz, _⟩ := szE_ok hsz
    split at e
    · rename_i i s hp
      exact part_does hu hx hlk hsz hp e
    · cases e
  · cases e
theorem add_at (g k j : Nat) : (⟨g, k, none⟩ : Addr).add j = ⟨g, k + j, none⟩ := by unfold Addr.add; split <;> simp_all
theorem ixv_does {te id : Nat} {m : Int} (hel : elO X.P t' = some te) (hx : evC E x = some (.os id)) (hy : evC E y = some (.i m)) (e : ixZ X L nid K id te m = some r) : Does X w0 h0 F ⟨dst, .indexAddr t' x y, t, p, af, gd⟩ E L nid K r := by
  unfold ixZ at e
  split at e
  · rename_i i kk e' lo xs hlk
    split at e
    · rename_i te2 e2 ys k' hlk2
      obtain ⟨hb, e3⟩ := bc_t e
      simp only [Bool.and_eq_true, Nat.beq_eq] at hb
      obtain ⟨hkk, hsz⟩ := hb
      subst hkk
      obtain ⟨hsz, _⟩ := szE_ok hsz
      obtain ⟨d, hr, e4⟩ := ob e3
      refine does_pure e4 fun L2 ν h φ a w hd M hE ha => ?_
      obtain ⟨Ea, hf, hl'⟩ := envA a hd
      obtain ⟨vx, h1, h2⟩ := evC_of hl' (hE.op (by simp [Op.operands])) hx
      obtain ⟨vy, h3, h4⟩ := evC_of hl' (hE.op (by simp [Op.operands])) hy
      obtain rfl : vy = _ := h4
      obtain ⟨ad, n, cp, q, hν, rfl⟩ := h2
      have hres := M.res id
      rw [ha id (List.mem_cons_self ..), hlk] at hres
      obtain ⟨a1, n1, c1, q1, q2, u1, ys1, a2, c2, g1, g2, g3, g4, g5, g6, g7, _⟩ := hres
      have hr2 := M.res i
      rw [ha i (List.mem_cons_of_mem _ (List.mem_cons_self ..)), hlk2] at hr2
      obtain ⟨v', q', vs, u, d1, d2, d3, d4, d5⟩ := hr2
      rw [g1] at d1
      cases d1
      rw [g2] at d5
      injection d5 with d5
      injection d5 with _ d5
      injection d5 with d5
      cases d5
      rw [hν] at g5
      cases g5
      obtain ⟨hz, hm0⟩ := lAt_some hr
      have hlt : m.toNat < xs.length := (List.getElem?_eq_some_iff.1 hz).1
      have hne : xs ≠ [] := fun h => by rw [h] at hlt; simp at hlt
      have had := g7 hne
      obtain ⟨_, ⟨e1, hz0⟩ | ⟨g, cap, cur, e1, _⟩⟩ := d3
      · omega
      · cases e1
        have hadd2 := add_at g
        simp only [Option.map_some, hadd2, Nat.zero_add] at had
        subst had
        have hget : lAt ys1 ((lo + m.toNat : Nat) : Int) = some d := by
          unfold lAt
          rw [if_pos (by omega), Int.toNat_natCast]
          rw [g4, List.getElem?_drop, List.getElem?_take] at hz
          split at hz
          · exact hz
          · cases hz
        refine ⟨ptr g ((lo + m.toNat) * (ets X.G e').length), ?_, g, _, _, _, ys1, _, g1, g2, hget, by rw [Int.toNat_natCast, Nat.add_zero]⟩
        refine ex_indexAddr (fun w => ?_) hf h1 h3
        rw [run_indexAt (elO_ok hel) (szO_ok hsz) hm0 (by omega), hadd2, Nat.add_mul]
    · cases e
  · rename_i i n hlk
    split at e
    · rename_i hsz
      split at e
      · rename_i hm
        refine does_pure e fun L2 ν h φ a w hd M hE ha => ?_
        obtain ⟨Ea, hf, hl'⟩ := envA a hd
        obtain ⟨vx, h1, h2⟩ := evC_of hl' (hE.op (by simp [Op.operands])) hx
        obtain ⟨vy, h3, h4⟩ := evC_of hl' (hE.op (by simp [Op.operands])) hy
        obtain rfl : vy = _ := h4
        obtain ⟨ad, n', cp, q, hν, rfl⟩ := h2
        have hres := M.res id
        rw [ha id (List.mem_singleton.2 rfl), hlk] at hres
        obtain ⟨b, q1, q2, g1, g2, _⟩ := hres
        rw [hν] at g2
        cases g2
        refine ⟨ptr b m.toNat, ?_, some ⟨b, 0, none⟩, q2, g1, by simp [shiftV], fun _ => ⟨b, rfl⟩⟩
        refine ex_indexAddr (fun w => ?_) hf h1 h3
        rw [run_indexAt (elO_ok hel) (szO_ok hsz) hm.1 (by omega), add_at, Nat.zero_add, Nat.mul_one]
      · cases e
    · cases e
  · cases e
end
end Go.Rk
end
