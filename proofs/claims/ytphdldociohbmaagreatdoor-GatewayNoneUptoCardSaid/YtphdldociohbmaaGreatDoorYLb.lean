/-
  Walks by evaluation: calls. Over any program.
  Walks by evaluation: calls, and operations as a whole. Over any program.
  Walks by evaluation: regions. Over any program.
  Walks by evaluation: regions that draw their order. Over any program.
  Walks by evaluation: code. Over any program.
  Walks by evaluation: functions. Over any program.
  Walks by evaluation, calls and loops with them: what a whole run makes of abstract values. Over any program.
  Walks by evaluation: whole runs are right. Over any program.
  Walks by evaluation: the operations of whole runs. Over any program.
  Walks by 
-/
import Derived.Test.YtphdldociohbmaaGreatDoorYRx
import Derived.Test.YtphdldociohbmaaGreatDoorSeat
section
namespace Go.Rk
open Go.RowKit Go.Dm Go.Dk
variable {τ : Nat → Type}

section
variable (P : Program) (G : Sig τ) (h : Fz) (w : World)
def TrX : (t : Ty) → t.den τ → Value → List Nat → Prop
  | .st n, x, v, fp => ∃ vs, v = .agg ⟨vs⟩ ∧ TrL P G h w (G.fs n) (G.dtor n x) vs fp
  | .pr _ _, _, _, fp => fp = []
  | t, x, v, fp => Tr P G h w t x v fp
inductive TrXs : (ts : List Ty) → DP τ ts → List Value → List Nat → Prop
  | nil : TrXs [] () [] []
  | cons (t : Ty) (ts : List Ty) (p : DP τ (t :: ts)) (v : Value) (vs : List Value) (f f' : List Nat) (h1 : TrX P G h w t p.hd v f) (h2 : TrXs ts p.tl vs f') (hd : ∀ b ∈ f, b ∉ f') : TrXs (t :: ts) p (v :: vs) (f ++ f')
end
def retV : List Value → Value
  | [v] => v
  | vs => .tuple ⟨vs⟩
structure Left (h : Fz) (w : World) (fp : List Nat) (h' : Fz) (w' : World) (fp' : List Nat) : Prop where
  os : w'.os = w.os
  tape : w'.tape = w.tape
  output : w'.output = w.output
  size : w.heap.size ≤ w'.heap.size
  frame : ∀ b, b < w.heap.size → b ∉ fp → w'.heap[b]? = w.heap[b]?
  le : h.le h'
  on : h'.on w'
  new : ∀ b, h' b ≠ none → h b ≠ none ∨ b ∈ fp ∨ w.heap.size ≤ b
  own : ∀ b ∈ fp', h' b = none ∧ (b ∈ fp ∨ w.heap.size ≤ b)
def COk (P : Program) (G : Sig τ) (f : FuncId) (k : Con τ) : Prop :=
  Callable P f ∧ ∀ (h : Fz) (w : World) (p : DP τ k.ps) (r : DP τ k.rs) (vs : List Value) (fp : List Nat), GlOk P G h → FpOk P G → h.on w → TrXs P G h w k.ps p vs fp → (∀ b ∈ fp, h b = none) → k.m p = some r →
    Calls P f vs.toArray w fun e w' => ∃ h' rs fp', e = .returned (retV (rs.take k.nr)) ∧ Left h w fp h' w' fp' ∧ TrXs P G h' w' k.rs r rs fp' ∧ rs.drop k.nr = k.bk.map fun j => vs.getD j undef
section
variable {P : Program} {G : Sig τ} {w0 w w' : World} {h0 h h' H : Fz} {F : List Nat} {L L' L2 : Hp τ} {ν ν' : Vn τ} {φ φ' : Nat → List Nat}
theorem TrX.plain {t : Ty} {x : t.den τ} {v : Value} {fp : List Nat} (hp : Tr P G h w t x v fp) (h1 : ∀ n, t ≠ .st n) : TrX P G h w t x v fp := by
  cases t with
  | st n => exact (h1 n rfl).elim
  | pr a b => cases hp with | fz _ _ _ _ hr => cases hr
  | _ => exact hp
theorem res_st {n : Nat} {c : CV τ} : ∀ d, res G L d (.st n) c = none
  | 0 => rfl
  | d + 1 => by unfold res; dsimp only; unfold lok; rfl
theorem resX_ok (M : Mem P G w0 h0 F L2 w ν h φ) (hH : h.le H) {t : Ty} {A : XV τ} {x : t.den τ} {l m : List Nat} {v : Value} (k : resX G L t A = some (x, l, m)) (ha : ∀ i ∈ l, lk L2 i = lk L i) (hm : LookAt L2 L φ H w m) (hn : nod l = true) (hv : XOk P G h ν A v) : TrX P G H w t x v (fps φ l) := by
  unfold resX at k
  split at k
  · rename_i n cs
    split at k
    · rename_i q l' m' hq
      cases k
      obtain ⟨vs, rfl, hc⟩ := hv
      refine ⟨vs, rfl, ?_⟩
      rw [G.dc]
      exact resL_ok M (res_ok M hH depth) hq ha hm hn hc
    · cases k
  · rename_i c
    refine TrX.plain (res_ok M hH _ _ _ _ _ _ _ k ha hm hn hv) ?_
    rintro n rfl
    rw [res_st] at k; cases k
  · split at k
    · cases k; rfl
    · cases k
  · cases k
theorem resXs_ok (M : Mem P G w0 h0 F L2 w ν h φ) (hH : h.le H) : ∀ {ts : List Ty} {As : List (XV τ)} {p : DP τ ts} {l m : List Nat} {vs : List Value}, resXs G L ts As = some (p, l, m) → (∀ i ∈ l, lk L2 i = lk L i) → LookAt L2 L φ H w m → nod l = true →
    vs.length = As.length → (∀ (i : Nat) (A : XV τ) (v : Value), As[i]? = some A → vs[i]? = some v → XOk P G h ν A v) → TrXs P G H w ts p vs (fps φ l)
  | [], [], p, l, m, vs, e, _, _, _, hl, _ => by
    cases e
    have : vs = [] := List.eq_nil_of_length_eq_zero hl
    subst this; exact .nil
  | t :: ts, A :: As, p, l, m, vs, e, ha, hm, hn, hl, hv => by
    unfold resXs at e
    split at e
    · rename_i x l1 m1 hx
      split at e
      · rename_i q l2 m2 hq
        cases e
        obtain ⟨n1, n2, n3⟩ := nod_app hn
        cases vs with
        | nil => simp at hl
        | cons v vs =>
          rw [fps_append]
          refine .cons t ts _ v vs _ _ ?_ ?_ (M.fps_dis n3)
          · rw [DP.hd_mk]; exact resX_ok M hH hx (fun i hi => ha i (List.mem_append_left _ hi)) hm.app.1 n1 (hv 0 A v rfl rfl)
          · rw [DP.tl_mk]; exact resXs_ok M hH hq (fun i hi => ha i (List.mem_append_right _ hi)) hm.app.2 n2 (by simpa using hl) (fun i A v h1 h2 => hv (i + 1) A v h1 h2)
      · cases e
    · cases e
  | [], _ :: _, _, _, _, _, e, _, _, _, _, _ => by cases e
  | _ :: _, [], _, _, _, _, e, _, _, _, _, _ => by cases e

structure Adds (P : Program) (G : Sig τ) (w0 : World) (h0 : Fz) (F : List Nat) (L : Hp τ) (w : World) (ν : Vn τ) (h : Fz) (φ : Nat → List Nat) (U : Hp τ) (nid nid' : Nat) (fp : List Nat) (ν' : Vn τ) (φ' : Nat → List Nat) : Prop where
  mem : Mem P G w0 h0 F (U ++ L) w ν' h φ'
  le : ν.le ν'
  fresh : Fresh ν ν' nid nid'
  sub : ∀ j b, b ∈ φ' j → b ∈ φ j ∨ b ∈ fp
theorem Grew.adds {U : Hp τ} {nid nid' : Nat} {fp : List Nat} (g : Grew P G w0 h0 F L w ν h φ U nid nid' fp ν' φ') : Adds P G w0 h0 F L w ν h φ U nid nid' fp ν' φ' :=
  ⟨g.mem, g.le, g.fresh, fun j b hb => by
    by_cases e : nid ≤ j ∧ j < nid'
    · exact .inr (g.fp j b e.1 e.2 hb)
    · rw [(g.same j e).2] at hb; exact .inl hb⟩
theorem Free.adds {U : Hp τ} {nid nid' : Nat} {fp fp' : List Nat} (g : Adds P G w0 h0 F L w ν h φ U nid nid' fp ν' φ') (hf : Free w0 h F φ fp') (hd : ∀ b ∈ fp', b ∉ fp) : Free w0 h F φ' fp' := fun b hb =>
  ⟨fun i hi => by
    rcases g.sub i b hi with h1 | h1
    · exact (hf b hb).1 i h1
    · exact hd b hb h1, (hf b hb).2⟩
theorem Adds.seq {U U' : Hp τ} {a b c : Nat} {fp fp' : List Nat} {ν'' : Vn τ} {φ'' : Nat → List Nat} (g : Adds P G w0 h0 F L w ν h φ U' b c fp' ν' φ') (g' : Adds P G w0 h0 F (U' ++ L) w ν' h φ' U a b fp ν'' φ'') (h1 : a ≤ b) (h2 : b ≤ c) : Adds P G w0 h0 F L w ν h φ (U ++ U') a c (fp ++ fp') ν'' φ'' :=
  ⟨by rw [List.append_assoc]; exact g'.mem, g.le.trans g'.le, fun i e1 e2 => by
    by_cases e : ν' i = none
    · have := g'.fresh i e e2; omega
    · have := g.fresh i e1 e; omega, fun j b hb => by
    rcases g'.sub j b hb with h3 | h3
    · rcases g.sub j b h3 with h4 | h4
      · exact .inl h4
      · exact .inr (List.mem_append_right _ h4)
    · exact .inr (List.mem_append_left _ h3)⟩
theorem expX_le {t : Ty} {x : t.den τ} {nid nid' : Nat} {v : XV τ} {U : Hp τ} (e : expX G t x nid = (v, U, nid')) : nid ≤ nid' := by
  cases t
  case st n =>
    have e : expS G _ x nid = (v, U, nid') := e
    unfold expS at e
    split at e
    rename_i h1
    cases e
    exact expL_le (expC_le G depth) h1
  case pr a b => cases e; exact Nat.le_refl _
  all_goals
    have e : expO G _ x nid = (v, U, nid') := e
    unfold expO at e
    split at e
    rename_i h1
    cases e
    exact expC_le G depth _ _ _ _ _ _ h1
theorem expX_ky {t : Ty} {x : t.den τ} {nid nid' : Nat} {v : XV τ} {U : Hp τ} (e : expX G t x nid = (v, U, nid')) : ∀ j ∈ kys U, nid ≤ j ∧ j < nid' := by
  cases t
  case st n =>
    have e : expS G _ x nid = (v, U, nid') := e
    unfold expS at e
    split at e
    rename_i h1
    cases e
    exact expL_ky (expC_le G depth) (expC_ky G depth) h1
  case pr a b => cases e; intro j hj; cases hj
  all_goals
    have e : expO G _ x nid = (v, U, nid') := e
    unfold expO at e
    split at e
    rename_i h1
    cases e
    exact expC_ky G depth _ _ _ _ _ _ h1
theorem expX_ok (M : Mem P G w0 h0 F L w ν h φ) {t : Ty} {x : t.den τ} {nid nid' : Nat} {A : XV τ} {U : Hp τ} {v : Value} {fp : List Nat} (e : expX G t x nid = (A, U, nid')) (ht : TrX P G h w t x v fp) (hn : ∀ i, nid ≤ i → i < nid' → ν i = none) (hf : Free w0 h F φ fp) :
    ∃ ν' φ', Adds P G w0 h0 F L w ν h φ U nid nid' fp ν' φ' ∧ XOk P G h ν' A v := by
  have flat : ∀ {t : Ty} {x : t.den τ} {c : CV τ}, expC G depth t x nid = (c, U, nid') → Tr P G h w t x v fp → ∃ ν' φ', Adds P G w0 h0 F L w ν h φ U nid nid' fp ν' φ' ∧ XOk P G h ν' (.c c) v := by
    intro t x c h1 ht
    obtain ⟨ν', φ', g, hc⟩ := expC_ok depth _ _ _ _ _ _ _ _ _ _ _ h1 ht M hn hf
    exact ⟨ν', φ', g.adds, hc⟩
  cases t
  case st n =>
    have e : expS G _ x nid = (A, U, nid') := e
    unfold expS at e
    split at e
    rename_i cs U1 n1 h1
    cases e
    obtain ⟨vs, rfl, hl⟩ := ht
    obtain ⟨ν', φ', g, hc⟩ := expL_ok (expC_le G depth) (expC_ok depth) h1 hl M hn hf
    exact ⟨ν', φ', g.adds, vs, rfl, hc⟩
  case pr a b =>
    cases e
    exact ⟨ν, φ, (Grew.nil M _ fp).adds, trivial⟩
  all_goals
    have e : expO G _ x nid = (A, U, nid') := e
    unfold expO at e
    split at e
    rename_i h1
    cases e
    exact flat h1 ht
theorem expAt_adds (M : Mem P G w0 h0 F L w ν h φ) {i n nid nid' : Nat} {x : τ n} {U : Hp τ} {v : Value} {q : Option ((e : Ty) × List (e.den τ))} {fp : List Nat} (e : expAt G i n x nid = (U, nid')) (hg : lk L i = .gone) (hi : ν i = some (v, q)) (ht : Tr P G h w (.po n) x v fp) (hf : Free w0 h F φ fp)
    (hn : ∀ i, nid ≤ i → i < nid' → ν i = none) : ∃ ν' φ' b, Adds P G w0 h0 F L w ν h φ U nid nid' fp ν' φ' ∧ v = ptr b 0 := by
  obtain ⟨_, ν', φ', t, cs, b, h1, h2, h3, h4, _, h5, h6⟩ := expAt_ok M e hg hi ht hf hn
  refine ⟨ν', φ', b, ⟨h1, h2, h3, fun j b hb => ?_⟩, h4⟩
  by_cases hj : j = i ∨ nid ≤ j ∧ j < nid'
  · exact .inr (h6 j b hj hb)
  · rw [h5 j (fun a => hj (.inr a)) (fun a => hj (.inl a))] at hb
    exact .inl hb
theorem expAt_le {i n nid nid' : Nat} {x : τ n} {U : Hp τ} (e : expAt G i n x nid = (U, nid')) : nid ≤ nid' := by
  unfold expAt at e
  split at e
  rename_i h1
  cases e
  exact expL_le (expC_le G depth) h1
theorem Mem.gone_of (M : Mem P G w0 h0 F L w ν h φ) {i : Nat} (hi : ν i = none) : lk L i = .gone := by
  have hr := M.res i
  rw [hi] at hr
  cases e : lk L i with
  | gone => rfl
  | blk t cs => rw [e] at hr; obtain ⟨_, _, _, h, _⟩ := hr; cases h
  | row t e' xs k => rw [e] at hr; obtain ⟨_, _, _, _, h, _⟩ := hr; cases h
  | fz e' xs => rw [e] at hr; obtain ⟨_, _, h, _⟩ := hr; cases h
  | tree n x => rw [e] at hr; obtain ⟨_, _, h, _⟩ := hr; cases h
  | nilp => rw [e] at hr; obtain ⟨_, h, _⟩ := hr; cases h
  | clo f cs => rw [e] at hr; obtain ⟨_, _, h, _⟩ := hr; cases h
  | vw i' k e' lo xs => rw [e] at hr; obtain ⟨_, _, _, _, _, _, _, _, _, _, _, _, _, h, _⟩ := hr; cases h

def RootsOk (L : Hp τ) (ν : Vn τ) : List (Option (Option Nat)) → List Value → Prop
  | some (some i) :: rs, v :: vs => lk L i = .gone ∧ (∃ q, ν i = some (v, q)) ∧ some (some i) ∉ rs ∧ RootsOk L ν rs vs
  | some none :: rs, v :: vs => v = .pointer none ∧ RootsOk L ν rs vs
  | none :: rs, _ :: vs => RootsOk L ν rs vs
  | _, _ => True
def outs : List (Option (Option Nat)) → List Value → List Value
  | none :: rs, v :: vs => v :: outs rs vs
  | some _ :: rs, _ :: vs => outs rs vs
  | _, _ => []
def XsOk (P : Program) (G : Sig τ) (h : Fz) (ν : Vn τ) : List (XV τ) → List Value → Prop
  | [], vs => vs = []
  | x :: xs, vs => ∃ v us, vs = v :: us ∧ XOk P G h ν x v ∧ XsOk P G h ν xs us
theorem XsOk.le (hh : h.le h') (hν : ν.le ν') : ∀ {xs : List (XV τ)} {vs : List Value}, XsOk P G h ν xs vs → XsOk P G h' ν' xs vs
  | [], _, e => e
  | _ :: _, _, ⟨v, us, e, h1, h2⟩ => ⟨v, us, e, h1.le hh hν, h2.le hh hν⟩
theorem resH_ok {ρ : Type} {r : ρ} {a : Option (Option Nat)} {t : Ty} {x : t.den τ} {nid : Nat} {k : Option (XV τ) → Hp τ → Nat → Option ρ} (e : resH G a t x nid k = some r) : ∃ x0 U n1, k x0 U n1 = some r ∧ nid ≤ n1 ∧ (∀ j ∈ kys U, some (some j) = a ∨ nid ≤ j ∧ j < n1) ∧
    ∀ (L : Hp τ) (w : World) (ν : Vn τ) (h : Fz) (φ : Nat → List Nat) (v : Value) (fp : List Nat), Mem P G w0 h0 F L w ν h φ → TrX P G h w t x v fp → (∀ i, nid ≤ i → i < n1 → ν i = none) → Free w0 h F φ fp → (∀ i, a = some (some i) → lk L i = .gone ∧ ∃ q, ν i = some (v, q)) → (a = some none → v = .pointer none) →
      ∃ ν' φ', Adds P G w0 h0 F L w ν h φ U nid n1 fp ν' φ' ∧ ((a = none ∧ ∃ y, x0 = some y ∧ XOk P G h ν' y v) ∨ (a ≠ none ∧ x0 = none)) := by
  unfold resH at e
  split at e
  · rename_i i n x
    obtain ⟨U, n1, h1⟩ : ∃ U n1, expAt G i n x nid = (U, n1) := ⟨_, _, rfl⟩
    rw [h1] at e
    refine ⟨none, U, n1, e, expAt_le h1, fun j hj => ?_, fun L w ν h φ v fp M ht hn hf ha _ => ?_⟩
    · rcases expAt_ky h1 j hj with h2 | h2
      · exact .inl (by rw [h2])
      · exact .inr h2
    · obtain ⟨hg, q, hi⟩ := ha i rfl
      obtain ⟨ν', φ', b, A, _⟩ := expAt_adds M h1 hg hi ht hf hn
      exact ⟨ν', φ', A, .inr ⟨by simp, rfl⟩⟩
  · rename_i i n x
    refine ⟨none, _, _, e, Nat.le_refl _, fun j hj => ?_, fun L w ν h φ v fp M ht hn hf ha _ => ?_⟩
    · simp [kys] at hj
      subst hj; exact .inl rfl
    · obtain ⟨hg, q, hi⟩ := ha i rfl
      refine ⟨ν, _, ⟨M.put (i := i) hg (.tree n x) (fp := fp) ⟨v, q, hi, ht⟩ hf, Vn.le.refl _, Fresh.refl _ _ _, fun j b hb => ?_⟩, .inr ⟨by simp, rfl⟩⟩
      by_cases hj : j = i
      · subst hj; rw [up1_at] at hb; exact .inr hb
      · rw [up1_ne _ _ hj] at hb; exact .inl hb
  · refine ⟨none, _, _, e, Nat.le_refl _, (fun j hj => by cases hj), fun L w ν h φ v fp M ht hn hf ha _ => ⟨ν, φ, (Grew.nil M _ _).adds, .inr ⟨by simp, rfl⟩⟩⟩
  · refine ⟨none, _, _, e, Nat.le_refl _, (fun j hj => by cases hj), fun L w ν h φ v fp M ht hn hf ha _ => ⟨ν, φ, (Grew.nil M _ _).adds, .inr ⟨by simp, rfl⟩⟩⟩
  · rename_i n x
    cases x with
    | none =>
      refine ⟨_, _, _, e, Nat.le_refl _, (fun j hj => by cases hj), fun L w ν h φ v fp M ht hn hf ha _ => ⟨ν, φ, (Grew.nil M _ _).adds, .inl ⟨rfl, _, rfl, ?_⟩⟩⟩
      exact (Tr.pn_none ht).1
    | some y =>
      obtain ⟨U, n1, h1⟩ : ∃ U n1, expAt G nid n y (nid + 1) = (U, n1) := ⟨_, _, rfl⟩
      simp only [optK, h1] at e
      have hle := expAt_le h1
      refine ⟨_, _, _, e, by omega, fun j hj => ?_, fun L w ν h φ v fp M ht hn hf ha _ => ?_⟩
      · rcases expAt_ky h1 j hj with h2 | h2
        · exact .inr (by omega)
        · exact .inr (by omega)
      · have hn' := hn nid (Nat.le_refl _) (by omega)
        have hne : ∀ i, nid + 1 ≤ i → i < n1 → up1 ν nid (some (v, none)) i = none := fun i a b => by rw [up1_ne _ _ (by omega)]; exact hn i (by omega) b
        obtain ⟨ν', φ', b, A, rfl⟩ := expAt_adds (M.ext (up1_le (x := some (v, none)) hn')) h1 (M.gone_of hn') (up1_at _ _ _) (Tr.pn_some ht) hf hne
        refine ⟨ν', φ', ⟨A.mem, (up1_le hn').trans A.le, fun i e1 e2 => ?_, A.sub⟩, .inl ⟨rfl, _, rfl, some ⟨b, 0, none⟩, none, A.le _ _ (up1_at _ _ _), rfl, fun _ => ⟨b, rfl⟩⟩⟩
        by_cases hi : i = nid
        · omega
        · have := A.fresh i (by rw [up1_ne _ _ hi]; exact e1) e2; omega
  · obtain ⟨v, U, n1, h1⟩ : ∃ v U n1, expX G t x nid = (v, U, n1) := ⟨_, _, _, rfl⟩
    rw [h1] at e
    refine ⟨_, _, _, e, expX_le h1, fun j hj => .inr (expX_ky h1 j hj), fun L w ν h φ v fp M ht hn hf ha _ => ?_⟩
    obtain ⟨ν', φ', A, hx⟩ := expX_ok M h1 ht hn hf
    exact ⟨ν', φ', A, .inl ⟨rfl, _, rfl, hx⟩⟩
  · cases e
theorem resK_ok {ρ : Type} {r : ρ} : ∀ (ts : List Ty) (rs : List (Option (Option Nat))) (p : DP τ ts) (nid : Nat) (K0 : List (XV τ) → Hp τ → Nat → Option ρ), resK G rs ts p nid K0 = some r → ∃ l U nid', K0 l U nid' = some r ∧ nid ≤ nid' ∧ (∀ j ∈ kys U, some (some j) ∈ rs ∨ nid ≤ j ∧ j < nid') ∧
    ∀ (L : Hp τ) (w : World) (ν : Vn τ) (h : Fz) (φ : Nat → List Nat) (vals : List Value) (fp : List Nat), Mem P G w0 h0 F L w ν h φ → TrXs P G h w ts p vals fp → (∀ i, nid ≤ i → i < nid' → ν i = none) → Free w0 h F φ fp → RootsOk L ν rs vals →
      ∃ ν' φ', Adds P G w0 h0 F L w ν h φ U nid nid' fp ν' φ' ∧ XsOk P G h ν' l (outs rs vals) := by
  intro ts
  induction ts with
  | nil =>
    intro rs p nid K0 e
    refine ⟨[], [], nid, ?_, Nat.le_refl _, (fun j hj => by cases hj), fun L w ν h φ vals fp M ht hn hf hr => ?_⟩
    · unfold resK hi at e; exact e
    · cases ht
      refine ⟨ν, φ, (Grew.nil M _ _).adds, ?_⟩
      cases rs with
      | nil => rfl
      | cons a rs => cases a <;> rfl
  | cons t ts ih =>
    intro rs p nid K0 e
    cases rs with
    | nil => cases e
    | cons a0 rs' =>
      unfold resK at e
      obtain ⟨x0, U1, n1, e1, hle, hky, hdo⟩ := resH_ok (P := P) (w0 := w0) (h0 := h0) (F := F) e
      obtain ⟨l, U, nid', g1, g2, g3, g4⟩ := ih rs' p.tl n1 _ e1
      refine ⟨_, _, nid', g1, by omega, fun j hj => ?_, fun L w ν h φ vals fp M ht hn hf hr => ?_⟩
      · simp only [kys, List.map_append] at hj
        rcases List.mem_append.1 hj with hj | hj
        · rcases hky j hj with h1 | h1
          · exact .inl (h1 ▸ List.mem_cons_self ..)
          · exact .inr (by omega)
        · rcases g3 j hj with h1 | h1
          · exact .inl (List.mem_cons_of_mem _ h1)
          · exact .inr (by omega)
      · cases ht with
        | cons _ _ _ v vs f f' t1 t2 hd =>
          have hr2 : RootsOk L ν rs' vs := by
            cases a0 with
            | none => exact hr
            | some a1 =>
              cases a1 with
              | none => exact hr.2
              | some i => exact hr.2.2.2
          obtain ⟨ν1, φ1, A1, x1⟩ := g4 L w ν h φ vs f' M t2 (fun i a b => hn i (by omega) b) (hf.sub fun b hb => List.mem_append_right _ hb) hr2
          have hν1 : ∀ i, nid ≤ i → i < n1 → ν1 i = none := by
            intro i a b
            cases e : ν1 i with
            | none => rfl
            | some y =>
              have := A1.fresh i (hn i a (by omega)) (by rw [e]; simp)
              omega
          obtain ⟨ν2, φ2, A2, x2⟩ := hdo (U ++ L) w ν1 h φ1 v f A1.mem t1 hν1 (Free.adds A1 (hf.sub fun b hb => List.mem_append_left _ hb) hd) (fun i ha => by
            subst ha
            obtain ⟨q1, ⟨q, q2⟩, q3, _⟩ := hr
            refine ⟨?_, q, A1.le _ _ q2⟩
            rw [lk_app_out]
            · exact q1
            · intro hi
              rcases g3 i hi with h1 | h1
              · exact q3 h1
              · rw [hn i (by omega) h1.2] at q2; cases q2) (fun ha => by subst ha; exact hr.1)
          refine ⟨ν2, φ2, Adds.seq A1 A2 hle g2, ?_⟩
          rcases x2 with ⟨rfl, x, rfl, hx⟩ | ⟨ha, rfl⟩
          · exact ⟨v, _, rfl, hx, x1.le (Fz.le.refl _) A2.le⟩
          · cases a0 with
            | none => exact (ha rfl).elim
            | some a1 => exact x1.le (Fz.le.refl _) A2.le

theorem scal_rp {t : Ty} {x : t.den τ} {v : Value} (hs : scal t = true) (hr : Rp P G h t x v) : Rp P G h' t x v := by
  cases hr <;> first | (cases hs; done) | constructor
theorem scal_rl : ∀ {ts : List Ty} {q : DP τ ts} {vs : List Value}, RpL P G h ts q vs → ts.all scal = true → RpL P G h' ts q vs
  | _, _, _, .nil, _ => .nil
  | _, _, _, .cons t ts q v vs h1 h2, hs => by
    simp only [List.all_cons, Bool.and_eq_true] at hs
    exact .cons t ts q v vs (scal_rp hs.1 h1) (scal_rl h2 hs.2)
theorem scal_rr : ∀ {e : Ty} {xs : List (e.den τ)} {vs : List Value}, RpR P G h e xs vs → (ets G e).all scal = true → RpR P G h' e xs vs
  | _, _, _, .nil e, _ => .nil e
  | _, _, _, .cons e x xs vs ws h1 h2, hs => .cons e x xs vs ws (scal_rl h1 hs) (scal_rr h2 hs)
theorem unshowL {f : Ty → Bool} (hf : ∀ t x v fp, f t = false → Tr P G h w t x v fp → Tr P G h' w t x v fp) : ∀ {ts : List Ty} {q : DP τ ts} {vs : List Value} {fp : List Nat}, TrL P G h w ts q vs fp → ts.any f = false → TrL P G h' w ts q vs fp
  | _, _, _, _, .nil, _ => .nil
  | _, _, _, _, .cons t ts q v vs f1 f2 h1 h2 hd, hs => by
    simp only [List.any_cons, Bool.or_eq_false_iff] at hs
    exact .cons t ts q v vs f1 f2 (hf _ _ _ _ hs.1 h1) (unshowL hf h2 hs.2) hd
theorem unshow : ∀ (d : Nat) (t : Ty) (x : t.den τ) (v : Value) (fp : List Nat), shows G d t = false → Tr P G h w t x v fp → Tr P G h' w t x v fp
  | 0, t, x, v, fp, hs, _ => by cases hs
  | d + 1, t, x, v, fp, hs, ht => by
    unfold shows at hs
    cases ht with
    | fz _ _ _ hz hr =>
      refine .fz t x v hz ?_
      cases hr <;> first | (cases hs; done) | (cases hz; done) | (constructor; done) | exact .fn _ _ ‹_›
    | so te e xs _ vs ho hr =>
      refine .so te e xs v vs ho (scal_rr hr ?_)
      simpa using hs
    | po n y b vs fp hb hl hn => exact .po n y b vs fp hb (unshowL (unshow d) hl hs) hn
    | pn0 n => exact .pn0 n
    | pn1 n y _ _ hp =>
      refine .pn1 n y v fp ?_
      cases hp with
      | fz _ _ _ hz _ => cases hz
      | po _ _ b vs fp hb hl hn => exact .po n y b vs fp hb (unshowL (unshow d) hl hs) hn
theorem unshowX {d : Nat} {t : Ty} {x : t.den τ} {v : Value} {fp : List Nat} (hs : shows G (d + 1) t = false) (ht : TrX P G h w t x v fp) : TrX P G h' w t x v fp := by
  cases t
  case st n =>
    obtain ⟨vs, rfl, hl⟩ := ht
    unfold shows at hs
    exact ⟨vs, rfl, unshowL (unshow d) hl hs⟩
  case pr a b => exact ht
  all_goals exact unshow (d + 1) _ _ _ _ hs ht
theorem unshowXs {d : Nat} : ∀ {ts : List Ty} {q : DP τ ts} {vs : List Value} {fp : List Nat}, TrXs P G h w ts q vs fp → ts.any (shows G (d + 1)) = false → TrXs P G h' w ts q vs fp
  | _, _, _, _, .nil, _ => .nil
  | _, _, _, _, .cons t ts q v vs f1 f2 h1 h2 hd, hs => by
    simp only [List.any_cons, Bool.or_eq_false_iff] at hs
    exact .cons t ts q v vs f1 f2 (unshowX hs.1 h1) (unshowXs h2 hs.2) hd

theorem outs_nones {rs : List (Option (Option Nat))} (hr : ∀ a ∈ rs, a ≠ none) : ∀ (n : Nat) (vs : List Value), outs (nones n rs) vs = vs.take n
  | 0, vs => by
    have : ∀ (rs : List (Option (Option Nat))) (vs : List Value), (∀ a ∈ rs, a ≠ none) → outs rs vs = [] := by
      intro rs
      induction rs with
      | nil => intro vs _; rfl
      | cons a rs ih =>
        intro vs h
        cases a with
        | none => exact (h none (List.mem_cons_self ..) rfl).elim
        | some a =>
          cases vs with
          | nil => rfl
          | cons v vs => exact ih vs fun b hb => h b (List.mem_cons_of_mem _ hb)
    rw [List.take_zero]; exact this rs vs hr
  | n + 1, [] => rfl
  | n + 1, v :: vs => by
    show v :: outs (nones n rs) vs = _
    rw [outs_nones hr n vs, List.take_succ_cons]
theorem roots_some {avs : List (XV τ)} : ∀ {js : List Nat} {rs : List (Option (Option Nat))}, roots avs js = some rs → ∀ a ∈ rs, a ≠ none
  | [], rs, e, a, ha => by cases e; cases ha
  | j :: js, rs, e, a, ha => by
    unfold roots at e
    split at e
    · rename_i rs' h1
      split at e
      · cases e
        rcases List.mem_cons.1 ha with rfl | ha
        · simp
        · exact roots_some h1 a ha
      · cases e
        rcases List.mem_cons.1 ha with rfl | ha
        · simp
        · exact roots_some h1 a ha
      · cases e
    · cases e
theorem rids_mem : ∀ {rs : List (Option (Option Nat))} {i : Nat}, some (some i) ∈ rs → i ∈ rids rs
  | a :: rs, i, h => by
    rcases List.mem_cons.1 h with e | h
    · subst e; exact List.mem_cons_self ..
    · have := rids_mem h
      cases a with
      | none => exact this
      | some a =>
        cases a with
        | none => exact this
        | some j => exact List.mem_cons_of_mem _ this
theorem roots_ok {avs : List (XV τ)} {vs : List Value} (hl : vs.length = avs.length) (hv : ∀ (i : Nat) (A : XV τ) (v : Value), avs[i]? = some A → vs[i]? = some v → XOk P G h ν A v) :
    ∀ {js : List Nat} {rs : List (Option (Option Nat))}, roots avs js = some rs → nod (rids rs) = true → (∀ i ∈ rids rs, lk L i = .gone) → RootsOk L ν rs (js.map fun j => vs.getD j undef)
  | [], rs, e, _, _ => by cases e; trivial
  | j :: js, rs, e, hn, hg => by
    unfold roots at e
    split at e
    · rename_i rs' h1
      split at e
      · rename_i id hj
        cases e
        simp only [rids, nod, Bool.and_eq_true, Bool.not_eq_true'] at hn
        rw [nthL_eq] at hj
        have hlt : j < vs.length := by rw [hl]; exact (List.getElem?_eq_some_iff.1 hj).1
        have hvj : vs[j]? = some (vs.getD j undef) := by rw [List.getD_eq_getElem?_getD, List.getElem?_eq_getElem hlt]; rfl
        obtain ⟨u, q, hν, he, _⟩ := hv j _ _ hj hvj
        refine ⟨hg id (List.mem_cons_self ..), ⟨q, ?_⟩, fun hm => ?_, roots_ok hl hv h1 hn.2 fun i hi => hg i (List.mem_cons_of_mem _ hi)⟩
        · show ν id = some (vs.getD j undef, q)
          rw [he, hν]; cases u <;> rfl
        · rw [mem_any.2 (rids_mem hm)] at hn; cases hn.1
      · rename_i hj
        cases e
        rw [nthL_eq] at hj
        have hlt : j < vs.length := by rw [hl]; exact (List.getElem?_eq_some_iff.1 hj).1
        have hvj : vs[j]? = some (vs.getD j undef) := by rw [List.getD_eq_getElem?_getD, List.getElem?_eq_getElem hlt]; rfl
        exact ⟨hv j _ _ hj hvj, roots_ok hl hv h1 hn hg⟩
      · cases e
    · cases e
theorem rootsN_ok {rs : List (Option (Option Nat))} : ∀ {n : Nat} {vs : List Value}, RootsOk L ν rs (vs.drop n) → RootsOk L ν (nones n rs) vs
  | 0, vs, h => by rw [List.drop_zero] at h; exact h
  | n + 1, [], h => trivial
  | n + 1, v :: vs, h => rootsN_ok (n := n) (vs := vs) (by simpa using h)
theorem tupX_ok {l : List (XV τ)} {v : XV τ} {vs : List Value} (e : tupX l = some v) (h1 : XsOk P G h ν l vs) : XOk P G h ν v (retV vs) := by
  have hgo : ∀ {l : List (XV τ)} {ts : List (Bool × List (CV τ))} {vs : List Value}, tupX.go l = some ts → XsOk P G h ν l vs → TVs P G h ν ts vs := by
    intro l
    induction l with
    | nil => intro ts vs e h1; cases e; exact h1
    | cons x l ih =>
      intro ts vs e h1
      obtain ⟨v, us, rfl, h2, h3⟩ := h1
      unfold tupX.go at e
      split at e
      · cases ‹_ :: _ = []›
      · rename_i heq
        cases heq
        split at e
        · rename_i l' hl'
          cases e
          exact ⟨v, us, rfl, h2, ih hl' h3⟩
        · cases e
      · rename_i heq
        cases heq
        split at e
        · rename_i l' hl'
          cases e
          obtain ⟨ws, rfl, h4⟩ := h2
          exact ⟨ws, us, rfl, h4, ih hl' h3⟩
        · cases e
      · cases e
  unfold tupX at e
  split at e
  · cases e
    obtain ⟨u, us, rfl, h2, h3⟩ := h1
    cases h3
    exact h2
  · cases e; cases h1
    exact ⟨[], rfl, rfl⟩
  · rename_i hne1 hne2
    split at e
    · rename_i ts hts
      cases e
      have := hgo hts h1
      have hr : retV vs = .tuple ⟨vs⟩ := by
        cases l with
        | nil => exact (hne2 rfl).elim
        | cons x l =>
          cases l with
          | nil => exact (hne1 _ rfl).elim
          | cons y l =>
            obtain ⟨v, us, rfl, _, v', us', rfl, _⟩ := h1
            rfl
      rw [hr]
      exact ⟨vs, rfl, this⟩
    · cases e
theorem gones_ky (l : List Nat) : kys (gones (τ := τ) l) = l := by
  induction l with
  | nil => rfl
  | cons i l ih => exact congrArg (i :: ·) ih
theorem gones_lk (l : List Nat) (Z : Hp τ) {i : Nat} (hi : i ∈ l) : lk (gones l ++ Z) i = .gone := by
  induction l with
  | nil => cases hi
  | cons j l ih =>
    by_cases e : i = j
    · subst e; exact lk_cons_self ..
    · have : lk (gones (j :: l) ++ Z) i = lk (gones l ++ Z) i := lk_cons_ne _ _ e
      rw [this]
      exact ih ((List.mem_cons.1 hi).resolve_left e)
end
end Go.Rk
end
section
namespace Go.Rk
open Go.RowKit Go.Dm Go.Dk
variable {τ : Nat → Type}
section
variable {ρ : Type} {X : Cx τ} {w0 w w' : World} {h0 h h' H : Fz} {F : List Nat} {o : Oper} {E : EnvX τ} {L L2 : Hp τ} {ν ν' : Vn τ} {φ φ' : Nat → List Nat} {nid nid' : Nat} {K : Nx τ ρ} {r : ρ} {v : XV τ} {U : Hp τ} {tch : List Nat} {g : List (XV τ)}
variable {a : Act} {x y z : Operand} {t' t ty u' : Nat} {dst : Option Nat} {p : String} {af : Array Edge} {gd : Option (Nat × Bool)}
theorem evXs_len : ∀ {args : List Operand} {avs : List (XV τ)}, evXs E args = some avs → avs.length = args.length ∧ ∀ (i : Nat) (A : XV τ), avs[i]? = some A → ∃ z, args[i]? = some z ∧ evX E z = some A
  | [], avs, e => by cases e; exact ⟨rfl, fun i A h => by simp at h⟩
  | z :: args, avs, e => by
    unfold evXs at e
    split at e
    · rename_i A hA
      split at e
      · rename_i As hAs
        cases e
        obtain ⟨h1, h2⟩ := evXs_len hAs
        refine ⟨by simp [h1], fun i B hB => ?_⟩
        cases i with
        | zero => simp at hB; subst hB; exact ⟨z, rfl, hA⟩
        | succ i => exact h2 i B hB
      · cases e
    · cases e
theorem ex_callE {f : Nat} {args : Array Operand} {vs : List Value} {ats : Array TypeId} (hfn : Callable X.P f) (hv : a.eval x = .func (.func f) #[] #[]) (hargs : args.map a.eval = vs.toArray) :
    (execOp a.eval { dst := dst, op := .call { callee := .value x, args := args, argTypes := ats }, type := t, pos := p, after := af, guard := gd }).run X.P w = .ok (.enter f vs.toArray) w := by
  obtain ⟨fn, hfn, hbody, hname⟩ := hfn
  simp only [execOp, resolve, hargs]
  rw [hv]
  simp only [Deferred.ofValue]
  have hb : ¬ fn.body = none := by intro e; rw [e] at hbody; cases hbody
  have hn : ¬ fn.name = "runtime.NumGoroutine" := by intro e; rw [e] at hname; cases hname
  simp [invoke, callFunc, hfn, hn, hb]
theorem Mem.called (M : Mem X.P X.G w0 h0 F L2 w ν h φ) {l m : List Nat} {Z : Hp τ} {h2 : Fz} {fp' : List Nat} (hl : Left (lend h w (fps φ m)) w (fps φ l) h' w' fp') (hlm : ∀ i ∈ l, i ∉ m) (ha : ∀ i ∈ l ++ m, lk L2 i = lk L i)
    (hz : (Rk.freeze L m = some Z ∧ h2 = h') ∨ (Z = [] ∧ h2 = h)) : ∃ φ', Mem X.P X.G w0 h0 F ((gones l ++ Z) ++ L2) w' ν h2 φ' ∧ Free w0 h2 F φ' fp' := by
  have hH := M.lend_le m
  have hHon := lend_on (h := h) (bs := fps φ m) M.on
  have hlh : ∀ b ∈ fps φ l, h b = none := fun b hb => by obtain ⟨i, _, hi⟩ := mem_fps.1 hb; exact (M.out i b hi).1
  have hmem : ∀ b, lend h w (fps φ m) b ≠ none → h b ≠ none ∨ b ∈ fps φ m := by
    intro b hb
    by_cases e : b ∈ fps φ m
    · exact .inr e
    · rw [lend_out e] at hb; exact .inl hb
  have hfree : ∀ {φ' : Nat → List Nat} {h2 : Fz}, (∀ i b, b ∈ φ' i → b ∈ φ i ∧ i ∉ l) → (∀ b, h2 b ≠ none → h' b ≠ none) → Free w0 h2 F φ' fp' := by
    intro φ' h2 h1 h3 b hb
    obtain ⟨g1, g2⟩ := hl.own b hb
    refine ⟨fun i hi => ?_, ?_, ?_⟩
    · obtain ⟨h5, h6⟩ := h1 i b hi
      rcases g2 with g2 | g2
      · obtain ⟨j, hj, hbj⟩ := mem_fps.1 g2
        exact h6 (M.dis i j b h5 hbj ▸ hj)
      · have := M.lt h5; omega
    · cases e : h2 b with
      | none => rfl
      | some o => exact (h3 b (by rw [e]; simp) g1).elim
    · rcases g2 with g2 | g2
      · obtain ⟨j, _, hbj⟩ := mem_fps.1 g2; exact (M.out j b hbj).2
      · exact .inr (Nat.le_trans M.size g2)
  rcases hz with ⟨hf, rfl⟩ | ⟨rfl, rfl⟩
  · obtain ⟨hk, hlz⟩ := freeze_lk hf
    have hin : ∀ i, i ∉ l ++ m → lk ((gones l ++ Z) ++ L2) i = lk L2 i := fun i hi => lk_app_out _ (by
      simp only [kys, List.map_append]
      intro hc
      rcases List.mem_append.1 hc with hc | hc
      · exact hi (List.mem_append_left _ (by rw [← gones_ky (τ := τ) l]; exact hc))
      · exact hi (List.mem_append_right _ (by rw [← hk]; exact hc)))
    have hlk : ∀ i ∈ l ++ m, lk ((gones l ++ Z) ++ L2) i = lk (gones l ++ Z) i := fun i hi => lk_app_in _ (by
      simp only [kys, List.map_append]
      rcases List.mem_append.1 hi with hi | hi
      · exact List.mem_append_left _ (by have := gones_ky (τ := τ) l; rw [kys] at this; rw [this]; exact hi)
      · exact List.mem_append_right _ (by rw [kys] at hk; rw [hk]; exact hi))
    have hlkm : ∀ i ∈ m, lk (gones l ++ Z) i = lk Z i := fun i hi => by
      rw [lk_app_out]
      rw [gones_ky]
      exact fun hc => hlm i hc hi
    refine ⟨offs1 φ (l ++ m), ?_, hfree (fun i b hb => ?_) (fun b hb => hb)⟩
    · refine M.upd (l ++ m) hin (fun i hi => offs1_out hi) (Vn.le.refl _) (hH.trans hl.le) hl.os hl.tape hl.output hl.size (fun b hb hc => hl.frame b hb fun hd => hc (by rw [fps_append]; exact List.mem_append_left _ hd))
        (fun b o _ e => hl.on b o e) (fun b e1 e2 => ?_) (fun i hi => ?_) (fun i hi b hb => by rw [offs1_in hi] at hb; cases hb) (fun i hi j _ b hb => by rw [offs1_in hi] at hb; cases hb)
      · rcases hl.new b e2 with h1 | h1 | h1
        · rcases hmem b h1 with h2 | h2
          · exact (h2 e1).elim
          · exact .inl (by rw [fps_append]; exact List.mem_append_right _ h2)
        · exact .inl (by rw [fps_append]; exact List.mem_append_left _ h1)
        · exact .inr h1
      · rw [hlk i hi, offs1_in hi]
        by_cases hil : i ∈ l
        · rw [gones_lk l Z hil]; rfl
        · have him : i ∈ m := (List.mem_append.1 hi).resolve_left hil
          rw [hlkm i him]
          obtain ⟨e', xs, h1, h2⟩ := hlz i him
          rw [h1]
          have hr := M.res i
          rw [ha i hi] at hr
          rcases h2 with ⟨te, k, h2⟩ | h2
          · rw [h2] at hr
            obtain ⟨v, q, vs, u, h3, h4, h5, h6, _⟩ := hr
            refine ⟨v, q, h3, rfl, row_rp (w := w) (hH.trans hl.le) h5 h6 fun b hb => ?_⟩
            have hbm : b ∈ fps φ m := mem_fps.2 ⟨i, him, by rw [h4]; exact hb⟩
            have hlt := row_lt h5 hb
            have : lend h w (fps φ m) b = some w.heap[b] := by rw [lend_in hbm]; exact Array.getElem?_eq_getElem hlt
            rw [hl.le _ _ this]; exact (Array.getElem?_eq_getElem hlt).symm
          · rw [h2] at hr
            obtain ⟨v, q, h3, _, h4⟩ := hr
            exact ⟨v, q, h3, rfl, h4.le (hH.trans hl.le)⟩
    · by_cases hi : i ∈ l ++ m
      · rw [offs1_in hi] at hb; cases hb
      · rw [offs1_out hi] at hb; exact ⟨hb, fun hc => hi (List.mem_append_left _ hc)⟩
  · have hin : ∀ i, i ∉ l → lk ((gones l ++ []) ++ L2) i = lk L2 i := fun i hi => lk_app_out _ (by rw [List.append_nil, gones_ky]; exact hi)
    refine ⟨offs1 φ l, ?_, hfree (fun i b hb => ?_) (fun b hb => ?_)⟩
    · refine M.upd l hin (fun i hi => offs1_out hi) (Vn.le.refl _) (Fz.le.refl _) hl.os hl.tape hl.output hl.size (fun b hb hc => hl.frame b hb hc)
        (fun b o e1 e2 => by rw [e1] at e2; cases e2) (fun b e1 e2 => (e2 e1).elim) (fun i hi => ?_) (fun i hi b hb => by rw [offs1_in hi] at hb; cases hb) (fun i hi j _ b hb => by rw [offs1_in hi] at hb; cases hb)
      rw [offs1_in hi, lk_app_in _ (by rw [List.append_nil, gones_ky]; exact hi), gones_lk l [] hi]; rfl
    · by_cases hi : i ∈ l
      · rw [offs1_in hi] at hb; cases hb
      · rw [offs1_out hi] at hb; exact ⟨hb, hi⟩
    · cases e : h2 b with
      | none => exact (hb e).elim
      | some o => rw [hl.le _ _ (hH _ _ e)]; simp
theorem bcT {α : Type} {x y : α} : bc true x y = x := rfl
theorem bcF {α : Type} {x y : α} : bc false x y = y := rfl
theorem callX_ok {f : Nat} {args : List Operand} {avs : List (XV τ)} {ats : Array TypeId} (hx : evC E x = some (.fn f)) (hargs : evXs E args = some avs) : ∀ {cs : Cons τ}, (∀ q ∈ cs, COk X.P X.G q.1 q.2) → callX X L nid K f avs cs = some r →
    Does X w0 h0 F ⟨dst, .call ⟨.value x, ⟨args⟩, ats⟩, t, p, af, gd⟩ E L nid K r
  | [], _, e => by cases e
  | (g, k) :: cs, hC, e => by
    have ih : callX X L nid K f avs cs = some r → Does X w0 h0 F ⟨dst, .call ⟨.value x, ⟨args⟩, ats⟩, t, p, af, gd⟩ E L nid K r := callX_ok hx hargs fun q hq => hC q (List.mem_cons_of_mem _ hq)
    unfold callX at e
    cases hg : Nat.beq g f with
    | false => rw [hg, bcF] at e; exact ih e
    | true =>
      rw [hg, bcT] at e
      have hgf : g = f := by simpa using hg
      subst hgf
      split at e
      · rename_i pp l m hres
        cases hn : (nod l && disj l m) with
        | false => rw [hn, bcF] at e; exact ih e
        | true =>
          rw [hn, bcT] at e
          simp only [Bool.and_eq_true] at hn
          split at e
          · rename_i Z hZ
            split at e
            · rename_i rs hrs
              obtain ⟨hroots, e⟩ := bc_t e
              simp only [Bool.and_eq_true, List.all_eq_true] at hroots
              obtain ⟨R, hR, e⟩ := ob e
              obtain ⟨outl, U, nid', h1, h2, _, h4⟩ := resK_ok (P := X.P) (w0 := w0) (h0 := h0) (F := F) _ _ _ _ _ e
              split at h1
              · rename_i v hv
                refine ⟨_, _, _, _, _, h1, h2, fun z hz => by rw [List.mem_singleton.1 hz]; rfl, fun L2 ν h φ a w next Q hd M hE ha hfr kk => ?_⟩
                obtain ⟨hcall, hok⟩ := hC _ (List.mem_cons_self ..)
                obtain ⟨hlen, hidx⟩ := evXs_len hargs
                have hdis := disj_spec hn.2
                -- the arguments' values
                have hvs : ∀ (i : Nat) (A : XV τ) (v : Value), avs[i]? = some A → (args.map a.eval)[i]? = some v → XOk X.P X.G h ν A v := by
                  intro i A v hA hv
                  obtain ⟨z, hz, hzA⟩ := hidx i A hA
                  rw [List.getElem?_map, hz] at hv
                  cases hv
                  exact ev_ok hd (hE.op (by simp only [Op.operands, Call.operands]; simp; exact .inr (List.mem_of_getElem? hz))) hzA
                have hH := M.lend_le m
                have hlook : LookAt L2 L φ (lend h w (fps φ m)) w m := M.look fun i hi => ha i (List.mem_append_right _ hi)
                have htr := resXs_ok M hH hres (fun i hi => ha i (List.mem_append_left _ hi)) hlook hn.1 (by simp [hlen]) hvs
                have hnone : ∀ b ∈ fps φ l, lend h w (fps φ m) b = none := by
                  intro b hb
                  rw [lend_out (M.fps_dis hdis b hb)]
                  obtain ⟨i, _, hi⟩ := mem_fps.1 hb
                  exact (M.out i b hi).1
                have hcalls := hok _ w pp R (args.map a.eval) _ (M.gl.le hH) M.fp (lend_on M.on) htr hnone hR
                obtain ⟨Ea, hf, hl'⟩ := envA a hd
                obtain ⟨vx, g1, g2⟩ := evC_of hl' (hE.op (by simp [Op.operands, Call.operands])) hx
                obtain rfl : vx = _ := g2
                have hexec := ex_callE (X := X) (w := w) (dst := dst) (t := t) (p := p) (af := af) (gd := gd) (ats := ats) (args := ⟨args⟩) (vs := args.map a.eval) hcall (hf.ev g1) (by simp)
                unfold Oper.wp
                rw [hexec]
                refine Calls.mono hcalls ?_
                rintro e1 w' ⟨h', rvs, fp', rfl, hleft, hres', hback⟩
                have hzz : (freeze L m = some Z ∧ (if k.rs.any (shows X.G depth) = true then h' else h) = h') ∨ (Z = [] ∧ (if k.rs.any (shows X.G depth) = true then h' else h) = h) := by
                  cases hs : k.rs.any (shows X.G depth) with
                  | true => rw [hs] at hZ; exact .inl ⟨hZ, by simp⟩
                  | false => rw [hs] at hZ; cases hZ; exact .inr ⟨rfl, by simp⟩
                obtain ⟨φ', M', hfree⟩ := Mem.called (Z := Z) M hleft hdis ha hzz
                have hres2 : TrXs X.P X.G (if k.rs.any (shows X.G depth) = true then h' else h) w' k.rs R rvs fp' := by
                  cases hs : k.rs.any (shows X.G depth) with
                  | true => simpa using hres'
                  | false => simpa using unshowXs (h' := h) hres' hs
                have hgl : ∀ i ∈ rids rs, lk ((gones l ++ Z) ++ L2) i = .gone := by
                  intro i hi
                  have hil : i ∈ l := mem_any.1 (hroots.2 i hi)
                  rw [lk_app_in, gones_lk l Z hil]
                  simp only [kys, List.map_append]
                  exact List.mem_append_left _ (by have := gones_ky (τ := τ) l; rw [kys] at this; rw [this]; exact hil)
                have hRo : RootsOk ((gones l ++ Z) ++ L2) ν (nones k.nr rs) rvs := rootsN_ok (by
                  rw [hback]
                  exact roots_ok (P := X.P) (G := X.G) (h := h) (by simp [hlen]) hvs hrs hroots.1 hgl)
                obtain ⟨ν', φ'', A, hxs⟩ := h4 _ w' ν _ φ' rvs fp' M' hres2 hfr hfree hRo
                rw [outs_nones (roots_some hrs)] at hxs
                have hle2 : h.le (if k.rs.any (shows X.G depth) = true then h' else h) := by
                  split
                  · exact hH.trans hleft.le
                  · exact Fz.le.refl _
                exact kk ν' _ φ'' w' _ (by rw [List.append_assoc]; exact A.mem) A.le hle2 A.fresh (tupX_ok hv hxs)
              · cases h1
            · cases e
          · cases e
      · exact ih e
theorem fm_ok {m : UInt8 → Option Bool} {c : UInt8} {b : Bool} {ats : Array TypeId} (hf : evC E x = some (.fm m)) (hy : evC E y = some (.u8 c)) (hm : m c = some b) (k : K (.c (.b b)) [] [] [] nid = some r) : Does X w0 h0 F ⟨dst, .call ⟨.value x, ⟨[y]⟩, ats⟩, t, p, af, gd⟩ E L nid K r := by
  refine ⟨_, _, _, _, _, k, Nat.le_refl _, (fun _ h => by cases h), fun L2 ν h φ a w next Q hd M hE ha hn k => ?_⟩
  obtain ⟨Ea, hfi, hl'⟩ := envA a hd
  obtain ⟨vf, g1, g2⟩ := evC_of hl' (hE.op (by simp [Op.operands, Call.operands])) hf
  obtain ⟨vy, g3, g4⟩ := evC_of hl' (hE.op (by simp [Op.operands, Call.operands])) hy
  obtain rfl : vy = _ := g4
  have g2 : Rp X.P X.G h .fn m vf := g2
  cases g2 with
  | fn _ f hfn =>
    have hexec := ex_callE (X := X) (w := w) (dst := dst) (t := t) (p := p) (af := af) (gd := gd) (ats := ats) (args := ⟨[y]⟩) (vs := [byte c]) hfn.1 (hfi.ev g1) (by simp [hfi.ev g3])
    unfold Oper.wp
    rw [hexec]
    refine Calls.mono (hfn.2 c b w hm) ?_
    rintro e w' ⟨rfl, hb⟩
    exact k ν h φ w' _ (M.grow hb) (Vn.le.refl _) (Fz.le.refl _) (Fresh.refl _ _ _) rfl
theorem conv_i {n m : Int} {us : TypeDesc} (hx : evC E x = some (.i n)) (ht : X.P.underlying t' = some (.int .i64)) (hs : X.P.underlying ty = some us) (hr : iConv n = some m) (k : K (.c (.i m)) [] [] [] nid = some r) : Does X w0 h0 F ⟨dst, .convert ty t' x, t, p, af, gd⟩ E L nid K r := by
  refine does_pure k fun L2 ν h φ a w hd M hE ha => ?_
  obtain ⟨Ea, hf, hl'⟩ := envA a hd
  obtain ⟨vx, h1, h2⟩ := evC_of hl' (hE.op (by simp [Op.operands])) hx
  obtain rfl : vx = _ := h2
  exact ⟨_, ex_conv_p ht hs hf h1 hr, rfl⟩
theorem len_os {id e : Nat} {n : Nat} (hx : evC E x = some (.os id)) (hu : elO X.P t' = some e) (k : K (.c (.i (n : Int))) [] [] [id] nid = some r) (hn : (∃ te e xs kk, lk L id = .row te e xs kk ∧ xs.length = n) ∨ (∃ e xs, lk L id = .fz e xs ∧ xs.length = n)) :
    Does X w0 h0 F ⟨dst, .call ⟨.builtin .len, ⟨[x]⟩, ⟨[t']⟩⟩, t, p, af, gd⟩ E L nid K r := by
  refine does_pure k fun L2 ν h φ a w hd M hE ha => ?_
  obtain ⟨Ea, hf, hl'⟩ := envA a hd
  obtain ⟨vx, h1, h2⟩ := evC_of hl' (hE.op (by simp [Op.operands, Call.operands])) hx
  obtain ⟨ad, m, cp, q, hν, rfl⟩ := h2
  have hm : m = n := by
    have hr := M.res id
    rw [ha id (List.mem_singleton.2 rfl)] at hr
    rcases hn with ⟨te, e, xs, kk, hl, rfl⟩ | ⟨e, xs, hl, rfl⟩
    · rw [hl] at hr
      obtain ⟨v', q', vs, u, h3, h4, h5, _⟩ := hr
      rw [hν] at h3
      cases h3
      obtain ⟨_, ⟨e, hz⟩ | ⟨g, cap, cur, e, _⟩⟩ := h5
      · cases e; exact hz.symm
      · cases e; rfl
    · rw [hl] at hr
      obtain ⟨v', q', h3, _, h4⟩ := hr
      rw [hν] at h3
      cases h3
      cases h4; rfl
  subst hm
  exact ⟨_, ex_len_l (elO_ok hu) hf h1, rfl⟩
theorem opX_ok (hT : TyOk X) (hC : ∀ q ∈ X.cs, COk X.P X.G q.1 q.2) (e : opX X E L nid K o.op = some r) : Does X w0 h0 F o E L nid K r := by
  obtain ⟨dst, op, t, p, af, gd⟩ := o
  dsimp only at e
  unfold opX at e
  split at e
  · rename_i v hv
    exact does_pure e fun L2 ν h φ a w hd M hE ha => opP_ok hT hd M.on hE hv
  · split at e
    · split at e
      · rename_i A hA
        split at e
        · rename_i B hB
          split at e
          · split at e
            · rename_i hu
              exact en_does hu hA hB (fun _ _ _ _ => rfl) e
            · cases e
          · exact opI_ok hA hB e
        · cases e
      · cases e
    · split at e
      · rename_i hx
        exact nc_does hx (fun _ _ _ => rfl) e
      · cases e
    · split at e
      · rename_i hf
        split at e
        · rename_i hx
          exact fa_does hf hx (fun _ _ _ => rfl) e
        · cases e
      · cases e
    · split at e
      · rename_i hu
        split at e
        · rename_i hx
          split at e
          · rename_i hy
            obtain ⟨z, hz, e⟩ := ob e
            exact sAt_does hu hx hy hz e
          · cases e
        · cases e
      · cases e
    · split at e
      · rename_i hu
        split at e
        · rename_i l hx
          split at e
          · split at e
            · rename_i hy
              split at e
              · rename_i hz
                obtain ⟨s, hs, e⟩ := ob e
                refine sSlice_does hx (fun hf hl hE h1 => ?_) e
                obtain ⟨vy, h2, h3⟩ := evC_of hl (hE.op (by simp [Op.operands])) hy
                obtain ⟨vz, h4, h5⟩ := evC_of hl (hE.op (by simp [Op.operands])) hz
                obtain rfl : vy = _ := h3
                obtain rfl : vz = _ := h5
                exact ex_sub_s hu hf h1 h2 h4 hs
              · cases e
            · cases e
          · split at e
            · rename_i hy
              obtain ⟨s, hs, e⟩ := ob e
              refine sSlice_does hx (fun hf hl hE h1 => ?_) e
              obtain ⟨vy, h2, h3⟩ := evC_of hl (hE.op (by simp [Op.operands])) hy
              obtain rfl : vy = _ := h3
              exact ex_from_s hu hf h1 h2 hs
            · cases e
          · split at e
            · rename_i hz
              obtain ⟨s, hs, e⟩ := ob e
              refine sSlice_does hx (fun hf hl hE h1 => ?_) e
              obtain ⟨vz, h4, h5⟩ := evC_of hl (hE.op (by simp [Op.operands])) hz
              obtain rfl : vz = _ := h5
              exact ex_to_s hu hf h1 h4 hs
            · cases e
          · exact sSlice_does hx (fun hf hl hE h1 => ex_all_s hu hf h1) e
        · cases e
      · rename_i te hu
        split at e
        · rename_i c hx
          split at e
          · rename_i e' l U ids hs
            obtain ⟨hsz, e⟩ := bc_t e
            obtain ⟨hsz, _⟩ := szE_ok hsz
            split at e
            · split at e
              · rename_i hy
                split at e
                · rename_i hz
                  obtain ⟨s, hr, e⟩ := ob e
                  exact slice3 hu hx hs hsz hy hz hr e
                · cases e
              · cases e
            · split at e
              · rename_i hy
                obtain ⟨s, hr, e⟩ := ob e
                exact slice1 hu hx hs hsz hy hr e
              · cases e
            · split at e
              · rename_i hz
                obtain ⟨s, hr, e⟩ := ob e
                exact slice2 hu hx hs hsz hz hr e
              · cases e
            · cases e
          · cases e
        · cases e
      · cases e
    · split at e
      · rename_i hx
        split at e
        · rename_i hs
          split at e
          · rename_i hd'
            obtain ⟨m, hm, e⟩ := ob e
            exact conv_i hx hd' hs hm e
          · cases e
        · cases e
      · rename_i hx
        split at e
        · rename_i hs
          split at e
          · rename_i hd'
            split at e
            · rename_i he
              exact bytes_ok hx hs hd' he e
            · cases e
          · cases e
        · cases e
      · rename_i hx
        split at e
        · rename_i hd'
          split at e
          · rename_i hs
            split at e
            · rename_i he
              split at e
              · rename_i hr
                exact str_ok hx hd' hs he hr e
              · cases e
            · cases e
          · cases e
        · cases e
      · cases e
    · split at e
      · rename_i hz
        exact alloc_ok hz e
      · cases e
    · split at e
      · rename_i hA
        split at e
        · rename_i hc
          exact box_ok hA hc e
        · cases e
      · cases e
    · split at e
      · rename_i hx
        exact loadX_ok hx e
      · cases e
    · split at e
      · rename_i A hA
        split at e
        · rename_i vs hc
          split at e
          · rename_i n hn
            obtain ⟨hl, e⟩ := bc_t e
            have hl : vs.length = n := by simpa using hl
            split at e
            · rename_i c hx
              unfold storeX at e
              split at e
              · split at e
                · rename_i hlk
                  split at e
                  · rename_i hp
                    exact storeB_ok hA hc hn hl hx hlk hp e
                  · cases e
                · cases e
              · split at e
                · rename_i hlk
                  have hk := Nat.eq_of_beq_eq_true (bc_t e).1
                  replace e := (bc_t e).2
                  subst hk
                  split at e
                  · rename_i hp
                    split at e
                    · rename_i hq
                      split at e
                      · rename_i hz
                        split at e
                        · rename_i hU
                          obtain ⟨hid, e⟩ := bc_f e
                          obtain ⟨l, hs, e⟩ := ob e
                          exact storeR_ok hA hc hn hl hx hlk hp hq hz hU hid hs e
                        · cases e
                      · cases e
                    · cases e
                  · cases e
                · cases e
              · cases e
            · cases e
          · cases e
        · cases e
      · cases e
    · split at e
      · rename_i te hel
        split at e
        · rename_i m hy
          split at e
          · rename_i e' xs hx
            obtain ⟨hsz, e⟩ := bc_t e
            obtain ⟨hsz, hpos⟩ := szE_ok hsz
            obtain ⟨d, hd, e⟩ := ob e
            exact ix_ok hT hel hx hy hd hsz hpos e fun _ _ _ _ _ _ _ _ h => h
          · rename_i id hx
            split at e
            · rename_i hlk
              obtain ⟨hsz, e⟩ := bc_t e
              obtain ⟨hsz, hpos⟩ := szE_ok hsz
              obtain ⟨d, hd, e⟩ := ob e
              exact ixo_ok hel hx hy hlk hd hsz hpos e
            · rename_i hlk
              obtain ⟨hsz, e⟩ := bc_t e
              obtain ⟨hsz, hpos⟩ := szE_ok hsz
              obtain ⟨d, hd, e⟩ := ob e
              refine ix_ok hT hel hx hy hd hsz hpos e fun L2 ν h φ w u M ha hu => ?_
              obtain ⟨ad, n, cp, q, hν, rfl⟩ := hu
              have hr := M.res id
              rw [ha id (List.mem_singleton.2 rfl), hlk] at hr
              obtain ⟨v', q', h3, _, h4⟩ := hr
              rw [hν] at h3
              cases h3
              exact h4
            · cases e
          · cases e
        · cases e
      · cases e
    · split at e
      · rename_i hel
        split at e
        · rename_i hte
          split at e
          · rename_i hx
            obtain ⟨hb, e⟩ := bc_t e
            simp only [Bool.and_eq_true, Nat.beq_eq, Nat.ble_eq] at hb
            split at e
            · rename_i hU
              exact bs_ok hT hel hte hx hb.1 hb.2 hU e
            · cases e
          · cases e
        · cases e
      · cases e
    · split at e
      · rename_i id hx
        split at e
        · rename_i hu
          split at e
          · rename_i hl
            exact len_os hx hu e (.inl ⟨_, _, _, _, hl, rfl⟩)
          · rename_i hl
            exact len_os hx hu e (.inr ⟨_, _, hl, rfl⟩)
          · cases e
        · cases e
      · cases e
    · split at e
      · rename_i te hel
        split at e
        · rename_i e' hte
          split at e
          · rename_i hx
            split at e
            · rename_i hA
              split at e
              · rename_i hy
                split at e
                · rename_i hu
                  split at e
                  · rename_i hl
                    obtain ⟨hb, e⟩ := bc_t e
                    obtain ⟨hfit, e⟩ := og e
                    exact appendS_ok hel hx hA hy hu hl hb hfit e
                  · cases e
                · cases e
              · rename_i hy
                have hb := Nat.eq_of_beq_eq_true (bc_t e).1
                replace e := (bc_t e).2
                subst hb
                exact app0_ok hT hel hel hte hx hA hy e rfl
              · rename_i hy
                split at e
                · rename_i hB
                  have hb := (bc_t e).1
                  replace e := (bc_t e).2
                  simp only [Bool.and_eq_true, Nat.beq_eq] at hb
                  obtain ⟨hdj, rfl⟩ := hb
                  obtain ⟨hfit, e⟩ := og e
                  exact appendR_ok hT hel hel hte hx hA hy hB hdj hfit e rfl
                · cases e
              · cases e
            · cases e
          · cases e
        · cases e
      · cases e
    · split at e
      · rename_i hx
        split at e
        · rename_i hargs
          exact callX_ok hx hargs hC e
        · cases e
      · rename_i hf
        split at e
        · split at e
          · rename_i hy
            obtain ⟨b, hb, e⟩ := ob e
            exact fm_ok hf hy hb e
          · cases e
        · cases e
      · cases e
    · cases e
end
end Go.Rk
end
section
namespace Go.Rk
open Go.RowKit Go.Dm Go.Dk
variable {τ : Nat → Type}
section
variable {ρ : Type} {X : Cx τ} {w0 w w' : World} {h0 h h' : Fz} {F : List Nat} {o : Oper} {E E' E'' : EnvX τ} {L L2 : Hp τ} {ν ν' : Vn τ} {φ φ' : Nat → List Nat} {nid nid' : Nat} {r : ρ} {a : Act}
def EnvOk (X : Cx τ) (h : Fz) (ν : Vn τ) (a : Act) (E : EnvX τ) : Prop := ∀ t x, asc E t = some x → SlotOk X h ν a t x
theorem EnvOk.on (hE : EnvOk X h ν a E) (l : List Nat) : EnvOn X h ν a l E := fun t _ x e => hE t x e
theorem SlotOk.le (hh : h.le h') (hν : ν.le ν') {t : Nat} {x : XV τ} (hs : SlotOk X h ν a t x) : SlotOk X h' ν' a t x :=
  let ⟨v, h1, h2⟩ := hs; ⟨v, h1.le hh hν, h2⟩
def Ref (E E' : EnvX τ) : Prop := ∀ t x, asc E' t = some x → asc E t = some x ∨ ∃ b, x = .c (.k b) ∧ asc E t = some (.c (.b b))
theorem Ref.refl (E : EnvX τ) : Ref E E := fun _ _ e => .inl e
theorem SlotOk.ref {t : Nat} {b : Bool} (hs : SlotOk X h ν a t (.c (.b b))) : SlotOk X h ν a t (.c (.k b)) := hs
theorem Ref.env (hr : Ref E E') (hE : EnvOk X h ν a E) : EnvOk X h ν a E' := by
  intro t x e
  rcases hr t x e with h1 | ⟨b, rfl, h1⟩
  · exact hE t x h1
  · exact (hE t _ h1).ref
theorem Ref.on {l : List Nat} (hr : Ref E E') (hE : EnvOn X h ν a l E) : EnvOn X h ν a l E' := by
  intro t ht x e
  rcases hr t x e with h1 | ⟨b, rfl, h1⟩
  · exact hE t ht x h1
  · exact (hE t ht _ h1).ref
theorem asc_app {α : Type} : ∀ (U L : List (Nat × α)) (t : Nat), asc (U ++ L) t = match asc U t with
    | some v => some v
    | none => asc L t
  | [], L, t => rfl
  | (k, v) :: U, L, t => by
    simp only [List.cons_append, asc]
    cases Nat.beq k t with
    | true => rfl
    | false => exact asc_app U L t
theorem Ref.app (hr : Ref E E') (N : EnvX τ) : Ref (N ++ E) (N ++ E') := by
  intro t x e
  rw [asc_app] at e ⊢
  cases hn : asc N t with
  | some v => rw [hn] at e; exact .inl e
  | none => rw [hn] at e; exact hr t x e
theorem Ref.known (hr : Ref E E') {s : Nat} {b : Bool} (hb : asc E' s = some (.c (.b b))) : Ref E ((s, .c (.k b)) :: E') := by
  intro t x e
  simp only [asc] at e
  cases hst : Nat.beq s t with
  | true =>
    rw [hst] at e
    cases e
    have : s = t := by simpa using hst
    subst this
    rcases hr s _ hb with h1 | ⟨b', h1, _⟩
    · exact .inr ⟨b, rfl, h1⟩
    · cases h1
  | false => rw [hst] at e; exact hr t x e
theorem Ref.trans (h1 : Ref E E') (h2 : Ref E' E'') : Ref E E'' := by
  intro t x e
  rcases h2 t x e with h3 | ⟨b, rfl, h3⟩
  · exact h1 t x h3
  · rcases h1 t _ h3 with h4 | ⟨b', h4, _⟩
    · exact .inr ⟨b, rfl, h4⟩
    · cases h4
theorem dstO_eq {all : List Oper} {j s : Nat} (e : dstO all j = some s) : (all.toArray[j]?).bind (·.dst) = some s := by
  unfold dstO at e
  split at e
  · rename_i o ho
    rw [nthL_eq] at ho
    simp [ho, e]
  · cases e
theorem guardX_ok {all : List Oper} {g : Option (Nat × Bool)} {run pass : EnvX τ → Option ρ} (e : guardX all E g run pass = some r) :
    ∃ (m : Bool) (E' : EnvX τ), (if m then run E' else pass E') = some r ∧ Ref E E' ∧ ∀ (X : Cx τ) (h : Fz) (ν : Vn τ) (a : Act) (o : Oper), o.guard = g → EnvOn X h ν a (gdR all g) E → Region.wanted o (yielded all.toArray a.tmps) = m := by
  unfold guardX hi at e
  split at e
  · exact ⟨true, E, e, Ref.refl E, fun X h ν a o hg _ => by simp [Region.wanted, hg]⟩
  · rename_i j w
    split at e
    · rename_i s hs
      obtain ⟨hlt, e⟩ := bc_t e
      have hs' := dstO_eq hs
      have hy : ∀ {X : Cx τ} {h : Fz} {ν : Vn τ} {a : Act} {x : XV τ}, EnvOn X h ν a (gdR all (some (j, w))) E → asc E s = some x → isGv x = false → ∃ v, XOk X.P X.G h ν x v ∧ a.tmps[s]? = some v := by
        intro X h ν a x hE hx hg
        obtain ⟨v, h1, h2, _⟩ := hE s (by simp [gdR, hs, hlt]) x hx
        exact ⟨v, h1, h2 hlt hg⟩
      have hb : ∀ {b : Bool} {X : Cx τ} {h : Fz} {ν : Vn τ} {a : Act} {o : Oper}, (asc E s = some (.c (.b b)) ∨ asc E s = some (.c (.k b))) → o.guard = some (j, w) → EnvOn X h ν a (gdR all (some (j, w))) E → Region.wanted o (yielded all.toArray a.tmps) = (b == w) := by
        intro b X h ν a o hx hg hE
        have : a.tmps[s]? = some (.bool b) := by
          rcases hx with hx | hx
          · obtain ⟨v, h1, h2⟩ := hy hE hx rfl; rw [h2, show v = _ from h1]
          · obtain ⟨v, h1, h2⟩ := hy hE hx rfl; rw [h2, show v = _ from h1]
        have hyl : yielded all.toArray a.tmps j = some b := by
          unfold yielded; rw [hs']; simp [this]
        cases b <;> cases w <;> simp [Region.wanted, hg, hyl]
      split at e
      · rename_i hx
        refine ⟨false, E, e, Ref.refl E, fun X h ν a o hg hE => ?_⟩
        obtain ⟨v, h1, h2⟩ := hy hE hx rfl
        have hyl : yielded all.toArray a.tmps j = none := by
          unfold yielded; rw [hs']; simp [h2, show v = undef from h1, undef]
        simp [Region.wanted, hg, hyl]
      · rename_i b hx
        refine ⟨b == w, E, ?_, Ref.refl E, fun X h ν a o hg hE => hb (.inr hx) hg hE⟩
        cases b <;> cases w <;> exact e
      · rename_i b hx
        cases b with
        | true =>
          rw [if_pos rfl] at e
          refine ⟨true == w, _, ?_, (Ref.refl E).known hx, fun X h ν a o hg hE => hb (.inl hx) hg hE⟩
          cases w <;> exact e
        | false =>
          rw [if_neg (by simp)] at e
          refine ⟨false == w, _, ?_, (Ref.refl E).known hx, fun X h ν a o hg hE => hb (.inl hx) hg hE⟩
          cases w <;> exact e
      · cases e
    · cases e

structure St (X : Cx τ) (w0 : World) (h0 : Fz) (F : List Nat) (E : EnvX τ) (L : Hp τ) (nid : Nat) (a : Act) (w : World) : Prop where
  nodef : a.defers = []
  size : a.tmps.size = X.n
  st : ∃ ν h φ, Mem X.P X.G w0 h0 F L w ν h φ ∧ EnvOk X h ν a E ∧ ∀ i, nid ≤ i → ν i = none
theorem St.ref (s : St X w0 h0 F E L nid a w) (hr : Ref E E') : St X w0 h0 F E' L nid a w :=
  ⟨s.nodef, s.size, let ⟨ν, h, φ, M, hE, hn⟩ := s.st; ⟨ν, h, φ, M, hr.env hE, hn⟩⟩
def newE (l : List Oper) (d : Option Nat) (v : XV τ) (g : List (XV τ)) : EnvX τ := putT v (ghost g l d []) d
theorem nextE_eq (l : List Oper) (d : Option Nat) (v : XV τ) (g : List (XV τ)) (E : EnvX τ) : nextE l d v g E = newE l d v g ++ E := by
  unfold nextE newE putT ghost
  cases d with
  | none =>
    cases g with
    | nil => rfl
    | cons x g => cases g <;> rfl
  | some d =>
    cases g with
    | nil => rfl
    | cons x g => cases g <;> rfl
theorem unT_eq (d : Option Nat) (E : EnvX τ) : unT E d = newE [] d .un [] ++ E := by cases d <;> rfl
theorem gv_slot {t : Nat} {x : XV τ} (hg : isGv x = true) : SlotOk X h ν a t x := by
  cases x with
  | gv t' y => exact ⟨if t < 20000 then X.fx (t - gh) else ptr (t - gb) 0, trivial, (fun _ e => by cases e), fun h => if_neg (by unfold gb at h; omega), fun _ h => if_pos h⟩
  | _ => cases hg
theorem newE_ok {l : List Oper} {d : Option Nat} {v : XV τ} {g : List (XV τ)} {u : Value} (hN : X.n ≤ gh) (hd : dOk X.n d = true) (hs : a.tmps.size = X.n) (hg : ∀ x ∈ g, isGv x = true) (hv : XOk X.P X.G h ν v u) (hE : ∀ t x, asc E t = some x → d ≠ some t → SlotOk X h ν a t x) :
    EnvOk X h ν (a.put d u) (newE l d v g ++ E) := by
  have old : ∀ t x, asc E t = some x → d ≠ some t → SlotOk X h ν (a.put d u) t x := by
    intro t x e hne
    obtain ⟨v', h1, h2, h3⟩ := hE t x e hne
    refine ⟨v', h1, fun a1 a2 => ?_, h3⟩
    cases d with
    | none => exact h2 a1 a2
    | some d =>
      have : d ≠ t := fun e => hne (by rw [e])
      simp [Act.put, this, h2 a1 a2]
  have gh_ok : ∀ t x, asc (ghost g l d []) t = some x → SlotOk X h ν (a.put d u) t x := by
    intro t x e
    unfold ghost at e
    split at e
    · rename_i y
      have hy := hg y (List.mem_singleton.2 rfl)
      cases d with
      | none =>
        simp only [asc] at e
        cases hb : Nat.beq (30000 + l.length % 10000) t with
        | true => rw [hb] at e; cases e; exact gv_slot hy
        | false => rw [hb] at e; cases e
      | some d =>
        simp only [asc] at e
        cases hb : Nat.beq (20000 + d) t with
        | true => rw [hb] at e; cases e; exact gv_slot hy
        | false => rw [hb] at e; cases e
    · cases e
  intro t x e
  unfold newE putT at e
  cases d with
  | none =>
    simp only at e
    rw [asc_app] at e
    cases hgt : asc (ghost g l none []) t with
    | some y => rw [hgt] at e; cases e; exact gh_ok t _ hgt
    | none => rw [hgt] at e; exact old t x e (by simp)
  | some d =>
    simp only [List.cons_append, asc] at e
    cases hb : Nat.beq d t with
    | true =>
      rw [hb] at e
      cases e
      have : d = t := by simpa using hb
      subst this
      have hlt : d < X.n := by simpa [dOk] using hd
      refine ⟨u, hv, fun _ _ => ?_, fun hge => ?_, fun hge => ?_⟩
      · simp [Act.put, hs, hlt]
      · exfalso
        unfold gb at hge; unfold gh at hN; omega
      · exfalso; omega
    | false =>
      rw [hb, cond_false, asc_app] at e
      cases hgt : asc (ghost g l (some d) []) t with
      | some y => rw [hgt] at e; cases e; exact gh_ok t _ hgt
      | none =>
        rw [hgt] at e
        refine old t x e ?_
        intro e2
        cases e2
        simp at hb
theorem EnvOk.le (hh : h.le h') (hν : ν.le ν') (hE : EnvOk X h ν a E) : EnvOk X h' ν' a E := fun t x e => (hE t x e).le hh hν
theorem put_size (a : Act) (d : Option Nat) (v : Value) : (a.put d v).tmps.size = a.tmps.size := by cases d <;> simp [Act.put]
theorem put_def (a : Act) (d : Option Nat) (v : Value) : (a.put d v).defers = a.defers := by cases d <;> rfl
theorem opsX_ok (hT : TyOk X) (hC : ∀ q ∈ X.cs, COk X.P X.G q.1 q.2) (hN : X.n ≤ gh) {all : List Oper} {Q : Exit → Act → World → Prop} {K : EnvX τ → Hp τ → Nat → Option ρ}
    (hK : ∀ E L nid a w, K E L nid = some r → St X w0 h0 F E L nid a w → Q .normal a w) : ∀ {l : List Oper} {E : EnvX τ} {L : Hp τ} {nid : Nat} {a : Act} {w : World}, opsX X all l E L nid K = some r → St X w0 h0 F E L nid a w → wpList X.P all.toArray Q l a w
  | [], E, L, nid, a, w, e, s => hK _ _ _ _ _ e s
  | o :: l, E, L, nid, a, w, e, s => by
    unfold opsX at e
    obtain ⟨hd, e⟩ := bc_t e
    obtain ⟨m, E', e, hr, hw⟩ := guardX_ok e
    obtain ⟨ν, h, φ, M, hE, hn⟩ := s.st
    have hwant := hw X h ν a o rfl (hE.on _)
    unfold wpList
    rw [hwant]
    cases m with
    | false =>
      simp only [Bool.false_eq_true, if_false] at e ⊢
      rw [unT_eq] at e
      refine opsX_ok hT hC hN hK e ⟨?_, ?_, ν, h, φ, M, ?_, hn⟩
      · rw [put_def]; exact s.nodef
      · rw [put_size]; exact s.size
      · exact newE_ok hN hd s.size (fun _ h => by cases h) rfl fun t x e _ => hr.env hE t x e
    | true =>
      simp only [if_true] at e ⊢
      left
      obtain ⟨v, g, U, tch, nid', e1, hle, hg, hok⟩ := opX_ok (w0 := w0) (h0 := h0) (F := F) hT hC e
      refine hok L ν h φ a w _ Q s.nodef M ((hr.env hE).on _) (fun _ _ => rfl) (fun i h1 _ => hn i h1) fun ν' h' φ' w' u M' hν hh hfr hv => ?_
      simp only [nextE_eq] at e1
      refine opsX_ok hT hC hN hK e1 ⟨?_, ?_, ν', h', φ', M', ?_, fun i hi => ?_⟩
      · rw [put_def]; exact s.nodef
      · rw [put_size]; exact s.size
      · exact newE_ok hN hd s.size hg hv fun t x e _ => ((hr.env hE).le hh hν) t x e
      · cases e : ν' i with
        | none => rfl
        | some y =>
          have := hfr i (hn i (by omega)) (by rw [e]; simp)
          omega
end
end Go.Rk
end
section
namespace Go.Rk
open Go.RowKit Go.Dm Go.Dk
variable {τ : Nat → Type}

section
variable {R α : Type}
def accS (q : R → List (Nat × α)) : List R → Nat → (Nat → Bool) → List (Nat × α) → List (Nat × α)
  | [], _, _, B => B
  | r :: rs, i, f, B => accS q rs (i + 1) f (if f i = true then q r ++ B else B)
def lookS (q : R → List (Nat × α)) : List R → Nat → (Nat → Bool) → Nat → Option α
  | [], _, _, _ => none
  | r :: rs, i, f, t => match lookS q rs (i + 1) f t with
    | some v => some v
    | none => if f i = true then asc (q r) t else none
theorem asc_accS (q : R → List (Nat × α)) : ∀ (rs : List R) (i : Nat) (f : Nat → Bool) (B : List (Nat × α)) (t : Nat), asc (accS q rs i f B) t = match lookS q rs i f t with
    | some v => some v
    | none => asc B t
  | [], _, _, _, _ => rfl
  | r :: rs, i, f, B, t => by
    simp only [accS, lookS]
    rw [asc_accS q rs (i + 1) f _ t]
    cases lookS q rs (i + 1) f t with
    | some v => rfl
    | none =>
      by_cases hf : f i = true
      · simp only [hf, if_true]
        first
          | (rw [asc_app]; done)
          | (rw [asc_app]; cases asc (q r) t <;> rfl)
      · simp only [hf, if_false, Bool.false_eq_true]
def wr (l : List (Nat × α)) (t : Nat) : Prop := ∃ v, asc l t = some v
theorem lookS_congr (q : R → List (Nat × α)) {f f' : Nat → Bool} {t : Nat} : ∀ (rs : List R) (i : Nat), (∀ j r, rs[j]? = some r → wr (q r) t → f (i + j) = f' (i + j)) → lookS q rs i f t = lookS q rs i f' t
  | [], _, _ => rfl
  | r :: rs, i, h => by
    simp only [lookS]
    rw [lookS_congr q (f := f) (f' := f') (t := t) rs (i + 1) fun j r' hj hw => by
      have := h (j + 1) r' (by simpa using hj) hw
      rwa [show i + (j + 1) = i + 1 + j by omega] at this]
    cases lookS q rs (i + 1) f' t with
    | some v => rfl
    | none =>
      cases ha : asc (q r) t with
      | none => simp
      | some v =>
        have := h 0 r rfl ⟨v, ha⟩
        simp only [Nat.add_zero] at this
        simp [this]
theorem lookS_none (q : R → List (Nat × α)) {f : Nat → Bool} {t : Nat} : ∀ (rs : List R) (i : Nat), (∀ j r, rs[j]? = some r → wr (q r) t → f (i + j) = false) → lookS q rs i f t = none
  | [], _, _ => rfl
  | r :: rs, i, h => by
    simp only [lookS]
    rw [lookS_none q rs (i + 1) fun j r' hj hw => by
      have := h (j + 1) r' (by simpa using hj) hw
      rwa [show i + (j + 1) = i + 1 + j by omega] at this]
    cases ha : asc (q r) t with
    | none => simp
    | some v => simp [show f i = false from h 0 r rfl ⟨v, ha⟩]
theorem lookS_last (q : R → List (Nat × α)) {f : Nat → Bool} {t : Nat} {v : α} : ∀ (rs : List R) (i k : Nat) (r : R), rs[k]? = some r → f (i + k) = true → asc (q r) t = some v → (∀ j r', rs[j]? = some r' → wr (q r') t → k < j → f (i + j) = false) → lookS q rs i f t = some v
  | [], _, _, _, hr, _, _, _ => by simp at hr
  | r0 :: rs, i, 0, r, hr, hf, hv, h => by
    simp at hr
    subst hr
    simp only [lookS]
    rw [lookS_none q rs (i + 1) fun j r' hj hw => by
      have := h (j + 1) r' (by simpa using hj) hw (by omega)
      rwa [show i + (j + 1) = i + 1 + j by omega] at this]
    simp only [Nat.add_zero] at hf
    simp [hf, hv]
  | r0 :: rs, i, k + 1, r, hr, hf, hv, h => by
    simp only [lookS]
    rw [lookS_last q rs (i + 1) k r (by simpa using hr) (by rwa [show i + 1 + k = i + (k + 1) by omega]) hv fun j r' hj hw hlt => by
      have := h (j + 1) r' (by simpa using hj) hw (by omega)
      rwa [show i + (j + 1) = i + 1 + j by omega] at this]
end
theorem lk_asc : ∀ (L : Hp τ) (i : Nat), lk L i = match asc L i with
    | some r => r
    | none => .gone
  | [], _ => rfl
  | (k, v) :: L, i => by
    simp only [lk, asc]
    cases Nat.beq k i with
    | true => rfl
    | false => exact lk_asc L i
theorem wr_kys {U : Hp τ} {i : Nat} : wr U i ↔ i ∈ kys U := by
  constructor
  · rintro ⟨v, h⟩
    exact List.mem_map.2 ⟨_, asc_mem h, rfl⟩
  · intro h
    induction U with
    | nil => cases h
    | cons p U ih =>
      by_cases e : p.1 = i
      · exact ⟨p.2, by obtain ⟨k, v⟩ := p; simp at e; subst e; simp [asc]⟩
      · obtain ⟨k, v⟩ := p
        rcases List.mem_cons.1 h with h | h
        · exact (e h.symm).elim
        · obtain ⟨u, hu⟩ := ih h
          exact ⟨u, by simp only [asc]; rw [nbeq_false.2 e]; exact hu⟩

def befO (all : List Oper) (i : Nat) : List Nat := match all[i]? with
  | none => []
  | some o => (o.after.toList.filter (Region.binds .any)).map (·.on)
theorem aheads_pre : ∀ (l : List Oper) (P : List (List Nat)) (k : Nat), k < P.length → nthL (aheads P l) k = nthL P k
  | [], P, k, _ => rfl
  | o :: l, P, k, hk => by
    unfold aheads
    rw [aheads_pre l _ k (by simp; omega), nthL_eq, nthL_eq, List.getElem?_append_left hk]
theorem aheads_at : ∀ (l : List Oper) (P : List (List Nat)) (j : Nat) (o : Oper), l[j]? = some o → ∃ P', P'.length = P.length + j ∧ (∀ k, k < P.length + j → nthL P' k = nthL (aheads P l) k) ∧ nthL (aheads P l) (P.length + j) = some (aheadO P' o)
  | [], P, j, o, h => by simp at h
  | o' :: l, P, 0, o, h => by
    simp at h
    subst h
    refine ⟨P, rfl, fun k hk => ?_, ?_⟩
    · rw [aheads_pre (o' :: l) P k (by omega)]
    · unfold aheads
      rw [aheads_pre l _ _ (by simp), nthL_eq]
      simp
  | o' :: l, P, j + 1, o, h => by
    unfold aheads
    obtain ⟨P', h1, h2, h3⟩ := aheads_at l (P ++ [aheadO P o']) j o (by simpa using h)
    simp only [List.length_append, List.length_singleton] at h1 h2 h3
    refine ⟨P', by omega, fun k hk => h2 k (by omega), ?_⟩
    rw [show P.length + (j + 1) = P.length + 1 + j by omega]
    exact h3
theorem ahead_done {all : List Oper} {f : Nat → Bool} (hcl : ∀ j, f j = true → ∀ e ∈ befO all j, f e = true) : ∀ (j : Nat) (l : List Nat), nthL (aheads [] all) j = some l → (∀ e ∈ befO all j, f e = true) → ∀ e ∈ l, f e = true := by
  intro j
  induction j using Nat.strongRecOn with
  | _ j ih =>
    intro l hl hb e he
    have hj : j < all.length := by
      rcases Nat.lt_or_ge j all.length with h | h
      · exact h
      · exfalso
        have hlen : ∀ (l : List Oper) (P : List (List Nat)), (aheads P l).length = P.length + l.length := by
          intro l
          induction l with
          | nil => intro P; rfl
          | cons o l ih => intro P; unfold aheads; rw [ih]; simp; omega
        rw [nthL_eq] at hl
        have := (List.getElem?_eq_some_iff.1 hl).1
        rw [hlen] at this
        simp at this; omega
    obtain ⟨P', h1, h2, h3⟩ := aheads_at all [] j all[j] (List.getElem?_eq_getElem hj)
    simp only [List.length_nil, Nat.zero_add] at h1 h2 h3
    rw [h3] at hl
    cases hl
    unfold aheadO at he
    obtain ⟨ed, hed, he⟩ := List.mem_flatMap.1 he
    have hbe : ed.on ∈ befO all j := by
      unfold befO
      rw [List.getElem?_eq_getElem hj]
      exact List.mem_map.2 ⟨ed, hed, rfl⟩
    have hfe := hb _ hbe
    rcases List.mem_cons.1 he with rfl | he
    · exact hfe
    · split at he
      · rename_i l' hl'
        have hlt : ed.on < j := by
          rw [nthL_eq] at hl'
          have := (List.getElem?_eq_some_iff.1 hl').1
          omega
        rw [h2 _ hlt] at hl'
        exact ih _ hlt l' hl' (hcl _ hfe) e he
      · cases he

structure Rec (τ : Nat → Type) where
  o : Oper
  W : EnvX τ
  E : EnvX τ
  L : Hp τ
  lo : Nat
  hi : Nat
  v : XV τ
  g : List (XV τ)
  ls : List Oper
  U : Hp τ
  t : List Nat
  run : Bool
def Rec.ne (r : Rec τ) : EnvX τ := newE r.ls r.o.dst r.v r.g
section
variable {ρ : Type} {X : Cx τ} {w0 w w' : World} {h0 h h' : Fz} {F : List Nat} {o : Oper} {E E' Eb : EnvX τ} {L L2 : Hp τ} {ν ν' : Vn τ} {φ φ' : Nat → List Nat} {nid nid' : Nat} {r : ρ} {a : Act}
structure RecOk (X : Cx τ) (w0 : World) (h0 : Fz) (F : List Nat) (all : List Oper) (Eb : EnvX τ) (q : Rec τ) : Prop where
  refw : Ref Eb q.W
  ref : Ref Eb q.E
  up : q.lo ≤ q.hi
  dst : dOk X.n q.o.dst = true
  want : ∀ (h : Fz) (ν : Vn τ) (a : Act), EnvOn X h ν a (gdR all q.o.guard) q.W → Region.wanted q.o (yielded all.toArray a.tmps) = q.run
  gv : ∀ x ∈ q.g, isGv x = true
  pass : q.run = false → q.U = [] ∧ q.v = .un
  does : q.run = true → Ok1 X w0 h0 F q.o q.E q.L q.lo q.v q.U q.t q.hi
def Chain (X : Cx τ) (w0 : World) (h0 : Fz) (F : List Nat) (all : List Oper) : List Oper → EnvX τ → Hp τ → Nat → List (Rec τ) → EnvX τ → Hp τ → Nat → Prop
  | [], Eb, L, nid, [], E', L', nid' => E' = Eb ∧ L' = L ∧ nid' = nid
  | o :: l, Eb, L, nid, q :: qs, E', L', nid' => q.o = o ∧ q.L = L ∧ q.lo = nid ∧ RecOk X w0 h0 F all Eb q ∧ Chain X w0 h0 F all l (q.ne ++ Eb) (q.U ++ L) q.hi qs E' L' nid'
  | _, _, _, _, _, _, _, _ => False
def drs (all : List Oper) : Nat → List (Rec τ) → List Dr
  | _, [] => []
  | i, q :: qs => ⟨i, q.o.dst, readsO all q.o, (if q.run = true then q.t ++ kys q.U else []), kys q.U⟩ :: drs all (i + 1) qs
theorem dpath (hT : TyOk X) (hC : ∀ q ∈ X.cs, COk X.P X.G q.1 q.2) {all : List Oper} {K : EnvX τ → Hp τ → Nat → Option ρ} : ∀ {l : List Oper} {i : Nat} {R : List Dr} {E Eb : EnvX τ} {L : Hp τ} {nid : Nat}, dopsX X all i l R E L nid K = some r → Ref Eb E →
    ∃ qs Eb' L' nid' E', Chain X w0 h0 F all l Eb L nid qs Eb' L' nid' ∧ Ref Eb' E' ∧ drawOk all ((drs all i qs).reverse ++ R) = true ∧ K E' L' nid' = some r
  | [], i, R, E, Eb, L, nid, e, hr => by
    unfold dopsX hi at e
    obtain ⟨h1, e⟩ := bc_t e
    exact ⟨[], Eb, L, nid, E, ⟨rfl, rfl, rfl⟩, hr, h1, e⟩
  | o :: l, i, R, E, Eb, L, nid, e, hr => by
    unfold dopsX at e
    obtain ⟨hd, e⟩ := bc_t e
    obtain ⟨m, E1, e, hr1, hw⟩ := guardX_ok e
    have hr2 := hr.trans hr1
    have hwant : ∀ (h : Fz) (ν : Vn τ) (a : Act), EnvOn X h ν a (gdR all o.guard) E → Region.wanted o (yielded all.toArray a.tmps) = m := fun h ν a => hw X h ν a o rfl
    cases m with
    | false =>
      simp only [Bool.false_eq_true, if_false] at e
      rw [unT_eq] at e
      obtain ⟨qs, Eb', L', nid', E', h1, h2, h3, h4⟩ := dpath hT hC e (hr2.app _)
      refine ⟨⟨o, E, E1, L, nid, nid, .un, [], [], [], [], false⟩ :: qs, Eb', L', nid', E', ⟨rfl, rfl, rfl, ⟨hr, hr2, Nat.le_refl _, hd, hwant, (fun _ h => by cases h), fun _ => ⟨rfl, rfl⟩, fun h => by cases h⟩, h1⟩, h2, ?_, h4⟩
      simpa [drs, kys] using h3
    | true =>
      simp only [if_true] at e
      obtain ⟨v, g, U, tch, n1, e1, hle, hg, hok⟩ := opX_ok (w0 := w0) (h0 := h0) (F := F) hT hC e
      simp only [nextE_eq] at e1
      obtain ⟨qs, Eb', L', nid', E', h1, h2, h3, h4⟩ := dpath hT hC e1 (hr2.app _)
      refine ⟨⟨o, E, E1, L, nid, n1, v, g, l, U, tch, true⟩ :: qs, Eb', L', nid', E', ⟨rfl, rfl, rfl, ⟨hr, hr2, hle, hd, hwant, hg, (fun h => by cases h), fun _ => hok⟩, h1⟩, h2, ?_, h4⟩
      simpa [drs] using h3
theorem accS_none {R α : Type} (q : R → List (Nat × α)) {f : Nat → Bool} : ∀ (rs : List R) (i : Nat) (B : List (Nat × α)), (∀ j, i ≤ j → f j = false) → accS q rs i f B = B
  | [], _, _, _ => rfl
  | r :: rs, i, B, h => by
    simp only [accS]
    rw [h i (Nat.le_refl _)]
    exact accS_none q rs (i + 1) B fun j hj => h j (by omega)
theorem lookS_some {R α : Type} (q : R → List (Nat × α)) {f : Nat → Bool} {t : Nat} {v : α} : ∀ (rs : List R) (i : Nat), lookS q rs i f t = some v → ∃ j r, rs[j]? = some r ∧ f (i + j) = true ∧ asc (q r) t = some v
  | [], _, h => by cases h
  | r :: rs, i, h => by
    simp only [lookS] at h
    cases hl : lookS q rs (i + 1) f t with
    | some u =>
      rw [hl] at h
      cases h
      obtain ⟨j, r', h1, h2, h3⟩ := lookS_some q rs (i + 1) hl
      exact ⟨j + 1, r', by simpa using h1, by rwa [show i + (j + 1) = i + 1 + j by omega], h3⟩
    | none =>
      rw [hl] at h
      by_cases hf : f i = true
      · simp only [hf, if_true] at h
        exact ⟨0, r, rfl, hf, h⟩
      · simp [hf] at h
theorem Chain.get {all : List Oper} : ∀ {l : List Oper} {Eb : EnvX τ} {L : Hp τ} {nid : Nat} {qs : List (Rec τ)} {E' : EnvX τ} {L' : Hp τ} {nid' : Nat} (k : Nat), Chain X w0 h0 F all l Eb L nid qs E' L' nid' →
    nid ≤ nid' ∧ qs.length = l.length ∧ E' = accS Rec.ne qs k (fun _ => true) Eb ∧ L' = accS Rec.U qs k (fun _ => true) L ∧
    (∀ (i : Nat) (q : Rec τ), qs[i]? = some q → l[i]? = some q.o ∧ q.L = accS Rec.U qs k (fun j => Nat.blt j (k + i)) L ∧ RecOk X w0 h0 F all (accS Rec.ne qs k (fun j => Nat.blt j (k + i)) Eb) q ∧ nid ≤ q.lo ∧ q.hi ≤ nid') ∧
    (∀ (i j : Nat) (q q' : Rec τ), qs[i]? = some q → qs[j]? = some q' → i < j → q.hi ≤ q'.lo)
  | [], Eb, L, nid, [], E', L', nid', k, h => by
    obtain ⟨rfl, rfl, rfl⟩ := h
    exact ⟨Nat.le_refl _, rfl, rfl, rfl, fun i q hq => by simp at hq, fun i j q q' hq => by simp at hq⟩
  | o :: l, Eb, L, nid, q :: qs, E', L', nid', k, h => by
    obtain ⟨rfl, hL, rfl, hR, hc⟩ := h
    obtain ⟨g1, g2, g3, g4, g5, g6⟩ := Chain.get (k + 1) hc
    refine ⟨Nat.le_trans hR.up g1, by simp [g2], ?_, ?_, fun i q' hq => ?_, fun i j q1 q2 h1 h2 hij => ?_⟩
    · simp only [accS, if_true]; exact g3
    · simp only [accS, if_true]; exact g4
    · cases i with
      | zero =>
        simp at hq
        subst hq
        have e1 : ∀ {α : Type} (f : Rec τ → List (Nat × α)) (B : List (Nat × α)), accS f (q :: qs) k (fun j => Nat.blt j (k + 0)) B = B := fun f B => accS_none f _ _ _ fun j hj => by
          rw [← Bool.not_eq_true, Nat.blt_eq]; omega
        refine ⟨rfl, by rw [e1]; exact hL, by rw [e1]; exact hR, Nat.le_refl _, g1⟩
      | succ i =>
        obtain ⟨a1, a2, a3, a4, a5⟩ := g5 i q' (by simpa using hq)
        have hb : Nat.blt k (k + (i + 1)) = true := by rw [Nat.blt_eq]; omega
        have hs : k + (i + 1) = k + 1 + i := by omega
        refine ⟨by simpa using a1, ?_, ?_, Nat.le_trans hR.up a4, a5⟩
        · simp only [accS, hb, if_true]; rw [hs]; exact a2
        · simp only [accS, hb, if_true]; rw [hs]; exact a3
    · cases j with
      | zero => omega
      | succ j =>
        cases i with
        | zero =>
          simp at h1
          subst h1
          exact (g5 j q2 (by simpa using h2)).2.2.2.1
        | succ i => exact g6 i j q1 q2 (by simpa using h1) (by simpa using h2) (by omega)
  | [], _, _, _, _ :: _, _, _, _, _, h => h.elim
  | _ :: _, _, _, _, [], _, _, _, _, h => h.elim
theorem drs_mem {all : List Oper} : ∀ {qs : List (Rec τ)} (k i : Nat) (q : Rec τ), qs[i]? = some q → (⟨k + i, q.o.dst, readsO all q.o, (if q.run = true then q.t ++ kys q.U else []), kys q.U⟩ : Dr) ∈ drs all k qs
  | [], _, _, _, h => by simp at h
  | q0 :: qs, k, 0, q, h => by simp at h; subst h; exact List.mem_cons_self ..
  | q0 :: qs, k, i + 1, q, h => by
    have := drs_mem (all := all) (k + 1) i q (by simpa using h)
    rw [show k + 1 + i = k + (i + 1) by omega] at this
    exact List.mem_cons_of_mem _ this
theorem ne_wr {q : Rec τ} {t : Nat} {x : XV τ} (hg : ∀ y ∈ q.g, isGv y = true) (h : asc q.ne t = some x) : q.o.dst = some t ∨ (isGv x = true ∧ 20000 ≤ t ∧ t < 40000) ∨ (isGv x = true ∧ ∃ d : Nat, q.o.dst = some d ∧ t = 20000 + d) := by
  unfold Rec.ne newE at h
  have gh_ok : ∀ {d : Option Nat}, asc (ghost q.g q.ls d []) t = some x → (isGv x = true ∧ 20000 ≤ t ∧ t < 40000) ∨ (isGv x = true ∧ ∃ d' : Nat, d = some d' ∧ t = 20000 + d') := by
    intro d e
    unfold ghost at e
    split at e
    · rename_i y hy
      have hgy := hg y (by rw [hy]; exact List.mem_singleton.2 rfl)
      cases d with
      | none =>
        simp only [asc] at e
        cases hb : Nat.beq (30000 + q.ls.length % 10000) t with
        | true =>
          rw [hb] at e; cases e
          have : 30000 + q.ls.length % 10000 = t := by simpa using hb
          exact .inl ⟨hgy, by omega, by omega⟩
        | false => rw [hb] at e; cases e
      | some d =>
        simp only [asc] at e
        cases hb : Nat.beq (20000 + d) t with
        | true =>
          rw [hb] at e; cases e
          have : 20000 + d = t := by simpa using hb
          exact .inr ⟨hgy, d, rfl, this.symm⟩
        | false => rw [hb] at e; cases e
    · cases e
  unfold putT at h
  split at h
  · rename_i d hd
    simp only [asc] at h
    cases hb : Nat.beq d t with
    | true =>
      have : d = t := by simpa using hb
      subst this
      exact .inl hd
    | false => rw [hb] at h; rw [hd] at h; rcases gh_ok h with h1 | ⟨h1, d', h2, h3⟩
               · exact .inr (.inl h1)
               · exact .inr (.inr ⟨h1, d', by rw [hd]; exact h2, h3⟩)
  · rename_i hd
    rw [hd] at h
    rcases gh_ok h with h1 | ⟨h1, d', h2, h3⟩
    · exact .inr (.inl h1)
    · cases h2
theorem meets_spec {l m : List Nat} {i : Nat} (h1 : i ∈ l) (h2 : i ∈ m) : meets l m = true := List.any_eq_true.2 ⟨i, h1, mem_any.2 h2⟩
theorem drawOk_spec {all : List Oper} {R : List Dr} (h : drawOk all R = true) : (∀ a ∈ R, ∀ b ∈ R, a.i = b.i ∨ clash a b = false ∨ tied (aheads [] all) a.i b.i = true) ∧ ∀ a ∈ R, ∃ l, nthL (aheads [] all) a.i = some l ∧ ∀ j ∈ l, j < a.i := by
  unfold drawOk at h
  simp only [Bool.and_eq_true, List.all_eq_true, Bool.or_eq_true, Bool.not_eq_true'] at h
  obtain ⟨h1, h2⟩ := h
  refine ⟨fun a ha b hb => ?_, fun a ha => ?_⟩
  · rcases h1 a ha b hb with (h3 | h3) | h3
    · exact .inl (by simpa using h3)
    · exact .inr (.inl h3)
    · exact .inr (.inr h3)
  · have := h2 a ha
    split at this
    · rename_i l hl
      exact ⟨l, hl, fun j hj => by simpa using List.all_eq_true.1 this j hj⟩
    · cases this
theorem tied_spec {P : List (List Nat)} {i j : Nat} (h : tied P i j = true) : (∃ l, nthL P i = some l ∧ j ∈ l) ∨ (∃ l, nthL P j = some l ∧ i ∈ l) := by
  unfold tied at h
  simp only [Bool.or_eq_true] at h
  rcases h with h | h
  · left
    split at h
    · rename_i l hl; exact ⟨l, hl, mem_any.1 h⟩
    · cases h
  · right
    split at h
    · rename_i l hl; exact ⟨l, hl, mem_any.1 h⟩
    · cases h
theorem reads_real {all : List Oper} {o : Oper} {t : Nat} (h : t ∈ readsO all o) : t < 20000 ∨ 40000 ≤ t := by
  have key : ∀ {s t : Nat}, t ∈ (bif Nat.blt s gh then [s] else []) → t < 20000 := by
    intro s t h
    cases hb : Nat.blt s gh with
    | true =>
      rw [hb] at h
      have : s < gh := by simpa using hb
      have h : t ∈ [s] := h
      rw [List.mem_singleton.1 h]
      unfold gh at this; omega
    | false => rw [hb] at h; cases h
  unfold readsO at h
  rcases List.mem_append.1 h with h | h
  · unfold rdO at h
    obtain ⟨x, _, hx⟩ := List.mem_flatMap.1 h
    unfold tmpO at hx
    split at hx
    · exact .inl (key hx)
    · rw [List.mem_singleton.1 hx]; unfold gb; omega
    · cases hx
  · unfold gdR at h
    split at h
    · split at h
      · exact .inl (key h)
      · cases h
    · cases h
theorem lk_accS (qs : List (Rec τ)) (i : Nat) (f : Nat → Bool) (L : Hp τ) (k : Nat) : lk (accS Rec.U qs i f L) k = match lookS Rec.U qs i f k with
    | some v => v
    | none => lk L k := by
  rw [lk_asc, asc_accS, lk_asc]
  cases lookS Rec.U qs i f k <;> rfl
theorem accS_app {R α : Type} (q : R → List (Nat × α)) : ∀ (rs : List R) (i : Nat) (f : Nat → Bool) (B : List (Nat × α)), accS q rs i f B = accS q rs i f [] ++ B
  | [], _, _, _ => rfl
  | r :: rs, i, f, B => by
    simp only [accS]
    rw [accS_app q rs (i + 1) f (if f i = true then q r ++ B else B), accS_app q rs (i + 1) f (if f i = true then q r ++ [] else [])]
    split <;> simp
theorem draw_core (hm : X.P.follows .mixedOrders = true) (hN : X.n ≤ gh) {id : Nat} {l : List Oper} {qs : List (Rec τ)} {Eb' E' : EnvX τ} {L' : Hp τ} {T : List Nat} (hch : Chain X w0 h0 F l l E L nid qs Eb' L' nid') (hrf : Ref Eb' E') (hok : drawOk l ((drs l 0 qs).reverse ++ []) = true)
    (hTT : ∀ q ∈ qs, q.run = true → ∀ k ∈ q.t, k ∈ T) {L2 : Hp τ} {ν0 : Vn τ} {hh0 : Fz} {φ0 : Nat → List Nat} {a : Act} {w : World} {Q : Exit → Act → World → Prop} (hnod0 : a.defers = []) (hsize0 : a.tmps.size = X.n) (M0 : Mem X.P X.G w0 h0 F L2 w ν0 hh0 φ0) (hE0 : EnvOk X hh0 ν0 a E)
    (hL2 : ∀ k ∈ T, lk L2 k = lk L k) (hn0 : ∀ k, nid ≤ k → k < nid' → ν0 k = none)
    (hQ : ∀ ν' h' φ' a' w', a'.defers = [] → a'.tmps.size = X.n → Mem X.P X.G w0 h0 F (accS Rec.U qs 0 (fun _ => true) [] ++ L2) w' ν' h' φ' → ν0.le ν' → hh0.le h' → Fresh ν0 ν' nid nid' → EnvOk X h' ν' a' E' → Q .normal a' w') : (Code.region id l.toArray true).wp X.P Q a w := by
  obtain ⟨c1, c2, c3, c4, c5, c6⟩ := Chain.get 0 hch
  obtain ⟨hcl2, hah⟩ := drawOk_spec hok
  have hdr : ∀ (j : Nat) (q : Rec τ), qs[j]? = some q → (⟨j, q.o.dst, readsO l q.o, (if q.run = true then q.t ++ kys q.U else []), kys q.U⟩ : Dr) ∈ ((drs l 0 qs).reverse ++ []) := by
    intro j q hq
    have := drs_mem (all := l) 0 j q hq
    rw [Nat.zero_add] at this
    simpa using this
  have hrec : ∀ (j : Nat) (q : Rec τ), qs[j]? = some q → RecOk X w0 h0 F l (accS Rec.ne qs 0 (fun k => Nat.blt k j) E) q := fun j q hq => by
    have := (c5 j q hq).2.2.1
    simpa using this
  -- the invariant
  refine wp_region_inv hm (fun li a w => li.size = l.length ∧ (∀ j, li.getD j false = true → ∀ e ∈ befO l j, li.getD e false = true) ∧ a.defers = [] ∧ a.tmps.size = X.n ∧
    ∃ ν h φ, Mem X.P X.G w0 h0 F (accS Rec.U qs 0 (fun j => li.getD j false) L2) w ν h φ ∧ EnvOk X h ν a (accS Rec.ne qs 0 (fun j => li.getD j false) E) ∧ ν0.le ν ∧ hh0.le h ∧
      ∀ k, ν k ≠ none → ν0 k ≠ none ∨ ∃ j q, qs[j]? = some q ∧ li.getD j false = true ∧ q.lo ≤ k ∧ k < q.hi) ?_ ?_ ?_ ?_
  · rintro li a w ⟨h, _⟩; simpa using h
  · have hf : ∀ j, (Array.replicate l.toArray.size false).getD j false = false := by
      intro j
      simp [Array.getD_eq_getD_getElem?, Array.getElem?_replicate]
      split <;> simp
    refine ⟨by simp, fun j hj => (by rw [hf] at hj; cases hj), hnod0, hsize0, ν0, hh0, φ0, ?_, ?_, Vn.le.refl _, Fz.le.refl _, fun k hk => .inl hk⟩
    · rw [accS_none _ _ _ _ fun j _ => hf j]; exact M0.drew
    · rw [accS_none _ _ _ _ fun j _ => hf j]; exact hE0
  · rintro li a w i ⟨hls, hcl, hnod, hsize, ν, h, φ, M, hE, hle1, hle2, hν⟩ hi
    have hi' : i < l.length ∧ li.getD i true = false ∧ ∀ e ∈ befO l i, li.getD e false = true := by
      unfold Region.ready at hi
      simp only [List.mem_filter, List.mem_range, Bool.and_eq_true, Bool.not_eq_true', List.size_toArray] at hi
      refine ⟨hi.1, hi.2.1, fun e he => ?_⟩
      have h2 := hi.2.2
      have hoi : l.toArray[i]? = some (l[i]'hi.1) := by simp [hi.1]
      rw [hoi] at h2
      simp only [Option.map_some, Option.getD_some, Array.all_eq_true'] at h2
      unfold befO at he
      rw [List.getElem?_eq_getElem hi.1] at he
      simp only [List.mem_map, List.mem_filter] at he
      obtain ⟨ed, ⟨hed, hb⟩, rfl⟩ := he
      have := h2 ed (by simpa using hed)
      simpa [hb] using this
    obtain ⟨hil, hiu, hpre⟩ := hi'
    have hfi : li.getD i false = false := by
      have h1 : i < li.size := by omega
      simp [Array.getD_eq_getD_getElem?, h1] at hiu ⊢
      exact hiu
    have hqi : i < qs.length := by omega
    obtain ⟨q, hq⟩ : ∃ q, qs[i]? = some q := ⟨_, List.getElem?_eq_getElem hqi⟩
    obtain ⟨ho, hL, hR, hlo, hhi⟩ := c5 i q hq
    rw [Nat.zero_add] at hL hR
    have hcl' : ∀ j, li.getD j false = true → ∀ e ∈ befO l j, li.getD e false = true := hcl
    -- two that clash stand in their order
    have hT2 : ∀ (j : Nat) (q' : Rec τ), qs[j]? = some q' → j ≠ i → (clash ⟨i, q.o.dst, readsO l q.o, (if q.run = true then q.t ++ kys q.U else []), kys q.U⟩ ⟨j, q'.o.dst, readsO l q'.o, (if q'.run = true then q'.t ++ kys q'.U else []), kys q'.U⟩ = true) → li.getD j false = Nat.blt j i := by
      intro j q' hq' hne hcla
      obtain ⟨li1, hli1, hlt1⟩ := hah _ (hdr i q hq)
      obtain ⟨lj1, hlj1, hlt2⟩ := hah _ (hdr j q' hq')
      have htied : tied (aheads [] l) i j = true := by
        rcases hcl2 _ (hdr i q hq) _ (hdr j q' hq') with h1 | h1 | h1
        · exact (hne h1.symm).elim
        · rw [h1] at hcla; cases hcla
        · exact h1
      rcases tied_spec htied with ⟨l1, h1, h2⟩ | ⟨l1, h1, h2⟩
      · have hf := ahead_done (f := fun k => li.getD k false) hcl' i l1 h1 hpre j h2
        have h1' : nthL (aheads [] l) i = some li1 := hli1
        rw [h1] at h1'
        cases h1'
        have := hlt1 j h2
        have hbl : Nat.blt j i = true := by rw [Nat.blt_eq]; exact this
        rw [hbl]; exact hf
      · have h1' : nthL (aheads [] l) j = some lj1 := hlj1
        rw [h1] at h1'
        cases h1'
        have hlt : i < j := hlt2 i h2
        have hbl : Nat.blt j i = false := by rw [← Bool.not_eq_true, Nat.blt_eq]; omega
        rw [hbl]
        cases hfj : li.getD j false with
        | false => rfl
        | true =>
          have : li.getD i false = true := ahead_done (f := fun k => li.getD k false) hcl' j _ h1 (hcl' j hfj) i h2
          rw [hfi] at this; cases this
    have hii : Nat.blt i i = false := by rw [← Bool.not_eq_true, Nat.blt_eq]; omega
    have hclD : ∀ {q' : Rec τ} {d : Nat}, q'.o.dst = some d → d ∈ readsO l q.o → ∀ j : Nat, clash ⟨i, q.o.dst, readsO l q.o, (if q.run = true then q.t ++ kys q.U else []), kys q.U⟩ ⟨j, q'.o.dst, readsO l q'.o, (if q'.run = true then q'.t ++ kys q'.U else []), kys q'.U⟩ = true := by
      intro q' d hd hm j
      simp only [clash, hd, mem_any.2 hm, Bool.true_or, Bool.or_true]
    have hclE : ∀ {q' : Rec τ} {d : Nat}, q'.o.dst = some d → q.o.dst = some d → ∀ j : Nat, clash ⟨i, q.o.dst, readsO l q.o, (if q.run = true then q.t ++ kys q.U else []), kys q.U⟩ ⟨j, q'.o.dst, readsO l q'.o, (if q'.run = true then q'.t ++ kys q'.U else []), kys q'.U⟩ = true := by
      intro q' d hd hd2 j
      simp only [clash, hd, hd2, Nat.beq_refl, Bool.or_true]
    have hclU : ∀ {q' : Rec τ} {k : Nat}, q.run = true → k ∈ kys q'.U → (k ∈ q.t ∨ k ∈ kys q.U) → ∀ j : Nat, clash ⟨i, q.o.dst, readsO l q.o, (if q.run = true then q.t ++ kys q.U else []), kys q.U⟩ ⟨j, q'.o.dst, readsO l q'.o, (if q'.run = true then q'.t ++ kys q'.U else []), kys q'.U⟩ = true := by
      intro q' k hrun hk hk2 j
      simp only [clash, hrun, if_true]
      rw [meets_spec (i := k) (List.mem_append.2 hk2) hk, Bool.true_or]
    -- what it reads
    have hreads : EnvOn X h ν a (readsO l q.o) (accS Rec.ne qs 0 (fun k => Nat.blt k i) E) := by
      intro t ht x hx
      refine hE t x ?_
      rw [asc_accS] at hx ⊢
      rw [← lookS_congr Rec.ne (f := fun j => li.getD j false) (f' := fun k => Nat.blt k i) (t := t) qs 0 ?_] at hx
      · exact hx
      · intro j q' hq' hw
        rw [Nat.zero_add]
        by_cases hji : j = i
        · subst hji; rw [hfi, hii]
        · obtain ⟨y, hy⟩ := hw
          refine hT2 j q' hq' hji ?_
          rcases ne_wr (hrec j q' hq').gv hy with h1 | ⟨_, h1, h2⟩ | ⟨_, d, h1, h2⟩
          · exact hclD h1 ht j
          · rcases reads_real ht with h3 | h3 <;> omega
          · have hdl := (hrec j q' hq').dst
            rw [h1] at hdl
            have hdl2 : d < X.n := Nat.le_of_ble_eq_true hdl
            have hN2 : X.n ≤ 9000 := hN
            have h4 : t < 40000 := by omega
            rcases reads_real ht with h3 | h3
            · omega
            · omega
    have hdone : ∀ j, (li.setIfInBounds i true).getD j false = (li.getD j false || Nat.beq j i) := by
      intro j
      have h1 : i < li.size := by omega
      by_cases hji : j = i
      · subst hji
        simp [Array.getD_eq_getD_getElem?, h1]
      · have : Nat.beq j i = false := nbeq_false.2 hji
        simp [Array.getD_eq_getD_getElem?, Ne.symm hji, this]
    have hdoneN : ∀ j, j ≠ i → (li.setIfInBounds i true).getD j false = li.getD j false := fun j hj => by rw [hdone, nbeq_false.2 hj, Bool.or_false]
    have hdoneI : (li.setIfInBounds i true).getD i false = true := by rw [hdone]; simp
    have hcl3 : ∀ j, (li.setIfInBounds i true).getD j false = true → ∀ e ∈ befO l j, (li.setIfInBounds i true).getD e false = true := by
      intro j hj e he
      have hle : ∀ e, li.getD e false = true → (li.setIfInBounds i true).getD e false = true := fun e h => by rw [hdone, h]; rfl
      by_cases hji : j = i
      · subst hji; exact hle e (hpre e he)
      · rw [hdoneN j hji] at hj; exact hle e (hcl j hj e he)
    -- the environment behind it
    have henv : ∀ {a' : Act} {h' : Fz} {ν' : Vn τ}, EnvOk X h' ν' a' (q.ne ++ accS Rec.ne qs 0 (fun j => li.getD j false) E) → EnvOk X h' ν' a' (accS Rec.ne qs 0 (fun j => (li.setIfInBounds i true).getD j false) E) := by
      intro a' h' ν' hE2 t x hx
      by_cases hgv : isGv x = true
      · exact gv_slot hgv
      · refine hE2 t x ?_
        rw [asc_accS] at hx
        rw [asc_app, asc_accS]
        have hreal : ∀ {j : Nat} {q' : Rec τ}, qs[j]? = some q' → ∀ y, asc q'.ne t = some y → isGv y = false → q'.o.dst = some t := by
          intro j q' hq' y hy hg
          rcases ne_wr (hrec j q' hq').gv hy with h1 | ⟨h1, _⟩ | ⟨h1, _⟩
          · exact h1
          · rw [h1] at hg; cases hg
          · rw [h1] at hg; cases hg
        cases hlk : lookS Rec.ne qs 0 (fun j => (li.setIfInBounds i true).getD j false) t with
        | some y =>
          rw [hlk] at hx
          cases hx
          obtain ⟨j, q', hq', hfj, hy⟩ := lookS_some Rec.ne qs 0 hlk
          rw [Nat.zero_add] at hfj
          have hdj := hreal hq' x hy (by simpa using hgv)
          cases hne : asc q.ne t with
          | some z =>
            have h1 : q.o.dst = some t := by
              rcases ne_wr (hrec i q hq).gv hne with h1 | ⟨h1, h2, h3⟩ | ⟨_, d, h2, h3⟩
              · exact h1
              · have hdl := (hrec j q' hq').dst
                rw [hdj] at hdl
                have hdl : t < X.n := by simpa [dOk] using hdl
                unfold gh at hN; omega
              · have hdl := (hrec j q' hq').dst
                rw [hdj] at hdl
                have hdl : t < X.n := by simpa [dOk] using hdl
                unfold gh at hN; omega
            have hlast := lookS_last Rec.ne (f := fun j => (li.setIfInBounds i true).getD j false) (t := t) qs 0 i q hq (by rw [Nat.zero_add]; exact hdoneI) hne fun j2 q2 hq2 hw hlt => by
              rw [Nat.zero_add, hdoneN j2 (by omega)]
              obtain ⟨y2, hy2⟩ := hw
              have hd2 : q2.o.dst = some t := by
                rcases ne_wr (hrec j2 q2 hq2).gv hy2 with h2 | ⟨_, h2, h3⟩ | ⟨_, d, h2, h3⟩
                · exact h2
                · have hdl := (hrec i q hq).dst
                  rw [h1] at hdl
                  have hdl : t < X.n := by simpa [dOk] using hdl
                  unfold gh at hN; omega
                · have hdl := (hrec i q hq).dst
                  rw [h1] at hdl
                  have hdl : t < X.n := by simpa [dOk] using hdl
                  unfold gh at hN; omega
              rw [hT2 j2 q2 hq2 (by omega) (hclE hd2 h1 j2), ← Bool.not_eq_true, Nat.blt_eq]
              omega
            rw [hlk] at hlast
            cases hlast
            rfl
          | none =>
            rw [lookS_congr Rec.ne (f := fun j => li.getD j false) (f' := fun j => (li.setIfInBounds i true).getD j false) (t := t) qs 0 (fun j2 q2 hq2 hw => by
              rw [Nat.zero_add]
              by_cases hji : j2 = i
              · subst hji
                rw [hq] at hq2
                cases hq2
                obtain ⟨z, hz⟩ := hw
                rw [hne] at hz; cases hz
              · rw [hdoneN j2 hji]), hlk]
        | none =>
          rw [hlk] at hx
          have hni : asc q.ne t = none := by
            cases hz : asc q.ne t with
            | none => rfl
            | some z =>
              exfalso
              have : ∀ (rs : List (Rec τ)) (k : Nat) (q' : Rec τ), rs[k]? = some q' → ∀ (i0 : Nat) (f : Nat → Bool), f (i0 + k) = true → asc q'.ne t = some z → lookS Rec.ne rs i0 f t ≠ none := by
                intro rs
                induction rs with
                | nil => intro k q' h; simp at h
                | cons r rs ih =>
                  intro k q' hk i0 f hf hz
                  simp only [lookS]
                  cases hl : lookS Rec.ne rs (i0 + 1) f t with
                  | some v => simp
                  | none =>
                    cases k with
                    | zero =>
                      simp at hk; subst hk
                      simp only [Nat.add_zero] at hf
                      simp [hf, hz]
                    | succ k => exact (ih k q' (by simpa using hk) (i0 + 1) f (by rwa [show i0 + 1 + k = i0 + (k + 1) by omega]) hz hl).elim
              exact this qs i q hq 0 _ (by rw [Nat.zero_add]; exact hdoneI) hz hlk
          rw [hni]
          rw [lookS_congr Rec.ne (f := fun j => li.getD j false) (f' := fun j => (li.setIfInBounds i true).getD j false) (t := t) qs 0 (fun j2 q2 hq2 hw => by
              rw [Nat.zero_add]
              by_cases hji : j2 = i
              · subst hji
                rw [hq] at hq2
                cases hq2
                obtain ⟨z, hz⟩ := hw
                rw [hni] at hz; cases hz
              · rw [hdoneN j2 hji]), hlk]
          exact hx
    have hsz2 : (li.setIfInBounds i true).size = l.length := by simpa using hls
    have hol : l.toArray[i]? = some q.o := by simpa using ho
    unfold wpOp
    rw [hol]
    dsimp only
    have hRo := hrec i q hq
    rw [hRo.want h ν a (fun t ht x hx => (Ref.on (l := readsO l q.o) hRo.refw hreads) t (by unfold readsO; exact List.mem_append_right _ ht) x hx)]
    cases hrun : q.run with
    | false =>
      obtain ⟨hU, hv⟩ := hRo.pass hrun
      rw [if_neg (by simp)]
      refine ⟨hsz2, hcl3, by rw [put_def]; exact hnod, by rw [put_size]; exact hsize, ν, h, φ, M.congr fun k => ?_, henv ?_, hle1, hle2, fun k hk => ?_⟩
      · rw [lk_accS, lk_accS]
        rw [lookS_congr Rec.U (f := fun j => (li.setIfInBounds i true).getD j false) (f' := fun j => li.getD j false) (t := k) qs 0 fun j2 q2 hq2 hw => by
          rw [Nat.zero_add]
          by_cases hji : j2 = i
          · subst hji
            rw [hq] at hq2
            cases hq2
            obtain ⟨z, hz⟩ := hw
            rw [hU] at hz; cases hz
          · rw [hdoneN j2 hji]]
      · unfold Rec.ne
        rw [hv]
        exact newE_ok hN hRo.dst hsize hRo.gv rfl fun t x hx _ => hE t x hx
      · rcases hν k hk with h1 | ⟨j, q', h1, h2, h3⟩
        · exact .inl h1
        · exact .inr ⟨j, q', h1, by rw [hdone, h2]; rfl, h3⟩
    | true =>
      rw [if_pos rfl]
      left
      refine hRo.does hrun _ ν h φ a w _ Q hnod M (fun t ht x hx => (Ref.on (l := readsO l q.o) hRo.ref hreads) t (by unfold readsO; exact List.mem_append_left _ ht) x hx) (fun k hk => ?_) (fun k h1 h2 => ?_) fun ν' h' φ' w' u M' hν' hh hfr hv => ?_
      · rw [hL, lk_accS, lk_accS, hL2 k (hTT q (List.mem_of_getElem? hq) hrun k hk)]
        rw [lookS_congr Rec.U (f := fun j => li.getD j false) (f' := fun k => Nat.blt k i) (t := k) qs 0 fun j2 q2 hq2 hw => by
          rw [Nat.zero_add]
          by_cases hji : j2 = i
          · subst hji; rw [hfi, hii]
          · exact hT2 j2 q2 hq2 hji (hclU hrun (wr_kys.1 hw) (.inl hk) j2)]
      · cases hνk : ν k with
        | none => rfl
        | some y =>
          exfalso
          rcases hν k (by rw [hνk]; simp) with h3 | ⟨j, q', h3, h4, h5, h6⟩
          · exact h3 (hn0 k (by omega) (by omega))
          · rcases Nat.lt_trichotomy j i with hj | hj | hj
            · have := c6 j i q' q h3 hq hj; omega
            · subst hj; rw [hfi] at h4; cases h4
            · have := c6 i j q q' hq h3 hj; omega
      · refine ⟨hsz2, hcl3, by rw [put_def]; exact hnod, by rw [put_size]; exact hsize, ν', h', φ', M'.congr fun k => ?_, henv ?_, hle1.trans hν', hle2.trans hh, fun k hk => ?_⟩
        · rw [lk_asc, lk_asc, asc_accS, asc_app, asc_accS]
          cases hUk : asc q.U k with
          | some z =>
            have hlast := lookS_last Rec.U (f := fun j => (li.setIfInBounds i true).getD j false) (t := k) qs 0 i q hq (by rw [Nat.zero_add]; exact hdoneI) hUk fun j2 q2 hq2 hw hlt => by
              rw [Nat.zero_add, hdoneN j2 (by omega), hT2 j2 q2 hq2 (by omega) (hclU hrun (wr_kys.1 hw) (.inr (wr_kys.1 ⟨z, hUk⟩)) j2), ← Bool.not_eq_true, Nat.blt_eq]
              omega
            rw [hlast]
          | none =>
            rw [lookS_congr Rec.U (f := fun j => (li.setIfInBounds i true).getD j false) (f' := fun j => li.getD j false) (t := k) qs 0 fun j2 q2 hq2 hw => by
              rw [Nat.zero_add]
              by_cases hji : j2 = i
              · subst hji
                rw [hq] at hq2
                cases hq2
                obtain ⟨z, hz⟩ := hw
                rw [hUk] at hz; cases hz
              · rw [hdoneN j2 hji]]
        · exact newE_ok hN hRo.dst hsize hRo.gv hv fun t x hx _ => (hE.le hh hν') t x hx
        · by_cases hk0 : ν k = none
          · obtain ⟨h1, h2⟩ := hfr k hk0 hk
            exact .inr ⟨i, q, hq, hdoneI, h1, h2⟩
          · rcases hν k hk0 with h1 | ⟨j, q', h1, h2, h3⟩
            · exact .inl h1
            · exact .inr ⟨j, q', h1, by rw [hdone, h2]; rfl, h3⟩
  · rintro li a w ⟨hls, hcl, hnod, hsize, ν, h, φ, M, hE, hle1, hle2, hν⟩ hr
    have hall : ∀ i, i < l.length → li.getD i false = true := by
      intro i
      induction i using Nat.strongRecOn with
      | _ i ih =>
        intro hi
        cases hb : li.getD i false with
        | true => rfl
        | false =>
          exfalso
          have hmem : i ∈ Region.ready .any l.toArray li := by
            unfold Region.ready
            simp only [List.mem_filter, List.mem_range, Bool.and_eq_true, Bool.not_eq_true', List.size_toArray]
            have h1 : i < li.size := by omega
            refine ⟨hi, by simpa [Array.getD_eq_getD_getElem?, h1] using hb, ?_⟩
            have hoi : l.toArray[i]? = some l[i] := by simp [hi]
            rw [hoi]
            simp only [Option.map_some, Option.getD_some, Array.all_eq_true']
            intro e he
            cases hbe : Region.binds .any e with
            | false => rfl
            | true =>
              have hlt : e.on < i := by
                have hqi : i < qs.length := by omega
                obtain ⟨l1, h2, h3⟩ := hah _ (hdr i _ (List.getElem?_eq_getElem hqi))
                obtain ⟨P', _, _, h4⟩ := aheads_at l [] i l[i] (List.getElem?_eq_getElem hi)
                simp only [List.length_nil, Nat.zero_add] at h4
                have h2 : nthL (aheads [] l) i = some l1 := h2
                rw [h4] at h2
                cases h2
                refine h3 e.on ?_
                unfold aheadO
                refine List.mem_flatMap.2 ⟨e, List.mem_filter.2 ⟨by simpa using he, hbe⟩, List.mem_cons_self ..⟩
              simpa using ih e.on hlt (by omega)
          rw [hr] at hmem
          cases hmem
    have hcong : ∀ {α : Type} (f : Rec τ → List (Nat × α)) (B : List (Nat × α)) (t : Nat), asc (accS f qs 0 (fun j => li.getD j false) B) t = asc (accS f qs 0 (fun _ => true) B) t := by
      intro α f B t
      rw [asc_accS, asc_accS, lookS_congr f (f := fun j => li.getD j false) (f' := fun _ => true) (t := t) qs 0 fun j q hq _ => by
        rw [Nat.zero_add]
        refine hall j ?_
        have := (List.getElem?_eq_some_iff.1 hq).1
        omega]
    refine hQ ν h φ a w hnod hsize (M.congr fun k => ?_) hle1 hle2 (fun k h1 h2 => ?_) (hrf.env (fun t x hx => hE t x ?_))
    · rw [← accS_app, lk_asc, lk_asc, hcong]
    · rcases hν k h2 with h3 | ⟨j, q, h3, h4, h5, h6⟩
      · exact (h3 h1).elim
      · have := (c5 j q h3).2.2.2; omega
    · rw [hcong, ← c3]; exact hx
theorem draw_ok (hm : X.P.follows .mixedOrders = true) (hT : TyOk X) (hC : ∀ q ∈ X.cs, COk X.P X.G q.1 q.2) (hN : X.n ≤ gh) {id : Nat} {l : List Oper} {Q : Exit → Act → World → Prop} {K : EnvX τ → Hp τ → Nat → Option ρ}
    (hK : ∀ E L nid a w, K E L nid = some r → St X w0 h0 F E L nid a w → Q .normal a w) (e : dopsX X l 0 l [] E L nid K = some r) (s : St X w0 h0 F E L nid a w) : (Code.region id l.toArray true).wp X.P Q a w := by
  obtain ⟨qs, Eb', L', nid', E', hch, hrf, hok, hfin⟩ := dpath (w0 := w0) (h0 := h0) (F := F) hT hC e (Ref.refl E)
  obtain ⟨c1, _, _, c4, _, _⟩ := Chain.get 0 hch
  obtain ⟨ν, h, φ, M, hE, hn⟩ := s.st
  refine draw_core hm hN hch hrf hok (T := qs.flatMap (·.t)) (fun q hq _ k hk => List.mem_flatMap.2 ⟨q, hq, hk⟩) s.nodef s.size M hE (fun _ _ => rfl) (fun k h1 _ => hn k h1) fun ν' h' φ' a' w' h1 h2 M' _ _ hfr hE' => ?_
  refine hK E' L' nid' a' w' hfin ⟨h1, h2, ν', h', φ', by rw [c4, accS_app]; exact M', hE', fun k hk => ?_⟩
  cases hνk : ν' k with
  | none => rfl
  | some y =>
    have := hfr k (hn k (by omega)) (by rw [hνk]; simp)
    omega
end
end Go.Rk
end
section
namespace Go.Rk
open Go.RowKit Go.Dm Go.Dk
variable {τ : Nat → Type}
section
variable {ρ : Type} {X : Cx τ} {w0 w w' : World} {h0 h h' H : Fz} {F : List Nat} {E E' Eb : EnvX τ} {L L2 : Hp τ} {ν ν' : Vn τ} {φ φ' : Nat → List Nat} {nid nid' : Nat} {r : ρ} {a : Act}
def SlV (X : Cx τ) (a : Act) (t : Nat) (ty : Ty) (v : Value) : Prop := (Nat.blt t gh = true → (∀ x y, ty ≠ .pr x y) → a.tmps[t]? = some v) ∧ (gb ≤ t → v = ptr (t - gb) 0) ∧ (gh ≤ t → t < 20000 → v = X.fx (t - gh))
def SlVs (X : Cx τ) (a : Act) : Pl → List Value → Prop
  | [], vs => vs = []
  | (t, ty) :: l, vs => ∃ v us, vs = v :: us ∧ SlV X a t ty v ∧ SlVs X a l us
theorem resX_gv {G : Sig τ} {t : Ty} {A : XV τ} {q : t.den τ × List Nat × List Nat} (k : resX G L t A = some q) : (∀ x y, t ≠ .pr x y) → isGv A = false := by
  intro hne
  unfold resX at k
  split at k
  · rfl
  · rfl
  · exact (hne _ _ rfl).elim
  · cases k
theorem leaf_ok (M : Mem X.P X.G w0 h0 F L w ν h φ) (hE : EnvOk X h ν a E) (hH : h.le H) : ∀ {l : Pl} {p : DP τ l.ts} {m n : List Nat}, leaf X.G E L l = some (p, m, n) → (∀ b ∈ fps φ n, H b = w.heap[b]?) → nod m = true → ∃ vs, TrXs X.P X.G H w l.ts p vs (fps φ m) ∧ SlVs X a l vs
  | [], p, m, n, e, _, _ => by cases e; exact ⟨[], .nil, rfl⟩
  | (t, ty) :: l, p, m, n, e, hb, hn => by
    unfold leaf at e
    split at e
    · rename_i A hA
      split at e
      · rename_i x m1 n1 hx
        split at e
        · rename_i q m2 n2 hq
          cases e
          obtain ⟨k1, k2, k3⟩ := nod_app hn
          obtain ⟨v, h1, h2, h3, h4⟩ := hE t A hA
          obtain ⟨vs, g1, g2⟩ := leaf_ok M hE hH hq (fun b hb' => hb b (by rw [fps_append]; exact List.mem_append_right _ hb')) k2
          refine ⟨v :: vs, ?_, v, vs, rfl, ⟨fun a1 a2 => h2 a1 (resX_gv hx a2), h3, h4⟩, g2⟩
          rw [fps_append]
          refine .cons ty _ _ v vs _ _ ?_ ?_ (M.fps_dis k3)
          · rw [DP.hd_mk]; exact resX_ok (L := L) M hH hx (fun _ _ => rfl) ⟨fun _ _ => rfl, fun b hb' => hb b (by rw [fps_append]; exact List.mem_append_left _ hb')⟩ k1 h1
          · rw [DP.tl_mk]; exact g1
        · cases e
      · cases e
    · cases e
theorem packE_ok {P : Program} (hP : X.P = P) : ∀ {l : Pl} {p : DP τ l.ts} {nid : Nat} {E : EnvX τ} {L : Hp τ} {nid' : Nat} {vs : List Value} {fp : List Nat} {L0 : Hp τ} {ν : Vn τ} {φ : Nat → List Nat}, packE X.G l p nid = (E, L, nid') → Mem X.P X.G w0 h0 F L0 w ν h φ → TrXs X.P X.G h w l.ts p vs fp → SlVs X a l vs →
    Free w0 h F φ fp → (∀ i, nid ≤ i → i < nid' → ν i = none) → nid ≤ nid' ∧ ∃ ν' φ', Adds X.P X.G w0 h0 F L0 w ν h φ L nid nid' fp ν' φ' ∧ EnvOk X h ν' a E
  | [], p, nid, E, L, nid', vs, fp, L0, ν, φ, e, M, ht, hs, hf, hn => by
    cases e
    exact ⟨Nat.le_refl _, ν, φ, (Grew.nil M _ _).adds, fun t x e => by cases e⟩
  | (t, ty) :: l, p, nid, E, L, nid', vs, fp, L0, ν, φ, e, M, ht, hs, hf, hn => by
    unfold packE at e
    split at e
    rename_i A U n1 h1
    split at e
    rename_i E2 L2 n2 h2
    cases e
    obtain ⟨v, us, rfl, s1, s2⟩ := hs
    cases ht with
    | cons _ _ _ _ _ f f' t1 t2 hd =>
      have l1 := expX_le h1
      have hle2 : n1 ≤ nid' := packE_le h2
      obtain ⟨_, ν1, φ1, A1, e1⟩ := packE_ok hP h2 M t2 s2 (hf.sub fun b hb => List.mem_append_right _ hb) (fun i a b => hn i (by omega) b)
      obtain ⟨ν2, φ2, A2, hx⟩ := expX_ok A1.mem h1 t1 (fun i a b => by
        cases e : ν1 i with
        | none => rfl
        | some y =>
          have := A1.fresh i (hn i a (by omega)) (by rw [e]; simp)
          omega) (Free.adds A1 (hf.sub fun b hb => List.mem_append_left _ hb) hd)
      refine ⟨by omega, ν2, φ2, Adds.seq A1 A2 l1 hle2, fun t' x e => ?_⟩
      simp only [asc] at e
      cases hb : Nat.beq t t' with
      | true =>
        rw [hb] at e
        cases e
        have : t = t' := by simpa using hb
        subst this
        refine ⟨v, hx, fun a1 a2 => s1.1 a1 fun x y hxy => ?_, s1.2⟩
        subst hxy
        cases h1
        cases a2
      | false =>
        rw [hb] at e
        exact (e1 t' x e).le (Fz.le.refl _) A2.le
where
  packE_le : ∀ {l : Pl} {p : DP τ l.ts} {nid : Nat} {E : EnvX τ} {L : Hp τ} {nid' : Nat}, packE X.G l p nid = (E, L, nid') → nid ≤ nid'
  | [], p, nid, E, L, nid', e => by cases e; exact Nat.le_refl _
  | (t, ty) :: l, p, nid, E, L, nid', e => by
    unfold packE at e
    split at e
    rename_i A U n1 h1
    split at e
    rename_i E2 L2 n2 h2
    cases e
    exact Nat.le_trans (expX_le h1) (packE_le h2)
theorem glE_ok (hg : GlOk X.P X.G h) (hgl : ∀ p ∈ X.G.gl, True) : EnvOk X h ν a (glE X.G.gl) := by
  intro t x e
  obtain ⟨p, hp, hpe⟩ := List.mem_map.1 (asc_mem e)
  cases hpe
  obtain ⟨vs, h1, h2⟩ := hg.1 p hp
  refine ⟨ptr p.1 0, ⟨p.1, 0, vs, rfl, h1, h2⟩, fun h => ?_, fun _ => by rw [Nat.add_sub_cancel_left], fun h1 h2 => ?_⟩
  · exfalso
    simp only [Nat.blt_eq, gb, gh] at h
    omega
  · exfalso
    simp only [gb] at h2
    omega
theorem EnvOk.app (h1 : EnvOk X h ν a E) (h2 : EnvOk X h ν a E') : EnvOk X h ν a (E ++ E') := by
  intro t x e
  rw [asc_app] at e
  cases hE : asc E t with
  | some y => rw [hE] at e; cases e; exact h1 t _ hE
  | none => rw [hE] at e; exact h2 t x e
def SameV (X : Cx τ) (a : Act) (E : EnvX τ) (s t : Nat) : Prop := ∀ (h : Fz) (ν : Vn τ) x, asc E t = some x → SlotOk X h ν a t x → SlotOk X h ν a s x
theorem alias_ok (hE : EnvOk X h ν a E) : ∀ {al : List (Nat × Nat)}, (∀ p ∈ al, SameV X a E p.1 p.2) → EnvOk X h ν a (alias E al)
  | [], _ => hE
  | (s, t) :: al, hs => by
    have ih := alias_ok hE (al := al) fun p hp => hs p (List.mem_cons_of_mem _ hp)
    unfold alias
    split
    · rename_i v hv
      intro t' x e
      simp only [asc] at e
      cases hb : Nat.beq s t' with
      | true =>
        rw [hb] at e
        cases e
        have : s = t' := by simpa using hb
        subst this
        exact hs _ (List.mem_cons_self ..) h ν _ hv (hE t _ hv)
      | false => rw [hb] at e; exact ih t' x e
    · exact ih
theorem Mem.none (M : Mem X.P X.G w0 h0 F L w ν h φ) (hH : h.le H) (hon : H.on w) (hnew : ∀ b, H b ≠ none → h b ≠ none ∨ b ∈ F ∨ w0.heap.size ≤ b) : Mem X.P X.G w0 h0 F [] w (fun _ => Option.none) H (fun _ => []) :=
  ⟨M.os, M.tape, M.output, M.size, M.frame, M.le.trans hH, hon, fun b hb => by
    rcases hnew b hb with h1 | h1
    · exact M.new b h1
    · exact .inr h1, fun _ => rfl, (fun _ _ _ h => by cases h), (fun _ _ h => by cases h), M.gl.le hH, M.fp⟩
theorem sameX_ok {x y : XV τ} {v u : Value} (hs : sameX (some x) (some y) = true) (hx : XOk X.P X.G h ν x v) (hy : XOk X.P X.G h ν y u) : v = u := by
  unfold sameX at hs
  split at hs
  · rename_i i j h1 h2
    cases h1; cases h2
    have : i = j := by simpa using hs
    subst this
    obtain ⟨u1, q1, a1, a2, _⟩ := hx
    obtain ⟨u2, q2, b1, b2, _⟩ := hy
    rw [a1] at b1
    cases b1
    rw [a2, b2]
  · rename_i i j h1 h2
    cases h1; cases h2
    have : i = j := by simpa using hs
    subst this
    obtain ⟨_, _, _, _, a1, a2⟩ := hx
    obtain ⟨_, _, _, _, b1, b2⟩ := hy
    rw [a1] at b1
    cases b1
    rw [a2, b2]
  · cases hs
theorem alike_ok (hE : EnvOk X h ν a E) {al : List (Nat × Nat)} (e : alike E al = true) : ∀ p ∈ al, p.2 < 20000 ∧ ∃ v, (Nat.blt p.1 gh = true → a.tmps[p.1]? = some v) ∧ (Nat.blt p.2 gh = true → a.tmps[p.2]? = some v) ∧ ((gb ≤ p.1 → v = ptr (p.1 - gb) 0) ∧ (gh ≤ p.1 → p.1 < 20000 → v = X.fx (p.1 - gh))) ∧ ((gb ≤ p.2 → v = ptr (p.2 - gb) 0) ∧ (gh ≤ p.2 → p.2 < 20000 → v = X.fx (p.2 - gh))) := by
  intro p hp
  have hs := List.all_eq_true.1 e p hp
  simp only [Bool.and_eq_true, Nat.blt_eq] at hs
  obtain ⟨hlt, hs⟩ := hs
  cases h1 : asc E p.1 with
  | none => rw [h1] at hs; cases hs
  | some x =>
    cases h2 : asc E p.2 with
    | none => rw [h1, h2] at hs; simp [sameX] at hs
    | some y =>
      rw [h1, h2] at hs
      obtain ⟨v, a1, a2, a3⟩ := hE _ _ h1
      obtain ⟨u, b1, b2, b3⟩ := hE _ _ h2
      have := sameX_ok hs a1 b1
      subst this
      have gx : isGv x = false := by cases x <;> first | rfl | (simp [sameX] at hs)
      have gy : isGv y = false := by cases y <;> first | rfl | (cases x <;> simp [sameX] at hs; done) | (exfalso; unfold sameX at hs; split at hs <;> first | (rename_i h3; cases h3; done) | (rename_i _ h3; cases h3; done) | cases hs)
      exact ⟨hlt, v, fun h => a2 h gx, fun h => b2 h gy, a3, b3⟩
theorem cut_ok {l : Pl} {al : List (Nat × Nat)} {f : DP τ l.ts → Option ρ} (s : St X w0 h0 F E L nid a w) (e : cutK X.G l al f E L = some r) :
    ∃ p, f p = some r ∧ ∀ (K : EnvX τ → Hp τ → Nat → Option ρ), fromE X.G l al p K = some r → ∃ E' L' nid', K E' L' nid' = some r ∧ St X w0 h0 F E' L' nid' a w := by
  unfold cutK hi at e
  split at e
  · rename_i p m n hl
    obtain ⟨hb, e⟩ := bc_t e
    simp only [Bool.and_eq_true] at hb
    obtain ⟨⟨hnod, hdis⟩, hal⟩ := hb
    refine ⟨p, e, fun K e2 => ?_⟩
    obtain ⟨ν, h, φ, M, hE, hn⟩ := s.st
    obtain ⟨vs, ht, hs⟩ := leaf_ok M hE (M.lend_le n) hl (fun b hb => lend_in hb) hnod
    have hdis' := M.fps_dis (disj_spec hdis)
    unfold fromE hi at e2
    split at e2
    rename_i E1 L1 n1 hp
    have M0 := M.none (M.lend_le n) (lend_on M.on) (fun b hb => by
      by_cases hbn : b ∈ fps φ n
      · obtain ⟨i, _, hi⟩ := mem_fps.1 hbn
        exact .inr (M.out i b hi).2
      · rw [lend_out hbn] at hb; exact .inl hb)
    have hfree : Free w0 (lend h w (fps φ n)) F (fun _ => []) (fps φ m) := fun b hb => by
      obtain ⟨i, _, hi⟩ := mem_fps.1 hb
      refine ⟨(fun _ h => by cases h), ?_, (M.out i b hi).2⟩
      rw [lend_out (hdis' b hb)]; exact (M.out i b hi).1
    obtain ⟨_, ν', φ', A, hE1⟩ := packE_ok (X := X) rfl hp M0 ht hs hfree (fun _ _ _ => rfl)
    refine ⟨_, _, _, e2, s.nodef, s.size, ν', _, φ', ?_, (alias_ok hE1 fun q hq => ?_).app (glE_ok M0.gl fun _ _ => trivial), fun i hi => ?_⟩
    · have := A.mem; rwa [List.append_nil] at this
    · obtain ⟨hlt, v, a1, a2, a3, a4⟩ := alike_ok hE hal q hq
      intro h2 ν2 x hx hsl
      by_cases hgv : isGv x = true
      · exact gv_slot hgv
      · obtain ⟨u, b1, b2, b3, b4⟩ := hsl
        have huv : u = v := by
          cases hg : Nat.blt q.2 gh with
          | true =>
            have h3 := a2 hg
            rw [b2 hg (by simpa using hgv)] at h3
            exact Option.some.inj h3
          | false =>
            have hge : gh ≤ q.2 := by
              have : ¬ q.2 < gh := by rw [← Nat.blt_eq, hg]; simp
              omega
            rw [b4 hge hlt, a4.2 hge hlt]
        subst huv
        exact ⟨u, b1, fun h _ => a1 h, a3⟩
    · cases e : ν' i with
      | none => rfl
      | some y =>
        have := A.fresh i rfl (by rw [e]; simp)
        omega
  · cases e

theorem evC_tmp {t : Nat} {c : CV τ} (hc : evC E (.tmp t) = some c) : asc E t = some (.c c) := by
  have hc : (match (bif Nat.blt t gh then asc E t else none) with
    | some (.c c) => some c
    | _ => none) = some c := hc
  cases hb : Nat.blt t gh with
  | false => rw [hb] at hc; cases hc
  | true =>
    rw [hb] at hc
    dsimp only [cond_true] at hc
    split at hc
    · rename_i c' hc'
      cases hc
      exact hc'
    · cases hc
def exT : Ex → Exit
  | .no => .normal
  | .ex id => .exit id
  | .rt => .ret
def KOk (X : Cx τ) (w0 : World) (h0 : Fz) (F : List Nat) (K : Kx τ ρ) (Q : Exit → Act → World → Prop) (r : ρ) : Prop := ∀ e E L nid a w, K e E L nid = some r → St X w0 h0 F E L nid a w → Q (exT e) a w
theorem KOk.thn {K : Kx τ ρ} {Q : Exit → Act → World → Prop} {next : Act → World → Prop} {K0 : EnvX τ → Hp τ → Nat → Option ρ} (hK : KOk X w0 h0 F K Q r) (h0' : ∀ E L nid a w, K0 E L nid = some r → St X w0 h0 F E L nid a w → next a w) :
    KOk X w0 h0 F (fun e E L nid => match e with
      | .no => K0 E L nid
      | e => K e E L nid) (Exit.then next Q) r := by
  intro e E L nid a w he s
  cases e with
  | no => exact h0' E L nid a w he s
  | ex id => exact hK (.ex id) E L nid a w he s
  | rt => exact hK .rt E L nid a w he s
theorem exX_ok (hm : X.P.follows .mixedOrders = true) (hT : TyOk X) (hC : ∀ q ∈ X.cs, COk X.P X.G q.1 q.2) (hN : X.n ≤ gh) (c : Code) : ∀ (hn : Hn τ ρ) (K : Kx τ ρ) (Q : Exit → Act → World → Prop) (E : EnvX τ) (L : Hp τ) (nid : Nat) (a : Act) (w : World),
    exX X c hn E L nid K = some r → hn.giv = runs X c hn K → KOk X w0 h0 F K Q r → St X w0 h0 F E L nid a w → c.wp X.P Q a w := by
  induction c with
  | skip =>
    intro hn K Q E L nid a w e _ hK s
    exact wp_skip (hK .no E L nid a w e s)
  | region id ops d =>
    intro hn K Q E L nid a w e _ hK s
    obtain ⟨l⟩ := ops
    cases d with
    | true => exact draw_ok hm hT hC hN (fun E L nid a w h s => hK .no E L nid a w h s) e s
    | false => exact wp_region_list (opsX_ok hT hC hN (fun E L nid a w h s => hK .no E L nid a w h s) e s)
  | seq x y ihx ihy =>
    intro hn K Q E L nid a w e hg hK s
    have two : ∀ (h1 h2 : Hn τ ρ), exX X x h1 E L nid (thenK X y h2 K) = some r → h1.giv = runs X x h1 (thenK X y h2 K) → h2.giv = runs X y h2 K → (Code.seq x y).wp X.P Q a w := by
      intro h1 h2 e g1 g2
      refine wp_seq (ihx h1 _ _ E L nid a w e g1 (hK.thn fun E L nid a w he s => ihy h2 K Q E L nid a w he g2 hK s) s)
    cases hn with
    | e => exact two .e .e e rfl rfl
    | q h1 h2 =>
      have hg' : (h1.giv, h2.giv) = (runs X x h1 (thenK X y h2 K), runs X y h2 K) := hg
      injection hg' with g1 g2
      exact two h1 h2 e g1 g2
    | n k h1 =>
      cases k with
      | zero => exact two .e .e e rfl rfl
      | succ k =>
        cases k with
        | zero => exact two .e h1 e rfl hg
        | succ k => exact two .e (.n (k + 1) h1) e rfl hg
    | w l al f h1 => exact two .e .e e rfl rfl
    | j l al f h1 h2 =>
      have hg' : (f, h1.giv, h2.giv) = ((fun t => fromE X.G l al t fun E L nid => exX X y h2 E L nid K), runs X x h1 (cutT X l al f K), runs X y h2 K) := hg
      injection hg' with g0 g12
      injection g12 with g1 g2
      refine wp_seq (ihx h1 (cutT X l al f K) _ E L nid a w e g1 (hK.thn fun E L nid a w he s => ?_) s)
      obtain ⟨p, hp, hcut⟩ := cut_ok s he
      have hp2 := congrFun g0 p
      rw [hp] at hp2
      obtain ⟨E', L', nid', h3, s'⟩ := hcut _ hp2.symm
      exact ihy h2 K Q E' L' nid' a w h3 g2 hK s'
  | cond c x y ihx ihy =>
    intro hn K Q E L nid a w e hg hK s
    have g1 : hn.fst.giv = runs X x hn.fst K := by
      cases hn with
      | q h1 h2 =>
        have hg' : (h1.giv, h2.giv) = (runs X x h1 K, runs X y h2 K) := hg
        injection hg' with g1 _
      | _ => rfl
    have g2 : hn.sn2.giv = runs X y hn.sn2 K := by
      cases hn with
      | q h1 h2 =>
        have hg' : (h1.giv, h2.giv) = (runs X x h1 K, runs X y h2 K) := hg
        injection hg' with _ g2
      | _ => rfl
    obtain ⟨ν, h, φ, M, hE, hnn⟩ := s.st
    obtain ⟨Ea, hf, hl⟩ := envA a s.nodef
    unfold exX at e
    split at e
    · rename_i b hc
      obtain ⟨v, h1, h2⟩ := evC_of hl (hE.on _) hc
      obtain rfl : v = _ := h2
      cases b with
      | true => exact wp_cond_true (hf.ev h1) (ihx hn.fst K Q E L nid a w e g1 hK s)
      | false => exact wp_cond_false (hf.ev h1) (ihy hn.sn2 K Q E L nid a w e g2 hK s)
    · rename_i b hc
      obtain ⟨v, h1, h2⟩ := evC_of hl (hE.on _) hc
      obtain rfl : v = _ := h2
      split at e
      · rename_i t
        have ha : asc E t = some (.c (.b b)) := evC_tmp hc
        cases b with
        | true =>
          rw [if_pos rfl] at e
          exact wp_cond_true (hf.ev h1) (ihx hn.fst K Q _ L nid a w e g1 hK (s.ref ((Ref.refl E).known ha)))
        | false =>
          rw [if_neg (by simp)] at e
          exact wp_cond_false (hf.ev h1) (ihy hn.sn2 K Q _ L nid a w e g2 hK (s.ref ((Ref.refl E).known ha)))
      · cases e
    · cases e
  | block id c ih =>
    intro hn K Q E L nid a w e hg hK s
    refine wp_block (ih hn (blkK id K) _ E L nid a w e hg (fun e E L nid a w he s => ?_) s)
    cases e with
    | no => exact hK .no E L nid a w he s
    | rt => exact hK .rt E L nid a w he s
    | ex i =>
      unfold blkK at he
      simp only at he
      cases hb : Nat.beq i id with
      | true =>
        rw [hb] at he
        have : i = id := by simpa using hb
        subst this
        exact exit_here (hK .no E L nid a w he s)
      | false =>
        rw [hb] at he
        exact exit_past hb (hK (.ex i) E L nid a w he s)
  | loop c ih =>
    intro hn K Q E L nid a w e hg hK s
    cases hn with
    | w l al f h1 =>
      have hg' : ((fun n t => f (n + 1) t), (fun t => f 0 t), fun n => (h1 n).giv) = ((fun n t => fromE X.G l al t fun E L nid => exX X c (h1 n) E L nid (cutT X l al (f n) K)), (fun _ => none), fun n => runs X c (h1 n) (cutT X l al (f n) K)) := hg
      injection hg' with g0 g12
      injection g12 with g1 g2
      have key : ∀ (n : Nat) (a : Act) (w : World), (∃ E L nid, cutK X.G l al (f n) E L = some r ∧ St X w0 h0 F E L nid a w) → c.wp X.P (Exit.then (fun a' w' => ∃ m, m < n ∧ ∃ E L nid, cutK X.G l al (f m) E L = some r ∧ St X w0 h0 F E L nid a' w') Q) a w := by
        rintro n a w ⟨E, L, nid, he, s⟩
        obtain ⟨p, hp, hcut⟩ := cut_ok s he
        cases n with
        | zero =>
          have := congrFun g1 p
          rw [hp] at this; cases this
        | succ n =>
          have hp2 := congrFun (congrFun g0 n) p
          rw [hp] at hp2
          obtain ⟨E', L', nid', h3, s'⟩ := hcut _ hp2.symm
          exact ih (h1 n) (cutT X l al (f n) K) _ E' L' nid' a w h3 (congrFun g2 n) (hK.thn fun E L nid a w he s => ⟨n, Nat.lt_succ_self n, E, L, nid, he, s⟩) s'
      exact wp_loop_n (fun n a w => ∃ E L nid, cutK X.G l al (f n) E L = some r ∧ St X w0 h0 F E L nid a w) key fuel ⟨E, L, nid, e, s⟩
    | e => cases e
    | q h1 h2 => cases e
    | n k h1 => cases e
    | j l al f h1 h2 => cases e
  | exit id =>
    intro hn K Q E L nid a w e _ hK s
    exact wp_exit (hK (.ex id) E L nid a w e s)
  | ret =>
    intro hn K Q E L nid a w e _ hK s
    exact wp_ret (hK .rt E L nid a w e s)
  | rangeFunc _ _ _ _ _ _ => intro hn K Q E L nid a w e; cases e
  | scope _ _ => intro hn K Q E L nid a w e; cases e
  | label _ => intro hn K Q E L nid a w e; cases e
  | goto _ => intro hn K Q E L nid a w e; cases e
  | refuse _ => intro hn K Q E L nid a w e; cases e
end
end Go.Rk
end
section
namespace Go.Rk
open Go.RowKit Go.Dm Go.Dk
variable {τ : Nat → Type}
section
variable {ρ : Type} {X : Cx τ} {w0 w w' : World} {h0 h h' H : Fz} {F : List Nat} {E E' Eb : EnvX τ} {L L2 : Hp τ} {ν ν' : Vn τ} {φ φ' : Nat → List Nat} {nid nid' : Nat} {a : Act}
theorem run_mapM {P : Program} {α : Type} {f : α → Sem Value} : ∀ {l : List α} {vs : List Value}, l.length = vs.length → (∀ (i : Nat) x v, l[i]? = some x → vs[i]? = some v → (f x).run P w = .ok v w) → (l.mapM f).run P w = .ok vs w
  | [], [], _, _ => by simp
  | x :: l, v :: vs, hl, h => by
    have h1 := h 0 x v rfl rfl
    have h2 := run_mapM (f := f) (l := l) (vs := vs) (by simpa using hl) fun i x v a b => h (i + 1) x v (by simpa using a) (by simpa using b)
    simp [List.mapM_cons, h1, h2, Result.andThen]
  | [], _ :: _, h, _ => by simp at h
  | _ :: _, [], h, _ => by simp at h
def rv1 (tmps : Array Value) : ResultVar → Sem Value
  | .tmp t => pure (tmps.getD t undef)
  | .cell a t => do loadVar t (← asAddr (tmps.getD a undef))
theorem results_eq (fn : Func) (tmps : Array Value) : results fn tmps = (do
    let vs ← fn.results.mapM (rv1 tmps)
    pure (if h : vs.size = 1 then vs[0] else .tuple vs)) := by
  unfold results
  have : (fun x => match x with
    | ResultVar.tmp t => pure (tmps.getD t undef)
    | ResultVar.cell a t => do loadVar t (← asAddr (tmps.getD a undef))) = rv1 tmps := funext fun x => by cases x <;> rfl
  rw [← this]
  rfl
theorem results_run {fn : Func} {rv : List ResultVar} {tmps : Array Value} {vs : List Value} (hr : fn.results = ⟨rv⟩) (hl : rv.length = vs.length) (h : ∀ (i : Nat) x v, rv[i]? = some x → vs[i]? = some v → (rv1 tmps x).run X.P w = .ok v w) : (results fn tmps).run X.P w = .ok (retV vs) w := by
  have h1 := run_mapM (P := X.P) (w := w) hl h
  have h2 : (fn.results.mapM (rv1 tmps)).run X.P w = .ok vs.toArray w := by
    rw [hr]
    simp [h1, Result.andThen]
  have h3 : ∀ u : List Value, (if h : u.toArray.size = 1 then u.toArray[0] else Value.tuple u.toArray) = retV u := by
    intro u
    match u with
    | [] => rfl
    | [v] => rfl
    | v :: v' :: u => rfl
  rw [results_eq, Sem.run_bind, h2]
  simp only [Result.andThen_ok, Sem.run_pure, h3]
theorem outX_ok (M : Mem X.P X.G w0 h0 F L w ν h φ) (hE : EnvOk X h ν a E) : ∀ {rv : List ResultVar} {xs : List (XV τ)}, outX X E L rv = some xs → (∀ y ∈ xs, isGv y = false) → ∃ vs : List Value, rv.length = vs.length ∧ vs.length = xs.length ∧ (∀ (i : Nat) x v, rv[i]? = some x → vs[i]? = some v → (rv1 a.tmps x).run X.P w = .ok v w) ∧ ∀ (i : Nat) A v, xs[i]? = some A → vs[i]? = some v → XOk X.P X.G h ν A v
  | [], xs, e, _ => by cases e; exact ⟨[], rfl, rfl, (fun i x v h => by simp at h), fun i A v h => by simp at h⟩
  | .tmp t :: rv, xs, e, hgv => by
    unfold outX at e
    obtain ⟨hlt, e⟩ := bc_t e
    split at e
    · rename_i A hA
      split at e
      · rename_i As hAs
        cases e
        obtain ⟨vs, h1, h2, h3, h4⟩ := outX_ok M hE hAs fun y hy => hgv y (List.mem_cons_of_mem _ hy)
        obtain ⟨v, g1, g2, _⟩ := hE t A hA
        have g2 := g2 hlt (hgv A (List.mem_cons_self ..))
        refine ⟨v :: vs, by simp [h1], by simp [h2], fun i x u hx hu => ?_, fun i B u hB hu => ?_⟩
        · cases i with
          | zero =>
            simp at hx hu
            subst hx; subst hu
            simp [rv1, Array.getD_eq_getD_getElem?, g2]
          | succ i => exact h3 i x u (by simpa using hx) (by simpa using hu)
        · cases i with
          | zero => simp at hB hu; subst hB; subst hu; exact g1
          | succ i => exact h4 i B u (by simpa using hB) (by simpa using hu)
      · cases e
    · cases e
  | .cell t ty :: rv, xs, e, hgv => by
    unfold outX at e
    obtain ⟨hlt, e⟩ := bc_t e
    split at e
    · rename_i id hA
      split at e
      · rename_i bt cs hl
        split at e
        · rename_i n hn
          split at e
          · rename_i A hone
            split at e
            · rename_i As hAs
              cases e
              obtain ⟨vs, h1, h2, h3, h4⟩ := outX_ok M hE hAs fun y hy => hgv y (List.mem_cons_of_mem _ hy)
              obtain ⟨pv, g1, g2, _⟩ := hE t _ hA
              have g2 := g2 hlt rfl
              obtain ⟨b, q, us, hν, rfl, _, hh, hcs, hs⟩ := pt_blk M g1 hl
              have hld : ∃ u, (loadVar ty ⟨b, 0, none⟩).run X.P w = .ok u w ∧ XOk X.P X.G h ν A u := by
                unfold oneO at hone
                split at hone
                · rename_i l hcut
                  obtain ⟨k1, k2⟩ := hcs.cut hcut
                  have hlen := cutL_len hcut
                  split at hone
                  · rename_i hag
                    cases hone
                    refine ⟨_, run_loadVarN (isA_ok hag) (szO_ok hn) (vs := (us.drop 0).take n) (by rw [k1.len, hlen]) (fun j v hj => ?_), _, rfl, k1⟩
                    have := hs.cells (o := 0) (n := n) rfl j v hj
                    simpa using this
                  · rename_i hag
                    split at hone
                    · rename_i c
                      cases hone
                      obtain ⟨u, us', k3, k4, _⟩ := k1
                      refine ⟨u, run_loadVar1 (isA_ok hag) (hs.cell (o := 0) ?_), k4⟩
                      have : ((us.drop 0).take n)[0]? = some u := by rw [k3]; rfl
                      rw [List.getElem?_take] at this
                      split at this
                      · simpa using this
                      · cases this
                    · cases hone
                  · cases hone
                · cases hone
              obtain ⟨u, k1, k2⟩ := hld
              refine ⟨u :: vs, by simp [h1], by simp [h2], fun i x u' hx hu => ?_, fun i B u' hB hu => ?_⟩
              · cases i with
                | zero =>
                  simp at hx hu
                  subst hx; subst hu
                  simp [rv1, Array.getD_eq_getD_getElem?, g2, asAddr, k1, Result.andThen]
                | succ i => exact h3 i x u' (by simpa using hx) (by simpa using hu)
              · cases i with
                | zero => simp at hB hu; subst hB; subst hu; exact k2
                | succ i => exact h4 i B u' (by simpa using hB) (by simpa using hu)
            · cases e
          · cases e
        · cases e
      · cases e
    · cases e
theorem backs_ok (hE : EnvOk X h ν a E) : ∀ {js : List Nat} {xs : List (XV τ)}, backs E js = some xs → xs.length = js.length ∧ ∀ (i : Nat) A v, xs[i]? = some A → (js.map X.fx)[i]? = some v → XOk X.P X.G h ν A v
  | [], xs, e => by cases e; exact ⟨rfl, fun i A v h => by simp at h⟩
  | j :: js, xs, e => by
    unfold backs at e
    obtain ⟨hlt, e⟩ := bc_t e
    split at e
    · rename_i A hA
      split at e
      · rename_i As hAs
        cases e
        obtain ⟨h1, h2⟩ := backs_ok hE hAs
        obtain ⟨v, g1, _, _, g2⟩ := hE _ A hA
        have hj : j < gh := by simpa using hlt
        have hv : v = X.fx j := by
          have := g2 (Nat.le_add_right ..) (by unfold gh at hj ⊢; omega)
          rwa [Nat.add_sub_cancel_left] at this
        subst hv
        refine ⟨by simp [h1], fun i B u hB hu => ?_⟩
        cases i with
        | zero => simp at hB hu; subst hB; subst hu; exact g1
        | succ i => exact h2 i B u (by simpa using hB) (by simpa using hu)
      · cases e
    · cases e

theorem packP_ok : ∀ {ts : List Ty} {p : DP τ ts} {i0 : Nat} {nid : Nat} {E : EnvX τ} {L : Hp τ} {nid' : Nat} {vs : List Value} {fp : List Nat} {L0 : Hp τ} {ν : Vn τ} {φ : Nat → List Nat}, packP X.G i0 ts p nid = (E, L, nid') → Mem X.P X.G w0 h0 F L0 w ν h φ → TrXs X.P X.G h w ts p vs fp → (∀ (j : Nat) v, vs[j]? = some v → a.tmps[i0 + j]? = some v) →
    i0 + ts.length ≤ gh → Free w0 h F φ fp → (∀ i, nid ≤ i → i < nid' → ν i = none) → nid ≤ nid' ∧ (∃ ν' φ', Adds X.P X.G w0 h0 F L0 w ν h φ L nid nid' fp ν' φ' ∧ EnvOk X h ν' a E) ∧ ∀ t x, asc E t = some x → i0 ≤ t ∧ t < i0 + ts.length
  | [], p, i0, nid, E, L, nid', vs, fp, L0, ν, φ, e, M, ht, hs, hlt, hf, hn => by
    cases e
    exact ⟨Nat.le_refl _, ⟨ν, φ, (Grew.nil M _ _).adds, fun t x e => by cases e⟩, fun t x e => by cases e⟩
  | ty :: ts, p, i0, nid, E, L, nid', vs, fp, L0, ν, φ, e, M, ht, hs, hlt, hf, hn => by
    unfold packP at e
    split at e
    rename_i A U n1 h1
    split at e
    rename_i E2 L2 n2 h2
    cases e
    simp only [List.length_cons] at hlt
    cases ht with
    | cons _ _ _ v us f f' t1 t2 hd =>
      have l1 := expX_le h1
      have hle2 : n1 ≤ nid' := packP_le h2
      obtain ⟨_, ⟨ν1, φ1, A1, e1⟩, hk⟩ := packP_ok h2 M t2 (fun j v hj => by have := hs (j + 1) v (by simpa using hj); rwa [show i0 + (j + 1) = i0 + 1 + j by omega] at this) (by omega) (hf.sub fun b hb => List.mem_append_right _ hb) (fun i a b => hn i (by omega) b)
      obtain ⟨ν2, φ2, A2, hx⟩ := expX_ok A1.mem h1 t1 (fun i a b => by
        cases e : ν1 i with
        | none => rfl
        | some y =>
          have := A1.fresh i (hn i a (by omega)) (by rw [e]; simp)
          omega) (Free.adds A1 (hf.sub fun b hb => List.mem_append_left _ hb) hd)
      refine ⟨by omega, ⟨ν2, φ2, Adds.seq A1 A2 l1 hle2, fun t' x e => ?_⟩, fun t' x e => ?_⟩
      · simp only [asc] at e
        cases hb : Nat.beq i0 t' with
        | true =>
          rw [hb] at e
          cases e
          have : i0 = t' := by simpa using hb
          subst this
          refine ⟨v, hx, fun _ _ => ?_, fun h => ?_, fun h => ?_⟩
          · have := hs 0 v rfl; rwa [Nat.add_zero] at this
          · exfalso; unfold gb at h; unfold gh at hlt; omega
          · exfalso; omega
        | false =>
          rw [hb] at e
          exact (e1 t' x e).le (Fz.le.refl _) A2.le
      · simp only [asc] at e
        simp only [List.length_cons]
        cases hb : Nat.beq i0 t' with
        | true =>
          have : i0 = t' := by simpa using hb
          omega
        | false =>
          rw [hb] at e
          have := hk t' x e
          omega
where
  packP_le : ∀ {ts : List Ty} {p : DP τ ts} {i0 nid : Nat} {E : EnvX τ} {L : Hp τ} {nid' : Nat}, packP X.G i0 ts p nid = (E, L, nid') → nid ≤ nid'
  | [], p, i0, nid, E, L, nid', e => by cases e; exact Nat.le_refl _
  | ty :: ts, p, i0, nid, E, L, nid', e => by
    unfold packP at e
    split at e
    rename_i A U n1 h1
    split at e
    rename_i E2 L2 n2 h2
    cases e
    exact Nat.le_trans (expX_le h1) (packP_le h2)
theorem TrXs.len {P : Program} {G : Sig τ} : ∀ {ts : List Ty} {q : DP τ ts} {vs : List Value} {fp : List Nat}, TrXs P G h w ts q vs fp → vs.length = ts.length
  | _, _, _, _, .nil => rfl
  | _, _, _, _, .cons _ _ _ _ _ _ _ _ h2 _ => by simp [h2.len]
theorem resXs_gv {G : Sig τ} : ∀ {ts : List Ty} {As : List (XV τ)} {q : DP τ ts × List Nat × List Nat}, resXs G L ts As = some q → (∀ t ∈ ts, ∀ x y, t ≠ .pr x y) → ∀ y ∈ As, isGv y = false
  | [], [], _, _, _, y, hy => by cases hy
  | t :: ts, A :: As, q, e, hp, y, hy => by
    unfold resXs at e
    split at e
    · rename_i x l m hx
      split at e
      · rename_i q' hq
        rcases List.mem_cons.1 hy with rfl | hy
        · exact resX_gv hx (hp t (List.mem_cons_self ..))
        · exact resXs_gv hq (fun t ht => hp t (List.mem_cons_of_mem _ ht)) y hy
      · cases e
    · cases e
  | [], _ :: _, _, e, _, _, _ => by cases e
  | _ :: _, [], _, e, _, _, _ => by cases e
def noPr : Ty → Bool
  | .pr _ _ => false
  | _ => true
structure FnOkk (X : Cx τ) (f : FuncId) (fn : Func) (c : Code) (rv : List ResultVar) (k : Con τ) : Prop where
  at_ : X.P.funcs[f]? = some fn
  body : fn.body = some c
  name : (fn.name == "runtime.NumGoroutine") = false
  size : fn.ntmps = X.n
  small : X.n ≤ gh
  pars : k.ps.length ≤ X.n
  rs : fn.results = ⟨rv⟩
  pr : k.rs.all noPr = true
theorem fact_ok {f : FuncId} {fn : Func} {c : Code} {rv : List ResultVar} {k : Con τ} {hn : Hn τ (DP τ k.rs)} (hm : X.P.follows .mixedOrders = true) (hT : TyOk X) (hC : ∀ q ∈ X.cs, COk X.P X.G q.1 q.2) (hf : FnOkk X f fn c rv k) (hF : Fact X k c rv hn) : COk X.P X.G f k := by
  refine ⟨⟨fn, hf.at_, by rw [hf.body]; rfl, hf.name⟩, fun h w p r vs fp hgl hfp hon htr hnone hr => ?_⟩
  refine calls_of_wp hf.at_ hf.body ?_
  have hfact := hF fun i => vs.getD i undef
  injection hfact with f1 f2
  have f1 := congrFun f1 p
  rw [hr] at f1
  have hT2 : TyOk (X.w fun i => vs.getD i undef) := ⟨hT.el, hT.eq⟩
  unfold entX at f1
  split at f1
  rename_i E0 L0 n0 hp
  have hlen := htr.len
  have M0 : Mem (X.w fun i => vs.getD i undef).P (X.w fun i => vs.getD i undef).G w h fp [] w (fun _ => none) h (fun _ => []) :=
    ⟨rfl, rfl, rfl, Nat.le_refl _, fun _ _ _ => rfl, Fz.le.refl _, hon, fun b hb => .inl hb, fun _ => rfl, (fun _ _ _ h => by cases h), (fun _ _ h => by cases h), hgl, hfp⟩
  have htm : ∀ (j : Nat) v, vs[j]? = some v → (vs.toArray ++ Array.replicate (fn.ntmps - vs.toArray.size) undef)[0 + j]? = some v := by
    intro j v hj
    rw [Nat.zero_add, Array.getElem?_append_left (by simpa using (List.getElem?_eq_some_iff.1 hj).1)]
    simpa using hj
  obtain ⟨_, ⟨ν', φ', A, hE0⟩, hk⟩ := packP_ok (X := X.w fun i => vs.getD i undef) (a := ⟨vs.toArray ++ Array.replicate (fn.ntmps - vs.toArray.size) undef, []⟩) hp M0 htr htm (by have := hf.pars; have := hf.small; simp only [Nat.zero_add]; exact Nat.le_trans hf.pars hf.small) (fun b hb => ⟨(fun _ h => by cases h), hnone b hb, .inl hb⟩) (fun _ _ _ => rfl)
  have hsz : (vs.toArray ++ Array.replicate (fn.ntmps - vs.toArray.size) undef).size = X.n := by
    have := hf.pars
    have := hf.size
    simp; omega
  have hS : St (X.w fun i => vs.getD i undef) w h fp (alias E0 (ghosts k.bk) ++ glE X.G.gl) L0 n0 ⟨vs.toArray ++ Array.replicate (fn.ntmps - vs.toArray.size) undef, []⟩ w := by
    refine ⟨rfl, hsz, ν', h, φ', by have := A.mem; rwa [List.append_nil] at this, (alias_ok hE0 fun q hq => ?_).app (glE_ok hgl fun _ _ => trivial), fun i hi => ?_⟩
    · obtain ⟨j, _, rfl⟩ := List.mem_map.1 hq
      intro h2 ν2 x hx hs
      by_cases hgv : isGv x = true
      · exact gv_slot hgv
      · obtain ⟨v, b1, b2, _⟩ := hs
        have hj := hk j x hx
        have hjg : j < gh := by have := hf.pars; have := hf.small; omega
        have hv := b2 (by rw [Nat.blt_eq]; exact hjg) (by simpa using hgv)
        refine ⟨v, b1, fun h => ?_, fun h => ?_, fun _ _ => ?_⟩
        · exfalso; rw [Nat.blt_eq] at h; omega
        · exfalso; unfold gb gh at *; omega
        · rw [Nat.add_sub_cancel_left]
          have hjl : j < vs.length := by omega
          have h3 := htm j _ (List.getElem?_eq_getElem hjl)
          rw [Nat.zero_add] at h3
          rw [h3] at hv
          cases hv
          show _ = vs.getD j undef
          rw [List.getD_eq_getElem?_getD, List.getElem?_eq_getElem hjl]; rfl
    · cases e : ν' i with
      | none => rfl
      | some y =>
        have := A.fresh i rfl (by rw [e]; simp)
        omega
  refine exX_ok (X := X.w fun i => vs.getD i undef) (w0 := w) (h0 := h) (F := fp) hm hT2 hC hf.small c hn _ (bodyPost X.P fn _) _ L0 n0 _ w f1.symm f2 ?_ hS
  -- the end
  intro e E L nid a w' he s
  have key : ∀ {xs ws : List (XV τ)} {l m : List Nat}, outX (X.w fun i => vs.getD i undef) E L rv = some xs → backs E k.bk = some ws → resXs X.G L k.rs (xs ++ ws) = some (r, l, m) → (Nat.beq xs.length k.nr && (nod l && disj l m)) = true →
      a.defers = [] ∧ ∃ v, (results fn a.tmps).run X.P w' = .ok v w' ∧ ∃ h' rs fp', Ending.returned v = .returned (retV (rs.take k.nr)) ∧ Left h w fp h' w' fp' ∧ TrXs X.P X.G h' w' k.rs r rs fp' ∧ rs.drop k.nr = k.bk.map fun j => vs.getD j undef := by
    intro xs ws l m ho hb hres hck
    simp only [Bool.and_eq_true, Nat.beq_eq] at hck
    obtain ⟨hnr, hnod, hdis⟩ := hck
    obtain ⟨ν, h1, φ, M, hE, _⟩ := s.st
    have hgv := resXs_gv hres fun t ht x y e => by
      have := List.all_eq_true.1 hf.pr t ht
      rw [e] at this; cases this
    obtain ⟨vals, o1, o2, o3, o4⟩ := outX_ok M hE ho fun y hy => hgv y (List.mem_append_left _ hy)
    obtain ⟨b1, b2⟩ := backs_ok hE hb
    have hall : ∀ (i : Nat) (A : XV τ) (v : Value), (xs ++ ws)[i]? = some A → (vals ++ k.bk.map fun j => vs.getD j undef)[i]? = some v → XOk X.P X.G h1 ν A v := by
      intro i A v hA hv
      by_cases hi : i < xs.length
      · rw [List.getElem?_append_left hi] at hA
        rw [List.getElem?_append_left (by omega)] at hv
        exact o4 i A v hA hv
      · rw [List.getElem?_append_right (by omega)] at hA
        rw [List.getElem?_append_right (by omega), o2] at hv
        exact b2 _ A v hA hv
    have htr := resXs_ok (L := L) M (M.lend_le m) hres (fun _ _ => rfl) (M.look fun _ _ => rfl) hnod (by simp [o2, b1]) hall
    refine ⟨s.nodef, retV vals, results_run (X := X) hf.rs o1 o3, lend h1 w' (fps φ m), _, fps φ l, ?_, ⟨M.os, M.tape, M.output, M.size, M.frame, M.le.trans (M.lend_le m), lend_on M.on, fun b hb => ?_, fun b hb => ?_⟩, htr, ?_⟩
    · rw [List.take_append_of_le_length (by omega), List.take_of_length_le (by omega)]
    · by_cases hbm : b ∈ fps φ m
      · obtain ⟨i, _, hi⟩ := mem_fps.1 hbm
        exact .inr (M.out i b hi).2
      · rw [lend_out hbm] at hb; exact M.new b hb
    · obtain ⟨i, _, hi⟩ := mem_fps.1 hb
      rw [lend_out (M.fps_dis (disj_spec hdis) b hb)]
      exact M.out i b hi
    · rw [List.drop_append, List.drop_eq_nil_of_le (by omega), List.nil_append, show k.nr - vals.length = 0 by omega, List.drop_zero]
  have fin : (match outX (X.w fun i => vs.getD i undef) E L rv with
    | some vs => match backs E k.bk with
      | some ws => match resXs X.G L k.rs (vs ++ ws) with
        | some (p, l, m) => bc (Nat.beq vs.length k.nr && (nod l && disj l m)) (some p) none
        | none => none
      | none => none
    | none => none) = some r → a.defers = [] ∧ ∃ v, (results fn a.tmps).run X.P w' = .ok v w' ∧ ∃ h' rs fp', Ending.returned v = .returned (retV (rs.take k.nr)) ∧ Left h w fp h' w' fp' ∧ TrXs X.P X.G h' w' k.rs r rs fp' ∧ rs.drop k.nr = k.bk.map fun j => vs.getD j undef := by
    intro he
    split at he
    · rename_i xs ho
      split at he
      · rename_i ws hb
        split at he
        · rename_i q l m hres
          obtain ⟨hck, he⟩ := bc_t he
          cases he
          exact key ho hb hres hck
        · cases he
      · cases he
    · cases he
  cases e with
  | ex id => cases he
  | no => exact fin he
  | rt => exact fin he
end
end Go.Rk
end
section
namespace Go.Rk
open Go.RowKit Go.Dm Go.Dk
variable {τ : Nat → Type} {ρ : Type}
abbrev Kz (τ : Nat → Type) (ρ : Type) := Ex → EnvX τ → Hp τ → List Nat → Nat → Option ρ
abbrev OpF (τ : Nat → Type) (ρ : Type) := EnvX τ → Hp τ → Nat → Nx τ ρ → Op → Option ρ
def frN {α : Type} (n : Nat) (k : Nat → α) : α := match n with
  | 0 => k 0
  | n + 1 => k (n + 1)
def opsZ (op : OpF τ ρ) (n : Nat) (all : List Oper) : List Oper → EnvX τ → Hp τ → List Nat → Nat → (EnvX τ → Hp τ → List Nat → Nat → Option ρ) → Option ρ
  | [], E, L, T, nid, K => K E L T nid
  | o :: l, E, L, T, nid, K => bc (dOk n o.dst) (guardX all E o.guard
      (fun E => op E L nid (fun v g U t nid => frN nid fun nid => opsZ op n all l (nextE l o.dst v g E) (U ++ L) (t ++ T) nid K) o.op)
      fun E => opsZ op n all l (unT E o.dst) L T nid K) none
def dopsZ (op : OpF τ ρ) (n : Nat) (all : List Oper) : Nat → List Oper → List Dr → EnvX τ → Hp τ → List Nat → Nat → (EnvX τ → Hp τ → List Nat → Nat → Option ρ) → Option ρ
  | _, [], R, E, L, T, nid, K => bc (drawOk all R) (K E L T nid) none
  | i, o :: l, R, E, L, T, nid, K => bc (dOk n o.dst) (guardX all E o.guard
      (fun E => op E L nid (fun v g U t nid => frN nid fun nid => dopsZ op n all (i + 1) l (⟨i, o.dst, readsO all o, t ++ kys U, kys U⟩ :: R) (nextE l o.dst v g E) (U ++ L) (t ++ T) nid K) o.op)
      fun E => dopsZ op n all (i + 1) l (⟨i, o.dst, readsO all o, [], []⟩ :: R) (unT E o.dst) L T nid K) none
def cmU (lo hi : Nat) : List Nat → Hp τ → Hp τ
  | _, [] => []
  | sn, (k, v) :: U => bif mem sn k then cmU lo hi sn U else match v with
    | .gone => bif Nat.ble lo k && Nat.blt k hi then cmU lo hi (k :: sn) U else (k, .gone) :: cmU lo hi (k :: sn) U
    | v => (k, v) :: cmU lo hi (k :: sn) U
def dd (lo hi : Nat) : List Nat → List Nat → List Nat
  | _, [] => []
  | sn, t :: T => bif mem sn t || (Nat.ble lo t && Nat.blt t hi) then dd lo hi sn T else t :: dd lo hi (t :: sn) T
def cmT (lo hi : Nat) (L : Hp τ) (T : List Nat) : List Nat := bif L.all fun p => Nat.blt p.1 lo then dd lo hi [] T else T
def gvB : XV τ → Bool
  | .gv _ _ => true
  | _ => false
def Cx.wn (X : Cx τ) (n : Nat) : Cx τ := ⟨X.P, X.G, X.ty, X.cs, n, X.fx⟩
def nfE : List Nat → EnvX τ → (EnvX τ → Option ρ) → Option ρ
  | _, [], K => K []
  | sn, (t, v) :: E, K => bc (mem sn t) (nfE sn E K) (nfE (t :: sn) E fun E => K ((t, v) :: E))
def argE : Nat → List (XV τ) → EnvX τ
  | _, [] => []
  | i, v :: vs => (i, v) :: argE (i + 1) vs
def inCs (G : Sig τ) (L : Hp τ) (f : FuncId) (avs : List (XV τ)) (cs : Cons τ) : Bool := cs.any fun p => bif Nat.beq p.1 f then (match resXs G L p.2.ps avs with
  | some (_, l, m) => nod l && disj l m
  | none => false) else false
def outI (E : EnvX τ) : List ResultVar → List Nat
  | [] => []
  | .tmp _ :: rs => outI E rs
  | .cell t _ :: rs => match asc E t with
    | some (.c (.pt id 0)) => id :: outI E rs
    | _ => outI E rs
abbrev InF (τ : Nat → Type) (ρ : Type) := Nat → Code → EnvX τ → Hp τ → List Nat → Nat → Kz τ ρ → Option ρ
def inl (X : Cx τ) (ih : InF τ ρ) (L : Hp τ) (nid : Nat) (K : Nx τ ρ) (f : FuncId) (avs : List (XV τ)) (T : List Nat) : Option ρ := match X.P.funcs[f]? with
  | some fn => match fn.body with
    | some c => bc (Nat.ble avs.length fn.ntmps && Nat.ble fn.ntmps gh) (ih fn.ntmps c (argE 0 avs ++ glE X.G.gl) L T nid fun e E L' T nid' => match e with
      | .ex _ => none
      | _ => match outX X E L' fn.results.toList with
        | some vs => bc (vs.any gvB) none (match tupX vs with
          | some v => K v [] (cmU nid nid' [] (L'.take (L'.length - L.length))) (cmT nid nid' L (outI E fn.results.toList ++ T)) nid'
          | none => none)
        | none => none) none
    | none => none
  | none => none
def evCs (E : EnvX τ) : List Operand → Option (List (CV τ))
  | [] => some []
  | x :: xs => match evC E x with
    | some c => match evCs E xs with
      | some cs => some (c :: cs)
      | none => none
    | none => none
def rowZ (L : Hp τ) : CV τ → Option ((e : Ty) × List (e.den τ) × List Nat)
  | .sl e xs => some ⟨e, xs, []⟩
  | .os id => match lk L id with
    | .row _ e xs _ => some ⟨e, xs, [id]⟩
    | .fz e xs => some ⟨e, xs, [id]⟩
    | .vw i k e _ xs => match lk L i with
      | .row _ _ _ k' => bif Nat.beq k k' then some ⟨e, xs, [id, i]⟩ else none
      | _ => none
    | _ => none
  | _ => none
def nilZ (G : Sig τ) (L : Hp τ) (c : CV τ) : Option (Bool × List Nat) := match c with
  | .n0 => some (true, [])
  | c => match rowZ L c with
    | some ⟨e, _ :: _, ids⟩ => match ets G e with
      | _ :: _ => some (false, ids)
      | [] => none
    | _ => none
def partZ (E : EnvX τ) (e : Ty) (xs : List (e.den τ)) : Option Operand → Option Operand → Option (Nat × List (e.den τ))
  | some y, some z => match evC E y with
    | some (.i i) => match evC E z with
      | some (.i j) => match lSub xs i j with
        | some s => some (i.toNat, s)
        | none => none
      | _ => none
    | _ => none
  | some y, none => match evC E y with
    | some (.i i) => match lFrom xs i with
      | some s => some (i.toNat, s)
      | none => none
    | _ => none
  | none, some z => match evC E z with
    | some (.i j) => match lTo xs j with
      | some s => some (0, s)
      | none => none
    | _ => none
  | none, none => none
def sliZ (X : Cx τ) (E : EnvX τ) (L : Hp τ) (nid : Nat) (K : Nx τ ρ) (id : Nat) (te : TypeId) (lo hi : Option Operand) : Option ρ := match lk L id with
  | .row _ e xs k => bc (szE X te e) (match partZ E e xs lo hi with
    | some (i, s) => K (.c (.os nid)) [] [(nid, .vw id k e i s)] [id] (nid + 1)
    | none => none) none
  | _ => none
def vwB : AR τ → Bool
  | .vw _ _ _ _ _ => true
  | _ => false
def rvB : AR τ → Bool
  | .vw _ _ _ _ _ => true
  | .row _ _ _ _ => true
  | _ => false
def ixZ (X : Cx τ) (L : Hp τ) (nid : Nat) (K : Nx τ ρ) (id : Nat) (te : TypeId) (m : Int) : Option ρ := match lk L id with
  | .vw i k e lo xs => match lk L i with
    | .row _ _ _ k' => bc (Nat.beq k k' && szE X te e) ((lAt xs m).bind fun z => K (.c (.oe i k (lo + m.toNat : Nat) e z 0)) [] [] [id, i] nid) none
    | _ => none
  | _ => none
def opZ (X : Cx τ) (ih : InF τ ρ) : OpF τ ρ := fun E L nid K o => match o with
  | .binOp b t x y u => match evX E y with
    | some (.c .n0) => match X.P.underlying t with
      | some (.slice _) => match evC E x with
        | some c => match nilZ X.G L c with
          | some (z, ids) => match okX (eqO b z) with
            | some v => K v [] [] ids nid
            | none => none
          | none => none
        | none => none
      | _ => none
    | _ => opX X E L nid K (.binOp b t x y u)
  | .call ⟨.value f, ⟨args⟩, ats⟩ => match evC E f with
    | some (.fn g) => match evXs E args with
      | some avs => bc (inCs X.G L g avs X.cs) (callX X L nid K g avs X.cs) (inl X ih L nid K g avs [])
      | none => none
    | some (.cf id) => match lk L id with
      | .clo g cs => match evXs E args with
        | some avs => inl X ih L nid K g (avs ++ cs.map .c) [id]
        | none => none
      | _ => none
    | _ => opX X E L nid K o
  | .slice t x lo hi none => match evC E x with
    | some (.os id) => bc (rvB (lk L id)) (match X.P.underlying t with
      | some (.slice te) => sliZ X E L nid K id te lo hi
      | _ => none) (opX X E L nid K (.slice t x lo hi none))
    | _ => opX X E L nid K (.slice t x lo hi none)
  | .indexAddr t x y => match evC E x with
    | some (.os id) => bc (vwB (lk L id)) (match elO X.P t with
      | some te => match evC E y with
        | some (.i m) => ixZ X L nid K id te m
        | _ => none
      | none => none) (opX X E L nid K (.indexAddr t x y))
    | _ => opX X E L nid K (.indexAddr t x y)
  | .call ⟨.builtin .len, ⟨[x]⟩, ⟨[t]⟩⟩ => match evC E x with
    | some (.os id) => match lk L id with
      | .vw _ _ _ _ xs => match elO X.P t with
        | some _ => K (.c (.i (xs.length : Int))) [] [] [id] nid
        | none => none
      | _ => opX X E L nid K (.call ⟨.builtin .len, ⟨[x]⟩, ⟨[t]⟩⟩)
    | _ => opX X E L nid K (.call ⟨.builtin .len, ⟨[x]⟩, ⟨[t]⟩⟩)
  | .makeFunc (.func f) ⟨[]⟩ ⟨caps⟩ => match evCs E caps with
    | some cs => K (.c (.cf nid)) [] [(nid, .clo f cs)] [] (nid + 1)
    | none => none
  | o => opX X E L nid K o
def inZ (X : Cx τ) : Nat → InF τ ρ
  | 0, _, _, _, _, _, _, _ => none
  | k + 1, n, c, E, L, T, nid, K => match c with
    | .skip => K .no E L T nid
    | .region _ ⟨l⟩ d => bc d (dopsZ (opZ X (inZ X k)) n l 0 l [] E L T nid (K .no)) (opsZ (opZ X (inZ X k)) n l l E L T nid (K .no))
    | .seq x y => inZ X k n x E L T nid fun e E L T nid => match e with
      | .no => inZ X k n y E L T nid K
      | e => K e E L T nid
    | .cond c x y => match evC E c with
      | some (.k b) => bc b (inZ X k n x E L T nid K) (inZ X k n y E L T nid K)
      | some (.b b) => match c with
        | .tmp s => if b = true then inZ X k n x ((s, .c (.k true)) :: E) L T nid K else inZ X k n y ((s, .c (.k false)) :: E) L T nid K
        | _ => none
      | _ => none
    | .block id c => inZ X k n c E L T nid fun e E L T nid => match e with
      | .ex i => bc (Nat.beq i id) (K .no E L T nid) (K (.ex i) E L T nid)
      | e => K e E L T nid
    | .loop c => inZ X k n c E L T nid fun e E L T nid => match e with
      | .no => nfE [] E fun E => inZ X k n (.loop c) E L T nid K
      | e => K e E L T nid
    | .exit id => K (.ex id) E L T nid
    | .ret => K .rt E L T nid
    | _ => none
def zrun (X : Cx τ) (k : Nat) (f : FuncId) (avs : List (XV τ)) : Option Bool := inl X (inZ X k) [] 0 (fun v _ _ _ _ => match v with
  | .c (.b b) => some b
  | .c (.k b) => some b
  | _ => none) f avs []
end Go.Rk
end
section
namespace Go.Rk
open Go.RowKit Go.Dm Go.Dk
variable {τ : Nat → Type}
section
variable {ρ : Type} {X : Cx τ} {w0 w w' : World} {h0 h h' H : Fz} {F : List Nat} {E E' Eb : EnvX τ} {L L2 : Hp τ} {ν ν' : Vn τ} {φ φ' : Nat → List Nat} {nid nid' : Nat} {r : ρ} {a : Act}
theorem frN_eq {α : Type} (n : Nat) (k : Nat → α) : frN n k = k n := by cases n <;> rfl
def OpOk (X : Cx τ) (w0 : World) (h0 : Fz) (F : List Nat) (op : OpF τ ρ) : Prop := ∀ (r : ρ) (o : Oper) (E : EnvX τ) (L : Hp τ) (nid : Nat) (K : Nx τ ρ), op E L nid K o.op = some r → Does X w0 h0 F o E L nid K r
def OkC (X : Cx τ) (w0 : World) (h0 : Fz) (F : List Nat) (W : (Exit → Act → World → Prop) → Act → World → Prop) (E : EnvX τ) (L : Hp τ) (nid : Nat) (e : Ex) (E2 : EnvX τ) (U : Hp τ) (T : List Nat) (nid2 : Nat) : Prop :=
  ∀ (L2 : Hp τ) (ν : Vn τ) (h : Fz) (φ : Nat → List Nat) (a : Act) (w : World) (Q : Exit → Act → World → Prop), a.defers = [] → a.tmps.size = X.n → Mem X.P X.G w0 h0 F L2 w ν h φ → EnvOk X h ν a E →
    (∀ i ∈ T, lk L2 i = lk L i) → (∀ i, nid ≤ i → i < nid2 → ν i = none) →
    (∀ ν' h' φ' a' w', a'.defers = [] → a'.tmps.size = X.n → Mem X.P X.G w0 h0 F (U ++ L2) w' ν' h' φ' → ν.le ν' → h.le h' → Fresh ν ν' nid nid2 → EnvOk X h' ν' a' E2 → Q (exT e) a' w') → W Q a w
theorem lk_same {U L L2 : Hp τ} {i : Nat} (h : lk L2 i = lk L i) : lk (U ++ L2) i = lk (U ++ L) i := by
  by_cases hi : i ∈ kys U
  · rw [lk_app_in _ hi, lk_app_in _ hi]
  · rw [lk_app_out _ hi, lk_app_out _ hi, h]
theorem fresh_lo {a b c : Nat} (hfr : Fresh ν ν' a b) (hn : ∀ i, a ≤ i → i < c → ν i = none) (hab : a ≤ b) : ∀ i, b ≤ i → i < c → ν' i = none := by
  intro i h1 h2
  cases e : ν' i with
  | none => rfl
  | some y =>
    have := hfr i (hn i (by omega) h2) (by rw [e]; simp)
    omega
theorem fresh_seq {ν'' : Vn τ} {a b c : Nat} (h1 : Fresh ν ν' a b) (h2 : Fresh ν' ν'' b c) (hab : a ≤ b) (hbc : b ≤ c) : Fresh ν ν'' a c := h1.trans h2 hab hbc
theorem OkC.seq {W W1 W2 : (Exit → Act → World → Prop) → Act → World → Prop} {E1 E2 : EnvX τ} {U1 U2 : Hp τ} {T1 T2 : List Nat} {n1 n2 : Nat} {e : Ex} (h1 : OkC X w0 h0 F W1 E L nid .no E1 U1 T1 n1) (h2 : OkC X w0 h0 F W2 E1 (U1 ++ L) n1 e E2 U2 T2 n2) (l1 : nid ≤ n1) (l2 : n1 ≤ n2)
    (hW : ∀ Q a w, W1 (Exit.then (W2 Q) Q) a w → W Q a w) : OkC X w0 h0 F W E L nid e E2 (U2 ++ U1) (T2 ++ T1) n2 := by
  intro L2 ν h φ a w Q hd hs M hE hT hn hQ
  refine hW Q a w (h1 L2 ν h φ a w _ hd hs M hE (fun i hi => hT i (List.mem_append_right _ hi)) (fun i a b => hn i a (by omega)) fun ν' h' φ' a' w' hd' hs' M' hν hh hfr hE' => ?_)
  refine h2 (U1 ++ L2) ν' h' φ' a' w' Q hd' hs' M' hE' (fun i hi => lk_same (hT i (List.mem_append_left _ hi))) (fresh_lo hfr hn l1) fun ν'' h'' φ'' a'' w'' hd'' hs'' M'' hν' hh' hfr' hE'' => ?_
  exact hQ ν'' h'' φ'' a'' w'' hd'' hs'' (by rw [List.append_assoc]; exact M'') (hν.trans hν') (hh.trans hh') (fresh_seq hfr hfr' l1 l2) hE''
theorem OkC.out {W W1 : (Exit → Act → World → Prop) → Act → World → Prop} {E1 : EnvX τ} {U1 : Hp τ} {T1 : List Nat} {n1 : Nat} {e e' : Ex} (h1 : OkC X w0 h0 F W1 E L nid e E1 U1 T1 n1)
    (hW : ∀ Q a w, (∀ Q', (∀ a' w', Q (exT e') a' w' → Q' (exT e) a' w') → W1 Q' a w) → W Q a w) : OkC X w0 h0 F W E L nid e' E1 U1 T1 n1 := by
  intro L2 ν h φ a w Q hd hs M hE hT hn hQ
  exact hW Q a w fun Q' hq => h1 L2 ν h φ a w Q' hd hs M hE hT hn fun ν' h' φ' a' w' hd' hs' M' hν hh hfr hE' => hq a' w' (hQ ν' h' φ' a' w' hd' hs' M' hν hh hfr hE')
theorem OkC.nil {W : (Exit → Act → World → Prop) → Act → World → Prop} {e : Ex} (hW : ∀ Q a w, Q (exT e) a w → W Q a w) : OkC X w0 h0 F W E L nid e E [] [] nid :=
  fun _ ν h φ a w Q hd hs M hE _ _ hQ => hW Q a w (hQ ν h φ a w hd hs M (Vn.le.refl _) (Fz.le.refl _) (Fresh.refl _ _ _) hE)
theorem OkC.ref {W : (Exit → Act → World → Prop) → Act → World → Prop} {E2 : EnvX τ} {U : Hp τ} {T : List Nat} {e : Ex} (hr : Ref E E') (h1 : OkC X w0 h0 F W E' L nid e E2 U T nid') : OkC X w0 h0 F W E L nid e E2 U T nid' :=
  fun L2 ν h φ a w Q hd hs M hE => h1 L2 ν h φ a w Q hd hs M (hr.env hE)
theorem opsZ_ok {op : OpF τ ρ} (hop : OpOk X w0 h0 F op) (hN : X.n ≤ gh) {all : List Oper} : ∀ {l : List Oper} {E : EnvX τ} {L : Hp τ} {T0 : List Nat} {nid : Nat} {K : EnvX τ → Hp τ → List Nat → Nat → Option ρ}, opsZ op X.n all l E L T0 nid K = some r →
    ∃ E2 U T nid2, K E2 (U ++ L) (T ++ T0) nid2 = some r ∧ nid ≤ nid2 ∧ OkC X w0 h0 F (fun Q a w => wpList X.P all.toArray Q l a w) E L nid .no E2 U T nid2
  | [], E, L, T0, nid, K, e => ⟨E, [], [], nid, e, Nat.le_refl _, OkC.nil fun Q a w h => h⟩
  | o :: l, E, L, T0, nid, K, e => by
    unfold opsZ at e
    obtain ⟨hd, e⟩ := bc_t e
    obtain ⟨m, E1, e, hr, hw⟩ := guardX_ok e
    cases m with
    | false =>
      simp only [Bool.false_eq_true, if_false] at e
      rw [unT_eq] at e
      obtain ⟨E2, U, T, n2, g1, g2, g3⟩ := opsZ_ok hop hN e
      refine ⟨E2, U, T, n2, g1, g2, fun L2 ν h φ a w Q hdf hs M hE hT hn hQ => ?_⟩
      have hwant := hw X h ν a o rfl (hE.on _)
      show wpList X.P all.toArray Q (o :: l) a w
      unfold wpList
      rw [hwant]
      simp only [Bool.false_eq_true, if_false]
      refine g3 L2 ν h φ _ w Q (by rw [put_def]; exact hdf) (by rw [put_size]; exact hs) M ?_ hT hn hQ
      exact newE_ok hN hd hs (fun _ h => by cases h) rfl fun t x e _ => hr.env hE t x e
    | true =>
      simp only [if_true] at e
      obtain ⟨v, g, U1, tch, n1, e1, hle, hg, hok⟩ := hop _ _ _ _ _ _ e
      simp only [frN_eq] at e1
      simp only [nextE_eq] at e1
      obtain ⟨E2, U, T, n2, g1, g2, g3⟩ := opsZ_ok hop hN e1
      refine ⟨E2, U ++ U1, T ++ tch, n2, by rw [List.append_assoc, List.append_assoc]; exact g1, by omega, fun L2 ν h φ a w Q hdf hs M hE hT hn hQ => ?_⟩
      have hwant := hw X h ν a o rfl (hE.on _)
      show wpList X.P all.toArray Q (o :: l) a w
      unfold wpList
      rw [hwant]
      simp only [if_true]
      left
      refine hok L2 ν h φ a w _ Q hdf M ((hr.env hE).on _) (fun i hi => hT i (List.mem_append_right _ hi)) (fun i h1 h2 => hn i h1 (by omega)) fun ν' h' φ' w' u M' hν hh hfr hv => ?_
      refine g3 (U1 ++ L2) ν' h' φ' _ w' Q (by rw [put_def]; exact hdf) (by rw [put_size]; exact hs) M' (newE_ok hN hd hs hg hv fun t x e _ => ((hr.env hE).le hh hν) t x e) (fun i hi => lk_same (hT i (List.mem_append_left _ hi))) (fresh_lo hfr hn hle) fun ν'' h'' φ'' a'' w'' hd'' hs'' M'' hν' hh' hfr' hE'' => ?_
      exact hQ ν'' h'' φ'' a'' w'' hd'' hs'' (by rw [List.append_assoc]; exact M'') (hν.trans hν') (hh.trans hh') (fresh_seq hfr hfr' hle g2) hE''
theorem dpathZ {op : OpF τ ρ} (hop : OpOk X w0 h0 F op) {all : List Oper} {K : EnvX τ → Hp τ → List Nat → Nat → Option ρ} : ∀ {l : List Oper} {i : Nat} {R : List Dr} {E Eb : EnvX τ} {L : Hp τ} {T0 : List Nat} {nid : Nat}, dopsZ op X.n all i l R E L T0 nid K = some r → Ref Eb E →
    ∃ qs Eb' L' nid' E' T, Chain X w0 h0 F all l Eb L nid qs Eb' L' nid' ∧ Ref Eb' E' ∧ drawOk all ((drs all i qs).reverse ++ R) = true ∧ K E' L' (T ++ T0) nid' = some r ∧ ∀ q ∈ qs, q.run = true → ∀ k ∈ q.t, k ∈ T
  | [], i, R, E, Eb, L, T0, nid, e, hr => by
    unfold dopsZ at e
    obtain ⟨h1, e⟩ := bc_t e
    exact ⟨[], Eb, L, nid, E, [], ⟨rfl, rfl, rfl⟩, hr, h1, e, fun q hq => by cases hq⟩
  | o :: l, i, R, E, Eb, L, T0, nid, e, hr => by
    unfold dopsZ at e
    obtain ⟨hd, e⟩ := bc_t e
    obtain ⟨m, E1, e, hr1, hw⟩ := guardX_ok e
    have hr2 := hr.trans hr1
    have hwant : ∀ (h : Fz) (ν : Vn τ) (a : Act), EnvOn X h ν a (gdR all o.guard) E → Region.wanted o (yielded all.toArray a.tmps) = m := fun h ν a => hw X h ν a o rfl
    cases m with
    | false =>
      simp only [Bool.false_eq_true, if_false] at e
      rw [unT_eq] at e
      obtain ⟨qs, Eb', L', nid', E', T, h1, h2, h3, h4, h5⟩ := dpathZ hop e (hr2.app _)
      refine ⟨⟨o, E, E1, L, nid, nid, .un, [], [], [], [], false⟩ :: qs, Eb', L', nid', E', T, ⟨rfl, rfl, rfl, ⟨hr, hr2, Nat.le_refl _, hd, hwant, (fun _ h => by cases h), fun _ => ⟨rfl, rfl⟩, fun h => by cases h⟩, h1⟩, h2, ?_, h4, fun q hq hrun k hk => ?_⟩
      · simpa [drs, kys] using h3
      · rcases List.mem_cons.1 hq with rfl | hq
        · cases hrun
        · exact h5 q hq hrun k hk
    | true =>
      simp only [if_true] at e
      obtain ⟨v, g, U, tch, n1, e1, hle, hg, hok⟩ := hop _ _ _ _ _ _ e
      simp only [frN_eq] at e1
      simp only [nextE_eq] at e1
      obtain ⟨qs, Eb', L', nid', E', T, h1, h2, h3, h4, h5⟩ := dpathZ hop e1 (hr2.app _)
      refine ⟨⟨o, E, E1, L, nid, n1, v, g, l, U, tch, true⟩ :: qs, Eb', L', nid', E', T ++ tch, ⟨rfl, rfl, rfl, ⟨hr, hr2, hle, hd, hwant, hg, (fun h => by cases h), fun _ => hok⟩, h1⟩, h2, ?_, by rw [List.append_assoc]; exact h4, fun q hq hrun k hk => ?_⟩
      · simpa [drs] using h3
      · rcases List.mem_cons.1 hq with rfl | hq
        · exact List.mem_append_right _ hk
        · exact List.mem_append_left _ (h5 q hq hrun k hk)
theorem dopsZ_ok (hm : X.P.follows .mixedOrders = true) (hN : X.n ≤ gh) {op : OpF τ ρ} (hop : OpOk X w0 h0 F op) {id : Nat} {l : List Oper} {T0 : List Nat} {K : EnvX τ → Hp τ → List Nat → Nat → Option ρ} (e : dopsZ op X.n l 0 l [] E L T0 nid K = some r) :
    ∃ E2 U T nid2, K E2 (U ++ L) (T ++ T0) nid2 = some r ∧ nid ≤ nid2 ∧ OkC X w0 h0 F (fun Q a w => (Code.region id l.toArray true).wp X.P Q a w) E L nid .no E2 U T nid2 := by
  obtain ⟨qs, Eb', L', nid', E', T, hch, hrf, hok, hfin, hTT⟩ := dpathZ hop e (Ref.refl E)
  obtain ⟨c1, _, _, c4, _, _⟩ := Chain.get 0 hch
  refine ⟨E', accS Rec.U qs 0 (fun _ => true) [], T, nid', by rw [← accS_app, ← c4]; exact hfin, c1, fun L2 ν h φ a w Q hd hs M hE hT hn hQ => ?_⟩
  exact draw_core hm hN hch hrf hok hTT hd hs M hE hT hn hQ
theorem nfE_ok : ∀ {E : EnvX τ} {sn : List Nat} {K : EnvX τ → Option ρ}, nfE sn E K = some r → ∃ E', K E' = some r ∧ ∀ t x, asc E' t = some x → asc E t = some x ∧ t ∉ sn
  | [], sn, K, e => ⟨[], e, fun t x h => by cases h⟩
  | (t, v) :: E, sn, K, e => by
    unfold nfE at e
    cases hm : mem sn t with
    | true =>
      rw [hm] at e
      obtain ⟨E', h1, h2⟩ := nfE_ok (K := K) (sn := sn) e
      refine ⟨E', h1, fun t' x hx => ?_⟩
      obtain ⟨h3, h4⟩ := h2 t' x hx
      refine ⟨?_, h4⟩
      have : Nat.beq t t' = false := nbeq_false.2 fun e => h4 (e ▸ mem_any.1 hm)
      simp only [asc, this, cond_false]; exact h3
    | false =>
      rw [hm] at e
      obtain ⟨E', h1, h2⟩ := nfE_ok (K := fun E => K ((t, v) :: E)) (sn := t :: sn) e
      refine ⟨_, h1, fun t' x hx => ?_⟩
      simp only [asc] at hx ⊢
      cases hb : Nat.beq t t' with
      | true =>
        rw [hb] at hx
        have : t = t' := by simpa using hb
        subst this
        exact ⟨hx, fun h => by rw [mem_any.2 h] at hm; cases hm⟩
      | false =>
        rw [hb] at hx
        obtain ⟨h3, h4⟩ := h2 t' x hx
        exact ⟨h3, fun h => h4 (List.mem_cons_of_mem _ h)⟩
theorem wn_env {n : Nat} {h : Fz} {ν : Vn τ} {a : Act} {E : EnvX τ} : EnvOk (X.wn n) h ν a E ↔ EnvOk X h ν a E := Iff.rfl
def Wm (P : Program) (m : Nat) : Code → (Exit → Act → World → Prop) → Act → World → Prop
  | .loop c, Q, a, w => Code.rounds P c Q m a w
  | c, Q, a, w => c.wp P Q a w
theorem Wm_wp {P : Program} {m : Nat} {c : Code} {Q : Exit → Act → World → Prop} {a : Act} {w : World} (h : Wm P m c Q a w) : c.wp P Q a w := by
  cases c with
  | loop c => exact wp_loop_rounds m h
  | _ => exact h
theorem OkC.wp {m : Nat} {c : Code} {E2 : EnvX τ} {U : Hp τ} {T : List Nat} {e : Ex} (h1 : OkC X w0 h0 F (Wm X.P m c) E L nid e E2 U T nid') : OkC X w0 h0 F (fun Q a w => c.wp X.P Q a w) E L nid e E2 U T nid' :=
  fun L2 ν h φ a w Q hd hs M hE hT hn hQ => Wm_wp (h1 L2 ν h φ a w Q hd hs M hE hT hn hQ)
def InOk (X : Cx τ) (w0 : World) (h0 : Fz) (F : List Nat) (ih : InF τ ρ) : Prop := ∀ (r : ρ) (n : Nat) (c : Code) (E : EnvX τ) (L : Hp τ) (T0 : List Nat) (nid : Nat) (K : Kz τ ρ), n ≤ gh → ih n c E L T0 nid K = some r →
  ∃ e E2 U T nid2 m, K e E2 (U ++ L) (T ++ T0) nid2 = some r ∧ nid ≤ nid2 ∧ OkC (X.wn n) w0 h0 F (Wm X.P m c) E L nid e E2 U T nid2
theorem cmU_lk {lo hi : Nat} : ∀ {U : Hp τ} {sn : List Nat} {L : Hp τ}, (∀ k, lo ≤ k → k < hi → lk L k = .gone) → ∀ k, k ∉ sn → lk (cmU lo hi sn U ++ L) k = lk (U ++ L) k
  | [], _, _, _, _, _ => rfl
  | (j, v) :: U, sn, L, hg, k, hk => by
    have skip : lk ((j, v) :: U ++ L) k = bif Nat.beq j k then v else lk (U ++ L) k := rfl
    have keep : ∀ (u : AR τ), lk ((j, u) :: cmU lo hi (j :: sn) U ++ L) k = bif Nat.beq j k then u else lk (U ++ L) k := by
      intro u
      show (bif Nat.beq j k then u else lk (cmU lo hi (j :: sn) U ++ L) k) = _
      cases hb : Nat.beq j k with
      | true => rfl
      | false =>
        have hne : ¬ j = k := nbeq_false.1 hb
        exact cmU_lk hg k fun h => by
          rcases List.mem_cons.1 h with h | h
          · exact hne h.symm
          · exact hk h
    rw [skip]
    unfold cmU
    cases hm : mem sn j with
    | true =>
      have hne : Nat.beq j k = false := nbeq_false.2 fun e => hk (e ▸ mem_any.1 hm)
      rw [hne]
      exact cmU_lk hg k hk
    | false =>
      simp only [cond_false]
      split
      · cases hb : (Nat.ble lo j && Nat.blt j hi) with
        | false => exact keep .gone
        | true =>
          simp only [cond_true]
          cases hjk : Nat.beq j k with
          | true =>
            have : j = k := by simpa using hjk
            subst this
            simp only [Bool.and_eq_true, Nat.ble_eq, Nat.blt_eq] at hb
            have hin : ∀ (U : Hp τ) (sn : List Nat), j ∈ sn → j ∉ kys (cmU lo hi sn U) := by
              intro U
              induction U with
              | nil => intro sn _ h; cases h
              | cons p U ih =>
                obtain ⟨i, v⟩ := p
                intro sn hs
                unfold cmU
                cases hmi : mem sn i with
                | true => exact ih sn hs
                | false =>
                  simp only [cond_false]
                  have hne : ¬ j = i := fun e => by rw [← e, mem_any.2 hs] at hmi; cases hmi
                  split
                  · cases (Nat.ble lo i && Nat.blt i hi) with
                    | true => exact ih _ (List.mem_cons_of_mem _ hs)
                    | false =>
                      intro h
                      rcases List.mem_cons.1 h with h | h
                      · exact hne h
                      · exact ih _ (List.mem_cons_of_mem _ hs) h
                  · intro h
                    rcases List.mem_cons.1 h with h | h
                    · exact hne h
                    · exact ih _ (List.mem_cons_of_mem _ hs) h
            rw [lk_app_out _ (hin U (j :: sn) (List.mem_cons_self ..)), hg j hb.1 hb.2]; rfl
          | false =>
            have hne : ¬ j = k := nbeq_false.1 hjk
            exact cmU_lk hg k fun h => by
              rcases List.mem_cons.1 h with h | h
              · exact hne h.symm
              · exact hk h
      · exact keep _
theorem dd_mem {lo hi : Nat} : ∀ {T : List Nat} {sn : List Nat} {t : Nat}, t ∈ T → t ∈ sn ∨ (lo ≤ t ∧ t < hi) ∨ t ∈ dd lo hi sn T
  | [], _, _, h => by cases h
  | s :: T, sn, t, h => by
    unfold dd
    cases hb : (mem sn s || (Nat.ble lo s && Nat.blt s hi)) with
    | true =>
      simp only [cond_true]
      rcases List.mem_cons.1 h with rfl | h
      · rw [Bool.or_eq_true, Bool.and_eq_true] at hb
        rcases hb with hb | hb
        · exact .inl (mem_any.1 hb)
        · exact .inr (.inl (by simpa using hb))
      · exact dd_mem h
    | false =>
      simp only [cond_false]
      rcases List.mem_cons.1 h with rfl | h
      · exact .inr (.inr (List.mem_cons_self ..))
      · rcases dd_mem (sn := s :: sn) h with h1 | h1 | h1
        · rcases List.mem_cons.1 h1 with rfl | h1
          · exact .inr (.inr (List.mem_cons_self ..))
          · exact .inl h1
        · exact .inr (.inl h1)
        · exact .inr (.inr (List.mem_cons_of_mem _ h1))
theorem cmT_ok {lo hi : Nat} {T : List Nat} (h : ∀ i ∈ cmT lo hi L T, lk L2 i = lk L i) (hg : ∀ i, lo ≤ i → i < hi → lk L2 i = .gone) : ∀ i ∈ T, lk L2 i = lk L i := by
  intro i hi'
  unfold cmT at h
  cases hb : (L.all fun p => Nat.blt p.1 lo) with
  | false => rw [hb] at h; exact h i hi'
  | true =>
    rw [hb] at h
    rcases dd_mem (lo := lo) (hi := hi) (sn := []) hi' with h1 | ⟨h1, h2⟩ | h1
    · cases h1
    · rw [hg i h1 h2]
      have : i ∉ kys L := fun hk => by
        obtain ⟨p, hp, rfl⟩ := List.mem_map.1 hk
        have := List.all_eq_true.1 hb p hp
        rw [Nat.blt_eq] at this; omega
      have h3 := lk_app_out (U := L) [] this
      rw [List.append_nil] at h3
      rw [h3]; rfl
    · exact h i h1
theorem argE_get : ∀ {avs : List (XV τ)} {i t : Nat} {A : XV τ}, asc (argE i avs) t = some A → i ≤ t ∧ avs[t - i]? = some A
  | [], _, _, _, h => by cases h
  | v :: vs, i, t, A, h => by
    simp only [argE, asc] at h
    cases hb : Nat.beq i t with
    | true =>
      rw [hb] at h
      have : i = t := by simpa using hb
      subst this
      cases h
      exact ⟨Nat.le_refl _, by simp⟩
    | false =>
      rw [hb] at h
      have hne : ¬ i = t := nbeq_false.1 hb
      obtain ⟨h1, h2⟩ := argE_get h
      refine ⟨by omega, ?_⟩
      rw [show t - i = (t - (i + 1)) + 1 by omega]; exact h2
def InlOk (X : Cx τ) (w0 : World) (h0 : Fz) (F : List Nat) (f : FuncId) (avs : List (XV τ)) (L : Hp τ) (nid : Nat) (v : XV τ) (U : Hp τ) (T : List Nat) (nid' : Nat) : Prop :=
  Callable X.P f ∧ ∀ (L2 : Hp τ) (ν : Vn τ) (h : Fz) (φ : Nat → List Nat) (w : World) (vals : List Value), Mem X.P X.G w0 h0 F L2 w ν h φ → vals.length = avs.length → (∀ (i : Nat) (A : XV τ) (u : Value), avs[i]? = some A → vals[i]? = some u → XOk X.P X.G h ν A u) →
    (∀ i ∈ T, lk L2 i = lk L i) → (∀ i, nid ≤ i → i < nid' → ν i = none) →
    Calls X.P f vals.toArray w fun e w' => ∃ u ν' h' φ', e = .returned u ∧ Mem X.P X.G w0 h0 F (U ++ L2) w' ν' h' φ' ∧ ν.le ν' ∧ h.le h' ∧ Fresh ν ν' nid nid' ∧ XOk X.P X.G h' ν' v u
theorem outX_congr {L' : Hp τ} {E : EnvX τ} : ∀ {rv : List ResultVar}, (∀ i ∈ outI E rv, lk L' i = lk L i) → outX X E L' rv = outX X E L rv
  | [], _ => rfl
  | .tmp t :: rv, h => by
    unfold outX
    rw [outX_congr (rv := rv) h]
  | .cell t ty :: rv, h => by
    unfold outI at h
    unfold outX
    split
    · rename_i id hx
      rw [hx] at h
      have h : ∀ i ∈ id :: outI E rv, lk L' i = lk L i := h
      rw [h id (List.mem_cons_self ..), outX_congr (rv := rv) fun i hi => h i (List.mem_cons_of_mem _ hi)]
    · rfl
theorem XsOk_of : ∀ {xs : List (XV τ)} {vs : List Value}, vs.length = xs.length → (∀ (i : Nat) (A : XV τ) (v : Value), xs[i]? = some A → vs[i]? = some v → XOk X.P X.G h ν A v) → XsOk X.P X.G h ν xs vs
  | [], vs, hl, _ => List.eq_nil_of_length_eq_zero hl
  | x :: xs, [], hl, _ => by simp at hl
  | x :: xs, v :: vs, hl, hv => ⟨v, vs, rfl, hv 0 x v rfl rfl, XsOk_of (by simpa using hl) fun i A u h1 h2 => hv (i + 1) A u h1 h2⟩
theorem gvB_eq {x : XV τ} : gvB x = isGv x := by cases x <;> rfl
theorem inl_ok (hNm : ∀ (f : FuncId) (fn : Func), X.P.funcs[f]? = some fn → (fn.name == "runtime.NumGoroutine") = false) {ih : InF τ ρ} (hih : InOk X w0 h0 F ih) {K : Nx τ ρ} {f : FuncId} {avs : List (XV τ)} {T0 : List Nat} (e : inl X ih L nid K f avs T0 = some r) :
    ∃ v U T nid', K v [] U T nid' = some r ∧ nid ≤ nid' ∧ InlOk X w0 h0 F f avs L nid v U T nid' ∧ ∀ {L2 : Hp τ}, (∀ i ∈ T, lk L2 i = lk L i) → (∀ i, nid ≤ i → i < nid' → lk L2 i = .gone) → ∀ i ∈ T0, lk L2 i = lk L i := by
  unfold inl at e
  split at e
  · rename_i fn hfn
    split at e
    · rename_i c hc
      obtain ⟨hb, e⟩ := bc_t e
      simp only [Bool.and_eq_true, Nat.ble_eq] at hb
      obtain ⟨ex, E2, U, T, n2, m, e, hle, hok⟩ := hih _ _ _ _ _ _ _ _ hb.2 e
      have main : ∀ {xs : List (XV τ)} {v : XV τ}, (∀ i, ex ≠ .ex i) → outX X E2 (U ++ L) fn.results.toList = some xs → xs.any gvB = false → tupX xs = some v → InlOk X w0 h0 F f avs L nid v (cmU nid n2 [] ((U ++ L).take ((U ++ L).length - L.length))) (cmT nid n2 L (outI E2 fn.results.toList ++ (T ++ T0))) n2 := by
        intro xs v hex ho hgv htp
        refine ⟨⟨fn, hfn, by rw [hc]; rfl, hNm f fn hfn⟩, fun L2 ν h φ w vals M hlen hvals hT hn => ?_⟩
        have htake : (U ++ L).take ((U ++ L).length - L.length) = U := by
          rw [List.length_append, Nat.add_sub_cancel]; exact List.take_left
        rw [htake]
        have hgone : ∀ i, nid ≤ i → i < n2 → lk L2 i = .gone := fun i h1 h2 => M.gone_of (hn i h1 h2)
        have hT' := cmT_ok hT hgone
        refine calls_of_wp hfn hc ?_
        have hsz : (vals.toArray ++ Array.replicate (fn.ntmps - vals.toArray.size) undef).size = fn.ntmps := by simp; omega
        refine Wm_wp (hok L2 ν h φ ⟨vals.toArray ++ Array.replicate (fn.ntmps - vals.toArray.size) undef, []⟩ w _ rfl hsz M ?_ (fun i hi => hT' i (List.mem_append_right _ (List.mem_append_left _ hi))) hn ?_)
        · refine EnvOk.app (X := X) (fun t x hx => ?_) (glE_ok M.gl fun _ _ => trivial)
          obtain ⟨_, h2⟩ := argE_get hx
          rw [Nat.sub_zero] at h2
          have hlt : t < avs.length := (List.getElem?_eq_some_iff.1 h2).1
          have hv : vals[t]? = some vals[t] := List.getElem?_eq_getElem (by omega)
          have hgh : t < gh := by omega
          refine ⟨vals[t], hvals t x _ h2 hv, fun _ _ => ?_, fun h => ?_, fun h => ?_⟩
          · show (vals.toArray ++ Array.replicate (fn.ntmps - vals.toArray.size) undef)[t]? = _
            rw [Array.getElem?_append_left (by simp; omega)]
            simp
          · exfalso; unfold gb gh at *; omega
          · exfalso; omega
        · intro ν' h' φ' a' w' hd' hs' M' hν hh hfr hE'
          have hgv2 : ∀ y ∈ xs, isGv y = false := fun y hy => by
            rw [← gvB_eq]
            cases hg : gvB y with
            | false => rfl
            | true => rw [List.any_eq_true.2 ⟨y, hy, hg⟩] at hgv; cases hgv
          have ho2 : outX X E2 (U ++ L2) fn.results.toList = some xs := by
            rw [outX_congr (L := U ++ L) fun i hi => lk_same (hT' i (List.mem_append_left _ hi))]; exact ho
          obtain ⟨vs, o1, o2, o3, o4⟩ := outX_ok (X := X) M' hE' ho2 hgv2
          have hres := results_run (X := X) (w := w') (fn := fn) (rv := fn.results.toList) (tmps := a'.tmps) rfl o1 o3
          have hpost : ∃ u ν2 h2 φ2, Ending.returned (retV vs) = .returned u ∧ Mem X.P X.G w0 h0 F (cmU nid n2 [] U ++ L2) w' ν2 h2 φ2 ∧ ν.le ν2 ∧ h.le h2 ∧ Fresh ν ν2 nid n2 ∧ XOk X.P X.G h2 ν2 v u :=
            ⟨_, ν', h', φ', rfl, M'.congr fun k => cmU_lk hgone k (by simp), hν, hh, hfr, tupX_ok htp (XsOk_of o2 o4)⟩
          cases ex with
          | no => exact ⟨hd', _, hres, hpost⟩
          | rt => exact ⟨hd', _, hres, hpost⟩
          | ex i => exact (hex i rfl).elim
      have done : ∀ {xs : List (XV τ)} {v : XV τ}, (∀ i, ex ≠ .ex i) → outX X E2 (U ++ L) fn.results.toList = some xs → xs.any gvB = false → tupX xs = some v → K v [] (cmU nid n2 [] ((U ++ L).take ((U ++ L).length - L.length))) (cmT nid n2 L (outI E2 fn.results.toList ++ (T ++ T0))) n2 = some r →
          ∃ v U T nid', K v [] U T nid' = some r ∧ nid ≤ nid' ∧ InlOk X w0 h0 F f avs L nid v U T nid' ∧ ∀ {L2 : Hp τ}, (∀ i ∈ T, lk L2 i = lk L i) → (∀ i, nid ≤ i → i < nid' → lk L2 i = .gone) → ∀ i ∈ T0, lk L2 i = lk L i :=
        fun hex ho hgv htp e => ⟨_, _, _, _, e, hle, main hex ho hgv htp, fun hT hg i hi => cmT_ok hT hg i (List.mem_append_right _ (List.mem_append_right _ hi))⟩
      have go : (∀ i, ex ≠ .ex i) → (match outX X E2 (U ++ L) fn.results.toList with
          | some vs => bc (vs.any gvB) none (match tupX vs with
            | some v => K v [] (cmU nid n2 [] ((U ++ L).take ((U ++ L).length - L.length))) (cmT nid n2 L (outI E2 fn.results.toList ++ (T ++ T0))) n2
            | none => none)
          | none => none) = some r → ∃ v U T nid', K v [] U T nid' = some r ∧ nid ≤ nid' ∧ InlOk X w0 h0 F f avs L nid v U T nid' ∧ ∀ {L2 : Hp τ}, (∀ i ∈ T, lk L2 i = lk L i) → (∀ i, nid ≤ i → i < nid' → lk L2 i = .gone) → ∀ i ∈ T0, lk L2 i = lk L i := by
        intro hex e
        split at e
        · rename_i xs ho
          obtain ⟨hgv, e⟩ := bc_f e
          split at e
          · rename_i v htp
            exact done hex ho hgv htp e
          · cases e
        · cases e
      cases ex with
      | ex i => cases e
      | no => exact go (fun i h => by cases h) e
      | rt => exact go (fun i h => by cases h) e
    · cases e
  · cases e
end
end Go.Rk
end
section
namespace Go.Rk
open Go.RowKit Go.Dm Go.Dk
variable {τ : Nat → Type}
section
variable {ρ : Type} {X : Cx τ} {w0 w w' : World} {h0 h h' H : Fz} {F : List Nat} {o : Oper} {E : EnvX τ} {L L2 : Hp τ} {ν ν' : Vn τ} {φ φ' : Nat → List Nat} {nid nid' : Nat} {K : Nx τ ρ} {r : ρ} {v : XV τ} {U : Hp τ} {tch : List Nat} {g : List (XV τ)}
variable {a : Act} {x y z : Operand} {t' t ty u' : Nat} {dst : Option Nat} {p : String} {af : Array Edge} {gd : Option (Nat × Bool)}
theorem castL_self {e : Ty} (xs : List (e.den τ)) : castL (t' := e) xs = some xs := dif_pos rfl
theorem rowZ_lokS {c : CV τ} {e : Ty} {xs : List (e.den τ)} {ids : List Nat} (k : rowZ L c = some ⟨e, xs, ids⟩) : lokS L e c = some (xs, ids) := by
  unfold rowZ at k
  split at k
  · cases k; unfold lokS; dsimp only; rw [castL_self]
  · rename_i id
    split at k
    · rename_i hl; cases k; unfold lokS; dsimp only; rw [hl]; dsimp only; rw [castL_self]
    · rename_i hl; cases k; unfold lokS; dsimp only; rw [hl]; dsimp only; rw [castL_self]
    · rename_i i kk e' lo xs' hl
      split at k
      · rename_i te e2 ys k' hl2
        cases hb : Nat.beq kk k' with
        | false => rw [hb] at k; cases k
        | true =>
          rw [hb] at k
          cases k
          unfold lokS; dsimp only; rw [hl]; dsimp only; rw [hl2]; dsimp only; rw [hb, cond_true, castL_self]
      · cases k
    · cases k
  · cases k
theorem nilZ_ok (M : Mem X.P X.G w0 h0 F L2 w ν h φ) {c : CV τ} {z : Bool} {ids : List Nat} {v : Value} (k : nilZ X.G L c = some (z, ids)) (ha : ∀ i ∈ ids, lk L2 i = lk L i) (hv : CVOk X.P X.G h ν c v) : ∃ ad n cp, v = .slice ad n cp ∧ ad.isNone = z := by
  unfold nilZ at k
  split at k
  · cases k; cases hv; exact ⟨none, 0, 0, rfl, rfl⟩
  · split at k
    · rename_i e x xs ids' hr
      split at k
      · rename_i c0 cs hets
        cases k
        have hrp := lokS_ok M (M.lend_le ids) (rowZ_lokS hr) ha (fun b hb => lend_in hb) hv
        cases hrp with
        | sl _ _ ad cp vs hc hs hrr =>
          refine ⟨ad, _, cp, rfl, ?_⟩
          rcases hs with rfl | ⟨b, o, cc, e', zz, rfl, _⟩
          · have := hrr.len
            rw [hets] at this
            simp only [List.length_nil, List.length_cons] at this
            rw [Nat.mul_comm, Nat.succ_mul] at this
            omega
          · rfl
      · cases k
    · cases k
theorem nil_does {bo : BinOp} {el : Nat} {c : CV τ} {zb : Bool} {ids : List Nat} (hu : X.P.underlying t' = some (.slice el)) (hx : evC E x = some c) (hy : evX E y = some (.c .n0)) (hz : nilZ X.G L c = some (zb, ids)) (hb : okX (eqO bo zb) = some v) (k : K v [] [] ids nid = some r) :
    Does X w0 h0 F ⟨dst, .binOp bo t' x y ty, t, p, af, gd⟩ E L nid K r := by
  obtain ⟨b, hb, rfl⟩ := okX_ok hb
  refine does_pure k fun L2 ν h φ a w hd M hE ha => ?_
  obtain ⟨Ea, hf, hl'⟩ := envA a hd
  obtain ⟨vx, h1, h2⟩ := evC_of hl' (hE.op (by simp [Op.operands])) hx
  obtain ⟨uy, g3, g4⟩ := evl_of hl' (hE.op (by simp [Op.operands])) hy rfl
  obtain rfl : uy = _ := g4
  obtain ⟨ad, n, cp, rfl, hn⟩ := nilZ_ok M hz ha h2
  cases bo <;> first | (cases hb; done) | skip
  all_goals cases hb
  · exact ⟨_, ex_eql_sn hu hf h1 g3, by rw [hn]; rfl⟩
  · exact ⟨_, ex_neq_sn hu hf h1 g3, by rw [hn]; rfl⟩
theorem call_does {f : Nat} {args : List Operand} {avs : List (XV τ)} {ats : Array TypeId} {T : List Nat} (hx : evC E x = some (.fn f)) (hargs : evXs E args = some avs) (k : K v [] U T nid' = some r) (hle : nid ≤ nid') (hi : InlOk X w0 h0 F f avs L nid v U T nid') :
    Does X w0 h0 F ⟨dst, .call ⟨.value x, ⟨args⟩, ats⟩, t, p, af, gd⟩ E L nid K r := by
  refine ⟨_, _, _, _, _, k, hle, (fun _ h => by cases h), fun L2 ν h φ a w next Q hd M hE ha hfr kk => ?_⟩
  obtain ⟨hlen, hidx⟩ := evXs_len hargs
  have hvs : ∀ (i : Nat) (A : XV τ) (v : Value), avs[i]? = some A → (args.map a.eval)[i]? = some v → XOk X.P X.G h ν A v := by
    intro i A v hA hv
    obtain ⟨z, hz, hzA⟩ := hidx i A hA
    rw [List.getElem?_map, hz] at hv
    cases hv
    exact ev_ok hd (hE.op (by simp only [Op.operands, Call.operands]; simp; exact .inr (List.mem_of_getElem? hz))) hzA
  have hcalls := hi.2 L2 ν h φ w (args.map a.eval) M (by simp [hlen]) hvs ha hfr
  obtain ⟨Ea, hf, hl'⟩ := envA a hd
  obtain ⟨vx, g1, g2⟩ := evC_of hl' (hE.op (by simp [Op.operands, Call.operands])) hx
  obtain rfl : vx = _ := g2
  have hexec := ex_callE (X := X) (w := w) (dst := dst) (t := t) (p := p) (af := af) (gd := gd) (ats := ats) (args := ⟨args⟩) (vs := args.map a.eval) hi.1 (hf.ev g1) (by simp)
  unfold Oper.wp
  rw [hexec]
  refine Calls.mono hcalls ?_
  rintro e1 w' ⟨u, ν', h', φ', rfl, M', hν, hh, hfr', hv⟩
  exact kk ν' h' φ' w' u M' hν hh hfr' hv
theorem ex_callC {f : Nat} {args : Array Operand} {vs cs : List Value} {ats : Array TypeId} (hfn : Callable X.P f) (hv : a.eval x = .func (.func f) #[] ⟨cs⟩) (hargs : args.map a.eval = vs.toArray) :
    (execOp a.eval { dst := dst, op := .call { callee := .value x, args := args, argTypes := ats }, type := t, pos := p, after := af, guard := gd }).run X.P w = .ok (.enter f (vs ++ cs).toArray) w := by
  obtain ⟨fn, hfn, hbody, hname⟩ := hfn
  simp only [execOp, resolve, hargs]
  rw [hv]
  simp only [Deferred.ofValue]
  have hb : ¬ fn.body = none := by intro e; rw [e] at hbody; cases hbody
  have hn : ¬ fn.name = "runtime.NumGoroutine" := by intro e; rw [e] at hname; cases hname
  simp [invoke, callFunc, hfn, hn, hb]
theorem CVs.getl : ∀ {cs : List (CV τ)} {vs : List Value}, CVs X.P X.G h ν cs vs → vs.length = cs.length ∧ ∀ (i : Nat) (c : CV τ) (v : Value), cs[i]? = some c → vs[i]? = some v → CVOk X.P X.G h ν c v
  | [], vs, e => by cases e; exact ⟨rfl, fun i c v h => by simp at h⟩
  | c :: cs, _, ⟨u, us, rfl, h1, h2⟩ => by
    obtain ⟨h3, h4⟩ := CVs.getl h2
    refine ⟨by simp [h3], fun i d v hc hv => ?_⟩
    cases i with
    | zero => simp at hc hv; subst hc; subst hv; exact h1
    | succ i => exact h4 i d v (by simpa using hc) (by simpa using hv)
theorem callc_does {f id : Nat} {args : List Operand} {avs : List (XV τ)} {cs : List (CV τ)} {ats : Array TypeId} {T : List Nat} (hx : evC E x = some (.cf id)) (hlk : lk L id = .clo f cs) (hargs : evXs E args = some avs) (k : K v [] U T nid' = some r) (hle : nid ≤ nid') (hi : InlOk X w0 h0 F f (avs ++ cs.map .c) L nid v U T nid')
    (hT : ∀ {L2 : Hp τ}, (∀ i ∈ T, lk L2 i = lk L i) → (∀ i, nid ≤ i → i < nid' → lk L2 i = .gone) → ∀ i ∈ [id], lk L2 i = lk L i) :
    Does X w0 h0 F ⟨dst, .call ⟨.value x, ⟨args⟩, ats⟩, t, p, af, gd⟩ E L nid K r := by
  refine ⟨_, _, _, _, _, k, hle, (fun _ h => by cases h), fun L2 ν h φ a w next Q hd M hE ha hfr kk => ?_⟩
  obtain ⟨hlen, hidx⟩ := evXs_len hargs
  obtain ⟨Ea, hf, hl'⟩ := envA a hd
  obtain ⟨vx, g1, g2⟩ := evC_of hl' (hE.op (by simp [Op.operands, Call.operands])) hx
  obtain ⟨f', vs', q, g3, rfl⟩ := g2
  have hres := M.res id
  rw [hT ha (fun i h1 h2 => M.gone_of (hfr i h1 h2)) id (List.mem_singleton.2 rfl), hlk] at hres
  obtain ⟨vs, q', g4, _, g5⟩ := hres
  rw [g3] at g4
  cases g4
  obtain ⟨hcl, hcg⟩ := CVs.getl g5
  have hvs : ∀ (i : Nat) (A : XV τ) (v : Value), (avs ++ cs.map XV.c)[i]? = some A → (args.map a.eval ++ vs')[i]? = some v → XOk X.P X.G h ν A v := by
    intro i A v hA hv
    by_cases hi : i < avs.length
    · rw [List.getElem?_append_left hi] at hA
      rw [List.getElem?_append_left (by simp; omega)] at hv
      obtain ⟨z, hz, hzA⟩ := hidx i A hA
      rw [List.getElem?_map, hz] at hv
      cases hv
      exact ev_ok hd (hE.op (by simp only [Op.operands, Call.operands]; simp; exact .inr (List.mem_of_getElem? hz))) hzA
    · rw [List.getElem?_append_right (by omega), List.getElem?_map] at hA
      rw [List.getElem?_append_right (by simp; omega)] at hv
      obtain ⟨c, hc, rfl⟩ := Option.map_eq_some_iff.1 hA
      simp only [List.length_map] at hv
      rw [← hlen] at hv
      exact hcg _ c v hc hv
  have hcalls := hi.2 L2 ν h φ w (args.map a.eval ++ vs') M (by simp [hlen, hcl]) hvs ha hfr
  have hexec := ex_callC (X := X) (w := w) (dst := dst) (t := t) (p := p) (af := af) (gd := gd) (ats := ats) (args := ⟨args⟩) (vs := args.map a.eval) (cs := vs') hi.1 (hf.ev g1) (by simp)
  unfold Oper.wp
  rw [hexec]
  refine Calls.mono hcalls ?_
  rintro e1 w' ⟨u, ν', h', φ', rfl, M', hν, hh, hfr', hv⟩
  exact kk ν' h' φ' w' u M' hν hh hfr' hv
theorem evCs_ok {Ea : Env} {N : Nat} (hf : Fits N Ea a) (hl : ∀ t, Dk.look Ea t = a.tmps[t]?) : ∀ {xs : List Operand} {cs : List (CV τ)}, evCs E xs = some cs → (∀ x ∈ xs, EnvOn X h ν a (tmpO x) E) → CVs X.P X.G h ν cs (xs.map a.eval)
  | [], cs, e, _ => by cases e; rfl
  | x :: xs, cs, e, hE => by
    unfold evCs at e
    split at e
    · rename_i c hc
      split at e
      · rename_i cs' hcs
        cases e
        obtain ⟨v, h1, h2⟩ := evC_of hl (hE x (List.mem_cons_self ..)) hc
        exact ⟨a.eval x, xs.map a.eval, rfl, by rw [hf.ev h1]; exact h2, evCs_ok hf hl hcs fun x hx => hE x (List.mem_cons_of_mem _ hx)⟩
      · cases e
    · cases e
theorem make_does {f : Nat} {caps : List Operand} {cs : List (CV τ)} (hc : evCs E caps = some cs) (k : K (.c (.cf nid)) [] [(nid, .clo f cs)] [] (nid + 1) = some r) : Does X w0 h0 F ⟨dst, .makeFunc (.func f) ⟨[]⟩ ⟨caps⟩, t, p, af, gd⟩ E L nid K r := by
  refine ⟨_, _, _, _, _, k, Nat.le_succ _, (fun _ h => by cases h), fun L2 ν h φ a w next Q hd M hE ha hfr kk => ?_⟩
  have hn := hfr nid (Nat.le_refl _) (Nat.lt_succ_self _)
  obtain ⟨Ea, hf, hl'⟩ := envA a hd
  have hcv := evCs_ok (h := h) (ν := ν) hf hl' hc fun x hx => hE.op (by simp [Op.operands]; exact hx)
  have hrun : (execOp a.eval ⟨dst, .makeFunc (.func f) ⟨[]⟩ ⟨caps⟩, t, p, af, gd⟩).run X.P w = .ok (.value (.func (.func f) #[] ⟨caps.map a.eval⟩)) w := by
    simp [execOp, Instr.makeFunc, Result.andThen]
  refine wp_val hrun (kk (up1 ν nid (some (.func (.func f) #[] ⟨caps.map a.eval⟩, none))) h _ w _ (M.add hn (.clo f cs) _ (fp := []) ⟨_, _, rfl, rfl, hcv.le (Fz.le.refl _) (up1_le hn)⟩ (fun b hb => by cases hb)) (up1_le hn) (Fz.le.refl _) fresh_one ⟨f, _, none, up1_at _ _ _, rfl⟩)
theorem partZ_run {te : Nat} {e : Ty} {xs s : List (e.den τ)} {lo hi : Option Operand} {i : Nat} (hu : X.P.underlying t' = some (.slice te)) (hsz : szO X.P te = some (ets X.G e).length) (k : partZ E e xs lo hi = some (i, s)) : ∃ j, i ≤ j ∧ j ≤ xs.length ∧ s = (xs.take j).drop i ∧
    ∀ {a : Act} {Ea : Env} {N : Nat} {ν h} {w : World} {ad : Option Addr} {n cp : Nat}, Fits N Ea a → (∀ t, Dk.look Ea t = a.tmps[t]?) → EnvOn X h ν a (rdO (.slice t' x lo hi none)) E → evl Ea x = some (.slice ad n cp) → n = xs.length → xs.length ≤ cp →
      (execOp a.eval ⟨dst, .slice t' x lo hi none, t, p, af, gd⟩).run X.P w = .ok (.value (.slice (if cp = i then ad else ad.map (·.add (i * (ets X.G e).length))) (j - i) (cp - i))) w := by
  unfold partZ at k
  split at k
  · split at k
    · rename_i i hy
      split at k
      · rename_i j hz
        split at k
        · rename_i s' hr
          cases k
          unfold lSub at hr
          split at hr
          · rename_i hb
            cases hr
            have ei : (i.toNat : Int) = i := by omega
            have ej : (j.toNat : Int) = j := by omega
            refine ⟨j.toNat, by omega, by omega, rfl, fun {a Ea N ν h w ad n cp} hf hl hE hvx hn hcp => ?_⟩
            obtain ⟨vy, h1, h2⟩ := evC_of hl (hE.op (by simp [Op.operands])) hy
            obtain ⟨vz, h3, h4⟩ := evC_of hl (hE.op (by simp [Op.operands])) hz
            obtain rfl : vy = _ := h2
            obtain rfl : vz = _ := h4
            refine ex_sliceSub hu (fun w => ?_) hf hvx h1 h3
            have := (run_slice3 (w := w) (ad := ad) hu (szO_ok hsz) (show i.toNat ≤ j.toNat by omega) (show j.toNat ≤ n by omega) (show n ≤ cp by omega)).1
            rwa [ei, ej] at this
          · cases hr
        · cases k
      · cases k
    · cases k
  · split at k
    · rename_i i hy
      split at k
      · rename_i s' hr
        cases k
        unfold lFrom at hr
        split at hr
        · rename_i hb
          cases hr
          have ei : (i.toNat : Int) = i := by omega
          refine ⟨xs.length, by omega, Nat.le_refl _, by rw [List.take_length], fun {a Ea N ν h w ad n cp} hf hl hE hvx hn hcp => ?_⟩
          obtain ⟨vy, h1, h2⟩ := evC_of hl (hE.op (by simp [Op.operands])) hy
          obtain rfl : vy = _ := h2
          refine ex_sliceFrom hu (fun w => ?_) hf hvx h1
          have := (run_slice3 (w := w) (ad := ad) hu (szO_ok hsz) (show i.toNat ≤ xs.length by omega) (show xs.length ≤ n by omega) (show n ≤ cp by omega)).2.2 hn.symm
          rwa [ei] at this
        · cases hr
      · cases k
    · cases k
  · split at k
    · rename_i j hz
      split at k
      · rename_i s' hr
        cases k
        unfold lTo at hr
        split at hr
        · rename_i hb
          cases hr
          have ej : (j.toNat : Int) = j := by omega
          refine ⟨j.toNat, by omega, by omega, rfl, fun {a Ea N ν h w ad n cp} hf hl hE hvx hn hcp => ?_⟩
          obtain ⟨vz, h3, h4⟩ := evC_of hl (hE.op (by simp [Op.operands])) hz
          obtain rfl : vz = _ := h4
          refine ex_sliceTo hu (fun w => ?_) hf hvx h3
          have := (run_slice3 (w := w) (ad := ad) hu (szO_ok hsz) (show 0 ≤ j.toNat by omega) (show j.toNat ≤ n by omega) (show n ≤ cp by omega)).2.1 rfl
          rwa [ej] at this
        · cases hr
      · cases k
    · cases k
  · cases k
theorem sli_does {te id : Nat} {lo hi : Option Operand} (hu : X.P.underlying t' = some (.slice te)) (hx : evC E x = some (.os id)) (e : sliZ X E L nid K id te lo hi = some r) : Does X w0 h0 F ⟨dst, .slice t' x lo hi none, t, p, af, gd⟩ E L nid K r := by
  unfold sliZ at e
  split at e
  · rename_i te' e' xs kk hlk
    obtain ⟨hsz, e⟩ := bc_t e
    obtain ⟨hsz, _⟩ := szE_ok hsz
    split at e
    · rename_i i s hp
      obtain ⟨j, h1, h2, hs, hrun⟩ := partZ_run (X := X) (x := x) (dst := dst) (t := t) (p := p) (af := af) (gd := gd) hu hsz hp
      refine ⟨_, _, _, _, _, e, Nat.le_succ _, (fun _ h => by cases h), fun L2 ν h φ a w next Q hd M hE ha hfr kc => ?_⟩
      have hn := hfr nid (Nat.le_refl _) (Nat.lt_succ_self _)
      obtain ⟨Ea, hf, hl'⟩ := envA a hd
      obtain ⟨vx, g1, g2⟩ := evC_of hl' (hE.op (by simp [Op.operands])) hx
      obtain ⟨ad, n, cp, q, hν, rfl⟩ := g2
      have hres := M.res id
      rw [ha id (List.mem_singleton.2 rfl), hlk] at hres
      obtain ⟨v', q', vs, u, c1, c2, c3, c4, c5⟩ := hres
      rw [hν] at c1
      cases c1
      have hnl : n = xs.length ∧ n ≤ cp := by
        obtain ⟨_, ⟨e, hz⟩ | ⟨g, cap, cur, e, _, _, hc, _⟩⟩ := c3
        · cases e; exact ⟨hz.symm, Nat.le_refl _⟩
        · cases e; exact ⟨rfl, hc⟩
      have hexec := hrun (w := w) hf hl' hE g1 hnl.1 (by omega)
      have hsl : s.length = j - i := by rw [hs, List.length_drop, List.length_take]; omega
      have hadd := M.add hn (.vw id kk e' i s) (.slice (if cp = i then ad else ad.map (·.add (i * (ets X.G e').length))) (j - i) (cp - i), none) (fp := [])
        ⟨ad, n, cp, q, none, u, xs, _, _, (up1_le hn) _ _ hν, (up1_le hn) _ _ c5, by omega, by rw [hs]; congr 1; rw [← hs, hsl]; congr 1; omega, by rw [hsl], by omega, fun hne => by
          have : 0 < s.length := List.length_pos_iff.2 hne
          rw [if_neg (by omega)], rfl⟩ (fun b hb => by cases hb)
      exact wp_val hexec (kc _ h _ w _ hadd (up1_le hn) (Fz.le.refl _) fresh_one ⟨_, _, _, none, up1_at _ _ _, rfl⟩)
    · cases e
  · cases e
theorem add_at (g k j : Nat) : (⟨g, k, none⟩ : Addr).add j = ⟨g, k + j, none⟩ := by unfold Addr.add; split <;> simp_all
theorem lenv_does {id i k0 te lo : Nat} {e : Ty} {xs : List (e.den τ)} (hx : evC E x = some (.os id)) (hl : lk L id = .vw i k0 e lo xs) (hu : elO X.P t' = some te) (k : K (.c (.i (xs.length : Int))) [] [] [id] nid = some r) :
    Does X w0 h0 F ⟨dst, .call ⟨.builtin .len, ⟨[x]⟩, ⟨[t']⟩⟩, t, p, af, gd⟩ E L nid K r := by
  refine does_pure k fun L2 ν h φ a w hd M hE ha => ?_
  obtain ⟨Ea, hf, hl'⟩ := envA a hd
  obtain ⟨vx, h1, h2⟩ := evC_of hl' (hE.op (by simp [Op.operands, Call.operands])) hx
  obtain ⟨ad, m, cp, q, hν, rfl⟩ := h2
  have hr := M.res id
  rw [ha id (List.mem_singleton.2 rfl), hl] at hr
  obtain ⟨a1, n1, c1, q1, q2, u1, ys1, a2, c2, g1, g2, g3, g4, g5, g6, g7, _⟩ := hr
  rw [hν] at g5
  cases g5
  exact ⟨_, ex_len_l (elO_ok hu) hf h1, rfl⟩
theorem ixv_does {te id : Nat} {m : Int} (hel : elO X.P t' = some te) (hx : evC E x = some (.os id)) (hy : evC E y = some (.i m)) (e : ixZ X L nid K id te m = some r) : Does X w0 h0 F ⟨dst, .indexAddr t' x y, t, p, af, gd⟩ E L nid K r := by
  unfold ixZ at e
  split at e
  · rename_i i kk e' lo xs hlk
    split at e
    · rename_i te2 e2 ys k' hlk2
      obtain ⟨hb, e3⟩ := bc_t e
      simp only [Bool.and_eq_true, Nat.beq_eq] at hb
      obtain ⟨hkk, hsz⟩ := hb
      subst hkk
      obtain ⟨hsz, _⟩ := szE_ok hsz
      obtain ⟨d, hr, e4⟩ := ob e3
      refine does_pure e4 fun L2 ν h φ a w hd M hE ha => ?_
      obtain ⟨Ea, hf, hl'⟩ := envA a hd
      obtain ⟨vx, h1, h2⟩ := evC_of hl' (hE.op (by simp [Op.operands])) hx
      obtain ⟨vy, h3, h4⟩ := evC_of hl' (hE.op (by simp [Op.operands])) hy
      obtain rfl : vy = _ := h4
      obtain ⟨ad, n, cp, q, hν, rfl⟩ := h2
      have hres := M.res id
      rw [ha id (List.mem_cons_self ..), hlk] at hres
      obtain ⟨a1, n1, c1, q1, q2, u1, ys1, a2, c2, g1, g2, g3, g4, g5, g6, g7, _⟩ := hres
      have hr2 := M.res i
      rw [ha i (List.mem_cons_of_mem _ (List.mem_cons_self ..)), hlk2] at hr2
      obtain ⟨v', q', vs, u, d1, d2, d3, d4, d5⟩ := hr2
      rw [g1] at d1
      cases d1
      rw [g2] at d5
      injection d5 with d5
      injection d5 with _ d5
      injection d5 with d5
      cases d5
      rw [hν] at g5
      cases g5
      obtain ⟨hz, hm0⟩ := lAt_some hr
      have hlt : m.toNat < xs.length := (List.getElem?_eq_some_iff.1 hz).1
      have hne : xs ≠ [] := fun h => by rw [h] at hlt; simp at hlt
      have had := g7 hne
      obtain ⟨_, ⟨e1, hz0⟩ | ⟨g, cap, cur, e1, _⟩⟩ := d3
      · omega
      · cases e1
        have hadd2 := add_at g
        simp only [Option.map_some, hadd2, Nat.zero_add] at had
        subst had
        have hget : lAt ys1 ((lo + m.toNat : Nat) : Int) = some d := by
          unfold lAt
          rw [if_pos (by omega), Int.toNat_natCast]
          rw [g4, List.getElem?_drop, List.getElem?_take] at hz
          split at hz
          · exact hz
          · cases hz
        refine ⟨ptr g ((lo + m.toNat) * (ets X.G e').length), ?_, g, _, _, _, ys1, _, g1, g2, hget, by rw [Int.toNat_natCast, Nat.add_zero]⟩
        refine ex_indexAddr (fun w => ?_) hf h1 h3
        rw [run_indexAt (elO_ok hel) (szO_ok hsz) hm0 (by omega), hadd2, Nat.add_mul]
    · cases e
  · cases e
end
end Go.Rk
end
section
namespace Go.Rk
open Go.RowKit Go.Dm Go.Dk
variable {τ : Nat → Type}
section
variable {ρ : Type} {X : Cx τ} {w0 w w' : World} {h0 h h' H : Fz} {F : List Nat} {E : EnvX τ} {L L2 : Hp τ} {ν ν' : Vn τ} {φ φ' : Nat → List Nat} {nid nid' : Nat} {r : ρ}
theorem opZ_ok (hT : TyOk X) (hC : ∀ q ∈ X.cs, COk X.P X.G q.1 q.2) (hNm : ∀ (f : FuncId) (fn : Func), X.P.funcs[f]? = some fn → (fn.name == "runtime.NumGoroutine") = false) {ih : InF τ ρ} (hih : InOk X w0 h0 F ih) : OpOk X w0 h0 F (opZ X ih) := by
  intro r o E L nid K e
  obtain ⟨dst, op, t, p, af, gd⟩ := o
  dsimp only at e
  unfold opZ at e
  split at e
  · split at e
    · rename_i hy
      split at e
      · rename_i hu
        split at e
        · rename_i hx
          split at e
          · rename_i hz
            split at e
            · rename_i hb
              exact nil_does hu hx hy hz hb e
            · cases e
          · cases e
        · cases e
      · cases e
    · exact opX_ok hT hC e
  · rename_i f args ats
    split at e
    · rename_i g hx
      split at e
      · rename_i avs hargs
        cases hc : inCs X.G L g avs X.cs with
        | true => rw [hc] at e; exact callX_ok hx hargs hC e
        | false =>
          rw [hc] at e
          obtain ⟨v, U, T, n2, h1, h2, h3, _⟩ := inl_ok hNm hih e
          exact call_does hx hargs h1 h2 h3
      · cases e
    · rename_i id hx
      split at e
      · rename_i g cs hlk
        split at e
        · rename_i avs hargs
          obtain ⟨v, U, T, n2, h1, h2, h3, h4⟩ := inl_ok hNm hih e
          exact callc_does hx hlk hargs h1 h2 h3 h4
        · cases e
      · cases e
    · exact opX_ok hT hC e
  · split at e
    · rename_i id hx
      cases hb : rvB (lk L id) with
      | true =>
        rw [hb] at e
        replace e := (bc_tt e)
        split at e
        · rename_i te hu
          exact sli_does hu hx e
        · cases e
      | false => rw [hb] at e; exact opX_ok hT hC e
    · exact opX_ok hT hC e
  · split at e
    · rename_i id hx
      cases hb : vwB (lk L id) with
      | true =>
        rw [hb] at e
        replace e := (bc_tt e)
        split at e
        · rename_i te hel
          split at e
          · rename_i m hy
            exact ixv_does hel hx hy e
          · cases e
        · cases e
      | false => rw [hb] at e; exact opX_ok hT hC e
    · exact opX_ok hT hC e
  · split at e
    · rename_i id hx
      split at e
      · rename_i hlk
        split at e
        · rename_i te hu
          exact lenv_does hx hlk hu e
        · cases e
      · exact opX_ok hT hC e
    · exact opX_ok hT hC e
  · split at e
    · rename_i cs hc
      exact make_does hc e
    · cases e
  · exact opX_ok hT hC e
where
  bc_tt {α : Type} {x y : Option α} {r : α} (e : bc true x y = some r) : x = some r := e
theorem OpOk.wn {op : OpF τ ρ} (n : Nat) (h : OpOk X w0 h0 F op) : OpOk (X.wn n) w0 h0 F op := h
theorem inZ_ok (hm : X.P.follows .mixedOrders = true) (hT : TyOk X) (hC : ∀ q ∈ X.cs, COk X.P X.G q.1 q.2) (hNm : ∀ (f : FuncId) (fn : Func), X.P.funcs[f]? = some fn → (fn.name == "runtime.NumGoroutine") = false) : ∀ (k : Nat), InOk (ρ := ρ) X w0 h0 F (inZ X k)
  | 0 => by intro r n c E L T0 nid K _ e; cases e
  | k + 1 => by
    have IH := inZ_ok hm hT hC hNm k
    have hop : OpOk (ρ := ρ) X w0 h0 F (opZ X (inZ X k)) := opZ_ok hT hC hNm IH
    intro r n c E L T0 nid K hn e
    unfold inZ at e
    split at e
    · exact ⟨.no, E, [], [], nid, 0, e, Nat.le_refl _, OkC.nil fun Q a w h => wp_skip h⟩
    · rename_i id l d
      cases d with
      | true =>
        obtain ⟨E2, U, T, n2, g1, g2, g3⟩ := dopsZ_ok (X := X.wn n) hm hn (hop.wn n) (id := id) e
        exact ⟨.no, E2, U, T, n2, 0, g1, g2, g3⟩
      | false =>
        obtain ⟨E2, U, T, n2, g1, g2, g3⟩ := opsZ_ok (X := X.wn n) (hop.wn n) hn e
        exact ⟨.no, E2, U, T, n2, 0, g1, g2, fun L2 ν h φ a w Q a1 a2 a3 a4 a5 a6 a7 => wp_region_list (g3 L2 ν h φ a w Q a1 a2 a3 a4 a5 a6 a7)⟩
    · rename_i x y
      obtain ⟨ex, E1, U1, T1, n1, m1, g1, g2, g3⟩ := IH _ _ _ _ _ _ _ _ hn e
      cases ex with
      | no =>
        obtain ⟨ex, E2, U2, T2, n2, m2, f1, f2, f3⟩ := IH _ _ _ _ _ _ _ _ hn g1
        refine ⟨ex, E2, U2 ++ U1, T2 ++ T1, n2, 0, by rw [List.append_assoc, List.append_assoc]; exact f1, Nat.le_trans g2 f2, OkC.seq g3.wp f3.wp g2 f2 fun Q a w h => wp_seq h⟩
      | ex i => exact ⟨.ex i, E1, U1, T1, n1, 0, g1, g2, g3.wp.out fun Q a w h => wp_seq (h _ fun _ _ q => q)⟩
      | rt => exact ⟨.rt, E1, U1, T1, n1, 0, g1, g2, g3.wp.out fun Q a w h => wp_seq (h _ fun _ _ q => q)⟩
    · rename_i c x y
      split at e
      · rename_i b hc
        cases b with
        | true =>
          obtain ⟨ex, E1, U1, T1, n1, m1, g1, g2, g3⟩ := IH _ _ _ _ _ _ _ _ hn e
          refine ⟨ex, E1, U1, T1, n1, 0, g1, g2, fun L2 ν h φ a w Q a1 a2 a3 a4 a5 a6 a7 => ?_⟩
          obtain ⟨Ea, hf, hl⟩ := envA a a1
          obtain ⟨v, h1, h2⟩ := evC_of hl (EnvOk.on (wn_env.1 a4) _) hc
          obtain rfl : v = _ := h2
          exact wp_cond_true (hf.ev h1) (g3.wp L2 ν h φ a w Q a1 a2 a3 a4 a5 a6 a7)
        | false =>
          obtain ⟨ex, E1, U1, T1, n1, m1, g1, g2, g3⟩ := IH _ _ _ _ _ _ _ _ hn e
          refine ⟨ex, E1, U1, T1, n1, 0, g1, g2, fun L2 ν h φ a w Q a1 a2 a3 a4 a5 a6 a7 => ?_⟩
          obtain ⟨Ea, hf, hl⟩ := envA a a1
          obtain ⟨v, h1, h2⟩ := evC_of hl (EnvOk.on (wn_env.1 a4) _) hc
          obtain rfl : v = _ := h2
          exact wp_cond_false (hf.ev h1) (g3.wp L2 ν h φ a w Q a1 a2 a3 a4 a5 a6 a7)
      · rename_i b hc
        split at e
        · rename_i s
          have ha : asc E s = some (.c (.b b)) := evC_tmp hc
          cases b with
          | true =>
            rw [if_pos rfl] at e
            obtain ⟨ex, E1, U1, T1, n1, m1, g1, g2, g3⟩ := IH _ _ _ _ _ _ _ _ hn e
            refine ⟨ex, E1, U1, T1, n1, 0, g1, g2, fun L2 ν h φ a w Q a1 a2 a3 a4 a5 a6 a7 => ?_⟩
            obtain ⟨Ea, hf, hl⟩ := envA a a1
            obtain ⟨v, h1, h2⟩ := evC_of hl (EnvOk.on (wn_env.1 a4) _) hc
            obtain rfl : v = _ := h2
            exact wp_cond_true (hf.ev h1) (g3.wp L2 ν h φ a w Q a1 a2 a3 (Ref.env ((Ref.refl E).known ha) a4) a5 a6 a7)
          | false =>
            rw [if_neg (by simp)] at e
            obtain ⟨ex, E1, U1, T1, n1, m1, g1, g2, g3⟩ := IH _ _ _ _ _ _ _ _ hn e
            refine ⟨ex, E1, U1, T1, n1, 0, g1, g2, fun L2 ν h φ a w Q a1 a2 a3 a4 a5 a6 a7 => ?_⟩
            obtain ⟨Ea, hf, hl⟩ := envA a a1
            obtain ⟨v, h1, h2⟩ := evC_of hl (EnvOk.on (wn_env.1 a4) _) hc
            obtain rfl : v = _ := h2
            exact wp_cond_false (hf.ev h1) (g3.wp L2 ν h φ a w Q a1 a2 a3 (Ref.env ((Ref.refl E).known ha) a4) a5 a6 a7)
        · cases e
      · cases e
    · rename_i id c
      obtain ⟨ex, E1, U1, T1, n1, m1, g1, g2, g3⟩ := IH _ _ _ _ _ _ _ _ hn e
      cases ex with
      | no => exact ⟨.no, E1, U1, T1, n1, 0, g1, g2, g3.wp.out fun Q a w h => wp_block (h _ fun _ _ q => q)⟩
      | rt => exact ⟨.rt, E1, U1, T1, n1, 0, g1, g2, g3.wp.out fun Q a w h => wp_block (h _ fun _ _ q => q)⟩
      | ex i =>
        cases hb : Nat.beq i id with
        | true =>
          simp only [hb] at g1
          have : i = id := by simpa using hb
          subst this
          exact ⟨.no, E1, U1, T1, n1, 0, g1, g2, g3.wp.out fun Q a w h => wp_block (h _ fun _ _ q => exit_here q)⟩
        | false =>
          simp only [hb] at g1
          exact ⟨.ex i, E1, U1, T1, n1, 0, g1, g2, g3.wp.out fun Q a w h => wp_block (h _ fun _ _ q => exit_past hb q)⟩
    · rename_i c
      obtain ⟨ex, E1, U1, T1, n1, m1, g1, g2, g3⟩ := IH _ _ _ _ _ _ _ _ hn e
      cases ex with
      | no =>
        obtain ⟨E1', e2, hE⟩ := nfE_ok g1
        obtain ⟨ex, E2, U2, T2, n2, m2, f1, f2, f3⟩ := IH _ _ _ _ _ _ _ _ hn e2
        refine ⟨ex, E2, U2 ++ U1, T2 ++ T1, n2, m2 + 1, by rw [List.append_assoc, List.append_assoc]; exact f1, Nat.le_trans g2 f2, OkC.seq g3.wp (f3.ref (E := E1) fun t x h => .inl (hE t x h).1) g2 f2 fun Q a w h => h⟩
      | ex i => exact ⟨.ex i, E1, U1, T1, n1, 1, g1, g2, g3.wp.out fun Q a w h => h _ fun _ _ q => q⟩
      | rt => exact ⟨.rt, E1, U1, T1, n1, 1, g1, g2, g3.wp.out fun Q a w h => h _ fun _ _ q => q⟩
    · rename_i id
      exact ⟨.ex id, E, [], [], nid, 0, e, Nat.le_refl _, OkC.nil fun Q a w h => wp_exit h⟩
    · exact ⟨.rt, E, [], [], nid, 0, e, Nat.le_refl _, OkC.nil fun Q a w h => wp_ret h⟩
    · cases e
theorem zrun_ok (hm : X.P.follows .mixedOrders = true) (hT : TyOk X) (hC : ∀ q ∈ X.cs, COk X.P X.G q.1 q.2) (hNm : ∀ (f : FuncId) (fn : Func), X.P.funcs[f]? = some fn → (fn.name == "runtime.NumGoroutine") = false)
    {k : Nat} {f : FuncId} {avs : List (XV τ)} {b : Bool} (e : zrun X k f avs = some b) {h : Fz} {w : World} {vals : List Value} (hgl : GlOk X.P X.G h) (hfp : FpOk X.P X.G) (hon : h.on w) (hlen : vals.length = avs.length)
    (hv : ∀ (i : Nat) (A : XV τ) (u : Value), avs[i]? = some A → vals[i]? = some u → XOk X.P X.G h (fun _ => none) A u) : Callable X.P f ∧ Calls X.P f vals.toArray w fun e w' => e = .returned (.bool b) ∧ ∃ h', Left h w [] h' w' [] := by
  unfold zrun at e
  obtain ⟨v, U, T, n2, h1, h2, h3, _⟩ := inl_ok (w0 := w) (h0 := h) (F := []) hNm (inZ_ok hm hT hC hNm k) e
  have M0 : Mem X.P X.G w h [] [] w (fun _ => none) h (fun _ => []) :=
    ⟨rfl, rfl, rfl, Nat.le_refl _, fun _ _ _ => rfl, Fz.le.refl _, hon, fun b hb => .inl hb, fun _ => rfl, (fun _ _ _ h => by cases h), (fun _ _ h => by cases h), hgl, hfp⟩
  refine ⟨h3.1, Calls.mono (h3.2 [] _ h _ w vals M0 hlen hv (fun i hi => ?_) fun _ _ _ => rfl) ?_⟩
  · rfl
  rintro e1 w' ⟨u, ν', h', φ', rfl, M', _, hh, _, hx⟩
  have hu : u = .bool b := by
    split at h1
    · cases h1; exact hx
    · cases h1; exact hx
    · cases h1
  subst hu
  exact ⟨rfl, h', M'.os, M'.tape, M'.output, M'.size, M'.frame, M'.le, M'.on, M'.new, fun b hb => by cases hb⟩
end
end Go.Rk
end
section
namespace Go.Rk
open Go.RowKit Go.Dm Go.Dk
variable {τ : Nat → Type}
def eqV : (t : Ty) → t.den τ → t.den τ → Bool
  | .bool, (x : Bool), (y : Bool) => x == y
  | .int, (x : Int), (y : Int) => x == y
  | .u8, (x : UInt8), (y : UInt8) => x == y
  | .u16, (x : UInt16), (y : UInt16) => x == y
  | .str, (x : Str), (y : Str) => x == y
  | _, _, _ => true
def eqD : (ts : List Ty) → DP τ ts → DP τ ts → Bool
  | [], _, _ => true
  | [t], x, y => eqV t x y
  | t :: u :: ts, p, q => eqV t p.1 q.1 && eqD (u :: ts) p.2 q.2
def elB (P : Program) (G : Sig τ) (te : TypeId) (e : Ty) : Bool := match P.info? te with
  | some i => match i.zero with
    | some z => Nat.beq i.size (ets G e).length && Nat.beq z.cells.size i.size && Nat.blt 0 i.size
    | none => false
  | none => false
def scB (P : Program) (t : TypeId) : Ty → Bool
  | .bool => match P.underlying t with
    | some .bool => true
    | _ => false
  | .str => match P.underlying t with
    | some .string => true
    | _ => false
  | .int => match P.underlying t with
    | some (.int .i64) => true
    | _ => false
  | .u8 => match P.underlying t with
    | some (.int .u8) => true
    | _ => false
  | .u16 => match P.underlying t with
    | some (.int .u16) => true
    | _ => false
  | _ => false
def fieldsB (P : Program) : List Field → List Ty → Nat → Bool
  | [], [], _ => true
  | f :: fs, t :: ts, i => Nat.beq f.offset i && decide (f.name ≠ "_") && scB P f.type t && fieldsB P fs ts (i + 1)
  | _, _, _ => false
def flatB (P : Program) (G : Sig τ) (t : TypeId) (n : Nat) : Bool := match P.underlying t with
  | some (.struct ⟨fs⟩) => !(P.stoodInHeld t) && !(P.eqGuardType P.depth t) && fieldsB P fs (G.fs n) 0
  | _ => false
def tyB (P : Program) (G : Sig τ) (ty : List (TypeId × Ty)) : Bool := ty.all fun p => elB P G p.1 p.2 && (match p.2 with
  | .st n => bif (G.fs n).all scal then flatB P G p.1 n else true
  | _ => true)
section
variable {P : Program} {G : Sig τ} {h : Fz} {w : World}
theorem u16_eq (b c : UInt16) : ((b.toNat : Int) == (c.toNat : Int)) = (b == c) := by
  rw [Bool.eq_iff_iff]; simp only [beq_iff_eq, Int.natCast_inj, UInt16.toNat_inj]
theorem eqV_run {ti : TypeId} {t : Ty} {x y : t.den τ} {v u : Value} (hb : scB P ti t = true) (h1 : Rp P G h t x v) (h2 : Rp P G h t y u) (d : Nat) : (Op.equalIn (d + 1) ti v u).run P w = .ok (eqV t x y) w ∧ (isAgg ti).run P w = .ok false w := by
  have ia : ∀ {d : TypeDesc}, P.underlying ti = some d → (∀ f, d ≠ .struct f) → (∀ n e, d ≠ .array n e) → (isAgg ti).run P w = .ok false w := by
    intro d hu h1 h2
    unfold isAgg
    simp only [Sem.run_bind, run_underlying hu, Result.andThen_ok]
    cases d <;> first | rfl | exact (h1 _ rfl).elim | exact (h2 _ _ rfl).elim
  cases h1 <;> first | (cases hb; done) | skip
  all_goals
    cases h2
    unfold scB at hb
    dsimp only at hb
    split at hb
    · rename_i hu
      refine ⟨?_, ia hu (fun _ h => by cases h) (fun _ _ h => by cases h)⟩
      first
        | exact run_equalIn_bool' w d ti _ _ hu
        | exact run_equalIn_int w d ti .i64 .i64 _ _ hu
        | exact (run_equalIn_int w d ti .u8 .u8 _ _ hu).trans (congrArg (fun b => Result.ok b w) (byte_eq _ _))
        | exact (run_equalIn_int w d ti .u16 .u16 _ _ hu).trans (congrArg (fun b => Result.ok b w) (u16_eq _ _))
        | exact (run_equalIn_string w d ti _ _ hu).trans (by simp only [ByteArray.toList_eq]; rfl)
    · cases hb
theorem eqD_cons {t : Ty} {ts : List Ty} {p q : DP τ (t :: ts)} : eqD (t :: ts) p q = (eqV t p.hd q.hd && eqD ts p.tl q.tl) := by
  cases ts with
  | nil => simp [eqD, DP.hd]
  | cons u ts => rfl
theorem fields_run : ∀ {fs : List Field} {ts : List Ty} {i : Nat} {p q : DP τ ts} {xs ys vs us : List Value} (d : Nat), fieldsB P fs ts i = true → RpL P G h ts p vs → RpL P G h ts q us → (∀ k v, vs[k]? = some v → xs[i + k]? = some v) → (∀ k v, us[k]? = some v → ys[i + k]? = some v) →
    (Op.eqFields (d + 1) ⟨xs⟩ ⟨ys⟩ fs).run P w = .ok (eqD ts p q) w
  | [], [], i, p, q, xs, ys, vs, us, d, _, _, _, _, _ => by simp [Op.eqFields, eqD]
  | f :: fs, t :: ts, i, p, q, xs, ys, _, _, d, hb, .cons _ _ _ v vs a1 a2, .cons _ _ _ u us b1 b2, hx, hy => by
    simp only [fieldsB, Bool.and_eq_true, Nat.beq_eq, decide_eq_true_eq] at hb
    obtain ⟨⟨⟨ho, hn⟩, hs⟩, hr⟩ := hb
    have ih := fields_run (xs := xs) (ys := ys) d hr a2 b2 (fun k v hk => by rw [Nat.add_assoc, Nat.add_comm 1 k]; exact hx (k + 1) v hk) (fun k v hk => by rw [Nat.add_assoc, Nat.add_comm 1 k]; exact hy (k + 1) v hk)
    obtain ⟨e1, e2⟩ := eqV_run (w := w) hs a1 b1 d
    have hx0 : xs[f.offset]? = some v := by rw [ho]; exact hx 0 v rfl
    have hy0 : ys[f.offset]? = some u := by rw [ho]; exact hy 0 u rfl
    have p1 : (part f.type ⟨xs⟩ f.offset).run P w = .ok v w := by simp [part, e2, hx0, Result.andThen]
    have p2 : (part f.type ⟨ys⟩ f.offset).run P w = .ok u w := by simp [part, e2, hy0, Result.andThen]
    rw [eqD_cons]
    simp only [Op.eqFields, hn, ne_eq, not_false_iff, if_true, Sem.run_bind, p1, p2, e1, Result.andThen_ok]
    cases he : eqV t p.hd q.hd with
    | true => simpa using ih
    | false => simp
  | [], _ :: _, _, _, _, _, _, _, _, _, hb, _, _, _, _ => by cases hb
  | _ :: _, [], _, _, _, _, _, _, _, _, hb, _, _, _, _ => by cases hb
theorem tyOk_of {X : Cx τ} (h1 : tyB X.P X.G X.ty = true) (h2 : ∀ n x y, (X.G.fs n).all scal = true → (∃ t, asc X.ty t = some (.st n)) → X.G.eq n x y = eqD (X.G.fs n) (X.G.dtor n x) (X.G.dtor n y)) : TyOk X := by
  refine ⟨fun p hp => ?_, fun t n hn hs p q h xs ys hx hy => ?_⟩
  · have := List.all_eq_true.1 h1 p hp
    simp only [Bool.and_eq_true] at this
    have h3 := this.1
    unfold elB at h3
    split at h3
    · rename_i i hi
      split at h3
      · rename_i z hz
        simp only [Bool.and_eq_true, Nat.beq_eq, Nat.blt_eq] at h3
        exact ⟨i, z, hi, hz, h3.1.1, h3.1.2, h3.2⟩
      · cases h3
    · cases h3
  · have := List.all_eq_true.1 h1 (t, .st n) (asc_mem hn)
    simp only [Bool.and_eq_true] at this
    have h3 := this.2
    rw [hs] at h3
    have h3 : flatB X.P X.G t n = true := h3
    unfold flatB at h3
    split at h3
    · rename_i fs hu
      simp only [Bool.and_eq_true, Bool.not_eq_true'] at h3
      obtain ⟨⟨h4, h5⟩, h6⟩ := h3
      refine ⟨h5, fun w => ?_⟩
      have hfo : X.P.fieldsOf t = ⟨fs⟩ := by unfold Program.fieldsOf; rw [hu]
      rw [run_equalIn_struct w 9999 t ⟨xs⟩ ⟨ys⟩ (by rw [hfo]; exact hu) h4, hfo]
      rw [h2 n _ _ hs ⟨t, hn⟩, X.G.dc, X.G.dc]
      exact fields_run 9998 h6 hx hy (fun k v hk => by rw [Nat.zero_add]; exact hk) (fun k v hk => by rw [Nat.zero_add]; exact hk)
    · cases h3
end
end Go.Rk
end
section
namespace Go.Rk
open Go.RowKit Go.Dm Go.Dk
variable {τ : Nat → Type}
def encV : (t : Ty) → t.den τ → Value
  | .bool, x => .bool x
  | .int, x => .int .i64 x
  | .u8, (x : UInt8) => .int .u8 x.toNat
  | .u16, (x : UInt16) => .int .u16 x.toNat
  | .str, x => str x
  | _, _ => undef
def encP : (ts : List Ty) → DP τ ts → List Value
  | [], _ => []
  | t :: ts, p => encV t p.hd :: encP ts p.tl
def rowV (G : Sig τ) (e : Ty) (xs : List (e.den τ)) : List Value := xs.flatMap fun x => encP (ets G e) (edt G e x)
section
variable {P : Program} {G : Sig τ} {h h' : Fz} {w w' : World}
theorem scal_v {t : Ty} {x : t.den τ} {v : Value} (hs : scal t = true) (hr : Rp P G h t x v) : v = encV t x := by
  cases hr <;> first | (cases hs; done) | rfl
theorem scal_r {t : Ty} (x : t.den τ) (hs : scal t = true) : Rp P G h t x (encV t x) := by
  cases t <;> first | (cases hs; done) | constructor
theorem scal_vs : ∀ {ts : List Ty} {p : DP τ ts} {vs : List Value}, RpL P G h ts p vs → ts.all scal = true → vs = encP ts p
  | _, _, _, .nil, _ => rfl
  | _, _, _, .cons t ts p v vs h1 h2, hs => by
    simp only [List.all_cons, Bool.and_eq_true] at hs
    rw [scal_v hs.1 h1, scal_vs h2 hs.2]; rfl
theorem scal_rs : ∀ {ts : List Ty} (p : DP τ ts), ts.all scal = true → RpL P G h ts p (encP ts p)
  | [], _, _ => .nil
  | t :: ts, p, hs => by
    simp only [List.all_cons, Bool.and_eq_true] at hs
    exact .cons t ts p _ _ (scal_r _ hs.1) (scal_rs _ hs.2)
theorem row_vs : ∀ {e : Ty} {xs : List (e.den τ)} {vs : List Value}, RpR P G h e xs vs → (ets G e).all scal = true → vs = rowV G e xs
  | _, _, _, .nil e, _ => rfl
  | _, _, _, .cons e x xs vs ws h1 h2, hs => by
    rw [scal_vs h1 hs, row_vs h2 hs]; rfl
theorem row_rs {e : Ty} (hs : (ets G e).all scal = true) : ∀ (xs : List (e.den τ)), RpR P G h e xs (rowV G e xs)
  | [] => .nil e
  | x :: xs => .cons e x xs _ _ (scal_rs _ hs) (row_rs hs xs)
theorem frz_tr {t : Ty} {x : t.den τ} {v : Value} {fp : List Nat} (hz : frz t = true) (ht : Tr P G h w t x v fp) : fp = [] ∧ Rp P G h t x v := by
  cases ht <;> first | (cases hz; done) | exact ⟨rfl, ‹_›⟩
theorem scal_x {t : Ty} {x : t.den τ} {v : Value} {fp : List Nat} (hs : scal t = true) (ht : TrX P G h w t x v fp) : v = encV t x ∧ fp = [] := by
  cases t <;> first | (cases hs; done) | skip
  all_goals
    obtain ⟨h1, h2⟩ := frz_tr rfl (show Tr P G h w _ x v fp from ht)
    exact ⟨scal_v rfl h2, h1⟩
theorem scal_in : ∀ {ts : List Ty} {p : DP τ ts} {vs : List Value} {fp : List Nat}, TrXs P G h w ts p vs fp → ts.all scal = true → vs = encP ts p ∧ fp = []
  | _, _, _, _, .nil, _ => ⟨rfl, rfl⟩
  | _, _, _, _, .cons t ts p v vs f f' h1 h2 hd, hs => by
    simp only [List.all_cons, Bool.and_eq_true] at hs
    obtain ⟨e1, e2⟩ := scal_x hs.1 h1
    obtain ⟨e3, e4⟩ := scal_in h2 hs.2
    exact ⟨by rw [e1, e3]; rfl, by rw [e2, e4]; rfl⟩
theorem scal_tr {t : Ty} (x : t.den τ) (hs : scal t = true) : TrX P G h w t x (encV t x) [] := by
  cases t <;> first | (cases hs; done) | exact .fz _ _ _ rfl (scal_r _ rfl)
theorem scal_out : ∀ {ts : List Ty} (p : DP τ ts), ts.all scal = true → TrXs P G h w ts p (encP ts p) []
  | [], _, _ => .nil
  | t :: ts, p, hs => by
    simp only [List.all_cons, Bool.and_eq_true] at hs
    exact .cons t ts p _ _ [] [] (scal_tr _ hs.1) (scal_out _ hs.2) (fun b hb => by cases hb)
theorem left_below (hon : h.on w) (hb : Below w.heap.size w w') : Left h w [] h w' [] :=
  ⟨hb.os, hb.tape, hb.output, hb.size, fun b h1 _ => hb.block b h1, Fz.le.refl _, fun b o e => (hb.block b (Array.getElem?_eq_some_iff.1 (hon b o e)).1).trans (hon b o e), fun b hb => .inl hb, fun b hb => by cases hb⟩
theorem cok_scal {f : FuncId} {k : Con τ} (hs : k.ps.all scal = true) (hr : k.rs.all scal = true) (hb : k.bk = []) (hn : k.nr = k.rs.length) (hc : Callable P f)
    (H : ∀ (w : World) (h : Fz) (p : DP τ k.ps) (r : DP τ k.rs), h.on w → GlOk P G h → k.m p = some r → Calls P f (encP k.ps p).toArray w fun e w' => e = .returned (retV (encP k.rs r)) ∧ Below w.heap.size w w') : COk P G f k := by
  refine ⟨hc, fun h w p r vs fp hgl _ hon htr _ hm => ?_⟩
  obtain ⟨rfl, rfl⟩ := scal_in htr hs
  refine Calls.mono (H w h p r hon hgl hm) ?_
  rintro e w' ⟨rfl, hbl⟩
  have hl : (encP k.rs r).length = k.rs.length := by
    have : ∀ (ts : List Ty) (p : DP τ ts), (encP ts p).length = ts.length := by
      intro ts
      induction ts with
      | nil => intro p; rfl
      | cons t ts ih => intro p; simp [encP, ih]
    exact this _ _
  refine ⟨h, encP k.rs r, [], by rw [List.take_of_length_le (by omega)], left_below hon hbl, scal_out r hr, ?_⟩
  rw [hb, List.drop_eq_nil_of_le (by omega)]; rfl
theorem own_done {te : Nat} {e : Ty} {R : List (e.den τ)} {ad : Option Addr} {n c : Nat} (hs : (ets G e).all scal = true) (hon : h.on w) (hO : Own w [] w' [.row (.slice ad n c) te (ets G e).length R.length (rowV G e R)]) :
    Left h w [] h w' (Value.slice ad n c).ownBlock.toList ∧ TrXs P G h w' [.so te e] R [.slice ad n c] (Value.slice ad n c).ownBlock.toList := by
  obtain ⟨h1, _, h3, h4, h5, h6, _⟩ := left_below hon hO.below
  have hrow : w'.ownsRow 0 te (ets G e).length (.slice ad n c) R.length (rowV G e R) := hO.get (i := 0) rfl
  have hfp : ∀ b ∈ (Value.slice ad n c).ownBlock.toList, w.heap.size ≤ b := fun b hb => by
    rcases hO.fresh _ (List.mem_singleton.2 rfl) rfl b hb with h | h
    · cases h
    · exact h
  have hb := left_below hon hO.below
  refine ⟨⟨hb.os, hb.tape, hb.output, hb.size, hb.frame, hb.le, hb.on, hb.new, fun b hm => ⟨?_, .inr (hfp b hm)⟩⟩, ?_⟩
  · cases e1 : h b with
    | none => rfl
    | some o =>
      have := (Array.getElem?_eq_some_iff.1 (hon b o e1)).1
      have := hfp b hm
      omega
  · have := TrXs.cons (P := P) (G := G) (h := h) (w := w') (.so te e) [] R (.slice ad n c) [] _ [] (Tr.so te e R _ _ hrow (row_rs hs R)) .nil (fun b _ h => by cases h)
    rw [List.append_nil] at this
    exact this
theorem cok_rows {f : FuncId} {ts : List Ty} {te : Nat} {e : Ty} {m : DP τ ts → Option (DP τ [.so te e])} (hs : ts.all scal = true) (he : (ets G e).all scal = true) (hc : Callable P f)
    (H : ∀ (w : World) (h : Fz) (p : DP τ ts) (R : List (e.den τ)), h.on w → GlOk P G h → m p = some R → Calls P f (encP ts p).toArray w fun e' w' => ∃ p0 c0, e' = .returned (.slice p0 R.length c0) ∧ Own w [] w' [.row (.slice p0 R.length c0) te (ets G e).length R.length (rowV G e R)]) : COk P G f ⟨ts, [.so te e], 1, [], m⟩ := by
  refine ⟨hc, fun h w p r vs fp hgl _ hon htr _ hm => ?_⟩
  obtain ⟨rfl, rfl⟩ := scal_in htr hs
  refine Calls.mono (H w h p r hon hgl hm) ?_
  rintro e1 w' ⟨p0, c0, rfl, hO⟩
  obtain ⟨h1, h2⟩ := own_done (P := P) he hon hO
  exact ⟨h, _, _, rfl, h1, h2, rfl⟩
theorem cok_copy {f : FuncId} {te : Nat} {e : Ty} {m : List (e.den τ) → Option (List (e.den τ))} (he : (ets G e).all scal = true) (hc : Callable P f)
    (H : ∀ (w : World) (h : Fz) (xs R : List (e.den τ)) (ad : Option Addr) (c : Nat), h.on w → GlOk P G h → m xs = some R → Sees w ad (rowV G e xs) → xs.length ≤ c → Calls P f #[.slice ad xs.length c] w fun e' w' => ∃ p0 c0, e' = .returned (.slice p0 R.length c0) ∧ Own w [] w' [.row (.slice p0 R.length c0) te (ets G e).length R.length (rowV G e R)]) : COk P G f ⟨[.sl e], [.so te e], 1, [], m⟩ := by
  refine ⟨hc, fun h w p r vs fp hgl _ hon htr _ hm => ?_⟩
  cases htr with
  | cons _ _ _ v vs f f' h1 h2 hd =>
    cases h2
    obtain ⟨rfl, hr⟩ := frz_tr rfl (show Tr P G h w (.sl e) p v f from h1)
    cases hr with
    | sl _ _ ad c us hcc hse hrr =>
      rw [row_vs hrr he] at hse
      refine Calls.mono (H w h p r ad c hon hgl hm (hse.sees hon) hcc) ?_
      rintro e1 w' ⟨p0, c0, rfl, hO⟩
      obtain ⟨g1, g2⟩ := own_done (P := P) he hon hO
      exact ⟨h, _, _, rfl, g1, g2, rfl⟩
theorem cok_join {f : FuncId} {m : List Str × Str → Option Str} (hc : Callable P f)
    (H : ∀ (w : World) (h : Fz) (xs : List Str) (s R : Str) (ad : Option Addr) (c : Nat), h.on w → GlOk P G h → m (xs, s) = some R → Sees w ad (xs.map str) → xs.length ≤ c → Calls P f #[.slice ad xs.length c, str s] w fun e' w' => e' = .returned (str R) ∧ Below w.heap.size w w') : COk P G f ⟨[.sl .str, .str], [.str], 1, [], m⟩ := by
  refine ⟨hc, fun h w p r vs fp hgl _ hon htr _ hm => ?_⟩
  cases htr with
  | cons _ _ _ v vs f f' h1 h2 hd =>
    obtain ⟨rfl, rfl⟩ := scal_in h2 rfl
    obtain ⟨rfl, hr⟩ := frz_tr rfl (show Tr P G h w (.sl .str) p.1 v f from h1)
    cases hr with
    | sl _ _ ad c us hcc hse hrr =>
      rw [row_vs hrr rfl] at hse
      have he : rowV G .str p.1 = p.1.map str := by
        show List.flatMap _ _ = _
        generalize p.1 = l
        induction l with
        | nil => rfl
        | cons x l ih => rw [List.flatMap_cons, ih]; rfl
      rw [he] at hse
      refine Calls.mono (H w h p.1 p.2 r ad c hon hgl hm (hse.sees hon) hcc) ?_
      rintro e1 w' ⟨rfl, hbl⟩
      exact ⟨h, [str r], [], rfl, left_below hon hbl, scal_out (ts := [.str]) r rfl, rfl⟩
end
structure CLs (P : Program) (G : Sig τ) where
  cs : Cons τ
  ok : ∀ q ∈ cs, COk P G q.1 q.2
def CLs.nil {P : Program} {G : Sig τ} : CLs P G := ⟨[], fun q h => by cases h⟩
def CLs.add {P : Program} {G : Sig τ} (C : CLs P G) {f : FuncId} {k : Con τ} (h : COk P G f k) : CLs P G := ⟨(f, k) :: C.cs, fun q hq => by
  rcases List.mem_cons.1 hq with rfl | hq
  · exact h
  · exact C.ok q hq⟩
def fnB (fn : Func) (n : Nat) (k : Con τ) : Bool := (match fn.body with
  | some _ => true
  | none => false) && Nat.beq fn.ntmps n && Nat.ble n gh && Nat.ble k.ps.length n && k.rs.all noPr
def bdyF (fn : Func) : Code := match fn.body with
  | some c => c
  | none => .skip
theorem con_ok {P : Program} {G : Sig τ} {ty : List (TypeId × Ty)} (hm : P.follows .mixedOrders = true) (hNm : ∀ (f : FuncId) (fn : Func), P.funcs[f]? = some fn → (fn.name == "runtime.NumGoroutine") = false) (hT : ∀ cs n, TyOk (⟨P, G, ty, cs, n, fun _ => .bool false⟩ : Cx τ)) (C : CLs P G) {f : FuncId} {fn : Func} {k : Con τ} (n : Nat)
    (h1 : P.funcs[f]? = some fn) (h2 : fnB fn n k = true) {hn : Hn τ (DP τ k.rs)} (hF : Fact (⟨P, G, ty, C.cs, n, fun _ => .bool false⟩ : Cx τ) k (bdyF fn) fn.results.toList hn) : COk P G f k := by
  simp only [fnB, Bool.and_eq_true, Nat.beq_eq, Nat.ble_eq] at h2
  obtain ⟨⟨⟨⟨hb, hnt⟩, hng⟩, hp⟩, hr⟩ := h2
  refine fact_ok (X := ⟨P, G, ty, C.cs, n, fun _ => .bool false⟩) hm (hT _ _) C.ok ⟨h1, ?_, hNm f fn h1, hnt, hng, hp, rfl, hr⟩ hF
  unfold bdyF
  split at hb
  · rename_i c hc; rw [hc]
  · cases hb
theorem names_ok {P : Program} (h : (P.funcs.toList.all fun fn => !(fn.name == "runtime.NumGoroutine")) = true) : ∀ (f : FuncId) (fn : Func), P.funcs[f]? = some fn → (fn.name == "runtime.NumGoroutine") = false := by
  intro f fn hf
  have := List.all_eq_true.1 h fn (by rw [← Array.getElem?_toList] at hf; exact List.mem_of_getElem? hf)
  simpa using this
def eqsB (G : Sig τ) (ty : List (TypeId × Ty)) (eqs : List Nat) : Bool := ty.all fun p => match p.2 with
  | .st n => bif (G.fs n).all scal then mem eqs n else true
  | _ => true
theorem ty_all {P : Program} {G : Sig τ} {ty : List (TypeId × Ty)} (eqs : List Nat) (h1 : tyB P G ty = true) (h2 : eqsB G ty eqs = true) (h3 : ∀ n ∈ eqs, ∀ x y, G.eq n x y = eqD (G.fs n) (G.dtor n x) (G.dtor n y)) : ∀ cs n, TyOk (⟨P, G, ty, cs, n, fun _ => .bool false⟩ : Cx τ) := fun cs n => tyOk_of h1 fun n x y hs ⟨t, ht⟩ => by
  have h4 := List.all_eq_true.1 h2 (t, .st n) (asc_mem ht)
  have hs : (G.fs n).all scal = true := hs
  have h4 : (bif (G.fs n).all scal then mem eqs n else true) = true := h4
  rw [hs] at h4
  exact h3 n (mem_any.1 h4) x y
theorem fp_nil {P : Program} : ∀ p ∈ ([] : List (FuncId × (UInt8 → Option Bool))), FnOk P p.2 p.1 := fun p h => by cases h
theorem fp_cons {P : Program} {f : FuncId} {m : UInt8 → Option Bool} {l : List (FuncId × (UInt8 → Option Bool))} (h : FnOk P m f) (t : ∀ p ∈ l, FnOk P p.2 p.1) : ∀ p ∈ (f, m) :: l, FnOk P p.2 p.1 := fun p hp => by
  rcases List.mem_cons.1 hp with rfl | hp
  · exact h
  · exact t p hp
theorem below_left {h h' : Fz} {w w' : World} {fp' : List Nat} (hl : Left h w [] h' w' fp') : Below w.heap.size w w' := ⟨hl.os, hl.tape, hl.output, hl.size, fun b hb => hl.frame b hb (by simp)⟩
theorem fn_of {P : Program} {G : Sig τ} {f : FuncId} {m : UInt8 → Option Bool} (h1 : ∀ h, GlOk P G h) (h2 : FpOk P G) (h : COk P G f ⟨[.u8], [.bool], 1, [], m⟩) : FnOk P m f := ⟨h.1, fun c r w hm => by
  refine Calls.mono (h.2 (fun _ => none) w c r [byte c] [] (h1 _) h2 (fun b o e => by cases e) (scal_out (ts := [.u8]) c rfl) (fun b hb => by cases hb) hm) ?_
  rintro e w' ⟨h', rs, fp', rfl, hl, htr, _⟩
  obtain ⟨rfl, _⟩ := scal_in htr rfl
  exact ⟨rfl, below_left hl⟩⟩
theorem zcon_ok {X : Cx τ} (hm : X.P.follows .mixedOrders = true) (hNm : ∀ (f : FuncId) (fn : Func), X.P.funcs[f]? = some fn → (fn.name == "runtime.NumGoroutine") = false) (hT : TyOk X) (hfp : FpOk X.P X.G) (hC : ∀ q ∈ X.cs, COk X.P X.G q.1 q.2) {f : FuncId} (hc : Callable X.P f) {k : Nat} (e : zrun X k f [] = some true) :
    COk X.P X.G f ⟨[], [.bool], 1, [], fun _ => some true⟩ := cok_scal rfl rfl rfl rfl hc fun w h p r on gl hr => by
  have hr : some true = some r := hr
  cases hr
  refine Calls.mono (zrun_ok hm hT hC hNm e (h := h) (w := w) (vals := []) gl hfp on rfl (fun i A u h1 => by simp at h1)).2 ?_
  rintro e1 w' ⟨rfl, h', hl⟩
  exact ⟨rfl, below_left hl⟩
theorem fz_size {w w' : World} (h : Fz.on (fun b => w.heap[b]?) w') : w.heap.size ≤ w'.heap.size := by
  cases hs : w.heap.size with
  | zero => omega
  | succ n =>
    have := h n w.heap[n] (Array.getElem?_eq_getElem (by omega))
    have := (Array.getElem?_eq_some_iff.1 this).1
    omega
theorem zlaw_ok {X : Cx τ} (hm : X.P.follows .mixedOrders = true) (hNm : ∀ (f : FuncId) (fn : Func), X.P.funcs[f]? = some fn → (fn.name == "runtime.NumGoroutine") = false) (hT : TyOk X) (hfp : FpOk X.P X.G) (hC : ∀ q ∈ X.cs, COk X.P X.G q.1 q.2) {k : Nat} {f : FuncId} {avs : List (XV τ)} {b : Bool} (e : zrun X k f avs = some b)
    {w : World} (hgl : GlOk X.P X.G (fun b => w.heap[b]?)) (vals : List Value) (hlen : vals.length = avs.length) (hv : ∀ (i : Nat) (A : XV τ) (u : Value), avs[i]? = some A → vals[i]? = some u → XOk X.P X.G (fun b => w.heap[b]?) (fun _ => none) A u) :
    Calls X.P f vals.toArray w fun e w' => e = .returned (.bool b) ∧ Below w.heap.size w w' := by
  refine Calls.mono (zrun_ok hm hT hC hNm e (w := w) (vals := vals) hgl hfp (fun _ _ e => e) hlen hv).2 ?_
  rintro e1 w' ⟨rfl, h', hl⟩
  exact ⟨rfl, below_left hl⟩
theorem cells_str (l : List Str) : cells (fun x : Str => [str x]) l = l.map str := by
  unfold cells
  induction l with
  | nil => rfl
  | cons x l ih => rw [List.flatMap_cons, ih]; rfl
end Go.Rk
end
