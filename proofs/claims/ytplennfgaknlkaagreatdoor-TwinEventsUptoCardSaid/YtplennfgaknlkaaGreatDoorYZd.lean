/-
  Walks by evaluation: whole runs are right. Over any program.
  Walks by evaluation: what is checked of a translation's tables. Over any program.
  Walks by evaluation: contracts that are shown otherwise. Over any program.
  From what a statement says of the arguments to data, for any types at once. Over any program.
  Whole runs at given data: what a function makes of them, as its contract. Over any program.
-/
import Derived.Test.YtplennfgaknlkaaGreatDoorYZo
import Derived.Test.YtplennfgaknlkaaGreatDoorSeat
section
namespace Go.Rk
open Go.RowKit Go.Dm Go.Dk
variable {τ : Nat → Type}
section
variable {ρ : Type} {X : Cx τ} {w0 w w' : World} {h0 h h' H : Fz} {F : List Nat} {E : EnvX τ} {L L2 : Hp τ} {ν ν' : Vn τ} {φ φ' : Nat → List Nat} {nid nid' : Nat} {r : ρ}
theorem callZ_ok {K : Nx τ ρ} {f : FuncId} {avs : List (XV τ)} {z : Option ρ} : ∀ {cs : Cons τ}, callZ X L nid K f avs z cs = some r → (∃ q ∈ cs, callX X L nid K f avs [q] = some r) ∨ z = some r
  | [], e => .inr e
  | (g, k) :: cs, e => by
    have ih : callZ X L nid K f avs z cs = some r → (∃ q ∈ (g, k) :: cs, callX X L nid K f avs [q] = some r) ∨ z = some r := fun e => (callZ_ok e).imp (fun ⟨q, h1, h2⟩ => ⟨q, List.mem_cons_of_mem _ h1, h2⟩) id
    unfold callZ at e
    cases hg : Nat.beq g f with
    | false => rw [hg, bcF] at e; exact ih e
    | true =>
      rw [hg, bcT] at e
      cases hr : resXs X.G L k.ps avs with
      | none => rw [hr] at e; exact ih e
      | some q =>
        obtain ⟨p, l, m⟩ := q
        rw [hr] at e
        dsimp only at e
        cases hn : (nodF l && disjB l m) with
        | false => rw [hn, bcF] at e; exact ih e
        | true =>
          rw [hn, bcT] at e
          simp only [Bool.and_eq_true] at hn
          have hn2 : (nod l && disj l m) = true := by rw [nodF_nod hn.1, disjB_ok hn.2]; rfl
          split at e
          · rename_i Z hZ
            split at e
            · rename_i rs hrs
              cases hrt : (nod (rids rs) && (rids rs).all (mem l)) with
              | false => rw [hrt, bcF] at e; exact .inr e
              | true =>
                rw [hrt, bcT] at e
                split at e
                · rename_i R hR
                  refine .inl ⟨(g, k), List.mem_cons_self .., ?_⟩
                  unfold callX
                  rw [hg, bcT, hr]
                  dsimp only
                  rw [hn2, bcT, hZ]
                  dsimp only
                  rw [hrs]
                  dsimp only
                  rw [hrt, bcT, hR]
                  exact e
                · exact ih e
            · exact .inr e
          · exact .inr e
theorem opZ_ok (hT : TyOk X) (hC : ∀ q ∈ X.cs, COk X.P X.G q.1 q.2) (hNm : ∀ (f : FuncId) (fn : Func), X.P.funcs[f]? = some fn → (fn.name == "runtime.NumGoroutine") = false) {Z : Zx X} (hZ : ∀ f, ∀ q ∈ Z.ct f, COk X.P X.G q.1 q.2) {ih : InF τ ρ} (hih : InOk X w0 h0 F ih) : OpOk X w0 h0 F (opZ X Z ih) := by
  intro r o E L nid K e
  obtain ⟨dst, op, t, p, af, gd⟩ := o
  dsimp only at e
  unfold opZ at e
  split at e
  · split at e
    · rename_i hy
      split at e
      · rename_i hu
        split at e
        · rename_i hx
          split at e
          · rename_i hz
            split at e
            · rename_i hb
              exact nil_does hu hx hy hz hb e
            · cases e
          · cases e
        · cases e
      · cases e
    · exact opX_ok hT hC e
  · rename_i f args ats
    split at e
    · rename_i g hx
      split at e
      · rename_i avs hargs
        rcases callZ_ok e with ⟨q, hq, e⟩ | e
        · exact callX_ok hx hargs (fun q' hq' => by rw [List.mem_singleton.1 hq']; exact hZ g q hq) e
        · obtain ⟨v, U, T, n2, h1, h2, h3, _⟩ := inl_ok hNm hih e
          exact call_does hx hargs h1 h2 h3
      · cases e
    · rename_i id hx
      split at e
      · rename_i g bs cs hlk
        split at e
        · rename_i avs hargs
          rcases callZ_ok e with ⟨q, hq, e⟩ | e
          · exact callG_ok [id] (clo_entr hx hlk hargs) (fun q' hq' => by rw [List.mem_singleton.1 hq']; exact hZ g q hq) e
          · obtain ⟨v, U, T, n2, h1, h2, h3, h4⟩ := inl_ok hNm hih e
            exact callc_does hx hlk hargs h1 h2 h3 h4
        · cases e
      · cases e
    · exact opX_ok hT hC e
  · split at e
    · rename_i id hx
      cases hb : rvB (lk L id) with
      | true =>
        rw [hb] at e
        replace e := (bc_tt e)
        split at e
        · rename_i te hu
          exact sli_does hu hx e
        · cases e
      | false => rw [hb] at e; exact opX_ok hT hC e
    · exact opX_ok hT hC e
  · split at e
    · rename_i id hx
      cases hb : vwB (lk L id) with
      | true =>
        rw [hb] at e
        replace e := (bc_tt e)
        split at e
        · rename_i te hel
          split at e
          · rename_i m hy
            exact ixv_does hel hx hy e
          · cases e
        · cases e
      | false => rw [hb] at e; exact opX_ok hT hC e
    · exact opX_ok hT hC e
  · split at e
    · rename_i id hx
      split at e
      · rename_i hlk
        split at e
        · rename_i te hu
          exact lens_does hx hlk hu e
        · cases e
      · exact opX_ok hT hC e
    · exact opX_ok hT hC e
  · split at e
    · rename_i bs hb
      split at e
      · rename_i cs hc
        exact make_does hb hc e
      · cases e
    · cases e
  · split at e
    · rename_i te hel
      split at e
      · exact opX_ok hT hC e
      · obtain ⟨hz1, e⟩ := bc_t e
        split at e
        · rename_i cs hc
          obtain ⟨hb, e⟩ := bc_t e
          simp only [Bool.and_eq_true, Nat.beq_eq, Nat.ble_eq] at hb
          exact bz_does hel hz1 hc hb.1 hb.2 e
        · cases e
    · cases e
  · exact opX_ok hT hC e
where
  bc_tt {α : Type} {x y : Option α} {r : α} (e : bc true x y = some r) : x = some r := e
theorem OpOk.wn {op : OpF τ ρ} (n : Nat) (h : OpOk X w0 h0 F op) : OpOk (X.wn n) w0 h0 F op := h
theorem inZ_ok (hm : X.P.follows .mixedOrders = true) {Z : Zx X} (hZ : ∀ f, ∀ q ∈ Z.ct f, COk X.P X.G q.1 q.2) (hT : TyOk X) (hC : ∀ q ∈ X.cs, COk X.P X.G q.1 q.2) (hNm : ∀ (f : FuncId) (fn : Func), X.P.funcs[f]? = some fn → (fn.name == "runtime.NumGoroutine") = false) : ∀ (k : Nat), InOk (ρ := ρ) X w0 h0 F (inZ X Z k)
  | 0 => by intro r n c E L T0 nid K _ e; cases e
  | k + 1 => by
    have IH := inZ_ok hm hZ hT hC hNm k
    have hop : OpOk (ρ := ρ) X w0 h0 F (opZ X Z (inZ X Z k)) := opZ_ok hT hC hNm hZ IH
    intro r n c E L T0 nid K hn e
    unfold inZ at e
    split at e
    · exact ⟨.no, E, [], [], nid, 0, e, Nat.le_refl _, OkC.nil fun Q a w h => wp_skip h⟩
    · rename_i id l d
      cases d with
      | true =>
        obtain ⟨E2, U, T, n2, g1, g2, g3⟩ := dopsZ_ok (X := X.wn n) hm hn (hop.wn n) (id := id) e
        exact ⟨.no, E2, U, T, n2, 0, g1, g2, g3⟩
      | false =>
        obtain ⟨E2, U, T, n2, g1, g2, g3⟩ := opsZ_ok (X := X.wn n) (hop.wn n) hn e
        exact ⟨.no, E2, U, T, n2, 0, g1, g2, fun L2 ν h φ a w Q a1 a2 a3 a4 a5 a6 a7 => wp_region_list (g3 L2 ν h φ a w Q a1 a2 a3 a4 a5 a6 a7)⟩
    · rename_i x y
      obtain ⟨ex, E1, U1, T1, n1, m1, g1, g2, g3⟩ := IH _ _ _ _ _ _ _ _ hn e
      cases ex with
      | no =>
        obtain ⟨ex, E2, U2, T2, n2, m2, f1, f2, f3⟩ := IH _ _ _ _ _ _ _ _ hn g1
        refine ⟨ex, E2, U2 ++ U1, T2 ++ T1, n2, 0, by rw [List.append_assoc, List.append_assoc]; exact f1, Nat.le_trans g2 f2, OkC.seq g3.wp f3.wp g2 f2 fun Q a w h => wp_seq h⟩
      | ex i => exact ⟨.ex i, E1, U1, T1, n1, 0, g1, g2, g3.wp.out fun Q a w h => wp_seq (h _ fun _ _ q => q)⟩
      | rt => exact ⟨.rt, E1, U1, T1, n1, 0, g1, g2, g3.wp.out fun Q a w h => wp_seq (h _ fun _ _ q => q)⟩
    · rename_i c x y
      split at e
      · rename_i b hc
        cases b with
        | true =>
          obtain ⟨ex, E1, U1, T1, n1, m1, g1, g2, g3⟩ := IH _ _ _ _ _ _ _ _ hn e
          refine ⟨ex, E1, U1, T1, n1, 0, g1, g2, fun L2 ν h φ a w Q a1 a2 a3 a4 a5 a6 a7 => ?_⟩
          obtain ⟨Ea, hf, hl⟩ := envA a a1
          obtain ⟨v, h1, h2⟩ := evC_of hl (EnvOk.on (wn_env.1 a4) _) hc
          obtain rfl : v = _ := h2
          exact wp_cond_true (hf.ev h1) (g3.wp L2 ν h φ a w Q a1 a2 a3 a4 a5 a6 a7)
        | false =>
          obtain ⟨ex, E1, U1, T1, n1, m1, g1, g2, g3⟩ := IH _ _ _ _ _ _ _ _ hn e
          refine ⟨ex, E1, U1, T1, n1, 0, g1, g2, fun L2 ν h φ a w Q a1 a2 a3 a4 a5 a6 a7 => ?_⟩
          obtain ⟨Ea, hf, hl⟩ := envA a a1
          obtain ⟨v, h1, h2⟩ := evC_of hl (EnvOk.on (wn_env.1 a4) _) hc
          obtain rfl : v = _ := h2
          exact wp_cond_false (hf.ev h1) (g3.wp L2 ν h φ a w Q a1 a2 a3 a4 a5 a6 a7)
      · rename_i b hc
        split at e
        · rename_i s
          have ha : asc E s = some (.c (.b b)) := evC_tmp hc
          cases b with
          | true =>
            rw [if_pos rfl] at e
            obtain ⟨ex, E1, U1, T1, n1, m1, g1, g2, g3⟩ := IH _ _ _ _ _ _ _ _ hn e
            refine ⟨ex, E1, U1, T1, n1, 0, g1, g2, fun L2 ν h φ a w Q a1 a2 a3 a4 a5 a6 a7 => ?_⟩
            obtain ⟨Ea, hf, hl⟩ := envA a a1
            obtain ⟨v, h1, h2⟩ := evC_of hl (EnvOk.on (wn_env.1 a4) _) hc
            obtain rfl : v = _ := h2
            exact wp_cond_true (hf.ev h1) (g3.wp L2 ν h φ a w Q a1 a2 a3 (Ref.env ((Ref.refl E).known ha) a4) a5 a6 a7)
          | false =>
            rw [if_neg (by simp)] at e
            obtain ⟨ex, E1, U1, T1, n1, m1, g1, g2, g3⟩ := IH _ _ _ _ _ _ _ _ hn e
            refine ⟨ex, E1, U1, T1, n1, 0, g1, g2, fun L2 ν h φ a w Q a1 a2 a3 a4 a5 a6 a7 => ?_⟩
            obtain ⟨Ea, hf, hl⟩ := envA a a1
            obtain ⟨v, h1, h2⟩ := evC_of hl (EnvOk.on (wn_env.1 a4) _) hc
            obtain rfl : v = _ := h2
            exact wp_cond_false (hf.ev h1) (g3.wp L2 ν h φ a w Q a1 a2 a3 (Ref.env ((Ref.refl E).known ha) a4) a5 a6 a7)
        · cases e
      · cases e
    · rename_i id c
      obtain ⟨ex, E1, U1, T1, n1, m1, g1, g2, g3⟩ := IH _ _ _ _ _ _ _ _ hn e
      cases ex with
      | no => exact ⟨.no, E1, U1, T1, n1, 0, g1, g2, g3.wp.out fun Q a w h => wp_block (h _ fun _ _ q => q)⟩
      | rt => exact ⟨.rt, E1, U1, T1, n1, 0, g1, g2, g3.wp.out fun Q a w h => wp_block (h _ fun _ _ q => q)⟩
      | ex i =>
        cases hb : Nat.beq i id with
        | true =>
          simp only [hb] at g1
          have : i = id := by simpa using hb
          subst this
          exact ⟨.no, E1, U1, T1, n1, 0, g1, g2, g3.wp.out fun Q a w h => wp_block (h _ fun _ _ q => exit_here q)⟩
        | false =>
          simp only [hb] at g1
          exact ⟨.ex i, E1, U1, T1, n1, 0, g1, g2, g3.wp.out fun Q a w h => wp_block (h _ fun _ _ q => exit_past hb q)⟩
    · rename_i c
      obtain ⟨ex, E1, U1, T1, n1, m1, g1, g2, g3⟩ := IH _ _ _ _ _ _ _ _ hn e
      cases ex with
      | no =>
        obtain ⟨E1', e2, hE⟩ := nfE_ok g1
        obtain ⟨ex, E2, U2, T2, n2, m2, f1, f2, f3⟩ := IH _ _ _ _ _ _ _ _ hn e2
        refine ⟨ex, E2, U2 ++ U1, T2 ++ T1, n2, m2 + 1, by rw [List.append_assoc, List.append_assoc]; exact f1, Nat.le_trans g2 f2, OkC.seq g3.wp (f3.ref (E := E1) fun t x h => .inl (hE t x h).1) g2 f2 fun Q a w h => h⟩
      | ex i => exact ⟨.ex i, E1, U1, T1, n1, 1, g1, g2, g3.wp.out fun Q a w h => h _ fun _ _ q => q⟩
      | rt => exact ⟨.rt, E1, U1, T1, n1, 1, g1, g2, g3.wp.out fun Q a w h => h _ fun _ _ q => q⟩
    · rename_i id
      exact ⟨.ex id, E, [], [], nid, 0, e, Nat.le_refl _, OkC.nil fun Q a w h => wp_exit h⟩
    · exact ⟨.rt, E, [], [], nid, 0, e, Nat.le_refl _, OkC.nil fun Q a w h => wp_ret h⟩
    · cases e
theorem zrun_ok (hm : X.P.follows .mixedOrders = true) {Z : Zx X} (hZ : ∀ f, ∀ q ∈ Z.ct f, COk X.P X.G q.1 q.2) (hT : TyOk X) (hC : ∀ q ∈ X.cs, COk X.P X.G q.1 q.2) (hNm : ∀ (f : FuncId) (fn : Func), X.P.funcs[f]? = some fn → (fn.name == "runtime.NumGoroutine") = false)
    {k : Nat} {f : FuncId} {avs : List (XV τ)} {b : Bool} (e : zrun X Z k f avs = some b) {h : Fz} {w : World} {vals : List Value} (hgl : GlOk X.P X.G h) (hfp : FpOk X.P X.G) (hon : h.on w) (hlen : vals.length = avs.length)
    (hv : ∀ (i : Nat) (A : XV τ) (u : Value), avs[i]? = some A → vals[i]? = some u → XOk X.P X.G h (fun _ => none) A u) : Callable X.P f ∧ Calls X.P f vals.toArray w fun e w' => e = .returned (.bool b) ∧ ∃ h', Left h w [] h' w' [] := by
  unfold zrun at e
  obtain ⟨v, U, T, n2, h1, h2, h3, _⟩ := inl_ok (w0 := w) (h0 := h) (F := []) hNm (inZ_ok hm hZ hT hC hNm k) e
  have M0 : Mem X.P X.G w h [] [] w (fun _ => none) h (fun _ => []) :=
    ⟨rfl, rfl, rfl, Nat.le_refl _, fun _ _ _ => rfl, Fz.le.refl _, hon, fun b hb => .inl hb, fun _ => rfl, (fun _ _ _ h => by cases h), (fun _ _ h => by cases h), hgl, hfp⟩
  refine ⟨h3.1, Calls.mono (h3.2 [] _ h _ w vals M0 hlen hv (fun i hi => ?_) fun _ _ _ => rfl) ?_⟩
  · rfl
  rintro e1 w' ⟨u, ν', h', φ', rfl, M', _, hh, _, hx⟩
  have hu : u = .bool b := by
    split at h1
    · cases h1; exact hx
    · cases h1; exact hx
    · cases h1
  subst hu
  exact ⟨rfl, h', M'.os, M'.tape, M'.output, M'.size, M'.frame, M'.le, M'.on, M'.new, fun b hb => by cases hb⟩
end
end Go.Rk
end
section
namespace Go.Rk
open Go.RowKit Go.Dm Go.Dk
variable {τ : Nat → Type}
def eqV : (t : Ty) → t.den τ → t.den τ → Bool
  | .bool, (x : Bool), (y : Bool) => x == y
  | .int, (x : Int), (y : Int) => x == y
  | .u8, (x : UInt8), (y : UInt8) => x == y
  | .u16, (x : UInt16), (y : UInt16) => x == y
  | .str, (x : Str), (y : Str) => x == y
  | _, _, _ => true
def eqD : (ts : List Ty) → DP τ ts → DP τ ts → Bool
  | [], _, _ => true
  | [t], x, y => eqV t x y
  | t :: u :: ts, p, q => eqV t p.1 q.1 && eqD (u :: ts) p.2 q.2
def elB (P : Program) (G : Sig τ) (te : TypeId) (e : Ty) : Bool := match P.info? te with
  | some i => match i.zero with
    | some z => Nat.beq i.size (ets G e).length && Nat.beq z.cells.size i.size && Nat.blt 0 i.size
    | none => false
  | none => false
def scB (P : Program) (t : TypeId) : Ty → Bool
  | .bool => match P.underlying t with
    | some .bool => true
    | _ => false
  | .str => match P.underlying t with
    | some .string => true
    | _ => false
  | .int => match P.underlying t with
    | some (.int .i64) => true
    | _ => false
  | .u8 => match P.underlying t with
    | some (.int .u8) => true
    | _ => false
  | .u16 => match P.underlying t with
    | some (.int .u16) => true
    | _ => false
  | _ => false
def fieldsB (P : Program) : List Field → List Ty → Nat → Bool
  | [], [], _ => true
  | f :: fs, t :: ts, i => Nat.beq f.offset i && decide (f.name ≠ "_") && scB P f.type t && fieldsB P fs ts (i + 1)
  | _, _, _ => false
def flatB (P : Program) (G : Sig τ) (t : TypeId) (n : Nat) : Bool := match P.underlying t with
  | some (.struct ⟨fs⟩) => !(P.stoodInHeld t) && !(P.eqGuardType P.depth t) && fieldsB P fs (G.fs n) 0
  | _ => false
def tyB (P : Program) (G : Sig τ) (ty : List (TypeId × Ty)) : Bool := ty.all fun p => elB P G p.1 p.2 && (match p.2 with
  | .st n => bif (G.fs n).all scal then flatB P G p.1 n else true
  | _ => true)
section
variable {P : Program} {G : Sig τ} {h : Fz} {w : World}
theorem u16_eq (b c : UInt16) : ((b.toNat : Int) == (c.toNat : Int)) = (b == c) := by
  rw [Bool.eq_iff_iff]; simp only [beq_iff_eq, Int.natCast_inj, UInt16.toNat_inj]
theorem eqV_run {ti : TypeId} {t : Ty} {x y : t.den τ} {v u : Value} (hb : scB P ti t = true) (h1 : Rp P G h t x v) (h2 : Rp P G h t y u) (d : Nat) : (Op.equalIn (d + 1) ti v u).run P w = .ok (eqV t x y) w ∧ (isAgg ti).run P w = .ok false w := by
  have ia : ∀ {d : TypeDesc}, P.underlying ti = some d → (∀ f, d ≠ .struct f) → (∀ n e, d ≠ .array n e) → (isAgg ti).run P w = .ok false w := by
    intro d hu h1 h2
    unfold isAgg
    simp only [Sem.run_bind, run_underlying hu, Result.andThen_ok]
    cases d <;> first | rfl | exact (h1 _ rfl).elim | exact (h2 _ _ rfl).elim
  cases h1 <;> first | (cases hb; done) | skip
  all_goals
    cases h2
    unfold scB at hb
    dsimp only at hb
    split at hb
    · rename_i hu
      refine ⟨?_, ia hu (fun _ h => by cases h) (fun _ _ h => by cases h)⟩
      first
        | exact run_equalIn_bool' w d ti _ _ hu
        | exact run_equalIn_int w d ti .i64 .i64 _ _ hu
        | exact (run_equalIn_int w d ti .u8 .u8 _ _ hu).trans (congrArg (fun b => Result.ok b w) (byte_eq _ _))
        | exact (run_equalIn_int w d ti .u16 .u16 _ _ hu).trans (congrArg (fun b => Result.ok b w) (u16_eq _ _))
        | exact (run_equalIn_string w d ti _ _ hu).trans (by simp only [ByteArray.toList_eq]; rfl)
    · cases hb
theorem eqD_cons {t : Ty} {ts : List Ty} {p q : DP τ (t :: ts)} : eqD (t :: ts) p q = (eqV t p.hd q.hd && eqD ts p.tl q.tl) := by
  cases ts with
  | nil => simp [eqD, DP.hd]
  | cons u ts => rfl
theorem fields_run : ∀ {fs : List Field} {ts : List Ty} {i : Nat} {p q : DP τ ts} {xs ys vs us : List Value} (d : Nat), fieldsB P fs ts i = true → RpL P G h ts p vs → RpL P G h ts q us → (∀ k v, vs[k]? = some v → xs[i + k]? = some v) → (∀ k v, us[k]? = some v → ys[i + k]? = some v) →
    (Op.eqFields (d + 1) ⟨xs⟩ ⟨ys⟩ fs).run P w = .ok (eqD ts p q) w
  | [], [], i, p, q, xs, ys, vs, us, d, _, _, _, _, _ => by simp [Op.eqFields, eqD]
  | f :: fs, t :: ts, i, p, q, xs, ys, _, _, d, hb, .cons _ _ _ v vs a1 a2, .cons _ _ _ u us b1 b2, hx, hy => by
    simp only [fieldsB, Bool.and_eq_true, Nat.beq_eq, decide_eq_true_eq] at hb
    obtain ⟨⟨⟨ho, hn⟩, hs⟩, hr⟩ := hb
    have ih := fields_run (xs := xs) (ys := ys) d hr a2 b2 (fun k v hk => by rw [Nat.add_assoc, Nat.add_comm 1 k]; exact hx (k + 1) v hk) (fun k v hk => by rw [Nat.add_assoc, Nat.add_comm 1 k]; exact hy (k + 1) v hk)
    obtain ⟨e1, e2⟩ := eqV_run (w := w) hs a1 b1 d
    have hx0 : xs[f.offset]? = some v := by rw [ho]; exact hx 0 v rfl
    have hy0 : ys[f.offset]? = some u := by rw [ho]; exact hy 0 u rfl
    have p1 : (part f.type ⟨xs⟩ f.offset).run P w = .ok v w := by simp [part, e2, hx0, Result.andThen]
    have p2 : (part f.type ⟨ys⟩ f.offset).run P w = .ok u w := by simp [part, e2, hy0, Result.andThen]
    rw [eqD_cons]
    simp only [Op.eqFields, hn, ne_eq, not_false_iff, if_true, Sem.run_bind, p1, p2, e1, Result.andThen_ok]
    cases he : eqV t p.hd q.hd with
    | true => simpa using ih
    | false => simp
  | [], _ :: _, _, _, _, _, _, _, _, _, hb, _, _, _, _ => by cases hb
  | _ :: _, [], _, _, _, _, _, _, _, _, hb, _, _, _, _ => by cases hb
theorem tyOk_of {X : Cx τ} (h1 : tyB X.P X.G X.ty = true) (h2 : ∀ n x y, (X.G.fs n).all scal = true → (∃ t, asc X.ty t = some (.st n)) → X.G.eq n x y = eqD (X.G.fs n) (X.G.dtor n x) (X.G.dtor n y)) : TyOk X := by
  refine ⟨fun p hp => ?_, fun t n hn hs p q h xs ys hx hy => ?_⟩
  · have := List.all_eq_true.1 h1 p hp
    simp only [Bool.and_eq_true] at this
    have h3 := this.1
    unfold elB at h3
    split at h3
    · rename_i i hi
      split at h3
      · rename_i z hz
        simp only [Bool.and_eq_true, Nat.beq_eq, Nat.blt_eq] at h3
        exact ⟨i, z, hi, hz, h3.1.1, h3.1.2, h3.2⟩
      · cases h3
    · cases h3
  · have := List.all_eq_true.1 h1 (t, .st n) (asc_mem hn)
    simp only [Bool.and_eq_true] at this
    have h3 := this.2
    rw [hs] at h3
    have h3 : flatB X.P X.G t n = true := h3
    unfold flatB at h3
    split at h3
    · rename_i fs hu
      simp only [Bool.and_eq_true, Bool.not_eq_true'] at h3
      obtain ⟨⟨h4, h5⟩, h6⟩ := h3
      refine ⟨h5, fun w => ?_⟩
      have hfo : X.P.fieldsOf t = ⟨fs⟩ := by unfold Program.fieldsOf; rw [hu]
      rw [run_equalIn_struct w 9999 t ⟨xs⟩ ⟨ys⟩ (by rw [hfo]; exact hu) h4, hfo]
      rw [h2 n _ _ hs ⟨t, hn⟩, X.G.dc, X.G.dc]
      exact fields_run 9998 h6 hx hy (fun k v hk => by rw [Nat.zero_add]; exact hk) (fun k v hk => by rw [Nat.zero_add]; exact hk)
    · cases h3
end
end Go.Rk
end
section
namespace Go.Rk
open Go.RowKit Go.Dm Go.Dk
variable {τ : Nat → Type}
def encV : (t : Ty) → t.den τ → Value
  | .bool, x => .bool x
  | .int, x => .int .i64 x
  | .u8, (x : UInt8) => .int .u8 x.toNat
  | .u16, (x : UInt16) => .int .u16 x.toNat
  | .str, x => str x
  | _, _ => undef
def encP : (ts : List Ty) → DP τ ts → List Value
  | [], _ => []
  | t :: ts, p => encV t p.hd :: encP ts p.tl
def rowV (G : Sig τ) (e : Ty) (xs : List (e.den τ)) : List Value := xs.flatMap fun x => encP (ets G e) (edt G e x)
section
variable {P : Program} {G : Sig τ} {h h' : Fz} {w w' : World}
theorem scal_v {t : Ty} {x : t.den τ} {v : Value} (hs : scal t = true) (hr : Rp P G h t x v) : v = encV t x := by
  cases hr <;> first | (cases hs; done) | rfl
theorem scal_r {t : Ty} (x : t.den τ) (hs : scal t = true) : Rp P G h t x (encV t x) := by
  cases t <;> first | (cases hs; done) | constructor
theorem scal_vs : ∀ {ts : List Ty} {p : DP τ ts} {vs : List Value}, RpL P G h ts p vs → ts.all scal = true → vs = encP ts p
  | _, _, _, .nil, _ => rfl
  | _, _, _, .cons t ts p v vs h1 h2, hs => by
    simp only [List.all_cons, Bool.and_eq_true] at hs
    rw [scal_v hs.1 h1, scal_vs h2 hs.2]; rfl
theorem scal_rs : ∀ {ts : List Ty} (p : DP τ ts), ts.all scal = true → RpL P G h ts p (encP ts p)
  | [], _, _ => .nil
  | t :: ts, p, hs => by
    simp only [List.all_cons, Bool.and_eq_true] at hs
    exact .cons t ts p _ _ (scal_r _ hs.1) (scal_rs _ hs.2)
theorem row_vs : ∀ {e : Ty} {xs : List (e.den τ)} {vs : List Value}, RpR P G h e xs vs → (ets G e).all scal = true → vs = rowV G e xs
  | _, _, _, .nil e, _ => rfl
  | _, _, _, .cons e x xs vs ws h1 h2, hs => by
    rw [scal_vs h1 hs, row_vs h2 hs]; rfl
theorem row_rs {e : Ty} (hs : (ets G e).all scal = true) : ∀ (xs : List (e.den τ)), RpR P G h e xs (rowV G e xs)
  | [] => .nil e
  | x :: xs => .cons e x xs _ _ (scal_rs _ hs) (row_rs hs xs)
theorem frz_tr {t : Ty} {x : t.den τ} {v : Value} {fp : List Nat} (hz : frz t = true) (ht : Tr P G h w t x v fp) : fp = [] ∧ Rp P G h t x v := by
  cases ht <;> first | (cases hz; done) | exact ⟨rfl, ‹_›⟩
theorem scal_x {t : Ty} {x : t.den τ} {v : Value} {fp : List Nat} (hs : scal t = true) (ht : TrX P G h w t x v fp) : v = encV t x ∧ fp = [] := by
  cases t <;> first | (cases hs; done) | skip
  all_goals
    obtain ⟨h1, h2⟩ := frz_tr rfl (show Tr P G h w _ x v fp from ht)
    exact ⟨scal_v rfl h2, h1⟩
theorem scal_in : ∀ {ts : List Ty} {p : DP τ ts} {vs : List Value} {fp : List Nat}, TrXs P G h w ts p vs fp → ts.all scal = true → vs = encP ts p ∧ fp = []
  | _, _, _, _, .nil, _ => ⟨rfl, rfl⟩
  | _, _, _, _, .cons t ts p v vs f f' h1 h2 hd, hs => by
    simp only [List.all_cons, Bool.and_eq_true] at hs
    obtain ⟨e1, e2⟩ := scal_x hs.1 h1
    obtain ⟨e3, e4⟩ := scal_in h2 hs.2
    exact ⟨by rw [e1, e3]; rfl, by rw [e2, e4]; rfl⟩
theorem scal_tr {t : Ty} (x : t.den τ) (hs : scal t = true) : TrX P G h w t x (encV t x) [] := by
  cases t <;> first | (cases hs; done) | exact .fz _ _ _ rfl (scal_r _ rfl)
theorem scal_out : ∀ {ts : List Ty} (p : DP τ ts), ts.all scal = true → TrXs P G h w ts p (encP ts p) []
  | [], _, _ => .nil
  | t :: ts, p, hs => by
    simp only [List.all_cons, Bool.and_eq_true] at hs
    exact .cons t ts p _ _ [] [] (scal_tr _ hs.1) (scal_out _ hs.2) (fun b hb => by cases hb)
theorem left_below (hon : h.on w) (hb : Below w.heap.size w w') : Left h w [] h w' [] :=
  ⟨hb.os, hb.tape, hb.output, hb.size, fun b h1 _ => hb.block b h1, Fz.le.refl _, fun b o e => (hb.block b (Array.getElem?_eq_some_iff.1 (hon b o e)).1).trans (hon b o e), fun b hb => .inl hb, fun b hb => by cases hb⟩
theorem cok_scal {f : FuncId} {k : Con τ} (hs : k.ps.all scal = true) (hr : k.rs.all scal = true) (hb : k.bk = []) (hn : k.nr = k.rs.length) (hc : Callable P f)
    (H : ∀ (w : World) (h : Fz) (p : DP τ k.ps) (r : DP τ k.rs), h.on w → GlOk P G h → k.m p = some r → Calls P f (encP k.ps p).toArray w fun e w' => e = .returned (retV (encP k.rs r)) ∧ Below w.heap.size w w') : COk P G f k := by
  refine ⟨hc, fun h w p r vs fp hgl _ hon htr _ hm => ?_⟩
  obtain ⟨rfl, rfl⟩ := scal_in htr hs
  refine Calls.mono (H w h p r hon hgl hm) ?_
  rintro e w' ⟨rfl, hbl⟩
  have hl : (encP k.rs r).length = k.rs.length := by
    have : ∀ (ts : List Ty) (p : DP τ ts), (encP ts p).length = ts.length := by
      intro ts
      induction ts with
      | nil => intro p; rfl
      | cons t ts ih => intro p; simp [encP, ih]
    exact this _ _
  refine ⟨h, encP k.rs r, [], by rw [List.take_of_length_le (by omega)], left_below hon hbl, scal_out r hr, ?_⟩
  rw [hb, List.drop_eq_nil_of_le (by omega)]; rfl
theorem own_done {te : Nat} {e : Ty} {R : List (e.den τ)} {ad : Option Addr} {n c : Nat} (hs : (ets G e).all scal = true) (hon : h.on w) (hO : Own w [] w' [.row (.slice ad n c) te (ets G e).length R.length (rowV G e R)]) :
    Left h w [] h w' (Value.slice ad n c).ownBlock.toList ∧ TrXs P G h w' [.so te e] R [.slice ad n c] (Value.slice ad n c).ownBlock.toList := by
  obtain ⟨h1, _, h3, h4, h5, h6, _⟩ := left_below hon hO.below
  have hrow : w'.ownsRow 0 te (ets G e).length (.slice ad n c) R.length (rowV G e R) := hO.get (i := 0) rfl
  have hfp : ∀ b ∈ (Value.slice ad n c).ownBlock.toList, w.heap.size ≤ b := fun b hb => by
    rcases hO.fresh _ (List.mem_singleton.2 rfl) rfl b hb with h | h
    · cases h
    · exact h
  have hb := left_below hon hO.below
  refine ⟨⟨hb.os, hb.tape, hb.output, hb.size, hb.frame, hb.le, hb.on, hb.new, fun b hm => ⟨?_, .inr (hfp b hm)⟩⟩, ?_⟩
  · cases e1 : h b with
    | none => rfl
    | some o =>
      have := (Array.getElem?_eq_some_iff.1 (hon b o e1)).1
      have := hfp b hm
      omega
  · have := TrXs.cons (P := P) (G := G) (h := h) (w := w') (.so te e) [] R (.slice ad n c) [] _ [] (Tr.so te e R _ _ hrow (row_rs hs R)) .nil (fun b _ h => by cases h)
    rw [List.append_nil] at this
    exact this
theorem cok_rows {f : FuncId} {ts : List Ty} {te : Nat} {e : Ty} {m : DP τ ts → Option (DP τ [.so te e])} (hs : ts.all scal = true) (he : (ets G e).all scal = true) (hc : Callable P f)
    (H : ∀ (w : World) (h : Fz) (p : DP τ ts) (R : List (e.den τ)), h.on w → GlOk P G h → m p = some R → Calls P f (encP ts p).toArray w fun e' w' => ∃ p0 c0, e' = .returned (.slice p0 R.length c0) ∧ Own w [] w' [.row (.slice p0 R.length c0) te (ets G e).length R.length (rowV G e R)]) : COk P G f ⟨ts, [.so te e], 1, [], m⟩ := by
  refine ⟨hc, fun h w p r vs fp hgl _ hon htr _ hm => ?_⟩
  obtain ⟨rfl, rfl⟩ := scal_in htr hs
  refine Calls.mono (H w h p r hon hgl hm) ?_
  rintro e1 w' ⟨p0, c0, rfl, hO⟩
  obtain ⟨h1, h2⟩ := own_done (P := P) he hon hO
  exact ⟨h, _, _, rfl, h1, h2, rfl⟩
theorem cok_copy {f : FuncId} {te : Nat} {e : Ty} {m : List (e.den τ) → Option (List (e.den τ))} (he : (ets G e).all scal = true) (hc : Callable P f)
    (H : ∀ (w : World) (h : Fz) (xs R : List (e.den τ)) (ad : Option Addr) (c : Nat), h.on w → GlOk P G h → m xs = some R → Sees w ad (rowV G e xs) → xs.length ≤ c → Calls P f #[.slice ad xs.length c] w fun e' w' => ∃ p0 c0, e' = .returned (.slice p0 R.length c0) ∧ Own w [] w' [.row (.slice p0 R.length c0) te (ets G e).length R.length (rowV G e R)]) : COk P G f ⟨[.sl e], [.so te e], 1, [], m⟩ := by
  refine ⟨hc, fun h w p r vs fp hgl _ hon htr _ hm => ?_⟩
  cases htr with
  | cons _ _ _ v vs f f' h1 h2 hd =>
    cases h2
    obtain ⟨rfl, hr⟩ := frz_tr rfl (show Tr P G h w (.sl e) p v f from h1)
    cases hr with
    | sl _ _ ad c us hcc hse hrr =>
      rw [row_vs hrr he] at hse
      refine Calls.mono (H w h p r ad c hon hgl hm (hse.sees hon) hcc) ?_
      rintro e1 w' ⟨p0, c0, rfl, hO⟩
      obtain ⟨g1, g2⟩ := own_done (P := P) he hon hO
      exact ⟨h, _, _, rfl, g1, g2, rfl⟩
theorem cok_join {f : FuncId} {m : List Str × Str → Option Str} (hc : Callable P f)
    (H : ∀ (w : World) (h : Fz) (xs : List Str) (s R : Str) (ad : Option Addr) (c : Nat), h.on w → GlOk P G h → m (xs, s) = some R → Sees w ad (xs.map str) → xs.length ≤ c → Calls P f #[.slice ad xs.length c, str s] w fun e' w' => e' = .returned (str R) ∧ Below w.heap.size w w') : COk P G f ⟨[.sl .str, .str], [.str], 1, [], m⟩ := by
  refine ⟨hc, fun h w p r vs fp hgl _ hon htr _ hm => ?_⟩
  cases htr with
  | cons _ _ _ v vs f f' h1 h2 hd =>
    obtain ⟨rfl, rfl⟩ := scal_in h2 rfl
    obtain ⟨rfl, hr⟩ := frz_tr rfl (show Tr P G h w (.sl .str) p.1 v f from h1)
    cases hr with
    | sl _ _ ad c us hcc hse hrr =>
      rw [row_vs hrr rfl] at hse
      have he : rowV G .str p.1 = p.1.map str := by
        show List.flatMap _ _ = _
        generalize p.1 = l
        induction l with
        | nil => rfl
        | cons x l ih => rw [List.flatMap_cons, ih]; rfl
      rw [he] at hse
      refine Calls.mono (H w h p.1 p.2 r ad c hon hgl hm (hse.sees hon) hcc) ?_
      rintro e1 w' ⟨rfl, hbl⟩
      exact ⟨h, [str r], [], rfl, left_below hon hbl, scal_out (ts := [.str]) r rfl, rfl⟩
end
structure CLs (P : Program) (G : Sig τ) where
  cs : Cons τ
  ok : ∀ q ∈ cs, COk P G q.1 q.2
def CLs.nil {P : Program} {G : Sig τ} : CLs P G := ⟨[], fun q h => by cases h⟩
def CLs.add {P : Program} {G : Sig τ} (C : CLs P G) {f : FuncId} {k : Con τ} (h : COk P G f k) : CLs P G := ⟨(f, k) :: C.cs, fun q hq => by
  rcases List.mem_cons.1 hq with rfl | hq
  · exact h
  · exact C.ok q hq⟩
def fnB (fn : Func) (n : Nat) (k : Con τ) : Bool := (match fn.body with
  | some _ => true
  | none => false) && Nat.beq fn.ntmps n && Nat.ble n gh && Nat.ble k.ps.length n && k.rs.all noPr
def bdyF (fn : Func) : Code := match fn.body with
  | some c => c
  | none => .skip
theorem con_ok {P : Program} {G : Sig τ} {ty : List (TypeId × Ty)} (hm : P.follows .mixedOrders = true) (hNm : ∀ (f : FuncId) (fn : Func), P.funcs[f]? = some fn → (fn.name == "runtime.NumGoroutine") = false) (hT : ∀ cs n, TyOk (⟨P, G, ty, cs, n, fun _ => .bool false⟩ : Cx τ)) (C : CLs P G) {f : FuncId} {fn : Func} {k : Con τ} (n : Nat)
    (h1 : P.funcs[f]? = some fn) (h2 : fnB fn n k = true) {hn : Hn τ (DP τ k.rs)} (hF : Fact (⟨P, G, ty, C.cs, n, fun _ => .bool false⟩ : Cx τ) k (bdyF fn) fn.results.toList hn) : COk P G f k := by
  simp only [fnB, Bool.and_eq_true, Nat.beq_eq, Nat.ble_eq] at h2
  obtain ⟨⟨⟨⟨hb, hnt⟩, hng⟩, hp⟩, hr⟩ := h2
  refine fact_ok (X := ⟨P, G, ty, C.cs, n, fun _ => .bool false⟩) hm (hT _ _) C.ok ⟨h1, ?_, hNm f fn h1, hnt, hng, hp, rfl, hr⟩ hF
  unfold bdyF
  split at hb
  · rename_i c hc; rw [hc]
  · cases hb
theorem names_ok {P : Program} (h : (P.funcs.toList.all fun fn => !(fn.name == "runtime.NumGoroutine")) = true) : ∀ (f : FuncId) (fn : Func), P.funcs[f]? = some fn → (fn.name == "runtime.NumGoroutine") = false := by
  intro f fn hf
  have := List.all_eq_true.1 h fn (by rw [← Array.getElem?_toList] at hf; exact List.mem_of_getElem? hf)
  simpa using this
noncomputable def eqsB (G : Sig τ) (ty : List (TypeId × Ty)) (eqs : List Nat) : Bool := ty.all fun p => match p.2 with
  | .st n => bif (G.fs n).all scal then mem eqs n else true
  | _ => true
theorem ty_all {P : Program} {G : Sig τ} {ty : List (TypeId × Ty)} (eqs : List Nat) (h1 : tyB P G ty = true) (h2 : eqsB G ty eqs = true) (h3 : ∀ n ∈ eqs, ∀ x y, G.eq n x y = eqD (G.fs n) (G.dtor n x) (G.dtor n y)) : ∀ cs n, TyOk (⟨P, G, ty, cs, n, fun _ => .bool false⟩ : Cx τ) := fun cs n => tyOk_of h1 fun n x y hs ⟨t, ht⟩ => by
  have h4 := List.all_eq_true.1 h2 (t, .st n) (asc_mem ht)
  have hs : (G.fs n).all scal = true := hs
  have h4 : (bif (G.fs n).all scal then mem eqs n else true) = true := h4
  rw [hs] at h4
  exact h3 n (mem_any.1 h4) x y
theorem fp_nil {P : Program} : ∀ p ∈ ([] : List (FuncId × (UInt8 → Option Bool))), FnOk P p.2 p.1 := fun p h => by cases h
theorem fp_cons {P : Program} {f : FuncId} {m : UInt8 → Option Bool} {l : List (FuncId × (UInt8 → Option Bool))} (h : FnOk P m f) (t : ∀ p ∈ l, FnOk P p.2 p.1) : ∀ p ∈ (f, m) :: l, FnOk P p.2 p.1 := fun p hp => by
  rcases List.mem_cons.1 hp with rfl | hp
  · exact h
  · exact t p hp
theorem below_left {h h' : Fz} {w w' : World} {fp' : List Nat} (hl : Left h w [] h' w' fp') : Below w.heap.size w w' := ⟨hl.os, hl.tape, hl.output, hl.size, fun b hb => hl.frame b hb (by simp)⟩
theorem fn_of {P : Program} {G : Sig τ} {f : FuncId} {m : UInt8 → Option Bool} (h1 : ∀ h, GlOk P G h) (h2 : FpOk P G) (h : COk P G f ⟨[.u8], [.bool], 1, [], m⟩) : FnOk P m f := ⟨h.1, fun c r w hm => by
  refine Calls.mono (h.2 (fun _ => none) w c r [byte c] [] (h1 _) h2 (fun b o e => by cases e) (scal_out (ts := [.u8]) c rfl) (fun b hb => by cases hb) hm) ?_
  rintro e w' ⟨h', rs, fp', rfl, hl, htr, _⟩
  obtain ⟨rfl, _⟩ := scal_in htr rfl
  exact ⟨rfl, below_left hl⟩⟩
def ctOf {P : Program} {G : Sig τ} (T : Bt (CLs P G)) (f : FuncId) : Cons τ := match T.get f with
  | some C => C.cs
  | none => []
theorem ctOf_ok {P : Program} {G : Sig τ} {T : Bt (CLs P G)} : ∀ f, ∀ q ∈ ctOf T f, COk P G q.1 q.2 := by
  intro f q hq
  unfold ctOf at hq
  split at hq
  · rename_i C _; exact C.ok q hq
  · cases hq
theorem zcon_ok {X : Cx τ} (hm : X.P.follows .mixedOrders = true) (hNm : ∀ (f : FuncId) (fn : Func), X.P.funcs[f]? = some fn → (fn.name == "runtime.NumGoroutine") = false) (hT : TyOk X) (hfp : FpOk X.P X.G) (hC : X.cs = []) {Z : Zx X} (hZ : ∀ f, ∀ q ∈ Z.ct f, COk X.P X.G q.1 q.2) {f : FuncId} (hc : Callable X.P f) {k : Nat} (e : zrun X Z k f [] = some true) :
    COk X.P X.G f ⟨[], [.bool], 1, [], fun _ => some true⟩ := cok_scal rfl rfl rfl rfl hc fun w h p r on gl hr => by
  have hr : some true = some r := hr
  cases hr
  refine Calls.mono (zrun_ok hm hZ hT (fun q hq => by rw [hC] at hq; cases hq) hNm e (h := h) (w := w) (vals := []) gl hfp on rfl (fun i A u h1 => by simp at h1)).2 ?_
  rintro e1 w' ⟨rfl, h', hl⟩
  exact ⟨rfl, below_left hl⟩
theorem fz_size {w w' : World} (h : Fz.on (fun b => w.heap[b]?) w') : w.heap.size ≤ w'.heap.size := by
  cases hs : w.heap.size with
  | zero => omega
  | succ n =>
    have := h n w.heap[n] (Array.getElem?_eq_getElem (by omega))
    have := (Array.getElem?_eq_some_iff.1 this).1
    omega
theorem cells_str (l : List Str) : cells (fun x : Str => [str x]) l = l.map str := by
  unfold cells
  induction l with
  | nil => rfl
  | cons x l ih => rw [List.flatMap_cons, ih]; rfl
end Go.Rk
end
section
namespace Go.Rk
open Go.RowKit Go.Dm Go.Dk Go.ChangeShapes Go.WideShapes Go.Deep
variable {τ : Nat → Type}
section
variable {H : Type} {enc : TypeId × Value → H} {P : Program} {G : Sig τ} {w : World} {base : Nat} {spare : Nat → Bool} {held : Bool}
def mF (P : Program) (m : List Ty → TypeId → Option (List Ty)) : List Field → Nat → List Ty → Option (List Ty × Nat)
  | [], o, ts => some (ts, o)
  | f :: fs, o, ts => bif Nat.beq f.offset o then (match m ts f.type with
    | some r => mF P m fs (o + P.cellsOf f.type) r
    | none => none) else none
def mT (P : Program) (G : Sig τ) : Nat → List Ty → TypeId → Option (List Ty)
  | 0, _, _ => none
  | d + 1, ts, t => match P.underlying t with
    | some (.struct ⟨fs⟩) => match mF P (mT P G d) fs 0 ts with
      | some (r, o) => bif Nat.beq o (P.cellsOf t) then some r else none
      | none => none
    | some .string => match ts with
      | .str :: r => some r
      | _ => none
    | some .bool => match ts with
      | .bool :: r => some r
      | _ => none
    | some (.int .i64) => match ts with
      | .int :: r => some r
      | _ => none
    | some (.int .u8) => match ts with
      | .u8 :: r => some r
      | _ => none
    | some (.int .u16) => match ts with
      | .u16 :: r => some r
      | _ => none
    | some (.slice te) => match ts with
      | .sl e :: r => match mT P G d (ets G e) te with
        | some [] => bif Nat.beq (P.cellsOf te) (ets G e).length && Nat.blt 0 (ets G e).length then some r else none
        | _ => none
      | _ => none
    | _ => none
theorem rpl_mk {h : Fz} {t : Ty} {ts : List Ty} {x : t.den τ} {q : DP τ ts} {v : Value} {vs : List Value} (h1 : Rp P G h t x v) (h2 : RpL P G h ts q vs) : RpL P G h (t :: ts) (.mk x q) (v :: vs) := .cons t ts (.mk x q) v vs (by rw [DP.hd_mk]; exact h1) (by rw [DP.tl_mk]; exact h2)
abbrev hp (w : World) : Fz := fun b => w.heap[b]?
theorem rpl_len {h : Fz} : ∀ {ts : List Ty} {p : DP τ ts} {vs : List Value}, RpL P G h ts p vs → vs.length = ts.length
  | [], _, _, h => by cases h; rfl
  | t :: ts, _, _, h => by cases h with | cons _ _ _ v vs h1 h2 => simp [rpl_len h2]
theorem rpr_snoc {h : Fz} {e : Ty} {z : e.den τ} {ws : List Value} (hz : RpL P G h (ets G e) (edt G e z) ws) : ∀ {xs : List (e.den τ)} {vs : List Value}, RpR P G h e xs vs → RpR P G h e (xs ++ [z]) (vs ++ ws)
  | [], vs, h => by
    cases h
    have := RpR.cons (P := P) (G := G) e z [] ws [] hz (.nil e)
    simpa using this
  | x :: xs, _, h => by
    cases h with
    | cons _ _ _ v1 v2 h1 h2 =>
      have := RpR.cons e x (xs ++ [z]) v1 (v2 ++ ws) h1 (rpr_snoc hz h2)
      simpa [List.append_assoc] using this
theorem rpr_len {h : Fz} {e : Ty} : ∀ {xs : List (e.den τ)} {vs : List Value}, RpR P G h e xs vs → vs.length = xs.length * (ets G e).length
  | [], _, h => by cases h; simp
  | x :: xs, _, h => by
    cases h with
    | cons _ _ _ v1 v2 h1 h2 =>
      rw [List.length_append, rpl_len h1, rpr_len h2, List.length_cons, Nat.add_mul, Nat.one_mul, Nat.add_comm]
theorem rows_rp {fuel : Nat} {t te : TypeId} {v : Value} {x : DataW H × List MemPlace} {e : Ty} (ht : P.underlying t = some (.slice te)) (hC : P.cellsOf te = (ets G e).length) (hpos : 0 < (ets G e).length)
    (ho : ∀ fuel cs x, DataW.trod enc P w base spare held fuel te cs = some x → ∃ z : e.den τ, RpL P G (hp w) (ets G e) (edt G e z) cs) (hf : DataW.trod enc P w base spare held fuel t [v] = some x) :
    ∃ xs : List (e.den τ), Rp P G (hp w) (.sl e) xs v := by
  rcases open_slice ht hf with ⟨hcs, _⟩ | ⟨a, len, cap, m, n, D, Pl, hcs, hb, hl, hm, hmm, hx, hel⟩
  · simp at hcs
    subst hcs
    exact ⟨[], Rp.sl e [] none 0 [] (Nat.le_refl _) (.inl rfl) (.nil e)⟩
  · simp at hcs
    subst hcs
    have hmm' : len ≤ m := by rw [hmm]; split <;> omega
    rw [hC] at hel
    generalize hsz : (ets G e).length = sz at *
    have hex : ∀ i, i < len → ∃ (z : e.den τ) (ws : List Value), RpL P G (hp w) (ets G e) (edt G e z) ws ∧ (∀ (j : Nat) v, ws[j]? = some v → w.cell? ((a.add (i * sz)).add j) = some v) := by
      intro i hi
      obtain ⟨cs', hc, htr⟩ := hel i (by omega)
      obtain ⟨z, hz⟩ := ho _ _ _ htr
      exact ⟨z, cs', hz, fun j v hj => cell_hard hc hj⟩
    have hall : ∀ k, k ≤ len → ∃ (xs : List (e.den τ)) (vs : List Value), xs.length = k ∧ RpR P G (hp w) e xs vs ∧ ∀ (i : Nat) v, vs[i]? = some v → ∃ q j, i = q * sz + j ∧ w.cell? ((a.add (q * sz)).add j) = some v := by
      intro k
      induction k with
      | zero => intro _; exact ⟨[], [], rfl, .nil e, by simp⟩
      | succ k ih =>
        intro hk
        obtain ⟨xs, vs, hxl, hs, hcl⟩ := ih (by omega)
        obtain ⟨z, ws, hz1, hz2⟩ := hex k (by omega)
        have hlen := rpr_len hs
        rw [hsz] at hlen
        refine ⟨xs ++ [z], vs ++ ws, by simp [hxl], rpr_snoc hz1 hs, fun i v hv => ?_⟩
        by_cases hi : i < vs.length
        · rw [List.getElem?_append_left hi] at hv; exact hcl i v hv
        · rw [List.getElem?_append_right (by omega)] at hv
          refine ⟨k, i - k * sz, ?_, hz2 _ v (by rw [hlen, hxl] at hv; exact hv)⟩
          rw [hlen, hxl] at hi; omega
    obtain ⟨xs, vs, hxl, hs, hcl⟩ := hall len (Nat.le_refl _)
    refine ⟨xs, ?_⟩
    rw [← hxl]
    refine Rp.sl e xs (some a) cap vs (by omega) ?_ hs
    cases vs with
    | nil => exact .inl rfl
    | cons v0 vr =>
      obtain ⟨q, j, hqj, hc0⟩ := hcl 0 v0 rfl
      have hq0 : q = 0 := by
        rcases Nat.eq_zero_or_pos q with h | h
        · exact h
        · have : 1 * sz ≤ q * sz := Nat.mul_le_mul_right _ h
          omega
      subst hq0
      have hj0 : j = 0 := by omega
      subst hj0
      have ea : (a.add (0 * sz)).add 0 = a := by rw [Nat.zero_mul]; unfold Addr.add; simp
      rw [ea] at hc0
      obtain ⟨hsp, hlt⟩ := cell_block hc0
      obtain ⟨b, off, spot⟩ := a
      simp only at hsp; subst hsp
      have hblk : ∃ c e2 z2, w.heap[b]? = some (.cells c e2 z2) := by
        unfold World.cell? at hc0
        split at hc0
        · rename_i c e2 z2 hb; exact ⟨_, _, _, hb⟩
        · cases hc0
      obtain ⟨c, e2, z2, hbk⟩ := hblk
      refine .inr ⟨b, off, c, e2, z2, rfl, hbk, fun k v hv => ?_⟩
      obtain ⟨q, j, hqj, hc⟩ := hcl k v hv
      rw [add_none, add_none, Nat.add_assoc, ← hqj] at hc
      unfold World.cell? at hc
      dsimp only at hc
      rw [hbk] at hc
      simpa using hc
theorem mF_ok {n : Nat} {m : List Ty → TypeId → Option (List Ty)} (hm : ∀ ts t r, m ts t = some r → ∀ fuel cs x, DataW.trod enc P w base spare held fuel t cs = some x → ∀ vs' (q : DP τ r), RpL P G (hp w) r q vs' → ∃ p : DP τ ts, RpL P G (hp w) ts p (cs ++ vs'))
    {cs : List Value} : ∀ (fs : List Field) (o : Nat) (ts r : List Ty) (o' : Nat), mF P m fs o ts = some (r, o') → o' = cs.length → (∀ f ∈ fs, ∃ y, DataW.trod enc P w base spare held n f.type ((cs.drop f.offset).take (P.cellsOf f.type)) = some y) →
      ∀ vs' (q : DP τ r), RpL P G (hp w) r q vs' → ∃ p : DP τ ts, RpL P G (hp w) ts p (cs.drop o ++ vs')
  | [], o, ts, r, o', e, ho, _, vs', q, hq => by
    unfold mF at e
    cases e
    rw [ho, List.drop_length]
    exact ⟨q, hq⟩
  | f :: fs, o, ts, r, o', e, ho, hf, vs', q, hq => by
    unfold mF at e
    cases hb : Nat.beq f.offset o with
    | false => rw [hb] at e; cases e
    | true =>
      rw [hb] at e
      have hfo : f.offset = o := by simpa using hb
      replace e : (match m ts f.type with
        | some r => mF P m fs (o + P.cellsOf f.type) r
        | none => none) = some (r, o') := e
      split at e
      · rename_i r1 h1
        obtain ⟨p, hp'⟩ := mF_ok hm fs _ _ _ _ e ho (fun g hg => hf g (List.mem_cons_of_mem _ hg)) vs' q hq
        obtain ⟨y, hy⟩ := hf f (List.mem_cons_self ..)
        rw [hfo] at hy
        obtain ⟨p2, h2⟩ := hm _ _ _ h1 _ _ _ hy _ p hp'
        refine ⟨p2, ?_⟩
        have : cs.drop o = (cs.drop o).take (P.cellsOf f.type) ++ cs.drop (o + P.cellsOf f.type) := by
          rw [← List.drop_drop, List.take_append_drop]
        rw [this, List.append_assoc]
        exact h2
      · cases e
theorem mT_ok : ∀ (d : Nat) (ts : List Ty) (t : TypeId) (r : List Ty), mT P G d ts t = some r → ∀ fuel cs x, DataW.trod enc P w base spare held fuel t cs = some x → ∀ vs' (q : DP τ r), RpL P G (hp w) r q vs' → ∃ p : DP τ ts, RpL P G (hp w) ts p (cs ++ vs')
  | 0, _, _, _, e, _, _, _, _, _, _, _ => by cases e
  | d + 1, ts, t, r, e, fuel, cs, x, h, vs', q, hq => by
    unfold mT at e
    split at e
    · rename_i fs hu
      split at e
      · rename_i r1 o h1
        cases hb : Nat.beq o (P.cellsOf t) with
        | false => rw [hb] at e; cases e
        | true =>
          rw [hb] at e
          cases e
          obtain ⟨xs, n, _, rfl, hl, hlen, hf⟩ := DataW.trod_struct hu h
          have := mF_ok (cs := cs) (n := n) (fun ts t r => mT_ok d ts t r) fs 0 ts _ o h1 (by rw [hl]; simpa using hb) (fun f hf' => by
            obtain ⟨i, hi, rfl⟩ := List.mem_iff_getElem.1 hf'
            have hfi := hf i fs[i] (by simp [hi])
            have hlen' : xs.length = fs.length := by simpa using hlen
            rw [List.getElem?_eq_getElem (by omega)] at hfi
            exact ⟨_, hfi⟩) vs' q hq
          simpa using this
      · cases e
    · rename_i hu
      split at e
      · rename_i r1
        cases e
        obtain ⟨s, rfl, _, _⟩ := DataW.trod_string hu h
        obtain ⟨⟨l⟩⟩ := s
        exact ⟨.mk (t := .str) l q, rpl_mk (t := .str) (x := l) (.str l) hq⟩
      · cases e
    · rename_i hu
      split at e
      · rename_i r1
        cases e
        obtain ⟨b, rfl, _⟩ := DataW.trod_bool hu h
        exact ⟨.mk (t := .bool) b q, rpl_mk (t := .bool) (x := b) (.bool b) hq⟩
      · cases e
    · rename_i hu
      split at e
      · rename_i r1
        cases e
        obtain ⟨n, rfl, _, _⟩ := DataW.trod_int hu h
        exact ⟨.mk (t := .int) n q, rpl_mk (t := .int) (x := n) (.int n) hq⟩
      · cases e
    · rename_i hu
      split at e
      · rename_i r1
        cases e
        obtain ⟨n, rfl, _, hw⟩ := DataW.trod_int hu h
        obtain ⟨b, rfl⟩ := byte_of hw
        exact ⟨.mk (t := .u8) b q, rpl_mk (t := .u8) (x := b) (.u8 b) hq⟩
      · cases e
    · rename_i hu
      split at e
      · rename_i r1
        cases e
        obtain ⟨n, rfl, _, hw⟩ := DataW.trod_int hu h
        obtain ⟨b, rfl⟩ := word_of hw
        exact ⟨.mk (t := .u16) b q, rpl_mk (t := .u16) (x := b) (.u16 b) hq⟩
      · cases e
    · rename_i te hu
      split at e
      · rename_i e1 r1
        split at e
        · rename_i h1
          cases hb : (Nat.beq (P.cellsOf te) (ets G e1).length && Nat.blt 0 (ets G e1).length) with
          | false => rw [hb] at e; cases e
          | true =>
            rw [hb] at e
            cases e
            simp only [Bool.and_eq_true, Nat.beq_eq, Nat.blt_eq] at hb
            have hv : ∃ v, cs = [v] := by
              rcases open_slice hu h with ⟨hcs, _⟩ | ⟨a, len, cap, m, n, D, Pl, hcs, _⟩
              · exact ⟨_, hcs⟩
              · exact ⟨_, hcs⟩
            obtain ⟨v, rfl⟩ := hv
            obtain ⟨xs, hxs⟩ := rows_rp (G := G) (e := e1) hu hb.1 hb.2 (fun fuel cs x hh => by
              obtain ⟨p, hp'⟩ := mT_ok d _ _ _ h1 fuel cs x hh [] () .nil
              rw [List.append_nil] at hp'
              exact ⟨ect G e1 p, by rw [edt_ect]; exact hp'⟩) h
            exact ⟨.mk (t := .sl e1) xs q, rpl_mk (t := .sl e1) (x := xs) hxs hq⟩
        · cases e
      · cases e
    · cases e
theorem rpl_tr {h : Fz} : ∀ {ts : List Ty} {p : DP τ ts} {vs : List Value}, ts.all frz = true → RpL P G h ts p vs → TrL P G h w ts p vs []
  | [], _, _, _, h => by cases h; exact .nil
  | t :: ts, _, _, hz, h => by
    cases h with
    | cons _ _ _ v vs h1 h2 =>
      simp only [List.all_cons, Bool.and_eq_true] at hz
      exact .cons t ts _ v vs [] [] (.fz t _ v hz.1 h1) (rpl_tr hz.2 h2) (fun b hb => by cases hb)
def mX (P : Program) (G : Sig τ) (d : Nat) (ty : Ty) (t : TypeId) : Bool := match ty with
  | .st n => (match P.underlying t with
    | some (.struct _) => true
    | _ => false) && (match mT P G d (G.fs n) t with
    | some [] => (G.fs n).all frz
    | _ => false)
  | .pr _ _ => false
  | ty => frz ty && (match P.underlying t with
    | some .string => true
    | some .bool => true
    | some (.int _) => true
    | some (.slice _) => true
    | _ => false) && (match mT P G d [ty] t with
    | some [] => true
    | _ => false)
def mXs (P : Program) (G : Sig τ) (d : Nat) : List Ty → List TypeId → Bool
  | [], [] => true
  | ty :: tys, t :: ts => mX P G d ty t && mXs P G d tys ts
  | _, _ => false
theorem mX_ok {d : Nat} {ty : Ty} {t : TypeId} (e : mX P G d ty t = true) {r : Reach} {b0 : Nat} {v : Value} {D : DataW H} {ps : List MemPlace} (hval : Value.okWide P w r b0 t v) (hd : DataW.Trod enc P w base spare held t v D ps) :
    ∃ z : ty.den τ, TrX P G (hp w) w ty z v [] := by
  obtain ⟨fuel, hf⟩ := hd
  unfold mX at e
  split at e
  · rename_i n
    simp only [Bool.and_eq_true] at e
    obtain ⟨e0, e1⟩ := e
    split at e0
    · rename_i fs hu
      split at e1
      · rename_i h1
        simp only [Value.okWide, hu] at hval
        obtain ⟨cs, rfl, _⟩ := hval
        obtain ⟨p, hp'⟩ := mT_ok d _ _ _ h1 fuel _ _ hf [] () .nil
        rw [List.append_nil] at hp'
        obtain ⟨cs⟩ := cs
        refine ⟨G.ctor n p, cs, rfl, ?_⟩
        rw [G.dc]
        exact rpl_tr e1 hp'
      · cases e1
    · cases e0
  · cases e
  · rename_i h1 h2
    simp only [Bool.and_eq_true] at e
    obtain ⟨⟨e0, e2⟩, e3⟩ := e
    split at e3
    · rename_i h3
      obtain ⟨p, hp'⟩ := mT_ok d _ _ _ h3 fuel _ _ hf [] () .nil
      rw [List.append_nil] at hp'
      refine ⟨DP.hd p, ?_⟩
      generalize hcs : v.cells.toList = cs at hp'
      cases hp' with
      | cons _ _ _ u us g1 g2 =>
        cases g2
        have hna : ∀ l, v ≠ .agg l := by
          intro l h
          subst h
          unfold Value.okWide at hval
          split at e2
          · rename_i hu; simp [hu, Cell.okWide, Cell.ok] at hval
          · rename_i hu; simp [hu, Cell.okWide, Cell.ok] at hval
          · rename_i hu; simp [hu, Cell.okWide, Cell.ok] at hval
          · rename_i hu; simp [hu, Cell.okWide, Cell.ok] at hval
          · cases e2
        have hv : v = u := by
          cases v with
          | agg l => exact (hna l rfl).elim
          | _ => simpa [Value.cells] using hcs
        subst hv
        exact TrX.plain (.fz _ _ _ e0 g1) h1
    · cases e3
theorem mXs_ok {d : Nat} : ∀ {tys : List Ty} {ts : List TypeId} {vs : List Value} {ds : List (DataW H)} {ps : List MemPlace}, mXs P G d tys ts = true → (∀ (j : Nat) t v, ts[j]? = some t → vs[j]? = some v → ∃ r b0, Value.okWide P w r b0 t v) → DataW.TrodAll enc P w base spare held ts vs ds ps →
    ∃ p : DP τ tys, TrXs P G (hp w) w tys p vs []
  | [], [], _, _, _, _, _, h => by
    obtain ⟨rfl, _, _⟩ := trodAll_nil h
    exact ⟨(), .nil⟩
  | ty :: tys, t :: ts, _, _, _, e, hv, h => by
    simp only [mXs, Bool.and_eq_true] at e
    obtain ⟨v, vs, d0, ds, p, q, rfl, rfl, rfl, h0, h1⟩ := trodAll_cons h
    obtain ⟨r, b0, hv0⟩ := hv 0 t v rfl rfl
    obtain ⟨z, hz⟩ := mX_ok e.1 hv0 h0
    obtain ⟨pp, hpp⟩ := mXs_ok e.2 (fun j t v h1 h2 => hv (j + 1) t v (by simpa using h1) (by simpa using h2)) h1
    exact ⟨.mk z pp, by
      have := TrXs.cons (P := P) (G := G) (h := hp w) (w := w) ty tys (.mk z pp) v vs [] [] (by rw [DP.hd_mk]; exact hz) (by rw [DP.tl_mk]; exact hpp) (fun b hb => by cases hb)
      simpa using this⟩
  | [], _ :: _, _, _, _, e, _, _ => by simp [mXs] at e
  | _ :: _, [], _, _, _, e, _, _ => by simp [mXs] at e
theorem law_ok {f : FuncId} {ps : List Ty} {m : DP τ ps → Option Bool} {d : Nat} {ts : List TypeId} (hc : COk P G f ⟨ps, [.bool], 1, [], m⟩) (hm : ∀ p, m p = some true) (hX : mXs P G d ps ts = true) (hgl : GlOk P G (hp w)) (hfp : FpOk P G)
    {r : Reach} {b0 : Nat} {args : Array Value} {ds : List (DataW H)} {pl : List MemPlace} (hv : ∀ (j : Nat) t v, ts[j]? = some t → args[j]? = some v → Value.okWide P w r b0 t v) (h : DataW.TrodAll enc P w base spare held ts args.toList ds pl) :
    Calls P f args w fun e w' => e = .returned (.bool true) ∧ Below w.heap.size w w' := by
  obtain ⟨p, hp'⟩ := mXs_ok (G := G) hX (fun j t v h1 h2 => ⟨r, b0, hv j t v h1 (by simpa using h2)⟩) h
  have := hc.2 (hp w) w p true args.toList [] hgl hfp (fun b o e => e) hp' (fun b hb => by cases hb) (hm p)
  rw [Array.toArray_toList] at this
  refine Calls.mono this ?_
  rintro e w' ⟨h', rs, fp', rfl, hl, htr, _⟩
  obtain ⟨rfl, rfl⟩ := scal_in htr rfl
  exact ⟨rfl, below_left hl⟩
end
end Go.Rk
end
section
namespace Go.Rk
open Go.RowKit Go.Dm Go.Dk
variable {τ : Nat → Type}
noncomputable section
def unG : List (Bool × List (CV τ)) → Option (List (XV τ))
  | [] => some []
  | (false, [c]) :: l => match unG l with
    | some r => some (.c c :: r)
    | none => none
  | (true, cs) :: l => match unG l with
    | some r => some (.g cs :: r)
    | none => none
  | _ => none
def unX : XV τ → Option (List (XV τ))
  | .t l => unG l
  | _ => none
def zdat (X : Cx τ) (Z : Zx X) (k : Nat) (f : FuncId) (avs : List (XV τ)) (rs : List Ty) : Option (DP τ rs) := inl X Z (inZ X Z k) [] 0 (fun v _ U _ _ => match unX v with
  | some vs => match resXs X.G U rs vs with
    | some (p, [], []) => some p
    | _ => none
  | none => none) f avs []
def argX (G : Sig τ) : (ps : List Ty) → DP τ ps → List (XV τ)
  | [], _ => []
  | .st n :: ps, p => .g (avs (G.fs n) (G.dtor n p.hd)) :: argX G ps p.tl
  | t :: ps, p => .c (t.av p.hd) :: argX G ps p.tl
def frX (G : Sig τ) : Ty → Bool
  | .st n => (G.fs n).all frz
  | .pr _ _ => false
  | t => frz t
section
variable {P : Program} {G : Sig τ} {h : Fz} {w : World} {ν : Vn τ}
theorem tr_frz {t : Ty} {x : t.den τ} {v : Value} {fp : List Nat} (h1 : Tr P G h w t x v fp) (hz : frz t = true) : fp = [] ∧ CVOk P G h ν (t.av x) v := by
  cases h1 with
  | fz _ _ _ _ hr => exact ⟨rfl, av_ok hr⟩
  | so => cases hz
  | po => cases hz
  | pn0 => cases hz
  | pn1 => cases hz
theorem trl_frz : ∀ {ts : List Ty} {p : DP τ ts} {vs : List Value} {fp : List Nat}, TrL P G h w ts p vs fp → ts.all frz = true → fp = [] ∧ CVs P G h ν (avs ts p) vs
  | [], _, _, _, h1, _ => by cases h1; exact ⟨rfl, rfl⟩
  | t :: ts, _, _, _, h1, hz => by
    simp only [List.all_cons, Bool.and_eq_true] at hz
    cases h1 with
    | cons _ _ _ v vs f f' h1 h2 hd =>
      obtain ⟨rfl, h3⟩ := tr_frz (ν := ν) h1 hz.1
      obtain ⟨rfl, h4⟩ := trl_frz h2 hz.2
      exact ⟨rfl, v, vs, rfl, h3, h4⟩
theorem trx_frz {t : Ty} {ts : List Ty} {p : DP τ (t :: ts)} {v : Value} {fp : List Nat} (hz : frX G t = true) (h1 : TrX P G h w t p.hd v fp) : fp = [] ∧ ∃ A, argX G (t :: ts) p = A :: argX G ts p.tl ∧ XOk P G h ν A v := by
  cases t with
  | st n =>
    obtain ⟨vs, rfl, h2⟩ := h1
    obtain ⟨rfl, h3⟩ := trl_frz (ν := ν) h2 hz
    exact ⟨rfl, _, rfl, vs, rfl, h3⟩
  | pr a b => cases hz
  | _ =>
    obtain ⟨rfl, h3⟩ := tr_frz (ν := ν) h1 hz
    exact ⟨rfl, _, rfl, h3⟩
theorem trxs_frz : ∀ {ts : List Ty} {p : DP τ ts} {vs : List Value} {fp : List Nat}, TrXs P G h w ts p vs fp → ts.all (frX G) = true → fp = [] ∧ vs.length = (argX G ts p).length ∧ ∀ (i : Nat) (A : XV τ) (v : Value), (argX G ts p)[i]? = some A → vs[i]? = some v → XOk P G h ν A v
  | [], _, _, _, h1, _ => by cases h1; exact ⟨rfl, rfl, fun i A v h => by simp [argX] at h⟩
  | t :: ts, _, _, _, h1, hz => by
    simp only [List.all_cons, Bool.and_eq_true] at hz
    cases h1 with
    | cons _ _ _ v vs f f' h1 h2 hd =>
      obtain ⟨rfl, A, hA, h3⟩ := trx_frz (ν := ν) hz.1 h1
      obtain ⟨rfl, h4, h5⟩ := trxs_frz h2 hz.2
      refine ⟨rfl, by rw [hA]; simp [h4], fun i B u hB hu => ?_⟩
      rw [hA] at hB
      cases i with
      | zero => cases hB; cases hu; exact h3
      | succ i => exact h5 i B u (by simpa using hB) (by simpa using hu)
theorem unG_ok : ∀ {l : List (Bool × List (CV τ))} {xs : List (XV τ)} {vs : List Value}, unG l = some xs → TVs P G h ν l vs → vs.length = xs.length ∧ ∀ (i : Nat) (A : XV τ) (v : Value), xs[i]? = some A → vs[i]? = some v → XOk P G h ν A v
  | [], xs, vs, e, h1 => by
    cases e
    obtain rfl : vs = [] := h1
    exact ⟨rfl, fun i A v h => by simp at h⟩
  | (false, [c]) :: l, xs, vs, e, h1 => by
    simp only [unG] at e
    split at e
    · rename_i r hr
      cases e
      obtain ⟨v, us, rfl, h2, h3⟩ := h1
      obtain ⟨h4, h5⟩ := unG_ok hr h3
      refine ⟨by simp [h4], fun i A u hA hu => ?_⟩
      cases i with
      | zero => cases hA; cases hu; exact h2
      | succ i => exact h5 i A u (by simpa using hA) (by simpa using hu)
    · cases e
  | (true, cs) :: l, xs, vs, e, h1 => by
    simp only [unG] at e
    split at e
    · rename_i r hr
      cases e
      obtain ⟨ws, us, rfl, h2, h3⟩ := h1
      obtain ⟨h4, h5⟩ := unG_ok hr h3
      refine ⟨by simp [h4], fun i A u hA hu => ?_⟩
      cases i with
      | zero => cases hA; cases hu; exact ⟨ws, rfl, h2⟩
      | succ i => exact h5 i A u (by simpa using hA) (by simpa using hu)
    · cases e
  | (false, []) :: l, xs, vs, e, _ => by simp [unG] at e
  | (false, _ :: _ :: _) :: l, xs, vs, e, _ => by simp [unG] at e
end
theorem zdat_cok {X : Cx τ} (hm : X.P.follows .mixedOrders = true) (hNm : ∀ (f : FuncId) (fn : Func), X.P.funcs[f]? = some fn → (fn.name == "runtime.NumGoroutine") = false) (hT : TyOk X) (hC : X.cs = []) {Z : Zx X} (hZ : ∀ f, ∀ q ∈ Z.ct f, COk X.P X.G q.1 q.2) {f : FuncId} (hc : Callable X.P f)
    {ps rs : List Ty} {n : Nat} {p0 : DP τ ps} {r0 : DP τ rs} {m : DP τ ps → Option (DP τ rs)} (h0 : ∀ p r, m p = some r → p = p0 ∧ r = r0) (hps : ps.all (frX X.G) = true) (hrs : (Nat.beq rs.length n && !(Nat.beq n 1)) = true) {k : Nat} (e : zdat X Z k f (argX X.G ps p0) rs = some r0) :
    COk X.P X.G f ⟨ps, rs, n, [], m⟩ := by
  refine ⟨hc, fun h w p r vs fp gl hfp on htr _ hmr => ?_⟩
  simp only [Bool.and_eq_true, Nat.beq_eq, Bool.not_eq_true'] at hrs
  obtain ⟨rfl, rfl⟩ := h0 p r hmr
  obtain ⟨rfl, hlen, hv⟩ := trxs_frz (ν := fun _ => none) htr hps
  unfold zdat at e
  obtain ⟨v, U, T, n2, h1, h2, h3, _⟩ := inl_ok (w0 := w) (h0 := h) (F := []) hNm (inZ_ok hm hZ hT (fun q hq => by rw [hC] at hq; cases hq) hNm k) e
  have M0 : Mem X.P X.G w h [] [] w (fun _ => none) h (fun _ => []) :=
    ⟨rfl, rfl, rfl, Nat.le_refl _, fun _ _ _ => rfl, Fz.le.refl _, on, fun b hb => .inl hb, fun _ => rfl, (fun _ _ _ h => by cases h), (fun _ _ h => by cases h), gl, hfp⟩
  refine Calls.mono (h3.2 [] _ h _ w vs M0 hlen hv (fun i hi => rfl) fun _ _ _ => rfl) ?_
  rintro e1 w' ⟨u, ν', h', φ', rfl, M', _, hh, _, hx⟩
  split at h1
  · rename_i xs hxs
    split at h1
    · rename_i q hq
      cases h1
      have hl : ∃ l, v = .t l ∧ unG l = some xs := by
        cases v with
        | t l => exact ⟨l, rfl, hxs⟩
        | _ => cases hxs
      obtain ⟨l, rfl, hxs⟩ := hl
      obtain ⟨us, rfl, hus⟩ := hx
      obtain ⟨g1, g2⟩ := unG_ok hxs hus
      have htr' := resXs_ok (H := h') M' (Fz.le.refl _) hq (fun i hi => by cases hi) ⟨fun i hi => (by cases hi), fun b hb => (by cases hb)⟩ rfl g1 g2
      have hlr : us.length = n := by rw [trxs_len htr']; exact hrs.1
      refine ⟨h', us, [], ?_, ⟨M'.os, M'.tape, M'.output, M'.size, M'.frame, M'.le, M'.on, M'.new, fun b hb => by cases hb⟩, htr', ?_⟩
      · rw [← hlr, List.take_length]
        have hne : us.length ≠ 1 := by
          intro h1
          rw [hlr] at h1
          have := hrs.2
          rw [h1] at this
          cases this
        match us, hne with
        | [], _ => rfl
        | [_], h => exact (h rfl).elim
        | _ :: _ :: _, _ => rfl
      · rw [← hlr, List.drop_length]; rfl
    · cases h1
  · cases h1
where
  trxs_len {P : Program} {G : Sig τ} {h : Fz} {w : World} : ∀ {ts : List Ty} {p : DP τ ts} {vs : List Value} {fp : List Nat}, TrXs P G h w ts p vs fp → vs.length = ts.length
    | [], _, _, _, h => by cases h; rfl
    | t :: ts, _, _, _, h => by cases h with | cons _ _ _ v vs f f' h1 h2 hd => simp [trxs_len h2]
def ctC {P : Program} {G : Sig τ} (ct : FuncId → Cons τ) (g : FuncId) (C : CLs P G) (f : FuncId) : Cons τ := bif Nat.beq f g then C.cs else ct f
theorem ctC_ok {P : Program} {G : Sig τ} {ct : FuncId → Cons τ} {g : FuncId} {C : CLs P G} (h : ∀ f, ∀ q ∈ ct f, COk P G q.1 q.2) : ∀ f, ∀ q ∈ ctC ct g C f, COk P G q.1 q.2 := by
  intro f q hq
  unfold ctC at hq
  cases hb : Nat.beq f g with
  | true => rw [hb] at hq; exact C.ok q hq
  | false => rw [hb] at hq; exact h f q hq
end
end Go.Rk
end
