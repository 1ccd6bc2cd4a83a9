/-
  X-Forwarded-For: elements, lists, one element more. No program in sight.
  For whom messages came: any text as an element, or as a list of elements; the program's, and the page's.
  For whom messages came: elements, and lists of elements; the program reads them as the page does.
  X-Forwarded-For read: the document's, as the program's.
  Via: elements read and written.
  Via: the document's elements; texts; lists; one element more.
  Via: one element more, behind a head's list.
  For whom messages came: one element more, behind a head's list.
  Heads that are signed: by whom, and for whom, t
-/
import Derived.Test.YtinncambjiffoaaGreatDoorT26
section
namespace Go.Dm
def zlA (c : UInt8) : Bool := zjA c || c == 58 || c == 46
theorem zwS (c : UInt8) : (!zhq c || zlA c) = true := za0 (fun c => !zhq c || zlA c) (by decide +kernel) c
theorem zwT (c : UInt8) : (!zjA c || zlA c) = true := za0 (fun c => !zjA c || zlA c) (by decide +kernel) c
theorem znz {s : Str} {m : Int} (h : zij s m = true) : s.all zlA = true := by
  unfold zij at h
  simp only [Bool.and_eq_true, beq_iff_eq] at h
  have h1 := h.1
  unfold ziY at h1
  split at h1
  · cases h1
  · rename_i h2
    simp only [Bool.or_eq_true, Bool.not_eq_true', not_or] at h2
    have h3 : s.all (zqa 10) = true := by simpa using h2.2
    refine List.all_eq_true.2 fun x hx => ?_
    have h4 : zhq x = true := List.all_eq_true.1 h3 x hx
    have := zwS x
    rw [h4] at this
    simpa using this
theorem zi7 {p : UInt8 → Bool} {c : UInt8} (hc : p c = true) : ∀ {s : Str}, (∀ x ∈ zz c s, x.all p = true) → s.all p = true
  | [], _ => rfl
  | y :: s, h => by
    rw [zdO] at h
    split at h
    · rename_i e
      subst e
      rw [List.all_cons, hc, Bool.true_and]
      exact zi7 hc fun x hx => h x (List.mem_cons_of_mem _ hx)
    · cases hs : zz c s with
      | nil => exact absurd hs (zeq c s)
      | cons a l =>
        rw [hs] at h
        have h1 := h (y :: a) (List.mem_cons_self ..)
        rw [List.all_cons] at h1
        simp only [Bool.and_eq_true] at h1
        rw [List.all_cons, h1.1, Bool.true_and]
        refine zi7 hc fun x hx => ?_
        rw [hs] at hx
        rcases List.mem_cons.1 hx with rfl | hx
        · exact h1.2
        · exact h x (List.mem_cons_of_mem _ hx)
theorem zlB {s : Str} (h : ze6 s = true) : s.all zlA = true ∧ s ≠ [] := by
  refine ⟨?_, ?_⟩
  · unfold ze6 at h
    simp only [Bool.and_eq_true] at h
    exact zi7 (by decide) fun x hx => znz (List.all_eq_true.1 h.1 x hx)
  · rintro rfl
    revert h
    simp [ze6, zz]
theorem ztP {s : Str} (h : grp s = true) : s.all zlA = true := by
  unfold grp at h
  simp only [Bool.and_eq_true] at h
  refine List.all_eq_true.2 fun x hx => ?_
  have h4 : zjA x = true := List.all_eq_true.1 h.2 x hx
  have := zwT x
  rw [h4] at this
  simpa using this
theorem zlC (last : Bool) : ∀ {l : List Str} {k : Nat}, zcX last l = some k → ∀ x ∈ l, x.all zlA = true
  | [], _, _, x, hx => by cases hx
  | [y], k, h, x, hx => by
    have : x = y := by simpa using hx
    subst this
    rw [zlU] at h
    split at h
    · rename_i h2
      simp only [Bool.and_eq_true] at h2
      exact (zlB h2.2).1
    · split at h
      · rename_i h3; exact ztP h3
      · cases h
  | y :: z :: l, k, h, x, hx => by
    rw [zkQ] at h
    split at h
    · rename_i h2
      obtain ⟨m, hm, _⟩ := Option.map_eq_some_iff.1 h
      rcases List.mem_cons.1 hx with rfl | hx
      · exact ztP h2
      · exact zlC last hm x hx
    · cases h
theorem zoM {last : Bool} {s : Str} {k : Nat} (h : zcX last (zgY s) = some k) : s.all zlA = true := by
  unfold zgY at h
  split at h
  · rename_i e; subst e; rfl
  · exact zi7 (by decide) fun x hx => zlC last h x hx
theorem zqm {s : Str} (h : zkR s = true) : s.all zlA = true ∧ s ≠ [] := by
  unfold zkR at h
  cases hc : zjY [58, 58] s with
  | none =>
    rw [hc] at h
    dsimp only at h
    unfold zrp at h
    have hw : zcX true (zz 58 s) = some 8 := by simpa using h
    refine ⟨zi7 (by decide) fun x hx => zlC true hw x hx, ?_⟩
    rintro rfl
    revert h
    decide
  | some p =>
    rw [hc] at h
    dsimp only at h
    have e := zjN (a := p.1) (b := p.2) hc
    refine ⟨?_, by rw [e]; simp⟩
    cases h1 : zcX false (zgY p.1) with
    | none => rw [h1] at h; cases h
    | some a =>
      cases h2 : zcX true (zgY p.2) with
      | none => rw [h1, h2] at h; cases h
      | some b =>
        rw [e, List.all_append, List.all_append, zoM h1, zoM h2]
        decide
def zh2 : Str := [117, 110, 107, 110, 111, 119, 110]
def zmo (s : Str) : Bool := ze6 s || zkR s
def zkm (c : Str) : Str := if zmo c then c else zh2
theorem zlD (c : Str) : (zmo c = true ∧ zkm c = c) ∨ zkm c = zh2 := by
  unfold zkm
  cases h : zmo c with
  | true => exact .inl ⟨rfl, rfl⟩
  | false => exact .inr rfl
theorem zuu (c : UInt8) : (!zlA c || (!(c == 34) && !(c == 40) && !(c == 44) && !zan c)) = true := za0 (fun c => !zlA c || (!(c == 34) && !(c == 40) && !(c == 44) && !zan c)) (by decide +kernel) c
theorem zwU {s : Str} (h : ∀ x ∈ s, zan x = false) : zeF s = s := by
  have hl : ∀ t : Str, (∀ x ∈ t, zan x = false) → t.dropWhile zan = t := by
    intro t ht
    cases t with
    | nil => rfl
    | cons y t => rw [List.dropWhile_cons, ht y (List.mem_cons_self ..)]; rfl
  have hr : zdh s = s := by unfold zdh; rw [hl _ (fun x hx => h x (List.mem_reverse.1 hx)), List.reverse_reverse]
  unfold zeF ziA
  rw [hr, hl s h]
theorem zrY {s : Str} (h : s.all (fun c => !(c == 34) && !(c == 40) && !(c == 44) && !zan c) = true) : (s.all fun c => !(c == 34) && !(c == 40) && !(c == 44)) = true ∧ zeF s = s := by
  constructor
  · refine List.all_eq_true.2 fun x hx => ?_
    have := List.all_eq_true.1 h x hx
    simp only [Bool.and_eq_true] at this ⊢
    exact this.1
  · refine zwU fun x hx => ?_
    have := List.all_eq_true.1 h x hx
    simp only [Bool.and_eq_true, Bool.not_eq_true'] at this
    exact this.2
theorem ztc (c : Str) : ((zkm c).all fun c => !(c == 34) && !(c == 40) && !(c == 44)) = true ∧ zeF (zkm c) = zkm c ∧ zkm c ≠ [] := by
  rcases zlD c with ⟨h, e⟩ | e
  · have ha : c.all zlA = true ∧ c ≠ [] := by
      unfold zmo at h
      simp only [Bool.or_eq_true] at h
      rcases h with h | h
      · exact zlB h
      · exact zqm h
    have := zrY (s := c) (List.all_eq_true.2 fun x hx => by
      have h1 := List.all_eq_true.1 ha.1 x hx
      have h2 := zuu x
      rw [h1] at h2
      simpa using h2)
    rw [e]; exact ⟨this.1, this.2, ha.2⟩
  · rw [e]; exact ⟨by decide, by decide, by decide⟩
def zlE (s : Str) : Str × Bool := if ([93] : Str).isSuffixOf s then (s.take (s.length - 1), true) else (s, false)
theorem zjZ (s : Str) (hs : s.length < 1000000000) : strings_CutSuffix s [93] = some (zlE s) := by
  unfold strings_CutSuffix stringslite_CutSuffix
  have h' := zmc s [93] hs (by decide)
  rw [h', Option.bind_some]
  unfold zlE
  cases hp : ([93] : Str).isSuffixOf s with
  | false => rfl
  | true =>
    have hl := (List.isSuffixOf_iff_suffix.1 hp).length_le
    simp only [List.length_singleton] at hl
    have e : zfG (s.length : Int) (([93] : Str).length : Int) = some ((s.length - 1 : Nat) : Int) := by
      rw [zeJ (by simp; omega) (by simp; omega)]; congr 1; simp; omega
    rw [Bool.not_true, if_neg (by decide), e, Option.bind_some, zlW (by omega)]
    rfl
def isX (s : Str) : Bool := zmo s || (([91] : Str).isPrefixOf s && (zlE (if ([91] : Str).isPrefixOf s then s.drop 1 else s)).2 && zkR (zlE (if ([91] : Str).isPrefixOf s then s.drop 1 else s)).1) || low s == zh2
theorem znA (s : Str) (hs : s.length < 900000000) : zjd s = some (zmo s) := by
  unfold zjd zhi zmo
  rw [zeO s (by omega), Option.bind_some, zrq s hs, Option.bind_some]
  cases ze6 s <;> rfl
theorem ztd (s : Str) : (zlE s).1.length ≤ s.length := by unfold zlE; split <;> simp
theorem zuv (s : Str) (hs : s.length < 900000000) : zo1 s = some (isX s) := by
  unfold zo1
  rw [zha s [91] (by omega), Option.bind_some]
  have hl : (if ([91] : Str).isPrefixOf s = true then (s.drop ([91] : Str).length, true) else (s, false)).1.length ≤ s.length := by split <;> simp
  have hc := ztd (if ([91] : Str).isPrefixOf s = true then (s.drop ([91] : Str).length, true) else (s, false)).1
  rw [zjZ _ (by omega), Option.bind_some, znA s hs, Option.bind_some, zrq _ (by omega), Option.bind_some, ziI s _ (by omega) (by decide), Option.bind_some]
  unfold isX zfT
  have hu : low ([117, 110, 107, 110, 111, 119, 110] : Str) = zh2 := by decide
  rw [hu]
  cases zmo s with
  | true => rfl
  | false =>
    cases ([91] : Str).isPrefixOf s with
    | false => rfl
    | true =>
      simp only [if_true]
      rw [show s.drop ([91] : Str).length = s.drop 1 from rfl]
      generalize zlE (s.drop 1) = q
      obtain ⟨q1, q2⟩ := q
      cases q2 <;> cases zkR q1 <;> rfl
theorem zwV (c : Str) : isX (zkm c) = true := by
  unfold isX
  rcases zlD c with ⟨h, e⟩ | e
  · rw [e, h]; rfl
  · rw [e]
    have : (low zh2 == zh2) = true := by decide
    rw [this, Bool.or_true]
def zaE : List Str → List Str × Int
  | [] => ([], 0)
  | v :: vs => match zad v with
    | none => ([], 2)
    | some l => if l.all isX then (if (zaE vs).2 == 0 then (l ++ (zaE vs).1, 0) else ([], (zaE vs).2)) else ([], 2)
def zoN (out : List Str) (r : List Str × Int) : List Str × Int := if r.2 == 0 then (out ++ r.1, 0) else ([], r.2)
theorem zlF {v : Str} (vs : List Str) (h : zad v = none) : zaE (v :: vs) = ([], 2) := by rw [zaE, h]
theorem zlG {v : Str} (vs : List Str) {l : List Str} (h : zad v = some l) : zaE (v :: vs) = if l.all isX then zoN l (zaE vs) else ([], 2) := by rw [zaE, h]; rfl
theorem zvK (a b : List Str) (r : List Str × Int) : zoN (a ++ b) r = zoN a (zoN b r) := by
  unfold zoN
  cases h : r.2 == 0 with
  | true => simp
  | false => simp [h]
theorem zh3 {s : Str} {l : List Str} (h : zad s = some l) : l.length ≤ s.length + 1 ∧ ∀ x ∈ l, x.length ≤ s.length := by
  unfold zad at h
  obtain ⟨m, hm, rfl⟩ := Option.map_eq_some_iff.1 h
  have key : ∀ (s : Str) (k : Nat) (cur : Str) (m : List Str), zcK k cur s = some m → m.length ≤ s.length + 1 ∧ ∀ x ∈ m, x.length ≤ cur.length + s.length := by
    intro s
    induction s with
    | nil => intro k cur m h; rw [zd8] at h; cases h; simp
    | cons c r ih =>
      intro k cur m h
      have one : ∀ k, zcK k (cur ++ [c]) r = some m → m.length ≤ (c :: r).length + 1 ∧ ∀ x ∈ m, x.length ≤ cur.length + (c :: r).length := fun k h => by
        have := ih k _ m h
        simp only [List.length_cons, List.length_append, List.length_nil] at *
        exact ⟨by omega, fun x hx => by have := this.2 x hx; omega⟩
      cases k with
      | succ k => exact one k h
      | zero =>
        cases h1 : (c == 34 || c == 40) with
        | true =>
          rw [ziz cur r h1] at h
          split at h
          · cases h
          · exact one _ h
        | false =>
          cases h2 : c == 44 with
          | true =>
            have : c = 44 := by simpa using h2
            subst this
            rw [zeE] at h
            obtain ⟨m', hm', rfl⟩ := Option.map_eq_some_iff.1 h
            have := ih 0 [] m' hm'
            simp only [List.length_cons, List.length_nil] at *
            refine ⟨by omega, fun x hx => ?_⟩
            rcases List.mem_cons.1 hx with rfl | hx
            · omega
            · have := this.2 x hx; omega
          | false => rw [zdE cur r h1 h2] at h; exact one 0 h
  have := key s 0 [] m hm
  unfold elems
  refine ⟨?_, fun x hx => ?_⟩
  · have h1 := List.length_filter_le (fun x : Str => !(x == [])) (m.map zeF)
    rw [List.length_map] at h1
    omega
  · have h1 := (List.mem_filter.1 hx).1
    obtain ⟨y, hy, rfl⟩ := List.mem_map.1 h1
    have := this.2 y hy
    have := zw4 y
    simp at *
    omega
theorem zte (rec1 : List Str → Int → Option (List Str × Int)) (l6 : List Str) (i7 : Nat) (l : List Str) (e : Int) (hl : l.length < 1000000000) (hx : ∀ x ∈ l, x.length < 900000000) (h6 : (l6.length + l.length) * 16 ≤ 140737488355328) (h7 : i7 < 1000000000) :
    zdK rec1 l6 (i7 : Int) (l, e) fuel 0 = if l.all isX then rec1 (l6 ++ l) ((i7 + 1 : Nat) : Int) else some ([], 2) := by
  have key : ∀ (n i : Nat), i ≤ l.length → l.length - i < n → zdK rec1 l6 (i7 : Int) (l, e) n (i : Int) = if (l.drop i).all isX then rec1 (l6 ++ l) ((i7 + 1 : Nat) : Int) else some ([], 2) := by
    intro n
    induction n with
    | zero => intro i _ h; omega
    | succ n ih =>
      intro i hi h
      rw [zdK]
      by_cases hlt : i < l.length
      · have g : l[i]? = some l[i] := List.getElem?_eq_getElem hlt
        have hxl := hx l[i] (List.getElem_mem _)
        dsimp only
        rw [decide_eq_true (show (i : Int) < (l.length : Int) by omega), if_pos rfl, zbl, g, Option.bind_some, zuv _ hxl, Option.bind_some, zP (by omega), Option.bind_some, ih (i + 1) (by omega) (by omega), List.drop_eq_getElem_cons hlt, List.all_cons]
        cases isX l[i] <;> rfl
      · have : i = l.length := by omega
        subst this
        dsimp only
        rw [decide_eq_false (by omega), if_neg (by decide), if_pos (zbL h6 (by omega)), zP (by omega), Option.bind_some, List.drop_length]
        rfl
  have := key fuel 0 (Nat.zero_le _) (by unfold fuel; omega)
  rw [List.drop_zero] at this
  exact this
theorem znB (vs : List Str) (hn : vs.length ≤ 1000) (hv : ∀ v ∈ vs, v.length < 900000000) : zjh vs = some (zaE vs) := by
  unfold zjh
  have key : ∀ (n i : Nat) (out : List Str), i ≤ vs.length → vs.length - i < n → out.length ≤ i * 900000000 → zdL vs n out (i : Int) = some (zoN out (zaE (vs.drop i))) := by
    intro n
    induction n with
    | zero => intro i _ _ h; omega
    | succ n ih =>
      intro i out hi h ho
      rw [zdL]
      by_cases hlt : i < vs.length
      · have g : vs[i]? = some vs[i] := List.getElem?_eq_getElem hlt
        have hvl := hv vs[i] (List.getElem_mem _)
        rw [decide_eq_true (show (i : Int) < (vs.length : Int) by omega), if_pos rfl, zbl, g, Option.bind_some, zhw _ (by omega), Option.bind_some, List.drop_eq_getElem_cons hlt]
        unfold zdG
        cases hs : zad vs[i] with
        | none => rw [zlF _ hs]; rfl
        | some l =>
          have hm := zh3 hs
          dsimp only
          rw [if_neg (by decide), zte _ _ _ l 0 (by omega) (fun x hx => by have := hm.2 x hx; omega) (by omega) (by omega), ih (i + 1) _ (by omega) (by omega) (by simp; omega), zlG _ hs, zvK]
          cases l.all isX <;> rfl
      · have : i = vs.length := by omega
        subst this
        rw [decide_eq_false (by omega), if_neg (by decide), List.drop_length]
        simp [zaE, zoN]
  have := key fuel 0 [] (Nat.zero_le _) (by unfold fuel; omega) (by simp)
  rw [List.drop_zero] at this
  have hnil : ∀ vs : List Str, zoN [] (zaE vs) = zaE vs := by
    intro vs
    have h0 : (zaE vs).2 = 0 ∨ (zaE vs).1 = [] := by
      cases vs with
      | nil => exact .inl rfl
      | cons v vs =>
        cases hs : zad v with
        | none => rw [zlF _ hs]; exact .inr rfl
        | some l =>
          rw [zlG _ hs]
          cases l.all isX with
          | false => exact .inr rfl
          | true =>
            rw [if_pos rfl]
            unfold zoN
            cases (zaE vs).2 == 0 with
            | true => exact .inl rfl
            | false => exact .inr rfl
    unfold zoN
    rcases h0 with h0 | h0
    · rw [h0, beq_self_eq_true, if_pos rfl, List.nil_append, ← h0]
    · cases h2 : (zaE vs).2 == 0 with
      | true => rw [if_pos rfl, List.nil_append]; have : (zaE vs).2 = 0 := by simpa using h2
                rw [← this]
      | false => rw [if_neg (by decide), ← h0]
  rw [hnil] at this
  exact this
theorem zm3 : ∀ (a b : List Str), (zaE a).2 = 0 → (zaE b).2 = 0 → zaE (a ++ b) = ((zaE a).1 ++ (zaE b).1, 0)
  | [], b, _, h => by show zaE b = (([] : List Str) ++ (zaE b).1, 0); rw [List.nil_append, ← h]
  | v :: a, b, ha, hb => by
    rw [List.cons_append, zaE]
    rw [zaE] at ha ⊢
    cases hs : zad v with
    | none => rw [hs] at ha; cases ha
    | some l =>
      rw [hs] at ha
      dsimp only at ha ⊢
      split at ha
      · rename_i h1
        rw [if_pos h1, if_pos h1]
        split at ha
        · rename_i h2
          have ih := zm3 a b (by simpa using h2) hb
          rw [if_pos h2, ih]
          simp
        · rename_i h2; rw [ha] at h2; exact absurd rfl h2
      · cases ha
theorem zoO : ∀ (a b : List Str), (zaE (a ++ b)).2 = 0 → (zaE a).2 = 0 ∧ (zaE b).2 = 0
  | [], b, h => ⟨rfl, h⟩
  | v :: a, b, h => by
    rw [List.cons_append, zaE] at h
    rw [zaE]
    cases hs : zad v with
    | none => rw [hs] at h; cases h
    | some l =>
      rw [hs] at h
      dsimp only at h ⊢
      split at h
      · rename_i h1
        rw [if_pos h1]
        split at h
        · rename_i h2
          have ih := zoO a b (by simpa using h2)
          refine ⟨?_, ih.2⟩
          rw [ih.1]; rfl
        · rename_i h2; rw [h] at h2; exact absurd rfl h2
      · cases h
theorem zm4 {v : Str} {l : List Str} (h : zad v = some l) (ha : l.all isX = true) : zaE [v] = (l, 0) := by
  rw [zaE, h]
  dsimp only
  rw [if_pos ha]
  simp [zaE]
theorem zqY {v : Str} (h : (zaE [v]).2 = 0) : ∃ l, zad v = some l ∧ l.all isX = true ∧ zaE [v] = (l, 0) := by
  cases hs : zad v with
  | none => rw [zaE, hs] at h; cases h
  | some l =>
    refine ⟨l, rfl, ?_⟩
    have h2 := h
    rw [zaE, hs] at h2
    dsimp only at h2
    split at h2
    · rename_i h1; exact ⟨h1, zm4 hs h1⟩
    · cases h2
theorem zwW : isN ([88, 45, 70, 111, 114, 119, 97, 114, 100, 101, 100, 45, 70, 111, 114] : Str) = isN [120, 45, 102, 111, 114, 119, 97, 114, 100, 101, 100, 45, 102, 111, 114] := by
  funext f
  unfold isN
  have : low ([88, 45, 70, 111, 114, 119, 97, 114, 100, 101, 100, 45, 70, 111, 114] : Str) = low ([120, 45, 102, 111, 114, 119, 97, 114, 100, 101, 100, 45, 102, 111, 114] : Str) := by decide
  rw [this]
theorem zvL (l : List api_Field) (i : Nat) (f : api_Field) (h : l[i]? = some f) : l = l.take i ++ f :: l.drop (i + 1) := by
  obtain ⟨h1, h2⟩ := List.getElem?_eq_some_iff.1 h
  have := (List.take_append_drop i l).symm
  rw [List.drop_eq_getElem_cons h1, h2] at this
  exact this
theorem set_at (l : List api_Field) (i : Nat) (f g : api_Field) (h : l[i]? = some f) : l.set i g = l.take i ++ g :: l.drop (i + 1) := by
  obtain ⟨h1, _⟩ := List.getElem?_eq_some_iff.1 h
  rw [List.set_eq_take_append_cons_drop, if_pos h1]
theorem zeP (l : List api_Field) (nm x : Str) : (l.filter (isN nm) = [] ∧ zT l nm x = l ++ [⟨nm, x⟩]) ∨
    ∃ a f b, l = a ++ f :: b ∧ isN nm f = true ∧ b.filter (isN nm) = [] ∧ zT l nm x = a ++ ⟨f.Name, zcj f.Value x⟩ :: b := by
  unfold zT
  cases h : zl5 (isN nm) l l.length with
  | none =>
    left
    refine ⟨?_, rfl⟩
    rw [List.filter_eq_nil_iff]
    intro g hg
    obtain ⟨j, hj, hg⟩ := List.getElem_of_mem hg
    have := zos h j hj g (by rw [← hg]; exact List.getElem?_eq_getElem hj)
    rw [this]; decide
  | some i =>
    right
    obtain ⟨h1, f, h2, h3, h4⟩ := zor h
    dsimp only
    rw [h2]
    refine ⟨l.take i, f, l.drop (i + 1), zvL l i f h2, h3, ?_, set_at l i f _ h2⟩
    rw [List.filter_eq_nil_iff]
    intro g hg
    obtain ⟨j, hj, hg⟩ := List.getElem_of_mem hg
    simp only [List.length_drop] at hj
    rw [List.getElem_drop] at hg
    have := h4 (i + 1 + j) (by omega) (by omega) g (by rw [← hg]; exact List.getElem?_eq_getElem (by omega))
    rw [this]; decide
theorem zpQ (l : List api_Field) (nm x : Str) : (zT l nm x).filter (fun f => !isN nm f) = l.filter (fun f => !isN nm f) := by
  rcases zeP l nm x with ⟨_, h2⟩ | ⟨a, f, b, h1, h2, _, h4⟩
  · rw [h2, List.filter_append]
    have : isN nm ⟨nm, x⟩ = true := by unfold isN; simp
    simp [this]
  · rw [h4, h1, List.filter_append, List.filter_append, List.filter_cons, List.filter_cons]
    have : isN nm ⟨f.Name, zcj f.Value x⟩ = true := h2
    rw [this, h2]
    rfl
theorem zrZ (s x : Str) : (zcj s x).length ≤ s.length + x.length + 2 := by
  unfold zcj
  have := zo9 s
  split
  · omega
  · simp; omega
theorem zf9 {l : List api_Field} {nm x : Str} {m : Nat} (hs : zep m l) (hn : nm.length < m) : zep (m + x.length + 2) (zT l nm x) := by
  rcases zeP l nm x with ⟨_, h2⟩ | ⟨a, f, b, h1, _, _, h4⟩
  · rw [h2]
    intro g hg
    rcases List.mem_append.1 hg with hg | hg
    · have := hs g hg; omega
    · have : g = ⟨nm, x⟩ := by simpa using hg
      subst this
      dsimp only; omega
  · rw [h4]
    intro g hg
    rcases List.mem_append.1 hg with hg | hg
    · have := hs g (by rw [h1]; simp [hg]); omega
    · rcases List.mem_cons.1 hg with rfl | hg
      · have := hs f (by rw [h1]; simp)
        have := zrZ f.Value x
        dsimp only; omega
      · have := hs g (by rw [h1]; simp [hg]); omega
theorem zdP (l : List api_Field) (nm x : Str) : (zT l nm x).length ≤ l.length + 1 := by
  rcases zeP l nm x with ⟨_, h2⟩ | ⟨a, f, b, h1, _, _, h4⟩
  · rw [h2]; simp
  · rw [h4, h1]; simp
theorem zr0 {l : List api_Field} {nm x : Str} (hx : (x.all fun c => !(c == 34) && !(c == 40) && !(c == 44)) = true) (ht : zeF x = x) (hne : x ≠ []) (hi : isX x = true)
    (h : (zaE ((l.filter (isN nm)).map (·.Value))).2 = 0) : zaE (((zT l nm x).filter (isN nm)).map (·.Value)) = ((zaE ((l.filter (isN nm)).map (·.Value))).1 ++ [x], 0) := by
  rcases zeP l nm x with ⟨h1, h2⟩ | ⟨a, f, b, h1, h2, h3, h4⟩
  · have hb : isN nm ⟨nm, x⟩ = true := by unfold isN; simp
    rw [h2, List.filter_append, h1, List.nil_append, List.filter_cons, hb, if_pos rfl, List.filter_nil]
    show zaE [x] = _
    have hsx : zad x = some [x] := by
      have := zjJ x [] hx
      unfold zad
      rw [this]
      simp [elems, ht, hne]
    rw [zm4 hsx (by simp [hi])]
    rfl
  · have hb : isN nm ⟨f.Name, zcj f.Value x⟩ = true := h2
    have e1 : (l.filter (isN nm)).map (·.Value) = (a.filter (isN nm)).map (·.Value) ++ [f.Value] := by
      rw [h1, List.filter_append, List.filter_cons, h2, if_pos rfl, h3]; simp
    have e2 : ((zT l nm x).filter (isN nm)).map (·.Value) = (a.filter (isN nm)).map (·.Value) ++ [zcj f.Value x] := by
      rw [h4, List.filter_append, List.filter_cons, hb, if_pos rfl, h3]; simp
    rw [e1] at h
    rw [e1, e2]
    obtain ⟨p1, p2⟩ := zoO _ _ h
    obtain ⟨lv, q1, q2, q3⟩ := zqY p2
    have hap := zpX hx ht hne q1
    have ho := zm4 hap (by rw [List.all_append, q2]; simp [hi])
    rw [zm3 _ _ p1 (by rw [ho]), zm3 _ _ p1 p2, ho, q3, List.append_assoc]
theorem zln (c : Str) (l : List api_Field) (hc : c.length < 900000000) (hl : l.length < 900000000) (hs : zep 900000 l) : zgP c l = some (zT l [88, 45, 70, 111, 114, 119, 97, 114, 100, 101, 100, 45, 70, 111, 114] (zkm c)) := by
  unfold zgP
  rw [znA c hc, Option.bind_some]
  have hj : ∀ x : Str, x.length < 1000000000 → zeg l x = some (zT l [88, 45, 70, 111, 114, 119, 97, 114, 100, 101, 100, 45, 70, 111, 114] x) := by
    intro x hx
    unfold zeg zej zaW
    have := zdP l [88, 45, 70, 111, 114, 119, 97, 114, 100, 101, 100, 45, 70, 111, 114] x
    rw [zg8 l (by omega), Option.bind_some, Option.bind_some, ziG l _ x (by decide) hx (by omega) (zbC (by decide) hs), Option.bind_some, zg8 _ (by dsimp only; omega), Option.bind_some, Option.bind_some]
  unfold zkm
  cases zmo c with
  | true => rw [Bool.not_true, if_neg (by decide), if_pos rfl]; exact hj c (by omega)
  | false => rw [Bool.not_false, if_pos rfl, if_neg (by decide)]; exact hj zh2 (by decide)
theorem zr1 (c : Str) : (zkm c).length ≤ c.length + 7 := by
  rcases zlD c with ⟨_, e⟩ | e <;> rw [e]
  · omega
  · show 7 ≤ _; omega

end Go.Dm
end
section
namespace Go.Dm
def znw (r : Str) : Option (Str × Str) := if !(r.takeWhile z6 == []) then some (r.takeWhile z6, r.dropWhile z6) else (zkO r).map (fun p => (p.1, r.drop p.2))
def zrO (r : Str) : Option (api_Param × Str) := if r.takeWhile z6 == [] then none else if !zdZ 61 (r.dropWhile z6) then none else (znw (zau 61 (r.dropWhile z6))).map (fun p => (⟨r.takeWhile z6, p.1⟩, p.2))
def zgH : Nat → List api_Param → Str → List api_Param × Int
  | 0, _, _ => ([], 2)
  | n + 1, out, r => match zrO r with
    | none => ([], 2)
    | some (p, r2) => if r2 == [] then (out ++ [p], 0) else if !zdZ 59 (r2.dropWhile zan) then ([], 2) else zgH n (out ++ [p]) ((zau 59 (r2.dropWhile zan)).dropWhile zan)
theorem zgI (p : UInt8 → Bool) (r : Str) : (r.dropWhile p).length + (r.takeWhile p).length = r.length := by
  have := congrArg List.length (List.takeWhile_append_dropWhile (p := p) (l := r))
  rw [List.length_append] at this
  omega
theorem zqg (b : UInt8) (r : Str) : (zau b r).length ≤ r.length := by unfold zau; split <;> simp
theorem zqh {r : Str} {p : Str × Nat} (h : zkO r = some p) : 1 ≤ p.2 ∧ p.2 ≤ r.length := by
  unfold zkO at h
  split at h
  · rename_i hb
    have hr := zfE hb
    cases hq : zbH (zau 34 r) with
    | none => rw [hq] at h; cases h
    | some q =>
      rw [hq] at h
      cases h
      have := zsh _ _ hq
      have hl := congrArg List.length hr
      rw [List.length_cons] at hl
      dsimp only
      omega
  · cases h
theorem zul {r : Str} {x r' : Str} (h : znw r = some (x, r')) : r'.length < r.length := by
  unfold znw at h
  have h1 := zgI z6 r
  cases ht : r.takeWhile z6 == [] with
  | false =>
    rw [ht, Bool.not_false, if_pos rfl] at h
    cases h
    have : r.takeWhile z6 ≠ [] := beq_eq_false_iff_ne.1 ht
    have := List.length_pos_iff.2 this
    omega
  | true =>
    rw [ht, Bool.not_true, if_neg Bool.false_ne_true] at h
    cases hq : zkO r with
    | none => rw [hq] at h; cases h
    | some q =>
      rw [hq] at h
      cases h
      have := zqh hq
      simp
      omega
theorem zrP {r : Str} {p : api_Param} {r2 : Str} (h : zrO r = some (p, r2)) : r2.length + 2 < r.length := by
  unfold zrO at h
  have h1 := zgI z6 r
  split at h
  · cases h
  · rename_i ht
    split at h
    · cases h
    · rename_i hb
      have hb' : zdZ 61 (r.dropWhile z6) = true := by simpa using hb
      cases hw : znw (zau 61 (r.dropWhile z6)) with
      | none => rw [hw] at h; cases h
      | some q =>
        rw [hw] at h
        cases h
        have h2 := zul (x := q.1) (r' := q.2) hw
        have h3 := congrArg List.length (zfE hb')
        rw [List.length_cons] at h3
        have h4 : r.takeWhile z6 ≠ [] := fun e => ht (by rw [e]; rfl)
        have := List.length_pos_iff.2 h4
        omega

section
variable {s r : Str} {k : Nat}
theorem zwJ (hs : s.length < 1000000000) (h : At s k r) : match znw r with
    | some (x, r') => ∃ k', At s k' r' ∧ zca (scn s k) = some (x, true, scn s k')
    | none => ∃ x c, zca (scn s k) = some (x, false, c) := by
  obtain ⟨k1, h1, e1⟩ := zi2 hs h
  unfold zca znw
  rw [e1, Option.bind_some]
  dsimp only
  cases ht : r.takeWhile z6 == [] with
  | false =>
    rw [Bool.not_false, if_pos rfl, if_pos rfl]
    exact ⟨k1, h1, rfl⟩
  | true =>
    have hte : r.takeWhile z6 = [] := by simpa using ht
    have hdr : r.dropWhile z6 = r := by
      have := List.takeWhile_append_dropWhile (p := z6) (l := r)
      rwa [hte, List.nil_append] at this
    rw [hdr] at h1
    rw [Bool.not_true, if_neg Bool.false_ne_true, if_neg Bool.false_ne_true, zgA hs h1, Option.bind_some]
    cases hq : zkO r with
    | none => exact ⟨_, _, rfl⟩
    | some p => exact ⟨_, h1.next p.2 (zqh hq).2, rfl⟩
theorem at_one (hs : s.length < 1000000000) (h : At s k r) : match zrO r with
    | some (p, r2) => ∃ k', At s k' r2 ∧ zac ⟨scn s k⟩ = some (p, true, scn s k')
    | none => ∃ p c, zac ⟨scn s k⟩ = some (p, false, c) := by
  obtain ⟨k1, h1, e1⟩ := zi2 hs h
  unfold zac zrO
  rw [e1, Option.bind_some]
  dsimp only
  cases ht : r.takeWhile z6 == [] with
  | true =>
    rw [if_pos rfl, Bool.not_true, Bool.not_false, if_pos rfl]
    exact ⟨_, _, rfl⟩
  | false =>
    obtain ⟨k2, h2, e2⟩ := zfk hs 61 h1
    rw [if_neg Bool.false_ne_true, Bool.not_false, Bool.not_true, if_neg Bool.false_ne_true, e2, Option.bind_some]
    unfold zbf
    cases hb : zdZ 61 (r.dropWhile z6) with
    | false =>
      rw [Bool.not_false, if_pos rfl, if_pos rfl]
      exact ⟨_, _, rfl⟩
    | true =>
      rw [Bool.not_true, if_neg Bool.false_ne_true, if_neg Bool.false_ne_true]
      have hw := zwJ hs h2
      cases hq : znw (zau 61 (r.dropWhile z6)) with
      | none =>
        rw [hq] at hw
        obtain ⟨x, c, e⟩ := hw
        refine ⟨⟨r.takeWhile z6, x⟩, c, ?_⟩
        show (zca (scn s k2)).bind _ = _
        rw [e, Option.bind_some]
      | some q =>
        rw [hq] at hw
        obtain ⟨k3, h3, e⟩ := hw
        refine ⟨k3, h3, ?_⟩
        show (zca (scn s k2)).bind _ = _
        rw [e, Option.bind_some]
theorem zqi (hs : s.length < 1000000000) (h : At s k r) : ∃ x k', At s k' (r.dropWhile zan) ∧ zaF (scn s k) = some (x, scn s k') := by
  obtain ⟨k1, h1, e1⟩ := zmd zru hs h
  exact ⟨_, k1, h1, by unfold zaF; rw [e1, Option.bind_some]⟩
theorem zrQ (hs : s.length < 1000000) : ∀ (n : Nat) (k : Nat) (r : Str) (out : List api_Param), At s k r → r.length < n → out.length + r.length < 1000000 → zaT n out s (k : Int) = some (zgH n out r) := by
  intro n
  induction n with
  | zero => intro _ _ _ _ h; omega
  | succ n ih =>
    intro k r out h hn ho
    have h1 := at_one (by omega) h
    rw [zaT, zgH]
    show (zac ⟨scn s k⟩).bind _ = _
    cases hq : zrO r with
    | none =>
      rw [hq] at h1
      obtain ⟨p, c, e⟩ := h1
      rw [e, Option.bind_some]
      rfl
    | some q =>
      obtain ⟨p, r2⟩ := q
      rw [hq] at h1
      obtain ⟨k1, h2, e⟩ := h1
      have hl := zrP hq
      rw [e, Option.bind_some]
      dsimp only
      rw [Bool.not_true, if_neg Bool.false_ne_true, if_pos (zbL (by omega) (by omega)), zoA h2, Option.bind_some]
      cases hr : r2 == [] with
      | true => rfl
      | false =>
        rw [if_neg Bool.false_ne_true, if_neg Bool.false_ne_true]
        obtain ⟨x3, k3, h3, e3⟩ := zqi (by omega) h2
        obtain ⟨k4, h4, e4⟩ := zfk (by omega) 59 h3
        obtain ⟨x5, k5, h5, e5⟩ := zqi (by omega) h4
        have hm : zba ⟨scn s k1⟩ = some (if zdZ 59 (r2.dropWhile zan) then (true, scn s k5) else (false, scn s k4)) := by
          unfold zba
          rw [e3, Option.bind_some, e4, Option.bind_some]
          cases zdZ 59 (r2.dropWhile zan) with
          | false => rfl
          | true => rw [Bool.not_true, if_neg Bool.false_ne_true, e5, Option.bind_some]; rfl
        rw [hm, Option.bind_some]
        cases zdZ 59 (r2.dropWhile zan) with
        | false => rfl
        | true =>
          have d1 := zgI zan r2
          have d2 := zqg 59 (r2.dropWhile zan)
          have d3 := zgI zan (zau 59 (r2.dropWhile zan))
          rw [if_pos rfl, Bool.not_true, if_neg Bool.false_ne_true, if_neg Bool.false_ne_true]
          exact ih k5 _ _ h5 (by omega) (by simp; omega)
end
theorem znV (s : Str) (hs : s.length < 500000) : zdW s = some (zgH fuel [] s) := by
  unfold zdW
  rw [zin, Option.bind_some]
  exact zrQ (s := s) (by omega) fuel 0 s [] (At.zero s) (by unfold fuel; omega) (by simp; omega)

end Go.Dm
end
section
namespace Go.Dm
theorem zto : ∀ (n : Nat) (r : Str) (out : List api_Param), (zgH n out r).1.length ≤ out.length + r.length ∧ ∀ p ∈ (zgH n out r).1, p ∈ out ∨ p.Name.length ≤ r.length := by
  intro n
  induction n with
  | zero => intro r out; exact ⟨Nat.zero_le _, fun p hp => by cases hp⟩
  | succ n ih =>
    intro r out
    rw [zgH]
    cases hq : zrO r with
    | none => exact ⟨Nat.zero_le _, fun p hp => by cases hp⟩
    | some q =>
      obtain ⟨p, r2⟩ := q
      have hl := zrP hq
      have hnm : p.Name.length ≤ r.length := by
        unfold zrO at hq
        split at hq
        · cases hq
        · split at hq
          · cases hq
          · cases hw : znw (zau 61 (r.dropWhile z6)) with
            | none => rw [hw] at hq; cases hq
            | some u =>
              rw [hw] at hq
              cases hq
              have := zgI z6 r
              dsimp only
              omega
      dsimp only
      split
      · refine ⟨by simp; omega, fun x hx => ?_⟩
        rcases List.mem_append.1 hx with h | h
        · exact .inl h
        · simp at h; subst h; exact .inr hnm
      · split
        · exact ⟨Nat.zero_le _, fun p hp => by cases hp⟩
        · obtain ⟨h1, h2⟩ := ih ((zau 59 (r2.dropWhile zan)).dropWhile zan) (out ++ [p])
          have d1 := zgI zan r2
          have d2 := zqg 59 (r2.dropWhile zan)
          have d3 := zgI zan (zau 59 (r2.dropWhile zan))
          refine ⟨by simp at h1; omega, fun x hx => ?_⟩
          rcases h2 x hx with h | h
          · rcases List.mem_append.1 h with h | h
            · exact .inl h
            · simp at h; subst h; exact .inr hnm
          · exact .inr (by omega)
def zh5 (x p : api_Param) : Bool := low p.Name == low x.Name
def dupP : List api_Param → Bool
  | [] => false
  | p :: l => l.any (zh5 p) || dupP l
theorem zqt (pre l : List api_Param) : (l.any fun x => pre.any (zh5 x)) = pre.any fun p => l.any (zh5 p) := by
  rw [Bool.eq_iff_iff]
  simp only [List.any_eq_true]
  constructor
  · rintro ⟨x, hx, p, hp, h⟩
    exact ⟨p, hp, x, hx, by unfold zh5 at h ⊢; rw [beq_iff_eq] at h ⊢; exact h.symm⟩
  · rintro ⟨p, hp, x, hx, h⟩
    exact ⟨x, hx, p, hp, by unfold zh5 at h ⊢; rw [beq_iff_eq] at h ⊢; exact h.symm⟩
def ztp (l : List api_Param) : Prop := ∀ p ∈ l, p.Name.length < 1000000000
theorem Get_eq (name : Str) (l : List api_Param) (hn : name.length < 1000000000) (hl : l.length < 1000000000) (hs : ztp l) : ∃ v, zic name l = some (v, l.any (zh5 ⟨name, []⟩)) := by
  have key : ∀ (n i : Nat), i ≤ l.length → l.length - i < n → ∃ v, zb5 name l n (i : Int) = some (v, (l.drop i).any (zh5 ⟨name, []⟩)) := by
    intro n
    induction n with
    | zero => intro i _ h; omega
    | succ n ih =>
      intro i hi h
      rw [zb5]
      by_cases hlt : i < l.length
      · have g : l[i]? = some l[i] := List.getElem?_eq_getElem hlt
        rw [decide_eq_true (show (i : Int) < (l.length : Int) by omega), if_pos rfl, zbl, g, Option.bind_some, ziI _ _ (hs _ (List.getElem_mem _)) hn, Option.bind_some, List.drop_eq_getElem_cons hlt, List.any_cons]
        show ∃ v, _ = some (v, (low l[i].Name == low name) || _)
        cases low l[i].Name == low name with
        | true => exact ⟨_, rfl⟩
        | false =>
          rw [if_neg Bool.false_ne_true, zP (by omega), Option.bind_some, Bool.false_or]
          exact ih (i + 1) (by omega) (by omega)
      · obtain rfl : i = l.length := by omega
        rw [decide_eq_false (by omega), if_neg Bool.false_ne_true, List.drop_length]
        exact ⟨_, rfl⟩
  exact key fuel 0 (Nat.zero_le _) (by unfold fuel; omega)
def fwdS (l : List api_Param) : List api_Param × Int := if dupP l then ([], 2) else (l, 0)
theorem zuI (l : List api_Param) (hl : l.length < 1000000000) (hs : ztp l) : zR (l, 0) fuel 0 = some (fwdS l) := by
  have key : ∀ (n i : Nat), i ≤ l.length → l.length - i < n → zR (l, 0) n (i : Int) = some (if ((l.drop i).any fun x => (l.take i).any (zh5 x)) || dupP (l.drop i) then ([], 2) else (l, 0)) := by
    intro n
    induction n with
    | zero => intro i _ h; omega
    | succ n ih =>
      intro i hi h
      rw [zR]
      by_cases hlt : i < l.length
      · have g : l[i]? = some l[i] := List.getElem?_eq_getElem hlt
        have e2 : lTo l (i : Int) = some (l.take i) := by
          unfold lTo
          rw [if_pos (by omega)]
          rfl
        obtain ⟨v, hv⟩ := Get_eq l[i].Name (l.take i) (hs _ (List.getElem_mem _)) (by simp; omega) (fun p hp => hs p (List.mem_of_mem_take hp))
        have hsx : zh5 ⟨l[i].Name, []⟩ = zh5 l[i] := rfl
        dsimp only
        rw [decide_eq_true (show (i : Int) < (l.length : Int) by omega), if_pos rfl, zbl, g, Option.bind_some, e2, Option.bind_some, hv, Option.bind_some, hsx, List.drop_eq_getElem_cons hlt, List.any_cons, dupP]
        cases hd : (l.take i).any (zh5 l[i]) with
        | true => rw [if_pos rfl, Bool.true_or, Bool.true_or, if_pos rfl]
        | false =>
          rw [if_neg Bool.false_ne_true, zP (by omega), Option.bind_some, Bool.false_or, ih (i + 1) (by omega) (by omega), List.take_add_one, g]
          have e : ((l.drop (i + 1)).any fun x => (l.take i ++ (some l[i]).toList).any (zh5 x)) = (((l.drop (i + 1)).any fun x => (l.take i).any (zh5 x)) || (l.drop (i + 1)).any (zh5 l[i])) := by
            rw [zqt (l.take i ++ (some l[i]).toList), List.any_append, zqt (l.take i)]
            simp
          rw [e, Bool.or_assoc]
      · obtain rfl : i = l.length := by omega
        dsimp only
        rw [decide_eq_false (by omega), if_neg Bool.false_ne_true, List.drop_length]
        rfl
  have := key fuel 0 (Nat.zero_le _) (by unfold fuel; omega)
  rw [List.drop_zero, List.take_zero] at this
  rw [show ((l.any fun x => ([] : List api_Param).any (zh5 x)) || dupP l) = dupP l by simp] at this
  exact this
def fP (s : Str) : List api_Param × Int := if (zgH fuel [] s).2 == 0 then fwdS (zgH fuel [] s).1 else ([], (zgH fuel [] s).2)
theorem zsg (s : Str) (hs : s.length < 500000) : (zgH fuel [] s).1.length ≤ s.length ∧ ztp (zgH fuel [] s).1 := by
  obtain ⟨h1, h2⟩ := zto fuel s []
  refine ⟨by simpa using h1, fun p hp => ?_⟩
  rcases h2 p hp with h | h
  · cases h
  · omega
theorem zh6 (s : Str) (hs : s.length < 500000) : zcr s = some (fP s) := by
  obtain ⟨h1, h2⟩ := zsg s hs
  unfold zcr fP
  rw [znV s hs, Option.bind_some]
  generalize zgH fuel [] s = q at h1 h2 ⊢
  obtain ⟨l, e⟩ := q
  dsimp only at h1 h2 ⊢
  cases he : e == 0 with
  | false => rfl
  | true =>
    obtain rfl : e = 0 := by simpa using he
    rw [Bool.not_true, if_neg Bool.false_ne_true, if_pos rfl]
    exact zuI l (by omega) h2
def zcm : List Str → List (List api_Param) → List (List api_Param) × Int
  | [], out => (out, 0)
  | x :: xs, out => if (fP x).2 == 0 then zcm xs (out ++ [(fP x).1]) else ([], (fP x).2)
def zcC : List Str → List (List api_Param) → List (List api_Param) × Int
  | [], out => (out, 0)
  | v :: vs, out => if (zdG v).2 == 0 then (if (zcm (zdG v).1 out).2 == 0 then zcC vs (zcm (zdG v).1 out).1 else zcm (zdG v).1 out) else ([], (zdG v).2)
theorem zlJ : ∀ (xs : List Str) (out : List (List api_Param)), (zcm xs out).1.length ≤ out.length + xs.length
  | [], out => by simp [zcm]
  | x :: xs, out => by
    rw [zcm]
    split
    · have := zlJ xs (out ++ [(fP x).1])
      simp at this ⊢; omega
    · simp
theorem zo0 (v : Str) : (zdG v).1.length ≤ v.length + 1 ∧ ∀ x ∈ (zdG v).1, x.length ≤ v.length := by
  unfold zdG
  cases h : zad v with
  | none => exact ⟨Nat.zero_le _, fun x hx => by cases hx⟩
  | some l => exact zh3 h
section
variable (rec1 : List (List api_Param) → Int → Option (List (List api_Param) × Int))
theorem zuJ (i8 : Nat) (h8 : i8 < 1000000) (l : List Str) (e : Int) (hl : l.length < 1000000) (hx : ∀ x ∈ l, x.length < 500000) : ∀ (n i : Nat) (out : List (List api_Param)), i ≤ l.length → l.length - i < n → out.length < 1000000000000 + i →
    zbv rec1 (i8 : Int) (l, e) n out (i : Int) = if (zcm (l.drop i) out).2 == 0 then rec1 (zcm (l.drop i) out).1 ((i8 + 1 : Nat) : Int) else some (zcm (l.drop i) out) := by
  intro n
  induction n with
  | zero => intro i _ _ h; omega
  | succ n ih =>
    intro i out hi h ho
    rw [zbv]
    by_cases hlt : i < l.length
    · have g : l[i]? = some l[i] := List.getElem?_eq_getElem hlt
      have hxl := hx l[i] (List.getElem_mem _)
      dsimp only
      rw [decide_eq_true (show (i : Int) < (l.length : Int) by omega), if_pos rfl, zbl, g, Option.bind_some, zh6 _ hxl, Option.bind_some, List.drop_eq_getElem_cons hlt, zcm]
      cases hz : (fP l[i]).2 == 0 with
      | false =>
        rw [Bool.not_false, if_pos rfl, if_neg Bool.false_ne_true]
        dsimp only
        rw [hz, if_neg Bool.false_ne_true]
      | true =>
        rw [Bool.not_true, if_neg Bool.false_ne_true, if_pos rfl, if_pos (zbL (by omega) (by omega)), zP (by omega), Option.bind_some]
        exact ih (i + 1) _ (by omega) (by omega) (by simp; omega)
    · obtain rfl : i = l.length := by omega
      dsimp only
      rw [decide_eq_false (by omega), if_neg Bool.false_ne_true, zP (by omega), Option.bind_some, List.drop_length]
      rfl
end
theorem ziq (vs : List Str) (hn : vs.length < 1000) (hv : ∀ v ∈ vs, v.length < 400000) : zeD vs = some (zcC vs []) := by
  have key : ∀ (n i : Nat) (out : List (List api_Param)), i ≤ vs.length → vs.length - i < n → out.length ≤ i * 1000000 → zaJ vs n out (i : Int) = some (zcC (vs.drop i) out) := by
    intro n
    induction n with
    | zero => intro i _ _ h; omega
    | succ n ih =>
      intro i out hi h ho
      rw [zaJ]
      by_cases hlt : i < vs.length
      · have g : vs[i]? = some vs[i] := List.getElem?_eq_getElem hlt
        have hvl := hv vs[i] (List.getElem_mem _)
        obtain ⟨m1, m2⟩ := zo0 vs[i]
        rw [decide_eq_true (show (i : Int) < (vs.length : Int) by omega), if_pos rfl, zbl, g, Option.bind_some, zhw _ (by omega), Option.bind_some, List.drop_eq_getElem_cons hlt, zcC]
        have hle := zlJ (zdG vs[i]).1 out
        rcases hsr : zdG vs[i] with ⟨l, e⟩
        rw [hsr] at m1 m2 hle
        dsimp only at m1 m2 hle ⊢
        cases he : e == 0 with
        | false => rfl
        | true =>
          have := zuJ (zaJ vs n) i (by omega) l e (by omega) (fun x hx => by have := m2 x hx; omega) fuel 0 out (Nat.zero_le _) (by unfold fuel; omega) (by omega)
          rw [List.drop_zero] at this
          rw [Bool.not_true, if_neg Bool.false_ne_true, if_pos rfl]
          refine this.trans ?_
          cases (zcm l out).2 == 0 with
          | false => rfl
          | true =>
            rw [if_pos rfl, if_pos rfl]
            exact ih (i + 1) _ (by omega) (by omega) (by omega)
      · obtain rfl : i = vs.length := by omega
        rw [decide_eq_false (by omega), if_neg Bool.false_ne_true, List.drop_length]
        rfl
  exact key fuel 0 [] (Nat.zero_le _) (by unfold fuel; omega) (by simp)
theorem zqu : ∀ (vs : List Str) (out : List (List api_Param)), (∀ v ∈ vs, v.length < 400000) → (zcC vs out).1.length ≤ out.length + vs.length * 400001
  | [], out, _ => by simp [zcC]
  | v :: vs, out, hv => by
    obtain ⟨m1, _⟩ := zo0 v
    have hvm := hv v (List.mem_cons_self ..)
    have he := zlJ (zdG v).1 out
    rw [zcC]
    split
    · split
      · have := zqu vs (zcm (zdG v).1 out).1 (fun z hz => hv z (List.mem_cons_of_mem _ hz))
        simp only [List.length_cons]; omega
      · simp only [List.length_cons]; omega
    · simp

end Go.Dm
end
section
namespace Go.Dm
theorem zud (vs : List Str) (h : ∀ v ∈ vs, v.length < 600) : (zaE vs).1.length ≤ vs.length * 600 := by
  induction vs with
  | nil => simp [zaE]
  | cons v vs ih =>
    have hv := h v (List.mem_cons_self ..)
    have := ih (fun x hx => h x (List.mem_cons_of_mem _ hx))
    cases hs : zad v with
    | none => rw [zlF _ hs]; simp
    | some l =>
      have hm := zh3 hs
      rw [zlG _ hs]
      unfold zoN
      split
      · split
        · simp only [List.length_append, List.length_cons]; omega
        · simp
      · simp

end Go.Dm
end
section
namespace Go.Dm
def zgJ : Nat → Str → Bool
  | d, [] => d == 0
  | d, c :: r => if c == 92 then (match r with | [] => false | _ :: t => zgJ d t) else if c == 40 then zgJ (d + 1) r else if c == 41 then (match d with | 0 => false | d + 1 => zgJ d r) else zgJ d r
theorem zr4 (d : Nat) : zgJ d [] = (d == 0) := rfl
theorem zqn (d : Nat) : zgJ d [92] = false := by rw [zgJ.eq_def]; rfl
theorem zr5 (d : Nat) (c : UInt8) (t : Str) : zgJ d (92 :: c :: t) = zgJ d t := by rw [zgJ.eq_def]; rfl
theorem zqo (d : Nat) (r : Str) : zgJ d (40 :: r) = zgJ (d + 1) r := by rw [zgJ.eq_def]; rfl
theorem znC (r : Str) : zgJ 0 (41 :: r) = false := by rw [zgJ.eq_def]; rfl
theorem zoQ (d : Nat) (r : Str) : zgJ (d + 1) (41 :: r) = zgJ d r := by rw [zgJ.eq_def]; rfl
theorem zr6 (d : Nat) {c : UInt8} (r : Str) (h1 : (c == 40) = false) (h2 : (c == 41) = false) (h3 : (c == 92) = false) : zgJ d (c :: r) = zgJ d r := by
  rw [zgJ.eq_def]; simp only [h1, h2, h3, Bool.false_eq_true, if_false]
def zr7 (s : Str) : Bool := zgJ 0 s && s.all zja
theorem zkn (s : Str) (hs : s.length < 900000000) : ∀ (n i d : Nat), i ≤ s.length → s.length - i < n → d ≤ i → zZ s n (d : Int) (i : Int) = some (zgJ d (s.drop i) && s.all zja)
  | 0, _, _, _, h, _ => by omega
  | n + 1, i, d, hi, h, hd => by
    rw [zZ]
    cases hdr : s.drop i with
    | nil =>
      have : i = s.length := by have := congrArg List.length hdr; simp at this; omega
      subst this
      unfold zd6
      rw [decide_eq_false (by omega), if_neg (by decide), zee zgL s (by omega), Option.bind_some, zr4]
      have : ((d : Int) == 0) = (d == 0) := by rw [Bool.eq_iff_iff]; simp
      rw [this]
      cases d == 0 <;> rfl
    | cons c r =>
      obtain ⟨hlt, hr⟩ := zjv hdr
      have hx : s[i]? = some c := by have := congrArg (·[0]?) hdr; simpa using this
      have ih := fun i' d' h1 h2 h3 => zkn s hs n i' d' h1 h2 h3
      have j2 : ∀ d' i' : Nat, i' < s.length → zaS (zZ s n) s (d' : Int) (i' : Int) = zZ s n (d' : Int) ((i' + 1 : Nat) : Int) := fun d' i' h' => by
        unfold zaS zcq
        rw [decide_eq_false (show ¬ (d' : Int) < 0 by omega), if_neg (by decide), decide_eq_false (show ¬ (s.length : Int) ≤ (i' : Int) by omega), if_neg (by decide), zP (by omega), Option.bind_some]
      rw [decide_eq_true (show (i : Int) < (s.length : Int) by omega), if_pos rfl, zhF, hx, Option.bind_some, zP (by omega), Option.bind_some]
      cases c40 : c == 40 with
      | true =>
        have : c = 40 := by simpa using c40
        subst this
        have := j2 (d + 1) i hlt
        rw [if_pos rfl, this, ih (i + 1) (d + 1) (by omega) (by omega) (by omega), hr, zqo]
      | false =>
        rw [if_neg (by decide)]
        cases c41 : c == 41 with
        | true =>
          have : c = 41 := by simpa using c41
          subst this
          rw [if_pos rfl, zeJ (by omega) (by omega), Option.bind_some]
          cases d with
          | zero =>
            unfold zaS zcq
            rw [znC]
            rfl
          | succ d =>
            have e : ((d + 1 : Nat) : Int) - 1 = (d : Int) := by omega
            rw [e, j2 d i hlt, ih (i + 1) d (by omega) (by omega) (by omega), hr, zoQ]
        | false =>
          rw [if_neg (by decide)]
          cases c92 : c == 92 with
          | true =>
            have : c = 92 := by simpa using c92
            subst this
            rw [if_pos rfl, zP (by omega), Option.bind_some]
            cases r with
            | nil =>
              have hl : s.length = i + 1 := by have := congrArg List.length hr; simp at this; omega
              unfold zaS zcq
              rw [decide_eq_false (show ¬ (d : Int) < 0 by omega), if_neg (by decide), decide_eq_true (show (s.length : Int) ≤ ((i + 1 : Nat) : Int) by omega), if_pos rfl, zqn]
              rfl
            | cons x t =>
              obtain ⟨hlt2, hr2⟩ := zjv hr
              rw [j2 d (i + 1) hlt2, ih (i + 1 + 1) d (by omega) (by omega) (by omega), hr2, zr5]
          | false => rw [if_neg (by decide), j2 d i hlt, ih (i + 1) d (by omega) (by omega) (by omega), hr, zr6 d r c40 c41 c92]
theorem zn3 (s : Str) (hs : s.length < 900000000) : zgr s = some (zr7 s) := by
  unfold zgr zr7
  have := zkn s hs fuel 0 0 (Nat.zero_le _) (by unfold fuel; omega) (Nat.le_refl _)
  rw [List.drop_zero] at this
  exact this
def zr8 (w : Str) : Option (Str × Str) := match zz 47 w with
  | [v] => if zbX v then some ([], v) else none
  | [p, v] => if zbX p && zbX v then some (p, v) else none
  | _ => none
def byOk (b : Str) : Bool := zbX b || ((zqr b).2 == 0 && !(b.any ([44, 40, 41] : Str).contains))
def zi8 (s : Str) : Str × Bool := if ([41] : Str).isSuffixOf s then (s.take (s.length - 1), true) else (s, false)
def zpS (r : Str) : Option Str := if r == [] then some [] else if ([32, 40] : Str).isPrefixOf r && (zi8 (r.drop 2)).2 && !((zi8 (r.drop 2)).1 == []) && zr7 (zi8 (r.drop 2)).1 then some (zi8 (r.drop 2)).1 else none
def zlo : api_Via := ⟨[], [], [], []⟩
def zhe (s : Str) : api_Via × Int := match zr8 (zdF 32 s).1 with
  | none => (zlo, 2)
  | some pv => if (zdF 32 s).2.2 && byOk (upto [32] (zdF 32 s).2.1) then (match zpS (zfK [32] (zdF 32 s).2.1) with
    | none => (zlo, 2)
    | some c => (⟨pv.1, pv.2, upto [32] (zdF 32 s).2.1, c⟩, 0)) else (zlo, 2)
def zap (s : Str) : Str × Str × Bool × Str :=
  if !(s.takeWhile z6 == []) && zdZ 47 (s.dropWhile z6) then (s.takeWhile z6, (zau 47 (s.dropWhile z6)).takeWhile z6, !((zau 47 (s.dropWhile z6)).takeWhile z6 == []), (zau 47 (s.dropWhile z6)).dropWhile z6)
  else ([], s.takeWhile z6, !(s.takeWhile z6 == []), s.dropWhile z6)
section
variable {s r : Str} {k : Nat}
theorem zvO (hs : s.length < 1000000000) (h : At s k r) : ∃ k', At s k' (zap r).2.2.2 ∧ zbA ⟨scn s k⟩ zlo = some ((zap r).2.2.1, scn s k', ⟨(zap r).1, (zap r).2.1, [], []⟩) := by
  unfold zbA zap
  obtain ⟨k1, h1, e1⟩ := zi2 hs h
  obtain ⟨k2, h2, e2⟩ := zfk hs 47 h1
  obtain ⟨k3, h3, e3⟩ := zi2 hs h2
  dsimp only
  rw [e1, Option.bind_some]
  dsimp only
  rw [e2, Option.bind_some]
  unfold zbt zbs
  cases ht : r.takeWhile z6 == [] with
  | true => exact ⟨k1, h1, rfl⟩
  | false =>
    rw [Bool.not_false, if_pos rfl, Bool.true_and]
    cases hb : zdZ 47 (r.dropWhile z6) with
    | false =>
      rw [zjs hb] at h2
      exact ⟨k2, h2, rfl⟩
    | true =>
      refine ⟨k3, h3, ?_⟩
      rw [if_pos rfl]
      dsimp only [scn] at e3 ⊢
      rw [e3, Option.bind_some]
      rfl
theorem zmq (u : Str) (hs : u.length < 1000000000) : strings_CutSuffix u [41] = some (zi8 u) := by
  unfold strings_CutSuffix stringslite_CutSuffix
  rw [zmc u [41] hs (by decide), Option.bind_some]
  unfold zi8
  cases hp : ([41] : Str).isSuffixOf u with
  | false => rfl
  | true =>
    have hl := (List.isSuffixOf_iff_suffix.1 hp).length_le
    simp only [List.length_singleton] at hl
    have e : zfG (u.length : Int) (([41] : Str).length : Int) = some ((u.length - 1 : Nat) : Int) := by
      rw [zeJ (by simp; omega) (by simp; omega)]; congr 1; simp; omega
    rw [Bool.not_true, if_neg (by decide), e, Option.bind_some, zlW (by omega)]
    rfl
theorem zuy (u : Str) : (zi8 u).1.length ≤ u.length := by unfold zi8; split <;> simp
theorem zoR (hs : s.length < 800000000) (h : At s k r) (p v b : Str) : ∃ w, zbW ⟨scn s k⟩ ⟨p, v, b, []⟩ = some ((zpS r).isSome, scn s k, w) ∧ ∀ c, zpS r = some c → w = ⟨p, v, b, c⟩ := by
  unfold zbW zpS
  have hl := h.le_len
  dsimp only
  rw [zoA h, Option.bind_some]
  cases hr : r == [] with
  | true => exact ⟨_, rfl, fun c hc => by cases hc; rfl⟩
  | false =>
    rw [if_neg (by decide), if_neg (by decide), zwI h, Option.bind_some, zha r [32, 40] (by omega), Option.bind_some]
    unfold zaI
    cases hp : ([32, 40] : Str).isPrefixOf r with
    | false =>
      rw [if_neg (by decide)]
      dsimp only
      rw [zmq r (by omega), Option.bind_some]
      exact ⟨_, rfl, fun c hc => by cases hc⟩
    | true =>
      rw [if_pos rfl]
      have hcl := zuy (r.drop 2)
      have hdl : (r.drop 2).length ≤ r.length := by simp
      show ∃ w, ((strings_CutSuffix (r.drop 2) [41]).bind _) = _ ∧ _
      rw [zmq _ (by omega), Option.bind_some, zn3 _ (by omega), Option.bind_some]
      cases (zi8 (r.drop 2)).2 with
      | false => exact ⟨_, rfl, fun c hc => by cases hc⟩
      | true =>
        cases hn : (zi8 (r.drop 2)).1 == [] with
        | true => exact ⟨_, rfl, fun c hc => by simp at hc⟩
        | false =>
          cases hc : zr7 (zi8 (r.drop 2)).1 with
          | false => exact ⟨_, rfl, fun c hc => by simp at hc⟩
          | true => exact ⟨_, rfl, fun c hc => by simp at hc; rw [← hc]⟩
end
def viaQ (s : Str) : api_Via × Int :=
  if (zap s).2.2.1 && zdZ 32 (zap s).2.2.2 && byOk ((zau 32 (zap s).2.2.2).takeWhile (fun b => !(b == 32))) then (match zpS ((zau 32 (zap s).2.2.2).dropWhile (fun b => !(b == 32))) with
    | none => (zlo, 2)
    | some c => (⟨(zap s).1, (zap s).2.1, (zau 32 (zap s).2.2.2).takeWhile (fun b => !(b == 32)), c⟩, 0)) else (zlo, 2)
theorem zpT (s : Str) (hs : s.length < 300000000) : zgN s = some (viaQ s) := by
  unfold zgN viaQ
  have hs' : s.length < 1000000000 := by omega
  rw [zin, Option.bind_some]
  obtain ⟨k1, h1, e1⟩ := zvO hs' (At.zero s)
  obtain ⟨k2, h2, e2⟩ := zfk hs' 32 h1
  obtain ⟨k3, h3, e3⟩ := zmd (f := zd5) (p := fun b => !(b == 32)) (fun b => rfl) hs' h2
  obtain ⟨w, e4, h4⟩ := zoR (by omega) h3 (zap s).1 (zap s).2.1 ((zau 32 (zap s).2.2.2).takeWhile (fun b => !(b == 32)))
  have hl2 := h2.le_len
  have htl := zmi (fun b => !(b == 32)) (zau 32 (zap s).2.2.2)
  show (zbA ⟨scn s 0⟩ zlo).bind _ = _
  rw [e1, Option.bind_some]
  unfold zdU
  dsimp only
  rw [e2, Option.bind_some]
  cases (zap s).2.2.1 with
  | false => rfl
  | true =>
    rw [Bool.not_true, if_neg (by decide), Bool.true_and]
    cases zdZ 32 (zap s).2.2.2 with
    | false => rfl
    | true =>
      rw [Bool.true_and]
      dsimp only
      rw [Bool.not_true, if_neg (by decide)]
      unfold zg6
      dsimp only
      rw [e3, Option.bind_some]
      dsimp only
      rw [zmu _ (by omega), Option.bind_some, zh4 _ (by omega), Option.bind_some, zjr _ [44, 40, 41] (by omega) (by decide) (by decide), Option.bind_some]
      unfold zcI byOk
      generalize hb : (zau 32 (zap s).2.2.2).takeWhile (fun b => !(b == 32)) = b at e4 h4
      have fin : ((zbW ⟨scn s k3⟩ ⟨(zap s).1, (zap s).2.1, b, []⟩).bind fun r18 => if (!r18.1) = true then some (zlo, (2 : Int)) else some (⟨r18.2.2.Proto, r18.2.2.Version, r18.2.2.By, r18.2.2.Comment⟩, 0)) = some (match zpS ((zau 32 (zap s).2.2.2).dropWhile (fun b => !(b == 32))) with | none => (zlo, 2) | some c => (⟨(zap s).1, (zap s).2.1, b, c⟩, 0)) := by
        rw [e4, Option.bind_some]
        cases hc : zpS ((zau 32 (zap s).2.2.2).dropWhile (fun b => !(b == 32))) with
        | none => rfl
        | some c =>
          have := h4 c hc
          subst this
          rfl
      cases zbX b with
      | true => exact fin
      | false =>
        rw [if_neg (by decide), Bool.false_or]
        cases (zqr b).2 == 0 with
        | false => rfl
        | true =>
          rw [if_pos rfl, Bool.true_and]
          cases b.any ([44, 40, 41] : Str).contains with
          | true => rfl
          | false => exact fin
theorem zvP (u : Str) : upto [32] u = u.takeWhile (fun b => !(b == 32)) ∧ zfK [32] u = u.dropWhile (fun b => !(b == 32)) := by
  have : (fun c : UInt8 => !([32] : Str).contains c) = fun b => !(b == 32) := by
    funext c
    simp only [List.contains_cons, List.contains_nil, Bool.or_false]
  unfold upto zfK
  rw [this]
  exact ⟨rfl, rfl⟩
theorem zi9 {m : Str} (h : m.all z6 = true) : (47 : UInt8) ∉ m ∧ (32 : UInt8) ∉ m := ⟨fun hx => by
  have := List.all_eq_true.1 h 47 hx
  revert this; decide, fun hx => by
  have := List.all_eq_true.1 h 32 hx
  revert this; decide⟩
theorem zr9 {w : Str} (u : Str) (h : (32 : UInt8) ∉ w) : zdF 32 (w ++ 32 :: u) = (w, u, true) := by
  have h1 := zs5 (p := fun b => !(b == 32)) (c := 32) (by decide) u (zvv h)
  obtain ⟨e1, e2⟩ := zvP (w ++ 32 :: u)
  unfold zdF
  rw [e1, e2, h1.1, h1.2]
  rfl
theorem zvQ {v : Str} (h : zbX v = true) : zr8 v = some ([], v) := by
  have := zi9 ((zcf v).1 h).2
  unfold zr8
  rw [zjt this.1]
  dsimp only
  rw [if_pos h]
theorem zvR {p v : Str} (h1 : zbX p = true) (h2 : zbX v = true) : zr8 (p ++ 47 :: v) = some (p, v) := by
  have t1 := zi9 ((zcf p).1 h1).2
  have t2 := zi9 ((zcf v).1 h2).2
  unfold zr8
  rw [zoJ _ t1.1, zjt t2.1]
  dsimp only
  rw [h1, h2]; rfl
theorem zko : ∀ {w p v : Str}, zz 47 w = [p, v] → w = p ++ 47 :: v
  | [], p, v, h => by rw [zz] at h; cases h
  | y :: w, p, v, h => by
    rw [zdO] at h
    split at h
    · rename_i e
      subst e
      injection h with h1 h2
      rw [← h1, zh1 h2]; rfl
    · cases h3 : zz 47 w with
      | nil => exact absurd h3 (zeq 47 w)
      | cons a l =>
        rw [h3] at h
        injection h with h1 h2
        subst h2
        have := zko h3
        rw [← h1, this]; rfl
theorem zqp {w : Str} {pv : Str × Str} (h : zr8 w = some pv) : (zbX w = true ∧ pv = ([], w)) ∨ (zbX pv.1 = true ∧ zbX pv.2 = true ∧ w = pv.1 ++ 47 :: pv.2) := by
  unfold zr8 at h
  split at h
  · rename_i v hsp
    split at h
    · rename_i ht
      cases h
      have := zh1 hsp
      subst this
      exact .inl ⟨ht, rfl⟩
    · cases h
  · rename_i p v hsp
    split at h
    · rename_i ht
      cases h
      simp only [Bool.and_eq_true] at ht
      have e : w = p ++ 47 :: v := by
        have hj := zko hsp
        exact hj
      exact .inr ⟨ht.1, ht.2, e⟩
    · cases h
  · cases h
theorem ztg {m : Str} (c : UInt8) (r : Str) (hc : z6 c = false) (h : m.all z6 = true) : (m ++ c :: r).takeWhile z6 = m ∧ (m ++ c :: r).dropWhile z6 = c :: r := zs5 hc r h
theorem zth {v : Str} (u : Str) (h : zbX v = true) : zap (v ++ 32 :: u) = ([], v, true, 32 :: u) := by
  obtain ⟨h1, h2⟩ := (zcf v).1 h
  have ht := ztg 32 u (by decide) h2
  unfold zap
  rw [ht.1, ht.2]
  have : zdZ 47 (32 :: u) = false := by rw [za6]; decide
  have hn : (v == []) = false := by simpa using h1
  rw [this, Bool.and_false, if_neg Bool.false_ne_true, hn]
  rfl
theorem zti {p v : Str} (u : Str) (h1 : zbX p = true) (h2 : zbX v = true) : zap ((p ++ 47 :: v) ++ 32 :: u) = (p, v, true, 32 :: u) := by
  obtain ⟨p1, p2⟩ := (zcf p).1 h1
  obtain ⟨v1, v2⟩ := (zcf v).1 h2
  have e : (p ++ 47 :: v) ++ 32 :: u = p ++ 47 :: (v ++ 32 :: u) := by simp
  have ht := ztg 47 (v ++ 32 :: u) (by decide) p2
  have ht2 := ztg 32 u (by decide) v2
  unfold zap
  rw [e, ht.1, ht.2, za6, zcl, ht2.1, ht2.2]
  have hn : (p == []) = false := by simpa using p1
  have hn2 : (v == []) = false := by simpa using v1
  rw [hn, hn2]
  rfl
theorem viaQ_S (s : Str) : viaQ s = zhe s := by
  unfold zhe
  cases hv : zr8 (zdF 32 s).1 with
  | some pv =>
    dsimp only
    rcases zga (zdF 32 s).2.2 with hc | hc
    · have e := zpg 32 s hc
      have hp : zap s = (pv.1, pv.2, true, 32 :: (zdF 32 s).2.1) := by
        rcases zqp hv with ⟨t1, t2⟩ | ⟨t1, t2, t3⟩
        · have := zth (zdF 32 s).2.1 t1
          rw [e] at this
          rw [this, t2]
        · have := zti (zdF 32 s).2.1 t1 t2
          rw [← t3, e] at this
          exact this
      obtain ⟨e1, e2⟩ := zvP (zdF 32 s).2.1
      unfold viaQ
      rw [hp, hc, e1, e2]
      dsimp only
      rw [za6, zcl]
      rfl
    · -- no blank: nothing stands behind the version
      have hn := ztz 32 s hc
      rw [hc, Bool.false_and, if_neg Bool.false_ne_true]
      have hno : (32 : UInt8) ∉ s := fun hm => by
        have h0 : upto [32] s = s := by have := congrArg Prod.fst hn; exact this
        have := zvw (cs := [32]) (s := s) 32 (by rw [h0]; exact hm)
        simp at this
      have hb : zdZ 32 (zap s).2.2.2 = false := by
        cases h : zdZ 32 (zap s).2.2.2 with
        | false => rfl
        | true =>
          exfalso
          have hm := zfE h
          have hin : (32 : UInt8) ∈ (zap s).2.2.2 := by rw [hm]; simp
          apply hno
          unfold zap at hin
          split at hin
          · have h1 := (List.dropWhile_suffix _).mem hin
            unfold zau at h1
            split at h1
            · exact (List.dropWhile_suffix _).mem (List.mem_of_mem_drop h1)
            · exact (List.dropWhile_suffix _).mem h1
          · exact (List.dropWhile_suffix _).mem hin
      unfold viaQ
      rw [hb, Bool.and_false, Bool.false_and, if_neg Bool.false_ne_true]
  | none =>
    dsimp only
    have hq : ((zap s).2.2.1 && zdZ 32 (zap s).2.2.2) = false := by
      cases h : (zap s).2.2.1 && zdZ 32 (zap s).2.2.2 with
      | false => rfl
      | true =>
        exfalso
        simp only [Bool.and_eq_true] at h
        obtain ⟨h1, h2⟩ := h
        have e2 := zfE h2
        have e0 : s.takeWhile z6 ++ s.dropWhile z6 = s := List.takeWhile_append_dropWhile
        have hall : ∀ t : Str, (t.takeWhile z6).all z6 = true := fun t => List.all_eq_true.2 fun x hx => zpH hx
        unfold zap at h1 e2
        split at h1
        · rename_i hc
          rw [if_pos hc] at e2
          simp only [Bool.and_eq_true, Bool.not_eq_true', beq_eq_false_iff_ne] at hc
          have hb := zfE hc.2
          have e3 : (zau 47 (s.dropWhile z6)).takeWhile z6 ++ (zau 47 (s.dropWhile z6)).dropWhile z6 = zau 47 (s.dropWhile z6) := List.takeWhile_append_dropWhile
          have tp : zbX (s.takeWhile z6) = true := (zcf _).2 ⟨hc.1, hall _⟩
          have tv : zbX ((zau 47 (s.dropWhile z6)).takeWhile z6) = true := (zcf _).2 ⟨by simpa using h1, hall _⟩
          have es : s = (s.takeWhile z6 ++ 47 :: (zau 47 (s.dropWhile z6)).takeWhile z6) ++ 32 :: zau 32 ((zau 47 (s.dropWhile z6)).dropWhile z6) := by
            rw [List.append_assoc, List.cons_append, ← e2, e3, ← hb, e0]
          have hn1 := zi9 ((zcf _).1 tp).2
          have hn2 := zi9 ((zcf _).1 tv).2
          have hcut : (zdF 32 s).1 = s.takeWhile z6 ++ 47 :: (zau 47 (s.dropWhile z6)).takeWhile z6 := by
            have := zr9 (w := s.takeWhile z6 ++ 47 :: (zau 47 (s.dropWhile z6)).takeWhile z6) (zau 32 ((zau 47 (s.dropWhile z6)).dropWhile z6)) (fun hm => by
              rcases List.mem_append.1 hm with hm | hm
              · exact hn1.2 hm
              · rcases List.mem_cons.1 hm with hm | hm
                · exact absurd hm (by decide)
                · exact hn2.2 hm)
            rw [← es] at this
            exact congrArg Prod.fst this
          rw [hcut, zvR tp tv] at hv
          cases hv
        · rename_i hc
          rw [if_neg hc] at e2
          have tp : zbX (s.takeWhile z6) = true := (zcf _).2 ⟨by simpa using h1, hall _⟩
          have es : s = s.takeWhile z6 ++ 32 :: zau 32 (s.dropWhile z6) := by rw [← e2, e0]
          have hn1 := zi9 ((zcf _).1 tp).2
          have hcut : (zdF 32 s).1 = s.takeWhile z6 := by
            have := zr9 (w := s.takeWhile z6) (zau 32 (s.dropWhile z6)) hn1.2
            rw [← es] at this
            exact congrArg Prod.fst this
          rw [hcut, zvQ tp] at hv
          cases hv
    unfold viaQ
    rw [hq, Bool.false_and, if_neg Bool.false_ne_true]
theorem zmr (s : Str) (hs : s.length < 300000000) : zgN s = some (zhe s) := by rw [zpT s hs, viaQ_S]
end Go.Dm
end
section
namespace Go.Dm
def zcv (v : api_Via) : Str := (if v.Proto == [] then [] else v.Proto ++ [47]) ++ v.Version ++ 32 :: v.By ++ (if v.Comment == [] then [] else [32, 40] ++ v.Comment ++ [41])
def zhB (v : api_Via) : Str × Int := if (zhe (zcv v)).2 == 0 && (zhe (zcv v)).1 == v then (zcv v, 0) else ([], 2)
def zrc (v : api_Via) : Prop := v.Proto.length < 10000000 ∧ v.Version.length < 10000000 ∧ v.By.length < 10000000 ∧ v.Comment.length < 10000000
theorem zsm {v : api_Via} (h : zrc v) : (zcv v).length < 100000000 := by
  obtain ⟨h1, h2, h3, h4⟩ := h
  unfold zcv
  split <;> split <;> simp <;> omega
theorem ztt (l : List Str) (h : l.length < 1000000) (h2 : l.flatten.length < 4000000000) : zcp [] l = some l.flatten := zol l h h2
theorem zsn (v : api_Via) (h : zrc v) : zkC v = some (zhB v) := by
  have hl := zsm h
  have j2 : ∀ l : List Str, l.length < 100 → l.flatten = zcv v → zfR v l = some (zhB v) := by
    intro l h1 h2
    unfold zfR zhh
    rw [ztt l (by omega) (by rw [h2]; omega), Option.bind_some, h2, zmr _ (by omega), Option.bind_some]
    unfold zhB
    cases (zhe (zcv v)).2 == 0 <;> cases (zhe (zcv v)).1 == v <;> rfl
  have j1 : ∀ l : List Str, l.length < 50 → l.flatten = (if v.Proto == [] then [] else v.Proto ++ [47]) ++ v.Version ++ 32 :: v.By → zfS v l = some (zhB v) := by
    intro l h1 h2
    unfold zfS
    cases hc : v.Comment == [] with
    | true =>
      rw [Bool.not_true, if_neg (by decide)]
      refine j2 l (by omega) ?_
      unfold zcv
      rw [h2, hc]; simp
    | false =>
      rw [Bool.not_false, if_pos rfl, if_pos (zbL (by omega) (by omega))]
      refine j2 _ (by simp; omega) ?_
      unfold zcv
      rw [List.flatten_append, h2, hc]; simp
  unfold zkC
  cases hp : v.Proto == [] with
  | true =>
    rw [Bool.not_true, if_neg (by decide)]
    exact j1 _ (by simp) (by rw [hp]; simp)
  | false =>
    rw [Bool.not_false, if_pos rfl, if_pos (zbL (by simp) (by simp))]
    exact j1 _ (by simp) (by rw [hp]; simp)
theorem zv1 {r c : Str} (h : zpS r = some c) : r = if c == [] then [] else [32, 40] ++ c ++ [41] := by
  unfold zpS at h
  split at h
  · rename_i hr
    cases h
    simpa using hr
  · split at h
    · rename_i hc
      simp only [Bool.and_eq_true, Bool.not_eq_true'] at hc
      obtain ⟨⟨⟨h1, h2⟩, h3⟩, _⟩ := hc
      cases h
      obtain ⟨t, ht⟩ := List.isPrefixOf_iff_prefix.1 h1
      have hd : r.drop 2 = t := by rw [← ht]; rfl
      rw [h3, if_neg Bool.false_ne_true]
      rw [hd] at h2 ⊢
      rw [← ht]
      have : (zi8 t).1 ++ [41] = t := by
        unfold zi8 at h2 ⊢
        split at h2
        · rename_i hs
          rw [if_pos hs]
          obtain ⟨m, hm⟩ := List.isSuffixOf_iff_suffix.1 hs
          rw [← hm]; simp
        · cases h2
      rw [List.append_assoc, this]
    · cases h
theorem zv2 {s : Str} (h : ((zhe s).2 == 0) = false) : zhe s = (zlo, 2) := by
  unfold zhe at h ⊢
  split
  · rfl
  · rename_i pv hv
    rw [hv] at h
    dsimp only at h
    split
    · rename_i hc
      rw [if_pos hc] at h
      split
      · rfl
      · rename_i c hcom
        rw [hcom] at h; cases h
    · rfl
def okV (x : Str) : Bool := (zhe x).2 == 0
def zlP (out : List api_Via) (r : List api_Via × Int) : List api_Via × Int := if r.2 == 0 then (out ++ r.1, 0) else ([], r.2)
def zbJ : List Str → List api_Via × Int
  | [] => ([], 0)
  | v :: vs => match zad v with
    | none => ([], 2)
    | some l => if l.all okV then zlP (l.map fun x => (zhe x).1) (zbJ vs) else ([], 2)
theorem zgV {v : Str} (vs : List Str) (h : zad v = none) : zbJ (v :: vs) = ([], 2) := by rw [zbJ, h]
theorem zeG {v : Str} (vs : List Str) {l : List Str} (h : zad v = some l) : zbJ (v :: vs) = if l.all okV then zlP (l.map fun x => (zhe x).1) (zbJ vs) else ([], 2) := by rw [zbJ, h]
theorem zv3 (a b : List api_Via) (r : List api_Via × Int) : zlP (a ++ b) r = zlP a (zlP b r) := by
  unfold zlP
  cases h : r.2 == 0 with
  | true => simp
  | false => simp [h]
theorem zuT (vs : List Str) : (zbJ vs).2 = 0 ∨ zbJ vs = ([], 2) := by
  induction vs with
  | nil => exact .inl rfl
  | cons v vs ih =>
    cases hs : zad v with
    | none => rw [zgV _ hs]; exact .inr rfl
    | some l =>
      rw [zeG _ hs]
      cases l.all okV with
      | false => exact .inr rfl
      | true =>
        rw [if_pos rfl]
        unfold zlP
        rcases ih with ih | ih
        · rw [ih]; exact .inl rfl
        · rw [ih]; exact .inr rfl
theorem zv4 (vs : List Str) : zlP [] (zbJ vs) = zbJ vs := by
  unfold zlP
  rcases zuT vs with h | h
  · rw [h, beq_self_eq_true, if_pos rfl, List.nil_append, ← h]
  · rw [h]; rfl
theorem zpY (a b : List api_Via) (ha : a.length < 1000000000) : zgT a b = some (a == b) := by
  unfold zgT
  by_cases hl : a.length = b.length
  · rw [hl, beq_self_eq_true, Bool.not_true, if_neg (by decide)]
    refine zqd a b (zcG a b) hl ha (fun n => ?_) (fun n i x y hi hx hy => ?_)
    · rw [zcG, decide_eq_false (by omega), if_neg (by decide)]
    · rw [zcG, decide_eq_true (by omega), if_pos rfl, zbl, hx, Option.bind_some, zbl, hy, Option.bind_some, zP (by omega), Option.bind_some]
      cases x == y <;> rfl
  · have : (((a.length : Int) == (b.length : Int))) = false := beq_eq_false_iff_ne.2 (by omega)
    have h2 : (a == b) = false := beq_eq_false_iff_ne.2 (fun e => hl (by rw [e]))
    rw [this, h2]; rfl
theorem zuU (vs : List Str) (B : Nat) (h : ∀ v ∈ vs, v.length < B) : (zbJ vs).1.length ≤ vs.length * B := by
  induction vs with
  | nil => simp [zbJ]
  | cons v vs ih =>
    have hv := h v (List.mem_cons_self ..)
    have := ih (fun x hx => h x (List.mem_cons_of_mem _ hx))
    cases hs : zad v with
    | none => rw [zgV _ hs]; simp
    | some l =>
      have hm := zh3 hs
      rw [zeG _ hs]
      unfold zlP
      rw [List.length_cons, Nat.add_mul]
      split
      · split
        · simp only [List.length_append, List.length_map]; omega
        · simp
      · simp
theorem zso {v : api_Via} (h : ((zhB v).2 == 0) = true) : zhB v = (zcv v, 0) ∧ zhe (zcv v) = (v, 0) := by
  unfold zhB at h ⊢
  split at h
  · rename_i hc
    rw [if_pos hc]
    simp only [Bool.and_eq_true, beq_iff_eq] at hc
    refine ⟨rfl, ?_⟩
    exact Prod.ext hc.2 hc.1
  · cases h

end Go.Dm
end
section
namespace Go.Dm
def pln (c : UInt8) : Bool := !(c == 34) && !(c == 40) && !(c == 44)
def inn (c : UInt8) : Bool := !(c == 34) && !(c == 40) && !(c == 44) && !zan c
theorem zq0 {s : Str} (h : s.all inn = true) : s.all pln = true := by
  refine List.all_eq_true.2 fun x hx => ?_
  have := List.all_eq_true.1 h x hx
  unfold inn at this
  rw [Bool.and_eq_true] at this
  exact this.1
theorem znD {s x : Str} {l : List Str} (hx : ∀ cur, zcK 0 cur x = some [cur ++ x]) (ht : zeF x = x) (hne : x ≠ []) (h : zad s = some l) : zad (zcj s x) = some (l ++ [x]) := by
  unfold zcj
  have hxe : (x == []) = false := by simpa using hne
  split
  · rename_i hb
    obtain ⟨m, e1, e2⟩ := zk0 s [] rfl hb
    unfold zad at h ⊢
    rw [e1] at h
    cases h
    rw [hx [], e2]
    simp [elems, ht, hne]
  · unfold zad at h ⊢
    obtain ⟨m, hm, rfl⟩ := Option.map_eq_some_iff.1 h
    have hs : ∃ b, s = zdh s ++ b ∧ b.all zan = true := by
      rcases zkH s with ⟨h1, h2⟩ | ⟨a, c, b, h1, h2, h3, h4⟩
      · exact ⟨s, by rw [h2]; rfl, h1⟩
      · exact ⟨b, by rw [h4]; rw [h1]; simp, h3⟩
    obtain ⟨b, hsb, hb⟩ := hs
    have hm' := hm
    rw [hsb] at hm'
    obtain ⟨m', e1, e2⟩ := zjj hb (zdh s) 0 [] m (by simp) hm'
    rw [zhS _ (zdh s) 0 [] m' (by simp) e1]
    have h32 : zcK 0 [] (32 :: x) = some [32 :: x] := by
      rw [zdE [] x (by decide) (by decide), hx]; rfl
    rw [h32]
    have hem : elems m' = elems m := by unfold elems; rw [e2]
    show some (elems (m' ++ [32 :: x])) = _
    rw [zng, hem]
    congr 2
    simp [elems, ztW (show zan 32 = true by decide), ht, hne]
theorem zfM : ∀ (p cur r : Str), p.all pln = true → zcK 0 cur (p ++ r) = zcK 0 (cur ++ p) r
  | [], cur, r, _ => by simp
  | c :: p, cur, r, h => by
    simp only [List.all_cons, Bool.and_eq_true] at h
    have h1 := h.1
    unfold pln at h1
    simp only [Bool.and_eq_true, Bool.not_eq_true'] at h1
    rw [List.cons_append, zdE cur _ (by rw [h1.1.1, h1.1.2]; rfl) h1.2, zfM p _ r h.2, List.append_assoc, List.singleton_append]
theorem zuA (t c : Str) : ∀ d, zgJ d c = true → zdC (d + 1) (c ++ 41 :: t) = some (c.length + 1) := by
  refine zkE (P := fun c => ∀ d, zgJ d c = true → zdC (d + 1) (c ++ 41 :: t) = some (c.length + 1)) ?_ ?_ ?_ ?_ ?_ ?_ (c.length + 1) c (by omega)
  · intro d h
    rw [zr4] at h
    have : d = 0 := by simpa using h
    subst this
    rw [List.nil_append, zdX, zaB]; rfl
  · intro r ih d h
    rw [zqo] at h
    rw [List.cons_append, zfW, ih _ h]; rfl
  · intro r ih d h
    cases d with
    | zero => rw [znC] at h; cases h
    | succ d =>
      rw [zoQ] at h
      rw [List.cons_append, zdX, ih _ h]; rfl
  · intro d h; rw [zqn] at h; cases h
  · intro c r ih d h
    rw [zr5] at h
    rw [List.cons_append, List.cons_append, zgw, ih _ h]; rfl
  · intro c r h1 h2 h3 ih d h
    rw [zr6 d r h1 h2 h3] at h
    rw [List.cons_append, zgx d _ h1 h2 h3, ih _ h]; rfl
theorem zvS {c cur : Str} (h : zgJ 0 c = true) : zcK 0 cur (32 :: 40 :: (c ++ [41])) = some [cur ++ 32 :: 40 :: (c ++ [41])] := by
  have hl := zuA [] c 0 h
  have hp : zdD 40 (c ++ [41]) = c.length + 2 := by
    unfold zdD
    rw [if_neg (by decide), hl]
  rw [zdE cur _ (by decide) (by decide), ziz _ _ (by decide), hp, if_neg (by omega), show c.length + 2 - 1 = (c ++ [41]).length by simp, zkZ _ _ _ (Nat.le_refl _), List.take_length, List.drop_length, zd8]
  simp
def zoS (c : UInt8) : Bool := zlH c || ztl c || c == 37 || c == 58 || c == 91 || c == 93
theorem zwX (c : UInt8) : (!zoS c || ([44, 40, 41] : Str).contains c || inn c) = true := za0 (fun c => !zoS c || ([44, 40, 41] : Str).contains c || inn c) (by decide +kernel) c
theorem zq1 (c : UInt8) : (!zlA c || zoS c) = true := za0 (fun c => !zlA c || zoS c) (by decide +kernel) c
theorem ztQ (c : UInt8) : (!zjA c || zoS c) = true := za0 (fun c => !zjA c || zoS c) (by decide +kernel) c
theorem zms (c : UInt8) : (!z6 c || inn c) = true := za0 (fun c => !z6 c || inn c) (by decide +kernel) c
theorem zkp {p q : UInt8 → Bool} (h : ∀ c, (!p c || q c) = true) {s : Str} (hs : s.all p = true) : s.all q = true := by
  refine List.all_eq_true.2 fun x hx => ?_
  have h1 := List.all_eq_true.1 hs x hx
  have h2 := h x
  rw [h1] at h2
  exact h2
theorem zm5 : ∀ (n : Nat) (s : Str), s.length < n → zjS s = true → s.all zoS = true
  | 0, _, h, _ => by omega
  | n + 1, [], _, _ => rfl
  | n + 1, c :: s, hl, h => by
    simp only [List.length_cons] at hl
    cases hc : c == 37 with
    | true =>
      have : c = 37 := by simpa using hc
      subst this
      rw [zqk] at h
      match s, hl, h with
      | a :: b :: r, hl, h =>
        simp only [Bool.and_eq_true] at h
        simp only [List.length_cons] at hl
        have ha := ztQ a
        have hb := ztQ b
        rw [h.1.1] at ha
        rw [h.1.2] at hb
        have ih := zm5 n r (by omega) h.2
        simp only [List.all_cons, Bool.and_eq_true]
        exact ⟨by decide, ha, hb, ih⟩
    | false =>
      rw [zql c s hc] at h
      simp only [Bool.and_eq_true] at h
      have ih := zm5 n s (by omega) h.2
      rw [List.all_cons, ih, Bool.and_true]
      unfold zoS
      rw [h.1]; rfl
theorem zsa {s : Str} (h : zjB s = true) : s.all zoS = true := by
  unfold zjB at h
  simp only [Bool.and_eq_true, decide_eq_true_eq, beq_iff_eq] at h
  obtain ⟨⟨⟨h1, h2⟩, h3⟩, h4⟩ := h
  have hi := zkp zq1 (zqm h4).1
  refine List.all_eq_true.2 fun x hx => ?_
  obtain ⟨i, hi2, rfl⟩ := List.getElem_of_mem hx
  by_cases h0 : i = 0
  · subst h0
    have : s[0] = 91 := by have := List.getElem?_eq_getElem hi2; rw [h2] at this; exact (Option.some.inj this).symm
    rw [this]; decide
  · by_cases hl : i = s.length - 1
    · subst hl
      have : s[s.length - 1] = 93 := by have := List.getElem?_eq_getElem hi2; rw [h3] at this; exact (Option.some.inj this).symm
      rw [this]; decide
    · refine List.all_eq_true.1 hi _ ?_
      unfold zoX
      have e : (List.drop 1 (List.take (s.length - 1) s))[i - 1]? = some s[i] := by
        rw [List.getElem?_drop, List.getElem?_take, if_pos (by omega), show 1 + (i - 1) = i by omega]
        exact List.getElem?_eq_getElem hi2
      exact List.mem_of_getElem? e
theorem zqq {s : Str} (h : ((zio s).1 == 0) = false) : s.all zoS = true := by
  unfold zio at h
  split at h
  · rename_i hb; exact zsa hb
  · split at h
    · rename_i hf; exact zkp zq1 (zlB hf).1
    · split at h
      · rename_i hn
        unfold zlx at hn
        rw [Bool.and_eq_true] at hn
        exact zm5 _ s (Nat.lt_succ_self _) hn.2
      · cases h
theorem zuB {s : Str} (h : ((zqr s).2 == 0) = true) : s.all zoS = true := by
  unfold zqr at h
  split at h
  · rename_i hk; exact zqq (by simpa using hk)
  · split at h
    · cases h
    · rename_i k hl
      split at h
      · rename_i hk
        rw [Bool.and_eq_true] at hk
        have a := zqq (s := s.take k) (by simpa using hk.1)
        have b := zkp zq1 (znz hk.2)
        obtain ⟨h1, h2⟩ := zoY hl
        have e : s = s.take k ++ 58 :: s.drop (k + 1) := by
          have g := List.getElem?_eq_getElem h1
          rw [h2] at g
          have hd := List.drop_eq_getElem_cons h1
          rw [← Option.some.inj g] at hd
          rw [← hd, List.take_append_drop]
        rw [e, List.all_append, List.all_cons, a, b]
        decide
      · cases h
theorem zvT {b : Str} (h : byOk b = true) : b.all inn = true ∧ b ≠ [] := by
  unfold byOk at h
  rw [Bool.or_eq_true] at h
  rcases h with h | h
  · have := (zcf _).1 h
    exact ⟨zkp zms (by unfold zbX at h; rw [Bool.and_eq_true] at h; exact h.1), this.1⟩
  · rw [Bool.and_eq_true] at h
    refine ⟨?_, ?_⟩
    · have hh := zuB h.1
      refine List.all_eq_true.2 fun x hx => ?_
      have h1 := List.all_eq_true.1 hh x hx
      have h2 := zwX x
      have h3 : ([44, 40, 41] : Str).contains x = false := by
        have h4 := h.2
        rw [Bool.not_eq_true'] at h4
        have := List.any_eq_false.1 h4 x hx
        simpa using this
      rw [h1, h3] at h2
      exact h2
    · rintro rfl
      exact absurd h.1 (by decide)
theorem zkX {a b : UInt8} {m : Str} (ha : zan a = false) (hb : zan b = false) : zeF (a :: (m ++ [b])) = a :: (m ++ [b]) := by
  unfold zeF ziA
  rw [← List.cons_append, zid, hb, if_neg Bool.false_ne_true, List.cons_append, List.dropWhile_cons, ha, if_neg Bool.false_ne_true]
theorem ztj {v : api_Via} (h : zhe (zcv v) = (v, 0)) : (∀ cur, zcK 0 cur (zcv v) = some [cur ++ zcv v]) ∧ zeF (zcv v) = zcv v ∧ zcv v ≠ [] := by
  have hs := h
  unfold zhe at h
  split at h
  · exact absurd (show (2 : Int) = 0 from congrArg Prod.snd h) (by decide)
  · rename_i pv hv
    split at h
    · rename_i hc
      simp only [Bool.and_eq_true] at hc
      split at h
      · exact absurd (show (2 : Int) = 0 from congrArg Prod.snd h) (by decide)
      · rename_i c hcom
        have e := zpg 32 (zcv v) hc.1
        have hr := zv1 hcom
        have huf := zmU [32] (zdF 32 (zcv v)).2.1
        obtain ⟨hb1, hb2⟩ := zvT hc.2
        -- the first word
        obtain ⟨hw1, hw2⟩ : (zdF 32 (zcv v)).1.all inn = true ∧ (zdF 32 (zcv v)).1 ≠ [] := by
          rcases zqp hv with ⟨t1, t2⟩ | ⟨t1, t2, t3⟩
          · exact ⟨zkp zms (by unfold zbX at t1; rw [Bool.and_eq_true] at t1; exact t1.1), ((zcf _).1 t1).1⟩
          · rw [t3]
            refine ⟨?_, by simp⟩
            unfold zbX at t1 t2
            rw [Bool.and_eq_true] at t1 t2
            rw [List.all_append, List.all_cons, zkp zms t1.1, zkp zms t2.1]
            decide
        have hcb : c = [] ∨ zgJ 0 c = true := by
          unfold zpS at hcom
          split at hcom
          · cases hcom; exact .inl rfl
          · split at hcom
            · rename_i hcc
              cases hcom
              simp only [Bool.and_eq_true] at hcc
              have := hcc.2
              unfold zr7 at this
              rw [Bool.and_eq_true] at this
              exact .inr this.1
            · cases hcom
        generalize (zdF 32 (zcv v)).1 = w at e hw1 hw2
        generalize (zdF 32 (zcv v)).2.1 = u at e hr huf hb1 hb2
        rw [hr] at huf
        generalize upto [32] u = b at huf hb1 hb2
        rw [← huf] at e
        obtain ⟨a0, w0, rfl⟩ : ∃ a0 w0, w = a0 :: w0 := by
          cases w with
          | nil => exact absurd rfl hw2
          | cons a0 w0 => exact ⟨a0, w0, rfl⟩
        obtain ⟨b0, z0, rfl⟩ : ∃ b0 z0, b = b0 ++ [z0] := ⟨b.dropLast, b.getLast hb2, (List.dropLast_concat_getLast hb2).symm⟩
        have ha0 : zan a0 = false := by
          rw [List.all_cons, Bool.and_eq_true] at hw1
          have := hw1.1
          unfold inn at this
          simp only [Bool.and_eq_true, Bool.not_eq_true'] at this
          exact this.2
        have hz0 : zan z0 = false := by
          rw [List.all_append, Bool.and_eq_true, List.all_cons, Bool.and_eq_true] at hb1
          have := hb1.2.1
          unfold inn at this
          simp only [Bool.and_eq_true, Bool.not_eq_true'] at this
          exact this.2
        have hpl : (a0 :: w0 ++ 32 :: (b0 ++ [z0]) : Str).all pln = true := by
          have e1 : (32 :: (b0 ++ [z0]) : Str).all pln = true := by rw [List.all_cons, zq0 hb1]; decide
          rw [List.all_append, zq0 hw1, e1]; rfl
        rw [← e]
        rcases hcb with hcb | hcb
        · subst hcb
          rw [show (if (([] : Str) == []) = true then ([] : Str) else [32, 40] ++ [] ++ [41]) = [] from rfl, List.append_nil]
          refine ⟨fun cur => ?_, ?_, by simp⟩
          · have := zfM (a0 :: w0 ++ 32 :: (b0 ++ [z0])) cur [] hpl
            rw [List.append_nil] at this
            rw [this, zd8]
          · have := zkX (m := w0 ++ 32 :: b0) ha0 hz0
            simpa using this
        · cases hcn : c == [] with
          | true =>
            rw [if_pos rfl, List.append_nil]
            refine ⟨fun cur => ?_, ?_, by simp⟩
            · have := zfM (a0 :: w0 ++ 32 :: (b0 ++ [z0])) cur [] hpl
              rw [List.append_nil] at this
              rw [this, zd8]
            · have := zkX (m := w0 ++ 32 :: b0) ha0 hz0
              simpa using this
          | false =>
            rw [if_neg Bool.false_ne_true]
            have e2 : (a0 :: w0 ++ 32 :: (b0 ++ [z0] ++ ([32, 40] ++ c ++ [41])) : Str) = (a0 :: w0 ++ 32 :: (b0 ++ [z0])) ++ (32 :: 40 :: (c ++ [41])) := by simp
            rw [e2]
            refine ⟨fun cur => ?_, ?_, by simp⟩
            · rw [zfM _ cur _ hpl, zvS hcb, List.append_assoc]
            · have := zkX (m := w0 ++ 32 :: (b0 ++ [z0]) ++ 32 :: 40 :: c) ha0 (show zan 41 = false by decide)
              simpa using this
    · exact absurd (show (2 : Int) = 0 from congrArg Prod.snd h) (by decide)
theorem zm6 : ∀ (a b : List Str), (zbJ a).2 = 0 → (zbJ b).2 = 0 → zbJ (a ++ b) = ((zbJ a).1 ++ (zbJ b).1, 0)
  | [], b, _, h => by show zbJ b = (([] : List api_Via) ++ (zbJ b).1, 0); rw [List.nil_append, ← h]
  | v :: a, b, ha, hb => by
    rw [List.cons_append]
    cases hs : zad v with
    | none => rw [zgV _ hs] at ha; cases ha
    | some l =>
      rw [zeG _ hs] at ha ⊢
      rw [zeG _ hs]
      split at ha
      · rename_i h1
        rw [if_pos h1, if_pos h1]
        unfold zlP at ha ⊢
        split at ha
        · rename_i h2
          have ih := zm6 a b (by simpa using h2) hb
          rw [if_pos h2, ih]
          simp
        · rename_i h2; exact absurd (by simpa using ha) h2
      · cases ha
theorem zoT : ∀ (a b : List Str), (zbJ (a ++ b)).2 = 0 → (zbJ a).2 = 0 ∧ (zbJ b).2 = 0
  | [], b, h => ⟨rfl, h⟩
  | v :: a, b, h => by
    rw [List.cons_append] at h
    cases hs : zad v with
    | none => rw [zgV _ hs] at h; cases h
    | some l =>
      rw [zeG _ hs] at h ⊢
      split at h
      · rename_i h1
        rw [if_pos h1]
        unfold zlP at h ⊢
        split at h
        · rename_i h2
          have ih := zoT a b (by simpa using h2)
          refine ⟨?_, ih.2⟩
          rw [ih.1]; rfl
        · rename_i h2; exact absurd (by simpa using h) h2
      · cases h
theorem zm7 {v : Str} {l : List Str} (h : zad v = some l) (ha : l.all okV = true) : zbJ [v] = (l.map fun x => (zhe x).1, 0) := by
  rw [zeG _ h, if_pos ha]
  simp [zbJ, zlP]
theorem zq2 {v : Str} (h : (zbJ [v]).2 = 0) : ∃ l, zad v = some l ∧ l.all okV = true ∧ zbJ [v] = (l.map fun x => (zhe x).1, 0) := by
  cases hs : zad v with
  | none => rw [zgV _ hs] at h; cases h
  | some l =>
    refine ⟨l, rfl, ?_⟩
    have h2 := h
    rw [zeG _ hs] at h2
    split at h2
    · rename_i h1; exact ⟨h1, zm7 hs h1⟩
    · cases h2
theorem zq3 {l : List api_Field} {nm : Str} {v : api_Via} (hv : zhe (zcv v) = (v, 0))
    (h : (zbJ ((l.filter (isN nm)).map (·.Value))).2 = 0) : zbJ (((zT l nm (zcv v)).filter (isN nm)).map (·.Value)) = ((zbJ ((l.filter (isN nm)).map (·.Value))).1 ++ [v], 0) := by
  obtain ⟨hx, ht, hne⟩ := ztj hv
  have hok : okV (zcv v) = true := by unfold okV; rw [hv]; rfl
  have hval : (zhe (zcv v)).1 = v := by rw [hv]
  generalize zcv v = x at hx ht hne hok hval
  rcases zeP l nm x with ⟨h1, h2⟩ | ⟨a, f, b, h1, h2, h3, h4⟩
  · have hb : isN nm ⟨nm, x⟩ = true := by unfold isN; simp
    rw [h2, List.filter_append, h1, List.nil_append, List.filter_cons, hb, if_pos rfl, List.filter_nil]
    show zbJ [x] = _
    have hsx : zad x = some [x] := by
      unfold zad
      rw [hx []]
      simp [elems, ht, hne]
    rw [zm7 hsx (by simp [hok]), List.map_cons, hval]
    rfl
  · have hb : isN nm ⟨f.Name, zcj f.Value x⟩ = true := h2
    have e1 : (l.filter (isN nm)).map (·.Value) = (a.filter (isN nm)).map (·.Value) ++ [f.Value] := by
      rw [h1, List.filter_append, List.filter_cons, h2, if_pos rfl, h3]; simp
    have e2 : ((zT l nm x).filter (isN nm)).map (·.Value) = (a.filter (isN nm)).map (·.Value) ++ [zcj f.Value x] := by
      rw [h4, List.filter_append, List.filter_cons, hb, if_pos rfl, h3]; simp
    rw [e1] at h
    rw [e1, e2]
    obtain ⟨p1, p2⟩ := zoT _ _ h
    obtain ⟨lv, q1, q2, q3⟩ := zq2 p2
    have hap := znD hx ht hne q1
    have ho := zm7 hap (by rw [List.all_append, q2]; simp [hok])
    rw [zm6 _ _ p1 (by rw [ho]), zm6 _ _ p1 p2, ho, q3, List.append_assoc, List.map_append, List.map_cons, hval]
    rfl
theorem zwY : isN ([86, 105, 97] : Str) = isN [118, 105, 97] := by
  funext f
  unfold isN
  have : low ([86, 105, 97] : Str) = low ([118, 105, 97] : Str) := by decide
  rw [this]
theorem zpU (v : api_Via) (l : List api_Field) (h : zrc v) (hl : l.length < 900000000) (hs : zep 900000 l) : zgO v l = some (if (zhB v).2 == 0 then (zT l [86, 105, 97] (zcv v), 0) else ([], 2)) := by
  have hr := zsm h
  unfold zgO
  rw [zsn v h, Option.bind_some]
  cases he : (zhB v).2 == 0 with
  | false =>
    have : zhB v = ([], 2) := by
      unfold zhB at he ⊢
      split
      · rename_i hc; rw [if_pos hc] at he; cases he
      · rfl
    rw [this]; rfl
  | true =>
    obtain ⟨e1, _⟩ := zso he
    have := zdP l [86, 105, 97] (zcv v)
    rw [e1, Bool.not_true, if_neg Bool.false_ne_true, if_pos rfl]
    unfold zej zaW
    rw [zg8 l (by omega), Option.bind_some, Option.bind_some, ziG l _ (zcv v) (by decide) (by omega) (by omega) (zbC (by decide) hs), Option.bind_some, zg8 _ (by dsimp only; omega), Option.bind_some, Option.bind_some]
theorem ztk (rec1 : List api_Via → Int → Option (List api_Via × Int)) (i7 : Nat) (l : List Str) (e : Int) (l6 : List api_Via) (hl : l.length < 1000000000) (hx : ∀ x ∈ l, x.length < 300000000) (h6 : (l6.length + l.length) * 64 ≤ 140737488355328) (h7 : i7 < 1000000000) :
    zdJ rec1 (i7 : Int) (l, e) fuel l6 0 = (if l.all okV then rec1 (l6 ++ l.map fun x => (zhe x).1) ((i7 + 1 : Nat) : Int) else some ([], 2)) := by
  have key : ∀ (n i : Nat) (out : List api_Via), i ≤ l.length → l.length - i < n → out.length = l6.length + i →
      zdJ rec1 (i7 : Int) (l, e) n out (i : Int) = (if (l.drop i).all okV then rec1 (out ++ (l.drop i).map fun x => (zhe x).1) ((i7 + 1 : Nat) : Int) else some ([], 2)) := by
    intro n
    induction n with
    | zero => intro i _ _ h; omega
    | succ n ih =>
      intro i out hi h ho
      rw [zdJ]
      by_cases hlt : i < l.length
      · have g : l[i]? = some l[i] := List.getElem?_eq_getElem hlt
        have hxl := hx l[i] (List.getElem_mem _)
        have ihh := ih (i + 1) (out ++ [(zhe l[i]).1]) (by omega) (by omega) (by simp; omega)
        dsimp only
        rw [decide_eq_true (show (i : Int) < (l.length : Int) by omega), if_pos rfl, zbl, g, Option.bind_some, zmr _ hxl, Option.bind_some, if_pos (zbL (by omega) (by omega)), zP (by omega), Option.bind_some, ihh, List.drop_eq_getElem_cons hlt, List.all_cons, List.map_cons]
        have : okV l[i] = ((zhe l[i]).2 == 0) := rfl
        rw [this]
        cases hq : (zhe l[i]).2 == 0 with
        | false =>
          rw [zv2 hq]
          rfl
        | true =>
          rw [Bool.not_true, if_neg Bool.false_ne_true, Bool.true_and, List.append_assoc, List.singleton_append]
      · have : i = l.length := by omega
        subst this
        dsimp only
        rw [decide_eq_false (by omega), if_neg Bool.false_ne_true, zP (by omega), Option.bind_some, List.drop_length]
        simp
  have := key fuel 0 l6 (Nat.zero_le _) (by unfold fuel; omega) (by simp)
  rw [List.drop_zero] at this
  exact this
theorem zmt (vs : List Str) (hn : vs.length ≤ 1000) (hv : ∀ v ∈ vs, v.length < 300000000) : zhj vs = some (zbJ vs) := by
  unfold zhj
  have key : ∀ (n i : Nat) (out : List api_Via), i ≤ vs.length → vs.length - i < n → out.length ≤ i * 400000000 → zdg vs n out (i : Int) = some (zlP out (zbJ (vs.drop i))) := by
    intro n
    induction n with
    | zero => intro i _ _ h; omega
    | succ n ih =>
      intro i out hi h ho
      rw [zdg]
      by_cases hlt : i < vs.length
      · have g : vs[i]? = some vs[i] := List.getElem?_eq_getElem hlt
        have hvl := hv vs[i] (List.getElem_mem _)
        rw [decide_eq_true (show (i : Int) < (vs.length : Int) by omega), if_pos rfl, zbl, g, Option.bind_some, zhw _ (by omega), Option.bind_some, List.drop_eq_getElem_cons hlt]
        unfold zdG
        cases hs : zad vs[i] with
        | none => rw [zgV _ hs]; rfl
        | some l =>
          have hm := zh3 hs
          have i1 := ih (i + 1) (out ++ l.map fun x => (zhe x).1) (by omega) (by omega) (by simp; omega)
          have l1 := ztk (zdg vs n) i l 0 out (by omega) (fun x hx => by have := hm.2 x hx; omega) (by omega) (by omega)
          dsimp only
          rw [if_neg (by decide), l1, i1, zeG _ hs, zv3]
          cases l.all okV <;> rfl
      · have : i = vs.length := by omega
        subst this
        rw [decide_eq_false (by omega), if_neg (by decide), List.drop_length]
        simp [zbJ, zlP]
  have := key fuel 0 [] (Nat.zero_le _) (by unfold fuel; omega) (by simp)
  rw [List.drop_zero, zv4] at this
  exact this

end Go.Dm
end
section
namespace Go.Dm
theorem zn4 (s : Str) (hs : s.length < 100000000) : zgs s = some (if s.all zja then (zen s, 0) else ([], 2)) := by
  have key : ∀ (n i : Nat) (out : Str), i ≤ s.length → s.length - i < n → out.length ≤ 1 + 2 * i → zah s n out (i : Int) = some (out ++ (zeK (s.drop i) ++ [34]), 0) := by
    intro n
    induction n with
    | zero => intro i _ _ h; omega
    | succ n ih =>
      intro i out hi h ho
      rw [zah]
      by_cases hlt : i < s.length
      · have g : s[i]? = some s[i] := List.getElem?_eq_getElem hlt
        rw [decide_eq_true (show (i : Int) < (s.length : Int) by omega), if_pos rfl, zhF, g, Option.bind_some, List.drop_eq_getElem_cons hlt, zeK]
        generalize s[i] = c at g
        have j3 : ∀ u : Str, u.length ≤ 2 + 2 * i → zc2 (zah s n) s (i : Int) u = some (u ++ [c] ++ (zeK (s.drop (i + 1)) ++ [34]), 0) := fun u hu => by
          unfold zc2
          rw [zhF, g, Option.bind_some, if_pos (zbL (by omega) (by omega)), zP (by omega), Option.bind_some, ih (i + 1) _ (by omega) (by omega) (by simp; omega)]
        have j2 : ∀ t, zc3 (zah s n) s out (i : Int) t = some (out ++ ((if t then 92 :: c :: zeK (s.drop (i + 1)) else c :: zeK (s.drop (i + 1))) ++ [34]), 0) := fun t => by
          unfold zc3
          cases t with
          | true =>
            rw [if_pos rfl, if_pos rfl, if_pos (zbL (by omega) (by omega)), j3 _ (by simp; omega)]
            simp
          | false =>
            rw [if_neg Bool.false_ne_true, if_neg Bool.false_ne_true, j3 _ (by omega)]
            simp
        cases h34 : c == 34 with
        | true => rw [if_pos rfl, j2, Bool.true_or]
        | false => rw [if_neg Bool.false_ne_true, Option.bind_some, j2, Bool.false_or]
      · obtain rfl : i = s.length := by omega
        rw [decide_eq_false (by omega), if_neg Bool.false_ne_true, if_pos (zbL (by omega) (by omega)), List.drop_length]
        rfl
  have := key fuel 0 [34] (Nat.zero_le _) (by unfold fuel; omega) (by simp)
  rw [List.drop_zero] at this
  unfold zgs
  rw [zee zgL s (by omega), Option.bind_some]
  cases s.all zja with
  | false => rfl
  | true =>
    rw [Bool.not_true, if_neg Bool.false_ne_true, if_pos rfl]
    exact this
theorem znh (s : Str) (hs : s.length < 100000000) : zff s = some (if okW s then (zeL s, 0) else ([], 2)) := by
  unfold zff okW zeL
  rw [zh4 s (by omega), Option.bind_some, zn4 s hs, Option.bind_some]
  cases zbX s with
  | true => rfl
  | false =>
    rw [if_neg Bool.false_ne_true, Bool.false_or]
    cases s.all zja <;> rfl
theorem zuP : ∀ l : List api_Param, Go.Lib.join (l.map zf0) [59] = zbB l
  | [] => rfl
  | p :: l => by
    rw [List.map_cons, Go.Lib.join_cons, zbB]
    congr 1
    unfold Go.Lib.joinTail zeo
    rw [List.map_map]
    rfl
theorem zo4 (l : List api_Param) (hn : l.length < 1000) (hv : ∀ p ∈ l, p.Name.length < 100000 ∧ p.Value.length < 100000) (ht : (zbB l).length < 100000000) : zix l = some (if l.all okP && !(l == []) then (zbB l, 0) else ([], 2)) := by
  have key : ∀ (n i : Nat), i ≤ l.length → l.length - i < n → zbu l n ((l.take i).map zf0) (i : Int) = some (if (l.drop i).all okP && !(l == []) then (zbB l, 0) else ([], 2)) := by
    intro n
    induction n with
    | zero => intro i _ h; omega
    | succ n ih =>
      intro i hi h
      rw [zbu]
      by_cases hlt : i < l.length
      · have g : l[i]? = some l[i] := List.getElem?_eq_getElem hlt
        obtain ⟨b1, b2⟩ := hv l[i] (List.getElem_mem _)
        have hne : (l == []) = false := by cases l with
          | nil => simp at hlt
          | cons _ _ => rfl
        have ihh := ih (i + 1) (by omega) (by omega)
        rw [List.take_add_one, g] at ihh
        rw [decide_eq_true (show (i : Int) < (l.length : Int) by omega), if_pos rfl, zbl, g, Option.bind_some, znh _ (by omega), Option.bind_some, List.drop_eq_getElem_cons hlt, List.all_cons]
        generalize l[i] = p at g b1 b2 ihh
        have hl : (List.map zf0 (l.take i)).length ≤ 1000 := by simp; omega
        unfold okP
        cases hw : okW p.Value with
        | false =>
          rw [if_neg Bool.false_ne_true, Bool.false_and, Bool.false_and, Bool.false_and, if_neg Bool.false_ne_true]
          rfl
        | true =>
          have he := znq p.Value
          rw [if_pos rfl, zh4 _ (by omega), Option.bind_some, Bool.true_and]
          dsimp only
          rw [beq_self_eq_true, Bool.not_true, if_neg Bool.false_ne_true]
          unfold zeB
          cases ht : zbX p.Name with
          | false => rw [Bool.not_false, if_pos rfl, Bool.false_and, Bool.false_and, if_neg Bool.false_ne_true]
          | true =>
            rw [Bool.not_true, if_neg Bool.false_ne_true, Bool.true_and, zkU (by simp; omega), Option.bind_some, zkU (by simp; omega), Option.bind_some, if_pos (zbL (by omega) (by omega)), zP (by omega), Option.bind_some]
            rw [show List.map zf0 (l.take i ++ (some p).toList) = List.map zf0 (l.take i) ++ [p.Name ++ [61] ++ zeL p.Value] by simp [zf0]] at ihh
            exact ihh
      · obtain rfl : i = l.length := by omega
        rw [decide_eq_false (by omega), if_neg Bool.false_ne_true, List.drop_length, List.all_nil, Bool.true_and, List.take_length, List.length_map]
        cases l with
        | nil => rfl
        | cons p l =>
          have : ((((p :: l).length : Nat) : Int) == 0) = false := beq_eq_false_iff_ne.2 (by simp only [List.length_cons]; omega)
          rw [this, if_neg Bool.false_ne_true]
          unfold zcp strings_Join
          rw [zuP, if_pos ⟨by simp at hn ⊢; omega, by omega⟩, Option.bind_some, Option.bind_some]
          rfl
  have := key fuel 0 (Nat.zero_le _) (by unfold fuel; omega)
  rw [List.drop_zero, List.take_zero] at this
  exact this

theorem zvX {v cur r : Str} (h : v.all zja = true) : zcK 0 cur (zen v ++ r) = zcK 0 (cur ++ zen v) r := by
  have hp : zdD 34 (zeK v ++ 34 :: r) = (zeK v).length + 2 := by
    unfold zdD
    rw [if_pos (by decide), zlv v r h]
  have e : zen v ++ r = 34 :: (zeK v ++ 34 :: r) := by unfold zen; simp
  have e2 : (zeK v ++ 34 :: r : Str).take ((zeK v).length + 1) = zeK v ++ [34] := by
    rw [List.take_append, List.take_of_length_le (by omega), show (zeK v).length + 1 - (zeK v).length = 1 by omega]; rfl
  have e3 : (zeK v ++ 34 :: r : Str).drop ((zeK v).length + 1) = r := by
    rw [List.drop_append, List.drop_eq_nil_of_le (by omega), show (zeK v).length + 1 - (zeK v).length = 1 by omega]; rfl
  rw [e, ziz _ _ (by decide), hp, if_neg (by omega), show (zeK v).length + 2 - 1 = (zeK v).length + 1 by omega, zkZ _ _ _ (by simp), e2, e3]
  congr 1
  unfold zen
  simp
theorem ztU {s : Str} (h : zbX s = true) : s.all pln = true := by
  unfold zbX at h
  rw [Bool.and_eq_true] at h
  exact zq0 (zkp zms h.1)
theorem zsi {p : api_Param} (hp : okP p = true) (cur r : Str) : zcK 0 cur (zf0 p ++ r) = zcK 0 (cur ++ zf0 p) r := by
  unfold okP at hp
  rw [Bool.and_eq_true] at hp
  have hn : (p.Name ++ [61] : Str).all pln = true := by rw [List.all_append, ztU hp.2]; rfl
  have e : zf0 p = (p.Name ++ [61]) ++ zeL p.Value := by unfold zf0; simp
  rw [e, List.append_assoc, zfM _ cur _ hn, ← List.append_assoc cur]
  unfold zeL
  cases ht : zbX p.Value with
  | true => rw [if_pos rfl, zfM _ _ _ (ztU ht)]; simp
  | false =>
    have hva : p.Value.all zja = true := by have := hp.1; unfold okW at this; rw [ht, Bool.false_or] at this; exact this
    rw [if_neg Bool.false_ne_true, zvX hva]; simp
theorem zo5 : ∀ (l : List api_Param) (cur r : Str), l.all okP = true → zcK 0 cur (zeo l ++ r) = zcK 0 (cur ++ zeo l) r
  | [], cur, r, _ => by simp [zeo]
  | p :: l, cur, r, h => by
    rw [List.all_cons, Bool.and_eq_true] at h
    have e : zeo (p :: l) = 59 :: (zf0 p ++ zeo l) := by simp [zeo]
    rw [e, List.cons_append, zdE cur _ (by decide) (by decide), List.append_assoc, zsi h.1, zo5 l _ r h.2]
    simp
theorem ztr {l : List api_Param} (h : l.all okP = true) (cur : Str) : zcK 0 cur (zbB l) = some [cur ++ zbB l] := by
  cases l with
  | nil => rw [zbB, zd8, List.append_nil]
  | cons p l =>
    rw [List.all_cons, Bool.and_eq_true] at h
    have := zo5 l (cur ++ zf0 p) [] h.2
    rw [List.append_nil] at this
    rw [zbB, zsi h.1, this, zd8, List.append_assoc]
theorem zts {v : Str} (h : okW v = true) : ∃ d z, zeL v = d ++ [z] ∧ zan z = false := by
  unfold zeL
  cases ht : zbX v with
  | true =>
    obtain ⟨h1, h2⟩ := zlY ht
    refine ⟨v.dropLast, v.getLast h2, (List.dropLast_concat_getLast h2).symm, ?_⟩
    exact zvc _ (List.all_eq_true.1 h1 _ (List.getLast_mem h2))
  | false => exact ⟨34 :: zeK v, 34, rfl, by decide⟩
theorem ztV {p : api_Param} (hp : okP p = true) : ∃ d z, zf0 p = d ++ [z] ∧ zan z = false := by
  unfold okP at hp
  rw [Bool.and_eq_true] at hp
  obtain ⟨d, z, h1, h2⟩ := zts hp.1
  exact ⟨p.Name ++ 61 :: d, z, by unfold zf0; rw [h1]; simp, h2⟩
theorem zsj : ∀ (l : List api_Param) {u : Str}, (∃ d z, u = d ++ [z] ∧ zan z = false) → l.all okP = true → ∃ d z, u ++ zeo l = d ++ [z] ∧ zan z = false
  | [], u, hu, _ => by simpa [zeo] using hu
  | p :: l, u, _, h => by
    rw [List.all_cons, Bool.and_eq_true] at h
    obtain ⟨d, z, h1, h2⟩ := ztV h.1
    have := zsj l (u := u ++ 59 :: zf0 p) ⟨u ++ 59 :: d, z, by rw [h1]; simp, h2⟩ h.2
    have e : u ++ zeo (p :: l) = (u ++ 59 :: zf0 p) ++ zeo l := by simp [zeo]
    rw [e]; exact this
theorem zsk {l : List api_Param} (hl : l ≠ []) (h : l.all okP = true) : (∀ cur, zcK 0 cur (zbB l) = some [cur ++ zbB l]) ∧ zeF (zbB l) = zbB l ∧ zbB l ≠ [] := by
  refine ⟨ztr h, ?_⟩
  cases l with
  | nil => exact absurd rfl hl
  | cons p l =>
    rw [List.all_cons, Bool.and_eq_true] at h
    obtain ⟨d, z, e, hz⟩ := zsj l (ztV h.1) h.2
    have hh := zp8 h.1 (zeo l)
    rw [zbB]
    have hlen : 2 ≤ (zf0 p).length := by
      have h1 := h.1
      unfold okP at h1
      rw [Bool.and_eq_true] at h1
      obtain ⟨_, h2⟩ := zlY h1.2
      unfold zf0
      cases hn : p.Name with
      | nil => exact absurd hn h2
      | cons a m => simp; omega
    have hd : d ≠ [] := by
      intro hd
      have := congrArg List.length e
      rw [hd] at this
      simp at this
      omega
    cases d with
    | nil => exact absurd rfl hd
    | cons a d =>
      rw [e] at hh ⊢
      have ha := hh a rfl
      exact ⟨zkX ha hz, by simp⟩

theorem zo6 : ∀ (a b : List Str) (out : List (List api_Param)), (zcm a out).2 = 0 → zcm (a ++ b) out = zcm b (zcm a out).1
  | [], b, out, _ => rfl
  | x :: a, b, out, h => by
    rw [zcm] at h
    rw [List.cons_append, zcm, zcm]
    split at h
    · rename_i hx
      rw [if_pos hx, if_pos hx]
      exact zo6 a b _ h
    · rename_i hx
      dsimp only at h
      rw [h] at hx
      exact absurd rfl hx
theorem zk1 : ∀ (a b : List Str) (out : List (List api_Param)), (zcC a out).2 = 0 → zcC (a ++ b) out = zcC b (zcC a out).1
  | [], b, out, _ => rfl
  | v :: a, b, out, h => by
    rw [zcC] at h
    rw [List.cons_append, zcC, zcC]
    split at h
    · rename_i hx
      rw [if_pos hx, if_pos hx]
      split at h
      · rename_i hy
        rw [if_pos hy, if_pos hy]
        exact zk1 a b _ h
      · rename_i hy; rw [h] at hy; exact absurd rfl hy
    · rename_i hx; dsimp only at h; rw [h] at hx; exact absurd rfl hx
theorem zo7 : ∀ (a b : List Str) (out : List (List api_Param)), (zcC (a ++ b) out).2 = 0 → (zcC a out).2 = 0
  | [], _, _, _ => rfl
  | v :: a, b, out, h => by
    rw [List.cons_append, zcC] at h
    rw [zcC]
    split at h
    · rename_i hx
      rw [if_pos hx]
      split at h
      · rename_i hy
        rw [if_pos hy]
        exact zo7 a b _ h
      · rename_i hy; rw [h] at hy; exact absurd rfl hy
    · rename_i hx; dsimp only at h; rw [h] at hx; exact absurd rfl hx
theorem zk2 {v : Str} {l : List Str} (out : List (List api_Param)) (h : zad v = some l) : zcC [v] out = zcm l out := by
  have hs : zdG v = (l, 0) := by unfold zdG; rw [h]
  rw [zcC, hs]
  dsimp only
  rw [beq_self_eq_true, if_pos rfl]
  cases hq : (zcm l out).2 == 0 with
  | false => rfl
  | true =>
    rw [if_pos rfl, zcC]
    have : (zcm l out).2 = 0 := by simpa using hq
    rw [← this]
theorem zra {v : Str} {out : List (List api_Param)} (h : (zcC [v] out).2 = 0) : ∃ l, zad v = some l := by
  cases hs : zad v with
  | some l => exact ⟨l, rfl⟩
  | none =>
    have hs : zdG v = ([], 2) := by unfold zdG; rw [hs]
    rw [zcC, hs] at h
    cases h
theorem zo8 {x : Str} {v : List api_Param} (hv : fP x = (v, 0)) (out : List (List api_Param)) : zcm [x] out = (out ++ [v], 0) := by
  rw [zcm, hv]; rfl
theorem zrb {l : List api_Field} {nm x : Str} {v : List api_Param} (hx : ∀ cur, zcK 0 cur x = some [cur ++ x]) (ht : zeF x = x) (hne : x ≠ []) (hv : fP x = (v, 0))
    (h : (zcC ((l.filter (isN nm)).map (·.Value)) []).2 = 0) : zcC (((zT l nm x).filter (isN nm)).map (·.Value)) [] = ((zcC ((l.filter (isN nm)).map (·.Value)) []).1 ++ [v], 0) := by
  rcases zeP l nm x with ⟨h1, h2⟩ | ⟨a, f, b, h1, h2, h3, h4⟩
  · have hb : isN nm ⟨nm, x⟩ = true := by unfold isN; simp
    rw [h2, List.filter_append, h1, List.nil_append, List.filter_cons, hb, if_pos rfl, List.filter_nil]
    have hsx : zad x = some [x] := by
      unfold zad
      rw [hx []]
      simp [elems, ht, hne]
    exact (zk2 [] hsx).trans (zo8 hv [])
  · have hb : isN nm ⟨f.Name, zcj f.Value x⟩ = true := h2
    have e1 : (l.filter (isN nm)).map (·.Value) = (a.filter (isN nm)).map (·.Value) ++ [f.Value] := by
      rw [h1, List.filter_append, List.filter_cons, h2, if_pos rfl, h3]; simp
    have e2 : ((zT l nm x).filter (isN nm)).map (·.Value) = (a.filter (isN nm)).map (·.Value) ++ [zcj f.Value x] := by
      rw [h4, List.filter_append, List.filter_cons, hb, if_pos rfl, h3]; simp
    rw [e1] at h
    rw [e1, e2]
    have p1 := zo7 _ _ _ h
    rw [zk1 _ _ _ p1] at h
    rw [zk1 _ _ _ p1, zk1 _ _ _ p1]
    generalize (zcC ((a.filter (isN nm)).map (·.Value)) []).1 = out at h
    obtain ⟨lv, q1⟩ := zra h
    rw [zk2 out q1] at h
    have hap := znD hx ht hne q1
    rw [zk2 out hap, zk2 out q1, zo6 _ _ _ h, zo8 hv]
theorem zw2 : isN ([70, 111, 114, 119, 97, 114, 100, 101, 100] : Str) = isN [102, 111, 114, 119, 97, 114, 100, 101, 100] := by
  funext f
  unfold isN
  have : low ([70, 111, 114, 119, 97, 114, 100, 101, 100] : Str) = low ([102, 111, 114, 119, 97, 114, 100, 101, 100] : Str) := by decide
  rw [this]
theorem zla (e : api_Env) (l : List api_Field) (h1 : e.Client.length < 1000) (hp : (zaC e).length < 1000 ∧ ∀ p ∈ zaC e, p.Name.length < 100000 ∧ p.Value.length < 100000) (ht : (zbB (zaC e)).length < 100000000) (hl : l.length < 900000000) (hs : zep 900000 l) :
    zcJ e l = some (if (zaC e).all okP then (zT l [70, 111, 114, 119, 97, 114, 100, 101, 100] (zbB (zaC e)), 0) else ([], 2)) := by
  have hne : (zaC e == []) = false := rfl
  unfold zcJ
  rw [zl0 e (by omega), Option.bind_some, zo4 _ hp.1 hp.2 ht, Option.bind_some, hne, Bool.not_false, Bool.and_true]
  cases (zaC e).all okP with
  | false => rfl
  | true =>
    have := zdP l [70, 111, 114, 119, 97, 114, 100, 101, 100] (zbB (zaC e))
    rw [if_pos rfl, if_pos rfl]
    dsimp only
    rw [show (!((0 : Int) == 0)) = false from rfl, if_neg Bool.false_ne_true]
    unfold zej zaW
    rw [zg8 l (by omega), Option.bind_some, Option.bind_some, ziG l _ _ (by decide) (by omega) (by omega) (zbC (by decide) hs), Option.bind_some, zg8 _ (by dsimp only; omega), Option.bind_some, Option.bind_some]
theorem zw3 {e : api_Env} (hok : (zaC e).all okP = true) (hn : (zaC e).length < 1000) (ht : (zbB (zaC e)).length < 500000) : fP (zbB (zaC e)) = (zaC e, 0) := by
  have hne : (zaC e == []) = false := rfl
  have hp := zrv (l := zaC e) (by intro h; rw [h] at hne; cases hne) hok hn (by omega)
  have hf : zcr (zbB (zaC e)) = some (zaC e, 0) := by
    unfold zcr
    rw [hp, Option.bind_some, beq_self_eq_true, Bool.not_true, if_neg Bool.false_ne_true]
    exact zve e
  rw [zh6 _ ht] at hf
  exact Option.some.inj hf
theorem zkF (l : List api_Param) (hl : l.length ≤ 3) (hv : ∀ p ∈ l, p.Name.length < 100 ∧ p.Value.length < 100) : (zbB l).length < 1000 := by
  have one : ∀ p ∈ l, (zf0 p).length < 304 := fun p hp => by
    have h1 := hv p hp
    have h2 := znq p.Value
    unfold zf0
    simp; omega
  match l, hl with
  | [], _ => simp [zbB]
  | [p], _ => have := one p (by simp); simp [zbB, zeo]; omega
  | [p, q], _ =>
    have := one p (by simp)
    have := one q (by simp)
    simp [zbB, zeo]; omega
  | [p, q, r], _ =>
    have := one p (by simp)
    have := one q (by simp)
    have := one r (by simp)
    simp [zbB, zeo]; omega
theorem zkG (e : api_Env) : (zaC e).length ≤ 3 := by
  unfold zaC
  cases e.Host == [] <;> cases e.Scheme == [] <;> simp

end Go.Dm
end
section
namespace Go.Dm
def verS (m : Int) : Str := [49, 46, if m == 0 then 48 else 49]
def zck (e : api_Env) (m : Int) : api_Via := ⟨[], verS m, e.By, []⟩
def zfX : Str := [86, 105, 97]
def zhD : Str := [70, 111, 114, 119, 97, 114, 100, 101, 100]
def zlt : Str := [88, 45, 70, 111, 114, 119, 97, 114, 100, 101, 100, 45, 70, 111, 114]
def zgD (e : api_Env) (m : Int) (k : Int) (l : List api_Field) : List api_Field :=
  if k == 1 then zT (zT (zT l zfX (zcv (zck e m))) zhD (zbB (zaC e))) zlt (zkm e.Client) else zT l zfX (zcv (zck e m))
def zqB (e : api_Env) (m : Int) (k : Int) : Int :=
  if (!(k == 1) && !(k == 2)) || (!(m == 0) && !(m == 1)) then 1 else if (zhB (zck e m)).2 == 0 then (if k == 1 then (if (zaC e).all okP then 0 else 2) else 0) else 2
def zmM (e : api_Env) (m : Int) (h : api_Head) : api_Head × Int :=
  if zqB e m h.Kind == 0 then (⟨h.Kind, h.Method, h.Target, h.Code, h.Reason, h.Minor, zgD e m h.Kind h.Fields⟩, 0) else (ztJ, zqB e m h.Kind)
structure SmallE (e : api_Env) : Prop where
  client : e.Client.length ≤ 60
  host : e.Host.length ≤ 60
  scheme : e.Scheme.length ≤ 60
  by_ : e.By.length ≤ 60
theorem few39 (x : api_Env) (hd : x.Domains.length < 1000000000) (hl : x.Locations.length < 1000000000) : ∃ e, zjf x = some e ∧ SmallE e := by
  obtain ⟨r, h0, h1, h2, h3, h4⟩ := few26B x
  unfold zjf
  rw [h0, Option.bind_some, zmy _ hd, Option.bind_some, zmy _ hl, Option.bind_some]
  exact ⟨_, rfl, h1, h2, h3, h4⟩
theorem znP {e : api_Env} (hs : SmallE e) (m : Int) : zrc (zck e m) ∧ (zcv (zck e m)).length ≤ 64 := by
  have := hs.by_
  refine ⟨⟨by simp [zck], by simp [zck, verS], by simp [zck]; omega, by simp [zck]⟩, ?_⟩
  unfold zcv zck verS
  simp; omega
theorem done_s (b : bag_Bag) (h : api_Head) (hb : b.f_l.length < 1000000000) : zat ⟨b, h⟩ = some (⟨h.Kind, h.Method, h.Target, h.Code, h.Reason, h.Minor, b.f_l⟩, 0) := by
  unfold zat zaW
  rw [zg8 _ hb, Option.bind_some, Option.bind_some]
theorem zpr (h : api_Head) (l : List api_Field) (hl : l.length < 1000000000) : zcE h l 0 = some (⟨h.Kind, h.Method, h.Target, h.Code, h.Reason, h.Minor, l⟩, 0) := by
  unfold zcE zej
  rw [show (!((0 : Int) == 0)) = false from rfl, if_neg Bool.false_ne_true, zg8 _ hl, Option.bind_some, Option.bind_some, done_s _ _ hl, Option.bind_some]
theorem znQ (h : api_Head) (l : List api_Field) (e : Int) (he : (e == 0) = false) : zcE h l e = some (ztJ, e) := by
  unfold zcE
  rw [he]; rfl
theorem zu4 {m : Int} (h : (!(m == 0) && !(m == 1)) = false) : m = 0 ∨ m = 1 := by
  cases h0 : m == 0
  · cases h1 : m == 1
    · rw [h0, h1] at h; cases h
    · exact .inr (by simpa using h1)
  · exact .inl (by simpa using h0)
theorem zp6 (e : api_Env) (m : Int) (h : api_Head) (hs : SmallE e) (hl : h.Fields.length ≤ 200) (hf : zep 401 h.Fields) : zeC e m h = some (zmM e m h) := by
  obtain ⟨v1, v2⟩ := znP hs m
  obtain ⟨b1, b2⟩ := zj6 hs.client hs.host hs.scheme
  have hts := zkF (zaC e) (zkG e) b2
  have hol := zr1 e.Client
  have hcl := hs.client
  have hj : zeC e m h = zb1 e m h ((!(h.Kind == 1) && !(h.Kind == 2)) || (!(m == 0) && !(m == 1))) := by
    unfold zeC
    cases h.Kind == 1 <;> cases h.Kind == 2 <;> cases m == 0 <;> cases m == 1 <;> rfl
  rw [hj]
  unfold zmM zqB
  cases hb : (!(h.Kind == 1) && !(h.Kind == 2)) || (!(m == 0) && !(m == 1)) with
  | true => rfl
  | false =>
    rw [Bool.or_eq_false_iff] at hb
    rw [if_neg Bool.false_ne_true]
    unfold zb1
    have hnt : zdb m = some [if m == 0 then 48 else 49] := by
      rcases zu4 hb.2 with rfl | rfl <;> decide +kernel
    rw [if_neg Bool.false_ne_true, hnt, Option.bind_some, zkU (by simp), Option.bind_some]
    show (zgO (zck e m) h.Fields).bind _ = _
    rw [zpU _ _ v1 (by omega) (zbC (by decide) hf), Option.bind_some]
    cases he : (zhB (zck e m)).2 == 0 with
    | false =>
      rw [if_neg Bool.false_ne_true, if_neg Bool.false_ne_true]
      dsimp only
      rw [show (((2 : Int) == 0)) = false from rfl, if_neg Bool.false_ne_true]
      unfold zeh
      rw [if_neg Bool.false_ne_true]
      exact znQ _ _ 2 rfl
    | true =>
      rw [if_pos rfl, if_pos rfl]
      dsimp only
      rw [show (((0 : Int) == 0)) = true from rfl, if_pos rfl]
      unfold zeh zgD
      have l1 := zdP h.Fields zfX (zcv (zck e m))
      have s1 := zf9 (nm := zfX) (x := zcv (zck e m)) hf (by decide)
      cases hk : h.Kind == 1 with
      | false =>
        rw [if_neg Bool.false_ne_true, if_neg Bool.false_ne_true]
        exact zpr h (zT h.Fields zfX (zcv (zck e m))) (by omega)
      | true =>
        rw [if_pos rfl, if_pos rfl]
        show (zcJ e (zT h.Fields zfX (zcv (zck e m)))).bind _ = _
        rw [zla e _ (by omega) ⟨by omega, fun p hp => by have := b2 p hp; omega⟩ (by omega) (by omega) (zbC (by omega) s1), Option.bind_some]
        cases hok : (zaC e).all okP with
        | false =>
          rw [if_neg Bool.false_ne_true, if_neg Bool.false_ne_true]
          dsimp only
          rw [zln _ _ (by omega) (by decide) (fun f hf => by cases hf), Option.bind_some]
          exact znQ _ _ 2 rfl
        | true =>
          rw [if_pos rfl, if_pos rfl]
          dsimp only
          have l2 := zdP (zT h.Fields zfX (zcv (zck e m))) zhD (zbB (zaC e))
          have s2 := zf9 (nm := zhD) (x := zbB (zaC e)) s1 (by simp [zhD]; omega)
          have l3 := zdP (zT (zT h.Fields zfX (zcv (zck e m))) zhD (zbB (zaC e))) zlt (zkm e.Client)
          show (zgP e.Client (zT (zT h.Fields zfX (zcv (zck e m))) zhD (zbB (zaC e)))).bind _ = _
          rw [zln _ _ (by omega) (by omega) (zbC (by omega) s2), Option.bind_some]
          exact zpr h (zT (zT (zT h.Fields zfX (zcv (zck e m))) zhD (zbB (zaC e))) zlt (zkm e.Client)) (by omega)
theorem zu5 (e : api_Env) (m k : Int) (l : List api_Field) : (zgD e m k l).length ≤ l.length + 3 := by
  unfold zgD
  have l1 := zdP l zfX (zcv (zck e m))
  split
  · have l2 := zdP (zT l zfX (zcv (zck e m))) zhD (zbB (zaC e))
    have l3 := zdP (zT (zT l zfX (zcv (zck e m))) zhD (zbB (zaC e))) zlt (zkm e.Client)
    omega
  · omega
theorem zps : ziy = some true := by decide +kernel
def zhl (h : api_Head) : api_Head := ⟨h.Kind, h.Method.take 400, h.Target.take 400, h.Code, h.Reason.take 400, h.Minor, zs2 h.Fields⟩
end Go.Dm
end
section
namespace Go.Dm
theorem zow {α : Type} {p q : α → Bool} (h : ∀ x, p x = true → q x = true) (l : List α) : l.filter p = (l.filter q).filter p := by
  rw [List.filter_filter]
  congr 1
  funext x
  cases hp : p x with
  | false => rfl
  | true => rw [h x hp]; rfl
theorem zqe {a b : Str} (h : (low a == low b) = false) (f : api_Field) (hf : isN a f = true) : (!isN b f) = true := by
  unfold isN at hf ⊢
  have e : low f.Name = low a := by simpa using hf
  rw [e, h]; rfl
theorem zeM {a b : Str} (h : (low a == low b) = false) (l : List api_Field) (x : Str) : (zT l b x).filter (isN a) = l.filter (isN a) := by
  rw [zow (zqe h) (zT l b x), zpQ, ← zow (zqe h) l]
theorem zs4 {e : api_Env} {m k : Int} (h : (zqB e m k == 0) = true) : ((zhB (zck e m)).2 == 0) = true ∧ ((k == 1) = true → (zaC e).all okP = true) ∧ ((k == 1) = false → (k == 2) = true) := by
  unfold zqB at h
  cases hb : (!(k == 1) && !(k == 2)) || (!(m == 0) && !(m == 1)) with
  | true => rw [hb, if_pos rfl] at h; cases h
  | false =>
    rw [hb, if_neg Bool.false_ne_true] at h
    rw [Bool.or_eq_false_iff] at hb
    cases ht : (zhB (zck e m)).2 == 0 with
    | false => rw [ht, if_neg Bool.false_ne_true] at h; cases h
    | true =>
      rw [ht, if_pos rfl] at h
      refine ⟨rfl, fun hk => ?_, fun hk => ?_⟩
      · rw [hk, if_pos rfl] at h
        cases ha : (zaC e).all okP with
        | false => rw [ha, if_neg Bool.false_ne_true] at h; cases h
        | true => rfl
      · have := hb.1
        rw [hk] at this
        simpa using this
def zhm : Str := [102, 111, 114, 119, 97, 114, 100, 101, 100]
def zhn : Str := [120, 45, 102, 111, 114, 119, 97, 114, 100, 101, 100, 45, 102, 111, 114]
def zho : Str := [118, 105, 97]
theorem zgG {k : List api_Field} {B : Nat} (h1 : k.length ≤ 200) (h2 : zep B k) (nm : Str) : ((k.filter (isN nm)).map (·.Value)).length ≤ 200 ∧ ∀ v ∈ (k.filter (isN nm)).map (·.Value), v.length < B := by
  refine ⟨?_, fun v hv => ?_⟩
  · rw [List.length_map]
    have := List.length_filter_le (isN nm) k
    omega
  · obtain ⟨f, hf, rfl⟩ := List.mem_map.1 hv
    exact (h2 f (List.mem_filter.1 hf).1).2
theorem zns {e : api_Env} (hs : SmallE e) (m k : Int) {l : List api_Field} (hl : l.length ≤ 120) (hf : zep 401 l) : (zgD e m k l).length ≤ 200 ∧ zep 2000 (zgD e m k l) := by
  obtain ⟨v1, v2⟩ := znP hs m
  obtain ⟨b1, b2⟩ := zj6 hs.client hs.host hs.scheme
  have hts := zkF (zaC e) (zkG e) b2
  have hol := zr1 e.Client
  have hcl := hs.client
  have hlen := zu5 e m k l
  refine ⟨by omega, ?_⟩
  have s1 := zf9 (nm := zfX) (x := zcv (zck e m)) hf (by decide)
  have s2 := zf9 (nm := zhD) (x := zbB (zaC e)) s1 (by simp [zhD]; omega)
  have s3 := zf9 (nm := zlt) (x := zkm e.Client) s2 (by simp [zlt]; omega)
  unfold zgD
  split
  · exact zbC (by omega) s3
  · exact zbC (by omega) s1
theorem zvs {e : api_Env} {m k : Int} {l : List api_Field} (ht : ((zhB (zck e m)).2 == 0) = true) (h : (zbJ ((l.filter (isN zho)).map (·.Value))).2 = 0) :
    zbJ (((zgD e m k l).filter (isN zho)).map (·.Value)) = ((zbJ ((l.filter (isN zho)).map (·.Value))).1 ++ [zck e m], 0) := by
  obtain ⟨_, e2⟩ := zso ht
  have hlow : isN zfX = isN zho := zwY
  have hb := zq3 (l := l) (nm := zfX) e2
  rw [hlow] at hb
  rw [← hb h]
  unfold zgD
  split
  · rw [zeM (a := zho) (b := zlt) (by decide), zeM (a := zho) (b := zhD) (by decide)]
  · rfl
theorem zvt {e : api_Env} (hs : SmallE e) {m k : Int} {l : List api_Field} (hk : (k == 1) = true) (hok : (zaC e).all okP = true) (h : (zcC ((l.filter (isN zhm)).map (·.Value)) []).2 = 0) :
    zcC (((zgD e m k l).filter (isN zhm)).map (·.Value)) [] = ((zcC ((l.filter (isN zhm)).map (·.Value)) []).1 ++ [zaC e], 0) := by
  obtain ⟨b1, b2⟩ := zj6 hs.client hs.host hs.scheme
  have hts := zkF (zaC e) (zkG e) b2
  have hne : (zaC e == []) = false := rfl
  obtain ⟨t1, t2, t3⟩ := zsk (l := zaC e) (by intro h; rw [h] at hne; cases hne) hok
  have hfp := zw3 hok (by omega) (by omega)
  have hlow : isN zhD = isN zhm := zw2
  have hb := zrb (l := zT l zfX (zcv (zck e m))) (nm := zhD) t1 t2 t3 hfp
  rw [hlow] at hb
  rw [zeM (a := zhm) (b := zfX) (by decide)] at hb
  unfold zgD
  rw [if_pos hk, zeM (a := zhm) (b := zlt) (by decide)]
  exact hb h
theorem zvu {e : api_Env} {m k : Int} {l : List api_Field} (hk : (k == 1) = true) (h : (zaE ((l.filter (isN zhn)).map (·.Value))).2 = 0) :
    zaE (((zgD e m k l).filter (isN zhn)).map (·.Value)) = ((zaE ((l.filter (isN zhn)).map (·.Value))).1 ++ [zkm e.Client], 0) := by
  obtain ⟨p1, p2, p3⟩ := ztc e.Client
  have hlow : isN zlt = isN zhn := zwW
  have hb := zr0 (l := zT (zT l zfX (zcv (zck e m))) zhD (zbB (zaC e))) (nm := zlt) p1 p2 p3 (zwV e.Client)
  rw [hlow] at hb
  rw [zeM (a := zhn) (b := zhD) (by decide), zeM (a := zhn) (b := zfX) (by decide)] at hb
  unfold zgD
  rw [if_pos hk]
  exact hb h
theorem zwH {e : api_Env} (hs : SmallE e) (m : Int) (h : api_Head) (hl : h.Fields.length ≤ 120) (hf : zep 401 h.Fields) (hk : (h.Kind == 2) = false → (h.Kind == 1) = true) (hok : (h.Kind == 1) = true → (zaC e).all okP = true) (g : api_Head) (hg : g.Fields = zgD e m h.Kind h.Fields) (c : Int) :
    zG h (g, c) false = some true := by
  unfold zG
  rw [if_neg Bool.false_ne_true]
  cases h2 : h.Kind == 2 with
  | true => rfl
  | false =>
    have h1 := hk h2
    have ha := hok h1
    rw [if_neg Bool.false_ne_true]
    obtain ⟨sl, sf⟩ := zns hs m h.Kind hl hf
    have f1 : ∀ nm : Str, nm.length < 1000000000 → zV h.Fields nm = some ((h.Fields.filter (isN nm)).map (·.Value)) := fun nm hn => zfj _ _ hn (by omega) (zbC (by decide) hf)
    have f2 : ∀ nm : Str, nm.length < 1000000000 → zV g.Fields nm = some (((zgD e m h.Kind h.Fields).filter (isN nm)).map (·.Value)) := fun nm hn => by rw [hg]; exact zfj _ _ hn (by omega) (zbC (by decide) sf)
    have v1 := zgG (k := h.Fields) (B := 401) (by omega) hf zhm
    have v2 := zgG sl sf zhm
    have v3 := zgG (k := h.Fields) (B := 401) (by omega) hf zhn
    have v4 := zgG sl sf zhn
    show ((zV h.Fields zhm).bind _) = _
    rw [f1 _ (by decide), Option.bind_some, ziq _ (by omega) (fun v hv => by have := v1.2 v hv; omega), Option.bind_some]
    show ((zV g.Fields zhm).bind _) = _
    rw [f2 _ (by decide), Option.bind_some, ziq _ (by omega) (fun v hv => by have := v2.2 v hv; omega), Option.bind_some]
    show ((zV h.Fields zhn).bind _) = _
    rw [f1 _ (by decide), Option.bind_some, znB _ (by omega) (fun v hv => by have := v3.2 v hv; omega), Option.bind_some]
    show ((zV g.Fields zhn).bind _) = _
    rw [f2 _ (by decide), Option.bind_some, znB _ (by omega) (fun v hv => by have := v4.2 v hv; omega), Option.bind_some]
    have w1 := zqu _ [] (fun v hv => by have := v1.2 v hv; omega)
    have w3 := zud _ (fun v hv => by have := v3.2 v hv; omega)
    have o1 := zvt (k := h.Kind) (m := m) (l := h.Fields) hs h1 ha
    have o2 := zvu (e := e) (k := h.Kind) (m := m) (l := h.Fields) h1
    rw [List.length_nil, Nat.zero_add] at w1
    have n1 := v1.1
    have n3 := v3.1
    generalize zcC ((h.Fields.filter (isN zhm)).map (·.Value)) [] = a at o1 w1
    generalize zaE ((h.Fields.filter (isN zhn)).map (·.Value)) = b at o2 w3
    generalize zcC (((zgD e m h.Kind h.Fields).filter (isN zhm)).map (·.Value)) [] = a' at o1
    generalize zaE (((zgD e m h.Kind h.Fields).filter (isN zhn)).map (·.Value)) = b' at o2
    have ha1 : a.1.length < 4611686018427387904 := by omega
    have hb1 : b.1.length < 4611686018427387904 := by omega
    have kf : (b.2 == 0) = true → (if (b'.2 == 0) = true then ((zaa (b.1.length : Int) 1).bind fun i => zO ((b'.1.length : Int) == i)) else zO false) = some true := by
      intro hb
      rw [o2 (by simpa using hb), zP hb1]
      dsimp only
      rw [if_pos (show ((0 : Int) == 0) = true from rfl), Option.bind_some, List.length_append]
      unfold zO
      simp
    cases hb : b.2 == 0 with
    | true =>
      have kf := kf hb
      rw [Bool.not_true]
      cases hq : a.2 == 0 with
      | false =>
        rw [Bool.not_false, if_pos rfl, if_neg Bool.false_ne_true]
        exact kf
      | true =>
        rw [Bool.not_true, if_neg Bool.false_ne_true, o1 (by simpa using hq), zP ha1]
        dsimp only
        rw [if_pos (show ((0 : Int) == 0) = true from rfl), Option.bind_some, if_pos (by rw [List.length_append]; simp), if_neg Bool.false_ne_true]
        exact kf
    | false =>
      rw [Bool.not_false]
      cases hq : a.2 == 0 with
      | false => rfl
      | true =>
        rw [Bool.not_true, if_neg Bool.false_ne_true, o1 (by simpa using hq), zP ha1]
        dsimp only
        rw [if_pos (show ((0 : Int) == 0) = true from rfl), Option.bind_some, if_pos (by rw [List.length_append]; simp), if_pos rfl]
        rfl
theorem zox (env : api_Env) (minor : Int) (h : api_Head) (hd : env.Domains.length < 1000000000) (hlo : env.Locations.length < 1000000000) (_ : inI minor = true) (_ : inI h.Kind = true) (_ : inI h.Code = true) (_ : inI h.Minor = true) (hf : h.Fields.length < 1000000000) : zfz env minor h = some true := by
  obtain ⟨e, he, hs⟩ := few39 env hd hlo
  have hl := zvq h.Fields
  have hsm := zs3 h.Fields
  unfold zfz
  rw [zps, Option.bind_some, Bool.not_true, if_neg Bool.false_ne_true, he, Option.bind_some, zqJ _ hf, Option.bind_some]
  show (zeC e minor (zhl h)).bind _ = _
  rw [zp6 e minor (zhl h) hs (by show (zs2 h.Fields).length ≤ 200; omega) hsm, Option.bind_some]
  show (if _ then _ else ((zV (zhl h).Fields zho).bind fun r28 => (zhj r28).bind fun r31 => (zV (zmM e minor (zhl h)).1.Fields zho).bind fun r35 => (zhj r35).bind fun r38 =>
    if (r31.2 == 0) then (if (!(r38.2 == 0)) then (zG (zhl h) (zmM e minor (zhl h)) true) else ((zaa (r31.1.length : Int) 1).bind fun i44 =>
    if (!((r38.1.length : Int) == i44)) then (zG (zhl h) (zmM e minor (zhl h)) true) else ((lTo r38.1 (r31.1.length : Int)).bind fun l46 =>
    (zgT l46 r31.1).bind fun r49 =>
    if (!r49) then (zG (zhl h) (zmM e minor (zhl h)) true) else ((lAt r38.1 (r31.1.length : Int)).bind fun x51 =>
    zG (zhl h) (zmM e minor (zhl h)) (!(x51.By == e.By)))))) else (zG (zhl h) (zmM e minor (zhl h)) false))) = _
  have hfl : (zhl h).Fields.length ≤ 120 := hl
  have hfs : zep 401 (zhl h).Fields := hsm
  generalize zhl h = g at hfl hfs
  unfold zmM
  cases hz : zqB e minor g.Kind == 0 with
  | false =>
    rw [if_neg Bool.false_ne_true]
    dsimp only
    rw [hz, Bool.not_false, if_pos rfl]
    show (zgS ztJ ztJ).bind _ = _
    rw [zpW _ _ (by decide), Option.bind_some, ztq]
  | true =>
    obtain ⟨z1, z2, z3⟩ := zs4 hz
    rw [if_pos rfl]
    dsimp only
    rw [show (!((0 : Int) == 0)) = false from rfl, if_neg Bool.false_ne_true]
    obtain ⟨sl, sf⟩ := zns hs minor g.Kind hfl hfs
    have v1 := zgG (k := g.Fields) (B := 401) (by omega) hfs zho
    have v2 := zgG sl sf zho
    have j1 := zwH hs minor g hfl hfs (fun h2 => by
      cases h1 : g.Kind == 1 with
      | true => rfl
      | false => rw [z3 h1] at h2; cases h2) z2 ⟨g.Kind, g.Method, g.Target, g.Code, g.Reason, g.Minor, zgD e minor g.Kind g.Fields⟩ rfl 0
    rw [zfj _ _ (by decide) (by omega) (zbC (by decide) hfs), Option.bind_some, zmt _ (by omega) (fun v hv => by have := v1.2 v hv; omega), Option.bind_some, zfj _ _ (by decide) (by omega) (zbC (by decide) sf), Option.bind_some, zmt _ (by omega) (fun v hv => by have := v2.2 v hv; omega), Option.bind_some]
    have w1 := zuU _ 401 v1.2
    have n1 := v1.1
    have o1 := zvs (k := g.Kind) (l := g.Fields) z1
    cases hq : (zbJ ((g.Fields.filter (isN zho)).map (·.Value))).2 == 0 with
    | false => rw [if_neg Bool.false_ne_true]; exact j1
    | true =>
      rw [o1 (by simpa using hq), if_pos rfl]
      generalize (zbJ ((g.Fields.filter (isN zho)).map (·.Value))).1 = a at w1
      dsimp only
      have ha : a.length < 1000000000 := by omega
      rw [show (!((0 : Int) == 0)) = false from rfl, if_neg Bool.false_ne_true, zP (by omega), Option.bind_some, if_neg (by rw [List.length_append]; simp)]
      have hto : lTo (a ++ [zck e minor]) (a.length : Int) = some a := by simp [lTo]; omega
      have hat : lAt (a ++ [zck e minor]) (a.length : Int) = some (zck e minor) := by rw [zbl]; simp
      rw [hto, Option.bind_some, zpY _ _ ha, Option.bind_some, beq_self_eq_true, Bool.not_true, if_neg Bool.false_ne_true, hat, Option.bind_some]
      have hby : (!((zck e minor).By == e.By)) = false := by show (!(e.By == e.By)) = false; rw [beq_self_eq_true]; rfl
      rw [hby]
      exact j1
end Go.Dm
end
