/-
  Via: elements read and written.
  Via: the document's elements; texts; lists; one element more.
  Via: one element more, behind a head's list.
-/
import Derived.Test.YtbebpdfhbpedjaaGreatDoorT27
section
namespace Go.Dm
def zeH : Nat → Str → Bool
  | d, [] => d == 0
  | d, c :: r => if c == 92 then (match r with | [] => false | _ :: t => zeH d t) else if c == 40 then zeH (d + 1) r else if c == 41 then (match d with | 0 => false | d + 1 => zeH d r) else zeH d r
theorem zk0 (d : Nat) : zeH d [] = (d == 0) := rfl
theorem zjy (d : Nat) : zeH d [92] = false := by rw [zeH.eq_def]; rfl
theorem zk1 (d : Nat) (c : UInt8) (t : Str) : zeH d (92 :: c :: t) = zeH d t := by rw [zeH.eq_def]; rfl
theorem zjz (d : Nat) (r : Str) : zeH d (40 :: r) = zeH (d + 1) r := by rw [zeH.eq_def]; rfl
theorem zhp (r : Str) : zeH 0 (41 :: r) = false := by rw [zeH.eq_def]; rfl
theorem ziw (d : Nat) (r : Str) : zeH (d + 1) (41 :: r) = zeH d r := by rw [zeH.eq_def]; rfl
theorem zk2 (d : Nat) {c : UInt8} (r : Str) (h1 : (c == 40) = false) (h2 : (c == 41) = false) (h3 : (c == 92) = false) : zeH d (c :: r) = zeH d r := by
  rw [zeH.eq_def]; simp only [h1, h2, h3, Bool.false_eq_true, if_false]
def zjZ (s : Str) : Bool := zeH 0 s && s.all zhB
theorem zhq (s : Str) (hs : s.length < 900000000) : ∀ (n i d : Nat), i ≤ s.length → s.length - i < n → d ≤ i → zJ s n (d : Int) (i : Int) = some (zeH d (s.drop i) && s.all zhB)
  | 0, _, _, _, h, _ => by omega
  | n + 1, i, d, hi, h, hd => by
    rw [zJ]
    cases hdr : s.drop i with
    | nil =>
      have : i = s.length := by have := congrArg List.length hdr; simp at this; omega
      subst this
      unfold zcS
      rw [decide_eq_false (by omega), if_neg (by decide), zdS zgw s (by omega), Option.bind_some, zk0]
      have : ((d : Int) == 0) = (d == 0) := by rw [Bool.eq_iff_iff]; simp
      rw [this]
      cases d == 0 <;> rfl
    | cons c r =>
      obtain ⟨hlt, hr⟩ := zet hdr
      have hx : s[i]? = some c := by have := congrArg (·[0]?) hdr; simpa using this
      have ih := fun i' d' h1 h2 h3 => zhq s hs n i' d' h1 h2 h3
      have j2 : ∀ d' i' : Nat, i' < s.length → zag (zJ s n) s (d' : Int) (i' : Int) = zJ s n (d' : Int) ((i' + 1 : Nat) : Int) := fun d' i' h' => by
        unfold zag zbu
        rw [decide_eq_false (show ¬ (d' : Int) < 0 by omega), if_neg (by decide), decide_eq_false (show ¬ (s.length : Int) ≤ (i' : Int) by omega), if_neg (by decide), zk (by omega), Option.bind_some]
      rw [decide_eq_true (show (i : Int) < (s.length : Int) by omega), if_pos rfl, zac, hx, Option.bind_some, zk (by omega), Option.bind_some]
      cases c40 : c == 40 with
      | true =>
        have : c = 40 := by simpa using c40
        subst this
        have := j2 (d + 1) i hlt
        rw [if_pos rfl, this, ih (i + 1) (d + 1) (by omega) (by omega) (by omega), hr, zjz]
      | false =>
        rw [if_neg (by decide)]
        cases c41 : c == 41 with
        | true =>
          have : c = 41 := by simpa using c41
          subst this
          rw [if_pos rfl, zbm (by omega) (by omega), Option.bind_some]
          cases d with
          | zero =>
            unfold zag zbu
            rw [zhp]
            rfl
          | succ d =>
            have e : ((d + 1 : Nat) : Int) - 1 = (d : Int) := by omega
            rw [e, j2 d i hlt, ih (i + 1) d (by omega) (by omega) (by omega), hr, ziw]
        | false =>
          rw [if_neg (by decide)]
          cases c92 : c == 92 with
          | true =>
            have : c = 92 := by simpa using c92
            subst this
            rw [if_pos rfl, zk (by omega), Option.bind_some]
            cases r with
            | nil =>
              have hl : s.length = i + 1 := by have := congrArg List.length hr; simp at this; omega
              unfold zag zbu
              rw [decide_eq_false (show ¬ (d : Int) < 0 by omega), if_neg (by decide), decide_eq_true (show (s.length : Int) ≤ ((i + 1 : Nat) : Int) by omega), if_pos rfl, zjy]
              rfl
            | cons x t =>
              obtain ⟨hlt2, hr2⟩ := zet hr
              rw [j2 d (i + 1) hlt2, ih (i + 1 + 1) d (by omega) (by omega) (by omega), hr2, zk1]
          | false => rw [if_neg (by decide), j2 d i hlt, ih (i + 1) d (by omega) (by omega) (by omega), hr, zk2 d r c40 c41 c92]
theorem zkj (s : Str) (hs : s.length < 900000000) : zey s = some (zjZ s) := by
  unfold zey zjZ
  have := zhq s hs fuel 0 0 (Nat.zero_le _) (by unfold fuel; omega) (Nat.le_refl _)
  rw [List.drop_zero] at this
  exact this
theorem zh9 (s : Str) (hs : s.length < 900000000) : ∀ (n i d : Nat), i ≤ s.length → s.length - i < n → d ≤ i → zq s n (d : Int) (i : Int) = some (zeH d (s.drop i) && (s.drop i).all zhB)
  | 0, _, _, _, h, _ => by omega
  | n + 1, i, d, hi, h, hd => by
    rw [zq]
    cases hdr : s.drop i with
    | nil =>
      have : i = s.length := by have := congrArg List.length hdr; simp at this; omega
      subst this
      rw [decide_eq_false (by omega), if_neg (by decide), zk0]
      have : ((d : Int) == 0) = (d == 0) := by rw [Bool.eq_iff_iff]; simp
      rw [this, List.all_nil, Bool.and_true]
    | cons c r =>
      obtain ⟨hlt, hr⟩ := zet hdr
      have hx : s[i]? = some c := by have := congrArg (·[0]?) hdr; simpa using this
      have ih := fun i' d' h1 h2 h3 => zh9 s hs n i' d' h1 h2 h3
      have j5 : ∀ d' i' : Nat, i' < s.length → zbR (zq s n) (d' : Int) (i' : Int) = zq s n (d' : Int) ((i' + 1 : Nat) : Int) := fun d' i' h' => by
        unfold zbR
        rw [zk (by omega), Option.bind_some]
      have j4 : ∀ d' : Nat, za8 (zq s n) (i : Int) (d' : Int) = zq s n (d' : Int) ((i + 1 : Nat) : Int) := fun d' => by
        unfold za8
        rw [decide_eq_false (show ¬ (d' : Int) < 0 by omega), if_neg (by decide), j5 d' i hlt]
      rw [decide_eq_true (show (i : Int) < (s.length : Int) by omega), if_pos rfl, zac, hx, Option.bind_some, zhC, Option.bind_some, Option.bind_some, zk (by omega), Option.bind_some, Option.bind_some, zk (by omega), Option.bind_some, List.all_cons]
      cases hv : zhB c with
      | false => rw [Bool.false_and, Bool.and_false]; rfl
      | true =>
        rw [Bool.not_true, if_neg (by decide), Bool.true_and]
        cases c92 : c == 92 with
        | true =>
          have : c = 92 := by simpa using c92
          subst this
          rw [if_pos rfl]
          unfold zcx
          cases r with
          | nil =>
            have hl : s.length = i + 1 := by have := congrArg List.length hr; simp at this; omega
            have : (((i + 1 : Nat) : Int) == (s.length : Int)) = true := by rw [hl]; simp
            rw [this, if_pos rfl, if_pos rfl, zjy]
            rfl
          | cons x t =>
            obtain ⟨hlt2, hr2⟩ := zet hr
            have hx2 : s[i + 1]? = some x := by have := congrArg (·[0]?) hr; simpa using this
            have : (((i + 1 : Nat) : Int) == (s.length : Int)) = false := beq_eq_false_iff_ne.2 (by omega)
            rw [this, if_neg (by decide), zac, hx2, Option.bind_some, zhC, Option.bind_some, j5 d (i + 1) hlt2, ih (i + 1 + 1) d (by omega) (by omega) (by omega), hr2, zk1, List.all_cons]
            cases zhB x with
            | false => rw [Bool.false_and, Bool.and_false]; rfl
            | true => rw [Bool.true_and]; rfl
        | false =>
          rw [if_neg (by decide)]
          unfold zcy
          rw [zac, hx, Option.bind_some, Option.bind_some, zbm (by omega) (by omega), Option.bind_some, zbm (by omega) (by omega), Option.bind_some]
          cases c40 : c == 40 with
          | true =>
            have : c = 40 := by simpa using c40
            subst this
            have hj := j4 (d + 1)
            rw [if_pos rfl, if_neg (by decide), hj, ih (i + 1) (d + 1) (by omega) (by omega) (by omega), hr, zjz]
          | false =>
            rw [if_neg (by decide)]
            cases c41 : c == 41 with
            | true =>
              have : c = 41 := by simpa using c41
              subst this
              rw [if_pos rfl]
              cases d with
              | zero =>
                unfold za8
                rw [zhp]
                rfl
              | succ d =>
                have e : ((d + 1 : Nat) : Int) - 1 = (d : Int) := by omega
                rw [e, j4 d, ih (i + 1) d (by omega) (by omega) (by omega), hr, ziw]
            | false => rw [if_neg (by decide), j4 d, ih (i + 1) d (by omega) (by omega) (by omega), hr, zk2 d r c40 c41 c92]
theorem zjA (s : Str) (hs : s.length < 900000000) : zdX s = some (zjZ s) := by
  unfold zdX zjZ
  have := zh9 s hs fuel 0 0 (Nat.zero_le _) (by unfold fuel; omega) (Nat.le_refl _)
  rw [List.drop_zero] at this
  exact this
def zk3 (w : Str) : Option (Str × Str) := match zf 47 w with
  | [v] => if zbT v then some ([], v) else none
  | [p, v] => if zbT p && zbT v then some (p, v) else none
  | _ => none
def znF (b : Str) : Bool := zbT b || ((zic b).2 == 0 && !(b.any ([44, 40, 41] : Str).contains))
def zeL (s : Str) : Str × Bool := if ([41] : Str).isSuffixOf s then (s.take (s.length - 1), true) else (s, false)
def zkk (r : Str) : Option Str := if r == [] then some [] else if ([32, 40] : Str).isPrefixOf r && (zeL (r.drop 2)).2 && !((zeL (r.drop 2)).1 == []) && zjZ (zeL (r.drop 2)).1 then some (zeL (r.drop 2)).1 else none
def ze6 : api_Via := ⟨[], [], [], []⟩
def zdB (s : Str) : api_Via × Int := match zk3 (zbI 32 s).1 with
  | none => (ze6, 2)
  | some pv => if (zbI 32 s).2.2 && znF (upto [32] (zbI 32 s).2.1) then (match zkk (zb6 [32] (zbI 32 s).2.1) with
    | none => (ze6, 2)
    | some c => (⟨pv.1, pv.2, upto [32] (zbI 32 s).2.1, c⟩, 0)) else (ze6, 2)
def zW (s : Str) : Str × Str × Bool × Str :=
  if !(s.takeWhile zav == []) && zeN 47 (s.dropWhile zav) then (s.takeWhile zav, (zaE 47 (s.dropWhile zav)).takeWhile zav, !((zaE 47 (s.dropWhile zav)).takeWhile zav == []), (zaE 47 (s.dropWhile zav)).dropWhile zav)
  else ([], s.takeWhile zav, !(s.takeWhile zav == []), s.dropWhile zav)
section
variable {s r : Str} {k : Nat}
theorem zqC (hs : s.length < 1000000000) (h : At s k r) : ∃ k', At s k' (zW r).2.2.2 ∧ zaS ⟨scn s k⟩ ze6 = some ((zW r).2.2.1, scn s k', ⟨(zW r).1, (zW r).2.1, [], []⟩) := by
  unfold zaS zW
  obtain ⟨k1, h1, e1⟩ := zop hs h
  obtain ⟨k2, h2, e2⟩ := zf8 hs 47 h1
  obtain ⟨k3, h3, e3⟩ := zop hs h2
  dsimp only
  rw [e1, Option.bind_some]
  dsimp only
  rw [e2, Option.bind_some]
  unfold zaM zaL
  cases ht : r.takeWhile zav == [] with
  | true => exact ⟨k1, h1, rfl⟩
  | false =>
    rw [Bool.not_false, if_pos rfl, Bool.true_and]
    cases hb : zeN 47 (r.dropWhile zav) with
    | false =>
      rw [zgY hb] at h2
      exact ⟨k2, h2, rfl⟩
    | true =>
      refine ⟨k3, h3, ?_⟩
      rw [if_pos rfl]
      dsimp only [scn] at e3 ⊢
      rw [e3, Option.bind_some]
      rfl
theorem ziT (u : Str) (hs : u.length < 1000000000) : strings_CutSuffix u [41] = some (zeL u) := by
  unfold strings_CutSuffix stringslite_CutSuffix
  rw [znw u [41] hs (by decide), Option.bind_some]
  unfold zeL
  cases hp : ([41] : Str).isSuffixOf u with
  | false => rfl
  | true =>
    have hl := (List.isSuffixOf_iff_suffix.1 hp).length_le
    simp only [List.length_singleton] at hl
    have e : zci (u.length : Int) (([41] : Str).length : Int) = some ((u.length - 1 : Nat) : Int) := by
      rw [zbm (by simp; omega) (by simp; omega)]; congr 1; simp; omega
    rw [Bool.not_true, if_neg (by decide), e, Option.bind_some, zf5 (by omega)]
    rfl
theorem zpI (u : Str) : (zeL u).1.length ≤ u.length := by unfold zeL; split <;> simp
theorem zk4 (hs : s.length < 800000000) (h : At s k r) (p v b : Str) : ∃ w, za7 ⟨scn s k⟩ ⟨p, v, b, []⟩ = some ((zkk r).isSome, scn s k, w) ∧ ∀ c, zkk r = some c → w = ⟨p, v, b, c⟩ := by
  unfold za7 zkk
  have hl := h.le_len
  dsimp only
  rw [zrr h, Option.bind_some]
  cases hr : r == [] with
  | true => exact ⟨_, rfl, fun c hc => by cases hc; rfl⟩
  | false =>
    rw [if_neg (by decide), if_neg (by decide), zsc h, Option.bind_some, zhK r [32, 40] (by omega), Option.bind_some]
    unfold z8
    cases hp : ([32, 40] : Str).isPrefixOf r with
    | false =>
      rw [if_neg (by decide)]
      dsimp only
      rw [ziT r (by omega), Option.bind_some]
      exact ⟨_, rfl, fun c hc => by cases hc⟩
    | true =>
      rw [if_pos rfl]
      have hcl := zpI (r.drop 2)
      have hdl : (r.drop 2).length ≤ r.length := by simp
      show ∃ w, ((strings_CutSuffix (r.drop 2) [41]).bind _) = _ ∧ _
      rw [ziT _ (by omega), Option.bind_some, zkj _ (by omega), Option.bind_some]
      cases (zeL (r.drop 2)).2 with
      | false => exact ⟨_, rfl, fun c hc => by cases hc⟩
      | true =>
        cases hn : (zeL (r.drop 2)).1 == [] with
        | true => exact ⟨_, rfl, fun c hc => by simp at hc⟩
        | false =>
          cases hc : zjZ (zeL (r.drop 2)).1 with
          | false => exact ⟨_, rfl, fun c hc => by simp at hc⟩
          | true => exact ⟨_, rfl, fun c hc => by simp at hc; rw [← hc]⟩
end
def viaQ (s : Str) : api_Via × Int :=
  if (zW s).2.2.1 && zeN 32 (zW s).2.2.2 && znF ((zaE 32 (zW s).2.2.2).takeWhile (fun b => !(b == 32))) then (match zkk ((zaE 32 (zW s).2.2.2).dropWhile (fun b => !(b == 32))) with
    | none => (ze6, 2)
    | some c => (⟨(zW s).1, (zW s).2.1, (zaE 32 (zW s).2.2.2).takeWhile (fun b => !(b == 32)), c⟩, 0)) else (ze6, 2)
theorem zl1 (s : Str) (hs : s.length < 300000000) : zeW s = some (viaQ s) := by
  unfold zeW viaQ
  have hs' : s.length < 1000000000 := by omega
  rw [zkc, Option.bind_some]
  obtain ⟨k1, h1, e1⟩ := zqC hs' (At.zero s)
  obtain ⟨k2, h2, e2⟩ := zf8 hs' 32 h1
  obtain ⟨k3, h3, e3⟩ := zoo (f := zcR) (p := fun b => !(b == 32)) (fun b => rfl) hs' h2
  obtain ⟨w, e4, h4⟩ := zk4 (by omega) h3 (zW s).1 (zW s).2.1 ((zaE 32 (zW s).2.2.2).takeWhile (fun b => !(b == 32)))
  have hl2 := h2.le_len
  have htl := zjh (fun b => !(b == 32)) (zaE 32 (zW s).2.2.2)
  show (zaS ⟨scn s 0⟩ ze6).bind _ = _
  rw [e1, Option.bind_some]
  unfold zcM
  dsimp only
  rw [e2, Option.bind_some]
  cases (zW s).2.2.1 with
  | false => rfl
  | true =>
    rw [Bool.not_true, if_neg (by decide), Bool.true_and]
    cases zeN 32 (zW s).2.2.2 with
    | false => rfl
    | true =>
      rw [Bool.true_and]
      dsimp only
      rw [Bool.not_true, if_neg (by decide)]
      unfold ze3
      dsimp only
      rw [e3, Option.bind_some]
      dsimp only
      rw [ziV _ (by omega), Option.bind_some, zlq _ (by omega), Option.bind_some, zg1 _ [44, 40, 41] (by omega) (by decide) (by decide), Option.bind_some]
      unfold zbQ znF
      generalize hb : (zaE 32 (zW s).2.2.2).takeWhile (fun b => !(b == 32)) = b at e4 h4
      have fin : ((za7 ⟨scn s k3⟩ ⟨(zW s).1, (zW s).2.1, b, []⟩).bind fun r18 => if (!r18.1) = true then some (ze6, (2 : Int)) else some (⟨r18.2.2.Proto, r18.2.2.Version, r18.2.2.By, r18.2.2.Comment⟩, 0)) = some (match zkk ((zaE 32 (zW s).2.2.2).dropWhile (fun b => !(b == 32))) with | none => (ze6, 2) | some c => (⟨(zW s).1, (zW s).2.1, b, c⟩, 0)) := by
        rw [e4, Option.bind_some]
        cases hc : zkk ((zaE 32 (zW s).2.2.2).dropWhile (fun b => !(b == 32))) with
        | none => rfl
        | some c =>
          have := h4 c hc
          subst this
          rfl
      cases zbT b with
      | true => exact fin
      | false =>
        rw [if_neg (by decide), Bool.false_or]
        cases (zic b).2 == 0 with
        | false => rfl
        | true =>
          rw [if_pos rfl, Bool.true_and]
          cases b.any ([44, 40, 41] : Str).contains with
          | true => rfl
          | false => exact fin
theorem zqD (u : Str) : upto [32] u = u.takeWhile (fun b => !(b == 32)) ∧ zb6 [32] u = u.dropWhile (fun b => !(b == 32)) := by
  have : (fun c : UInt8 => !([32] : Str).contains c) = fun b => !(b == 32) := by
    funext c
    simp only [List.contains_cons, List.contains_nil, Bool.or_false]
  unfold upto zb6
  rw [this]
  exact ⟨rfl, rfl⟩
theorem zgn {m : Str} (h : m.all zav = true) : (47 : UInt8) ∉ m ∧ (32 : UInt8) ∉ m := ⟨fun hx => by
  have := List.all_eq_true.1 h 47 hx
  revert this; decide, fun hx => by
  have := List.all_eq_true.1 h 32 hx
  revert this; decide⟩
theorem znG {w : Str} (u : Str) (h : (32 : UInt8) ∉ w) : zbI 32 (w ++ 32 :: u) = (w, u, true) := by
  have h1 := zoy (p := fun b => !(b == 32)) (c := 32) (by decide) u (zqj h)
  obtain ⟨e1, e2⟩ := zqD (w ++ 32 :: u)
  unfold zbI
  rw [e1, e2, h1.1, h1.2]
  rfl
theorem zqE {v : Str} (h : zbT v = true) : zk3 v = some ([], v) := by
  have := zgn ((zbk v).1 h).2
  unfold zk3
  rw [zgZ this.1]
  dsimp only
  rw [if_pos h]
theorem zqF {p v : Str} (h1 : zbT p = true) (h2 : zbT v = true) : zk3 (p ++ 47 :: v) = some (p, v) := by
  have t1 := zgn ((zbk p).1 h1).2
  have t2 := zgn ((zbk v).1 h2).2
  unfold zk3
  rw [zlL _ t1.1, zgZ t2.1]
  dsimp only
  rw [h1, h2]; rfl
theorem zhr : ∀ {w p v : Str}, zf 47 w = [p, v] → w = p ++ 47 :: v
  | [], p, v, h => by rw [zf] at h; cases h
  | y :: w, p, v, h => by
    rw [zaI] at h
    split at h
    · rename_i e
      subst e
      injection h with h1 h2
      rw [← h1, zde h2]; rfl
    · cases h3 : zf 47 w with
      | nil => exact absurd h3 (za3 47 w)
      | cons a l =>
        rw [h3] at h
        injection h with h1 h2
        subst h2
        have := zhr h3
        rw [← h1, this]; rfl
theorem zmt {w : Str} {pv : Str × Str} (h : zk3 w = some pv) : (zbT w = true ∧ pv = ([], w)) ∨ (zbT pv.1 = true ∧ zbT pv.2 = true ∧ w = pv.1 ++ 47 :: pv.2) := by
  unfold zk3 at h
  split at h
  · rename_i v hsp
    split at h
    · rename_i ht
      cases h
      have := zde hsp
      subst this
      exact .inl ⟨ht, rfl⟩
    · cases h
  · rename_i p v hsp
    split at h
    · rename_i ht
      cases h
      simp only [Bool.and_eq_true] at ht
      have e : w = p ++ 47 :: v := by
        have hj := zhr hsp
        exact hj
      exact .inr ⟨ht.1, ht.2, e⟩
    · cases h
  · cases h
theorem zoG {m : Str} (c : UInt8) (r : Str) (hc : zav c = false) (h : m.all zav = true) : (m ++ c :: r).takeWhile zav = m ∧ (m ++ c :: r).dropWhile zav = c :: r := zoy hc r h
theorem zoH {v : Str} (u : Str) (h : zbT v = true) : zW (v ++ 32 :: u) = ([], v, true, 32 :: u) := by
  obtain ⟨h1, h2⟩ := (zbk v).1 h
  have ht := zoG 32 u (by decide) h2
  unfold zW
  rw [ht.1, ht.2]
  have : zeN 47 (32 :: u) = false := by rw [zbr]; decide
  have hn : (v == []) = false := by simpa using h1
  rw [this, Bool.and_false, if_neg Bool.false_ne_true, hn]
  rfl
theorem zoI {p v : Str} (u : Str) (h1 : zbT p = true) (h2 : zbT v = true) : zW ((p ++ 47 :: v) ++ 32 :: u) = (p, v, true, 32 :: u) := by
  obtain ⟨p1, p2⟩ := (zbk p).1 h1
  obtain ⟨v1, v2⟩ := (zbk v).1 h2
  have e : (p ++ 47 :: v) ++ 32 :: u = p ++ 47 :: (v ++ 32 :: u) := by simp
  have ht := zoG 47 (v ++ 32 :: u) (by decide) p2
  have ht2 := zoG 32 u (by decide) v2
  unfold zW
  rw [e, ht.1, ht.2, zbr, zcK, ht2.1, ht2.2]
  have hn : (p == []) = false := by simpa using p1
  have hn2 : (v == []) = false := by simpa using v1
  rw [hn, hn2]
  rfl
theorem viaQ_S (s : Str) : viaQ s = zdB s := by
  unfold zdB
  cases hv : zk3 (zbI 32 s).1 with
  | some pv =>
    dsimp only
    rcases zeK (zbI 32 s).2.2 with hc | hc
    · have e := zlF 32 s hc
      have hp : zW s = (pv.1, pv.2, true, 32 :: (zbI 32 s).2.1) := by
        rcases zmt hv with ⟨t1, t2⟩ | ⟨t1, t2, t3⟩
        · have := zoH (zbI 32 s).2.1 t1
          rw [e] at this
          rw [this, t2]
        · have := zoI (zbI 32 s).2.1 t1 t2
          rw [← t3, e] at this
          exact this
      obtain ⟨e1, e2⟩ := zqD (zbI 32 s).2.1
      unfold viaQ
      rw [hp, hc, e1, e2]
      dsimp only
      rw [zbr, zcK]
      rfl
    · -- no blank: nothing stands behind the version
      have hn := zo6 32 s hc
      rw [hc, Bool.false_and, if_neg Bool.false_ne_true]
      have hno : (32 : UInt8) ∉ s := fun hm => by
        have h0 : upto [32] s = s := by have := congrArg Prod.fst hn; exact this
        have := zlQ (cs := [32]) (s := s) 32 (by rw [h0]; exact hm)
        simp at this
      have hb : zeN 32 (zW s).2.2.2 = false := by
        cases h : zeN 32 (zW s).2.2.2 with
        | false => rfl
        | true =>
          exfalso
          have hm := zfK h
          have hin : (32 : UInt8) ∈ (zW s).2.2.2 := by rw [hm]; simp
          apply hno
          unfold zW at hin
          split at hin
          · have h1 := (List.dropWhile_suffix _).mem hin
            unfold zaE at h1
            split at h1
            · exact (List.dropWhile_suffix _).mem (List.mem_of_mem_drop h1)
            · exact (List.dropWhile_suffix _).mem h1
          · exact (List.dropWhile_suffix _).mem hin
      unfold viaQ
      rw [hb, Bool.and_false, Bool.false_and, if_neg Bool.false_ne_true]
  | none =>
    dsimp only
    have hq : ((zW s).2.2.1 && zeN 32 (zW s).2.2.2) = false := by
      cases h : (zW s).2.2.1 && zeN 32 (zW s).2.2.2 with
      | false => rfl
      | true =>
        exfalso
        simp only [Bool.and_eq_true] at h
        obtain ⟨h1, h2⟩ := h
        have e2 := zfK h2
        have e0 : s.takeWhile zav ++ s.dropWhile zav = s := List.takeWhile_append_dropWhile
        have hall : ∀ t : Str, (t.takeWhile zav).all zav = true := fun t => List.all_eq_true.2 fun x hx => zmb hx
        unfold zW at h1 e2
        split at h1
        · rename_i hc
          rw [if_pos hc] at e2
          simp only [Bool.and_eq_true, Bool.not_eq_true', beq_eq_false_iff_ne] at hc
          have hb := zfK hc.2
          have e3 : (zaE 47 (s.dropWhile zav)).takeWhile zav ++ (zaE 47 (s.dropWhile zav)).dropWhile zav = zaE 47 (s.dropWhile zav) := List.takeWhile_append_dropWhile
          have tp : zbT (s.takeWhile zav) = true := (zbk _).2 ⟨hc.1, hall _⟩
          have tv : zbT ((zaE 47 (s.dropWhile zav)).takeWhile zav) = true := (zbk _).2 ⟨by simpa using h1, hall _⟩
          have es : s = (s.takeWhile zav ++ 47 :: (zaE 47 (s.dropWhile zav)).takeWhile zav) ++ 32 :: zaE 32 ((zaE 47 (s.dropWhile zav)).dropWhile zav) := by
            rw [List.append_assoc, List.cons_append, ← e2, e3, ← hb, e0]
          have hn1 := zgn ((zbk _).1 tp).2
          have hn2 := zgn ((zbk _).1 tv).2
          have hcut : (zbI 32 s).1 = s.takeWhile zav ++ 47 :: (zaE 47 (s.dropWhile zav)).takeWhile zav := by
            have := znG (w := s.takeWhile zav ++ 47 :: (zaE 47 (s.dropWhile zav)).takeWhile zav) (zaE 32 ((zaE 47 (s.dropWhile zav)).dropWhile zav)) (fun hm => by
              rcases List.mem_append.1 hm with hm | hm
              · exact hn1.2 hm
              · rcases List.mem_cons.1 hm with hm | hm
                · exact absurd hm (by decide)
                · exact hn2.2 hm)
            rw [← es] at this
            exact congrArg Prod.fst this
          rw [hcut, zqF tp tv] at hv
          cases hv
        · rename_i hc
          rw [if_neg hc] at e2
          have tp : zbT (s.takeWhile zav) = true := (zbk _).2 ⟨by simpa using h1, hall _⟩
          have es : s = s.takeWhile zav ++ 32 :: zaE 32 (s.dropWhile zav) := by rw [← e2, e0]
          have hn1 := zgn ((zbk _).1 tp).2
          have hcut : (zbI 32 s).1 = s.takeWhile zav := by
            have := znG (w := s.takeWhile zav) (zaE 32 (s.dropWhile zav)) hn1.2
            rw [← es] at this
            exact congrArg Prod.fst this
          rw [hcut, zqE tp] at hv
          cases hv
    unfold viaQ
    rw [hq, Bool.false_and, if_neg Bool.false_ne_true]
theorem ziU (s : Str) (hs : s.length < 300000000) : zeW s = some (zdB s) := by rw [zl1 s hs, viaQ_S]
end Go.Dm
end
section
namespace Go.Dm
theorem znA (t : Str) (x : UInt8) : ([41] : Str).isSuffixOf (t ++ [x]) = (x == 41) := by
  rw [Bool.eq_iff_iff, List.isSuffixOf_iff_suffix, beq_iff_eq]
  constructor
  · rintro ⟨u, hu⟩
    have := congrArg List.getLast? hu
    simp at this
    exact this.symm
  · rintro rfl; exact ⟨t, rfl⟩
def viaY (p v b r : Str) : api_Via × Int := match zkk r with | none => (ze6, 2) | some c => (⟨p, v, b, c⟩, 0)
theorem zpw (s : Str) (hs : s.length < 900000000) (i : Nat) (hi : i ≤ s.length) (h0 : s.drop i = [] ∨ ∃ t, s.drop i = 32 :: t) (b p v : Str) (q : Bool) :
    zB s (i : Int) b p v q = some (if q then ((ze6, 2) : api_Via × Int) else viaY p v b (s.drop i)) := by
  unfold zB
  cases q with
  | true => rfl
  | false =>
    rw [if_neg Bool.false_ne_true, if_neg Bool.false_ne_true]
    rcases h0 with h0 | ⟨t, h0⟩
    · have : i = s.length := by have := congrArg List.length h0; simp at this; omega
      rw [h0, this, beq_self_eq_true, if_pos rfl]
      rfl
    · have hl := congrArg List.length h0
      simp only [List.length_drop, List.length_cons] at hl
      have hne : ((i : Int) == (s.length : Int)) = false := beq_eq_false_iff_ne.2 (by omega)
      have hdr : s.drop (i + 1) = t := by rw [← List.drop_drop, h0]; rfl
      rw [hne, if_neg (by decide), zk (by omega), Option.bind_some, zb2 (by omega), Option.bind_some, hdr, h0]
      have j7t : zbj b p v t true = some (ze6, 2) := rfl
      unfold viaY zkk
      rw [if_neg (show ¬ ((32 :: t : Str) == []) = true by simp)]
      cases t with
      | nil => rw [decide_eq_true (by simp), if_pos rfl, j7t]; rfl
      | cons c t' =>
        have hpre : ([32, 40] : Str).isPrefixOf (32 :: c :: t') = (c == 40) := by
          show ((32 : UInt8) == 32 && ((40 : UInt8) == c && ([] : Str).isPrefixOf t')) = _
          rw [beq_self_eq_true, Bool.true_and]
          have : ([] : Str).isPrefixOf t' = true := by simp
          rw [this, Bool.and_true, ziS]
        have hd2 : (32 :: c :: t' : Str).drop 2 = t' := rfl
        rw [hpre, hd2]
        by_cases h3 : (c :: t' : Str).length < 3
        · rw [decide_eq_true (show ((c :: t' : Str).length : Int) < 3 by omega), if_pos rfl, j7t]
          have : ((zeL t').2 && !((zeL t').1 == [])) = false := by
            match t', h3 with
            | [], _ => rfl
            | [x], _ =>
              unfold zeL
              split
              · rfl
              · rfl
          cases c == 40 with
          | false => rfl
          | true =>
            rw [Bool.true_and, this]
            rfl
        · rw [decide_eq_false (show ¬ ((c :: t' : Str).length : Int) < 3 by omega), if_neg (by decide), zn2, List.getElem?_cons_zero, Option.bind_some]
          have hne' : t' ≠ [] := by rintro rfl; simp at h3
          obtain ⟨m, x, rfl⟩ : ∃ m x, t' = m ++ [x] := ⟨t'.dropLast, t'.getLast hne', (List.dropLast_concat_getLast hne').symm⟩
          have hml : 1 ≤ m.length := by simp only [List.length_cons, List.length_append, List.length_nil] at h3; omega
          have hlen : (c :: (m ++ [x]) : Str).length = m.length + 2 := by simp
          have e1 : zci ((c :: (m ++ [x]) : Str).length : Int) 1 = some ((m.length + 1 : Nat) : Int) := by rw [hlen, zbm (by omega) (by omega)]; exact congrArg some (by omega)
          have g : (c :: (m ++ [x]) : Str)[m.length + 1]? = some x := by simp
          have e2 : zeG (c :: (m ++ [x])) 1 ((m.length + 1 : Nat) : Int) = some m := by
            have := zdh (l := c :: (m ++ [x])) (i := 1) (h := m.length + 1) (by omega) (by simp)
            rw [show ((1 : Nat) : Int) = 1 from rfl] at this
            rw [this]
            simp
          have hcut : zeL (m ++ [x]) = if x == 41 then (m, true) else (m ++ [x], false) := by
            unfold zeL
            rw [znA]
            have : (m ++ [x]).take ((m ++ [x]).length - 1) = m := by simp
            rw [this]
          have hmn : (m == []) = false := by cases m with
            | nil => simp at hml
            | cons y m => rfl
          rw [e1, Option.bind_some, zac, g, Option.bind_some, Option.bind_some, e2, Option.bind_some, zjA _ (by simp at hlen hl; omega), Option.bind_some, hcut]
          unfold zbj
          rw [e1, Option.bind_some, e2, Option.bind_some]
          cases c == 40 with
          | false => rfl
          | true =>
            cases x == 41 with
            | false => rfl
            | true =>
              rw [show (if (true = true) then (m, true) else (m ++ [x], false) : Str × Bool) = (m, true) from rfl]
              dsimp only
              rw [hmn]
              cases zjZ m <;> rfl
theorem zkM (s : Str) (hs : s.length < 1000000000) : zdy s = some (s.any ([44, 40, 41] : Str).contains) := by
  unfold zdy
  have key : ∀ (n i : Nat), i ≤ s.length → s.length - i < n → zao s n (i : Int) = some ((s.drop i).any ([44, 40, 41] : Str).contains) := by
    intro n
    induction n with
    | zero => intro i _ h; omega
    | succ n ih =>
      intro i hi h
      rw [zao]
      by_cases hlt : i < s.length
      · have g : s[i]? = some s[i] := List.getElem?_eq_getElem hlt
        unfold zcw
        rw [decide_eq_true (show (i : Int) < (s.length : Int) by omega), if_pos rfl, zac, g, Option.bind_some, Option.bind_some, Option.bind_some, zk (by omega), Option.bind_some, ih (i + 1) (by omega) (by omega), List.drop_eq_getElem_cons hlt, List.any_cons]
        have : ([44, 40, 41] : Str).contains s[i] = (s[i] == 44 || (s[i] == 40 || s[i] == 41)) := by simp only [List.contains_cons, List.contains_nil, Bool.or_false]
        rw [this]
        cases s[i] == 44 <;> cases s[i] == 40 <;> cases s[i] == 41 <;> rfl
      · have : i = s.length := by omega
        subst this
        rw [decide_eq_false (by omega), if_neg (by decide), List.drop_length]
        rfl
  have := key fuel 0 (Nat.zero_le _) (by unfold fuel; omega)
  rw [List.drop_zero] at this
  exact this
def viaC (w b r : Str) : api_Via × Int := match zk3 w with
  | none => (ze6, 2)
  | some pv => if znF b then viaY pv.1 pv.2 b r else (ze6, 2)
theorem zpx (rec3 : Int → Option (api_Via × Int)) (s : Str) (hs : s.length < 300000000) (a i : Nat) (h1 : a + 1 ≤ i) (hi : i ≤ s.length) (h0 : s.drop i = [] ∨ ∃ t, s.drop i = 32 :: t) :
    zbZ rec3 s (a : Int) (i : Int) false = some (viaC (s.take a) ((s.take i).drop (a + 1)) (s.drop i)) := by
  unfold zbZ
  have htl : (s.take a).length ≤ s.length := by simp; omega
  have hbl : ((s.take i).drop (a + 1)).length ≤ s.length := by simp; omega
  rw [if_neg (by decide), zf5 (by omega), Option.bind_some, zk (by omega), Option.bind_some, zdh h1 hi, Option.bind_some, Option.bind_some, zfL _ 47 (by omega), Option.bind_some]
  have hmem := fun x (hx : x ∈ zf 47 (s.take a)) => (zcA hx).2.1
  generalize (s.take i).drop (a + 1) = b at hbl
  generalize s.take a = w at htl hmem
  have j6 := zpw s (by omega) i hi h0 b
  unfold viaC zk3
  have tail : ∀ (p v : Str), v.length ≤ w.length → ((zaj v).bind fun r61 => if (!r61) = true then zB s (i : Int) b p v true else (if (!((zic b).2 == 0)) = true then ((zaj b).bind fun r64 => zB s (i : Int) b p v (!r64)) else ((zdy b).bind fun r65 => if r65 = true then ((zaj b).bind fun r67 => zB s (i : Int) b p v (!r67)) else zB s (i : Int) b p v false))) = some (if zbT v then (if znF b then viaY p v b (s.drop i) else (ze6, 2)) else (ze6, 2) : api_Via × Int) := by
    intro p v hv
    rw [zfI v (by omega), Option.bind_some, zfI b (by omega), Option.bind_some, zkM b (by omega), Option.bind_some, j6, j6, j6]
    unfold znF
    cases zbT v <;> cases zbT b <;> cases (zic b).2 == 0 <;> cases b.any ([44, 40, 41] : Str).contains <;> rfl
  match hsp : zf 47 w with
  | [] => exact absurd hsp (za3 47 w)
  | [v] =>
    have hv : v = w := (zde hsp).symm ▸ rfl
    have hvw : v = w := by have := zde hsp; exact this
    rw [hsp] at hmem
    show (zaO s (i : Int) b [v] [] w) = _
    unfold zaO
    rw [zfC b (by omega), Option.bind_some, show decide ((2 : Int) < (([v] : List Str).length : Int)) = false from rfl, if_neg Bool.false_ne_true, show ((([v] : List Str).length : Int) == 2) = false from rfl, if_neg Bool.false_ne_true, tail [] w (Nat.le_refl _), hvw]
    dsimp only
    cases zbT w <;> rfl
  | [p, v] =>
    rw [hsp] at hmem
    have hp := hmem p (by simp)
    have hv := hmem v (by simp)
    show (zaO s (i : Int) b [p, v] p v) = _
    unfold zaO
    rw [zfC b (by omega), Option.bind_some, show decide ((2 : Int) < (([p, v] : List Str).length : Int)) = false from rfl, if_neg Bool.false_ne_true, show ((([p, v] : List Str).length : Int) == 2) = true from rfl, if_pos rfl, zfI p (by omega), Option.bind_some, tail p v hv, j6]
    dsimp only
    cases zbT p <;> cases zbT v <;> rfl
  | x :: y :: z :: l =>
    show (if (((x :: y :: z :: l : List Str).length : Int) == 2) = true then _ else _) = _
    have h2 : (((x :: y :: z :: l : List Str).length : Int) == 2) = false := beq_eq_false_iff_ne.2 (by simp only [List.length_cons]; omega)
    rw [h2, if_neg (by decide)]
    unfold zaO
    rw [zfC b (by omega), Option.bind_some, decide_eq_true (by simp only [List.length_cons]; omega), if_pos rfl, j6]
    rfl
theorem zkN (s : Str) (hs : s.length < 300000000) : zfn s = some (zdB s) := by
  unfold zfn
  have hu := zpo [32] s
  -- the second part
  have fin : s.drop (upto [32] s).length ≠ [] → zae s ((upto [32] s).length : Int) fuel (((upto [32] s).length + 1 : Nat) : Int) = some (zdB s) := by
    intro hne
    obtain ⟨u, hdu⟩ : ∃ u, s.drop (upto [32] s).length = 32 :: u := by
      have hd := zgC [32] s
      cases hf : zb6 [32] s with
      | nil => rw [hd, hf] at hne; exact absurd rfl hne
      | cons c u =>
        have := zhV hf
        have hc : c = 32 := by simpa using this
        rw [hd, hf, hc]; exact ⟨u, rfl⟩
    have hcut : zbI 32 s = (upto [32] s, u, true) := by
      unfold zbI
      rw [← zgC, hdu]; rfl
    have hlen := congrArg List.length hdu
    simp only [List.length_drop, List.length_cons] at hlen
    have hd1 : s.drop ((upto [32] s).length + 1) = u := by rw [← List.drop_drop, hdu]; rfl
    have huu := zpo [32] u
    have hv : zdB s = viaC (upto [32] s) (upto [32] u) (zb6 [32] u) := by
      unfold zdB viaC
      rw [hcut]
      dsimp only
      rw [Bool.true_and]
      rfl
    rw [hv]
    generalize hW : (upto [32] s).length = W at *
    have key : ∀ (n i : Nat), W + 1 ≤ i → i ≤ W + 1 + (upto [32] u).length → W + 1 + (upto [32] u).length - i < n → zae s (W : Int) n (i : Int) = some (viaC (upto [32] s) (upto [32] u) (zb6 [32] u)) := by
      intro n
      induction n with
      | zero => intro i _ _ h; omega
      | succ n ih =>
        intro i hi1 hi h
        rw [zae]
        have hgi : ∀ j, s[W + 1 + j]? = u[j]? := fun j => by rw [← hd1, List.getElem?_drop]
        by_cases hlt : i < W + 1 + (upto [32] u).length
        · have g : s[i]? = some ((upto [32] u)[i - (W + 1)]'(by omega)) := by
            have h1 := hgi (i - (W + 1))
            rw [show W + 1 + (i - (W + 1)) = i by omega] at h1
            rw [h1]
            have e := List.getElem?_append_left (l₂ := zb6 [32] u) (show i - (W + 1) < (upto [32] u).length by omega)
            rw [zea] at e
            rw [e]; exact List.getElem?_eq_getElem _
          have hno := zlQ ((upto [32] u)[i - (W + 1)]'(by omega)) (List.getElem_mem _)
          generalize (upto [32] u)[i - (W + 1)]'(by omega) = c at g hno
          have h1 : (c == 32) = false := by simpa using hno
          have hlt2 := (List.getElem?_eq_some_iff.1 g).1
          unfold zbZ
          rw [decide_eq_true (show (i : Int) < (s.length : Int) by omega), if_pos rfl, zac, g, Option.bind_some, h1, Bool.not_false, if_pos rfl, zk (by omega), Option.bind_some]
          exact ih (i + 1) (by omega) (by omega) (by omega)
        · have hie : i = W + 1 + (upto [32] u).length := by omega
          have hdi : s.drop i = zb6 [32] u := by rw [hie, ← List.drop_drop, hd1, zgC]
          have h0 : s.drop i = [] ∨ ∃ t, s.drop i = 32 :: t := by
            rw [hdi]
            cases hf : zb6 [32] u with
            | nil => exact .inl rfl
            | cons c t =>
              have := zhV hf
              have hc : c = 32 := by simpa using this
              exact .inr ⟨t, by rw [hc]⟩
          have hile : i ≤ s.length := by omega
          have hj := zpx (zae s (W : Int) n) s hs W i (by omega) hile h0
          have hw : s.take W = upto [32] s := by rw [← hW]; exact zmM [32] s
          have hb : (s.take i).drop (W + 1) = upto [32] u := by
            rw [hie, List.take_add, List.drop_append_of_le_length (by simp; omega), List.drop_of_length_le (by simp; omega), List.nil_append, hd1, zmM]
          rw [hw, hb, hdi] at hj
          rcases h0 with h0 | ⟨t, h0⟩
          · have : s.length ≤ i := by have := congrArg List.length h0; simp at this; omega
            rw [decide_eq_false (by omega), if_neg (by decide)]
            exact hj
          · have hlt2 : i < s.length := by have := congrArg List.length h0; simp at this; omega
            have g : s[i]? = some 32 := by have := congrArg (·[0]?) h0; simpa using this
            rw [decide_eq_true (by omega), if_pos rfl, zac, g, Option.bind_some]
            exact hj
    exact key fuel (W + 1) (Nat.le_refl _) (by omega) (by unfold fuel; omega)
  have key : ∀ (n i : Nat), i ≤ (upto [32] s).length → (upto [32] s).length - i < n → zaP s n (i : Int) = some (zdB s) := by
    intro n
    induction n with
    | zero => intro i _ h; omega
    | succ n ih =>
      intro i hi h
      rw [zaP]
      unfold zdA
      by_cases hlt : i < (upto [32] s).length
      · have g : s[i]? = some (upto [32] s)[i] := by
          have e := List.getElem?_append_left (l₂ := zb6 [32] s) hlt
          rw [zea] at e; rw [e]; exact List.getElem?_eq_getElem hlt
        have hno := zlQ (upto [32] s)[i] (List.getElem_mem hlt)
        generalize (upto [32] s)[i] = c at g hno
        have h1 : (c == 32) = false := by simpa using hno
        rw [decide_eq_true (show (i : Int) < (s.length : Int) by omega), if_pos rfl, zac, g, Option.bind_some, h1, Bool.not_false, if_pos rfl, zk (by omega), Option.bind_some]
        exact ih (i + 1) (by omega) (by omega)
      · have hie : i = (upto [32] s).length := by omega
        subst hie
        by_cases hne : s.drop (upto [32] s).length = []
        · have : (upto [32] s).length = s.length := by have := congrArg List.length hne; simp at this; omega
          rw [decide_eq_false (by omega), if_neg (by decide), if_neg (by decide), this, beq_self_eq_true, if_pos rfl]
          have hc : (zbI 32 s).2.2 = false := by unfold zbI; rw [← zgC, hne]; rfl
          unfold zdB
          rw [hc, Bool.false_and]
          cases zk3 (zbI 32 s).1 <;> rfl
        · have hlt2 : (upto [32] s).length < s.length := by
            have : ¬ (upto [32] s).length = s.length := fun e => hne (by rw [e, List.drop_length])
            omega
          have hne2 : (((upto [32] s).length : Int) == (s.length : Int)) = false := beq_eq_false_iff_ne.2 (by omega)
          have g : s[(upto [32] s).length]? = some 32 := by
            have hd := zgC [32] s
            cases hf : zb6 [32] s with
            | nil => rw [hd, hf] at hne; exact absurd rfl hne
            | cons c u =>
              have h1 := zhV hf
              have hc : c = 32 := by simpa using h1
              rw [hf, hc] at hd
              have := congrArg (·[0]?) hd
              simpa using this
          rw [decide_eq_true (by omega), if_pos rfl, zac, g, Option.bind_some, if_neg (by decide), hne2, if_neg (by decide), zk (by omega), Option.bind_some]
          exact fin hne
  exact key fuel 0 (Nat.zero_le _) (by unfold fuel; omega)
def zcm (v : api_Via) : Str := (if v.Proto == [] then [] else v.Proto ++ [47]) ++ v.Version ++ 32 :: v.By ++ (if v.Comment == [] then [] else [32, 40] ++ v.Comment ++ [41])
def zeJ (v : api_Via) : Str × Int := if (zdB (zcm v)).2 == 0 && (zdB (zcm v)).1 == v then (zcm v, 0) else ([], 2)
def zkO (v : api_Via) : Prop := v.Proto.length < 10000000 ∧ v.Version.length < 10000000 ∧ v.By.length < 10000000 ∧ v.Comment.length < 10000000
theorem zkP {v : api_Via} (h : zkO v) : (zcm v).length < 100000000 := by
  obtain ⟨h1, h2, h3, h4⟩ := h
  unfold zcm
  split <;> split <;> simp <;> omega
theorem zoz (l : List Str) (h : l.length < 1000000) (h2 : l.flatten.length < 4000000000) : zdo [] l = some l.flatten := zlS l h h2
theorem znB (v : api_Via) (h : zkO v) : zhQ v = some (zeJ v) := by
  have hl := zkP h
  have j2 : ∀ l : List Str, l.length < 100 → l.flatten = zcm v → zec v l = some (zeJ v) := by
    intro l h1 h2
    unfold zec zfj
    rw [zoz l (by omega) (by rw [h2]; omega), Option.bind_some, h2, ziU _ (by omega), Option.bind_some]
    unfold zeJ
    cases (zdB (zcm v)).2 == 0 <;> cases (zdB (zcm v)).1 == v <;> rfl
  have j1 : ∀ l : List Str, l.length < 50 → l.flatten = (if v.Proto == [] then [] else v.Proto ++ [47]) ++ v.Version ++ 32 :: v.By → zed v l = some (zeJ v) := by
    intro l h1 h2
    unfold zed
    cases hc : v.Comment == [] with
    | true =>
      rw [Bool.not_true, if_neg (by decide)]
      refine j2 l (by omega) ?_
      unfold zcm
      rw [h2, hc]; simp
    | false =>
      rw [Bool.not_false, if_pos rfl, if_pos (zcj (by omega) (by omega))]
      refine j2 _ (by simp; omega) ?_
      unfold zcm
      rw [List.flatten_append, h2, hc]; simp
  unfold zhQ
  cases hp : v.Proto == [] with
  | true =>
    rw [Bool.not_true, if_neg (by decide)]
    exact j1 _ (by simp) (by rw [hp]; simp)
  | false =>
    rw [Bool.not_false, if_pos rfl, if_pos (zcj (by simp) (by simp))]
    exact j1 _ (by simp) (by rw [hp]; simp)
theorem zlZ (v : api_Via) (h : zkO v) : zfV v = some (zeJ v) := by
  have hl := zkP h
  obtain ⟨h1, h2, h3, h4⟩ := h
  have j2 : zc4 v (zcm v) = some (zeJ v) := by
    unfold zc4 zdY
    rw [zkN _ (by omega), Option.bind_some]
    unfold zeJ
    cases (zdB (zcm v)).2 == 0 <;> cases (zdB (zcm v)).1 == v <;> rfl
  have j1 : ∀ u : Str, u.length < 50000000 → u = (if v.Proto == [] then [] else v.Proto ++ [47]) ++ v.Version ++ 32 :: v.By → zc5 v u = some (zeJ v) := by
    intro u hu he
    unfold zc5
    rw [zb1 (by simp; omega), Option.bind_some, zb1 (by simp; omega), Option.bind_some, zb1 (by simp; omega), Option.bind_some]
    unfold zcm at j2
    rw [← he] at j2
    cases hc : v.Comment == [] with
    | true => rw [hc, if_pos rfl, List.append_nil] at j2; rw [Bool.not_true, if_neg (by decide)]; exact j2
    | false =>
      rw [hc, if_neg Bool.false_ne_true] at j2
      rw [Bool.not_false, if_pos rfl]
      have e : u ++ [32, 40] ++ v.Comment ++ [41] = u ++ ([32, 40] ++ v.Comment ++ [41]) := by simp
      rw [e]; exact j2
  unfold zfV
  rw [zb1 (by simp; omega), Option.bind_some, zb1 (by simp; omega), Option.bind_some]
  cases hp : v.Proto == [] with
  | true =>
    rw [Bool.not_true, if_neg (by decide)]
    exact j1 _ (by simp; omega) (by rw [hp]; simp)
  | false =>
    rw [Bool.not_false, if_pos rfl, zb1 (by simp; omega), Option.bind_some, zb1 (by simp; omega), Option.bind_some]
    exact j1 _ (by simp; omega) (by rw [hp]; simp)
theorem zqo {r c : Str} (h : zkk r = some c) : r = if c == [] then [] else [32, 40] ++ c ++ [41] := by
  unfold zkk at h
  split at h
  · rename_i hr
    cases h
    simpa using hr
  · split at h
    · rename_i hc
      simp only [Bool.and_eq_true, Bool.not_eq_true'] at hc
      obtain ⟨⟨⟨h1, h2⟩, h3⟩, _⟩ := hc
      cases h
      obtain ⟨t, ht⟩ := List.isPrefixOf_iff_prefix.1 h1
      have hd : r.drop 2 = t := by rw [← ht]; rfl
      rw [h3, if_neg Bool.false_ne_true]
      rw [hd] at h2 ⊢
      rw [← ht]
      have : (zeL t).1 ++ [41] = t := by
        unfold zeL at h2 ⊢
        split at h2
        · rename_i hs
          rw [if_pos hs]
          obtain ⟨m, hm⟩ := List.isSuffixOf_iff_suffix.1 hs
          rw [← hm]; simp
        · cases h2
      rw [List.append_assoc, this]
    · cases h
theorem zqp {s : Str} (h : ((zdB s).2 == 0) = false) : zdB s = (ze6, 2) := by
  unfold zdB at h ⊢
  split
  · rfl
  · rename_i pv hv
    rw [hv] at h
    dsimp only at h
    split
    · rename_i hc
      rw [if_pos hc] at h
      split
      · rfl
      · rename_i c hcom
        rw [hcom] at h; cases h
    · rfl
def okV (x : Str) : Bool := (zdB x).2 == 0
def ziu (out : List api_Via) (r : List api_Via × Int) : List api_Via × Int := if r.2 == 0 then (out ++ r.1, 0) else ([], r.2)
def zbl : List Str → List api_Via × Int
  | [] => ([], 0)
  | v :: vs => match zcd v with
    | none => ([], 2)
    | some l => if l.all okV then ziu (l.map fun x => (zdB x).1) (zbl vs) else ([], 2)
theorem zeR {v : Str} (vs : List Str) (h : zcd v = none) : zbl (v :: vs) = ([], 2) := by rw [zbl, h]
theorem zdc {v : Str} (vs : List Str) {l : List Str} (h : zcd v = some l) : zbl (v :: vs) = if l.all okV then ziu (l.map fun x => (zdB x).1) (zbl vs) else ([], 2) := by rw [zbl, h]
theorem zqq (a b : List api_Via) (r : List api_Via × Int) : ziu (a ++ b) r = ziu a (ziu b r) := by
  unfold ziu
  cases h : r.2 == 0 with
  | true => simp
  | false => simp [h]
theorem zpy (vs : List Str) : (zbl vs).2 = 0 ∨ zbl vs = ([], 2) := by
  induction vs with
  | nil => exact .inl rfl
  | cons v vs ih =>
    cases hs : zcd v with
    | none => rw [zeR _ hs]; exact .inr rfl
    | some l =>
      rw [zdc _ hs]
      cases l.all okV with
      | false => exact .inr rfl
      | true =>
        rw [if_pos rfl]
        unfold ziu
        rcases ih with ih | ih
        · rw [ih]; exact .inl rfl
        · rw [ih]; exact .inr rfl
theorem zqr (vs : List Str) : ziu [] (zbl vs) = zbl vs := by
  unfold ziu
  rcases zpy vs with h | h
  · rw [h, beq_self_eq_true, if_pos rfl, List.nil_append, ← h]
  · rw [h]; rfl
theorem zl0 (a b : List api_Via) (ha : a.length < 1000000000) : zd6 a b = some (a == b) := by
  unfold zd6
  by_cases hl : a.length = b.length
  · rw [hl, beq_self_eq_true, Bool.not_true, if_neg (by decide)]
    refine zmA a b (zbK a b) hl ha (fun n => ?_) (fun n i x y hi hx hy => ?_)
    · rw [zbK, decide_eq_false (by omega), if_neg (by decide)]
    · rw [zbK, decide_eq_true (by omega), if_pos rfl, zcH, hx, Option.bind_some, zcH, hy, Option.bind_some, zk (by omega), Option.bind_some]
      cases x == y <;> rfl
  · have : (((a.length : Int) == (b.length : Int))) = false := beq_eq_false_iff_ne.2 (by omega)
    have h2 : (a == b) = false := beq_eq_false_iff_ne.2 (fun e => hl (by rw [e]))
    rw [this, h2]; rfl
theorem zms (vs : List Str) (B : Nat) (h : ∀ v ∈ vs, v.length < B) : (zbl vs).1.length ≤ vs.length * B := by
  induction vs with
  | nil => simp [zbl]
  | cons v vs ih =>
    have hv := h v (List.mem_cons_self ..)
    have := ih (fun x hx => h x (List.mem_cons_of_mem _ hx))
    cases hs : zcd v with
    | none => rw [zeR _ hs]; simp
    | some l =>
      have hm := zlI hs
      rw [zdc _ hs]
      unfold ziu
      rw [List.length_cons, Nat.add_mul]
      split
      · split
        · simp only [List.length_append, List.length_map]; omega
        · simp
      · simp
theorem zkQ : zf9 = some true := by decide +kernel
def cutV (v : api_Via) : api_Via := ⟨v.Proto.take 60, v.Version.take 60, v.By.take 60, v.Comment.take 60⟩
theorem zmV (v : api_Via) : zgF v = some (cutV v) := by
  unfold zgF
  have cut : ∀ s : Str, sTo s (min (s.length : Int) 60) = some (s.take 60) := fun s => by
    have := zpf s 60
    rwa [show ((60 : Nat) : Int) = 60 from rfl] at this
  have st : ∀ (n : Nat) (a b c d : Str) (i : Nat) (x : Str) (r : Str × Str × Str × Str), i < 4 → lAt [a, b, c, d] (i : Int) = some x → ((zkR [a, b, c, d] (i : Int) (x.take 60)).bind tup4) = some r → zbD (n + 1) a b c d (i : Int) = zbD n r.1 r.2.1 r.2.2.1 r.2.2.2 ((i + 1 : Nat) : Int) := by
    intro n a b c d i x r hi hx hr
    rw [zbD, decide_eq_true (show (i : Int) < 4 by omega), if_pos rfl, hx, Option.bind_some, Option.bind_some, cut, Option.bind_some, Option.bind_some, hr, Option.bind_some, zk (by omega), Option.bind_some]
  rw [show fuel = 999999999999999995 + 1 + 1 + 1 + 1 + 1 from rfl, show (0 : Int) = ((0 : Nat) : Int) from rfl,
    st _ _ _ _ _ 0 v.Proto (v.Proto.take 60, v.Version, v.By, v.Comment) (by decide) rfl rfl,
    st _ _ _ _ _ 1 v.Version (v.Proto.take 60, v.Version.take 60, v.By, v.Comment) (by decide) rfl rfl,
    st _ _ _ _ _ 2 v.By (v.Proto.take 60, v.Version.take 60, v.By.take 60, v.Comment) (by decide) rfl rfl,
    st _ _ _ _ _ 3 v.Comment (v.Proto.take 60, v.Version.take 60, v.By.take 60, v.Comment.take 60) (by decide) rfl rfl]
  rw [zbD, decide_eq_false (by decide), if_neg (by decide)]
  rfl
theorem zoA (v : api_Via) : zkO (cutV v) := by
  unfold cutV
  exact ⟨by simp; omega, by simp; omega, by simp; omega, by simp; omega⟩
theorem znC {v : api_Via} (h : ((zeJ v).2 == 0) = true) : zeJ v = (zcm v, 0) ∧ zdB (zcm v) = (v, 0) := by
  unfold zeJ at h ⊢
  split at h
  · rename_i hc
    rw [if_pos hc]
    simp only [Bool.and_eq_true, beq_iff_eq] at hc
    refine ⟨rfl, ?_⟩
    exact Prod.ext hc.2 hc.1
  · cases h

end Go.Dm
end
section
namespace Go.Dm
def pln (c : UInt8) : Bool := !(c == 34) && !(c == 40) && !(c == 44)
def inn (c : UInt8) : Bool := !(c == 34) && !(c == 40) && !(c == 44) && !zbs c
theorem zo8 {s : Str} (h : s.all inn = true) : s.all pln = true := by
  refine List.all_eq_true.2 fun x hx => ?_
  have := List.all_eq_true.1 h x hx
  unfold inn at this
  rw [Bool.and_eq_true] at this
  exact this.1
theorem znK {s x : Str} {l : List Str} (hx : ∀ cur, zc7 0 cur x = some [cur ++ x]) (ht : zeU x = x) (hne : x ≠ []) (h : zcd s = some l) : zcd (zaH s x) = some (l ++ [x]) := by
  unfold zaH
  have hxe : (x == []) = false := by simpa using hne
  split
  · rename_i hb
    obtain ⟨m, e1, e2⟩ := zjv s [] rfl hb
    unfold zcd at h ⊢
    rw [e1] at h
    cases h
    rw [hx [], e2]
    simp [elems, ht, hne]
  · unfold zcd at h ⊢
    obtain ⟨m, hm, rfl⟩ := Option.map_eq_some_iff.1 h
    have hs : ∃ b, s = zcB s ++ b ∧ b.all zbs = true := by
      rcases zkg s with ⟨h1, h2⟩ | ⟨a, c, b, h1, h2, h3, h4⟩
      · exact ⟨s, by rw [h2]; rfl, h1⟩
      · exact ⟨b, by rw [h4]; rw [h1]; simp, h3⟩
    obtain ⟨b, hsb, hb⟩ := hs
    have hm' := hm
    rw [hsb] at hm'
    obtain ⟨m', e1, e2⟩ := zhm hb (zcB s) 0 [] m (by simp) hm'
    rw [zgl _ (zcB s) 0 [] m' (by simp) e1]
    have h32 : zc7 0 [] (32 :: x) = some [32 :: x] := by
      rw [zdb [] x (by decide) (by decide), hx]; rfl
    rw [h32]
    have hem : elems m' = elems m := by unfold elems; rw [e2]
    show some (elems (m' ++ [32 :: x])) = _
    rw [zmr, hem]
    congr 2
    simp [elems, zse (show zbs 32 = true by decide), ht, hne]
theorem zf3 : ∀ (p cur r : Str), p.all pln = true → zc7 0 cur (p ++ r) = zc7 0 (cur ++ p) r
  | [], cur, r, _ => by simp
  | c :: p, cur, r, h => by
    simp only [List.all_cons, Bool.and_eq_true] at h
    have h1 := h.1
    unfold pln at h1
    simp only [Bool.and_eq_true, Bool.not_eq_true'] at h1
    rw [List.cons_append, zdb cur _ (by rw [h1.1.1, h1.1.2]; rfl) h1.2, zf3 p _ r h.2, List.append_assoc, List.singleton_append]
theorem zpO (t c : Str) : ∀ d, zeH d c = true → zcl (d + 1) (c ++ 41 :: t) = some (c.length + 1) := by
  refine zhl (P := fun c => ∀ d, zeH d c = true → zcl (d + 1) (c ++ 41 :: t) = some (c.length + 1)) ?_ ?_ ?_ ?_ ?_ ?_ (c.length + 1) c (by omega)
  · intro d h
    rw [zk0] at h
    have : d = 0 := by simpa using h
    subst this
    rw [List.nil_append, zcG, zY]; rfl
  · intro r ih d h
    rw [zjz] at h
    rw [List.cons_append, zd7, ih _ h]; rfl
  · intro r ih d h
    cases d with
    | zero => rw [zhp] at h; cases h
    | succ d =>
      rw [ziw] at h
      rw [List.cons_append, zcG, ih _ h]; rfl
  · intro d h; rw [zjy] at h; cases h
  · intro c r ih d h
    rw [zk1] at h
    rw [List.cons_append, List.cons_append, zej, ih _ h]; rfl
  · intro c r h1 h2 h3 ih d h
    rw [zk2 d r h1 h2 h3] at h
    rw [List.cons_append, zek d _ h1 h2 h3, ih _ h]; rfl
theorem zqH {c cur : Str} (h : zeH 0 c = true) : zc7 0 cur (32 :: 40 :: (c ++ [41])) = some [cur ++ 32 :: 40 :: (c ++ [41])] := by
  have hl := zpO [] c 0 h
  have hp : zcO 40 (c ++ [41]) = c.length + 2 := by
    unfold zcO
    rw [if_neg (by decide), hl]
  rw [zdb cur _ (by decide) (by decide), zgN _ _ (by decide), hp, if_neg (by omega), show c.length + 2 - 1 = (c ++ [41]).length by simp, zju _ _ _ (Nat.le_refl _), List.take_length, List.drop_length, zel]
  simp
def zk7 (c : UInt8) : Bool := zgd c || zmd c || c == 37 || c == 58 || c == 91 || c == 93
theorem zrD (c : UInt8) : (!zk7 c || ([44, 40, 41] : Str).contains c || inn c) = true := zT (fun c => !zk7 c || ([44, 40, 41] : Str).contains c || inn c) (by decide +kernel) c
theorem zm7 (c : UInt8) : (!zkt c || zk7 c) = true := zT (fun c => !zkt c || zk7 c) (by decide +kernel) c
theorem zo9 (c : UInt8) : (!zei c || zk7 c) = true := zT (fun c => !zei c || zk7 c) (by decide +kernel) c
theorem zkA (c : UInt8) : (!zav c || inn c) = true := zT (fun c => !zav c || inn c) (by decide +kernel) c
theorem zix {p q : UInt8 → Bool} (h : ∀ c, (!p c || q c) = true) {s : Str} (hs : s.all p = true) : s.all q = true := by
  refine List.all_eq_true.2 fun x hx => ?_
  have h1 := List.all_eq_true.1 hs x hx
  have h2 := h x
  rw [h1] at h2
  exact h2
theorem zjD : ∀ (n : Nat) (s : Str), s.length < n → zf1 s = true → s.all zk7 = true
  | 0, _, h, _ => by omega
  | n + 1, [], _, _ => rfl
  | n + 1, c :: s, hl, h => by
    simp only [List.length_cons] at hl
    cases hc : c == 37 with
    | true =>
      have : c = 37 := by simpa using hc
      subst this
      rw [zjq] at h
      match s, hl, h with
      | a :: b :: r, hl, h =>
        simp only [Bool.and_eq_true] at h
        simp only [List.length_cons] at hl
        have ha := zo9 a
        have hb := zo9 b
        rw [h.1.1] at ha
        rw [h.1.2] at hb
        have ih := zjD n r (by omega) h.2
        simp only [List.all_cons, Bool.and_eq_true]
        exact ⟨by decide, ha, hb, ih⟩
    | false =>
      rw [zjr c s hc] at h
      simp only [Bool.and_eq_true] at h
      have ih := zjD n s (by omega) h.2
      rw [List.all_cons, ih, Bool.and_true]
      unfold zk7
      rw [h.1]; rfl
theorem znL {s : Str} (h : zfu s = true) : s.all zk7 = true := by
  unfold zfu at h
  simp only [Bool.and_eq_true, decide_eq_true_eq, beq_iff_eq] at h
  obtain ⟨⟨⟨h1, h2⟩, h3⟩, h4⟩ := h
  have hi := zix zm7 (zp2 h4).1
  refine List.all_eq_true.2 fun x hx => ?_
  obtain ⟨i, hi2, rfl⟩ := List.getElem_of_mem hx
  by_cases h0 : i = 0
  · subst h0
    have : s[0] = 91 := by have := List.getElem?_eq_getElem hi2; rw [h2] at this; exact (Option.some.inj this).symm
    rw [this]; decide
  · by_cases hl : i = s.length - 1
    · subst hl
      have : s[s.length - 1] = 93 := by have := List.getElem?_eq_getElem hi2; rw [h3] at this; exact (Option.some.inj this).symm
      rw [this]; decide
    · refine List.all_eq_true.1 hi _ ?_
      unfold zj0
      have e : (List.drop 1 (List.take (s.length - 1) s))[i - 1]? = some s[i] := by
        rw [List.getElem?_drop, List.getElem?_take, if_pos (by omega), show 1 + (i - 1) = i by omega]
        exact List.getElem?_eq_getElem hi2
      exact List.mem_of_getElem? e
theorem zmv {s : Str} (h : ((zdd s).1 == 0) = false) : s.all zk7 = true := by
  unfold zdd at h
  split at h
  · rename_i hb; exact znL hb
  · split at h
    · rename_i hf; exact zix zm7 (zlG hf).1
    · split at h
      · rename_i hn
        unfold zgb at hn
        rw [Bool.and_eq_true] at hn
        exact zjD _ s (Nat.lt_succ_self _) hn.2
      · cases h
theorem zpP {s : Str} (h : ((zic s).2 == 0) = true) : s.all zk7 = true := by
  unfold zic at h
  split at h
  · rename_i hk; exact zmv (by simpa using hk)
  · split at h
    · cases h
    · rename_i k hl
      split at h
      · rename_i hk
        rw [Bool.and_eq_true] at hk
        have a := zmv (s := s.take k) (by simpa using hk.1)
        have b := zix zm7 (zkb hk.2)
        obtain ⟨h1, h2⟩ := zk5 hl
        have e : s = s.take k ++ 58 :: s.drop (k + 1) := by
          have g := List.getElem?_eq_getElem h1
          rw [h2] at g
          have hd := List.drop_eq_getElem_cons h1
          rw [← Option.some.inj g] at hd
          rw [← hd, List.take_append_drop]
        rw [e, List.all_append, List.all_cons, a, b]
        decide
      · cases h
theorem zqI {b : Str} (h : znF b = true) : b.all inn = true ∧ b ≠ [] := by
  unfold znF at h
  rw [Bool.or_eq_true] at h
  rcases h with h | h
  · have := (zbk _).1 h
    exact ⟨zix zkA (by unfold zbT at h; rw [Bool.and_eq_true] at h; exact h.1), this.1⟩
  · rw [Bool.and_eq_true] at h
    refine ⟨?_, ?_⟩
    · have hh := zpP h.1
      refine List.all_eq_true.2 fun x hx => ?_
      have h1 := List.all_eq_true.1 hh x hx
      have h2 := zrD x
      have h3 : ([44, 40, 41] : Str).contains x = false := by
        have h4 := h.2
        rw [Bool.not_eq_true'] at h4
        have := List.any_eq_false.1 h4 x hx
        simpa using this
      rw [h1, h3] at h2
      exact h2
    · rintro rfl
      exact absurd h.1 (by decide)
theorem zjE {a b : UInt8} {m : Str} (ha : zbs a = false) (hb : zbs b = false) : zeU (a :: (m ++ [b])) = a :: (m ++ [b]) := by
  unfold zeU zgD
  rw [← List.cons_append, zeV, hb, if_neg Bool.false_ne_true, List.cons_append, List.dropWhile_cons, ha, if_neg Bool.false_ne_true]
theorem zoK {v : api_Via} (h : zdB (zcm v) = (v, 0)) : (∀ cur, zc7 0 cur (zcm v) = some [cur ++ zcm v]) ∧ zeU (zcm v) = zcm v ∧ zcm v ≠ [] := by
  have hs := h
  unfold zdB at h
  split at h
  · exact absurd (show (2 : Int) = 0 from congrArg Prod.snd h) (by decide)
  · rename_i pv hv
    split at h
    · rename_i hc
      simp only [Bool.and_eq_true] at hc
      split at h
      · exact absurd (show (2 : Int) = 0 from congrArg Prod.snd h) (by decide)
      · rename_i c hcom
        have e := zlF 32 (zcm v) hc.1
        have hr := zqo hcom
        have huf := zea [32] (zbI 32 (zcm v)).2.1
        obtain ⟨hb1, hb2⟩ := zqI hc.2
        -- the first word
        obtain ⟨hw1, hw2⟩ : (zbI 32 (zcm v)).1.all inn = true ∧ (zbI 32 (zcm v)).1 ≠ [] := by
          rcases zmt hv with ⟨t1, t2⟩ | ⟨t1, t2, t3⟩
          · exact ⟨zix zkA (by unfold zbT at t1; rw [Bool.and_eq_true] at t1; exact t1.1), ((zbk _).1 t1).1⟩
          · rw [t3]
            refine ⟨?_, by simp⟩
            unfold zbT at t1 t2
            rw [Bool.and_eq_true] at t1 t2
            rw [List.all_append, List.all_cons, zix zkA t1.1, zix zkA t2.1]
            decide
        have hcb : c = [] ∨ zeH 0 c = true := by
          unfold zkk at hcom
          split at hcom
          · cases hcom; exact .inl rfl
          · split at hcom
            · rename_i hcc
              cases hcom
              simp only [Bool.and_eq_true] at hcc
              have := hcc.2
              unfold zjZ at this
              rw [Bool.and_eq_true] at this
              exact .inr this.1
            · cases hcom
        generalize (zbI 32 (zcm v)).1 = w at e hw1 hw2
        generalize (zbI 32 (zcm v)).2.1 = u at e hr huf hb1 hb2
        rw [hr] at huf
        generalize upto [32] u = b at huf hb1 hb2
        rw [← huf] at e
        obtain ⟨a0, w0, rfl⟩ : ∃ a0 w0, w = a0 :: w0 := by
          cases w with
          | nil => exact absurd rfl hw2
          | cons a0 w0 => exact ⟨a0, w0, rfl⟩
        obtain ⟨b0, z0, rfl⟩ : ∃ b0 z0, b = b0 ++ [z0] := ⟨b.dropLast, b.getLast hb2, (List.dropLast_concat_getLast hb2).symm⟩
        have ha0 : zbs a0 = false := by
          rw [List.all_cons, Bool.and_eq_true] at hw1
          have := hw1.1
          unfold inn at this
          simp only [Bool.and_eq_true, Bool.not_eq_true'] at this
          exact this.2
        have hz0 : zbs z0 = false := by
          rw [List.all_append, Bool.and_eq_true, List.all_cons, Bool.and_eq_true] at hb1
          have := hb1.2.1
          unfold inn at this
          simp only [Bool.and_eq_true, Bool.not_eq_true'] at this
          exact this.2
        have hpl : (a0 :: w0 ++ 32 :: (b0 ++ [z0]) : Str).all pln = true := by
          have e1 : (32 :: (b0 ++ [z0]) : Str).all pln = true := by rw [List.all_cons, zo8 hb1]; decide
          rw [List.all_append, zo8 hw1, e1]; rfl
        rw [← e]
        rcases hcb with hcb | hcb
        · subst hcb
          rw [show (if (([] : Str) == []) = true then ([] : Str) else [32, 40] ++ [] ++ [41]) = [] from rfl, List.append_nil]
          refine ⟨fun cur => ?_, ?_, by simp⟩
          · have := zf3 (a0 :: w0 ++ 32 :: (b0 ++ [z0])) cur [] hpl
            rw [List.append_nil] at this
            rw [this, zel]
          · have := zjE (m := w0 ++ 32 :: b0) ha0 hz0
            simpa using this
        · cases hcn : c == [] with
          | true =>
            rw [if_pos rfl, List.append_nil]
            refine ⟨fun cur => ?_, ?_, by simp⟩
            · have := zf3 (a0 :: w0 ++ 32 :: (b0 ++ [z0])) cur [] hpl
              rw [List.append_nil] at this
              rw [this, zel]
            · have := zjE (m := w0 ++ 32 :: b0) ha0 hz0
              simpa using this
          | false =>
            rw [if_neg Bool.false_ne_true]
            have e2 : (a0 :: w0 ++ 32 :: (b0 ++ [z0] ++ ([32, 40] ++ c ++ [41])) : Str) = (a0 :: w0 ++ 32 :: (b0 ++ [z0])) ++ (32 :: 40 :: (c ++ [41])) := by simp
            rw [e2]
            refine ⟨fun cur => ?_, ?_, by simp⟩
            · rw [zf3 _ cur _ hpl, zqH hcb, List.append_assoc]
            · have := zjE (m := w0 ++ 32 :: (b0 ++ [z0]) ++ 32 :: 40 :: c) ha0 (show zbs 41 = false by decide)
              simpa using this
    · exact absurd (show (2 : Int) = 0 from congrArg Prod.snd h) (by decide)
theorem zjF : ∀ (a b : List Str), (zbl a).2 = 0 → (zbl b).2 = 0 → zbl (a ++ b) = ((zbl a).1 ++ (zbl b).1, 0)
  | [], b, _, h => by show zbl b = (([] : List api_Via) ++ (zbl b).1, 0); rw [List.nil_append, ← h]
  | v :: a, b, ha, hb => by
    rw [List.cons_append]
    cases hs : zcd v with
    | none => rw [zeR _ hs] at ha; cases ha
    | some l =>
      rw [zdc _ hs] at ha ⊢
      rw [zdc _ hs]
      split at ha
      · rename_i h1
        rw [if_pos h1, if_pos h1]
        unfold ziu at ha ⊢
        split at ha
        · rename_i h2
          have ih := zjF a b (by simpa using h2) hb
          rw [if_pos h2, ih]
          simp
        · rename_i h2; exact absurd (by simpa using ha) h2
      · cases ha
theorem zk8 : ∀ (a b : List Str), (zbl (a ++ b)).2 = 0 → (zbl a).2 = 0 ∧ (zbl b).2 = 0
  | [], b, h => ⟨rfl, h⟩
  | v :: a, b, h => by
    rw [List.cons_append] at h
    cases hs : zcd v with
    | none => rw [zeR _ hs] at h; cases h
    | some l =>
      rw [zdc _ hs] at h ⊢
      split at h
      · rename_i h1
        rw [if_pos h1]
        unfold ziu at h ⊢
        split at h
        · rename_i h2
          have ih := zk8 a b (by simpa using h2)
          refine ⟨?_, ih.2⟩
          rw [ih.1]; rfl
        · rename_i h2; exact absurd (by simpa using h) h2
      · cases h
theorem zjG {v : Str} {l : List Str} (h : zcd v = some l) (ha : l.all okV = true) : zbl [v] = (l.map fun x => (zdB x).1, 0) := by
  rw [zdc _ h, if_pos ha]
  simp [zbl, ziu]
theorem zm8 {v : Str} (h : (zbl [v]).2 = 0) : ∃ l, zcd v = some l ∧ l.all okV = true ∧ zbl [v] = (l.map fun x => (zdB x).1, 0) := by
  cases hs : zcd v with
  | none => rw [zeR _ hs] at h; cases h
  | some l =>
    refine ⟨l, rfl, ?_⟩
    have h2 := h
    rw [zdc _ hs] at h2
    split at h2
    · rename_i h1; exact ⟨h1, zjG hs h1⟩
    · cases h2
theorem zm9 {l : List api_Field} {nm : Str} {v : api_Via} (hv : zdB (zcm v) = (v, 0))
    (h : (zbl ((l.filter (isN nm)).map (·.Value))).2 = 0) : zbl (((zdC l nm (zcm v)).filter (isN nm)).map (·.Value)) = ((zbl ((l.filter (isN nm)).map (·.Value))).1 ++ [v], 0) := by
  obtain ⟨hx, ht, hne⟩ := zoK hv
  have hok : okV (zcm v) = true := by unfold okV; rw [hv]; rfl
  have hval : (zdB (zcm v)).1 = v := by rw [hv]
  generalize zcm v = x at hx ht hne hok hval
  rcases zgX l nm x with ⟨h1, h2⟩ | ⟨a, f, b, h1, h2, h3, h4⟩
  · have hb : isN nm ⟨nm, x⟩ = true := by unfold isN; simp
    rw [h2, List.filter_append, h1, List.nil_append, List.filter_cons, hb, if_pos rfl, List.filter_nil]
    show zbl [x] = _
    have hsx : zcd x = some [x] := by
      unfold zcd
      rw [hx []]
      simp [elems, ht, hne]
    rw [zjG hsx (by simp [hok]), List.map_cons, hval]
    rfl
  · have hb : isN nm ⟨f.Name, zaH f.Value x⟩ = true := h2
    have e1 : (l.filter (isN nm)).map (·.Value) = (a.filter (isN nm)).map (·.Value) ++ [f.Value] := by
      rw [h1, List.filter_append, List.filter_cons, h2, if_pos rfl, h3]; simp
    have e2 : ((zdC l nm x).filter (isN nm)).map (·.Value) = (a.filter (isN nm)).map (·.Value) ++ [zaH f.Value x] := by
      rw [h4, List.filter_append, List.filter_cons, hb, if_pos rfl, h3]; simp
    rw [e1] at h
    rw [e1, e2]
    obtain ⟨p1, p2⟩ := zk8 _ _ h
    obtain ⟨lv, q1, q2, q3⟩ := zm8 p2
    have hap := znK hx ht hne q1
    have ho := zjG hap (by rw [List.all_append, q2]; simp [hok])
    rw [zjF _ _ p1 (by rw [ho]), zjF _ _ p1 p2, ho, q3, List.append_assoc, List.map_append, List.map_cons, hval]
    rfl
theorem zrE : isN ([86, 105, 97] : Str) = isN [118, 105, 97] := by
  funext f
  unfold isN
  have : low ([86, 105, 97] : Str) = low ([118, 105, 97] : Str) := by decide
  rw [this]
theorem zl3 (v : api_Via) (l : List api_Field) (h : zkO v) (hl : l.length < 900000000) (hs : zfo 900000 l) : zfQ v l = some (if (zeJ v).2 == 0 then (zdC l [86, 105, 97] (zcm v), 0) else ([], 2)) := by
  have hr := zkP h
  unfold zfQ
  rw [znB v h, Option.bind_some]
  cases he : (zeJ v).2 == 0 with
  | false =>
    have : zeJ v = ([], 2) := by
      unfold zeJ at he ⊢
      split
      · rename_i hc; rw [if_pos hc] at he; cases he
      · rfl
    rw [this]; rfl
  | true =>
    obtain ⟨e1, _⟩ := znC he
    have := zlJ l [86, 105, 97] (zcm v)
    rw [e1, Bool.not_true, if_neg Bool.false_ne_true, if_pos rfl]
    unfold zkG zfw
    rw [znU l (by omega), Option.bind_some, Option.bind_some, zl9 l _ (zcm v) (by decide) (by omega) (by omega) (zdg (by decide) hs), Option.bind_some, znU _ (by dsimp only; omega), Option.bind_some, Option.bind_some]
theorem zoL (rec1 : List api_Via → Int → Option (List api_Via × Int)) (i7 : Nat) (l : List Str) (e : Int) (l6 : List api_Via) (hl : l.length < 1000000000) (hx : ∀ x ∈ l, x.length < 300000000) (h6 : (l6.length + l.length) * 64 ≤ 140737488355328) (h7 : i7 < 1000000000) :
    zcD rec1 (i7 : Int) (l, e) fuel l6 0 = (if l.all okV then rec1 (l6 ++ l.map fun x => (zdB x).1) ((i7 + 1 : Nat) : Int) else some ([], 2)) := by
  have key : ∀ (n i : Nat) (out : List api_Via), i ≤ l.length → l.length - i < n → out.length = l6.length + i →
      zcD rec1 (i7 : Int) (l, e) n out (i : Int) = (if (l.drop i).all okV then rec1 (out ++ (l.drop i).map fun x => (zdB x).1) ((i7 + 1 : Nat) : Int) else some ([], 2)) := by
    intro n
    induction n with
    | zero => intro i _ _ h; omega
    | succ n ih =>
      intro i out hi h ho
      rw [zcD]
      by_cases hlt : i < l.length
      · have g : l[i]? = some l[i] := List.getElem?_eq_getElem hlt
        have hxl := hx l[i] (List.getElem_mem _)
        have ihh := ih (i + 1) (out ++ [(zdB l[i]).1]) (by omega) (by omega) (by simp; omega)
        dsimp only
        rw [decide_eq_true (show (i : Int) < (l.length : Int) by omega), if_pos rfl, zcH, g, Option.bind_some, ziU _ hxl, Option.bind_some, if_pos (zcj (by omega) (by omega)), zk (by omega), Option.bind_some, ihh, List.drop_eq_getElem_cons hlt, List.all_cons, List.map_cons]
        have : okV l[i] = ((zdB l[i]).2 == 0) := rfl
        rw [this]
        cases hq : (zdB l[i]).2 == 0 with
        | false =>
          rw [zqp hq]
          rfl
        | true =>
          rw [Bool.not_true, if_neg Bool.false_ne_true, Bool.true_and, List.append_assoc, List.singleton_append]
      · have : i = l.length := by omega
        subst this
        dsimp only
        rw [decide_eq_false (by omega), if_neg Bool.false_ne_true, zk (by omega), Option.bind_some, List.drop_length]
        simp
  have := key fuel 0 l6 (Nat.zero_le _) (by unfold fuel; omega) (by simp)
  rw [List.drop_zero] at this
  exact this
theorem ziX (vs : List Str) (hn : vs.length ≤ 1000) (hv : ∀ v ∈ vs, v.length < 300000000) : zfO vs = some (zbl vs) := by
  unfold zfO
  have key : ∀ (n i : Nat) (out : List api_Via), i ≤ vs.length → vs.length - i < n → out.length ≤ i * 400000000 → zcb vs n out (i : Int) = some (ziu out (zbl (vs.drop i))) := by
    intro n
    induction n with
    | zero => intro i _ _ h; omega
    | succ n ih =>
      intro i out hi h ho
      rw [zcb]
      by_cases hlt : i < vs.length
      · have g : vs[i]? = some vs[i] := List.getElem?_eq_getElem hlt
        have hvl := hv vs[i] (List.getElem_mem _)
        rw [decide_eq_true (show (i : Int) < (vs.length : Int) by omega), if_pos rfl, zcH, g, Option.bind_some, zks _ (by omega), Option.bind_some, List.drop_eq_getElem_cons hlt]
        unfold zo5
        cases hs : zcd vs[i] with
        | none => rw [zeR _ hs]; rfl
        | some l =>
          have hm := zlI hs
          have i1 := ih (i + 1) (out ++ l.map fun x => (zdB x).1) (by omega) (by omega) (by simp; omega)
          have l1 := zoL (zcb vs n) i l 0 out (by omega) (fun x hx => by have := hm.2 x hx; omega) (by omega) (by omega)
          dsimp only
          rw [if_neg (by decide), l1, i1, zdc _ hs, zqq]
          cases l.all okV <;> rfl
      · have : i = vs.length := by omega
        subst this
        rw [decide_eq_false (by omega), if_neg (by decide), List.drop_length]
        simp [zbl, ziu]
  have := key fuel 0 [] (Nat.zero_le _) (by unfold fuel; omega) (by simp)
  rw [List.drop_zero, zqr] at this
  exact this
theorem zkl (v : api_Via) (l : List api_Field) (hl : l.length < 1000000000) : zdM v l = some true := by
  unfold zdM
  rw [zkQ, Option.bind_some, Bool.not_true, if_neg Bool.false_ne_true, zmV, Option.bind_some, znf _ hl, Option.bind_some]
  dsimp only
  have hll := zqY l
  have hsl := zoW l
  generalize cutL l = l at hll hsl
  have hsv := zoA v
  have hrl : (zcm (cutV v)).length ≤ 250 := by
    unfold zcm cutV
    split <;> split <;> simp <;> omega
  generalize cutV v = v at hsv hrl
  rw [zl3 v l hsv (by omega) (zdg (by decide) hsl), Option.bind_some, zlZ v hsv, Option.bind_some]
  cases he : (zeJ v).2 == 0 with
  | false =>
    have : zeJ v = ([], 2) := by
      unfold zeJ at he ⊢
      split
      · rename_i hc; rw [if_pos hc] at he; cases he
      · rfl
    rw [this]
    rfl
  | true =>
    obtain ⟨e1, e2⟩ := znC he
    have hs2 := znq (nm := [86, 105, 97]) (x := zcm v) hsl (by decide)
    have hl2 := zlJ l [86, 105, 97] (zcm v)
    have hb := zm9 (l := l) (nm := [86, 105, 97]) e2
    rw [e1, Bool.not_true, if_neg Bool.false_ne_true, if_pos rfl]
    dsimp only
    rw [show (!((0 : Int) == 0)) = false from rfl, if_neg Bool.false_ne_true, zko l _ _ (by decide) (by omega) (by omega) (zdg (by decide) hsl), Option.bind_some, zma _ _ (by omega), Option.bind_some, beq_self_eq_true, Bool.not_true]
    unfold zby
    dsimp only
    rw [if_neg Bool.false_ne_true, zg4 l _ (by decide) (by omega) (zdg (by decide) hsl), Option.bind_some]
    rw [zrE] at hb
    generalize zdC l [86, 105, 97] (zcm v) = m at hs2 hl2 hb
    have hvals : ∀ (k : List api_Field), k.length ≤ 200 → zfo 700 k → (∀ nm, ((k.filter (isN nm)).map (·.Value)).length ≤ 200 ∧ ∀ v ∈ (k.filter (isN nm)).map (·.Value), v.length < 700) := by
      intro k h1 h2 nm
      refine ⟨?_, fun v hv => ?_⟩
      · rw [List.length_map]
        have := List.length_filter_le (isN nm) k
        omega
      · obtain ⟨f, hf, rfl⟩ := List.mem_map.1 hv
        exact (h2 f (List.mem_filter.1 hf).1).2
    have v1 := hvals l (by omega) (zdg (by decide) hsl) [118, 105, 97]
    have v2 := hvals m (by omega) (zdg (by omega) hs2) [118, 105, 97]
    rw [ziX _ (by omega) (fun v hv => by have := v1.2 v hv; omega), Option.bind_some, zg4 m _ (by decide) (by omega) (zdg (by omega) hs2), Option.bind_some, ziX _ (by omega) (fun v hv => by have := v2.2 v hv; omega), Option.bind_some]
    have w1 := zms _ 700 v1.2
    have w2 := zms _ 700 v2.2
    unfold zaT
    rw [if_pos (zcj (by omega) (by omega))]
    cases hq : (zbl ((l.filter (isN [118, 105, 97])).map (·.Value))).2 == 0 with
    | false => rfl
    | true =>
      have hbq := hb (by simpa using hq)
      rw [hbq] at w2 ⊢
      dsimp only at w2 ⊢
      rw [Bool.not_true, if_neg Bool.false_ne_true]
      show (if true = true then (zd6 _ _).bind _ else _) = _
      rw [if_pos rfl, zl0 _ _ (by omega), beq_self_eq_true]
      rfl
end Go.Dm
end
