/-
 Chunks that come piece by piece: any text. The program's.
 Chunks: any text. The document's.
 Messages: any text. The program's.
 Bodies and messages: any text. The document's.
 Messages: any text. The document's, and what both say.
 Streams: any text has the document's requests, and the document's responses.
-/
import Derived.Test.YtgjjlnlhpjjcpaaGreatDoorT26R
section
namespace Go.Dm
inductive RL where
 | more
 | bad (k : Nat) (e : Int)
 | line (k : Nat)
def zmW (lim : Option Int) (k : Nat) : Bool := match lim with
 | none => false
 | some m => decide (m < (k : Int) + 1)
def rdL (lim : Option Int) : Nat → Bool → Str → RL
 | _, _, [] => .more
 | k, cr, c :: w => if decide (4098 ≤ k) || zmW lim k then .bad (k + 1) 3 else if !((c == 10) == cr) then .bad (k + 1) 24 else if c == 10 then .line (k + 1) else rdL lim (k + 1) (c == 13) w
theorem zho {lim : Option Int} : ∀ {w : Str} {k : Nat} {cr : Bool} {q : Nat}, rdL lim k cr w = .line q → k < q ∧ q ≤ k + w.length ∧ q ≤ 4098
 | [], k, cr, q, h => by cases h
 | c :: w, k, cr, q, h => by
  rw [rdL] at h
  split at h
  ·cases h
  ·rename_i h1
   have hk : k < 4098 := by
    rcases Nat.lt_or_ge k 4098 with h2 | h2
    ·exact h2
    ·rw [ydt h2] at h1; exact absurd rfl h1
   split at h
   ·cases h
   ·split at h
    ·cases h; simp; omega
    ·have := zho h;simp only [ylc]; omega
theorem zok {lim : Option Int} : ∀ {w : Str} {k : Nat} {cr : Bool} {q : Nat} {e : Int}, rdL lim k cr w = .bad q e → k < q ∧ q ≤ k + w.length ∧ (e = 3 ∨ e = 24)
 | [], k, cr, q, e, h => by cases h
 | c :: w, k, cr, q, e, h => by
  rw [rdL] at h
  split at h
  ·cases h; simp
  ·split at h
   ·cases h; simp
   ·split at h
    ·cases h
    ·have := zok h;simp only [ylc]; omega
theorem zwu {m : Int} : ∀ {w : Str} {k : Nat} {cr : Bool} {q : Nat}, rdL (some m) k cr w = .line q → (q : Int) ≤ m
 | [], k, cr, q, h => by cases h
 | c :: w, k, cr, q, h => by
  rw [rdL] at h
  split at h
  ·cases h
  ·rename_i h1
   split at h
   ·cases h
   ·split at h
    ·cases h;unfold zmW at h1;have h2 : ¬ (m < (k : Int) + 1) := fun h3 => h1 (by dsimp only; rw [ydt h3, Bool.or_true]);omega
    ·exact zwu h
theorem zDb {L sp : Int} {w : Str} {cr : Bool} {q : Nat} (h : rdL (some (L - sp)) 0 cr w = .line q) : sp + ((q - 1 : Nat) : Int) + 1 ≤ L := by
 have h1 := zwu h;have h2 := (zho h).1;omega
theorem zxL (s : Str) (n : Nat) (o : Str) (d : dechunk_Decoder) (i : Nat) (e : Int) (he : (e == 0) = false) : FL s (n + 1) o d i false e = some ((i : Int), o, false, e, offD d) := by
 unfold FL;rw [zx];unfold zav zc7 zbM;rw [he];cases decide ((i : Int) < (s.length : Int)) <;> rfl
def zqP (a L sp : Int) (k : Nat) : Option Int := if a == 3 then some (L - sp + k) else none
theorem zwv (L a lf sm sp : Int) (u : Str) (tr : List api_Field) (c : UInt8) (i5 : Int) (hu : u.length < 1000000) (hc : (c == 10 && zhl u) = false) :
  zt ⟨L, a, u, lf, sm, sp, tr⟩ c i5 = some (if decide (4098 ≤ u.length) || decide (L < i5) then (false, 3, ⟨L, a, u, lf, sm, i5, tr⟩) else if !((c == 10) == zhl u) then (false, 24, ⟨L, a, u, lf, sm, i5, tr⟩) else (false, 0, ⟨L, a, u ++ [c], lf, sm, i5, tr⟩)) := by
 have j2 : zT ⟨L, a, u, lf, sm, sp, tr⟩ c i5 (zhl u) = some (if decide (4098 ≤ u.length) || decide (L < i5) then (false, 3, ⟨L, a, u, lf, sm, i5, tr⟩) else if !((c == 10) == zhl u) then (false, 24, ⟨L, a, u, lf, sm, i5, tr⟩) else (false, 0, ⟨L, a, u ++ [c], lf, sm, i5, tr⟩)) := by
  unfold zT zah;dsimp only
  by_cases h1 : 4098 ≤ u.length
  ·rw [ydt (show (4098 : Int) ≤ (u.length : Int) by omega), if_pos rfl, if_pos rfl, ydt h1, Bool.true_or, if_pos rfl]
  ·rw [ydf (show ¬ (4098 : Int) ≤ (u.length : Int) by omega), if_neg yfn, ydf h1, Bool.false_or]
   cases decide (L < i5) with
   | true => rfl
   | false =>
    rw [if_neg yfn, if_neg yfn]
    cases h2 : (c == 10) with
    | true =>
     rw [h2, Bool.true_and] at hc;rw [hc]; rfl
    | false =>
     cases zhl u with
     | true => rfl
     | false =>
      rw [if_neg (by decide), ynf, if_pos rfl, if_pos (zba (by omega) (by omega)), if_neg (by decide)]
 unfold zt;dsimp only
 by_cases h : 0 < u.length
 ·have g : u[u.length - 1]? = some (u[u.length - 1]'(by omega)) := ygg (by omega)
  have e2 : zbb (u.length : Int) 1 = some ((u.length - 1 : Nat) : Int) := by rw [zY (by omega) (by omega)]; exact congrArg some (by omega)
  have e3 : zhl u = (u[u.length - 1]'(by omega) == 13) := by unfold zhl; rw [g]; exact Option.some_beq_some ..
  rw [ydt (show 0 < (u.length : Int) by omega), if_pos rfl, e2, yob, zaG, g, yob, ← e3];exact j2
 ·have hn : u = [] := List.length_eq_zero_iff.1 (by omega);rw [ydf (by omega), if_neg yfn];subst hn;exact j2
theorem zww (L a lf sm : Int) (tr : List api_Field) (o s : Str) (ha : a = 0 ∨ a = 3) (hs : s.length < 100000000) (ho : o.length < 100000000) : ∀ (w u : Str) (sp : Int) (i : Nat), At s i w → 0 ≤ sp → sp < 900000000 - (w.length : Int) → (a = 0 → sp ≤ L) → u.length ≤ 4098 →
  match rdL (zqP a L sp u.length) u.length (zhl u) w with
  | .more => ∀ n, w.length < n → ∃ d, FL s n o ⟨L, a, u, lf, sm, sp, tr⟩ i false 0 = some ((s.length : Int), o, false, 0, d)
  | .bad q e => ∀ n, w.length < n → ∃ d, FL s n o ⟨L, a, u, lf, sm, sp, tr⟩ i false 0 = some (((i + (q - u.length) : Nat) : Int), o, false, e, d)
  | .line q => ∃ v, u ++ w.take (q - u.length - 1) = v ++ [13] ∧ v.length = q - 2 ∧ w.drop (q - u.length - 1) = 10 :: w.drop (q - u.length) ∧
    ∀ n, FL s (n + (q - u.length - 1)) o ⟨L, a, u, lf, sm, sp, tr⟩ i false 0 = FL s n o ⟨L, a, v ++ [13], lf, sm, sp + zko a * ((q - u.length - 1 : Nat) : Int), tr⟩ (i + (q - u.length - 1)) false 0 := by
 intro w
 induction w with
 | nil =>
  intro u sp i hat _ _ _ _;rw [show rdL (zqP a L sp u.length) u.length (zhl u) [] = .more by unfold rdL; rfl];dsimp only;intro n hn;obtain ⟨n, rfl⟩ : ∃ m, n = m + 1 := ⟨n - 1, by simp at hn; omega⟩;rw [hat.end_nil];exact ⟨_, zpc s n o _⟩
 | cons c w ihw =>
  intro u sp i hat h0 hsp ha0 hu;have hl := hat.len;simp only [ylc] at hl hsp;have hdr := hat.drop
  have hnext : At s (i + 1) w := by have := hat.next 1 (by simp); simpa using this
  have hi5 : zko a = 0 ∨ zko a = 1 := by unfold zko; split <;> simp
  -- what is over
  have hov : (decide (4098 ≤ u.length) || zmW (zqP a L sp u.length) u.length) = (decide (4098 ≤ u.length) || decide (L < sp + zko a)) := by
   congr 1
   unfold zmW zqP zko
   rcases ha with rfl | rfl
   ·have := ha0 rfl;rw [if_neg (by decide), if_neg (by decide)];exact (ydf (by omega)).symm
   ·rw [if_pos (by decide), if_pos (by decide)];exact decide_eq_decide.2 (by omega)
  have hstep0 : zk ⟨L, a, u, lf, sm, sp, tr⟩ (c :: w) = (zt ⟨L, a, u, lf, sm, sp, tr⟩ c (sp + zko a)).bind fun r => some (1, [], r.1, r.2.1, r.2.2) := by
   rw [zqF _ _ _ _ _ _ _ _ _ ha]
   rcases ha with rfl | rfl
   ·rw [zyk, show zko 0 = 0 from rfl, Int.add_zero]
   ·rw [zyl _ _ _ _ _ _ _ h0 (by omega), show zko 3 = 1 from rfl]
  have errs : ∀ (e : Int) (d : dechunk_Decoder), (e == 0) = false → zk ⟨L, a, u, lf, sm, sp, tr⟩ (c :: w) = some (1, [], false, e, d) → ∀ n, (c :: w).length < n → ∃ d, FL s n o ⟨L, a, u, lf, sm, sp, tr⟩ i false 0 = some (((i + (u.length + 1 - u.length) : Nat) : Int), o, false, e, d) := by
   intro e d he hst n hn;obtain ⟨n, rfl⟩ : ∃ m, n = m + 1 + 1 := ⟨n - 2, by simp at hn; omega⟩;rw [zig (k := 1) (q := []) (n + 1) (by omega) hs ho (by simp) (by decide) (by rw [hdr]; exact hst), zxL _ _ _ _ _ _ he, yan, Nat.add_sub_cancel_left];exact ⟨_, rfl⟩
  rw [rdL]
  by_cases hend : (c == 10 && zhl u) = true
  ·-- the line's end
   rw [Bool.and_eq_true] at hend;obtain ⟨e1, e2⟩ := hend;obtain ⟨p1, p2⟩ := zqp e2
   by_cases hbad : (decide (4098 ≤ u.length) || zmW (zqP a L sp u.length) u.length) = true
   ·rw [if_pos hbad];refine errs 3 ⟨L, a, u, lf, sm, sp + zko a, tr⟩ (by decide) ?_;rw [hstep0]
    have hj2 : zt ⟨L, a, u, lf, sm, sp, tr⟩ c (sp + zko a) = some (false, 3, ⟨L, a, u, lf, sm, sp + zko a, tr⟩) := by
     unfold zt;dsimp only;have g : u[u.length - 1]? = some (u[u.length - 1]'(by omega)) := ygg (by omega)
     have e4 : zbb (u.length : Int) 1 = some ((u.length - 1 : Nat) : Int) := by rw [zY (by omega) (by omega)]; exact congrArg some (by omega)
     rw [ydt (show 0 < (u.length : Int) by omega), if_pos rfl, e4, yob, zaG, g, yob];unfold zT zah;dsimp only;rw [hov] at hbad
     by_cases h1 : 4098 ≤ u.length
     ·rw [ydt (show (4098 : Int) ≤ (u.length : Int) by omega), if_pos rfl, if_pos rfl]
     ·rw [ydf h1, Bool.false_or] at hbad;rw [ydf (show ¬ (4098 : Int) ≤ (u.length : Int) by omega), if_neg yfn, hbad, if_pos rfl]
    rw [hj2, yob]
   ·rw [if_neg hbad, e1, e2, if_neg (by decide), if_pos rfl]
    have hq : u.length + 1 - u.length - 1 = 0 := by omega
    dsimp only;rw [hq]
    have hue : u = u.take (u.length - 1) ++ [13] := by
     have h1 := List.take_append_drop (u.length - 1) u
     have h2 : u.drop (u.length - 1) = [13] := by
      have h3 : (u.length - 1) < u.length := by omega
      rw [ydg h3]
      have h4 : u[u.length - 1] = 13 := by
       rw [ygg h3] at p2; exact yoi p2
      rw [h4, show u.length - 1 + 1 = u.length by omega, ydl]
     rw [h2] at h1; exact h1.symm
    have hc10 : c = 10 := by simpa using e1
    refine ⟨u.take (u.length - 1), by simp only [List.take_zero, yan]; exact hue, by rw [ylt]; omega, by rw [hc10]; simp, fun n => ?_⟩;rw [← hue];simp
  ·have hend' : (c == 10 && zhl u) = false := by simpa using hend
   have hj := zwv L a lf sm sp u tr c (sp + zko a) (by omega) hend';rw [← hov] at hj
   by_cases hbad : (decide (4098 ≤ u.length) || zmW (zqP a L sp u.length) u.length) = true
   ·rw [if_pos hbad] at hj ⊢;exact errs 3 _ (by decide) (by rw [hstep0, hj, yob])
   ·rw [if_neg hbad] at hj ⊢
    by_cases hb2 : (!((c == 10) == zhl u)) = true
    ·rw [if_pos hb2] at hj ⊢;exact errs 24 _ (by decide) (by rw [hstep0, hj, yob])
    ·rw [if_neg hb2] at hj ⊢
     have h4098 : u.length < 4098 := by
      rcases Nat.lt_or_ge u.length 4098 with h2 | h2
      ·exact h2
      ·rw [ydt h2] at hbad; exact absurd rfl hbad
     have hc10 : (c == 10) = false := by
      cases h1 : (c == 10) with
      | false => rfl
      | true =>
       rw [h1, Bool.true_and] at hend';rw [h1, hend'] at hb2; exact absurd rfl hb2
     rw [if_neg (by rw [hc10]; exact yfn)];have ih := ihw (u ++ [c]) (sp + zko a) (i + 1) hnext (by omega) (by omega) (fun h => by subst h; rw [show zko 0 = 0 from rfl]; have := ha0 rfl; omega) (by simp; omega)
     have hlim : zqP a L (sp + zko a) (u ++ [c]).length = zqP a L sp u.length := by
      unfold zqP zko
      split
      ·rw [yla, List.length_singleton]; congr 1; omega
      ·rfl
     have h13 : zhl (u ++ [c]) = (c == 13) := zyZ u c;rw [hlim, h13, yla, List.length_singleton] at ih
     have hone : ∀ n, FL s (n + 1) o ⟨L, a, u, lf, sm, sp, tr⟩ i false 0 = FL s n o ⟨L, a, u ++ [c], lf, sm, sp + zko a, tr⟩ (i + 1) false 0 := by
      intro n;rw [zig (k := 1) (q := []) n (by omega) hs ho (by simp) (by decide) (by rw [hdr, hstep0, hj, yob]; rfl), yan]
     cases hr : rdL (zqP a L sp u.length) (u.length + 1) (c == 13) w with
     | more =>
      rw [hr] at ih;dsimp only at ih ⊢;intro n hn;obtain ⟨n, rfl⟩ : ∃ m, n = m + 1 := ⟨n - 1, by simp at hn; omega⟩;rw [hone];exact ih n (by simpa using hn)
     | bad q e =>
      rw [hr] at ih;dsimp only at ih ⊢;have hq := (zok hr).1;intro n hn;obtain ⟨n, rfl⟩ : ∃ m, n = m + 1 := ⟨n - 1, by simp at hn; omega⟩;rw [hone];obtain ⟨d, hd⟩ := ih n (by simpa using hn);exact ⟨d, by rw [hd, show i + 1 + (q - (u.length + 1)) = i + (q - u.length) by omega]⟩
     | line q =>
      rw [hr] at ih;dsimp only at ih ⊢;have hq := (zho hr).1;obtain ⟨v, g1, g2, g3, g4⟩ := ih
      have e1 : q - u.length - 1 = (q - (u.length + 1) - 1) + 1 := by omega
      have e2 : q - u.length = (q - (u.length + 1)) + 1 := by omega
      refine ⟨v, ?_, g2, ?_, fun n => ?_⟩
      ·rw [e1, List.take_succ_cons, ← g1]; simp
      ·rw [e1, e2, List.drop_succ_cons, List.drop_succ_cons]; exact g3
      ·rw [e1, ← Nat.add_assoc, hone, g4]
       have e3 : sp + zko a + zko a * ((q - (u.length + 1) - 1 : Nat) : Int) = sp + zko a * ((q - (u.length + 1) - 1 + 1 : Nat) : Int) := by
        rw [Int.natCast_add, Int.mul_add]; simp; omega
       rw [e3, show i + 1 + (q - (u.length + 1) - 1) = i + (q - (u.length + 1) - 1 + 1) by omega]
def zlz (r : Str) : Option Str := if r.takeWhile zF == [] then none else if !zet 61 (r.dropWhile zF) then some (r.dropWhile zF) else (zlQ (z7 61 (r.dropWhile zF))).map (·.2)
theorem zwx {r r2 : Str} (h : zlz r = some r2) : r2.length < r.length := by
 unfold zlz at h;have h1 := zi7 zF r
 split at h
 ·cases h
 ·rename_i ht
  have h4 : r.takeWhile zF ≠ [] := fun e => ht (by rw [e]; rfl);have h5 := List.length_pos_iff.2 h4
  split at h
  ·cases h; omega
  ·cases hw : zlQ (z7 61 (r.dropWhile zF)) with
   | none => rw [hw] at h; cases h
   | some q =>
    rw [hw] at h;cases h;have h2 := zuJ (x := q.1) (r' := q.2) hw;have h3 := zzp 61 (r.dropWhile zF);dsimp only;omega
section
variable {s r : Str} {k : Nat}
theorem zDc (hs : s.length < 1000000000) (h : At s k r) : match zlz r with
  | some r2 => ∃ x k', At s k' r2 ∧ zbL ⟨scn s k⟩ = some (x, true, scn s k')
  | none => ∃ x c, zbL ⟨scn s k⟩ = some (x, false, c) := by
 obtain ⟨k1, h1, e1⟩ := zqh hs h;unfold zbL zlz;dsimp only;rw [e1, yob];dsimp only
 cases ht : r.takeWhile zF == [] with
 | true => exact ⟨_, _, rfl⟩
 | false =>
  obtain ⟨k2, h2, e2⟩ := zfA hs 61 h1;rw [ynf, ynt, if_neg yfn, if_neg yfn, e2, yob];dsimp only;unfold zbK
  cases hb : zet 61 (r.dropWhile zF) with
  | false =>
   rw [zkZ hb] at h2;exact ⟨_, k2, h2, rfl⟩
  | true =>
   have hw := zyG hs h2;have e3 : (⟨(scn s k2).f_s, (scn s k2).f_at⟩ : scan_Scanner) = scn s k2 := rfl;rw [ynt, if_neg yfn, if_neg yfn, e3]
   cases hq : zlQ (z7 61 (r.dropWhile zF)) with
   | none =>
    rw [hq] at hw;obtain ⟨x, c, e4⟩ := hw;rw [e4];exact ⟨_, _, rfl⟩
   | some q =>
    rw [hq] at hw;obtain ⟨k3, h3, e4⟩ := hw;rw [e4];exact ⟨_, k3, h3, rfl⟩
end
def zoB : Nat → Str → Bool
 | 0, _ => false
 | n + 1, r => if zet 59 r then (match zlz (z7 59 r) with
  | none => false
  | some r2 => zoB n r2) else r == []
def zmk (x : Int × Int) (ok : Bool) : Int × Int := if !ok || x.2 == 2 then (0, 31) else if x.2 == 0 then (x.1, 0) else (0, x.2)
def zaB (s : Str) : Int × Int := zmk (zK 16 (s.takeWhile zcv) 1099511627776) (zoB (s.length + 1) (s.dropWhile zcv))
theorem zxM (s : Str) (hs : s.length < 100000000) (r9 : Int × Int) : ∀ (m : Nat) (r : Str) (k n : Nat) (out : List api_Attr), At s k r → r.length < n → r.length < m → out.length ≤ k →
  ∃ l, zcs r9 n out s (k : Int) = some ((zmk r9 (zoB m r)).1, l, (zmk r9 (zoB m r)).2) := by
 intro m
 induction m with
 | zero => intro r k n out _ _ h; omega
 | succ m ih =>
  intro r k n out hat hn hm ho;obtain ⟨n, rfl⟩ : ∃ q, n = q + 1 := ⟨n - 1, by omega⟩;obtain ⟨k1, h1, e1⟩ := zfA (by omega) 59 hat;have e0 : (⟨s, (k : Int)⟩ : scan_Scanner) = scn s k := rfl;have hl0 := hat.len;rw [zcs, e0, e1, yob, zoB];dsimp only
  have fin : ∀ t, ∃ l, zcr r9 out t = some ((if t then ((0 : Int), (31 : Int)) else if r9.2 == 0 then (r9.1, 0) else (0, r9.2)).1, l, (if t then ((0 : Int), (31 : Int)) else if r9.2 == 0 then (r9.1, 0) else (0, r9.2)).2) := by
   intro t;unfold zcr
   cases t with
   | true => exact ⟨_, rfl⟩
   | false =>
    rw [if_neg yfn]
    cases h2 : r9.2 == 0 with
    | true => exact ⟨_, rfl⟩
    | false => exact ⟨_, rfl⟩
  cases hb : zet 59 r with
  | false =>
   rw [zkZ hb] at h1;rw [if_neg yfn, if_neg yfn];unfold zfs;have e3 : (⟨(scn s k1).f_s, (scn s k1).f_at⟩ : scan_Scanner) = scn s k1 := rfl;rw [e3, zvS h1, yob];unfold zmk
   cases hr : r == [] with
   | false => exact fin true
   | true =>
    rw [ynt, if_neg yfn, Bool.false_or];exact fin (r9.2 == 2)
  | true =>
   rw [if_pos rfl, if_pos rfl];have hr := zeF hb;have hrl := congrArg List.length hr;rw [ylc] at hrl;have hl1 := h1.len;have hone := zDc (by omega) h1
   cases ho2 : zlz (z7 59 r) with
   | none =>
    rw [ho2] at hone;obtain ⟨x, c, e4⟩ := hone;rw [e4];exact ⟨_, rfl⟩
   | some r2 =>
    rw [ho2] at hone;obtain ⟨x, k2, h2, e4⟩ := hone;have hl2 := zwx ho2;have hl3 := h2.len;rw [e4, yob];dsimp only;rw [ynt, if_neg yfn, if_pos (zba (by omega) (by omega))];exact ih r2 k2 n (out ++ [x]) h2 (by omega) (by omega) (by rw [yla, List.length_singleton]; omega)
theorem zpi (s : Str) (hs : s.length < 100000000) : ∃ l, zfJ s = some ((zaB s).1, l, (zaB s).2) := by
 obtain ⟨k1, h1, e1⟩ := zmb zgl (by omega) (At.zero s);unfold zfJ;rw [zhS, yob, e1, yob];dsimp only
 have htl : (s.takeWhile zcv).length ≤ s.length := by have := zi7 zcv s; omega
 have hdl : (s.dropWhile zcv).length ≤ s.length := by have := zi7 zcv s; omega
 rw [zsf _ _ (by omega) (by decide) (by decide), yob];exact zxM s hs _ (s.length + 1) (s.dropWhile zcv) k1 fuel [] h1 (zeK (by omega)) (by omega) (yz _)
theorem zsO (s : Str) : (zaB s).2 = 0 → 0 ≤ (zaB s).1 ∧ (zaB s).1 ≤ 1099511627776 := by
 unfold zaB zmk;intro h
 split at h
 ·cases h
 ·split at h
  ·rename_i h1 h2
   rw [if_neg h1, if_pos h2];dsimp only;unfold zK at h2 ⊢
   split at h2
   ·cases h2
   ·rename_i h3
    rw [if_neg h3]
    split at h2
    ·cases h2
    ·rename_i h4
     rw [if_neg h4];dsimp only;omega
  ·rename_i h2
   dsimp only at h;rw [h] at h2; exact absurd rfl h2
inductive CR where
 | more
 | bad (k : Nat) (e : Int)
 | whole (k : Nat) (o : Str) (tr : List api_Field)
def trR (L : Int) (o : Str) : Nat → Nat → Int → List api_Field → Str → CR
 | 0, _, _, _, _ => .more
 | f + 1, i, sp, tr, w => match rdL (some (L - sp)) 0 false w with
  | .more => .more
  | .bad k e => .bad (i + k) e
  | .line k => if w.take (k - 2) == [] then .whole (i + k) o tr else if !((zaR (w.take (k - 2))).2 == 0) then .bad (i + k) (zaR (w.take (k - 2))).2 else if decide (100 ≤ tr.length) then .bad (i + k) 3 else trR L o f (i + k) (sp + k) (tr ++ [(zaR (w.take (k - 2))).1]) (w.drop k)
def afR (i : Nat) (g : Nat → Str → CR) : Str → CR
 | [] => .more
 | c :: w => if !(c == 13) then .bad (i + 1) 31 else match w with
  | [] => .more
  | c2 :: w2 => if !(c2 == 10) then .bad (i + 2) 31 else g (i + 2) w2
def szR (L : Int) : Nat → Nat → Int → Str → Str → CR
 | 0, _, _, _, _ => .more
 | f + 1, i, sm, o, w => match rdL none 0 false w with
  | .more => .more
  | .bad k e => .bad (i + k) e
  | .line k => if !((zaB (w.take (k - 2))).2 == 0) then .bad (i + k) (zaB (w.take (k - 2))).2 else if decide (1099511627776 - sm < (zaB (w.take (k - 2))).1) then .bad (i + k) 7
   else if (zaB (w.take (k - 2))).1 == 0 then trR L o f (i + k) 0 [] (w.drop k)
   else if (w.drop k).length < (zaB (w.take (k - 2))).1.toNat then .more
   else afR (i + k + (zaB (w.take (k - 2))).1.toNat) (fun i w' => szR L f i (sm + (zaB (w.take (k - 2))).1) (o ++ (w.drop k).take (zaB (w.take (k - 2))).1.toNat) w') ((w.drop k).drop (zaB (w.take (k - 2))).1.toNat)
def ztU (r : CR) (L : Nat) (x : Option (Int × Str × Bool × Int × dechunk_Decoder)) : Prop := match r with
 | .more => ∃ o d, x = some ((L : Int), o, false, 0, d)
 | .bad k e => ∃ o d, x = some ((k : Int), o, false, e, d) ∧ (e == 0) = false
 | .whole k o tr => ∃ d, x = some ((k : Int), o, true, 0, d) ∧ d.f_trailers = tr
theorem zza {s : Str} (h : (!((zaR s).2 == 0)) = true) : ((zaR s).2 == 0) = false := by simpa using h
theorem zuD {w : Str} {v : Str} {q : Nat} (h1 : w.take (q - 1) = v ++ [13]) (h2 : v.length = q - 2) : w.take (q - 2) = v := by
 have h3 := congrArg (List.take (q - 2)) h1
 have hmin : min (q - 2) (q - 1) = q - 2 := by omega
 rw [List.take_take, hmin] at h3;rw [h3, ← h2, List.take_left]
theorem tr_run (L lf sm : Int) (o s : Str) (hs : s.length < 100000000) (ho : o.length < 100000000) (hL : L ≤ 1000000) : ∀ (f : Nat) (w : Str) (i : Nat) (sp : Int) (tr : List api_Field) (n : Nat), At s i w → w.length < f → 0 ≤ sp → sp < 400000000 - (w.length : Int) → tr.length ≤ 100 → w.length + 1 < n →
  ztU (trR L o f i sp tr w) s.length (FL s n o ⟨L, 3, [], lf, sm, sp, tr⟩ i false 0) := by
 intro f
 induction f with
 | zero => intro w i sp tr n _ h; omega
 | succ f ih =>
  intro w i sp tr n hat hf h0 hsp htr hn;have hlen := hat.len;have hr := zww L 3 lf sm tr o s (.inr rfl) hs ho w [] sp i hat h0 (by omega) (fun h => by cases h) (by simp)
  have hlim : zqP 3 L sp ([] : Str).length = some (L - sp) := by unfold zqP; rw [if_pos (by decide)]; simp
  rw [hlim] at hr;have h13 : zhl ([] : Str) = false := rfl;rw [h13] at hr;rw [trR];simp only [yln] at hr
  cases hc : rdL (some (L - sp)) 0 false w with
  | more =>
   rw [hc] at hr;obtain ⟨d, e⟩ := hr n (by omega);exact ⟨o, d, e⟩
  | bad q e =>
   rw [hc] at hr;obtain ⟨d, e2⟩ := hr n (by omega);have he := (zok hc).2.2;exact ⟨o, d, by rw [e2]; simp, by rcases he with rfl | rfl <;> rfl⟩
  | line q =>
   rw [hc] at hr;obtain ⟨q1, q2, q3⟩ := zho hc;obtain ⟨v, g1, g2, g3, g4⟩ := hr;simp only [yna, Nat.sub_zero] at g1 g2 g3 g4;have hv := zuD g1 g2
   have hq2 : 2 ≤ q := by
    have := congrArg List.length g1;rw [ylt, yla, List.length_singleton] at this;omega
   have hat1 : At s (i + (q - 1)) (10 :: w.drop q) := by
    have := hat.next (q - 1) (by omega)
    rwa [g3] at this
   have hat2 : At s (i + q) (w.drop q) := hat.next q (by omega);obtain ⟨n, rfl⟩ : ∃ m, n = m + 1 + (q - 1) := ⟨n - q, by omega⟩;rw [g4, show zko 3 = 1 from rfl, Int.one_mul]
   have hstep : zk ⟨L, 3, v ++ [13], lf, sm, sp + ((q - 1 : Nat) : Int), tr⟩ (10 :: w.drop q) = (zau ⟨L, 3, [], lf, sm, sp + q, tr⟩ v).bind fun r => some (1, [], r.1, r.2.1, r.2.2) := by
    have hLs : sp + ((q - 1 : Nat) : Int) + 1 ≤ L := zDb hc;rw [zqF _ _ _ _ _ _ _ _ _ (.inr rfl), zyl _ _ _ _ _ _ _ (by omega) (by omega), zpF L 3 lf sm _ v tr _ (by omega) hLs, if_neg (by decide), show sp + ((q - 1 : Nat) : Int) + 1 = sp + (q : Int) by omega];cases zau ⟨L, 3, [], lf, sm, sp + q, tr⟩ v <;> rfl
   have hdr1 := hat1.drop;have hl1 := hat1.len;simp only [ylc] at hl1;have hw := yld (i := q) (l := w);dsimp only;rw [hv];unfold zau at hstep
   cases hve : v == [] with
   | true =>
    rw [hve, if_pos rfl, yob] at hstep;rw [if_pos rfl, zig (k := 1) (q := []) n (by omega) hs ho (by simp) (by decide) (by rw [hdr1]; exact hstep)];obtain ⟨n, rfl⟩ : ∃ m, n = m + 1 := ⟨n - 1, by omega⟩;rw [zCC];exact ⟨_, by rw [yan, show i + (q - 1) + 1 = i + q by omega], rfl⟩
   | false =>
    rw [hve, if_neg yfn, zhL v (by omega), yob] at hstep;dsimp only at hstep;rw [if_neg yfn]
    have bad : ∀ (e : Int) (d : dechunk_Decoder), (e == 0) = false → zk ⟨L, 3, v ++ [13], lf, sm, sp + ((q - 1 : Nat) : Int), tr⟩ (10 :: w.drop q) = some (1, [], false, e, d) → ztU (.bad (i + q) e) s.length (FL s (n + 1) o ⟨L, 3, v ++ [13], lf, sm, sp + ((q - 1 : Nat) : Int), tr⟩ (i + (q - 1)) false 0) := by
     intro e d he hst;rw [zig (k := 1) (q := []) n (by omega) hs ho (by simp) (by decide) (by rw [hdr1]; exact hst)];obtain ⟨n, rfl⟩ : ∃ m, n = m + 1 := ⟨n - 1, by omega⟩;rw [zxL _ _ _ _ _ _ he];exact ⟨_, _, by rw [show i + (q - 1) + 1 = i + q by omega], he⟩
    cases hfe : (!((zaR v).2 == 0)) with
    | true =>
     rw [hfe, if_pos rfl, yob] at hstep;rw [if_pos rfl];exact bad _ _ (zza hfe) hstep
    | false =>
     rw [hfe, if_neg yfn] at hstep;rw [if_neg yfn]
     by_cases h100 : 100 ≤ tr.length
     ·rw [ydt (show (100 : Int) ≤ (tr.length : Int) by omega), if_pos rfl, yob] at hstep;rw [ydt h100, if_pos rfl];exact bad 3 _ (by decide) hstep
     ·rw [ydf (show ¬ (100 : Int) ≤ (tr.length : Int) by omega), if_neg yfn, if_pos (zba (by omega) (by omega)), yob] at hstep;rw [ydf h100, if_neg yfn, zig (k := 1) (q := []) n (by omega) hs ho (by simp) (by decide) (by rw [hdr1]; exact hstep), yan, show i + (q - 1) + 1 = i + q by omega];exact ih (w.drop q) (i + q) (sp + q) (tr ++ [(zaR v).1]) n hat2 (by omega) (by omega) (by omega) (by rw [yla, List.length_singleton]; omega) (by omega)
theorem zzb (L sm sp : Int) (ln : Str) (tr : List api_Field) (c : UInt8) (r : Str) (h : (c == 13) = false) : zk ⟨L, 2, ln, 2, sm, sp, tr⟩ (c :: r) = some (1, [], false, 31, ⟨L, 2, ln, 2, sm, sp, tr⟩) := by
 unfold zk;dsimp only;rw [if_neg (by decide), if_pos (by decide), zg4, show (c :: r)[0]? = some c from rfl, yob];unfold zcj zaO;dsimp only;rw [if_neg (by decide), h];rfl
theorem zzc (L sm sp : Int) (ln : Str) (tr : List api_Field) (c : UInt8) (r : Str) (h : (c == 10) = false) : zk ⟨L, 2, ln, 1, sm, sp, tr⟩ (c :: r) = some (1, [], false, 31, ⟨L, 2, ln, 1, sm, sp, tr⟩) := by
 unfold zk;dsimp only;rw [if_neg (by decide), if_pos (by decide), zg4, show (c :: r)[0]? = some c from rfl, yob];unfold zcj zaO;dsimp only;rw [if_pos (by decide), h];rfl
theorem zzd (L lf sm sp : Int) (ln o s : Str) (tr : List api_Field) (w : Str) (i n : Nat) (hat : At s i w) (hs : s.length < 100000000) (ho : o.length < 100000000) (hlf : (w.length : Int) < lf) (hlm : lf ≤ 1099511627776) (hn : 1 < n) :
  ∃ o2 d, FL s n o ⟨L, 1, ln, lf, sm, sp, tr⟩ i false 0 = some ((s.length : Int), o2, false, 0, d) := by
 have hl := hat.len
 by_cases hw : w = []
 ·subst hw;obtain ⟨n, rfl⟩ : ∃ m, n = m + 1 := ⟨n - 1, by omega⟩;rw [hat.end_nil];exact ⟨_, _, zpc s n o _⟩
 ·have hp := List.length_pos_iff.2 hw;obtain ⟨n, rfl⟩ : ∃ m, n = m + 1 + 1 := ⟨n - 2, by omega⟩
  have := zig (s := s) (i := i) (k := w.length) (q := w) (o := o) (d := ⟨L, 1, ln, lf, sm, sp, tr⟩) (d' := ⟨L, 1, ln, lf - (w.length : Int), sm, sp, tr⟩) (t := false) (e := 0) (n + 1) (by omega) hs ho (by omega) (by omega) (by
   rw [hat.drop];unfold zk zbJ zat;dsimp only
   have e1 : min lf (w.length : Int) = (w.length : Int) := by omega
   have e2 : ((lf - (w.length : Int)) == 0) = false := by rw [beq_eq_false_iff_ne]; omega
   rw [show ((1 : Int) == 1) = true from rfl, if_pos rfl, e1, zY (by omega) (by omega), yob, e2, if_neg yfn, zbQ (Nat.le_refl _), yob, List.take_length, yob])
  rw [this, hl];exact ⟨_, _, zpc s n _ _⟩
theorem zol {s : Str} {c : CR} {n k : Nat} {o q : Str} {d d' : dechunk_Decoder} {i : Nat} (hi : i < s.length) (hs : s.length < 100000000) (ho : o.length < 100000000) (hk : k < 100000000) (hq : q.length < 100000000) (hst : zk d (s.drop i) = some ((k : Int), q, false, 0, d')) (h : ztU c s.length (FL s n (o ++ q) d' (i + k) false 0)) :
  ztU c s.length (FL s (n + 1) o d i false 0) := by
 rw [zig n hi hs ho hq hk hst]; exact h
theorem zpQ {s : Str} {n : Nat} {o : Str} {d d' : dechunk_Decoder} {i : Nat} {e : Int} (hi : i < s.length) (hs : s.length < 100000000) (ho : o.length < 100000000) (hn : 0 < n) (he : (e == 0) = false) (hst : zk d (s.drop i) = some (1, [], false, e, d')) :
  ztU (.bad (i + 1) e) s.length (FL s (n + 1) o d i false 0) := by
 obtain ⟨n, rfl⟩ : ∃ m, n = m + 1 := ⟨n - 1, by omega⟩;rw [zig (k := 1) (q := []) (n + 1) hi hs ho (by simp) (by decide) hst, zxL _ _ _ _ _ _ he];exact ⟨_, _, rfl, he⟩
theorem zuE {s : Str} {n : Nat} {o : Str} {d : dechunk_Decoder} {i : Nat} (hat : At s i []) (hn : 0 < n) : ztU .more s.length (FL s n o d i false 0) := by
 obtain ⟨n, rfl⟩ : ∃ m, n = m + 1 := ⟨n - 1, by omega⟩;rw [hat.end_nil];exact ⟨_, _, zpc s n o d⟩
theorem af_run {L sm : Int} {o s w : Str} {i n : Nat} {g : Nat → Str → CR} (hat : At s i w) (hs : s.length < 100000000) (ho : o.length < 100000000) (hn : w.length + 1 < n)
  (hg : ∀ (w' : Str) (n : Nat), At s (i + 2) w' → w'.length + 2 = w.length → w'.length + 1 < n → ztU (g (i + 2) w') s.length (FL s n o ⟨L, 0, [], 0, sm, 0, []⟩ (i + 2) false 0)) :
  ztU (afR i g w) s.length (FL s n o ⟨L, 2, [], 2, sm, 0, []⟩ i false 0) := by
 have hl := hat.len
 cases w with
 | nil => exact zuE hat (by omega)
 | cons c w =>
  have hd := hat.drop
  have hat1 : At s (i + 1) w := by have := hat.next 1 (by simp); simpa using this
  simp only [ylc] at hl hn hg;obtain ⟨n, rfl⟩ : ∃ m, n = m + 1 := ⟨n - 1, by omega⟩;unfold afR;dsimp only
  cases hc : (c == 13) with
  | false =>
   rw [ynf, if_pos rfl];exact zpQ (by omega) hs ho (by omega) (by decide) (by rw [hd]; exact zzb L sm 0 [] [] c w hc)
  | true =>
   have hc13 : c = 13 := by simpa using hc
   subst hc13;rw [ynt, if_neg yfn];refine zol (k := 1) (q := []) (d' := ⟨L, 2, [], 1, sm, 0, []⟩) (by omega) hs ho (by decide) (by simp) (by rw [hd]; rfl) ?_;rw [yan]
   cases w with
   | nil => exact zuE hat1 (by omega)
   | cons c2 w2 =>
    have hd1 := hat1.drop
    have hat2 : At s (i + 2) w2 := by have := hat1.next 1 (by simp); simpa using this
    simp only [ylc] at hl hn hg;obtain ⟨n, rfl⟩ : ∃ m, n = m + 1 := ⟨n - 1, by omega⟩;dsimp only
    cases hc2 : (c2 == 10) with
    | false =>
     rw [ynf, if_pos rfl];exact zpQ (i := i + 1) (by omega) hs ho (by omega) (by decide) (by rw [hd1]; exact zzc L sm 0 [] [] c2 w2 hc2)
    | true =>
     have hc10 : c2 = 10 := by simpa using hc2
     subst hc10;rw [ynt, if_neg yfn];refine zol (k := 1) (q := []) (d' := ⟨L, 0, [], 0, sm, 0, []⟩) (by omega) hs ho (by decide) (by simp) (by rw [hd1]; rfl) ?_;rw [yan];exact hg w2 n hat2 (by omega) (by omega)
theorem zze {s : Str} (h : (!((zaB s).2 == 0)) = true) : ((zaB s).2 == 0) = false := by simpa using h
theorem sz_run (L : Int) (s : Str) (hs : s.length < 100000000) (hL0 : 0 ≤ L) (hL : L ≤ 1000000) : ∀ (f : Nat) (w : Str) (i : Nat) (lf sm : Int) (o : Str) (n : Nat), At s i w → w.length < f → 0 ≤ sm → sm ≤ 1099511627776 → o.length ≤ i → w.length + 1 < n →
  ztU (szR L f i sm o w) s.length (FL s n o ⟨L, 0, [], lf, sm, 0, []⟩ i false 0) := by
 intro f
 induction f with
 | zero => intro w i lf sm o n _ h; omega
 | succ f ih =>
  intro w i lf sm o n hat hf h0 hsm hoi hn;have hlen := hat.len
  have ho : o.length < 100000000 := by omega
  have hr := zww L 0 lf sm [] o s (.inl rfl) hs ho w [] 0 i hat (Int.le_refl _) (by omega) (fun _ => hL0) (by simp);have hlim : zqP 0 L 0 ([] : Str).length = none := rfl;rw [hlim] at hr;have h13 : zhl ([] : Str) = false := rfl;rw [h13] at hr;rw [szR];simp only [yln] at hr
  cases hc : rdL none 0 false w with
  | more =>
   rw [hc] at hr;obtain ⟨d, e⟩ := hr n (by omega);exact ⟨o, d, e⟩
  | bad q e =>
   rw [hc] at hr;obtain ⟨d, e2⟩ := hr n (by omega);have he := (zok hc).2.2;exact ⟨o, d, by rw [e2]; simp, by rcases he with rfl | rfl <;> rfl⟩
  | line q =>
   rw [hc] at hr;obtain ⟨q1, q2, q3⟩ := zho hc;obtain ⟨v, g1, g2, g3, g4⟩ := hr;simp only [yna, Nat.sub_zero] at g1 g2 g3 g4;have hv := zuD g1 g2
   have hq2 : 2 ≤ q := by
    have := congrArg List.length g1;rw [ylt, yla, List.length_singleton] at this;omega
   have hat1 : At s (i + (q - 1)) (10 :: w.drop q) := by
    have := hat.next (q - 1) (by omega)
    rwa [g3] at this
   have hat2 : At s (i + q) (w.drop q) := hat.next q (by omega);obtain ⟨n, rfl⟩ : ∃ m, n = m + 1 + (q - 1) := ⟨n - q, by omega⟩;rw [g4, show zko 0 = 0 from rfl, Int.zero_mul, Int.add_zero]
   have hstep : zk ⟨L, 0, v ++ [13], lf, sm, 0, []⟩ (10 :: w.drop q) = (zaY ⟨L, 0, [], lf, sm, 0, []⟩ v).bind fun r => some (1, [], false, r.1, r.2) := by
    rw [zqF _ _ _ _ _ _ _ _ _ (.inl rfl), zyk, zpF L 0 lf sm _ v [] _ (by omega) hL0, if_pos (by decide)];cases zaY ⟨L, 0, [], lf, sm, 0, []⟩ v <;> rfl
   have hdr1 := hat1.drop;have hl1 := hat1.len;simp only [ylc] at hl1;have hw := yld (i := q) (l := w)
   have hiq : i + (q - 1) + 1 = i + q := by omega
   dsimp only;rw [hv];obtain ⟨l, hcp⟩ := zpi v (by omega);unfold zaY at hstep;rw [hcp, yob] at hstep;dsimp only at hstep;have hrange := zsO v
   cases he : (!((zaB v).2 == 0)) with
   | true =>
    rw [he, if_pos rfl, yob] at hstep;rw [if_pos rfl, ← hiq];exact zpQ (by omega) hs ho (by omega) (zze he) (by rw [hdr1]; exact hstep)
   | false =>
    have he0 : (zaB v).2 = 0 := by simpa using he
    obtain ⟨r1, r2⟩ := hrange he0;rw [he, if_neg yfn, zY (by omega) (by omega), yob] at hstep;rw [if_neg yfn]
    cases h7 : decide (1099511627776 - sm < (zaB v).1) with
    | true =>
     rw [h7, if_pos rfl, yob] at hstep;rw [if_pos rfl, ← hiq];exact zpQ (by omega) hs ho (by omega) (by decide) (by rw [hdr1]; exact hstep)
    | false =>
     have h7' : (zaB v).1 ≤ 1099511627776 - sm := by have := of_decide_eq_false h7; omega
     rw [h7, if_neg yfn] at hstep;rw [if_neg yfn]
     cases hz : (zaB v).1 == 0 with
     | true =>
      rw [hz, if_pos rfl, yob] at hstep;rw [if_pos rfl];refine zol (k := 1) (q := []) (by omega) hs ho (by decide) (by simp) (by rw [hdr1]; exact hstep) ?_;rw [yan, hiq];exact tr_run L lf sm o s hs ho hL f (w.drop q) (i + q) 0 [] n hat2 (by omega) (Int.le_refl _) (by omega) (by simp) (by omega)
     | false =>
      have hz' : (zaB v).1 ≠ 0 := by simpa using hz
      rw [hz, if_neg yfn, zak (by omega) (by omega), yob, yob] at hstep;rw [if_neg yfn]
      generalize hN : (zaB v).1 = N at *
      obtain ⟨M, rfl⟩ : ∃ M : Nat, N = (M : Int) := ⟨N.toNat, by omega⟩;rw [Int.toNat_natCast];refine zol (k := 1) (q := []) (by omega) hs ho (by decide) (by simp) (by rw [hdr1]; exact hstep) ?_;rw [yan, hiq]
      by_cases hlt : (w.drop q).length < M
      ·rw [if_pos hlt];obtain ⟨o2, d, e⟩ := zzd L (M : Int) (sm + M) 0 [] o s [] (w.drop q) (i + q) n hat2 hs ho (by omega) (by omega) (by omega);exact ⟨o2, d, e⟩
      ·rw [if_neg hlt]
       have htl : ((w.drop q).take M).length = M := by rw [ylt]; omega
       have hsg := Seg.data (x := (w.drop q).take M) (o := o) (L := L) (lf := (M : Int)) (sm := sm + M) (sp := 0) (tr := []) (ln := []) (fun h => by rw [h] at htl; simp at htl; omega) (by rw [htl]) (by omega) ho;obtain ⟨m, hm, e⟩ := hsg.go s (i + q) ((w.drop q).drop M) hs (by rw [List.take_append_drop]; exact hat2);rw [htl] at hm e
       have hdl : ((w.drop q).drop M).length = w.length - q - M := by rw [yld, hw]
       have hm1 : m ≤ M := hm;obtain ⟨n, rfl⟩ : ∃ k, n = k + m := ⟨n - m, by omega⟩;rw [e];have hat3 : At s (i + q + M) ((w.drop q).drop M) := hat2.next M (by omega);refine af_run hat3 hs (by rw [yla, htl]; omega) (by omega) fun w' n' ha hwl hn' => ?_;exact ih w' _ 0 (sm + M) _ n' ha (by omega) (by omega) (by omega) (by rw [yla, htl]; omega) hn'
theorem zzf (L : Int) (s : Str) (hs : s.length < 100000000) (hL0 : 0 ≤ L) (hL : L ≤ 1000000) : ztU (szR L (s.length + 1) 0 0 [] s) s.length (zaZ ⟨L, 0, [], 0, 0, 0, []⟩ s) := by
 have := sz_run L s hs hL0 hL (s.length + 1) s 0 0 0 [] fuel (At.zero s) (by omega) (Int.le_refl _) (by decide) (by simp) (zeK (by omega));unfold zaZ;exact this
theorem zuF {L : Int} {o : Str} : ∀ {f i : Nat} {sp : Int} {tr : List api_Field} {w : Str} {k : Nat} {o' : Str} {tr' : List api_Field}, trR L o f i sp tr w = .whole k o' tr' → tr.length ≤ 100 → k ≤ i + w.length ∧ tr'.length ≤ 100
 | 0, _, _, _, _, _, _, _, h, _ => by cases h
 | f + 1, i, sp, tr, w, k, o', tr', h, ht => by
  rw [trR] at h
  split at h
  ·cases h
  ·cases h
  ·rename_i q hq
   have hl := zho hq
   split at h
   ·cases h; exact ⟨by omega, ht⟩
   ·split at h
    ·cases h
    ·split at h
     ·cases h
     ·rename_i h100
      have h2 : tr.length < 100 := by
       rcases Nat.lt_or_ge tr.length 100 with h3 | h3
       ·exact h3
       ·rw [ydt h3] at h100; exact absurd rfl h100
      have := zuF h (by rw [yla, List.length_singleton]; omega);rw [yld] at this;exact ⟨by omega, this.2⟩
theorem zqQ {L : Int} : ∀ {f i : Nat} {sm : Int} {o w : Str} {k : Nat} {o' : Str} {tr' : List api_Field}, szR L f i sm o w = .whole k o' tr' → k ≤ i + w.length ∧ tr'.length ≤ 100
 | 0, _, _, _, _, _, _, _, h => by cases h
 | f + 1, i, sm, o, w, k, o', tr', h => by
  rw [szR] at h
  split at h
  ·cases h
  ·cases h
  ·rename_i q hq
   have hl := zho hq
   split at h
   ·cases h
   ·split at h
    ·cases h
    ·split at h
     ·have := zuF h (by simp);rw [yld] at this;exact ⟨by omega, this.2⟩
     ·split at h
      ·cases h
      ·rename_i hlt
       rw [yld] at hlt;generalize (zaB (w.take (q - 2))).1.toNat = M at h hlt;unfold afR at h
       split at h
       ·cases h
       ·rename_i c w1 hw1
        split at h
        ·cases h
        ·split at h
         ·cases h
         ·rename_i c2 w2 
          split at h
          ·cases h
          ·have := zqQ h;have hle := congrArg List.length hw1;rw [yld, yld, ylc, ylc] at hle;exact ⟨by omega, this.2⟩
theorem zvj {L : Int} {w : Str} {k : Nat} {o' : Str} {tr' : List api_Field} (h : szR L (w.length + 1) 0 0 [] w = .whole k o' tr') : k ≤ w.length := by have := (zqQ h).1; omega
theorem zxN {L : Int} {f : Nat} {w : Str} {k : Nat} {o' : Str} {tr' : List api_Field} (h : szR L f 0 0 [] w = .whole k o' tr') : tr'.length ≤ 100 := (zqQ h).2
end Go.Dm
end
section
namespace Go.Dm
def zoy (lim sp : Int) : Option Int := if decide (0 ≤ lim) then some (lim - sp) else none
def zlL : RL → ref19_line
 | .more => ⟨0, 0, 0⟩
 | .bad k e => ⟨0, (k : Int), e⟩
 | .line k => ⟨(k : Int), 0, 0⟩
theorem zqO (b : Str) (hb : b.length < 100000000) (fr : Nat) (sp lim : Int) (hsp : 0 ≤ sp) (hsp2 : sp < 1000000000) : ∀ (w : Str) (n i : Nat) (cr : Bool), At b i w → w.length < n → fr ≤ i → (i = fr ∧ cr = false ∨ ∃ c0, fr < i ∧ b[i - 1]? = some c0 ∧ cr = (c0 == 13)) →
  zai b (fr : Int) sp lim n (i : Int) = some (zlL (rdL (zoy lim sp) (i - fr) cr w)) := by
 intro w
 induction w with
 | nil =>
  intro n i cr hat hn hfr hcr;obtain ⟨n, rfl⟩ : ∃ m, n = m + 1 := ⟨n - 1, by simp at hn; omega⟩;have hl := hat.len;simp only [yln] at hl;rw [zai, ydf (by omega), if_neg yfn, rdL];rfl
 | cons c w ih =>
  intro n i cr hat hn hfr hcr;obtain ⟨n, rfl⟩ : ∃ m, n = m + 1 := ⟨n - 1, by simp at hn; omega⟩;have hl := hat.len;simp only [ylc] at hl hn
  have hg : b[i]? = some c := by
   have := congrArg List.head? hat.drop;rw [List.head?_drop] at this;exact this
  have hnx : At b (i + 1) w := by have := hat.next 1 (by simp); simpa using this
  have hk : zbb (i : Int) (fr : Int) = some ((i - fr : Nat) : Int) := by rw [zY (by omega) (by omega)]; exact congrArg some (by omega)
  -- behind
  have j4 : ∀ t, zcE (zai b (fr : Int) sp lim n) b (i : Int) ((i - fr : Nat) : Int) t = some (if t then ⟨0, ((i - fr + 1 : Nat) : Int), 24⟩ else if c == 10 then ⟨((i - fr + 1 : Nat) : Int), 0, 0⟩ else zlL (rdL (zoy lim sp) (i - fr + 1) (c == 13) w)) := by
   intro t;unfold zcE
   cases t with
   | true => rw [if_pos rfl, ze (by omega), yob]; rfl
   | false =>
    rw [if_neg yfn, if_neg yfn, zz, hg, yob]
    cases hc : c == 10 with
    | true => rw [if_pos rfl, ze (by omega), yob]; rfl
    | false =>
     rw [if_neg yfn, ze (by omega), yob];have := ih n (i + 1) (c == 13) hnx (by omega) (by omega) (.inr ⟨c, by omega, by simpa using hg, rfl⟩);rw [this, show i + 1 - fr = i - fr + 1 by omega];rfl
  have j3 : zf2 (zai b (fr : Int) sp lim n) b (i : Int) ((i - fr : Nat) : Int) cr = some (if !((c == 10) == cr) then ⟨0, ((i - fr + 1 : Nat) : Int), 24⟩ else if c == 10 then ⟨((i - fr + 1 : Nat) : Int), 0, 0⟩ else zlL (rdL (zoy lim sp) (i - fr + 1) (c == 13) w)) := by
   unfold zf2;rw [zz, hg, yob];simp only [yob, j4];cases c == 10 <;> cases cr <;> rfl
  have j2 : ∀ t, zeB (zai b (fr : Int) sp lim n) b (i : Int) ((i - fr : Nat) : Int) t = some (if t then ⟨0, ((i - fr + 1 : Nat) : Int), 3⟩ else if !((c == 10) == cr) then ⟨0, ((i - fr + 1 : Nat) : Int), 24⟩ else if c == 10 then ⟨((i - fr + 1 : Nat) : Int), 0, 0⟩ else zlL (rdL (zoy lim sp) (i - fr + 1) (c == 13) w)) := by
   intro t;unfold zeB
   cases t with
   | true => rw [if_pos rfl, ze (by omega), yob]; rfl
   | false =>
    rw [if_neg yfn, if_neg yfn]
    rcases hcr with ⟨h1, h2⟩ | ⟨c0, h1, h2, h3⟩
    ·subst h2;rw [ydf (by omega), if_neg yfn];exact j3
    ·have e2 : zbb (i : Int) 1 = some ((i - 1 : Nat) : Int) := by rw [zY (by omega) (by omega)]; exact congrArg some (by omega)
     rw [ydt (by omega), if_pos rfl, e2, yob, zz, h2, yob, ← h3];exact j3
  have fin : (some (if decide (4098 ≤ i - fr) || zmW (zoy lim sp) (i - fr) then (⟨0, ((i - fr + 1 : Nat) : Int), 3⟩ : ref19_line) else if !((c == 10) == cr) then ⟨0, ((i - fr + 1 : Nat) : Int), 24⟩ else if c == 10 then ⟨((i - fr + 1 : Nat) : Int), 0, 0⟩ else zlL (rdL (zoy lim sp) (i - fr + 1) (c == 13) w))) = some (zlL (rdL (zoy lim sp) (i - fr) cr (c :: w))) := by
   rw [rdL]
   cases decide (4098 ≤ i - fr) || zmW (zoy lim sp) (i - fr) with
   | true => rfl
   | false =>
    cases !((c == 10) == cr) with
    | true => rfl
    | false =>
     cases c == 10 with
     | true => rfl
     | false => rfl
  rw [zai, ydt (by omega), if_pos rfl, hk, yob, ← fin]
  by_cases h1 : 4098 ≤ i - fr
  ·rw [ydt (show (4098 : Int) ≤ ((i - fr : Nat) : Int) by omega), if_pos rfl, j2, ydt h1, Bool.true_or]
  ·rw [ydf (show ¬ (4098 : Int) ≤ ((i - fr : Nat) : Int) by omega), if_neg yfn, ydf h1, Bool.false_or]
   by_cases h2 : 0 ≤ lim
   ·have e3 : zp sp ((i - fr : Nat) : Int) = some (sp + ((i - fr : Nat) : Int)) := zak (by omega) (by omega);have e4 : zp (sp + ((i - fr : Nat) : Int)) 1 = some (sp + ((i - fr : Nat) : Int) + 1) := zak (by omega) (by omega)
    have e5 : zmW (zoy lim sp) (i - fr) = decide (lim < sp + ((i - fr : Nat) : Int) + 1) := by
     unfold zmW zoy;rw [ydt h2, if_pos rfl];exact decide_eq_decide.2 (by omega)
    rw [ydt h2, if_pos rfl, e3, yob, e4, yob, j2, e5]
   ·have e5 : zmW (zoy lim sp) (i - fr) = false := by
     unfold zmW zoy;rw [ydf h2, if_neg yfn]
    rw [ydf h2, if_neg yfn, j2, e5]
theorem zoM {b : Str} (hb : b.length < 100000000) {i : Nat} {w : Str} (hat : At b i w) {sp lim : Int} (hsp : 0 ≤ sp) (hsp2 : sp < 1000000000) : zjh b (i : Int) sp lim = some (zlL (rdL (zoy lim sp) 0 false w)) := by
 unfold zjh;have hl := hat.len;rw [zqO b hb i sp lim hsp hsp2 w fuel i false hat (zeK (by omega)) (Nat.le_refl _) (.inl ⟨rfl, rfl⟩), Nat.sub_self]
theorem zy6 {s x r' : Str} (hs : s.length < 1000000000) (h : zlQ s = some (x, r')) : s.drop (s.length - r'.length) = r' := by
 have hw := zyG hs (At.zero s);rw [h] at hw;obtain ⟨k, h1, _⟩ := hw;have h2 := h1.len;rw [show s.length - r'.length = k by omega];exact h1.drop
theorem zwo (r13 : Int × Int) (h2 : (r13.2 == 2) = false) : ∀ (m : Nat) (r : Str) (n : Nat) (out : List api_Attr), r.length < 100000000 → r.length < n → r.length < m → out.length + r.length < 100000000 →
  ∃ l, zW r13 n r out = some ((zmk r13 (zoB m r)).1, l, (zmk r13 (zoB m r)).2) := by
 intro m
 induction m with
 | zero => intro r n out _ _ h; omega
 | succ m ih =>
  intro r n out hr hn hm ho;obtain ⟨n, rfl⟩ : ∃ q, n = q + 1 := ⟨n - 1, by omega⟩;rw [zW, zoB];have bad : ∃ l, (some ((0 : Int), ([] : List api_Attr), (31 : Int)) : Option (Int × List api_Attr × Int)) = some ((zmk r13 false).1, l, (zmk r13 false).2) := ⟨[], rfl⟩
  cases r with
  | nil =>
   rw [show (!(([] : Str) == [])) = false from rfl, if_neg yfn, show zet 59 [] = false from rfl, if_neg yfn, show (([] : Str) == []) = true from rfl];unfold zmk;rw [h2, show (!true || false) = false from rfl, if_neg yfn]
   cases r13.2 == 0 with
   | true => exact ⟨_, rfl⟩
   | false => exact ⟨_, rfl⟩
  | cons c r =>
   rw [show (!((c :: r : Str) == [])) = true from rfl, if_pos rfl, show sAt (c :: r) 0 = some c from rfl, yob, zaT];simp only [ylc] at hr hn hm ho
   cases hc : c == 59 with
   | false =>
    rw [if_neg yfn];exact bad
   | true =>
    obtain rfl : c = 59 := by simpa using hc
    rw [ynt, if_neg yfn, if_pos rfl, zaj];have hd := zi7 zF r;obtain ⟨dh1, dh2⟩ := zmn zF r
    have hget : ∀ j, ((59 :: r : Str))[j + 1]? = r[j]? := fun j => by simp
    -- behind the name
    have j7 : ∀ (r2 : Str) (a b : Str) (t : Bool), zlz r = some r2 → ∃ l, ze9 (zW r13 n) out a r2 b t = some ((zmk r13 (zoB m r2)).1, l, (zmk r13 (zoB m r2)).2) := by
     intro r2 a b t h;have hl := zwx h;unfold ze9;rw [if_pos (zba (by omega) (by omega))];exact ih r2 n _ (by omega) (by omega) (by omega) (by simp only [yla, List.length_singleton]; omega)
    have fin : ∀ rec4, ∃ l, zdT (zW r13 n) rec4 (59 :: r) out (((r.takeWhile zF).length + 1 : Nat) : Int) false = some ((zmk r13 (match zlz r with | none => false | some r2 => zoB m r2)).1, l, (zmk r13 (match zlz r with | none => false | some r2 => zoB m r2)).2) := by
     intro rec4;unfold zdT;rw [if_neg yfn]
     cases ht : r.takeWhile zF == [] with
     | true =>
      have ht' : r.takeWhile zF = [] := by simpa using ht
      have h0 : zlz r = none := by unfold zlz; rw [ht, if_pos rfl]
      rw [h0, ht', show ((([] : Str).length + 1 : Nat) : Int) == 1 from rfl, if_pos rfl];exact bad
     | false =>
      have hp : 0 < (r.takeWhile zF).length := by
       cases h3 : r.takeWhile zF with
       | nil => rw [h3] at ht; exact absurd ht (by decide)
       | cons _ _ => simp
      have h1 : ((((r.takeWhile zF).length + 1 : Nat) : Int) == 1) = false := by rw [beq_eq_false_iff_ne]; omega
      have e1 : zd0 (59 :: r) 1 (((r.takeWhile zF).length + 1 : Nat) : Int) = some (((59 :: r : Str).take ((r.takeWhile zF).length + 1)).drop 1) := zbt (i := 1) (by omega) (by simp only [ylc]; omega)
      have e2 : zaH (59 :: r) (((r.takeWhile zF).length + 1 : Nat) : Int) = some (r.dropWhile zF) := by rw [zD (by simp only [ylc]; omega), List.drop_succ_cons, dh1]
      rw [h1, if_neg yfn, e1, yob, e2, yob];generalize (((59 :: r : Str).take ((r.takeWhile zF).length + 1)).drop 1) = nm
      -- no value
      have plain : zet 61 (r.dropWhile zF) = false → ∃ l, zdS (zW r13 n) out nm (r.dropWhile zF) false = some ((zmk r13 (match zlz r with | none => false | some r2 => zoB m r2)).1, l, (zmk r13 (match zlz r with | none => false | some r2 => zoB m r2)).2) := by
       intro h
       have h0 : zlz r = some (r.dropWhile zF) := by unfold zlz; rw [ht, if_neg yfn, h]; rfl
       rw [h0];unfold zdS;rw [if_neg yfn];exact j7 _ _ _ _ h0
      cases hq : r.dropWhile zF with
      | nil =>
       rw [show (!(([] : Str) == [])) = false from rfl, if_neg yfn];have := plain (by rw [hq]; rfl);rw [hq] at this;exact this
      | cons x y =>
       rw [show (!((x :: y : Str) == [])) = true from rfl, if_pos rfl, show sAt (x :: y) 0 = some x from rfl, yob]
       cases hx : x == 61 with
       | false =>
        have := plain (by rw [hq, zaT, hx]);rw [hq] at this;exact this
       | true =>
        obtain rfl : x = 61 := by simpa using hx
        have hyl := congrArg List.length hq;simp only [ylc] at hyl;unfold zdS;have e3 : zaH (61 :: y) 1 = some y := zD (l := 61 :: y) (i := 1) (by simp);rw [if_pos rfl, e3, yob, zDg y (by omega), yob]
        cases hw : zlQ y with
        | none =>
         have h0 : zlz r = none := by unfold zlz; rw [ht, if_neg yfn, hq, zaT, zaj, hw]; rfl
         rw [h0];exact bad
        | some p =>
         obtain ⟨a, r'⟩ := p
         have h0 : zlz r = some r' := by unfold zlz; rw [ht, if_neg yfn, hq, zaT, zaj, hw]; rfl
         have hwl := zuJ hw
         have h4 : (((y.length - r'.length : Nat) : Int) == 0) = false := by rw [beq_eq_false_iff_ne]; omega
         have e4 : zp 1 ((y.length - r'.length : Nat) : Int) = some ((1 + (y.length - r'.length) : Nat) : Int) := zfO (i := 1) (by omega);dsimp only;rw [h4, if_neg yfn, e4, yob, zD (by simp only [ylc]; omega), yob, Nat.add_comm, List.drop_succ_cons, zy6 (by omega) hw, h0];exact j7 _ _ _ _ h0
    have key : ∀ (q i : Nat), i ≤ (r.takeWhile zF).length → (r.takeWhile zF).length - i < q → ∃ l, zcU (zW r13 n) (59 :: r) out q ((i + 1 : Nat) : Int) = some ((zmk r13 (match zlz r with | none => false | some r2 => zoB m r2)).1, l, (zmk r13 (match zlz r with | none => false | some r2 => zoB m r2)).2) := by
     intro q
     induction q with
     | zero => intro i _ h; omega
     | succ q ihq =>
      intro i hi h;rw [zcU]
      by_cases hlt : i < (r.takeWhile zF).length
      ·obtain ⟨c, hg, hc⟩ := zom zF r i hlt;rw [ydt (show ((i + 1 : Nat) : Int) < ((59 :: r : Str).length : Int) by simp only [ylc]; omega), if_pos rfl, zz, hget, hg, yob, zio, yob, hc];unfold zdT;rw [if_pos rfl, ze (by omega), yob];exact ihq (i + 1) (by omega) (by omega)
      ·obtain rfl : i = (r.takeWhile zF).length := by omega
       by_cases hl : (r.takeWhile zF).length < r.length
       ·have hg : r[(r.takeWhile zF).length]? = some r[(r.takeWhile zF).length] := ygg hl;have hc := dh2 _ hg;rw [ydt (show (((r.takeWhile zF).length + 1 : Nat) : Int) < ((59 :: r : Str).length : Int) by simp only [ylc]; omega), if_pos rfl, zz, hget, hg, yob, zio, yob, hc];exact fin _
       ·rw [ydf (show ¬ (((r.takeWhile zF).length + 1 : Nat) : Int) < ((59 :: r : Str).length : Int) by simp only [ylc]; omega), if_neg yfn];exact fin _
    exact key fuel 0 (yz _) (zeK (by omega))
theorem zsv (s : Str) (hs : s.length < 100000000) : ∃ l, zlf s = some ((zaB s).1, l, (zaB s).2) := by
 have hd := zi7 zcv s;obtain ⟨dh1, dh2⟩ := zmn zcv s
 have fin : ∀ rec, ∃ l, zdU rec s ((s.takeWhile zcv).length : Int) false = some ((zaB s).1, l, (zaB s).2) := by
  intro rec;unfold zdU zaB;rw [if_neg yfn, zbQ (by omega), yob, zsR, show (16 : Int) = ((16 : Nat) : Int) from rfl, zjl (b := 16) (.inr rfl) _ _ (by omega) (by decide) (by decide), yob]
  cases h2 : (zK 16 (s.takeWhile zcv) 1099511627776).2 == 2 with
  | true =>
   rw [if_pos rfl];unfold zmk;rw [h2, Bool.or_true, if_pos rfl];exact ⟨_, rfl⟩
  | false =>
   rw [if_neg yfn, zD (by omega), yob, dh1];exact zwo _ h2 (s.length + 1) (s.dropWhile zcv) fuel [] (by omega) (zeK (by omega)) (by omega) (by simp; omega)
 have key : ∀ (n i : Nat), i ≤ (s.takeWhile zcv).length → (s.takeWhile zcv).length - i < n → ∃ l, zcV s n (i : Int) = some ((zaB s).1, l, (zaB s).2) := by
  intro n
  induction n with
  | zero => intro i _ h; omega
  | succ n ih =>
   intro i hi h;rw [zcV]
   by_cases hlt : i < (s.takeWhile zcv).length
   ·obtain ⟨c, hg, hc⟩ := zom zcv s i hlt;rw [ydt (show (i : Int) < (s.length : Int) by omega), if_pos rfl, zz, hg, yob, zin, yob, hc];unfold zdU;rw [if_pos rfl, ze (by omega), yob];exact ih (i + 1) (by omega) (by omega)
   ·obtain rfl : i = (s.takeWhile zcv).length := by omega
    by_cases hl : (s.takeWhile zcv).length < s.length
    ·have hg : s[(s.takeWhile zcv).length]? = some s[(s.takeWhile zcv).length] := ygg hl;have hc := dh2 _ hg;rw [ydt (show ((s.takeWhile zcv).length : Int) < (s.length : Int) by omega), if_pos rfl, zz, hg, yob, zin, yob, hc];exact fin _
    ·rw [ydf (show ¬ ((s.takeWhile zcv).length : Int) < (s.length : Int) by omega), if_neg yfn];exact fin _
 exact key fuel 0 (yz _) (zeK (by omega))
end Go.Dm
end
section
namespace Go.Dm
theorem zwV {b : Nat} {s : Str} {most : Int} (h : (zK b s most).2 = 0) : 0 ≤ (zK b s most).1 ∧ (zK b s most).1 ≤ most := by
 unfold zK at h ⊢
 split at h
 ·cases h
 ·rename_i h3
  rw [if_neg h3]
  split at h
  ·cases h
  ·rename_i h4
   rw [if_neg h4];dsimp only;omega
theorem zo0 : ∀ {l : List Str} {ns : List Int}, zes l = some ns → ∀ n ∈ ns, 0 ≤ n ∧ n ≤ ziZ
 | [], ns, h, n, hn => by
  unfold zes at h;cases h; cases hn
 | t :: ts, ns, h, n, hn => by
  unfold zes at h
  split at h
  ·rename_i h1
   cases hr : zes ts with
   | none => rw [hr] at h; cases h
   | some ms =>
    rw [hr] at h;cases h
    rcases List.mem_cons.1 hn with rfl | hn
    ·exact zwV (by simpa using h1)
    ·exact zo0 hr n hn
  ·cases h
theorem zrw : ∀ {vs : List Str} {ns : List Int}, zjR vs = some ns → ∀ n ∈ ns, 0 ≤ n ∧ n ≤ ziZ
 | [], ns, h, n, hn => by
  unfold zjR at h;cases h; cases hn
 | v :: vs, ns, h, n, hn => by
  unfold zjR at h
  split at h
  ·cases h
  ·rename_i l _
   split at h
   ·cases h
   ·rename_i a ha
    cases hr : zjR vs with
    | none => rw [hr] at h; cases h
    | some ms =>
     rw [hr] at h;cases h
     rcases List.mem_append.1 hn with hn | hn
     ·exact zo0 ha n hn
     ·exact zrw hr n hn
theorem zp1 {g : api_Head} {k : Int} {fr : api_Frame} (hk : k = 1 ∨ k = 4) (h : zmH g k = (fr, 0)) : fr = ⟨1, 0⟩ ∨ (∃ n : Nat, fr = ⟨2, (n : Int)⟩ ∧ n ≤ 1099511627776) ∨ fr = ⟨3, 0⟩ ∨ fr = ⟨4, 0⟩ := by
 unfold zmH at h
 split at h
 ·split at h
  ·cases h
   rcases hk with rfl | rfl
   ·exact .inl rfl
   ·exact .inr (.inr (.inr rfl))
  ·unfold zmG at h
   split at h
   ·cases h
   ·cases h
   ·rename_i n ns hv
    split at h
    ·cases h;obtain ⟨h1, h2⟩ := zrw hv n (List.mem_cons_self ..);unfold ziZ at h2;obtain ⟨m, rfl⟩ : ∃ m : Nat, n = (m : Int) := ⟨n.toNat, by omega⟩;exact .inr (.inl ⟨m, rfl, by omega⟩)
    ·cases h
 ·split at h
  ·unfold zor at h
   split at h
   ·split at h
    ·split at h
     ·cases h; exact .inr (.inr (.inl rfl))
     ·cases h
    ·cases h
   ·cases h
  ·cases h
theorem zmw {me : Str} {g : api_Head} {fr : api_Frame} (h : zfz me g = (fr, 0)) : fr = ⟨1, 0⟩ ∨ (∃ n : Nat, fr = ⟨2, (n : Int)⟩ ∧ n ≤ 1099511627776) ∨ fr = ⟨3, 0⟩ ∨ fr = ⟨4, 0⟩ := by
 unfold zfz at h
 split at h
 ·exact zp1 (.inl rfl) h
 ·split at h
  ·cases h; exact .inl rfl
  ·exact zp1 (.inr rfl) h
def zdA : api_Message := ⟨zw, ⟨0, 0⟩, [], []⟩
def zhp (h : api_Head) (fr : api_Frame) (a : Nat) (w : Str) (L : Int) (en : Bool) : api_Message × Int × Int :=
 if fr.Kind == 1 then (⟨h, fr, [], []⟩, (a : Int), 0)
 else if fr.Kind == 2 then (if (w.length : Int) < fr.N then (zdA, 0, 6) else (⟨h, fr, w.take fr.N.toNat, []⟩, (a : Int) + fr.N, 0))
 else if fr.Kind == 3 then (match szR L (w.length + 1) 0 0 [] w with
  | .more => (zdA, 0, 6)
  | .bad _ e => (zdA, 0, e)
  | .whole k o tr => (⟨h, fr, o, tr⟩, ((a + k : Nat) : Int), 0))
 else if en then (⟨h, fr, w, []⟩, ((a + w.length : Nat) : Int), 0) else (zdA, 0, 6)
def msgP (k : Int) (me s : Str) (L : Int) (en : Bool) : api_Message × Int × Int :=
 match znd k L zw s [] 0 0 with
 | (none, _) => (zdA, 0, 6)
 | (some z, _) => if !(z.2.e == 0) then (zdA, 0, z.2.e) else if !((zfz me z.2.g).2 == 0) then (zdA, 0, (zfz me z.2.g).2) else zhp z.2.g (zfz me z.2.g).1 z.1 (s.drop z.1) L en
def bodyM (s : Str) (L : Int) (en : Bool) (q : Int × Bool × Int × accum_Accum) (p : api_Head × Bool) (fr : api_Frame × Int) : Option (api_Message × Int × Int) :=
 (zl2 fr.1 L).bind fun r171 =>
 ztn r171.1 (zhd s q) (fun x173 => bE x173.1 (zdy s en q p fr x173.2.f_frame.Kind x173.2.f_frame.N x173.2.f_left x173.2.f_done x173.2.f_bad x173.2.Decoder.f_limit x173.2.Decoder.f_at x173.2.Decoder.f_line x173.2.Decoder.f_left x173.2.Decoder.f_sum x173.2.Decoder.f_spent x173.2.Decoder.f_trailers) (zaP s en q p fr x173.2.f_frame.Kind x173.2.f_frame.N x173.2.f_left x173.2.f_done x173.2.f_bad))
theorem ztd {L : Int} (h0 : 0 ≤ L) (h1 : L ≤ 65536) : zjE L = some (some ⟨L, 0, [], 0, 0, 0, []⟩, 0) := by
 unfold zjE;rw [ydf (by omega), if_neg yfn, ydf (by omega)];rfl
theorem zwW {L : Int} (h0 : 0 ≤ L) (h1 : L ≤ 65536) {fr : api_Frame} (hf : fr = ⟨1, 0⟩ ∨ (∃ n : Nat, fr = ⟨2, (n : Int)⟩ ∧ n ≤ 1099511627776) ∨ fr = ⟨3, 0⟩ ∨ fr = ⟨4, 0⟩) :
  zl2 fr L = some (some (if fr.Kind == 3 then (true, ⟨⟨L, 0, [], 0, 0, 0, []⟩, fr, 0, false, false⟩) else (false, ⟨default, fr, fr.N, (fr.Kind == 1) || (fr.Kind == 2 && fr.N == 0), false⟩)), 0) := by
 unfold zl2;rw [ztd h0 h1, yob];show zjH fr 0 L 0 [] 0 0 0 [] = _
 rcases hf with rfl | ⟨n, rfl, hn⟩ | rfl | rfl
 ·rfl
 ·unfold zjH;dsimp only;rw [show (!((0 : Int) == 0)) = false from rfl, if_neg yfn, ydf (show ¬ ((2 : Int) < 1) by decide), if_neg yfn, ydf (show ¬ ((4 : Int) < 2) by decide), if_neg yfn, ydf (show ¬ ((n : Int) < 0) by omega), if_neg yfn, ydf (show ¬ ((1099511627776 : Int) < (n : Int)) by omega)];rfl
 ·rfl
 ·rfl
section
variable {h : api_Head} {t s : Str} {en : Bool} {L : Int}
theorem zzE (n : Nat) (hn : n ≤ 1099511627776) (ht : t.length < 29000000) : ∃ b : body_Body, zC ⟨⟨default, ⟨2, (n : Int)⟩, (n : Int), ((n : Int) == 0), false⟩, ⟨h, ⟨2, (n : Int)⟩, [], []⟩⟩ t en =
  some (if n ≤ t.length then ((n : Int), 0, ⟨b, ⟨h, ⟨2, (n : Int)⟩, t.take n, []⟩⟩) else (0, 6, ⟨b, ⟨h, ⟨2, (n : Int)⟩, t, []⟩⟩)) := by
 by_cases h0 : n = 0
 ·subst h0;refine ⟨⟨default, ⟨2, 0⟩, 0, true, false⟩, ?_⟩;rw [if_pos (yz _), List.take_zero];rfl
 ·have hz : ((n : Int) == 0) = false := by rw [beq_eq_false_iff_ne]; omega
  unfold zC zbe;dsimp only;rw [hz, yob, ynf, if_pos rfl];unfold zdn;dsimp only;rw [if_neg yfn];unfold zbU;dsimp only;rw [if_neg yfn, if_neg (by decide), if_pos (by decide)]
  by_cases hle : n ≤ t.length
  ·have e1 : min (t.length : Int) (n : Int) = (n : Int) := by omega
   have e2 : ((n : Int) - (n : Int) == 0) = true := by rw [Int.sub_self]; rfl
   refine ⟨⟨default, ⟨2, (n : Int)⟩, (n : Int) - (n : Int), true, false⟩, ?_⟩;rw [e1, zY (by omega) (by omega), yob, e2];unfold zac;rw [zbQ hle, yob, yob, if_pos hle];rfl
  ·have e1 : min (t.length : Int) (n : Int) = (t.length : Int) := by omega
   have e2 : ((n : Int) - (t.length : Int) == 0) = false := by rw [beq_eq_false_iff_ne]; omega
   refine ⟨⟨default, ⟨2, (n : Int)⟩, (n : Int) - (t.length : Int), false, false⟩, ?_⟩;rw [e1, zY (by omega) (by omega), yob, e2];unfold zac;rw [zbQ (Nat.le_refl _), List.take_length, yob, yob, if_neg hle];rfl
theorem zwX (ht : t.length < 29000000) (h0 : 0 ≤ L) (h1 : L ≤ 65536) : ∃ (n e : Int) (b : body_Body) (o : Str) (tr : List api_Field), zb5 ⟨⟨⟨L, 0, [], 0, 0, 0, []⟩, ⟨3, 0⟩, 0, false, false⟩, ⟨h, ⟨3, 0⟩, [], []⟩⟩ t en = some (n, e, ⟨b, ⟨h, ⟨3, 0⟩, o, tr⟩⟩) ∧
  (match szR L (t.length + 1) 0 0 [] t with
  | .more => e = 6
  | .bad _ e' => e = e' ∧ (e' == 0) = false
  | .whole k o' tr' => n = (k : Int) ∧ e = 0 ∧ o = o' ∧ tr = tr') := by
 have hs := zzf L t (by omega) h0 (by omega)
 have key : ∀ (n : Int) (o : Str) (t1 : Bool) (e : Int) (d : dechunk_Decoder), zaZ ⟨L, 0, [], 0, 0, 0, []⟩ t = some (n, o, t1, e, d) → ziG ⟨⟨L, 0, [], 0, 0, 0, []⟩, ⟨3, 0⟩, 0, false, false⟩ t = some (n, o, t1, e, ⟨d, ⟨3, 0⟩, 0, t1, !(e == 0)⟩) := by
  intro n o t1 e d hf;show ((zaZ ⟨L, 0, [], 0, 0, 0, []⟩ t).bind _) = _;rw [hf, yob]
 unfold zb5 zdJ;dsimp only;rw [yob, ynf, if_pos rfl]
 cases hc : szR L (t.length + 1) 0 0 [] t with
 | more =>
  rw [hc] at hs;obtain ⟨o, d, e⟩ := hs;rw [key _ _ _ _ _ e, yob];dsimp only;rw [if_neg (by decide)];unfold za9;dsimp only;rw [if_neg (by decide)];unfold za8;rw [if_neg yfn];unfold za7 zdJ;dsimp only;rw [yob, ynf, if_pos rfl];exact ⟨_, _, _, _, _, rfl, rfl⟩
 | bad q e' =>
  rw [hc] at hs;obtain ⟨o, d, e, he⟩ := hs;rw [key _ _ _ _ _ e, yob];dsimp only;rw [if_pos (by rw [he]; rfl)];exact ⟨_, _, _, _, _, rfl, rfl, he⟩
 | whole q o' tr' =>
  rw [hc] at hs;obtain ⟨d, e, htr⟩ := hs;rw [key _ _ _ _ _ e, yob];dsimp only;rw [if_neg (by decide)];unfold za9;dsimp only;rw [if_neg (by decide)];unfold za8;rw [if_neg yfn];unfold za7 zdJ;dsimp only;rw [yob, ynt, if_neg yfn];unfold zft zcy;dsimp only;rw [htr, if_pos (zba (by have := zxN hc; omega) (by have := zxN hc; omega)), yob, yob];exact ⟨_, _, _, _, _, rfl, rfl, rfl, rfl, by simp⟩
end
theorem zB7 {h : api_Head} {s : Str} {L : Int} {en : Bool} {a : Nat} {x : accum_Accum} {fr : api_Frame} (ha : a ≤ s.length) (hs : s.length < 20000000) (h0 : 0 ≤ L) (h1 : L ≤ 65536) (hf : fr = ⟨1, 0⟩ ∨ (∃ n : Nat, fr = ⟨2, (n : Int)⟩ ∧ n ≤ 1099511627776) ∨ fr = ⟨3, 0⟩ ∨ fr = ⟨4, 0⟩) :
  bodyM s L en ((a : Int), true, 0, x) (h, true) (fr, 0) = some (zhp h fr a (s.drop a) L en) := by
 have hdl : (s.drop a).length ≤ s.length := by simp
 unfold bodyM;dsimp only;rw [zwW h0 h1 hf, yob];dsimp only
 rcases hf with rfl | ⟨n, rfl, hn⟩ | rfl | rfl
 ·show zaP s en ((a : Int), true, 0, x) (h, true) (⟨1, 0⟩, 0) 1 0 0 true false = _;have hr : zC ⟨⟨default, ⟨1, 0⟩, 0, true, false⟩, ⟨h, ⟨1, 0⟩, [], []⟩⟩ (s.drop a) en = some (0, 0, ⟨⟨default, ⟨1, 0⟩, 0, true, false⟩, ⟨h, ⟨1, 0⟩, [], []⟩⟩) := rfl;unfold zaP;dsimp only;rw [zD ha, yob, hr, yob];dsimp only;rw [if_neg (by decide), zak (by omega) (by omega), yob, Int.add_zero];rfl
 ·obtain ⟨b, hr⟩ := zzE (h := h) (t := s.drop a) (en := en) n hn (by omega);show zaP s en ((a : Int), true, 0, x) (h, true) (⟨2, (n : Int)⟩, 0) 2 (n : Int) (n : Int) ((n : Int) == 0) false = _
  have hb : zhp h ⟨2, (n : Int)⟩ a (s.drop a) L en = if ((s.drop a).length : Int) < (n : Int) then (zdA, 0, 6) else (⟨h, ⟨2, (n : Int)⟩, (s.drop a).take n, []⟩, (a : Int) + (n : Int), 0) := by
   unfold zhp;dsimp only;rw [show ((2 : Int) == 1) = false from rfl, if_neg yfn, show ((2 : Int) == 2) = true from rfl, if_pos rfl, Int.toNat_natCast]
  rw [hb];unfold zaP;dsimp only;rw [zD ha, yob, hr, yob]
  by_cases hle : n ≤ (s.drop a).length
  ·rw [if_pos hle, if_neg (show ¬ (((s.drop a).length : Int) < (n : Int)) by omega)];dsimp only;rw [if_neg (by decide), zak (by omega) (by omega), yob]
  ·rw [if_neg hle, if_pos (show ((s.drop a).length : Int) < (n : Int) by omega)];rfl
 ·obtain ⟨n, e, b, o, tr, hr, hm⟩ := zwX (h := h) (t := s.drop a) (en := en) (by omega) h0 h1;show zdy s en ((a : Int), true, 0, x) (h, true) (⟨3, 0⟩, 0) 3 0 0 false false L 0 [] 0 0 0 [] = _
  have hb : zhp h ⟨3, 0⟩ a (s.drop a) L en = (match szR L ((s.drop a).length + 1) 0 0 [] (s.drop a) with
    | .more => (zdA, 0, 6)
    | .bad _ e => (zdA, 0, e)
    | .whole k o tr => (⟨h, ⟨3, 0⟩, o, tr⟩, ((a + k : Nat) : Int), 0)) := rfl
  rw [hb];unfold zdy;dsimp only;rw [zD ha, yob];show ((zb5 ⟨⟨⟨L, 0, [], 0, 0, 0, []⟩, ⟨3, 0⟩, 0, false, false⟩, ⟨h, ⟨3, 0⟩, [], []⟩⟩ (s.drop a) en).bind _) = _;rw [hr, yob];dsimp only
  cases hc : szR L ((s.drop a).length + 1) 0 0 [] (s.drop a) with
  | more =>
   rw [hc] at hm;dsimp only at hm;subst hm;rfl
  | bad q e' =>
   rw [hc] at hm;obtain ⟨rfl, he⟩ := hm;rw [if_pos (by rw [he]; rfl)];rfl
  | whole k o' tr' =>
   rw [hc] at hm;obtain ⟨rfl, rfl, rfl, rfl⟩ := hm;have hk := zvj hc;rw [if_neg (by decide), zfO (by omega), yob]
 ·show zaP s en ((a : Int), true, 0, x) (h, true) (⟨4, 0⟩, 0) 4 0 0 false false = _
  have hx : zdn ⟨default, ⟨4, 0⟩, 0, false, false⟩ (s.drop a) = some (((s.drop a).length : Int), s.drop a, false, 0, ⟨default, ⟨4, 0⟩, 0, false, false⟩) := by
   show zac ⟨default, ⟨4, 0⟩, 0, false, false⟩ (s.drop a) ((s.drop a).length : Int) 0 false = _;unfold zac;rw [zbQ (Nat.le_refl _), List.take_length, yob]
  have hb : zhp h ⟨4, 0⟩ a (s.drop a) L en = if en then (⟨h, ⟨4, 0⟩, s.drop a, []⟩, ((a + (s.drop a).length : Nat) : Int), 0) else (zdA, 0, 6) := rfl;rw [hb];unfold zaP;dsimp only;rw [zD ha, yob]
  cases en with
  | true =>
   have hr : zC ⟨⟨default, ⟨4, 0⟩, 0, false, false⟩, ⟨h, ⟨4, 0⟩, [], []⟩⟩ (s.drop a) true = some (((s.drop a).length : Int), 0, ⟨⟨default, ⟨4, 0⟩, 0, true, false⟩, ⟨h, ⟨4, 0⟩, s.drop a, []⟩⟩) := by
    unfold zC zbe;dsimp only;rw [yob, ynf, if_pos rfl, hx, yob];rfl
   rw [hr, yob];dsimp only;rw [if_neg (by decide), zfO (by omega), yob, if_pos rfl]
  | false =>
   have hr : zC ⟨⟨default, ⟨4, 0⟩, 0, false, false⟩, ⟨h, ⟨4, 0⟩, [], []⟩⟩ (s.drop a) false = some (0, 6, ⟨⟨default, ⟨4, 0⟩, 0, false, false⟩, ⟨h, ⟨4, 0⟩, s.drop a, []⟩⟩) := by
    unfold zC zbe;dsimp only;rw [yob, ynf, if_pos rfl, hx, yob];rfl
   rw [hr, yob, if_neg yfn];rfl
theorem zzF {k L : Int} (hk : k = 1 ∨ k = 2) (h0 : 0 ≤ L) (h1 : L ≤ 65536) (me s : Str) (en : Bool) (hs : s.length ≤ 4000) : zey k me s L en = some (msgP k me s L en) := by
 have hf := zDK k L zw [] 0 false s (by omega) (by decide) ⟨yz _, fun h _ => absurd h (by decide)⟩
 have hn : zkh k L = some (some ⟨k, L, [], 0, false, 0, false, zw⟩, 0) := by
  rw [zCx, ydf (by omega), ydf (by omega)]
  rcases hk with rfl | rfl <;> rfl
 unfold zey;rw [hn, yob];show ze0 me s L en 0 k L [] 0 false 0 false 0 [] [] 0 [] 0 [] = _;unfold ze0;rw [if_neg (by decide)];show ((zdx ⟨k, L, [], ((0 : Nat) : Int), false, 0, false, zw⟩ s).bind _) = _;rw [hf, yob];unfold feedR msgP
 cases hr : znd k L zw s [] 0 0 with
 | mk o f' =>
  cases o with
  | none => rfl
  | some z =>
   obtain ⟨z1, z2, z3, z4, _, z6⟩ := zot zqq hr;dsimp only
   cases he : z.2.e == 0 with
   | false => rfl
   | true =>
    have hw : z.2.w = true := by rw [z3, he]
    have hh := z4 hw;simp only [yln, Nat.zero_add, Nat.sub_zero, yna] at hh z6;have hz0 : zw.Fields.length = 0 := rfl;obtain ⟨g3, g4, _⟩ := ztl hh (by rw [ylt]; omega);rw [ynt, if_neg yfn, if_neg yfn, if_neg (show ¬ ((!z.2.w) = true) by rw [hw]; decide), hw, zDL _ (by dsimp only; omega), yob];unfold zCy;dsimp only;rw [if_pos rfl];dsimp only;rw [zq8 _ _ (by omega) (zfj (by decide) g4), yob]
    cases hfe : (zfz me z.2.g).2 == 0 with
    | false => rfl
    | true =>
     have hfr : zfz me z.2.g = ((zfz me z.2.g).1, 0) := Prod.ext rfl (by simpa using hfe)
     have e0 : (z.2.e : Int) = 0 := by simpa using he
     rw [ynt, if_neg yfn, if_neg yfn];have := zB7 (h := z.2.g) (s := s) (L := L) (en := en) (a := z.1) (x := ⟨k, L, [], (z.2.f : Int), true, z.2.e, true, z.2.g⟩) (fr := (zfz me z.2.g).1) (by omega) (by omega) h0 h1 (zmw hfr);rw [← this, hfr, e0];rfl
end Go.Dm
end
section
namespace Go.Dm
def ztk (r : CR) (x : Option ref19_Fate) : Prop := match r with
 | .more => ∃ f, x = some f ∧ f.At = 0
 | .bad k e => ∃ f, x = some f ∧ f.At = (k : Int) ∧ f.Err = e ∧ 0 < k ∧ (e == 0) = false
 | .whole k o tr => ∃ f, x = some f ∧ f.At = (k : Int) ∧ f.Err = 0 ∧ f.Body = o ∧ f.Trailers = tr ∧ 0 < k
theorem zyN {lim : Option Int} {w : Str} {k q : Nat} (h : rdL lim k false w = .line q) : k + 2 ≤ q := by
 cases w with
 | nil => cases h
 | cons c w =>
  rw [rdL] at h
  split at h
  ·cases h
  ·split at h
   ·cases h
   ·rename_i h1
    split at h
    ·rename_i h2; rw [h2] at h1; exact absurd rfl h1
    ·have := (zho h).1; omega
theorem zCh {e : Int} (h : e = 3 ∨ e = 24) : (e == 0) = false := by rcases h with rfl | rfl <;> rfl
theorem zw3 {b : Str} {i k : Nat} {w : Str} (hat : At b i w) (h2 : 2 ≤ k) (hk : k ≤ w.length) (hb : b.length < 100000000) :
  zp (i : Int) (k : Int) = some ((i + k : Nat) : Int) ∧ zbb ((i + k : Nat) : Int) 2 = some ((i + k - 2 : Nat) : Int) ∧ zd0 b (i : Int) ((i + k - 2 : Nat) : Int) = some (w.take (k - 2)) := by
 have hl := hat.len;refine ⟨zfO (by omega), ?_, ?_⟩
 ·rw [zY (by omega) (by omega)]; exact congrArg some (by omega)
 ·rw [zbt (by omega) (by omega), List.drop_take, hat.drop, show i + k - 2 - i = k - 2 by omega]
theorem zDx {L : Int} (hL0 : 0 ≤ L) {o b : Str} (hb : b.length < 100000000) : ∀ (f : Nat) (w : Str) (i : Nat) (sp : Int) (tr : List api_Field) (n : Nat) (ln : Int), At b i w → w.length < f → 0 ≤ sp → sp < 400000000 - (w.length : Int) → tr.length ≤ 100 → w.length < n →
  ztk (trR L o f i sp tr w) (zbR b L n 0 0 o tr ln (i : Int) sp) := by
 intro f
 induction f with
 | zero => intro w i sp tr n ln _ h; omega
 | succ f ih =>
  intro w i sp tr n ln hat hf h0 hsp htr hn;obtain ⟨n, rfl⟩ : ∃ m, n = m + 1 := ⟨n - 1, by omega⟩;have hl := hat.len;rw [zbR, zoM hb hat h0 (by omega), yob, trR, show zoy L sp = some (L - sp) by unfold zoy; rw [ydt hL0, if_pos rfl]]
  cases hr : rdL (some (L - sp)) 0 false w with
  | more =>
   unfold zlL;dsimp only;rw [if_neg (by decide), if_pos (by decide), zY (by omega) (by omega)];exact ⟨_, rfl, rfl⟩
  | bad k e =>
   obtain ⟨h1, h2, h3⟩ := zok hr;unfold zlL;dsimp only;rw [ydt (show (0 : Int) < (k : Int) by omega), if_pos rfl, zfO (by omega)];exact ⟨_, rfl, rfl, rfl, by omega, zCh h3⟩
  | line k =>
   obtain ⟨h1, h2, h3⟩ := zho hr;have hk2 := zyN hr
   have hk0 : ((k : Int) == 0) = false := by rw [beq_eq_false_iff_ne]; omega
   obtain ⟨e1, e2, e3⟩ := zw3 hat (by omega) (by omega) hb;have hat' : At b (i + k) (w.drop k) := hat.next k (by omega);have hdl : (w.drop k).length = w.length - k := yld ..;unfold zlL;dsimp only;rw [ydf (show ¬ ((0 : Int) < 0) by decide), if_neg yfn, hk0, if_neg yfn, e1, yob, e2, yob, e3, yob, yob, zak (by omega) (by omega), yob]
   cases hz : w.take (k - 2) == [] with
   | true => exact ⟨_, rfl, rfl, rfl, rfl, rfl, by omega⟩
   | false =>
    have htl : (w.take (k - 2)).length ≤ w.length := by simp; omega
    rw [if_neg yfn, if_neg yfn, zkw _ (by omega), yob]
    have bad : ∀ e : Int, (e == 0) = false → ztk (.bad (i + k) e) (zeC (zbR b L n) 0 0 o tr ln ((i + k : Nat) : Int) (sp + (k : Int)) (zaR (w.take (k - 2))) e) := by
     intro e he;unfold zeC;rw [he, ynf, if_pos rfl];exact ⟨_, rfl, rfl, rfl, by omega, he⟩
    cases he : (zaR (w.take (k - 2))).2 == 0 with
    | false =>
     rw [if_neg yfn, ynf, if_pos rfl];exact bad _ he
    | true =>
     rw [if_pos rfl, ynt, if_neg yfn]
     by_cases h100 : 100 ≤ tr.length
     ·have hx : ((tr.length : Int) == 100) = true := by rw [beq_iff_eq]; omega
      rw [hx, ydt h100, if_pos rfl];exact bad 3 rfl
     ·have hx : ((tr.length : Int) == 100) = false := by rw [beq_eq_false_iff_ne]; omega
      rw [hx, ydf h100, if_neg yfn]
      have h0' : (zaR (w.take (k - 2))).2 = 0 := by simpa using he
      unfold zhD zeC;rw [if_neg yfn, h0', show (!((0 : Int) == 0)) = false from rfl, if_neg yfn, if_pos (zba (by omega) (by omega))];exact ih (w.drop k) (i + k) (sp + k) _ n ln hat' (by omega) (by omega) (by omega) (by simp; omega) (by omega)
theorem zCi {b : Str} (hb : b.length < 100000000) {rec1 : Int → Int → Str → List api_Field → Int → Int → Int → Option ref19_Fate} {ln sm : Int} {o w : Str} {i : Nat} {g : Nat → Str → CR} (hat : At b i w)
  (hg : ∀ w', At b (i + 2) w' → w'.length + 2 = w.length → ztk (g (i + 2) w') (rec1 0 0 o [] ln ((i + 2 : Nat) : Int) sm)) :
  ztk (afR i g w) (zcW rec1 b 0 0 [] ln sm o fuel (i : Int) 0) := by
 have hl := hat.len;have h3 : ∃ m, fuel = m + 3 := ⟨fuel - 3, by unfold fuel; omega⟩;obtain ⟨m, hm⟩ := h3;rw [hm]
 have get : ∀ {i : Nat} {c : UInt8} {w : Str}, At b i (c :: w) → b[i]? = some c := fun h => by
  have := congrArg List.head? h.drop;rw [List.head?_drop] at this;exact this
 have one : ∀ (m i : Nat) (j : Nat) (x c : UInt8) (w : Str), At b i (c :: w) → ([13, 10] : Str)[j]? = some x → j < 2 → zcW rec1 b 0 0 [] ln sm o (m + 1) (i : Int) (j : Int) = if !(c == x) then some ⟨((i + 1 : Nat) : Int), 31, o, [], ln⟩ else zcW rec1 b 0 0 [] ln sm o m ((i + 1 : Nat) : Int) ((j + 1 : Nat) : Int) := by
  intro m i j x c w h hx hj;have hl := h.len;simp only [ylc] at hl
  have hne : ((i : Int) == (b.length : Int)) = false := by rw [beq_eq_false_iff_ne]; omega
  have e2 : zbb ((i + 1 : Nat) : Int) 1 = some (i : Int) := by rw [zY (by omega) (by omega)]; exact congrArg some (by omega)
  have hlen : decide ((j : Int) < (([13, 10] : List Nat).length : Int)) = true := ydt (by simp; omega);rw [zcW, hlen, if_pos rfl, zaG, hx, yob, hne, if_neg yfn, ze (by omega), yob, e2, yob, zz, get h, yob]
  cases c == x with
  | false => rw [ynf, if_pos rfl, if_pos rfl]
  | true => rw [ynt, if_neg yfn, if_neg yfn, ze (by omega), yob]
 have off : ∀ (m i : Nat) (j : Nat) (x : UInt8), At b i [] → ([13, 10] : Str)[j]? = some x → j < 2 → zcW rec1 b 0 0 [] ln sm o (m + 1) (i : Int) (j : Int) = some ⟨0, 0, o, [], ln⟩ := by
  intro m i j x h hx hj;have hl := h.len;simp only [yln] at hl
  have heq : ((i : Int) == (b.length : Int)) = true := by rw [beq_iff_eq]; omega
  have hlen : decide ((j : Int) < (([13, 10] : List Nat).length : Int)) = true := ydt (by simp; omega);rw [zcW, hlen, if_pos rfl, zaG, hx, yob, heq, if_pos rfl]
 cases w with
 | nil =>
  have h := off (m + 2) i 0 13 hat rfl (by decide);rw [show ((0 : Nat) : Int) = 0 from rfl] at h;rw [h];exact ⟨_, rfl, rfl⟩
 | cons c w =>
  have h := one (m + 2) i 0 13 c w hat rfl (by decide);rw [show ((0 : Nat) : Int) = 0 from rfl] at h;rw [h];unfold afR;dsimp only
  cases c == 13 with
  | false => exact ⟨_, rfl, rfl, rfl, by omega, rfl⟩
  | true =>
   have hat1 : At b (i + 1) w := by have := hat.next 1 (by simp); simpa using this
   rw [ynt, if_neg yfn, if_neg yfn]
   cases w with
   | nil =>
    rw [off (m + 1) (i + 1) 1 10 hat1 rfl (by decide)];exact ⟨_, rfl, rfl⟩
   | cons c2 w2 =>
    rw [one (m + 1) (i + 1) 1 10 c2 w2 hat1 rfl (by decide)];dsimp only
    cases c2 == 10 with
    | false => exact ⟨_, rfl, rfl, rfl, by omega, rfl⟩
    | true =>
     have hat2 : At b (i + 2) w2 := by have := hat1.next 1 (by simp); simpa using this
     rw [ynt, if_neg yfn, if_neg yfn, zcW, show decide (((1 + 1 : Nat) : Int) < (([13, 10] : List Nat).length : Int)) = false from rfl, if_neg yfn];exact hg w2 hat2 (by simp)
theorem of_eq {L : Int} (hL0 : 0 ≤ L) {b : Str} (hb : b.length < 100000000) : ∀ (f : Nat) (w : Str) (i : Nat) (sm : Int) (o : Str) (n : Nat) (ln : Int), At b i w → w.length < f → 0 ≤ sm → sm ≤ 1099511627776 → o.length ≤ i → w.length < n →
  ztk (szR L f i sm o w) (zcX L b n 0 0 o [] ln (i : Int) sm) := by
 intro f
 induction f with
 | zero => intro w i sm o n ln _ h; omega
 | succ f ih =>
  intro w i sm o n ln hat hf h0 hsm ho hn;obtain ⟨n, rfl⟩ : ∃ m, n = m + 1 := ⟨n - 1, by omega⟩;have hl := hat.len;rw [zcX, zoM hb hat (by decide) (by decide), yob, szR, show zoy (-1) 0 = none from rfl]
  cases hr : rdL none 0 false w with
  | more =>
   unfold zlL;dsimp only;rw [ydf (show ¬ ((0 : Int) < 0) by decide), if_neg yfn, show ((0 : Int) == 0) = true from rfl, if_pos rfl, zY (by omega) (by omega)];exact ⟨_, rfl, rfl⟩
  | bad k e =>
   obtain ⟨h1, h2, h3⟩ := zok hr;unfold zlL;dsimp only;rw [ydt (show (0 : Int) < (k : Int) by omega), if_pos rfl, zfO (by omega)];exact ⟨_, rfl, rfl, rfl, by omega, zCh h3⟩
  | line k =>
   obtain ⟨h1, h2, h3⟩ := zho hr;have hk2 := zyN hr
   have hk0 : ((k : Int) == 0) = false := by rw [beq_eq_false_iff_ne]; omega
   obtain ⟨e1, e2, e3⟩ := zw3 hat (by omega) (by omega) hb;have hat' : At b (i + k) (w.drop k) := hat.next k (by omega);have hdl : (w.drop k).length = w.length - k := yld ..
   have htl : (w.take (k - 2)).length ≤ w.length := by simp; omega
   obtain ⟨l, hc⟩ := zsv (w.take (k - 2)) (by omega);have hce := zsO (w.take (k - 2));unfold zlL;dsimp only;rw [ydf (show ¬ ((0 : Int) < 0) by decide), if_neg yfn, hk0, if_neg yfn, e1, yob, e2, yob, e3, yob, hc, yob, yob];dsimp only
   have bad : ∀ e : Int, (e == 0) = false → ztk (.bad (i + k) e) (zg2 (zcX L b n) L b 0 0 o [] ln sm ((zaB (w.take (k - 2))).1, l, (zaB (w.take (k - 2))).2) ((i + k : Nat) : Int) e) := by
    intro e he;unfold zg2;rw [he, ynf, if_pos rfl];exact ⟨_, rfl, rfl, rfl, by omega, he⟩
   cases he : (zaB (w.take (k - 2))).2 == 0 with
   | false =>
    rw [if_neg yfn, ynf, if_pos rfl];exact bad _ he
   | true =>
    have hc0 : (zaB (w.take (k - 2))).2 = 0 := by simpa using he
    obtain ⟨hn0, hn1⟩ := hce hc0;rw [if_pos rfl, ynt, if_neg yfn, zY (by omega) (by omega), yob]
    cases hov : decide (1099511627776 - sm < (zaB (w.take (k - 2))).1) with
    | true =>
     rw [if_pos rfl];exact bad 7 rfl
    | false =>
     have hov' : ¬ (1099511627776 - sm < (zaB (w.take (k - 2))).1) := by simpa using hov
     unfold zjP zg2;rw [if_neg yfn, if_neg yfn];dsimp only;rw [hc0, show (!((0 : Int) == 0)) = false from rfl, if_neg yfn]
     generalize hN : (zaB (w.take (k - 2))).1 = N at *
     obtain ⟨m, rfl⟩ : ∃ m : Nat, N = (m : Int) := ⟨N.toNat, by omega⟩
     cases hz : ((m : Int) == 0) with
     | true =>
      rw [if_pos rfl, if_pos rfl, Option.bind_fun_some];exact zDx hL0 hb f (w.drop k) (i + k) 0 [] fuel ln hat' (by omega) (by decide) (by omega) (by decide) (zeK (by omega))
     | false =>
      have hm0 : m ≠ 0 := by intro h; subst h; exact absurd hz (by decide)
      have e5 : zbb (b.length : Int) ((i + k : Nat) : Int) = some ((w.drop k).length : Int) := by rw [zY (by omega) (by omega)]; exact congrArg some (by omega)
      rw [if_neg yfn, if_neg yfn, zak (by omega) (by omega), yob, e5, yob, Int.toNat_natCast]
      by_cases hsh : (w.drop k).length < m
      ·have e6 : min (m : Int) ((w.drop k).length : Int) = ((w.drop k).length : Int) := by omega
       rw [if_pos hsh, e6, zfO (by omega), yob, zbt (by omega) (by omega), yob, zhi (by simp; omega), yob, yob, ydt (by omega), if_pos rfl];exact ⟨_, rfl, rfl⟩
      ·have e6 : min (m : Int) ((w.drop k).length : Int) = (m : Int) := by omega
       have e7 : ((b.take (i + k + m)).drop (i + k)) = (w.drop k).take m := by rw [List.drop_take, hat'.drop, show i + k + m - (i + k) = m by omega]
       rw [if_neg hsh, e6, zfO (by omega), yob, zbt (by omega) (by omega), yob, e7, zhi (by simp; omega), yob, yob, ydf (by omega), if_neg yfn];refine zCi hb (hat'.next m (by omega)) fun w' hw' hl' => ?_;have hl2 := hw'.len;rw [yld] at hl';exact ih w' (i + k + m + 2) (sm + m) _ n ln hw' (by omega) (by omega) (by omega) (by simp; omega) (by omega)
theorem zyO {L : Int} (hL0 : 0 ≤ L) {b : Str} (hb : b.length < 100000000) : ztk (szR L (b.length + 1) 0 0 [] b) (znW L b) :=
 of_eq hL0 hb (b.length + 1) b 0 0 [] fuel 0 (At.zero b) (by omega) (by decide) (by decide) (by decide) (zeK (by omega))
end Go.Dm
end
section
namespace Go.Dm
theorem zDl {fr : api_Frame} (hf : fr = ⟨1, 0⟩ ∨ (∃ n : Nat, fr = ⟨2, (n : Int)⟩ ∧ n ≤ 1099511627776) ∨ fr = ⟨3, 0⟩ ∨ fr = ⟨4, 0⟩) {h : api_Head} {s : Str} {L : Int} {en : Bool} {a : Nat} {me : Str} {e : Int} (ha : a ≤ s.length) (hs : s.length < 20000000) (h0 : 0 ≤ L) :
    ((znX fr L (s.drop a)).bind fun r32 => if fr.Kind == 4 then zaw s ⟨(a : Int), e, h⟩ (fr, 0) r32 en else zaw s ⟨(a : Int), e, h⟩ (fr, 0) r32 false) = some ⟨(zhp h fr a (s.drop a) L en).1, (zhp h fr a (s.drop a) L en).2.1, (zhp h fr a (s.drop a) L en).2.2⟩ := by
  have hdl : (s.drop a).length = s.length - a := yld ..
  have hlen : ((a + (s.drop a).length : Nat) : Int) = (s.length : Int) := by omega
  rcases hf with rfl | ⟨n, rfl, hn⟩ | rfl | rfl
  · show (zaw s ⟨(a : Int), e, h⟩ (⟨1, 0⟩, 0) ⟨0, 0, [], [], 0⟩ false) = some ⟨⟨h, ⟨1, 0⟩, [], []⟩, (a : Int), 0⟩
    unfold zaw;dsimp only;rw [if_neg yfn, if_neg (by decide), if_neg (by decide), zak (by omega) (by omega), yob, Int.add_zero]
  · have hb : zhp h ⟨2, (n : Int)⟩ a (s.drop a) L en = if ((s.drop a).length : Int) < (n : Int) then (zdA, 0, 6) else (⟨h, ⟨2, (n : Int)⟩, (s.drop a).take n, []⟩, (a : Int) + (n : Int), 0) := by
      unfold zhp;dsimp only;rw [show ((2 : Int) == 1) = false from rfl, if_neg yfn, show ((2 : Int) == 2) = true from rfl, if_pos rfl, Int.toNat_natCast]
    rw [hb];unfold znX;dsimp only;rw [show ((2 : Int) == 1) = false from rfl, if_neg yfn, show ((2 : Int) == 2) = true from rfl, if_pos rfl, show ((2 : Int) == 4) = false from rfl];simp only [Bool.false_eq_true, if_false]
    by_cases hle : n ≤ (s.drop a).length
    · rw [ydf (by omega), if_neg yfn, zbQ hle, yob, yob, if_neg (show ¬ (((s.drop a).length : Int) < (n : Int)) by omega)]
      unfold zaw;dsimp only;rw [if_neg yfn, ydf (by omega), if_neg yfn, if_neg (by decide), zak (by omega) (by omega), yob]
    · rw [ydt (by omega), if_pos rfl, yob, if_pos (show ((s.drop a).length : Int) < (n : Int) by omega)]
      rfl
  · have hb : zhp h ⟨3, 0⟩ a (s.drop a) L en = (match szR L ((s.drop a).length + 1) 0 0 [] (s.drop a) with
        | .more => (zdA, 0, 6)
        | .bad _ e => (zdA, 0, e)
        | .whole k o tr => (⟨h, ⟨3, 0⟩, o, tr⟩, ((a + k : Nat) : Int), 0)) := rfl
    rw [hb];have hfate := zyO h0 (b := s.drop a) (by omega);show ((znW L (s.drop a)).bind fun r20 => if r20.At == 0 then some ⟨-1, 0, r20.Body, r20.Trailers, r20.Line⟩ else some ⟨r20.At, r20.Err, r20.Body, r20.Trailers, 0⟩).bind (fun r32 => zaw s ⟨(a : Int), e, h⟩ (⟨3, 0⟩, 0) r32 false) = _
    cases hc : szR L ((s.drop a).length + 1) 0 0 [] (s.drop a) with
    | more =>
      rw [hc] at hfate;obtain ⟨f, hf, h1⟩ := hfate;rw [hf, yob, h1, if_pos (by decide), yob];rfl
    | bad q e' =>
      rw [hc] at hfate;obtain ⟨f, hf, h1, h2, h3, h4⟩ := hfate
      have hz : ((q : Int) == 0) = false := by rw [beq_eq_false_iff_ne]; omega
      rw [hf, yob, h1, hz, if_neg yfn, yob, h2];unfold zaw;dsimp only;rw [if_neg yfn, ydf (by omega), if_neg yfn, h4, ynf, if_pos rfl];rfl
    | whole q o tr =>
      rw [hc] at hfate;obtain ⟨f, hf, h1, h2, h3, h4, h5⟩ := hfate;have hk := zvj hc
      have hz : ((q : Int) == 0) = false := by rw [beq_eq_false_iff_ne]; omega
      rw [hf, yob, h1, hz, if_neg yfn, yob, h2, h3, h4];unfold zaw;dsimp only;rw [if_neg yfn, ydf (by omega), if_neg yfn, if_neg (by decide), zfO (by omega), yob]
  · show zaw s ⟨(a : Int), e, h⟩ (⟨4, 0⟩, 0) ⟨-1, 0, s.drop a, [], 0⟩ en = some ⟨(if en then ((⟨h, ⟨4, 0⟩, s.drop a, []⟩ : api_Message), ((a + (s.drop a).length : Nat) : Int), (0 : Int)) else (zdA, 0, 6)).1, (if en then ((⟨h, ⟨4, 0⟩, s.drop a, []⟩ : api_Message), ((a + (s.drop a).length : Nat) : Int), (0 : Int)) else (zdA, 0, 6)).2.1, (if en then ((⟨h, ⟨4, 0⟩, s.drop a, []⟩ : api_Message), ((a + (s.drop a).length : Nat) : Int), (0 : Int)) else (zdA, 0, 6)).2.2⟩
    rw [hlen];cases en <;> rfl
def zlT (k : Int) (me s : Str) (L : Int) (en : Bool) : api_Message × Int × Int := if decide (L < 0) || decide (65536 < L) then (zdA, 0, 1) else msgP k me s L en
theorem zzD {k : Int} (hk : k = 1 ∨ k = 2) (L : Int) (me s : Str) (en : Bool) (hs : s.length ≤ 4000) : zey k me s L en = some (zlT k me s L en) := by
 unfold zlT
 cases h : decide (L < 0) || decide (65536 < L) with
 | true =>
  unfold zey;rw [zCx, Bool.or_assoc, h, Bool.or_true];rfl
 | false =>
  have h2 := Bool.or_eq_false_iff.1 h
  have h3 : ¬ L < 0 := by simpa using h2.1
  have h4 : ¬ 65536 < L := by simpa using h2.2
  exact zzF hk (by omega) (by omega) me s en hs
theorem zs5 {k : Int} (hk : k = 1 ∨ k = 2) (L : Int) (me s : Str) (en : Bool) (hs : s.length ≤ 4000) : zh9 k me s L en = some ⟨(zlT k me s L en).1, (zlT k me s L en).2.1, (zlT k me s L en).2.2⟩ := by
 have h1 : zh9 k me s L en = zb0 k me s L en (decide (L < 0) || decide (65536 < L)) := by
  unfold zh9
  rcases hk with rfl | rfl <;> cases decide (L < 0) <;> rfl
 rw [h1];unfold zlT
 cases h : decide (L < 0) || decide (65536 < L) with
 | true => rfl
 | false =>
  have h2 := Bool.or_eq_false_iff.1 h
  have h3 : ¬ L < 0 := by simpa using h2.1
  have h4 : ¬ 65536 < L := by simpa using h2.2
  unfold zb0 msgP;rw [if_neg yfn, if_neg yfn, zwH k L s (by omega), yob]
  cases hr : znd k L zw s [] 0 0 with
  | mk o f' =>
   cases o with
   | none => rfl
   | some z =>
    obtain ⟨z1, z2, z3, z4, _, z6⟩ := zot zqq hr
    have hz : ((z.1 : Int) == 0) = false := by rw [beq_eq_false_iff_ne]; omega
    unfold zsY;dsimp only;rw [hz, if_neg yfn]
    cases he : z.2.e == 0 with
    | false => rfl
    | true =>
     have hw : z.2.w = true := by rw [z3, he]
     have hh := z4 hw;simp only [yln, Nat.zero_add, Nat.sub_zero, yna] at hh z6;have hz0 : zw.Fields.length = 0 := rfl;obtain ⟨g3, g4, _⟩ := ztl hh (by rw [ylt]; omega);rw [ynt, if_neg yfn, if_neg yfn, ztq _ _ (by omega) (zfj (by decide) g4), yob]
     cases hfe : (zfz me z.2.g).2 == 0 with
     | false => rfl
     | true =>
      have hfr : zfz me z.2.g = ((zfz me z.2.g).1, 0) := Prod.ext rfl (by simpa using hfe);rw [ynt, if_neg yfn, if_neg yfn, zD (by omega), yob];have := zDl (zmw hfr) (h := z.2.g) (s := s) (L := L) (en := en) (a := z.1) (me := me) (e := z.2.e) (by omega) (by omega) (by omega);rw [← this, hfr]
theorem zxZ {s : Str} {x : api_Head} (h : zby 1 s = (x, 0)) : x.Code = 0 := by
 unfold zby zq9 at h
 split at h
 ·exact absurd (show (1 : Int) = 0 from congrArg Prod.snd h) (by decide)
 ·split at h
  ·exact absurd (show (24 : Int) = 0 from congrArg Prod.snd h) (by decide)
  ·rw [if_pos (by decide)] at h
   split at h
   ·exact absurd (show (26 : Int) = 0 from congrArg Prod.snd h) (by decide)
   ·split at h
    ·cases h; rfl
    ·exact absurd (show (20 : Int) = 0 from congrArg Prod.snd h) (by decide)
theorem zwM {s : Str} {x : api_Head} (h : zby 2 s = (x, 0)) : x.Method = [] := by
 unfold zby ztw at h
 split at h
 ·exact absurd (show (1 : Int) = 0 from congrArg Prod.snd h) (by decide)
 ·split at h
  ·exact absurd (show (24 : Int) = 0 from congrArg Prod.snd h) (by decide)
  ·rw [if_neg (by decide)] at h
   split at h
   ·exact absurd (show (26 : Int) = 0 from congrArg Prod.snd h) (by decide)
   ·split at h
    ·cases h; rfl
    ·exact absurd (show (20 : Int) = 0 from congrArg Prod.snd h) (by decide)
structure ReadOk (k : Int) (s : Str) (m : api_Message) (n : Int) : Prop where
 pos : 0 < n
 le : n ≤ (s.length : Int)
 fields : m.Head.Fields.length ≤ 100
 trailers : m.Trailers.length ≤ 100
 code : k = 1 → m.Head.Code = 0
 method : k = 2 → m.Head.Method = []
theorem zB2 {h : api_Head} {fr : api_Frame} {a : Nat} {w : Str} {L : Int} {en : Bool} (hf : fr = ⟨1, 0⟩ ∨ (∃ n : Nat, fr = ⟨2, (n : Int)⟩ ∧ n ≤ 1099511627776) ∨ fr = ⟨3, 0⟩ ∨ fr = ⟨4, 0⟩) (h0 : (zhp h fr a w L en).2.2 = 0) (hbad : ∀ q e, szR L (w.length + 1) 0 0 [] w = .bad q e → (e == 0) = false) :
    (a : Int) ≤ (zhp h fr a w L en).2.1 ∧ (zhp h fr a w L en).2.1 ≤ ((a + w.length : Nat) : Int) ∧ (zhp h fr a w L en).1.Head = h ∧ (zhp h fr a w L en).1.Trailers.length ≤ 100 := by
  rcases hf with rfl | ⟨n, rfl, hn⟩ | rfl | rfl
  · show (a : Int) ≤ (a : Int) ∧ (a : Int) ≤ ((a + w.length : Nat) : Int) ∧ h = h ∧ ([] : List api_Field).length ≤ 100
    exact ⟨by omega, by omega, rfl, by decide⟩
  · have hb : zhp h ⟨2, (n : Int)⟩ a w L en = if (w.length : Int) < (n : Int) then (zdA, 0, 6) else (⟨h, ⟨2, (n : Int)⟩, w.take n, []⟩, (a : Int) + (n : Int), 0) := by
      unfold zhp;dsimp only;rw [show ((2 : Int) == 1) = false from rfl, if_neg yfn, show ((2 : Int) == 2) = true from rfl, if_pos rfl, Int.toNat_natCast]
    rw [hb] at h0 ⊢
    split at h0
    · cases h0
    · rename_i hlt
      rw [if_neg hlt];exact ⟨by dsimp only; omega, by dsimp only; omega, rfl, yz _⟩
  · have hb : zhp h ⟨3, 0⟩ a w L en = (match szR L (w.length + 1) 0 0 [] w with
        | .more => (zdA, 0, 6)
        | .bad _ e => (zdA, 0, e)
        | .whole k o tr => (⟨h, ⟨3, 0⟩, o, tr⟩, ((a + k : Nat) : Int), 0)) := rfl
    rw [hb] at h0 ⊢
    cases hc : szR L (w.length + 1) 0 0 [] w with
    | more => rw [hc] at h0; cases h0
    | bad q e =>
      rw [hc] at h0;have := hbad q e hc;dsimp only at h0;rw [h0] at this; cases this
    | whole q o tr =>
      have h1 := zvj hc;have h2 := zxN hc;exact ⟨by dsimp only; omega, by dsimp only; omega, rfl, h2⟩
  · have hb : zhp h ⟨4, 0⟩ a w L en = if en then (⟨h, ⟨4, 0⟩, w, []⟩, ((a + w.length : Nat) : Int), 0) else (zdA, 0, 6) := rfl
    rw [hb] at h0 ⊢
    cases en with
    | true =>
      rw [if_pos rfl];exact ⟨by dsimp only; omega, Int.le_refl _, rfl, yz _⟩
    | false => cases h0
theorem zwN {k L : Int} (hk : k = 1 ∨ k = 2) {me s : Str} {en : Bool} (hs : s.length ≤ 4000) (h : (zlT k me s L en).2.2 = 0) : ReadOk k s (zlT k me s L en).1 (zlT k me s L en).2.1 := by
 unfold zlT at h ⊢
 cases hb : decide (L < 0) || decide (65536 < L) with
 | true => rw [hb] at h; cases h
 | false =>
  have hb2 := Bool.or_eq_false_iff.1 hb
  have hb3 : ¬ L < 0 := by simpa using hb2.1
  rw [hb, if_neg yfn] at h;rw [if_neg yfn];unfold msgP at h ⊢
  cases hr : znd k L zw s [] 0 0 with
  | mk o f' =>
   rw [hr] at h
   cases o with
   | none => cases h
   | some z =>
    obtain ⟨z1, z2, z3, z4, _, z6⟩ := zot zqq hr;dsimp only at h ⊢
    cases he : z.2.e == 0 with
    | false => rw [he, ynf, if_pos rfl] at h; dsimp only at h; rw [h] at he; cases he
    | true =>
     have hw : z.2.w = true := by rw [z3, he]
     have hh := z4 hw;simp only [yln, Nat.zero_add, Nat.sub_zero, yna] at hh z6 z2;have hz0 : zw.Fields.length = 0 := rfl;obtain ⟨g3, g4, _, x, hx, x2, x5⟩ := ztl hh (by rw [ylt]; omega);rw [he, ynt, if_neg yfn] at h;rw [ynt, if_neg yfn]
     cases hfe : (zfz me z.2.g).2 == 0 with
     | false => rw [hfe, ynf, if_pos rfl] at h; dsimp only at h; rw [h] at hfe; cases hfe
     | true =>
      have hfr : zfz me z.2.g = ((zfz me z.2.g).1, 0) := Prod.ext rfl (by simpa using hfe);rw [hfe, ynt, if_neg yfn] at h;rw [ynt, if_neg yfn];have hfate := zyO (L := L) (by omega) (b := s.drop z.1) (by simp; omega);obtain ⟨b1, b2, b3, b4⟩ := zB2 (zmw hfr) h (fun q e hq => by rw [hq] at hfate; obtain ⟨_, _, _, _, _, h4⟩ := hfate; exact h4);rw [yld] at b2;refine ⟨by omega, by omega, by rw [b3]; exact g3, b4, fun hk1 => ?_, fun hk2 => ?_⟩
      ·subst hk1; rw [b3, ← x5]; exact zxZ hx
      ·subst hk2; rw [b3, ← x2]; exact zwM hx
end Go.Dm
end
section
namespace Go.Dm
def zym (m : api_Message) : Prop := m.Head.Fields.length ≤ 100 ∧ m.Trailers.length ≤ 100
def oneR (k L : Int) (en : Bool) (s : Str) (a : Nat) (R : api_Message × Int × Int) : api_Message × Int × stream_reader :=
 if !(R.2.2 == 0) then (R.1, R.2.2, ⟨s, (a : Int), L, en⟩) else if (R.1.Head.Method == [67, 79, 78, 78, 69, 67, 84]) || (R.1.Head.Code == 101) then (zdA, 20, ⟨s, (a : Int), L, en⟩) else (R.1, 0, ⟨s, (a : Int) + R.2.1, L, en⟩)
theorem one_eq {k : Int} (hk : k = 1 ∨ k = 2) {s w me : Str} {a : Nat} {L : Int} {en : Bool} (hat : At s a w) (hs : s.length ≤ 4000) : zeg ⟨s, (a : Int), L, en⟩ k me = some (oneR k L en s a (zlT k me w L en)) := by
 have hl := hat.len;have hok := zwN (L := L) hk (me := me) (s := w) (en := en) (by omega);unfold zeg oneR;dsimp only;rw [zD hat.le, hat.drop, yob, zzD hk L me w en (by omega), yob];generalize zlT k me w L en = R at hok ⊢
 cases he : R.2.2 == 0 with
 | false => rfl
 | true =>
  have hr := hok (by simpa using he);have h1 := hr.pos;have h2 := hr.le;rw [ynt, if_neg yfn, if_neg yfn];unfold zcM
  cases R.1.Head.Method == [67, 79, 78, 78, 69, 67, 84] with
  | true => rfl
  | false =>
   cases R.1.Head.Code == 101 with
   | true => rfl
   | false =>
    rw [if_neg yfn, if_neg yfn, zak (by dsimp only; omega) (by dsimp only; omega)];rfl
theorem zCD {L : Int} {s : Str} (hs : s.length ≤ 4000) : ∀ (f : Nat) (w : Str) (a : Nat) (l : List api_Message) (n1 n2 : Nat), At s a w → w.length < f → w.length < n1 → w.length < n2 → l.length ≤ a → (∀ m ∈ l, zym m) →
  ∃ l' p e, zaF s n1 l s (a : Int) L false = some (l', p, e) ∧ zay s L n2 l (a : Int) 0 = some ⟨l', p, e⟩ ∧ l'.length ≤ 4000 ∧ ∀ m ∈ l', zym m := by
 intro f
 induction f with
 | zero => intro w a l n1 n2 _ h; omega
 | succ f ih =>
  intro w a l n1 n2 hat hf h1 h2 hl hfi;obtain ⟨n1, rfl⟩ : ∃ m, n1 = m + 1 := ⟨n1 - 1, by omega⟩;obtain ⟨n2, rfl⟩ : ∃ m, n2 = m + 1 := ⟨n2 - 1, by omega⟩;have hln := hat.len;have hok := zwN (k := 1) (L := L) (.inl rfl) (me := []) (s := w) (en := false) (by omega);rw [zaF, one_eq (.inl rfl) hat hs, yob, zay, zD hat.le, hat.drop, yob, zs5 (.inl rfl) L [] w false (by omega), yob];generalize zlT 1 [] w L false = R at hok ⊢
  have hl4 : l.length ≤ 4000 := by omega
  unfold oneR
  cases he : R.2.2 == 0 with
  | false =>
   dsimp only;rw [ynf, if_pos rfl, if_neg yfn];dsimp only
   have hp : ∀ t, zbC (zaF s n1) l (R.1, R.2.2, ⟨s, (a : Int), L, false⟩) t = some (l, (a : Int), if t then 0 else R.2.2) := by
    intro t;unfold zbC zdK
    cases t with
    | true => rfl
    | false => dsimp only; rw [if_neg yfn, he, if_neg yfn, if_neg yfn]
   have hr : zb1 (zay s L n2) s l (a : Int) 0 ⟨R.1, R.2.1, R.2.2⟩ false = some ⟨l, (a : Int), if (R.2.2 == 6) && ((a : Int) == (s.length : Int)) then 0 else R.2.2⟩ := by
    unfold zb1 zda zeo zen;rw [if_neg yfn];dsimp only;rw [he, ynf, if_pos rfl];cases R.2.2 == 6 <;> cases (a : Int) == (s.length : Int) <;> rfl
   refine ⟨l, (a : Int), if (R.2.2 == 6) && ((a : Int) == (s.length : Int)) then 0 else R.2.2, ?_, hr, hl4, hfi⟩;simp only [hp];cases R.2.2 == 6 <;> cases (a : Int) == (s.length : Int) <;> rfl
  | true =>
   have h0 : R.2.2 = 0 := by simpa using he
   have hr := hok h0;have hp := hr.pos;have hle := hr.le
   have hcode : (R.1.Head.Code == 101) = false := by rw [hr.code rfl]; rfl
   dsimp only;rw [ynt, if_neg yfn, if_pos rfl, hcode, Bool.or_false]
   cases hm : R.1.Head.Method == [67, 79, 78, 78, 69, 67, 84] with
   | true => exact ⟨l, (a : Int), 20, rfl, rfl, hl4, hfi⟩
   | false =>
    have hx : R.2.1 = ((R.2.1.toNat : Nat) : Int) := by omega
    rw [if_neg yfn];dsimp only;unfold zbC zb1 zda;dsimp only;rw [show ((0 : Int) == 6) = false from rfl, if_neg yfn, if_neg yfn, if_pos (by decide), if_pos (zba (by omega) (by omega)), if_neg yfn, h0, show (!((0 : Int) == 0)) = false from rfl, if_neg yfn, if_pos (zba (by omega) (by omega)), hx, zfO (by omega), yob, show (a : Int) + ((R.2.1.toNat : Nat) : Int) = ((a + R.2.1.toNat : Nat) : Int) by omega];refine ih (w.drop R.2.1.toNat) (a + R.2.1.toNat) (l ++ [R.1]) n1 n2 (hat.next _ (by omega)) ?_ ?_ ?_ ?_ ?_
    ·rw [yld]; omega
    ·rw [yld]; omega
    ·rw [yld]; omega
    ·rw [yla, List.length_singleton]; omega
    ·intro m hm
     rcases List.mem_append.1 hm with hm | hm
     ·exact hfi m hm
     ·rw [List.mem_singleton] at hm; subst hm; exact ⟨hr.fields, hr.trailers⟩
theorem zxo (l : List api_Message) (hl : l.length ≤ 4000) : zgv l = some (l.map (·.Head.Method)) := by
 have key : ∀ (n i : Nat), i ≤ l.length → l.length - i < n → zc8 l n ((l.take i).map (·.Head.Method)) (i : Int) = some (l.map (·.Head.Method)) := by
  intro n
  induction n with
  | zero => intro i _ h; omega
  | succ n ih =>
   intro i hi hn;rw [zc8]
   by_cases hlt : i < l.length
   ·have g : l[i]? = some l[i] := ygg hlt
    have ht : (l.take i).map (·.Head.Method) ++ ([l[i].Head.Method] : List Str) = (l.take (i + 1)).map (·.Head.Method) := by rw [List.take_add_one, g, List.map_append]; rfl
    rw [ydt (by omega), if_pos rfl, zaG, g, yob, if_pos (zba (by simp; omega) (by simp; omega)), ze (by omega), yob, ht];exact ih (i + 1) (by omega) (by omega)
   ·rw [ydf (by omega), if_neg yfn, List.take_of_length_le (by omega)]
 exact key fuel 0 (yz _) (zeK (by omega))
theorem zv5 (m : api_Message) (h : zym m) : zkT m m = some true := by
 have h1 := h.1;have h2 := h.2;unfold zkT;rw [zt3 _ _ (by omega), yob, zx1, if_pos rfl, ybs, if_pos rfl, ybs, if_pos rfl, zo4 _ _ (by omega), yob, ybs];rfl
theorem zv6 (l : List api_Message) (hl : l.length ≤ 5000) (h : ∀ m ∈ l, zym m) : zkU l l = some true := by
 have key : ∀ (n i : Nat), i ≤ l.length → l.length - i < n → zf4 l l n (i : Int) = some true := by
  intro n
  induction n with
  | zero => intro i _ h; omega
  | succ n ih =>
   intro i hi hn;rw [zf4]
   by_cases hlt : i < l.length
   ·have g : l[i]? = some l[i] := ygg hlt
    have hla : lAt l (i : Int) = some l[i] := by simp [lAt, g]
    rw [if_pos (by simp; omega), hla, yob, yob, zv5 _ (h l[i] (ygm _)), yob, ynt, if_neg yfn, ze (by omega), yob];exact ih (i + 1) (by omega) (by omega)
   ·rw [if_neg (by simp; omega)]
 unfold zkU;rw [ybs, ynt, if_neg yfn];exact key fuel 0 (yz _) (zeK (by omega))
theorem zu6 : zle = some true := by decide +kernel
theorem zox (s : Str) (limit : Int) (_ : inI limit = true) : zep s limit = some true := by
 unfold zep;have e4 : sTo s (min (s.length : Int) 4000) = some (s.take 4000) := zDB s 4000
 have h4 : (s.take 4000).length ≤ 4000 := by simp; omega
 rw [zu6, yob, ynt, if_neg yfn, e4, yob];generalize s.take 4000 = s at h4 ⊢;obtain ⟨l, p, e, r1, r2, r3, r4⟩ := zCD (L := limit) h4 (s.length + 1) s 0 [] fuel fuel (At.zero s) (by omega) (zeK (by omega)) (zeK (by omega)) (yz _) (fun m hm => by cases hm);have e1 : zfK s limit = some (l, p, e) := r1;have e2 : ziL s limit = some ⟨l, p, e⟩ := r2;rw [e1, yob, e2, yob, zxo l r3, yob]
 have key : ∀ (n i : Nat), i ≤ l.length → l.length - i < n → zZ (l, p, e) ⟨l, p, e⟩ (l.map (·.Head.Method)) n (i : Int) = some true := by
  intro n
  induction n with
  | zero => intro i _ h; omega
  | succ n ih =>
   intro i hi hn;rw [zZ];dsimp only;rw [List.length_map]
   by_cases hlt : i < l.length
   ·have g : l[i]? = some l[i] := ygg hlt;rw [ydt (show (i : Int) < (l.length : Int) by omega), if_pos rfl, ydf (show ¬ ((l.length : Int) ≤ (i : Int)) by omega), if_neg yfn, zaG, zaG, List.getElem?_map, g, Option.map_some, yob, yob, ybs];unfold zbO;rw [ynt, if_neg yfn, ze (by omega), yob];exact ih (i + 1) (by omega) (by omega)
   ·rw [ydf (show ¬ ((i : Int) < (l.length : Int)) by omega), if_neg yfn, zv6 l (by omega) r4, yob, if_pos rfl, ybs, if_pos rfl, ybs, if_pos rfl, ybs];rfl
 exact key fuel 0 (yz _) (zeK (by omega))
end Go.Dm
end
