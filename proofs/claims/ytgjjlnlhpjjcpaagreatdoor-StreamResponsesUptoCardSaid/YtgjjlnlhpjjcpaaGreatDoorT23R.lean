/-
 Chunks that come piece by piece: any text. The program's.
 Chunks: any text. The document's.
 Messages: any text. The program's.
 Bodies and messages: any text. The document's.
 Messages: any text. The document's, and what both say.
 Streams: any text has the document's requests, and the document's responses.
-/
import Derived.Test.YtgjjlnlhpjjcpaaGreatDoorT26R
section
namespace Go.Dm
inductive RL where
 | more
 | bad (k : Nat) (e : Int)
 | line (k : Nat)
def zm4 (lim : Option Int) (k : Nat) : Bool := match lim with
 | none => false
 | some m => decide (m < (k : Int) + 1)
def rdL (lim : Option Int) : Nat → Bool → Str → RL
 | _,_,[] => .more
 | k,cr,c :: w => if decide (4098 ≤ k) || zm4 lim k then .bad (k + 1) 3 else if !((c == 10) == cr) then .bad (k + 1) 24 else if c == 10 then .line (k + 1) else rdL lim (k + 1) (c == 13) w
theorem zhu {lim : Option Int} : ∀ {w : Str} {k : Nat} {cr : Bool} {q : Nat},rdL lim k cr w = .line q → k < q ∧ q ≤ k + w.length ∧ q ≤ 4098
 | [],k,cr,q,h => by cases h
 | c :: w,k,cr,q,h => by
  rw [rdL] at h
  split at h
  ·cases h
  ·rename_i h1
   have hk : k < 4098 := by
    rcases Nat.lt_or_ge k 4098 with h2 | h2
    ·exact h2
    ·rw [ydt h2] at h1; exact absurd rfl h1
   split at h
   ·cases h
   ·split at h
    ·cases h; simp; omega
    ·have := zhu h;simp only [ylc]; omega
theorem zow {lim : Option Int} : ∀ {w : Str} {k : Nat} {cr : Bool} {q : Nat} {e : Int},rdL lim k cr w = .bad q e → k < q ∧ q ≤ k + w.length ∧ (e = 3 ∨ e = 24)
 | [],k,cr,q,e,h => by cases h
 | c :: w,k,cr,q,e,h => by
  rw [rdL] at h
  split at h
  ·cases h; simp
  ·split at h
   ·cases h; simp
   ·split at h
    ·cases h
    ·have := zow h;simp only [ylc]; omega
theorem zwK {m : Int} : ∀ {w : Str} {k : Nat} {cr : Bool} {q : Nat},rdL (some m) k cr w = .line q → (q : Int) ≤ m
 | [],k,cr,q,h => by cases h
 | c :: w,k,cr,q,h => by
  rw [rdL] at h
  split at h
  ·cases h
  ·rename_i h1
   split at h
   ·cases h
   ·split at h
    ·cases h;unfold zm4 at h1;have h2 : ¬ (m < (k : Int) + 1) := fun h3 => h1 (by dsimp only; rw [ydt h3,Bool.or_true]);omega
    ·exact zwK h
theorem zDx {L sp : Int} {w : Str} {cr : Bool} {q : Nat} (h : rdL (some (L - sp)) 0 cr w = .line q) : sp + ((q - 1 : Nat) : Int) + 1 ≤ L := by
 have h1 := zwK h;have h2 := (zhu h).1;omega
theorem zx1 (s : Str) (n : Nat) (o : Str) (d : dechunk_Decoder) (i : Nat) (e : Int) (he : (e == 0) = false) : FL s (n + 1) o d i false e = some ((i : Int),o,false,e,offD d) := by
 unfold FL;rw [zz];unfold zaw zc8 zbO;rw [he];cases decide ((i : Int) < (s.length : Int)) <;> rfl
def zq3 (a L sp : Int) (k : Nat) : Option Int := if a == 3 then some (L - sp + k) else none
theorem zwL (L a lf sm sp : Int) (u : Str) (tr : List api_Field) (c : UInt8) (i5 : Int) (hu : u.length < 1000000) (hc : (c == 10 && zhr u) = false) :
  zu ⟨L,a,u,lf,sm,sp,tr⟩ c i5 = some (if decide (4098 ≤ u.length) || decide (L < i5) then (false,3,⟨L,a,u,lf,sm,i5,tr⟩) else if !((c == 10) == zhr u) then (false,24,⟨L,a,u,lf,sm,i5,tr⟩) else (false,0,⟨L,a,u ++ [c],lf,sm,i5,tr⟩)) := by
 have j2 : zU ⟨L,a,u,lf,sm,sp,tr⟩ c i5 (zhr u) = some (if decide (4098 ≤ u.length) || decide (L < i5) then (false,3,⟨L,a,u,lf,sm,i5,tr⟩) else if !((c == 10) == zhr u) then (false,24,⟨L,a,u,lf,sm,i5,tr⟩) else (false,0,⟨L,a,u ++ [c],lf,sm,i5,tr⟩)) := by
  unfold zU zak;dsimp only
  by_cases h1 : 4098 ≤ u.length
  ·rw [ydt (show (4098 : Int) ≤ (u.length : Int) by omega),if_pos rfl,if_pos rfl,ydt h1,Bool.true_or,if_pos rfl]
  ·rw [ydf (show ¬ (4098 : Int) ≤ (u.length : Int) by omega),yif,ydf h1,Bool.false_or]
   cases decide (L < i5) with
   | true => rfl
   | false =>
    rw [yif,yif]
    cases h2 : (c == 10) with
    | true =>
     rw [h2,Bool.true_and] at hc;rw [hc]; rfl
    | false =>
     cases zhr u with
     | true => rfl
     | false =>
      rw [if_neg (by decide),ynf,if_pos rfl,if_pos (zbb (by omega) (by omega)),if_neg (by decide)]
 unfold zu;dsimp only
 by_cases h : 0 < u.length
 ·have g : u[u.length - 1]? = some (u[u.length - 1]'(by omega)) := ygg (by omega)
  have e2 : zbc (u.length : Int) 1 = some ((u.length - 1 : Nat) : Int) := by rw [z8 (by omega) (by omega)]; exact congrArg some (by omega)
  have e3 : zhr u = (u[u.length - 1]'(by omega) == 13) := by unfold zhr; rw [g]; exact Option.some_beq_some ..
  rw [ydt (show 0 < (u.length : Int) by omega),if_pos rfl,e2,yob,zaF,g,yob, ← e3];exact j2
 ·have hn : u = [] := List.length_eq_zero_iff.1 (by omega);rw [ydf (by omega),yif];subst hn;exact j2
theorem zwM (L a lf sm : Int) (tr : List api_Field) (o s : Str) (ha : a = 0 ∨ a = 3) (hs : s.length < 100000000) (ho : o.length < 100000000) : ∀ (w u : Str) (sp : Int) (i : Nat),At s i w → 0 ≤ sp → sp < 900000000 - (w.length : Int) → (a = 0 → sp ≤ L) → u.length ≤ 4098 →
  match rdL (zq3 a L sp u.length) u.length (zhr u) w with
  | .more => ∀ n,w.length < n → ∃ d,FL s n o ⟨L,a,u,lf,sm,sp,tr⟩ i false 0 = some ((s.length : Int),o,false,0,d)
  | .bad q e => ∀ n,w.length < n → ∃ d,FL s n o ⟨L,a,u,lf,sm,sp,tr⟩ i false 0 = some (((i + (q - u.length) : Nat) : Int),o,false,e,d)
  | .line q => ∃ v,u ++ w.take (q - u.length - 1) = v ++ [13] ∧ v.length = q - 2 ∧ w.drop (q - u.length - 1) = 10 :: w.drop (q - u.length) ∧
    ∀ n,FL s (n + (q - u.length - 1)) o ⟨L,a,u,lf,sm,sp,tr⟩ i false 0 = FL s n o ⟨L,a,v ++ [13],lf,sm,sp + zkw a * ((q - u.length - 1 : Nat) : Int),tr⟩ (i + (q - u.length - 1)) false 0 := by
 intro w
 induction w with
 | nil =>
  intro u sp i hat _ _ _ _;rw [show rdL (zq3 a L sp u.length) u.length (zhr u) [] = .more by unfold rdL; rfl];dsimp only;intro n hn;obtain ⟨n,rfl⟩ : ∃ m,n = m + 1 := ⟨n - 1,by simp at hn; omega⟩;rw [hat.end_nil];exact ⟨_,zpm s n o _⟩
 | cons c w ihw =>
  intro u sp i hat h0 hsp ha0 hu;have hl := hat.len;simp only [ylc] at hl hsp;have hdr := hat.drop
  have hnext : At s (i + 1) w := by have := hat.next 1 (by simp); simpa using this
  have hi5 : zkw a = 0 ∨ zkw a = 1 := by unfold zkw; split <;> simp
  -- what is over
  have hov : (decide (4098 ≤ u.length) || zm4 (zq3 a L sp u.length) u.length) = (decide (4098 ≤ u.length) || decide (L < sp + zkw a)) := by
   congr 1
   unfold zm4 zq3 zkw
   rcases ha with rfl | rfl
   ·have := ha0 rfl;rw [if_neg (by decide),if_neg (by decide)];exact (ydf (by omega)).symm
   ·rw [if_pos (by decide),if_pos (by decide)];exact decide_eq_decide.2 (by omega)
  have hstep0 : zk ⟨L,a,u,lf,sm,sp,tr⟩ (c :: w) = (zu ⟨L,a,u,lf,sm,sp,tr⟩ c (sp + zkw a)).bind fun r => some (1,[],r.1,r.2.1,r.2.2) := by
   rw [zqR _ _ _ _ _ _ _ _ _ ha]
   rcases ha with rfl | rfl
   ·rw [zyy,show zkw 0 = 0 from rfl,Int.add_zero]
   ·rw [zyz _ _ _ _ _ _ _ h0 (by omega),show zkw 3 = 1 from rfl]
  have errs : ∀ (e : Int) (d : dechunk_Decoder),(e == 0) = false → zk ⟨L,a,u,lf,sm,sp,tr⟩ (c :: w) = some (1,[],false,e,d) → ∀ n,(c :: w).length < n → ∃ d,FL s n o ⟨L,a,u,lf,sm,sp,tr⟩ i false 0 = some (((i + (u.length + 1 - u.length) : Nat) : Int),o,false,e,d) := by
   intro e d he hst n hn;obtain ⟨n,rfl⟩ : ∃ m,n = m + 1 + 1 := ⟨n - 2,by simp at hn; omega⟩;rw [zin (k := 1) (q := []) (n + 1) (by omega) hs ho (by simp) (by decide) (by rw [hdr]; exact hst),zx1 _ _ _ _ _ _ he,yan,Nat.add_sub_cancel_left];exact ⟨_,rfl⟩
  rw [rdL]
  by_cases hend : (c == 10 && zhr u) = true
  ·-- the line's end
   rw [Bool.and_eq_true] at hend;obtain ⟨e1,e2⟩ := hend;obtain ⟨p1,p2⟩ := zqC e2
   by_cases hbad : (decide (4098 ≤ u.length) || zm4 (zq3 a L sp u.length) u.length) = true
   ·rw [if_pos hbad];refine errs 3 ⟨L,a,u,lf,sm,sp + zkw a,tr⟩ (by decide) ?_;rw [hstep0]
    have hj2 : zu ⟨L,a,u,lf,sm,sp,tr⟩ c (sp + zkw a) = some (false,3,⟨L,a,u,lf,sm,sp + zkw a,tr⟩) := by
     unfold zu;dsimp only;have g : u[u.length - 1]? = some (u[u.length - 1]'(by omega)) := ygg (by omega)
     have e4 : zbc (u.length : Int) 1 = some ((u.length - 1 : Nat) : Int) := by rw [z8 (by omega) (by omega)]; exact congrArg some (by omega)
     rw [ydt (show 0 < (u.length : Int) by omega),if_pos rfl,e4,yob,zaF,g,yob];unfold zU zak;dsimp only;rw [hov] at hbad
     by_cases h1 : 4098 ≤ u.length
     ·rw [ydt (show (4098 : Int) ≤ (u.length : Int) by omega),if_pos rfl,if_pos rfl]
     ·rw [ydf h1,Bool.false_or] at hbad;rw [ydf (show ¬ (4098 : Int) ≤ (u.length : Int) by omega),yif,hbad,if_pos rfl]
    rw [hj2,yob]
   ·rw [if_neg hbad,e1,e2,if_neg (by decide),if_pos rfl]
    have hq : u.length + 1 - u.length - 1 = 0 := by omega
    dsimp only;rw [hq]
    have hue : u = u.take (u.length - 1) ++ [13] := by
     have h1 := List.take_append_drop (u.length - 1) u
     have h2 : u.drop (u.length - 1) = [13] := by
      have h3 : (u.length - 1) < u.length := by omega
      rw [ydg h3]
      have h4 : u[u.length - 1] = 13 := by
       rw [ygg h3] at p2; exact yoi p2
      rw [h4,show u.length - 1 + 1 = u.length by omega,ydl]
     rw [h2] at h1; exact h1.symm
    have hc10 : c = 10 := by simpa using e1
    refine ⟨u.take (u.length - 1),by simp only [List.take_zero,yan]; exact hue,by rw [ylt]; omega,by rw [hc10]; simp,fun n => ?_⟩;rw [← hue];simp
  ·have hend' : (c == 10 && zhr u) = false := by simpa using hend
   have hj := zwL L a lf sm sp u tr c (sp + zkw a) (by omega) hend';rw [← hov] at hj
   by_cases hbad : (decide (4098 ≤ u.length) || zm4 (zq3 a L sp u.length) u.length) = true
   ·rw [if_pos hbad] at hj ⊢;exact errs 3 _ (by decide) (by rw [hstep0,hj,yob])
   ·rw [if_neg hbad] at hj ⊢
    by_cases hb2 : (!((c == 10) == zhr u)) = true
    ·rw [if_pos hb2] at hj ⊢;exact errs 24 _ (by decide) (by rw [hstep0,hj,yob])
    ·rw [if_neg hb2] at hj ⊢
     have h4098 : u.length < 4098 := by
      rcases Nat.lt_or_ge u.length 4098 with h2 | h2
      ·exact h2
      ·rw [ydt h2] at hbad; exact absurd rfl hbad
     have hc10 : (c == 10) = false := by
      cases h1 : (c == 10) with
      | false => rfl
      | true =>
       rw [h1,Bool.true_and] at hend';rw [h1,hend'] at hb2; exact absurd rfl hb2
     rw [if_neg (by rw [hc10]; exact yfn)];have ih := ihw (u ++ [c]) (sp + zkw a) (i + 1) hnext (by omega) (by omega) (fun h => by subst h; rw [show zkw 0 = 0 from rfl]; have := ha0 rfl; omega) (by simp; omega)
     have hlim : zq3 a L (sp + zkw a) (u ++ [c]).length = zq3 a L sp u.length := by
      unfold zq3 zkw
      split
      ·rw [yla,List.length_singleton]; congr 1; omega
      ·rfl
     have h13 : zhr (u ++ [c]) = (c == 13) := zze u c;rw [hlim,h13,yla,List.length_singleton] at ih
     have hone : ∀ n,FL s (n + 1) o ⟨L,a,u,lf,sm,sp,tr⟩ i false 0 = FL s n o ⟨L,a,u ++ [c],lf,sm,sp + zkw a,tr⟩ (i + 1) false 0 := by
      intro n;rw [zin (k := 1) (q := []) n (by omega) hs ho (by simp) (by decide) (by rw [hdr,hstep0,hj,yob]; rfl),yan]
     cases hr : rdL (zq3 a L sp u.length) (u.length + 1) (c == 13) w with
     | more =>
      rw [hr] at ih;dsimp only at ih ⊢;intro n hn;obtain ⟨n,rfl⟩ : ∃ m,n = m + 1 := ⟨n - 1,by simp at hn; omega⟩;rw [hone];exact ih n (by simpa using hn)
     | bad q e =>
      rw [hr] at ih;dsimp only at ih ⊢;have hq := (zow hr).1;intro n hn;obtain ⟨n,rfl⟩ : ∃ m,n = m + 1 := ⟨n - 1,by simp at hn; omega⟩;rw [hone];obtain ⟨d,hd⟩ := ih n (by simpa using hn);exact ⟨d,by rw [hd,show i + 1 + (q - (u.length + 1)) = i + (q - u.length) by omega]⟩
     | line q =>
      rw [hr] at ih;dsimp only at ih ⊢;have hq := (zhu hr).1;obtain ⟨v,g1,g2,g3,g4⟩ := ih
      have e1 : q - u.length - 1 = (q - (u.length + 1) - 1) + 1 := by omega
      have e2 : q - u.length = (q - (u.length + 1)) + 1 := by omega
      refine ⟨v,?_,g2,?_,fun n => ?_⟩
      ·rw [e1,List.take_succ_cons, ← g1]; simp
      ·rw [e1,e2,List.drop_succ_cons,List.drop_succ_cons]; exact g3
      ·rw [e1, ← Nat.add_assoc,hone,g4]
       have e3 : sp + zkw a + zkw a * ((q - (u.length + 1) - 1 : Nat) : Int) = sp + zkw a * ((q - (u.length + 1) - 1 + 1 : Nat) : Int) := by
        rw [Int.natCast_add,Int.mul_add]; simp; omega
       rw [e3,show i + 1 + (q - (u.length + 1) - 1) = i + (q - (u.length + 1) - 1 + 1) by omega]
def zlG (r : Str) : Option Str := if r.takeWhile zF == [] then none else if !zev 61 (r.dropWhile zF) then some (r.dropWhile zF) else (zlX (zaa 61 (r.dropWhile zF))).map (·.2)
theorem zwN {r r2 : Str} (h : zlG r = some r2) : r2.length < r.length := by
 unfold zlG at h;have h1 := zje zF r
 split at h
 ·cases h
 ·rename_i ht
  have h4 : r.takeWhile zF ≠ [] := fun e => ht (by rw [e]; rfl);have h5 := List.length_pos_iff.2 h4
  split at h
  ·cases h; omega
  ·cases hw : zlX (zaa 61 (r.dropWhile zF)) with
   | none => rw [hw] at h; cases h
   | some q =>
    rw [hw] at h;cases h;have h2 := zuZ (x := q.1) (r' := q.2) hw;have h3 := zzJ 61 (r.dropWhile zF);dsimp only;omega
section
variable {s r : Str} {k : Nat}
theorem zDy (hs : s.length < 1000000000) (h : At s k r) : match zlG r with
  | some r2 => ∃ x k',At s k' r2 ∧ zbN ⟨scn s k⟩ = some (x,true,scn s k')
  | none => ∃ x c,zbN ⟨scn s k⟩ = some (x,false,c) := by
 obtain ⟨k1,h1,e1⟩ := zqu hs h;unfold zbN zlG;dsimp only;rw [e1,yob];dsimp only
 cases ht : r.takeWhile zF == [] with
 | true => exact ⟨_,_,rfl⟩
 | false =>
  obtain ⟨k2,h2,e2⟩ := zfD hs 61 h1;rw [ynf,ynt,yif,yif,e2,yob];dsimp only;unfold zbM
  cases hb : zev 61 (r.dropWhile zF) with
  | false =>
   rw [zk8 hb] at h2;exact ⟨_,k2,h2,rfl⟩
  | true =>
   have hw := zyV hs h2;have e3 : (⟨(scn s k2).f_s,(scn s k2).f_at⟩ : scan_Scanner) = scn s k2 := rfl;rw [ynt,yif,yif,e3]
   cases hq : zlX (zaa 61 (r.dropWhile zF)) with
   | none =>
    rw [hq] at hw;obtain ⟨x,c,e4⟩ := hw;rw [e4];exact ⟨_,_,rfl⟩
   | some q =>
    rw [hq] at hw;obtain ⟨k3,h3,e4⟩ := hw;rw [e4];exact ⟨_,k3,h3,rfl⟩
end
def zoL : Nat → Str → Bool
 | 0,_ => false
 | n + 1,r => if zev 59 r then (match zlG (zaa 59 r) with
  | none => false
  | some r2 => zoL n r2) else r == []
def zmr (x : Int × Int) (ok : Bool) : Int × Int := if !ok || x.2 == 2 then (0,31) else if x.2 == 0 then (x.1,0) else (0,x.2)
def zaB (s : Str) : Int × Int := zmr (zL 16 (s.takeWhile zcy) 1099511627776) (zoL (s.length + 1) (s.dropWhile zcy))
theorem zx2 (s : Str) (hs : s.length < 100000000) (r9 : Int × Int) : ∀ (m : Nat) (r : Str) (k n : Nat) (out : List api_Attr),At s k r → r.length < n → r.length < m → out.length ≤ k →
  ∃ l,zcv r9 n out s (k : Int) = some ((zmr r9 (zoL m r)).1,l,(zmr r9 (zoL m r)).2) := by
 intro m
 induction m with
 | zero => intro r k n out _ _ h; omega
 | succ m ih =>
  intro r k n out hat hn hm ho;obtain ⟨n,rfl⟩ : ∃ q,n = q + 1 := ⟨n - 1,by omega⟩;obtain ⟨k1,h1,e1⟩ := zfD (by omega) 59 hat;have e0 : (⟨s,(k : Int)⟩ : scan_Scanner) = scn s k := rfl;have hl0 := hat.len;rw [zcv,e0,e1,yob,zoL];dsimp only
  have fin : ∀ t, ∃ l,zcu r9 out t = some ((if t then ((0 : Int),(31 : Int)) else if r9.2 == 0 then (r9.1,0) else (0,r9.2)).1,l,(if t then ((0 : Int),(31 : Int)) else if r9.2 == 0 then (r9.1,0) else (0,r9.2)).2) := by
   intro t;unfold zcu
   cases t with
   | true => exact ⟨_,rfl⟩
   | false =>
    rw [yif]
    cases h2 : r9.2 == 0 with
    | true => exact ⟨_,rfl⟩
    | false => exact ⟨_,rfl⟩
  cases hb : zev 59 r with
  | false =>
   rw [zk8 hb] at h1;rw [yif,yif];unfold zft;have e3 : (⟨(scn s k1).f_s,(scn s k1).f_at⟩ : scan_Scanner) = scn s k1 := rfl;rw [e3,zv9 h1,yob];unfold zmr
   cases hr : r == [] with
   | false => exact fin true
   | true =>
    rw [ynt,yif,Bool.false_or];exact fin (r9.2 == 2)
  | true =>
   rw [if_pos rfl,if_pos rfl];have hr := zeI hb;have hrl := congrArg List.length hr;rw [ylc] at hrl;have hl1 := h1.len;have hone := zDy (by omega) h1
   cases ho2 : zlG (zaa 59 r) with
   | none =>
    rw [ho2] at hone;obtain ⟨x,c,e4⟩ := hone;rw [e4];exact ⟨_,rfl⟩
   | some r2 =>
    rw [ho2] at hone;obtain ⟨x,k2,h2,e4⟩ := hone;have hl2 := zwN ho2;have hl3 := h2.len;rw [e4,yob];dsimp only;rw [ynt,yif,if_pos (zbb (by omega) (by omega))];exact ih r2 k2 n (out ++ [x]) h2 (by omega) (by omega) (by rw [yla,List.length_singleton]; omega)
theorem zps (s : Str) (hs : s.length < 100000000) : ∃ l,zfN s = some ((zaB s).1,l,(zaB s).2) := by
 obtain ⟨k1,h1,e1⟩ := zmi zgn (by omega) (At.zero s);unfold zfN;rw [zh0,yob,e1,yob];dsimp only
 have htl : (s.takeWhile zcy).length ≤ s.length := by have := zje zcy s; omega
 have hdl : (s.dropWhile zcy).length ≤ s.length := by have := zje zcy s; omega
 rw [zst _ _ (by omega) (by decide) (by decide),yob];exact zx2 s hs _ (s.length + 1) (s.dropWhile zcy) k1 fuel [] h1 (zeN (by omega)) (by omega) (yz _)
theorem zs1 (s : Str) : (zaB s).2 = 0 → 0 ≤ (zaB s).1 ∧ (zaB s).1 ≤ 1099511627776 := by
 unfold zaB zmr;intro h
 split at h
 ·cases h
 ·split at h
  ·rename_i h1 h2
   rw [if_neg h1,if_pos h2];dsimp only;unfold zL at h2 ⊢
   split at h2
   ·cases h2
   ·rename_i h3
    rw [if_neg h3]
    split at h2
    ·cases h2
    ·rename_i h4
     rw [if_neg h4];dsimp only;omega
  ·rename_i h2
   dsimp only at h;rw [h] at h2; exact absurd rfl h2
inductive CR where
 | more
 | bad (k : Nat) (e : Int)
 | whole (k : Nat) (o : Str) (tr : List api_Field)
def trR (L : Int) (o : Str) : Nat → Nat → Int → List api_Field → Str → CR
 | 0,_,_,_,_ => .more
 | f + 1,i,sp,tr,w => match rdL (some (L - sp)) 0 false w with
  | .more => .more
  | .bad k e => .bad (i + k) e
  | .line k => if w.take (k - 2) == [] then .whole (i + k) o tr else if !((zaQ (w.take (k - 2))).2 == 0) then .bad (i + k) (zaQ (w.take (k - 2))).2 else if decide (100 ≤ tr.length) then .bad (i + k) 3 else trR L o f (i + k) (sp + k) (tr ++ [(zaQ (w.take (k - 2))).1]) (w.drop k)
def afR (i : Nat) (g : Nat → Str → CR) : Str → CR
 | [] => .more
 | c :: w => if !(c == 13) then .bad (i + 1) 31 else match w with
  | [] => .more
  | c2 :: w2 => if !(c2 == 10) then .bad (i + 2) 31 else g (i + 2) w2
def szR (L : Int) : Nat → Nat → Int → Str → Str → CR
 | 0,_,_,_,_ => .more
 | f + 1,i,sm,o,w => match rdL none 0 false w with
  | .more => .more
  | .bad k e => .bad (i + k) e
  | .line k => if !((zaB (w.take (k - 2))).2 == 0) then .bad (i + k) (zaB (w.take (k - 2))).2 else if decide (1099511627776 - sm < (zaB (w.take (k - 2))).1) then .bad (i + k) 7
   else if (zaB (w.take (k - 2))).1 == 0 then trR L o f (i + k) 0 [] (w.drop k)
   else if (w.drop k).length < (zaB (w.take (k - 2))).1.toNat then .more
   else afR (i + k + (zaB (w.take (k - 2))).1.toNat) (fun i w' => szR L f i (sm + (zaB (w.take (k - 2))).1) (o ++ (w.drop k).take (zaB (w.take (k - 2))).1.toNat) w') ((w.drop k).drop (zaB (w.take (k - 2))).1.toNat)
def zt8 (r : CR) (L : Nat) (x : Option (Int × Str × Bool × Int × dechunk_Decoder)) : Prop := match r with
 | .more => ∃ o d,x = some ((L : Int),o,false,0,d)
 | .bad k e => ∃ o d,x = some ((k : Int),o,false,e,d) ∧ (e == 0) = false
 | .whole k o tr => ∃ d,x = some ((k : Int),o,true,0,d) ∧ d.f_trailers = tr
theorem zzu {s : Str} (h : (!((zaQ s).2 == 0)) = true) : ((zaQ s).2 == 0) = false := by simpa using h
theorem zuT {w : Str} {v : Str} {q : Nat} (h1 : w.take (q - 1) = v ++ [13]) (h2 : v.length = q - 2) : w.take (q - 2) = v := by
 have h3 := congrArg (List.take (q - 2)) h1
 have hmin : min (q - 2) (q - 1) = q - 2 := by omega
 rw [List.take_take,hmin] at h3;rw [h3, ← h2,List.take_left]
theorem tr_run (L lf sm : Int) (o s : Str) (hs : s.length < 100000000) (ho : o.length < 100000000) (hL : L ≤ 1000000) : ∀ (f : Nat) (w : Str) (i : Nat) (sp : Int) (tr : List api_Field) (n : Nat),At s i w → w.length < f → 0 ≤ sp → sp < 400000000 - (w.length : Int) → tr.length ≤ 100 → w.length + 1 < n →
  zt8 (trR L o f i sp tr w) s.length (FL s n o ⟨L,3,[],lf,sm,sp,tr⟩ i false 0) := by
 intro f
 induction f with
 | zero => intro w i sp tr n _ h; omega
 | succ f ih =>
  intro w i sp tr n hat hf h0 hsp htr hn;have hlen := hat.len;have hr := zwM L 3 lf sm tr o s (.inr rfl) hs ho w [] sp i hat h0 (by omega) (fun h => by cases h) (by simp)
  have hlim : zq3 3 L sp ([] : Str).length = some (L - sp) := by unfold zq3; rw [if_pos (by decide)]; simp
  rw [hlim] at hr;have h13 : zhr ([] : Str) = false := rfl;rw [h13] at hr;rw [trR];simp only [yln] at hr
  cases hc : rdL (some (L - sp)) 0 false w with
  | more =>
   rw [hc] at hr;obtain ⟨d,e⟩ := hr n (by omega);exact ⟨o,d,e⟩
  | bad q e =>
   rw [hc] at hr;obtain ⟨d,e2⟩ := hr n (by omega);have he := (zow hc).2.2;exact ⟨o,d,by rw [e2]; simp,by rcases he with rfl | rfl <;> rfl⟩
  | line q =>
   rw [hc] at hr;obtain ⟨q1,q2,q3⟩ := zhu hc;obtain ⟨v,g1,g2,g3,g4⟩ := hr;simp only [yna,Nat.sub_zero] at g1 g2 g3 g4;have hv := zuT g1 g2
   have hq2 : 2 ≤ q := by
    have := congrArg List.length g1;rw [ylt,yla,List.length_singleton] at this;omega
   have hat1 : At s (i + (q - 1)) (10 :: w.drop q) := by
    have := hat.next (q - 1) (by omega)
    rwa [g3] at this
   have hat2 : At s (i + q) (w.drop q) := hat.next q (by omega);obtain ⟨n,rfl⟩ : ∃ m,n = m + 1 + (q - 1) := ⟨n - q,by omega⟩;rw [g4,show zkw 3 = 1 from rfl,Int.one_mul]
   have hstep : zk ⟨L,3,v ++ [13],lf,sm,sp + ((q - 1 : Nat) : Int),tr⟩ (10 :: w.drop q) = (zav ⟨L,3,[],lf,sm,sp + q,tr⟩ v).bind fun r => some (1,[],r.1,r.2.1,r.2.2) := by
    have hLs : sp + ((q - 1 : Nat) : Int) + 1 ≤ L := zDx hc;rw [zqR _ _ _ _ _ _ _ _ _ (.inr rfl),zyz _ _ _ _ _ _ _ (by omega) (by omega),zpR L 3 lf sm _ v tr _ (by omega) hLs,if_neg (by decide),show sp + ((q - 1 : Nat) : Int) + 1 = sp + (q : Int) by omega];cases zav ⟨L,3,[],lf,sm,sp + q,tr⟩ v <;> rfl
   have hdr1 := hat1.drop;have hl1 := hat1.len;simp only [ylc] at hl1;have hw := yld (i := q) (l := w);dsimp only;rw [hv];unfold zav at hstep
   cases hve : v == [] with
   | true =>
    rw [hve,if_pos rfl,yob] at hstep;rw [if_pos rfl,zin (k := 1) (q := []) n (by omega) hs ho (by simp) (by decide) (by rw [hdr1]; exact hstep)];obtain ⟨n,rfl⟩ : ∃ m,n = m + 1 := ⟨n - 1,by omega⟩;rw [zCZ];exact ⟨_,by rw [yan,show i + (q - 1) + 1 = i + q by omega],rfl⟩
   | false =>
    rw [hve,yif,zhS v (by omega),yob] at hstep;dsimp only at hstep;rw [yif]
    have bad : ∀ (e : Int) (d : dechunk_Decoder),(e == 0) = false → zk ⟨L,3,v ++ [13],lf,sm,sp + ((q - 1 : Nat) : Int),tr⟩ (10 :: w.drop q) = some (1,[],false,e,d) → zt8 (.bad (i + q) e) s.length (FL s (n + 1) o ⟨L,3,v ++ [13],lf,sm,sp + ((q - 1 : Nat) : Int),tr⟩ (i + (q - 1)) false 0) := by
     intro e d he hst;rw [zin (k := 1) (q := []) n (by omega) hs ho (by simp) (by decide) (by rw [hdr1]; exact hst)];obtain ⟨n,rfl⟩ : ∃ m,n = m + 1 := ⟨n - 1,by omega⟩;rw [zx1 _ _ _ _ _ _ he];exact ⟨_,_,by rw [show i + (q - 1) + 1 = i + q by omega],he⟩
    cases hfe : (!((zaQ v).2 == 0)) with
    | true =>
     rw [hfe,if_pos rfl,yob] at hstep;rw [if_pos rfl];exact bad _ _ (zzu hfe) hstep
    | false =>
     rw [hfe,yif] at hstep;rw [yif]
     by_cases h100 : 100 ≤ tr.length
     ·rw [ydt (show (100 : Int) ≤ (tr.length : Int) by omega),if_pos rfl,yob] at hstep;rw [ydt h100,if_pos rfl];exact bad 3 _ (by decide) hstep
     ·rw [ydf (show ¬ (100 : Int) ≤ (tr.length : Int) by omega),yif,if_pos (zbb (by omega) (by omega)),yob] at hstep;rw [ydf h100,yif,zin (k := 1) (q := []) n (by omega) hs ho (by simp) (by decide) (by rw [hdr1]; exact hstep),yan,show i + (q - 1) + 1 = i + q by omega];exact ih (w.drop q) (i + q) (sp + q) (tr ++ [(zaQ v).1]) n hat2 (by omega) (by omega) (by omega) (by rw [yla,List.length_singleton]; omega) (by omega)
theorem zzv (L sm sp : Int) (ln : Str) (tr : List api_Field) (c : UInt8) (r : Str) (h : (c == 13) = false) : zk ⟨L,2,ln,2,sm,sp,tr⟩ (c :: r) = some (1,[],false,31,⟨L,2,ln,2,sm,sp,tr⟩) := by
 unfold zk;dsimp only;rw [if_neg (by decide),if_pos (by decide),zg7,show (c :: r)[0]? = some c from rfl,yob];unfold zcm zaN;dsimp only;rw [if_neg (by decide),h];rfl
theorem zzw (L sm sp : Int) (ln : Str) (tr : List api_Field) (c : UInt8) (r : Str) (h : (c == 10) = false) : zk ⟨L,2,ln,1,sm,sp,tr⟩ (c :: r) = some (1,[],false,31,⟨L,2,ln,1,sm,sp,tr⟩) := by
 unfold zk;dsimp only;rw [if_neg (by decide),if_pos (by decide),zg7,show (c :: r)[0]? = some c from rfl,yob];unfold zcm zaN;dsimp only;rw [if_pos (by decide),h];rfl
theorem zzx (L lf sm sp : Int) (ln o s : Str) (tr : List api_Field) (w : Str) (i n : Nat) (hat : At s i w) (hs : s.length < 100000000) (ho : o.length < 100000000) (hlf : (w.length : Int) < lf) (hlm : lf ≤ 1099511627776) (hn : 1 < n) :
  ∃ o2 d,FL s n o ⟨L,1,ln,lf,sm,sp,tr⟩ i false 0 = some ((s.length : Int),o2,false,0,d) := by
 have hl := hat.len
 by_cases hw : w = []
 ·subst hw;obtain ⟨n,rfl⟩ : ∃ m,n = m + 1 := ⟨n - 1,by omega⟩;rw [hat.end_nil];exact ⟨_,_,zpm s n o _⟩
 ·have hp := List.length_pos_iff.2 hw;obtain ⟨n,rfl⟩ : ∃ m,n = m + 1 + 1 := ⟨n - 2,by omega⟩
  have := zin (s := s) (i := i) (k := w.length) (q := w) (o := o) (d := ⟨L,1,ln,lf,sm,sp,tr⟩) (d' := ⟨L,1,ln,lf - (w.length : Int),sm,sp,tr⟩) (t := false) (e := 0) (n + 1) (by omega) hs ho (by omega) (by omega) (by
   rw [hat.drop];unfold zk zbL zau;dsimp only
   have e1 : min lf (w.length : Int) = (w.length : Int) := by omega
   have e2 : ((lf - (w.length : Int)) == 0) = false := by rw [beq_eq_false_iff_ne]; omega
   rw [show ((1 : Int) == 1) = true from rfl,if_pos rfl,e1,z8 (by omega) (by omega),yob,e2,yif,zbR (Nat.le_refl _),yob,List.take_length,yob])
  rw [this,hl];exact ⟨_,_,zpm s n _ _⟩
theorem zox {s : Str} {c : CR} {n k : Nat} {o q : Str} {d d' : dechunk_Decoder} {i : Nat} (hi : i < s.length) (hs : s.length < 100000000) (ho : o.length < 100000000) (hk : k < 100000000) (hq : q.length < 100000000) (hst : zk d (s.drop i) = some ((k : Int),q,false,0,d')) (h : zt8 c s.length (FL s n (o ++ q) d' (i + k) false 0)) :
  zt8 c s.length (FL s (n + 1) o d i false 0) := by
 rw [zin n hi hs ho hq hk hst]; exact h
theorem zp3 {s : Str} {n : Nat} {o : Str} {d d' : dechunk_Decoder} {i : Nat} {e : Int} (hi : i < s.length) (hs : s.length < 100000000) (ho : o.length < 100000000) (hn : 0 < n) (he : (e == 0) = false) (hst : zk d (s.drop i) = some (1,[],false,e,d')) :
  zt8 (.bad (i + 1) e) s.length (FL s (n + 1) o d i false 0) := by
 obtain ⟨n,rfl⟩ : ∃ m,n = m + 1 := ⟨n - 1,by omega⟩;rw [zin (k := 1) (q := []) (n + 1) hi hs ho (by simp) (by decide) hst,zx1 _ _ _ _ _ _ he];exact ⟨_,_,rfl,he⟩
theorem zuU {s : Str} {n : Nat} {o : Str} {d : dechunk_Decoder} {i : Nat} (hat : At s i []) (hn : 0 < n) : zt8 .more s.length (FL s n o d i false 0) := by
 obtain ⟨n,rfl⟩ : ∃ m,n = m + 1 := ⟨n - 1,by omega⟩;rw [hat.end_nil];exact ⟨_,_,zpm s n o d⟩
theorem af_run {L sm : Int} {o s w : Str} {i n : Nat} {g : Nat → Str → CR} (hat : At s i w) (hs : s.length < 100000000) (ho : o.length < 100000000) (hn : w.length + 1 < n)
  (hg : ∀ (w' : Str) (n : Nat),At s (i + 2) w' → w'.length + 2 = w.length → w'.length + 1 < n → zt8 (g (i + 2) w') s.length (FL s n o ⟨L,0,[],0,sm,0,[]⟩ (i + 2) false 0)) :
  zt8 (afR i g w) s.length (FL s n o ⟨L,2,[],2,sm,0,[]⟩ i false 0) := by
 have hl := hat.len
 cases w with
 | nil => exact zuU hat (by omega)
 | cons c w =>
  have hd := hat.drop
  have hat1 : At s (i + 1) w := by have := hat.next 1 (by simp); simpa using this
  simp only [ylc] at hl hn hg;obtain ⟨n,rfl⟩ : ∃ m,n = m + 1 := ⟨n - 1,by omega⟩;unfold afR;dsimp only
  cases hc : (c == 13) with
  | false =>
   rw [ynf,if_pos rfl];exact zp3 (by omega) hs ho (by omega) (by decide) (by rw [hd]; exact zzv L sm 0 [] [] c w hc)
  | true =>
   have hc13 : c = 13 := by simpa using hc
   subst hc13;rw [ynt,yif];refine zox (k := 1) (q := []) (d' := ⟨L,2,[],1,sm,0,[]⟩) (by omega) hs ho (by decide) (by simp) (by rw [hd]; rfl) ?_;rw [yan]
   cases w with
   | nil => exact zuU hat1 (by omega)
   | cons c2 w2 =>
    have hd1 := hat1.drop
    have hat2 : At s (i + 2) w2 := by have := hat1.next 1 (by simp); simpa using this
    simp only [ylc] at hl hn hg;obtain ⟨n,rfl⟩ : ∃ m,n = m + 1 := ⟨n - 1,by omega⟩;dsimp only
    cases hc2 : (c2 == 10) with
    | false =>
     rw [ynf,if_pos rfl];exact zp3 (i := i + 1) (by omega) hs ho (by omega) (by decide) (by rw [hd1]; exact zzw L sm 0 [] [] c2 w2 hc2)
    | true =>
     have hc10 : c2 = 10 := by simpa using hc2
     subst hc10;rw [ynt,yif];refine zox (k := 1) (q := []) (d' := ⟨L,0,[],0,sm,0,[]⟩) (by omega) hs ho (by decide) (by simp) (by rw [hd1]; rfl) ?_;rw [yan];exact hg w2 n hat2 (by omega) (by omega)
theorem zzy {s : Str} (h : (!((zaB s).2 == 0)) = true) : ((zaB s).2 == 0) = false := by simpa using h
theorem sz_run (L : Int) (s : Str) (hs : s.length < 100000000) (hL0 : 0 ≤ L) (hL : L ≤ 1000000) : ∀ (f : Nat) (w : Str) (i : Nat) (lf sm : Int) (o : Str) (n : Nat),At s i w → w.length < f → 0 ≤ sm → sm ≤ 1099511627776 → o.length ≤ i → w.length + 1 < n →
  zt8 (szR L f i sm o w) s.length (FL s n o ⟨L,0,[],lf,sm,0,[]⟩ i false 0) := by
 intro f
 induction f with
 | zero => intro w i lf sm o n _ h; omega
 | succ f ih =>
  intro w i lf sm o n hat hf h0 hsm hoi hn;have hlen := hat.len
  have ho : o.length < 100000000 := by omega
  have hr := zwM L 0 lf sm [] o s (.inl rfl) hs ho w [] 0 i hat (Int.le_refl _) (by omega) (fun _ => hL0) (by simp);have hlim : zq3 0 L 0 ([] : Str).length = none := rfl;rw [hlim] at hr;have h13 : zhr ([] : Str) = false := rfl;rw [h13] at hr;rw [szR];simp only [yln] at hr
  cases hc : rdL none 0 false w with
  | more =>
   rw [hc] at hr;obtain ⟨d,e⟩ := hr n (by omega);exact ⟨o,d,e⟩
  | bad q e =>
   rw [hc] at hr;obtain ⟨d,e2⟩ := hr n (by omega);have he := (zow hc).2.2;exact ⟨o,d,by rw [e2]; simp,by rcases he with rfl | rfl <;> rfl⟩
  | line q =>
   rw [hc] at hr;obtain ⟨q1,q2,q3⟩ := zhu hc;obtain ⟨v,g1,g2,g3,g4⟩ := hr;simp only [yna,Nat.sub_zero] at g1 g2 g3 g4;have hv := zuT g1 g2
   have hq2 : 2 ≤ q := by
    have := congrArg List.length g1;rw [ylt,yla,List.length_singleton] at this;omega
   have hat1 : At s (i + (q - 1)) (10 :: w.drop q) := by
    have := hat.next (q - 1) (by omega)
    rwa [g3] at this
   have hat2 : At s (i + q) (w.drop q) := hat.next q (by omega);obtain ⟨n,rfl⟩ : ∃ m,n = m + 1 + (q - 1) := ⟨n - q,by omega⟩;rw [g4,show zkw 0 = 0 from rfl,Int.zero_mul,Int.add_zero]
   have hstep : zk ⟨L,0,v ++ [13],lf,sm,0,[]⟩ (10 :: w.drop q) = (zaW ⟨L,0,[],lf,sm,0,[]⟩ v).bind fun r => some (1,[],false,r.1,r.2) := by
    rw [zqR _ _ _ _ _ _ _ _ _ (.inl rfl),zyy,zpR L 0 lf sm _ v [] _ (by omega) hL0,if_pos (by decide)];cases zaW ⟨L,0,[],lf,sm,0,[]⟩ v <;> rfl
   have hdr1 := hat1.drop;have hl1 := hat1.len;simp only [ylc] at hl1;have hw := yld (i := q) (l := w)
   have hiq : i + (q - 1) + 1 = i + q := by omega
   dsimp only;rw [hv];obtain ⟨l,hcp⟩ := zps v (by omega);unfold zaW at hstep;rw [hcp,yob] at hstep;dsimp only at hstep;have hrange := zs1 v
   cases he : (!((zaB v).2 == 0)) with
   | true =>
    rw [he,if_pos rfl,yob] at hstep;rw [if_pos rfl, ← hiq];exact zp3 (by omega) hs ho (by omega) (zzy he) (by rw [hdr1]; exact hstep)
   | false =>
    have he0 : (zaB v).2 = 0 := by simpa using he
    obtain ⟨r1,r2⟩ := hrange he0;rw [he,yif,z8 (by omega) (by omega),yob] at hstep;rw [yif]
    cases h7 : decide (1099511627776 - sm < (zaB v).1) with
    | true =>
     rw [h7,if_pos rfl,yob] at hstep;rw [if_pos rfl, ← hiq];exact zp3 (by omega) hs ho (by omega) (by decide) (by rw [hdr1]; exact hstep)
    | false =>
     have h7' : (zaB v).1 ≤ 1099511627776 - sm := by have := of_decide_eq_false h7; omega
     rw [h7,yif] at hstep;rw [yif]
     cases hz : (zaB v).1 == 0 with
     | true =>
      rw [hz,if_pos rfl,yob] at hstep;rw [if_pos rfl];refine zox (k := 1) (q := []) (by omega) hs ho (by decide) (by simp) (by rw [hdr1]; exact hstep) ?_;rw [yan,hiq];exact tr_run L lf sm o s hs ho hL f (w.drop q) (i + q) 0 [] n hat2 (by omega) (Int.le_refl _) (by omega) (by simp) (by omega)
     | false =>
      have hz' : (zaB v).1 ≠ 0 := by simpa using hz
      rw [hz,yif,zan (by omega) (by omega),yob,yob] at hstep;rw [yif]
      generalize hN : (zaB v).1 = N at *
      obtain ⟨M,rfl⟩ : ∃ M : Nat,N = (M : Int) := ⟨N.toNat,by omega⟩;rw [Int.toNat_natCast];refine zox (k := 1) (q := []) (by omega) hs ho (by decide) (by simp) (by rw [hdr1]; exact hstep) ?_;rw [yan,hiq]
      by_cases hlt : (w.drop q).length < M
      ·rw [if_pos hlt];obtain ⟨o2,d,e⟩ := zzx L (M : Int) (sm + M) 0 [] o s [] (w.drop q) (i + q) n hat2 hs ho (by omega) (by omega) (by omega);exact ⟨o2,d,e⟩
      ·rw [if_neg hlt]
       have htl : ((w.drop q).take M).length = M := by rw [ylt]; omega
       have hsg := Seg.data (x := (w.drop q).take M) (o := o) (L := L) (lf := (M : Int)) (sm := sm + M) (sp := 0) (tr := []) (ln := []) (fun h => by rw [h] at htl; simp at htl; omega) (by rw [htl]) (by omega) ho;obtain ⟨m,hm,e⟩ := hsg.go s (i + q) ((w.drop q).drop M) hs (by rw [List.take_append_drop]; exact hat2);rw [htl] at hm e
       have hdl : ((w.drop q).drop M).length = w.length - q - M := by rw [yld,hw]
       have hm1 : m ≤ M := hm;obtain ⟨n,rfl⟩ : ∃ k,n = k + m := ⟨n - m,by omega⟩;rw [e];have hat3 : At s (i + q + M) ((w.drop q).drop M) := hat2.next M (by omega);refine af_run hat3 hs (by rw [yla,htl]; omega) (by omega) fun w' n' ha hwl hn' => ?_;exact ih w' _ 0 (sm + M) _ n' ha (by omega) (by omega) (by omega) (by rw [yla,htl]; omega) hn'
theorem zzz (L : Int) (s : Str) (hs : s.length < 100000000) (hL0 : 0 ≤ L) (hL : L ≤ 1000000) : zt8 (szR L (s.length + 1) 0 0 [] s) s.length (zaX ⟨L,0,[],0,0,0,[]⟩ s) := by
 have := sz_run L s hs hL0 hL (s.length + 1) s 0 0 0 [] fuel (At.zero s) (by omega) (Int.le_refl _) (by decide) (by simp) (zeN (by omega));unfold zaX;exact this
theorem zuV {L : Int} {o : Str} : ∀ {f i : Nat} {sp : Int} {tr : List api_Field} {w : Str} {k : Nat} {o' : Str} {tr' : List api_Field},trR L o f i sp tr w = .whole k o' tr' → tr.length ≤ 100 → k ≤ i + w.length ∧ tr'.length ≤ 100
 | 0,_,_,_,_,_,_,_,h,_ => by cases h
 | f + 1,i,sp,tr,w,k,o',tr',h,ht => by
  rw [trR] at h
  split at h
  ·cases h
  ·cases h
  ·rename_i q hq
   have hl := zhu hq
   split at h
   ·cases h; exact ⟨by omega,ht⟩
   ·split at h
    ·cases h
    ·split at h
     ·cases h
     ·rename_i h100
      have h2 : tr.length < 100 := by
       rcases Nat.lt_or_ge tr.length 100 with h3 | h3
       ·exact h3
       ·rw [ydt h3] at h100; exact absurd rfl h100
      have := zuV h (by rw [yla,List.length_singleton]; omega);rw [yld] at this;exact ⟨by omega,this.2⟩
theorem zq4 {L : Int} : ∀ {f i : Nat} {sm : Int} {o w : Str} {k : Nat} {o' : Str} {tr' : List api_Field},szR L f i sm o w = .whole k o' tr' → k ≤ i + w.length ∧ tr'.length ≤ 100
 | 0,_,_,_,_,_,_,_,h => by cases h
 | f + 1,i,sm,o,w,k,o',tr',h => by
  rw [szR] at h
  split at h
  ·cases h
  ·cases h
  ·rename_i q hq
   have hl := zhu hq
   split at h
   ·cases h
   ·split at h
    ·cases h
    ·split at h
     ·have := zuV h (by simp);rw [yld] at this;exact ⟨by omega,this.2⟩
     ·split at h
      ·cases h
      ·rename_i hlt
       rw [yld] at hlt;generalize (zaB (w.take (q - 2))).1.toNat = M at h hlt;unfold afR at h
       split at h
       ·cases h
       ·rename_i c w1 hw1
        split at h
        ·cases h
        ·split at h
         ·cases h
         ·rename_i c2 w2 
          split at h
          ·cases h
          ·have := zq4 h;have hle := congrArg List.length hw1;rw [yld,yld,ylc,ylc] at hle;exact ⟨by omega,this.2⟩
theorem zvz {L : Int} {w : Str} {k : Nat} {o' : Str} {tr' : List api_Field} (h : szR L (w.length + 1) 0 0 [] w = .whole k o' tr') : k ≤ w.length := by have := (zq4 h).1; omega
theorem zx3 {L : Int} {f : Nat} {w : Str} {k : Nat} {o' : Str} {tr' : List api_Field} (h : szR L f 0 0 [] w = .whole k o' tr') : tr'.length ≤ 100 := (zq4 h).2
end Go.Dm
end
section
namespace Go.Dm
def zoJ (lim sp : Int) : Option Int := if decide (0 ≤ lim) then some (lim - sp) else none
def zlT : RL → ref19_line
 | .more => ⟨0,0,0⟩
 | .bad k e => ⟨0,(k : Int),e⟩
 | .line k => ⟨(k : Int),0,0⟩
theorem zq1 (b : Str) (hb : b.length < 100000000) (fr : Nat) (sp lim : Int) (hsp : 0 ≤ sp) (hsp2 : sp < 1000000000) : ∀ (w : Str) (n i : Nat) (cr : Bool),At b i w → w.length < n → fr ≤ i → (i = fr ∧ cr = false ∨ ∃ c0,fr < i ∧ b[i - 1]? = some c0 ∧ cr = (c0 == 13)) →
  zal b (fr : Int) sp lim n (i : Int) = some (zlT (rdL (zoJ lim sp) (i - fr) cr w)) := by
 intro w
 induction w with
 | nil =>
  intro n i cr hat hn hfr hcr;obtain ⟨n,rfl⟩ : ∃ m,n = m + 1 := ⟨n - 1,by simp at hn; omega⟩;have hl := hat.len;simp only [yln] at hl;rw [zal,ydf (by omega),yif,rdL];rfl
 | cons c w ih =>
  intro n i cr hat hn hfr hcr;obtain ⟨n,rfl⟩ : ∃ m,n = m + 1 := ⟨n - 1,by simp at hn; omega⟩;have hl := hat.len;simp only [ylc] at hl hn
  have hg : b[i]? = some c := by
   have := congrArg List.head? hat.drop;rw [List.head?_drop] at this;exact this
  have hnx : At b (i + 1) w := by have := hat.next 1 (by simp); simpa using this
  have hk : zbc (i : Int) (fr : Int) = some ((i - fr : Nat) : Int) := by rw [z8 (by omega) (by omega)]; exact congrArg some (by omega)
  -- behind
  have j4 : ∀ t,zcH (zal b (fr : Int) sp lim n) b (i : Int) ((i - fr : Nat) : Int) t = some (if t then ⟨0,((i - fr + 1 : Nat) : Int),24⟩ else if c == 10 then ⟨((i - fr + 1 : Nat) : Int),0,0⟩ else zlT (rdL (zoJ lim sp) (i - fr + 1) (c == 13) w)) := by
   intro t;unfold zcH
   cases t with
   | true => rw [if_pos rfl,zf (by omega),yob]; rfl
   | false =>
    rw [yif,yif,zA,hg,yob]
    cases hc : c == 10 with
    | true => rw [if_pos rfl,zf (by omega),yob]; rfl
    | false =>
     rw [yif,zf (by omega),yob];have := ih n (i + 1) (c == 13) hnx (by omega) (by omega) (.inr ⟨c,by omega,by simpa using hg,rfl⟩);rw [this,show i + 1 - fr = i - fr + 1 by omega];rfl
  have j3 : zf4 (zal b (fr : Int) sp lim n) b (i : Int) ((i - fr : Nat) : Int) cr = some (if !((c == 10) == cr) then ⟨0,((i - fr + 1 : Nat) : Int),24⟩ else if c == 10 then ⟨((i - fr + 1 : Nat) : Int),0,0⟩ else zlT (rdL (zoJ lim sp) (i - fr + 1) (c == 13) w)) := by
   unfold zf4;rw [zA,hg,yob];simp only [yob,j4];cases c == 10 <;> cases cr <;> rfl
  have j2 : ∀ t,zeE (zal b (fr : Int) sp lim n) b (i : Int) ((i - fr : Nat) : Int) t = some (if t then ⟨0,((i - fr + 1 : Nat) : Int),3⟩ else if !((c == 10) == cr) then ⟨0,((i - fr + 1 : Nat) : Int),24⟩ else if c == 10 then ⟨((i - fr + 1 : Nat) : Int),0,0⟩ else zlT (rdL (zoJ lim sp) (i - fr + 1) (c == 13) w)) := by
   intro t;unfold zeE
   cases t with
   | true => rw [if_pos rfl,zf (by omega),yob]; rfl
   | false =>
    rw [yif,yif]
    rcases hcr with ⟨h1,h2⟩ | ⟨c0,h1,h2,h3⟩
    ·subst h2;rw [ydf (by omega),yif];exact j3
    ·have e2 : zbc (i : Int) 1 = some ((i - 1 : Nat) : Int) := by rw [z8 (by omega) (by omega)]; exact congrArg some (by omega)
     rw [ydt (by omega),if_pos rfl,e2,yob,zA,h2,yob, ← h3];exact j3
  have fin : (some (if decide (4098 ≤ i - fr) || zm4 (zoJ lim sp) (i - fr) then (⟨0,((i - fr + 1 : Nat) : Int),3⟩ : ref19_line) else if !((c == 10) == cr) then ⟨0,((i - fr + 1 : Nat) : Int),24⟩ else if c == 10 then ⟨((i - fr + 1 : Nat) : Int),0,0⟩ else zlT (rdL (zoJ lim sp) (i - fr + 1) (c == 13) w))) = some (zlT (rdL (zoJ lim sp) (i - fr) cr (c :: w))) := by
   rw [rdL]
   cases decide (4098 ≤ i - fr) || zm4 (zoJ lim sp) (i - fr) with
   | true => rfl
   | false =>
    cases !((c == 10) == cr) with
    | true => rfl
    | false =>
     cases c == 10 with
     | true => rfl
     | false => rfl
  rw [zal,ydt (by omega),if_pos rfl,hk,yob, ← fin]
  by_cases h1 : 4098 ≤ i - fr
  ·rw [ydt (show (4098 : Int) ≤ ((i - fr : Nat) : Int) by omega),if_pos rfl,j2,ydt h1,Bool.true_or]
  ·rw [ydf (show ¬ (4098 : Int) ≤ ((i - fr : Nat) : Int) by omega),yif,ydf h1,Bool.false_or]
   by_cases h2 : 0 ≤ lim
   ·have e3 : zq sp ((i - fr : Nat) : Int) = some (sp + ((i - fr : Nat) : Int)) := zan (by omega) (by omega);have e4 : zq (sp + ((i - fr : Nat) : Int)) 1 = some (sp + ((i - fr : Nat) : Int) + 1) := zan (by omega) (by omega)
    have e5 : zm4 (zoJ lim sp) (i - fr) = decide (lim < sp + ((i - fr : Nat) : Int) + 1) := by
     unfold zm4 zoJ;rw [ydt h2,if_pos rfl];exact decide_eq_decide.2 (by omega)
    rw [ydt h2,if_pos rfl,e3,yob,e4,yob,j2,e5]
   ·have e5 : zm4 (zoJ lim sp) (i - fr) = false := by
     unfold zm4 zoJ;rw [ydf h2,yif]
    rw [ydf h2,yif,j2,e5]
theorem zoX {b : Str} (hb : b.length < 100000000) {i : Nat} {w : Str} (hat : At b i w) {sp lim : Int} (hsp : 0 ≤ sp) (hsp2 : sp < 1000000000) : zjo b (i : Int) sp lim = some (zlT (rdL (zoJ lim sp) 0 false w)) := by
 unfold zjo;have hl := hat.len;rw [zq1 b hb i sp lim hsp hsp2 w fuel i false hat (zeN (by omega)) (Nat.le_refl _) (.inl ⟨rfl,rfl⟩),Nat.sub_self]
theorem zzq {s x r' : Str} (hs : s.length < 1000000000) (h : zlX s = some (x,r')) : s.drop (s.length - r'.length) = r' := by
 have hw := zyV hs (At.zero s);rw [h] at hw;obtain ⟨k,h1,_⟩ := hw;have h2 := h1.len;rw [show s.length - r'.length = k by omega];exact h1.drop
theorem zwE (r13 : Int × Int) (h2 : (r13.2 == 2) = false) : ∀ (m : Nat) (r : Str) (n : Nat) (out : List api_Attr),r.length < 100000000 → r.length < n → r.length < m → out.length + r.length < 100000000 →
  ∃ l,zZ r13 n r out = some ((zmr r13 (zoL m r)).1,l,(zmr r13 (zoL m r)).2) := by
 intro m
 induction m with
 | zero => intro r n out _ _ h; omega
 | succ m ih =>
  intro r n out hr hn hm ho;obtain ⟨n,rfl⟩ : ∃ q,n = q + 1 := ⟨n - 1,by omega⟩;rw [zZ,zoL];have bad : ∃ l,(some ((0 : Int),([] : List api_Attr),(31 : Int)) : Option (Int × List api_Attr × Int)) = some ((zmr r13 false).1,l,(zmr r13 false).2) := ⟨[],rfl⟩
  cases r with
  | nil =>
   rw [show (!(([] : Str) == [])) = false from rfl,yif,show zev 59 [] = false from rfl,yif,show (([] : Str) == []) = true from rfl];unfold zmr;rw [h2,show (!true || false) = false from rfl,yif]
   cases r13.2 == 0 with
   | true => exact ⟨_,rfl⟩
   | false => exact ⟨_,rfl⟩
  | cons c r =>
   rw [show (!((c :: r : Str) == [])) = true from rfl,if_pos rfl,show sAt (c :: r) 0 = some c from rfl,yob,zaS];simp only [ylc] at hr hn hm ho
   cases hc : c == 59 with
   | false =>
    rw [yif];exact bad
   | true =>
    obtain rfl : c = 59 := by simpa using hc
    rw [ynt,yif,if_pos rfl,zam];have hd := zje zF r;obtain ⟨dh1,dh2⟩ := zmu zF r
    have hget : ∀ j,((59 :: r : Str))[j + 1]? = r[j]? := fun j => by simp
    -- behind the name
    have j7 : ∀ (r2 : Str) (a b : Str) (t : Bool),zlG r = some r2 → ∃ l,zfa (zZ r13 n) out a r2 b t = some ((zmr r13 (zoL m r2)).1,l,(zmr r13 (zoL m r2)).2) := by
     intro r2 a b t h;have hl := zwN h;unfold zfa;rw [if_pos (zbb (by omega) (by omega))];exact ih r2 n _ (by omega) (by omega) (by omega) (by simp only [yla,List.length_singleton]; omega)
    have fin : ∀ rec4, ∃ l,zdS (zZ r13 n) rec4 (59 :: r) out (((r.takeWhile zF).length + 1 : Nat) : Int) false = some ((zmr r13 (match zlG r with | none => false | some r2 => zoL m r2)).1,l,(zmr r13 (match zlG r with | none => false | some r2 => zoL m r2)).2) := by
     intro rec4;unfold zdS;rw [yif]
     cases ht : r.takeWhile zF == [] with
     | true =>
      have ht' : r.takeWhile zF = [] := by simpa using ht
      have h0 : zlG r = none := by unfold zlG; rw [ht,if_pos rfl]
      rw [h0,ht',show ((([] : Str).length + 1 : Nat) : Int) == 1 from rfl,if_pos rfl];exact bad
     | false =>
      have hp : 0 < (r.takeWhile zF).length := by
       cases h3 : r.takeWhile zF with
       | nil => rw [h3] at ht; exact absurd ht (by decide)
       | cons _ _ => simp
      have h1 : ((((r.takeWhile zF).length + 1 : Nat) : Int) == 1) = false := by rw [beq_eq_false_iff_ne]; omega
      have e1 : zd0 (59 :: r) 1 (((r.takeWhile zF).length + 1 : Nat) : Int) = some (((59 :: r : Str).take ((r.takeWhile zF).length + 1)).drop 1) := zbx (i := 1) (by omega) (by simp only [ylc]; omega)
      have e2 : zaG (59 :: r) (((r.takeWhile zF).length + 1 : Nat) : Int) = some (r.dropWhile zF) := by rw [zB (by simp only [ylc]; omega),List.drop_succ_cons,dh1]
      rw [h1,yif,e1,yob,e2,yob];generalize (((59 :: r : Str).take ((r.takeWhile zF).length + 1)).drop 1) = nm
      -- no value
      have plain : zev 61 (r.dropWhile zF) = false → ∃ l,zdR (zZ r13 n) out nm (r.dropWhile zF) false = some ((zmr r13 (match zlG r with | none => false | some r2 => zoL m r2)).1,l,(zmr r13 (match zlG r with | none => false | some r2 => zoL m r2)).2) := by
       intro h
       have h0 : zlG r = some (r.dropWhile zF) := by unfold zlG; rw [ht,yif,h]; rfl
       rw [h0];unfold zdR;rw [yif];exact j7 _ _ _ _ h0
      cases hq : r.dropWhile zF with
      | nil =>
       rw [show (!(([] : Str) == [])) = false from rfl,yif];have := plain (by rw [hq]; rfl);rw [hq] at this;exact this
      | cons x y =>
       rw [show (!((x :: y : Str) == [])) = true from rfl,if_pos rfl,show sAt (x :: y) 0 = some x from rfl,yob]
       cases hx : x == 61 with
       | false =>
        have := plain (by rw [hq,zaS,hx]);rw [hq] at this;exact this
       | true =>
        obtain rfl : x = 61 := by simpa using hx
        have hyl := congrArg List.length hq;simp only [ylc] at hyl;unfold zdR;have e3 : zaG (61 :: y) 1 = some y := zB (l := 61 :: y) (i := 1) (by simp);rw [if_pos rfl,e3,yob,zDB y (by omega),yob]
        cases hw : zlX y with
        | none =>
         have h0 : zlG r = none := by unfold zlG; rw [ht,yif,hq,zaS,zam,hw]; rfl
         rw [h0];exact bad
        | some p =>
         obtain ⟨a,r'⟩ := p
         have h0 : zlG r = some r' := by unfold zlG; rw [ht,yif,hq,zaS,zam,hw]; rfl
         have hwl := zuZ hw
         have h4 : (((y.length - r'.length : Nat) : Int) == 0) = false := by rw [beq_eq_false_iff_ne]; omega
         have e4 : zq 1 ((y.length - r'.length : Nat) : Int) = some ((1 + (y.length - r'.length) : Nat) : Int) := zfc (i := 1) (by omega);dsimp only;rw [h4,yif,e4,yob,zB (by simp only [ylc]; omega),yob,Nat.add_comm,List.drop_succ_cons,zzq (by omega) hw,h0];exact j7 _ _ _ _ h0
    have key : ∀ (q i : Nat),i ≤ (r.takeWhile zF).length → (r.takeWhile zF).length - i < q → ∃ l,zcW (zZ r13 n) (59 :: r) out q ((i + 1 : Nat) : Int) = some ((zmr r13 (match zlG r with | none => false | some r2 => zoL m r2)).1,l,(zmr r13 (match zlG r with | none => false | some r2 => zoL m r2)).2) := by
     intro q
     induction q with
     | zero => intro i _ h; omega
     | succ q ihq =>
      intro i hi h;rw [zcW]
      by_cases hlt : i < (r.takeWhile zF).length
      ·obtain ⟨c,hg,hc⟩ := zoy zF r i hlt;rw [ydt (show ((i + 1 : Nat) : Int) < ((59 :: r : Str).length : Int) by simp only [ylc]; omega),if_pos rfl,zA,hget,hg,yob,ziw,yob,hc];unfold zdS;rw [if_pos rfl,zf (by omega),yob];exact ihq (i + 1) (by omega) (by omega)
      ·obtain rfl : i = (r.takeWhile zF).length := by omega
       by_cases hl : (r.takeWhile zF).length < r.length
       ·have hg : r[(r.takeWhile zF).length]? = some r[(r.takeWhile zF).length] := ygg hl;have hc := dh2 _ hg;rw [ydt (show (((r.takeWhile zF).length + 1 : Nat) : Int) < ((59 :: r : Str).length : Int) by simp only [ylc]; omega),if_pos rfl,zA,hget,hg,yob,ziw,yob,hc];exact fin _
       ·rw [ydf (show ¬ (((r.takeWhile zF).length + 1 : Nat) : Int) < ((59 :: r : Str).length : Int) by simp only [ylc]; omega),yif];exact fin _
    exact key fuel 0 (yz _) (zeN (by omega))
theorem zsI (s : Str) (hs : s.length < 100000000) : ∃ l,zlm s = some ((zaB s).1,l,(zaB s).2) := by
 have hd := zje zcy s;obtain ⟨dh1,dh2⟩ := zmu zcy s
 have fin : ∀ rec, ∃ l,zdT rec s ((s.takeWhile zcy).length : Int) false = some ((zaB s).1,l,(zaB s).2) := by
  intro rec;unfold zdT zaB;rw [yif,zbR (by omega),yob,zs5,show (16 : Int) = ((16 : Nat) : Int) from rfl,zjt (b := 16) (.inr rfl) _ _ (by omega) (by decide) (by decide),yob]
  cases h2 : (zL 16 (s.takeWhile zcy) 1099511627776).2 == 2 with
  | true =>
   rw [if_pos rfl];unfold zmr;rw [h2,Bool.or_true,if_pos rfl];exact ⟨_,rfl⟩
  | false =>
   rw [yif,zB (by omega),yob,dh1];exact zwE _ h2 (s.length + 1) (s.dropWhile zcy) fuel [] (by omega) (zeN (by omega)) (by omega) (by simp; omega)
 have key : ∀ (n i : Nat),i ≤ (s.takeWhile zcy).length → (s.takeWhile zcy).length - i < n → ∃ l,zcX s n (i : Int) = some ((zaB s).1,l,(zaB s).2) := by
  intro n
  induction n with
  | zero => intro i _ h; omega
  | succ n ih =>
   intro i hi h;rw [zcX]
   by_cases hlt : i < (s.takeWhile zcy).length
   ·obtain ⟨c,hg,hc⟩ := zoy zcy s i hlt;rw [ydt (show (i : Int) < (s.length : Int) by omega),if_pos rfl,zA,hg,yob,ziv,yob,hc];unfold zdT;rw [if_pos rfl,zf (by omega),yob];exact ih (i + 1) (by omega) (by omega)
   ·obtain rfl : i = (s.takeWhile zcy).length := by omega
    by_cases hl : (s.takeWhile zcy).length < s.length
    ·have hg : s[(s.takeWhile zcy).length]? = some s[(s.takeWhile zcy).length] := ygg hl;have hc := dh2 _ hg;rw [ydt (show ((s.takeWhile zcy).length : Int) < (s.length : Int) by omega),if_pos rfl,zA,hg,yob,ziv,yob,hc];exact fin _
    ·rw [ydf (show ¬ ((s.takeWhile zcy).length : Int) < (s.length : Int) by omega),yif];exact fin _
 exact key fuel 0 (yz _) (zeN (by omega))
end Go.Dm
end
section
namespace Go.Dm
theorem zxb {b : Nat} {s : Str} {most : Int} (h : (zL b s most).2 = 0) : 0 ≤ (zL b s most).1 ∧ (zL b s most).1 ≤ most := by
 unfold zL at h ⊢
 split at h
 ·cases h
 ·rename_i h3
  rw [if_neg h3]
  split at h
  ·cases h
  ·rename_i h4
   rw [if_neg h4];dsimp only;omega
theorem zpb : ∀ {l : List Str} {ns : List Int},zeu l = some ns → ∀ n ∈ ns,0 ≤ n ∧ n ≤ zi5
 | [],ns,h,n,hn => by
  unfold zeu at h;cases h; cases hn
 | t :: ts,ns,h,n,hn => by
  unfold zeu at h
  split at h
  ·rename_i h1
   cases hr : zeu ts with
   | none => rw [hr] at h; cases h
   | some ms =>
    rw [hr] at h;cases h
    rcases List.mem_cons.1 hn with rfl | hn
    ·exact zxb (by simpa using h1)
    ·exact zpb hr n hn
  ·cases h
theorem zrK : ∀ {vs : List Str} {ns : List Int},zjZ vs = some ns → ∀ n ∈ ns,0 ≤ n ∧ n ≤ zi5
 | [],ns,h,n,hn => by
  unfold zjZ at h;cases h; cases hn
 | v :: vs,ns,h,n,hn => by
  unfold zjZ at h
  split at h
  ·cases h
  ·rename_i l _
   split at h
   ·cases h
   ·rename_i a ha
    cases hr : zjZ vs with
    | none => rw [hr] at h; cases h
    | some ms =>
     rw [hr] at h;cases h
     rcases List.mem_append.1 hn with hn | hn
     ·exact zpb ha n hn
     ·exact zrK hr n hn
theorem zqe {g : api_Head} {k : Int} {fr : api_Frame} (hk : k = 1 ∨ k = 4) (h : zmO g k = (fr,0)) : fr = ⟨1,0⟩ ∨ (∃ n : Nat,fr = ⟨2,(n : Int)⟩ ∧ n ≤ 1099511627776) ∨ fr = ⟨3,0⟩ ∨ fr = ⟨4,0⟩ := by
 unfold zmO at h
 split at h
 ·split at h
  ·cases h
   rcases hk with rfl | rfl
   ·exact .inl rfl
   ·exact .inr (.inr (.inr rfl))
  ·unfold zmN at h
   split at h
   ·cases h
   ·cases h
   ·rename_i n ns hv
    split at h
    ·cases h;obtain ⟨h1,h2⟩ := zrK hv n (List.mem_cons_self ..);unfold zi5 at h2;obtain ⟨m,rfl⟩ : ∃ m : Nat,n = (m : Int) := ⟨n.toNat,by omega⟩;exact .inr (.inl ⟨m,rfl,by omega⟩)
    ·cases h
 ·split at h
  ·unfold zoD at h
   split at h
   ·split at h
    ·split at h
     ·cases h; exact .inr (.inr (.inl rfl))
     ·cases h
    ·cases h
   ·cases h
  ·cases h
theorem zmC {me : Str} {g : api_Head} {fr : api_Frame} (h : zfC me g = (fr,0)) : fr = ⟨1,0⟩ ∨ (∃ n : Nat,fr = ⟨2,(n : Int)⟩ ∧ n ≤ 1099511627776) ∨ fr = ⟨3,0⟩ ∨ fr = ⟨4,0⟩ := by
 unfold zfC at h
 split at h
 ·exact zqe (.inl rfl) h
 ·split at h
  ·cases h; exact .inl rfl
  ·exact zqe (.inr rfl) h
def zdB : api_Message := ⟨zx,⟨0,0⟩,[],[]⟩
def zhv (h : api_Head) (fr : api_Frame) (a : Nat) (w : Str) (L : Int) (en : Bool) : api_Message × Int × Int :=
 if fr.Kind == 1 then (⟨h,fr,[],[]⟩,(a : Int),0)
 else if fr.Kind == 2 then (if (w.length : Int) < fr.N then (zdB,0,6) else (⟨h,fr,w.take fr.N.toNat,[]⟩,(a : Int) + fr.N,0))
 else if fr.Kind == 3 then (match szR L (w.length + 1) 0 0 [] w with
  | .more => (zdB,0,6)
  | .bad _ e => (zdB,0,e)
  | .whole k o tr => (⟨h,fr,o,tr⟩,((a + k : Nat) : Int),0))
 else if en then (⟨h,fr,w,[]⟩,((a + w.length : Nat) : Int),0) else (zdB,0,6)
def msgP (k : Int) (me s : Str) (L : Int) (en : Bool) : api_Message × Int × Int :=
 match znm k L zx s [] 0 0 with
 | (none,_) => (zdB,0,6)
 | (some z,_) => if !(z.2.e == 0) then (zdB,0,z.2.e) else if !((zfC me z.2.g).2 == 0) then (zdB,0,(zfC me z.2.g).2) else zhv z.2.g (zfC me z.2.g).1 z.1 (s.drop z.1) L en
def bodyM (s : Str) (L : Int) (en : Bool) (q : Int × Bool × Int × accum_Accum) (p : api_Head × Bool) (fr : api_Frame × Int) : Option (api_Message × Int × Int) :=
 (zl9 fr.1 L).bind fun r171 =>
 ztB r171.1 (zhg s q) (fun x173 => bE x173.1 (zdz s en q p fr x173.2.f_frame.Kind x173.2.f_frame.N x173.2.f_left x173.2.f_done x173.2.f_bad x173.2.Decoder.f_limit x173.2.Decoder.f_at x173.2.Decoder.f_line x173.2.Decoder.f_left x173.2.Decoder.f_sum x173.2.Decoder.f_spent x173.2.Decoder.f_trailers) (zaO s en q p fr x173.2.f_frame.Kind x173.2.f_frame.N x173.2.f_left x173.2.f_done x173.2.f_bad))
theorem ztr {L : Int} (h0 : 0 ≤ L) (h1 : L ≤ 65536) : zjM L = some (some ⟨L,0,[],0,0,0,[]⟩,0) := by
 unfold zjM;rw [ydf (by omega),yif,ydf (by omega)];rfl
theorem zxc {L : Int} (h0 : 0 ≤ L) (h1 : L ≤ 65536) {fr : api_Frame} (hf : fr = ⟨1,0⟩ ∨ (∃ n : Nat,fr = ⟨2,(n : Int)⟩ ∧ n ≤ 1099511627776) ∨ fr = ⟨3,0⟩ ∨ fr = ⟨4,0⟩) :
  zl9 fr L = some (some (if fr.Kind == 3 then (true,⟨⟨L,0,[],0,0,0,[]⟩,fr,0,false,false⟩) else (false,⟨default,fr,fr.N,(fr.Kind == 1) || (fr.Kind == 2 && fr.N == 0),false⟩)),0) := by
 unfold zl9;rw [ztr h0 h1,yob];show zjP fr 0 L 0 [] 0 0 0 [] = _
 rcases hf with rfl | ⟨n,rfl,hn⟩ | rfl | rfl
 ·rfl
 ·unfold zjP;dsimp only;rw [show (!((0 : Int) == 0)) = false from rfl,yif,ydf (show ¬ ((2 : Int) < 1) by decide),yif,ydf (show ¬ ((4 : Int) < 2) by decide),yif,ydf (show ¬ ((n : Int) < 0) by omega),yif,ydf (show ¬ ((1099511627776 : Int) < (n : Int)) by omega)];rfl
 ·rfl
 ·rfl
section
variable {h : api_Head} {t s : Str} {en : Bool} {L : Int}
theorem zzY (n : Nat) (hn : n ≤ 1099511627776) (ht : t.length < 29000000) : ∃ b : body_Body,zD ⟨⟨default,⟨2,(n : Int)⟩,(n : Int),((n : Int) == 0),false⟩,⟨h,⟨2,(n : Int)⟩,[],[]⟩⟩ t en =
  some (if n ≤ t.length then ((n : Int),0,⟨b,⟨h,⟨2,(n : Int)⟩,t.take n,[]⟩⟩) else (0,6,⟨b,⟨h,⟨2,(n : Int)⟩,t,[]⟩⟩)) := by
 by_cases h0 : n = 0
 ·subst h0;refine ⟨⟨default,⟨2,0⟩,0,true,false⟩,?_⟩;rw [if_pos (yz _),List.take_zero];rfl
 ·have hz : ((n : Int) == 0) = false := by rw [beq_eq_false_iff_ne]; omega
  unfold zD zbf;dsimp only;rw [hz,yob,ynf,if_pos rfl];unfold zdo;dsimp only;rw [yif];unfold zbX;dsimp only;rw [yif,if_neg (by decide),if_pos (by decide)]
  by_cases hle : n ≤ t.length
  ·have e1 : min (t.length : Int) (n : Int) = (n : Int) := by omega
   have e2 : ((n : Int) - (n : Int) == 0) = true := by rw [Int.sub_self]; rfl
   refine ⟨⟨default,⟨2,(n : Int)⟩,(n : Int) - (n : Int),true,false⟩,?_⟩;rw [e1,z8 (by omega) (by omega),yob,e2];unfold zaf;rw [zbR hle,yob,yob,if_pos hle];rfl
  ·have e1 : min (t.length : Int) (n : Int) = (t.length : Int) := by omega
   have e2 : ((n : Int) - (t.length : Int) == 0) = false := by rw [beq_eq_false_iff_ne]; omega
   refine ⟨⟨default,⟨2,(n : Int)⟩,(n : Int) - (t.length : Int),false,false⟩,?_⟩;rw [e1,z8 (by omega) (by omega),yob,e2];unfold zaf;rw [zbR (Nat.le_refl _),List.take_length,yob,yob,if_neg hle];rfl
theorem zxd (ht : t.length < 29000000) (h0 : 0 ≤ L) (h1 : L ≤ 65536) : ∃ (n e : Int) (b : body_Body) (o : Str) (tr : List api_Field),zb7 ⟨⟨⟨L,0,[],0,0,0,[]⟩,⟨3,0⟩,0,false,false⟩,⟨h,⟨3,0⟩,[],[]⟩⟩ t en = some (n,e,⟨b,⟨h,⟨3,0⟩,o,tr⟩⟩) ∧
  (match szR L (t.length + 1) 0 0 [] t with
  | .more => e = 6
  | .bad _ e' => e = e' ∧ (e' == 0) = false
  | .whole k o' tr' => n = (k : Int) ∧ e = 0 ∧ o = o' ∧ tr = tr') := by
 have hs := zzz L t (by omega) h0 (by omega)
 have key : ∀ (n : Int) (o : Str) (t1 : Bool) (e : Int) (d : dechunk_Decoder),zaX ⟨L,0,[],0,0,0,[]⟩ t = some (n,o,t1,e,d) → ziN ⟨⟨L,0,[],0,0,0,[]⟩,⟨3,0⟩,0,false,false⟩ t = some (n,o,t1,e,⟨d,⟨3,0⟩,0,t1, !(e == 0)⟩) := by
  intro n o t1 e d hf;show ((zaX ⟨L,0,[],0,0,0,[]⟩ t).bind _) = _;rw [hf,yob]
 unfold zb7 zdJ;dsimp only;rw [yob,ynf,if_pos rfl]
 cases hc : szR L (t.length + 1) 0 0 [] t with
 | more =>
  rw [hc] at hs;obtain ⟨o,d,e⟩ := hs;rw [key _ _ _ _ _ e,yob];dsimp only;rw [if_neg (by decide)];unfold zba;dsimp only;rw [if_neg (by decide)];unfold za9;rw [yif];unfold za8 zdJ;dsimp only;rw [yob,ynf,if_pos rfl];exact ⟨_,_,_,_,_,rfl,rfl⟩
 | bad q e' =>
  rw [hc] at hs;obtain ⟨o,d,e,he⟩ := hs;rw [key _ _ _ _ _ e,yob];dsimp only;rw [if_pos (by rw [he]; rfl)];exact ⟨_,_,_,_,_,rfl,rfl,he⟩
 | whole q o' tr' =>
  rw [hc] at hs;obtain ⟨d,e,htr⟩ := hs;rw [key _ _ _ _ _ e,yob];dsimp only;rw [if_neg (by decide)];unfold zba;dsimp only;rw [if_neg (by decide)];unfold za9;rw [yif];unfold za8 zdJ;dsimp only;rw [yob,ynt,yif];unfold zfu zcB;dsimp only;rw [htr,if_pos (zbb (by have := zx3 hc; omega) (by have := zx3 hc; omega)),yob,yob];exact ⟨_,_,_,_,_,rfl,rfl,rfl,rfl,by simp⟩
end
theorem zCu {h : api_Head} {s : Str} {L : Int} {en : Bool} {a : Nat} {x : accum_Accum} {fr : api_Frame} (ha : a ≤ s.length) (hs : s.length < 20000000) (h0 : 0 ≤ L) (h1 : L ≤ 65536) (hf : fr = ⟨1,0⟩ ∨ (∃ n : Nat,fr = ⟨2,(n : Int)⟩ ∧ n ≤ 1099511627776) ∨ fr = ⟨3,0⟩ ∨ fr = ⟨4,0⟩) :
  bodyM s L en ((a : Int),true,0,x) (h,true) (fr,0) = some (zhv h fr a (s.drop a) L en) := by
 have hdl : (s.drop a).length ≤ s.length := by simp
 unfold bodyM;dsimp only;rw [zxc h0 h1 hf,yob];dsimp only
 rcases hf with rfl | ⟨n,rfl,hn⟩ | rfl | rfl
 ·show zaO s en ((a : Int),true,0,x) (h,true) (⟨1,0⟩,0) 1 0 0 true false = _;have hr : zD ⟨⟨default,⟨1,0⟩,0,true,false⟩,⟨h,⟨1,0⟩,[],[]⟩⟩ (s.drop a) en = some (0,0,⟨⟨default,⟨1,0⟩,0,true,false⟩,⟨h,⟨1,0⟩,[],[]⟩⟩) := rfl;unfold zaO;dsimp only;rw [zB ha,yob,hr,yob];dsimp only;rw [if_neg (by decide),zan (by omega) (by omega),yob,Int.add_zero];rfl
 ·obtain ⟨b,hr⟩ := zzY (h := h) (t := s.drop a) (en := en) n hn (by omega);show zaO s en ((a : Int),true,0,x) (h,true) (⟨2,(n : Int)⟩,0) 2 (n : Int) (n : Int) ((n : Int) == 0) false = _
  have hb : zhv h ⟨2,(n : Int)⟩ a (s.drop a) L en = if ((s.drop a).length : Int) < (n : Int) then (zdB,0,6) else (⟨h,⟨2,(n : Int)⟩,(s.drop a).take n,[]⟩,(a : Int) + (n : Int),0) := by
   unfold zhv;dsimp only;rw [show ((2 : Int) == 1) = false from rfl,yif,show ((2 : Int) == 2) = true from rfl,if_pos rfl,Int.toNat_natCast]
  rw [hb];unfold zaO;dsimp only;rw [zB ha,yob,hr,yob]
  by_cases hle : n ≤ (s.drop a).length
  ·rw [if_pos hle,if_neg (show ¬ (((s.drop a).length : Int) < (n : Int)) by omega)];dsimp only;rw [if_neg (by decide),zan (by omega) (by omega),yob]
  ·rw [if_neg hle,if_pos (show ((s.drop a).length : Int) < (n : Int) by omega)];rfl
 ·obtain ⟨n,e,b,o,tr,hr,hm⟩ := zxd (h := h) (t := s.drop a) (en := en) (by omega) h0 h1;show zdz s en ((a : Int),true,0,x) (h,true) (⟨3,0⟩,0) 3 0 0 false false L 0 [] 0 0 0 [] = _
  have hb : zhv h ⟨3,0⟩ a (s.drop a) L en = (match szR L ((s.drop a).length + 1) 0 0 [] (s.drop a) with
    | .more => (zdB,0,6)
    | .bad _ e => (zdB,0,e)
    | .whole k o tr => (⟨h,⟨3,0⟩,o,tr⟩,((a + k : Nat) : Int),0)) := rfl
  rw [hb];unfold zdz;dsimp only;rw [zB ha,yob];show ((zb7 ⟨⟨⟨L,0,[],0,0,0,[]⟩,⟨3,0⟩,0,false,false⟩,⟨h,⟨3,0⟩,[],[]⟩⟩ (s.drop a) en).bind _) = _;rw [hr,yob];dsimp only
  cases hc : szR L ((s.drop a).length + 1) 0 0 [] (s.drop a) with
  | more =>
   rw [hc] at hm;dsimp only at hm;subst hm;rfl
  | bad q e' =>
   rw [hc] at hm;obtain ⟨rfl,he⟩ := hm;rw [if_pos (by rw [he]; rfl)];rfl
  | whole k o' tr' =>
   rw [hc] at hm;obtain ⟨rfl,rfl,rfl,rfl⟩ := hm;have hk := zvz hc;rw [if_neg (by decide),zfc (by omega),yob]
 ·show zaO s en ((a : Int),true,0,x) (h,true) (⟨4,0⟩,0) 4 0 0 false false = _
  have hx : zdo ⟨default,⟨4,0⟩,0,false,false⟩ (s.drop a) = some (((s.drop a).length : Int),s.drop a,false,0,⟨default,⟨4,0⟩,0,false,false⟩) := by
   show zaf ⟨default,⟨4,0⟩,0,false,false⟩ (s.drop a) ((s.drop a).length : Int) 0 false = _;unfold zaf;rw [zbR (Nat.le_refl _),List.take_length,yob]
  have hb : zhv h ⟨4,0⟩ a (s.drop a) L en = if en then (⟨h,⟨4,0⟩,s.drop a,[]⟩,((a + (s.drop a).length : Nat) : Int),0) else (zdB,0,6) := rfl;rw [hb];unfold zaO;dsimp only;rw [zB ha,yob]
  cases en with
  | true =>
   have hr : zD ⟨⟨default,⟨4,0⟩,0,false,false⟩,⟨h,⟨4,0⟩,[],[]⟩⟩ (s.drop a) true = some (((s.drop a).length : Int),0,⟨⟨default,⟨4,0⟩,0,true,false⟩,⟨h,⟨4,0⟩,s.drop a,[]⟩⟩) := by
    unfold zD zbf;dsimp only;rw [yob,ynf,if_pos rfl,hx,yob];rfl
   rw [hr,yob];dsimp only;rw [if_neg (by decide),zfc (by omega),yob,if_pos rfl]
  | false =>
   have hr : zD ⟨⟨default,⟨4,0⟩,0,false,false⟩,⟨h,⟨4,0⟩,[],[]⟩⟩ (s.drop a) false = some (0,6,⟨⟨default,⟨4,0⟩,0,false,false⟩,⟨h,⟨4,0⟩,s.drop a,[]⟩⟩) := by
    unfold zD zbf;dsimp only;rw [yob,ynf,if_pos rfl,hx,yob];rfl
   rw [hr,yob,yif];rfl
theorem zzZ {k L : Int} (hk : k = 1 ∨ k = 2) (h0 : 0 ≤ L) (h1 : L ≤ 65536) (me s : Str) (en : Bool) (hs : s.length ≤ 4000) : zeB k me s L en = some (msgP k me s L en) := by
 have hf := zD5 k L zx [] 0 false s (by omega) (by decide) ⟨yz _,fun h _ => absurd h (by decide)⟩
 have hn : zko k L = some (some ⟨k,L,[],0,false,0,false,zx⟩,0) := by
  rw [zCU,ydf (by omega),ydf (by omega)]
  rcases hk with rfl | rfl <;> rfl
 unfold zeB;rw [hn,yob];show ze1 me s L en 0 k L [] 0 false 0 false 0 [] [] 0 [] 0 [] = _;unfold ze1;rw [if_neg (by decide)];show ((zdy ⟨k,L,[],((0 : Nat) : Int),false,0,false,zx⟩ s).bind _) = _;rw [hf,yob];unfold feedR msgP
 cases hr : znm k L zx s [] 0 0 with
 | mk o f' =>
  cases o with
  | none => rfl
  | some z =>
   obtain ⟨z1,z2,z3,z4,_,z6⟩ := zoF zqD hr;dsimp only
   cases he : z.2.e == 0 with
   | false => rfl
   | true =>
    have hw : z.2.w = true := by rw [z3,he]
    have hh := z4 hw;simp only [yln,Nat.zero_add,Nat.sub_zero,yna] at hh z6;have hz0 : zx.Fields.length = 0 := rfl;obtain ⟨g3,g4,_⟩ := ztz hh (by rw [ylt]; omega);rw [ynt,yif,yif,if_neg (show ¬ ((!z.2.w) = true) by rw [hw]; decide),hw,zD6 _ (by dsimp only; omega),yob];unfold zCV;dsimp only;rw [if_pos rfl];dsimp only;rw [zrl _ _ (by omega) (zfk (by decide) g4),yob]
    cases hfe : (zfC me z.2.g).2 == 0 with
    | false => rfl
    | true =>
     have hfr : zfC me z.2.g = ((zfC me z.2.g).1,0) := Prod.ext rfl (by simpa using hfe)
     have e0 : (z.2.e : Int) = 0 := by simpa using he
     rw [ynt,yif,yif];have := zCu (h := z.2.g) (s := s) (L := L) (en := en) (a := z.1) (x := ⟨k,L,[],(z.2.f : Int),true,z.2.e,true,z.2.g⟩) (fr := (zfC me z.2.g).1) (by omega) (by omega) h0 h1 (zmC hfr);rw [← this,hfr,e0];rfl
end Go.Dm
end
section
namespace Go.Dm
def zty (r : CR) (x : Option ref19_Fate) : Prop := match r with
 | .more => ∃ f,x = some f ∧ f.At = 0
 | .bad k e => ∃ f,x = some f ∧ f.At = (k : Int) ∧ f.Err = e ∧ 0 < k ∧ (e == 0) = false
 | .whole k o tr => ∃ f,x = some f ∧ f.At = (k : Int) ∧ f.Err = 0 ∧ f.Body = o ∧ f.Trailers = tr ∧ 0 < k
theorem zy2 {lim : Option Int} {w : Str} {k q : Nat} (h : rdL lim k false w = .line q) : k + 2 ≤ q := by
 cases w with
 | nil => cases h
 | cons c w =>
  rw [rdL] at h
  split at h
  ·cases h
  ·split at h
   ·cases h
   ·rename_i h1
    split at h
    ·rename_i h2; rw [h2] at h1; exact absurd rfl h1
    ·have := (zhu h).1; omega
theorem zCE {e : Int} (h : e = 3 ∨ e = 24) : (e == 0) = false := by rcases h with rfl | rfl <;> rfl
theorem zxj {b : Str} {i k : Nat} {w : Str} (hat : At b i w) (h2 : 2 ≤ k) (hk : k ≤ w.length) (hb : b.length < 100000000) :
  zq (i : Int) (k : Int) = some ((i + k : Nat) : Int) ∧ zbc ((i + k : Nat) : Int) 2 = some ((i + k - 2 : Nat) : Int) ∧ zd0 b (i : Int) ((i + k - 2 : Nat) : Int) = some (w.take (k - 2)) := by
 have hl := hat.len;refine ⟨zfc (by omega),?_,?_⟩
 ·rw [z8 (by omega) (by omega)]; exact congrArg some (by omega)
 ·rw [zbx (by omega) (by omega),List.drop_take,hat.drop,show i + k - 2 - i = k - 2 by omega]
theorem zDS {L : Int} (hL0 : 0 ≤ L) {o b : Str} (hb : b.length < 100000000) : ∀ (f : Nat) (w : Str) (i : Nat) (sp : Int) (tr : List api_Field) (n : Nat) (ln : Int),At b i w → w.length < f → 0 ≤ sp → sp < 400000000 - (w.length : Int) → tr.length ≤ 100 → w.length < n →
  zty (trR L o f i sp tr w) (zbS b L n 0 0 o tr ln (i : Int) sp) := by
 intro f
 induction f with
 | zero => intro w i sp tr n ln _ h; omega
 | succ f ih =>
  intro w i sp tr n ln hat hf h0 hsp htr hn;obtain ⟨n,rfl⟩ : ∃ m,n = m + 1 := ⟨n - 1,by omega⟩;have hl := hat.len;rw [zbS,zoX hb hat h0 (by omega),yob,trR,show zoJ L sp = some (L - sp) by unfold zoJ; rw [ydt hL0,if_pos rfl]]
  cases hr : rdL (some (L - sp)) 0 false w with
  | more =>
   unfold zlT;dsimp only;rw [if_neg (by decide),if_pos (by decide),z8 (by omega) (by omega)];exact ⟨_,rfl,rfl⟩
  | bad k e =>
   obtain ⟨h1,h2,h3⟩ := zow hr;unfold zlT;dsimp only;rw [ydt (show (0 : Int) < (k : Int) by omega),if_pos rfl,zfc (by omega)];exact ⟨_,rfl,rfl,rfl,by omega,zCE h3⟩
  | line k =>
   obtain ⟨h1,h2,h3⟩ := zhu hr;have hk2 := zy2 hr
   have hk0 : ((k : Int) == 0) = false := by rw [beq_eq_false_iff_ne]; omega
   obtain ⟨e1,e2,e3⟩ := zxj hat (by omega) (by omega) hb;have hat' : At b (i + k) (w.drop k) := hat.next k (by omega);have hdl : (w.drop k).length = w.length - k := yld ..;unfold zlT;dsimp only;rw [ydf (show ¬ ((0 : Int) < 0) by decide),yif,hk0,yif,e1,yob,e2,yob,e3,yob,yob,zan (by omega) (by omega),yob]
   cases hz : w.take (k - 2) == [] with
   | true => exact ⟨_,rfl,rfl,rfl,rfl,rfl,by omega⟩
   | false =>
    have htl : (w.take (k - 2)).length ≤ w.length := by simp; omega
    rw [yif,yif,zkF _ (by omega),yob]
    have bad : ∀ e : Int,(e == 0) = false → zty (.bad (i + k) e) (zeF (zbS b L n) 0 0 o tr ln ((i + k : Nat) : Int) (sp + (k : Int)) (zaQ (w.take (k - 2))) e) := by
     intro e he;unfold zeF;rw [he,ynf,if_pos rfl];exact ⟨_,rfl,rfl,rfl,by omega,he⟩
    cases he : (zaQ (w.take (k - 2))).2 == 0 with
    | false =>
     rw [yif,ynf,if_pos rfl];exact bad _ he
    | true =>
     rw [if_pos rfl,ynt,yif]
     by_cases h100 : 100 ≤ tr.length
     ·have hx : ((tr.length : Int) == 100) = true := by rw [beq_iff_eq]; omega
      rw [hx,ydt h100,if_pos rfl];exact bad 3 rfl
     ·have hx : ((tr.length : Int) == 100) = false := by rw [beq_eq_false_iff_ne]; omega
      rw [hx,ydf h100,yif]
      have h0' : (zaQ (w.take (k - 2))).2 = 0 := by simpa using he
      unfold zhJ zeF;rw [yif,h0',show (!((0 : Int) == 0)) = false from rfl,yif,if_pos (zbb (by omega) (by omega))];exact ih (w.drop k) (i + k) (sp + k) _ n ln hat' (by omega) (by omega) (by omega) (by simp; omega) (by omega)
theorem zCF {b : Str} (hb : b.length < 100000000) {rec1 : Int → Int → Str → List api_Field → Int → Int → Int → Option ref19_Fate} {ln sm : Int} {o w : Str} {i : Nat} {g : Nat → Str → CR} (hat : At b i w)
  (hg : ∀ w',At b (i + 2) w' → w'.length + 2 = w.length → zty (g (i + 2) w') (rec1 0 0 o [] ln ((i + 2 : Nat) : Int) sm)) :
  zty (afR i g w) (zcY rec1 b 0 0 [] ln sm o fuel (i : Int) 0) := by
 have hl := hat.len;have h3 : ∃ m,fuel = m + 3 := ⟨fuel - 3,by unfold fuel; omega⟩;obtain ⟨m,hm⟩ := h3;rw [hm]
 have get : ∀ {i : Nat} {c : UInt8} {w : Str},At b i (c :: w) → b[i]? = some c := fun h => by
  have := congrArg List.head? h.drop;rw [List.head?_drop] at this;exact this
 have one : ∀ (m i : Nat) (j : Nat) (x c : UInt8) (w : Str),At b i (c :: w) → ([13,10] : Str)[j]? = some x → j < 2 → zcY rec1 b 0 0 [] ln sm o (m + 1) (i : Int) (j : Int) = if !(c == x) then some ⟨((i + 1 : Nat) : Int),31,o,[],ln⟩ else zcY rec1 b 0 0 [] ln sm o m ((i + 1 : Nat) : Int) ((j + 1 : Nat) : Int) := by
  intro m i j x c w h hx hj;have hl := h.len;simp only [ylc] at hl
  have hne : ((i : Int) == (b.length : Int)) = false := by rw [beq_eq_false_iff_ne]; omega
  have e2 : zbc ((i + 1 : Nat) : Int) 1 = some (i : Int) := by rw [z8 (by omega) (by omega)]; exact congrArg some (by omega)
  have hlen : decide ((j : Int) < (([13,10] : List Nat).length : Int)) = true := ydt (by simp; omega);rw [zcY,hlen,if_pos rfl,zaF,hx,yob,hne,yif,zf (by omega),yob,e2,yob,zA,get h,yob]
  cases c == x with
  | false => rw [ynf,if_pos rfl,if_pos rfl]
  | true => rw [ynt,yif,yif,zf (by omega),yob]
 have off : ∀ (m i : Nat) (j : Nat) (x : UInt8),At b i [] → ([13,10] : Str)[j]? = some x → j < 2 → zcY rec1 b 0 0 [] ln sm o (m + 1) (i : Int) (j : Int) = some ⟨0,0,o,[],ln⟩ := by
  intro m i j x h hx hj;have hl := h.len;simp only [yln] at hl
  have heq : ((i : Int) == (b.length : Int)) = true := by rw [beq_iff_eq]; omega
  have hlen : decide ((j : Int) < (([13,10] : List Nat).length : Int)) = true := ydt (by simp; omega);rw [zcY,hlen,if_pos rfl,zaF,hx,yob,heq,if_pos rfl]
 cases w with
 | nil =>
  have h := off (m + 2) i 0 13 hat rfl (by decide);rw [show ((0 : Nat) : Int) = 0 from rfl] at h;rw [h];exact ⟨_,rfl,rfl⟩
 | cons c w =>
  have h := one (m + 2) i 0 13 c w hat rfl (by decide);rw [show ((0 : Nat) : Int) = 0 from rfl] at h;rw [h];unfold afR;dsimp only
  cases c == 13 with
  | false => exact ⟨_,rfl,rfl,rfl,by omega,rfl⟩
  | true =>
   have hat1 : At b (i + 1) w := by have := hat.next 1 (by simp); simpa using this
   rw [ynt,yif,yif]
   cases w with
   | nil =>
    rw [off (m + 1) (i + 1) 1 10 hat1 rfl (by decide)];exact ⟨_,rfl,rfl⟩
   | cons c2 w2 =>
    rw [one (m + 1) (i + 1) 1 10 c2 w2 hat1 rfl (by decide)];dsimp only
    cases c2 == 10 with
    | false => exact ⟨_,rfl,rfl,rfl,by omega,rfl⟩
    | true =>
     have hat2 : At b (i + 2) w2 := by have := hat1.next 1 (by simp); simpa using this
     rw [ynt,yif,yif,zcY,show decide (((1 + 1 : Nat) : Int) < (([13,10] : List Nat).length : Int)) = false from rfl,yif];exact hg w2 hat2 (by simp)
theorem of_eq {L : Int} (hL0 : 0 ≤ L) {b : Str} (hb : b.length < 100000000) : ∀ (f : Nat) (w : Str) (i : Nat) (sm : Int) (o : Str) (n : Nat) (ln : Int),At b i w → w.length < f → 0 ≤ sm → sm ≤ 1099511627776 → o.length ≤ i → w.length < n →
  zty (szR L f i sm o w) (zcZ L b n 0 0 o [] ln (i : Int) sm) := by
 intro f
 induction f with
 | zero => intro w i sm o n ln _ h; omega
 | succ f ih =>
  intro w i sm o n ln hat hf h0 hsm ho hn;obtain ⟨n,rfl⟩ : ∃ m,n = m + 1 := ⟨n - 1,by omega⟩;have hl := hat.len;rw [zcZ,zoX hb hat (by decide) (by decide),yob,szR,show zoJ (-1) 0 = none from rfl]
  cases hr : rdL none 0 false w with
  | more =>
   unfold zlT;dsimp only;rw [ydf (show ¬ ((0 : Int) < 0) by decide),yif,show ((0 : Int) == 0) = true from rfl,if_pos rfl,z8 (by omega) (by omega)];exact ⟨_,rfl,rfl⟩
  | bad k e =>
   obtain ⟨h1,h2,h3⟩ := zow hr;unfold zlT;dsimp only;rw [ydt (show (0 : Int) < (k : Int) by omega),if_pos rfl,zfc (by omega)];exact ⟨_,rfl,rfl,rfl,by omega,zCE h3⟩
  | line k =>
   obtain ⟨h1,h2,h3⟩ := zhu hr;have hk2 := zy2 hr
   have hk0 : ((k : Int) == 0) = false := by rw [beq_eq_false_iff_ne]; omega
   obtain ⟨e1,e2,e3⟩ := zxj hat (by omega) (by omega) hb;have hat' : At b (i + k) (w.drop k) := hat.next k (by omega);have hdl : (w.drop k).length = w.length - k := yld ..
   have htl : (w.take (k - 2)).length ≤ w.length := by simp; omega
   obtain ⟨l,hc⟩ := zsI (w.take (k - 2)) (by omega);have hce := zs1 (w.take (k - 2));unfold zlT;dsimp only;rw [ydf (show ¬ ((0 : Int) < 0) by decide),yif,hk0,yif,e1,yob,e2,yob,e3,yob,hc,yob,yob];dsimp only
   have bad : ∀ e : Int,(e == 0) = false → zty (.bad (i + k) e) (zg5 (zcZ L b n) L b 0 0 o [] ln sm ((zaB (w.take (k - 2))).1,l,(zaB (w.take (k - 2))).2) ((i + k : Nat) : Int) e) := by
    intro e he;unfold zg5;rw [he,ynf,if_pos rfl];exact ⟨_,rfl,rfl,rfl,by omega,he⟩
   cases he : (zaB (w.take (k - 2))).2 == 0 with
   | false =>
    rw [yif,ynf,if_pos rfl];exact bad _ he
   | true =>
    have hc0 : (zaB (w.take (k - 2))).2 = 0 := by simpa using he
    obtain ⟨hn0,hn1⟩ := hce hc0;rw [if_pos rfl,ynt,yif,z8 (by omega) (by omega),yob]
    cases hov : decide (1099511627776 - sm < (zaB (w.take (k - 2))).1) with
    | true =>
     rw [if_pos rfl];exact bad 7 rfl
    | false =>
     have hov' : ¬ (1099511627776 - sm < (zaB (w.take (k - 2))).1) := by simpa using hov
     unfold zjX zg5;rw [yif,yif];dsimp only;rw [hc0,show (!((0 : Int) == 0)) = false from rfl,yif]
     generalize hN : (zaB (w.take (k - 2))).1 = N at *
     obtain ⟨m,rfl⟩ : ∃ m : Nat,N = (m : Int) := ⟨N.toNat,by omega⟩
     cases hz : ((m : Int) == 0) with
     | true =>
      rw [if_pos rfl,if_pos rfl,Option.bind_fun_some];exact zDS hL0 hb f (w.drop k) (i + k) 0 [] fuel ln hat' (by omega) (by decide) (by omega) (by decide) (zeN (by omega))
     | false =>
      have hm0 : m ≠ 0 := by intro h; subst h; exact absurd hz (by decide)
      have e5 : zbc (b.length : Int) ((i + k : Nat) : Int) = some ((w.drop k).length : Int) := by rw [z8 (by omega) (by omega)]; exact congrArg some (by omega)
      rw [yif,yif,zan (by omega) (by omega),yob,e5,yob,Int.toNat_natCast]
      by_cases hsh : (w.drop k).length < m
      ·have e6 : min (m : Int) ((w.drop k).length : Int) = ((w.drop k).length : Int) := by omega
       rw [if_pos hsh,e6,zfc (by omega),yob,zbx (by omega) (by omega),yob,zhn (by simp; omega),yob,yob,ydt (by omega),if_pos rfl];exact ⟨_,rfl,rfl⟩
      ·have e6 : min (m : Int) ((w.drop k).length : Int) = (m : Int) := by omega
       have e7 : ((b.take (i + k + m)).drop (i + k)) = (w.drop k).take m := by rw [List.drop_take,hat'.drop,show i + k + m - (i + k) = m by omega]
       rw [if_neg hsh,e6,zfc (by omega),yob,zbx (by omega) (by omega),yob,e7,zhn (by simp; omega),yob,yob,ydf (by omega),yif];refine zCF hb (hat'.next m (by omega)) fun w' hw' hl' => ?_;have hl2 := hw'.len;rw [yld] at hl';exact ih w' (i + k + m + 2) (sm + m) _ n ln hw' (by omega) (by omega) (by omega) (by simp; omega) (by omega)
theorem zy3 {L : Int} (hL0 : 0 ≤ L) {b : Str} (hb : b.length < 100000000) : zty (szR L (b.length + 1) 0 0 [] b) (zn5 L b) :=
 of_eq hL0 hb (b.length + 1) b 0 0 [] fuel 0 (At.zero b) (by omega) (by decide) (by decide) (by decide) (zeN (by omega))
end Go.Dm
end
section
namespace Go.Dm
theorem zDG {fr : api_Frame} (hf : fr = ⟨1,0⟩ ∨ (∃ n : Nat,fr = ⟨2,(n : Int)⟩ ∧ n ≤ 1099511627776) ∨ fr = ⟨3,0⟩ ∨ fr = ⟨4,0⟩) {h : api_Head} {s : Str} {L : Int} {en : Bool} {a : Nat} {me : Str} {e : Int} (ha : a ≤ s.length) (hs : s.length < 20000000) (h0 : 0 ≤ L) :
    ((zn6 fr L (s.drop a)).bind fun r32 => if fr.Kind == 4 then zax s ⟨(a : Int),e,h⟩ (fr,0) r32 en else zax s ⟨(a : Int),e,h⟩ (fr,0) r32 false) = some ⟨(zhv h fr a (s.drop a) L en).1,(zhv h fr a (s.drop a) L en).2.1,(zhv h fr a (s.drop a) L en).2.2⟩ := by
  have hdl : (s.drop a).length = s.length - a := yld ..
  have hlen : ((a + (s.drop a).length : Nat) : Int) = (s.length : Int) := by omega
  rcases hf with rfl | ⟨n,rfl,hn⟩ | rfl | rfl
  · show (zax s ⟨(a : Int),e,h⟩ (⟨1,0⟩,0) ⟨0,0,[],[],0⟩ false) = some ⟨⟨h,⟨1,0⟩,[],[]⟩,(a : Int),0⟩
    unfold zax;dsimp only;rw [yif,if_neg (by decide),if_neg (by decide),zan (by omega) (by omega),yob,Int.add_zero]
  · have hb : zhv h ⟨2,(n : Int)⟩ a (s.drop a) L en = if ((s.drop a).length : Int) < (n : Int) then (zdB,0,6) else (⟨h,⟨2,(n : Int)⟩,(s.drop a).take n,[]⟩,(a : Int) + (n : Int),0) := by
      unfold zhv;dsimp only;rw [show ((2 : Int) == 1) = false from rfl,yif,show ((2 : Int) == 2) = true from rfl,if_pos rfl,Int.toNat_natCast]
    rw [hb];unfold zn6;dsimp only;rw [show ((2 : Int) == 1) = false from rfl,yif,show ((2 : Int) == 2) = true from rfl,if_pos rfl,show ((2 : Int) == 4) = false from rfl];simp only [Bool.false_eq_true,if_false]
    by_cases hle : n ≤ (s.drop a).length
    · rw [ydf (by omega),yif,zbR hle,yob,yob,if_neg (show ¬ (((s.drop a).length : Int) < (n : Int)) by omega)]
      unfold zax;dsimp only;rw [yif,ydf (by omega),yif,if_neg (by decide),zan (by omega) (by omega),yob]
    · rw [ydt (by omega),if_pos rfl,yob,if_pos (show ((s.drop a).length : Int) < (n : Int) by omega)]
      rfl
  · have hb : zhv h ⟨3,0⟩ a (s.drop a) L en = (match szR L ((s.drop a).length + 1) 0 0 [] (s.drop a) with
        | .more => (zdB,0,6)
        | .bad _ e => (zdB,0,e)
        | .whole k o tr => (⟨h,⟨3,0⟩,o,tr⟩,((a + k : Nat) : Int),0)) := rfl
    rw [hb];have hfate := zy3 h0 (b := s.drop a) (by omega);show ((zn5 L (s.drop a)).bind fun r20 => if r20.At == 0 then some ⟨-1,0,r20.Body,r20.Trailers,r20.Line⟩ else some ⟨r20.At,r20.Err,r20.Body,r20.Trailers,0⟩).bind (fun r32 => zax s ⟨(a : Int),e,h⟩ (⟨3,0⟩,0) r32 false) = _
    cases hc : szR L ((s.drop a).length + 1) 0 0 [] (s.drop a) with
    | more =>
      rw [hc] at hfate;obtain ⟨f,hf,h1⟩ := hfate;rw [hf,yob,h1,if_pos (by decide),yob];rfl
    | bad q e' =>
      rw [hc] at hfate;obtain ⟨f,hf,h1,h2,h3,h4⟩ := hfate
      have hz : ((q : Int) == 0) = false := by rw [beq_eq_false_iff_ne]; omega
      rw [hf,yob,h1,hz,yif,yob,h2];unfold zax;dsimp only;rw [yif,ydf (by omega),yif,h4,ynf,if_pos rfl];rfl
    | whole q o tr =>
      rw [hc] at hfate;obtain ⟨f,hf,h1,h2,h3,h4,h5⟩ := hfate;have hk := zvz hc
      have hz : ((q : Int) == 0) = false := by rw [beq_eq_false_iff_ne]; omega
      rw [hf,yob,h1,hz,yif,yob,h2,h3,h4];unfold zax;dsimp only;rw [yif,ydf (by omega),yif,if_neg (by decide),zfc (by omega),yob]
  · show zax s ⟨(a : Int),e,h⟩ (⟨4,0⟩,0) ⟨-1,0,s.drop a,[],0⟩ en = some ⟨(if en then ((⟨h,⟨4,0⟩,s.drop a,[]⟩ : api_Message),((a + (s.drop a).length : Nat) : Int),(0 : Int)) else (zdB,0,6)).1,(if en then ((⟨h,⟨4,0⟩,s.drop a,[]⟩ : api_Message),((a + (s.drop a).length : Nat) : Int),(0 : Int)) else (zdB,0,6)).2.1,(if en then ((⟨h,⟨4,0⟩,s.drop a,[]⟩ : api_Message),((a + (s.drop a).length : Nat) : Int),(0 : Int)) else (zdB,0,6)).2.2⟩
    rw [hlen];cases en <;> rfl
def zl0 (k : Int) (me s : Str) (L : Int) (en : Bool) : api_Message × Int × Int := if decide (L < 0) || decide (65536 < L) then (zdB,0,1) else msgP k me s L en
theorem zzX {k : Int} (hk : k = 1 ∨ k = 2) (L : Int) (me s : Str) (en : Bool) (hs : s.length ≤ 4000) : zeB k me s L en = some (zl0 k me s L en) := by
 unfold zl0
 cases h : decide (L < 0) || decide (65536 < L) with
 | true =>
  unfold zeB;rw [zCU,Bool.or_assoc,h,Bool.or_true];rfl
 | false =>
  have h2 := Bool.or_eq_false_iff.1 h
  have h3 : ¬ L < 0 := by simpa using h2.1
  have h4 : ¬ 65536 < L := by simpa using h2.2
  exact zzZ hk (by omega) (by omega) me s en hs
theorem ztj {k : Int} (hk : k = 1 ∨ k = 2) (L : Int) (me s : Str) (en : Bool) (hs : s.length ≤ 4000) : zih k me s L en = some ⟨(zl0 k me s L en).1,(zl0 k me s L en).2.1,(zl0 k me s L en).2.2⟩ := by
 have h1 : zih k me s L en = zb3 k me s L en (decide (L < 0) || decide (65536 < L)) := by
  unfold zih
  rcases hk with rfl | rfl <;> cases decide (L < 0) <;> rfl
 rw [h1];unfold zl0
 cases h : decide (L < 0) || decide (65536 < L) with
 | true => rfl
 | false =>
  have h2 := Bool.or_eq_false_iff.1 h
  have h3 : ¬ L < 0 := by simpa using h2.1
  have h4 : ¬ 65536 < L := by simpa using h2.2
  unfold zb3 msgP;rw [yif,yif,zwX k L s (by omega),yob]
  cases hr : znm k L zx s [] 0 0 with
  | mk o f' =>
   cases o with
   | none => rfl
   | some z =>
    obtain ⟨z1,z2,z3,z4,_,z6⟩ := zoF zqD hr
    have hz : ((z.1 : Int) == 0) = false := by rw [beq_eq_false_iff_ne]; omega
    unfold ztc;dsimp only;rw [hz,yif]
    cases he : z.2.e == 0 with
    | false => rfl
    | true =>
     have hw : z.2.w = true := by rw [z3,he]
     have hh := z4 hw;simp only [yln,Nat.zero_add,Nat.sub_zero,yna] at hh z6;have hz0 : zx.Fields.length = 0 := rfl;obtain ⟨g3,g4,_⟩ := ztz hh (by rw [ylt]; omega);rw [ynt,yif,yif,ztE _ _ (by omega) (zfk (by decide) g4),yob]
     cases hfe : (zfC me z.2.g).2 == 0 with
     | false => rfl
     | true =>
      have hfr : zfC me z.2.g = ((zfC me z.2.g).1,0) := Prod.ext rfl (by simpa using hfe);rw [ynt,yif,yif,zB (by omega),yob];have := zDG (zmC hfr) (h := z.2.g) (s := s) (L := L) (en := en) (a := z.1) (me := me) (e := z.2.e) (by omega) (by omega) (by omega);rw [← this,hfr]
theorem zyd {s : Str} {x : api_Head} (h : zbB 1 s = (x,0)) : x.Code = 0 := by
 unfold zbB zrm at h
 split at h
 ·exact absurd (show (1 : Int) = 0 from congrArg Prod.snd h) (by decide)
 ·split at h
  ·exact absurd (show (24 : Int) = 0 from congrArg Prod.snd h) (by decide)
  ·rw [if_pos (by decide)] at h
   split at h
   ·exact absurd (show (26 : Int) = 0 from congrArg Prod.snd h) (by decide)
   ·split at h
    ·cases h; rfl
    ·exact absurd (show (20 : Int) = 0 from congrArg Prod.snd h) (by decide)
theorem zw2 {s : Str} {x : api_Head} (h : zbB 2 s = (x,0)) : x.Method = [] := by
 unfold zbB ztK at h
 split at h
 ·exact absurd (show (1 : Int) = 0 from congrArg Prod.snd h) (by decide)
 ·split at h
  ·exact absurd (show (24 : Int) = 0 from congrArg Prod.snd h) (by decide)
  ·rw [if_neg (by decide)] at h
   split at h
   ·exact absurd (show (26 : Int) = 0 from congrArg Prod.snd h) (by decide)
   ·split at h
    ·cases h; rfl
    ·exact absurd (show (20 : Int) = 0 from congrArg Prod.snd h) (by decide)
structure ReadOk (k : Int) (s : Str) (m : api_Message) (n : Int) : Prop where
 pos : 0 < n
 le : n ≤ (s.length : Int)
 fields : m.Head.Fields.length ≤ 100
 trailers : m.Trailers.length ≤ 100
 code : k = 1 → m.Head.Code = 0
 method : k = 2 → m.Head.Method = []
theorem zCp {h : api_Head} {fr : api_Frame} {a : Nat} {w : Str} {L : Int} {en : Bool} (hf : fr = ⟨1,0⟩ ∨ (∃ n : Nat,fr = ⟨2,(n : Int)⟩ ∧ n ≤ 1099511627776) ∨ fr = ⟨3,0⟩ ∨ fr = ⟨4,0⟩) (h0 : (zhv h fr a w L en).2.2 = 0) (hbad : ∀ q e,szR L (w.length + 1) 0 0 [] w = .bad q e → (e == 0) = false) :
    (a : Int) ≤ (zhv h fr a w L en).2.1 ∧ (zhv h fr a w L en).2.1 ≤ ((a + w.length : Nat) : Int) ∧ (zhv h fr a w L en).1.Head = h ∧ (zhv h fr a w L en).1.Trailers.length ≤ 100 := by
  rcases hf with rfl | ⟨n,rfl,hn⟩ | rfl | rfl
  · show (a : Int) ≤ (a : Int) ∧ (a : Int) ≤ ((a + w.length : Nat) : Int) ∧ h = h ∧ ([] : List api_Field).length ≤ 100
    exact ⟨by omega,by omega,rfl,by decide⟩
  · have hb : zhv h ⟨2,(n : Int)⟩ a w L en = if (w.length : Int) < (n : Int) then (zdB,0,6) else (⟨h,⟨2,(n : Int)⟩,w.take n,[]⟩,(a : Int) + (n : Int),0) := by
      unfold zhv;dsimp only;rw [show ((2 : Int) == 1) = false from rfl,yif,show ((2 : Int) == 2) = true from rfl,if_pos rfl,Int.toNat_natCast]
    rw [hb] at h0 ⊢
    split at h0
    · cases h0
    · rename_i hlt
      rw [if_neg hlt];exact ⟨by dsimp only; omega,by dsimp only; omega,rfl,yz _⟩
  · have hb : zhv h ⟨3,0⟩ a w L en = (match szR L (w.length + 1) 0 0 [] w with
        | .more => (zdB,0,6)
        | .bad _ e => (zdB,0,e)
        | .whole k o tr => (⟨h,⟨3,0⟩,o,tr⟩,((a + k : Nat) : Int),0)) := rfl
    rw [hb] at h0 ⊢
    cases hc : szR L (w.length + 1) 0 0 [] w with
    | more => rw [hc] at h0; cases h0
    | bad q e =>
      rw [hc] at h0;have := hbad q e hc;dsimp only at h0;rw [h0] at this; cases this
    | whole q o tr =>
      have h1 := zvz hc;have h2 := zx3 hc;exact ⟨by dsimp only; omega,by dsimp only; omega,rfl,h2⟩
  · have hb : zhv h ⟨4,0⟩ a w L en = if en then (⟨h,⟨4,0⟩,w,[]⟩,((a + w.length : Nat) : Int),0) else (zdB,0,6) := rfl
    rw [hb] at h0 ⊢
    cases en with
    | true =>
      rw [if_pos rfl];exact ⟨by dsimp only; omega,Int.le_refl _,rfl,yz _⟩
    | false => cases h0
theorem zw3 {k L : Int} (hk : k = 1 ∨ k = 2) {me s : Str} {en : Bool} (hs : s.length ≤ 4000) (h : (zl0 k me s L en).2.2 = 0) : ReadOk k s (zl0 k me s L en).1 (zl0 k me s L en).2.1 := by
 unfold zl0 at h ⊢
 cases hb : decide (L < 0) || decide (65536 < L) with
 | true => rw [hb] at h; cases h
 | false =>
  have hb2 := Bool.or_eq_false_iff.1 hb
  have hb3 : ¬ L < 0 := by simpa using hb2.1
  rw [hb,yif] at h;rw [yif];unfold msgP at h ⊢
  cases hr : znm k L zx s [] 0 0 with
  | mk o f' =>
   rw [hr] at h
   cases o with
   | none => cases h
   | some z =>
    obtain ⟨z1,z2,z3,z4,_,z6⟩ := zoF zqD hr;dsimp only at h ⊢
    cases he : z.2.e == 0 with
    | false => rw [he,ynf,if_pos rfl] at h; dsimp only at h; rw [h] at he; cases he
    | true =>
     have hw : z.2.w = true := by rw [z3,he]
     have hh := z4 hw;simp only [yln,Nat.zero_add,Nat.sub_zero,yna] at hh z6 z2;have hz0 : zx.Fields.length = 0 := rfl;obtain ⟨g3,g4,_,x,hx,x2,x5⟩ := ztz hh (by rw [ylt]; omega);rw [he,ynt,yif] at h;rw [ynt,yif]
     cases hfe : (zfC me z.2.g).2 == 0 with
     | false => rw [hfe,ynf,if_pos rfl] at h; dsimp only at h; rw [h] at hfe; cases hfe
     | true =>
      have hfr : zfC me z.2.g = ((zfC me z.2.g).1,0) := Prod.ext rfl (by simpa using hfe);rw [hfe,ynt,yif] at h;rw [ynt,yif];have hfate := zy3 (L := L) (by omega) (b := s.drop z.1) (by simp; omega);obtain ⟨b1,b2,b3,b4⟩ := zCp (zmC hfr) h (fun q e hq => by rw [hq] at hfate; obtain ⟨_,_,_,_,_,h4⟩ := hfate; exact h4);rw [yld] at b2;refine ⟨by omega,by omega,by rw [b3]; exact g3,b4,fun hk1 => ?_,fun hk2 => ?_⟩
      ·subst hk1; rw [b3, ← x5]; exact zyd hx
      ·subst hk2; rw [b3, ← x2]; exact zw2 hx
end Go.Dm
end
section
namespace Go.Dm
def zuG (m : api_Message) : Prop := m.Head.Fields.length ≤ 100 ∧ m.Trailers.length ≤ 100
def oneR (k L : Int) (en : Bool) (s : Str) (a : Nat) (R : api_Message × Int × Int) : api_Message × Int × stream_reader :=
 if !(R.2.2 == 0) then (R.1,R.2.2,⟨s,(a : Int),L,en⟩) else if (R.1.Head.Method == [67,79,78,78,69,67,84]) || (R.1.Head.Code == 101) then (zdB,20,⟨s,(a : Int),L,en⟩) else (R.1,0,⟨s,(a : Int) + R.2.1,L,en⟩)
theorem one_eq {k : Int} (hk : k = 1 ∨ k = 2) {s w me : Str} {a : Nat} {L : Int} {en : Bool} (hat : At s a w) (hs : s.length ≤ 4000) : zc9 ⟨s,(a : Int),L,en⟩ k me = some (oneR k L en s a (zl0 k me w L en)) := by
 have hl := hat.len;have hok := zw3 (L := L) hk (me := me) (s := w) (en := en) (by omega);unfold zc9 oneR;dsimp only;rw [zB hat.le,hat.drop,yob,zzX hk L me w en (by omega),yob];generalize zl0 k me w L en = R at hok ⊢
 cases he : R.2.2 == 0 with
 | false => rfl
 | true =>
  have hr := hok (by simpa using he);have h1 := hr.pos;have h2 := hr.le;rw [ynt,yif,yif];unfold zcO
  cases R.1.Head.Method == [67,79,78,78,69,67,84] with
  | true => rfl
  | false =>
   cases R.1.Head.Code == 101 with
   | true => rfl
   | false =>
    rw [yif,yif,zan (by dsimp only; omega) (by dsimp only; omega)];rfl
theorem zwm (m : api_Message) (h : zuG m) : zk3 m m = some true := by
 have h1 := h.1;have h2 := h.2;unfold zk3;rw [zuh _ _ (by omega),yob,zyf,if_pos rfl,ybs,if_pos rfl,ybs,if_pos rfl,zpf _ _ (by omega),yob,ybs];rfl
theorem zwn (l : List api_Message) (hl : l.length ≤ 5000) (h : ∀ m ∈ l,zuG m) : zk4 l l = some true := by
 have key : ∀ (n i : Nat),i ≤ l.length → l.length - i < n → zf6 l l n (i : Int) = some true := by
  intro n
  induction n with
  | zero => intro i _ h; omega
  | succ n ih =>
   intro i hi hn;rw [zf6]
   by_cases hlt : i < l.length
   ·have g : l[i]? = some l[i] := ygg hlt
    have hla : lAt l (i : Int) = some l[i] := by simp [lAt,g]
    rw [if_pos (by simp; omega),hla,yob,yob,zwm _ (h l[i] (ygm _)),yob,ynt,yif,zf (by omega),yob];exact ih (i + 1) (by omega) (by omega)
   ·rw [if_neg (by simp; omega)]
 unfold zk4;rw [ybs,ynt,yif];exact key fuel 0 (yz _) (zeN (by omega))
theorem zvm : zll = some true := by decide +kernel
theorem row_eq {L : Int} {en : Bool} {s me : Str} (hs : s.length ≤ 4000) (a0 : Nat) (h0 : a0 ≤ s.length) : ∀ (f : Nat) (w : Str) (b : Nat) (l : List api_Message) (n1 n2 : Nat),At s (a0 + b) w → w.length < f → w.length < n1 → w.length < n2 → l.length ≤ b → (∀ m ∈ l,zuG m) →
  (∃ e r,(e == 0) = false ∧ za0 me n1 l s ((a0 + b : Nat) : Int) L en = some ([],e,r) ∧ za1 me (s.drop a0) L en n2 l (b : Int) 0 = some ⟨[],0,e⟩) ∨
  (∃ (l' : List api_Message) (b' : Nat),za0 me n1 l s ((a0 + b : Nat) : Int) L en = some (l',0,⟨s,((a0 + b' : Nat) : Int),L,en⟩) ∧ za1 me (s.drop a0) L en n2 l (b : Int) 0 = some ⟨l',(b' : Int),0⟩ ∧ a0 + b' ≤ s.length ∧ l'.length ≤ b' ∧ ∀ m ∈ l',zuG m) := by
 intro f
 induction f with
 | zero => intro w b l n1 n2 _ h; omega
 | succ f ih =>
  intro w b l n1 n2 hat hf h1 h2 hl hfi;obtain ⟨n1,rfl⟩ : ∃ m,n1 = m + 1 := ⟨n1 - 1,by omega⟩;obtain ⟨n2,rfl⟩ : ∃ m,n2 = m + 1 := ⟨n2 - 1,by omega⟩;have hln := hat.len;have hok := zw3 (k := 2) (L := L) (.inr rfl) (me := me) (s := w) (en := en) (by omega)
  have hd : (s.drop a0).drop b = w := by rw [List.drop_drop]; exact hat.drop
  rw [za0,one_eq (.inr rfl) hat hs,yob,za1,zB (by simp; omega),hd,yob,ztj (.inr rfl) L me w en (by omega),yob];generalize zl0 2 me w L en = R at hok ⊢;unfold oneR
  cases he : R.2.2 == 0 with
  | false =>
   dsimp only;rw [ynf,if_pos rfl,yif];dsimp only;rw [he,ynf,if_pos rfl];refine .inl ⟨_,_,he,rfl,?_⟩;unfold zd8 zd7;rw [yif];dsimp only;rw [he,ynf,if_pos rfl]
  | true =>
   have h0' : R.2.2 = 0 := by simpa using he
   have hr := hok h0';have hp := hr.pos;have hle := hr.le
   have hmeth : (R.1.Head.Method == [67,79,78,78,69,67,84]) = false := by rw [hr.method rfl]; rfl
   dsimp only;rw [ynt,yif,if_pos rfl,hmeth,Bool.false_or]
   cases hc : R.1.Head.Code == 101 with
   | true => exact .inl ⟨20,_,rfl,rfl,rfl⟩
   | false =>
    obtain ⟨x,hx⟩ : ∃ x : Nat,R.2.1 = (x : Int) := ⟨R.2.1.toNat,by omega⟩
    have hfi' : ∀ m ∈ l ++ [R.1],zuG m := by
     intro m hm
     rcases List.mem_append.1 hm with hm | hm
     ·exact hfi m hm
     ·rw [List.mem_singleton] at hm; subst hm; exact ⟨hr.fields,hr.trailers⟩
    have hlen' : (l ++ [R.1]).length ≤ b + x := by rw [yla,List.length_singleton]; omega
    have e1 : ((a0 + b : Nat) : Int) + (x : Int) = ((a0 + (b + x) : Nat) : Int) := by omega
    rw [yif];unfold zd8 zd7;dsimp only;rw [show (!((0 : Int) == 0)) = false from rfl,yif,if_pos (zbb (by omega) (by omega)),yif,h0',show (!((0 : Int) == 0)) = false from rfl,yif,if_pos (zbb (by omega) (by omega)),hx,zfc (by omega),yob,e1]
    cases h200 : decide (200 ≤ R.1.Head.Code) with
    | true => exact .inr ⟨l ++ [R.1],b + x,rfl,rfl,by omega,hlen',hfi'⟩
    | false =>
     have hnx : At s (a0 + (b + x)) (w.drop x) := by
      have := hat.next x (by omega);rw [Nat.add_assoc] at this;exact this
     exact ih (w.drop x) (b + x) (l ++ [R.1]) n1 n2 hnx (by rw [yld]; omega) (by rw [yld]; omega) (by rw [yld]; omega) hlen' hfi'
def zm0 (L : Int) (en : Bool) (s : Str) : List Str → Nat → List (List api_Message) × Int × Int
 | [],a => ([],(a : Int),0)
 | m :: ms,a => match zhm m (s.drop a) L en with
  | none => ([],(a : Int),0)
  | some r => if r.Err == 0 then (r.L :: (zm0 L en s ms (a + r.N.toNat)).1,(zm0 L en s ms (a + r.N.toNat)).2) else ([],(a : Int),r.Err)
theorem zuH {L : Int} {en : Bool} {s me : Str} (hs : s.length ≤ 4000) {a : Nat} (ha : a ≤ s.length) :
  (∃ e r,(e == 0) = false ∧ zer ⟨s,(a : Int),L,en⟩ me = some ([],e,r) ∧ zhm me (s.drop a) L en = some ⟨[],0,e⟩) ∨
  (∃ (l' : List api_Message) (b : Nat),zer ⟨s,(a : Int),L,en⟩ me = some (l',0,⟨s,((a + b : Nat) : Int),L,en⟩) ∧ zhm me (s.drop a) L en = some ⟨l',(b : Int),0⟩ ∧ a + b ≤ s.length ∧ l'.length ≤ b ∧ ∀ m ∈ l',zuG m) :=
 row_eq hs a ha (s.length + 1) (s.drop a) 0 [] fuel fuel ⟨ha,rfl⟩ (by rw [yld]; omega) (zeN (by rw [yld]; omega)) (zeN (by rw [yld]; omega)) (Nat.le_refl _) (fun m hm => by cases hm)
theorem zAq {L : Int} {en : Bool} {s : Str} {ms : List Str} (hs : s.length ≤ 4000) (hm : ms.length ≤ 8) : ∀ (n i : Nat) (out : List (List api_Message)) (a : Nat),i ≤ ms.length → ms.length - i < n → out.length = i → a ≤ s.length →
  zb8 ms n out s (a : Int) L en (i : Int) = some (out ++ (zm0 L en s (ms.drop i) a).1,(zm0 L en s (ms.drop i) a).2.1,(zm0 L en s (ms.drop i) a).2.2) := by
 intro n
 induction n with
 | zero => intro i out a _ h; omega
 | succ n ih =>
  intro i out a hi hn ho ha;rw [zb8]
  by_cases hlt : i < ms.length
  ·have g : ms[i]? = some ms[i] := ygg hlt;rw [ydt (by omega),if_pos rfl,zaF,g,yob,ydg hlt,zm0]
   rcases zuH (L := L) (en := en) (me := ms[i]) hs ha with ⟨e,r,h1,h2,h3⟩ | ⟨l',b,h2,h3,h4,h5,h6⟩
   ·rw [h2,yob,h3];dsimp only;rw [h1,ynf,if_pos rfl,yif,yan]
   ·rw [h2,yob,h3];dsimp only;rw [show (!((0 : Int) == 0)) = false from rfl,yif,if_pos (zbb (by omega) (by omega)),zf (by omega),yob,if_pos (by decide),Int.toNat_natCast,ih (i + 1) (out ++ [l']) (a + b) (by omega) (by omega) (by rw [yla,List.length_singleton,ho]) h4,yaa];rfl
  ·rw [ydf (by omega),yif,List.drop_eq_nil_of_le (by omega),zm0,yan];rfl
theorem zAr {en : Bool} {s : Str} {ms : List Str} (hs : s.length ≤ 4000) (hm : ms.length ≤ 8) (q : List (List api_Message) × Int × Int) : ∀ (n i : Nat) (out : List (List api_Message)) (a : Nat),i ≤ ms.length → ms.length - i < n → out.length = i → a ≤ s.length →
  q = (out ++ (zm0 2000 en s (ms.drop i) a).1,(zm0 2000 en s (ms.drop i) a).2.1,(zm0 2000 en s (ms.drop i) a).2.2) → zV en s ms q n (a : Int) (i : Int) = some true := by
 intro n
 induction n with
 | zero => intro i out a _ h; omega
 | succ n ih =>
  intro i out a hi hn ho ha hq;rw [zV]
  by_cases hlt : i < ms.length
  ·have g : ms[i]? = some ms[i] := ygg hlt;rw [ydt (by omega),if_pos rfl,zaF,g,yob,zB ha,yob];rw [ydg hlt,zm0] at hq
   rcases zuH (L := 2000) (en := en) (me := ms[i]) hs ha with ⟨e,r,h1,_,h3⟩ | ⟨l',b,_,h3,h4,h5,h6⟩
   ·rw [h3] at hq ⊢;dsimp only at hq;rw [h1,yif,yan] at hq;subst hq;rw [yob];dsimp only;rw [h1,ynf,if_pos rfl,ho,ybs,if_pos rfl,ybs,if_pos rfl,ybs];rfl
   ·rw [h3] at hq ⊢;dsimp only at hq;rw [if_pos (by decide),Int.toNat_natCast] at hq
    have hq1 : q.1[i]? = some l' := by rw [hq]; dsimp only; rw [List.getElem?_append_right (by omega),ho,Nat.sub_self]; rfl
    have hql : i < q.1.length := (List.getElem?_eq_some_iff.1 hq1).1;rw [yob];dsimp only;rw [show (!((0 : Int) == 0)) = false from rfl,yif,ydf (by omega),yif,zaF,hq1,yob,zwn l' (by omega) h6,yob];unfold zbv;rw [ynt,yif,zfc (by omega),yob,zf (by omega),yob];refine ih (i + 1) (out ++ [l']) (a + b) (by omega) (by omega) (by rw [yla,List.length_singleton,ho]) h4 ?_;rw [hq,yaa];rfl
  ·rw [List.drop_eq_nil_of_le (by omega),zm0,yan] at hq;subst hq
   have hil : i = ms.length := by omega
   dsimp only;rw [ydf (by omega),yif,ho,hil,ybs,if_pos rfl,ybs,if_pos rfl];rfl
theorem zns (methods : List Str) (s : Str) (ended : Bool) (_ : methods.length < 1000000000) : zdW methods s ended = some true := by
 unfold zdW;have e4 : sTo s (min (s.length : Int) 4000) = some (s.take 4000) := zDW s 4000
 have e8 : lTo methods (min (methods.length : Int) 8) = some (methods.take 8) := by
  unfold lTo;rw [if_pos (by omega)]
  congr 1
  by_cases h : methods.length ≤ 8
  ·rw [show (min (methods.length : Int) 8).toNat = methods.length by omega,List.take_length,List.take_of_length_le h]
  ·rw [show (min (methods.length : Int) 8).toNat = 8 by omega]
 have h4 : (s.take 4000).length ≤ 4000 := by simp; omega
 have h8 : (methods.take 8).length ≤ 8 := by simp; omega
 rw [zvm,yob,ynt,yif,e4,yob,e8,yob];generalize s.take 4000 = s at h4 ⊢;generalize methods.take 8 = ms at h8 ⊢;have e1 : zhl ms s 2000 ended = _ := zAq h4 h8 fuel 0 [] 0 (yz _) (zeN (by omega)) rfl (yz _);rw [e1,yob];exact zAr h4 h8 _ fuel 0 [] 0 (yz _) (zeN (by omega)) rfl (yz _) rfl
end Go.Dm
end
