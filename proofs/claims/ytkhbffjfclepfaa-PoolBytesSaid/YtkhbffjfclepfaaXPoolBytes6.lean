/- Part 7 of 7 of what the row of PoolBytes stands on: contracts over the given program's functions, the plain law, the row; no condition beyond those that each theorem states. -/
import Derived.Test.YtkhbffjfclepfaaXPoolBytes5
section
namespace Go.Proofs.Ytkhbffjfclepfaa.Pure
open Go.RowKit Go.Proofs.Ytkhbffjfclepfaa.Q Go.Proofs.YtkhbffjfclepfaaW.PrintWords Go.Proofs.YtkhbffjfclepfaaW.PrintLast Go.Proofs.YtkhbffjfclepfaaW.PrintMore
set_option linter.unusedVariables false
set_option linter.unusedSimpArgs false
structure Fit (S : List Nat) : Prop where
 lt : ∀ s ∈ S,s < 2 ^ 32
 len : S.length ≤ 1000
theorem Good.fit {S : List Nat} (h : Good S) : Fit S:=⟨fun s hs => by have:=(h.each s hs).2;omega,by have:=h.len4;omega⟩
theorem d_E {S pre suf : List Nat} {x : Nat} (h : S = pre ++ x :: suf) : rd (up S) (pre.length : Int) = (x : Int):=by rw [j_l];subst h;simp
theorem d_U {S pre suf : List Nat} {x : Nat} (h : S = pre ++ x :: suf) : pre.length < S.length:=by subst h;simp
theorem d_X {S pre suf : List Nat} {x : Nat} (h : S = pre ++ x :: suf) : x ∈ S:=by subst h;simp
theorem d_Y {S pre : List Nat} (h : S = pre ++ []) : pre.length = S.length:=by subst h;simp
theorem c_u {S pre suf : List Nat} {x : Nat} (h : S = pre ++ x :: suf) : S = (pre ++ [x]) ++ suf:=by simp [h]
theorem c_t {pre : List Nat} {x : Nat} (h : pre.length < 1000) : wrap64 ((pre.length : Int) + 1) = ((pre ++ [x]).length : Int):=by rw [c_J pre.length (by omega)];simp
def ckl : Bool → Nat → List Nat → Bool
 | ok,A,[] => ok && (A &&& ((A + 1) % 4294967296) == 0)
 | ok,A,x :: xs => ckl (ok && (x != 0) && decide (x < 256) && (x &&& A == 0)) (A ||| x) xs
theorem f_M (S : List Nat) (hS : Fit S) : ∀ (suf pre : List Nat) (ok : Bool) (A : Nat),S = pre ++ suf → A < 2 ^ 32 → Ev (fun k => a_x.l0 k ok (A : Int) (up S) ((up S).length : Int) (pre.length : Int)) (if ckl ok A suf = true then 0 else 180)
 | [],pre,ok,A,h,hA => ⟨1,fun k hk => by
  obtain ⟨k,rfl⟩ : ∃ k',k = k' + 1:=⟨k - 1,by omega⟩
  show a_x.l0 (k + 1) _ _ _ _ _ = _
  have e : Go.bits .and .u32 (A : Int) (((A : Int) + 1) % 4294967296) = ((A &&& ((A + 1) % 4294967296) : Nat) : Int):=by
   rw [← i_t hA (show (A + 1) % 4294967296 < 2 ^ 32 by omega)]
   rfl
  rw [a_x.l0,if_neg (by rw [a_K,d_Y h];omega),e]
  unfold ckl
  cases ok
  ·simp
  ·rw [if_pos rfl]
   by_cases hz : A &&& ((A + 1) % 4294967296) = 0
   ·rw [hz];simp
   ·rw [if_neg (by omega),if_neg (by simpa using hz)]⟩
 | x :: suf,pre,ok,A,h,hA => by
  have hx:=hS.lt x (d_X h)
  have hlen:=hS.len
  have hlt:=d_U h
  have hor : A ||| x < 2 ^ 32:=Nat.or_lt_two_pow hA hx
  obtain ⟨K,hK⟩:=f_M S hS suf (pre ++ [x]) (ok && (x != 0) && decide (x < 256) && (x &&& A == 0)) (A ||| x) (c_u h) hor
  refine ⟨K + 1,fun k hk => ?_⟩
  obtain ⟨k,rfl⟩ : ∃ k',k = k' + 1:=⟨k - 1,by omega⟩
  have hk' : a_x.l0 k (ok && (x != 0) && decide (x < 256) && (x &&& A == 0)) ((A ||| x : Nat) : Int) (up S) ((up S).length : Int) ((pre ++ [x]).length : Int) = some (if ckl (ok && (x != 0) && decide (x < 256) && (x &&& A == 0)) (A ||| x) suf = true then 0 else 180):=hK k (by omega)
  show a_x.l0 (k + 1) _ _ _ _ _ = _
  rw [a_x.l0,if_pos (by rw [a_K];omega),if_pos (by omega),if_pos (by rw [a_K];omega),d_E h,or_n hA hx,i_t hx hA,c_t (x:=x) (by omega),h_s x hx,Option.bind_some]
  show _ = some (if ckl (ok && (x != 0) && decide (x < 256) && (x &&& A == 0)) (A ||| x) suf = true then 0 else 180)
  rw [← hk']
  cases ok
  ·rw [if_neg (by simp)];simp
  ·rw [if_pos rfl]
   by_cases h0 : x = 0
   ·subst h0;rw [if_pos (by rfl)];simp
   ·rw [if_neg (by omega)]
    have e1 : (x != 0) = true:=by simp [h0]
    by_cases h256 : x < 256
    ·rw [if_pos h256,if_pos rfl,e1,decide_eq_true h256]
     have e2 : ((((x &&& A : Nat) : Int)) == 0) = ((x &&& A) == 0):=by
      cases hz : x &&& A with
      | zero => rfl
      | succ n => simp;omega
     rw [e2]
     simp
    ·rw [if_neg h256,if_neg (by decide),decide_eq_false h256]
     simp
theorem h_V (ok : Bool) (A : Nat) (S : List Nat) : ckl ok A S = true ↔ ok = true ∧ (∀ s ∈ S,s ≠ 0 ∧ s < 256) ∧ (∀ c,(if A.testBit c then 1 else 0) + cnt S c ≤ 1) ∧ (S.foldl (· ||| ·) A) &&& ((S.foldl (· ||| ·) A + 1) % 4294967296) = 0:=by
 induction S generalizing ok A with
 | nil =>
  unfold ckl
  simp only [Bool.and_eq_true,beq_iff_eq,List.foldl_nil,g_o]
  constructor
  ·rintro ⟨h1,h2⟩
   exact ⟨h1,by simp,fun c => by split <;> omega,h2⟩
  rintro ⟨h1,_,_,h2⟩
  exact ⟨h1,h2⟩
 | cons x S ih =>
  rw [ckl,ih,List.foldl_cons]
  simp only [Bool.and_eq_true,beq_iff_eq,bne_iff_ne,decide_eq_true_eq,e_r,List.forall_mem_cons]
  constructor
  ·rintro ⟨⟨⟨⟨h1,h2⟩,h3⟩,h4⟩,h5,h6,h7⟩
   refine ⟨h1,⟨⟨h2,h3⟩,h5⟩,fun c => ?_,h7⟩
   have h8:=h6 c
   have h9:=e_t.1 h4 c
   rw [Nat.testBit_or] at h8
   cases hx : x.testBit c <;> cases ha : A.testBit c <;> simp [hx,ha] at h8 h9 ⊢ <;> omega
  rintro ⟨h1,⟨⟨h2,h3⟩,h5⟩,h6,h7⟩
  refine ⟨⟨⟨⟨h1,h2⟩,h3⟩,e_t.2 fun c hc => ?_⟩,h5,fun c => ?_,h7⟩
  ·have h8:=h6 c
   cases ha : A.testBit c
   ·rfl
   simp [hc,ha] at h8;omega
  have h8:=h6 c
  rw [Nat.testBit_or]
  cases hx : x.testBit c <;> cases ha : A.testBit c <;> simp [hx,ha] at h8 ⊢ <;> omega
theorem h_R {S : List Nat} (hS : Fit S) : Ev (fun k => a_x.f k (up S)) (if gd S = true then 0 else 180):=by
 have hl:=hS.len
 have key : ∀ ok : Bool,Ev (fun k => a_x.j0 k ok (up S)) (if ckl ok 0 S = true then 0 else 180):=fun ok => by
  refine Ev.step (f:=fun k => a_x.l0 k ok 0 (up S) ((up S).length : Int) 0) (fun k => by rw [a_x.j0]) ?_
  have:=f_M S hS S [] ok 0 rfl (by decide)
  simpa using this
 have e : gd S = ckl (decide (0 < S.length) && decide (S.length ≤ 4)) 0 S:=by
  rw [Bool.eq_iff_iff,d_z,h_V,h_n]
  simp
  intro _ _
  omega
 rw [e]
 refine Ev.congr (f:=fun k => a_x.j0 k (decide (0 < S.length) && decide (S.length ≤ 4)) (up S)) (fun k => ?_) (key _)
 unfold a_x.f
 rw [a_K]
 by_cases h0 : 0 < S.length
 rotate_left
 ·rw [if_neg (by omega),decide_eq_false h0,Bool.false_and]
 rw [if_pos (by omega),decide_eq_true h0,Bool.true_and]
 congr 1
 by_cases h4 : S.length ≤ 4
 ·rw [decide_eq_true h4,decide_eq_true (by omega)]
 rw [decide_eq_false h4,decide_eq_false (by omega)]
def rof (a : Int) : List Nat → Nat → Int → Nat → Int × Bool
 | [],_,x,n => if n = 1 then (x,true) else (0,false)
 | s :: S,i,x,n => if hb s a then rof a S (i + 1) (i : Int) (n + 1) else rof a S (i + 1) x n
theorem f_8 (a : Int) (S : List Nat) (hS : S.length ≤ 1000) : ∀ suf pre x n,S = pre ++ suf → n ≤ pre.length → Ev (fun k => a_u.l0 k a x (n : Int) (up S) ((up S).length : Int) (pre.length : Int)) (rof a suf pre.length x n)
 | [],pre,x,n,h,hn => ⟨1,fun k hk => by
  obtain ⟨k,rfl⟩ : ∃ k',k = k' + 1:=⟨k - 1,by omega⟩
  show a_u.l0 (k + 1) _ _ _ _ _ _ = _
  rw [a_u.l0,if_neg (by rw [a_K,d_Y h];omega)]
  unfold rof
  by_cases h1 : n = 1
  ·rw [if_pos (by omega),if_pos h1]
  ·rw [if_neg (by omega),if_neg h1]⟩
 | s :: suf,pre,x,n,h,hn => by
  have hlt:=d_U h
  by_cases hh : hb s a = true
  ·obtain ⟨K,hK⟩:=f_8 a S hS suf (pre ++ [s]) (pre.length : Int) (n + 1) (c_u h) (by simp;omega)
   refine ⟨K + 1,fun k hk => ?_⟩
   obtain ⟨k,rfl⟩ : ∃ k',k = k' + 1:=⟨k - 1,by omega⟩
   have hk' : a_u.l0 k a (pre.length : Int) ((n + 1 : Nat) : Int) (up S) ((up S).length : Int) ((pre ++ [s]).length : Int) = some (rof a suf (pre ++ [s]).length (pre.length : Int) (n + 1)):=hK k (by omega)
   show a_u.l0 (k + 1) _ _ _ _ _ _ = _
   rw [a_u.l0,if_pos (by rw [a_K];omega),if_pos (by omega),if_pos (by rw [a_K];omega),d_E h,f_T,Option.bind_some,if_pos hh,c_J n (by omega),c_t (x:=s) (by omega),hk',rof,if_pos hh]
   simp
  ·obtain ⟨K,hK⟩:=f_8 a S hS suf (pre ++ [s]) x n (c_u h) (by simp;omega)
   refine ⟨K + 1,fun k hk => ?_⟩
   obtain ⟨k,rfl⟩ : ∃ k',k = k' + 1:=⟨k - 1,by omega⟩
   have hk' : a_u.l0 k a x (n : Int) (up S) ((up S).length : Int) ((pre ++ [s]).length : Int) = some (rof a suf (pre ++ [s]).length x n):=hK k (by omega)
   show a_u.l0 (k + 1) _ _ _ _ _ _ = _
   rw [a_u.l0,if_pos (by rw [a_K];omega),if_pos (by omega),if_pos (by rw [a_K];omega),d_E h,f_T,Option.bind_some,if_neg hh,c_t (x:=s) (by omega),hk',rof,if_neg hh]
   simp
theorem j_q (a : Int) {S : List Nat} (hS : S.length ≤ 1000) : Ev (fun k => a_u.f k (up S) a) (rof a S 0 0 0):=by
 have:=f_8 a S hS S [] 0 0 rfl (Nat.le_refl _)
 simpa [a_u.f] using this
theorem f_b (a : Int) : ∀ (S : List Nat) i x n,(rof a S i x n).2 = decide (n + S.countP (hb · a) = 1)
 | [],i,x,n => by
  unfold rof
  by_cases h : n = 1
  ·simp [h]
  ·simp [h]
 | s :: S,i,x,n => by
  rw [rof,List.countP_cons]
  by_cases h : hb s a = true
  ·rw [if_pos h,if_pos h,f_b a S]
   rw [show n + 1 + S.countP (hb · a) = n + (S.countP (hb · a) + 1) by omega]
  ·rw [if_neg h,if_neg h,f_b a S]
   simp
theorem f_U (S : List Nat) (c : Nat) (h : c < 8) : S.countP (hb · (c : Int)) = cnt S c:=by
 unfold cnt
 congr 1
 funext s
 exact h_q s c h
theorem g_d (S : List Nat) (a : Int) (h : a < 0 ∨ 8 ≤ a) : S.countP (hb · a) = 0:=by
 rw [List.countP_eq_zero]
 intro s _
 simp [h_J s a h]
def e_Q (S : List Nat) : Nat → Nat → Bool
 | 0,_ => true
 | m + 1,i => decide (S.countP (hb · (i : Int)) = 1) && e_Q S m (i + 1)
theorem e_V (S : List Nat) : ∀ m i,e_Q S m i = true ↔ ∀ c,i ≤ c → c < i + m → S.countP (hb · (c : Int)) = 1
 | 0,i => by
  simp only [e_Q,true_iff]
  intro c h1 h2
  omega
 | m + 1,i => by
  rw [e_Q,Bool.and_eq_true,decide_eq_true_eq,e_V S m (i + 1)]
  constructor
  ·rintro ⟨h1,g⟩ c hc1 hc2
   by_cases hci : c = i
   ·subst hci;exact h1
   ·exact g c (by omega) (by omega)
  ·intro g
   exact ⟨g i (Nat.le_refl _) (by omega),fun c hc1 hc2 => g c (by omega) (by omega)⟩
theorem f_R (S : List Nat) (hS : S.length ≤ 1000) (N : Nat) (hN : N ≤ 10000) : ∀ m i,i + m = N → Ev (fun k => a_h.l1 k (N : Int) (i : Int) (up S)) (e_Q S m i)
 | 0,i,h => ⟨1,fun k hk => by
  obtain ⟨k,rfl⟩ : ∃ k',k = k' + 1:=⟨k - 1,by omega⟩
  show a_h.l1 (k + 1) _ _ _ = _
  rw [a_h.l1,if_neg (by omega)]
  rfl⟩
 | m + 1,i,h => by
  obtain ⟨K,hK⟩:=f_R S hS N hN m (i + 1) (by omega)
  obtain ⟨K2,hK2⟩:=j_q (i : Int) hS
  refine ⟨K + K2 + 1,fun k hk => ?_⟩
  obtain ⟨k,rfl⟩ : ∃ k',k = k' + 1:=⟨k - 1,by omega⟩
  have hk' : a_h.l1 k (N : Int) ((i + 1 : Nat) : Int) (up S) = some (e_Q S m (i + 1)):=hK k (by omega)
  have hk2 : a_u.f k (up S) (i : Int) = some (rof (i : Int) S 0 0 0):=hK2 k (by omega)
  show a_h.l1 (k + 1) _ _ _ = _
  rw [a_h.l1,if_pos (by omega),hk2,Option.bind_some,f_b,c_J i (by omega),hk',Nat.zero_add,e_Q]
  by_cases h1 : S.countP (hb · (i : Int)) = 1
  ·rw [if_pos (decide_eq_true h1),decide_eq_true h1,Bool.true_and]
  ·rw [if_neg (by simpa using h1),decide_eq_false h1,Bool.false_and]
def okS (S : List Nat) : Bool:=S.all fun s => s != 0 && decide (s < 256)
theorem h_W (S : List Nat) : okS S = true ↔ ∀ s ∈ S,s ≠ 0 ∧ s < 256:=by simp [okS,List.all_eq_true]
theorem f_J (S : List Nat) (hS : S.length ≤ 1000) : ∀ (suf pre : List Nat) (N : Nat) (r : Bool),S = pre ++ suf → N ≤ 8 * pre.length → Ev (fun k => a_h.l1 k ((N + (suf.map pc).sum : Nat) : Int) 0 (up S)) r → Ev (fun k => a_h.l0 k (N : Int) (up S) ((up S).length : Int) (pre.length : Int) (up S)) (okS suf && r)
 | [],pre,N,r,h,hN,hr => by
  obtain ⟨K,hK⟩:=hr
  refine ⟨K + 1,fun k hk => ?_⟩
  obtain ⟨k,rfl⟩ : ∃ k',k = k' + 1:=⟨k - 1,by omega⟩
  have hk' : a_h.l1 k (N : Int) 0 (up S) = some r:=hK k (by omega)
  show a_h.l0 (k + 1) _ _ _ _ _ = _
  rw [a_h.l0,if_neg (by rw [a_K,d_Y h];omega),hk']
  rfl
 | s :: suf,pre,N,r,h,hN,hr => by
  have hlt:=d_U h
  have hp8 : pc s ≤ 8:=by have:=f_N s;rwa [c_3] at this
  have hr' : Ev (fun k => a_h.l1 k ((N + pc s + (suf.map pc).sum : Nat) : Int) 0 (up S)) r:=by
   have e : N + pc s + (suf.map pc).sum = N + ((s :: suf).map pc).sum:=by simp;omega
   rw [e];exact hr
  obtain ⟨K,hK⟩:=f_J S hS suf (pre ++ [s]) (N + pc s) r (c_u h) (by simp;omega) hr'
  obtain ⟨K2,hK2⟩:=i_a s
  refine ⟨K + K2 + 1,fun k hk => ?_⟩
  obtain ⟨k,rfl⟩ : ∃ k',k = k' + 1:=⟨k - 1,by omega⟩
  have hk' : a_h.l0 k ((N + pc s : Nat) : Int) (up S) ((up S).length : Int) ((pre ++ [s]).length : Int) (up S) = some (okS suf && r):=hK k (by omega)
  have hk2 : a_p.f k (s : Int) = some (up (lst s 8 0)):=hK2 k (by omega)
  show a_h.l0 (k + 1) _ _ _ _ _ = _
  rw [a_h.l0,if_pos (by rw [a_K];omega),if_pos (by omega),if_pos (by rw [a_K];omega),d_E h,g_a,Option.bind_some]
  have eo : okS (s :: suf) = ((s != 0 && decide (s < 256)) && okS suf):=rfl
  rw [eo]
  by_cases h256 : s < 256
  ·rw [if_pos (decide_eq_true h256)]
   by_cases h0 : s = 0
   ·rw [if_pos (by omega)]
    simp [h0]
   ·rw [if_neg (by omega),hk2,Option.bind_some,a_K,c_3,e_p _ (by omega) (by omega),c_t (x:=s) (by omega),show (N : Int) + (pc s : Int) = ((N + pc s : Nat) : Int) by simp,hk']
    rw [show (s != 0) = true by simp [h0],decide_eq_true h256]
    simp
  ·rw [if_neg (by simpa using h256)]
   simp [h256]
theorem g_p {S : List Nat} (hS : Fit S) : Ev (fun k => a_h.f k (up S)) (gd S):=by
 have hl:=hS.len
 by_cases hlen : 1 ≤ S.length ∧ S.length ≤ 4
 rotate_left
 ·have e : gd S = false:=h_l.2 fun h => hlen ⟨h.len1,h.len4⟩
  rw [e]
  have key : Ev (fun k => a_h.j0 k true (up S)) false:=Ev.step (f:=fun _ => some false) (fun k => by rw [a_h.j0,if_pos rfl]) (Ev.now _)
  refine Ev.congr (f:=fun k => a_h.j0 k true (up S)) (fun k => ?_) key
  unfold a_h.f
  rw [a_K]
  by_cases h1 : S.length < 1
  ·rw [if_pos (by omega)]
  rw [if_neg (by omega),decide_eq_true (by omega)]
 have hsum : (S.map pc).sum ≤ 8 * S.length:=by
  clear hlen hl hS
  induction S with
  | nil => simp
  | cons s S ih =>
   have hp8 : pc s ≤ 8:=by have:=f_N s;rwa [c_3] at this
   simp
   omega
 have h1:=f_R S hl (S.map pc).sum (by omega) (S.map pc).sum 0 (by omega)
 have h0:=f_J S hl S [] 0 _ rfl (Nat.le_refl _) (by simpa using h1)
 have e : gd S = (okS S && e_Q S (S.map pc).sum 0):=by
  rw [Bool.eq_iff_iff,d_z,Bool.and_eq_true,h_W,e_V,g_m]
  constructor
  ·rintro ⟨_,he,hc⟩
   refine ⟨he,fun c _ h2 => ?_⟩
   have:=hc c (by omega)
   rw [f_U S c this.1]
   exact this.2
  rintro ⟨he,hc⟩
  refine ⟨hlen,he,fun c h2 => ?_⟩
  have:=hc c (Nat.zero_le _) (by omega)
  by_cases h8 : c < 8
  ·rw [f_U S c h8] at this
   exact ⟨h8,this⟩
  rw [g_d S (c : Int) (by omega)] at this
  cases this
 rw [e]
 refine Ev.congr (f:=fun k => a_h.j0 k false (up S)) (fun k => by unfold a_h.f;rw [a_K,if_neg (by omega),decide_eq_false (by omega)]) ?_
 refine Ev.step (f:=fun k => a_h.l0 k 0 (up S) ((up S).length : Int) 0 (up S)) (fun k => ?_) (by simpa using h0)
 rw [a_h.j0,if_neg (by simp)]
end Go.Proofs.Ytkhbffjfclepfaa.Pure
end
section
namespace Go.Proofs.Ytkhbffjfclepfaa.Pure
open Go.RowKit Go.Proofs.Ytkhbffjfclepfaa.Q Go.Proofs.YtkhbffjfclepfaaW.PrintWords Go.Proofs.YtkhbffjfclepfaaW.PrintLast Go.Proofs.YtkhbffjfclepfaaW.PrintMore
set_option linter.unusedVariables false
set_option linter.unusedSimpArgs false
theorem h_z (l : List Int) (h : l.length ≤ 1000) : a_7.f l = some l:=by
 unfold a_7.f
 simp only [Option.bind_some]
 rw [if_pos (by simp;omega)]
 simp
theorem g_k (l : List Int) : a_T.f l = some (l.take 12):=by
 unfold a_T.f
 have hm : mn (l.length : Int) 12 = ((min l.length 12 : Nat) : Int):=by unfold mn;split <;> omega
 rw [hm,if_pos (by omega),if_pos (by omega)]
 have e : l.take ((min l.length 12 : Nat) : Int).toNat = l.take 12:=by
  rw [show (((min l.length 12 : Nat) : Int)).toNat = min l.length 12 by simp]
  by_cases h : l.length ≤ 12
  ·rw [Nat.min_eq_left h,List.take_of_length_le (Nat.le_refl _),List.take_of_length_le h]
  rw [Nat.min_eq_right (by omega)]
 rw [e,h_z _ (by rw [List.length_take];omega)]
 rfl
def gt (S : List Nat) (a : Int) : Nat:=S.getD a.toNat 0
theorem uniq {p : Nat → Bool} : ∀ (S : List Nat) (i j : Nat) (hi : i < S.length) (hj : j < S.length),S.countP p ≤ 1 → p S[i] = true → p S[j] = true → i = j
 | [],i,j,hi,hj,_,_,_ => by simp at hi
 | s :: S,0,0,hi,hj,_,_,_ => rfl
 | s :: S,0,j + 1,hi,hj,h,h1,h2 => by
  rw [List.countP_cons] at h
  simp at h1 h2
  have : 0 < S.countP p:=List.countP_pos_iff.2 ⟨_,List.getElem_mem _,h2⟩
  rw [if_pos h1] at h
  omega
 | s :: S,i + 1,0,hi,hj,h,h1,h2 => by
  rw [List.countP_cons] at h
  simp at h1 h2
  have : 0 < S.countP p:=List.countP_pos_iff.2 ⟨_,List.getElem_mem _,h1⟩
  rw [if_pos h2] at h
  omega
 | s :: S,i + 1,j + 1,hi,hj,h,h1,h2 => by
  rw [List.countP_cons] at h
  have:=uniq (p:=p) S i j (by simpa using hi) (by simpa using hj) (by omega) (by simpa using h1) (by simpa using h2)
  omega
theorem Good.apart {S : List Nat} (h : Good S) {i j : Nat} (hi : i < S.length) (hj : j < S.length) (hij : i ≠ j) : S[i] &&& S[j] = 0:=by
 refine e_t.2 fun c hc => ?_
 cases hx : (S[j]).testBit c
 ·rfl
 obtain ⟨m,hm,ho⟩:=h.one
 have hc1:=ho c
 unfold cnt at hc1
 exact absurd (uniq S i j hi hj (by rw [hc1];split <;> omega) hc hx) hij
end Go.Proofs.Ytkhbffjfclepfaa.Pure
end
section
namespace Go.Proofs.Ytkhbffjfclepfaa.Pure
open Go.RowKit Go.Proofs.Ytkhbffjfclepfaa.Q Go.Proofs.YtkhbffjfclepfaaW.PrintWords Go.Proofs.YtkhbffjfclepfaaW.PrintLast Go.Proofs.YtkhbffjfclepfaaW.PrintMore
set_option linter.unusedVariables false
set_option linter.unusedSimpArgs false
theorem f_S (A B : List Int) (hA : A.length ≤ 1000) : ∀ (suf suf' pre pre' : List Int),A = pre ++ suf → B = pre' ++ suf' → pre.length = pre'.length → suf.length = suf'.length → Ev (fun k => a_r.l0 k (A.length : Int) (pre.length : Int) A B) (decide (suf = suf'))
 | [],[],pre,pre',h1,h2,h3,h4 => ⟨1,fun k hk => by
  obtain ⟨k,rfl⟩ : ∃ k',k = k' + 1:=⟨k - 1,by omega⟩
  show a_r.l0 (k + 1) _ _ _ _ = _
  rw [a_r.l0,if_neg (by subst h1;simp)]
  rfl⟩
 | [],y :: suf',pre,pre',h1,h2,h3,h4 => by simp at h4
 | x :: suf,[],pre,pre',h1,h2,h3,h4 => by simp at h4
 | x :: suf,y :: suf',pre,pre',h1,h2,h3,h4 => by
  obtain ⟨K,hK⟩:=f_S A B hA suf suf' (pre ++ [x]) (pre' ++ [y]) (by simp [h1]) (by simp [h2]) (by simp [h3]) (by simpa using h4)
  refine ⟨K + 1,fun k hk => ?_⟩
  obtain ⟨k,rfl⟩ : ∃ k',k = k' + 1:=⟨k - 1,by omega⟩
  have hk' : a_r.l0 k (A.length : Int) ((pre ++ [x]).length : Int) A B = some (decide (suf = suf')):=hK k (by omega)
  have hltA : pre.length < A.length:=by subst h1;simp
  have hltB : pre.length < B.length:=by subst h2;rw [h3];simp
  have hx : rd A (pre.length : Int) = x:=by subst h1;simp [rd]
  have hy : rd B (pre.length : Int) = y:=by subst h2;rw [h3];simp [rd]
  show a_r.l0 (k + 1) _ _ _ _ = _
  rw [a_r.l0,if_pos (by omega),if_pos (by omega),if_pos (by omega),if_pos (by omega),hx,hy,c_J pre.length (by omega),show pre.length + 1 = (pre ++ [x]).length by simp,hk']
  by_cases hxy : x = y
  ·rw [if_pos hxy];simp [hxy]
  ·rw [if_neg hxy];simp [hxy]
theorem g_s (A B : List Int) (hA : A.length ≤ 1000) : Ev (fun k => a_r.f k A B) (decide (A = B)):=by
 unfold a_r.f
 by_cases h : A.length = B.length
 ·simp only [if_pos (show (A.length : Int) = (B.length : Int) by omega)]
  exact f_S A B hA A B [] [] rfl rfl rfl h
 simp only [if_neg (show ¬(A.length : Int) = (B.length : Int) by omega)]
 rw [decide_eq_false (by rintro rfl;exact h rfl)]
 exact Ev.now _
theorem f_X (A : List Int) (hA : A.length ≤ 1000) : Ev (fun k => a_r.f k A A) true:=by
 have:=g_s A A hA
 rwa [decide_eq_true rfl] at this
theorem h_r : Ev (fun k => a_E.f k) true:=Ev.of a_E.mono (k:=100) (by kernel_rfl)
theorem i_F (l : List Int) (h : l.length ≤ maxLen ∧ ∀ x ∈ l,(Lit.int .u32 x).wf = true) : ∃ S,l.take 12 = up S ∧ Fit S ∧ S.length ≤ 12:=by
 obtain ⟨S,hS,hlt⟩:=i_s (l.take 12) (fun x hx => by
  have:=bounds_u32 (h.2 x (List.mem_of_mem_take hx))
  omega)
 have hlen : S.length ≤ 12:=by
  have:=congrArg List.length hS
  rw [a_K,List.length_take] at this
  omega
 exact ⟨S,hS,⟨hlt,by omega⟩,hlen⟩
end Go.Proofs.Ytkhbffjfclepfaa.Pure
end
section
namespace Go.Proofs.Ytkhbffjfclepfaa.Pure
open Go.RowKit Go.Proofs.Ytkhbffjfclepfaa.Q Go.Proofs.YtkhbffjfclepfaaW.PrintWords Go.Proofs.YtkhbffjfclepfaaW.PrintLast Go.Proofs.YtkhbffjfclepfaaW.PrintMore
set_option linter.unusedVariables false
set_option linter.unusedSimpArgs false
theorem h_M {α : Type} {A pre suf : List α} {x : α} (h : A = pre ++ x :: suf) : pre.length < A.length:=by subst h;simp
theorem f_L {α : Type} {A pre suf : List α} {x : α} (h : A = pre ++ x :: suf) : A = (pre ++ [x]) ++ suf:=by simp [h]
theorem g_j {α : Type} {pre : List α} {x : α} (h : pre.length < 9223372036854775807) : wrap64 ((pre.length : Int) + 1) = ((pre ++ [x]).length : Int):=by rw [c_J pre.length h];simp
theorem d_F (l : List Int) : (strOfNums l).toList = l.map fun n => UInt8.ofNat n.toNat:=by
 unfold strOfNums
 exact ByteArray.toList_mk _
theorem g_c (A B : List Nat) (hA : ∀ x ∈ A,x < 256) (hB : ∀ x ∈ B,x < 256) : bytes_Equal.f (up A) (up B) = some (decide (A = B)):=by
 unfold bytes_Equal.f
 rw [d_F,d_F]
 congr 1
 rw [Bool.eq_iff_iff]
 simp only [beq_iff_eq,decide_eq_true_eq]
 constructor
 ·intro h
  have:=congrArg (List.map UInt8.toNat) h
  unfold up at this
  rw [List.map_map,List.map_map,List.map_map,List.map_map] at this
  have e : ∀ (L : List Nat),(∀ x ∈ L,x < 256) → L.map ((UInt8.toNat ∘ fun n => UInt8.ofNat n.toNat) ∘ fun (n : Nat) => (n : Int)) = L:=fun L hL => by
   conv => rhs;rw [← List.map_id L]
   apply List.map_congr_left
   intro x hx
   have:=hL x hx
   simp
   omega
  have e' : ∀ (L : List Nat),(∀ x ∈ L,x < 256) → L.map (UInt8.toNat ∘ (fun n => UInt8.ofNat n.toNat) ∘ fun (n : Nat) => (n : Int)) = L:=fun L hL => e L hL
  first
   | rwa [e A hA,e B hB] at this
   | rwa [e' A hA,e' B hB] at this
 rintro rfl
 rfl
theorem e_O {S : List Nat} (hS : S.length ≤ 1000) (h256 : ∀ s ∈ S,s < 256) : ∀ (suf pre acc : List Nat),S = pre ++ suf → acc.length ≤ pre.length + 1 →
 Ev (fun k => a_D.l0 k (up acc) (up S) ((up S).length : Int) (pre.length : Int)) (up (acc ++ suf),0)
 | [],pre,acc,h,ha => by
  refine Ev.step (f:=fun _ => some (up acc,0)) (fun k => ?_) (by rw [List.append_nil];exact Ev.now _)
  rw [a_D.l0,if_neg (by rw [a_K,d_Y h];omega)]
 | x :: suf,pre,acc,h,ha => by
  have hx:=h256 x (d_X h)
  have hlt:=d_U h
  have ih:=e_O hS h256 suf (pre ++ [x]) (acc ++ [x]) (c_u h) (by simp;omega)
  rw [List.append_assoc] at ih
  refine Ev.step (f:=fun k => a_D.l0 k (up (acc ++ [x])) (up S) ((up S).length : Int) ((pre ++ [x]).length : Int)) (fun k => ?_) ih
  rw [a_D.l0,if_pos (by rw [a_K];omega),if_pos (by omega),if_pos (by rw [a_K];omega),if_pos (by rw [a_K];omega),d_E h,c_t (x:=x) (by omega),d_r,show (x : Int) % 256 = (x : Int) by omega]
  rfl
theorem f_V {S : List Nat} (hS : Fit S) : Ev (fun k => a_D.f k (up S)) (if gd S = true then (up (S.length :: S),0) else ([],180)):=by
 unfold a_D.f
 refine Ev.bind (h_R hS) ?_
 by_cases hg : gd S = true
 rotate_left
 ·simp only [if_neg hg]
  simp only [show ((180 : Int) = 0) = False by simp,if_false]
  exact Ev.now _
 simp only [if_pos hg,if_true]
 have g:=d_z.1 hg
 have h:=e_O hS.len (fun s hs => (g.each s hs).2) S [] [S.length] rfl (by simp)
 have e : [((up S).length : Int) % 256] = up [S.length]:=by
  have:=g.len4
  rw [a_K]
  show _ = [(S.length : Int)]
  congr 1
  omega
 rw [e]
 exact h
theorem e_S {S : List Nat} (hS : S.length ≤ 1000) (h256 : ∀ s ∈ S,s < 256) : ∀ (suf pre acc : List Nat),S = pre ++ suf → acc.length ≤ pre.length + 1 →
 Ev (fun k => a_t.l0 k (up acc) (up S) ((up S).length : Int) (pre.length : Int)) (up (acc ++ suf))
 | [],pre,acc,h,ha => by
  refine Ev.step (f:=fun _ => some (up acc)) (fun k => ?_) (by rw [List.append_nil];exact Ev.now _)
  rw [a_t.l0,if_neg (by rw [a_K,d_Y h];omega)]
 | x :: suf,pre,acc,h,ha => by
  have hx:=h256 x (d_X h)
  have hlt:=d_U h
  have ih:=e_S hS h256 suf (pre ++ [x]) (acc ++ [x]) (c_u h) (by simp;omega)
  rw [List.append_assoc] at ih
  refine Ev.step (f:=fun k => a_t.l0 k (up (acc ++ [x])) (up S) ((up S).length : Int) ((pre ++ [x]).length : Int)) (fun k => ?_) ih
  rw [a_t.l0,if_pos (by rw [a_K];omega),if_pos (by omega),if_pos (by rw [a_K];omega),if_pos (by rw [a_K];omega),d_E h,c_t (x:=x) (by omega),d_r,show (x : Int) % 256 = (x : Int) by omega]
  rfl
theorem h_B {S : List Nat} (g : Good S) : Ev (fun k => a_t.f k (up S)) (up (S.length :: S)):=by
 unfold a_t.f
 have h:=e_S g.fit.len (fun s hs => (g.each s hs).2) S [] [S.length] rfl (by simp)
 have e : [((up S).length : Int) % 256] = up [S.length]:=by
  have:=g.len4
  rw [a_K]
  show _ = [(S.length : Int)]
  congr 1
  omega
 rw [e]
 exact h
noncomputable def decv : List Nat → List Nat × Int
 | [] => ([],7)
 | n :: S => if S.length < n then ([],7) else if gd S = true ∧ n = S.length then (S,0) else ([],180)
theorem d_Z (n : Nat) (S : List Nat) : decv (n :: S) = if S.length < n then ([],7) else if gd S = true ∧ n = S.length then (S,0) else ([],180):=rfl
theorem e_J (B S : List Nat) (hB : ∀ x ∈ B,x < 256) (hS : S.length ≤ 400) (hs : ∀ x ∈ S,x < 256) (n : Nat) (hBn : B = n :: S) : ∀ (suf pre : List Nat),S = pre ++ suf →
 Ev (fun k => a_C.l0 k (up B) (up S) ((up S).length : Int) (pre.length : Int) (up pre)) (if gd S = true ∧ n = S.length then (up S,0) else ([],180))
 | [],pre,h => by
  rw [List.append_nil] at h
  subst h
  refine Ev.step (f:=fun k => (a_D.f k (up S)).bind fun bt377 => (if bt377.2 = 0 then ((bytes_Equal.f bt377.1 (up B)).bind fun t381 => (if t381 = true then (some (up S,0)) else (some (([] : List Int),180)))) else (some (([] : List Int),180)))) (fun k => ?_) ?_
  ·rw [a_C.l0,if_neg (by rw [a_K];omega)]
  refine Ev.bind (f_V ⟨fun s h => by have:=hs s h;omega,by omega⟩) ?_
  by_cases hg : gd S = true
  ·have g:=d_z.1 hg
   simp only [if_pos hg,if_true,hg,true_and]
   rw [g_c (S.length :: S) B (by intro x hx;rcases List.mem_cons.1 hx with rfl|hx;have:=g.len4;omega;exact hs x hx) hB,Option.bind_some]
   by_cases hn : n = S.length
   ·rw [if_pos hn,if_pos (decide_eq_true (by rw [hBn,hn]))]
    exact Ev.now _
   ·rw [if_neg hn,if_neg (by rw [hBn];simp;omega)]
    exact Ev.now _
  ·simp only [if_neg hg,if_neg (fun h : gd S = true ∧ _ => hg h.1)]
   simp only [show ((180 : Int) = 0) = False by simp,if_false]
   exact Ev.now _
 | x :: suf,pre,h => by
  have hx:=hs x (d_X h)
  have hlt:=d_U h
  refine Ev.step (f:=fun k => a_C.l0 k (up B) (up S) ((up S).length : Int) ((pre ++ [x]).length : Int) (up (pre ++ [x]))) (fun k => ?_) (e_J B S hB hS hs n hBn suf (pre ++ [x]) (c_u h))
  rw [a_C.l0,if_pos (by rw [a_K];omega),if_pos (by omega),if_pos (by rw [a_K];omega),if_pos (by rw [a_K];omega),d_E h,c_t (x:=x) (by omega),d_r,show (x : Int) % 4294967296 = (x : Int) by omega]
  rfl
theorem h_v (B : List Nat) (hB : ∀ x ∈ B,x < 256) (hl : B.length ≤ 400) : Ev (fun k => a_C.f k (up B)) (up (decv B).1,(decv B).2):=by
 have hshort : ∀ l : List Int,Ev (fun k => a_C.j0 k l true) ([],7):=fun l => Ev.step (f:=fun _ => some ([],7)) (fun k => by rw [a_C.j0,if_pos rfl]) (Ev.now _)
 unfold a_C.f
 cases B with
 | nil => exact hshort _
 | cons n S =>
  have hn:=hB n (by simp)
  have hr : rd (up (n :: S)) 0 = (n : Int):=rfl
  simp only [List.length_cons] at hl
  rw [a_K,hr,e_p _ (by omega) (by omega)]
  simp only [List.length_cons,if_neg (show ¬((S.length + 1 : Nat) : Int) = 0 by omega),if_pos (show (0 : Int) < ((S.length + 1 : Nat) : Int) by omega)]
  rw [d_Z]
  by_cases h : S.length < n
  ·rw [if_pos h,decide_eq_true (by omega)]
   exact hshort _
  rw [if_neg h,decide_eq_false (by omega)]
  have hd:=e_J (n :: S) S hB (by omega) (fun x hx => hB x (by simp [hx])) n rfl S [] rfl
  have e : (if gd S = true ∧ n = S.length then (S,(0 : Int)) else ([],180)) = (if gd S = true ∧ n = S.length then (S,(0 : Int)) else ([],180)):=rfl
  refine Ev.step (f:=fun k => a_C.l0 k (up (n :: S)) (up S) ((up S).length : Int) 0 []) (fun k => ?_) ?_
  ·rw [a_C.j0,if_neg (by simp),if_pos (by rw [a_K];simp;omega)]
   rfl
  by_cases hc : gd S = true ∧ n = S.length
  ·rw [if_pos hc] at hd ⊢
   exact hd
  rw [if_neg hc] at hd ⊢
  exact hd
theorem e_q (B S : List Nat) (hS : S.length ≤ 400) (hs : ∀ x ∈ S,x < 256) (n : Nat) (hn : n < 256) (hBn : B = n :: S) : ∀ (suf pre : List Nat),S = pre ++ suf →
 Ev (fun k => a_l.l0 k (up B) (up S) ((up S).length : Int) (pre.length : Int) (up pre)) (if gd S = true ∧ n = S.length then (up S,0) else ([],180))
 | [],pre,h => by
  rw [List.append_nil] at h
  subst h
  have hr : rd (up B) 0 = (n : Int):=by rw [hBn];rfl
  have hbl : ((up B).length : Int) = ((S.length + 1 : Nat) : Int):=by rw [a_K,hBn];rfl
  refine Ev.step (f:=fun k => if n = S.length then (a_h.f k (up S)).bind fun t391 => (if t391 = true then (some (up S,0)) else (some (([] : List Int),180))) else (some (([] : List Int),180))) (fun k => ?_) ?_
  ·rw [a_l.l0,if_neg (by rw [a_K];omega),hbl,if_pos (by omega),hr,e_p (n : Int) (by omega) (by omega),e_p _ (by omega) (by omega)]
   by_cases h1 : n = S.length
   ·rw [if_pos h1,if_pos (by omega)]
   ·rw [if_neg h1,if_neg (by omega)]
  by_cases h1 : n = S.length
  ·simp only [if_pos h1,h1,and_true]
   refine Ev.bind (g_p ⟨fun s h => by have:=hs s h;omega,by omega⟩) ?_
   by_cases hg : gd S = true
   ·simp only [if_pos hg]
    exact Ev.now _
   ·simp only [if_neg hg]
    exact Ev.now _
  ·simp only [if_neg h1,h1,and_false,if_false]
   exact Ev.now _
 | x :: suf,pre,h => by
  have hx:=hs x (d_X h)
  have hlt:=d_U h
  refine Ev.step (f:=fun k => a_l.l0 k (up B) (up S) ((up S).length : Int) ((pre ++ [x]).length : Int) (up (pre ++ [x]))) (fun k => ?_) (e_q B S hS hs n hn hBn suf (pre ++ [x]) (c_u h))
  rw [a_l.l0,if_pos (by rw [a_K];omega),if_pos (by omega),if_pos (by rw [a_K];omega),if_pos (by rw [a_K];omega),d_E h,c_t (x:=x) (by omega),d_r,show (x : Int) % 4294967296 = (x : Int) by omega]
  rfl
theorem g_r (B : List Nat) (hB : ∀ x ∈ B,x < 256) (hl : B.length ≤ 400) : Ev (fun k => a_l.f k (up B)) (up (decv B).1,(decv B).2):=by
 have hshort : ∀ l : List Int,Ev (fun k => a_l.j0 k l true) ([],7):=fun l => Ev.step (f:=fun _ => some ([],7)) (fun k => by rw [a_l.j0,if_pos rfl]) (Ev.now _)
 unfold a_l.f
 cases B with
 | nil => exact hshort _
 | cons n S =>
  have hn:=hB n (by simp)
  have hr : rd (up (n :: S)) 0 = (n : Int):=rfl
  simp only [List.length_cons] at hl
  rw [a_K,hr,e_p (n : Int) (by omega) (by omega),e_p _ (by omega) (by omega)]
  simp only [List.length_cons,if_neg (show ¬((S.length + 1 : Nat) : Int) < 1 by omega),if_pos (show (0 : Int) < ((S.length + 1 : Nat) : Int) by omega)]
  rw [d_Z]
  by_cases h : S.length < n
  ·rw [if_pos h,decide_eq_true (by omega)]
   exact hshort _
  rw [if_neg h,decide_eq_false (by omega)]
  have hd:=e_q (n :: S) S (by omega) (fun x hx => hB x (by simp [hx])) n hn rfl S [] rfl
  refine Ev.step (f:=fun k => a_l.l0 k (up (n :: S)) (up S) ((up S).length : Int) 0 []) (fun k => ?_) ?_
  ·rw [a_l.j0,if_neg (by simp),if_pos (by rw [a_K];simp;omega)]
   rfl
  by_cases hc : gd S = true ∧ n = S.length
  ·rw [if_pos hc] at hd ⊢
   exact hd
  rw [if_neg hc] at hd ⊢
  exact hd
end Go.Proofs.Ytkhbffjfclepfaa.Pure
end
section
namespace Go.Proofs.Ytkhbffjfclepfaa.Pure
open Go.RowKit Go.Proofs.Ytkhbffjfclepfaa.Q Go.Proofs.YtkhbffjfclepfaaW.PrintWords Go.Proofs.YtkhbffjfclepfaaW.PrintLast Go.Proofs.YtkhbffjfclepfaaW.PrintMore
set_option linter.unusedVariables false
set_option linter.unusedSimpArgs false
theorem h_X {B : List Nat} (hB : ∀ x ∈ B,x < 256) : (∀ x ∈ (decv B).1,x < 256) ∧ (decv B).1.length ≤ 4:=by
 cases B with
 | nil => exact ⟨by simp [decv],by simp [decv]⟩
 | cons n S =>
  rw [d_Z]
  by_cases h : S.length < n
  ·rw [if_pos h];exact ⟨by simp,by simp⟩
  rw [if_neg h]
  by_cases hc : gd S = true ∧ n = S.length
  ·rw [if_pos hc];exact ⟨fun x hx => hB x (by simp at hx;simp [hx]),(d_z.1 hc.1).len4⟩
  rw [if_neg hc];exact ⟨by simp,by simp⟩
theorem i_b (l : List Int) (h : l.length ≤ maxLen ∧ ∀ x ∈ l,(Lit.int .u8 x).wf = true) : ∃ B,l.take ((mn (l.length : Int) 300) : Int).toNat = up B ∧ (∀ x ∈ B,x < 256) ∧ B.length ≤ 300:=by
 have hm : mn (l.length : Int) 300 = ((min l.length 300 : Nat) : Int):=by unfold mn;split <;> omega
 rw [hm,Int.toNat_natCast]
 have hb : ∀ x ∈ l.take (min l.length 300),0 ≤ x ∧ x < 256:=fun x hx => by
  have:=bounds_u8 (h.2 x (List.mem_of_mem_take hx))
  omega
 obtain ⟨B,hB,hlt⟩:=i_s (l.take (min l.length 300)) (fun x hx => by have:=hb x hx;omega)
 refine ⟨B,hB,fun x hx => ?_,?_⟩
 ·have : (x : Int) ∈ up B:=List.mem_map.2 ⟨x,hx,rfl⟩
  rw [← hB] at this
  have:=hb _ this
  omega
 have:=congrArg List.length hB
 rw [a_K,List.length_take] at this
 omega
theorem j_m (l : List Int) : 0 ≤ mn (l.length : Int) 300 ∧ mn (l.length : Int) 300 ≤ (l.length : Int):=by unfold mn;split <;> omega
theorem h_m {A pre suf : List (List Int)} {x : List Int} (h : A = pre ++ x :: suf) : b_l A (pre.length : Int) = x:=by subst h;simp [b_l]
theorem g_g {A pre suf : List S26} {x : S26} (h : A = pre ++ x :: suf) : b_s A (pre.length : Int) = x:=by subst h;simp [b_s]
theorem f_I (rows : List (List Int)) (hl : rows.length ≤ 9223372036854775807) (hw : ∀ x ∈ rows,x.length ≤ maxLen ∧ ∀ y ∈ x,(Lit.int .u8 y).wf = true) : ∀ suf pre,rows = pre ++ suf → Ev (fun k => a_g.l1 k rows (rows.length : Int) (pre.length : Int)) true
 | [],pre,h => by
  refine Ev.step (f:=fun _ => some true) (fun k => ?_) (Ev.now _)
  rw [a_g.l1,if_neg (by subst h;simp)]
 | x :: suf,pre,h => by
  have ih:=f_I rows hl hw suf (pre ++ [x]) (f_L h)
  have hlt:=h_M h
  have hx:=h_m h
  obtain ⟨B,hB,h256,h300⟩:=i_b x (hw x (by subst h;simp))
  have hm:=j_m x
  have hbl : (up B).length ≤ 300:=by rw [a_K];exact h300
  refine Ev.step (f:=fun k => if (pre.length : Int) = 12 then some true else (a_C.f k (up B)).bind fun bt416 => (a_l.f k (up B)).bind fun bt427 => (if bt416.2 = bt427.2 then ((a_r.f k bt416.1 bt427.1).bind fun t432 => (if t432 = true then (a_g.l1 k rows (rows.length : Int) ((pre ++ [x]).length : Int)) else (some false))) else (some false))) (fun k => ?_) ?_
  ·rw [a_g.l1,if_pos (by omega),if_pos (by omega),if_pos (by omega),hx]
   simp only [Option.bind_some,List.nil_append,if_pos hm.1,if_pos hm.2,hB,List.length_nil,Nat.zero_add]
   rw [if_pos (show (up B).length < 140737488355328 by omega)]
   simp only [if_pos (show (up B).length < 140737488355328 by omega),g_j (x:=x) (show pre.length < 9223372036854775807 by omega)]
  by_cases h12 : (pre.length : Int) = 12
  ·simp only [if_pos h12];exact Ev.now _
  simp only [if_neg h12]
  refine Ev.bind (h_v B h256 (by omega)) (Ev.bind (g_r B h256 (by omega)) ?_)
  simp only [if_true]
  refine Ev.bind (f_X (up (decv B).1) (by rw [a_K];have:=(h_X h256).2;omega)) ?_
  simp only [if_true]
  exact ih
theorem f_P (rows : List (List Int)) (l : List S26) (hl : l.length ≤ 9223372036854775807) (hw : ∀ x ∈ l,wf26 x) (hnext : Ev (fun k => a_g.j1 k rows) true) : ∀ suf pre,l = pre ++ suf → Ev (fun k => a_g.l0 k rows l (l.length : Int) (pre.length : Int)) true
 | [],pre,h => by
  refine Ev.step (f:=fun k => a_g.j1 k rows) (fun k => ?_) hnext
  rw [a_g.l0,if_neg (by subst h;simp)]
 | x :: suf,pre,h => by
  have ih:=f_P rows l hl hw hnext suf (pre ++ [x]) (f_L h)
  have hlt:=h_M h
  have hx:=g_g h
  obtain ⟨S,hS,hfit,h12⟩:=i_F x.f0 (hw x (by subst h;simp))
  refine Ev.step (f:=fun k => if (pre.length : Int) = 8 then a_g.j1 k rows else (a_D.f k (up S)).bind fun bt399 => ((a_h.f k (up S)).bind fun t403 => (if t403 = true then (if bt399.2 = 0 then ((a_t.f k (up S)).bind fun t404 => ((bytes_Equal.f bt399.1 t404).bind fun t407 => (if t407 = true then (a_g.l0 k rows l (l.length : Int) ((pre ++ [x]).length : Int)) else (some false)))) else (some false)) else (if bt399.2 = 180 then (if (bt399.1.length : Int) = 0 then (a_g.l0 k rows l (l.length : Int) ((pre ++ [x]).length : Int)) else (some false)) else (some false))))) (fun k => ?_) ?_
  ·rw [a_g.l0,if_pos (by omega),if_pos (by omega),if_pos (by omega),hx]
   simp only [g_k,Option.bind_some,hS,g_j (x:=x) (show pre.length < 9223372036854775807 by omega)]
  by_cases h8 : (pre.length : Int) = 8
  ·simp only [if_pos h8];exact hnext
  simp only [if_neg h8]
  refine Ev.bind (f_V hfit) (Ev.bind (g_p hfit) ?_)
  by_cases hg : gd S = true
  ·have g:=d_z.1 hg
   simp only [if_pos hg,if_true]
   refine Ev.bind (h_B g) ?_
   have hb : ∀ y ∈ S.length :: S,y < 256:=fun y hy => by
    rcases List.mem_cons.1 hy with rfl|hy
    ·have:=g.len4;omega
    ·exact (g.each y hy).2
   rw [g_c _ _ hb hb]
   simp only [Option.bind_some,decide_true,if_true]
   exact ih
  ·simp only [if_neg hg,if_true]
   simp only [List.length_nil]
   exact ih
theorem f_9 (l : List S26) (l1 : List (List Int)) (h0 : l.length ≤ maxLen ∧ ∀ x ∈ l,wf26 x) (h1 : l1.length ≤ maxLen ∧ ∀ x ∈ l1,x.length ≤ maxLen ∧ ∀ y ∈ x,(Lit.int .u8 y).wf = true) : ∃ k,a_g.f k l l1 = some true:=by
 have hl : l.length ≤ 9223372036854775807:=h0.1
 have hl1 : l1.length ≤ 9223372036854775807:=h1.1
 refine Ev.rounds (g:=fun k => a_g.f k l l1) (Ev.bind h_r ?_)
 simp only [if_true]
 refine f_P l1 l hl h0.2 ?_ l [] rfl
 refine Ev.step (f:=fun k => a_g.l1 k l1 (l1.length : Int) 0) (fun k => by rw [a_g.j1]) ?_
 exact f_I l1 hl1 h1.2 l1 [] rfl
end Go.Proofs.Ytkhbffjfclepfaa.Pure
end
section
namespace Go.Proofs.Ytkhbffjfclepfaa.poolBytes
open Go.ChangeShapes Go.WideShapes Go.ChangeAt Go.RowKit Go.Proofs.Ytkhbffjfclepfaa.Q
open Go.Proofs.YtkhbffjfclepfaaW.PrintWords Go.Proofs.YtkhbffjfclepfaaW.PrintLast Go.Proofs.YtkhbffjfclepfaaW.PrintMore
set_option linter.unusedVariables false
set_option linter.unusedSimpArgs false
set_option maxRecDepth 100000 in
theorem lifted (os : Os) (started : os.Started) (H : Type) (enc : TypeId × Value → H) :
 ReturnsInHanded {} Try.checked os 6 .any (Rows.poolBytesSpec.pre6 enc Try.prog Try.f6 Rows.poolBytesRow.domain false) (Rows.poolBytesSpec.post enc Try.prog Try.f6 false true false false):=by
 refine returnsInHanded_of_change_sized (C:=Try.checked) own started (by kernel_rfl) Try.func6
  (ChangeSpec.witness6 (enc:=enc) (C:=Try.checked) false ⟨#[],#[.slice none 0 0,.slice none 0 0],[]⟩ 8 (by kernel_rfl) (by kernel_rfl) (by kernel_rfl) (by kernel_rfl)) ?_
 intro W base args ds gs before hval0 hW hcnd hsz0 _
 have hval : ∀ (j : Nat) t v,Try.f6.params[j]? = some t → args[j]? = some v → Value.okWide Try.prog W .any base t v:=hval0
 have hW':=hW
 obtain ⟨p,q,hA0,hV,rfl,hfz,hnd⟩:=hW
 have hA : DataW.TrodAll enc Try.prog W 0 (fun _ => true) true Try.f6.params.toList args.toList ds p:=hA0
 rw [Try.params6] at hA hval
 obtain ⟨v0,vs0,d0,ds0,p0,q0,hargs,rfl,rfl,h0,r0⟩:=trodAll_cons hA
 obtain ⟨v1,vs1,d1,ds1,p1,q1,rfl,rfl,rfl,h1,r1⟩:=trodAll_cons r0
 obtain ⟨rfl,rfl,rfl⟩:=trodAll_nil r1
 obtain rfl : args = #[v0,v1]:=by cases args;simp_all
 obtain ⟨rfl,rfl⟩:=trodVars_none hV
 have k0:=h0
 have lt0 : ∀ x ∈ p0,x.block < W.heap.size:=by obtain ⟨m,hm⟩:=k0;exact DataW.trod_lt m _ _ _ hm
 obtain ⟨a0,len0,cap0,rfl⟩:=okWide_slice Try.underlying41 (hval 0 41 v0 rfl rfl)
 obtain ⟨fuel0,hf0⟩:=h0
 obtain ⟨l0,⟨A0,c0,he0,hc0,hr0⟩,wf0_⟩:=(d_a.slice Try.underlying41 (by kernel_rfl) op26).open_ hf0
 simp [Value.cells] at he0
 obtain ⟨rfl,rfl,rfl⟩:=he0
 have k1:=h1
 have lt1 : ∀ x ∈ p1,x.block < W.heap.size:=by obtain ⟨m,hm⟩:=k1;exact DataW.trod_lt m _ _ _ hm
 obtain ⟨a1,len1,cap1,rfl⟩:=okWide_slice Try.underlying50 (hval 1 50 v1 rfl rfl)
 obtain ⟨fuel1,hf1⟩:=h1
 obtain ⟨l1,⟨A1,c1,he1,hc1,hr1⟩,wf1_⟩:=(d_a.slice Try.underlying50 (by kernel_rfl) (d_a.slice Try.underlying51 (by kernel_rfl) (d_a.int Try.underlying5 (by kernel_rfl)))).open_ hf1
 simp [Value.cells] at he1
 obtain ⟨rfl,rfl,rfl⟩:=he1
 obtain ⟨K,hK⟩:=Pure.f_9 l0 l1 wf0_ wf1_
 refine (a_g.calls _ _ _ _ _ _ _ _ _ hr0 hc0 hr1 hc1 hK).mono fun e W' ⟨he,bel⟩ => ?_
 subst he
 exact ⟨_,rfl,_,_,_,[],_,[],hW',trodAll_mk1 (shut_bool Try.underlying4 _),(trodAll_cons_mk (Below.trod laidOut (by kernel_rfl) (of_decide_eq_true (by kernel_rfl)) k0 bel lt0) (trodAll_cons_mk (Below.trod laidOut (by kernel_rfl) (of_decide_eq_true (by kernel_rfl)) k1 bel lt1) trodAll_mk0)),rfl,bel.frame _,fun h => by cases h⟩
theorem over : Rows.poolBytesRow.holds Try.pinned (OpenSpec.ofChange Rows.poolBytesSpec) :=
 OpenClaim.holds_of_wide 6 Try.f6 rfl rfl rfl rfl rfl rfl rfl ⟨rfl,rfl,rfl,rfl,rfl⟩ rfl rfl rfl rfl rfl (by kernel_rfl) Try.func6 (by kernel_rfl)
  (of_decide_eq_true (by kernel_rfl)) (by unfold Func.isWrapper;first|(rw [if_pos (by decide +kernel)];kernel_rfl)|(rw [if_neg (by decide +kernel)];exact ⟨rfl,rfl⟩))
  (fun os started H enc _ => lifted os started H enc)
theorem proved : Rows.PoolBytesSaid:=over
#print axioms proved
end Go.Proofs.Ytkhbffjfclepfaa.poolBytes
namespace Go.Proofs.Ytkhbffjfclepfaa
theorem poolBytes_holds : Rows.PoolBytesSaid:=poolBytes.proved
end Go.Proofs.Ytkhbffjfclepfaa
end
