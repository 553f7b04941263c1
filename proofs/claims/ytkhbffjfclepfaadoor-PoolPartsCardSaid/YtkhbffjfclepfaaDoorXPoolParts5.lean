/- Part 6 of 6 of what the row of PoolParts stands on: contracts over the given program's functions, the plain law, the row; no condition beyond those that each theorem states. -/
import Derived.Test.YtkhbffjfclepfaaDoorXPoolParts4
import Derived.Test.YtkhbffjfclepfaaDoorTie
import Derived.Test.YtkhbffjfclepfaaDoorCards
import Derived.SevenTiedAt
import Derived.LaidMore
import Derived.Lib.LaidTab
section
namespace Go.Proofs.YtkhbffjfclepfaaDoor.Pure
open Go.RowKit Go.Proofs.YtkhbffjfclepfaaDoor.Q Go.Proofs.YtkhbffjfclepfaaDoorW.PrintWords Go.Proofs.YtkhbffjfclepfaaDoorW.PrintLast Go.Proofs.YtkhbffjfclepfaaDoorW.PrintMore
set_option linter.unusedVariables false
set_option linter.unusedSimpArgs false
theorem d_8 {S R : List Nat} (h : ∀ c,cnt R c = cnt S c) : R.foldl (· ||| ·) 0 = S.foldl (· ||| ·) 0:=Nat.eq_of_testBit_eq fun c => by rw [c_H,c_H,h]
theorem f_Z {S : List Nat} (g : Good S) : S.foldl (· ||| ·) 0 < 256:=by
 apply d_b
 intro i hi
 obtain ⟨m,hm,ho⟩:=g.one
 rw [c_H,ho,if_neg (by omega)]
 simp
theorem g_f {S : List Nat} (g : Good S) : pc (S.foldl (· ||| ·) 0) = (S.map pc).sum:=by
 obtain ⟨m,hm,ho⟩:=g.one
 rw [g_J]
 unfold pc
 have h : ∀ c,((S.foldl (· ||| ·) 0).testBit c).toNat = cnt S c:=fun c => by
  rw [c_H,ho]
  by_cases hc : c < m <;> simp [hc]
 simp only [h]
theorem f_m {S : List Nat} (u a b cpu : Int) (s : Nat) (h : (runv S u a b cpu s).2.2 = 0) : Good (runv S u a b cpu s).1 ∧ ∀ c,cnt (runv S u a b cpu s).1 c = cnt S c:=by
 unfold runv at h ⊢
 by_cases h0 : u = 0 ∨ u = 1
 ·rw [if_pos h0] at h ⊢
  obtain ⟨k,e⟩:=e_6 h
  rw [e]
  exact ⟨k.result,k.cnts⟩
 rw [if_neg h0] at h ⊢
 by_cases h2 : u = 2
 ·rw [if_pos h2] at h ⊢
  obtain ⟨g,ha,hb,hab,e⟩:=e_Q h
  rw [e]
  exact ⟨e_X g ha hb hab,d_Y g ha hb hab⟩
 rw [if_neg h2] at h ⊢
 obtain ⟨c,j,rfl,k,e⟩:=e_3 h
 rw [e]
 exact ⟨k.result,k.cnts⟩
theorem f_a (m : Nat) (hm : m < 256) (c : Nat) : c ∈ b_1 m ↔ c < 8 ∧ m.testBit c = true:=by
 unfold b_1;simp
theorem g_V (m : Nat) (hm : m < 256) : b_g.f (m : Int) = some ((b_1 m).map fun x : Nat => (x : Int)):=by
 unfold b_g.f
 rw [if_pos (by omega),Int.toNat_natCast]
 rw [show m &&& 255 = m by rw [show (255 : Nat) = 2 ^ 8 - 1 from rfl,Nat.and_two_pow_sub_one_eq_mod];omega]
theorem e_e {S : List Nat} (g : Good S) (n : Int) (i : Nat) (hi : i < S.length) (r : Bool)
 (hnext : Ev (fun k => a_j.l0 k (wrap64 (n + ((pc (gt S (i : Int)) : Nat) : Int))) (S.length : Int) (wrap64 ((i : Int) + 1)) (up S)) r) :
 ∀ (suf pre : List Nat),b_1 (gt S (i : Int)) = pre ++ suf → Ev (fun k => a_j.l1 k n (i : Int) ((gt S (i : Int) : Nat) : Int) (S.length : Int) (i : Int) (up (b_1 (gt S (i : Int)))) ((up (b_1 (gt S (i : Int)))).length : Int) (pre.length : Int) (up S)) r
 | [],pre,h => by
  have hg:=g.each _ (b_W (S:=S) (a:=(i : Int)) (by omega) (by omega))
  refine Ev.step (f:=fun k => a_j.l0 k (wrap64 (n + ((pc (gt S (i : Int)) : Nat) : Int))) (S.length : Int) (wrap64 ((i : Int) + 1)) (up S)) (fun k => ?_) hnext
  rw [a_j.l1,if_neg (by rw [a_1,h];simp),if_neg (by have:=hg.1;omega),d_Q _ hg.2,Option.bind_some]
 | c :: suf,pre,h => by
  have hg:=g.each _ (b_W (S:=S) (a:=(i : Int)) (by omega) (by omega))
  have hc:=(f_a _ hg.2 c).1 (by rw [h];simp)
  have hlt:=e_1 h
  have h8:=e_c (gt S (i : Int))
  have hof:=Of_n (c : Int) g.fit
  have hv : ofv (c : Int) S = ((i : Int),true):=by
   unfold ofv
   rw [if_pos (b_I.2 g),g_H g hc.1 hi hc.2]
  rw [hv] at hof
  have ih:=e_e g n i hi r hnext suf (pre ++ [c]) (d_N h)
  refine Ev.step (f:=fun k => (a_3.f k (up S) (c : Int)).bind fun bt175 => (if bt175.2 = true then (if bt175.1 = (i : Int) then (a_j.l1 k n (i : Int) ((gt S (i : Int) : Nat) : Int) (S.length : Int) (i : Int) (up (b_1 (gt S (i : Int)))) ((up (b_1 (gt S (i : Int)))).length : Int) ((pre ++ [c]).length : Int) (up S)) else (some false)) else (some false))) (fun k => ?_) ?_
  ·rw [a_j.l1,if_pos (by rw [a_1];omega),if_pos (by omega),if_pos (by rw [a_1];omega),f_i h,d_M (x:=c) (by omega)]
  ·refine Ev.bind hof ?_
   simp only [if_true]
   exact ih
theorem d_3 {S : List Nat} (g : Good S) : ∀ (d i : Nat),i + d = S.length → Ev (fun k => a_j.l0 k ((((S.take i).map pc).sum : Nat) : Int) (S.length : Int) (i : Int) (up S)) true
 | 0,i,h => by
  have hi : i = S.length:=by omega
  subst hi
  rw [List.take_length]
  have hc:=f_k g.fit
  rw [if_pos (b_I.2 g)] at hc
  have hk:=c_F g.fit
  rw [if_pos (b_I.2 g)] at hk
  refine Ev.step (f:=fun k => (a_A.f k (up S)).bind fun t167 => ((a_U.f t167).bind fun t168 => (if (((S.map pc).sum : Nat) : Int) = t168 then ((a_n.f k (up S)).bind fun t169 => (some (t169 == 0))) else (some false)))) (fun k => ?_) ?_
  ·rw [a_j.l0,if_neg (by omega)]
  ·refine Ev.bind hc ?_
   simp only [d_Q _ (f_Z g),Option.bind_some,g_f g,if_true]
   exact Ev.bind hk (Ev.now _)
 | d + 1,i,h => by
  have hi : i < S.length:=by omega
  have hl:=g.len4
  have hg:=g.each _ (b_W (S:=S) (a:=(i : Int)) (by omega) (by omega))
  have ih:=d_3 g d (i + 1) (by omega)
  have hpc : pc (gt S (i : Int)) ≤ 8:=by
   unfold pc
   have : ∀ b : Bool,b.toNat ≤ 1:=fun b => by cases b <;> simp
   have h0:=this ((gt S (i : Int)).testBit 0);have h1:=this ((gt S (i : Int)).testBit 1);have h2:=this ((gt S (i : Int)).testBit 2);have h3:=this ((gt S (i : Int)).testBit 3)
   have h4:=this ((gt S (i : Int)).testBit 4);have h5:=this ((gt S (i : Int)).testBit 5);have h6:=this ((gt S (i : Int)).testBit 6);have h7:=this ((gt S (i : Int)).testBit 7)
   omega
  have hsum : ((S.take (i + 1)).map pc).sum = ((S.take i).map pc).sum + pc (gt S (i : Int)):=by
   rw [List.take_succ_eq_append_getElem hi,List.map_append,List.sum_append]
   have:=e_p (S:=S) (a:=(i : Int)) (by omega) (by omega)
   simp only [Int.toNat_natCast] at this
   rw [this]
   simp
  have hbound : ((S.take i).map pc).sum ≤ 8 * 4:=by
   have : ∀ (l : List Nat),(∀ x ∈ l,pc x ≤ 8) → (l.map pc).sum ≤ 8 * l.length:=by
    intro l
    induction l with
    | nil => simp
    | cons x l ih => intro hx;have:=ih (fun y hy => hx y (by simp [hy]));have:=hx x (by simp);simp only [List.map_cons,List.sum_cons,List.length_cons];omega
   have h8 : ∀ x : Nat,pc x ≤ 8:=fun x => by
    unfold pc
    have : ∀ b : Bool,b.toNat ≤ 1:=fun b => by cases b <;> simp
    have h0:=this (x.testBit 0);have h1:=this (x.testBit 1);have h2:=this (x.testBit 2);have h3:=this (x.testBit 3)
    have h4:=this (x.testBit 4);have h5:=this (x.testBit 5);have h6:=this (x.testBit 6);have h7:=this (x.testBit 7)
    omega
   have h1:=this (S.take i) (fun x _ => h8 x)
   have h2 : (S.take i).length ≤ 4:=by rw [List.length_take];omega
   omega
  have hs:=h_r g.fit (i : Int)
  rw [if_pos ⟨b_I.2 g,by omega,by omega⟩] at hs
  have hl1:=e_e g ((((S.take i).map pc).sum : Nat) : Int) i hi true (by
   rw [d_D i (by omega),e_7 _ (by omega) (by omega)]
   rw [hsum] at ih
   simpa using ih) (b_1 (gt S (i : Int))) [] rfl
  refine Ev.step (f:=fun k => (b_d.f k (up S) (i : Int)).bind fun t170 => ((b_g.f t170).bind fun t171 => (a_j.l1 k ((((S.take i).map pc).sum : Nat) : Int) (i : Int) t170 (S.length : Int) (i : Int) t171 (t171.length : Int) 0 (up S)))) (fun k => ?_) ?_
  ·rw [a_j.l0,if_pos (by omega)]
  ·refine Ev.bind hs ?_
   simp only [g_V _ hg.2,Option.bind_some]
   exact hl1
theorem f_X {S : List Nat} (g : Good S) : Ev (fun k => a_j.f k (up S)) true:=by
 have:=d_3 g S.length 0 (by omega)
 unfold a_j.f
 simpa [a_1] using this
theorem d_O (ops : List S35) (hl : ops.length ≤ 9223372036854775807) (hw : ∀ x ∈ ops,wf35 x) (A : Nat) : ∀ (suf pre : List S35) (S : List Nat),ops = pre ++ suf → Good S → S.foldl (· ||| ·) 0 = A → Ev (fun k => a_l.l0 k (A : Int) ops (ops.length : Int) (pre.length : Int) (up S)) true
 | [],pre,S,h,g,hA => ⟨1,fun k hk => by
  obtain ⟨k,rfl⟩ : ∃ k',k = k' + 1:=⟨k - 1,by omega⟩
  show a_l.l0 (k + 1) _ _ _ _ _ = _
  rw [a_l.l0,if_neg (by subst h;simp)]⟩
 | x :: suf,pre,S,h,g,hA => by
  have hlt : pre.length < ops.length:=by subst h;simp
  have hx : a_s ops (pre.length : Int) = x:=by subst h;simp [a_s]
  have hwx : wf35 x:=hw x (by subst h;simp)
  obtain ⟨_,_,_,_,h4⟩:=hwx
  have hb:=bounds_u32 h4
  obtain ⟨s,hs⟩:=Int.eq_ofNat_of_zero_le hb.1
  have hs32 : s < 2 ^ 32:=by omega
  have hn : wrap64 ((pre.length : Int) + 1) = ((pre ++ [x]).length : Int):=by rw [d_D pre.length (by omega)];simp
  have hrun:=h_w g.fit x.f0 x.f1 x.f2 x.f3 s hs32
  have hz:=f_m (S:=S) (Int.tmod (IntKind.u64.wrap x.f0) 6) x.f1 x.f2 x.f3 s
  generalize runv S (Int.tmod (IntKind.u64.wrap x.f0) 6) x.f1 x.f2 x.f3 s = v at hrun hz
  obtain ⟨R,n,e⟩:=v
  simp only at hrun hz
  refine Ev.step (f:=fun k => if (pre.length : Int) = 40 then (some true) else ((a_q.f k x.f0 x.f1 x.f2 x.f3 (s : Int) (up S)).bind fun bt187 => (if bt187.2.2 = 0 then ((a_j.f k bt187.1).bind fun t193 => (if t193 = true then ((a_A.f k bt187.1).bind fun t194 => (if t194 = (A : Int) then (a_l.l0 k (A : Int) ops (ops.length : Int) ((pre ++ [x]).length : Int) bt187.1) else (some false))) else (some false))) else (a_l.l0 k (A : Int) ops (ops.length : Int) ((pre ++ [x]).length : Int) (up S))))) (fun k => ?_) ?_
  ·rw [a_l.l0,if_pos (by omega),if_pos (by omega),if_pos (by omega),hx,hs,hn]
  by_cases h40 : (pre.length : Int) = 40
  ·simp only [if_pos h40];exact Ev.now _
  simp only [if_neg h40]
  refine Ev.bind hrun ?_
  by_cases he : e = 0
  ·obtain ⟨g2,hc2⟩:=hz he
   simp only [he,if_true]
   refine Ev.bind (f_X g2) ?_
   simp only [if_true]
   have hcp:=f_k g2.fit
   rw [if_pos (b_I.2 g2),d_8 hc2,hA] at hcp
   refine Ev.bind hcp ?_
   simp only [if_true]
   exact d_O ops hl hw A suf (pre ++ [x]) R (by simp [h]) g2 ((d_8 hc2).trans hA)
  ·simp only [if_neg he]
   exact d_O ops hl hw A suf (pre ++ [x]) S (by simp [h]) g hA
theorem g_U (n : Nat) (h1 : 1 ≤ n) (h8 : n ≤ 8) : b_D.f (n : Int) = some (up [2 ^ n - 1],0):=by
 have : n = 1 ∨ n = 2 ∨ n = 3 ∨ n = 4 ∨ n = 5 ∨ n = 6 ∨ n = 7 ∨ n = 8:=by omega
 rcases this with rfl|rfl|rfl|rfl|rfl|rfl|rfl|rfl <;> rfl
theorem f_N (n : Nat) (h1 : 1 ≤ n) (h8 : n ≤ 8) : Good [2 ^ n - 1]:=by
 refine ⟨by simp,by simp,fun s hs => ?_,n,h8,fun c => ?_⟩
 ·rw [List.mem_singleton] at hs
  subst hs
  have : 2 ^ n ≤ 2 ^ 8:=Nat.pow_le_pow_right (by decide) h8
  have : 2 ^ 1 ≤ 2 ^ n:=Nat.pow_le_pow_right (by decide) h1
  omega
 rw [b_E,d_L,Nat.testBit_two_pow_sub_one]
 by_cases h : c < n <;> simp [h]
theorem d_V (a0 : Int) (l1 : List S35) (h0 : (Lit.int .i64 a0).wf = true) (h1 : l1.length ≤ maxLen ∧ ∀ x ∈ l1,wf35 x) : ∃ k,a_l.f k a0 l1 = some true:=by
 refine Ev.rounds (g:=fun k => a_l.f k a0 l1) (Ev.bind f_W ?_)
 simp only [if_true]
 have hu : 0 ≤ IntKind.u64.wrap a0:=by rw [IntKind.wrap_u64];omega
 obtain ⟨n,hn1,hn8,hn⟩ : ∃ n : Nat,1 ≤ n ∧ n ≤ 8 ∧ wrap64 (1 + (wrap64 (Int.tmod (IntKind.u64.wrap a0) 8))) = (n : Int):=by
  rw [Int.tmod_eq_emod_of_nonneg hu]
  have h1:=Int.emod_nonneg (IntKind.u64.wrap a0) (show (8 : Int) ≠ 0 by decide)
  have h2:=Int.emod_lt_of_pos (IntKind.u64.wrap a0) (show (0 : Int) < 8 by decide)
  generalize IntKind.u64.wrap a0 % 8 = m at h1 h2
  rw [e_7 m (by omega) (by omega),e_7 _ (by omega) (by omega)]
  exact ⟨(1 + m).toNat,by omega,by omega,by omega⟩
 rw [hn,g_U n hn1 hn8]
 simp only [Option.bind_some,if_true]
 have g:=f_N n hn1 hn8
 have hc:=f_k g.fit
 rw [if_pos (b_I.2 g)] at hc
 refine Ev.bind hc ?_
 have hl : l1.length ≤ 9223372036854775807:=h1.1
 exact d_O l1 hl h1.2 _ l1 [] [2 ^ n - 1] rfl g rfl
end Go.Proofs.YtkhbffjfclepfaaDoor.Pure
end
section
namespace Go.Proofs.YtkhbffjfclepfaaDoor.poolParts
open Go.ChangeShapes Go.WideShapes Go.ChangeAt Go.RowKit Go.Proofs.YtkhbffjfclepfaaDoor.Q
open Go.Proofs.YtkhbffjfclepfaaDoorW.PrintWords Go.Proofs.YtkhbffjfclepfaaDoorW.PrintLast Go.Proofs.YtkhbffjfclepfaaDoorW.PrintMore
set_option linter.unusedVariables false
set_option linter.unusedSimpArgs false
theorem g_R {W : World} (h : laidMetH Tryd.prog Rows.poolPartsRow.laid W) : b_Q W:=by
 rw [MakeChecks.laidMetH_plain _ _ _ (by kernel_rfl)] at h
 have h' : laidMet Tryd.prog [("math/bits.deBruijn32tab", Lib.tabData .u8 (Lib.deBruijn32tab.map fun n : Nat => (n : Int)))] W := h
 have ht:=Lib.tabIs_of_head (g:=0) (by kernel_rfl) (by kernel_rfl) Tryd.underlying73 Tryd.underlying5 (by kernel_rfl) (by kernel_rfl) h'
 intro j hj
 have hc:=ht.cell (g:=0) (by kernel_rfl) j (by simpa using hj)
 rw [hc]
 simp only [List.getD_eq_getElem?_getD,List.getElem?_map]
 rw [List.getElem?_eq_getElem hj]
 rfl
theorem f_S (os : Os) (args : Array Value) : laidMetH Tryd.prog Rows.poolPartsRow.laid ((World.doorLaid Tryd.prog 14 os).forCall (fun _ _ => 0) ⟨#[],args,[]⟩).memory :=
 laidMetH_of_parts3 (fuel:=8) (laidMet_of_run' 8 (by kernel_rfl) (by kernel_rfl)) (by kernel_rfl) (by kernel_rfl)
set_option maxRecDepth 100000 in
theorem lifted (os : Os) (started : os.Started) (H : Type) (enc : TypeId × Value → H) :
 ReturnsInHanded {} Tryd.checked os 3 .any (fun w args => (Rows.poolPartsSpec.pre enc Tryd.prog Tryd.f3 [] false w args ∧ laidMetH Tryd.prog Rows.poolPartsRow.laid w) ∧ sizedMet enc Tryd.prog Tryd.f3 (OpenSpec.ofChange Rows.poolPartsSpec) false w args) (Rows.poolPartsSpec.post enc Tryd.prog Tryd.f3 false true false false):=by
 refine returnsInHanded_of_change_and (C:=Tryd.checked) (X:=fun w _ => laidMetH Tryd.prog Rows.poolPartsRow.laid w) (fun _ _ _ hh h => h.of_heap hh) own started (by kernel_rfl) Tryd.func3
  (ChangeSpec.witness_shaped (enc:=enc) (C:=Tryd.checked) (os:=os) (X:=fun w _ => laidMetH Tryd.prog Rows.poolPartsRow.laid w) false (World.doorLaid Tryd.prog 14 os) #[.int .i64 0,.slice none 0 0] 8 rfl (World.shaped_of_RefB (by kernel_rfl) (by kernel_rfl)) (by kernel_rfl) (by kernel_rfl) (by kernel_rfl) (f_S os _)) ?_
 intro W base args ds gs before hval0 hW hcnd hsz0 hL _
 have hT:=g_R hL
 have hval : ∀ (j : Nat) t v,Tryd.f3.params[j]? = some t → args[j]? = some v → Value.okWide Tryd.prog W .any base t v:=hval0
 have hW':=hW
 obtain ⟨p,q,hA0,hV,rfl,hfz,hnd⟩:=hW
 have hA : DataW.TrodAll enc Tryd.prog W 0 (fun _ => true) true Tryd.f3.params.toList args.toList ds p:=hA0
 rw [Tryd.params3] at hA hval
 obtain ⟨v0,vs0,d0,ds0,p0,q0,hargs,rfl,rfl,h0,r0⟩:=trodAll_cons hA
 obtain ⟨v1,vs1,d1,ds1,p1,q1,rfl,rfl,rfl,h1,r1⟩:=trodAll_cons r0
 obtain ⟨rfl,rfl,rfl⟩:=trodAll_nil r1
 obtain rfl : args = #[v0,v1]:=by cases args;simp_all
 obtain ⟨rfl,rfl⟩:=trodVars_none hV
 obtain ⟨a0,rfl,rfl,rfl,w0⟩:=open_int Tryd.underlying3 (hval 0 3 v0 rfl rfl) h0
 have k1:=h1
 have lt1 : ∀ x ∈ p1,x.block < W.heap.size:=by obtain ⟨m,hm⟩:=k1;exact DataW.trod_lt m _ _ _ hm
 obtain ⟨a1,len1,cap1,rfl⟩:=okWide_slice Tryd.underlying22 (hval 1 22 v1 rfl rfl)
 obtain ⟨fuel1,hf1⟩:=h1
 obtain ⟨l1,⟨A1,c1,he1,hc1,hr1⟩,wf1_⟩:=(c_G.slice Tryd.underlying22 (by kernel_rfl) op35).open_ hf1
 simp [Value.cells] at he1
 obtain ⟨rfl,rfl,rfl⟩:=he1
 obtain ⟨K,hK⟩:=Pure.d_V a0 l1 w0 wf1_
 refine (a_l.calls _ _ _ _ _ _ _ hr1 hc1 hT hK).mono fun e W' ⟨he,bel⟩ => ?_
 subst he
 exact ⟨_,rfl,_,_,_,[],_,[],hW',trodAll_mk1 (shut_bool Tryd.underlying4 _),(trodAll_cons_mk (shut_int Tryd.underlying3 w0) (trodAll_cons_mk (Below.trod laidOut (by kernel_rfl) (of_decide_eq_true (by kernel_rfl)) k1 bel lt1) trodAll_mk0)),rfl,bel.frame _,fun h => by cases h⟩
theorem over : Rows.poolPartsRow.holds Tryd.pinned (OpenSpec.ofChange Rows.poolPartsSpec) :=
 OpenClaim.holds_of_wide 3 Tryd.f3 rfl rfl rfl rfl rfl rfl rfl ⟨rfl,rfl,rfl,rfl,rfl⟩ rfl rfl rfl rfl rfl (by kernel_rfl) Tryd.func3 (by kernel_rfl)
  (of_decide_eq_true (by kernel_rfl)) (by unfold Func.isWrapper;first|(rw [if_pos (by decide +kernel)];kernel_rfl)|(rw [if_neg (by decide +kernel)];exact ⟨rfl,rfl⟩))
  (fun os started H enc _ => lifted os started H enc)
theorem h_o : Rows.PoolPartsCardSaid :=
 Claim7.holds_tied_plain_at .later [] [.data] true (true, "b0a623852c93321e025831e5d6589d23aafa53196e09d8e580bf0e300d2dcf66") false
  over (fun _ h => by cases h) (by kernel_rfl) (fun _ h => by cases h) poolParts_row_tie rfl ⟨rfl,rfl⟩ (by kernel_rfl) rfl
  (fun f fn hf hfn => by
   obtain rfl : f = 3 := Option.some.inj ((show Tryd.prog.funcNamed "mainsheet/mainsheetlaw08.PoolParts" = some 3 by kernel_rfl).symm.trans hf) |>.symm
   obtain rfl : fn = Tryd.f3:=(Option.some.inj (Tryd.func3.symm.trans hfn)).symm
   exact ⟨by kernel_rfl,fun j t ht => by
    rw [Tryd.params3] at ht
    rcases j with _|_|j
    ·obtain rfl : 3 = t:=by simpa using ht
     exact (show Tryd.prog.wantsStandIn 3 = false by kernel_rfl)
    ·obtain rfl : 22 = t:=by simpa using ht
     exact (show Tryd.prog.wantsStandIn 22 = false by kernel_rfl)
    ·simp at ht⟩)
  (by kernel_rfl)
theorem proved : Rows.PoolPartsCardSaid:=h_o
#print axioms proved
end Go.Proofs.YtkhbffjfclepfaaDoor.poolParts
namespace Go.Proofs.YtkhbffjfclepfaaDoor
theorem poolParts_holds : Rows.PoolPartsCardSaid:=poolParts.proved
end Go.Proofs.YtkhbffjfclepfaaDoor
end
