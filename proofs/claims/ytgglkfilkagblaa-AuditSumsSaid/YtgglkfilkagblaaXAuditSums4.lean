/- Part 5 of 9 of what the row of AuditSums stands on: contracts over the given program's functions, the plain law, the row; no condition beyond those that each theorem states. -/
import Derived.Test.YtgglkfilkagblaaXAuditSums3
import Derived.RangeFuncBox
section
namespace Go.Proofs.Ytgglkfilkagblaa.Q
open Go.RowKit Go.Proofs.YtgglkfilkagblaaW.PrintWords Go.Proofs.YtgglkfilkagblaaW.PrintLast Go.Proofs.YtgglkfilkagblaaW.PrintMore
set_option linter.unusedVariables false
set_option linter.unusedSimpArgs false
section
attribute [local go_sem] Oper.semAt_some
def a_O (l : List S65) (v : Int) : S65 × Bool:=if idxOf (fun s => s.f0 == v) l < 0 then (z65,false) else (a_d l (idxOf (fun s => s.f0 == v) l),true)
theorem l_m {α : Type} (p : α → Bool) (xs : List α) : idxOf p xs < (xs.length : Int):=by
 unfold idxOf
 cases h : xs.findIdx? p with
 | none => simp only [];omega
 | some i =>
  rw [List.findIdx?_eq_some_iff_getElem] at h
  obtain ⟨hi,_⟩:=h
  simp only [];omega
theorem i_B (a : Int) (l : List S65) (v : Int) (hl : l.length ≤ 1099511627776) : c_E.f a l v = some ((a_O l v).1.f0,(a_O l v).1.f1,(a_O l v).1.f2,(a_O l v).1.f3,(a_O l v).1.f4,(a_O l v).1.f5,(a_O l v).1.f6,(a_O l v).1.f7,(a_O l v).1.f8,(a_O l v).1.f9,(a_O l v).1.f10,(a_O l v).2):=by
 have hlt:=l_m (fun s : S65 => s.f0 == v) l
 unfold c_E.f a_9.f a_O
 rw [if_pos hl,Option.bind_some]
 by_cases h : idxOf (fun s : S65 => s.f0 == v) l < 0
 ·rw [if_pos h,if_pos h];rfl
 rw [if_neg h,if_neg h,if_pos (by omega),if_pos hlt]
def ranB (xs : List S27) (en v frm tt : Int) (n : Int) (j : Nat) : Int:=if (a_O (a_p xs (j : Int)).f1 v).2 = true ∧ -1 < (a_O (a_p xs (j : Int)).f1 v).1.f4 then wrap64 (n + mx (wrap64 (mn (b_4 xs en j) tt - mx (a_p xs (j : Int)).f0 frm)) 0) else n
def a_H.f (k : Nat) (l0_0 : List S27) (a0_1 a1 a2 a3 : Int) : Option (Int × Int):=(a_t.f k l0_0 a0_1).bind fun e => if e = 0 then (if a2 < 0 then some (0,2) else if 1125899906842624 < a3 then some (0,2) else if a3 < a2 then some (0,2) else if l0_0.length ≤ 4398046511104 ∧ ∀ m ∈ l0_0,m.f1.length ≤ 1099511627776 then some ((List.range l0_0.length).foldl (ranB l0_0 a0_1 a1 a2 a3) 0,0) else none) else some (0,390)
theorem d_x {W W' : World} {row : Option Nat} {B g t : Nat} {cs : Array Value} {fr : Nat × Nat} (h : W.heap[g]? = some (.cells cs t fr)) (hg : W.grownBy W' row) (hr : ∀ r,row = some r → B ≤ r ∧ ∃ o : Obj,W.heap[r]? = some o ∧ o.isCells = false) : W'.heap[g]? = some (.cells cs t fr) :=
 (hg.block g (a_J h) (fun e => by
  obtain ⟨_,o,ho,hc⟩:=hr g e.symm
  rw [h] at ho
  cases ho
  cases hc)).trans h
theorem b_G {B : Nat} {W W' : World} (h : Below W.heap.size W W') : KeepsFrom B W W':=⟨h.size,fun k o _ hk _ => (h.block k (a_J hk)).trans hk⟩
theorem a_H.mono : ∀ a0 a1 a2 a3 a4 k,LeO (a_H.f k a0 a1 a2 a3 a4) (a_H.f (k + 1) a0 a1 a2 a3 a4):=fun a0 a1 a2 a3 a4 k => LeO.bind (a_t.mono _ _ _) (fun _ => LeO.refl _)
theorem n_6 {a b : Int} (h : b < a) : mn a b = b:=by unfold mn;split <;> omega
theorem n_X {a b : Int} (h : a ≤ b) : mn a b = a:=by unfold mn;split <;> omega
theorem l_V {a b : Int} (h : a < b) : mx a b = b:=by unfold mx;split <;> omega
theorem l_Q {a b : Int} (h : b ≤ a) : mx a b = a:=by unfold mx;split <;> omega
structure RanI (w w1 : World) (a1 a2 a3 v : Int) (W : World) : Prop where
 b0 : W.heap[w1.heap.size]? = some (.cells #[.int .i64 v] 2 (0,0))
 b1 : W.heap[w.heap.size + 1]? = some (.cells #[.int .i64 a1] 3 (0,0))
 b2 : W.heap[w.heap.size + 1 + 1]? = some (.cells #[.int .i64 a2] 2 (0,0))
 b3 : W.heap[w.heap.size + 1 + 1 + 1]? = some (.cells #[.int .i64 a3] 2 (0,0))
 b4 : w1.heap.size + 1 < W.heap.size
 below : Below w.heap.size w W
set_option maxRecDepth 100000 in
set_option maxHeartbeats 4000000 in
theorem a_H.sums (k : Nat) (A0_0 : Option Addr) (c0_0 : Nat) (l0_0 : List S27) (a0_1 a1 a2 a3 : Int) (w : World) (hr0_0 : Kd.C k27 w A0_0 l0_0.length l0_0) (hc0_0 : l0_0.length ≤ c0_0) (he : a_t.f k l0_0 a0_1 = some 0) (h1 : ¬ a2 < 0) (h2 : ¬ 1125899906842624 < a3) (h3 : ¬ a3 < a2) (hl : l0_0.length ≤ 4398046511104) (hm : ∀ m ∈ l0_0,m.f1.length ≤ 1099511627776) :
 Calls Try.prog 16 #[.agg #[.slice A0_0 l0_0.length c0_0,.int .i64 a0_1],.int .i64 a1,.int .i64 a2,.int .i64 a3] w fun e w' => e = .returned (.tuple #[.int .i64 ((List.range l0_0.length).foldl (ranB l0_0 a0_1 a1 a2 a3) 0),.int .i64 0]) ∧ Below w.heap.size w w':=by
 have HR:=a_c.mk hr0_0
 have HE:=a_c.mk he
 have HM:=a_c.mk hm
 clear hr0_0 he hm
 have g1 : decide (a2 < 0) = false:=decide_eq_false h1
 have g2 : decide (1125899906842624 < a3) = false:=decide_eq_false h2
 have g3 : decide (a3 < a2) = false:=decide_eq_false h3
 clear h1 h2 h3
 have q0:=a_c.mk (a_i (a_i (a_i (c_D w (.cells #[.slice A0_0 l0_0.length c0_0,.int .i64 a0_1] 24)) (.cells #[.int .i64 a1] 3)) (.cells #[.int .i64 a2] 2)) (.cells #[.int .i64 a3] 2))
 have q1:=a_c.mk (a_i (a_i (c_D (w.alloc (.cells #[.slice A0_0 l0_0.length c0_0,.int .i64 a0_1] 24)) (.cells #[.int .i64 a1] 3)) (.cells #[.int .i64 a2] 2)) (.cells #[.int .i64 a3] 2))
 have q2:=a_c.mk (a_i (c_D ((w.alloc (.cells #[.slice A0_0 l0_0.length c0_0,.int .i64 a0_1] 24)).alloc (.cells #[.int .i64 a1] 3)) (.cells #[.int .i64 a2] 2)) (.cells #[.int .i64 a3] 2))
 have q3:=a_c.mk (c_D (((w.alloc (.cells #[.slice A0_0 l0_0.length c0_0,.int .i64 a0_1] 24)).alloc (.cells #[.int .i64 a1] 3)).alloc (.cells #[.int .i64 a2] 2)) (.cells #[.int .i64 a3] 2))
 have qB:=a_c.mk (a_g (a_g (a_g (a_g (Below.refl w.heap.size w) (.cells #[.slice A0_0 l0_0.length c0_0,.int .i64 a0_1] 24)) (.cells #[.int .i64 a1] 3)) (.cells #[.int .i64 a2] 2)) (.cells #[.int .i64 a3] 2))
 simp only [World.size_alloc] at q0 q1 q2 q3
 refine (callsIn_wide (n:=9)).1 ?_
 refine callsIn_of_wp_marks Try.func16 rfl trivial ?_ rfl
 simp only [Try.ntmps16,List.size_toArray,List.length_cons,List.length_nil,Nat.reduceAdd,Nat.reduceSub,Array.replicate_succ,Array.replicate_zero,List.push_toArray,List.append_toArray,List.nil_append,List.cons_append]
 gi_wp2_with (first
  | (refine ⟨trivial,?_⟩;gi_at_call 14;refine (callsIn_wide.2 (a_t.calls k _ _ l0_0 a0_1 0 _ ?s1 hc0_0 HE.out)).mono ?_;(case s1 => exact Kd.a_U HR.out qB.out);rintro e w1 ⟨rfl,hb⟩;have HB:=a_c.mk (a_o qB.out hb);have p0:=a_c.mk (a_m q0.out hb);have p1:=a_c.mk (a_m q1.out hb);have p2:=a_c.mk (a_m q2.out hb);have p3:=a_c.mk (a_m q3.out hb);clear hb;have r0 : w1.cell? ⟨w.heap.size,0,none⟩ = some (.slice A0_0 l0_0.length c0_0):=(a_a p0.out 0).trans rfl;have r1 : w1.cell? ⟨w.heap.size,1,none⟩ = some (.int .i64 a0_1):=(a_a p0.out 1).trans rfl;have r2 : w1.cell? ⟨w.heap.size + 1 + 1,0,none⟩ = some (.int .i64 a2):=(a_a p2.out 0).trans rfl;have r3 : w1.cell? ⟨w.heap.size + 1 + 1 + 1,0,none⟩ = some (.int .i64 a3):=(a_a p3.out 0).trans rfl;have z0:=a_J p0.out;have z2:=a_J p2.out;have z3:=a_J p3.out)
  | (refine ⟨trivial,?_⟩;gi_at_call 28;refine (callsIn_wide.2 (g_k.calls _ _ _ _ _)).mono ?_;rintro e w' ⟨rfl,rfl⟩))
 have n0:=a_c.mk (a_i (c_D w1 (.cells #[.int .i64 0] 2)) (.cells #[.slice A0_0 l0_0.length c0_0,.int .i64 a0_1] 24))
 have n1:=a_c.mk (c_D (w1.alloc (.cells #[.int .i64 0] 2)) (.cells #[.slice A0_0 l0_0.length c0_0,.int .i64 a0_1] 24))
 have n2:=a_c.mk (a_i (a_i p1.out (.cells #[.int .i64 0] 2)) (.cells #[.slice A0_0 l0_0.length c0_0,.int .i64 a0_1] 24))
 have n3:=a_c.mk (a_i (a_i p2.out (.cells #[.int .i64 0] 2)) (.cells #[.slice A0_0 l0_0.length c0_0,.int .i64 a0_1] 24))
 have n4:=a_c.mk (a_i (a_i p3.out (.cells #[.int .i64 0] 2)) (.cells #[.slice A0_0 l0_0.length c0_0,.int .i64 a0_1] 24))
 have nB:=a_c.mk (a_g (a_g HB.out (.cells #[.int .i64 0] 2)) (.cells #[.slice A0_0 l0_0.length c0_0,.int .i64 a0_1] 24))
 have hsz : ((w1.alloc (.cells #[.int .i64 0] 2)).alloc (.cells #[.slice A0_0 l0_0.length c0_0,.int .i64 a0_1] 24)).heap.size = w1.heap.size + 1 + 1:=by simp
 simp only [World.size_alloc] at n0 n1 n2 n3 n4
 have hws:=HB.out.size
 clear q0 q1 q2 q3 p0 p1 p2 p3 r0 r1 r2 r3 qB HB
 obtain ⟨W2,hW2⟩ : ∃ W2,(w1.alloc (.cells #[.int .i64 0] 2)).alloc (.cells #[.slice A0_0 l0_0.length c0_0,.int .i64 a0_1] 24) = W2:=⟨_,rfl⟩
 rw [hW2] at n0 n1 n2 n3 n4 nB hsz ⊢
 clear hW2
 obtain ⟨ad,am,cm,hA,hMs⟩ : ∃ ad am cm,(0 < l0_0.length → A0_0 = some ad) ∧ e_P l0_0 ad am cm w:=by
  by_cases h : 0 < l0_0.length
  ·obtain ⟨ad,am,cm,e,hm⟩:=g_t HR.out h
   exact ⟨ad,am,cm,fun _ => e,hm⟩
  exact ⟨⟨0,0,none⟩,fun _ => none,fun _ => 0,fun h' => absurd h' h,fun j hj => absurd (Nat.lt_of_le_of_lt (Nat.zero_le _) hj) h⟩
 have HMS:=a_c.mk hMs
 have hAA:=a_c.mk hA
 clear hMs hA
 refine wpIn_rangeFunc_ownH rfl (by omega) (gf:=55) (lb:=#[.pointer (some ⟨w1.heap.size + 1,0,none⟩)]) rfl trivial (enters_of Try.func55 (by kernel_rfl) rfl)
  (encs:=fun x : Fin l0_0.length => #[momV l0_0 am cm x.val,.agg #[.int .i64 (a_p l0_0 (x.val : Int)).f0,.int .i64 (b_4 l0_0 a0_1 x.val)]]) (Kp:=KpB w.heap.size (w1.heap.size + 1)) (S:=fun ys => ys = List.finRange l0_0.length) (Sp:=fun _ => True) (N:=l0_0.length) (w0:=W2)
  (fun l J Jx W hW hJ hJx hY h0 => e_n 8 (by omega) l (w1.heap.size + 1) w.heap.size A0_0 ad c0_0 l0_0 a0_1 hl am cm J Jx hY w W hJ rfl (nB.out.trans (hW.mono nB.out.size)) hAA.out ((hW.block _ (a_J n1.out)).trans n1.out) HMS.out hc0_0 HR.out h0)
  (fun h k => ⟨h.1.trans k.1,k.2.trans h.2⟩) (fun W l o o' hl' hh hc hk => ⟨belowK_b (w:=W2) nB.out.size W l o o' hl' hh hc hk,(grownBy_putObj' W l o').block _ (by have:=a_J hh;omega) (by intro e;cases e;omega)⟩) (Below.refl _ _) (fun _ => rfl)
  (fun pre W => RanI w w1 a1 a2 a3 ((pre.map (·.val)).foldl (ranB l0_0 a0_1 a1 a2 a3) 0) W)
  (fun _ _ _ => False)
  (fun s A B row hs hg hr => ⟨d_x hs.b0 hg hr,d_x hs.b1 hg hr,d_x hs.b2 hg hr,d_x hs.b3 hg hr,Nat.lt_of_lt_of_le hs.b4 hg.size,hs.below.grown hg hs.below.size (fun k e => Nat.le_trans nB.out.size (hr k e).1)⟩)
  (fun _ _ _ _ _ hs _ _ => hs)
  ⟨n0.out,n2.out,n3.out,n4.out,by omega,nB.out⟩
  (fun x a' W => ∃ Bm Bs : Nat,W.heap[Bm]? = some (.cells #[.int .i64 (a_p l0_0 (x.val : Int)).f0,.slice (am x.val) (a_p l0_0 (x.val : Int)).f1.length (cm x.val)] 27 (0,0)) ∧ W.heap[Bs]? = some (.cells #[.int .i64 (a_p l0_0 (x.val : Int)).f0,.int .i64 (b_4 l0_0 a0_1 x.val)] 46 (0,0)) ∧ a' = { tmps:=#[.agg #[.slice A0_0 l0_0.length c0_0,.int .i64 a0_1],.int .i64 a1,.int .i64 a2,.int .i64 a3,.pointer (some ⟨w.heap.size,0,none⟩),.pointer (some ⟨w.heap.size + 1,0,none⟩),.pointer (some ⟨w.heap.size + 1 + 1,0,none⟩),.pointer (some ⟨w.heap.size + 1 + 1 + 1,0,none⟩),.int .i64 0,.int .i64 0,.pointer (some ⟨w1.heap.size,0,none⟩),.pointer (some ⟨Bm,0,none⟩),.pointer (some ⟨Bs,0,none⟩),undef,undef,.bool false,.agg #[.slice A0_0 l0_0.length c0_0,.int .i64 a0_1],.int .i64 0,.bool false,.bool false,.int .i64 a2,.bool false,.bool false,.int .i64 a3,.bool false,.bool false,.bool false,.int .i64 a2,.int .i64 a3,.bool false,.bool false,.agg #[.slice A0_0 l0_0.length c0_0,.int .i64 a0_1],.func (.func 55) #[] #[.pointer (some ⟨w1.heap.size + 1,0,none⟩)],momV l0_0 am cm x.val,.agg #[.int .i64 (a_p l0_0 (x.val : Int)).f0,.int .i64 (b_4 l0_0 a0_1 x.val)],undef,undef,undef,undef,undef,undef,undef,undef,undef,undef,undef,undef,undef,undef,undef,undef,undef,undef,undef,undef,undef,undef,undef,undef,undef],defers:=[] })
  (fun x a' s A B row hs hg hr => by obtain ⟨Bm,Bs,h1,h2,h3⟩:=hs;exact ⟨Bm,Bs,d_x h1 hg hr,d_x h2 hg hr,h3⟩) ?assign ?body ?done ?stop
 case assign =>
  rintro l pre x W K ⟨b0,b1,b2,b3,b4,hB⟩ hK
  simp only [momV]
  have i0:=a_c.mk b0
  have i1:=a_c.mk b1
  have i2:=a_c.mk b2
  have i3:=a_c.mk b3
  have iB:=a_c.mk hB
  have iK:=a_c.mk hK
  clear b0 b1 b2 b3 hB hK
  gi_wp2
  have u:=a_g (a_g (Below.refl W.heap.size W) (.cells #[.int .i64 (a_p l0_0 (x.val : Int)).f0,.slice (am x.val) (a_p l0_0 (x.val : Int)).f1.length (cm x.val)] 27)) (.cells #[.int .i64 (a_p l0_0 (x.val : Int)).f0,.int .i64 (b_4 l0_0 a0_1 x.val)] 46)
  exact iK.out _ _ (b_G u) ⟨u.mono iB.out.size,u.block _ b4⟩ ⟨a_m i0.out u,a_m i1.out u,a_m i2.out u,a_m i3.out u,Nat.lt_of_lt_of_le b4 u.size,iB.out.trans (u.mono iB.out.size)⟩ ⟨_,_,a_i (c_D W _) _,by have:=c_D (W.alloc (.cells #[.int .i64 (a_p l0_0 (x.val : Int)).f0,.slice (am x.val) (a_p l0_0 (x.val : Int)).f1.length (cm x.val)] 27)) (.cells #[.int .i64 (a_p l0_0 (x.val : Int)).f0,.int .i64 (b_4 l0_0 a0_1 x.val)] 46);rwa [World.size_alloc] at this,rfl⟩
 case body =>
  rintro l pre x a' W hl' _ ⟨b0,b1,b2,b3,b4,hB⟩ ⟨Bm,Bs,bm,bs,rfl⟩ hlt
  simp only [momV]
  have hmx:=HMS.out x.val x.isLt
  have hsm : (a_p l0_0 (x.val : Int)).f1.length ≤ 1099511627776:=HM.out _ (by unfold a_p;simp)
  have IF:=a_c.mk (i_B (a_p l0_0 (x.val : Int)).f0 (a_p l0_0 (x.val : Int)).f1 a1 hsm)
  have iC:=a_c.mk (Kd.a_U hmx.2.2.2 hB)
  have iL:=hmx.2.2.1
  clear hmx hsm
  have c0:=(a_a bm 0).trans rfl
  have c1:=(a_a bm 1).trans rfl
  have c2:=(a_a b1 0).trans rfl
  have iN : ((pre ++ [x]).map (·.val)).foldl (ranB l0_0 a0_1 a1 a2 a3) 0 = ranB l0_0 a0_1 a1 a2 a3 ((pre.map (·.val)).foldl (ranB l0_0 a0_1 a1 a2 a3) 0) x.val:=by simp
  generalize hn : (pre.map (·.val)).foldl (ranB l0_0 a0_1 a1 a2 a3) 0 = nn at b0 iN
  clear hn
  have IN:=a_c.mk iN
  have i0:=a_c.mk b0
  have i1:=a_c.mk b1
  have i2:=a_c.mk b2
  have i3:=a_c.mk b3
  have is:=a_c.mk bs
  have iB:=a_c.mk hB
  clear b0 b1 b2 b3 hB bm bs iN
  cases hb : (a_O (a_p l0_0 (x.val : Int)).f1 a1).2 with
  | false =>
   rw [hb] at IF
   have IH:=a_c.mk hb
   clear hb
   gi_wp2_with (refine ⟨trivial,?_⟩;gi_at_call 29;refine (CallsIn.inRound l (callsIn_wide.2 (c_E.calls _ _ _ _ _ _ _ _ _ _ _ _ _ _ _ _ _ _ iC.out iL IF.out))).mono ?_;rintro e w' ⟨rfl,hb⟩;have IB2:=a_c.mk hb;clear hb)
   have u:=a_g IB2.out (.cells #[.int .i64 (a_O (a_p l0_0 (x.val : Int)).f1 a1).1.f0,.int .i64 (a_O (a_p l0_0 (x.val : Int)).f1 a1).1.f1,.int .i64 (a_O (a_p l0_0 (x.val : Int)).f1 a1).1.f2,.int .i64 (a_O (a_p l0_0 (x.val : Int)).f1 a1).1.f3,.int .i64 (a_O (a_p l0_0 (x.val : Int)).f1 a1).1.f4,.bool (a_O (a_p l0_0 (x.val : Int)).f1 a1).1.f5,.bool (a_O (a_p l0_0 (x.val : Int)).f1 a1).1.f6,.int .u32 (a_O (a_p l0_0 (x.val : Int)).f1 a1).1.f7,.int .i64 (a_O (a_p l0_0 (x.val : Int)).f1 a1).1.f8,.int .i64 (a_O (a_p l0_0 (x.val : Int)).f1 a1).1.f9,.int .i64 (a_O (a_p l0_0 (x.val : Int)).f1 a1).1.f10] 65)
   have e : ranB l0_0 a0_1 a1 a2 a3 nn x.val = nn:=by unfold ranB;rw [IH.out];simp
   exact ⟨b_G u,⟨u.mono iB.out.size,u.block _ b4⟩,⟨by rw [IN.out,e];exact a_m i0.out u,a_m i1.out u,a_m i2.out u,a_m i3.out u,Nat.lt_of_lt_of_le b4 u.size,iB.out.trans (u.mono iB.out.size)⟩⟩
  | true =>
   rw [hb] at IF
   have IH:=a_c.mk hb
   clear hb
   cases hd : decide (-1 < (a_O (a_p l0_0 (x.val : Int)).f1 a1).1.f4) with
   | false =>
    gi_wp2_with (refine ⟨trivial,?_⟩;gi_at_call 29;refine (CallsIn.inRound l (callsIn_wide.2 (c_E.calls _ _ _ _ _ _ _ _ _ _ _ _ _ _ _ _ _ _ iC.out iL IF.out))).mono ?_;rintro e w' ⟨rfl,hb⟩;have IB2:=a_c.mk hb;clear hb)
    have u:=a_g IB2.out (.cells #[.int .i64 (a_O (a_p l0_0 (x.val : Int)).f1 a1).1.f0,.int .i64 (a_O (a_p l0_0 (x.val : Int)).f1 a1).1.f1,.int .i64 (a_O (a_p l0_0 (x.val : Int)).f1 a1).1.f2,.int .i64 (a_O (a_p l0_0 (x.val : Int)).f1 a1).1.f3,.int .i64 (a_O (a_p l0_0 (x.val : Int)).f1 a1).1.f4,.bool (a_O (a_p l0_0 (x.val : Int)).f1 a1).1.f5,.bool (a_O (a_p l0_0 (x.val : Int)).f1 a1).1.f6,.int .u32 (a_O (a_p l0_0 (x.val : Int)).f1 a1).1.f7,.int .i64 (a_O (a_p l0_0 (x.val : Int)).f1 a1).1.f8,.int .i64 (a_O (a_p l0_0 (x.val : Int)).f1 a1).1.f9,.int .i64 (a_O (a_p l0_0 (x.val : Int)).f1 a1).1.f10] 65)
    have e : ranB l0_0 a0_1 a1 a2 a3 nn x.val = nn:=by unfold ranB;rw [if_neg (fun h => of_decide_eq_false hd h.2)]
    exact ⟨b_G u,⟨u.mono iB.out.size,u.block _ b4⟩,⟨by rw [IN.out,e];exact a_m i0.out u,a_m i1.out u,a_m i2.out u,a_m i3.out u,Nat.lt_of_lt_of_le b4 u.size,iB.out.trans (u.mono iB.out.size)⟩⟩
   | true =>
    gi_wp2_with (refine ⟨trivial,?_⟩;gi_at_call 29;refine (CallsIn.inRound l (callsIn_wide.2 (c_E.calls _ _ _ _ _ _ _ _ _ _ _ _ _ _ _ _ _ _ iC.out iL IF.out))).mono ?_;rintro e w' ⟨rfl,hb⟩;have s0 : w'.cell? ⟨Bs,0,none⟩ = some (.int .i64 (a_p l0_0 (x.val : Int)).f0):=(a_a (a_m is.out hb) 0).trans rfl;have s1 : w'.cell? ⟨Bs,1,none⟩ = some (.int .i64 (b_4 l0_0 a0_1 x.val)):=(a_a (a_m is.out hb) 1).trans rfl;have s2 : w'.cell? ⟨w1.heap.size,0,none⟩ = some (.int .i64 nn):=(a_a (a_m i0.out hb) 0).trans rfl;have s3 : w'.cell? ⟨w.heap.size + 1 + 1,0,none⟩ = some (.int .i64 a2):=(a_a (a_m i2.out hb) 0).trans rfl;have s4 : w'.cell? ⟨w.heap.size + 1 + 1 + 1,0,none⟩ = some (.int .i64 a3):=(a_a (a_m i3.out hb) 0).trans rfl;have sf:=a_e (a_m i0.out hb) 0;have y0:=a_J (a_m is.out hb);have y1:=a_J (a_m i0.out hb);have y2:=a_J (a_m i2.out hb);have y3:=a_J (a_m i3.out hb);have IB2:=a_c.mk hb;clear hb)
    all_goals
     have key : ∀ (B : Nat) (v : Int),ranB l0_0 a0_1 a1 a2 a3 nn x.val = v → KeepsFrom B W ((w'.setCell ⟨w1.heap.size,0,none⟩ (.int .i64 v)).alloc (.cells #[.int .i64 (a_O (a_p l0_0 (x.val : Int)).f1 a1).1.f0,.int .i64 (a_O (a_p l0_0 (x.val : Int)).f1 a1).1.f1,.int .i64 (a_O (a_p l0_0 (x.val : Int)).f1 a1).1.f2,.int .i64 (a_O (a_p l0_0 (x.val : Int)).f1 a1).1.f3,.int .i64 (a_O (a_p l0_0 (x.val : Int)).f1 a1).1.f4,.bool (a_O (a_p l0_0 (x.val : Int)).f1 a1).1.f5,.bool (a_O (a_p l0_0 (x.val : Int)).f1 a1).1.f6,.int .u32 (a_O (a_p l0_0 (x.val : Int)).f1 a1).1.f7,.int .i64 (a_O (a_p l0_0 (x.val : Int)).f1 a1).1.f8,.int .i64 (a_O (a_p l0_0 (x.val : Int)).f1 a1).1.f9,.int .i64 (a_O (a_p l0_0 (x.val : Int)).f1 a1).1.f10] 65)) ∧ KpB w.heap.size (w1.heap.size + 1) W ((w'.setCell ⟨w1.heap.size,0,none⟩ (.int .i64 v)).alloc (.cells #[.int .i64 (a_O (a_p l0_0 (x.val : Int)).f1 a1).1.f0,.int .i64 (a_O (a_p l0_0 (x.val : Int)).f1 a1).1.f1,.int .i64 (a_O (a_p l0_0 (x.val : Int)).f1 a1).1.f2,.int .i64 (a_O (a_p l0_0 (x.val : Int)).f1 a1).1.f3,.int .i64 (a_O (a_p l0_0 (x.val : Int)).f1 a1).1.f4,.bool (a_O (a_p l0_0 (x.val : Int)).f1 a1).1.f5,.bool (a_O (a_p l0_0 (x.val : Int)).f1 a1).1.f6,.int .u32 (a_O (a_p l0_0 (x.val : Int)).f1 a1).1.f7,.int .i64 (a_O (a_p l0_0 (x.val : Int)).f1 a1).1.f8,.int .i64 (a_O (a_p l0_0 (x.val : Int)).f1 a1).1.f9,.int .i64 (a_O (a_p l0_0 (x.val : Int)).f1 a1).1.f10] 65)) ∧ RanI w w1 a1 a2 a3 (((pre ++ [x]).map (·.val)).foldl (ranB l0_0 a0_1 a1 a2 a3) 0) ((w'.setCell ⟨w1.heap.size,0,none⟩ (.int .i64 v)).alloc (.cells #[.int .i64 (a_O (a_p l0_0 (x.val : Int)).f1 a1).1.f0,.int .i64 (a_O (a_p l0_0 (x.val : Int)).f1 a1).1.f1,.int .i64 (a_O (a_p l0_0 (x.val : Int)).f1 a1).1.f2,.int .i64 (a_O (a_p l0_0 (x.val : Int)).f1 a1).1.f3,.int .i64 (a_O (a_p l0_0 (x.val : Int)).f1 a1).1.f4,.bool (a_O (a_p l0_0 (x.val : Int)).f1 a1).1.f5,.bool (a_O (a_p l0_0 (x.val : Int)).f1 a1).1.f6,.int .u32 (a_O (a_p l0_0 (x.val : Int)).f1 a1).1.f7,.int .i64 (a_O (a_p l0_0 (x.val : Int)).f1 a1).1.f8,.int .i64 (a_O (a_p l0_0 (x.val : Int)).f1 a1).1.f9,.int .i64 (a_O (a_p l0_0 (x.val : Int)).f1 a1).1.f10] 65))   := fun B v e => by
      have u0:=IB2.out
      have h1 : Below w.heap.size W (w'.setCell ⟨w1.heap.size,0,none⟩ (.int .i64 v)):=(u0.mono iB.out.size).setCell (p:=⟨w1.heap.size,0,none⟩) hws _
      have h2:=h1.alloc (Nat.le_trans iB.out.size h1.size) (.cells #[.int .i64 (a_O (a_p l0_0 (x.val : Int)).f1 a1).1.f0,.int .i64 (a_O (a_p l0_0 (x.val : Int)).f1 a1).1.f1,.int .i64 (a_O (a_p l0_0 (x.val : Int)).f1 a1).1.f2,.int .i64 (a_O (a_p l0_0 (x.val : Int)).f1 a1).1.f3,.int .i64 (a_O (a_p l0_0 (x.val : Int)).f1 a1).1.f4,.bool (a_O (a_p l0_0 (x.val : Int)).f1 a1).1.f5,.bool (a_O (a_p l0_0 (x.val : Int)).f1 a1).1.f6,.int .u32 (a_O (a_p l0_0 (x.val : Int)).f1 a1).1.f7,.int .i64 (a_O (a_p l0_0 (x.val : Int)).f1 a1).1.f8,.int .i64 (a_O (a_p l0_0 (x.val : Int)).f1 a1).1.f9,.int .i64 (a_O (a_p l0_0 (x.val : Int)).f1 a1).1.f10] 65)
      refine ⟨((b_G u0).trans ((KeepsOthers.setCell w' ⟨w1.heap.size,0,none⟩ (.int .i64 v)).from _)).trans ((KeepsOthers.alloc _ _).from _),⟨h2,?_⟩,⟨a_i (by rw [IN.out,e];exact a_E (a_m i0.out u0) 0 _ rfl) _,a_i (a_I (a_m i1.out u0) (by show w.heap.size + 1 ≠ w1.heap.size;omega) _) _,a_i (a_I (a_m i2.out u0) (by show w.heap.size + 1 + 1 ≠ w1.heap.size;omega) _) _,a_i (a_I (a_m i3.out u0) (by show w.heap.size + 1 + 1 + 1 ≠ w1.heap.size;omega) _) _,Nat.lt_of_lt_of_le b4 h2.size,iB.out.trans h2⟩⟩
      rw [Below.heap_alloc _ _ _ (by have:=u0.size;simp only [World.setCell,Array.size_modify];omega),Below.heap_setCell _ _ _ _ (by show w1.heap.size + 1 ≠ w1.heap.size;omega)]
      exact u0.block _ b4
     refine key _ _ ?_
     unfold ranB
     rw [if_pos ⟨IH.out,of_decide_eq_true hd⟩]
     (first|rw [n_6 (by assumption)]|rw [n_X (by assumption)])
     (first|rw [l_V (a:=(a_p l0_0 (x.val : Int)).f0) (by assumption)]|rw [l_Q (a:=(a_p l0_0 (x.val : Int)).f0) (by assumption)])
     (first|rw [l_V (by assumption),Int.add_zero]|rw [l_Q (by assumption)])
 case done =>
  rintro D ys W hD rfl ⟨b0,b1,b2,b3,b4,hB⟩ hK
  have hv : ((List.finRange l0_0.length).map (·.val)).foldl (ranB l0_0 a0_1 a1 a2 a3) 0 = (List.range l0_0.length).foldl (ranB l0_0 a0_1 a1 a2 a3) 0:=by
   congr 1
   apply List.ext_getElem
   ·simp
   intro i h1 h2;simp
  rw [hv] at b0
  have c0 : W.cell? ⟨w1.heap.size,0,none⟩ = some (.int .i64 ((List.range l0_0.length).foldl (ranB l0_0 a0_1 a1 a2 a3) 0)):=(a_a b0 0).trans rfl
  clear b0 b1 b2 b3 hv
  gi_wp2
  refine ⟨by simp,.inl ⟨_,_,rfl,run_takeDeferred hK,?_⟩⟩
  exact ⟨.tuple #[.int .i64 ((List.range l0_0.length).foldl (ranB l0_0 a0_1 a1 a2 a3) 0),.int .i64 0],by simp [results,Try.results16,go_sem],rfl,hB.trans (belowK_b (w:=w) (Nat.le_refl _) W D _ _ (by have:=nB.out.size;omega) hK rfl rfl)⟩
 case stop =>
  rintro D c pre W _ _ h _
  exact h.elim
set_option maxHeartbeats 2000000 in
theorem a_H.errs (k : Nat) (A0_0 : Option Addr) (c0_0 : Nat) (l0_0 : List S27) (a0_1 a1 a2 a3 : Int) (e r : Int) (w : World) (hr0_0 : Kd.C k27 w A0_0 l0_0.length l0_0) (hc0_0 : l0_0.length ≤ c0_0) (he : a_t.f k l0_0 a0_1 = some e) (hr : (e ≠ 0 ∧ r = 390) ∨ (e = 0 ∧ (a2 < 0 ∨ 1125899906842624 < a3 ∨ a3 < a2) ∧ r = 2)) :
 Calls Try.prog 16 #[.agg #[.slice A0_0 l0_0.length c0_0,.int .i64 a0_1],.int .i64 a1,.int .i64 a2,.int .i64 a3] w fun e w' => e = .returned (.tuple #[.int .i64 0,.int .i64 r]) ∧ Below w.heap.size w w':=by
 have HR:=a_c.mk hr0_0
 have HE:=a_c.mk he
 clear hr0_0 he
 have q2:=a_c.mk (a_i (c_D ((w.alloc (.cells #[.slice A0_0 l0_0.length c0_0,.int .i64 a0_1] 24)).alloc (.cells #[.int .i64 a1] 3)) (.cells #[.int .i64 a2] 2)) (.cells #[.int .i64 a3] 2))
 have q3:=a_c.mk (c_D (((w.alloc (.cells #[.slice A0_0 l0_0.length c0_0,.int .i64 a0_1] 24)).alloc (.cells #[.int .i64 a1] 3)).alloc (.cells #[.int .i64 a2] 2)) (.cells #[.int .i64 a3] 2))
 have qB:=a_c.mk (a_g (a_g (a_g (a_g (Below.refl w.heap.size w) (.cells #[.slice A0_0 l0_0.length c0_0,.int .i64 a0_1] 24)) (.cells #[.int .i64 a1] 3)) (.cells #[.int .i64 a2] 2)) (.cells #[.int .i64 a3] 2))
 simp only [World.size_alloc] at q2 q3
 rcases hr with ⟨h1,rfl⟩ | ⟨rfl,h2,rfl⟩
 ·have g0 : (e != 0) = true:=bne_iff_ne.mpr h1
  clear h1
  go_enter Try.func16,Try.ntmps16
  go_wp2_with (go_at_call 14;refine (a_t.calls k _ _ l0_0 a0_1 e _ ?s1 hc0_0 HE.out).mono ?_;(case s1 => exact Kd.a_U HR.out qB.out);rintro e w1 ⟨rfl,hb⟩;have HB:=a_c.mk (a_o qB.out hb);clear hb)
  go_ret2
  exact ⟨rfl,HB.out⟩
 have key : ∀ b1 b2 b3 : Bool,decide (a2 < 0) = b1 → decide (1125899906842624 < a3) = b2 → decide (a3 < a2) = b3 → (b1 || b2 || b3) = true → Calls Try.prog 16 #[.agg #[.slice A0_0 l0_0.length c0_0,.int .i64 a0_1],.int .i64 a1,.int .i64 a2,.int .i64 a3] w fun e w' => e = .returned (.tuple #[.int .i64 0,.int .i64 2]) ∧ Below w.heap.size w w':=by
  intro b1 b2 b3 g1 g2 g3 hor
  cases b1 <;> cases b2 <;> cases b3 <;> first|(exact absurd hor (by decide))|skip
  all_goals
   clear hor
   go_enter Try.func16,Try.ntmps16
   go_wp2_with (go_at_call 14;refine (a_t.calls k _ _ l0_0 a0_1 0 _ ?s1 hc0_0 HE.out).mono ?_;(case s1 => exact Kd.a_U HR.out qB.out);rintro e w1 ⟨rfl,hb⟩;have HB:=a_c.mk (a_o qB.out hb);have p2:=a_c.mk (a_m q2.out hb);have p3:=a_c.mk (a_m q3.out hb);clear hb;have r2 : w1.cell? ⟨w.heap.size + 1 + 1,0,none⟩ = some (.int .i64 a2):=(a_a p2.out 0).trans rfl;have r3 : w1.cell? ⟨w.heap.size + 1 + 1 + 1,0,none⟩ = some (.int .i64 a3):=(a_a p3.out 0).trans rfl)
   go_ret2
   exact ⟨rfl,HB.out⟩
 refine key _ _ _ rfl rfl rfl ?_
 simp only [Bool.or_eq_true,decide_eq_true_eq]
 omega
theorem a_H.calls (k : Nat) (A0_0 : Option Addr) (c0_0 : Nat) (l0_0 : List S27) (a0_1 a1 a2 a3 : Int) (r1 r2 : Int) (w : World) (hr0_0 : Kd.C k27 w A0_0 l0_0.length l0_0) (hc0_0 : l0_0.length ≤ c0_0) (h : a_H.f k l0_0 a0_1 a1 a2 a3 = some (r1,r2)) :
 Calls Try.prog 16 #[.agg #[.slice A0_0 l0_0.length c0_0,.int .i64 a0_1],.int .i64 a1,.int .i64 a2,.int .i64 a3] w fun e w' => e = .returned (.tuple #[.int .i64 r1,.int .i64 r2]) ∧ Below w.heap.size w w':=by
 obtain ⟨e,he,h⟩:=Option.bind_eq_some_iff.mp h
 by_cases h0 : e = 0
 rotate_left
 ·rw [if_neg h0] at h;cases h
  exact a_H.errs k A0_0 c0_0 l0_0 a0_1 a1 a2 a3 e 390 w hr0_0 hc0_0 he (.inl ⟨h0,rfl⟩)
 rw [if_pos h0] at h
 subst h0
 by_cases h1 : a2 < 0
 ·rw [if_pos h1] at h;cases h
  exact a_H.errs k A0_0 c0_0 l0_0 a0_1 a1 a2 a3 0 2 w hr0_0 hc0_0 he (.inr ⟨rfl,.inl h1,rfl⟩)
 rw [if_neg h1] at h
 by_cases h2 : 1125899906842624 < a3
 ·rw [if_pos h2] at h;cases h
  exact a_H.errs k A0_0 c0_0 l0_0 a0_1 a1 a2 a3 0 2 w hr0_0 hc0_0 he (.inr ⟨rfl,.inr (.inl h2),rfl⟩)
 rw [if_neg h2] at h
 by_cases h3 : a3 < a2
 ·rw [if_pos h3] at h;cases h
  exact a_H.errs k A0_0 c0_0 l0_0 a0_1 a1 a2 a3 0 2 w hr0_0 hc0_0 he (.inr ⟨rfl,.inr (.inr h3),rfl⟩)
 rw [if_neg h3] at h
 by_cases h4 : l0_0.length ≤ 4398046511104 ∧ ∀ m ∈ l0_0,m.f1.length ≤ 1099511627776
 ·rw [if_pos h4] at h;cases h
  exact a_H.sums k A0_0 c0_0 l0_0 a0_1 a1 a2 a3 w hr0_0 hc0_0 he h1 h2 h3 h4.1 h4.2
 rw [if_neg h4] at h;cases h
end
end Go.Proofs.Ytgglkfilkagblaa.Q
end
section
namespace Go.Proofs.Ytgglkfilkagblaa.Q
open Go.RowKit Go.Proofs.YtgglkfilkagblaaW.PrintWords Go.Proofs.YtgglkfilkagblaaW.PrintLast Go.Proofs.YtgglkfilkagblaaW.PrintMore
set_option linter.unusedVariables false
set_option linter.unusedSimpArgs false
def c_2.f (a0_0 : Int) (a0_1 : Int) (a0_2 : Int) (a0_3 : Int) (a0_4 : Int) (a0_5 : Bool) (a0_6 : Bool) (a0_7 : Int) (a0_8 : Int) (a0_9 : Int) (a0_10 : Int) : Option (Bool):=if a0_5 = true then (if a0_6 = true then (some false) else (if a0_2 = 0 then (some (a0_4 == (-1))) else (some false))) else (some false)
set_option maxHeartbeats 8000000 in
set_option maxRecDepth 100000 in
theorem c_2.calls (a0_0 : Int) (a0_1 : Int) (a0_2 : Int) (a0_3 : Int) (a0_4 : Int) (a0_5 : Bool) (a0_6 : Bool) (a0_7 : Int) (a0_8 : Int) (a0_9 : Int) (a0_10 : Int) (r : Bool) (w : World) (h : c_2.f a0_0 a0_1 a0_2 a0_3 a0_4 a0_5 a0_6 a0_7 a0_8 a0_9 a0_10 = some r) :
 Calls Try.prog 30 #[.agg #[.int .i64 a0_0,.int .i64 a0_1,.int .i64 a0_2,.int .i64 a0_3,.int .i64 a0_4,.bool a0_5,.bool a0_6,.int .u32 a0_7,.int .i64 a0_8,.int .i64 a0_9,.int .i64 a0_10]] w fun e w' => e = .returned (.bool r) ∧ Below w.heap.size w w':=by
 have hu65:=Try.underlying65
 have HB:=a_c.mk (Below.refl w.heap.size w)
 have H : (if a0_5 = true then (if a0_6 = true then (some false) else (if a0_2 = 0 then (some (a0_4 == (-1))) else (some false))) else (some false)) = some r:=h
 clear h
 by_cases c2 : a0_5 = true
 rotate_left
 ·replace c2:=Bool.eq_false_iff.mpr c2
  subst c2
  have H1 : (some false) = some r:=by rw [if_neg (show ¬ (false = true) by decide)] at H;exact H
  clear H
  have H:=H1
  clear H1
  obtain rfl:=Option.some.inj H
  go_enter Try.func30,Try.ntmps30
  go_wp2_with (first|((with_reducible refine a_M (N:=1) rfl ?_);refine a_G ?hg (N:=1) ?hd (cs:=#[.int .i64 a0_0,.int .i64 a0_1,.int .i64 a0_2,.int .i64 a0_3,.int .i64 a0_4,.bool false,.bool a0_6,.int .u32 a0_7,.int .i64 a0_8,.int .i64 a0_9,.int .i64 a0_10]) (t:=65) ?hr ?_;(case hd => rfl);(case hg => rfl);(case hr => first|(go_simp;done)|(go_simp;rfl));intro b_6 hg w11 hbox hb;have b_n:=a_c.mk (hbox);have n_o:=a_c.mk ((by rw [hg];exact (a_n (lup_ HB.out)) : w.heap.size ≤ b_6));have h_D:=a_c.mk ((by rw [hg];exact (a_n (lup_ HB.out)) : w.heap.size ≤ b_6));replace HB:=a_c.mk (a_o (lup_ HB.out) hb);clear hb hbox hg;have g_1 : w11.cell? ⟨b_6,0,none⟩ = some (.int .i64 a0_0):=(a_a b_n.out 0).trans rfl;have g_2 : w11.cell? ⟨b_6,1,none⟩ = some (.int .i64 a0_1):=(a_a b_n.out 1).trans rfl;have j_x : w11.cell? ⟨b_6,2,none⟩ = some (.int .i64 a0_2):=(a_a b_n.out 2).trans rfl;have j_y : w11.cell? ⟨b_6,3,none⟩ = some (.int .i64 a0_3):=(a_a b_n.out 3).trans rfl;have j_z : w11.cell? ⟨b_6,4,none⟩ = some (.int .i64 a0_4):=(a_a b_n.out 4).trans rfl;have j_A : w11.cell? ⟨b_6,5,none⟩ = some (.bool false):=(a_a b_n.out 5).trans rfl;have j_B : w11.cell? ⟨b_6,6,none⟩ = some (.bool a0_6):=(a_a b_n.out 6).trans rfl;have j_C : w11.cell? ⟨b_6,7,none⟩ = some (.int .u32 a0_7):=(a_a b_n.out 7).trans rfl;have j_D : w11.cell? ⟨b_6,8,none⟩ = some (.int .i64 a0_8):=(a_a b_n.out 8).trans rfl;have j_E : w11.cell? ⟨b_6,9,none⟩ = some (.int .i64 a0_9):=(a_a b_n.out 9).trans rfl;have i_d : w11.cell? ⟨b_6,10,none⟩ = some (.int .i64 a0_10):=(a_a b_n.out 10).trans rfl;have g_3:=a_e b_n.out 0;have g_4:=a_e b_n.out 1;have j_F:=a_e b_n.out 2;have j_G:=a_e b_n.out 3;have j_H:=a_e b_n.out 4;have j_I:=a_e b_n.out 5;have j_J:=a_e b_n.out 6;have j_K:=a_e b_n.out 7;have j_L:=a_e b_n.out 8;have j_M:=a_e b_n.out 9;have i_e:=a_e b_n.out 10))
  go_ret
  exact ⟨by first|rfl|(simp [a_v,a_u] <;> rfl)|(simp [*, a_v,a_u] <;> rfl),by repeat (first|(with_reducible first|exact HB.out|apply a_g|apply a_b|apply a_h|refine a_f ?_ h_D.out)|exact HB.out)⟩
 subst c2
 have H1 : (if a0_6 = true then (some false) else (if a0_2 = 0 then (some (a0_4 == (-1))) else (some false))) = some r:=by rw [if_pos rfl] at H;exact H
 clear H
 have H:=H1
 clear H1
 by_cases c3 : a0_6 = true
 ·subst c3
  have H1 : (some false) = some r:=by rw [if_pos rfl] at H;exact H
  clear H
  have H:=H1
  clear H1
  obtain rfl:=Option.some.inj H
  go_enter Try.func30,Try.ntmps30
  go_wp2_with (first|((with_reducible refine a_M (N:=1) rfl ?_);refine a_G ?hg (N:=1) ?hd (cs:=#[.int .i64 a0_0,.int .i64 a0_1,.int .i64 a0_2,.int .i64 a0_3,.int .i64 a0_4,.bool true,.bool true,.int .u32 a0_7,.int .i64 a0_8,.int .i64 a0_9,.int .i64 a0_10]) (t:=65) ?hr ?_;(case hd => rfl);(case hg => rfl);(case hr => first|(go_simp;done)|(go_simp;rfl));intro b_6 hg w4 hbox hb;have b_n:=a_c.mk (hbox);have n_o:=a_c.mk ((by rw [hg];exact (a_n (lup_ HB.out)) : w.heap.size ≤ b_6));have h_D:=a_c.mk ((by rw [hg];exact (a_n (lup_ HB.out)) : w.heap.size ≤ b_6));replace HB:=a_c.mk (a_o (lup_ HB.out) hb);clear hb hbox hg;have g_F : w4.cell? ⟨b_6,0,none⟩ = some (.int .i64 a0_0):=(a_a b_n.out 0).trans rfl;have g_G : w4.cell? ⟨b_6,1,none⟩ = some (.int .i64 a0_1):=(a_a b_n.out 1).trans rfl;have s_7 : w4.cell? ⟨b_6,2,none⟩ = some (.int .i64 a0_2):=(a_a b_n.out 2).trans rfl;have s_8 : w4.cell? ⟨b_6,3,none⟩ = some (.int .i64 a0_3):=(a_a b_n.out 3).trans rfl;have s_9 : w4.cell? ⟨b_6,4,none⟩ = some (.int .i64 a0_4):=(a_a b_n.out 4).trans rfl;have t_a : w4.cell? ⟨b_6,5,none⟩ = some (.bool true):=(a_a b_n.out 5).trans rfl;have t_b : w4.cell? ⟨b_6,6,none⟩ = some (.bool true):=(a_a b_n.out 6).trans rfl;have t_c : w4.cell? ⟨b_6,7,none⟩ = some (.int .u32 a0_7):=(a_a b_n.out 7).trans rfl;have t_d : w4.cell? ⟨b_6,8,none⟩ = some (.int .i64 a0_8):=(a_a b_n.out 8).trans rfl;have t_e : w4.cell? ⟨b_6,9,none⟩ = some (.int .i64 a0_9):=(a_a b_n.out 9).trans rfl;have q_T : w4.cell? ⟨b_6,10,none⟩ = some (.int .i64 a0_10):=(a_a b_n.out 10).trans rfl;have g_H:=a_e b_n.out 0;have g_I:=a_e b_n.out 1;have t_f:=a_e b_n.out 2;have t_g:=a_e b_n.out 3;have t_h:=a_e b_n.out 4;have t_i:=a_e b_n.out 5;have t_j:=a_e b_n.out 6;have t_k:=a_e b_n.out 7;have t_l:=a_e b_n.out 8;have t_m:=a_e b_n.out 9;have q_U:=a_e b_n.out 10))
  go_ret
  exact ⟨by first|rfl|(simp [a_v,a_u] <;> rfl)|(simp [*, a_v,a_u] <;> rfl),by repeat (first|(with_reducible first|exact HB.out|apply a_g|apply a_b|apply a_h|refine a_f ?_ h_D.out)|exact HB.out)⟩
 replace c3:=Bool.eq_false_iff.mpr c3
 subst c3
 have H1 : (if a0_2 = 0 then (some (a0_4 == (-1))) else (some false)) = some r:=by rw [if_neg (show ¬ (false = true) by decide)] at H;exact H
 clear H
 have H:=H1
 clear H1
 by_cases c6 : a0_2 = 0
 ·rw [if_pos c6] at H
  have c6b0 : (a0_2 == 0) = true:=beq_iff_eq.mpr c6
  have c6b1 : (a0_2 != 0) = false:=bne_eq_false_iff_eq.mpr c6
  clear c6
  obtain rfl:=Option.some.inj H
  go_enter Try.func30,Try.ntmps30
  go_wp2_with (first|((with_reducible refine a_M (N:=1) rfl ?_);refine a_G ?hg (N:=1) ?hd (cs:=#[.int .i64 a0_0,.int .i64 a0_1,.int .i64 a0_2,.int .i64 a0_3,.int .i64 a0_4,.bool true,.bool false,.int .u32 a0_7,.int .i64 a0_8,.int .i64 a0_9,.int .i64 a0_10]) (t:=65) ?hr ?_;(case hd => rfl);(case hg => rfl);(case hr => first|(go_simp;done)|(go_simp;rfl));intro b_6 hg w7 hbox hb;have b_n:=a_c.mk (hbox);have n_o:=a_c.mk ((by rw [hg];exact (a_n (lup_ HB.out)) : w.heap.size ≤ b_6));have h_D:=a_c.mk ((by rw [hg];exact (a_n (lup_ HB.out)) : w.heap.size ≤ b_6));replace HB:=a_c.mk (a_o (lup_ HB.out) hb);clear hb hbox hg;have j_U : w7.cell? ⟨b_6,0,none⟩ = some (.int .i64 a0_0):=(a_a b_n.out 0).trans rfl;have j_V : w7.cell? ⟨b_6,1,none⟩ = some (.int .i64 a0_1):=(a_a b_n.out 1).trans rfl;have t_n : w7.cell? ⟨b_6,2,none⟩ = some (.int .i64 a0_2):=(a_a b_n.out 2).trans rfl;have t_o : w7.cell? ⟨b_6,3,none⟩ = some (.int .i64 a0_3):=(a_a b_n.out 3).trans rfl;have t_p : w7.cell? ⟨b_6,4,none⟩ = some (.int .i64 a0_4):=(a_a b_n.out 4).trans rfl;have t_q : w7.cell? ⟨b_6,5,none⟩ = some (.bool true):=(a_a b_n.out 5).trans rfl;have t_r : w7.cell? ⟨b_6,6,none⟩ = some (.bool false):=(a_a b_n.out 6).trans rfl;have t_s : w7.cell? ⟨b_6,7,none⟩ = some (.int .u32 a0_7):=(a_a b_n.out 7).trans rfl;have t_t : w7.cell? ⟨b_6,8,none⟩ = some (.int .i64 a0_8):=(a_a b_n.out 8).trans rfl;have t_u : w7.cell? ⟨b_6,9,none⟩ = some (.int .i64 a0_9):=(a_a b_n.out 9).trans rfl;have q_V : w7.cell? ⟨b_6,10,none⟩ = some (.int .i64 a0_10):=(a_a b_n.out 10).trans rfl;have j_W:=a_e b_n.out 0;have j_X:=a_e b_n.out 1;have t_v:=a_e b_n.out 2;have t_w:=a_e b_n.out 3;have t_x:=a_e b_n.out 4;have t_y:=a_e b_n.out 5;have t_z:=a_e b_n.out 6;have t_A:=a_e b_n.out 7;have t_B:=a_e b_n.out 8;have t_C:=a_e b_n.out 9;have q_W:=a_e b_n.out 10))
  go_ret
  exact ⟨by first|rfl|(simp [a_v,a_u] <;> rfl)|(simp [*, a_v,a_u] <;> rfl),by repeat (first|(with_reducible first|exact HB.out|apply a_g|apply a_b|apply a_h|refine a_f ?_ h_D.out)|exact HB.out)⟩
 rw [if_neg c6] at H
 have c6b0 : (a0_2 == 0) = false:=beq_eq_false_iff_ne.mpr c6
 have c6b1 : (a0_2 != 0) = true:=bne_iff_ne.mpr c6
 obtain rfl:=Option.some.inj H
 go_enter Try.func30,Try.ntmps30
 go_wp2_with (first|((with_reducible refine a_M (N:=1) rfl ?_);refine a_G ?hg (N:=1) ?hd (cs:=#[.int .i64 a0_0,.int .i64 a0_1,.int .i64 a0_2,.int .i64 a0_3,.int .i64 a0_4,.bool true,.bool false,.int .u32 a0_7,.int .i64 a0_8,.int .i64 a0_9,.int .i64 a0_10]) (t:=65) ?hr ?_;(case hd => rfl);(case hg => rfl);(case hr => first|(go_simp;done)|(go_simp;rfl));intro b_6 hg w9 hbox hb;have b_n:=a_c.mk (hbox);have n_o:=a_c.mk ((by rw [hg];exact (a_n (lup_ HB.out)) : w.heap.size ≤ b_6));have h_D:=a_c.mk ((by rw [hg];exact (a_n (lup_ HB.out)) : w.heap.size ≤ b_6));replace HB:=a_c.mk (a_o (lup_ HB.out) hb);clear hb hbox hg;have h_i : w9.cell? ⟨b_6,0,none⟩ = some (.int .i64 a0_0):=(a_a b_n.out 0).trans rfl;have h_j : w9.cell? ⟨b_6,1,none⟩ = some (.int .i64 a0_1):=(a_a b_n.out 1).trans rfl;have q_X : w9.cell? ⟨b_6,2,none⟩ = some (.int .i64 a0_2):=(a_a b_n.out 2).trans rfl;have q_Y : w9.cell? ⟨b_6,3,none⟩ = some (.int .i64 a0_3):=(a_a b_n.out 3).trans rfl;have q_Z : w9.cell? ⟨b_6,4,none⟩ = some (.int .i64 a0_4):=(a_a b_n.out 4).trans rfl;have q_0 : w9.cell? ⟨b_6,5,none⟩ = some (.bool true):=(a_a b_n.out 5).trans rfl;have q_1 : w9.cell? ⟨b_6,6,none⟩ = some (.bool false):=(a_a b_n.out 6).trans rfl;have q_2 : w9.cell? ⟨b_6,7,none⟩ = some (.int .u32 a0_7):=(a_a b_n.out 7).trans rfl;have q_3 : w9.cell? ⟨b_6,8,none⟩ = some (.int .i64 a0_8):=(a_a b_n.out 8).trans rfl;have q_4 : w9.cell? ⟨b_6,9,none⟩ = some (.int .i64 a0_9):=(a_a b_n.out 9).trans rfl;have o_5 : w9.cell? ⟨b_6,10,none⟩ = some (.int .i64 a0_10):=(a_a b_n.out 10).trans rfl;have h_k:=a_e b_n.out 0;have h_l:=a_e b_n.out 1;have q_5:=a_e b_n.out 2;have q_6:=a_e b_n.out 3;have q_7:=a_e b_n.out 4;have q_8:=a_e b_n.out 5;have q_9:=a_e b_n.out 6;have r_a:=a_e b_n.out 7;have r_b:=a_e b_n.out 8;have r_c:=a_e b_n.out 9;have o_6:=a_e b_n.out 10))
 go_ret
 exact ⟨by first|rfl|(simp [a_v,a_u] <;> rfl)|(simp [*, a_v,a_u] <;> rfl),by repeat (first|(with_reducible first|exact HB.out|apply a_g|apply a_b|apply a_h|refine a_f ?_ h_D.out)|exact HB.out)⟩
end Go.Proofs.Ytgglkfilkagblaa.Q
end
section
namespace Go.Proofs.Ytgglkfilkagblaa.Q
open Go.RowKit Go.Proofs.YtgglkfilkagblaaW.PrintWords Go.Proofs.YtgglkfilkagblaaW.PrintLast Go.Proofs.YtgglkfilkagblaaW.PrintMore
set_option linter.unusedVariables false
set_option linter.unusedSimpArgs false
section
attribute [local go_sem] Oper.semAt_some
def e_4 (x : S65) : Bool:=x.f5 && !x.f6 && x.f2 == 0 && x.f4 == -1
theorem l_F (x : S65) : c_2.f x.f0 x.f1 x.f2 x.f3 x.f4 x.f5 x.f6 x.f7 x.f8 x.f9 x.f10 = some (e_4 x):=by
 unfold c_2.f e_4
 cases x.f5 <;> cases x.f6 <;> simp
 by_cases h : x.f2 = 0 <;> simp [h]
def c_9 (xs : List S27) (en v : Int) (acc : List S46) (j : Nat) : List S46 :=
 if (a_O (a_p xs (j : Int)).f1 v).2 = true ∧ e_4 (a_O (a_p xs (j : Int)).f1 v).1 = true ∧ (a_p xs (j : Int)).f0 ≠ b_4 xs en j then
  (if 0 < acc.length ∧ (acc.getD (acc.length - 1) z46).f1 = (a_p xs (j : Int)).f0 then acc.set (acc.length - 1) ⟨(acc.getD (acc.length - 1) z46).f0,b_4 xs en j⟩
  else acc ++ [⟨(a_p xs (j : Int)).f0,b_4 xs en j⟩]) else acc
theorem g_C (xs : List S27) (en v : Int) (js : List Nat) (acc : List S46) : (js.foldl (c_9 xs en v) acc).length ≤ acc.length + js.length:=by
 induction js generalizing acc with
 | nil => simp
 | cons j js ih =>
  have:=ih (c_9 xs en v acc j)
  have h : (c_9 xs en v acc j).length ≤ acc.length + 1:=by unfold c_9;split <;> (try split) <;> simp
  simp only [List.foldl_cons,List.length_cons];omega
def a_W.f (k : Nat) (l0_0 : List S27) (a0_1 a1 : Int) : Option (List S46 × Int):=(a_t.f k l0_0 a0_1).bind fun e => if e = 0 then (if l0_0.length ≤ 4398046511104 ∧ ∀ m ∈ l0_0,m.f1.length ≤ 1099511627776 then some ((List.range l0_0.length).foldl (c_9 l0_0 a0_1 a1) [],0) else none) else some ([],e)
theorem a_W.mono : ∀ a0 a1 a2 k,LeO (a_W.f k a0 a1 a2) (a_W.f (k + 1) a0 a1 a2):=fun a0 a1 a2 k => LeO.bind (a_t.mono _ _ _) (fun _ => LeO.refl _)
def d_s (l : List S46) : List Value:=l.flatMap fun s => [.int .i64 s.f0,.int .i64 s.f1]
theorem g_n (l : List S46) : (d_s l).length = l.length * 2:=by
 induction l with
 | nil => rfl
 | cons s l ih => simp only [d_s,List.flatMap_cons,List.length_append,List.length_cons,List.length_nil] at ih ⊢; omega
theorem g_v (a b : List S46) : d_s (a ++ b) = d_s a ++ d_s b:=List.flatMap_append
theorem g_x (l : List S46) (i : Nat) (h : i < l.length) : (d_s l)[i * 2]? = some (.int .i64 (l.getD i z46).f0) ∧ (d_s l)[i * 2 + 1]? = some (.int .i64 (l.getD i z46).f1):=by
 induction l generalizing i with
 | nil => simp at h
 | cons s l ih =>
  cases i with
  | zero => exact ⟨rfl,rfl⟩
  | succ i =>
   have:=ih i (by simpa using h)
   have e : d_s (s :: l) = [.int .i64 s.f0,.int .i64 s.f1] ++ d_s l:=rfl
   rw [e,List.getElem?_append_right (by simp;omega),List.getElem?_append_right (by simp;omega),List.getD_cons_succ]
   simp only [List.length_cons,List.length_nil]
   rw [show (i + 1) * 2 - (0 + 1 + 1) = i * 2 by omega,show (i + 1) * 2 + 1 - (0 + 1 + 1) = i * 2 + 1 by omega]
   exact this
theorem i_M (l : List S46) (i : Nat) (h : i < l.length) (u : Int) : (d_s l).set (i * 2 + 1) (.int .i64 u) = d_s (l.set i ⟨(l.getD i z46).f0,u⟩):=by
 induction l generalizing i with
 | nil => simp at h
 | cons s l ih =>
  cases i with
  | zero => rfl
  | succ i =>
   have:=ih i (by simpa using h)
   have e : d_s (s :: l) = .int .i64 s.f0 :: .int .i64 s.f1 :: d_s l:=rfl
   rw [e,show (i + 1) * 2 + 1 = (i * 2 + 1) + 1 + 1 by omega,List.set_cons_succ,List.set_cons_succ,this]
   rfl
theorem e_x {W W' : World} {base n : Nat} {e : TypeId} {size : Nat} {v : Value} {xs : List Value} (h : W.ownsRow base e size v n xs) (hb : Below W.heap.size W W') : W'.ownsRow base e size v n xs :=
 h.kept (row:=none) ⟨hb.os,hb.tape,hb.output,hb.size,fun k hk _ => hb.block k hk⟩ (by rcases h.2 with ⟨rfl,_⟩ | ⟨g,cap,cur,rfl,_⟩;exact .inl rfl;exact .inr (by simp [Value.ownBlock]))
theorem m_p {W : World} {base n g cap : Nat} {e : TypeId} {size : Nat} {xs : List Value} (h : W.ownsRow base e size (.slice (some ⟨g,0,none⟩) n cap) n xs) (i : Nat) (hi : i < n * size) (u : Value) : (W.setCell ⟨g,i,none⟩ u).ownsRow base e size (.slice (some ⟨g,0,none⟩) n cap) n (xs.set i u):=by
 obtain ⟨h1,h2⟩:=h
 rcases h2 with ⟨h2,_⟩ | ⟨g',cap',cur,h2,h3,h4,h5,h6,h7,h8⟩
 ·cases h2
 cases h2
 refine ⟨by simpa using h1,.inr ⟨g,cap,cur.setIfInBounds i u,rfl,h3,i_H h4 i u,h5,h6,by simpa using h7,?_⟩⟩
 rw [Array.toList_setIfInBounds,List.take_set,h8]
theorem h_X {W : World} {base n g cap : Nat} {e : TypeId} {size : Nat} {xs : List Value} (h : W.ownsRow base e size (.slice (some ⟨g,0,none⟩) n cap) n xs) (i : Nat) (hi : i < n * size) : W.cell? ⟨g,i,none⟩ = xs[i]? ∧ W.frozen? ⟨g,i,none⟩ = false ∧ base ≤ g ∧ n ≤ cap:=by
 obtain ⟨h1,h2⟩:=h
 rcases h2 with ⟨h2,_⟩ | ⟨g',cap',cur,h2,h3,h4,h5,h6,h7,h8⟩
 ·cases h2
 cases h2
 refine ⟨(a_a h4 i).trans ?_,a_e h4 i,h3,h5⟩
 rw [← h8,List.getElem?_take_of_lt hi]
 simp
theorem i_D {W : World} {B t : Nat} {cs : Array Value} (h : W.heap[B]? = some (.cells cs t (0,0))) {e : TypeId} (hte : t ≠ e) {base size k : Nat} {v : Value} {xs : List Value} (hr : W.ownsRow base e size v k xs) : some B ≠ v.ownBlock:=by
 rcases hr.2 with ⟨rfl,_⟩ | ⟨g,cap,cur,rfl,_,hgb,_⟩
 ·simp [Value.ownBlock]
 intro e'
 obtain rfl : B = g:=by simpa [Value.ownBlock] using e'
 have:=h.symm.trans hgb
 simp at this
 exact hte this.2
theorem n_V {W : World} {base : Nat} {v : Value} {xs : List S46} (h : W.ownsRow base 46 2 v xs.length (d_s xs)) : Kd.R k46 46 W base (fun _ => True) v xs :=
 ⟨fun _ _ => trivial,d_s xs,h,(g_n xs).trans rfl,fun j p hj => by
  obtain ⟨hj',rfl⟩:=List.getElem?_eq_some_iff.mp hj
  have h2:=g_x xs j hj'
  have e : ((d_s xs).drop (j * 2)).take 2 = [.int .i64 xs[j].f0,.int .i64 xs[j].f1]:=by
   have g : xs.getD j z46 = xs[j]:=by simp [List.getD,hj']
   rw [g] at h2
   apply List.ext_getElem?
   intro i
   rcases i with _|_|i
   ·simpa [List.getElem?_take,List.getElem?_drop] using h2.1
   ·simpa [List.getElem?_take,List.getElem?_drop] using h2.2
   ·simp;omega
  show k46.M W base _ _ (((d_s xs).drop (j * 2)).take 2)
  rw [e];exact l_4 _ _ _ _⟩
structure e_h (w w1 : World) (a1 : Int) (acc : List S46) (W : World) : Prop where
 v : ∃ v,W.heap[w1.heap.size]? = some (.cells #[v] 41 (0,0)) ∧ W.ownsRow w.heap.size 46 2 v acc.length (d_s acc)
 b1 : W.heap[w.heap.size + 1]? = some (.cells #[.int .i64 a1] 3 (0,0))
 b4 : w1.heap.size + 1 < W.heap.size
 ga : ∃ cs,W.heap[w1.heap.size + 1]? = some (.cells cs 24 (0,0))
 below : Below w.heap.size w W
theorem e_h.bel {w w1 W W' : World} {a1 : Int} {acc : List S46} (h : e_h w w1 a1 acc W) (u : Below W.heap.size W W') : e_h w w1 a1 acc W':=by
 obtain ⟨⟨v,h1,h2⟩,h3,h4,⟨cs,h5⟩,h6⟩:=h
 exact ⟨⟨v,a_m h1 u,e_x h2 u⟩,a_m h3 u,Nat.lt_of_lt_of_le h4 u.size,⟨cs,a_m h5 u⟩,h6.trans (u.mono h6.size)⟩
theorem i_u (W : World) (a b : Value) (t : TypeId) : ∀ j u,[a,b][j]? = some u → (W.alloc (.cells #[a,b] t)).cell? ((⟨W.heap.size,0,none⟩ : Addr).add j) = some u:=by
 intro j u hj
 rcases j with _|_|j
 ·cases hj;exact (a_a (c_D W (.cells #[a,b] t)) 0).trans rfl
 ·cases hj;exact (a_a (c_D W (.cells #[a,b] t)) 1).trans rfl
 simp at hj
structure p_j (A : Act) (W' : World) (e : Exit) (a : Act) (w : World) : Prop where
 e : e = .normal
 a : a = A
 w : w = W'
theorem h_U {F : Fence} {n : Nat} {P : Program} {c : Code} {Q : Exit → Act → World → Prop} {a : Act} {w : World} (h : ∃ A W',c.wpIn F n P (p_j A W') a w ∧ Q .normal A W') : c.wpIn F n P Q a w:=by
 obtain ⟨A,W',h1,h2⟩:=h
 exact wpIn_mono h1 (by rintro e a w ⟨rfl,rfl,rfl⟩;exact h2)
theorem i_p (l : List S46) (f t : Int) : d_s (l ++ [⟨f,t⟩]) = d_s l ++ [.int .i64 f,.int .i64 t]:=g_v l [⟨f,t⟩]
theorem h_S {w w1 W w4 w5 : World} {a1 : Int} {acc : List S46} (iI : e_h w w1 a1 acc W) (hw : w.heap.size ≤ w1.heap.size) (u : Below W.heap.size W w4) {v v' : Value} (bv : W.heap[w1.heap.size]? = some (.cells #[v] 41 (0,0))) {n : Nat} (hn : acc.length = n) (hr : W.ownsRow w.heap.size 46 2 v n (d_s acc)) {f t : Int} {tmp : Obj}
 (hown' : w5.ownsRow w.heap.size 46 2 v' (n + 1) (d_s acc ++ [.int .i64 f,.int .i64 t])) (hgrow : (w4.alloc tmp).grownBy w5 v.ownBlock) :
 (w5.cell? ⟨w1.heap.size,0,none⟩ = some v ∧ w5.frozen? ⟨w1.heap.size,0,none⟩ = false) ∧ (∀ B,KeepsFrom B W (w5.setCell ⟨w1.heap.size,0,none⟩ v')) ∧ KpB w.heap.size (w1.heap.size + 1) W (w5.setCell ⟨w1.heap.size,0,none⟩ v') ∧ e_h w w1 a1 (acc ++ [⟨f,t⟩]) (w5.setCell ⟨w1.heap.size,0,none⟩ v'):=by
 subst hn
 obtain ⟨_,b1,b4,⟨cs,ga⟩,hB⟩:=iI
 have hb4 : Boxed w4 w1.heap.size 41 v:=a_m bv u
 have hr4:=e_x hr u
 obtain ⟨h1,h2,h3,h4,h5⟩:=hb4.appended (n₀:=w.heap.size) (by decide) hr4 (Nat.le_trans hB.size u.size) hw hown' hgrow
 have hB5 : Below w.heap.size W (w5.setCell ⟨w1.heap.size,0,none⟩ v'):=(u.mono hB.size).trans h5
 have far : ∀ {k : Nat} {cs : Array Value} {t : TypeId}, W.heap[k]? = some (.cells cs t (0,0)) → t ≠ 46 → k ≠ w1.heap.size → (w5.setCell ⟨w1.heap.size,0,none⟩ v').heap[k]? = some (.cells cs t (0,0)):=fun {k cs t} hk ht hne => by
  have k4:=a_m hk u
  rw [Below.heap_setCell _ _ _ _ hne,hgrow.block _ (by have:=a_J k4;simp only [World.size_alloc];omega) (i_D k4 ht hr4)]
  exact a_i k4 _
 refine ⟨⟨h1.cell,h1.frozen⟩,fun B => (b_G u).trans (h4.from B),⟨hB5,(far ga (by decide) (by omega)).trans ga.symm⟩,⟨⟨v',h2,by rw [i_p,List.length_append];exact h3⟩,far b1 (by decide) ?_,Nat.lt_of_lt_of_le b4 hB5.size,⟨cs,far ga (by decide) (by omega)⟩,hB.trans hB5⟩⟩
 intro e
 rw [e] at b1
 rw [bv] at b1
 simp at b1
theorem l_y {w w1 W w4 : World} {a1 : Int} {acc : List S46} (iI : e_h w w1 a1 acc W) (hw : w.heap.size ≤ w1.heap.size) (u : Below W.heap.size W w4) {g cap m : Nat} (bv : W.heap[w1.heap.size]? = some (.cells #[.slice (some ⟨g,0,none⟩) (m + 1) cap] 41 (0,0))) (hr : W.ownsRow w.heap.size 46 2 (.slice (some ⟨g,0,none⟩) (m + 1) cap) (m + 1) (d_s acc)) (hm : acc.length = m + 1) (t : Int) :
 (∀ B,KeepsFrom B W (w4.setCell ⟨g,m * 2 + 1,none⟩ (.int .i64 t))) ∧ KpB w.heap.size (w1.heap.size + 1) W (w4.setCell ⟨g,m * 2 + 1,none⟩ (.int .i64 t)) ∧ e_h w w1 a1 (acc.set m ⟨(acc.getD m z46).f0,t⟩) (w4.setCell ⟨g,m * 2 + 1,none⟩ (.int .i64 t)):=by
 obtain ⟨_,b1,b4,⟨cs,ga⟩,hB⟩:=iI
 have hr4:=e_x hr u
 obtain ⟨_,_,hg,_⟩:=h_X hr (m * 2 + 1) (by omega)
 have hB5 : Below w.heap.size W (w4.setCell ⟨g,m * 2 + 1,none⟩ (.int .i64 t)):=(u.mono hB.size).setCell (p:=⟨g,_,none⟩) hg _
 have far : ∀ {k : Nat} {cs : Array Value} {ty : TypeId}, W.heap[k]? = some (.cells cs ty (0,0)) → ty ≠ 46 → (w4.setCell ⟨g,m * 2 + 1,none⟩ (.int .i64 t)).heap[k]? = some (.cells cs ty (0,0)):=fun {k cs ty} hk ht => by
  have k4:=a_m hk u
  rw [Below.heap_setCell _ _ _ _ (fun e => i_D k4 ht hr4 (by rw [e];rfl))]
  exact k4
 refine ⟨fun B => (b_G u).trans ((KeepsOthers.setCell _ _ _).from B),⟨hB5,(far ga (by decide)).trans ga.symm⟩,⟨⟨_,far bv (by decide),?_⟩,far b1 (by decide),Nat.lt_of_lt_of_le b4 hB5.size,⟨cs,far ga (by decide)⟩,hB.trans hB5⟩⟩
 rw [← i_M acc m (by omega) t,List.length_set,hm]
 exact m_p hr4 _ (by omega) _
set_option maxRecDepth 100000 in
set_option maxHeartbeats 12000000 in
theorem a_W.sums (k : Nat) (A0_0 : Option Addr) (c0_0 : Nat) (l0_0 : List S27) (a0_1 a1 : Int) (w : World) (hr0_0 : Kd.C k27 w A0_0 l0_0.length l0_0) (hc0_0 : l0_0.length ≤ c0_0) (he : a_t.f k l0_0 a0_1 = some 0) (hl : l0_0.length ≤ 4398046511104) (hm : ∀ m ∈ l0_0,m.f1.length ≤ 1099511627776) :
 Calls Try.prog 17 #[.agg #[.slice A0_0 l0_0.length c0_0,.int .i64 a0_1],.int .i64 a1] w fun e w' => ∃ v0_ : Value,e = .returned (.tuple #[v0_,.int .i64 0]) ∧ Kd.R k46 46 w' w.heap.size (fun _ => True) v0_ ((List.range l0_0.length).foldl (c_9 l0_0 a0_1 a1) []) ∧ Below w.heap.size w w':=by
 have HR:=a_c.mk hr0_0
 have HE:=a_c.mk he
 have HM:=a_c.mk hm
 clear hr0_0 he hm
 have q0:=a_c.mk (a_i (c_D w (.cells #[.slice A0_0 l0_0.length c0_0,.int .i64 a0_1] 24)) (.cells #[.int .i64 a1] 3))
 have q1:=a_c.mk (c_D (w.alloc (.cells #[.slice A0_0 l0_0.length c0_0,.int .i64 a0_1] 24)) (.cells #[.int .i64 a1] 3))
 have qB:=a_c.mk (a_g (a_g (Below.refl w.heap.size w) (.cells #[.slice A0_0 l0_0.length c0_0,.int .i64 a0_1] 24)) (.cells #[.int .i64 a1] 3))
 simp only [World.size_alloc] at q0 q1
 refine (callsIn_wide (n:=9)).1 ?_
 refine callsIn_of_wp_marks Try.func17 rfl trivial ?_ rfl
 simp only [Try.ntmps17,List.size_toArray,List.length_cons,List.length_nil,Nat.reduceAdd,Nat.reduceSub,Array.replicate_succ,Array.replicate_zero,List.push_toArray,List.append_toArray,List.nil_append,List.cons_append]
 gi_wp2_with (first
  | (refine ⟨trivial,?_⟩;gi_at_call 14;refine (callsIn_wide.2 (a_t.calls k _ _ l0_0 a0_1 0 _ ?s1 hc0_0 HE.out)).mono ?_;(case s1 => exact Kd.a_U HR.out qB.out);rintro e w1 ⟨rfl,hb⟩;have HB:=a_c.mk (a_o qB.out hb);have p0:=a_c.mk (a_m q0.out hb);have p1:=a_c.mk (a_m q1.out hb);clear hb;have r0 : w1.cell? ⟨w.heap.size,0,none⟩ = some (.slice A0_0 l0_0.length c0_0):=(a_a p0.out 0).trans rfl;have r1 : w1.cell? ⟨w.heap.size,1,none⟩ = some (.int .i64 a0_1):=(a_a p0.out 1).trans rfl;have z0:=a_J p0.out;have z1:=a_J p1.out)
  | (refine ⟨trivial,?_⟩;gi_at_call 28;refine (callsIn_wide.2 (g_k.calls _ _ _ _ _)).mono ?_;rintro e w' ⟨rfl,rfl⟩))
 have n0:=a_c.mk (a_i (c_D w1 (.cells #[.slice none 0 0] 41)) (.cells #[.slice A0_0 l0_0.length c0_0,.int .i64 a0_1] 24))
 have n1:=a_c.mk (c_D (w1.alloc (.cells #[.slice none 0 0] 41)) (.cells #[.slice A0_0 l0_0.length c0_0,.int .i64 a0_1] 24))
 have n2:=a_c.mk (a_i (a_i p1.out (.cells #[.slice none 0 0] 41)) (.cells #[.slice A0_0 l0_0.length c0_0,.int .i64 a0_1] 24))
 have nB:=a_c.mk (a_g (a_g HB.out (.cells #[.slice none 0 0] 41)) (.cells #[.slice A0_0 l0_0.length c0_0,.int .i64 a0_1] 24))
 have hsz:=a_c.mk (show ((w1.alloc (.cells #[.slice none 0 0] 41)).alloc (.cells #[.slice A0_0 l0_0.length c0_0,.int .i64 a0_1] 24)).heap.size = w1.heap.size + 1 + 1 by simp)
 simp only [World.size_alloc] at n0 n1 n2
 have hws:=HB.out.size
 clear q0 q1 p0 p1 r0 r1 qB HB
 obtain ⟨W2,hW2⟩ : ∃ W2,(w1.alloc (.cells #[.slice none 0 0] 41)).alloc (.cells #[.slice A0_0 l0_0.length c0_0,.int .i64 a0_1] 24) = W2:=⟨_,rfl⟩
 rw [hW2] at n0 n1 n2 nB hsz ⊢
 clear hW2
 obtain ⟨ad,am,cm,hA,hMs⟩ : ∃ ad am cm,(0 < l0_0.length → A0_0 = some ad) ∧ e_P l0_0 ad am cm w:=by
  by_cases h : 0 < l0_0.length
  ·obtain ⟨ad,am,cm,e,hm⟩:=g_t HR.out h
   exact ⟨ad,am,cm,fun _ => e,hm⟩
  exact ⟨⟨0,0,none⟩,fun _ => none,fun _ => 0,fun h' => absurd h' h,fun j hj => absurd (Nat.lt_of_le_of_lt (Nat.zero_le _) hj) h⟩
 have HMS:=a_c.mk hMs
 have hAA:=a_c.mk hA
 clear hMs hA
 refine wpIn_rangeFunc_ownH rfl (by omega) (gf:=55) (lb:=#[.pointer (some ⟨w1.heap.size + 1,0,none⟩)]) rfl trivial (enters_of Try.func55 (by kernel_rfl) rfl)
  (encs:=fun x : Fin l0_0.length => #[momV l0_0 am cm x.val,.agg #[.int .i64 (a_p l0_0 (x.val : Int)).f0,.int .i64 (b_4 l0_0 a0_1 x.val)]]) (Kp:=KpB w.heap.size (w1.heap.size + 1)) (S:=fun ys => ys = List.finRange l0_0.length) (Sp:=fun _ => True) (N:=l0_0.length) (w0:=W2)
  (fun l J Jx W hW hJ hJx hY h0 => e_n 8 (by omega) l (w1.heap.size + 1) w.heap.size A0_0 ad c0_0 l0_0 a0_1 hl am cm J Jx hY w W hJ rfl (nB.out.trans (hW.mono nB.out.size)) hAA.out ((hW.block _ (a_J n1.out)).trans n1.out) HMS.out hc0_0 HR.out h0)
  (fun h k => ⟨h.1.trans k.1,k.2.trans h.2⟩) (fun W l o o' hl' hh hc hk => ⟨belowK_b (w:=W2) nB.out.size W l o o' hl' hh hc hk,(grownBy_putObj' W l o').block _ (by have:=a_J hh;have:=hsz.out;omega) (by intro e;cases e;have:=hsz.out;omega)⟩) (Below.refl _ _) (fun _ => rfl)
  (fun pre W => e_h w w1 a1 ((pre.map (·.val)).foldl (c_9 l0_0 a0_1 a1) []) W)
  (fun _ _ _ => False)
  (fun s A B row hs hg hr => by
   obtain ⟨⟨v,h1,h2⟩,h3,h4,⟨cs,h5⟩,h6⟩:=hs
   exact ⟨⟨v,d_x h1 hg hr,h2.kept hg (by
    rcases h2.2 with ⟨rfl,_⟩ | ⟨g,cap,cur,rfl,_,hgb,_⟩
    ·exact .inl rfl
    ·refine .inr fun e' => ?_
     obtain ⟨_,o,ho,hc⟩:=hr g (by simpa [Value.ownBlock] using e'.symm)
     rw [hgb] at ho;cases ho;cases hc)⟩,d_x h3 hg hr,Nat.lt_of_lt_of_le h4 hg.size,⟨cs,d_x h5 hg hr⟩,h6.grown hg h6.size (fun k e => Nat.le_trans nB.out.size (hr k e).1)⟩)
  (fun _ _ _ _ _ hs _ _ => hs)
  ⟨⟨_,n0.out,g_T _ _ _ _⟩,n2.out,by have:=hsz.out;omega,⟨_,n1.out⟩,nB.out⟩
  (fun x a' W => ∃ Bm Bs : Nat,W.heap[Bm]? = some (.cells #[.int .i64 (a_p l0_0 (x.val : Int)).f0,.slice (am x.val) (a_p l0_0 (x.val : Int)).f1.length (cm x.val)] 27 (0,0)) ∧ W.heap[Bs]? = some (.cells #[.int .i64 (a_p l0_0 (x.val : Int)).f0,.int .i64 (b_4 l0_0 a0_1 x.val)] 46 (0,0)) ∧ a' = { tmps:=#[.agg #[.slice A0_0 l0_0.length c0_0,.int .i64 a0_1],.int .i64 a1,.pointer (some ⟨w.heap.size,0,none⟩),.pointer (some ⟨w.heap.size + 1,0,none⟩),.slice none 0 0,.int .i64 0,.int .i64 0,.pointer (some ⟨w1.heap.size,0,none⟩),.pointer (some ⟨Bm,0,none⟩),.pointer (some ⟨Bs,0,none⟩),undef,undef,undef,.agg #[.slice A0_0 l0_0.length c0_0,.int .i64 a0_1],.int .i64 0,.int .i64 0,.bool false,undef,.agg #[.slice A0_0 l0_0.length c0_0,.int .i64 a0_1],.func (.func 55) #[] #[.pointer (some ⟨w1.heap.size + 1,0,none⟩)],momV l0_0 am cm x.val,.agg #[.int .i64 (a_p l0_0 (x.val : Int)).f0,.int .i64 (b_4 l0_0 a0_1 x.val)],undef,undef,undef,undef,undef,undef,undef,undef,undef,undef,undef,undef,undef,undef,undef,undef,undef,undef,undef,undef,undef,undef,undef,undef,undef,undef,undef,undef,undef,undef,undef,undef,undef,undef,undef,undef,undef,undef,undef,undef,undef,undef,undef,undef,undef,undef,undef],defers:=[] })
  (fun x a' s A B row hs hg hr => by obtain ⟨Bm,Bs,h1,h2,h3⟩:=hs;exact ⟨Bm,Bs,d_x h1 hg hr,d_x h2 hg hr,h3⟩) ?assign ?body ?done ?stop
 case assign =>
  rintro l pre x W K hI hK
  simp only [momV]
  have iI:=a_c.mk hI
  have iK:=a_c.mk hK
  clear hI hK
  gi_wp2
  have u:=a_g (a_g (Below.refl W.heap.size W) (.cells #[.int .i64 (a_p l0_0 (x.val : Int)).f0,.slice (am x.val) (a_p l0_0 (x.val : Int)).f1.length (cm x.val)] 27)) (.cells #[.int .i64 (a_p l0_0 (x.val : Int)).f0,.int .i64 (b_4 l0_0 a0_1 x.val)] 46)
  exact iK.out _ _ (b_G u) ⟨u.mono iI.out.below.size,u.block _ iI.out.b4⟩ (iI.out.bel u) ⟨_,_,a_i (c_D W _) _,by have:=c_D (W.alloc (.cells #[.int .i64 (a_p l0_0 (x.val : Int)).f0,.slice (am x.val) (a_p l0_0 (x.val : Int)).f1.length (cm x.val)] 27)) (.cells #[.int .i64 (a_p l0_0 (x.val : Int)).f0,.int .i64 (b_4 l0_0 a0_1 x.val)] 46);rwa [World.size_alloc] at this,rfl⟩
 case body =>
  rintro l pre x a' W hl' _ hI ⟨Bm,Bs,bm,bs,rfl⟩ hlt
  have iI:=a_c.mk hI
  obtain ⟨⟨v,bv,hrow⟩,b1,b4,⟨gcs,ga⟩,hB⟩:=hI
  simp only [momV]
  have hmx:=HMS.out x.val x.isLt
  have hsm : (a_p l0_0 (x.val : Int)).f1.length ≤ 1099511627776:=HM.out _ (by unfold a_p;simp)
  have IF:=a_c.mk (i_B (a_p l0_0 (x.val : Int)).f0 (a_p l0_0 (x.val : Int)).f1 a1 hsm)
  have IW:=a_c.mk (l_F (a_O (a_p l0_0 (x.val : Int)).f1 a1).1)
  have iC:=a_c.mk (Kd.a_U hmx.2.2.2 hB)
  have iL:=hmx.2.2.1
  clear hmx hsm
  have c0:=(a_a bm 0).trans rfl
  have c1:=(a_a bm 1).trans rfl
  have c2:=(a_a b1 0).trans rfl
  have iN : ((pre ++ [x]).map (·.val)).foldl (c_9 l0_0 a0_1 a1) [] = c_9 l0_0 a0_1 a1 ((pre.map (·.val)).foldl (c_9 l0_0 a0_1 a1) []) x.val:=by simp
  have hln : ((pre.map (·.val)).foldl (c_9 l0_0 a0_1 a1) []).length ≤ pre.length:=by simpa using g_C l0_0 a0_1 a1 (pre.map (·.val)) []
  have hlq : ((pre.map (·.val)).foldl (c_9 l0_0 a0_1 a1) []).length ≤ 4398046511104:=by omega
  clear hln
  generalize hn : (pre.map (·.val)).foldl (c_9 l0_0 a0_1 a1) [] = acc at hrow iN hlq iI
  clear hn
  have IN:=a_c.mk iN
  have IQ:=a_c.mk hlq
  have iv:=a_c.mk bv
  have i1:=a_c.mk b1
  have ig:=a_c.mk ga
  have is:=a_c.mk bs
  have iB:=a_c.mk hB
  have iR:=a_c.mk hrow
  have i4:=a_c.mk b4
  clear b1 hB bm bs iN hlq hrow bv ga b4
  cases hb : (a_O (a_p l0_0 (x.val : Int)).f1 a1).2 with
  | false =>
   rw [hb] at IF
   have IH:=a_c.mk hb
   clear hb
   gi_wp2_with (first|(refine ⟨trivial,?_⟩;gi_at_call 29;refine (CallsIn.inRound l (callsIn_wide.2 (c_E.calls _ _ _ _ _ _ _ _ _ _ _ _ _ _ _ _ _ _ iC.out iL IF.out))).mono ?_;rintro e w3 ⟨rfl,hb⟩;have IB3:=a_c.mk hb;skip;clear hb)|(refine ⟨trivial,?_⟩))
   have u:=a_g IB3.out (.cells #[.int .i64 (a_O (a_p l0_0 (x.val : Int)).f1 a1).1.f0,.int .i64 (a_O (a_p l0_0 (x.val : Int)).f1 a1).1.f1,.int .i64 (a_O (a_p l0_0 (x.val : Int)).f1 a1).1.f2,.int .i64 (a_O (a_p l0_0 (x.val : Int)).f1 a1).1.f3,.int .i64 (a_O (a_p l0_0 (x.val : Int)).f1 a1).1.f4,.bool (a_O (a_p l0_0 (x.val : Int)).f1 a1).1.f5,.bool (a_O (a_p l0_0 (x.val : Int)).f1 a1).1.f6,.int .u32 (a_O (a_p l0_0 (x.val : Int)).f1 a1).1.f7,.int .i64 (a_O (a_p l0_0 (x.val : Int)).f1 a1).1.f8,.int .i64 (a_O (a_p l0_0 (x.val : Int)).f1 a1).1.f9,.int .i64 (a_O (a_p l0_0 (x.val : Int)).f1 a1).1.f10] 65)
   have e : c_9 l0_0 a0_1 a1 acc x.val = acc:=by unfold c_9;rw [IH.out];simp
   exact ⟨b_G u,⟨u.mono iB.out.size,u.block _ i4.out⟩,by show e_h w w1 a1 _ _;rw [IN.out,e];exact iI.out.bel u⟩
  | true =>
   rw [hb] at IF
   have IH:=a_c.mk hb
   clear hb
   cases hd : e_4 (a_O (a_p l0_0 (x.val : Int)).f1 a1).1 with
   | false =>
    rw [hd] at IW
    have IG:=a_c.mk hd
    clear hd
    gi_wp2_with (first|(refine ⟨trivial,?_⟩;gi_at_call 29;refine (CallsIn.inRound l (callsIn_wide.2 (c_E.calls _ _ _ _ _ _ _ _ _ _ _ _ _ _ _ _ _ _ iC.out iL IF.out))).mono ?_;rintro e w3 ⟨rfl,hb⟩;have IB3:=a_c.mk hb;skip;clear hb)|(refine ⟨trivial,?_⟩;gi_at_call 30;refine (CallsIn.inRound l (callsIn_wide.2 (c_2.calls _ _ _ _ _ _ _ _ _ _ _ _ _ IW.out))).mono ?_;rintro e w4 ⟨rfl,hb⟩;have IB4:=a_c.mk (Below.trans (a_g IB3.out (.cells #[.int .i64 (a_O (a_p l0_0 (x.val : Int)).f1 a1).1.f0,.int .i64 (a_O (a_p l0_0 (x.val : Int)).f1 a1).1.f1,.int .i64 (a_O (a_p l0_0 (x.val : Int)).f1 a1).1.f2,.int .i64 (a_O (a_p l0_0 (x.val : Int)).f1 a1).1.f3,.int .i64 (a_O (a_p l0_0 (x.val : Int)).f1 a1).1.f4,.bool (a_O (a_p l0_0 (x.val : Int)).f1 a1).1.f5,.bool (a_O (a_p l0_0 (x.val : Int)).f1 a1).1.f6,.int .u32 (a_O (a_p l0_0 (x.val : Int)).f1 a1).1.f7,.int .i64 (a_O (a_p l0_0 (x.val : Int)).f1 a1).1.f8,.int .i64 (a_O (a_p l0_0 (x.val : Int)).f1 a1).1.f9,.int .i64 (a_O (a_p l0_0 (x.val : Int)).f1 a1).1.f10] 65)) (hb.mono (a_g IB3.out (.cells #[.int .i64 (a_O (a_p l0_0 (x.val : Int)).f1 a1).1.f0,.int .i64 (a_O (a_p l0_0 (x.val : Int)).f1 a1).1.f1,.int .i64 (a_O (a_p l0_0 (x.val : Int)).f1 a1).1.f2,.int .i64 (a_O (a_p l0_0 (x.val : Int)).f1 a1).1.f3,.int .i64 (a_O (a_p l0_0 (x.val : Int)).f1 a1).1.f4,.bool (a_O (a_p l0_0 (x.val : Int)).f1 a1).1.f5,.bool (a_O (a_p l0_0 (x.val : Int)).f1 a1).1.f6,.int .u32 (a_O (a_p l0_0 (x.val : Int)).f1 a1).1.f7,.int .i64 (a_O (a_p l0_0 (x.val : Int)).f1 a1).1.f8,.int .i64 (a_O (a_p l0_0 (x.val : Int)).f1 a1).1.f9,.int .i64 (a_O (a_p l0_0 (x.val : Int)).f1 a1).1.f10] 65)).size));clear hb;skip))
    have u:=IB4.out
    have e : c_9 l0_0 a0_1 a1 acc x.val = acc:=by unfold c_9;rw [IG.out];simp
    exact ⟨b_G u,⟨u.mono iB.out.size,u.block _ i4.out⟩,by show e_h w w1 a1 _ _;rw [IN.out,e];exact iI.out.bel u⟩
   | true =>
    rw [hd] at IW
    have IG:=a_c.mk hd
    clear hd
    obtain ⟨i46,hi46,hz46⟩:=Option.map_eq_some_iff.mp o_b
    have H46:=a_c.mk hi46
    have H46z : a_c (i46.zero = some (.agg #[.int .i64 0,.int .i64 0])):=a_c.mk (Prod.mk.inj hz46).1
    have H46s : a_c (i46.size = 2):=a_c.mk (Prod.mk.inj (Prod.mk.inj hz46).2).1
    have H46b : a_c (i46.bytes = 16):=a_c.mk (Prod.mk.inj (Prod.mk.inj hz46).2).2
    clear hi46 hz46
    have hrow:=iR.out
    obtain ⟨A,cap,rfl⟩ : ∃ A cap,v = .slice A acc.length cap:=by
     rcases hrow.2 with ⟨rfl,hz⟩ | ⟨g,cap,cur,rfl,_⟩
     ·exact ⟨_,0,by rw [hz]⟩
     exact ⟨_,cap,rfl⟩
    by_cases hz : acc.length = 0
    ·have hacc : acc = []:=List.eq_nil_of_length_eq_zero hz
     have IA:=a_c.mk hacc
     have AHN:=a_c.mk hz
     rw [hz] at iv iR
     clear hz hacc hrow
     gi_wp2_with (first|(refine ⟨trivial,?_⟩;gi_at_call 29;refine (CallsIn.inRound l (callsIn_wide.2 (c_E.calls _ _ _ _ _ _ _ _ _ _ _ _ _ _ _ _ _ _ iC.out iL IF.out))).mono ?_;rintro e w3 ⟨rfl,hb⟩;have IB3:=a_c.mk hb;skip;clear hb)|(refine ⟨trivial,?_⟩;gi_at_call 30;refine (CallsIn.inRound l (callsIn_wide.2 (c_2.calls _ _ _ _ _ _ _ _ _ _ _ _ _ IW.out))).mono ?_;rintro e w4 ⟨rfl,hb⟩;have IB4:=a_c.mk (Below.trans (a_g IB3.out (.cells #[.int .i64 (a_O (a_p l0_0 (x.val : Int)).f1 a1).1.f0,.int .i64 (a_O (a_p l0_0 (x.val : Int)).f1 a1).1.f1,.int .i64 (a_O (a_p l0_0 (x.val : Int)).f1 a1).1.f2,.int .i64 (a_O (a_p l0_0 (x.val : Int)).f1 a1).1.f3,.int .i64 (a_O (a_p l0_0 (x.val : Int)).f1 a1).1.f4,.bool (a_O (a_p l0_0 (x.val : Int)).f1 a1).1.f5,.bool (a_O (a_p l0_0 (x.val : Int)).f1 a1).1.f6,.int .u32 (a_O (a_p l0_0 (x.val : Int)).f1 a1).1.f7,.int .i64 (a_O (a_p l0_0 (x.val : Int)).f1 a1).1.f8,.int .i64 (a_O (a_p l0_0 (x.val : Int)).f1 a1).1.f9,.int .i64 (a_O (a_p l0_0 (x.val : Int)).f1 a1).1.f10] 65)) (hb.mono (a_g IB3.out (.cells #[.int .i64 (a_O (a_p l0_0 (x.val : Int)).f1 a1).1.f0,.int .i64 (a_O (a_p l0_0 (x.val : Int)).f1 a1).1.f1,.int .i64 (a_O (a_p l0_0 (x.val : Int)).f1 a1).1.f2,.int .i64 (a_O (a_p l0_0 (x.val : Int)).f1 a1).1.f3,.int .i64 (a_O (a_p l0_0 (x.val : Int)).f1 a1).1.f4,.bool (a_O (a_p l0_0 (x.val : Int)).f1 a1).1.f5,.bool (a_O (a_p l0_0 (x.val : Int)).f1 a1).1.f6,.int .u32 (a_O (a_p l0_0 (x.val : Int)).f1 a1).1.f7,.int .i64 (a_O (a_p l0_0 (x.val : Int)).f1 a1).1.f8,.int .i64 (a_O (a_p l0_0 (x.val : Int)).f1 a1).1.f9,.int .i64 (a_O (a_p l0_0 (x.val : Int)).f1 a1).1.f10] 65)).size));clear hb;have s2:=(a_a (a_m iv.out IB4.out) 0).trans rfl;have y2:=a_J (a_m iv.out IB4.out);have s0 : w4.cell? ⟨Bs,0,none⟩ = some (.int .i64 (a_p l0_0 (x.val : Int)).f0):=(a_a (a_m is.out IB4.out) 0).trans rfl;have s1 : w4.cell? ⟨Bs,1,none⟩ = some (.int .i64 (b_4 l0_0 a0_1 x.val)):=(a_a (a_m is.out IB4.out) 1).trans rfl;have y0:=a_J (a_m is.out IB4.out)))
     ·have u:=IB4.out;have e : c_9 l0_0 a0_1 a1 acc x.val = acc:=if_neg (fun h => h.2.2 (eq_of_beq (by assumption)));exact ⟨b_G u,⟨u.mono iB.out.size,u.block _ i4.out⟩,by show e_h w w1 a1 _ _;rw [IN.out,e];exact iI.out.bel u⟩
     generalize (Value.agg #[.int .i64 (a_O (a_p l0_0 (x.val : Int)).f1 a1).1.f0,.int .i64 (a_O (a_p l0_0 (x.val : Int)).f1 a1).1.f1,.int .i64 (a_O (a_p l0_0 (x.val : Int)).f1 a1).1.f2,.int .i64 (a_O (a_p l0_0 (x.val : Int)).f1 a1).1.f3,.int .i64 (a_O (a_p l0_0 (x.val : Int)).f1 a1).1.f4,.bool (a_O (a_p l0_0 (x.val : Int)).f1 a1).1.f5,.bool (a_O (a_p l0_0 (x.val : Int)).f1 a1).1.f6,.int .u32 (a_O (a_p l0_0 (x.val : Int)).f1 a1).1.f7,.int .i64 (a_O (a_p l0_0 (x.val : Int)).f1 a1).1.f8,.int .i64 (a_O (a_p l0_0 (x.val : Int)).f1 a1).1.f9,.int .i64 (a_O (a_p l0_0 (x.val : Int)).f1 a1).1.f10]) = X1;have d0 : w4.drew.cell? ⟨Bs,0,none⟩ = some (.int .i64 (a_p l0_0 (x.val : Int)).f0):=s0;have d1 : w4.drew.cell? ⟨Bs,1,none⟩ = some (.int .i64 (b_4 l0_0 a0_1 x.val)):=s1;have d2:=(show w4.drew.cell? _ = _ from s2);have y3 : Bs < w4.drew.heap.size:=y0;have y4 : w1.heap.size < w4.drew.heap.size:=y2;have mx : Try.prog.follows .mixedOrders = true:=by kernel_rfl
     refine h_U ?_;apply Exists.intro;apply Exists.intro;refine And.intro ?ra ?ka;(case ra => (gi_region_with_o (fail));all_goals exact ⟨rfl,rfl,rfl⟩)
     gi_wp2_with (gi_at_builtin;refine wpListIn_append_own _ rfl _ _ 41 rfl w.heap.size 46 _ (.agg #[.int .i64 0,.int .i64 0]) 2 16 Try.underlying41 H46.out H46z.out H46s.out H46b.out rfl (by decide) _ _ (d_s acc) rfl ((e_x iR.out (Below.drew IB4.out)).alloc (.cells #[.int .i64 (a_p l0_0 (x.val : Int)).f0,.int .i64 (b_4 l0_0 a0_1 x.val)] 46)) ⟨w4.heap.size,0,none⟩ 1 1 [.int .i64 (a_p l0_0 (x.val : Int)).f0,.int .i64 (b_4 l0_0 a0_1 x.val)] rfl rfl (i_u w4 _ _ _) (by simp [Value.oneCell']) (by have:=IQ.out;have:=AHN.out;simp only [maxLen];omega) (by have:=IQ.out;have:=AHN.out;omega) (by have h1:=iB.out.size;have h2:=IB4.out.size;exact Nat.le_trans h1 (Nat.le_trans h2 (by show w4.heap.size ≤ (w4.heap.push _).size;simp))) ?_;intro v' w5 hown' hgrow _;obtain ⟨g',cap',rfl⟩:=ownsRow_succ hown';obtain ⟨⟨e1,e2⟩,e3,e4,e5⟩:=h_S (hn:=AHN.out) (tmp:=.cells #[.int .i64 (a_p l0_0 (x.val : Int)).f0,.int .i64 (b_4 l0_0 a0_1 x.val)] 46) iI.out hws (Below.drew IB4.out) iv.out iR.out hown' hgrow;have E3:=a_c.mk e3;have E4:=a_c.mk e4;have E5:=a_c.mk e5;clear e3 e4 e5 hown' hgrow)
     have e : c_9 l0_0 a0_1 a1 acc x.val = acc ++ [⟨(a_p l0_0 (x.val : Int)).f0,b_4 l0_0 a0_1 x.val⟩]:=by unfold c_9;rw [if_pos ⟨IH.out,IG.out,ne_of_beq_false (by assumption)⟩,if_neg (fun h => by have:=h.1;have:=AHN.out;omega)]
     exact ⟨E3.out _,E4.out,by show e_h w w1 a1 _ _;rw [IN.out,e];exact E5.out⟩
    obtain ⟨m,hm⟩ : ∃ m,acc.length = m + 1:=⟨acc.length - 1,by omega⟩
    obtain ⟨g,rfl⟩ : ∃ g,A = some ⟨g,0,none⟩:=by
     rcases hrow.2 with ⟨_,hz'⟩ | ⟨g,cap,cur,e,_⟩
     ·exact absurd hz' hz
     cases e;exact ⟨_,rfl⟩
    have AHN:=a_c.mk hm
    rw [hm] at iv
    rw [hm] at iR
    clear hz hrow hm
    gi_wp2_with (first|(refine ⟨trivial,?_⟩;gi_at_call 29;refine (CallsIn.inRound l (callsIn_wide.2 (c_E.calls _ _ _ _ _ _ _ _ _ _ _ _ _ _ _ _ _ _ iC.out iL IF.out))).mono ?_;rintro e w3 ⟨rfl,hb⟩;have IB3:=a_c.mk hb;skip;clear hb)|(refine ⟨trivial,?_⟩;gi_at_call 30;refine (CallsIn.inRound l (callsIn_wide.2 (c_2.calls _ _ _ _ _ _ _ _ _ _ _ _ _ IW.out))).mono ?_;rintro e w4 ⟨rfl,hb⟩;have IB4:=a_c.mk (Below.trans (a_g IB3.out (.cells #[.int .i64 (a_O (a_p l0_0 (x.val : Int)).f1 a1).1.f0,.int .i64 (a_O (a_p l0_0 (x.val : Int)).f1 a1).1.f1,.int .i64 (a_O (a_p l0_0 (x.val : Int)).f1 a1).1.f2,.int .i64 (a_O (a_p l0_0 (x.val : Int)).f1 a1).1.f3,.int .i64 (a_O (a_p l0_0 (x.val : Int)).f1 a1).1.f4,.bool (a_O (a_p l0_0 (x.val : Int)).f1 a1).1.f5,.bool (a_O (a_p l0_0 (x.val : Int)).f1 a1).1.f6,.int .u32 (a_O (a_p l0_0 (x.val : Int)).f1 a1).1.f7,.int .i64 (a_O (a_p l0_0 (x.val : Int)).f1 a1).1.f8,.int .i64 (a_O (a_p l0_0 (x.val : Int)).f1 a1).1.f9,.int .i64 (a_O (a_p l0_0 (x.val : Int)).f1 a1).1.f10] 65)) (hb.mono (a_g IB3.out (.cells #[.int .i64 (a_O (a_p l0_0 (x.val : Int)).f1 a1).1.f0,.int .i64 (a_O (a_p l0_0 (x.val : Int)).f1 a1).1.f1,.int .i64 (a_O (a_p l0_0 (x.val : Int)).f1 a1).1.f2,.int .i64 (a_O (a_p l0_0 (x.val : Int)).f1 a1).1.f3,.int .i64 (a_O (a_p l0_0 (x.val : Int)).f1 a1).1.f4,.bool (a_O (a_p l0_0 (x.val : Int)).f1 a1).1.f5,.bool (a_O (a_p l0_0 (x.val : Int)).f1 a1).1.f6,.int .u32 (a_O (a_p l0_0 (x.val : Int)).f1 a1).1.f7,.int .i64 (a_O (a_p l0_0 (x.val : Int)).f1 a1).1.f8,.int .i64 (a_O (a_p l0_0 (x.val : Int)).f1 a1).1.f9,.int .i64 (a_O (a_p l0_0 (x.val : Int)).f1 a1).1.f10] 65)).size));clear hb;have s2:=(a_a (a_m iv.out IB4.out) 0).trans rfl;have y2:=a_J (a_m iv.out IB4.out);have s0 : w4.cell? ⟨Bs,0,none⟩ = some (.int .i64 (a_p l0_0 (x.val : Int)).f0):=(a_a (a_m is.out IB4.out) 0).trans rfl;have s1 : w4.cell? ⟨Bs,1,none⟩ = some (.int .i64 (b_4 l0_0 a0_1 x.val)):=(a_a (a_m is.out IB4.out) 1).trans rfl;have y0:=a_J (a_m is.out IB4.out)))
    ·have u:=IB4.out;have e : c_9 l0_0 a0_1 a1 acc x.val = acc:=if_neg (fun h => h.2.2 (eq_of_beq (by assumption)));exact ⟨b_G u,⟨u.mono iB.out.size,u.block _ i4.out⟩,by show e_h w w1 a1 _ _;rw [IN.out,e];exact iI.out.bel u⟩
    generalize (Value.agg #[.int .i64 (a_O (a_p l0_0 (x.val : Int)).f1 a1).1.f0,.int .i64 (a_O (a_p l0_0 (x.val : Int)).f1 a1).1.f1,.int .i64 (a_O (a_p l0_0 (x.val : Int)).f1 a1).1.f2,.int .i64 (a_O (a_p l0_0 (x.val : Int)).f1 a1).1.f3,.int .i64 (a_O (a_p l0_0 (x.val : Int)).f1 a1).1.f4,.bool (a_O (a_p l0_0 (x.val : Int)).f1 a1).1.f5,.bool (a_O (a_p l0_0 (x.val : Int)).f1 a1).1.f6,.int .u32 (a_O (a_p l0_0 (x.val : Int)).f1 a1).1.f7,.int .i64 (a_O (a_p l0_0 (x.val : Int)).f1 a1).1.f8,.int .i64 (a_O (a_p l0_0 (x.val : Int)).f1 a1).1.f9,.int .i64 (a_O (a_p l0_0 (x.val : Int)).f1 a1).1.f10]) = X1;have d0 : w4.drew.cell? ⟨Bs,0,none⟩ = some (.int .i64 (a_p l0_0 (x.val : Int)).f0):=s0;have d1 : w4.drew.cell? ⟨Bs,1,none⟩ = some (.int .i64 (b_4 l0_0 a0_1 x.val)):=s1;have d2:=(show w4.drew.cell? _ = _ from s2);have y3 : Bs < w4.drew.heap.size:=y0;have y4 : w1.heap.size < w4.drew.heap.size:=y2;have mx : Try.prog.follows .mixedOrders = true:=by kernel_rfl
    have hoc:=h_X (e_x iR.out (Below.drew IB4.out)) (m * 2 + 1) (by omega)
    rw [(g_x acc m (by rw [AHN.out];omega)).2] at hoc
    have d3:=hoc.1
    have d4:=hoc.2.1
    clear hoc
    have wm : IntKind.i64.wrap (m : Int) = (m : Int):=by have:=IQ.out;have:=AHN.out;rw [IntKind.wrap_i64];omega
    refine h_U ?_;apply Exists.intro;apply Exists.intro;refine And.intro ?rb ?kb;(case rb => (gi_region_with_o (fail));all_goals exact ⟨rfl,rfl,rfl⟩)
    gi_wp2_with (gi_at_builtin;refine wpListIn_append_own _ rfl _ _ 41 rfl w.heap.size 46 _ (.agg #[.int .i64 0,.int .i64 0]) 2 16 Try.underlying41 H46.out H46z.out H46s.out H46b.out rfl (by decide) _ _ (d_s acc) rfl ((e_x iR.out (Below.drew IB4.out)).alloc (.cells #[.int .i64 (a_p l0_0 (x.val : Int)).f0,.int .i64 (b_4 l0_0 a0_1 x.val)] 46)) ⟨w4.heap.size,0,none⟩ 1 1 [.int .i64 (a_p l0_0 (x.val : Int)).f0,.int .i64 (b_4 l0_0 a0_1 x.val)] rfl rfl (i_u w4 _ _ _) (by simp [Value.oneCell']) (by have:=IQ.out;have:=AHN.out;simp only [maxLen];omega) (by have:=IQ.out;have:=AHN.out;omega) (by have h1:=iB.out.size;have h2:=IB4.out.size;exact Nat.le_trans h1 (Nat.le_trans h2 (by show w4.heap.size ≤ (w4.heap.push _).size;simp))) ?_;intro v' w5 hown' hgrow _;obtain ⟨g',cap',rfl⟩:=ownsRow_succ hown';obtain ⟨⟨e1,e2⟩,e3,e4,e5⟩:=h_S (hn:=AHN.out) (tmp:=.cells #[.int .i64 (a_p l0_0 (x.val : Int)).f0,.int .i64 (b_4 l0_0 a0_1 x.val)] 46) iI.out hws (Below.drew IB4.out) iv.out iR.out hown' hgrow;have E3:=a_c.mk e3;have E4:=a_c.mk e4;have E5:=a_c.mk e5;clear e3 e4 e5 hown' hgrow)
    ·have e : c_9 l0_0 a0_1 a1 acc x.val = acc.set m ⟨(acc.getD m z46).f0,b_4 l0_0 a0_1 x.val⟩:=by unfold c_9;rw [if_pos ⟨IH.out,IG.out,ne_of_beq_false (by assumption)⟩,AHN.out,if_pos ⟨Nat.succ_pos m,eq_of_beq (by assumption)⟩];rfl
     obtain ⟨k1,k2,k3⟩:=l_y iI.out hws (Below.drew IB4.out) iv.out iR.out AHN.out (b_4 l0_0 a0_1 x.val)
     exact ⟨k1 _,k2,by show e_h w w1 a1 _ _;rw [IN.out,e];exact k3⟩
    have e : c_9 l0_0 a0_1 a1 acc x.val = acc ++ [⟨(a_p l0_0 (x.val : Int)).f0,b_4 l0_0 a0_1 x.val⟩]:=by unfold c_9;rw [if_pos ⟨IH.out,IG.out,ne_of_beq_false (by assumption)⟩,AHN.out,if_neg (fun h => ne_of_beq_false (by assumption) h.2)]
    exact ⟨E3.out _,E4.out,by show e_h w w1 a1 _ _;rw [IN.out,e];exact E5.out⟩
 case done =>
  rintro D ys W hD rfl hI hK
  obtain ⟨⟨v,bv,hrow⟩,b1,b4,⟨gcs,ga⟩,hB⟩:=hI
  have hv : ((List.finRange l0_0.length).map (·.val)).foldl (c_9 l0_0 a0_1 a1) [] = (List.range l0_0.length).foldl (c_9 l0_0 a0_1 a1) []:=by
   congr 1
   apply List.ext_getElem
   ·simp
   intro i h1 h2;simp
  rw [hv] at hrow
  have c0 : W.cell? ⟨w1.heap.size,0,none⟩ = some v:=(a_a bv 0).trans rfl
  clear bv b1 b4 ga hv
  gi_wp2
  refine ⟨by simp,.inl ⟨_,_,rfl,run_takeDeferred hK,?_⟩⟩
  exact ⟨.tuple #[v,.int .i64 0],by simp [results,Try.results17,go_sem],v,rfl,n_V (ownsRow_putObj hrow _ hK rfl),hB.trans (belowK_b (w:=w) (Nat.le_refl _) W D _ _ (by have:=nB.out.size;omega) hK rfl rfl)⟩
 case stop =>
  rintro D c pre W _ _ h _
  exact h.elim
set_option maxHeartbeats 2000000 in
theorem a_W.errs (k : Nat) (A0_0 : Option Addr) (c0_0 : Nat) (l0_0 : List S27) (a0_1 a1 : Int) (e : Int) (w : World) (hr0_0 : Kd.C k27 w A0_0 l0_0.length l0_0) (hc0_0 : l0_0.length ≤ c0_0) (he : a_t.f k l0_0 a0_1 = some e) (h1 : e ≠ 0) :
 Calls Try.prog 17 #[.agg #[.slice A0_0 l0_0.length c0_0,.int .i64 a0_1],.int .i64 a1] w fun e' w' => e' = .returned (.tuple #[.slice none 0 0,.int .i64 e]) ∧ Below w.heap.size w w':=by
 have HR:=a_c.mk hr0_0
 have HE:=a_c.mk he
 clear hr0_0 he
 have qB:=a_c.mk (a_g (a_g (Below.refl w.heap.size w) (.cells #[.slice A0_0 l0_0.length c0_0,.int .i64 a0_1] 24)) (.cells #[.int .i64 a1] 3))
 have g0 : (e != 0) = true:=bne_iff_ne.mpr h1
 clear h1
 go_enter Try.func17,Try.ntmps17
 go_wp2_with (go_at_call 14;refine (a_t.calls k _ _ l0_0 a0_1 e _ ?s1 hc0_0 HE.out).mono ?_;(case s1 => exact Kd.a_U HR.out qB.out);rintro e w1 ⟨rfl,hb⟩;have HB:=a_c.mk (a_o qB.out hb);clear hb)
 go_ret2
 exact ⟨rfl,HB.out⟩
theorem a_W.calls (k : Nat) (A0_0 : Option Addr) (c0_0 : Nat) (l0_0 : List S27) (a0_1 a1 : Int) (r1 : List S46) (r2 : Int) (w : World) (hr0_0 : Kd.C k27 w A0_0 l0_0.length l0_0) (hc0_0 : l0_0.length ≤ c0_0) (h : a_W.f k l0_0 a0_1 a1 = some (r1,r2)) :
 Calls Try.prog 17 #[.agg #[.slice A0_0 l0_0.length c0_0,.int .i64 a0_1],.int .i64 a1] w fun e w' => ∃ v0_ : Value,e = .returned (.tuple #[v0_,.int .i64 r2]) ∧ Kd.R k46 46 w' w.heap.size (fun _ => True) v0_ r1 ∧ Below w.heap.size w w':=by
 obtain ⟨e,he,h⟩:=Option.bind_eq_some_iff.mp h
 by_cases h0 : e = 0
 ·rw [if_pos h0] at h
  subst h0
  by_cases h4 : l0_0.length ≤ 4398046511104 ∧ ∀ m ∈ l0_0,m.f1.length ≤ 1099511627776
  ·rw [if_pos h4] at h;cases h
   exact a_W.sums k A0_0 c0_0 l0_0 a0_1 a1 w hr0_0 hc0_0 he h4.1 h4.2
  rw [if_neg h4] at h;cases h
 rw [if_neg h0] at h;cases h
 exact (a_W.errs k A0_0 c0_0 l0_0 a0_1 a1 _ w hr0_0 hc0_0 he h0).mono (by
  rintro e w' ⟨rfl,hb⟩
  exact ⟨_,rfl,n_V (xs:=[]) (g_T _ _ _ _),hb⟩)
end
end Go.Proofs.Ytgglkfilkagblaa.Q
end
section
namespace Go.Proofs.Ytgglkfilkagblaa.Q
open Go.RowKit Go.Proofs.YtgglkfilkagblaaW.PrintWords Go.Proofs.YtgglkfilkagblaaW.PrintLast Go.Proofs.YtgglkfilkagblaaW.PrintMore
set_option linter.unusedVariables false
set_option linter.unusedSimpArgs false
theorem p_h (d : Nat) (w : World) (x0 y0 : Int) (x1 y1 : Int) :
 (Op.equalIn (d + 2) 46 (.agg #[.int .i64 x0,.int .i64 x1]) (.agg #[.int .i64 y0,.int .i64 y1])).run Try.prog w = .ok (x0 == y0 && (x1 == y1)) w:=by
 refine n_L Try.underlying46 (by kernel_rfl) ?_
 refine l_n (by rfl) (by go_simp;rfl) (by go_simp;rfl) (by go_simp) ?_
 exact l_p (by rfl) (by go_simp;rfl) (by go_simp;rfl) (by go_simp)
end Go.Proofs.Ytgglkfilkagblaa.Q
end
section
namespace Go.Proofs.Ytgglkfilkagblaa.Q
open Go.RowKit Go.Proofs.YtgglkfilkagblaaW.PrintWords Go.Proofs.YtgglkfilkagblaaW.PrintLast Go.Proofs.YtgglkfilkagblaaW.PrintMore
set_option linter.unusedVariables false
set_option linter.unusedSimpArgs false
def c_Y.f (l0 : List (S27)) : Option ((List (S27))):=(some (([] : List (S27)) : List (S27))).bind fun y126 => (if y126.length + l0.length < 4398046511104 then (some (y126 ++ l0)) else (none))
set_option maxHeartbeats 8000000 in
set_option maxRecDepth 100000 in
theorem Kd.n_N {α : Type} {d : Kd α} {w : World} {n : Nat} {xs : List α} (h : d.C w none n xs) : xs = []:=by
 cases xs with
 | nil => rfl
 | cons x xs =>
  obtain ⟨e,_,hp⟩:=h
  obtain ⟨a,ha,_⟩:=hp (by rw [← e];simp)
  cases ha
theorem c_Y.calls (P0_ : Nat → Prop) (A0 : Option Addr) (c0 : Nat) (l0 : List (S27)) (r : List (S27)) (w : World) (hs0 : Kd.V k27 27 w w.heap.size (fun k_ => P0_ k_) (.slice A0 l0.length c0) l0) (h : c_Y.f l0 = some r) :
 Calls Try.prog 25 #[.slice A0 l0.length c0] w fun e w' => ∃ v0_ : Value,e = .returned (v0_) ∧ Kd.N k27 27 w' w.heap.size (fun k_ => (P0_ k_ ∨ w.heap.size ≤ k_)) v0_ r ∧ Below w.heap.size w w':=by
 cases A0 with
 | none =>
  have hz_ : l0 = []:=Kd.n_N (Kd.b_C hs0).2.2
  subst hz_
  obtain rfl : r = []:=by simp only [c_Y.f] at h;first|exact (Option.some.inj h).symm|(simp at h;exact h.symm)|(simpa using h.symm)
  have hnil_ := @Lib.run_eql_slice_nil Try.prog
  go_enter Try.func25,Try.ntmps25
  go_wp2
  go_ret
  exact ⟨_,rfl,Kd.i_l _ _ _ _ _,Below.refl _ _⟩
 | some ad0_ =>
  have hnil_ := @Lib.run_eql_slice_nil Try.prog
  have HO0:=a_c.mk (show Kd.V k27 27 w w.heap.size (fun k_ => (P0_ k_ ∨ w.heap.size ≤ k_)) (.slice (some ad0_) l0.length c0) l0 from Kd.c_O hs0 (fun k_ hk => .inl hk))
  have HB:=a_c.mk (Below.refl w.heap.size w)
  have H : ((some (([] : List (S27)) : List (S27))).bind fun y126 => (if y126.length + l0.length < 4398046511104 then (some (y126 ++ l0)) else (none))) = some r:=h
  clear h
  obtain ⟨y126,hy126⟩ : ∃ y_ : List (S27),y_ = (([] : List (S27))):=⟨_,rfl⟩
  replace H : (if y126.length + l0.length < 4398046511104 then (some (y126 ++ l0)) else (none)) = some r:=by first|(rw [hy126];with_reducible exact H)|(have H2_:=(Option.bind_some _ _).symm.trans H;rw [hy126];with_reducible exact H2_)|(have H2_:=(Option.bind_some _ _).symm.trans H;with_reducible exact H2_)|with_reducible exact H|(rw [hy126];exact H)|exact H
  have Ny126:=a_c.mk hy126
  clear hy126
  by_cases c2 : y126.length + l0.length < 4398046511104
  rotate_left
  ·rw [if_neg c2] at H
   exact absurd H (by simp)
  rw [if_pos c2] at H
  have LMc2:=a_c.mk c2
  clear c2
  obtain ⟨y129,hy129⟩ : ∃ y_ : List (S27),y_ = (y126 ++ l0):=⟨_,rfl⟩
  replace H : (some y129) = some r:=by first|(rw [hy129];with_reducible exact H)|(have H2_:=(Option.bind_some _ _).symm.trans H;rw [hy129];with_reducible exact H2_)|(have H2_:=(Option.bind_some _ _).symm.trans H;with_reducible exact H2_)|with_reducible exact H|(rw [hy129];exact H)|exact H
  have Ny129:=a_c.mk hy129
  clear hy129
  obtain rfl:=Option.some.inj H
  go_enter Try.func25,Try.ntmps25
  go_wp2_with (first|((with_reducible refine a_M (N:=5) rfl ?_);refine Kd.p_i k27 _ 27 ?hg (N':=5) ?hd (xs:=([] : List (S27))) (inner:=[]) (ok:=(fun k_ => (P0_ k_ ∨ w.heap.size ≤ k_))) (okp:=(fun k_ => (P0_ k_ ∨ w.heap.size ≤ k_))) ?hr ?hp (fun _ hk => hk) ((show ∀ k_,w.heap.size ≤ k_ → (fun k_ => (P0_ k_ ∨ w.heap.size ≤ k_)) k_ from fun k_ hk => (.inr (Nat.le_trans (a_n (lup_ HB.out)) hk))) _ (Nat.le_refl _)) (Below.refl _ _) (Nat.le_refl _) (by simp) ?_;(case hd => rfl);(case hg => rfl);(case hr => first|(go_simp;done)|(go_simp;rfl));(case hp => exact (Reps.none _ _));intro v127 w3 ho4 hb hg_ hnew_;clear hg_ hnew_;(first|rw [← Ny126.out] at ho4|(simp only [Int.reduceToNat] at ho4;rw [← Ny126.out] at ho4));have o_q:=a_c.mk (Kd.g_Q ho4 (a_n (lup_ HB.out)));replace HO0:=a_c.mk (Kd.e_q (by (with_reducible repeat (first|apply Kd.a_Z|apply Kd.a_0|apply Kd.a_6));exact HO0.out) (Kd.i_C ho4) hb);replace HB:=a_c.mk (a_o (lup_ HB.out) hb);clear hb ho4)|((with_reducible refine g_l (b:=.append) (xs:=#[.tmp 5,.tmp 6]) rfl ?_);at_builtin;refine Kd.f_O k27 (w0:=w) w.heap.size rfl (.tmp 5) (.tmp 6) 22 27 (.agg #[(.int .i64 0),(.slice none 0 0)]) 32 rfl Try.underlying22 g_p rfl (by decide) (by omega) v127 y126 l0 _ _ _ (fun k_ => (P0_ k_ ∨ w.heap.size ≤ k_)) (fun k_ => ((fun k_ => (P0_ k_ ∨ w.heap.size ≤ k_))) k_ ∧ some k_ ≠ (v127 : Value).ownBlock) rfl rfl ?aO ?aR (fun _ hk => hk) ?aF ?aB ?aS ?aL ?_;(case aR => exact (by skip;exact Kd.V_F (Kd.c_O (ok':=(fun k_ => ((fun k_ => (P0_ k_ ∨ w.heap.size ≤ k_))) k_ ∧ some k_ ≠ (v127 : Value).ownBlock)) (HO0.out) (fun k_ hk => ⟨hk.1,hk.2⟩))));(case aB => exact (lup_ HB.out));(case aF => exact (fun k_ hk => (.inr (Nat.le_trans (a_n (lup_ HB.out)) hk))));(case aO => exact (by (with_reducible repeat (first|apply Kd.c_3|apply Kd.c_4|apply Kd.d_c));exact o_q.out));(case aS => exact (a_n (lup_ HB.out)));(case aL => have:=LMc2.out;omega);intro v130 w5 ho hb hg hat;rw [← Ny129.out] at ho;have r_d:=a_c.mk (ho);replace HO0:=a_c.mk (Kd.e_t (ok:=(fun k_ => (P0_ k_ ∨ w.heap.size ≤ k_))) (by (with_reducible repeat (first|apply Kd.a_Z|apply Kd.a_0|apply Kd.a_6));exact HO0.out) hg hat);replace HB:=a_c.mk (hb);clear o_q ho hb hg hat))
  go_ret
  exact ⟨_,by first|rfl|(simp [a_v,a_u] <;> rfl)|(simp [*, a_v,a_u] <;> rfl),by (with_reducible repeat (first|apply Kd.c_3|apply Kd.c_4|apply Kd.d_c));exact r_d.out,by repeat (first|(with_reducible first|exact HB.out|apply a_g|apply a_b|apply a_h)|exact HB.out)⟩
end Go.Proofs.Ytgglkfilkagblaa.Q
end
