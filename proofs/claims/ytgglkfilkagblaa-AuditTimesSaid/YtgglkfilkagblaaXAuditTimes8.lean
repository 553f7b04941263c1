/- Part 9 of 13 of what the row of AuditTimes stands on: contracts over the given program's functions, the plain law, the row; no condition beyond those that each theorem states. -/
import Derived.Test.YtgglkfilkagblaaXAuditTimes7
import Derived.RangeFuncBox
section
namespace Go.Proofs.Ytgglkfilkagblaa.Q
open Go.RowKit Go.Proofs.YtgglkfilkagblaaW.PrintWords Go.Proofs.YtgglkfilkagblaaW.PrintLast Go.Proofs.YtgglkfilkagblaaW.PrintMore
set_option linter.unusedVariables false
set_option linter.unusedSimpArgs false
section
attribute [local go_sem] Oper.semAt_some
def a_0 (l : List S65) (v : Int) : S65 × Bool:=if idxOf (fun s => s.f0 == v) l < 0 then (z65,false) else (a_c l (idxOf (fun s => s.f0 == v) l),true)
theorem m_s {α : Type} (p : α → Bool) (xs : List α) : idxOf p xs < (xs.length : Int):=by
 unfold idxOf
 cases h : xs.findIdx? p with
 | none => simp only [];omega
 | some i =>
  rw [List.findIdx?_eq_some_iff_getElem] at h
  obtain ⟨hi,_⟩:=h
  simp only [];omega
theorem n_S (a : Int) (l : List S65) (v : Int) (hl : l.length ≤ 1099511627776) : c_8.f a l v = some ((a_0 l v).1.f0,(a_0 l v).1.f1,(a_0 l v).1.f2,(a_0 l v).1.f3,(a_0 l v).1.f4,(a_0 l v).1.f5,(a_0 l v).1.f6,(a_0 l v).1.f7,(a_0 l v).1.f8,(a_0 l v).1.f9,(a_0 l v).1.f10,(a_0 l v).2):=by
 have hlt:=m_s (fun s : S65 => s.f0 == v) l
 unfold c_8.f b_r.f a_0
 rw [if_pos hl,Option.bind_some]
 by_cases h : idxOf (fun s : S65 => s.f0 == v) l < 0
 ·rw [if_pos h,if_pos h];rfl
 rw [if_neg h,if_neg h,if_pos (by omega),if_pos hlt]
def ranB (xs : List S27) (en v frm tt : Int) (n : Int) (j : Nat) : Int:=if (a_0 (a_p xs (j : Int)).f1 v).2 = true ∧ -1 < (a_0 (a_p xs (j : Int)).f1 v).1.f4 then wrap64 (n + mx (wrap64 (mn (c_p xs en j) tt - mx (a_p xs (j : Int)).f0 frm)) 0) else n
def a_4.f (k : Nat) (l0_0 : List S27) (a0_1 a1 a2 a3 : Int) : Option (Int × Int):=(a_E.f k l0_0 a0_1).bind fun e => if e = 0 then (if a2 < 0 then some (0,2) else if 1125899906842624 < a3 then some (0,2) else if a3 < a2 then some (0,2) else if l0_0.length ≤ 4398046511104 ∧ ∀ m ∈ l0_0,m.f1.length ≤ 1099511627776 then some ((List.range l0_0.length).foldl (ranB l0_0 a0_1 a1 a2 a3) 0,0) else none) else some (0,390)
theorem e_w {W W' : World} {row : Option Nat} {B g t : Nat} {cs : Array Value} {fr : Nat × Nat} (h : W.heap[g]? = some (.cells cs t fr)) (hg : W.grownBy W' row) (hr : ∀ r,row = some r → B ≤ r ∧ ∃ o : Obj,W.heap[r]? = some o ∧ o.isCells = false) : W'.heap[g]? = some (.cells cs t fr) :=
 (hg.block g (a_Q h) (fun e => by
  obtain ⟨_,o,ho,hc⟩:=hr g e.symm
  rw [h] at ho
  cases ho
  cases hc)).trans h
theorem b_0 {B : Nat} {W W' : World} (h : Below W.heap.size W W') : KeepsFrom B W W':=⟨h.size,fun k o _ hk _ => (h.block k (a_Q hk)).trans hk⟩
theorem a_4.mono : ∀ a0 a1 a2 a3 a4 k,LeO (a_4.f k a0 a1 a2 a3 a4) (a_4.f (k + 1) a0 a1 a2 a3 a4):=fun a0 a1 a2 a3 a4 k => LeO.bind (a_E.mono _ _ _) (fun _ => LeO.refl _)
theorem u_0 {a b : Int} (h : b < a) : mn a b = b:=by unfold mn;split <;> omega
theorem u_R {a b : Int} (h : a ≤ b) : mn a b = a:=by unfold mn;split <;> omega
theorem r_w {a b : Int} (h : a < b) : mx a b = b:=by unfold mx;split <;> omega
theorem r_v {a b : Int} (h : b ≤ a) : mx a b = a:=by unfold mx;split <;> omega
structure RanI (w w1 : World) (a1 a2 a3 v : Int) (W : World) : Prop where
 b0 : W.heap[w1.heap.size]? = some (.cells #[.int .i64 v] 2 (0,0))
 b1 : W.heap[w.heap.size + 1]? = some (.cells #[.int .i64 a1] 3 (0,0))
 b2 : W.heap[w.heap.size + 1 + 1]? = some (.cells #[.int .i64 a2] 2 (0,0))
 b3 : W.heap[w.heap.size + 1 + 1 + 1]? = some (.cells #[.int .i64 a3] 2 (0,0))
 b4 : w1.heap.size + 1 < W.heap.size
 below : Below w.heap.size w W
set_option maxRecDepth 100000 in
set_option maxHeartbeats 4000000 in
theorem a_4.sums (k : Nat) (A0_0 : Option Addr) (c0_0 : Nat) (l0_0 : List S27) (a0_1 a1 a2 a3 : Int) (w : World) (hr0_0 : Kd.C k27 w A0_0 l0_0.length l0_0) (hc0_0 : l0_0.length ≤ c0_0) (he : a_E.f k l0_0 a0_1 = some 0) (h1 : ¬ a2 < 0) (h2 : ¬ 1125899906842624 < a3) (h3 : ¬ a3 < a2) (hl : l0_0.length ≤ 4398046511104) (hm : ∀ m ∈ l0_0,m.f1.length ≤ 1099511627776) :
 Calls Try.prog 16 #[.agg #[.slice A0_0 l0_0.length c0_0,.int .i64 a0_1],.int .i64 a1,.int .i64 a2,.int .i64 a3] w fun e w' => e = .returned (.tuple #[.int .i64 ((List.range l0_0.length).foldl (ranB l0_0 a0_1 a1 a2 a3) 0),.int .i64 0]) ∧ Below w.heap.size w w':=by
 have HR:=a_d.mk hr0_0
 have HE:=a_d.mk he
 have HM:=a_d.mk hm
 clear hr0_0 he hm
 have g1 : decide (a2 < 0) = false:=decide_eq_false h1
 have g2 : decide (1125899906842624 < a3) = false:=decide_eq_false h2
 have g3 : decide (a3 < a2) = false:=decide_eq_false h3
 clear h1 h2 h3
 have q0:=a_d.mk (a_j (a_j (a_j (c_7 w (.cells #[.slice A0_0 l0_0.length c0_0,.int .i64 a0_1] 24)) (.cells #[.int .i64 a1] 3)) (.cells #[.int .i64 a2] 2)) (.cells #[.int .i64 a3] 2))
 have q1:=a_d.mk (a_j (a_j (c_7 (w.alloc (.cells #[.slice A0_0 l0_0.length c0_0,.int .i64 a0_1] 24)) (.cells #[.int .i64 a1] 3)) (.cells #[.int .i64 a2] 2)) (.cells #[.int .i64 a3] 2))
 have q2:=a_d.mk (a_j (c_7 ((w.alloc (.cells #[.slice A0_0 l0_0.length c0_0,.int .i64 a0_1] 24)).alloc (.cells #[.int .i64 a1] 3)) (.cells #[.int .i64 a2] 2)) (.cells #[.int .i64 a3] 2))
 have q3:=a_d.mk (c_7 (((w.alloc (.cells #[.slice A0_0 l0_0.length c0_0,.int .i64 a0_1] 24)).alloc (.cells #[.int .i64 a1] 3)).alloc (.cells #[.int .i64 a2] 2)) (.cells #[.int .i64 a3] 2))
 have qB:=a_d.mk (a_g (a_g (a_g (a_g (Below.refl w.heap.size w) (.cells #[.slice A0_0 l0_0.length c0_0,.int .i64 a0_1] 24)) (.cells #[.int .i64 a1] 3)) (.cells #[.int .i64 a2] 2)) (.cells #[.int .i64 a3] 2))
 simp only [World.size_alloc] at q0 q1 q2 q3
 refine (callsIn_wide (n:=9)).1 ?_
 refine callsIn_of_wp_marks Try.func16 rfl trivial ?_ rfl
 simp only [Try.ntmps16,List.size_toArray,List.length_cons,List.length_nil,Nat.reduceAdd,Nat.reduceSub,Array.replicate_succ,Array.replicate_zero,List.push_toArray,List.append_toArray,List.nil_append,List.cons_append]
 gi_wp2_with (first
  | (refine ⟨trivial,?_⟩;gi_at_call 14;refine (callsIn_wide.2 (a_E.calls k _ _ l0_0 a0_1 0 _ ?s1 hc0_0 HE.out)).mono ?_;(case s1 => exact Kd.a_U HR.out qB.out);rintro e w1 ⟨rfl,hb⟩;have HB:=a_d.mk (a_o qB.out hb);have p0:=a_d.mk (a_i q0.out hb);have p1:=a_d.mk (a_i q1.out hb);have p2:=a_d.mk (a_i q2.out hb);have p3:=a_d.mk (a_i q3.out hb);clear hb;have r0 : w1.cell? ⟨w.heap.size,0,none⟩ = some (.slice A0_0 l0_0.length c0_0):=(a_a p0.out 0).trans rfl;have r1 : w1.cell? ⟨w.heap.size,1,none⟩ = some (.int .i64 a0_1):=(a_a p0.out 1).trans rfl;have r2 : w1.cell? ⟨w.heap.size + 1 + 1,0,none⟩ = some (.int .i64 a2):=(a_a p2.out 0).trans rfl;have r3 : w1.cell? ⟨w.heap.size + 1 + 1 + 1,0,none⟩ = some (.int .i64 a3):=(a_a p3.out 0).trans rfl;have z0:=a_Q p0.out;have z2:=a_Q p2.out;have z3:=a_Q p3.out)
  | (refine ⟨trivial,?_⟩;gi_at_call 28;refine (callsIn_wide.2 (k_E.calls _ _ _ _ _)).mono ?_;rintro e w' ⟨rfl,rfl⟩))
 have n0:=a_d.mk (a_j (c_7 w1 (.cells #[.int .i64 0] 2)) (.cells #[.slice A0_0 l0_0.length c0_0,.int .i64 a0_1] 24))
 have n1:=a_d.mk (c_7 (w1.alloc (.cells #[.int .i64 0] 2)) (.cells #[.slice A0_0 l0_0.length c0_0,.int .i64 a0_1] 24))
 have n2:=a_d.mk (a_j (a_j p1.out (.cells #[.int .i64 0] 2)) (.cells #[.slice A0_0 l0_0.length c0_0,.int .i64 a0_1] 24))
 have n3:=a_d.mk (a_j (a_j p2.out (.cells #[.int .i64 0] 2)) (.cells #[.slice A0_0 l0_0.length c0_0,.int .i64 a0_1] 24))
 have n4:=a_d.mk (a_j (a_j p3.out (.cells #[.int .i64 0] 2)) (.cells #[.slice A0_0 l0_0.length c0_0,.int .i64 a0_1] 24))
 have nB:=a_d.mk (a_g (a_g HB.out (.cells #[.int .i64 0] 2)) (.cells #[.slice A0_0 l0_0.length c0_0,.int .i64 a0_1] 24))
 have hsz : ((w1.alloc (.cells #[.int .i64 0] 2)).alloc (.cells #[.slice A0_0 l0_0.length c0_0,.int .i64 a0_1] 24)).heap.size = w1.heap.size + 1 + 1:=by simp
 simp only [World.size_alloc] at n0 n1 n2 n3 n4
 have hws:=HB.out.size
 clear q0 q1 q2 q3 p0 p1 p2 p3 r0 r1 r2 r3 qB HB
 obtain ⟨W2,hW2⟩ : ∃ W2,(w1.alloc (.cells #[.int .i64 0] 2)).alloc (.cells #[.slice A0_0 l0_0.length c0_0,.int .i64 a0_1] 24) = W2:=⟨_,rfl⟩
 rw [hW2] at n0 n1 n2 n3 n4 nB hsz ⊢
 clear hW2
 obtain ⟨ad,am,cm,hA,hMs⟩ : ∃ ad am cm,(0 < l0_0.length → A0_0 = some ad) ∧ h_e l0_0 ad am cm w:=by
  by_cases h : 0 < l0_0.length
  ·obtain ⟨ad,am,cm,e,hm⟩:=k_v HR.out h
   exact ⟨ad,am,cm,fun _ => e,hm⟩
  exact ⟨⟨0,0,none⟩,fun _ => none,fun _ => 0,fun h' => absurd h' h,fun j hj => absurd (Nat.lt_of_le_of_lt (Nat.zero_le _) hj) h⟩
 have HMS:=a_d.mk hMs
 have hAA:=a_d.mk hA
 clear hMs hA
 refine wpIn_rangeFunc_ownH rfl (by omega) (gf:=55) (lb:=#[.pointer (some ⟨w1.heap.size + 1,0,none⟩)]) rfl trivial (enters_of Try.func55 (by kernel_rfl) rfl)
  (encs:=fun x : Fin l0_0.length => #[momV l0_0 am cm x.val,.agg #[.int .i64 (a_p l0_0 (x.val : Int)).f0,.int .i64 (c_p l0_0 a0_1 x.val)]]) (Kp:=KpB w.heap.size (w1.heap.size + 1)) (S:=fun ys => ys = List.finRange l0_0.length) (Sp:=fun _ => True) (N:=l0_0.length) (w0:=W2)
  (fun l J Jx W hW hJ hJx hY h0 => g_M 8 (by omega) l (w1.heap.size + 1) w.heap.size A0_0 ad c0_0 l0_0 a0_1 hl am cm J Jx hY w W hJ rfl (nB.out.trans (hW.mono nB.out.size)) hAA.out ((hW.block _ (a_Q n1.out)).trans n1.out) HMS.out hc0_0 HR.out h0)
  (fun h k => ⟨h.1.trans k.1,k.2.trans h.2⟩) (fun W l o o' hl' hh hc hk => ⟨belowK_b (w:=W2) nB.out.size W l o o' hl' hh hc hk,(grownBy_putObj' W l o').block _ (by have:=a_Q hh;omega) (by intro e;cases e;omega)⟩) (Below.refl _ _) (fun _ => rfl)
  (fun pre W => RanI w w1 a1 a2 a3 ((pre.map (·.val)).foldl (ranB l0_0 a0_1 a1 a2 a3) 0) W)
  (fun _ _ _ => False)
  (fun s A B row hs hg hr => ⟨e_w hs.b0 hg hr,e_w hs.b1 hg hr,e_w hs.b2 hg hr,e_w hs.b3 hg hr,Nat.lt_of_lt_of_le hs.b4 hg.size,hs.below.grown hg hs.below.size (fun k e => Nat.le_trans nB.out.size (hr k e).1)⟩)
  (fun _ _ _ _ _ hs _ _ => hs)
  ⟨n0.out,n2.out,n3.out,n4.out,by omega,nB.out⟩
  (fun x a' W => ∃ Bm Bs : Nat,W.heap[Bm]? = some (.cells #[.int .i64 (a_p l0_0 (x.val : Int)).f0,.slice (am x.val) (a_p l0_0 (x.val : Int)).f1.length (cm x.val)] 27 (0,0)) ∧ W.heap[Bs]? = some (.cells #[.int .i64 (a_p l0_0 (x.val : Int)).f0,.int .i64 (c_p l0_0 a0_1 x.val)] 46 (0,0)) ∧ a' = { tmps:=#[.agg #[.slice A0_0 l0_0.length c0_0,.int .i64 a0_1],.int .i64 a1,.int .i64 a2,.int .i64 a3,.pointer (some ⟨w.heap.size,0,none⟩),.pointer (some ⟨w.heap.size + 1,0,none⟩),.pointer (some ⟨w.heap.size + 1 + 1,0,none⟩),.pointer (some ⟨w.heap.size + 1 + 1 + 1,0,none⟩),.int .i64 0,.int .i64 0,.pointer (some ⟨w1.heap.size,0,none⟩),.pointer (some ⟨Bm,0,none⟩),.pointer (some ⟨Bs,0,none⟩),undef,undef,.bool false,.agg #[.slice A0_0 l0_0.length c0_0,.int .i64 a0_1],.int .i64 0,.bool false,.bool false,.int .i64 a2,.bool false,.bool false,.int .i64 a3,.bool false,.bool false,.bool false,.int .i64 a2,.int .i64 a3,.bool false,.bool false,.agg #[.slice A0_0 l0_0.length c0_0,.int .i64 a0_1],.func (.func 55) #[] #[.pointer (some ⟨w1.heap.size + 1,0,none⟩)],momV l0_0 am cm x.val,.agg #[.int .i64 (a_p l0_0 (x.val : Int)).f0,.int .i64 (c_p l0_0 a0_1 x.val)],undef,undef,undef,undef,undef,undef,undef,undef,undef,undef,undef,undef,undef,undef,undef,undef,undef,undef,undef,undef,undef,undef,undef,undef,undef],defers:=[] })
  (fun x a' s A B row hs hg hr => by obtain ⟨Bm,Bs,h1,h2,h3⟩:=hs;exact ⟨Bm,Bs,e_w h1 hg hr,e_w h2 hg hr,h3⟩) ?assign ?body ?done ?stop
 case assign =>
  rintro l pre x W K ⟨b0,b1,b2,b3,b4,hB⟩ hK
  simp only [momV]
  have i0:=a_d.mk b0
  have i1:=a_d.mk b1
  have i2:=a_d.mk b2
  have i3:=a_d.mk b3
  have iB:=a_d.mk hB
  have iK:=a_d.mk hK
  clear b0 b1 b2 b3 hB hK
  gi_wp2
  have u:=a_g (a_g (Below.refl W.heap.size W) (.cells #[.int .i64 (a_p l0_0 (x.val : Int)).f0,.slice (am x.val) (a_p l0_0 (x.val : Int)).f1.length (cm x.val)] 27)) (.cells #[.int .i64 (a_p l0_0 (x.val : Int)).f0,.int .i64 (c_p l0_0 a0_1 x.val)] 46)
  exact iK.out _ _ (b_0 u) ⟨u.mono iB.out.size,u.block _ b4⟩ ⟨a_i i0.out u,a_i i1.out u,a_i i2.out u,a_i i3.out u,Nat.lt_of_lt_of_le b4 u.size,iB.out.trans (u.mono iB.out.size)⟩ ⟨_,_,a_j (c_7 W _) _,by have:=c_7 (W.alloc (.cells #[.int .i64 (a_p l0_0 (x.val : Int)).f0,.slice (am x.val) (a_p l0_0 (x.val : Int)).f1.length (cm x.val)] 27)) (.cells #[.int .i64 (a_p l0_0 (x.val : Int)).f0,.int .i64 (c_p l0_0 a0_1 x.val)] 46);rwa [World.size_alloc] at this,rfl⟩
 case body =>
  rintro l pre x a' W hl' _ ⟨b0,b1,b2,b3,b4,hB⟩ ⟨Bm,Bs,bm,bs,rfl⟩ hlt
  simp only [momV]
  have hmx:=HMS.out x.val x.isLt
  have hsm : (a_p l0_0 (x.val : Int)).f1.length ≤ 1099511627776:=HM.out _ (by unfold a_p;simp)
  have IF:=a_d.mk (n_S (a_p l0_0 (x.val : Int)).f0 (a_p l0_0 (x.val : Int)).f1 a1 hsm)
  have iC:=a_d.mk (Kd.a_U hmx.2.2.2 hB)
  have iL:=hmx.2.2.1
  clear hmx hsm
  have c0:=(a_a bm 0).trans rfl
  have c1:=(a_a bm 1).trans rfl
  have c2:=(a_a b1 0).trans rfl
  have iN : ((pre ++ [x]).map (·.val)).foldl (ranB l0_0 a0_1 a1 a2 a3) 0 = ranB l0_0 a0_1 a1 a2 a3 ((pre.map (·.val)).foldl (ranB l0_0 a0_1 a1 a2 a3) 0) x.val:=by simp
  generalize hn : (pre.map (·.val)).foldl (ranB l0_0 a0_1 a1 a2 a3) 0 = nn at b0 iN
  clear hn
  have IN:=a_d.mk iN
  have i0:=a_d.mk b0
  have i1:=a_d.mk b1
  have i2:=a_d.mk b2
  have i3:=a_d.mk b3
  have is:=a_d.mk bs
  have iB:=a_d.mk hB
  clear b0 b1 b2 b3 hB bm bs iN
  cases hb : (a_0 (a_p l0_0 (x.val : Int)).f1 a1).2 with
  | false =>
   rw [hb] at IF
   have IH:=a_d.mk hb
   clear hb
   gi_wp2_with (refine ⟨trivial,?_⟩;gi_at_call 29;refine (CallsIn.inRound l (callsIn_wide.2 (c_8.calls _ _ _ _ _ _ _ _ _ _ _ _ _ _ _ _ _ _ iC.out iL IF.out))).mono ?_;rintro e w' ⟨rfl,hb⟩;have IB2:=a_d.mk hb;clear hb)
   have u:=a_g IB2.out (.cells #[.int .i64 (a_0 (a_p l0_0 (x.val : Int)).f1 a1).1.f0,.int .i64 (a_0 (a_p l0_0 (x.val : Int)).f1 a1).1.f1,.int .i64 (a_0 (a_p l0_0 (x.val : Int)).f1 a1).1.f2,.int .i64 (a_0 (a_p l0_0 (x.val : Int)).f1 a1).1.f3,.int .i64 (a_0 (a_p l0_0 (x.val : Int)).f1 a1).1.f4,.bool (a_0 (a_p l0_0 (x.val : Int)).f1 a1).1.f5,.bool (a_0 (a_p l0_0 (x.val : Int)).f1 a1).1.f6,.int .u32 (a_0 (a_p l0_0 (x.val : Int)).f1 a1).1.f7,.int .i64 (a_0 (a_p l0_0 (x.val : Int)).f1 a1).1.f8,.int .i64 (a_0 (a_p l0_0 (x.val : Int)).f1 a1).1.f9,.int .i64 (a_0 (a_p l0_0 (x.val : Int)).f1 a1).1.f10] 65)
   have e : ranB l0_0 a0_1 a1 a2 a3 nn x.val = nn:=by unfold ranB;rw [IH.out];simp
   exact ⟨b_0 u,⟨u.mono iB.out.size,u.block _ b4⟩,⟨by rw [IN.out,e];exact a_i i0.out u,a_i i1.out u,a_i i2.out u,a_i i3.out u,Nat.lt_of_lt_of_le b4 u.size,iB.out.trans (u.mono iB.out.size)⟩⟩
  | true =>
   rw [hb] at IF
   have IH:=a_d.mk hb
   clear hb
   cases hd : decide (-1 < (a_0 (a_p l0_0 (x.val : Int)).f1 a1).1.f4) with
   | false =>
    gi_wp2_with (refine ⟨trivial,?_⟩;gi_at_call 29;refine (CallsIn.inRound l (callsIn_wide.2 (c_8.calls _ _ _ _ _ _ _ _ _ _ _ _ _ _ _ _ _ _ iC.out iL IF.out))).mono ?_;rintro e w' ⟨rfl,hb⟩;have IB2:=a_d.mk hb;clear hb)
    have u:=a_g IB2.out (.cells #[.int .i64 (a_0 (a_p l0_0 (x.val : Int)).f1 a1).1.f0,.int .i64 (a_0 (a_p l0_0 (x.val : Int)).f1 a1).1.f1,.int .i64 (a_0 (a_p l0_0 (x.val : Int)).f1 a1).1.f2,.int .i64 (a_0 (a_p l0_0 (x.val : Int)).f1 a1).1.f3,.int .i64 (a_0 (a_p l0_0 (x.val : Int)).f1 a1).1.f4,.bool (a_0 (a_p l0_0 (x.val : Int)).f1 a1).1.f5,.bool (a_0 (a_p l0_0 (x.val : Int)).f1 a1).1.f6,.int .u32 (a_0 (a_p l0_0 (x.val : Int)).f1 a1).1.f7,.int .i64 (a_0 (a_p l0_0 (x.val : Int)).f1 a1).1.f8,.int .i64 (a_0 (a_p l0_0 (x.val : Int)).f1 a1).1.f9,.int .i64 (a_0 (a_p l0_0 (x.val : Int)).f1 a1).1.f10] 65)
    have e : ranB l0_0 a0_1 a1 a2 a3 nn x.val = nn:=by unfold ranB;rw [if_neg (fun h => of_decide_eq_false hd h.2)]
    exact ⟨b_0 u,⟨u.mono iB.out.size,u.block _ b4⟩,⟨by rw [IN.out,e];exact a_i i0.out u,a_i i1.out u,a_i i2.out u,a_i i3.out u,Nat.lt_of_lt_of_le b4 u.size,iB.out.trans (u.mono iB.out.size)⟩⟩
   | true =>
    gi_wp2_with (refine ⟨trivial,?_⟩;gi_at_call 29;refine (CallsIn.inRound l (callsIn_wide.2 (c_8.calls _ _ _ _ _ _ _ _ _ _ _ _ _ _ _ _ _ _ iC.out iL IF.out))).mono ?_;rintro e w' ⟨rfl,hb⟩;have s0 : w'.cell? ⟨Bs,0,none⟩ = some (.int .i64 (a_p l0_0 (x.val : Int)).f0):=(a_a (a_i is.out hb) 0).trans rfl;have s1 : w'.cell? ⟨Bs,1,none⟩ = some (.int .i64 (c_p l0_0 a0_1 x.val)):=(a_a (a_i is.out hb) 1).trans rfl;have s2 : w'.cell? ⟨w1.heap.size,0,none⟩ = some (.int .i64 nn):=(a_a (a_i i0.out hb) 0).trans rfl;have s3 : w'.cell? ⟨w.heap.size + 1 + 1,0,none⟩ = some (.int .i64 a2):=(a_a (a_i i2.out hb) 0).trans rfl;have s4 : w'.cell? ⟨w.heap.size + 1 + 1 + 1,0,none⟩ = some (.int .i64 a3):=(a_a (a_i i3.out hb) 0).trans rfl;have sf:=a_b (a_i i0.out hb) 0;have y0:=a_Q (a_i is.out hb);have y1:=a_Q (a_i i0.out hb);have y2:=a_Q (a_i i2.out hb);have y3:=a_Q (a_i i3.out hb);have IB2:=a_d.mk hb;clear hb)
    all_goals
     have key : ∀ (B : Nat) (v : Int),ranB l0_0 a0_1 a1 a2 a3 nn x.val = v → KeepsFrom B W ((w'.setCell ⟨w1.heap.size,0,none⟩ (.int .i64 v)).alloc (.cells #[.int .i64 (a_0 (a_p l0_0 (x.val : Int)).f1 a1).1.f0,.int .i64 (a_0 (a_p l0_0 (x.val : Int)).f1 a1).1.f1,.int .i64 (a_0 (a_p l0_0 (x.val : Int)).f1 a1).1.f2,.int .i64 (a_0 (a_p l0_0 (x.val : Int)).f1 a1).1.f3,.int .i64 (a_0 (a_p l0_0 (x.val : Int)).f1 a1).1.f4,.bool (a_0 (a_p l0_0 (x.val : Int)).f1 a1).1.f5,.bool (a_0 (a_p l0_0 (x.val : Int)).f1 a1).1.f6,.int .u32 (a_0 (a_p l0_0 (x.val : Int)).f1 a1).1.f7,.int .i64 (a_0 (a_p l0_0 (x.val : Int)).f1 a1).1.f8,.int .i64 (a_0 (a_p l0_0 (x.val : Int)).f1 a1).1.f9,.int .i64 (a_0 (a_p l0_0 (x.val : Int)).f1 a1).1.f10] 65)) ∧ KpB w.heap.size (w1.heap.size + 1) W ((w'.setCell ⟨w1.heap.size,0,none⟩ (.int .i64 v)).alloc (.cells #[.int .i64 (a_0 (a_p l0_0 (x.val : Int)).f1 a1).1.f0,.int .i64 (a_0 (a_p l0_0 (x.val : Int)).f1 a1).1.f1,.int .i64 (a_0 (a_p l0_0 (x.val : Int)).f1 a1).1.f2,.int .i64 (a_0 (a_p l0_0 (x.val : Int)).f1 a1).1.f3,.int .i64 (a_0 (a_p l0_0 (x.val : Int)).f1 a1).1.f4,.bool (a_0 (a_p l0_0 (x.val : Int)).f1 a1).1.f5,.bool (a_0 (a_p l0_0 (x.val : Int)).f1 a1).1.f6,.int .u32 (a_0 (a_p l0_0 (x.val : Int)).f1 a1).1.f7,.int .i64 (a_0 (a_p l0_0 (x.val : Int)).f1 a1).1.f8,.int .i64 (a_0 (a_p l0_0 (x.val : Int)).f1 a1).1.f9,.int .i64 (a_0 (a_p l0_0 (x.val : Int)).f1 a1).1.f10] 65)) ∧ RanI w w1 a1 a2 a3 (((pre ++ [x]).map (·.val)).foldl (ranB l0_0 a0_1 a1 a2 a3) 0) ((w'.setCell ⟨w1.heap.size,0,none⟩ (.int .i64 v)).alloc (.cells #[.int .i64 (a_0 (a_p l0_0 (x.val : Int)).f1 a1).1.f0,.int .i64 (a_0 (a_p l0_0 (x.val : Int)).f1 a1).1.f1,.int .i64 (a_0 (a_p l0_0 (x.val : Int)).f1 a1).1.f2,.int .i64 (a_0 (a_p l0_0 (x.val : Int)).f1 a1).1.f3,.int .i64 (a_0 (a_p l0_0 (x.val : Int)).f1 a1).1.f4,.bool (a_0 (a_p l0_0 (x.val : Int)).f1 a1).1.f5,.bool (a_0 (a_p l0_0 (x.val : Int)).f1 a1).1.f6,.int .u32 (a_0 (a_p l0_0 (x.val : Int)).f1 a1).1.f7,.int .i64 (a_0 (a_p l0_0 (x.val : Int)).f1 a1).1.f8,.int .i64 (a_0 (a_p l0_0 (x.val : Int)).f1 a1).1.f9,.int .i64 (a_0 (a_p l0_0 (x.val : Int)).f1 a1).1.f10] 65))   := fun B v e => by
      have u0:=IB2.out
      have h1 : Below w.heap.size W (w'.setCell ⟨w1.heap.size,0,none⟩ (.int .i64 v)):=(u0.mono iB.out.size).setCell (p:=⟨w1.heap.size,0,none⟩) hws _
      have h2:=h1.alloc (Nat.le_trans iB.out.size h1.size) (.cells #[.int .i64 (a_0 (a_p l0_0 (x.val : Int)).f1 a1).1.f0,.int .i64 (a_0 (a_p l0_0 (x.val : Int)).f1 a1).1.f1,.int .i64 (a_0 (a_p l0_0 (x.val : Int)).f1 a1).1.f2,.int .i64 (a_0 (a_p l0_0 (x.val : Int)).f1 a1).1.f3,.int .i64 (a_0 (a_p l0_0 (x.val : Int)).f1 a1).1.f4,.bool (a_0 (a_p l0_0 (x.val : Int)).f1 a1).1.f5,.bool (a_0 (a_p l0_0 (x.val : Int)).f1 a1).1.f6,.int .u32 (a_0 (a_p l0_0 (x.val : Int)).f1 a1).1.f7,.int .i64 (a_0 (a_p l0_0 (x.val : Int)).f1 a1).1.f8,.int .i64 (a_0 (a_p l0_0 (x.val : Int)).f1 a1).1.f9,.int .i64 (a_0 (a_p l0_0 (x.val : Int)).f1 a1).1.f10] 65)
      refine ⟨((b_0 u0).trans ((KeepsOthers.setCell w' ⟨w1.heap.size,0,none⟩ (.int .i64 v)).from _)).trans ((KeepsOthers.alloc _ _).from _),⟨h2,?_⟩,⟨a_j (by rw [IN.out,e];exact a_R (a_i i0.out u0) 0 _ rfl) _,a_j (a_L (a_i i1.out u0) (by show w.heap.size + 1 ≠ w1.heap.size;omega) _) _,a_j (a_L (a_i i2.out u0) (by show w.heap.size + 1 + 1 ≠ w1.heap.size;omega) _) _,a_j (a_L (a_i i3.out u0) (by show w.heap.size + 1 + 1 + 1 ≠ w1.heap.size;omega) _) _,Nat.lt_of_lt_of_le b4 h2.size,iB.out.trans h2⟩⟩
      rw [Below.heap_alloc _ _ _ (by have:=u0.size;simp only [World.setCell,Array.size_modify];omega),Below.heap_setCell _ _ _ _ (by show w1.heap.size + 1 ≠ w1.heap.size;omega)]
      exact u0.block _ b4
     refine key _ _ ?_
     unfold ranB
     rw [if_pos ⟨IH.out,of_decide_eq_true hd⟩]
     (first|rw [u_0 (by assumption)]|rw [u_R (by assumption)])
     (first|rw [r_w (a:=(a_p l0_0 (x.val : Int)).f0) (by assumption)]|rw [r_v (a:=(a_p l0_0 (x.val : Int)).f0) (by assumption)])
     (first|rw [r_w (by assumption),Int.add_zero]|rw [r_v (by assumption)])
 case done =>
  rintro D ys W hD rfl ⟨b0,b1,b2,b3,b4,hB⟩ hK
  have hv : ((List.finRange l0_0.length).map (·.val)).foldl (ranB l0_0 a0_1 a1 a2 a3) 0 = (List.range l0_0.length).foldl (ranB l0_0 a0_1 a1 a2 a3) 0:=by
   congr 1
   apply List.ext_getElem
   ·simp
   intro i h1 h2;simp
  rw [hv] at b0
  have c0 : W.cell? ⟨w1.heap.size,0,none⟩ = some (.int .i64 ((List.range l0_0.length).foldl (ranB l0_0 a0_1 a1 a2 a3) 0)):=(a_a b0 0).trans rfl
  clear b0 b1 b2 b3 hv
  gi_wp2
  refine ⟨by simp,.inl ⟨_,_,rfl,run_takeDeferred hK,?_⟩⟩
  exact ⟨.tuple #[.int .i64 ((List.range l0_0.length).foldl (ranB l0_0 a0_1 a1 a2 a3) 0),.int .i64 0],by simp [results,Try.results16,go_sem],rfl,hB.trans (belowK_b (w:=w) (Nat.le_refl _) W D _ _ (by have:=nB.out.size;omega) hK rfl rfl)⟩
 case stop =>
  rintro D c pre W _ _ h _
  exact h.elim
set_option maxHeartbeats 2000000 in
theorem a_4.errs (k : Nat) (A0_0 : Option Addr) (c0_0 : Nat) (l0_0 : List S27) (a0_1 a1 a2 a3 : Int) (e r : Int) (w : World) (hr0_0 : Kd.C k27 w A0_0 l0_0.length l0_0) (hc0_0 : l0_0.length ≤ c0_0) (he : a_E.f k l0_0 a0_1 = some e) (hr : (e ≠ 0 ∧ r = 390) ∨ (e = 0 ∧ (a2 < 0 ∨ 1125899906842624 < a3 ∨ a3 < a2) ∧ r = 2)) :
 Calls Try.prog 16 #[.agg #[.slice A0_0 l0_0.length c0_0,.int .i64 a0_1],.int .i64 a1,.int .i64 a2,.int .i64 a3] w fun e w' => e = .returned (.tuple #[.int .i64 0,.int .i64 r]) ∧ Below w.heap.size w w':=by
 have HR:=a_d.mk hr0_0
 have HE:=a_d.mk he
 clear hr0_0 he
 have q2:=a_d.mk (a_j (c_7 ((w.alloc (.cells #[.slice A0_0 l0_0.length c0_0,.int .i64 a0_1] 24)).alloc (.cells #[.int .i64 a1] 3)) (.cells #[.int .i64 a2] 2)) (.cells #[.int .i64 a3] 2))
 have q3:=a_d.mk (c_7 (((w.alloc (.cells #[.slice A0_0 l0_0.length c0_0,.int .i64 a0_1] 24)).alloc (.cells #[.int .i64 a1] 3)).alloc (.cells #[.int .i64 a2] 2)) (.cells #[.int .i64 a3] 2))
 have qB:=a_d.mk (a_g (a_g (a_g (a_g (Below.refl w.heap.size w) (.cells #[.slice A0_0 l0_0.length c0_0,.int .i64 a0_1] 24)) (.cells #[.int .i64 a1] 3)) (.cells #[.int .i64 a2] 2)) (.cells #[.int .i64 a3] 2))
 simp only [World.size_alloc] at q2 q3
 rcases hr with ⟨h1,rfl⟩ | ⟨rfl,h2,rfl⟩
 ·have g0 : (e != 0) = true:=bne_iff_ne.mpr h1
  clear h1
  go_enter Try.func16,Try.ntmps16
  go_wp2_with (go_at_call 14;refine (a_E.calls k _ _ l0_0 a0_1 e _ ?s1 hc0_0 HE.out).mono ?_;(case s1 => exact Kd.a_U HR.out qB.out);rintro e w1 ⟨rfl,hb⟩;have HB:=a_d.mk (a_o qB.out hb);clear hb)
  go_ret2
  exact ⟨rfl,HB.out⟩
 have key : ∀ b1 b2 b3 : Bool,decide (a2 < 0) = b1 → decide (1125899906842624 < a3) = b2 → decide (a3 < a2) = b3 → (b1 || b2 || b3) = true → Calls Try.prog 16 #[.agg #[.slice A0_0 l0_0.length c0_0,.int .i64 a0_1],.int .i64 a1,.int .i64 a2,.int .i64 a3] w fun e w' => e = .returned (.tuple #[.int .i64 0,.int .i64 2]) ∧ Below w.heap.size w w':=by
  intro b1 b2 b3 g1 g2 g3 hor
  cases b1 <;> cases b2 <;> cases b3 <;> first|(exact absurd hor (by decide))|skip
  all_goals
   clear hor
   go_enter Try.func16,Try.ntmps16
   go_wp2_with (go_at_call 14;refine (a_E.calls k _ _ l0_0 a0_1 0 _ ?s1 hc0_0 HE.out).mono ?_;(case s1 => exact Kd.a_U HR.out qB.out);rintro e w1 ⟨rfl,hb⟩;have HB:=a_d.mk (a_o qB.out hb);have p2:=a_d.mk (a_i q2.out hb);have p3:=a_d.mk (a_i q3.out hb);clear hb;have r2 : w1.cell? ⟨w.heap.size + 1 + 1,0,none⟩ = some (.int .i64 a2):=(a_a p2.out 0).trans rfl;have r3 : w1.cell? ⟨w.heap.size + 1 + 1 + 1,0,none⟩ = some (.int .i64 a3):=(a_a p3.out 0).trans rfl)
   go_ret2
   exact ⟨rfl,HB.out⟩
 refine key _ _ _ rfl rfl rfl ?_
 simp only [Bool.or_eq_true,decide_eq_true_eq]
 omega
theorem a_4.calls (k : Nat) (A0_0 : Option Addr) (c0_0 : Nat) (l0_0 : List S27) (a0_1 a1 a2 a3 : Int) (r1 r2 : Int) (w : World) (hr0_0 : Kd.C k27 w A0_0 l0_0.length l0_0) (hc0_0 : l0_0.length ≤ c0_0) (h : a_4.f k l0_0 a0_1 a1 a2 a3 = some (r1,r2)) :
 Calls Try.prog 16 #[.agg #[.slice A0_0 l0_0.length c0_0,.int .i64 a0_1],.int .i64 a1,.int .i64 a2,.int .i64 a3] w fun e w' => e = .returned (.tuple #[.int .i64 r1,.int .i64 r2]) ∧ Below w.heap.size w w':=by
 obtain ⟨e,he,h⟩:=Option.bind_eq_some_iff.mp h
 by_cases h0 : e = 0
 rotate_left
 ·rw [if_neg h0] at h;cases h
  exact a_4.errs k A0_0 c0_0 l0_0 a0_1 a1 a2 a3 e 390 w hr0_0 hc0_0 he (.inl ⟨h0,rfl⟩)
 rw [if_pos h0] at h
 subst h0
 by_cases h1 : a2 < 0
 ·rw [if_pos h1] at h;cases h
  exact a_4.errs k A0_0 c0_0 l0_0 a0_1 a1 a2 a3 0 2 w hr0_0 hc0_0 he (.inr ⟨rfl,.inl h1,rfl⟩)
 rw [if_neg h1] at h
 by_cases h2 : 1125899906842624 < a3
 ·rw [if_pos h2] at h;cases h
  exact a_4.errs k A0_0 c0_0 l0_0 a0_1 a1 a2 a3 0 2 w hr0_0 hc0_0 he (.inr ⟨rfl,.inr (.inl h2),rfl⟩)
 rw [if_neg h2] at h
 by_cases h3 : a3 < a2
 ·rw [if_pos h3] at h;cases h
  exact a_4.errs k A0_0 c0_0 l0_0 a0_1 a1 a2 a3 0 2 w hr0_0 hc0_0 he (.inr ⟨rfl,.inr (.inr h3),rfl⟩)
 rw [if_neg h3] at h
 by_cases h4 : l0_0.length ≤ 4398046511104 ∧ ∀ m ∈ l0_0,m.f1.length ≤ 1099511627776
 ·rw [if_pos h4] at h;cases h
  exact a_4.sums k A0_0 c0_0 l0_0 a0_1 a1 a2 a3 w hr0_0 hc0_0 he h1 h2 h3 h4.1 h4.2
 rw [if_neg h4] at h;cases h
end
end Go.Proofs.Ytgglkfilkagblaa.Q
end
section
namespace Go.Proofs.Ytgglkfilkagblaa.Q
open Go.RowKit Go.Proofs.YtgglkfilkagblaaW.PrintWords Go.Proofs.YtgglkfilkagblaaW.PrintLast Go.Proofs.YtgglkfilkagblaaW.PrintMore
set_option linter.unusedVariables false
set_option linter.unusedSimpArgs false
def d_Y.f (a0_0 : Int) (a0_1 : Int) (a0_2 : Int) (a0_3 : Int) (a0_4 : Int) (a0_5 : Bool) (a0_6 : Bool) (a0_7 : Int) (a0_8 : Int) (a0_9 : Int) (a0_10 : Int) : Option (Bool):=if a0_5 = true then (if a0_6 = true then (some false) else (if a0_2 = 0 then (some (a0_4 == (-1))) else (some false))) else (some false)
set_option maxHeartbeats 8000000 in
set_option maxRecDepth 100000 in
theorem d_Y.calls (a0_0 : Int) (a0_1 : Int) (a0_2 : Int) (a0_3 : Int) (a0_4 : Int) (a0_5 : Bool) (a0_6 : Bool) (a0_7 : Int) (a0_8 : Int) (a0_9 : Int) (a0_10 : Int) (r : Bool) (w : World) (h : d_Y.f a0_0 a0_1 a0_2 a0_3 a0_4 a0_5 a0_6 a0_7 a0_8 a0_9 a0_10 = some r) :
 Calls Try.prog 30 #[.agg #[.int .i64 a0_0,.int .i64 a0_1,.int .i64 a0_2,.int .i64 a0_3,.int .i64 a0_4,.bool a0_5,.bool a0_6,.int .u32 a0_7,.int .i64 a0_8,.int .i64 a0_9,.int .i64 a0_10]] w fun e w' => e = .returned (.bool r) ∧ Below w.heap.size w w':=by
 have hu65:=Try.underlying65
 have HB:=a_d.mk (Below.refl w.heap.size w)
 have H : (if a0_5 = true then (if a0_6 = true then (some false) else (if a0_2 = 0 then (some (a0_4 == (-1))) else (some false))) else (some false)) = some r:=h
 clear h
 by_cases c2 : a0_5 = true
 rotate_left
 ·replace c2:=Bool.eq_false_iff.mpr c2
  subst c2
  have H1 : (some false) = some r:=by rw [if_neg (show ¬ (false = true) by decide)] at H;exact H
  clear H
  have H:=H1
  clear H1
  obtain rfl:=Option.some.inj H
  go_enter Try.func30,Try.ntmps30
  go_wp2_with (first|((with_reducible refine a_J (N:=1) rfl ?_);refine a_C ?hg (N:=1) ?hd (cs:=#[.int .i64 a0_0,.int .i64 a0_1,.int .i64 a0_2,.int .i64 a0_3,.int .i64 a0_4,.bool false,.bool a0_6,.int .u32 a0_7,.int .i64 a0_8,.int .i64 a0_9,.int .i64 a0_10]) (t:=65) ?hr ?_;(case hd => rfl);(case hg => rfl);(case hr => first|(go_simp;done)|(go_simp;rfl));intro c_r hg w11 hbox hb;have b_G:=a_d.mk (hbox);have t_1:=a_d.mk ((by rw [hg];exact (a_n (lup_ HB.out)) : w.heap.size ≤ c_r));have m_c:=a_d.mk ((by rw [hg];exact (a_n (lup_ HB.out)) : w.heap.size ≤ c_r));replace HB:=a_d.mk (a_o (lup_ HB.out) hb);clear hb hbox hg;have e_0 : w11.cell? ⟨c_r,0,none⟩ = some (.int .i64 a0_0):=(a_a b_G.out 0).trans rfl;have e_1 : w11.cell? ⟨c_r,1,none⟩ = some (.int .i64 a0_1):=(a_a b_G.out 1).trans rfl;have l_z : w11.cell? ⟨c_r,2,none⟩ = some (.int .i64 a0_2):=(a_a b_G.out 2).trans rfl;have l_A : w11.cell? ⟨c_r,3,none⟩ = some (.int .i64 a0_3):=(a_a b_G.out 3).trans rfl;have l_B : w11.cell? ⟨c_r,4,none⟩ = some (.int .i64 a0_4):=(a_a b_G.out 4).trans rfl;have l_C : w11.cell? ⟨c_r,5,none⟩ = some (.bool false):=(a_a b_G.out 5).trans rfl;have l_D : w11.cell? ⟨c_r,6,none⟩ = some (.bool a0_6):=(a_a b_G.out 6).trans rfl;have l_E : w11.cell? ⟨c_r,7,none⟩ = some (.int .u32 a0_7):=(a_a b_G.out 7).trans rfl;have l_F : w11.cell? ⟨c_r,8,none⟩ = some (.int .i64 a0_8):=(a_a b_G.out 8).trans rfl;have l_G : w11.cell? ⟨c_r,9,none⟩ = some (.int .i64 a0_9):=(a_a b_G.out 9).trans rfl;have j_X : w11.cell? ⟨c_r,10,none⟩ = some (.int .i64 a0_10):=(a_a b_G.out 10).trans rfl;have e_2:=a_b b_G.out 0;have e_3:=a_b b_G.out 1;have l_H:=a_b b_G.out 2;have l_I:=a_b b_G.out 3;have l_J:=a_b b_G.out 4;have l_K:=a_b b_G.out 5;have l_L:=a_b b_G.out 6;have l_M:=a_b b_G.out 7;have l_N:=a_b b_G.out 8;have l_O:=a_b b_G.out 9;have j_Y:=a_b b_G.out 10))
  go_ret
  exact ⟨by first|rfl|(simp [a_w,a_x] <;> rfl)|(simp [*, a_w,a_x] <;> rfl),by repeat (first|(with_reducible first|exact HB.out|apply a_g|apply a_e|apply a_h|refine a_f ?_ m_c.out)|exact HB.out)⟩
 subst c2
 have H1 : (if a0_6 = true then (some false) else (if a0_2 = 0 then (some (a0_4 == (-1))) else (some false))) = some r:=by rw [if_pos rfl] at H;exact H
 clear H
 have H:=H1
 clear H1
 by_cases c3 : a0_6 = true
 ·subst c3
  have H1 : (some false) = some r:=by rw [if_pos rfl] at H;exact H
  clear H
  have H:=H1
  clear H1
  obtain rfl:=Option.some.inj H
  go_enter Try.func30,Try.ntmps30
  go_wp2_with (first|((with_reducible refine a_J (N:=1) rfl ?_);refine a_C ?hg (N:=1) ?hd (cs:=#[.int .i64 a0_0,.int .i64 a0_1,.int .i64 a0_2,.int .i64 a0_3,.int .i64 a0_4,.bool true,.bool true,.int .u32 a0_7,.int .i64 a0_8,.int .i64 a0_9,.int .i64 a0_10]) (t:=65) ?hr ?_;(case hd => rfl);(case hg => rfl);(case hr => first|(go_simp;done)|(go_simp;rfl));intro c_r hg w4 hbox hb;have b_G:=a_d.mk (hbox);have t_1:=a_d.mk ((by rw [hg];exact (a_n (lup_ HB.out)) : w.heap.size ≤ c_r));have m_c:=a_d.mk ((by rw [hg];exact (a_n (lup_ HB.out)) : w.heap.size ≤ c_r));replace HB:=a_d.mk (a_o (lup_ HB.out) hb);clear hb hbox hg;have f_f : w4.cell? ⟨c_r,0,none⟩ = some (.int .i64 a0_0):=(a_a b_G.out 0).trans rfl;have f_g : w4.cell? ⟨c_r,1,none⟩ = some (.int .i64 a0_1):=(a_a b_G.out 1).trans rfl;have v_w : w4.cell? ⟨c_r,2,none⟩ = some (.int .i64 a0_2):=(a_a b_G.out 2).trans rfl;have v_x : w4.cell? ⟨c_r,3,none⟩ = some (.int .i64 a0_3):=(a_a b_G.out 3).trans rfl;have v_y : w4.cell? ⟨c_r,4,none⟩ = some (.int .i64 a0_4):=(a_a b_G.out 4).trans rfl;have v_z : w4.cell? ⟨c_r,5,none⟩ = some (.bool true):=(a_a b_G.out 5).trans rfl;have v_A : w4.cell? ⟨c_r,6,none⟩ = some (.bool true):=(a_a b_G.out 6).trans rfl;have v_B : w4.cell? ⟨c_r,7,none⟩ = some (.int .u32 a0_7):=(a_a b_G.out 7).trans rfl;have v_C : w4.cell? ⟨c_r,8,none⟩ = some (.int .i64 a0_8):=(a_a b_G.out 8).trans rfl;have v_D : w4.cell? ⟨c_r,9,none⟩ = some (.int .i64 a0_9):=(a_a b_G.out 9).trans rfl;have t_2 : w4.cell? ⟨c_r,10,none⟩ = some (.int .i64 a0_10):=(a_a b_G.out 10).trans rfl;have f_h:=a_b b_G.out 0;have f_i:=a_b b_G.out 1;have v_E:=a_b b_G.out 2;have v_F:=a_b b_G.out 3;have v_G:=a_b b_G.out 4;have v_H:=a_b b_G.out 5;have v_I:=a_b b_G.out 6;have v_J:=a_b b_G.out 7;have v_K:=a_b b_G.out 8;have v_L:=a_b b_G.out 9;have t_3:=a_b b_G.out 10))
  go_ret
  exact ⟨by first|rfl|(simp [a_w,a_x] <;> rfl)|(simp [*, a_w,a_x] <;> rfl),by repeat (first|(with_reducible first|exact HB.out|apply a_g|apply a_e|apply a_h|refine a_f ?_ m_c.out)|exact HB.out)⟩
 replace c3:=Bool.eq_false_iff.mpr c3
 subst c3
 have H1 : (if a0_2 = 0 then (some (a0_4 == (-1))) else (some false)) = some r:=by rw [if_neg (show ¬ (false = true) by decide)] at H;exact H
 clear H
 have H:=H1
 clear H1
 by_cases c6 : a0_2 = 0
 ·rw [if_pos c6] at H
  have c6b0 : (a0_2 == 0) = true:=beq_iff_eq.mpr c6
  have c6b1 : (a0_2 != 0) = false:=bne_eq_false_iff_eq.mpr c6
  clear c6
  obtain rfl:=Option.some.inj H
  go_enter Try.func30,Try.ntmps30
  go_wp2_with (first|((with_reducible refine a_J (N:=1) rfl ?_);refine a_C ?hg (N:=1) ?hd (cs:=#[.int .i64 a0_0,.int .i64 a0_1,.int .i64 a0_2,.int .i64 a0_3,.int .i64 a0_4,.bool true,.bool false,.int .u32 a0_7,.int .i64 a0_8,.int .i64 a0_9,.int .i64 a0_10]) (t:=65) ?hr ?_;(case hd => rfl);(case hg => rfl);(case hr => first|(go_simp;done)|(go_simp;rfl));intro c_r hg w7 hbox hb;have b_G:=a_d.mk (hbox);have t_1:=a_d.mk ((by rw [hg];exact (a_n (lup_ HB.out)) : w.heap.size ≤ c_r));have m_c:=a_d.mk ((by rw [hg];exact (a_n (lup_ HB.out)) : w.heap.size ≤ c_r));replace HB:=a_d.mk (a_o (lup_ HB.out) hb);clear hb hbox hg;have h_i : w7.cell? ⟨c_r,0,none⟩ = some (.int .i64 a0_0):=(a_a b_G.out 0).trans rfl;have h_j : w7.cell? ⟨c_r,1,none⟩ = some (.int .i64 a0_1):=(a_a b_G.out 1).trans rfl;have v_M : w7.cell? ⟨c_r,2,none⟩ = some (.int .i64 a0_2):=(a_a b_G.out 2).trans rfl;have v_N : w7.cell? ⟨c_r,3,none⟩ = some (.int .i64 a0_3):=(a_a b_G.out 3).trans rfl;have v_O : w7.cell? ⟨c_r,4,none⟩ = some (.int .i64 a0_4):=(a_a b_G.out 4).trans rfl;have v_P : w7.cell? ⟨c_r,5,none⟩ = some (.bool true):=(a_a b_G.out 5).trans rfl;have v_Q : w7.cell? ⟨c_r,6,none⟩ = some (.bool false):=(a_a b_G.out 6).trans rfl;have v_R : w7.cell? ⟨c_r,7,none⟩ = some (.int .u32 a0_7):=(a_a b_G.out 7).trans rfl;have v_S : w7.cell? ⟨c_r,8,none⟩ = some (.int .i64 a0_8):=(a_a b_G.out 8).trans rfl;have v_T : w7.cell? ⟨c_r,9,none⟩ = some (.int .i64 a0_9):=(a_a b_G.out 9).trans rfl;have t_4 : w7.cell? ⟨c_r,10,none⟩ = some (.int .i64 a0_10):=(a_a b_G.out 10).trans rfl;have h_k:=a_b b_G.out 0;have h_l:=a_b b_G.out 1;have v_U:=a_b b_G.out 2;have v_V:=a_b b_G.out 3;have v_W:=a_b b_G.out 4;have v_X:=a_b b_G.out 5;have v_Y:=a_b b_G.out 6;have v_Z:=a_b b_G.out 7;have v_0:=a_b b_G.out 8;have v_1:=a_b b_G.out 9;have t_5:=a_b b_G.out 10))
  go_ret
  exact ⟨by first|rfl|(simp [a_w,a_x] <;> rfl)|(simp [*, a_w,a_x] <;> rfl),by repeat (first|(with_reducible first|exact HB.out|apply a_g|apply a_e|apply a_h|refine a_f ?_ m_c.out)|exact HB.out)⟩
 rw [if_neg c6] at H
 have c6b0 : (a0_2 == 0) = false:=beq_eq_false_iff_ne.mpr c6
 have c6b1 : (a0_2 != 0) = true:=bne_iff_ne.mpr c6
 obtain rfl:=Option.some.inj H
 go_enter Try.func30,Try.ntmps30
 go_wp2_with (first|((with_reducible refine a_J (N:=1) rfl ?_);refine a_C ?hg (N:=1) ?hd (cs:=#[.int .i64 a0_0,.int .i64 a0_1,.int .i64 a0_2,.int .i64 a0_3,.int .i64 a0_4,.bool true,.bool false,.int .u32 a0_7,.int .i64 a0_8,.int .i64 a0_9,.int .i64 a0_10]) (t:=65) ?hr ?_;(case hd => rfl);(case hg => rfl);(case hr => first|(go_simp;done)|(go_simp;rfl));intro c_r hg w9 hbox hb;have b_G:=a_d.mk (hbox);have t_1:=a_d.mk ((by rw [hg];exact (a_n (lup_ HB.out)) : w.heap.size ≤ c_r));have m_c:=a_d.mk ((by rw [hg];exact (a_n (lup_ HB.out)) : w.heap.size ≤ c_r));replace HB:=a_d.mk (a_o (lup_ HB.out) hb);clear hb hbox hg;have f_t : w9.cell? ⟨c_r,0,none⟩ = some (.int .i64 a0_0):=(a_a b_G.out 0).trans rfl;have f_u : w9.cell? ⟨c_r,1,none⟩ = some (.int .i64 a0_1):=(a_a b_G.out 1).trans rfl;have o_A : w9.cell? ⟨c_r,2,none⟩ = some (.int .i64 a0_2):=(a_a b_G.out 2).trans rfl;have o_B : w9.cell? ⟨c_r,3,none⟩ = some (.int .i64 a0_3):=(a_a b_G.out 3).trans rfl;have o_C : w9.cell? ⟨c_r,4,none⟩ = some (.int .i64 a0_4):=(a_a b_G.out 4).trans rfl;have o_D : w9.cell? ⟨c_r,5,none⟩ = some (.bool true):=(a_a b_G.out 5).trans rfl;have o_E : w9.cell? ⟨c_r,6,none⟩ = some (.bool false):=(a_a b_G.out 6).trans rfl;have o_F : w9.cell? ⟨c_r,7,none⟩ = some (.int .u32 a0_7):=(a_a b_G.out 7).trans rfl;have o_G : w9.cell? ⟨c_r,8,none⟩ = some (.int .i64 a0_8):=(a_a b_G.out 8).trans rfl;have o_H : w9.cell? ⟨c_r,9,none⟩ = some (.int .i64 a0_9):=(a_a b_G.out 9).trans rfl;have m_I : w9.cell? ⟨c_r,10,none⟩ = some (.int .i64 a0_10):=(a_a b_G.out 10).trans rfl;have f_v:=a_b b_G.out 0;have f_w:=a_b b_G.out 1;have o_I:=a_b b_G.out 2;have o_J:=a_b b_G.out 3;have o_K:=a_b b_G.out 4;have o_L:=a_b b_G.out 5;have o_M:=a_b b_G.out 6;have o_N:=a_b b_G.out 7;have o_O:=a_b b_G.out 8;have o_P:=a_b b_G.out 9;have m_J:=a_b b_G.out 10))
 go_ret
 exact ⟨by first|rfl|(simp [a_w,a_x] <;> rfl)|(simp [*, a_w,a_x] <;> rfl),by repeat (first|(with_reducible first|exact HB.out|apply a_g|apply a_e|apply a_h|refine a_f ?_ m_c.out)|exact HB.out)⟩
end Go.Proofs.Ytgglkfilkagblaa.Q
end
section
namespace Go.Proofs.Ytgglkfilkagblaa.Q
open Go.RowKit Go.Proofs.YtgglkfilkagblaaW.PrintWords Go.Proofs.YtgglkfilkagblaaW.PrintLast Go.Proofs.YtgglkfilkagblaaW.PrintMore
set_option linter.unusedVariables false
set_option linter.unusedSimpArgs false
section
attribute [local go_sem] Oper.semAt_some
def g_D (x : S65) : Bool:=x.f5 && !x.f6 && x.f2 == 0 && x.f4 == -1
theorem q_O (x : S65) : d_Y.f x.f0 x.f1 x.f2 x.f3 x.f4 x.f5 x.f6 x.f7 x.f8 x.f9 x.f10 = some (g_D x):=by
 unfold d_Y.f g_D
 cases x.f5 <;> cases x.f6 <;> simp
 by_cases h : x.f2 = 0 <;> simp [h]
def d_S (xs : List S27) (en v : Int) (acc : List S46) (j : Nat) : List S46 :=
 if (a_0 (a_p xs (j : Int)).f1 v).2 = true ∧ g_D (a_0 (a_p xs (j : Int)).f1 v).1 = true ∧ (a_p xs (j : Int)).f0 ≠ c_p xs en j then
  (if 0 < acc.length ∧ (acc.getD (acc.length - 1) z46).f1 = (a_p xs (j : Int)).f0 then acc.set (acc.length - 1) ⟨(acc.getD (acc.length - 1) z46).f0,c_p xs en j⟩
  else acc ++ [⟨(a_p xs (j : Int)).f0,c_p xs en j⟩]) else acc
theorem k_s (xs : List S27) (en v : Int) (js : List Nat) (acc : List S46) : (js.foldl (d_S xs en v) acc).length ≤ acc.length + js.length:=by
 induction js generalizing acc with
 | nil => simp
 | cons j js ih =>
  have:=ih (d_S xs en v acc j)
  have h : (d_S xs en v acc j).length ≤ acc.length + 1:=by unfold d_S;split <;> (try split) <;> simp
  simp only [List.foldl_cons,List.length_cons];omega
def a_Z.f (k : Nat) (l0_0 : List S27) (a0_1 a1 : Int) : Option (List S46 × Int):=(a_E.f k l0_0 a0_1).bind fun e => if e = 0 then (if l0_0.length ≤ 4398046511104 ∧ ∀ m ∈ l0_0,m.f1.length ≤ 1099511627776 then some ((List.range l0_0.length).foldl (d_S l0_0 a0_1 a1) [],0) else none) else some ([],e)
theorem a_Z.mono : ∀ a0 a1 a2 k,LeO (a_Z.f k a0 a1 a2) (a_Z.f (k + 1) a0 a1 a2):=fun a0 a1 a2 k => LeO.bind (a_E.mono _ _ _) (fun _ => LeO.refl _)
def e_t (l : List S46) : List Value:=l.flatMap fun s => [.int .i64 s.f0,.int .i64 s.f1]
theorem k_x (l : List S46) : (e_t l).length = l.length * 2:=by
 induction l with
 | nil => rfl
 | cons s l ih => simp only [e_t,List.flatMap_cons,List.length_append,List.length_cons,List.length_nil] at ih ⊢; omega
theorem k_H (a b : List S46) : e_t (a ++ b) = e_t a ++ e_t b:=List.flatMap_append
theorem k_F (l : List S46) (i : Nat) (h : i < l.length) : (e_t l)[i * 2]? = some (.int .i64 (l.getD i z46).f0) ∧ (e_t l)[i * 2 + 1]? = some (.int .i64 (l.getD i z46).f1):=by
 induction l generalizing i with
 | nil => simp at h
 | cons s l ih =>
  cases i with
  | zero => exact ⟨rfl,rfl⟩
  | succ i =>
   have:=ih i (by simpa using h)
   have e : e_t (s :: l) = [.int .i64 s.f0,.int .i64 s.f1] ++ e_t l:=rfl
   rw [e,List.getElem?_append_right (by simp;omega),List.getElem?_append_right (by simp;omega),List.getD_cons_succ]
   simp only [List.length_cons,List.length_nil]
   rw [show (i + 1) * 2 - (0 + 1 + 1) = i * 2 by omega,show (i + 1) * 2 + 1 - (0 + 1 + 1) = i * 2 + 1 by omega]
   exact this
theorem o_h (l : List S46) (i : Nat) (h : i < l.length) (u : Int) : (e_t l).set (i * 2 + 1) (.int .i64 u) = e_t (l.set i ⟨(l.getD i z46).f0,u⟩):=by
 induction l generalizing i with
 | nil => simp at h
 | cons s l ih =>
  cases i with
  | zero => rfl
  | succ i =>
   have:=ih i (by simpa using h)
   have e : e_t (s :: l) = .int .i64 s.f0 :: .int .i64 s.f1 :: e_t l:=rfl
   rw [e,show (i + 1) * 2 + 1 = (i * 2 + 1) + 1 + 1 by omega,List.set_cons_succ,List.set_cons_succ,this]
   rfl
theorem g_S {W W' : World} {base n : Nat} {e : TypeId} {size : Nat} {v : Value} {xs : List Value} (h : W.ownsRow base e size v n xs) (hb : Below W.heap.size W W') : W'.ownsRow base e size v n xs :=
 h.kept (row:=none) ⟨hb.os,hb.tape,hb.output,hb.size,fun k hk _ => hb.block k hk⟩ (by rcases h.2 with ⟨rfl,_⟩ | ⟨g,cap,cur,rfl,_⟩;exact .inl rfl;exact .inr (by simp [Value.ownBlock]))
theorem r_8 {W : World} {base n g cap : Nat} {e : TypeId} {size : Nat} {xs : List Value} (h : W.ownsRow base e size (.slice (some ⟨g,0,none⟩) n cap) n xs) (i : Nat) (hi : i < n * size) (u : Value) : (W.setCell ⟨g,i,none⟩ u).ownsRow base e size (.slice (some ⟨g,0,none⟩) n cap) n (xs.set i u):=by
 obtain ⟨h1,h2⟩:=h
 rcases h2 with ⟨h2,_⟩ | ⟨g',cap',cur,h2,h3,h4,h5,h6,h7,h8⟩
 ·cases h2
 cases h2
 refine ⟨by simpa using h1,.inr ⟨g,cap,cur.setIfInBounds i u,rfl,h3,k_6 h4 i u,h5,h6,by simpa using h7,?_⟩⟩
 rw [Array.toList_setIfInBounds,List.take_set,h8]
theorem m_v {W : World} {base n g cap : Nat} {e : TypeId} {size : Nat} {xs : List Value} (h : W.ownsRow base e size (.slice (some ⟨g,0,none⟩) n cap) n xs) (i : Nat) (hi : i < n * size) : W.cell? ⟨g,i,none⟩ = xs[i]? ∧ W.frozen? ⟨g,i,none⟩ = false ∧ base ≤ g ∧ n ≤ cap:=by
 obtain ⟨h1,h2⟩:=h
 rcases h2 with ⟨h2,_⟩ | ⟨g',cap',cur,h2,h3,h4,h5,h6,h7,h8⟩
 ·cases h2
 cases h2
 refine ⟨(a_a h4 i).trans ?_,a_b h4 i,h3,h5⟩
 rw [← h8,List.getElem?_take_of_lt hi]
 simp
theorem n_2 {W : World} {B t : Nat} {cs : Array Value} (h : W.heap[B]? = some (.cells cs t (0,0))) {e : TypeId} (hte : t ≠ e) {base size k : Nat} {v : Value} {xs : List Value} (hr : W.ownsRow base e size v k xs) : some B ≠ v.ownBlock:=by
 rcases hr.2 with ⟨rfl,_⟩ | ⟨g,cap,cur,rfl,_,hgb,_⟩
 ·simp [Value.ownBlock]
 intro e'
 obtain rfl : B = g:=by simpa [Value.ownBlock] using e'
 have:=h.symm.trans hgb
 simp at this
 exact hte this.2
theorem v_i {W : World} {base : Nat} {v : Value} {xs : List S46} (h : W.ownsRow base 46 2 v xs.length (e_t xs)) : Kd.R k46 46 W base (fun _ => True) v xs :=
 ⟨fun _ _ => trivial,e_t xs,h,(k_x xs).trans rfl,fun j p hj => by
  obtain ⟨hj',rfl⟩:=List.getElem?_eq_some_iff.mp hj
  have h2:=k_F xs j hj'
  have e : ((e_t xs).drop (j * 2)).take 2 = [.int .i64 xs[j].f0,.int .i64 xs[j].f1]:=by
   have g : xs.getD j z46 = xs[j]:=by simp [List.getD,hj']
   rw [g] at h2
   apply List.ext_getElem?
   intro i
   rcases i with _|_|i
   ·simpa [List.getElem?_take,List.getElem?_drop] using h2.1
   ·simpa [List.getElem?_take,List.getElem?_drop] using h2.2
   ·simp;omega
  show k46.M W base _ _ (((e_t xs).drop (j * 2)).take 2)
  rw [e];exact j_o _ _ _ _⟩
structure f_6 (w w1 : World) (a1 : Int) (acc : List S46) (W : World) : Prop where
 v : ∃ v,W.heap[w1.heap.size]? = some (.cells #[v] 41 (0,0)) ∧ W.ownsRow w.heap.size 46 2 v acc.length (e_t acc)
 b1 : W.heap[w.heap.size + 1]? = some (.cells #[.int .i64 a1] 3 (0,0))
 b4 : w1.heap.size + 1 < W.heap.size
 ga : ∃ cs,W.heap[w1.heap.size + 1]? = some (.cells cs 24 (0,0))
 below : Below w.heap.size w W
theorem f_6.bel {w w1 W W' : World} {a1 : Int} {acc : List S46} (h : f_6 w w1 a1 acc W) (u : Below W.heap.size W W') : f_6 w w1 a1 acc W':=by
 obtain ⟨⟨v,h1,h2⟩,h3,h4,⟨cs,h5⟩,h6⟩:=h
 exact ⟨⟨v,a_i h1 u,g_S h2 u⟩,a_i h3 u,Nat.lt_of_lt_of_le h4 u.size,⟨cs,a_i h5 u⟩,h6.trans (u.mono h6.size)⟩
theorem n_U (W : World) (a b : Value) (t : TypeId) : ∀ j u,[a,b][j]? = some u → (W.alloc (.cells #[a,b] t)).cell? ((⟨W.heap.size,0,none⟩ : Addr).add j) = some u:=by
 intro j u hj
 rcases j with _|_|j
 ·cases hj;exact (a_a (c_7 W (.cells #[a,b] t)) 0).trans rfl
 ·cases hj;exact (a_a (c_7 W (.cells #[a,b] t)) 1).trans rfl
 simp at hj
structure w_8 (A : Act) (W' : World) (e : Exit) (a : Act) (w : World) : Prop where
 e : e = .normal
 a : a = A
 w : w = W'
theorem m_x {F : Fence} {n : Nat} {P : Program} {c : Code} {Q : Exit → Act → World → Prop} {a : Act} {w : World} (h : ∃ A W',c.wpIn F n P (w_8 A W') a w ∧ Q .normal A W') : c.wpIn F n P Q a w:=by
 obtain ⟨A,W',h1,h2⟩:=h
 exact wpIn_mono h1 (by rintro e a w ⟨rfl,rfl,rfl⟩;exact h2)
theorem n_w (l : List S46) (f t : Int) : e_t (l ++ [⟨f,t⟩]) = e_t l ++ [.int .i64 f,.int .i64 t]:=k_H l [⟨f,t⟩]
theorem m_z {w w1 W w4 w5 : World} {a1 : Int} {acc : List S46} (iI : f_6 w w1 a1 acc W) (hw : w.heap.size ≤ w1.heap.size) (u : Below W.heap.size W w4) {v v' : Value} (bv : W.heap[w1.heap.size]? = some (.cells #[v] 41 (0,0))) {n : Nat} (hn : acc.length = n) (hr : W.ownsRow w.heap.size 46 2 v n (e_t acc)) {f t : Int} {tmp : Obj}
 (hown' : w5.ownsRow w.heap.size 46 2 v' (n + 1) (e_t acc ++ [.int .i64 f,.int .i64 t])) (hgrow : (w4.alloc tmp).grownBy w5 v.ownBlock) :
 (w5.cell? ⟨w1.heap.size,0,none⟩ = some v ∧ w5.frozen? ⟨w1.heap.size,0,none⟩ = false) ∧ (∀ B,KeepsFrom B W (w5.setCell ⟨w1.heap.size,0,none⟩ v')) ∧ KpB w.heap.size (w1.heap.size + 1) W (w5.setCell ⟨w1.heap.size,0,none⟩ v') ∧ f_6 w w1 a1 (acc ++ [⟨f,t⟩]) (w5.setCell ⟨w1.heap.size,0,none⟩ v'):=by
 subst hn
 obtain ⟨_,b1,b4,⟨cs,ga⟩,hB⟩:=iI
 have hb4 : Boxed w4 w1.heap.size 41 v:=a_i bv u
 have hr4:=g_S hr u
 obtain ⟨h1,h2,h3,h4,h5⟩:=hb4.appended (n₀:=w.heap.size) (by decide) hr4 (Nat.le_trans hB.size u.size) hw hown' hgrow
 have hB5 : Below w.heap.size W (w5.setCell ⟨w1.heap.size,0,none⟩ v'):=(u.mono hB.size).trans h5
 have far : ∀ {k : Nat} {cs : Array Value} {t : TypeId}, W.heap[k]? = some (.cells cs t (0,0)) → t ≠ 46 → k ≠ w1.heap.size → (w5.setCell ⟨w1.heap.size,0,none⟩ v').heap[k]? = some (.cells cs t (0,0)):=fun {k cs t} hk ht hne => by
  have k4:=a_i hk u
  rw [Below.heap_setCell _ _ _ _ hne,hgrow.block _ (by have:=a_Q k4;simp only [World.size_alloc];omega) (n_2 k4 ht hr4)]
  exact a_j k4 _
 refine ⟨⟨h1.cell,h1.frozen⟩,fun B => (b_0 u).trans (h4.from B),⟨hB5,(far ga (by decide) (by omega)).trans ga.symm⟩,⟨⟨v',h2,by rw [n_w,List.length_append];exact h3⟩,far b1 (by decide) ?_,Nat.lt_of_lt_of_le b4 hB5.size,⟨cs,far ga (by decide) (by omega)⟩,hB.trans hB5⟩⟩
 intro e
 rw [e] at b1
 rw [bv] at b1
 simp at b1
theorem q_M {w w1 W w4 : World} {a1 : Int} {acc : List S46} (iI : f_6 w w1 a1 acc W) (hw : w.heap.size ≤ w1.heap.size) (u : Below W.heap.size W w4) {g cap m : Nat} (bv : W.heap[w1.heap.size]? = some (.cells #[.slice (some ⟨g,0,none⟩) (m + 1) cap] 41 (0,0))) (hr : W.ownsRow w.heap.size 46 2 (.slice (some ⟨g,0,none⟩) (m + 1) cap) (m + 1) (e_t acc)) (hm : acc.length = m + 1) (t : Int) :
 (∀ B,KeepsFrom B W (w4.setCell ⟨g,m * 2 + 1,none⟩ (.int .i64 t))) ∧ KpB w.heap.size (w1.heap.size + 1) W (w4.setCell ⟨g,m * 2 + 1,none⟩ (.int .i64 t)) ∧ f_6 w w1 a1 (acc.set m ⟨(acc.getD m z46).f0,t⟩) (w4.setCell ⟨g,m * 2 + 1,none⟩ (.int .i64 t)):=by
 obtain ⟨_,b1,b4,⟨cs,ga⟩,hB⟩:=iI
 have hr4:=g_S hr u
 obtain ⟨_,_,hg,_⟩:=m_v hr (m * 2 + 1) (by omega)
 have hB5 : Below w.heap.size W (w4.setCell ⟨g,m * 2 + 1,none⟩ (.int .i64 t)):=(u.mono hB.size).setCell (p:=⟨g,_,none⟩) hg _
 have far : ∀ {k : Nat} {cs : Array Value} {ty : TypeId}, W.heap[k]? = some (.cells cs ty (0,0)) → ty ≠ 46 → (w4.setCell ⟨g,m * 2 + 1,none⟩ (.int .i64 t)).heap[k]? = some (.cells cs ty (0,0)):=fun {k cs ty} hk ht => by
  have k4:=a_i hk u
  rw [Below.heap_setCell _ _ _ _ (fun e => n_2 k4 ht hr4 (by rw [e];rfl))]
  exact k4
 refine ⟨fun B => (b_0 u).trans ((KeepsOthers.setCell _ _ _).from B),⟨hB5,(far ga (by decide)).trans ga.symm⟩,⟨⟨_,far bv (by decide),?_⟩,far b1 (by decide),Nat.lt_of_lt_of_le b4 hB5.size,⟨cs,far ga (by decide)⟩,hB.trans hB5⟩⟩
 rw [← o_h acc m (by omega) t,List.length_set,hm]
 exact r_8 hr4 _ (by omega) _
set_option maxRecDepth 100000 in
set_option maxHeartbeats 12000000 in
theorem a_Z.sums (k : Nat) (A0_0 : Option Addr) (c0_0 : Nat) (l0_0 : List S27) (a0_1 a1 : Int) (w : World) (hr0_0 : Kd.C k27 w A0_0 l0_0.length l0_0) (hc0_0 : l0_0.length ≤ c0_0) (he : a_E.f k l0_0 a0_1 = some 0) (hl : l0_0.length ≤ 4398046511104) (hm : ∀ m ∈ l0_0,m.f1.length ≤ 1099511627776) :
 Calls Try.prog 17 #[.agg #[.slice A0_0 l0_0.length c0_0,.int .i64 a0_1],.int .i64 a1] w fun e w' => ∃ v0_ : Value,e = .returned (.tuple #[v0_,.int .i64 0]) ∧ Kd.R k46 46 w' w.heap.size (fun _ => True) v0_ ((List.range l0_0.length).foldl (d_S l0_0 a0_1 a1) []) ∧ Below w.heap.size w w':=by
 have HR:=a_d.mk hr0_0
 have HE:=a_d.mk he
 have HM:=a_d.mk hm
 clear hr0_0 he hm
 have q0:=a_d.mk (a_j (c_7 w (.cells #[.slice A0_0 l0_0.length c0_0,.int .i64 a0_1] 24)) (.cells #[.int .i64 a1] 3))
 have q1:=a_d.mk (c_7 (w.alloc (.cells #[.slice A0_0 l0_0.length c0_0,.int .i64 a0_1] 24)) (.cells #[.int .i64 a1] 3))
 have qB:=a_d.mk (a_g (a_g (Below.refl w.heap.size w) (.cells #[.slice A0_0 l0_0.length c0_0,.int .i64 a0_1] 24)) (.cells #[.int .i64 a1] 3))
 simp only [World.size_alloc] at q0 q1
 refine (callsIn_wide (n:=9)).1 ?_
 refine callsIn_of_wp_marks Try.func17 rfl trivial ?_ rfl
 simp only [Try.ntmps17,List.size_toArray,List.length_cons,List.length_nil,Nat.reduceAdd,Nat.reduceSub,Array.replicate_succ,Array.replicate_zero,List.push_toArray,List.append_toArray,List.nil_append,List.cons_append]
 gi_wp2_with (first
  | (refine ⟨trivial,?_⟩;gi_at_call 14;refine (callsIn_wide.2 (a_E.calls k _ _ l0_0 a0_1 0 _ ?s1 hc0_0 HE.out)).mono ?_;(case s1 => exact Kd.a_U HR.out qB.out);rintro e w1 ⟨rfl,hb⟩;have HB:=a_d.mk (a_o qB.out hb);have p0:=a_d.mk (a_i q0.out hb);have p1:=a_d.mk (a_i q1.out hb);clear hb;have r0 : w1.cell? ⟨w.heap.size,0,none⟩ = some (.slice A0_0 l0_0.length c0_0):=(a_a p0.out 0).trans rfl;have r1 : w1.cell? ⟨w.heap.size,1,none⟩ = some (.int .i64 a0_1):=(a_a p0.out 1).trans rfl;have z0:=a_Q p0.out;have z1:=a_Q p1.out)
  | (refine ⟨trivial,?_⟩;gi_at_call 28;refine (callsIn_wide.2 (k_E.calls _ _ _ _ _)).mono ?_;rintro e w' ⟨rfl,rfl⟩))
 have n0:=a_d.mk (a_j (c_7 w1 (.cells #[.slice none 0 0] 41)) (.cells #[.slice A0_0 l0_0.length c0_0,.int .i64 a0_1] 24))
 have n1:=a_d.mk (c_7 (w1.alloc (.cells #[.slice none 0 0] 41)) (.cells #[.slice A0_0 l0_0.length c0_0,.int .i64 a0_1] 24))
 have n2:=a_d.mk (a_j (a_j p1.out (.cells #[.slice none 0 0] 41)) (.cells #[.slice A0_0 l0_0.length c0_0,.int .i64 a0_1] 24))
 have nB:=a_d.mk (a_g (a_g HB.out (.cells #[.slice none 0 0] 41)) (.cells #[.slice A0_0 l0_0.length c0_0,.int .i64 a0_1] 24))
 have hsz:=a_d.mk (show ((w1.alloc (.cells #[.slice none 0 0] 41)).alloc (.cells #[.slice A0_0 l0_0.length c0_0,.int .i64 a0_1] 24)).heap.size = w1.heap.size + 1 + 1 by simp)
 simp only [World.size_alloc] at n0 n1 n2
 have hws:=HB.out.size
 clear q0 q1 p0 p1 r0 r1 qB HB
 obtain ⟨W2,hW2⟩ : ∃ W2,(w1.alloc (.cells #[.slice none 0 0] 41)).alloc (.cells #[.slice A0_0 l0_0.length c0_0,.int .i64 a0_1] 24) = W2:=⟨_,rfl⟩
 rw [hW2] at n0 n1 n2 nB hsz ⊢
 clear hW2
 obtain ⟨ad,am,cm,hA,hMs⟩ : ∃ ad am cm,(0 < l0_0.length → A0_0 = some ad) ∧ h_e l0_0 ad am cm w:=by
  by_cases h : 0 < l0_0.length
  ·obtain ⟨ad,am,cm,e,hm⟩:=k_v HR.out h
   exact ⟨ad,am,cm,fun _ => e,hm⟩
  exact ⟨⟨0,0,none⟩,fun _ => none,fun _ => 0,fun h' => absurd h' h,fun j hj => absurd (Nat.lt_of_le_of_lt (Nat.zero_le _) hj) h⟩
 have HMS:=a_d.mk hMs
 have hAA:=a_d.mk hA
 clear hMs hA
 refine wpIn_rangeFunc_ownH rfl (by omega) (gf:=55) (lb:=#[.pointer (some ⟨w1.heap.size + 1,0,none⟩)]) rfl trivial (enters_of Try.func55 (by kernel_rfl) rfl)
  (encs:=fun x : Fin l0_0.length => #[momV l0_0 am cm x.val,.agg #[.int .i64 (a_p l0_0 (x.val : Int)).f0,.int .i64 (c_p l0_0 a0_1 x.val)]]) (Kp:=KpB w.heap.size (w1.heap.size + 1)) (S:=fun ys => ys = List.finRange l0_0.length) (Sp:=fun _ => True) (N:=l0_0.length) (w0:=W2)
  (fun l J Jx W hW hJ hJx hY h0 => g_M 8 (by omega) l (w1.heap.size + 1) w.heap.size A0_0 ad c0_0 l0_0 a0_1 hl am cm J Jx hY w W hJ rfl (nB.out.trans (hW.mono nB.out.size)) hAA.out ((hW.block _ (a_Q n1.out)).trans n1.out) HMS.out hc0_0 HR.out h0)
  (fun h k => ⟨h.1.trans k.1,k.2.trans h.2⟩) (fun W l o o' hl' hh hc hk => ⟨belowK_b (w:=W2) nB.out.size W l o o' hl' hh hc hk,(grownBy_putObj' W l o').block _ (by have:=a_Q hh;have:=hsz.out;omega) (by intro e;cases e;have:=hsz.out;omega)⟩) (Below.refl _ _) (fun _ => rfl)
  (fun pre W => f_6 w w1 a1 ((pre.map (·.val)).foldl (d_S l0_0 a0_1 a1) []) W)
  (fun _ _ _ => False)
  (fun s A B row hs hg hr => by
   obtain ⟨⟨v,h1,h2⟩,h3,h4,⟨cs,h5⟩,h6⟩:=hs
   exact ⟨⟨v,e_w h1 hg hr,h2.kept hg (by
    rcases h2.2 with ⟨rfl,_⟩ | ⟨g,cap,cur,rfl,_,hgb,_⟩
    ·exact .inl rfl
    ·refine .inr fun e' => ?_
     obtain ⟨_,o,ho,hc⟩:=hr g (by simpa [Value.ownBlock] using e'.symm)
     rw [hgb] at ho;cases ho;cases hc)⟩,e_w h3 hg hr,Nat.lt_of_lt_of_le h4 hg.size,⟨cs,e_w h5 hg hr⟩,h6.grown hg h6.size (fun k e => Nat.le_trans nB.out.size (hr k e).1)⟩)
  (fun _ _ _ _ _ hs _ _ => hs)
  ⟨⟨_,n0.out,k_3 _ _ _ _⟩,n2.out,by have:=hsz.out;omega,⟨_,n1.out⟩,nB.out⟩
  (fun x a' W => ∃ Bm Bs : Nat,W.heap[Bm]? = some (.cells #[.int .i64 (a_p l0_0 (x.val : Int)).f0,.slice (am x.val) (a_p l0_0 (x.val : Int)).f1.length (cm x.val)] 27 (0,0)) ∧ W.heap[Bs]? = some (.cells #[.int .i64 (a_p l0_0 (x.val : Int)).f0,.int .i64 (c_p l0_0 a0_1 x.val)] 46 (0,0)) ∧ a' = { tmps:=#[.agg #[.slice A0_0 l0_0.length c0_0,.int .i64 a0_1],.int .i64 a1,.pointer (some ⟨w.heap.size,0,none⟩),.pointer (some ⟨w.heap.size + 1,0,none⟩),.slice none 0 0,.int .i64 0,.int .i64 0,.pointer (some ⟨w1.heap.size,0,none⟩),.pointer (some ⟨Bm,0,none⟩),.pointer (some ⟨Bs,0,none⟩),undef,undef,undef,.agg #[.slice A0_0 l0_0.length c0_0,.int .i64 a0_1],.int .i64 0,.int .i64 0,.bool false,undef,.agg #[.slice A0_0 l0_0.length c0_0,.int .i64 a0_1],.func (.func 55) #[] #[.pointer (some ⟨w1.heap.size + 1,0,none⟩)],momV l0_0 am cm x.val,.agg #[.int .i64 (a_p l0_0 (x.val : Int)).f0,.int .i64 (c_p l0_0 a0_1 x.val)],undef,undef,undef,undef,undef,undef,undef,undef,undef,undef,undef,undef,undef,undef,undef,undef,undef,undef,undef,undef,undef,undef,undef,undef,undef,undef,undef,undef,undef,undef,undef,undef,undef,undef,undef,undef,undef,undef,undef,undef,undef,undef,undef,undef,undef,undef,undef],defers:=[] })
  (fun x a' s A B row hs hg hr => by obtain ⟨Bm,Bs,h1,h2,h3⟩:=hs;exact ⟨Bm,Bs,e_w h1 hg hr,e_w h2 hg hr,h3⟩) ?assign ?body ?done ?stop
 case assign =>
  rintro l pre x W K hI hK
  simp only [momV]
  have iI:=a_d.mk hI
  have iK:=a_d.mk hK
  clear hI hK
  gi_wp2
  have u:=a_g (a_g (Below.refl W.heap.size W) (.cells #[.int .i64 (a_p l0_0 (x.val : Int)).f0,.slice (am x.val) (a_p l0_0 (x.val : Int)).f1.length (cm x.val)] 27)) (.cells #[.int .i64 (a_p l0_0 (x.val : Int)).f0,.int .i64 (c_p l0_0 a0_1 x.val)] 46)
  exact iK.out _ _ (b_0 u) ⟨u.mono iI.out.below.size,u.block _ iI.out.b4⟩ (iI.out.bel u) ⟨_,_,a_j (c_7 W _) _,by have:=c_7 (W.alloc (.cells #[.int .i64 (a_p l0_0 (x.val : Int)).f0,.slice (am x.val) (a_p l0_0 (x.val : Int)).f1.length (cm x.val)] 27)) (.cells #[.int .i64 (a_p l0_0 (x.val : Int)).f0,.int .i64 (c_p l0_0 a0_1 x.val)] 46);rwa [World.size_alloc] at this,rfl⟩
 case body =>
  rintro l pre x a' W hl' _ hI ⟨Bm,Bs,bm,bs,rfl⟩ hlt
  have iI:=a_d.mk hI
  obtain ⟨⟨v,bv,hrow⟩,b1,b4,⟨gcs,ga⟩,hB⟩:=hI
  simp only [momV]
  have hmx:=HMS.out x.val x.isLt
  have hsm : (a_p l0_0 (x.val : Int)).f1.length ≤ 1099511627776:=HM.out _ (by unfold a_p;simp)
  have IF:=a_d.mk (n_S (a_p l0_0 (x.val : Int)).f0 (a_p l0_0 (x.val : Int)).f1 a1 hsm)
  have IW:=a_d.mk (q_O (a_0 (a_p l0_0 (x.val : Int)).f1 a1).1)
  have iC:=a_d.mk (Kd.a_U hmx.2.2.2 hB)
  have iL:=hmx.2.2.1
  clear hmx hsm
  have c0:=(a_a bm 0).trans rfl
  have c1:=(a_a bm 1).trans rfl
  have c2:=(a_a b1 0).trans rfl
  have iN : ((pre ++ [x]).map (·.val)).foldl (d_S l0_0 a0_1 a1) [] = d_S l0_0 a0_1 a1 ((pre.map (·.val)).foldl (d_S l0_0 a0_1 a1) []) x.val:=by simp
  have hln : ((pre.map (·.val)).foldl (d_S l0_0 a0_1 a1) []).length ≤ pre.length:=by simpa using k_s l0_0 a0_1 a1 (pre.map (·.val)) []
  have hlq : ((pre.map (·.val)).foldl (d_S l0_0 a0_1 a1) []).length ≤ 4398046511104:=by omega
  clear hln
  generalize hn : (pre.map (·.val)).foldl (d_S l0_0 a0_1 a1) [] = acc at hrow iN hlq iI
  clear hn
  have IN:=a_d.mk iN
  have IQ:=a_d.mk hlq
  have iv:=a_d.mk bv
  have i1:=a_d.mk b1
  have ig:=a_d.mk ga
  have is:=a_d.mk bs
  have iB:=a_d.mk hB
  have iR:=a_d.mk hrow
  have i4:=a_d.mk b4
  clear b1 hB bm bs iN hlq hrow bv ga b4
  cases hb : (a_0 (a_p l0_0 (x.val : Int)).f1 a1).2 with
  | false =>
   rw [hb] at IF
   have IH:=a_d.mk hb
   clear hb
   gi_wp2_with (first|(refine ⟨trivial,?_⟩;gi_at_call 29;refine (CallsIn.inRound l (callsIn_wide.2 (c_8.calls _ _ _ _ _ _ _ _ _ _ _ _ _ _ _ _ _ _ iC.out iL IF.out))).mono ?_;rintro e w3 ⟨rfl,hb⟩;have IB3:=a_d.mk hb;skip;clear hb)|(refine ⟨trivial,?_⟩))
   have u:=a_g IB3.out (.cells #[.int .i64 (a_0 (a_p l0_0 (x.val : Int)).f1 a1).1.f0,.int .i64 (a_0 (a_p l0_0 (x.val : Int)).f1 a1).1.f1,.int .i64 (a_0 (a_p l0_0 (x.val : Int)).f1 a1).1.f2,.int .i64 (a_0 (a_p l0_0 (x.val : Int)).f1 a1).1.f3,.int .i64 (a_0 (a_p l0_0 (x.val : Int)).f1 a1).1.f4,.bool (a_0 (a_p l0_0 (x.val : Int)).f1 a1).1.f5,.bool (a_0 (a_p l0_0 (x.val : Int)).f1 a1).1.f6,.int .u32 (a_0 (a_p l0_0 (x.val : Int)).f1 a1).1.f7,.int .i64 (a_0 (a_p l0_0 (x.val : Int)).f1 a1).1.f8,.int .i64 (a_0 (a_p l0_0 (x.val : Int)).f1 a1).1.f9,.int .i64 (a_0 (a_p l0_0 (x.val : Int)).f1 a1).1.f10] 65)
   have e : d_S l0_0 a0_1 a1 acc x.val = acc:=by unfold d_S;rw [IH.out];simp
   exact ⟨b_0 u,⟨u.mono iB.out.size,u.block _ i4.out⟩,by show f_6 w w1 a1 _ _;rw [IN.out,e];exact iI.out.bel u⟩
  | true =>
   rw [hb] at IF
   have IH:=a_d.mk hb
   clear hb
   cases hd : g_D (a_0 (a_p l0_0 (x.val : Int)).f1 a1).1 with
   | false =>
    rw [hd] at IW
    have IG:=a_d.mk hd
    clear hd
    gi_wp2_with (first|(refine ⟨trivial,?_⟩;gi_at_call 29;refine (CallsIn.inRound l (callsIn_wide.2 (c_8.calls _ _ _ _ _ _ _ _ _ _ _ _ _ _ _ _ _ _ iC.out iL IF.out))).mono ?_;rintro e w3 ⟨rfl,hb⟩;have IB3:=a_d.mk hb;skip;clear hb)|(refine ⟨trivial,?_⟩;gi_at_call 30;refine (CallsIn.inRound l (callsIn_wide.2 (d_Y.calls _ _ _ _ _ _ _ _ _ _ _ _ _ IW.out))).mono ?_;rintro e w4 ⟨rfl,hb⟩;have IB4:=a_d.mk (Below.trans (a_g IB3.out (.cells #[.int .i64 (a_0 (a_p l0_0 (x.val : Int)).f1 a1).1.f0,.int .i64 (a_0 (a_p l0_0 (x.val : Int)).f1 a1).1.f1,.int .i64 (a_0 (a_p l0_0 (x.val : Int)).f1 a1).1.f2,.int .i64 (a_0 (a_p l0_0 (x.val : Int)).f1 a1).1.f3,.int .i64 (a_0 (a_p l0_0 (x.val : Int)).f1 a1).1.f4,.bool (a_0 (a_p l0_0 (x.val : Int)).f1 a1).1.f5,.bool (a_0 (a_p l0_0 (x.val : Int)).f1 a1).1.f6,.int .u32 (a_0 (a_p l0_0 (x.val : Int)).f1 a1).1.f7,.int .i64 (a_0 (a_p l0_0 (x.val : Int)).f1 a1).1.f8,.int .i64 (a_0 (a_p l0_0 (x.val : Int)).f1 a1).1.f9,.int .i64 (a_0 (a_p l0_0 (x.val : Int)).f1 a1).1.f10] 65)) (hb.mono (a_g IB3.out (.cells #[.int .i64 (a_0 (a_p l0_0 (x.val : Int)).f1 a1).1.f0,.int .i64 (a_0 (a_p l0_0 (x.val : Int)).f1 a1).1.f1,.int .i64 (a_0 (a_p l0_0 (x.val : Int)).f1 a1).1.f2,.int .i64 (a_0 (a_p l0_0 (x.val : Int)).f1 a1).1.f3,.int .i64 (a_0 (a_p l0_0 (x.val : Int)).f1 a1).1.f4,.bool (a_0 (a_p l0_0 (x.val : Int)).f1 a1).1.f5,.bool (a_0 (a_p l0_0 (x.val : Int)).f1 a1).1.f6,.int .u32 (a_0 (a_p l0_0 (x.val : Int)).f1 a1).1.f7,.int .i64 (a_0 (a_p l0_0 (x.val : Int)).f1 a1).1.f8,.int .i64 (a_0 (a_p l0_0 (x.val : Int)).f1 a1).1.f9,.int .i64 (a_0 (a_p l0_0 (x.val : Int)).f1 a1).1.f10] 65)).size));clear hb;skip))
    have u:=IB4.out
    have e : d_S l0_0 a0_1 a1 acc x.val = acc:=by unfold d_S;rw [IG.out];simp
    exact ⟨b_0 u,⟨u.mono iB.out.size,u.block _ i4.out⟩,by show f_6 w w1 a1 _ _;rw [IN.out,e];exact iI.out.bel u⟩
   | true =>
    rw [hd] at IW
    have IG:=a_d.mk hd
    clear hd
    obtain ⟨i46,hi46,hz46⟩:=Option.map_eq_some_iff.mp n_P
    have H46:=a_d.mk hi46
    have H46z : a_d (i46.zero = some (.agg #[.int .i64 0,.int .i64 0])):=a_d.mk (Prod.mk.inj hz46).1
    have H46s : a_d (i46.size = 2):=a_d.mk (Prod.mk.inj (Prod.mk.inj hz46).2).1
    have H46b : a_d (i46.bytes = 16):=a_d.mk (Prod.mk.inj (Prod.mk.inj hz46).2).2
    clear hi46 hz46
    have hrow:=iR.out
    obtain ⟨A,cap,rfl⟩ : ∃ A cap,v = .slice A acc.length cap:=by
     rcases hrow.2 with ⟨rfl,hz⟩ | ⟨g,cap,cur,rfl,_⟩
     ·exact ⟨_,0,by rw [hz]⟩
     exact ⟨_,cap,rfl⟩
    by_cases hz : acc.length = 0
    ·have hacc : acc = []:=List.eq_nil_of_length_eq_zero hz
     have IA:=a_d.mk hacc
     have AHN:=a_d.mk hz
     rw [hz] at iv iR
     clear hz hacc hrow
     gi_wp2_with (first|(refine ⟨trivial,?_⟩;gi_at_call 29;refine (CallsIn.inRound l (callsIn_wide.2 (c_8.calls _ _ _ _ _ _ _ _ _ _ _ _ _ _ _ _ _ _ iC.out iL IF.out))).mono ?_;rintro e w3 ⟨rfl,hb⟩;have IB3:=a_d.mk hb;skip;clear hb)|(refine ⟨trivial,?_⟩;gi_at_call 30;refine (CallsIn.inRound l (callsIn_wide.2 (d_Y.calls _ _ _ _ _ _ _ _ _ _ _ _ _ IW.out))).mono ?_;rintro e w4 ⟨rfl,hb⟩;have IB4:=a_d.mk (Below.trans (a_g IB3.out (.cells #[.int .i64 (a_0 (a_p l0_0 (x.val : Int)).f1 a1).1.f0,.int .i64 (a_0 (a_p l0_0 (x.val : Int)).f1 a1).1.f1,.int .i64 (a_0 (a_p l0_0 (x.val : Int)).f1 a1).1.f2,.int .i64 (a_0 (a_p l0_0 (x.val : Int)).f1 a1).1.f3,.int .i64 (a_0 (a_p l0_0 (x.val : Int)).f1 a1).1.f4,.bool (a_0 (a_p l0_0 (x.val : Int)).f1 a1).1.f5,.bool (a_0 (a_p l0_0 (x.val : Int)).f1 a1).1.f6,.int .u32 (a_0 (a_p l0_0 (x.val : Int)).f1 a1).1.f7,.int .i64 (a_0 (a_p l0_0 (x.val : Int)).f1 a1).1.f8,.int .i64 (a_0 (a_p l0_0 (x.val : Int)).f1 a1).1.f9,.int .i64 (a_0 (a_p l0_0 (x.val : Int)).f1 a1).1.f10] 65)) (hb.mono (a_g IB3.out (.cells #[.int .i64 (a_0 (a_p l0_0 (x.val : Int)).f1 a1).1.f0,.int .i64 (a_0 (a_p l0_0 (x.val : Int)).f1 a1).1.f1,.int .i64 (a_0 (a_p l0_0 (x.val : Int)).f1 a1).1.f2,.int .i64 (a_0 (a_p l0_0 (x.val : Int)).f1 a1).1.f3,.int .i64 (a_0 (a_p l0_0 (x.val : Int)).f1 a1).1.f4,.bool (a_0 (a_p l0_0 (x.val : Int)).f1 a1).1.f5,.bool (a_0 (a_p l0_0 (x.val : Int)).f1 a1).1.f6,.int .u32 (a_0 (a_p l0_0 (x.val : Int)).f1 a1).1.f7,.int .i64 (a_0 (a_p l0_0 (x.val : Int)).f1 a1).1.f8,.int .i64 (a_0 (a_p l0_0 (x.val : Int)).f1 a1).1.f9,.int .i64 (a_0 (a_p l0_0 (x.val : Int)).f1 a1).1.f10] 65)).size));clear hb;have s2:=(a_a (a_i iv.out IB4.out) 0).trans rfl;have y2:=a_Q (a_i iv.out IB4.out);have s0 : w4.cell? ⟨Bs,0,none⟩ = some (.int .i64 (a_p l0_0 (x.val : Int)).f0):=(a_a (a_i is.out IB4.out) 0).trans rfl;have s1 : w4.cell? ⟨Bs,1,none⟩ = some (.int .i64 (c_p l0_0 a0_1 x.val)):=(a_a (a_i is.out IB4.out) 1).trans rfl;have y0:=a_Q (a_i is.out IB4.out)))
     ·have u:=IB4.out;have e : d_S l0_0 a0_1 a1 acc x.val = acc:=if_neg (fun h => h.2.2 (eq_of_beq (by assumption)));exact ⟨b_0 u,⟨u.mono iB.out.size,u.block _ i4.out⟩,by show f_6 w w1 a1 _ _;rw [IN.out,e];exact iI.out.bel u⟩
     generalize (Value.agg #[.int .i64 (a_0 (a_p l0_0 (x.val : Int)).f1 a1).1.f0,.int .i64 (a_0 (a_p l0_0 (x.val : Int)).f1 a1).1.f1,.int .i64 (a_0 (a_p l0_0 (x.val : Int)).f1 a1).1.f2,.int .i64 (a_0 (a_p l0_0 (x.val : Int)).f1 a1).1.f3,.int .i64 (a_0 (a_p l0_0 (x.val : Int)).f1 a1).1.f4,.bool (a_0 (a_p l0_0 (x.val : Int)).f1 a1).1.f5,.bool (a_0 (a_p l0_0 (x.val : Int)).f1 a1).1.f6,.int .u32 (a_0 (a_p l0_0 (x.val : Int)).f1 a1).1.f7,.int .i64 (a_0 (a_p l0_0 (x.val : Int)).f1 a1).1.f8,.int .i64 (a_0 (a_p l0_0 (x.val : Int)).f1 a1).1.f9,.int .i64 (a_0 (a_p l0_0 (x.val : Int)).f1 a1).1.f10]) = X1;have d0 : w4.drew.cell? ⟨Bs,0,none⟩ = some (.int .i64 (a_p l0_0 (x.val : Int)).f0):=s0;have d1 : w4.drew.cell? ⟨Bs,1,none⟩ = some (.int .i64 (c_p l0_0 a0_1 x.val)):=s1;have d2:=(show w4.drew.cell? _ = _ from s2);have y3 : Bs < w4.drew.heap.size:=y0;have y4 : w1.heap.size < w4.drew.heap.size:=y2;have mx : Try.prog.follows .mixedOrders = true:=by kernel_rfl
     refine m_x ?_;apply Exists.intro;apply Exists.intro;refine And.intro ?ra ?ka;(case ra => (gi_region_with_o (fail));all_goals exact ⟨rfl,rfl,rfl⟩)
     gi_wp2_with (gi_at_builtin;refine wpListIn_append_own _ rfl _ _ 41 rfl w.heap.size 46 _ (.agg #[.int .i64 0,.int .i64 0]) 2 16 Try.underlying41 H46.out H46z.out H46s.out H46b.out rfl (by decide) _ _ (e_t acc) rfl ((g_S iR.out (Below.drew IB4.out)).alloc (.cells #[.int .i64 (a_p l0_0 (x.val : Int)).f0,.int .i64 (c_p l0_0 a0_1 x.val)] 46)) ⟨w4.heap.size,0,none⟩ 1 1 [.int .i64 (a_p l0_0 (x.val : Int)).f0,.int .i64 (c_p l0_0 a0_1 x.val)] rfl rfl (n_U w4 _ _ _) (by simp [Value.oneCell']) (by have:=IQ.out;have:=AHN.out;simp only [maxLen];omega) (by have:=IQ.out;have:=AHN.out;omega) (by have h1:=iB.out.size;have h2:=IB4.out.size;exact Nat.le_trans h1 (Nat.le_trans h2 (by show w4.heap.size ≤ (w4.heap.push _).size;simp))) ?_;intro v' w5 hown' hgrow _;obtain ⟨g',cap',rfl⟩:=ownsRow_succ hown';obtain ⟨⟨e1,e2⟩,e3,e4,e5⟩:=m_z (hn:=AHN.out) (tmp:=.cells #[.int .i64 (a_p l0_0 (x.val : Int)).f0,.int .i64 (c_p l0_0 a0_1 x.val)] 46) iI.out hws (Below.drew IB4.out) iv.out iR.out hown' hgrow;have E3:=a_d.mk e3;have E4:=a_d.mk e4;have E5:=a_d.mk e5;clear e3 e4 e5 hown' hgrow)
     have e : d_S l0_0 a0_1 a1 acc x.val = acc ++ [⟨(a_p l0_0 (x.val : Int)).f0,c_p l0_0 a0_1 x.val⟩]:=by unfold d_S;rw [if_pos ⟨IH.out,IG.out,ne_of_beq_false (by assumption)⟩,if_neg (fun h => by have:=h.1;have:=AHN.out;omega)]
     exact ⟨E3.out _,E4.out,by show f_6 w w1 a1 _ _;rw [IN.out,e];exact E5.out⟩
    obtain ⟨m,hm⟩ : ∃ m,acc.length = m + 1:=⟨acc.length - 1,by omega⟩
    obtain ⟨g,rfl⟩ : ∃ g,A = some ⟨g,0,none⟩:=by
     rcases hrow.2 with ⟨_,hz'⟩ | ⟨g,cap,cur,e,_⟩
     ·exact absurd hz' hz
     cases e;exact ⟨_,rfl⟩
    have AHN:=a_d.mk hm
    rw [hm] at iv
    rw [hm] at iR
    clear hz hrow hm
    gi_wp2_with (first|(refine ⟨trivial,?_⟩;gi_at_call 29;refine (CallsIn.inRound l (callsIn_wide.2 (c_8.calls _ _ _ _ _ _ _ _ _ _ _ _ _ _ _ _ _ _ iC.out iL IF.out))).mono ?_;rintro e w3 ⟨rfl,hb⟩;have IB3:=a_d.mk hb;skip;clear hb)|(refine ⟨trivial,?_⟩;gi_at_call 30;refine (CallsIn.inRound l (callsIn_wide.2 (d_Y.calls _ _ _ _ _ _ _ _ _ _ _ _ _ IW.out))).mono ?_;rintro e w4 ⟨rfl,hb⟩;have IB4:=a_d.mk (Below.trans (a_g IB3.out (.cells #[.int .i64 (a_0 (a_p l0_0 (x.val : Int)).f1 a1).1.f0,.int .i64 (a_0 (a_p l0_0 (x.val : Int)).f1 a1).1.f1,.int .i64 (a_0 (a_p l0_0 (x.val : Int)).f1 a1).1.f2,.int .i64 (a_0 (a_p l0_0 (x.val : Int)).f1 a1).1.f3,.int .i64 (a_0 (a_p l0_0 (x.val : Int)).f1 a1).1.f4,.bool (a_0 (a_p l0_0 (x.val : Int)).f1 a1).1.f5,.bool (a_0 (a_p l0_0 (x.val : Int)).f1 a1).1.f6,.int .u32 (a_0 (a_p l0_0 (x.val : Int)).f1 a1).1.f7,.int .i64 (a_0 (a_p l0_0 (x.val : Int)).f1 a1).1.f8,.int .i64 (a_0 (a_p l0_0 (x.val : Int)).f1 a1).1.f9,.int .i64 (a_0 (a_p l0_0 (x.val : Int)).f1 a1).1.f10] 65)) (hb.mono (a_g IB3.out (.cells #[.int .i64 (a_0 (a_p l0_0 (x.val : Int)).f1 a1).1.f0,.int .i64 (a_0 (a_p l0_0 (x.val : Int)).f1 a1).1.f1,.int .i64 (a_0 (a_p l0_0 (x.val : Int)).f1 a1).1.f2,.int .i64 (a_0 (a_p l0_0 (x.val : Int)).f1 a1).1.f3,.int .i64 (a_0 (a_p l0_0 (x.val : Int)).f1 a1).1.f4,.bool (a_0 (a_p l0_0 (x.val : Int)).f1 a1).1.f5,.bool (a_0 (a_p l0_0 (x.val : Int)).f1 a1).1.f6,.int .u32 (a_0 (a_p l0_0 (x.val : Int)).f1 a1).1.f7,.int .i64 (a_0 (a_p l0_0 (x.val : Int)).f1 a1).1.f8,.int .i64 (a_0 (a_p l0_0 (x.val : Int)).f1 a1).1.f9,.int .i64 (a_0 (a_p l0_0 (x.val : Int)).f1 a1).1.f10] 65)).size));clear hb;have s2:=(a_a (a_i iv.out IB4.out) 0).trans rfl;have y2:=a_Q (a_i iv.out IB4.out);have s0 : w4.cell? ⟨Bs,0,none⟩ = some (.int .i64 (a_p l0_0 (x.val : Int)).f0):=(a_a (a_i is.out IB4.out) 0).trans rfl;have s1 : w4.cell? ⟨Bs,1,none⟩ = some (.int .i64 (c_p l0_0 a0_1 x.val)):=(a_a (a_i is.out IB4.out) 1).trans rfl;have y0:=a_Q (a_i is.out IB4.out)))
    ·have u:=IB4.out;have e : d_S l0_0 a0_1 a1 acc x.val = acc:=if_neg (fun h => h.2.2 (eq_of_beq (by assumption)));exact ⟨b_0 u,⟨u.mono iB.out.size,u.block _ i4.out⟩,by show f_6 w w1 a1 _ _;rw [IN.out,e];exact iI.out.bel u⟩
    generalize (Value.agg #[.int .i64 (a_0 (a_p l0_0 (x.val : Int)).f1 a1).1.f0,.int .i64 (a_0 (a_p l0_0 (x.val : Int)).f1 a1).1.f1,.int .i64 (a_0 (a_p l0_0 (x.val : Int)).f1 a1).1.f2,.int .i64 (a_0 (a_p l0_0 (x.val : Int)).f1 a1).1.f3,.int .i64 (a_0 (a_p l0_0 (x.val : Int)).f1 a1).1.f4,.bool (a_0 (a_p l0_0 (x.val : Int)).f1 a1).1.f5,.bool (a_0 (a_p l0_0 (x.val : Int)).f1 a1).1.f6,.int .u32 (a_0 (a_p l0_0 (x.val : Int)).f1 a1).1.f7,.int .i64 (a_0 (a_p l0_0 (x.val : Int)).f1 a1).1.f8,.int .i64 (a_0 (a_p l0_0 (x.val : Int)).f1 a1).1.f9,.int .i64 (a_0 (a_p l0_0 (x.val : Int)).f1 a1).1.f10]) = X1;have d0 : w4.drew.cell? ⟨Bs,0,none⟩ = some (.int .i64 (a_p l0_0 (x.val : Int)).f0):=s0;have d1 : w4.drew.cell? ⟨Bs,1,none⟩ = some (.int .i64 (c_p l0_0 a0_1 x.val)):=s1;have d2:=(show w4.drew.cell? _ = _ from s2);have y3 : Bs < w4.drew.heap.size:=y0;have y4 : w1.heap.size < w4.drew.heap.size:=y2;have mx : Try.prog.follows .mixedOrders = true:=by kernel_rfl
    have hoc:=m_v (g_S iR.out (Below.drew IB4.out)) (m * 2 + 1) (by omega)
    rw [(k_F acc m (by rw [AHN.out];omega)).2] at hoc
    have d3:=hoc.1
    have d4:=hoc.2.1
    clear hoc
    have wm : IntKind.i64.wrap (m : Int) = (m : Int):=by have:=IQ.out;have:=AHN.out;rw [IntKind.wrap_i64];omega
    refine m_x ?_;apply Exists.intro;apply Exists.intro;refine And.intro ?rb ?kb;(case rb => (gi_region_with_o (fail));all_goals exact ⟨rfl,rfl,rfl⟩)
    gi_wp2_with (gi_at_builtin;refine wpListIn_append_own _ rfl _ _ 41 rfl w.heap.size 46 _ (.agg #[.int .i64 0,.int .i64 0]) 2 16 Try.underlying41 H46.out H46z.out H46s.out H46b.out rfl (by decide) _ _ (e_t acc) rfl ((g_S iR.out (Below.drew IB4.out)).alloc (.cells #[.int .i64 (a_p l0_0 (x.val : Int)).f0,.int .i64 (c_p l0_0 a0_1 x.val)] 46)) ⟨w4.heap.size,0,none⟩ 1 1 [.int .i64 (a_p l0_0 (x.val : Int)).f0,.int .i64 (c_p l0_0 a0_1 x.val)] rfl rfl (n_U w4 _ _ _) (by simp [Value.oneCell']) (by have:=IQ.out;have:=AHN.out;simp only [maxLen];omega) (by have:=IQ.out;have:=AHN.out;omega) (by have h1:=iB.out.size;have h2:=IB4.out.size;exact Nat.le_trans h1 (Nat.le_trans h2 (by show w4.heap.size ≤ (w4.heap.push _).size;simp))) ?_;intro v' w5 hown' hgrow _;obtain ⟨g',cap',rfl⟩:=ownsRow_succ hown';obtain ⟨⟨e1,e2⟩,e3,e4,e5⟩:=m_z (hn:=AHN.out) (tmp:=.cells #[.int .i64 (a_p l0_0 (x.val : Int)).f0,.int .i64 (c_p l0_0 a0_1 x.val)] 46) iI.out hws (Below.drew IB4.out) iv.out iR.out hown' hgrow;have E3:=a_d.mk e3;have E4:=a_d.mk e4;have E5:=a_d.mk e5;clear e3 e4 e5 hown' hgrow)
    ·have e : d_S l0_0 a0_1 a1 acc x.val = acc.set m ⟨(acc.getD m z46).f0,c_p l0_0 a0_1 x.val⟩:=by unfold d_S;rw [if_pos ⟨IH.out,IG.out,ne_of_beq_false (by assumption)⟩,AHN.out,if_pos ⟨Nat.succ_pos m,eq_of_beq (by assumption)⟩];rfl
     obtain ⟨k1,k2,k3⟩:=q_M iI.out hws (Below.drew IB4.out) iv.out iR.out AHN.out (c_p l0_0 a0_1 x.val)
     exact ⟨k1 _,k2,by show f_6 w w1 a1 _ _;rw [IN.out,e];exact k3⟩
    have e : d_S l0_0 a0_1 a1 acc x.val = acc ++ [⟨(a_p l0_0 (x.val : Int)).f0,c_p l0_0 a0_1 x.val⟩]:=by unfold d_S;rw [if_pos ⟨IH.out,IG.out,ne_of_beq_false (by assumption)⟩,AHN.out,if_neg (fun h => ne_of_beq_false (by assumption) h.2)]
    exact ⟨E3.out _,E4.out,by show f_6 w w1 a1 _ _;rw [IN.out,e];exact E5.out⟩
 case done =>
  rintro D ys W hD rfl hI hK
  obtain ⟨⟨v,bv,hrow⟩,b1,b4,⟨gcs,ga⟩,hB⟩:=hI
  have hv : ((List.finRange l0_0.length).map (·.val)).foldl (d_S l0_0 a0_1 a1) [] = (List.range l0_0.length).foldl (d_S l0_0 a0_1 a1) []:=by
   congr 1
   apply List.ext_getElem
   ·simp
   intro i h1 h2;simp
  rw [hv] at hrow
  have c0 : W.cell? ⟨w1.heap.size,0,none⟩ = some v:=(a_a bv 0).trans rfl
  clear bv b1 b4 ga hv
  gi_wp2
  refine ⟨by simp,.inl ⟨_,_,rfl,run_takeDeferred hK,?_⟩⟩
  exact ⟨.tuple #[v,.int .i64 0],by simp [results,Try.results17,go_sem],v,rfl,v_i (ownsRow_putObj hrow _ hK rfl),hB.trans (belowK_b (w:=w) (Nat.le_refl _) W D _ _ (by have:=nB.out.size;omega) hK rfl rfl)⟩
 case stop =>
  rintro D c pre W _ _ h _
  exact h.elim
set_option maxHeartbeats 2000000 in
theorem a_Z.errs (k : Nat) (A0_0 : Option Addr) (c0_0 : Nat) (l0_0 : List S27) (a0_1 a1 : Int) (e : Int) (w : World) (hr0_0 : Kd.C k27 w A0_0 l0_0.length l0_0) (hc0_0 : l0_0.length ≤ c0_0) (he : a_E.f k l0_0 a0_1 = some e) (h1 : e ≠ 0) :
 Calls Try.prog 17 #[.agg #[.slice A0_0 l0_0.length c0_0,.int .i64 a0_1],.int .i64 a1] w fun e' w' => e' = .returned (.tuple #[.slice none 0 0,.int .i64 e]) ∧ Below w.heap.size w w':=by
 have HR:=a_d.mk hr0_0
 have HE:=a_d.mk he
 clear hr0_0 he
 have qB:=a_d.mk (a_g (a_g (Below.refl w.heap.size w) (.cells #[.slice A0_0 l0_0.length c0_0,.int .i64 a0_1] 24)) (.cells #[.int .i64 a1] 3))
 have g0 : (e != 0) = true:=bne_iff_ne.mpr h1
 clear h1
 go_enter Try.func17,Try.ntmps17
 go_wp2_with (go_at_call 14;refine (a_E.calls k _ _ l0_0 a0_1 e _ ?s1 hc0_0 HE.out).mono ?_;(case s1 => exact Kd.a_U HR.out qB.out);rintro e w1 ⟨rfl,hb⟩;have HB:=a_d.mk (a_o qB.out hb);clear hb)
 go_ret2
 exact ⟨rfl,HB.out⟩
theorem a_Z.calls (k : Nat) (A0_0 : Option Addr) (c0_0 : Nat) (l0_0 : List S27) (a0_1 a1 : Int) (r1 : List S46) (r2 : Int) (w : World) (hr0_0 : Kd.C k27 w A0_0 l0_0.length l0_0) (hc0_0 : l0_0.length ≤ c0_0) (h : a_Z.f k l0_0 a0_1 a1 = some (r1,r2)) :
 Calls Try.prog 17 #[.agg #[.slice A0_0 l0_0.length c0_0,.int .i64 a0_1],.int .i64 a1] w fun e w' => ∃ v0_ : Value,e = .returned (.tuple #[v0_,.int .i64 r2]) ∧ Kd.R k46 46 w' w.heap.size (fun _ => True) v0_ r1 ∧ Below w.heap.size w w':=by
 obtain ⟨e,he,h⟩:=Option.bind_eq_some_iff.mp h
 by_cases h0 : e = 0
 ·rw [if_pos h0] at h
  subst h0
  by_cases h4 : l0_0.length ≤ 4398046511104 ∧ ∀ m ∈ l0_0,m.f1.length ≤ 1099511627776
  ·rw [if_pos h4] at h;cases h
   exact a_Z.sums k A0_0 c0_0 l0_0 a0_1 a1 w hr0_0 hc0_0 he h4.1 h4.2
  rw [if_neg h4] at h;cases h
 rw [if_neg h0] at h;cases h
 exact (a_Z.errs k A0_0 c0_0 l0_0 a0_1 a1 _ w hr0_0 hc0_0 he h0).mono (by
  rintro e w' ⟨rfl,hb⟩
  exact ⟨_,rfl,v_i (xs:=[]) (k_3 _ _ _ _),hb⟩)
end
end Go.Proofs.Ytgglkfilkagblaa.Q
end
section
namespace Go.Proofs.Ytgglkfilkagblaa.Q
open Go.RowKit Go.Proofs.YtgglkfilkagblaaW.PrintWords Go.Proofs.YtgglkfilkagblaaW.PrintLast Go.Proofs.YtgglkfilkagblaaW.PrintMore
set_option linter.unusedVariables false
set_option linter.unusedSimpArgs false
def a_I.l0 : Nat → Int → Int → Int → List (S65) → Option (Int)
 | 0,_,_,_,_ => none
 | k + 1,x1,x5,x280000,x280001 => if x5 < (x280001.length : Int) then (if 0 ≤ x5 then (if ((a_c x280001 x5).f0) = x1 then (some x5) else (a_I.l0 k x1 (wrap64 (x5 + 1)) x280000 x280001)) else (none)) else (some (-1))
def a_I.f (k : Nat) (a0_0 : Int) (l0_1 : List (S65)) (a1 : Int) : Option (Int):=a_I.l0 k a1 0 a0_0 l0_1
theorem a_I.c_w : ∀ k,(∀ y0 y1 y2 y3,LeO (a_I.l0 k y0 y1 y2 y3) (a_I.l0 (k + 1) y0 y1 y2 y3))
 | 0 => fun _ _ _ _ r h => by simp [a_I.l0] at h
 | k + 1 => by
  have ih0:=a_I.c_w k
  ·intro y0 y1 y2 y3
   unfold a_I.l0
   repeat' first
   | (with_reducible exact ih0 _ _ _ _)
   | (with_reducible exact LeO.refl _)
   | (with_reducible exact LeO.none _)
   | (with_reducible refine LeO.ite ?_ ?_)
   | (with_reducible refine LeO.bind ?_ (fun _ => ?_))
   | exact ih0 _ _ _ _
   | exact LeO.none _
   | refine LeO.ite ?_ ?_
   | refine LeO.bind ?_ (fun _ => ?_)
theorem a_I.mono : ∀ a0 a1 a2 k,LeO (a_I.f k a0 a1 a2) (a_I.f (k + 1) a0 a1 a2):=by
 intro a0 a1 a2 k
 have ih0:=a_I.c_w k
 unfold a_I.f
 repeat' first
  | (with_reducible exact ih0 _ _ _ _)
  | (with_reducible exact LeO.refl _)
  | (with_reducible exact LeO.none _)
  | (with_reducible refine LeO.ite ?_ ?_)
  | (with_reducible refine LeO.bind ?_ (fun _ => ?_))
  | exact ih0 _ _ _ _
  | exact LeO.none _
  | refine LeO.ite ?_ ?_
  | refine LeO.bind ?_ (fun _ => ?_)
set_option maxHeartbeats 8000000 in
set_option maxRecDepth 100000 in
theorem a_I.calls (k : Nat) (a0_0 : Int) (A0_1 : Option Addr) (c0_1 : Nat) (l0_1 : List (S65)) (a1 : Int) (r : Int) (w : World) (hr0_1 : Kd.C k65 w A0_1 l0_1.length l0_1) (hc0_1 : l0_1.length ≤ c0_1) (h : a_I.f k a0_0 l0_1 a1 = some r) :
 Calls Try.prog 31 #[.agg #[.int .i64 a0_0,.slice A0_1 l0_1.length c0_1],.int .i64 a1] w fun e w' => e = .returned (.int .i64 r) ∧ Below w.heap.size w w':=by
 have hu27:=Try.underlying27
 have d_i:=a_d.mk hr0_1
 have f_j:=a_d.mk hc0_1
 clear hr0_1 hc0_1
 have HB:=a_d.mk (Below.refl w.heap.size w)
 have H : (a_I.l0 k a1 0 a0_0 l0_1) = some r:=h
 clear h
 have H':=a_d.mk H
 clear H
 go_enter Try.func31,Try.ntmps31
 go_wp2_with (first|((with_reducible refine a_J (N:=2) rfl ?_);refine a_C ?hg (N:=2) ?hd (cs:=#[.int .i64 a0_0,.slice A0_1 l0_1.length c0_1]) (t:=27) ?hr ?_;(case hd => rfl);(case hg => rfl);(case hr => first|(go_simp;done)|(go_simp;rfl));intro j_7 hg w3 hbox hb;have g_n:=a_d.mk (hbox);have H_n:=a_d.mk ((by rw [hg];exact (a_n (lup_ HB.out)) : w.heap.size ≤ j_7));have r_p:=a_d.mk ((by rw [hg];exact (a_n (lup_ HB.out)) : w.heap.size ≤ j_7));replace HB:=a_d.mk (a_o (lup_ HB.out) hb);clear hb hbox hg))
 go_loopg [5] k (fun kq v5 w' => ∃ (x5_1 : Int),v5 = .int .i64 x5_1 ∧ a_d (a_I.l0 kq a1 x5_1 a0_0 l0_1 = some r) ∧ a_d (kq ≤ k) ∧ a_d (w'.heap[j_7]? = some (.cells #[.int .i64 a0_0,(.slice A0_1 l0_1.length c0_1)] 27 (0,0))) ∧ a_d (Below w.heap.size w w'))
 case atStart => exact ⟨(0),(by first|rfl|(simp;done)|(simp [*];done)),H',⟨Nat.le_refl _⟩,⟨by (with_reducible repeat (first|refine a_l ?_ _|refine a_m ?_|refine a_j ?_ _));exact g_n.out⟩,⟨by repeat (first|(with_reducible first|exact HB.out|apply a_g|apply a_e|apply a_h|refine a_f ?_ r_p.out)|exact HB.out)⟩⟩
 case round =>
  clear H'
  try clear p2
  try clear c3
  obtain ⟨x5_1,rfl,HA,HK1,g_n,HB⟩:=hrel
  cases gk with
  | zero => exact absurd HA.out (by simp [a_I.l0])
  | succ k1 =>
   have H:=HA.out
   clear HA
   simp only [a_I.l0] at H
   by_cases c4 : x5_1 < (l0_1.length : Int)
   rotate_left
   ·rw [if_neg c4] at H
    have c4b0 : decide (x5_1 < (l0_1.length : Int)) = false:=decide_eq_false c4
    clear c4
    obtain rfl:=Option.some.inj H
    have k_P : wr.cell? ⟨j_7,0,none⟩ = some (.int .i64 a0_0):=(a_a g_n.out 0).trans rfl
    have k_Q : wr.cell? ⟨j_7,1,none⟩ = some (.slice A0_1 l0_1.length c0_1):=(a_a g_n.out 1).trans rfl
    have k_R:=a_b g_n.out 0
    have k_S:=a_b g_n.out 1
    go_wp2
    go_ret
    exact ⟨by first|rfl|(simp [a_w,a_x] <;> rfl)|(simp [*, a_w,a_x] <;> rfl),by repeat (first|(with_reducible first|exact HB.out|apply a_g|apply a_e|apply a_h|refine a_f ?_ r_p.out)|exact HB.out)⟩
   rw [if_pos c4] at H
   have c4b0 : decide (x5_1 < (l0_1.length : Int)) = true:=decide_eq_true c4
   clear c4
   by_cases c5 : 0 ≤ x5_1
   rotate_left
   ·rw [if_neg c5] at H
    exact absurd H (by simp)
   rw [if_pos c5] at H
   have c5b0 : decide (0 ≤ x5_1) = true:=decide_eq_true c5
   clear c5
   by_cases c6 : ((a_c l0_1 x5_1).f0) = a1
   ·rw [if_pos c6] at H
    have c6b0 : (((a_c l0_1 x5_1).f0) == a1) = true:=beq_iff_eq.mpr c6
    have c6b1 : (((a_c l0_1 x5_1).f0) != a1) = false:=bne_eq_false_iff_eq.mpr c6
    clear c6
    obtain rfl:=Option.some.inj H
    have f_p : wr.cell? ⟨j_7,0,none⟩ = some (.int .i64 a0_0):=(a_a g_n.out 0).trans rfl
    have f_q : wr.cell? ⟨j_7,1,none⟩ = some (.slice A0_1 l0_1.length c0_1):=(a_a g_n.out 1).trans rfl
    have f_r:=a_b g_n.out 0
    have f_s:=a_b g_n.out 1
    have p280 : 0 ≤ (x5_1 : Int):=of_decide_eq_true (by first|(with_reducible assumption)|assumption)
    have q280 : x5_1 < (l0_1.length : Int):=of_decide_eq_true (by first|(with_reducible assumption)|assumption)
    obtain ⟨ad280,e280,g_o,g_p,g_q,g_r,g_s,g_t,g_u,g_v,g_w,g_x,f_a⟩:=d_g d_i.out x5_1 p280 q280
    cases e280
    replace g_o:=(HB.out.cell (World.block_lt_of_cell? w _ g_o)).trans g_o
    replace g_p:=(HB.out.cell (World.block_lt_of_cell? w _ g_p)).trans g_p
    replace g_q:=(HB.out.cell (World.block_lt_of_cell? w _ g_q)).trans g_q
    replace g_r:=(HB.out.cell (World.block_lt_of_cell? w _ g_r)).trans g_r
    replace g_s:=(HB.out.cell (World.block_lt_of_cell? w _ g_s)).trans g_s
    replace g_t:=(HB.out.cell (World.block_lt_of_cell? w _ g_t)).trans g_t
    replace g_u:=(HB.out.cell (World.block_lt_of_cell? w _ g_u)).trans g_u
    replace g_v:=(HB.out.cell (World.block_lt_of_cell? w _ g_v)).trans g_v
    replace g_w:=(HB.out.cell (World.block_lt_of_cell? w _ g_w)).trans g_w
    replace g_x:=(HB.out.cell (World.block_lt_of_cell? w _ g_x)).trans g_x
    replace f_a:=(HB.out.cell (World.block_lt_of_cell? w _ f_a)).trans f_a
    replace p280:=eq_true p280
    replace q280:=eq_true q280
    go_wp2
    go_ret
    exact ⟨by first|rfl|(simp [a_w,a_x] <;> rfl)|(simp [*, a_w,a_x] <;> rfl),by repeat (first|(with_reducible first|exact HB.out|apply a_g|apply a_e|apply a_h|refine a_f ?_ r_p.out)|exact HB.out)⟩
   rw [if_neg c6] at H
   have c6b0 : (((a_c l0_1 x5_1).f0) == a1) = false:=beq_eq_false_iff_ne.mpr c6
   have c6b1 : (((a_c l0_1 x5_1).f0) != a1) = true:=bne_iff_ne.mpr c6
   have H':=a_d.mk H
   clear H
   have h_i : wr.cell? ⟨j_7,0,none⟩ = some (.int .i64 a0_0):=(a_a g_n.out 0).trans rfl
   have h_j : wr.cell? ⟨j_7,1,none⟩ = some (.slice A0_1 l0_1.length c0_1):=(a_a g_n.out 1).trans rfl
   have h_k:=a_b g_n.out 0
   have h_l:=a_b g_n.out 1
   have p280 : 0 ≤ (x5_1 : Int):=of_decide_eq_true (by first|(with_reducible assumption)|assumption)
   have q280 : x5_1 < (l0_1.length : Int):=of_decide_eq_true (by first|(with_reducible assumption)|assumption)
   obtain ⟨ad280,e280,g_o,g_p,g_q,g_r,g_s,g_t,g_u,g_v,g_w,g_x,f_a⟩:=d_g d_i.out x5_1 p280 q280
   cases e280
   replace g_o:=(HB.out.cell (World.block_lt_of_cell? w _ g_o)).trans g_o
   replace g_p:=(HB.out.cell (World.block_lt_of_cell? w _ g_p)).trans g_p
   replace g_q:=(HB.out.cell (World.block_lt_of_cell? w _ g_q)).trans g_q
   replace g_r:=(HB.out.cell (World.block_lt_of_cell? w _ g_r)).trans g_r
   replace g_s:=(HB.out.cell (World.block_lt_of_cell? w _ g_s)).trans g_s
   replace g_t:=(HB.out.cell (World.block_lt_of_cell? w _ g_t)).trans g_t
   replace g_u:=(HB.out.cell (World.block_lt_of_cell? w _ g_u)).trans g_u
   replace g_v:=(HB.out.cell (World.block_lt_of_cell? w _ g_v)).trans g_v
   replace g_w:=(HB.out.cell (World.block_lt_of_cell? w _ g_w)).trans g_w
   replace g_x:=(HB.out.cell (World.block_lt_of_cell? w _ g_x)).trans g_x
   replace f_a:=(HB.out.cell (World.block_lt_of_cell? w _ f_a)).trans f_a
   replace p280:=eq_true p280
   replace q280:=eq_true q280
   go_wp2
   go_roundg k1
   case measure => have:=HK1.out;omega
   case rel => exact ⟨(wrap64 (x5_1 + 1)),(by first|rfl|(simp;done)|(simp [*];done)),H',⟨by have:=HK1.out;omega⟩,⟨by (with_reducible repeat (first|refine a_l ?_ _|refine a_m ?_|refine a_j ?_ _));exact g_n.out⟩,⟨by repeat (first|(with_reducible first|exact HB.out|apply a_g|apply a_e|apply a_h|refine a_f ?_ r_p.out)|exact HB.out)⟩⟩
end Go.Proofs.Ytgglkfilkagblaa.Q
end
section
namespace Go.Proofs.Ytgglkfilkagblaa.Q
open Go.RowKit Go.Proofs.YtgglkfilkagblaaW.PrintWords Go.Proofs.YtgglkfilkagblaaW.PrintLast Go.Proofs.YtgglkfilkagblaaW.PrintMore
set_option linter.unusedVariables false
set_option linter.unusedSimpArgs false
def b_F.f (l0_0 : List (S27)) (a0_1 : Int) (a1 : Int) : Option (Int):=if (wrap64 (a1 + 1)) < (l0_0.length : Int) then (if 0 ≤ (wrap64 (a1 + 1)) then (some ((a_p l0_0 (wrap64 (a1 + 1))).f0)) else (none)) else (some a0_1)
set_option maxHeartbeats 8000000 in
set_option maxRecDepth 100000 in
theorem b_F.calls (A0_0 : Option Addr) (c0_0 : Nat) (l0_0 : List (S27)) (a0_1 : Int) (a1 : Int) (r : Int) (w : World) (hr0_0 : Kd.C k27 w A0_0 l0_0.length l0_0) (hc0_0 : l0_0.length ≤ c0_0) (h : b_F.f l0_0 a0_1 a1 = some r) :
 Calls Try.prog 32 #[.agg #[.slice A0_0 l0_0.length c0_0,.int .i64 a0_1],.int .i64 a1] w fun e w' => e = .returned (.int .i64 r) ∧ Below w.heap.size w w':=by
 have hu24:=Try.underlying24
 have b_q:=a_d.mk hr0_0
 have b_S:=a_d.mk hc0_0
 clear hr0_0 hc0_0
 have HB:=a_d.mk (Below.refl w.heap.size w)
 have H : (if (wrap64 (a1 + 1)) < (l0_0.length : Int) then (if 0 ≤ (wrap64 (a1 + 1)) then (some ((a_p l0_0 (wrap64 (a1 + 1))).f0)) else (none)) else (some a0_1)) = some r:=h
 clear h
 by_cases c3 : (wrap64 (a1 + 1)) < (l0_0.length : Int)
 rotate_left
 ·rw [if_neg c3] at H
  have c3b0 : decide ((wrap64 (a1 + 1)) < (l0_0.length : Int)) = false:=decide_eq_false c3
  clear c3
  obtain rfl:=Option.some.inj H
  go_enter Try.func32,Try.ntmps32
  go_wp2_with (first|((with_reducible refine a_J (N:=2) rfl ?_);refine a_C ?hg (N:=2) ?hd (cs:=#[.slice A0_0 l0_0.length c0_0,.int .i64 a0_1]) (t:=24) ?hr ?_;(case hd => rfl);(case hg => rfl);(case hr => first|(go_simp;done)|(go_simp;rfl));intro j_8 hg w8 hbox hb;have j_9:=a_d.mk (hbox);have E_o:=a_d.mk ((by rw [hg];exact (a_n (lup_ HB.out)) : w.heap.size ≤ j_8));have t_6:=a_d.mk ((by rw [hg];exact (a_n (lup_ HB.out)) : w.heap.size ≤ j_8));replace HB:=a_d.mk (a_o (lup_ HB.out) hb);clear hb hbox hg;have k_P : w8.cell? ⟨j_8,0,none⟩ = some (.slice A0_0 l0_0.length c0_0):=(a_a j_9.out 0).trans rfl;have k_Q : w8.cell? ⟨j_8,1,none⟩ = some (.int .i64 a0_1):=(a_a j_9.out 1).trans rfl;have k_R:=a_b j_9.out 0;have k_S:=a_b j_9.out 1))
  go_ret
  exact ⟨by first|rfl|(simp [a_w,a_x] <;> rfl)|(simp [*, a_w,a_x] <;> rfl),by repeat (first|(with_reducible first|exact HB.out|apply a_g|apply a_e|apply a_h|refine a_f ?_ t_6.out)|exact HB.out)⟩
 rw [if_pos c3] at H
 have c3b0 : decide ((wrap64 (a1 + 1)) < (l0_0.length : Int)) = true:=decide_eq_true c3
 clear c3
 obtain ⟨ji4,hji4⟩ : ∃ j_ : Int,(wrap64 (a1 + 1)) = j_:=⟨_,rfl⟩
 replace H : (if 0 ≤ (ji4) then (some ((a_p l0_0 (ji4)).f0)) else (none)) = some r:=by first|(rw [hji4] at H;exact H)|(simp only [hji4] at H ⊢; exact H)
 (try rw [hji4] at c3b0)
 have hji4w : (IntKind.i64.wrap (a1 + 1)) = ji4:=(a_t _).trans hji4
 by_cases c5 : 0 ≤ (ji4)
 rotate_left
 ·rw [if_neg c5] at H
  exact absurd H (by simp)
 rw [if_pos c5] at H
 have c5b0 : decide (0 ≤ (ji4)) = true:=decide_eq_true c5
 clear c5
 obtain rfl:=Option.some.inj H
 go_enter Try.func32,Try.ntmps32
 go_wp2_with (first|((with_reducible refine a_J (N:=2) rfl ?_);refine a_C ?hg (N:=2) ?hd (cs:=#[.slice A0_0 l0_0.length c0_0,.int .i64 a0_1]) (t:=24) ?hr ?_;(case hd => rfl);(case hg => rfl);(case hr => first|(go_simp;done)|(go_simp;rfl));intro j_8 hg w6 hbox hb;have j_9:=a_d.mk (hbox);have E_o:=a_d.mk ((by rw [hg];exact (a_n (lup_ HB.out)) : w.heap.size ≤ j_8));have t_6:=a_d.mk ((by rw [hg];exact (a_n (lup_ HB.out)) : w.heap.size ≤ j_8));replace HB:=a_d.mk (a_o (lup_ HB.out) hb);clear hb hbox hg;have f_p : w6.cell? ⟨j_8,0,none⟩ = some (.slice A0_0 l0_0.length c0_0):=(a_a j_9.out 0).trans rfl;have f_q : w6.cell? ⟨j_8,1,none⟩ = some (.int .i64 a0_1):=(a_a j_9.out 1).trans rfl;have f_r:=a_b j_9.out 0;have f_s:=a_b j_9.out 1;have p282 : 0 ≤ ((ji4) : Int):=of_decide_eq_true (by first|(with_reducible assumption)|assumption);have q282 : (ji4) < (l0_0.length : Int):=of_decide_eq_true (by first|(with_reducible assumption)|assumption);obtain ⟨ad282,A282_1,c282_1,e282,m_d,m_e,p_Q,p_R⟩:=c_y b_q.out (ji4) p282 q282;cases e282;replace m_d:=(HB.out.cell (World.block_lt_of_cell? w _ m_d)).trans m_d;replace m_e:=(HB.out.cell (World.block_lt_of_cell? w _ m_e)).trans m_e;have E_p:=a_d.mk p_R;have E_q:=a_d.mk p_Q;clear p_R p_Q;replace p282:=eq_true p282;replace q282:=eq_true q282))
 go_ret
 exact ⟨by first|rfl|(simp [a_w,a_x] <;> rfl)|(simp only [← hji4];first|rfl|(simp [a_w,a_x] <;> rfl))|(simp [*, a_w,a_x] <;> rfl),by repeat (first|(with_reducible first|exact HB.out|apply a_g|apply a_e|apply a_h|refine a_f ?_ t_6.out)|exact HB.out)⟩
end Go.Proofs.Ytgglkfilkagblaa.Q
end
section
namespace Go.Proofs.Ytgglkfilkagblaa.Q
open Go.RowKit Go.Proofs.YtgglkfilkagblaaW.PrintWords Go.Proofs.YtgglkfilkagblaaW.PrintLast Go.Proofs.YtgglkfilkagblaaW.PrintMore
set_option linter.unusedVariables false
set_option linter.unusedSimpArgs false
def b_C.f (a0_0 : Int) (a0_1 : Int) (a0_2 : Int) (a0_3 : Int) (a0_4 : Int) (a0_5 : Bool) (a0_6 : Bool) (a0_7 : Int) (a0_8 : Int) (a0_9 : Int) (a0_10 : Int) : Option (Bool):=if a0_5 = true then (if a0_6 = true then (some false) else (if a0_2 = 0 then (some (decide (a0_4 < 0))) else (some false))) else (some false)
set_option maxHeartbeats 8000000 in
set_option maxRecDepth 100000 in
theorem b_C.calls (a0_0 : Int) (a0_1 : Int) (a0_2 : Int) (a0_3 : Int) (a0_4 : Int) (a0_5 : Bool) (a0_6 : Bool) (a0_7 : Int) (a0_8 : Int) (a0_9 : Int) (a0_10 : Int) (r : Bool) (w : World) (h : b_C.f a0_0 a0_1 a0_2 a0_3 a0_4 a0_5 a0_6 a0_7 a0_8 a0_9 a0_10 = some r) :
 Calls Try.prog 33 #[.agg #[.int .i64 a0_0,.int .i64 a0_1,.int .i64 a0_2,.int .i64 a0_3,.int .i64 a0_4,.bool a0_5,.bool a0_6,.int .u32 a0_7,.int .i64 a0_8,.int .i64 a0_9,.int .i64 a0_10]] w fun e w' => e = .returned (.bool r) ∧ Below w.heap.size w w':=by
 have hu65:=Try.underlying65
 have HB:=a_d.mk (Below.refl w.heap.size w)
 have H : (if a0_5 = true then (if a0_6 = true then (some false) else (if a0_2 = 0 then (some (decide (a0_4 < 0))) else (some false))) else (some false)) = some r:=h
 clear h
 by_cases c2 : a0_5 = true
 rotate_left
 ·replace c2:=Bool.eq_false_iff.mpr c2
  subst c2
  have H1 : (some false) = some r:=by rw [if_neg (show ¬ (false = true) by decide)] at H;exact H
  clear H
  have H:=H1
  clear H1
  obtain rfl:=Option.some.inj H
  go_enter Try.func33,Try.ntmps33
  go_wp2_with (first|((with_reducible refine a_J (N:=1) rfl ?_);refine a_C ?hg (N:=1) ?hd (cs:=#[.int .i64 a0_0,.int .i64 a0_1,.int .i64 a0_2,.int .i64 a0_3,.int .i64 a0_4,.bool false,.bool a0_6,.int .u32 a0_7,.int .i64 a0_8,.int .i64 a0_9,.int .i64 a0_10]) (t:=65) ?hr ?_;(case hd => rfl);(case hg => rfl);(case hr => first|(go_simp;done)|(go_simp;rfl));intro c_s hg w11 hbox hb;have b_H:=a_d.mk (hbox);have t_7:=a_d.mk ((by rw [hg];exact (a_n (lup_ HB.out)) : w.heap.size ≤ c_s));have m_f:=a_d.mk ((by rw [hg];exact (a_n (lup_ HB.out)) : w.heap.size ≤ c_s));replace HB:=a_d.mk (a_o (lup_ HB.out) hb);clear hb hbox hg;have e_0 : w11.cell? ⟨c_s,0,none⟩ = some (.int .i64 a0_0):=(a_a b_H.out 0).trans rfl;have e_1 : w11.cell? ⟨c_s,1,none⟩ = some (.int .i64 a0_1):=(a_a b_H.out 1).trans rfl;have l_z : w11.cell? ⟨c_s,2,none⟩ = some (.int .i64 a0_2):=(a_a b_H.out 2).trans rfl;have l_A : w11.cell? ⟨c_s,3,none⟩ = some (.int .i64 a0_3):=(a_a b_H.out 3).trans rfl;have l_B : w11.cell? ⟨c_s,4,none⟩ = some (.int .i64 a0_4):=(a_a b_H.out 4).trans rfl;have l_C : w11.cell? ⟨c_s,5,none⟩ = some (.bool false):=(a_a b_H.out 5).trans rfl;have l_D : w11.cell? ⟨c_s,6,none⟩ = some (.bool a0_6):=(a_a b_H.out 6).trans rfl;have l_E : w11.cell? ⟨c_s,7,none⟩ = some (.int .u32 a0_7):=(a_a b_H.out 7).trans rfl;have l_F : w11.cell? ⟨c_s,8,none⟩ = some (.int .i64 a0_8):=(a_a b_H.out 8).trans rfl;have l_G : w11.cell? ⟨c_s,9,none⟩ = some (.int .i64 a0_9):=(a_a b_H.out 9).trans rfl;have j_X : w11.cell? ⟨c_s,10,none⟩ = some (.int .i64 a0_10):=(a_a b_H.out 10).trans rfl;have e_2:=a_b b_H.out 0;have e_3:=a_b b_H.out 1;have l_H:=a_b b_H.out 2;have l_I:=a_b b_H.out 3;have l_J:=a_b b_H.out 4;have l_K:=a_b b_H.out 5;have l_L:=a_b b_H.out 6;have l_M:=a_b b_H.out 7;have l_N:=a_b b_H.out 8;have l_O:=a_b b_H.out 9;have j_Y:=a_b b_H.out 10))
  go_ret
  exact ⟨by first|rfl|(simp [a_w,a_x] <;> rfl)|(simp [*, a_w,a_x] <;> rfl),by repeat (first|(with_reducible first|exact HB.out|apply a_g|apply a_e|apply a_h|refine a_f ?_ m_f.out)|exact HB.out)⟩
 subst c2
 have H1 : (if a0_6 = true then (some false) else (if a0_2 = 0 then (some (decide (a0_4 < 0))) else (some false))) = some r:=by rw [if_pos rfl] at H;exact H
 clear H
 have H:=H1
 clear H1
 by_cases c3 : a0_6 = true
 ·subst c3
  have H1 : (some false) = some r:=by rw [if_pos rfl] at H;exact H
  clear H
  have H:=H1
  clear H1
  obtain rfl:=Option.some.inj H
  go_enter Try.func33,Try.ntmps33
  go_wp2_with (first|((with_reducible refine a_J (N:=1) rfl ?_);refine a_C ?hg (N:=1) ?hd (cs:=#[.int .i64 a0_0,.int .i64 a0_1,.int .i64 a0_2,.int .i64 a0_3,.int .i64 a0_4,.bool true,.bool true,.int .u32 a0_7,.int .i64 a0_8,.int .i64 a0_9,.int .i64 a0_10]) (t:=65) ?hr ?_;(case hd => rfl);(case hg => rfl);(case hr => first|(go_simp;done)|(go_simp;rfl));intro c_s hg w4 hbox hb;have b_H:=a_d.mk (hbox);have t_7:=a_d.mk ((by rw [hg];exact (a_n (lup_ HB.out)) : w.heap.size ≤ c_s));have m_f:=a_d.mk ((by rw [hg];exact (a_n (lup_ HB.out)) : w.heap.size ≤ c_s));replace HB:=a_d.mk (a_o (lup_ HB.out) hb);clear hb hbox hg;have f_f : w4.cell? ⟨c_s,0,none⟩ = some (.int .i64 a0_0):=(a_a b_H.out 0).trans rfl;have f_g : w4.cell? ⟨c_s,1,none⟩ = some (.int .i64 a0_1):=(a_a b_H.out 1).trans rfl;have v_w : w4.cell? ⟨c_s,2,none⟩ = some (.int .i64 a0_2):=(a_a b_H.out 2).trans rfl;have v_x : w4.cell? ⟨c_s,3,none⟩ = some (.int .i64 a0_3):=(a_a b_H.out 3).trans rfl;have v_y : w4.cell? ⟨c_s,4,none⟩ = some (.int .i64 a0_4):=(a_a b_H.out 4).trans rfl;have v_z : w4.cell? ⟨c_s,5,none⟩ = some (.bool true):=(a_a b_H.out 5).trans rfl;have v_A : w4.cell? ⟨c_s,6,none⟩ = some (.bool true):=(a_a b_H.out 6).trans rfl;have v_B : w4.cell? ⟨c_s,7,none⟩ = some (.int .u32 a0_7):=(a_a b_H.out 7).trans rfl;have v_C : w4.cell? ⟨c_s,8,none⟩ = some (.int .i64 a0_8):=(a_a b_H.out 8).trans rfl;have v_D : w4.cell? ⟨c_s,9,none⟩ = some (.int .i64 a0_9):=(a_a b_H.out 9).trans rfl;have t_2 : w4.cell? ⟨c_s,10,none⟩ = some (.int .i64 a0_10):=(a_a b_H.out 10).trans rfl;have f_h:=a_b b_H.out 0;have f_i:=a_b b_H.out 1;have v_E:=a_b b_H.out 2;have v_F:=a_b b_H.out 3;have v_G:=a_b b_H.out 4;have v_H:=a_b b_H.out 5;have v_I:=a_b b_H.out 6;have v_J:=a_b b_H.out 7;have v_K:=a_b b_H.out 8;have v_L:=a_b b_H.out 9;have t_3:=a_b b_H.out 10))
  go_ret
  exact ⟨by first|rfl|(simp [a_w,a_x] <;> rfl)|(simp [*, a_w,a_x] <;> rfl),by repeat (first|(with_reducible first|exact HB.out|apply a_g|apply a_e|apply a_h|refine a_f ?_ m_f.out)|exact HB.out)⟩
 replace c3:=Bool.eq_false_iff.mpr c3
 subst c3
 have H1 : (if a0_2 = 0 then (some (decide (a0_4 < 0))) else (some false)) = some r:=by rw [if_neg (show ¬ (false = true) by decide)] at H;exact H
 clear H
 have H:=H1
 clear H1
 by_cases c6 : a0_2 = 0
 ·rw [if_pos c6] at H
  have c6b0 : (a0_2 == 0) = true:=beq_iff_eq.mpr c6
  have c6b1 : (a0_2 != 0) = false:=bne_eq_false_iff_eq.mpr c6
  clear c6
  obtain rfl:=Option.some.inj H
  go_enter Try.func33,Try.ntmps33
  go_wp2_with (first|((with_reducible refine a_J (N:=1) rfl ?_);refine a_C ?hg (N:=1) ?hd (cs:=#[.int .i64 a0_0,.int .i64 a0_1,.int .i64 a0_2,.int .i64 a0_3,.int .i64 a0_4,.bool true,.bool false,.int .u32 a0_7,.int .i64 a0_8,.int .i64 a0_9,.int .i64 a0_10]) (t:=65) ?hr ?_;(case hd => rfl);(case hg => rfl);(case hr => first|(go_simp;done)|(go_simp;rfl));intro c_s hg w7 hbox hb;have b_H:=a_d.mk (hbox);have t_7:=a_d.mk ((by rw [hg];exact (a_n (lup_ HB.out)) : w.heap.size ≤ c_s));have m_f:=a_d.mk ((by rw [hg];exact (a_n (lup_ HB.out)) : w.heap.size ≤ c_s));replace HB:=a_d.mk (a_o (lup_ HB.out) hb);clear hb hbox hg;have h_i : w7.cell? ⟨c_s,0,none⟩ = some (.int .i64 a0_0):=(a_a b_H.out 0).trans rfl;have h_j : w7.cell? ⟨c_s,1,none⟩ = some (.int .i64 a0_1):=(a_a b_H.out 1).trans rfl;have v_M : w7.cell? ⟨c_s,2,none⟩ = some (.int .i64 a0_2):=(a_a b_H.out 2).trans rfl;have v_N : w7.cell? ⟨c_s,3,none⟩ = some (.int .i64 a0_3):=(a_a b_H.out 3).trans rfl;have v_O : w7.cell? ⟨c_s,4,none⟩ = some (.int .i64 a0_4):=(a_a b_H.out 4).trans rfl;have v_P : w7.cell? ⟨c_s,5,none⟩ = some (.bool true):=(a_a b_H.out 5).trans rfl;have v_Q : w7.cell? ⟨c_s,6,none⟩ = some (.bool false):=(a_a b_H.out 6).trans rfl;have v_R : w7.cell? ⟨c_s,7,none⟩ = some (.int .u32 a0_7):=(a_a b_H.out 7).trans rfl;have v_S : w7.cell? ⟨c_s,8,none⟩ = some (.int .i64 a0_8):=(a_a b_H.out 8).trans rfl;have v_T : w7.cell? ⟨c_s,9,none⟩ = some (.int .i64 a0_9):=(a_a b_H.out 9).trans rfl;have t_4 : w7.cell? ⟨c_s,10,none⟩ = some (.int .i64 a0_10):=(a_a b_H.out 10).trans rfl;have h_k:=a_b b_H.out 0;have h_l:=a_b b_H.out 1;have v_U:=a_b b_H.out 2;have v_V:=a_b b_H.out 3;have v_W:=a_b b_H.out 4;have v_X:=a_b b_H.out 5;have v_Y:=a_b b_H.out 6;have v_Z:=a_b b_H.out 7;have v_0:=a_b b_H.out 8;have v_1:=a_b b_H.out 9;have t_5:=a_b b_H.out 10))
  go_ret
  exact ⟨by first|rfl|(simp [a_w,a_x] <;> rfl)|(simp [*, a_w,a_x] <;> rfl),by repeat (first|(with_reducible first|exact HB.out|apply a_g|apply a_e|apply a_h|refine a_f ?_ m_f.out)|exact HB.out)⟩
 rw [if_neg c6] at H
 have c6b0 : (a0_2 == 0) = false:=beq_eq_false_iff_ne.mpr c6
 have c6b1 : (a0_2 != 0) = true:=bne_iff_ne.mpr c6
 obtain rfl:=Option.some.inj H
 go_enter Try.func33,Try.ntmps33
 go_wp2_with (first|((with_reducible refine a_J (N:=1) rfl ?_);refine a_C ?hg (N:=1) ?hd (cs:=#[.int .i64 a0_0,.int .i64 a0_1,.int .i64 a0_2,.int .i64 a0_3,.int .i64 a0_4,.bool true,.bool false,.int .u32 a0_7,.int .i64 a0_8,.int .i64 a0_9,.int .i64 a0_10]) (t:=65) ?hr ?_;(case hd => rfl);(case hg => rfl);(case hr => first|(go_simp;done)|(go_simp;rfl));intro c_s hg w9 hbox hb;have b_H:=a_d.mk (hbox);have t_7:=a_d.mk ((by rw [hg];exact (a_n (lup_ HB.out)) : w.heap.size ≤ c_s));have m_f:=a_d.mk ((by rw [hg];exact (a_n (lup_ HB.out)) : w.heap.size ≤ c_s));replace HB:=a_d.mk (a_o (lup_ HB.out) hb);clear hb hbox hg;have f_t : w9.cell? ⟨c_s,0,none⟩ = some (.int .i64 a0_0):=(a_a b_H.out 0).trans rfl;have f_u : w9.cell? ⟨c_s,1,none⟩ = some (.int .i64 a0_1):=(a_a b_H.out 1).trans rfl;have o_A : w9.cell? ⟨c_s,2,none⟩ = some (.int .i64 a0_2):=(a_a b_H.out 2).trans rfl;have o_B : w9.cell? ⟨c_s,3,none⟩ = some (.int .i64 a0_3):=(a_a b_H.out 3).trans rfl;have o_C : w9.cell? ⟨c_s,4,none⟩ = some (.int .i64 a0_4):=(a_a b_H.out 4).trans rfl;have o_D : w9.cell? ⟨c_s,5,none⟩ = some (.bool true):=(a_a b_H.out 5).trans rfl;have o_E : w9.cell? ⟨c_s,6,none⟩ = some (.bool false):=(a_a b_H.out 6).trans rfl;have o_F : w9.cell? ⟨c_s,7,none⟩ = some (.int .u32 a0_7):=(a_a b_H.out 7).trans rfl;have o_G : w9.cell? ⟨c_s,8,none⟩ = some (.int .i64 a0_8):=(a_a b_H.out 8).trans rfl;have o_H : w9.cell? ⟨c_s,9,none⟩ = some (.int .i64 a0_9):=(a_a b_H.out 9).trans rfl;have m_I : w9.cell? ⟨c_s,10,none⟩ = some (.int .i64 a0_10):=(a_a b_H.out 10).trans rfl;have f_v:=a_b b_H.out 0;have f_w:=a_b b_H.out 1;have o_I:=a_b b_H.out 2;have o_J:=a_b b_H.out 3;have o_K:=a_b b_H.out 4;have o_L:=a_b b_H.out 5;have o_M:=a_b b_H.out 6;have o_N:=a_b b_H.out 7;have o_O:=a_b b_H.out 8;have o_P:=a_b b_H.out 9;have m_J:=a_b b_H.out 10))
 go_ret
 exact ⟨by first|rfl|(simp [a_w,a_x] <;> rfl)|(simp [*, a_w,a_x] <;> rfl),by repeat (first|(with_reducible first|exact HB.out|apply a_g|apply a_e|apply a_h|refine a_f ?_ m_f.out)|exact HB.out)⟩
end Go.Proofs.Ytgglkfilkagblaa.Q
end
section
namespace Go.Proofs.Ytgglkfilkagblaa.Q
open Go.RowKit Go.Proofs.YtgglkfilkagblaaW.PrintWords Go.Proofs.YtgglkfilkagblaaW.PrintLast Go.Proofs.YtgglkfilkagblaaW.PrintMore
set_option linter.unusedVariables false
set_option linter.unusedSimpArgs false
mutual
def a_s.l0 : Nat → Int → List (S46) → Int → List (S27) → Int → Option ((List (S46)))
 | 0,_,_,_,_,_ => none
 | k + 1,x1,x5,x6,x285000,x285001 => if x6 < (x285000.length : Int) then (if 0 ≤ x6 then ((a_I.f k ((a_p x285000 x6).f0) ((a_p x285000 x6).f1) x1).bind fun t286 => ((b_F.f x285000 x285001 x6).bind fun t288 => (if t286 < 0 then (a_s.j1 k x1 x5 x6 ((a_p x285000 x6).f0) t288 true x285000 x285001) else (if 0 ≤ t286 then (if t286 < (((a_p x285000 x6).f1).length : Int) then ((b_C.f ((a_c ((a_p x285000 x6).f1) t286).f0) ((a_c ((a_p x285000 x6).f1) t286).f1) ((a_c ((a_p x285000 x6).f1) t286).f2) ((a_c ((a_p x285000 x6).f1) t286).f3) ((a_c ((a_p x285000 x6).f1) t286).f4) ((a_c ((a_p x285000 x6).f1) t286).f5) ((a_c ((a_p x285000 x6).f1) t286).f6) ((a_c ((a_p x285000 x6).f1) t286).f7) ((a_c ((a_p x285000 x6).f1) t286).f8) ((a_c ((a_p x285000 x6).f1) t286).f9) ((a_c ((a_p x285000 x6).f1) t286).f10)).bind fun t291 => (if t291 = true then (a_s.j1 k x1 x5 x6 ((a_p x285000 x6).f0) t288 (((a_p x285000 x6).f0) == t288) x285000 x285001) else (a_s.j1 k x1 x5 x6 ((a_p x285000 x6).f0) t288 true x285000 x285001))) else (none)) else (none))))) else (none)) else (some x5)
def a_s.j1 : Nat → Int → List (S46) → Int → Int → Int → Bool → List (S27) → Int → Option ((List (S46)))
 | 0,_,_,_,_,_,_,_,_ => none
 | k + 1,x1,x5,x6,x8,x9,x53,x285000,x285001 => if x53 = true then (a_s.l0 k x1 x5 (wrap64 (x6 + 1)) x285000 x285001) else (if (x5.length : Int) > 0 then (if 0 ≤ (wrap64 ((x5.length : Int) - 1)) then (if (wrap64 ((x5.length : Int) - 1)) < (x5.length : Int) then (if ((b_N x5 (wrap64 ((x5.length : Int) - 1))).f1) = x8 then (a_s.l0 k x1 (x5.set ((wrap64 ((x5.length : Int) - 1)) : Int).toNat (⟨(b_N x5 (wrap64 ((x5.length : Int) - 1))).f0,x9⟩ : S46)) (wrap64 (x6 + 1)) x285000 x285001) else (if x5.length < 8796093022208 then (a_s.l0 k x1 (x5 ++ [(⟨x8,x9⟩ : S46)]) (wrap64 (x6 + 1)) x285000 x285001) else (none))) else (none)) else (none)) else (if x5.length < 8796093022208 then (a_s.l0 k x1 (x5 ++ [(⟨x8,x9⟩ : S46)]) (wrap64 (x6 + 1)) x285000 x285001) else (none)))
end
def a_s.f (k : Nat) (l0_0 : List (S27)) (a0_1 : Int) (a1 : Int) : Option ((List (S46))):=a_s.l0 k a1 ([] : List (S46)) 0 l0_0 a0_1
theorem a_s.c_w : ∀ k,(∀ y0 y1 y2 y3 y4,LeO (a_s.l0 k y0 y1 y2 y3 y4) (a_s.l0 (k + 1) y0 y1 y2 y3 y4)) ∧ (∀ y0 y1 y2 y3 y4 y5 y6 y7,LeO (a_s.j1 k y0 y1 y2 y3 y4 y5 y6 y7) (a_s.j1 (k + 1) y0 y1 y2 y3 y4 y5 y6 y7))
 | 0 => ⟨fun _ _ _ _ _ r h => by simp [a_s.l0] at h,fun _ _ _ _ _ _ _ _ r h => by simp [a_s.j1] at h⟩
 | k + 1 => by
  obtain ⟨ih0,ih1⟩:=a_s.c_w k
  refine ⟨?_,?_⟩
  ·intro y0 y1 y2 y3 y4
   unfold a_s.l0
   repeat' first
   | (with_reducible exact ih0 _ _ _ _ _)
   | (with_reducible exact ih1 _ _ _ _ _ _ _ _)
   | (with_reducible exact a_I.mono _ _ _ _)
   | (with_reducible exact LeO.refl _)
   | (with_reducible exact LeO.none _)
   | (with_reducible refine LeO.ite ?_ ?_)
   | (with_reducible refine LeO.bind ?_ (fun _ => ?_))
   | exact ih0 _ _ _ _ _
   | exact ih1 _ _ _ _ _ _ _ _
   | exact a_I.mono _ _ _ _
   | exact LeO.none _
   | refine LeO.ite ?_ ?_
   | refine LeO.bind ?_ (fun _ => ?_)
  ·intro y0 y1 y2 y3 y4 y5 y6 y7
   unfold a_s.j1
   repeat' first
   | (with_reducible exact ih0 _ _ _ _ _)
   | (with_reducible exact ih1 _ _ _ _ _ _ _ _)
   | (with_reducible exact a_I.mono _ _ _ _)
   | (with_reducible exact LeO.refl _)
   | (with_reducible exact LeO.none _)
   | (with_reducible refine LeO.ite ?_ ?_)
   | (with_reducible refine LeO.bind ?_ (fun _ => ?_))
   | exact ih0 _ _ _ _ _
   | exact ih1 _ _ _ _ _ _ _ _
   | exact a_I.mono _ _ _ _
   | exact LeO.none _
   | refine LeO.ite ?_ ?_
   | refine LeO.bind ?_ (fun _ => ?_)
theorem a_s.mono : ∀ a0 a1 a2 k,LeO (a_s.f k a0 a1 a2) (a_s.f (k + 1) a0 a1 a2):=by
 intro a0 a1 a2 k
 obtain ⟨ih0,ih1⟩:=a_s.c_w k
 unfold a_s.f
 repeat' first
  | (with_reducible exact ih0 _ _ _ _ _)
  | (with_reducible exact ih1 _ _ _ _ _ _ _ _)
  | (with_reducible exact a_I.mono _ _ _ _)
  | (with_reducible exact LeO.refl _)
  | (with_reducible exact LeO.none _)
  | (with_reducible refine LeO.ite ?_ ?_)
  | (with_reducible refine LeO.bind ?_ (fun _ => ?_))
  | exact ih0 _ _ _ _ _
  | exact ih1 _ _ _ _ _ _ _ _
  | exact a_I.mono _ _ _ _
  | exact LeO.none _
  | refine LeO.ite ?_ ?_
  | refine LeO.bind ?_ (fun _ => ?_)
def a_s.T6 : Bool × List (List Nat × List Nat):=(true,[([],[]),([0],[0]),([],[]),([1,2],[1,2]),([3],[3]),([4],[4]),([],[]),([],[]),([6,7],[6,7]),([5,8,0,1,2,3,4,5],[5]),([8,9,0,1,2,3,4,5,6,7,8,9],[8])])
def a_s.B6 : List Nat:=[0,1,0,7,15,31,0,0,192,511,1023]
theorem a_s.tab6 : rtab .any (opsOf Try.f18 6) = a_s.T6:=by kernel_rfl
theorem a_s.e_I : e_s a_s.T6.2 a_s.B6 = true:=by kernel_rfl
set_option maxHeartbeats 8000000 in
set_option maxRecDepth 100000 in
theorem a_s.calls (k : Nat) (A0_0 : Option Addr) (c0_0 : Nat) (l0_0 : List (S27)) (a0_1 : Int) (a1 : Int) (r : List (S46)) (w : World) (hr0_0 : Kd.C k27 w A0_0 l0_0.length l0_0) (hc0_0 : l0_0.length ≤ c0_0) (h : a_s.f k l0_0 a0_1 a1 = some r) :
 Calls Try.prog 18 #[.agg #[.slice A0_0 l0_0.length c0_0,.int .i64 a0_1],.int .i64 a1] w fun e w' => ∃ v0_ : Value,e = .returned (v0_) ∧ Kd.R k46 46 w' w.heap.size (fun _ => True) v0_ r ∧ Below w.heap.size w w':=by
 have hu24:=Try.underlying24
 have hu27:=Try.underlying27
 have hu65:=Try.underlying65
 have hu46:=Try.underlying46
 have b_q:=a_d.mk hr0_0
 have b_S:=a_d.mk hc0_0
 clear hr0_0 hc0_0
 have HB:=a_d.mk (Below.refl w.heap.size w)
 have H : (a_s.l0 k a1 ([] : List (S46)) 0 l0_0 a0_1) = some r:=h
 clear h
 have H':=a_d.mk H
 clear H
 go_enter Try.func18,Try.ntmps18
 go_wp2_with (first|((with_reducible refine a_J (N:=2) rfl ?_);refine a_C ?hg (N:=2) ?hd (cs:=#[.slice A0_0 l0_0.length c0_0,.int .i64 a0_1]) (t:=24) ?hr ?_;(case hd => rfl);(case hg => rfl);(case hr => first|(go_simp;done)|(go_simp;rfl));intro f_H hg w3 hbox hb;have c_B:=a_d.mk (hbox);have H_o:=a_d.mk ((by rw [hg];exact (a_n (lup_ HB.out)) : w.heap.size ≤ f_H));have f_I:=a_d.mk ((by rw [hg];exact (a_n (lup_ HB.out)) : w.heap.size ≤ f_H));replace HB:=a_d.mk (a_o (lup_ HB.out) hb);clear hb hbox hg))
 go_loopg [5,6] k (fun kq v5 v6 w' => ∃ (x5_1 : List (S46)) (x6_1 : Int),v6 = .int .i64 x6_1 ∧ a_d (a_s.l0 kq a1 x5_1 x6_1 l0_0 a0_1 = some r) ∧ a_d (kq ≤ k) ∧ a_d (Kd.R k46 46 w' w.heap.size (fun _ => True) v5 x5_1) ∧ a_d (w'.heap[f_H]? = some (.cells #[(.slice A0_0 l0_0.length c0_0),.int .i64 a0_1] 24 (0,0))) ∧ a_d (Below w.heap.size w w'))
 case atStart => exact ⟨(([] : List (S46))),(0),(by first|rfl|(simp;done)|(simp [*];done)),H',⟨Nat.le_refl _⟩,⟨by first|exact Kd.j_w _ _ _ _ _|exact Kd.k_Z _ _ _ _ _|exact Kd.j_e _ _ _ _ _|exact Kd.n_D _ _ _ _ _|exact Kd.n_E _ _ _ _ _⟩,⟨by (with_reducible repeat (first|refine a_l ?_ _|refine a_m ?_|refine a_j ?_ _));exact c_B.out⟩,⟨by repeat (first|(with_reducible first|exact HB.out|apply a_g|apply a_e|apply a_h|refine a_f ?_ f_I.out)|exact HB.out)⟩⟩
 case round =>
  clear H'
  try clear c1
  try clear p2
  obtain ⟨x5_1,x6_1,rfl,HA,HK1,HO_5,c_B,HB⟩:=hrel
  cases gk with
  | zero => exact absurd HA.out (by simp [a_s.l0])
  | succ k1 =>
   have H:=HA.out
   clear HA
   simp only [a_s.l0] at H
   by_cases c4 : x6_1 < (l0_0.length : Int)
   rotate_left
   ·rw [if_neg c4] at H
    have c4b0 : decide (x6_1 < (l0_0.length : Int)) = false:=decide_eq_false c4
    clear c4
    obtain rfl:=Option.some.inj H
    have t_z : wr.cell? ⟨f_H,0,none⟩ = some (.slice A0_0 l0_0.length c0_0):=(a_a c_B.out 0).trans rfl
    have t_A : wr.cell? ⟨f_H,1,none⟩ = some (.int .i64 a0_1):=(a_a c_B.out 1).trans rfl
    have t_B:=a_b c_B.out 0
    have t_C:=a_b c_B.out 1
    go_wp2
    go_ret
    exact ⟨_,by first|rfl|(simp [a_w,a_x] <;> rfl)|(simp [*, a_w,a_x] <;> rfl),by (with_reducible repeat (first|apply Kd.d_C|apply Kd.d_B|apply Kd.d_7));exact HO_5.out,by repeat (first|(with_reducible first|exact HB.out|apply a_g|apply a_e|apply a_h|refine a_f ?_ f_I.out)|exact HB.out)⟩
   rw [if_pos c4] at H
   have c4b0 : decide (x6_1 < (l0_0.length : Int)) = true:=decide_eq_true c4
   clear c4
   by_cases c5 : 0 ≤ x6_1
   rotate_left
   ·rw [if_neg c5] at H
    exact absurd H (by simp)
   rw [if_pos c5] at H
   have c5b0 : decide (0 ≤ x6_1) = true:=decide_eq_true c5
   clear c5
   replace H:=Option.bind_eq_some_iff.mp H
   obtain ⟨t286,A60,H⟩:=H
   replace H : ((b_F.f l0_0 a0_1 x6_1).bind fun t288 => (if t286 < 0 then (a_s.j1 k1 a1 x5_1 x6_1 ((a_p l0_0 x6_1).f0) t288 true l0_0 a0_1) else (if 0 ≤ t286 then (if t286 < (((a_p l0_0 x6_1).f1).length : Int) then ((b_C.f ((a_c ((a_p l0_0 x6_1).f1) t286).f0) ((a_c ((a_p l0_0 x6_1).f1) t286).f1) ((a_c ((a_p l0_0 x6_1).f1) t286).f2) ((a_c ((a_p l0_0 x6_1).f1) t286).f3) ((a_c ((a_p l0_0 x6_1).f1) t286).f4) ((a_c ((a_p l0_0 x6_1).f1) t286).f5) ((a_c ((a_p l0_0 x6_1).f1) t286).f6) ((a_c ((a_p l0_0 x6_1).f1) t286).f7) ((a_c ((a_p l0_0 x6_1).f1) t286).f8) ((a_c ((a_p l0_0 x6_1).f1) t286).f9) ((a_c ((a_p l0_0 x6_1).f1) t286).f10)).bind fun t291 => (if t291 = true then (a_s.j1 k1 a1 x5_1 x6_1 ((a_p l0_0 x6_1).f0) t288 (((a_p l0_0 x6_1).f0) == t288) l0_0 a0_1) else (a_s.j1 k1 a1 x5_1 x6_1 ((a_p l0_0 x6_1).f0) t288 true l0_0 a0_1))) else (none)) else (none)))) = some r:=H
   have A6:=a_d.mk A60
   clear A60
   replace H:=Option.bind_eq_some_iff.mp H
   obtain ⟨t288,A70,H⟩:=H
   replace H : (if t286 < 0 then (a_s.j1 k1 a1 x5_1 x6_1 ((a_p l0_0 x6_1).f0) t288 true l0_0 a0_1) else (if 0 ≤ t286 then (if t286 < (((a_p l0_0 x6_1).f1).length : Int) then ((b_C.f ((a_c ((a_p l0_0 x6_1).f1) t286).f0) ((a_c ((a_p l0_0 x6_1).f1) t286).f1) ((a_c ((a_p l0_0 x6_1).f1) t286).f2) ((a_c ((a_p l0_0 x6_1).f1) t286).f3) ((a_c ((a_p l0_0 x6_1).f1) t286).f4) ((a_c ((a_p l0_0 x6_1).f1) t286).f5) ((a_c ((a_p l0_0 x6_1).f1) t286).f6) ((a_c ((a_p l0_0 x6_1).f1) t286).f7) ((a_c ((a_p l0_0 x6_1).f1) t286).f8) ((a_c ((a_p l0_0 x6_1).f1) t286).f9) ((a_c ((a_p l0_0 x6_1).f1) t286).f10)).bind fun t291 => (if t291 = true then (a_s.j1 k1 a1 x5_1 x6_1 ((a_p l0_0 x6_1).f0) t288 (((a_p l0_0 x6_1).f0) == t288) l0_0 a0_1) else (a_s.j1 k1 a1 x5_1 x6_1 ((a_p l0_0 x6_1).f0) t288 true l0_0 a0_1))) else (none)) else (none))) = some r:=H
   have A7:=a_d.mk A70
   clear A70
   have HC8:=a_d.mk H
   clear H
   have k_P : wr.cell? ⟨f_H,0,none⟩ = some (.slice A0_0 l0_0.length c0_0):=(a_a c_B.out 0).trans rfl
   have k_Q : wr.cell? ⟨f_H,1,none⟩ = some (.int .i64 a0_1):=(a_a c_B.out 1).trans rfl
   have k_R:=a_b c_B.out 0
   have k_S:=a_b c_B.out 1
   have p285 : 0 ≤ (x6_1 : Int):=of_decide_eq_true (by first|(with_reducible assumption)|assumption)
   have q285 : x6_1 < (l0_0.length : Int):=of_decide_eq_true (by first|(with_reducible assumption)|assumption)
   obtain ⟨ad285,A285_1,c285_1,e285,k_a,i_K,p_S,p_T⟩:=c_y b_q.out x6_1 p285 q285
   cases e285
   have HRW285_1:=a_d.mk i_K
   replace k_a:=(HB.out.cell (World.block_lt_of_cell? w _ k_a)).trans k_a
   replace i_K:=(HB.out.cell (World.block_lt_of_cell? w _ i_K)).trans i_K
   have t_8:=a_d.mk p_T
   have t_9:=a_d.mk p_S
   clear p_T p_S
   replace p285:=eq_true p285
   replace q285:=eq_true q285
   try go_wp2_with (first|((with_reducible refine b_a (f:=31) rfl ?_);refine c_v (some 24) rfl rfl Try.func31 (by kernel_rfl) rfl #[.agg #[.int .i64 ((a_p l0_0 x6_1).f0),.slice A285_1 ((a_p l0_0 x6_1).f1).length c285_1],.int .i64 a1] rfl (by (try simp only [List.map_toArray,List.map_cons,List.map_nil]);first|done|rfl|(simp only [List.length_drop,List.length_take];rfl)) ?_;(with_reducible refine (a_I.calls k1 ((a_p l0_0 x6_1).f0) _ _ ((a_p l0_0 x6_1).f1) a1 t286 _ ?side1 ?side2 A6.out).mono ?_);(case side1 => repeat (first|exact (Kd.a_U t_8.out HB.out)|(with_reducible refine Kd.a_V ?_ _)|(with_reducible refine Kd.a_W ?_ _)|(with_reducible refine Kd.a_5 ?_)));(case side2 => exact t_9.out);rintro e w10 ⟨rfl,hb⟩;refine ⟨_,rfl,?_⟩;replace HO_5:=a_d.mk (Kd.b_U (rup_ HO_5.out) hb);replace c_B:=a_d.mk (a_i (bup_ c_B.out) hb);replace HB:=a_d.mk (a_o (by repeat (first|(with_reducible first|exact HB.out|apply a_g|apply a_e|apply a_h|refine a_f ?_ f_I.out)|exact HB.out)) hb);(try clear hb);(try clear hb2);(try clear hk);(try clear hi)))
   replace HO_5:=a_d.mk (Kd.d_7 HO_5.out)
   replace c_B:=a_d.mk (a_m c_B.out)
   replace HB:=a_d.mk (a_h HB.out)
   have p287 : 0 ≤ (x6_1 : Int):=of_decide_eq_true (by first|(with_reducible assumption)|assumption)
   have q287 : x6_1 < (l0_0.length : Int):=of_decide_eq_true (by first|(with_reducible assumption)|assumption)
   obtain ⟨ad287,A287_1,c287_1,e287,g_4,g_y,p_U,p_V⟩:=c_y b_q.out x6_1 p287 q287
   have k_b:=g_y
   have k_d:=g_4
   obtain rfl : ad285 = ad287:=(by injection e287)
   (have hq_:=g_y.symm.trans HRW285_1.out;injection hq_ with hq_;injection hq_ with q1_ q2_ q3_;clear q2_;subst q1_;subst q3_)
   replace g_4:=(HB.out.cell (World.block_lt_of_cell? w _ g_4)).trans g_4
   replace g_y:=(HB.out.cell (World.block_lt_of_cell? w _ g_y)).trans g_y
   have u_a:=a_d.mk p_V
   have E_r:=a_d.mk p_U
   clear p_V p_U
   replace p287:=eq_true p287
   replace q287:=eq_true q287
   refine c_9 (n:=11) (S:=fun w' => w'.cell? ⟨f_H,0,none⟩ = some (.slice (some ad285) l0_0.length c0_0) ∧ w'.cell? ⟨f_H,1,none⟩ = some (.int .i64 a0_1) ∧ w'.cell? (ad285.add ((x6_1).toNat * 2)) = some (.int .i64 ((a_p l0_0 x6_1).f0)) ∧ w'.cell? ⟨(ad285.add ((x6_1).toNat * 2)).block,(ad285.add ((x6_1).toNat * 2)).off + 1,none⟩ = some (.slice A287_1 ((a_p l0_0 x6_1).f1).length c287_1)) (ds:=[]) #[F_,F_,F_,F_,F_,F_,F_,F_,F_,F_,F_] (by kernel_rfl) rfl rfl ⟨(a_a c_B.out 0).trans rfl,(a_a c_B.out 1).trans rfl,((HB.out.cell (World.block_lt_of_cell? w _ k_d)).trans k_d),((HB.out.cell (World.block_lt_of_cell? w _ k_b)).trans k_b)⟩ (fun hHeld => ?_);refine b_P a_s.tab6 a_s.e_I (fun HT_ HW_ => ?_)
   generalize w10.drew = w11 at HO_5 c_B HB u_a g_4 g_y hHeld ⊢
   refine a_z (i:=0) (N:=some 25) (v:=?_) (a':=?_) #[T_,F_,F_,F_,F_,F_,F_,F_,F_,F_,F_] rfl rfl (a_q HT_.out (by kernel_rfl)) (fun _ _ _ h => h) (Or.inl ⟨by rfl,?_⟩) ?_ ?_
   rotate_left
   ·intro w'
    go_simp
    with_reducible rfl
   rotate_left
   ·simp only [Act.put,sa_,sb_,sc_,a_t,a_u]
    rfl
   refine a_z (i:=2) (N:=some 27) (v:=?_) (a':=?_) #[T_,F_,T_,F_,F_,F_,F_,F_,F_,F_,F_] rfl rfl (a_q HT_.out (by kernel_rfl)) (fun _ _ _ h => h) (Or.inl ⟨by rfl,?_⟩) ?_ ?_
   rotate_left
   ·intro w'
    go_simp
    with_reducible rfl
   rotate_left
   ·simp only [Act.put,sa_,sb_,sc_,a_t,a_u]
    rfl
   refine a_z (i:=7) (N:=some 32) (v:=?_) (a':=?_) #[T_,F_,T_,F_,F_,F_,F_,T_,F_,F_,F_] rfl rfl (a_q HT_.out (by kernel_rfl)) (fun _ _ _ h => h) (Or.inl ⟨by rfl,?_⟩) ?_ ?_
   rotate_left
   ·intro w'
    go_simp
    with_reducible rfl
   rotate_left
   ·simp only [Act.put,sa_,sb_,sc_,a_t,a_u]
    rfl
   refine b_l (i:=1) (N:=some 26) (v:=?_) (a':=?_) #[T_,T_,T_,F_,F_,F_,F_,T_,F_,F_,F_] rfl rfl (a_O HT_.out HW_.out (by kernel_rfl)) (fun _ _ _ h => h) (Or.inl ⟨by rfl,?_⟩) hHeld ?_ ?_
   rotate_left
   ·rintro w' ⟨s0,s1,s2,s3⟩
    go_simp
    with_reducible rfl
   rotate_left
   ·simp only [Act.put,sa_,sb_,sc_,a_t,a_u]
    rfl
   refine a_z (i:=3) (N:=some 28) (v:=?_) (a':=?_) #[T_,T_,T_,T_,F_,F_,F_,T_,F_,F_,F_] rfl rfl (a_q HT_.out (by kernel_rfl)) (fun _ _ _ h => h) (Or.inl ⟨by rfl,?_⟩) ?_ ?_
   rotate_left
   ·intro w'
    go_simp
    with_reducible rfl
   rotate_left
   ·simp only [Act.put,sa_,sb_,sc_,a_t,a_u]
    rfl
   refine a_z (i:=4) (N:=some 29) (v:=?_) (a':=?_) #[T_,T_,T_,T_,T_,F_,F_,T_,F_,F_,F_] rfl rfl (a_q HT_.out (by kernel_rfl)) (fun _ _ _ h => h) (Or.inl ⟨by rfl,?_⟩) ?_ ?_
   rotate_left
   ·intro w'
    go_simp
    with_reducible rfl
   rotate_left
   ·simp only [Act.put,sa_,sb_,sc_,a_t,a_u]
    rfl
   refine b_l (i:=5) (N:=some 30) (v:=?_) (a':=?_) #[T_,T_,T_,T_,T_,T_,F_,T_,F_,F_,F_] rfl rfl (a_O HT_.out HW_.out (by kernel_rfl)) (fun _ _ _ h => h) (Or.inl ⟨by rfl,?_⟩) hHeld ?_ ?_
   rotate_left
   ·rintro w' ⟨s0,s1,s2,s3⟩
    go_simp
    with_reducible rfl
   rotate_left
   ·simp only [Act.put,sa_,sb_,sc_,a_t,a_u]
    rfl
   refine b_l (i:=6) (N:=some 31) (v:=?_) (a':=?_) #[T_,T_,T_,T_,T_,T_,T_,T_,F_,F_,F_] rfl rfl (a_O HT_.out HW_.out (by kernel_rfl)) (fun _ _ _ h => h) (Or.inl ⟨by rfl,?_⟩) hHeld ?_ ?_
   rotate_left
   ·rintro w' ⟨s0,s1,s2,s3⟩
    go_simp
    with_reducible rfl
   rotate_left
   ·simp only [Act.put,sa_,sb_,sc_,a_t,a_u]
    rfl
   refine one_ (i:=8) (N:=some 33) #[T_,T_,T_,T_,T_,T_,T_,T_,T_,F_,F_] rfl rfl (b_7 HT_.out (by kernel_rfl)) (by decide) (fun K hK => ?_)
   refine d_O Try.func32 (by kernel_rfl) rfl #[.agg #[.slice (some ad285) l0_0.length c0_0,.int .i64 a0_1],.int .i64 x6_1] (by rfl) rfl rfl (by (try simp only [List.map_toArray,List.map_cons,List.map_nil]);first|done|rfl|(simp only [List.length_drop,List.length_take];rfl)) ?_
   with_reducible refine (b_F.calls _ _ l0_0 a0_1 x6_1 t288 _ ?side1 ?side2 A7.out).mono ?_
   (case side1 => repeat (first|exact (Kd.a_U b_q.out HB.out)|(with_reducible refine Kd.a_V ?_ _)|(with_reducible refine Kd.a_W ?_ _)|(with_reducible refine Kd.a_5 ?_)))
   (case side2 => exact b_S.out)
   rintro e w12 ⟨rfl,hb⟩
   refine ⟨_,rfl,?_⟩
   replace HO_5:=a_d.mk (Kd.b_U (rup_ HO_5.out) hb)
   replace c_B:=a_d.mk (a_i (bup_ c_B.out) hb)
   replace HB:=a_d.mk (a_o (by repeat (first|(with_reducible first|exact HB.out|apply a_g|apply a_e|apply a_h|refine a_f ?_ f_I.out)|exact HB.out)) hb)
   (try clear hb)
   (try clear hb2)
   (try clear hk)
   (try clear hi)
   refine hK.out _ _ ⟨(a_a c_B.out 0).trans rfl,(a_a c_B.out 1).trans rfl,((HB.out.cell (World.block_lt_of_cell? w _ k_d)).trans k_d),((HB.out.cell (World.block_lt_of_cell? w _ k_b)).trans k_b)⟩ (fun hHeld => ?_)
   clear hK K
   refine d_A (a':=?_) ?_ ?_
   rotate_left
   ·show Act.put _ (some 33) _ = _
    simp only [Act.put,sa_,sb_,sc_,a_t,a_u]
    rfl
   refine a_z (i:=9) (N:=some 8) (v:=?_) (a':=?_) #[T_,T_,T_,T_,T_,T_,T_,T_,T_,T_,F_] rfl rfl (a_q HT_.out (by kernel_rfl)) (fun _ _ _ h => h) (Or.inl ⟨by rfl,?_⟩) ?_ ?_
   rotate_left
   ·intro w'
    go_simp
    with_reducible rfl
   rotate_left
   ·simp only [Act.put,sa_,sb_,sc_,a_t,a_u]
    rfl
   refine a_z (i:=10) (N:=some 9) (v:=?_) (a':=?_) #[T_,T_,T_,T_,T_,T_,T_,T_,T_,T_,T_] rfl rfl (a_q HT_.out (by kernel_rfl)) (fun _ _ _ h => h) (Or.inl ⟨by rfl,?_⟩) ?_ ?_
   rotate_left
   ·intro w'
    go_simp
    with_reducible rfl
   rotate_left
   ·simp only [Act.put,sa_,sb_,sc_,a_t,a_u]
    rfl
   refine e_j (c_q HT_.out (by kernel_rfl)) ?_
   go_upto_region 7 with (fail)
   go_cut [53] (fun v53 wc => ∃ (kq : Nat) (x53_7 : Bool),v53 = .bool x53_7 ∧ a_d (a_s.j1 kq a1 x5_1 x6_1 ((a_p l0_0 x6_1).f0) t288 x53_7 l0_0 a0_1 = some r) ∧ a_d (kq ≤ k1) ∧ a_d (Kd.R k46 46 wc w.heap.size (fun _ => True) u5 x5_1) ∧ a_d (wc.heap[f_H]? = some (.cells #[(.slice (some ad285) l0_0.length c0_0),.int .i64 a0_1] 24 (0,0))) ∧ a_d (Below w.heap.size w wc))
   case first =>
    have H:=HC8.out
    clear HC8
    by_cases c13 : t286 < 0
    ·rw [if_pos c13] at H
     have c13b0 : decide (t286 < 0) = true:=decide_eq_true c13
     clear c13
     (first|rw [c13b0]|(simp only [a_t,a_u];rw [c13b0])|skip)
     have H':=a_d.mk H
     clear H
     go_wp2
     go_meet
     case rel => exact ⟨_,(true),(by first|rfl|(simp;done)|(simp [*];done)),H',⟨by have:=HK1.out;first|omega|exact Nat.le_refl _⟩,⟨by (with_reducible repeat (first|apply Kd.d_C|apply Kd.d_B|apply Kd.d_7));exact HO_5.out⟩,⟨by (with_reducible repeat (first|refine a_l ?_ _|refine a_m ?_|refine a_j ?_ _));exact c_B.out⟩,⟨by repeat (first|(with_reducible first|exact HB.out|apply a_g|apply a_e|apply a_h|refine a_f ?_ f_I.out)|exact HB.out)⟩⟩
    rw [if_neg c13] at H
    have c13b0 : decide (t286 < 0) = false:=decide_eq_false c13
    clear c13
    (first|rw [c13b0]|(simp only [a_t,a_u];rw [c13b0])|skip)
    by_cases c14 : 0 ≤ t286
    rotate_left
    ·rw [if_neg c14] at H
     exact absurd H (by simp)
    rw [if_pos c14] at H
    have c14b0 : decide (0 ≤ t286) = true:=decide_eq_true c14
    clear c14
    by_cases c15 : t286 < (((a_p l0_0 x6_1).f1).length : Int)
    rotate_left
    ·rw [if_neg c15] at H
     exact absurd H (by simp)
    rw [if_pos c15] at H
    have c15b0 : decide (t286 < (((a_p l0_0 x6_1).f1).length : Int)) = true:=decide_eq_true c15
    clear c15
    replace H:=Option.bind_eq_some_iff.mp H
    obtain ⟨t291,A160,H⟩:=H
    replace H : (if t291 = true then (a_s.j1 k1 a1 x5_1 x6_1 ((a_p l0_0 x6_1).f0) t288 (((a_p l0_0 x6_1).f0) == t288) l0_0 a0_1) else (a_s.j1 k1 a1 x5_1 x6_1 ((a_p l0_0 x6_1).f0) t288 true l0_0 a0_1)) = some r:=H
    have A16:=a_d.mk A160
    clear A160
    by_cases c17 : t291 = true
    ·subst c17
     have H1 : (a_s.j1 k1 a1 x5_1 x6_1 ((a_p l0_0 x6_1).f0) t288 (((a_p l0_0 x6_1).f0) == t288) l0_0 a0_1) = some r:=by rw [if_pos rfl] at H;exact H
     clear H
     have H:=H1
     clear H1
     have H':=a_d.mk H
     clear H
     have m_g : w12.cell? ⟨f_H,0,none⟩ = some (.slice (some ad285) l0_0.length c0_0):=(a_a c_B.out 0).trans rfl
     have m_h : w12.cell? ⟨f_H,1,none⟩ = some (.int .i64 a0_1):=(a_a c_B.out 1).trans rfl
     have m_i:=a_b c_B.out 0
     have m_j:=a_b c_B.out 1
     have p289 : 0 ≤ (x6_1 : Int):=of_decide_eq_true (by first|(with_reducible assumption)|assumption)
     have q289 : x6_1 < (l0_0.length : Int):=of_decide_eq_true (by first|(with_reducible assumption)|assumption)
     obtain ⟨ad289,A289_1,c289_1,e289,f_J,e_L,i_L,i_M⟩:=c_y b_q.out x6_1 p289 q289
     obtain rfl : ad285 = ad289:=(by injection e289)
     (have hq_:=e_L.symm.trans HRW285_1.out;injection hq_ with hq_;injection hq_ with q1_ q2_ q3_;clear q2_;subst q1_;subst q3_)
     replace f_J:=(HB.out.cell (World.block_lt_of_cell? w _ f_J)).trans f_J
     replace e_L:=(HB.out.cell (World.block_lt_of_cell? w _ e_L)).trans e_L
     have m_k:=a_d.mk i_M
     have u_b:=a_d.mk i_L
     clear i_M i_L
     replace p289:=eq_true p289
     replace q289:=eq_true q289
     have p290 : 0 ≤ (t286 : Int):=of_decide_eq_true (by first|(with_reducible assumption)|assumption)
     have q290 : t286 < (((a_p l0_0 x6_1).f1).length : Int):=of_decide_eq_true (by first|(with_reducible assumption)|assumption)
     obtain ⟨ad290,e290,f_K,f_L,f_M,f_N,f_O,f_P,f_Q,f_R,f_S,f_T,e_K⟩:=d_g m_k.out t286 p290 q290
     cases e290
     replace f_K:=(HB.out.cell (World.block_lt_of_cell? w _ f_K)).trans f_K
     replace f_L:=(HB.out.cell (World.block_lt_of_cell? w _ f_L)).trans f_L
     replace f_M:=(HB.out.cell (World.block_lt_of_cell? w _ f_M)).trans f_M
     replace f_N:=(HB.out.cell (World.block_lt_of_cell? w _ f_N)).trans f_N
     replace f_O:=(HB.out.cell (World.block_lt_of_cell? w _ f_O)).trans f_O
     replace f_P:=(HB.out.cell (World.block_lt_of_cell? w _ f_P)).trans f_P
     replace f_Q:=(HB.out.cell (World.block_lt_of_cell? w _ f_Q)).trans f_Q
     replace f_R:=(HB.out.cell (World.block_lt_of_cell? w _ f_R)).trans f_R
     replace f_S:=(HB.out.cell (World.block_lt_of_cell? w _ f_S)).trans f_S
     replace f_T:=(HB.out.cell (World.block_lt_of_cell? w _ f_T)).trans f_T
     replace e_K:=(HB.out.cell (World.block_lt_of_cell? w _ e_K)).trans e_K
     replace p290:=eq_true p290
     replace q290:=eq_true q290
     go_wp2_with (first|(go_at_call 33;(with_reducible refine (b_C.calls ((a_c ((a_p l0_0 x6_1).f1) t286).f0) ((a_c ((a_p l0_0 x6_1).f1) t286).f1) ((a_c ((a_p l0_0 x6_1).f1) t286).f2) ((a_c ((a_p l0_0 x6_1).f1) t286).f3) ((a_c ((a_p l0_0 x6_1).f1) t286).f4) ((a_c ((a_p l0_0 x6_1).f1) t286).f5) ((a_c ((a_p l0_0 x6_1).f1) t286).f6) ((a_c ((a_p l0_0 x6_1).f1) t286).f7) ((a_c ((a_p l0_0 x6_1).f1) t286).f8) ((a_c ((a_p l0_0 x6_1).f1) t286).f9) ((a_c ((a_p l0_0 x6_1).f1) t286).f10) true _ A16.out).mono ?_);rintro e w19 ⟨rfl,hb⟩;replace HO_5:=a_d.mk (Kd.b_U (rup_ HO_5.out) hb);replace c_B:=a_d.mk (a_i (bup_ c_B.out) hb);replace HB:=a_d.mk (a_o (by repeat (first|(with_reducible first|exact HB.out|apply a_g|apply a_e|apply a_h|refine a_f ?_ f_I.out)|exact HB.out)) hb);(try clear hb);(try clear hb2);(try clear hk);(try clear hi)))
     go_meet
     case rel => exact ⟨_,((((a_p l0_0 x6_1).f0) == t288)),(by first|rfl|(simp;done)|(simp [*];done)),H',⟨by have:=HK1.out;first|omega|exact Nat.le_refl _⟩,⟨by (with_reducible repeat (first|apply Kd.d_C|apply Kd.d_B|apply Kd.d_7));exact HO_5.out⟩,⟨by (with_reducible repeat (first|refine a_l ?_ _|refine a_m ?_|refine a_j ?_ _));exact c_B.out⟩,⟨by repeat (first|(with_reducible first|exact HB.out|apply a_g|apply a_e|apply a_h|refine a_f ?_ f_I.out)|exact HB.out)⟩⟩
    replace c17:=Bool.eq_false_iff.mpr c17
    subst c17
    have H1 : (a_s.j1 k1 a1 x5_1 x6_1 ((a_p l0_0 x6_1).f0) t288 true l0_0 a0_1) = some r:=by rw [if_neg (show ¬ (false = true) by decide)] at H;exact H
    clear H
    have H:=H1
    clear H1
    have H':=a_d.mk H
    clear H
    have i_z : w12.cell? ⟨f_H,0,none⟩ = some (.slice (some ad285) l0_0.length c0_0):=(a_a c_B.out 0).trans rfl
    have k_e : w12.cell? ⟨f_H,1,none⟩ = some (.int .i64 a0_1):=(a_a c_B.out 1).trans rfl
    have i_A:=a_b c_B.out 0
    have k_f:=a_b c_B.out 1
    have p289 : 0 ≤ (x6_1 : Int):=of_decide_eq_true (by first|(with_reducible assumption)|assumption)
    have q289 : x6_1 < (l0_0.length : Int):=of_decide_eq_true (by first|(with_reducible assumption)|assumption)
    obtain ⟨ad289,A289_1,c289_1,e289,f_J,e_L,i_L,i_M⟩:=c_y b_q.out x6_1 p289 q289
    obtain rfl : ad285 = ad289:=(by injection e289)
    (have hq_:=e_L.symm.trans HRW285_1.out;injection hq_ with hq_;injection hq_ with q1_ q2_ q3_;clear q2_;subst q1_;subst q3_)
    replace f_J:=(HB.out.cell (World.block_lt_of_cell? w _ f_J)).trans f_J
    replace e_L:=(HB.out.cell (World.block_lt_of_cell? w _ e_L)).trans e_L
    have m_k:=a_d.mk i_M
    have u_b:=a_d.mk i_L
    clear i_M i_L
    replace p289:=eq_true p289
    replace q289:=eq_true q289
    have p290 : 0 ≤ (t286 : Int):=of_decide_eq_true (by first|(with_reducible assumption)|assumption)
    have q290 : t286 < (((a_p l0_0 x6_1).f1).length : Int):=of_decide_eq_true (by first|(with_reducible assumption)|assumption)
    obtain ⟨ad290,e290,f_K,f_L,f_M,f_N,f_O,f_P,f_Q,f_R,f_S,f_T,e_K⟩:=d_g m_k.out t286 p290 q290
    cases e290
    replace f_K:=(HB.out.cell (World.block_lt_of_cell? w _ f_K)).trans f_K
    replace f_L:=(HB.out.cell (World.block_lt_of_cell? w _ f_L)).trans f_L
    replace f_M:=(HB.out.cell (World.block_lt_of_cell? w _ f_M)).trans f_M
    replace f_N:=(HB.out.cell (World.block_lt_of_cell? w _ f_N)).trans f_N
    replace f_O:=(HB.out.cell (World.block_lt_of_cell? w _ f_O)).trans f_O
    replace f_P:=(HB.out.cell (World.block_lt_of_cell? w _ f_P)).trans f_P
    replace f_Q:=(HB.out.cell (World.block_lt_of_cell? w _ f_Q)).trans f_Q
    replace f_R:=(HB.out.cell (World.block_lt_of_cell? w _ f_R)).trans f_R
    replace f_S:=(HB.out.cell (World.block_lt_of_cell? w _ f_S)).trans f_S
    replace f_T:=(HB.out.cell (World.block_lt_of_cell? w _ f_T)).trans f_T
    replace e_K:=(HB.out.cell (World.block_lt_of_cell? w _ e_K)).trans e_K
    replace p290:=eq_true p290
    replace q290:=eq_true q290
    go_wp2_with (first|(go_at_call 33;(with_reducible refine (b_C.calls ((a_c ((a_p l0_0 x6_1).f1) t286).f0) ((a_c ((a_p l0_0 x6_1).f1) t286).f1) ((a_c ((a_p l0_0 x6_1).f1) t286).f2) ((a_c ((a_p l0_0 x6_1).f1) t286).f3) ((a_c ((a_p l0_0 x6_1).f1) t286).f4) ((a_c ((a_p l0_0 x6_1).f1) t286).f5) ((a_c ((a_p l0_0 x6_1).f1) t286).f6) ((a_c ((a_p l0_0 x6_1).f1) t286).f7) ((a_c ((a_p l0_0 x6_1).f1) t286).f8) ((a_c ((a_p l0_0 x6_1).f1) t286).f9) ((a_c ((a_p l0_0 x6_1).f1) t286).f10) false _ A16.out).mono ?_);rintro e w21 ⟨rfl,hb⟩;replace HO_5:=a_d.mk (Kd.b_U (rup_ HO_5.out) hb);replace c_B:=a_d.mk (a_i (bup_ c_B.out) hb);replace HB:=a_d.mk (a_o (by repeat (first|(with_reducible first|exact HB.out|apply a_g|apply a_e|apply a_h|refine a_f ?_ f_I.out)|exact HB.out)) hb);(try clear hb);(try clear hb2);(try clear hk);(try clear hi)))
    go_meet
    case rel => exact ⟨_,(true),(by first|rfl|(simp;done)|(simp [*];done)),H',⟨by have:=HK1.out;first|omega|exact Nat.le_refl _⟩,⟨by (with_reducible repeat (first|apply Kd.d_C|apply Kd.d_B|apply Kd.d_7));exact HO_5.out⟩,⟨by (with_reducible repeat (first|refine a_l ?_ _|refine a_m ?_|refine a_j ?_ _));exact c_B.out⟩,⟨by repeat (first|(with_reducible first|exact HB.out|apply a_g|apply a_e|apply a_h|refine a_f ?_ f_I.out)|exact HB.out)⟩⟩
   case rest =>
    clear HC8
    try clear c1
    try clear c2
    try clear p2
    try clear q2
    try clear hx2
    try clear c3
    try clear c4
    try clear c4b0
    try clear c5
    try clear c5b0
    try clear c13
    try clear c13b0
    try clear c14
    try clear c14b0
    try clear c15
    try clear c15b0
    try clear c17
    try clear c18
    try clear m_g
    try clear m_h
    try clear i_z
    try clear k_e
    try clear k_P
    try clear k_Q
    try clear m_i
    try clear m_j
    try clear i_A
    try clear k_f
    try clear k_R
    try clear k_S
    try clear k_a
    try clear i_K
    try clear g_4
    try clear g_y
    try clear f_J
    try clear e_L
    try clear f_K
    try clear f_L
    try clear e_K
    try clear f_M
    try clear f_N
    try clear f_O
    try clear f_P
    try clear f_Q
    try clear f_R
    try clear f_S
    try clear f_T
    try clear p2
    try clear p285
    try clear p287
    try clear p289
    try clear p290
    try clear q285
    try clear q287
    try clear q289
    try clear q290
    obtain ⟨kq,x53_7,rfl,HA,HJ7,HO_5,c_B,HB⟩:=hcut
    cases kq with
    | zero => exact absurd HA.out (by simp [a_s.j1])
    | succ kj7 =>
     have H:=HA.out
     clear HA
     simp only [a_s.j1] at H
     by_cases c22 : x53_7 = true
     ·subst c22
      have H1 : (a_s.l0 kj7 a1 x5_1 (wrap64 (x6_1 + 1)) l0_0 a0_1) = some r:=by rw [if_pos rfl] at H;exact H
      clear H
      have H:=H1
      clear H1
      have H':=a_d.mk H
      clear H
      go_wp2
      go_roundg kj7
      case measure => have:=HK1.out;have:=HJ7.out;omega
      case rel => exact ⟨(x5_1),(wrap64 (x6_1 + 1)),(by first|rfl|(simp;done)|(simp [*];done)),H',⟨by have:=HK1.out;have:=HJ7.out;omega⟩,⟨by (with_reducible repeat (first|apply Kd.d_C|apply Kd.d_B|apply Kd.d_7));exact HO_5.out⟩,⟨by (with_reducible repeat (first|refine a_l ?_ _|refine a_m ?_|refine a_j ?_ _));exact c_B.out⟩,⟨by repeat (first|(with_reducible first|exact HB.out|apply a_g|apply a_e|apply a_h|refine a_f ?_ f_I.out)|exact HB.out)⟩⟩
     replace c22:=Bool.eq_false_iff.mpr c22
     subst c22
     have H1 : (if (x5_1.length : Int) > 0 then (if 0 ≤ (wrap64 ((x5_1.length : Int) - 1)) then (if (wrap64 ((x5_1.length : Int) - 1)) < (x5_1.length : Int) then (if ((b_N x5_1 (wrap64 ((x5_1.length : Int) - 1))).f1) = ((a_p l0_0 x6_1).f0) then (a_s.l0 kj7 a1 (x5_1.set ((wrap64 ((x5_1.length : Int) - 1)) : Int).toNat (⟨(b_N x5_1 (wrap64 ((x5_1.length : Int) - 1))).f0,t288⟩ : S46)) (wrap64 (x6_1 + 1)) l0_0 a0_1) else (if x5_1.length < 8796093022208 then (a_s.l0 kj7 a1 (x5_1 ++ [(⟨((a_p l0_0 x6_1).f0),t288⟩ : S46)]) (wrap64 (x6_1 + 1)) l0_0 a0_1) else (none))) else (none)) else (none)) else (if x5_1.length < 8796093022208 then (a_s.l0 kj7 a1 (x5_1 ++ [(⟨((a_p l0_0 x6_1).f0),t288⟩ : S46)]) (wrap64 (x6_1 + 1)) l0_0 a0_1) else (none))) = some r:=by rw [if_neg (show ¬ (false = true) by decide)] at H;exact H
     clear H
     have H:=H1
     clear H1
     by_cases c23 : (x5_1.length : Int) > 0
     rotate_left
     ·rw [if_neg c23] at H
      have c23b0 : decide (0 < (x5_1.length : Int)) = false:=decide_eq_false c23
      have c23b1 : decide (0 < x5_1.length) = false:=decide_eq_false (by omega)
      clear c23
      by_cases c35 : x5_1.length < 8796093022208
      rotate_left
      ·rw [if_neg c35] at H
       exact absurd H (by simp)
      rw [if_pos c35] at H
      have LMc35:=a_d.mk c35
      clear c35
      obtain ⟨y297,hy297⟩ : ∃ y_ : List (S46),y_ = (x5_1 ++ [(⟨((a_p l0_0 x6_1).f0),t288⟩ : S46)]):=⟨_,rfl⟩
      replace H : (a_s.l0 kj7 a1 y297 (wrap64 (x6_1 + 1)) l0_0 a0_1) = some r:=by first|(rw [hy297];with_reducible exact H)|(have H2_:=(Option.bind_some _ _).symm.trans H;rw [hy297];with_reducible exact H2_)|(have H2_:=(Option.bind_some _ _).symm.trans H;with_reducible exact H2_)|with_reducible exact H|(rw [hy297];exact H)|exact H
      have Ny297:=a_d.mk hy297
      clear hy297
      have H':=a_d.mk H
      clear H
      obtain ⟨Ao36,co36,eo36⟩:=Kd.d_h HO_5.out
      subst eo36
      go_wp2_with (first|((with_reducible refine f_o (b:=.append) (xs:=#[.tmp 74,.tmp 78]) rfl ?_);at_builtin;refine Kd.m_A k46 (w0:=w) w.heap.size rfl (.tmp 74) (.tmp 78) 41 46 (.agg #[(.int .i64 0),(.int .i64 0)]) 16 rfl Try.underlying41 n_P rfl (by decide) (by omega) (.slice Ao36 x5_1.length co36) x5_1 (⟨((a_p l0_0 x6_1).f0),t288⟩ : S46) [.int .i64 ((a_p l0_0 x6_1).f0),.int .i64 t288] (fun _ => True) (fun _ => False) rfl rfl ?aP (fun _ hk => hk.elim) ?aF ?aO ?aB ?aS ?aL ?_;(case aP => exact j_o _ _ _ (⟨((a_p l0_0 x6_1).f0),t288⟩ : S46));(case aB => exact (by repeat (first|(with_reducible first|exact HB.out|apply a_g|apply a_e|apply a_h|refine a_f ?_ f_I.out)|exact HB.out)));(case aF => exact (fun _ _ => trivial));(case aO => exact (rup_ HO_5.out));(case aS => exact (a_n (by repeat (first|(with_reducible first|exact HB.out|apply a_g|apply a_e|apply a_h|refine a_f ?_ f_I.out)|exact HB.out))));(case aL => have:=LMc35.out;omega);intro v298 w37 ho hb hg hat;rw [← Ny297.out] at ho;have E_s:=a_d.mk (ho);replace c_B:=a_d.mk (d_6 (g:=f_H) (o:=.cells #[.slice (some ad285) l0_0.length c0_0,.int .i64 a0_1] 24 (0,0)) (bup_ c_B.out) hg (Kd.R_ne HO_5.out c_B.out (by decide)));replace HB:=a_d.mk (hb);clear HO_5 ho hb hg hat))
      go_roundg kj7
      case measure => have:=HK1.out;have:=HJ7.out;omega
      case rel => exact ⟨(y297),(wrap64 (x6_1 + 1)),(by first|rfl|(simp;done)|(simp [*];done)),H',⟨by have:=HK1.out;have:=HJ7.out;omega⟩,⟨by (with_reducible repeat (first|apply Kd.d_C|apply Kd.d_B|apply Kd.d_7));exact E_s.out⟩,⟨by (with_reducible repeat (first|refine a_l ?_ _|refine a_m ?_|refine a_j ?_ _));exact c_B.out⟩,⟨by repeat (first|(with_reducible first|exact HB.out|apply a_g|apply a_e|apply a_h|refine a_f ?_ f_I.out)|exact HB.out)⟩⟩
     rw [if_pos c23] at H
     have c23b0 : decide (0 < (x5_1.length : Int)) = true:=decide_eq_true c23
     have c23b1 : decide (0 < x5_1.length) = true:=decide_eq_true (by omega)
     clear c23
     obtain ⟨ji24,hji24⟩ : ∃ j_ : Int,(wrap64 ((x5_1.length : Int) - 1)) = j_:=⟨_,rfl⟩
     replace H : (if 0 ≤ (ji24) then (if (ji24) < (x5_1.length : Int) then (if ((b_N x5_1 (ji24)).f1) = ((a_p l0_0 x6_1).f0) then (a_s.l0 kj7 a1 (x5_1.set ((ji24) : Int).toNat (⟨(b_N x5_1 (ji24)).f0,t288⟩ : S46)) (wrap64 (x6_1 + 1)) l0_0 a0_1) else (if x5_1.length < 8796093022208 then (a_s.l0 kj7 a1 (x5_1 ++ [(⟨((a_p l0_0 x6_1).f0),t288⟩ : S46)]) (wrap64 (x6_1 + 1)) l0_0 a0_1) else (none))) else (none)) else (none)) = some r:=by first|(rw [hji24] at H;exact H)|(simp only [hji24] at H ⊢; exact H)
     have hji24w : (IntKind.i64.wrap ((x5_1.length : Int) - 1)) = ji24:=(a_t _).trans hji24
     by_cases c25 : 0 ≤ (ji24)
     rotate_left
     ·rw [if_neg c25] at H
      exact absurd H (by simp)
     rw [if_pos c25] at H
     have c25b0 : decide (0 ≤ (ji24)) = true:=decide_eq_true c25
     clear c25
     by_cases c26 : (ji24) < (x5_1.length : Int)
     rotate_left
     ·rw [if_neg c26] at H
      exact absurd H (by simp)
     rw [if_pos c26] at H
     have c26b0 : decide ((ji24) < (x5_1.length : Int)) = true:=decide_eq_true c26
     clear c26
     by_cases c27 : ((b_N x5_1 (ji24)).f1) = ((a_p l0_0 x6_1).f0)
     rotate_left
     ·rw [if_neg c27] at H
      have c27b0 : (((b_N x5_1 (ji24)).f1) == ((a_p l0_0 x6_1).f0)) = false:=beq_eq_false_iff_ne.mpr c27
      have c27b1 : (((b_N x5_1 (ji24)).f1) != ((a_p l0_0 x6_1).f0)) = true:=bne_iff_ne.mpr c27
      by_cases c32 : x5_1.length < 8796093022208
      rotate_left
      ·rw [if_neg c32] at H
       exact absurd H (by simp)
      rw [if_pos c32] at H
      have LMc32:=a_d.mk c32
      clear c32
      obtain ⟨y294,hy294⟩ : ∃ y_ : List (S46),y_ = (x5_1 ++ [(⟨((a_p l0_0 x6_1).f0),t288⟩ : S46)]):=⟨_,rfl⟩
      replace H : (a_s.l0 kj7 a1 y294 (wrap64 (x6_1 + 1)) l0_0 a0_1) = some r:=by first|(rw [hy294];with_reducible exact H)|(have H2_:=(Option.bind_some _ _).symm.trans H;rw [hy294];with_reducible exact H2_)|(have H2_:=(Option.bind_some _ _).symm.trans H;with_reducible exact H2_)|with_reducible exact H|(rw [hy294];exact H)|exact H
      have Ny294:=a_d.mk hy294
      clear hy294
      have H':=a_d.mk H
      clear H
      obtain ⟨Ao33,co33,eo33⟩:=Kd.d_h HO_5.out
      subst eo33
      have p292 : 0 ≤ ((ji24) : Int):=of_decide_eq_true (by first|(with_reducible assumption)|assumption)
      have q292 : (ji24) < (x5_1.length : Int):=of_decide_eq_true (by first|(with_reducible assumption)|assumption)
      obtain ⟨ad292,e292,p_W,p_X⟩:=h_B (Kd.c_5 HO_5.out).2.2 (ji24) p292 q292
      cases e292
      replace p292:=eq_true p292
      replace q292:=eq_true q292
      go_wp2_with (first|((with_reducible refine f_o (b:=.append) (xs:=#[.tmp 74,.tmp 78]) rfl ?_);at_builtin;refine Kd.m_A k46 (w0:=w) w.heap.size rfl (.tmp 74) (.tmp 78) 41 46 (.agg #[(.int .i64 0),(.int .i64 0)]) 16 rfl Try.underlying41 n_P rfl (by decide) (by omega) (.slice (some ad292) x5_1.length co33) x5_1 (⟨((a_p l0_0 x6_1).f0),t288⟩ : S46) [.int .i64 ((a_p l0_0 x6_1).f0),.int .i64 t288] (fun _ => True) (fun _ => False) rfl rfl ?aP (fun _ hk => hk.elim) ?aF ?aO ?aB ?aS ?aL ?_;(case aP => exact j_o _ _ _ (⟨((a_p l0_0 x6_1).f0),t288⟩ : S46));(case aB => exact (by repeat (first|(with_reducible first|exact HB.out|apply a_g|apply a_e|apply a_h|refine a_f ?_ f_I.out)|exact HB.out)));(case aF => exact (fun _ _ => trivial));(case aO => exact (rup_ HO_5.out));(case aS => exact (a_n (by repeat (first|(with_reducible first|exact HB.out|apply a_g|apply a_e|apply a_h|refine a_f ?_ f_I.out)|exact HB.out))));(case aL => have:=LMc32.out;omega);intro v295 w34 ho hb hg hat;rw [← Ny294.out] at ho;have E_t:=a_d.mk (ho);replace c_B:=a_d.mk (d_6 (g:=f_H) (o:=.cells #[.slice (some ad285) l0_0.length c0_0,.int .i64 a0_1] 24 (0,0)) (bup_ c_B.out) hg (Kd.R_ne HO_5.out c_B.out (by decide)));replace HB:=a_d.mk (hb);clear HO_5 ho hb hg hat))
      go_roundg kj7
      case measure => have:=HK1.out;have:=HJ7.out;omega
      case rel => exact ⟨(y294),(wrap64 (x6_1 + 1)),(by first|rfl|(simp;done)|(simp [*];done)),H',⟨by have:=HK1.out;have:=HJ7.out;omega⟩,⟨by (with_reducible repeat (first|apply Kd.d_C|apply Kd.d_B|apply Kd.d_7));exact E_t.out⟩,⟨by (with_reducible repeat (first|refine a_l ?_ _|refine a_m ?_|refine a_j ?_ _));exact c_B.out⟩,⟨by repeat (first|(with_reducible first|exact HB.out|apply a_g|apply a_e|apply a_h|refine a_f ?_ f_I.out)|exact HB.out)⟩⟩
     rw [if_pos c27] at H
     have c27b0 : (((b_N x5_1 (ji24)).f1) == ((a_p l0_0 x6_1).f0)) = true:=beq_iff_eq.mpr c27
     have c27b1 : (((b_N x5_1 (ji24)).f1) != ((a_p l0_0 x6_1).f0)) = false:=bne_eq_false_iff_eq.mpr c27
     clear c27
     obtain ⟨y293,hy293⟩ : ∃ y_ : List (S46),y_ = (x5_1.set ((ji24) : Int).toNat (⟨(b_N x5_1 (ji24)).f0,t288⟩ : S46)):=⟨_,rfl⟩
     replace H : (a_s.l0 kj7 a1 y293 (wrap64 (x6_1 + 1)) l0_0 a0_1) = some r:=by first|(rw [hy293];with_reducible exact H)|(have H2_:=(Option.bind_some _ _).symm.trans H;rw [hy293];with_reducible exact H2_)|(have H2_:=(Option.bind_some _ _).symm.trans H;with_reducible exact H2_)|with_reducible exact H|(rw [hy293];exact H)|exact H
     have Ny293:=a_d.mk hy293
     clear hy293
     have H':=a_d.mk H
     clear H
     obtain ⟨Ao29,co29,eo29⟩:=Kd.d_h HO_5.out
     subst eo29
     have p292 : 0 ≤ ((ji24) : Int):=of_decide_eq_true (by first|(with_reducible assumption)|assumption)
     have q292 : (ji24) < (x5_1.length : Int):=of_decide_eq_true (by first|(with_reducible assumption)|assumption)
     obtain ⟨ad292,e292,p_W,p_X⟩:=h_B (Kd.c_5 HO_5.out).2.2 (ji24) p292 q292
     cases e292
     replace p292:=eq_true p292
     replace q292:=eq_true q292
     have p28 : 0 ≤ ((ji24) : Int):=of_decide_eq_true (by first|(with_reducible assumption)|assumption)
     have q28 : ((ji24) : Int) < ((x5_1.length : Int) : Int):=of_decide_eq_true (by first|(with_reducible assumption)|assumption)
     obtain ⟨go28,co28,eo28,gb28,gl28,cl28,HG28⟩:=Kd.u_N HO_5.out (by omega)
     (first|cases eo28|(injection eo28 with ea_ en_ ec_;(first|subst ea_|(injection ea_ with ea_;subst ea_));subst ec_;clear en_))
     have GB28:=a_d.mk gb28
     have GG28:=a_d.mk HG28
     clear gb28 gl28 HG28
     (first|simp only [add_plain] at p_W|skip)
     (first|simp only [add_plain] at p_X|skip)
     obtain ⟨ce28,hcl28,hM28,hcc28,hfr28⟩:=Kd.o_d HO_5.out z46 ((ji24) : Int) p28 q28
     obtain rfl:=k_A hM28
     have G_P : wc.cell? ⟨go28,((ji24) : Int).toNat * 2,none⟩ = some (.int .i64 ((b_N x5_1 (ji24)).f0)):=hcc28 0 _ rfl
     have G_Q : wc.cell? ⟨go28,((ji24) : Int).toNat * 2 + 1,none⟩ = some (.int .i64 ((b_N x5_1 (ji24)).f1)):=hcc28 1 _ rfl
     have hf28_0 : wc.frozen? ⟨go28,((ji24) : Int).toNat * 2,none⟩ = false:=hfr28 0
     have hf28_1 : wc.frozen? ⟨go28,((ji24) : Int).toNat * 2 + 1,none⟩ = false:=hfr28 1
     clear hcl28 hcc28 hfr28 hM28
     replace p28:=eq_true p28
     replace q28:=eq_true q28
     have HX30:=a_d.mk (show Kd.R k46 46 wc w.heap.size (fun _ => True) (.slice (some ⟨go28,0,none⟩) x5_1.length co29) x5_1 from (rup_ HO_5.out))
     obtain ⟨ce30,hcl30,hM30,hcc30,hfr30⟩:=Kd.o_d HX30.out z46 ((ji24) : Int) (of_decide_eq_true (by first|(with_reducible assumption)|assumption)) (by have h_ : ((ji24) : Int) < ((x5_1.length : Int) : Int):=of_decide_eq_true (by first|(with_reducible assumption)|assumption);first|exact h_|(have e_:=(Kd.c_5 HO_5.out).1;omega)|simpa using h_)
     obtain rfl:=k_A hM30
     have HP30:=Kd.x_c HX30.out ((ji24) : Int) (of_decide_eq_true (by first|(with_reducible assumption)|assumption)) (by have h_ : ((ji24) : Int) < ((x5_1.length : Int) : Int):=of_decide_eq_true (by first|(with_reducible assumption)|assumption);first|exact h_|(have e_:=(Kd.c_5 HO_5.out).1;omega)|simpa using h_) (seg:=[.int .i64 t288]) (j:=1) hcl30 hcc30 (show 2 ≤ 2 from by decide) (x':=(⟨(b_N x5_1 (ji24)).f0,t288⟩ : S46)) (j_o _ _ _ (⟨(b_N x5_1 (ji24)).f0,t288⟩ : S46) ) (fun _ hk => hk)
     have v_2:=hcc30 1 _ rfl
     (try simp only [show (k46).sz = 2 from rfl,Nat.mul_one,Nat.add_zero] at v_2)
     have hf30_1:=hfr30 1
     (try simp only [show (k46).sz = 2 from rfl,Nat.mul_one,Nat.add_zero] at hf30_1)
     clear hcl30 hcc30 hfr30 hM30
     go_wp2_with (first|((with_reducible refine j_i (t:=2) (p:=73) rfl ?_);refine h_L (t:=2) (p:=73) (v:=?vo_w31) (w1:=(wc.setCell ⟨go28,((ji24) : Int).toNat * 2 + 1,none⟩ (.int .i64 t288))) ?hg ?ho ?hn ?hr ?_;(case ho => rfl);(case hg => rfl);(case hn => rfl);(case hr => first|(go_simp;done)|(go_simp;rfl));intro w31 hw;have hg : wc.grownBy w31 (some go28):=(by rw [hw];exact HP30.2);have hp_ : Kd.R k46 46 w31 w.heap.size (fun _ => True) (.slice (some ⟨go28,0,none⟩) x5_1.length co29) y293:=(by rw [hw,Ny293.out];exact HP30.1);clear HP30;replace c_B:=a_d.mk (d_6 (g:=f_H) (o:=.cells #[.slice (some ad285) l0_0.length c0_0,.int .i64 a0_1] 24 (0,0)) (bup_ c_B.out) hg (Kd.R_ne HO_5.out c_B.out (by decide)));replace HO_5:=a_d.mk (hp_);replace HB:=a_d.mk ((by rw [hw];exact a_f (HB.out) GB28.out : Below w.heap.size w w31));clear hg hw hp_))
     go_roundg kj7
     case measure => have:=HK1.out;have:=HJ7.out;omega
     case rel => exact ⟨(y293),(wrap64 (x6_1 + 1)),(by first|rfl|(simp;done)|(simp [*];done)),H',⟨by have:=HK1.out;have:=HJ7.out;omega⟩,⟨by (with_reducible repeat (first|apply Kd.d_C|apply Kd.d_B|apply Kd.d_7));exact HO_5.out⟩,⟨by (with_reducible repeat (first|refine a_l ?_ _|refine a_m ?_|refine a_j ?_ _));exact c_B.out⟩,⟨by repeat (first|(with_reducible first|exact HB.out|apply a_g|apply a_e|apply a_h|refine a_f ?_ f_I.out)|exact HB.out)⟩⟩
end Go.Proofs.Ytgglkfilkagblaa.Q
end
