/- Part 10 of 13 of what the row of AuditTimes stands on: contracts over the given program's functions, the plain law, the row; no condition beyond those that each theorem states. -/
import Derived.Test.YtgglkfilkagblaaXAuditTimes8
section
namespace Go.Proofs.Ytgglkfilkagblaa.Q
open Go.RowKit Go.Proofs.YtgglkfilkagblaaW.PrintWords Go.Proofs.YtgglkfilkagblaaW.PrintLast Go.Proofs.YtgglkfilkagblaaW.PrintMore
set_option linter.unusedVariables false
set_option linter.unusedSimpArgs false
mutual
def a_y.l0 : Nat → Int → Int → Int → Int → Int → List (S27) → Int → Option (Int)
 | 0,_,_,_,_,_,_,_ => none
 | k + 1,x1,x2,x3,x9,x10,x301000,x301001 => if x10 < (x301000.length : Int) then (if 0 ≤ x10 then ((a_I.f k ((a_p x301000 x10).f0) ((a_p x301000 x10).f1) x1).bind fun t302 => (if t302 < 0 then (a_y.j1 k x1 x2 x3 x9 x10 true x301000 x301001) else (if 0 ≤ t302 then (if t302 < (((a_p x301000 x10).f1).length : Int) then (a_y.j1 k x1 x2 x3 x9 x10 (decide (((a_c ((a_p x301000 x10).f1) t302).f4) < 0)) x301000 x301001) else (none)) else (none)))) else (none)) else (some x9)
def a_y.j1 : Nat → Int → Int → Int → Int → Int → Bool → List (S27) → Int → Option (Int)
 | 0,_,_,_,_,_,_,_,_ => none
 | k + 1,x1,x2,x3,x9,x10,x42,x301000,x301001 => if x42 = true then (a_y.l0 k x1 x2 x3 x9 (wrap64 (x10 + 1)) x301000 x301001) else (if 0 ≤ x10 then (if x10 < (x301000.length : Int) then ((b_F.f x301000 x301001 x10).bind fun t306 => (if ((a_p x301000 x10).f0) < x2 then (a_y.j2 k x1 x2 x3 x9 x10 x2 t306 x301000 x301001) else (a_y.j2 k x1 x2 x3 x9 x10 ((a_p x301000 x10).f0) t306 x301000 x301001))) else (none)) else (none))
def a_y.j2 : Nat → Int → Int → Int → Int → Int → Int → Int → List (S27) → Int → Option (Int)
 | 0,_,_,_,_,_,_,_,_,_ => none
 | k + 1,x1,x2,x3,x9,x10,x12,x13,x301000,x301001 => if x13 > x3 then (if x3 > x12 then (a_y.l0 k x1 x2 x3 (wrap64 ((wrap64 (x9 + x3)) - x12)) (wrap64 (x10 + 1)) x301000 x301001) else (a_y.l0 k x1 x2 x3 x9 (wrap64 (x10 + 1)) x301000 x301001)) else (if x13 > x12 then (a_y.l0 k x1 x2 x3 (wrap64 ((wrap64 (x9 + x13)) - x12)) (wrap64 (x10 + 1)) x301000 x301001) else (a_y.l0 k x1 x2 x3 x9 (wrap64 (x10 + 1)) x301000 x301001))
end
def a_y.f (k : Nat) (l0_0 : List (S27)) (a0_1 : Int) (a1 : Int) (a2 : Int) (a3 : Int) : Option (Int):=a_y.l0 k a1 a2 a3 0 0 l0_0 a0_1
theorem a_y.c_w : ∀ k,(∀ y0 y1 y2 y3 y4 y5 y6,LeO (a_y.l0 k y0 y1 y2 y3 y4 y5 y6) (a_y.l0 (k + 1) y0 y1 y2 y3 y4 y5 y6)) ∧ (∀ y0 y1 y2 y3 y4 y5 y6 y7,LeO (a_y.j1 k y0 y1 y2 y3 y4 y5 y6 y7) (a_y.j1 (k + 1) y0 y1 y2 y3 y4 y5 y6 y7)) ∧ (∀ y0 y1 y2 y3 y4 y5 y6 y7 y8,LeO (a_y.j2 k y0 y1 y2 y3 y4 y5 y6 y7 y8) (a_y.j2 (k + 1) y0 y1 y2 y3 y4 y5 y6 y7 y8))
 | 0 => ⟨fun _ _ _ _ _ _ _ r h => by simp [a_y.l0] at h,fun _ _ _ _ _ _ _ _ r h => by simp [a_y.j1] at h,fun _ _ _ _ _ _ _ _ _ r h => by simp [a_y.j2] at h⟩
 | k + 1 => by
  obtain ⟨ih0,ih1,ih2⟩:=a_y.c_w k
  refine ⟨?_,?_,?_⟩
  ·intro y0 y1 y2 y3 y4 y5 y6
   unfold a_y.l0
   repeat' first
   | (with_reducible exact ih0 _ _ _ _ _ _ _)
   | (with_reducible exact ih1 _ _ _ _ _ _ _ _)
   | (with_reducible exact ih2 _ _ _ _ _ _ _ _ _)
   | (with_reducible exact a_I.mono _ _ _ _)
   | (with_reducible exact LeO.refl _)
   | (with_reducible exact LeO.none _)
   | (with_reducible refine LeO.ite ?_ ?_)
   | (with_reducible refine LeO.bind ?_ (fun _ => ?_))
   | exact ih0 _ _ _ _ _ _ _
   | exact ih1 _ _ _ _ _ _ _ _
   | exact ih2 _ _ _ _ _ _ _ _ _
   | exact a_I.mono _ _ _ _
   | exact LeO.none _
   | refine LeO.ite ?_ ?_
   | refine LeO.bind ?_ (fun _ => ?_)
  ·intro y0 y1 y2 y3 y4 y5 y6 y7
   unfold a_y.j1
   repeat' first
   | (with_reducible exact ih0 _ _ _ _ _ _ _)
   | (with_reducible exact ih1 _ _ _ _ _ _ _ _)
   | (with_reducible exact ih2 _ _ _ _ _ _ _ _ _)
   | (with_reducible exact a_I.mono _ _ _ _)
   | (with_reducible exact LeO.refl _)
   | (with_reducible exact LeO.none _)
   | (with_reducible refine LeO.ite ?_ ?_)
   | (with_reducible refine LeO.bind ?_ (fun _ => ?_))
   | exact ih0 _ _ _ _ _ _ _
   | exact ih1 _ _ _ _ _ _ _ _
   | exact ih2 _ _ _ _ _ _ _ _ _
   | exact a_I.mono _ _ _ _
   | exact LeO.none _
   | refine LeO.ite ?_ ?_
   | refine LeO.bind ?_ (fun _ => ?_)
  ·intro y0 y1 y2 y3 y4 y5 y6 y7 y8
   unfold a_y.j2
   repeat' first
   | (with_reducible exact ih0 _ _ _ _ _ _ _)
   | (with_reducible exact ih1 _ _ _ _ _ _ _ _)
   | (with_reducible exact ih2 _ _ _ _ _ _ _ _ _)
   | (with_reducible exact a_I.mono _ _ _ _)
   | (with_reducible exact LeO.refl _)
   | (with_reducible exact LeO.none _)
   | (with_reducible refine LeO.ite ?_ ?_)
   | (with_reducible refine LeO.bind ?_ (fun _ => ?_))
   | exact ih0 _ _ _ _ _ _ _
   | exact ih1 _ _ _ _ _ _ _ _
   | exact ih2 _ _ _ _ _ _ _ _ _
   | exact a_I.mono _ _ _ _
   | exact LeO.none _
   | refine LeO.ite ?_ ?_
   | refine LeO.bind ?_ (fun _ => ?_)
theorem a_y.mono : ∀ a0 a1 a2 a3 a4 k,LeO (a_y.f k a0 a1 a2 a3 a4) (a_y.f (k + 1) a0 a1 a2 a3 a4):=by
 intro a0 a1 a2 a3 a4 k
 obtain ⟨ih0,ih1,ih2⟩:=a_y.c_w k
 unfold a_y.f
 repeat' first
  | (with_reducible exact ih0 _ _ _ _ _ _ _)
  | (with_reducible exact ih1 _ _ _ _ _ _ _ _)
  | (with_reducible exact ih2 _ _ _ _ _ _ _ _ _)
  | (with_reducible exact a_I.mono _ _ _ _)
  | (with_reducible exact LeO.refl _)
  | (with_reducible exact LeO.none _)
  | (with_reducible refine LeO.ite ?_ ?_)
  | (with_reducible refine LeO.bind ?_ (fun _ => ?_))
  | exact ih0 _ _ _ _ _ _ _
  | exact ih1 _ _ _ _ _ _ _ _
  | exact ih2 _ _ _ _ _ _ _ _ _
  | exact a_I.mono _ _ _ _
  | exact LeO.none _
  | refine LeO.ite ?_ ?_
  | refine LeO.bind ?_ (fun _ => ?_)
def a_y.T7 : Bool × List (List Nat × List Nat):=(true,[([],[]),([0],[0]),([],[]),([1,2],[1,2]),([3],[3]),([4],[4]),([],[]),([],[]),([6,7],[6,7]),([5,8,0,1,2,3,4,5],[5]),([8,9,0,1,2,3,4,5,6,7,8,9],[8])])
def a_y.B7 : List Nat:=[0,1,0,7,15,31,0,0,192,511,1023]
theorem a_y.tab7 : rtab .any (opsOf Try.f19 7) = a_y.T7:=by kernel_rfl
theorem a_y.k_l : e_s a_y.T7.2 a_y.B7 = true:=by kernel_rfl
set_option maxHeartbeats 8000000 in
set_option maxRecDepth 100000 in
theorem a_y.calls (k : Nat) (A0_0 : Option Addr) (c0_0 : Nat) (l0_0 : List (S27)) (a0_1 : Int) (a1 : Int) (a2 : Int) (a3 : Int) (r : Int) (w : World) (hr0_0 : Kd.C k27 w A0_0 l0_0.length l0_0) (hc0_0 : l0_0.length ≤ c0_0) (h : a_y.f k l0_0 a0_1 a1 a2 a3 = some r) :
 Calls Try.prog 19 #[.agg #[.slice A0_0 l0_0.length c0_0,.int .i64 a0_1],.int .i64 a1,.int .i64 a2,.int .i64 a3] w fun e w' => e = .returned (.int .i64 r) ∧ Below w.heap.size w w':=by
 have hu24:=Try.underlying24
 have hu27:=Try.underlying27
 have b_q:=a_d.mk hr0_0
 have b_S:=a_d.mk hc0_0
 clear hr0_0 hc0_0
 have HB:=a_d.mk (Below.refl w.heap.size w)
 have H : (a_y.l0 k a1 a2 a3 0 0 l0_0 a0_1) = some r:=h
 clear h
 have H':=a_d.mk H
 clear H
 go_enter Try.func19,Try.ntmps19
 go_wp2_with (first|((with_reducible refine a_J (N:=4) rfl ?_);refine a_C ?hg (N:=4) ?hd (cs:=#[.slice A0_0 l0_0.length c0_0,.int .i64 a0_1]) (t:=24) ?hr ?_;(case hd => rfl);(case hg => rfl);(case hr => first|(go_simp;done)|(go_simp;rfl));intro g_5 hg w5 hbox hb;have d_G:=a_d.mk (hbox);have H_p:=a_d.mk ((by rw [hg];exact (a_n (lup_ HB.out)) : w.heap.size ≤ g_5));have g_6:=a_d.mk ((by rw [hg];exact (a_n (lup_ HB.out)) : w.heap.size ≤ g_5));replace HB:=a_d.mk (a_o (lup_ HB.out) hb);clear hb hbox hg))
 go_loopg [9,10] k (fun kq v9 v10 w' => ∃ (x9_1 : Int) (x10_1 : Int),v9 = .int .i64 x9_1 ∧ v10 = .int .i64 x10_1 ∧ a_d (a_y.l0 kq a1 a2 a3 x9_1 x10_1 l0_0 a0_1 = some r) ∧ a_d (kq ≤ k) ∧ a_d (w'.heap[g_5]? = some (.cells #[(.slice A0_0 l0_0.length c0_0),.int .i64 a0_1] 24 (0,0))) ∧ a_d (Below w.heap.size w w'))
 case atStart => exact ⟨(0),(0),(by first|rfl|(simp;done)|(simp [*];done)),(by first|rfl|(simp;done)|(simp [*];done)),H',⟨Nat.le_refl _⟩,⟨by (with_reducible repeat (first|refine a_l ?_ _|refine a_m ?_|refine a_j ?_ _));exact d_G.out⟩,⟨by repeat (first|(with_reducible first|exact HB.out|apply a_g|apply a_e|apply a_h|refine a_f ?_ g_6.out)|exact HB.out)⟩⟩
 case round =>
  clear H'
  try clear c1
  try clear p2
  obtain ⟨x9_1,x10_1,rfl,rfl,HA,HK1,d_G,HB⟩:=hrel
  cases gk with
  | zero => exact absurd HA.out (by simp [a_y.l0])
  | succ k1 =>
   have H:=HA.out
   clear HA
   simp only [a_y.l0] at H
   by_cases c6 : x10_1 < (l0_0.length : Int)
   rotate_left
   ·rw [if_neg c6] at H
    have c6b0 : decide (x10_1 < (l0_0.length : Int)) = false:=decide_eq_false c6
    clear c6
    obtain rfl:=Option.some.inj H
    have g_i : wr.cell? ⟨g_5,0,none⟩ = some (.slice A0_0 l0_0.length c0_0):=(a_a d_G.out 0).trans rfl
    have g_j : wr.cell? ⟨g_5,1,none⟩ = some (.int .i64 a0_1):=(a_a d_G.out 1).trans rfl
    have g_k:=a_b d_G.out 0
    have g_l:=a_b d_G.out 1
    go_wp2
    go_ret
    exact ⟨by first|rfl|(simp [a_w,a_x] <;> rfl)|(simp [*, a_w,a_x] <;> rfl),by repeat (first|(with_reducible first|exact HB.out|apply a_g|apply a_e|apply a_h|refine a_f ?_ g_6.out)|exact HB.out)⟩
   rw [if_pos c6] at H
   have c6b0 : decide (x10_1 < (l0_0.length : Int)) = true:=decide_eq_true c6
   clear c6
   by_cases c7 : 0 ≤ x10_1
   rotate_left
   ·rw [if_neg c7] at H
    exact absurd H (by simp)
   rw [if_pos c7] at H
   have c7b0 : decide (0 ≤ x10_1) = true:=decide_eq_true c7
   clear c7
   replace H:=Option.bind_eq_some_iff.mp H
   obtain ⟨t302,A80,H⟩:=H
   replace H : (if t302 < 0 then (a_y.j1 k1 a1 a2 a3 x9_1 x10_1 true l0_0 a0_1) else (if 0 ≤ t302 then (if t302 < (((a_p l0_0 x10_1).f1).length : Int) then (a_y.j1 k1 a1 a2 a3 x9_1 x10_1 (decide (((a_c ((a_p l0_0 x10_1).f1) t302).f4) < 0)) l0_0 a0_1) else (none)) else (none))) = some r:=H
   have A8:=a_d.mk A80
   clear A80
   have HC9:=a_d.mk H
   clear H
   have f_t : wr.cell? ⟨g_5,0,none⟩ = some (.slice A0_0 l0_0.length c0_0):=(a_a d_G.out 0).trans rfl
   have f_u : wr.cell? ⟨g_5,1,none⟩ = some (.int .i64 a0_1):=(a_a d_G.out 1).trans rfl
   have f_v:=a_b d_G.out 0
   have f_w:=a_b d_G.out 1
   have p301 : 0 ≤ (x10_1 : Int):=of_decide_eq_true (by first|(with_reducible assumption)|assumption)
   have q301 : x10_1 < (l0_0.length : Int):=of_decide_eq_true (by first|(with_reducible assumption)|assumption)
   obtain ⟨ad301,A301_1,c301_1,e301,i_N,i_O,p_Y,p_Z⟩:=c_y b_q.out x10_1 p301 q301
   cases e301
   replace i_N:=(HB.out.cell (World.block_lt_of_cell? w _ i_N)).trans i_N
   replace i_O:=(HB.out.cell (World.block_lt_of_cell? w _ i_O)).trans i_O
   have u_d:=a_d.mk p_Z
   have u_e:=a_d.mk p_Y
   clear p_Z p_Y
   replace p301:=eq_true p301
   replace q301:=eq_true q301
   go_upto_region 6 with (first|((with_reducible refine b_a (f:=31) rfl ?_);refine c_v (some 27) rfl rfl Try.func31 (by kernel_rfl) rfl #[.agg #[.int .i64 ((a_p l0_0 x10_1).f0),.slice A301_1 ((a_p l0_0 x10_1).f1).length c301_1],.int .i64 a1] rfl (by (try simp only [List.map_toArray,List.map_cons,List.map_nil]);first|done|rfl|(simp only [List.length_drop,List.length_take];rfl)) ?_;(with_reducible refine (a_I.calls k1 ((a_p l0_0 x10_1).f0) _ _ ((a_p l0_0 x10_1).f1) a1 t302 _ ?side1 ?side2 A8.out).mono ?_);(case side1 => repeat (first|exact (Kd.a_U u_d.out HB.out)|(with_reducible refine Kd.a_V ?_ _)|(with_reducible refine Kd.a_W ?_ _)|(with_reducible refine Kd.a_5 ?_)));(case side2 => exact u_e.out);rintro e w11 ⟨rfl,hb⟩;refine ⟨_,rfl,?_⟩;replace d_G:=a_d.mk (a_i (bup_ d_G.out) hb);replace HB:=a_d.mk (a_o (by repeat (first|(with_reducible first|exact HB.out|apply a_g|apply a_e|apply a_h|refine a_f ?_ g_6.out)|exact HB.out)) hb);(try clear hb);(try clear hb2);(try clear hk);(try clear hi)))
   (try simp only [Act.put,sa_,sb_,sc_])
   go_cut [42] (fun v42 wc => ∃ (kq : Nat) (x42_8 : Bool),v42 = .bool x42_8 ∧ a_d (a_y.j1 kq a1 a2 a3 x9_1 x10_1 x42_8 l0_0 a0_1 = some r) ∧ a_d (kq ≤ k1) ∧ a_d (wc.heap[g_5]? = some (.cells #[(.slice (some ad301) l0_0.length c0_0),.int .i64 a0_1] 24 (0,0))) ∧ a_d (Below w.heap.size w wc))
   case first =>
    have H:=HC9.out
    clear HC9
    by_cases c12 : t302 < 0
    ·rw [if_pos c12] at H
     have c12b0 : decide (t302 < 0) = true:=decide_eq_true c12
     clear c12
     (first|rw [c12b0]|(simp only [a_t,a_u];rw [c12b0])|skip)
     have H':=a_d.mk H
     clear H
     go_wp2
     go_meet
     case rel => exact ⟨_,(true),(by first|rfl|(simp;done)|(simp [*];done)),H',⟨by have:=HK1.out;first|omega|exact Nat.le_refl _⟩,⟨by (with_reducible repeat (first|refine a_l ?_ _|refine a_m ?_|refine a_j ?_ _));exact d_G.out⟩,⟨by repeat (first|(with_reducible first|exact HB.out|apply a_g|apply a_e|apply a_h|refine a_f ?_ g_6.out)|exact HB.out)⟩⟩
    rw [if_neg c12] at H
    have c12b0 : decide (t302 < 0) = false:=decide_eq_false c12
    clear c12
    (first|rw [c12b0]|(simp only [a_t,a_u];rw [c12b0])|skip)
    by_cases c13 : 0 ≤ t302
    rotate_left
    ·rw [if_neg c13] at H
     exact absurd H (by simp)
    rw [if_pos c13] at H
    have c13b0 : decide (0 ≤ t302) = true:=decide_eq_true c13
    clear c13
    by_cases c14 : t302 < (((a_p l0_0 x10_1).f1).length : Int)
    rotate_left
    ·rw [if_neg c14] at H
     exact absurd H (by simp)
    rw [if_pos c14] at H
    have c14b0 : decide (t302 < (((a_p l0_0 x10_1).f1).length : Int)) = true:=decide_eq_true c14
    clear c14
    have H':=a_d.mk H
    clear H
    have l_s : w11.cell? ⟨g_5,0,none⟩ = some (.slice (some ad301) l0_0.length c0_0):=(a_a d_G.out 0).trans rfl
    have l_t : w11.cell? ⟨g_5,1,none⟩ = some (.int .i64 a0_1):=(a_a d_G.out 1).trans rfl
    have l_u:=a_b d_G.out 0
    have l_v:=a_b d_G.out 1
    have p303 : 0 ≤ (x10_1 : Int):=of_decide_eq_true (by first|(with_reducible assumption)|assumption)
    have q303 : x10_1 < (l0_0.length : Int):=of_decide_eq_true (by first|(with_reducible assumption)|assumption)
    obtain ⟨ad303,A303_1,c303_1,e303,i_P,i_Q,p_0,p_1⟩:=c_y b_q.out x10_1 p303 q303
    obtain rfl : ad301 = ad303:=(by injection e303)
    replace i_P:=(HB.out.cell (World.block_lt_of_cell? w _ i_P)).trans i_P
    replace i_Q:=(HB.out.cell (World.block_lt_of_cell? w _ i_Q)).trans i_Q
    have u_f:=a_d.mk p_1
    have E_u:=a_d.mk p_0
    clear p_1 p_0
    replace p303:=eq_true p303
    replace q303:=eq_true q303
    have p304 : 0 ≤ (t302 : Int):=of_decide_eq_true (by first|(with_reducible assumption)|assumption)
    have q304 : t302 < (((a_p l0_0 x10_1).f1).length : Int):=of_decide_eq_true (by first|(with_reducible assumption)|assumption)
    obtain ⟨ad304,e304,i_R,i_S,i_T,i_U,i_V,i_W,i_X,i_Y,i_Z,i_0,g_Q⟩:=d_g u_f.out t302 p304 q304
    cases e304
    replace i_R:=(HB.out.cell (World.block_lt_of_cell? w _ i_R)).trans i_R
    replace i_S:=(HB.out.cell (World.block_lt_of_cell? w _ i_S)).trans i_S
    replace i_T:=(HB.out.cell (World.block_lt_of_cell? w _ i_T)).trans i_T
    replace i_U:=(HB.out.cell (World.block_lt_of_cell? w _ i_U)).trans i_U
    replace i_V:=(HB.out.cell (World.block_lt_of_cell? w _ i_V)).trans i_V
    replace i_W:=(HB.out.cell (World.block_lt_of_cell? w _ i_W)).trans i_W
    replace i_X:=(HB.out.cell (World.block_lt_of_cell? w _ i_X)).trans i_X
    replace i_Y:=(HB.out.cell (World.block_lt_of_cell? w _ i_Y)).trans i_Y
    replace i_Z:=(HB.out.cell (World.block_lt_of_cell? w _ i_Z)).trans i_Z
    replace i_0:=(HB.out.cell (World.block_lt_of_cell? w _ i_0)).trans i_0
    replace g_Q:=(HB.out.cell (World.block_lt_of_cell? w _ g_Q)).trans g_Q
    replace p304:=eq_true p304
    replace q304:=eq_true q304
    go_wp2
    go_meet
    case rel => exact ⟨_,(decide (((a_c ((a_p l0_0 x10_1).f1) t302).f4) < 0)),(by first|rfl|(simp;done)|(simp [*];done)),H',⟨by have:=HK1.out;first|omega|exact Nat.le_refl _⟩,⟨by (with_reducible repeat (first|refine a_l ?_ _|refine a_m ?_|refine a_j ?_ _));exact d_G.out⟩,⟨by repeat (first|(with_reducible first|exact HB.out|apply a_g|apply a_e|apply a_h|refine a_f ?_ g_6.out)|exact HB.out)⟩⟩
   case rest =>
    clear HC9
    try clear c1
    try clear p2
    try clear c3
    try clear p3
    try clear q3
    try clear hx3
    try clear c6
    try clear c6b0
    try clear c7
    try clear c7b0
    try clear c12
    try clear c12b0
    try clear c13
    try clear c13b0
    try clear c14
    try clear c14b0
    try clear f_t
    try clear f_u
    try clear l_s
    try clear l_t
    try clear f_v
    try clear f_w
    try clear l_u
    try clear l_v
    try clear i_N
    try clear i_O
    try clear i_P
    try clear i_Q
    try clear i_R
    try clear i_S
    try clear g_Q
    try clear i_T
    try clear i_U
    try clear i_V
    try clear i_W
    try clear i_X
    try clear i_Y
    try clear i_Z
    try clear i_0
    try clear p2
    try clear p301
    try clear p303
    try clear p304
    try clear q301
    try clear q303
    try clear q304
    obtain ⟨kq,x42_8,rfl,HA,HJ8,d_G,HB⟩:=hcut
    cases kq with
    | zero => exact absurd HA.out (by simp [a_y.j1])
    | succ kj8 =>
     have H:=HA.out
     clear HA
     simp only [a_y.j1] at H
     by_cases c16 : x42_8 = true
     ·subst c16
      have H1 : (a_y.l0 kj8 a1 a2 a3 x9_1 (wrap64 (x10_1 + 1)) l0_0 a0_1) = some r:=by rw [if_pos rfl] at H;exact H
      clear H
      have H:=H1
      clear H1
      have H':=a_d.mk H
      clear H
      go_wp2
      go_roundg kj8
      case measure => have:=HK1.out;have:=HJ8.out;omega
      case rel => exact ⟨(x9_1),(wrap64 (x10_1 + 1)),(by first|rfl|(simp;done)|(simp [*];done)),(by first|rfl|(simp;done)|(simp [*];done)),H',⟨by have:=HK1.out;have:=HJ8.out;omega⟩,⟨by (with_reducible repeat (first|refine a_l ?_ _|refine a_m ?_|refine a_j ?_ _));exact d_G.out⟩,⟨by repeat (first|(with_reducible first|exact HB.out|apply a_g|apply a_e|apply a_h|refine a_f ?_ g_6.out)|exact HB.out)⟩⟩
     replace c16:=Bool.eq_false_iff.mpr c16
     subst c16
     have H1 : (if 0 ≤ x10_1 then (if x10_1 < (l0_0.length : Int) then ((b_F.f l0_0 a0_1 x10_1).bind fun t306 => (if ((a_p l0_0 x10_1).f0) < a2 then (a_y.j2 kj8 a1 a2 a3 x9_1 x10_1 a2 t306 l0_0 a0_1) else (a_y.j2 kj8 a1 a2 a3 x9_1 x10_1 ((a_p l0_0 x10_1).f0) t306 l0_0 a0_1))) else (none)) else (none)) = some r:=by rw [if_neg (show ¬ (false = true) by decide)] at H;exact H
     clear H
     have H:=H1
     clear H1
     by_cases c17 : 0 ≤ x10_1
     rotate_left
     ·rw [if_neg c17] at H
      exact absurd H (by simp)
     rw [if_pos c17] at H
     have c17b0 : decide (0 ≤ x10_1) = true:=decide_eq_true c17
     clear c17
     by_cases c18 : x10_1 < (l0_0.length : Int)
     rotate_left
     ·rw [if_neg c18] at H
      exact absurd H (by simp)
     rw [if_pos c18] at H
     have c18b0 : decide (x10_1 < (l0_0.length : Int)) = true:=decide_eq_true c18
     clear c18
     replace H:=Option.bind_eq_some_iff.mp H
     obtain ⟨t306,A190,H⟩:=H
     replace H : (if ((a_p l0_0 x10_1).f0) < a2 then (a_y.j2 kj8 a1 a2 a3 x9_1 x10_1 a2 t306 l0_0 a0_1) else (a_y.j2 kj8 a1 a2 a3 x9_1 x10_1 ((a_p l0_0 x10_1).f0) t306 l0_0 a0_1)) = some r:=H
     have A19:=a_d.mk A190
     clear A190
     have HC20:=a_d.mk H
     clear H
     try go_wp2
     replace d_G:=a_d.mk (a_m d_G.out)
     replace HB:=a_d.mk (a_h HB.out)
     have p305 : 0 ≤ (x10_1 : Int):=of_decide_eq_true (by first|(with_reducible assumption)|assumption)
     have q305 : x10_1 < (l0_0.length : Int):=of_decide_eq_true (by first|(with_reducible assumption)|assumption)
     obtain ⟨ad305,A305_1,c305_1,e305,g_7,g_8,p_2,p_3⟩:=c_y b_q.out x10_1 p305 q305
     have k_g:=g_8
     have k_h:=g_7
     obtain rfl : ad301 = ad305:=(by injection e305)
     replace g_7:=(HB.out.cell (World.block_lt_of_cell? w _ g_7)).trans g_7
     replace g_8:=(HB.out.cell (World.block_lt_of_cell? w _ g_8)).trans g_8
     have u_g:=a_d.mk p_3
     have E_v:=a_d.mk p_2
     clear p_3 p_2
     replace p305:=eq_true p305
     replace q305:=eq_true q305
     refine c_9 (n:=11) (S:=fun w' => w'.cell? ⟨g_5,0,none⟩ = some (.slice (some ad301) l0_0.length c0_0) ∧ w'.cell? ⟨g_5,1,none⟩ = some (.int .i64 a0_1) ∧ w'.cell? (ad301.add ((x10_1).toNat * 2)) = some (.int .i64 ((a_p l0_0 x10_1).f0)) ∧ w'.cell? ⟨(ad301.add ((x10_1).toNat * 2)).block,(ad301.add ((x10_1).toNat * 2)).off + 1,none⟩ = some (.slice A305_1 ((a_p l0_0 x10_1).f1).length c305_1)) (ds:=[]) #[F_,F_,F_,F_,F_,F_,F_,F_,F_,F_,F_] (by kernel_rfl) rfl rfl ⟨(a_a d_G.out 0).trans rfl,(a_a d_G.out 1).trans rfl,((HB.out.cell (World.block_lt_of_cell? w _ k_h)).trans k_h),((HB.out.cell (World.block_lt_of_cell? w _ k_g)).trans k_g)⟩ (fun hHeld => ?_);refine b_P a_y.tab7 a_y.k_l (fun HT_ HW_ => ?_)
     generalize wc.drew = w21 at d_G HB u_g g_7 g_8 hHeld ⊢
     refine a_z (i:=0) (N:=some 43) (v:=?_) (a':=?_) #[T_,F_,F_,F_,F_,F_,F_,F_,F_,F_,F_] rfl rfl (a_q HT_.out (by kernel_rfl)) (fun _ _ _ h => h) (Or.inl ⟨by rfl,?_⟩) ?_ ?_
     rotate_left
     ·intro w'
      go_simp
      with_reducible rfl
     rotate_left
     ·simp only [Act.put,sa_,sb_,sc_,a_t,a_u]
      rfl
     refine a_z (i:=2) (N:=some 45) (v:=?_) (a':=?_) #[T_,F_,T_,F_,F_,F_,F_,F_,F_,F_,F_] rfl rfl (a_q HT_.out (by kernel_rfl)) (fun _ _ _ h => h) (Or.inl ⟨by rfl,?_⟩) ?_ ?_
     rotate_left
     ·intro w'
      go_simp
      with_reducible rfl
     rotate_left
     ·simp only [Act.put,sa_,sb_,sc_,a_t,a_u]
      rfl
     refine a_z (i:=7) (N:=some 50) (v:=?_) (a':=?_) #[T_,F_,T_,F_,F_,F_,F_,T_,F_,F_,F_] rfl rfl (a_q HT_.out (by kernel_rfl)) (fun _ _ _ h => h) (Or.inl ⟨by rfl,?_⟩) ?_ ?_
     rotate_left
     ·intro w'
      go_simp
      with_reducible rfl
     rotate_left
     ·simp only [Act.put,sa_,sb_,sc_,a_t,a_u]
      rfl
     refine b_l (i:=1) (N:=some 44) (v:=?_) (a':=?_) #[T_,T_,T_,F_,F_,F_,F_,T_,F_,F_,F_] rfl rfl (a_O HT_.out HW_.out (by kernel_rfl)) (fun _ _ _ h => h) (Or.inl ⟨by rfl,?_⟩) hHeld ?_ ?_
     rotate_left
     ·rintro w' ⟨s0,s1,s2,s3⟩
      go_simp
      with_reducible rfl
     rotate_left
     ·simp only [Act.put,sa_,sb_,sc_,a_t,a_u]
      rfl
     refine a_z (i:=3) (N:=some 46) (v:=?_) (a':=?_) #[T_,T_,T_,T_,F_,F_,F_,T_,F_,F_,F_] rfl rfl (a_q HT_.out (by kernel_rfl)) (fun _ _ _ h => h) (Or.inl ⟨by rfl,?_⟩) ?_ ?_
     rotate_left
     ·intro w'
      go_simp
      with_reducible rfl
     rotate_left
     ·simp only [Act.put,sa_,sb_,sc_,a_t,a_u]
      rfl
     refine a_z (i:=4) (N:=some 47) (v:=?_) (a':=?_) #[T_,T_,T_,T_,T_,F_,F_,T_,F_,F_,F_] rfl rfl (a_q HT_.out (by kernel_rfl)) (fun _ _ _ h => h) (Or.inl ⟨by rfl,?_⟩) ?_ ?_
     rotate_left
     ·intro w'
      go_simp
      with_reducible rfl
     rotate_left
     ·simp only [Act.put,sa_,sb_,sc_,a_t,a_u]
      rfl
     refine b_l (i:=5) (N:=some 48) (v:=?_) (a':=?_) #[T_,T_,T_,T_,T_,T_,F_,T_,F_,F_,F_] rfl rfl (a_O HT_.out HW_.out (by kernel_rfl)) (fun _ _ _ h => h) (Or.inl ⟨by rfl,?_⟩) hHeld ?_ ?_
     rotate_left
     ·rintro w' ⟨s0,s1,s2,s3⟩
      go_simp
      with_reducible rfl
     rotate_left
     ·simp only [Act.put,sa_,sb_,sc_,a_t,a_u]
      rfl
     refine b_l (i:=6) (N:=some 49) (v:=?_) (a':=?_) #[T_,T_,T_,T_,T_,T_,T_,T_,F_,F_,F_] rfl rfl (a_O HT_.out HW_.out (by kernel_rfl)) (fun _ _ _ h => h) (Or.inl ⟨by rfl,?_⟩) hHeld ?_ ?_
     rotate_left
     ·rintro w' ⟨s0,s1,s2,s3⟩
      go_simp
      with_reducible rfl
     rotate_left
     ·simp only [Act.put,sa_,sb_,sc_,a_t,a_u]
      rfl
     refine one_ (i:=8) (N:=some 51) #[T_,T_,T_,T_,T_,T_,T_,T_,T_,F_,F_] rfl rfl (b_7 HT_.out (by kernel_rfl)) (by decide) (fun K hK => ?_)
     refine d_O Try.func32 (by kernel_rfl) rfl #[.agg #[.slice (some ad301) l0_0.length c0_0,.int .i64 a0_1],.int .i64 x10_1] (by rfl) rfl rfl (by (try simp only [List.map_toArray,List.map_cons,List.map_nil]);first|done|rfl|(simp only [List.length_drop,List.length_take];rfl)) ?_
     with_reducible refine (b_F.calls _ _ l0_0 a0_1 x10_1 t306 _ ?side1 ?side2 A19.out).mono ?_
     (case side1 => repeat (first|exact (Kd.a_U b_q.out HB.out)|(with_reducible refine Kd.a_V ?_ _)|(with_reducible refine Kd.a_W ?_ _)|(with_reducible refine Kd.a_5 ?_)))
     (case side2 => exact b_S.out)
     rintro e w22 ⟨rfl,hb⟩
     refine ⟨_,rfl,?_⟩
     replace d_G:=a_d.mk (a_i (bup_ d_G.out) hb)
     replace HB:=a_d.mk (a_o (by repeat (first|(with_reducible first|exact HB.out|apply a_g|apply a_e|apply a_h|refine a_f ?_ g_6.out)|exact HB.out)) hb)
     (try clear hb)
     (try clear hb2)
     (try clear hk)
     (try clear hi)
     refine hK.out _ _ ⟨(a_a d_G.out 0).trans rfl,(a_a d_G.out 1).trans rfl,((HB.out.cell (World.block_lt_of_cell? w _ k_h)).trans k_h),((HB.out.cell (World.block_lt_of_cell? w _ k_g)).trans k_g)⟩ (fun hHeld => ?_)
     clear hK K
     refine d_A (a':=?_) ?_ ?_
     rotate_left
     ·show Act.put _ (some 51) _ = _
      simp only [Act.put,sa_,sb_,sc_,a_t,a_u]
      rfl
     refine a_z (i:=9) (N:=some 12) (v:=?_) (a':=?_) #[T_,T_,T_,T_,T_,T_,T_,T_,T_,T_,F_] rfl rfl (a_q HT_.out (by kernel_rfl)) (fun _ _ _ h => h) (Or.inl ⟨by rfl,?_⟩) ?_ ?_
     rotate_left
     ·intro w'
      go_simp
      with_reducible rfl
     rotate_left
     ·simp only [Act.put,sa_,sb_,sc_,a_t,a_u]
      rfl
     refine a_z (i:=10) (N:=some 13) (v:=?_) (a':=?_) #[T_,T_,T_,T_,T_,T_,T_,T_,T_,T_,T_] rfl rfl (a_q HT_.out (by kernel_rfl)) (fun _ _ _ h => h) (Or.inl ⟨by rfl,?_⟩) ?_ ?_
     rotate_left
     ·intro w'
      go_simp
      with_reducible rfl
     rotate_left
     ·simp only [Act.put,sa_,sb_,sc_,a_t,a_u]
      rfl
     refine e_j (c_q HT_.out (by kernel_rfl)) ?_
     go_upto_if 54 with (fail)
     go_cut [12] (fun v12 wc => ∃ (kq : Nat) (x12_19 : Int),v12 = .int .i64 x12_19 ∧ a_d (a_y.j2 kq a1 a2 a3 x9_1 x10_1 x12_19 t306 l0_0 a0_1 = some r) ∧ a_d (kq ≤ kj8) ∧ a_d (wc.heap[g_5]? = some (.cells #[(.slice (some ad301) l0_0.length c0_0),.int .i64 a0_1] 24 (0,0))) ∧ a_d (Below w.heap.size w wc))
     case first =>
      have H:=HC20.out
      clear HC20
      by_cases c23 : ((a_p l0_0 x10_1).f0) < a2
      ·rw [if_pos c23] at H
       have c23b0 : decide (((a_p l0_0 x10_1).f0) < a2) = true:=decide_eq_true c23
       clear c23
       (first|rw [c23b0]|(simp only [a_t,a_u];rw [c23b0])|skip)
       have H':=a_d.mk H
       clear H
       go_wp2
       go_meet
       case rel => exact ⟨_,(a2),(by first|rfl|(simp;done)|(simp [*];done)),H',⟨by have:=HK1.out;have:=HJ8.out;first|omega|exact Nat.le_refl _⟩,⟨by (with_reducible repeat (first|refine a_l ?_ _|refine a_m ?_|refine a_j ?_ _));exact d_G.out⟩,⟨by repeat (first|(with_reducible first|exact HB.out|apply a_g|apply a_e|apply a_h|refine a_f ?_ g_6.out)|exact HB.out)⟩⟩
      rw [if_neg c23] at H
      have c23b0 : decide (((a_p l0_0 x10_1).f0) < a2) = false:=decide_eq_false c23
      clear c23
      (first|rw [c23b0]|(simp only [a_t,a_u];rw [c23b0])|skip)
      have H':=a_d.mk H
      clear H
      go_wp2
      go_meet
      case rel => exact ⟨_,((a_p l0_0 x10_1).f0),(by first|rfl|(simp;done)|(simp [*];done)),H',⟨by have:=HK1.out;have:=HJ8.out;first|omega|exact Nat.le_refl _⟩,⟨by (with_reducible repeat (first|refine a_l ?_ _|refine a_m ?_|refine a_j ?_ _));exact d_G.out⟩,⟨by repeat (first|(with_reducible first|exact HB.out|apply a_g|apply a_e|apply a_h|refine a_f ?_ g_6.out)|exact HB.out)⟩⟩
     case rest =>
      clear HC20
      try clear c1
      try clear c2
      try clear p2
      try clear c3
      try clear p3
      try clear q3
      try clear hx3
      try clear c6
      try clear c6b0
      try clear p6
      try clear c7
      try clear c7b0
      try clear c12
      try clear c12b0
      try clear c13
      try clear c13b0
      try clear c14
      try clear c14b0
      try clear c16
      try clear c17
      try clear c17b0
      try clear c18
      try clear c18b0
      try clear c19
      try clear c23
      try clear c23b0
      try clear f_t
      try clear f_u
      try clear l_s
      try clear l_t
      try clear f_v
      try clear f_w
      try clear l_u
      try clear l_v
      try clear i_N
      try clear i_O
      try clear i_P
      try clear i_Q
      try clear i_R
      try clear i_S
      try clear g_Q
      try clear i_T
      try clear i_U
      try clear i_V
      try clear i_W
      try clear i_X
      try clear i_Y
      try clear i_Z
      try clear i_0
      try clear g_7
      try clear g_8
      try clear p2
      try clear p3
      try clear p301
      try clear p303
      try clear p304
      try clear p305
      try clear q3
      try clear q301
      try clear q303
      try clear q304
      try clear q305
      obtain ⟨kq,x12_19,rfl,HA,HJ19,d_G,HB⟩:=hcut
      cases kq with
      | zero => exact absurd HA.out (by simp [a_y.j2])
      | succ kj19 =>
       have H:=HA.out
       clear HA
       simp only [a_y.j2] at H
       by_cases c24 : t306 > a3
       ·rw [if_pos c24] at H
        have c24b0 : decide (a3 < t306) = true:=decide_eq_true c24
        clear c24
        by_cases c25 : a3 > x12_19
        ·rw [if_pos c25] at H
         have c25b0 : decide (x12_19 < a3) = true:=decide_eq_true c25
         clear c25
         have H':=a_d.mk H
         clear H
         go_wp2
         go_roundg kj19
         case measure => have:=HK1.out;have:=HJ8.out;have:=HJ19.out;omega
         case rel => exact ⟨(wrap64 ((wrap64 (x9_1 + a3)) - x12_19)),(wrap64 (x10_1 + 1)),(by first|rfl|(simp;done)|(simp [*];done)),(by first|rfl|(simp;done)|(simp [*];done)),H',⟨by have:=HK1.out;have:=HJ8.out;have:=HJ19.out;omega⟩,⟨by (with_reducible repeat (first|refine a_l ?_ _|refine a_m ?_|refine a_j ?_ _));exact d_G.out⟩,⟨by repeat (first|(with_reducible first|exact HB.out|apply a_g|apply a_e|apply a_h|refine a_f ?_ g_6.out)|exact HB.out)⟩⟩
        rw [if_neg c25] at H
        have c25b0 : decide (x12_19 < a3) = false:=decide_eq_false c25
        clear c25
        have H':=a_d.mk H
        clear H
        go_wp2
        go_roundg kj19
        case measure => have:=HK1.out;have:=HJ8.out;have:=HJ19.out;omega
        case rel => exact ⟨(x9_1),(wrap64 (x10_1 + 1)),(by first|rfl|(simp;done)|(simp [*];done)),(by first|rfl|(simp;done)|(simp [*];done)),H',⟨by have:=HK1.out;have:=HJ8.out;have:=HJ19.out;omega⟩,⟨by (with_reducible repeat (first|refine a_l ?_ _|refine a_m ?_|refine a_j ?_ _));exact d_G.out⟩,⟨by repeat (first|(with_reducible first|exact HB.out|apply a_g|apply a_e|apply a_h|refine a_f ?_ g_6.out)|exact HB.out)⟩⟩
       rw [if_neg c24] at H
       have c24b0 : decide (a3 < t306) = false:=decide_eq_false c24
       clear c24
       by_cases c26 : t306 > x12_19
       ·rw [if_pos c26] at H
        have c26b0 : decide (x12_19 < t306) = true:=decide_eq_true c26
        clear c26
        have H':=a_d.mk H
        clear H
        go_wp2
        go_roundg kj19
        case measure => have:=HK1.out;have:=HJ8.out;have:=HJ19.out;omega
        case rel => exact ⟨(wrap64 ((wrap64 (x9_1 + t306)) - x12_19)),(wrap64 (x10_1 + 1)),(by first|rfl|(simp;done)|(simp [*];done)),(by first|rfl|(simp;done)|(simp [*];done)),H',⟨by have:=HK1.out;have:=HJ8.out;have:=HJ19.out;omega⟩,⟨by (with_reducible repeat (first|refine a_l ?_ _|refine a_m ?_|refine a_j ?_ _));exact d_G.out⟩,⟨by repeat (first|(with_reducible first|exact HB.out|apply a_g|apply a_e|apply a_h|refine a_f ?_ g_6.out)|exact HB.out)⟩⟩
       rw [if_neg c26] at H
       have c26b0 : decide (x12_19 < t306) = false:=decide_eq_false c26
       clear c26
       have H':=a_d.mk H
       clear H
       go_wp2
       go_roundg kj19
       case measure => have:=HK1.out;have:=HJ8.out;have:=HJ19.out;omega
       case rel => exact ⟨(x9_1),(wrap64 (x10_1 + 1)),(by first|rfl|(simp;done)|(simp [*];done)),(by first|rfl|(simp;done)|(simp [*];done)),H',⟨by have:=HK1.out;have:=HJ8.out;have:=HJ19.out;omega⟩,⟨by (with_reducible repeat (first|refine a_l ?_ _|refine a_m ?_|refine a_j ?_ _));exact d_G.out⟩,⟨by repeat (first|(with_reducible first|exact HB.out|apply a_g|apply a_e|apply a_h|refine a_f ?_ g_6.out)|exact HB.out)⟩⟩
end Go.Proofs.Ytgglkfilkagblaa.Q
end
section
namespace Go.Proofs.Ytgglkfilkagblaa.Q
open Go.RowKit Go.Proofs.YtgglkfilkagblaaW.PrintWords Go.Proofs.YtgglkfilkagblaaW.PrintLast Go.Proofs.YtgglkfilkagblaaW.PrintMore
set_option linter.unusedVariables false
set_option linter.unusedSimpArgs false
def d_M.f (l0 : List (S27)) : Option ((List (S27))):=(some (([] : List (S27)) : List (S27))).bind fun y126 => (if y126.length + l0.length < 4398046511104 then (some (y126 ++ l0)) else (none))
set_option maxHeartbeats 8000000 in
set_option maxRecDepth 100000 in
theorem Kd.u_M {α : Type} {d : Kd α} {w : World} {n : Nat} {xs : List α} (h : d.C w none n xs) : xs = []:=by
 cases xs with
 | nil => rfl
 | cons x xs =>
  obtain ⟨e,_,hp⟩:=h
  obtain ⟨a,ha,_⟩:=hp (by rw [← e];simp)
  cases ha
theorem d_M.calls (P0_ : Nat → Prop) (A0 : Option Addr) (c0 : Nat) (l0 : List (S27)) (r : List (S27)) (w : World) (hs0 : Kd.V k27 27 w w.heap.size (fun k_ => P0_ k_) (.slice A0 l0.length c0) l0) (h : d_M.f l0 = some r) :
 Calls Try.prog 25 #[.slice A0 l0.length c0] w fun e w' => ∃ v0_ : Value,e = .returned (v0_) ∧ Kd.N k27 27 w' w.heap.size (fun k_ => (P0_ k_ ∨ w.heap.size ≤ k_)) v0_ r ∧ Below w.heap.size w w':=by
 cases A0 with
 | none =>
  have hz_ : l0 = []:=Kd.u_M (Kd.b_W hs0).2.2
  subst hz_
  obtain rfl : r = []:=by simp only [d_M.f] at h;first|exact (Option.some.inj h).symm|(simp at h;exact h.symm)|(simpa using h.symm)
  have hnil_ := @Lib.run_eql_slice_nil Try.prog
  go_enter Try.func25,Try.ntmps25
  go_wp2
  go_ret
  exact ⟨_,rfl,Kd.k_Z _ _ _ _ _,Below.refl _ _⟩
 | some ad0_ =>
  have hnil_ := @Lib.run_eql_slice_nil Try.prog
  have HO0:=a_d.mk (show Kd.V k27 27 w w.heap.size (fun k_ => (P0_ k_ ∨ w.heap.size ≤ k_)) (.slice (some ad0_) l0.length c0) l0 from Kd.d_y hs0 (fun k_ hk => .inl hk))
  have HB:=a_d.mk (Below.refl w.heap.size w)
  have H : ((some (([] : List (S27)) : List (S27))).bind fun y126 => (if y126.length + l0.length < 4398046511104 then (some (y126 ++ l0)) else (none))) = some r:=h
  clear h
  obtain ⟨y126,hy126⟩ : ∃ y_ : List (S27),y_ = (([] : List (S27))):=⟨_,rfl⟩
  replace H : (if y126.length + l0.length < 4398046511104 then (some (y126 ++ l0)) else (none)) = some r:=by first|(rw [hy126];with_reducible exact H)|(have H2_:=(Option.bind_some _ _).symm.trans H;rw [hy126];with_reducible exact H2_)|(have H2_:=(Option.bind_some _ _).symm.trans H;with_reducible exact H2_)|with_reducible exact H|(rw [hy126];exact H)|exact H
  have Ny126:=a_d.mk hy126
  clear hy126
  by_cases c2 : y126.length + l0.length < 4398046511104
  rotate_left
  ·rw [if_neg c2] at H
   exact absurd H (by simp)
  rw [if_pos c2] at H
  have LMc2:=a_d.mk c2
  clear c2
  obtain ⟨y129,hy129⟩ : ∃ y_ : List (S27),y_ = (y126 ++ l0):=⟨_,rfl⟩
  replace H : (some y129) = some r:=by first|(rw [hy129];with_reducible exact H)|(have H2_:=(Option.bind_some _ _).symm.trans H;rw [hy129];with_reducible exact H2_)|(have H2_:=(Option.bind_some _ _).symm.trans H;with_reducible exact H2_)|with_reducible exact H|(rw [hy129];exact H)|exact H
  have Ny129:=a_d.mk hy129
  clear hy129
  obtain rfl:=Option.some.inj H
  go_enter Try.func25,Try.ntmps25
  go_wp2_with (first|((with_reducible refine a_J (N:=5) rfl ?_);refine Kd.x_e k27 _ 27 ?hg (N':=5) ?hd (xs:=([] : List (S27))) (inner:=[]) (ok:=(fun k_ => (P0_ k_ ∨ w.heap.size ≤ k_))) (okp:=(fun k_ => (P0_ k_ ∨ w.heap.size ≤ k_))) ?hr ?hp (fun _ hk => hk) ((show ∀ k_,w.heap.size ≤ k_ → (fun k_ => (P0_ k_ ∨ w.heap.size ≤ k_)) k_ from fun k_ hk => (.inr (Nat.le_trans (a_n (lup_ HB.out)) hk))) _ (Nat.le_refl _)) (Below.refl _ _) (Nat.le_refl _) (by simp) ?_;(case hd => rfl);(case hg => rfl);(case hr => first|(go_simp;done)|(go_simp;rfl));(case hp => exact (Reps.none _ _));intro v127 w3 ho4 hb hg_ hnew_;clear hg_ hnew_;(first|rw [← Ny126.out] at ho4|(simp only [Int.reduceToNat] at ho4;rw [← Ny126.out] at ho4));have v_3:=a_d.mk (Kd.k_U ho4 (a_n (lup_ HB.out)));replace HO0:=a_d.mk (Kd.g_L (by (with_reducible repeat (first|apply Kd.b_d|apply Kd.b_e|apply Kd.b_m));exact HO0.out) (Kd.o_a ho4) hb);replace HB:=a_d.mk (a_o (lup_ HB.out) hb);clear hb ho4)|((with_reducible refine f_o (b:=.append) (xs:=#[.tmp 5,.tmp 6]) rfl ?_);at_builtin;refine Kd.j_z k27 (w0:=w) w.heap.size rfl (.tmp 5) (.tmp 6) 22 27 (.agg #[(.int .i64 0),(.slice none 0 0)]) 32 rfl Try.underlying22 k_p rfl (by decide) (by omega) v127 y126 l0 _ _ _ (fun k_ => (P0_ k_ ∨ w.heap.size ≤ k_)) (fun k_ => ((fun k_ => (P0_ k_ ∨ w.heap.size ≤ k_))) k_ ∧ some k_ ≠ (v127 : Value).ownBlock) rfl rfl ?aO ?aR (fun _ hk => hk) ?aF ?aB ?aS ?aL ?_;(case aR => exact (by skip;exact Kd.V_F (Kd.d_y (ok':=(fun k_ => ((fun k_ => (P0_ k_ ∨ w.heap.size ≤ k_))) k_ ∧ some k_ ≠ (v127 : Value).ownBlock)) (HO0.out) (fun k_ hk => ⟨hk.1,hk.2⟩))));(case aB => exact (lup_ HB.out));(case aF => exact (fun k_ hk => (.inr (Nat.le_trans (a_n (lup_ HB.out)) hk))));(case aO => exact (by (with_reducible repeat (first|apply Kd.d_W|apply Kd.d_X|apply Kd.d_5));exact v_3.out));(case aS => exact (a_n (lup_ HB.out)));(case aL => have:=LMc2.out;omega);intro v130 w5 ho hb hg hat;rw [← Ny129.out] at ho;have E_w:=a_d.mk (ho);replace HO0:=a_d.mk (Kd.g_B (ok:=(fun k_ => (P0_ k_ ∨ w.heap.size ≤ k_))) (by (with_reducible repeat (first|apply Kd.b_d|apply Kd.b_e|apply Kd.b_m));exact HO0.out) hg hat);replace HB:=a_d.mk (hb);clear v_3 ho hb hg hat))
  go_ret
  exact ⟨_,by first|rfl|(simp [a_w,a_x] <;> rfl)|(simp [*, a_w,a_x] <;> rfl),by (with_reducible repeat (first|apply Kd.d_W|apply Kd.d_X|apply Kd.d_5));exact E_w.out,by repeat (first|(with_reducible first|exact HB.out|apply a_g|apply a_e|apply a_h)|exact HB.out)⟩
end Go.Proofs.Ytgglkfilkagblaa.Q
end
section
namespace Go.Proofs.Ytgglkfilkagblaa.Q
open Go.RowKit Go.Proofs.YtgglkfilkagblaaW.PrintWords Go.Proofs.YtgglkfilkagblaaW.PrintLast Go.Proofs.YtgglkfilkagblaaW.PrintMore
set_option linter.unusedVariables false
set_option linter.unusedSimpArgs false
theorem own_ne {A : Option Addr} {n m c c' k : Nat} (h : some k ≠ (Value.slice A n c).ownBlock) : some k ≠ (Value.slice A m c').ownBlock:=by cases A <;> exact h
def a_3.j0 : Nat → List (S27) → Int → Bool → Int → List (S65) → Option ((List (S27)) × Int × Int)
 | 0,_,_,_,_,_ => none
 | k + 1,x6,x7,x42,x134000,x134001 => if x42 = true then (if 0 ≤ (wrap64 (x7 - 1)) then (if (wrap64 (x7 - 1)) ≤ (x6.length : Int) then ((some (x6.take ((wrap64 (x7 - 1)) : Int).toNat : List (S27))).bind fun y141 => (if (y141.length : Int) = 2000 then (some (([] : List (S27)),0,6)) else (if y141.length < 4398046511104 then (some ((y141 ++ [(⟨x134000,x134001⟩ : S27)]),x134000,0)) else (none)))) else (none)) else (none)) else (if (x6.length : Int) = 2000 then (some (([] : List (S27)),0,6)) else (if x6.length < 4398046511104 then (some ((x6 ++ [(⟨x134000,x134001⟩ : S27)]),x134000,0)) else (none)))
def a_3.f (k : Nat) (l0_0 : List (S27)) (a0_1 : Int) (a1_0 : Int) (l1_1 : List (S65)) : Option ((List (S27)) × Int × Int):=(a_E.f k l0_0 a0_1).bind fun t135 => (if t135 = 0 then ((a_H.f k a1_0 l1_1).bind fun t136 => (if t136 = true then (if a1_0 < a0_1 then (some (([] : List (S27)),0,2)) else ((d_M.f l0_0).bind fun t137 => (if (t137.length : Int) > 0 then (if 0 ≤ (wrap64 ((t137.length : Int) - 1)) then (if (wrap64 ((t137.length : Int) - 1)) < (t137.length : Int) then (a_3.j0 k t137 (t137.length : Int) (((a_p t137 (wrap64 ((t137.length : Int) - 1))).f0) == a1_0) a1_0 l1_1) else (none)) else (none)) else (a_3.j0 k t137 (t137.length : Int) false a1_0 l1_1)))) else (some (([] : List (S27)),0,2)))) else (some (([] : List (S27)),0,390)))
theorem a_3.c_w : ∀ k,(∀ y0 y1 y2 y3 y4,LeO (a_3.j0 k y0 y1 y2 y3 y4) (a_3.j0 (k + 1) y0 y1 y2 y3 y4))
 | 0 => fun _ _ _ _ _ r h => by simp [a_3.j0] at h
 | k + 1 => by
  have ih0:=a_3.c_w k
  ·intro y0 y1 y2 y3 y4
   unfold a_3.j0
   repeat' first
   | (with_reducible exact ih0 _ _ _ _ _)
   | (with_reducible exact a_E.mono _ _ _)
   | (with_reducible exact a_H.mono _ _ _)
   | (with_reducible exact LeO.refl _)
   | (with_reducible exact LeO.none _)
   | (with_reducible refine LeO.ite ?_ ?_)
   | (with_reducible refine LeO.bind ?_ (fun _ => ?_))
   | exact ih0 _ _ _ _ _
   | exact a_E.mono _ _ _
   | exact a_H.mono _ _ _
   | exact LeO.none _
   | refine LeO.ite ?_ ?_
   | refine LeO.bind ?_ (fun _ => ?_)
theorem a_3.mono : ∀ a0 a1 a2 a3 k,LeO (a_3.f k a0 a1 a2 a3) (a_3.f (k + 1) a0 a1 a2 a3):=by
 intro a0 a1 a2 a3 k
 have ih0:=a_3.c_w k
 unfold a_3.f
 repeat' first
  | (with_reducible exact ih0 _ _ _ _ _)
  | (with_reducible exact a_E.mono _ _ _)
  | (with_reducible exact a_H.mono _ _ _)
  | (with_reducible exact LeO.refl _)
  | (with_reducible exact LeO.none _)
  | (with_reducible refine LeO.ite ?_ ?_)
  | (with_reducible refine LeO.bind ?_ (fun _ => ?_))
  | exact ih0 _ _ _ _ _
  | exact a_E.mono _ _ _
  | exact a_H.mono _ _ _
  | exact LeO.none _
  | refine LeO.ite ?_ ?_
  | refine LeO.bind ?_ (fun _ => ?_)
def a_3.T7 : Bool × List (List Nat × List Nat):=(true,[([],[]),([0],[0]),([1],[1]),([2],[2]),([2],[2]),([4,2],[2,4]),([3,5,2],[2,3,5]),([6,2],[2,6]),([7,2],[2,7]),([2],[2]),([9,2],[2,9]),([8,10,2],[2,8,10]),([2,11],[2,11])])
def a_3.B7 : List Nat:=[0,1,3,7,7,23,63,127,255,7,519,2047,4095]
theorem a_3.tab7 : rtab .any (opsOf Try.f10 7) = a_3.T7:=by kernel_rfl
theorem a_3.k_l : e_s a_3.T7.2 a_3.B7 = true:=by kernel_rfl
def a_3.T11 : Bool × List (List Nat × List Nat):=(true,[([],[]),([],[]),([1],[1]),([0,2],[0,2]),([],[]),([4],[4]),([3,5],[3,5]),([6,3,0,1,2,3,4,5,6],[6]),([7,0,1,2,3,4,5,6,7],[])])
def a_3.B11 : List Nat:=[0,0,2,7,0,16,63,127,255]
theorem a_3.u_T : rtab .any (opsOf Try.f10 11) = a_3.T11:=by kernel_rfl
theorem a_3.r_r : e_s a_3.T11.2 a_3.B11 = true:=by kernel_rfl
set_option maxHeartbeats 8000000 in
set_option maxRecDepth 100000 in
theorem a_3.calls (k : Nat) (P0_0_ : Nat → Prop) (A0_0 : Option Addr) (c0_0 : Nat) (l0_0 : List (S27)) (a0_1 : Int) (a1_0 : Int) (P1_1_ : Nat → Prop) (A1_1 : Option Addr) (c1_1 : Nat) (l1_1 : List (S65)) (r1 : List (S27)) (r2 : Int) (r3 : Int) (w : World) (hs0_0 : Kd.V k27 27 w w.heap.size (fun k_ => P0_0_ k_) (.slice A0_0 l0_0.length c0_0) l0_0) (hs1_1 : Kd.V k65 65 w w.heap.size (fun k_ => P1_1_ k_) (.slice A1_1 l1_1.length c1_1) l1_1) (h : a_3.f k l0_0 a0_1 a1_0 l1_1 = some (r1,r2,r3)) :
 Calls Try.prog 10 #[.agg #[.slice A0_0 l0_0.length c0_0,.int .i64 a0_1],.agg #[.int .i64 a1_0,.slice A1_1 l1_1.length c1_1]] w fun e w' => ∃ v0_ : Value,e = .returned (.tuple #[.agg #[v0_,.int .i64 r2],.int .i64 r3]) ∧ Kd.N k27 27 w' w.heap.size (fun k_ => ((P0_0_ k_ ∨ P1_1_ k_) ∨ w.heap.size ≤ k_)) v0_ r1 ∧ Below w.heap.size w w':=by
 have hu24:=Try.underlying24
 have hu27:=Try.underlying27
 have b_I:=a_d.mk (show Kd.V k27 27 w w.heap.size (fun k_ => ((P0_0_ k_ ∨ P1_1_ k_) ∨ w.heap.size ≤ k_)) (.slice A0_0 l0_0.length c0_0) l0_0 from Kd.d_y hs0_0 (fun k_ hk => .inl (.inl hk)))
 have c_u:=a_d.mk (show Kd.V k65 65 w w.heap.size (fun k_ => ((P0_0_ k_ ∨ P1_1_ k_) ∨ w.heap.size ≤ k_)) (.slice A1_1 l1_1.length c1_1) l1_1 from Kd.d_y hs1_1 (fun k_ hk => .inl (.inr hk)))
 have HB:=a_d.mk (Below.refl w.heap.size w)
 have H : ((a_E.f k l0_0 a0_1).bind fun t135 => (if t135 = 0 then ((a_H.f k a1_0 l1_1).bind fun t136 => (if t136 = true then (if a1_0 < a0_1 then (some (([] : List (S27)),0,2)) else ((d_M.f l0_0).bind fun t137 => (if (t137.length : Int) > 0 then (if 0 ≤ (wrap64 ((t137.length : Int) - 1)) then (if (wrap64 ((t137.length : Int) - 1)) < (t137.length : Int) then (a_3.j0 k t137 (t137.length : Int) (((a_p t137 (wrap64 ((t137.length : Int) - 1))).f0) == a1_0) a1_0 l1_1) else (none)) else (none)) else (a_3.j0 k t137 (t137.length : Int) false a1_0 l1_1)))) else (some (([] : List (S27)),0,2)))) else (some (([] : List (S27)),0,390)))) = some (r1,r2,r3):=h
 clear h
 replace H:=Option.bind_eq_some_iff.mp H
 obtain ⟨t135,A30,H⟩:=H
 replace H : (if t135 = 0 then ((a_H.f k a1_0 l1_1).bind fun t136 => (if t136 = true then (if a1_0 < a0_1 then (some (([] : List (S27)),0,2)) else ((d_M.f l0_0).bind fun t137 => (if (t137.length : Int) > 0 then (if 0 ≤ (wrap64 ((t137.length : Int) - 1)) then (if (wrap64 ((t137.length : Int) - 1)) < (t137.length : Int) then (a_3.j0 k t137 (t137.length : Int) (((a_p t137 (wrap64 ((t137.length : Int) - 1))).f0) == a1_0) a1_0 l1_1) else (none)) else (none)) else (a_3.j0 k t137 (t137.length : Int) false a1_0 l1_1)))) else (some (([] : List (S27)),0,2)))) else (some (([] : List (S27)),0,390))) = some (r1,r2,r3):=H
 have A3:=a_d.mk A30
 clear A30
 by_cases c4 : t135 = 0
 rotate_left
 ·rw [if_neg c4] at H
  have c4b0 : (t135 == 0) = false:=beq_eq_false_iff_ne.mpr c4
  have c4b1 : (t135 != 0) = true:=bne_iff_ne.mpr c4
  simp only [Option.some.injEq,Prod.mk.injEq] at H
  obtain ⟨rfl,rfl,rfl⟩:=H
  go_enter Try.func10,Try.ntmps10
  go_wp2_with (first|((with_reducible refine a_J (N:=2) rfl ?_);refine a_C ?hg (N:=2) ?hd (cs:=#[.slice A0_0 l0_0.length c0_0,.int .i64 a0_1]) (t:=24) ?hr ?_;(case hd => rfl);(case hg => rfl);(case hr => first|(go_simp;done)|(go_simp;rfl));intro b_1 hg w80 hbox hb;have b_y:=a_d.mk (hbox);have u_h:=a_d.mk ((by rw [hg];exact (a_n (lup_ HB.out)) : w.heap.size ≤ b_1));have c_x:=a_d.mk ((by rw [hg];exact (a_n (lup_ HB.out)) : w.heap.size ≤ b_1));replace b_I:=a_d.mk (Kd.b_s (Kd.b_R (by (with_reducible repeat (first|apply Kd.b_d|apply Kd.b_e|apply Kd.b_m));exact b_I.out) b_1 (Nat.le_of_eq hg.symm)) hb);replace c_u:=a_d.mk (Kd.b_s (Kd.b_R (by (with_reducible repeat (first|apply Kd.b_d|apply Kd.b_e|apply Kd.b_m));exact c_u.out) b_1 (Nat.le_of_eq hg.symm)) hb);replace HB:=a_d.mk (a_o (lup_ HB.out) hb);clear hb hbox hg)|((with_reducible refine a_J (N:=3) rfl ?_);refine a_C ?hg (N:=3) ?hd (cs:=#[.int .i64 a1_0,.slice A1_1 l1_1.length c1_1]) (t:=27) ?hr ?_;(case hd => rfl);(case hg => rfl);(case hr => first|(go_simp;done)|(go_simp;rfl));intro b_Y hg w81 hbox hb;have b_J:=a_d.mk (hbox);have u_i:=a_d.mk ((by rw [hg];exact (a_n (by repeat (first|(with_reducible first|exact HB.out|apply a_g|apply a_e|apply a_h|refine a_f ?_ c_x.out)|exact HB.out))) : w.heap.size ≤ b_Y));have d_f:=a_d.mk ((by rw [hg];exact (a_n (by repeat (first|(with_reducible first|exact HB.out|apply a_g|apply a_e|apply a_h|refine a_f ?_ c_x.out)|exact HB.out))) : w.heap.size ≤ b_Y));have e_E:=a_d.mk ((by rw [hg];exact Nat.ne_of_lt (a_Q (bup_ b_y.out)) : b_1 ≠ b_Y));have e_F:=a_d.mk ((by rw [hg];exact Nat.ne_of_gt (a_Q (bup_ b_y.out)) : b_Y ≠ b_1));replace b_I:=a_d.mk (Kd.b_s (Kd.b_R (by (with_reducible repeat (first|apply Kd.b_d|apply Kd.b_e|apply Kd.b_m));exact b_I.out) b_Y (Nat.le_of_eq hg.symm)) hb);replace c_u:=a_d.mk (Kd.b_s (Kd.b_R (by (with_reducible repeat (first|apply Kd.b_d|apply Kd.b_e|apply Kd.b_m));exact c_u.out) b_Y (Nat.le_of_eq hg.symm)) hb);replace b_y:=a_d.mk (a_i (bup_ b_y.out) hb);replace HB:=a_d.mk (a_o (by repeat (first|(with_reducible first|exact HB.out|apply a_g|apply a_e|apply a_h|refine a_f ?_ c_x.out)|exact HB.out)) hb);clear hb hbox hg)|((with_reducible refine a_J (N:=4) rfl ?_);refine a_C ?hg (N:=4) ?hd (cs:=#[.slice none 0 0,.int .i64 0]) (t:=24) ?hr ?_;(case hd => rfl);(case hg => rfl);(case hr => first|(go_simp;done)|(go_simp;rfl));intro b_E hg w82 hbox hb;have b_T:=a_d.mk (hbox);have u_j:=a_d.mk ((by rw [hg];exact (a_n (by repeat (first|(with_reducible first|exact HB.out|apply a_g|apply a_e|apply a_h|refine a_f ?_ c_x.out|refine a_f ?_ d_f.out)|exact HB.out))) : w.heap.size ≤ b_E));have e_h:=a_d.mk ((by rw [hg];exact (a_n (by repeat (first|(with_reducible first|exact HB.out|apply a_g|apply a_e|apply a_h|refine a_f ?_ c_x.out|refine a_f ?_ d_f.out)|exact HB.out))) : w.heap.size ≤ b_E));have d_c:=a_d.mk ((by rw [hg];exact Nat.ne_of_lt (a_Q (bup_ b_y.out)) : b_1 ≠ b_E));have d_d:=a_d.mk ((by rw [hg];exact Nat.ne_of_gt (a_Q (bup_ b_y.out)) : b_E ≠ b_1));have b_3:=a_d.mk ((by rw [hg];exact Nat.ne_of_lt (a_Q (bup_ b_J.out)) : b_Y ≠ b_E));have d_e:=a_d.mk ((by rw [hg];exact Nat.ne_of_gt (a_Q (bup_ b_J.out)) : b_E ≠ b_Y));replace b_I:=a_d.mk (Kd.b_s (Kd.b_R (by (with_reducible repeat (first|apply Kd.b_d|apply Kd.b_e|apply Kd.b_m));exact b_I.out) b_E (Nat.le_of_eq hg.symm)) hb);replace c_u:=a_d.mk (Kd.b_s (Kd.b_R (by (with_reducible repeat (first|apply Kd.b_d|apply Kd.b_e|apply Kd.b_m));exact c_u.out) b_E (Nat.le_of_eq hg.symm)) hb);replace b_y:=a_d.mk (a_i (bup_ b_y.out) hb);replace b_J:=a_d.mk (a_i (bup_ b_J.out) hb);replace HB:=a_d.mk (a_o (by repeat (first|(with_reducible first|exact HB.out|apply a_g|apply a_e|apply a_h|refine a_f ?_ c_x.out|refine a_f ?_ d_f.out)|exact HB.out)) hb);clear hb hbox hg;have H_q:=e_E.out;have H_r:=e_F.out;have H_s:=d_c.out;have H_t:=d_d.out;have m_l : w82.cell? ⟨b_1,0,none⟩ = some (.slice A0_0 l0_0.length c0_0):=(a_a b_y.out 0).trans rfl;have m_m : w82.cell? ⟨b_1,1,none⟩ = some (.int .i64 a0_1):=(a_a b_y.out 1).trans rfl;have m_n:=a_b b_y.out 0;have m_o:=a_b b_y.out 1)|((with_reducible refine b_a (f:=14) rfl ?_);refine c_v (some 10) rfl rfl Try.func14 (by kernel_rfl) rfl #[.agg #[.slice A0_0 l0_0.length c0_0,.int .i64 a0_1]] rfl (by (try simp only [List.map_toArray,List.map_cons,List.map_nil]);first|done|rfl|(simp only [List.length_drop,List.length_take];rfl)) ?_;(with_reducible refine (a_E.calls k _ _ l0_0 a0_1 t135 _ ?side1 ?side2 A3.out).mono ?_);(case side1 => repeat (first|exact (Kd.b_W b_I.out).2.2|(with_reducible refine Kd.a_V ?_ _)|(with_reducible refine Kd.a_W ?_ _)|(with_reducible refine Kd.a_5 ?_)));(case side2 => exact (Kd.b_W b_I.out).2.1);rintro e w86 ⟨rfl,hb⟩;refine ⟨_,rfl,?_⟩;replace b_I:=a_d.mk (Kd.b_s (by (with_reducible repeat (first|apply Kd.b_d|apply Kd.b_e|apply Kd.b_m));exact b_I.out) hb);replace c_u:=a_d.mk (Kd.b_s (by (with_reducible repeat (first|apply Kd.b_d|apply Kd.b_e|apply Kd.b_m));exact c_u.out) hb);replace b_y:=a_d.mk (a_i (bup_ b_y.out) hb);replace b_J:=a_d.mk (a_i (bup_ b_J.out) hb);replace b_T:=a_d.mk (a_i (bup_ b_T.out) hb);replace HB:=a_d.mk (a_o (by repeat (first|(with_reducible first|exact HB.out|apply a_g|apply a_e|apply a_h|refine a_f ?_ c_x.out|refine a_f ?_ d_f.out|refine a_f ?_ e_h.out)|exact HB.out)) hb);(try clear hb);(try clear hb2);(try clear hk);(try clear hi);have H_u:=d_e.out;have H_v:=b_3.out;have E_x : w86.cell? ⟨b_E,0,none⟩ = some (.slice none 0 0):=(a_a b_T.out 0).trans rfl;have E_y : w86.cell? ⟨b_E,1,none⟩ = some (.int .i64 0):=(a_a b_T.out 1).trans rfl;have E_z:=a_b b_T.out 0;have E_A:=a_b b_T.out 1))
  refine bodyPost_ret (c_H rfl _ _ b_E 24 #[.slice none 0 0,.int .i64 0] (0,0) _ rfl (by (with_reducible repeat (first|refine a_l ?_ _|refine a_m ?_|refine a_j ?_ _));refine a_R (cs:=#[.slice none 0 0,.int .i64 0]) ?_ 1 _ rfl;(with_reducible repeat (first|refine a_l ?_ _|refine a_m ?_|refine a_j ?_ _));refine a_R (cs:=#[.slice none 0 0,.int .i64 0]) ?_ 0 _ rfl;(with_reducible repeat (first|refine a_l ?_ _|refine a_m ?_|refine a_j ?_ _));exact b_T.out) Try.underlying24 rfl (by kernel_rfl)) rfl ?_
  exact ⟨_,by first|rfl|(simp [a_w,a_x] <;> rfl)|(simp [*, a_w,a_x] <;> rfl),by first|exact Kd.n_E _ _ _ _ _|exact Kd.k_Z _ _ _ _ _|exact Kd.j_e _ _ _ _ _|exact Kd.n_D _ _ _ _ _|exact Kd.j_w _ _ _ _ _,by repeat (first|(with_reducible first|exact HB.out|apply a_g|apply a_e|apply a_h|refine a_f ?_ c_x.out|refine a_f ?_ d_f.out|refine a_f ?_ e_h.out)|exact HB.out)⟩
 rw [if_pos c4] at H
 have c4b0 : (t135 == 0) = true:=beq_iff_eq.mpr c4
 have c4b1 : (t135 != 0) = false:=bne_eq_false_iff_eq.mpr c4
 clear c4
 replace H:=Option.bind_eq_some_iff.mp H
 obtain ⟨t136,A50,H⟩:=H
 replace H : (if t136 = true then (if a1_0 < a0_1 then (some (([] : List (S27)),0,2)) else ((d_M.f l0_0).bind fun t137 => (if (t137.length : Int) > 0 then (if 0 ≤ (wrap64 ((t137.length : Int) - 1)) then (if (wrap64 ((t137.length : Int) - 1)) < (t137.length : Int) then (a_3.j0 k t137 (t137.length : Int) (((a_p t137 (wrap64 ((t137.length : Int) - 1))).f0) == a1_0) a1_0 l1_1) else (none)) else (none)) else (a_3.j0 k t137 (t137.length : Int) false a1_0 l1_1)))) else (some (([] : List (S27)),0,2))) = some (r1,r2,r3):=H
 have A5:=a_d.mk A50
 clear A50
 by_cases c6 : t136 = true
 rotate_left
 ·replace c6:=Bool.eq_false_iff.mpr c6
  subst c6
  have H1 : (some (([] : List (S27)),0,2)) = some (r1,r2,r3):=by rw [if_neg (show ¬ (false = true) by decide)] at H;exact H
  clear H
  have H:=H1
  clear H1
  simp only [Option.some.injEq,Prod.mk.injEq] at H
  obtain ⟨rfl,rfl,rfl⟩:=H
  go_enter Try.func10,Try.ntmps10
  go_wp2_with (first|((with_reducible refine a_J (N:=2) rfl ?_);refine a_C ?hg (N:=2) ?hd (cs:=#[.slice A0_0 l0_0.length c0_0,.int .i64 a0_1]) (t:=24) ?hr ?_;(case hd => rfl);(case hg => rfl);(case hr => first|(go_simp;done)|(go_simp;rfl));intro b_1 hg w69 hbox hb;have b_y:=a_d.mk (hbox);have u_h:=a_d.mk ((by rw [hg];exact (a_n (lup_ HB.out)) : w.heap.size ≤ b_1));have c_x:=a_d.mk ((by rw [hg];exact (a_n (lup_ HB.out)) : w.heap.size ≤ b_1));replace b_I:=a_d.mk (Kd.b_s (Kd.b_R (by (with_reducible repeat (first|apply Kd.b_d|apply Kd.b_e|apply Kd.b_m));exact b_I.out) b_1 (Nat.le_of_eq hg.symm)) hb);replace c_u:=a_d.mk (Kd.b_s (Kd.b_R (by (with_reducible repeat (first|apply Kd.b_d|apply Kd.b_e|apply Kd.b_m));exact c_u.out) b_1 (Nat.le_of_eq hg.symm)) hb);replace HB:=a_d.mk (a_o (lup_ HB.out) hb);clear hb hbox hg)|((with_reducible refine a_J (N:=3) rfl ?_);refine a_C ?hg (N:=3) ?hd (cs:=#[.int .i64 a1_0,.slice A1_1 l1_1.length c1_1]) (t:=27) ?hr ?_;(case hd => rfl);(case hg => rfl);(case hr => first|(go_simp;done)|(go_simp;rfl));intro b_Y hg w70 hbox hb;have b_J:=a_d.mk (hbox);have u_i:=a_d.mk ((by rw [hg];exact (a_n (by repeat (first|(with_reducible first|exact HB.out|apply a_g|apply a_e|apply a_h|refine a_f ?_ c_x.out)|exact HB.out))) : w.heap.size ≤ b_Y));have d_f:=a_d.mk ((by rw [hg];exact (a_n (by repeat (first|(with_reducible first|exact HB.out|apply a_g|apply a_e|apply a_h|refine a_f ?_ c_x.out)|exact HB.out))) : w.heap.size ≤ b_Y));have e_E:=a_d.mk ((by rw [hg];exact Nat.ne_of_lt (a_Q (bup_ b_y.out)) : b_1 ≠ b_Y));have e_F:=a_d.mk ((by rw [hg];exact Nat.ne_of_gt (a_Q (bup_ b_y.out)) : b_Y ≠ b_1));replace b_I:=a_d.mk (Kd.b_s (Kd.b_R (by (with_reducible repeat (first|apply Kd.b_d|apply Kd.b_e|apply Kd.b_m));exact b_I.out) b_Y (Nat.le_of_eq hg.symm)) hb);replace c_u:=a_d.mk (Kd.b_s (Kd.b_R (by (with_reducible repeat (first|apply Kd.b_d|apply Kd.b_e|apply Kd.b_m));exact c_u.out) b_Y (Nat.le_of_eq hg.symm)) hb);replace b_y:=a_d.mk (a_i (bup_ b_y.out) hb);replace HB:=a_d.mk (a_o (by repeat (first|(with_reducible first|exact HB.out|apply a_g|apply a_e|apply a_h|refine a_f ?_ c_x.out)|exact HB.out)) hb);clear hb hbox hg)|((with_reducible refine a_J (N:=4) rfl ?_);refine a_C ?hg (N:=4) ?hd (cs:=#[.slice none 0 0,.int .i64 0]) (t:=24) ?hr ?_;(case hd => rfl);(case hg => rfl);(case hr => first|(go_simp;done)|(go_simp;rfl));intro b_E hg w71 hbox hb;have b_T:=a_d.mk (hbox);have u_j:=a_d.mk ((by rw [hg];exact (a_n (by repeat (first|(with_reducible first|exact HB.out|apply a_g|apply a_e|apply a_h|refine a_f ?_ c_x.out|refine a_f ?_ d_f.out)|exact HB.out))) : w.heap.size ≤ b_E));have e_h:=a_d.mk ((by rw [hg];exact (a_n (by repeat (first|(with_reducible first|exact HB.out|apply a_g|apply a_e|apply a_h|refine a_f ?_ c_x.out|refine a_f ?_ d_f.out)|exact HB.out))) : w.heap.size ≤ b_E));have d_c:=a_d.mk ((by rw [hg];exact Nat.ne_of_lt (a_Q (bup_ b_y.out)) : b_1 ≠ b_E));have d_d:=a_d.mk ((by rw [hg];exact Nat.ne_of_gt (a_Q (bup_ b_y.out)) : b_E ≠ b_1));have b_3:=a_d.mk ((by rw [hg];exact Nat.ne_of_lt (a_Q (bup_ b_J.out)) : b_Y ≠ b_E));have d_e:=a_d.mk ((by rw [hg];exact Nat.ne_of_gt (a_Q (bup_ b_J.out)) : b_E ≠ b_Y));replace b_I:=a_d.mk (Kd.b_s (Kd.b_R (by (with_reducible repeat (first|apply Kd.b_d|apply Kd.b_e|apply Kd.b_m));exact b_I.out) b_E (Nat.le_of_eq hg.symm)) hb);replace c_u:=a_d.mk (Kd.b_s (Kd.b_R (by (with_reducible repeat (first|apply Kd.b_d|apply Kd.b_e|apply Kd.b_m));exact c_u.out) b_E (Nat.le_of_eq hg.symm)) hb);replace b_y:=a_d.mk (a_i (bup_ b_y.out) hb);replace b_J:=a_d.mk (a_i (bup_ b_J.out) hb);replace HB:=a_d.mk (a_o (by repeat (first|(with_reducible first|exact HB.out|apply a_g|apply a_e|apply a_h|refine a_f ?_ c_x.out|refine a_f ?_ d_f.out)|exact HB.out)) hb);clear hb hbox hg;have H_w:=e_E.out;have H_x:=e_F.out;have z_4:=d_c.out;have z_5:=d_d.out;have t_n : w71.cell? ⟨b_1,0,none⟩ = some (.slice A0_0 l0_0.length c0_0):=(a_a b_y.out 0).trans rfl;have t_o : w71.cell? ⟨b_1,1,none⟩ = some (.int .i64 a0_1):=(a_a b_y.out 1).trans rfl;have t_p:=a_b b_y.out 0;have t_q:=a_b b_y.out 1)|((with_reducible refine b_a (f:=14) rfl ?_);refine c_v (some 10) rfl rfl Try.func14 (by kernel_rfl) rfl #[.agg #[.slice A0_0 l0_0.length c0_0,.int .i64 a0_1]] rfl (by (try simp only [List.map_toArray,List.map_cons,List.map_nil]);first|done|rfl|(simp only [List.length_drop,List.length_take];rfl)) ?_;(with_reducible refine (a_E.calls k _ _ l0_0 a0_1 t135 _ ?side1 ?side2 A3.out).mono ?_);(case side1 => repeat (first|exact (Kd.b_W b_I.out).2.2|(with_reducible refine Kd.a_V ?_ _)|(with_reducible refine Kd.a_W ?_ _)|(with_reducible refine Kd.a_5 ?_)));(case side2 => exact (Kd.b_W b_I.out).2.1);rintro e w75 ⟨rfl,hb⟩;refine ⟨_,rfl,?_⟩;replace b_I:=a_d.mk (Kd.b_s (by (with_reducible repeat (first|apply Kd.b_d|apply Kd.b_e|apply Kd.b_m));exact b_I.out) hb);replace c_u:=a_d.mk (Kd.b_s (by (with_reducible repeat (first|apply Kd.b_d|apply Kd.b_e|apply Kd.b_m));exact c_u.out) hb);replace b_y:=a_d.mk (a_i (bup_ b_y.out) hb);replace b_J:=a_d.mk (a_i (bup_ b_J.out) hb);replace b_T:=a_d.mk (a_i (bup_ b_T.out) hb);replace HB:=a_d.mk (a_o (by repeat (first|(with_reducible first|exact HB.out|apply a_g|apply a_e|apply a_h|refine a_f ?_ c_x.out|refine a_f ?_ d_f.out|refine a_f ?_ e_h.out)|exact HB.out)) hb);(try clear hb);(try clear hb2);(try clear hk);(try clear hi);have z_I:=b_3.out;have z_J:=d_e.out;have t_j : w75.cell? ⟨b_Y,0,none⟩ = some (.int .i64 a1_0):=(a_a b_J.out 0).trans rfl;have t_k : w75.cell? ⟨b_Y,1,none⟩ = some (.slice A1_1 l1_1.length c1_1):=(a_a b_J.out 1).trans rfl;have t_l:=a_b b_J.out 0;have t_m:=a_b b_J.out 1)|((with_reducible refine b_a (f:=24) rfl ?_);refine c_v (some 15) rfl rfl Try.func24 (by kernel_rfl) rfl #[.agg #[.int .i64 a1_0,.slice A1_1 l1_1.length c1_1]] rfl (by (try simp only [List.map_toArray,List.map_cons,List.map_nil]);first|done|rfl|(simp only [List.length_drop,List.length_take];rfl)) ?_;(with_reducible refine (a_H.calls k a1_0 _ _ l1_1 false _ ?side1 ?side2 A5.out).mono ?_);(case side1 => repeat (first|exact (Kd.b_W c_u.out).2.2|(with_reducible refine Kd.a_V ?_ _)|(with_reducible refine Kd.a_W ?_ _)|(with_reducible refine Kd.a_5 ?_)));(case side2 => exact (Kd.b_W c_u.out).2.1);rintro e w78 ⟨rfl,hb⟩;refine ⟨_,rfl,?_⟩;replace b_I:=a_d.mk (Kd.b_s (by (with_reducible repeat (first|apply Kd.b_d|apply Kd.b_e|apply Kd.b_m));exact b_I.out) hb);replace c_u:=a_d.mk (Kd.b_s (by (with_reducible repeat (first|apply Kd.b_d|apply Kd.b_e|apply Kd.b_m));exact c_u.out) hb);replace b_y:=a_d.mk (a_i (bup_ b_y.out) hb);replace b_J:=a_d.mk (a_i (bup_ b_J.out) hb);replace b_T:=a_d.mk (a_i (bup_ b_T.out) hb);replace HB:=a_d.mk (a_o (by repeat (first|(with_reducible first|exact HB.out|apply a_g|apply a_e|apply a_h|refine a_f ?_ c_x.out|refine a_f ?_ d_f.out|refine a_f ?_ e_h.out)|exact HB.out)) hb);(try clear hb);(try clear hb2);(try clear hk);(try clear hi);have t_f : w78.cell? ⟨b_E,0,none⟩ = some (.slice none 0 0):=(a_a b_T.out 0).trans rfl;have t_g : w78.cell? ⟨b_E,1,none⟩ = some (.int .i64 0):=(a_a b_T.out 1).trans rfl;have t_h:=a_b b_T.out 0;have t_i:=a_b b_T.out 1))
  refine bodyPost_ret (c_H rfl _ _ b_E 24 #[.slice none 0 0,.int .i64 0] (0,0) _ rfl (by (with_reducible repeat (first|refine a_l ?_ _|refine a_m ?_|refine a_j ?_ _));refine a_R (cs:=#[.slice none 0 0,.int .i64 0]) ?_ 1 _ rfl;(with_reducible repeat (first|refine a_l ?_ _|refine a_m ?_|refine a_j ?_ _));refine a_R (cs:=#[.slice none 0 0,.int .i64 0]) ?_ 0 _ rfl;(with_reducible repeat (first|refine a_l ?_ _|refine a_m ?_|refine a_j ?_ _));exact b_T.out) Try.underlying24 rfl (by kernel_rfl)) rfl ?_
  exact ⟨_,by first|rfl|(simp [a_w,a_x] <;> rfl)|(simp [*, a_w,a_x] <;> rfl),by first|exact Kd.n_E _ _ _ _ _|exact Kd.k_Z _ _ _ _ _|exact Kd.j_e _ _ _ _ _|exact Kd.n_D _ _ _ _ _|exact Kd.j_w _ _ _ _ _,by repeat (first|(with_reducible first|exact HB.out|apply a_g|apply a_e|apply a_h|refine a_f ?_ c_x.out|refine a_f ?_ d_f.out|refine a_f ?_ e_h.out)|exact HB.out)⟩
 subst c6
 have H1 : (if a1_0 < a0_1 then (some (([] : List (S27)),0,2)) else ((d_M.f l0_0).bind fun t137 => (if (t137.length : Int) > 0 then (if 0 ≤ (wrap64 ((t137.length : Int) - 1)) then (if (wrap64 ((t137.length : Int) - 1)) < (t137.length : Int) then (a_3.j0 k t137 (t137.length : Int) (((a_p t137 (wrap64 ((t137.length : Int) - 1))).f0) == a1_0) a1_0 l1_1) else (none)) else (none)) else (a_3.j0 k t137 (t137.length : Int) false a1_0 l1_1)))) = some (r1,r2,r3):=by rw [if_pos rfl] at H;exact H
 clear H
 have H:=H1
 clear H1
 by_cases c7 : a1_0 < a0_1
 ·rw [if_pos c7] at H
  have c7b0 : decide (a1_0 < a0_1) = true:=decide_eq_true c7
  clear c7
  simp only [Option.some.injEq,Prod.mk.injEq] at H
  obtain ⟨rfl,rfl,rfl⟩:=H
  go_enter Try.func10,Try.ntmps10
  go_wp2_with (first|((with_reducible refine a_J (N:=2) rfl ?_);refine a_C ?hg (N:=2) ?hd (cs:=#[.slice A0_0 l0_0.length c0_0,.int .i64 a0_1]) (t:=24) ?hr ?_;(case hd => rfl);(case hg => rfl);(case hr => first|(go_simp;done)|(go_simp;rfl));intro b_1 hg w8 hbox hb;have b_y:=a_d.mk (hbox);have u_h:=a_d.mk ((by rw [hg];exact (a_n (lup_ HB.out)) : w.heap.size ≤ b_1));have c_x:=a_d.mk ((by rw [hg];exact (a_n (lup_ HB.out)) : w.heap.size ≤ b_1));replace b_I:=a_d.mk (Kd.b_s (Kd.b_R (by (with_reducible repeat (first|apply Kd.b_d|apply Kd.b_e|apply Kd.b_m));exact b_I.out) b_1 (Nat.le_of_eq hg.symm)) hb);replace c_u:=a_d.mk (Kd.b_s (Kd.b_R (by (with_reducible repeat (first|apply Kd.b_d|apply Kd.b_e|apply Kd.b_m));exact c_u.out) b_1 (Nat.le_of_eq hg.symm)) hb);replace HB:=a_d.mk (a_o (lup_ HB.out) hb);clear hb hbox hg)|((with_reducible refine a_J (N:=3) rfl ?_);refine a_C ?hg (N:=3) ?hd (cs:=#[.int .i64 a1_0,.slice A1_1 l1_1.length c1_1]) (t:=27) ?hr ?_;(case hd => rfl);(case hg => rfl);(case hr => first|(go_simp;done)|(go_simp;rfl));intro b_Y hg w9 hbox hb;have b_J:=a_d.mk (hbox);have u_i:=a_d.mk ((by rw [hg];exact (a_n (by repeat (first|(with_reducible first|exact HB.out|apply a_g|apply a_e|apply a_h|refine a_f ?_ c_x.out)|exact HB.out))) : w.heap.size ≤ b_Y));have d_f:=a_d.mk ((by rw [hg];exact (a_n (by repeat (first|(with_reducible first|exact HB.out|apply a_g|apply a_e|apply a_h|refine a_f ?_ c_x.out)|exact HB.out))) : w.heap.size ≤ b_Y));have e_E:=a_d.mk ((by rw [hg];exact Nat.ne_of_lt (a_Q (bup_ b_y.out)) : b_1 ≠ b_Y));have e_F:=a_d.mk ((by rw [hg];exact Nat.ne_of_gt (a_Q (bup_ b_y.out)) : b_Y ≠ b_1));replace b_I:=a_d.mk (Kd.b_s (Kd.b_R (by (with_reducible repeat (first|apply Kd.b_d|apply Kd.b_e|apply Kd.b_m));exact b_I.out) b_Y (Nat.le_of_eq hg.symm)) hb);replace c_u:=a_d.mk (Kd.b_s (Kd.b_R (by (with_reducible repeat (first|apply Kd.b_d|apply Kd.b_e|apply Kd.b_m));exact c_u.out) b_Y (Nat.le_of_eq hg.symm)) hb);replace b_y:=a_d.mk (a_i (bup_ b_y.out) hb);replace HB:=a_d.mk (a_o (by repeat (first|(with_reducible first|exact HB.out|apply a_g|apply a_e|apply a_h|refine a_f ?_ c_x.out)|exact HB.out)) hb);clear hb hbox hg)|((with_reducible refine a_J (N:=4) rfl ?_);refine a_C ?hg (N:=4) ?hd (cs:=#[.slice none 0 0,.int .i64 0]) (t:=24) ?hr ?_;(case hd => rfl);(case hg => rfl);(case hr => first|(go_simp;done)|(go_simp;rfl));intro b_E hg w10 hbox hb;have b_T:=a_d.mk (hbox);have u_j:=a_d.mk ((by rw [hg];exact (a_n (by repeat (first|(with_reducible first|exact HB.out|apply a_g|apply a_e|apply a_h|refine a_f ?_ c_x.out|refine a_f ?_ d_f.out)|exact HB.out))) : w.heap.size ≤ b_E));have e_h:=a_d.mk ((by rw [hg];exact (a_n (by repeat (first|(with_reducible first|exact HB.out|apply a_g|apply a_e|apply a_h|refine a_f ?_ c_x.out|refine a_f ?_ d_f.out)|exact HB.out))) : w.heap.size ≤ b_E));have d_c:=a_d.mk ((by rw [hg];exact Nat.ne_of_lt (a_Q (bup_ b_y.out)) : b_1 ≠ b_E));have d_d:=a_d.mk ((by rw [hg];exact Nat.ne_of_gt (a_Q (bup_ b_y.out)) : b_E ≠ b_1));have b_3:=a_d.mk ((by rw [hg];exact Nat.ne_of_lt (a_Q (bup_ b_J.out)) : b_Y ≠ b_E));have d_e:=a_d.mk ((by rw [hg];exact Nat.ne_of_gt (a_Q (bup_ b_J.out)) : b_E ≠ b_Y));replace b_I:=a_d.mk (Kd.b_s (Kd.b_R (by (with_reducible repeat (first|apply Kd.b_d|apply Kd.b_e|apply Kd.b_m));exact b_I.out) b_E (Nat.le_of_eq hg.symm)) hb);replace c_u:=a_d.mk (Kd.b_s (Kd.b_R (by (with_reducible repeat (first|apply Kd.b_d|apply Kd.b_e|apply Kd.b_m));exact c_u.out) b_E (Nat.le_of_eq hg.symm)) hb);replace b_y:=a_d.mk (a_i (bup_ b_y.out) hb);replace b_J:=a_d.mk (a_i (bup_ b_J.out) hb);replace HB:=a_d.mk (a_o (by repeat (first|(with_reducible first|exact HB.out|apply a_g|apply a_e|apply a_h|refine a_f ?_ c_x.out|refine a_f ?_ d_f.out)|exact HB.out)) hb);clear hb hbox hg;have u_k:=e_E.out;have u_l:=e_F.out;have v_u:=d_c.out;have v_v:=d_d.out;have g_W : w10.cell? ⟨b_1,0,none⟩ = some (.slice A0_0 l0_0.length c0_0):=(a_a b_y.out 0).trans rfl;have g_X : w10.cell? ⟨b_1,1,none⟩ = some (.int .i64 a0_1):=(a_a b_y.out 1).trans rfl;have g_Y:=a_b b_y.out 0;have g_Z:=a_b b_y.out 1)|((with_reducible refine b_a (f:=14) rfl ?_);refine c_v (some 10) rfl rfl Try.func14 (by kernel_rfl) rfl #[.agg #[.slice A0_0 l0_0.length c0_0,.int .i64 a0_1]] rfl (by (try simp only [List.map_toArray,List.map_cons,List.map_nil]);first|done|rfl|(simp only [List.length_drop,List.length_take];rfl)) ?_;(with_reducible refine (a_E.calls k _ _ l0_0 a0_1 t135 _ ?side1 ?side2 A3.out).mono ?_);(case side1 => repeat (first|exact (Kd.b_W b_I.out).2.2|(with_reducible refine Kd.a_V ?_ _)|(with_reducible refine Kd.a_W ?_ _)|(with_reducible refine Kd.a_5 ?_)));(case side2 => exact (Kd.b_W b_I.out).2.1);rintro e w14 ⟨rfl,hb⟩;refine ⟨_,rfl,?_⟩;replace b_I:=a_d.mk (Kd.b_s (by (with_reducible repeat (first|apply Kd.b_d|apply Kd.b_e|apply Kd.b_m));exact b_I.out) hb);replace c_u:=a_d.mk (Kd.b_s (by (with_reducible repeat (first|apply Kd.b_d|apply Kd.b_e|apply Kd.b_m));exact c_u.out) hb);replace b_y:=a_d.mk (a_i (bup_ b_y.out) hb);replace b_J:=a_d.mk (a_i (bup_ b_J.out) hb);replace b_T:=a_d.mk (a_i (bup_ b_T.out) hb);replace HB:=a_d.mk (a_o (by repeat (first|(with_reducible first|exact HB.out|apply a_g|apply a_e|apply a_h|refine a_f ?_ c_x.out|refine a_f ?_ d_f.out|refine a_f ?_ e_h.out)|exact HB.out)) hb);(try clear hb);(try clear hb2);(try clear hk);(try clear hi);have v_s:=b_3.out;have v_t:=d_e.out;have j_E : w14.cell? ⟨b_Y,0,none⟩ = some (.int .i64 a1_0):=(a_a b_J.out 0).trans rfl;have j_F : w14.cell? ⟨b_Y,1,none⟩ = some (.slice A1_1 l1_1.length c1_1):=(a_a b_J.out 1).trans rfl;have j_G:=a_b b_J.out 0;have j_H:=a_b b_J.out 1)|((with_reducible refine b_a (f:=24) rfl ?_);refine c_v (some 15) rfl rfl Try.func24 (by kernel_rfl) rfl #[.agg #[.int .i64 a1_0,.slice A1_1 l1_1.length c1_1]] rfl (by (try simp only [List.map_toArray,List.map_cons,List.map_nil]);first|done|rfl|(simp only [List.length_drop,List.length_take];rfl)) ?_;(with_reducible refine (a_H.calls k a1_0 _ _ l1_1 true _ ?side1 ?side2 A5.out).mono ?_);(case side1 => repeat (first|exact (Kd.b_W c_u.out).2.2|(with_reducible refine Kd.a_V ?_ _)|(with_reducible refine Kd.a_W ?_ _)|(with_reducible refine Kd.a_5 ?_)));(case side2 => exact (Kd.b_W c_u.out).2.1);rintro e w17 ⟨rfl,hb⟩;refine ⟨_,rfl,?_⟩;replace b_I:=a_d.mk (Kd.b_s (by (with_reducible repeat (first|apply Kd.b_d|apply Kd.b_e|apply Kd.b_m));exact b_I.out) hb);replace c_u:=a_d.mk (Kd.b_s (by (with_reducible repeat (first|apply Kd.b_d|apply Kd.b_e|apply Kd.b_m));exact c_u.out) hb);replace b_y:=a_d.mk (a_i (bup_ b_y.out) hb);replace b_J:=a_d.mk (a_i (bup_ b_J.out) hb);replace b_T:=a_d.mk (a_i (bup_ b_T.out) hb);replace HB:=a_d.mk (a_o (by repeat (first|(with_reducible first|exact HB.out|apply a_g|apply a_e|apply a_h|refine a_f ?_ c_x.out|refine a_f ?_ d_f.out|refine a_f ?_ e_h.out)|exact HB.out)) hb);(try clear hb);(try clear hb2);(try clear hk);(try clear hi);have m_g : w17.cell? ⟨b_Y,0,none⟩ = some (.int .i64 a1_0):=(a_a b_J.out 0).trans rfl;have m_h : w17.cell? ⟨b_Y,1,none⟩ = some (.slice A1_1 l1_1.length c1_1):=(a_a b_J.out 1).trans rfl;have m_i:=a_b b_J.out 0;have m_j:=a_b b_J.out 1;have j_I : w17.cell? ⟨b_1,0,none⟩ = some (.slice A0_0 l0_0.length c0_0):=(a_a b_y.out 0).trans rfl;have j_J : w17.cell? ⟨b_1,1,none⟩ = some (.int .i64 a0_1):=(a_a b_y.out 1).trans rfl;have j_K:=a_b b_y.out 0;have j_L:=a_b b_y.out 1;have i_z : w17.cell? ⟨b_E,0,none⟩ = some (.slice none 0 0):=(a_a b_T.out 0).trans rfl;have k_e : w17.cell? ⟨b_E,1,none⟩ = some (.int .i64 0):=(a_a b_T.out 1).trans rfl;have i_A:=a_b b_T.out 0;have k_f:=a_b b_T.out 1))
  refine bodyPost_ret (c_H rfl _ _ b_E 24 #[.slice none 0 0,.int .i64 0] (0,0) _ rfl (by (with_reducible repeat (first|refine a_l ?_ _|refine a_m ?_|refine a_j ?_ _));refine a_R (cs:=#[.slice none 0 0,.int .i64 0]) ?_ 1 _ rfl;(with_reducible repeat (first|refine a_l ?_ _|refine a_m ?_|refine a_j ?_ _));refine a_R (cs:=#[.slice none 0 0,.int .i64 0]) ?_ 0 _ rfl;(with_reducible repeat (first|refine a_l ?_ _|refine a_m ?_|refine a_j ?_ _));exact b_T.out) Try.underlying24 rfl (by kernel_rfl)) rfl ?_
  exact ⟨_,by first|rfl|(simp [a_w,a_x] <;> rfl)|(simp [*, a_w,a_x] <;> rfl),by first|exact Kd.n_E _ _ _ _ _|exact Kd.k_Z _ _ _ _ _|exact Kd.j_e _ _ _ _ _|exact Kd.n_D _ _ _ _ _|exact Kd.j_w _ _ _ _ _,by repeat (first|(with_reducible first|exact HB.out|apply a_g|apply a_e|apply a_h|refine a_f ?_ c_x.out|refine a_f ?_ d_f.out|refine a_f ?_ e_h.out)|exact HB.out)⟩
 rw [if_neg c7] at H
 have c7b0 : decide (a1_0 < a0_1) = false:=decide_eq_false c7
 clear c7
 replace H:=Option.bind_eq_some_iff.mp H
 obtain ⟨t137,A210,H⟩:=H
 replace H : (if (t137.length : Int) > 0 then (if 0 ≤ (wrap64 ((t137.length : Int) - 1)) then (if (wrap64 ((t137.length : Int) - 1)) < (t137.length : Int) then (a_3.j0 k t137 (t137.length : Int) (((a_p t137 (wrap64 ((t137.length : Int) - 1))).f0) == a1_0) a1_0 l1_1) else (none)) else (none)) else (a_3.j0 k t137 (t137.length : Int) false a1_0 l1_1)) = some (r1,r2,r3):=H
 have A21:=a_d.mk A210
 clear A210
 have HC22:=a_d.mk H
 clear H
 go_enter Try.func10,Try.ntmps10
 go_upto_region 7 with (first|((with_reducible refine a_J (N:=2) rfl ?_);refine a_C ?hg (N:=2) ?hd (cs:=#[.slice A0_0 l0_0.length c0_0,.int .i64 a0_1]) (t:=24) ?hr ?_;(case hd => rfl);(case hg => rfl);(case hr => first|(go_simp;done)|(go_simp;rfl));intro b_1 hg w23 hbox hb;have b_y:=a_d.mk (hbox);have u_h:=a_d.mk ((by rw [hg];exact (a_n (lup_ HB.out)) : w.heap.size ≤ b_1));have c_x:=a_d.mk ((by rw [hg];exact (a_n (lup_ HB.out)) : w.heap.size ≤ b_1));replace b_I:=a_d.mk (Kd.b_s (Kd.b_R (by (with_reducible repeat (first|apply Kd.b_d|apply Kd.b_e|apply Kd.b_m));exact b_I.out) b_1 (Nat.le_of_eq hg.symm)) hb);replace c_u:=a_d.mk (Kd.b_s (Kd.b_R (by (with_reducible repeat (first|apply Kd.b_d|apply Kd.b_e|apply Kd.b_m));exact c_u.out) b_1 (Nat.le_of_eq hg.symm)) hb);replace HB:=a_d.mk (a_o (lup_ HB.out) hb);clear hb hbox hg)|((with_reducible refine a_J (N:=3) rfl ?_);refine a_C ?hg (N:=3) ?hd (cs:=#[.int .i64 a1_0,.slice A1_1 l1_1.length c1_1]) (t:=27) ?hr ?_;(case hd => rfl);(case hg => rfl);(case hr => first|(go_simp;done)|(go_simp;rfl));intro b_Y hg w24 hbox hb;have b_J:=a_d.mk (hbox);have u_i:=a_d.mk ((by rw [hg];exact (a_n (by repeat (first|(with_reducible first|exact HB.out|apply a_g|apply a_e|apply a_h|refine a_f ?_ c_x.out)|exact HB.out))) : w.heap.size ≤ b_Y));have d_f:=a_d.mk ((by rw [hg];exact (a_n (by repeat (first|(with_reducible first|exact HB.out|apply a_g|apply a_e|apply a_h|refine a_f ?_ c_x.out)|exact HB.out))) : w.heap.size ≤ b_Y));have e_E:=a_d.mk ((by rw [hg];exact Nat.ne_of_lt (a_Q (bup_ b_y.out)) : b_1 ≠ b_Y));have e_F:=a_d.mk ((by rw [hg];exact Nat.ne_of_gt (a_Q (bup_ b_y.out)) : b_Y ≠ b_1));replace b_I:=a_d.mk (Kd.b_s (Kd.b_R (by (with_reducible repeat (first|apply Kd.b_d|apply Kd.b_e|apply Kd.b_m));exact b_I.out) b_Y (Nat.le_of_eq hg.symm)) hb);replace c_u:=a_d.mk (Kd.b_s (Kd.b_R (by (with_reducible repeat (first|apply Kd.b_d|apply Kd.b_e|apply Kd.b_m));exact c_u.out) b_Y (Nat.le_of_eq hg.symm)) hb);replace b_y:=a_d.mk (a_i (bup_ b_y.out) hb);replace HB:=a_d.mk (a_o (by repeat (first|(with_reducible first|exact HB.out|apply a_g|apply a_e|apply a_h|refine a_f ?_ c_x.out)|exact HB.out)) hb);clear hb hbox hg)|((with_reducible refine a_J (N:=4) rfl ?_);refine a_C ?hg (N:=4) ?hd (cs:=#[.slice none 0 0,.int .i64 0]) (t:=24) ?hr ?_;(case hd => rfl);(case hg => rfl);(case hr => first|(go_simp;done)|(go_simp;rfl));intro b_E hg w25 hbox hb;have b_T:=a_d.mk (hbox);have u_j:=a_d.mk ((by rw [hg];exact (a_n (by repeat (first|(with_reducible first|exact HB.out|apply a_g|apply a_e|apply a_h|refine a_f ?_ c_x.out|refine a_f ?_ d_f.out)|exact HB.out))) : w.heap.size ≤ b_E));have e_h:=a_d.mk ((by rw [hg];exact (a_n (by repeat (first|(with_reducible first|exact HB.out|apply a_g|apply a_e|apply a_h|refine a_f ?_ c_x.out|refine a_f ?_ d_f.out)|exact HB.out))) : w.heap.size ≤ b_E));have d_c:=a_d.mk ((by rw [hg];exact Nat.ne_of_lt (a_Q (bup_ b_y.out)) : b_1 ≠ b_E));have d_d:=a_d.mk ((by rw [hg];exact Nat.ne_of_gt (a_Q (bup_ b_y.out)) : b_E ≠ b_1));have b_3:=a_d.mk ((by rw [hg];exact Nat.ne_of_lt (a_Q (bup_ b_J.out)) : b_Y ≠ b_E));have d_e:=a_d.mk ((by rw [hg];exact Nat.ne_of_gt (a_Q (bup_ b_J.out)) : b_E ≠ b_Y));replace b_I:=a_d.mk (Kd.b_s (Kd.b_R (by (with_reducible repeat (first|apply Kd.b_d|apply Kd.b_e|apply Kd.b_m));exact b_I.out) b_E (Nat.le_of_eq hg.symm)) hb);replace c_u:=a_d.mk (Kd.b_s (Kd.b_R (by (with_reducible repeat (first|apply Kd.b_d|apply Kd.b_e|apply Kd.b_m));exact c_u.out) b_E (Nat.le_of_eq hg.symm)) hb);replace b_y:=a_d.mk (a_i (bup_ b_y.out) hb);replace b_J:=a_d.mk (a_i (bup_ b_J.out) hb);replace HB:=a_d.mk (a_o (by repeat (first|(with_reducible first|exact HB.out|apply a_g|apply a_e|apply a_h|refine a_f ?_ c_x.out|refine a_f ?_ d_f.out)|exact HB.out)) hb);clear hb hbox hg;have H_y:=e_E.out;have H_z:=e_F.out;have E_B:=d_c.out;have E_C:=d_d.out;have h_M : w25.cell? ⟨b_1,0,none⟩ = some (.slice A0_0 l0_0.length c0_0):=(a_a b_y.out 0).trans rfl;have h_N : w25.cell? ⟨b_1,1,none⟩ = some (.int .i64 a0_1):=(a_a b_y.out 1).trans rfl;have h_O:=a_b b_y.out 0;have h_P:=a_b b_y.out 1)|((with_reducible refine b_a (f:=14) rfl ?_);refine c_v (some 10) rfl rfl Try.func14 (by kernel_rfl) rfl #[.agg #[.slice A0_0 l0_0.length c0_0,.int .i64 a0_1]] rfl (by (try simp only [List.map_toArray,List.map_cons,List.map_nil]);first|done|rfl|(simp only [List.length_drop,List.length_take];rfl)) ?_;(with_reducible refine (a_E.calls k _ _ l0_0 a0_1 t135 _ ?side1 ?side2 A3.out).mono ?_);(case side1 => repeat (first|exact (Kd.b_W b_I.out).2.2|(with_reducible refine Kd.a_V ?_ _)|(with_reducible refine Kd.a_W ?_ _)|(with_reducible refine Kd.a_5 ?_)));(case side2 => exact (Kd.b_W b_I.out).2.1);rintro e w29 ⟨rfl,hb⟩;refine ⟨_,rfl,?_⟩;replace b_I:=a_d.mk (Kd.b_s (by (with_reducible repeat (first|apply Kd.b_d|apply Kd.b_e|apply Kd.b_m));exact b_I.out) hb);replace c_u:=a_d.mk (Kd.b_s (by (with_reducible repeat (first|apply Kd.b_d|apply Kd.b_e|apply Kd.b_m));exact c_u.out) hb);replace b_y:=a_d.mk (a_i (bup_ b_y.out) hb);replace b_J:=a_d.mk (a_i (bup_ b_J.out) hb);replace b_T:=a_d.mk (a_i (bup_ b_T.out) hb);replace HB:=a_d.mk (a_o (by repeat (first|(with_reducible first|exact HB.out|apply a_g|apply a_e|apply a_h|refine a_f ?_ c_x.out|refine a_f ?_ d_f.out|refine a_f ?_ e_h.out)|exact HB.out)) hb);(try clear hb);(try clear hb2);(try clear hk);(try clear hi);have E_D:=b_3.out;have E_E:=d_e.out;have f_x : w29.cell? ⟨b_Y,0,none⟩ = some (.int .i64 a1_0):=(a_a b_J.out 0).trans rfl;have f_y : w29.cell? ⟨b_Y,1,none⟩ = some (.slice A1_1 l1_1.length c1_1):=(a_a b_J.out 1).trans rfl;have f_z:=a_b b_J.out 0;have f_A:=a_b b_J.out 1)|((with_reducible refine b_a (f:=24) rfl ?_);refine c_v (some 15) rfl rfl Try.func24 (by kernel_rfl) rfl #[.agg #[.int .i64 a1_0,.slice A1_1 l1_1.length c1_1]] rfl (by (try simp only [List.map_toArray,List.map_cons,List.map_nil]);first|done|rfl|(simp only [List.length_drop,List.length_take];rfl)) ?_;(with_reducible refine (a_H.calls k a1_0 _ _ l1_1 true _ ?side1 ?side2 A5.out).mono ?_);(case side1 => repeat (first|exact (Kd.b_W c_u.out).2.2|(with_reducible refine Kd.a_V ?_ _)|(with_reducible refine Kd.a_W ?_ _)|(with_reducible refine Kd.a_5 ?_)));(case side2 => exact (Kd.b_W c_u.out).2.1);rintro e w32 ⟨rfl,hb⟩;refine ⟨_,rfl,?_⟩;replace b_I:=a_d.mk (Kd.b_s (by (with_reducible repeat (first|apply Kd.b_d|apply Kd.b_e|apply Kd.b_m));exact b_I.out) hb);replace c_u:=a_d.mk (Kd.b_s (by (with_reducible repeat (first|apply Kd.b_d|apply Kd.b_e|apply Kd.b_m));exact c_u.out) hb);replace b_y:=a_d.mk (a_i (bup_ b_y.out) hb);replace b_J:=a_d.mk (a_i (bup_ b_J.out) hb);replace b_T:=a_d.mk (a_i (bup_ b_T.out) hb);replace HB:=a_d.mk (a_o (by repeat (first|(with_reducible first|exact HB.out|apply a_g|apply a_e|apply a_h|refine a_f ?_ c_x.out|refine a_f ?_ d_f.out|refine a_f ?_ e_h.out)|exact HB.out)) hb);(try clear hb);(try clear hb2);(try clear hk);(try clear hi);have f_U : w32.cell? ⟨b_Y,0,none⟩ = some (.int .i64 a1_0):=(a_a b_J.out 0).trans rfl;have f_V : w32.cell? ⟨b_Y,1,none⟩ = some (.slice A1_1 l1_1.length c1_1):=(a_a b_J.out 1).trans rfl;have f_W:=a_b b_J.out 0;have f_X:=a_b b_J.out 1;have u_m : w32.cell? ⟨b_1,0,none⟩ = some (.slice A0_0 l0_0.length c0_0):=(a_a b_y.out 0).trans rfl;have u_n : w32.cell? ⟨b_1,1,none⟩ = some (.int .i64 a0_1):=(a_a b_y.out 1).trans rfl;have u_o:=a_b b_y.out 0;have u_p:=a_b b_y.out 1)|((with_reducible refine b_a (f:=25) rfl ?_);refine c_v (some 27) rfl rfl Try.func25 (by kernel_rfl) rfl #[.slice A0_0 l0_0.length c0_0] rfl (by (try simp only [List.map_toArray,List.map_cons,List.map_nil]);first|done|rfl|(simp only [List.length_drop,List.length_take];rfl)) ?_;(with_reducible refine (d_M.calls (fun k_ => (((((P0_0_ k_ ∨ P1_1_ k_) ∨ w.heap.size ≤ k_) ∧ k_ ≠ b_1) ∧ k_ ≠ b_Y) ∧ k_ ≠ b_E)) _ _ l0_0 t137 _ ?side1 A21.out).mono ?_);(case side1 => exact b_I.out);rintro e w35 ⟨v138,rfl,ho0,hb⟩;refine ⟨_,rfl,?_⟩;have h_o:=a_d.mk (Kd.k_U (Kd.f_d (ok':=fun k_ => ((P0_0_ k_ ∨ P1_1_ k_) ∨ w.heap.size ≤ k_) ∧ k_ ≠ b_1 ∧ k_ ≠ b_Y ∧ k_ ≠ b_E) ho0 (fun k_ hk_ => ⟨Or.elim hk_ (fun hs_ => hs_.1.1.1) (fun hn_ => (.inr (Nat.le_trans (a_n (by repeat (first|(with_reducible first|exact HB.out|apply a_g|apply a_e|apply a_h|refine a_f ?_ c_x.out|refine a_f ?_ d_f.out|refine a_f ?_ e_h.out)|exact HB.out))) hn_))),Or.elim hk_ (fun hs_ => hs_.1.1.2) (fun hn_ => (Kd.f_4 (g:=b_1) (o:=.cells #[.slice A0_0 l0_0.length c0_0,.int .i64 a0_1] 24 (0,0)) (bup_ b_y.out) k_ hn_)),Or.elim hk_ (fun hs_ => hs_.1.2) (fun hn_ => (Kd.f_4 (g:=b_Y) (o:=.cells #[.int .i64 a1_0,.slice A1_1 l1_1.length c1_1] 27 (0,0)) (bup_ b_J.out) k_ hn_)),Or.elim hk_ (fun hs_ => hs_.2) (fun hn_ => (Kd.f_4 (g:=b_E) (o:=.cells #[.slice none 0 0,.int .i64 0] 24 (0,0)) (bup_ b_T.out) k_ hn_))⟩)) (a_n (by repeat (first|(with_reducible first|exact HB.out|apply a_g|apply a_e|apply a_h|refine a_f ?_ c_x.out|refine a_f ?_ d_f.out|refine a_f ?_ e_h.out)|exact HB.out))));replace b_I:=a_d.mk (Kd.g_L (by (with_reducible repeat (first|apply Kd.b_d|apply Kd.b_e|apply Kd.b_m));exact b_I.out) (Kd.o_a ho0) hb);replace c_u:=a_d.mk (Kd.g_L (by (with_reducible repeat (first|apply Kd.b_d|apply Kd.b_e|apply Kd.b_m));exact c_u.out) (Kd.o_a ho0) hb);replace b_y:=a_d.mk (a_i (bup_ b_y.out) hb);replace b_J:=a_d.mk (a_i (bup_ b_J.out) hb);replace b_T:=a_d.mk (a_i (bup_ b_T.out) hb);replace HB:=a_d.mk (a_o (by repeat (first|(with_reducible first|exact HB.out|apply a_g|apply a_e|apply a_h|refine a_f ?_ c_x.out|refine a_f ?_ d_f.out|refine a_f ?_ e_h.out)|exact HB.out)) hb);(try clear hb);(try clear hb2);(try clear hk);(try clear hi);(try clear ho0);obtain ⟨Ao36,co36,eo36⟩:=Kd.h_K h_o.out;subst eo36))
 (try simp only [Act.put,sa_,sb_,sc_])
 go_cut [42] (fun v42 wc => ∃ (kq : Nat) (x42_21 : Bool),v42 = .bool x42_21 ∧ a_d (a_3.j0 kq t137 (t137.length : Int) x42_21 a1_0 l1_1 = some (r1,r2,r3)) ∧ a_d (kq ≤ k) ∧ a_d (Kd.N k27 27 wc w.heap.size (fun k_ => ((P0_0_ k_ ∨ P1_1_ k_) ∨ w.heap.size ≤ k_) ∧ k_ ≠ b_1 ∧ k_ ≠ b_Y ∧ k_ ≠ b_E) (.slice Ao36 t137.length co36) t137) ∧ a_d (Kd.V k27 27 wc w.heap.size (fun k_ => ((P0_0_ k_ ∨ P1_1_ k_) ∨ w.heap.size ≤ k_) ∧ some k_ ≠ ((.slice Ao36 t137.length co36) : Value).ownBlock ∧ k_ ≠ b_1 ∧ k_ ≠ b_Y ∧ k_ ≠ b_E) (.slice A0_0 l0_0.length c0_0) l0_0) ∧ a_d (Kd.V k65 65 wc w.heap.size (fun k_ => ((P0_0_ k_ ∨ P1_1_ k_) ∨ w.heap.size ≤ k_) ∧ some k_ ≠ ((.slice Ao36 t137.length co36) : Value).ownBlock ∧ k_ ≠ b_1 ∧ k_ ≠ b_Y ∧ k_ ≠ b_E) (.slice A1_1 l1_1.length c1_1) l1_1) ∧ a_d (wc.heap[b_1]? = some (.cells #[(.slice A0_0 l0_0.length c0_0),.int .i64 a0_1] 24 (0,0))) ∧ a_d (wc.heap[b_Y]? = some (.cells #[.int .i64 a1_0,(.slice A1_1 l1_1.length c1_1)] 27 (0,0))) ∧ a_d (wc.heap[b_E]? = some (.cells #[(.slice none 0 0),.int .i64 0] 24 (0,0))) ∧ a_d (Below w.heap.size w wc))
 case first =>
  have H:=HC22.out
  clear HC22
  by_cases c37 : (t137.length : Int) > 0
  rotate_left
  ·rw [if_neg c37] at H
   have c37b0 : decide (0 < (t137.length : Int)) = false:=decide_eq_false c37
   have c37b1 : decide (0 < t137.length) = false:=decide_eq_false (by omega)
   clear c37
   (first|rw [c37b0]|(simp only [a_t,a_u];rw [c37b0])|skip)
   have H':=a_d.mk H
   clear H
   try go_wp2
   replace b_I:=a_d.mk (Kd.b_m b_I.out)
   replace c_u:=a_d.mk (Kd.b_m c_u.out)
   replace h_o:=a_d.mk (Kd.d_5 h_o.out)
   replace b_y:=a_d.mk (a_m b_y.out)
   replace b_J:=a_d.mk (a_m b_J.out)
   replace b_T:=a_d.mk (a_m b_T.out)
   replace HB:=a_d.mk (a_h HB.out)
   refine c_9 (n:=13) (S:=fun w' => True) (ds:=[]) #[F_,F_,F_,F_,F_,F_,F_,F_,F_,F_,F_,F_,F_] (by kernel_rfl) rfl rfl trivial (fun hHeld => ?_);refine b_P a_3.tab7 a_3.k_l (fun HT_ HW_ => ?_)
   generalize w35.drew = w42 at b_I c_u h_o b_y b_J b_T HB hHeld ⊢
   refine a_z (i:=0) (N:=some 30) (v:=?_) (a':=?_) #[T_,F_,F_,F_,F_,F_,F_,F_,F_,F_,F_,F_,F_] rfl rfl (a_q HT_.out (by kernel_rfl)) (fun _ _ _ h => h) (Or.inl ⟨by rfl,?_⟩) ?_ ?_
   rotate_left
   ·intro w'
    go_simp
    with_reducible rfl
   rotate_left
   ·simp only [Act.put,sa_,sb_,sc_,a_t,a_u]
    rfl
   refine a_z (i:=1) (N:=some 31) (v:=?_) (a':=?_) #[T_,T_,F_,F_,F_,F_,F_,F_,F_,F_,F_,F_,F_] rfl rfl (a_q HT_.out (by kernel_rfl)) (fun _ _ _ h => h) (Or.inl ⟨by rfl,?_⟩) ?_ ?_
   rotate_left
   ·intro w'
    go_simp
    with_reducible rfl
   rotate_left
   ·simp only [Act.put,sa_,sb_,sc_,a_t,a_u]
    rfl
   refine a_z (i:=2) (N:=some 32) (v:=?_) (a':=?_) #[T_,T_,T_,F_,F_,F_,F_,F_,F_,F_,F_,F_,F_] rfl rfl (a_q HT_.out (by kernel_rfl)) (fun _ _ _ h => h) (Or.inl ⟨by rfl,?_⟩) ?_ ?_
   rotate_left
   ·intro w'
    go_simp
    with_reducible rfl
   rotate_left
   ·simp only [Act.put,sa_,sb_,sc_,a_t,a_u]
    rfl
   refine a_z (i:=3) (N:=some 33) (v:=undef) (a':=?_) #[T_,T_,T_,T_,F_,F_,F_,F_,F_,F_,F_,F_,F_] rfl rfl (a_q HT_.out (by kernel_rfl)) (fun _ _ _ h => h) (Or.inr ⟨by rfl,rfl⟩) ?_ ?_
   rotate_left
   ·simp only [Act.put,sa_,sb_,sc_,a_t,a_u]
    rfl
   refine a_z (i:=4) (N:=some 34) (v:=undef) (a':=?_) #[T_,T_,T_,T_,T_,F_,F_,F_,F_,F_,F_,F_,F_] rfl rfl (a_q HT_.out (by kernel_rfl)) (fun _ _ _ h => h) (Or.inr ⟨by rfl,rfl⟩) ?_ ?_
   rotate_left
   ·simp only [Act.put,sa_,sb_,sc_,a_t,a_u]
    rfl
   refine a_z (i:=5) (N:=some 35) (v:=undef) (a':=?_) #[T_,T_,T_,T_,T_,T_,F_,F_,F_,F_,F_,F_,F_] rfl rfl (a_q HT_.out (by kernel_rfl)) (fun _ _ _ h => h) (Or.inr ⟨by rfl,rfl⟩) ?_ ?_
   rotate_left
   ·simp only [Act.put,sa_,sb_,sc_,a_t,a_u]
    rfl
   refine a_z (i:=6) (N:=some 36) (v:=undef) (a':=?_) #[T_,T_,T_,T_,T_,T_,T_,F_,F_,F_,F_,F_,F_] rfl rfl (a_q HT_.out (by kernel_rfl)) (fun _ _ _ h => h) (Or.inr ⟨by rfl,rfl⟩) ?_ ?_
   rotate_left
   ·simp only [Act.put,sa_,sb_,sc_,a_t,a_u]
    rfl
   refine a_z (i:=7) (N:=some 37) (v:=undef) (a':=?_) #[T_,T_,T_,T_,T_,T_,T_,T_,F_,F_,F_,F_,F_] rfl rfl (a_q HT_.out (by kernel_rfl)) (fun _ _ _ h => h) (Or.inr ⟨by rfl,rfl⟩) ?_ ?_
   rotate_left
   ·simp only [Act.put,sa_,sb_,sc_,a_t,a_u]
    rfl
   refine a_z (i:=8) (N:=some 38) (v:=undef) (a':=?_) #[T_,T_,T_,T_,T_,T_,T_,T_,T_,F_,F_,F_,F_] rfl rfl (a_q HT_.out (by kernel_rfl)) (fun _ _ _ h => h) (Or.inr ⟨by rfl,rfl⟩) ?_ ?_
   rotate_left
   ·simp only [Act.put,sa_,sb_,sc_,a_t,a_u]
    rfl
   refine a_z (i:=9) (N:=some 39) (v:=undef) (a':=?_) #[T_,T_,T_,T_,T_,T_,T_,T_,T_,T_,F_,F_,F_] rfl rfl (a_q HT_.out (by kernel_rfl)) (fun _ _ _ h => h) (Or.inr ⟨by rfl,rfl⟩) ?_ ?_
   rotate_left
   ·simp only [Act.put,sa_,sb_,sc_,a_t,a_u]
    rfl
   refine a_z (i:=10) (N:=some 40) (v:=undef) (a':=?_) #[T_,T_,T_,T_,T_,T_,T_,T_,T_,T_,T_,F_,F_] rfl rfl (a_q HT_.out (by kernel_rfl)) (fun _ _ _ h => h) (Or.inr ⟨by rfl,rfl⟩) ?_ ?_
   rotate_left
   ·simp only [Act.put,sa_,sb_,sc_,a_t,a_u]
    rfl
   refine a_z (i:=11) (N:=some 41) (v:=undef) (a':=?_) #[T_,T_,T_,T_,T_,T_,T_,T_,T_,T_,T_,T_,F_] rfl rfl (a_q HT_.out (by kernel_rfl)) (fun _ _ _ h => h) (Or.inr ⟨by rfl,rfl⟩) ?_ ?_
   rotate_left
   ·simp only [Act.put,sa_,sb_,sc_,a_t,a_u]
    rfl
   refine a_z (i:=12) (N:=some 42) (v:=?_) (a':=?_) #[T_,T_,T_,T_,T_,T_,T_,T_,T_,T_,T_,T_,T_] rfl rfl (a_q HT_.out (by kernel_rfl)) (fun _ _ _ h => h) (Or.inl ⟨by rfl,?_⟩) ?_ ?_
   rotate_left
   ·intro w'
    go_simp
    with_reducible rfl
   rotate_left
   ·simp only [Act.put,sa_,sb_,sc_,a_t,a_u]
    rfl
   refine e_j (c_q HT_.out (by kernel_rfl)) ?_
   try go_wp2
   go_meet
   case rel => exact ⟨_,(false),(by first|rfl|(simp;done)|(simp [*];done)),H',⟨by first|omega|exact Nat.le_refl _⟩,⟨by (with_reducible repeat (first|apply Kd.d_W|apply Kd.d_X|apply Kd.d_5));exact h_o.out⟩,⟨by (with_reducible repeat (first|apply Kd.b_d|apply Kd.b_e|apply Kd.b_m));exact Kd.d_y b_I.out (fun _ hk => ⟨hk.1.1.1.1,⟨hk.2,⟨hk.1.1.1.2,⟨hk.1.1.2,hk.1.2⟩⟩⟩⟩)⟩,⟨by (with_reducible repeat (first|apply Kd.b_d|apply Kd.b_e|apply Kd.b_m));exact Kd.d_y c_u.out (fun _ hk => ⟨hk.1.1.1.1,⟨hk.2,⟨hk.1.1.1.2,⟨hk.1.1.2,hk.1.2⟩⟩⟩⟩)⟩,⟨by (with_reducible repeat (first|refine a_l ?_ _|refine a_m ?_|refine a_j ?_ _));exact b_y.out⟩,⟨by (with_reducible repeat (first|refine a_l ?_ _|refine a_m ?_|refine a_j ?_ _));exact b_J.out⟩,⟨by (with_reducible repeat (first|refine a_l ?_ _|refine a_m ?_|refine a_j ?_ _));exact b_T.out⟩,⟨by repeat (first|(with_reducible first|exact HB.out|apply a_g|apply a_e|apply a_h|refine a_f ?_ c_x.out|refine a_f ?_ d_f.out|refine a_f ?_ e_h.out)|exact HB.out)⟩⟩
  rw [if_pos c37] at H
  have c37b0 : decide (0 < (t137.length : Int)) = true:=decide_eq_true c37
  have c37b1 : decide (0 < t137.length) = true:=decide_eq_true (by omega)
  clear c37
  (first|rw [c37b0]|(simp only [a_t,a_u];rw [c37b0])|skip)
  obtain ⟨ji38,hji38⟩ : ∃ j_ : Int,(wrap64 ((t137.length : Int) - 1)) = j_:=⟨_,rfl⟩
  replace H : (if 0 ≤ (ji38) then (if (ji38) < (t137.length : Int) then (a_3.j0 k t137 (t137.length : Int) (((a_p t137 (ji38)).f0) == a1_0) a1_0 l1_1) else (none)) else (none)) = some (r1,r2,r3):=by first|(rw [hji38] at H;exact H)|(simp only [hji38] at H ⊢; exact H)
  have hji38w : (IntKind.i64.wrap ((t137.length : Int) - 1)) = ji38:=(a_t _).trans hji38
  by_cases c39 : 0 ≤ (ji38)
  rotate_left
  ·rw [if_neg c39] at H
   exact absurd H (by simp)
  rw [if_pos c39] at H
  have c39b0 : decide (0 ≤ (ji38)) = true:=decide_eq_true c39
  clear c39
  by_cases c40 : (ji38) < (t137.length : Int)
  rotate_left
  ·rw [if_neg c40] at H
   exact absurd H (by simp)
  rw [if_pos c40] at H
  have c40b0 : decide ((ji38) < (t137.length : Int)) = true:=decide_eq_true c40
  clear c40
  have H':=a_d.mk H
  clear H
  try go_wp2
  replace b_I:=a_d.mk (Kd.b_m b_I.out)
  replace c_u:=a_d.mk (Kd.b_m c_u.out)
  replace h_o:=a_d.mk (Kd.d_5 h_o.out)
  replace b_y:=a_d.mk (a_m b_y.out)
  replace b_J:=a_d.mk (a_m b_J.out)
  replace b_T:=a_d.mk (a_m b_T.out)
  replace HB:=a_d.mk (a_h HB.out)
  have p140 : 0 ≤ ((ji38) : Int):=of_decide_eq_true (by first|(with_reducible assumption)|assumption)
  have q140 : (ji38) < (t137.length : Int):=of_decide_eq_true (by first|(with_reducible assumption)|assumption)
  obtain ⟨ad140,A140_1,c140_1,e140,m_p,k_i,p_4,p_5⟩:=c_y (Kd.f_Z h_o.out).2.2 (ji38) p140 q140
  cases e140
  obtain ⟨ce140,hce140,hMe140,hcc140⟩:=Kd.x_a h_o.out z27 (ji38) p140 (by first|exact q140|exact of_decide_eq_true (by first|(with_reducible assumption)|assumption)|(have e_:=(Kd.f_Z h_o.out).1;omega))
  obtain ⟨ua140_1,uc140_1,rfl,ul140_1,ge140_1⟩:=o_g hMe140
  have hv140_1:=hcc140 1 _ rfl
  rw [d_a _ _ 1 (by omega)] at hv140_1
  replace hv140_1:=Option.some.inj (hv140_1.symm.trans k_i)
  injection hv140_1 with hva_ hvn_ hvc_
  rw [hva_] at ge140_1
  rw [hvc_] at ul140_1
  have HL140_1:=a_d.mk (show Kd.V k65 65 _ w.heap.size _ _ ((a_p t137 (ji38)).f1) from Kd.V_mk ul140_1 ge140_1)
  clear hva_ hvn_ hvc_ ge140_1 ul140_1 hcc140 hce140
  have u_q:=a_d.mk p_5
  have E_F:=a_d.mk p_4
  clear p_5 p_4
  replace p140:=eq_true p140
  replace q140:=eq_true q140
  refine c_9 (n:=13) (S:=fun w' => w'.cell? ⟨b_Y,0,none⟩ = some (.int .i64 a1_0) ∧ w'.cell? ⟨b_Y,1,none⟩ = some (.slice A1_1 l1_1.length c1_1) ∧ w'.cell? (ad140.add (((ji38)).toNat * 2)) = some (.int .i64 ((a_p t137 (ji38)).f0)) ∧ w'.cell? ⟨(ad140.add (((ji38)).toNat * 2)).block,(ad140.add (((ji38)).toNat * 2)).off + 1,none⟩ = some (.slice A140_1 ((a_p t137 (ji38)).f1).length c140_1)) (ds:=[]) #[F_,F_,F_,F_,F_,F_,F_,F_,F_,F_,F_,F_,F_] (by kernel_rfl) rfl rfl ⟨(a_a b_J.out 0).trans rfl,(a_a b_J.out 1).trans rfl,m_p,k_i⟩ (fun hHeld => ?_);refine b_P a_3.tab7 a_3.k_l (fun HT_ HW_ => ?_)
  generalize w35.drew = w41 at b_I c_u h_o b_y b_J b_T HB HL140_1 u_q m_p k_i hHeld ⊢
  refine a_z (i:=0) (N:=some 30) (v:=?_) (a':=?_) #[T_,F_,F_,F_,F_,F_,F_,F_,F_,F_,F_,F_,F_] rfl rfl (a_q HT_.out (by kernel_rfl)) (fun _ _ _ h => h) (Or.inl ⟨by rfl,?_⟩) ?_ ?_
  rotate_left
  ·intro w'
   go_simp
   with_reducible rfl
  rotate_left
  ·simp only [Act.put,sa_,sb_,sc_,a_t,a_u]
   rfl
  refine a_z (i:=1) (N:=some 31) (v:=?_) (a':=?_) #[T_,T_,F_,F_,F_,F_,F_,F_,F_,F_,F_,F_,F_] rfl rfl (a_q HT_.out (by kernel_rfl)) (fun _ _ _ h => h) (Or.inl ⟨by rfl,?_⟩) ?_ ?_
  rotate_left
  ·intro w'
   go_simp
   with_reducible rfl
  rotate_left
  ·simp only [Act.put,sa_,sb_,sc_,a_t,a_u]
   rfl
  refine a_z (i:=2) (N:=some 32) (v:=?_) (a':=?_) #[T_,T_,T_,F_,F_,F_,F_,F_,F_,F_,F_,F_,F_] rfl rfl (a_q HT_.out (by kernel_rfl)) (fun _ _ _ h => h) (Or.inl ⟨by rfl,?_⟩) ?_ ?_
  rotate_left
  ·intro w'
   go_simp
   with_reducible rfl
  rotate_left
  ·simp only [Act.put,sa_,sb_,sc_,a_t,a_u]
   rfl
  refine a_z (i:=3) (N:=some 33) (v:=?_) (a':=?_) #[T_,T_,T_,T_,F_,F_,F_,F_,F_,F_,F_,F_,F_] rfl rfl (a_q HT_.out (by kernel_rfl)) (fun _ _ _ h => h) (Or.inl ⟨by rfl,?_⟩) ?_ ?_
  rotate_left
  ·intro w'
   go_simp
   with_reducible rfl
  rotate_left
  ·simp only [Act.put,sa_,sb_,sc_,a_t,a_u]
   rfl
  refine a_z (i:=4) (N:=some 34) (v:=?_) (a':=?_) #[T_,T_,T_,T_,T_,F_,F_,F_,F_,F_,F_,F_,F_] rfl rfl (a_q HT_.out (by kernel_rfl)) (fun _ _ _ h => h) (Or.inl ⟨by rfl,?_⟩) ?_ ?_
  rotate_left
  ·intro w'
   go_simp
   with_reducible rfl
  rotate_left
  ·simp only [Act.put,sa_,sb_,sc_,a_t,a_u]
   rfl
  refine a_z (i:=5) (N:=some 35) (v:=?_) (a':=?_) #[T_,T_,T_,T_,T_,T_,F_,F_,F_,F_,F_,F_,F_] rfl rfl (a_q HT_.out (by kernel_rfl)) (fun _ _ _ h => h) (Or.inl ⟨by rfl,?_⟩) ?_ ?_
  rotate_left
  ·intro w'
   go_simp
   with_reducible rfl
  rotate_left
  ·simp only [Act.put,sa_,sb_,sc_,a_t,a_u]
   rfl
  refine a_z (i:=6) (N:=some 36) (v:=?_) (a':=?_) #[T_,T_,T_,T_,T_,T_,T_,F_,F_,F_,F_,F_,F_] rfl rfl (a_q HT_.out (by kernel_rfl)) (fun _ _ _ h => h) (Or.inl ⟨by rfl,?_⟩) ?_ ?_
  rotate_left
  ·intro w'
   go_simp
   with_reducible rfl
  rotate_left
  ·simp only [Act.put,sa_,sb_,sc_,a_t,a_u]
   rfl
  refine a_z (i:=7) (N:=some 37) (v:=?_) (a':=?_) #[T_,T_,T_,T_,T_,T_,T_,T_,F_,F_,F_,F_,F_] rfl rfl (a_q HT_.out (by kernel_rfl)) (fun _ _ _ h => h) (Or.inl ⟨by rfl,?_⟩) ?_ ?_
  rotate_left
  ·intro w'
   go_simp
   with_reducible rfl
  rotate_left
  ·simp only [Act.put,sa_,sb_,sc_,a_t,a_u]
   rfl
  refine a_z (i:=9) (N:=some 39) (v:=?_) (a':=?_) #[T_,T_,T_,T_,T_,T_,T_,T_,F_,T_,F_,F_,F_] rfl rfl (a_q HT_.out (by kernel_rfl)) (fun _ _ _ h => h) (Or.inl ⟨by rfl,?_⟩) ?_ ?_
  rotate_left
  ·intro w'
   go_simp
   with_reducible rfl
  rotate_left
  ·simp only [Act.put,sa_,sb_,sc_,a_t,a_u]
   rfl
  refine b_l (i:=8) (N:=some 38) (v:=?_) (a':=?_) #[T_,T_,T_,T_,T_,T_,T_,T_,T_,T_,F_,F_,F_] rfl rfl (a_O HT_.out HW_.out (by kernel_rfl)) (fun _ _ _ h => h) (Or.inl ⟨by rfl,?_⟩) hHeld ?_ ?_
  rotate_left
  ·rintro w' ⟨s0,s1,s2,s3⟩
   go_simp
   with_reducible rfl
  rotate_left
  ·simp only [Act.put,sa_,sb_,sc_,a_t,a_u]
   rfl
  refine b_l (i:=10) (N:=some 40) (v:=?_) (a':=?_) #[T_,T_,T_,T_,T_,T_,T_,T_,T_,T_,T_,F_,F_] rfl rfl (a_O HT_.out HW_.out (by kernel_rfl)) (fun _ _ _ h => h) (Or.inl ⟨by rfl,?_⟩) hHeld ?_ ?_
  rotate_left
  ·rintro w' ⟨s0,s1,s2,s3⟩
   go_simp
   with_reducible rfl
  rotate_left
  ·simp only [Act.put,sa_,sb_,sc_,a_t,a_u]
   rfl
  refine a_z (i:=11) (N:=some 41) (v:=?_) (a':=?_) #[T_,T_,T_,T_,T_,T_,T_,T_,T_,T_,T_,T_,F_] rfl rfl (a_q HT_.out (by kernel_rfl)) (fun _ _ _ h => h) (Or.inl ⟨by rfl,?_⟩) ?_ ?_
  rotate_left
  ·intro w'
   go_simp
   with_reducible rfl
  rotate_left
  ·simp only [Act.put,sa_,sb_,sc_,a_t,a_u]
   rfl
  refine a_z (i:=12) (N:=some 42) (v:=?_) (a':=?_) #[T_,T_,T_,T_,T_,T_,T_,T_,T_,T_,T_,T_,T_] rfl rfl (a_q HT_.out (by kernel_rfl)) (fun _ _ _ h => h) (Or.inl ⟨by rfl,?_⟩) ?_ ?_
  rotate_left
  ·intro w'
   go_simp
   with_reducible rfl
  rotate_left
  ·simp only [Act.put,sa_,sb_,sc_,a_t,a_u]
   rfl
  refine e_j (c_q HT_.out (by kernel_rfl)) ?_
  try go_wp2
  go_meet
  case rel => exact ⟨_,((((a_p t137 (ji38)).f0) == a1_0)),(by first|rfl|(simp;done)|(simp only [← hji38] <;> (first|rfl|simp))|(simp [*];done)),H',⟨by first|omega|exact Nat.le_refl _⟩,⟨by (with_reducible repeat (first|apply Kd.d_W|apply Kd.d_X|apply Kd.d_5));exact h_o.out⟩,⟨by (with_reducible repeat (first|apply Kd.b_d|apply Kd.b_e|apply Kd.b_m));exact Kd.d_y b_I.out (fun _ hk => ⟨hk.1.1.1.1,⟨hk.2,⟨hk.1.1.1.2,⟨hk.1.1.2,hk.1.2⟩⟩⟩⟩)⟩,⟨by (with_reducible repeat (first|apply Kd.b_d|apply Kd.b_e|apply Kd.b_m));exact Kd.d_y c_u.out (fun _ hk => ⟨hk.1.1.1.1,⟨hk.2,⟨hk.1.1.1.2,⟨hk.1.1.2,hk.1.2⟩⟩⟩⟩)⟩,⟨by (with_reducible repeat (first|refine a_l ?_ _|refine a_m ?_|refine a_j ?_ _));exact b_y.out⟩,⟨by (with_reducible repeat (first|refine a_l ?_ _|refine a_m ?_|refine a_j ?_ _));exact b_J.out⟩,⟨by (with_reducible repeat (first|refine a_l ?_ _|refine a_m ?_|refine a_j ?_ _));exact b_T.out⟩,⟨by repeat (first|(with_reducible first|exact HB.out|apply a_g|apply a_e|apply a_h|refine a_f ?_ c_x.out|refine a_f ?_ d_f.out|refine a_f ?_ e_h.out)|exact HB.out)⟩⟩
 case rest =>
  clear HC22
  try clear c1
  try clear p1
  try clear q1
  try clear hx1
  try clear c2
  try clear p2
  try clear c3
  try clear c4
  try clear c4b0
  try clear c4b1
  try clear c6
  try clear p6
  try clear c7
  try clear c7b0
  try clear c10
  try clear c11
  try clear c12
  try clear c14
  try clear p14
  try clear q14
  try clear hx14
  try clear c15
  try clear c24
  try clear c25
  try clear c26
  try clear c27
  try clear c30
  try clear c37
  try clear c37b0
  try clear c37b1
  try clear c39
  try clear c39b0
  try clear c40
  try clear c40b0
  try clear g_W
  try clear g_X
  try clear j_E
  try clear j_F
  try clear m_g
  try clear m_h
  try clear j_I
  try clear j_J
  try clear i_z
  try clear k_e
  try clear h_M
  try clear h_N
  try clear f_x
  try clear f_y
  try clear f_U
  try clear f_V
  try clear u_m
  try clear u_n
  try clear g_Y
  try clear g_Z
  try clear j_G
  try clear j_H
  try clear m_i
  try clear m_j
  try clear j_K
  try clear j_L
  try clear i_A
  try clear k_f
  try clear h_O
  try clear h_P
  try clear f_z
  try clear f_A
  try clear f_W
  try clear f_X
  try clear u_o
  try clear u_p
  try clear m_p
  try clear k_i
  try clear p140
  try clear q140
  obtain ⟨kq,x42_21,rfl,HA,HJ21,HO_6,d_U,c_6,b_y,b_J,b_T,HB⟩:=hcut
  cases kq with
  | zero => exact absurd HA.out (by simp [a_3.j0])
  | succ kj21 =>
   have H:=HA.out
   clear HA
   simp only [a_3.j0] at H
   by_cases c43 : x42_21 = true
   rotate_left
   ·replace c43:=Bool.eq_false_iff.mpr c43
    subst c43
    have H1 : (if (t137.length : Int) = 2000 then (some (([] : List (S27)),0,6)) else (if t137.length < 4398046511104 then (some ((t137 ++ [(⟨a1_0,l1_1⟩ : S27)]),a1_0,0)) else (none))) = some (r1,r2,r3):=by rw [if_neg (show ¬ (false = true) by decide)] at H;exact H
    clear H
    have H:=H1
    clear H1
    by_cases c59 : (t137.length : Int) = 2000
    ·rw [if_pos c59] at H
     have c59b0 : ((t137.length : Int) == 2000) = true:=beq_iff_eq.mpr c59
     have c59b1 : ((t137.length : Int) != 2000) = false:=bne_eq_false_iff_eq.mpr c59
     clear c59
     simp only [Option.some.injEq,Prod.mk.injEq] at H
     obtain ⟨rfl,rfl,rfl⟩:=H
     have H_A:=d_d.out
     have H_B:=d_c.out
     have v_m:=d_e.out
     have v_n:=b_3.out
     have u_r : wc.cell? ⟨b_E,0,none⟩ = some (.slice none 0 0):=(a_a b_T.out 0).trans rfl
     have u_s : wc.cell? ⟨b_E,1,none⟩ = some (.int .i64 0):=(a_a b_T.out 1).trans rfl
     have u_t:=a_b b_T.out 0
     have u_u:=a_b b_T.out 1
     go_wp2
     refine bodyPost_ret (c_H rfl _ _ b_E 24 #[.slice none 0 0,.int .i64 0] (0,0) _ rfl (by (with_reducible repeat (first|refine a_l ?_ _|refine a_m ?_|refine a_j ?_ _));refine a_R (cs:=#[.slice none 0 0,.int .i64 0]) ?_ 1 _ rfl;(with_reducible repeat (first|refine a_l ?_ _|refine a_m ?_|refine a_j ?_ _));refine a_R (cs:=#[.slice none 0 0,.int .i64 0]) ?_ 0 _ rfl;(with_reducible repeat (first|refine a_l ?_ _|refine a_m ?_|refine a_j ?_ _));exact b_T.out) Try.underlying24 rfl (by kernel_rfl)) rfl ?_
     exact ⟨_,by first|rfl|(simp [a_w,a_x] <;> rfl)|(simp [*, a_w,a_x] <;> rfl),by first|exact Kd.n_E _ _ _ _ _|exact Kd.k_Z _ _ _ _ _|exact Kd.j_e _ _ _ _ _|exact Kd.n_D _ _ _ _ _|exact Kd.j_w _ _ _ _ _,by repeat (first|(with_reducible first|exact HB.out|apply a_g|apply a_e|apply a_h|refine a_f ?_ c_x.out|refine a_f ?_ d_f.out|refine a_f ?_ e_h.out)|exact HB.out)⟩
    rw [if_neg c59] at H
    have c59b0 : ((t137.length : Int) == 2000) = false:=beq_eq_false_iff_ne.mpr c59
    have c59b1 : ((t137.length : Int) != 2000) = true:=bne_iff_ne.mpr c59
    by_cases c63 : t137.length < 4398046511104
    rotate_left
    ·rw [if_neg c63] at H
     exact absurd H (by simp)
    rw [if_pos c63] at H
    have LMc63:=a_d.mk c63
    clear c63
    obtain ⟨y147,hy147⟩ : ∃ y_ : List (S27),y_ = (t137 ++ [(⟨a1_0,l1_1⟩ : S27)]):=⟨_,rfl⟩
    replace H : (some (y147,a1_0,0)) = some (r1,r2,r3):=by first|(rw [hy147];with_reducible exact H)|(have H2_:=(Option.bind_some _ _).symm.trans H;rw [hy147];with_reducible exact H2_)|(have H2_:=(Option.bind_some _ _).symm.trans H;with_reducible exact H2_)|with_reducible exact H|(rw [hy147];exact H)|exact H
    have Ny147:=a_d.mk hy147
    clear hy147
    simp only [Option.some.injEq,Prod.mk.injEq] at H
    obtain ⟨rfl,rfl,rfl⟩:=H
    try go_wp2
    replace HO_6:=a_d.mk (Kd.d_5 HO_6.out)
    replace d_U:=a_d.mk (Kd.b_m d_U.out)
    replace c_6:=a_d.mk (Kd.b_m c_6.out)
    replace b_y:=a_d.mk (a_m b_y.out)
    replace b_J:=a_d.mk (a_m b_J.out)
    replace b_T:=a_d.mk (a_m b_T.out)
    replace HB:=a_d.mk (a_h HB.out)
    refine c_9 (n:=9) (S:=fun w' => w'.cell? ⟨b_Y,0,none⟩ = some (.int .i64 a1_0) ∧ w'.cell? ⟨b_Y,1,none⟩ = some (.slice A1_1 l1_1.length c1_1)) (ds:=[]) #[F_,F_,F_,F_,F_,F_,F_,F_,F_] (by kernel_rfl) rfl rfl ⟨(a_a b_J.out 0).trans rfl,(a_a b_J.out 1).trans rfl⟩ (fun hHeld => ?_);refine b_P a_3.u_T a_3.r_r (fun HT_ HW_ => ?_)
    generalize wc.drew = w64 at HO_6 d_U c_6 b_y b_J b_T HB hHeld ⊢
    refine a_z (i:=0) (N:=some 51) (v:=?_) (a':=?_) #[T_,F_,F_,F_,F_,F_,F_,F_,F_] rfl rfl (a_q HT_.out (by kernel_rfl)) (fun _ _ _ h => h) (Or.inl ⟨by rfl,?_⟩) ?_ ?_
    rotate_left
    ·intro w'
     go_simp
     with_reducible rfl
    rotate_left
    ·simp only [Act.put,sa_,sb_,sc_,a_t,a_u]
     rfl
    refine a_z (i:=4) (N:=some 55) (v:=?_) (a':=?_) #[T_,F_,F_,F_,T_,F_,F_,F_,F_] rfl rfl (a_q HT_.out (by kernel_rfl)) (fun _ _ _ h => h) (Or.inl ⟨by rfl,?_⟩) ?_ ?_
    rotate_left
    ·intro w'
     go_simp
     with_reducible rfl
    rotate_left
    ·simp only [Act.put,sa_,sb_,sc_,a_t,a_u]
     rfl
    refine b_l (i:=1) (N:=some 52) (v:=?_) (a':=?_) #[T_,T_,F_,F_,T_,F_,F_,F_,F_] rfl rfl (a_O HT_.out HW_.out (by kernel_rfl)) (fun _ _ _ h => h) (Or.inl ⟨by rfl,?_⟩) hHeld ?_ ?_
    rotate_left
    ·rintro w' ⟨s0,s1⟩
     go_simp
     with_reducible rfl
    rotate_left
    ·simp only [Act.put,sa_,sb_,sc_,a_t,a_u]
     rfl
    refine b_l (i:=5) (N:=some 56) (v:=?_) (a':=?_) #[T_,T_,F_,F_,T_,T_,F_,F_,F_] rfl rfl (a_O HT_.out HW_.out (by kernel_rfl)) (fun _ _ _ h => h) (Or.inl ⟨by rfl,?_⟩) hHeld ?_ ?_
    rotate_left
    ·rintro w' ⟨s0,s1⟩
     go_simp
     with_reducible rfl
    rotate_left
    ·simp only [Act.put,sa_,sb_,sc_,a_t,a_u]
     rfl
    refine one_ (i:=2) (N:=some 53) #[T_,T_,T_,F_,T_,T_,F_,F_,F_] rfl rfl (b_7 HT_.out (by kernel_rfl)) (by decide) (fun K hK => ?_)
    refine r_y (w1:=?_) (v:=?_) (by rfl) rfl ?_ ?_
    rotate_left 2
    ·go_simp
     constructor
     ·rfl
     rfl
    refine hK.out _ _ ⟨(a_a (a_j b_J.out _) 0).trans rfl,(a_a (a_j b_J.out _) 1).trans rfl⟩ (fun hHeld => ?_)
    clear hK K
    refine d_A (a':=?_) ?_ ?_
    rotate_left
    ·show Act.put _ (some 53) _ = _
     simp only [Act.put,sa_,sb_,sc_,a_t,a_u]
     rfl
    refine one_ (i:=3) (N:=some 54) #[T_,T_,T_,T_,T_,T_,F_,F_,F_] rfl rfl (b_7 HT_.out (by kernel_rfl)) (by decide) (fun K hK => ?_)
    refine Kd.g_F k27 (w0:=w) w.heap.size (by rfl) (.tmp 51) (.tmp 53) 22 27 (.agg #[(.int .i64 0),(.slice none 0 0)]) 32 rfl Try.underlying22 k_p rfl (by decide) (by omega) (.slice Ao36 t137.length co36) t137 (⟨a1_0,l1_1⟩ : S27) [.int .i64 a1_0,.slice A1_1 l1_1.length c1_1] (fun k_ => ((P0_0_ k_ ∨ P1_1_ k_) ∨ w.heap.size ≤ k_) ∧ k_ ≠ b_1 ∧ k_ ≠ b_Y ∧ k_ ≠ b_E) (fun k_ => ((fun k_ => ((P0_0_ k_ ∨ P1_1_ k_) ∨ w.heap.size ≤ k_) ∧ k_ ≠ b_1 ∧ k_ ≠ b_Y ∧ k_ ≠ b_E)) k_ ∧ some k_ ≠ (.slice Ao36 t137.length co36 : Value).ownBlock) rfl rfl ?aP (fun _ hk => hk) ?aF ?aO ?aB ?aS ?aL ?_
    (case aP => exact (n_0 _ _ (⟨a1_0,l1_1⟩ : S27) (Kd.b_W (Kd.d_y (ok':=(fun k_ => ((fun k_ => ((P0_0_ k_ ∨ P1_1_ k_) ∨ w.heap.size ≤ k_) ∧ k_ ≠ b_1 ∧ k_ ≠ b_Y ∧ k_ ≠ b_E)) k_ ∧ some k_ ≠ (.slice Ao36 t137.length co36 : Value).ownBlock)) (c_6.out) (fun k_ hk => ⟨⟨hk.1,⟨hk.2.2.1,⟨hk.2.2.2.1,hk.2.2.2.2⟩⟩⟩,(by first|exact hk.2.1|exact own_ne hk.2.1)⟩))).2.1 (Kd.V_F (Kd.d_y (ok':=(fun k_ => ((fun k_ => ((P0_0_ k_ ∨ P1_1_ k_) ∨ w.heap.size ≤ k_) ∧ k_ ≠ b_1 ∧ k_ ≠ b_Y ∧ k_ ≠ b_E)) k_ ∧ some k_ ≠ (.slice Ao36 t137.length co36 : Value).ownBlock)) (c_6.out) (fun k_ hk => ⟨⟨hk.1,⟨hk.2.2.1,⟨hk.2.2.2.1,hk.2.2.2.2⟩⟩⟩,(by first|exact hk.2.1|exact own_ne hk.2.1)⟩)))))
    (case aB => exact (by repeat (first|(with_reducible first|exact HB.out|apply a_g|apply a_e|apply a_h|refine a_f ?_ c_x.out|refine a_f ?_ d_f.out|refine a_f ?_ e_h.out)|exact HB.out)))
    (case aF => exact (fun k_ hk => ⟨(.inr (Nat.le_trans (a_n (by repeat (first|(with_reducible first|exact HB.out|apply a_g|apply a_e|apply a_h|refine a_f ?_ c_x.out|refine a_f ?_ d_f.out|refine a_f ?_ e_h.out)|exact HB.out))) hk)),Kd.f_4 (g:=b_1) (o:=.cells #[.slice A0_0 l0_0.length c0_0,.int .i64 a0_1] 24 (0,0)) (bup_ b_y.out) k_ hk,Kd.f_4 (g:=b_Y) (o:=.cells #[.int .i64 a1_0,.slice A1_1 l1_1.length c1_1] 27 (0,0)) (bup_ b_J.out) k_ hk,Kd.f_4 (g:=b_E) (o:=.cells #[.slice none 0 0,.int .i64 0] 24 (0,0)) (bup_ b_T.out) k_ hk⟩))
    (case aO => exact (by (with_reducible repeat (first|apply Kd.d_W|apply Kd.d_X|apply Kd.d_5));exact HO_6.out))
    (case aS => exact (a_n (by repeat (first|(with_reducible first|exact HB.out|apply a_g|apply a_e|apply a_h|refine a_f ?_ c_x.out|refine a_f ?_ d_f.out|refine a_f ?_ e_h.out)|exact HB.out))))
    (case aL => have:=LMc63.out;omega)
    intro v148 w65 ho hb hg hat
    rw [← Ny147.out] at ho
    have v_4:=a_d.mk (ho)
    replace d_U:=a_d.mk (Kd.g_B (ok:=(fun k_ => ((P0_0_ k_ ∨ P1_1_ k_) ∨ w.heap.size ≤ k_) ∧ k_ ≠ b_1 ∧ k_ ≠ b_Y ∧ k_ ≠ b_E)) (by (with_reducible repeat (first|apply Kd.b_d|apply Kd.b_e|apply Kd.b_m));exact Kd.d_y d_U.out (fun _ hk => ⟨⟨hk.1,⟨hk.2.2.1,⟨hk.2.2.2.1,hk.2.2.2.2⟩⟩⟩,(by first|exact hk.2.1|exact own_ne hk.2.1)⟩)) hg hat)
    replace c_6:=a_d.mk (Kd.g_B (ok:=(fun k_ => ((P0_0_ k_ ∨ P1_1_ k_) ∨ w.heap.size ≤ k_) ∧ k_ ≠ b_1 ∧ k_ ≠ b_Y ∧ k_ ≠ b_E)) (by (with_reducible repeat (first|apply Kd.b_d|apply Kd.b_e|apply Kd.b_m));exact Kd.d_y c_6.out (fun _ hk => ⟨⟨hk.1,⟨hk.2.2.1,⟨hk.2.2.2.1,hk.2.2.2.2⟩⟩⟩,(by first|exact hk.2.1|exact own_ne hk.2.1)⟩)) hg hat)
    replace b_y:=a_d.mk (d_6 (g:=b_1) (o:=.cells #[.slice A0_0 l0_0.length c0_0,.int .i64 a0_1] 24 (0,0)) (bup_ b_y.out) hg (Kd.N_ne HO_6.out b_y.out (by decide)))
    replace b_J:=a_d.mk (d_6 (g:=b_Y) (o:=.cells #[.int .i64 a1_0,.slice A1_1 l1_1.length c1_1] 27 (0,0)) (bup_ b_J.out) hg (Kd.r_u HO_6.out (fun _ hk => hk.2.2.1)))
    replace b_T:=a_d.mk (d_6 (g:=b_E) (o:=.cells #[.slice none 0 0,.int .i64 0] 24 (0,0)) (bup_ b_T.out) hg (Kd.N_ne HO_6.out b_T.out (by decide)))
    replace HB:=a_d.mk (hb)
    clear HO_6 ho hb hg hat
    obtain ⟨Ao66,co66,eo66⟩:=Kd.h_K v_4.out
    (first|subst eo66|(injection eo66 with f1_ f2_ f3_;have f4_:=f1_.symm;have f5_:=f3_.symm;clear f1_ f2_ f3_;subst f4_;subst f5_))
    refine hK.out _ _ ⟨(a_a b_J.out 0).trans rfl,(a_a b_J.out 1).trans rfl⟩ (fun hHeld => ?_)
    clear hK K
    refine d_A (a':=?_) ?_ ?_
    rotate_left
    ·show Act.put _ (some 54) _ = _
     simp only [Act.put,sa_,sb_,sc_,a_t,a_u]
     rfl
    refine a_z (i:=6) (N:=some 57) (v:=?_) (a':=?_) #[T_,T_,T_,T_,T_,T_,T_,F_,F_] rfl rfl (a_q HT_.out (by kernel_rfl)) (fun _ _ _ h => h) (Or.inl ⟨by rfl,?_⟩) ?_ ?_
    rotate_left
    ·intro w'
     go_simp
     with_reducible rfl
    rotate_left
    ·simp only [Act.put,sa_,sb_,sc_,a_t,a_u]
     rfl
    refine one_ (i:=7) (N:=none) #[T_,T_,T_,T_,T_,T_,T_,T_,F_] rfl rfl (b_7 HT_.out (by kernel_rfl)) (by decide) (fun K hK => ?_)
    have hs67 : w65.cell? ⟨b_E,0,none⟩ = some (.slice none 0 0):=(a_a b_T.out 0).trans rfl
    have hfs67:=a_b b_T.out 0
    have hns67_0:=d_c.out
    have hns67_1:=b_3.out
    have hms67_0:=d_d.out
    have hms67_1:=d_e.out
    have hs68 : w65.cell? ⟨b_E,1,none⟩ = some (.int .i64 0):=(a_a b_T.out 1).trans rfl
    have hfs68:=a_b b_T.out 1
    have hns68_0:=d_c.out
    have hns68_1:=b_3.out
    have hms68_0:=d_d.out
    have hms68_1:=d_e.out
    refine u_K (w1:=?_) (by rfl) rfl ?_ ?_
    rotate_left
    ·go_simp
     rfl
    refine hK.out _ _ ⟨((cell_far (p:=⟨b_E,_,none⟩) b_3.out _).trans (((cell_far (p:=⟨b_E,_,none⟩) b_3.out _).trans (hHeld.1)))),((cell_far (p:=⟨b_E,_,none⟩) b_3.out _).trans (((cell_far (p:=⟨b_E,_,none⟩) b_3.out _).trans (hHeld.2))))⟩ (fun hHeld => ?_)
    clear hK K
    refine a_z (i:=8) (N:=some 5) (v:=?_) (a':=?_) #[T_,T_,T_,T_,T_,T_,T_,T_,T_] rfl rfl (a_q HT_.out (by kernel_rfl)) (fun _ _ _ h => h) (Or.inl ⟨by rfl,?_⟩) ?_ ?_
    rotate_left
    ·intro w'
     go_simp
     with_reducible rfl
    rotate_left
    ·simp only [Act.put,sa_,sb_,sc_,a_t,a_u]
     rfl
    refine e_j (c_q HT_.out (by kernel_rfl)) ?_
    try go_wp2
    refine bodyPost_ret (c_H rfl _ _ b_E 24 #[.slice Ao66 y147.length co66,.int .i64 a1_0] (0,0) _ rfl (by (with_reducible repeat (first|refine a_l ?_ _|refine a_m ?_|refine a_j ?_ _));refine a_R (cs:=#[.slice Ao66 y147.length co66,.int .i64 0]) ?_ 1 _ rfl;(with_reducible repeat (first|refine a_l ?_ _|refine a_m ?_|refine a_j ?_ _));refine a_R (cs:=#[.slice none 0 0,.int .i64 0]) ?_ 0 _ rfl;(with_reducible repeat (first|refine a_l ?_ _|refine a_m ?_|refine a_j ?_ _));exact b_T.out) Try.underlying24 rfl (by kernel_rfl)) rfl ?_
    exact ⟨_,by first|rfl|(simp [a_w,a_x] <;> rfl)|(simp [*, a_w,a_x] <;> rfl),by (with_reducible repeat (first|apply Kd.d_W|apply Kd.d_X|apply Kd.d_5));exact Kd.f_d (Kd.k_J (p:=⟨b_E,1,none⟩) (Kd.k_J (p:=⟨b_E,0,none⟩) (Kd.f_d v_4.out (fun k_ hk => (⟨hk,hk.2.2.2⟩ : _ ∧ k_ ≠ b_E))) (fun _ hk => hk.2) (.slice Ao66 y147.length co66)) (fun _ hk => hk.2) (.int .i64 a1_0)) (fun _ hk => hk.1.1),by repeat (first|(with_reducible first|exact HB.out|apply a_g|apply a_e|apply a_h|refine a_f ?_ c_x.out|refine a_f ?_ d_f.out|refine a_f ?_ e_h.out)|exact HB.out)⟩
   subst c43
   have H1 : (if 0 ≤ (wrap64 ((t137.length : Int) - 1)) then (if (wrap64 ((t137.length : Int) - 1)) ≤ (t137.length : Int) then ((some (t137.take ((wrap64 ((t137.length : Int) - 1)) : Int).toNat : List (S27))).bind fun y141 => (if (y141.length : Int) = 2000 then (some (([] : List (S27)),0,6)) else (if y141.length < 4398046511104 then (some ((y141 ++ [(⟨a1_0,l1_1⟩ : S27)]),a1_0,0)) else (none)))) else (none)) else (none)) = some (r1,r2,r3):=by rw [if_pos rfl] at H;exact H
   clear H
   have H:=H1
   clear H1
   obtain ⟨ji44,hji44⟩ : ∃ j_ : Int,(wrap64 ((t137.length : Int) - 1)) = j_:=⟨_,rfl⟩
   replace H : (if 0 ≤ (ji44) then (if (ji44) ≤ (t137.length : Int) then ((some (t137.take ((ji44) : Int).toNat : List (S27))).bind fun y141 => (if (y141.length : Int) = 2000 then (some (([] : List (S27)),0,6)) else (if y141.length < 4398046511104 then (some ((y141 ++ [(⟨a1_0,l1_1⟩ : S27)]),a1_0,0)) else (none)))) else (none)) else (none)) = some (r1,r2,r3):=by first|(rw [hji44] at H;exact H)|(simp only [hji44] at H ⊢; exact H)
   have hji44w : (IntKind.i64.wrap ((t137.length : Int) - 1)) = ji44:=(a_t _).trans hji44
   by_cases c45 : 0 ≤ (ji44)
   rotate_left
   ·rw [if_neg c45] at H
    exact absurd H (by simp)
   rw [if_pos c45] at H
   have c45b0:=eq_true c45
   have c45b1 : decide (0 ≤ (ji44)) = true:=decide_eq_true c45
   clear c45
   by_cases c46 : (ji44) ≤ (t137.length : Int)
   rotate_left
   ·rw [if_neg c46] at H
    exact absurd H (by simp)
   rw [if_pos c46] at H
   have c46b0:=eq_true c46
   have c46b1 : decide ((ji44) ≤ (t137.length : Int)) = true:=decide_eq_true c46
   clear c46
   obtain ⟨y141,hy141⟩ : ∃ y_ : List (S27),y_ = (t137.take ((ji44) : Int).toNat):=⟨_,rfl⟩
   replace H : (if (y141.length : Int) = 2000 then (some (([] : List (S27)),0,6)) else (if y141.length < 4398046511104 then (some ((y141 ++ [(⟨a1_0,l1_1⟩ : S27)]),a1_0,0)) else (none))) = some (r1,r2,r3):=by first|(rw [hy141];with_reducible exact H)|(have H2_:=(Option.bind_some _ _).symm.trans H;rw [hy141];with_reducible exact H2_)|(have H2_:=(Option.bind_some _ _).symm.trans H;with_reducible exact H2_)|with_reducible exact H|(rw [hy141];exact H)|exact H
   have Ny141:=a_d.mk hy141
   clear hy141
   by_cases c47 : (y141.length : Int) = 2000
   ·rw [if_pos c47] at H
    have c47b0 : ((y141.length : Int) == 2000) = true:=beq_iff_eq.mpr c47
    have c47b1 : ((y141.length : Int) != 2000) = false:=bne_eq_false_iff_eq.mpr c47
    clear c47
    simp only [Option.some.injEq,Prod.mk.injEq] at H
    obtain ⟨rfl,rfl,rfl⟩:=H
    have q48 : ((ji44) : Int) ≤ ((t137.length : Int) : Int):=of_decide_eq_true (by first|(with_reducible assumption)|assumption)
    obtain ⟨i048,v_5,_,hsz48,_⟩:=info_parts k_p
    have hcut48:=r_x (P:=Try.prog) 22 27 .i64 Try.underlying22 v_5 Ao36 t137.length co36 (ji44) (of_decide_eq_true (by first|(with_reducible assumption)|assumption)) q48 (Kd.f_Z HO_6.out).2.1
    have hr48:=Kd.r_t (m:=((ji44) : Int).toNat) HO_6.out (by omega)
    have hy48 : y141.length = ((ji44) : Int).toNat:=(by rw [Ny141.out,List.length_take];omega)
    rw [← Ny141.out] at hr48
    rw [← hy48] at hr48 hcut48
    clear hy48 v_5 hsz48 HO_6
    have k_j:=a_d.mk hr48
    clear hr48
    replace q48:=eq_true q48
    have E_G:=d_d.out
    have E_H:=d_c.out
    have H_C:=d_e.out
    have H_D:=b_3.out
    have E_I : wc.cell? ⟨b_E,0,none⟩ = some (.slice none 0 0):=(a_a b_T.out 0).trans rfl
    have E_J : wc.cell? ⟨b_E,1,none⟩ = some (.int .i64 0):=(a_a b_T.out 1).trans rfl
    have E_K:=a_b b_T.out 0
    have E_L:=a_b b_T.out 1
    go_wp2
    refine bodyPost_ret (c_H rfl _ _ b_E 24 #[.slice none 0 0,.int .i64 0] (0,0) _ rfl (by (with_reducible repeat (first|refine a_l ?_ _|refine a_m ?_|refine a_j ?_ _));refine a_R (cs:=#[.slice none 0 0,.int .i64 0]) ?_ 1 _ rfl;(with_reducible repeat (first|refine a_l ?_ _|refine a_m ?_|refine a_j ?_ _));refine a_R (cs:=#[.slice none 0 0,.int .i64 0]) ?_ 0 _ rfl;(with_reducible repeat (first|refine a_l ?_ _|refine a_m ?_|refine a_j ?_ _));exact b_T.out) Try.underlying24 rfl (by kernel_rfl)) rfl ?_
    exact ⟨_,by first|rfl|(simp [a_w,a_x] <;> rfl)|(simp only [← hji44];first|rfl|(simp [a_w,a_x] <;> rfl))|(simp [*, a_w,a_x] <;> rfl),by first|exact Kd.n_E _ _ _ _ _|exact Kd.k_Z _ _ _ _ _|exact Kd.j_e _ _ _ _ _|exact Kd.n_D _ _ _ _ _|exact Kd.j_w _ _ _ _ _,by repeat (first|(with_reducible first|exact HB.out|apply a_g|apply a_e|apply a_h|refine a_f ?_ c_x.out|refine a_f ?_ d_f.out|refine a_f ?_ e_h.out)|exact HB.out)⟩
   rw [if_neg c47] at H
   have c47b0 : ((y141.length : Int) == 2000) = false:=beq_eq_false_iff_ne.mpr c47
   have c47b1 : ((y141.length : Int) != 2000) = true:=bne_iff_ne.mpr c47
   by_cases c52 : y141.length < 4398046511104
   rotate_left
   ·rw [if_neg c52] at H
    exact absurd H (by simp)
   rw [if_pos c52] at H
   have LMc52:=a_d.mk c52
   clear c52
   obtain ⟨y144,hy144⟩ : ∃ y_ : List (S27),y_ = (y141 ++ [(⟨a1_0,l1_1⟩ : S27)]):=⟨_,rfl⟩
   replace H : (some (y144,a1_0,0)) = some (r1,r2,r3):=by first|(rw [hy144];with_reducible exact H)|(have H2_:=(Option.bind_some _ _).symm.trans H;rw [hy144];with_reducible exact H2_)|(have H2_:=(Option.bind_some _ _).symm.trans H;with_reducible exact H2_)|with_reducible exact H|(rw [hy144];exact H)|exact H
   have Ny144:=a_d.mk hy144
   clear hy144
   simp only [Option.some.injEq,Prod.mk.injEq] at H
   obtain ⟨rfl,rfl,rfl⟩:=H
   have q53 : ((ji44) : Int) ≤ ((t137.length : Int) : Int):=of_decide_eq_true (by first|(with_reducible assumption)|assumption)
   obtain ⟨i053,v_6,_,hsz53,_⟩:=info_parts k_p
   have hcut53:=r_x (P:=Try.prog) 22 27 .i64 Try.underlying22 v_6 Ao36 t137.length co36 (ji44) (of_decide_eq_true (by first|(with_reducible assumption)|assumption)) q53 (Kd.f_Z HO_6.out).2.1
   have hr53:=Kd.r_t (m:=((ji44) : Int).toNat) HO_6.out (by omega)
   have hy53 : y141.length = ((ji44) : Int).toNat:=(by rw [Ny141.out,List.length_take];omega)
   rw [← Ny141.out] at hr53
   rw [← hy53] at hr53 hcut53
   clear hy53 v_6 hsz53 HO_6
   have k_j:=a_d.mk hr53
   clear hr53
   replace q53:=eq_true q53
   try go_wp2
   replace k_j:=a_d.mk (Kd.d_5 k_j.out)
   replace d_U:=a_d.mk (Kd.b_m d_U.out)
   replace c_6:=a_d.mk (Kd.b_m c_6.out)
   replace b_y:=a_d.mk (a_m b_y.out)
   replace b_J:=a_d.mk (a_m b_J.out)
   replace b_T:=a_d.mk (a_m b_T.out)
   replace HB:=a_d.mk (a_h HB.out)
   refine c_9 (n:=9) (S:=fun w' => w'.cell? ⟨b_Y,0,none⟩ = some (.int .i64 a1_0) ∧ w'.cell? ⟨b_Y,1,none⟩ = some (.slice A1_1 l1_1.length c1_1)) (ds:=[]) #[F_,F_,F_,F_,F_,F_,F_,F_,F_] (by kernel_rfl) rfl rfl ⟨(a_a b_J.out 0).trans rfl,(a_a b_J.out 1).trans rfl⟩ (fun hHeld => ?_);refine b_P a_3.u_T a_3.r_r (fun HT_ HW_ => ?_)
   generalize wc.drew = w54 at k_j d_U c_6 b_y b_J b_T HB hHeld ⊢
   refine a_z (i:=0) (N:=some 51) (v:=?_) (a':=?_) #[T_,F_,F_,F_,F_,F_,F_,F_,F_] rfl rfl (a_q HT_.out (by kernel_rfl)) (fun _ _ _ h => h) (Or.inl ⟨by rfl,?_⟩) ?_ ?_
   rotate_left
   ·intro w'
    go_simp
    with_reducible rfl
   rotate_left
   ·simp only [Act.put,sa_,sb_,sc_,a_t,a_u]
    rfl
   refine a_z (i:=4) (N:=some 55) (v:=?_) (a':=?_) #[T_,F_,F_,F_,T_,F_,F_,F_,F_] rfl rfl (a_q HT_.out (by kernel_rfl)) (fun _ _ _ h => h) (Or.inl ⟨by rfl,?_⟩) ?_ ?_
   rotate_left
   ·intro w'
    go_simp
    with_reducible rfl
   rotate_left
   ·simp only [Act.put,sa_,sb_,sc_,a_t,a_u]
    rfl
   refine b_l (i:=1) (N:=some 52) (v:=?_) (a':=?_) #[T_,T_,F_,F_,T_,F_,F_,F_,F_] rfl rfl (a_O HT_.out HW_.out (by kernel_rfl)) (fun _ _ _ h => h) (Or.inl ⟨by rfl,?_⟩) hHeld ?_ ?_
   rotate_left
   ·rintro w' ⟨s0,s1⟩
    go_simp
    with_reducible rfl
   rotate_left
   ·simp only [Act.put,sa_,sb_,sc_,a_t,a_u]
    rfl
   refine b_l (i:=5) (N:=some 56) (v:=?_) (a':=?_) #[T_,T_,F_,F_,T_,T_,F_,F_,F_] rfl rfl (a_O HT_.out HW_.out (by kernel_rfl)) (fun _ _ _ h => h) (Or.inl ⟨by rfl,?_⟩) hHeld ?_ ?_
   rotate_left
   ·rintro w' ⟨s0,s1⟩
    go_simp
    with_reducible rfl
   rotate_left
   ·simp only [Act.put,sa_,sb_,sc_,a_t,a_u]
    rfl
   refine one_ (i:=2) (N:=some 53) #[T_,T_,T_,F_,T_,T_,F_,F_,F_] rfl rfl (b_7 HT_.out (by kernel_rfl)) (by decide) (fun K hK => ?_)
   refine r_y (w1:=?_) (v:=?_) (by rfl) rfl ?_ ?_
   rotate_left 2
   ·go_simp
    constructor
    ·rfl
    rfl
   refine hK.out _ _ ⟨(a_a (a_j b_J.out _) 0).trans rfl,(a_a (a_j b_J.out _) 1).trans rfl⟩ (fun hHeld => ?_)
   clear hK K
   refine d_A (a':=?_) ?_ ?_
   rotate_left
   ·show Act.put _ (some 53) _ = _
    simp only [Act.put,sa_,sb_,sc_,a_t,a_u]
    rfl
   refine one_ (i:=3) (N:=some 54) #[T_,T_,T_,T_,T_,T_,F_,F_,F_] rfl rfl (b_7 HT_.out (by kernel_rfl)) (by decide) (fun K hK => ?_)
   refine Kd.g_F k27 (w0:=w) w.heap.size (by rfl) (.tmp 51) (.tmp 53) 22 27 (.agg #[(.int .i64 0),(.slice none 0 0)]) 32 rfl Try.underlying22 k_p rfl (by decide) (by omega) (.slice Ao36 y141.length co36) y141 (⟨a1_0,l1_1⟩ : S27) [.int .i64 a1_0,.slice A1_1 l1_1.length c1_1] (fun k_ => ((P0_0_ k_ ∨ P1_1_ k_) ∨ w.heap.size ≤ k_) ∧ k_ ≠ b_1 ∧ k_ ≠ b_Y ∧ k_ ≠ b_E) (fun k_ => ((fun k_ => ((P0_0_ k_ ∨ P1_1_ k_) ∨ w.heap.size ≤ k_) ∧ k_ ≠ b_1 ∧ k_ ≠ b_Y ∧ k_ ≠ b_E)) k_ ∧ some k_ ≠ (.slice Ao36 y141.length co36 : Value).ownBlock) rfl rfl ?aP (fun _ hk => hk) ?aF ?aO ?aB ?aS ?aL ?_
   (case aP => exact (n_0 _ _ (⟨a1_0,l1_1⟩ : S27) (Kd.b_W (Kd.d_y (ok':=(fun k_ => ((fun k_ => ((P0_0_ k_ ∨ P1_1_ k_) ∨ w.heap.size ≤ k_) ∧ k_ ≠ b_1 ∧ k_ ≠ b_Y ∧ k_ ≠ b_E)) k_ ∧ some k_ ≠ (.slice Ao36 y141.length co36 : Value).ownBlock)) (c_6.out) (fun k_ hk => ⟨⟨hk.1,⟨hk.2.2.1,⟨hk.2.2.2.1,hk.2.2.2.2⟩⟩⟩,(by first|exact hk.2.1|exact own_ne hk.2.1)⟩))).2.1 (Kd.V_F (Kd.d_y (ok':=(fun k_ => ((fun k_ => ((P0_0_ k_ ∨ P1_1_ k_) ∨ w.heap.size ≤ k_) ∧ k_ ≠ b_1 ∧ k_ ≠ b_Y ∧ k_ ≠ b_E)) k_ ∧ some k_ ≠ (.slice Ao36 y141.length co36 : Value).ownBlock)) (c_6.out) (fun k_ hk => ⟨⟨hk.1,⟨hk.2.2.1,⟨hk.2.2.2.1,hk.2.2.2.2⟩⟩⟩,(by first|exact hk.2.1|exact own_ne hk.2.1)⟩)))))
   (case aB => exact (by repeat (first|(with_reducible first|exact HB.out|apply a_g|apply a_e|apply a_h|refine a_f ?_ c_x.out|refine a_f ?_ d_f.out|refine a_f ?_ e_h.out)|exact HB.out)))
   (case aF => exact (fun k_ hk => ⟨(.inr (Nat.le_trans (a_n (by repeat (first|(with_reducible first|exact HB.out|apply a_g|apply a_e|apply a_h|refine a_f ?_ c_x.out|refine a_f ?_ d_f.out|refine a_f ?_ e_h.out)|exact HB.out))) hk)),Kd.f_4 (g:=b_1) (o:=.cells #[.slice A0_0 l0_0.length c0_0,.int .i64 a0_1] 24 (0,0)) (bup_ b_y.out) k_ hk,Kd.f_4 (g:=b_Y) (o:=.cells #[.int .i64 a1_0,.slice A1_1 l1_1.length c1_1] 27 (0,0)) (bup_ b_J.out) k_ hk,Kd.f_4 (g:=b_E) (o:=.cells #[.slice none 0 0,.int .i64 0] 24 (0,0)) (bup_ b_T.out) k_ hk⟩))
   (case aO => exact (by (with_reducible repeat (first|apply Kd.d_W|apply Kd.d_X|apply Kd.d_5));exact k_j.out))
   (case aS => exact (a_n (by repeat (first|(with_reducible first|exact HB.out|apply a_g|apply a_e|apply a_h|refine a_f ?_ c_x.out|refine a_f ?_ d_f.out|refine a_f ?_ e_h.out)|exact HB.out))))
   (case aL => have:=LMc52.out;omega)
   intro v145 w55 ho hb hg hat
   rw [← Ny144.out] at ho
   have v_7:=a_d.mk (ho)
   replace d_U:=a_d.mk (Kd.g_B (ok:=(fun k_ => ((P0_0_ k_ ∨ P1_1_ k_) ∨ w.heap.size ≤ k_) ∧ k_ ≠ b_1 ∧ k_ ≠ b_Y ∧ k_ ≠ b_E)) (by (with_reducible repeat (first|apply Kd.b_d|apply Kd.b_e|apply Kd.b_m));exact Kd.d_y d_U.out (fun _ hk => ⟨⟨hk.1,⟨hk.2.2.1,⟨hk.2.2.2.1,hk.2.2.2.2⟩⟩⟩,(by first|exact hk.2.1|exact own_ne hk.2.1)⟩)) hg hat)
   replace c_6:=a_d.mk (Kd.g_B (ok:=(fun k_ => ((P0_0_ k_ ∨ P1_1_ k_) ∨ w.heap.size ≤ k_) ∧ k_ ≠ b_1 ∧ k_ ≠ b_Y ∧ k_ ≠ b_E)) (by (with_reducible repeat (first|apply Kd.b_d|apply Kd.b_e|apply Kd.b_m));exact Kd.d_y c_6.out (fun _ hk => ⟨⟨hk.1,⟨hk.2.2.1,⟨hk.2.2.2.1,hk.2.2.2.2⟩⟩⟩,(by first|exact hk.2.1|exact own_ne hk.2.1)⟩)) hg hat)
   replace b_y:=a_d.mk (d_6 (g:=b_1) (o:=.cells #[.slice A0_0 l0_0.length c0_0,.int .i64 a0_1] 24 (0,0)) (bup_ b_y.out) hg (Kd.N_ne k_j.out b_y.out (by decide)))
   replace b_J:=a_d.mk (d_6 (g:=b_Y) (o:=.cells #[.int .i64 a1_0,.slice A1_1 l1_1.length c1_1] 27 (0,0)) (bup_ b_J.out) hg (Kd.r_u k_j.out (fun _ hk => hk.2.2.1)))
   replace b_T:=a_d.mk (d_6 (g:=b_E) (o:=.cells #[.slice none 0 0,.int .i64 0] 24 (0,0)) (bup_ b_T.out) hg (Kd.N_ne k_j.out b_T.out (by decide)))
   replace HB:=a_d.mk (hb)
   clear k_j ho hb hg hat
   obtain ⟨Ao56,co56,eo56⟩:=Kd.h_K v_7.out
   (first|subst eo56|(injection eo56 with f1_ f2_ f3_;have f4_:=f1_.symm;have f5_:=f3_.symm;clear f1_ f2_ f3_;subst f4_;subst f5_))
   refine hK.out _ _ ⟨(a_a b_J.out 0).trans rfl,(a_a b_J.out 1).trans rfl⟩ (fun hHeld => ?_)
   clear hK K
   refine d_A (a':=?_) ?_ ?_
   rotate_left
   ·show Act.put _ (some 54) _ = _
    simp only [Act.put,sa_,sb_,sc_,a_t,a_u]
    rfl
   refine a_z (i:=6) (N:=some 57) (v:=?_) (a':=?_) #[T_,T_,T_,T_,T_,T_,T_,F_,F_] rfl rfl (a_q HT_.out (by kernel_rfl)) (fun _ _ _ h => h) (Or.inl ⟨by rfl,?_⟩) ?_ ?_
   rotate_left
   ·intro w'
    go_simp
    with_reducible rfl
   rotate_left
   ·simp only [Act.put,sa_,sb_,sc_,a_t,a_u]
    rfl
   refine one_ (i:=7) (N:=none) #[T_,T_,T_,T_,T_,T_,T_,T_,F_] rfl rfl (b_7 HT_.out (by kernel_rfl)) (by decide) (fun K hK => ?_)
   have hs57 : w55.cell? ⟨b_E,0,none⟩ = some (.slice none 0 0):=(a_a b_T.out 0).trans rfl
   have hfs57:=a_b b_T.out 0
   have hns57_0:=d_c.out
   have hns57_1:=b_3.out
   have hms57_0:=d_d.out
   have hms57_1:=d_e.out
   have hs58 : w55.cell? ⟨b_E,1,none⟩ = some (.int .i64 0):=(a_a b_T.out 1).trans rfl
   have hfs58:=a_b b_T.out 1
   have hns58_0:=d_c.out
   have hns58_1:=b_3.out
   have hms58_0:=d_d.out
   have hms58_1:=d_e.out
   refine u_K (w1:=?_) (by rfl) rfl ?_ ?_
   rotate_left
   ·go_simp
    rfl
   refine hK.out _ _ ⟨((cell_far (p:=⟨b_E,_,none⟩) b_3.out _).trans (((cell_far (p:=⟨b_E,_,none⟩) b_3.out _).trans (hHeld.1)))),((cell_far (p:=⟨b_E,_,none⟩) b_3.out _).trans (((cell_far (p:=⟨b_E,_,none⟩) b_3.out _).trans (hHeld.2))))⟩ (fun hHeld => ?_)
   clear hK K
   refine a_z (i:=8) (N:=some 5) (v:=?_) (a':=?_) #[T_,T_,T_,T_,T_,T_,T_,T_,T_] rfl rfl (a_q HT_.out (by kernel_rfl)) (fun _ _ _ h => h) (Or.inl ⟨by rfl,?_⟩) ?_ ?_
   rotate_left
   ·intro w'
    go_simp
    with_reducible rfl
   rotate_left
   ·simp only [Act.put,sa_,sb_,sc_,a_t,a_u]
    rfl
   refine e_j (c_q HT_.out (by kernel_rfl)) ?_
   try go_wp2
   refine bodyPost_ret (c_H rfl _ _ b_E 24 #[.slice Ao56 y144.length co56,.int .i64 a1_0] (0,0) _ rfl (by (with_reducible repeat (first|refine a_l ?_ _|refine a_m ?_|refine a_j ?_ _));refine a_R (cs:=#[.slice Ao56 y144.length co56,.int .i64 0]) ?_ 1 _ rfl;(with_reducible repeat (first|refine a_l ?_ _|refine a_m ?_|refine a_j ?_ _));refine a_R (cs:=#[.slice none 0 0,.int .i64 0]) ?_ 0 _ rfl;(with_reducible repeat (first|refine a_l ?_ _|refine a_m ?_|refine a_j ?_ _));exact b_T.out) Try.underlying24 rfl (by kernel_rfl)) rfl ?_
   exact ⟨_,by first|rfl|(simp [a_w,a_x] <;> rfl)|(simp only [← hji44];first|rfl|(simp [a_w,a_x] <;> rfl))|(simp [*, a_w,a_x] <;> rfl),by (with_reducible repeat (first|apply Kd.d_W|apply Kd.d_X|apply Kd.d_5));exact Kd.f_d (Kd.k_J (p:=⟨b_E,1,none⟩) (Kd.k_J (p:=⟨b_E,0,none⟩) (Kd.f_d v_7.out (fun k_ hk => (⟨hk,hk.2.2.2⟩ : _ ∧ k_ ≠ b_E))) (fun _ hk => hk.2) (.slice Ao56 y144.length co56)) (fun _ hk => hk.2) (.int .i64 a1_0)) (fun _ hk => hk.1.1),by repeat (first|(with_reducible first|exact HB.out|apply a_g|apply a_e|apply a_h|refine a_f ?_ c_x.out|refine a_f ?_ d_f.out|refine a_f ?_ e_h.out)|exact HB.out)⟩
end Go.Proofs.Ytgglkfilkagblaa.Q
end
