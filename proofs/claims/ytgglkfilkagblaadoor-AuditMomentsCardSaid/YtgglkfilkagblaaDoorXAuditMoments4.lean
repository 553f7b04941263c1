/- Part 5 of 13 of what the row of AuditMoments stands on: contracts over the given program's functions, the plain law, the row; no condition beyond those that each theorem states. -/
import Derived.Test.YtgglkfilkagblaaDoorXAuditMoments3
section
namespace Go.Proofs.YtgglkfilkagblaaDoor.Q
open Go.RowKit Go.Proofs.YtgglkfilkagblaaDoorW.PrintWords Go.Proofs.YtgglkfilkagblaaDoorW.PrintLast Go.Proofs.YtgglkfilkagblaaDoorW.PrintMore
set_option linter.unusedVariables false
set_option linter.unusedSimpArgs false
def a_y.l0 : Nat → List (S33) → Int → Int → Int → List (S33) → Option (Bool)
 | 0,_,_,_,_,_ => none
 | k + 1,x8,x9,x10,x112000,x112001 => if x10 < x9 then (if 0 ≤ x10 then (if x10 < (x8.length : Int) then ((a_R.f k ((a_a x8 x10).f0) ((a_a x8 x10).f1) ((a_a x8 x10).f2) ((a_a x8 x10).f3) ((a_a x8 x10).f4) ((a_a x8 x10).f5) ((a_a x8 x10).f6) ((a_a x8 x10).f7) ((a_a x8 x10).f8) ((a_a x8 x10).f9) ((a_a x8 x10).f10)).bind fun t115 => (if t115 = true then (if x10 > 0 then (if 0 ≤ (wrap64 (x10 - 1)) then (if (wrap64 (x10 - 1)) < (x112001.length : Int) then (if ((a_a x112001 (wrap64 (x10 - 1))).f0) ≥ ((a_a x8 x10).f0) then (some false) else ((b_g.f x112001 ((a_a x8 x10).f0) ((a_a x8 x10).f1) ((a_a x8 x10).f2) ((a_a x8 x10).f3) ((a_a x8 x10).f4) ((a_a x8 x10).f5) ((a_a x8 x10).f6) ((a_a x8 x10).f7) ((a_a x8 x10).f8) ((a_a x8 x10).f9) ((a_a x8 x10).f10)).bind fun t117 => (if t117 = ((a_a x8 x10).f9) then ((b_e.f x112001 ((a_a x8 x10).f0) ((a_a x8 x10).f1) ((a_a x8 x10).f2) ((a_a x8 x10).f3) ((a_a x8 x10).f4) ((a_a x8 x10).f5) ((a_a x8 x10).f6) ((a_a x8 x10).f7) ((a_a x8 x10).f8) ((a_a x8 x10).f9) ((a_a x8 x10).f10) ((a_a x8 x10).f0) ((a_a x8 x10).f1) ((a_a x8 x10).f2) ((a_a x8 x10).f3) ((a_a x8 x10).f4) ((a_a x8 x10).f5) ((a_a x8 x10).f6) ((a_a x8 x10).f7) ((a_a x8 x10).f8) ((a_a x8 x10).f9) ((a_a x8 x10).f10)).bind fun t118 => (if t118 = ((a_a x8 x10).f9) then (a_y.l0 k x8 x9 (wrap64 (x10 + 1)) x112000 x112001) else (some false))) else (some false)))) else (none)) else (none)) else ((b_g.f x112001 ((a_a x8 x10).f0) ((a_a x8 x10).f1) ((a_a x8 x10).f2) ((a_a x8 x10).f3) ((a_a x8 x10).f4) ((a_a x8 x10).f5) ((a_a x8 x10).f6) ((a_a x8 x10).f7) ((a_a x8 x10).f8) ((a_a x8 x10).f9) ((a_a x8 x10).f10)).bind fun t119 => (if t119 = ((a_a x8 x10).f9) then ((b_e.f x112001 ((a_a x8 x10).f0) ((a_a x8 x10).f1) ((a_a x8 x10).f2) ((a_a x8 x10).f3) ((a_a x8 x10).f4) ((a_a x8 x10).f5) ((a_a x8 x10).f6) ((a_a x8 x10).f7) ((a_a x8 x10).f8) ((a_a x8 x10).f9) ((a_a x8 x10).f10) ((a_a x8 x10).f0) ((a_a x8 x10).f1) ((a_a x8 x10).f2) ((a_a x8 x10).f3) ((a_a x8 x10).f4) ((a_a x8 x10).f5) ((a_a x8 x10).f6) ((a_a x8 x10).f7) ((a_a x8 x10).f8) ((a_a x8 x10).f9) ((a_a x8 x10).f10)).bind fun t120 => (if t120 = ((a_a x8 x10).f9) then (a_y.l0 k x8 x9 (wrap64 (x10 + 1)) x112000 x112001) else (some false))) else (some false)))) else (some false))) else (none)) else (none)) else (if x112000 ≥ 0 then (some (decide (x112000 ≤ 1125899906842624))) else (some false))
def a_y.f (k : Nat) (a0_0 : Int) (l0_1 : List (S33)) : Option (Bool):=a_y.l0 k l0_1 (l0_1.length : Int) 0 a0_0 l0_1
theorem a_y.c_F : ∀ k,(∀ y0 y1 y2 y3 y4,LeO (a_y.l0 k y0 y1 y2 y3 y4) (a_y.l0 (k + 1) y0 y1 y2 y3 y4))
 | 0 => fun _ _ _ _ _ r h => by simp [a_y.l0] at h
 | k + 1 => by
  have ih0:=a_y.c_F k
  ·intro y0 y1 y2 y3 y4
   unfold a_y.l0
   repeat' first
   | (with_reducible exact ih0 _ _ _ _ _)
   | (with_reducible exact a_R.mono _ _ _ _ _ _ _ _ _ _ _ _)
   | (with_reducible exact LeO.refl _)
   | (with_reducible exact LeO.none _)
   | (with_reducible refine LeO.ite ?_ ?_)
   | (with_reducible refine LeO.bind ?_ (fun _ => ?_))
   | exact ih0 _ _ _ _ _
   | exact a_R.mono _ _ _ _ _ _ _ _ _ _ _ _
   | exact LeO.none _
   | refine LeO.ite ?_ ?_
   | refine LeO.bind ?_ (fun _ => ?_)
theorem a_y.mono : ∀ a0 a1 k,LeO (a_y.f k a0 a1) (a_y.f (k + 1) a0 a1):=by
 intro a0 a1 k
 have ih0:=a_y.c_F k
 unfold a_y.f
 repeat' first
  | (with_reducible exact ih0 _ _ _ _ _)
  | (with_reducible exact a_R.mono _ _ _ _ _ _ _ _ _ _ _ _)
  | (with_reducible exact LeO.refl _)
  | (with_reducible exact LeO.none _)
  | (with_reducible refine LeO.ite ?_ ?_)
  | (with_reducible refine LeO.bind ?_ (fun _ => ?_))
  | exact ih0 _ _ _ _ _
  | exact a_R.mono _ _ _ _ _ _ _ _ _ _ _ _
  | exact LeO.none _
  | refine LeO.ite ?_ ?_
  | refine LeO.bind ?_ (fun _ => ?_)
def a_y.T6 : Bool × List (List Nat × List Nat):=(true,[([],[]),([0],[0]),([1],[1]),([2,1],[2]),([3],[3]),([4,3],[3,4]),([5,3,3],[3,5]),([6],[6]),([7,6],[6,7]),([6],[6]),([9,6],[6,9]),([8,10,6],[6,8,10]),([11,6],[6,11]),([12,6],[6,12]),([6],[6]),([14,6],[6,14]),([13,15,6],[6,13,15]),([6,16,3],[3,6,16]),([3,17],[3,17]),([18,6],[18]),([19],[19]),([20,19],[19,20]),([19],[19]),([21,22,19,19],[19,21,22]),([19],[19]),([24,19],[19,24]),([23,25,19],[19,23,25]),([19,26],[19,26]),([27,23],[27]),([28],[28]),([29,28],[28,29]),([28],[28]),([30,31,28,28],[28,30,31]),([28],[28]),([33,28],[28,33]),([32,34,28],[28,32,34]),([28,35],[28,35])])
def a_y.B6 : List Nat:=[0,1,3,7,15,31,63,127,255,127,639,2047,4095,8191,127,16511,65535,131071,262143,524287,1048575,2097151,1048575,8388607,1048575,17825791,67108863,134217727,268435455,536870911,1073741823,536870911,4294967295,536870911,9126805503,34359738367,68719476735]
theorem a_y.tab6 : rtab .any (opsOf Tryd.f19 6) = a_y.T6:=by kernel_rfl
theorem a_y.h_Y : f_S a_y.T6.2 a_y.B6 = true:=by kernel_rfl
set_option maxHeartbeats 8000000 in
set_option maxRecDepth 100000 in
theorem a_y.calls (k : Nat) (a0_0 : Int) (A0_1 : Option Addr) (c0_1 : Nat) (l0_1 : List (S33)) (r : Bool) (w : World) (hr0_1 : Kd.C k33 w A0_1 l0_1.length l0_1) (hc0_1 : l0_1.length ≤ c0_1) (h : a_y.f k a0_0 l0_1 = some r) :
 Calls Tryd.prog 19 #[.agg #[.int .i64 a0_0,.slice A0_1 l0_1.length c0_1]] w fun e w' => e = .returned (.bool r) ∧ Below w.heap.size w w':=by
 have hu24:=Tryd.underlying24
 have hu33:=Tryd.underlying33
 have hu51:=Tryd.underlying51
 have b_v:=a_g.mk hr0_1
 have c_b:=a_g.mk hc0_1
 clear hr0_1 hc0_1
 have HB:=a_g.mk (Below.refl w.heap.size w)
 have H : (a_y.l0 k l0_1 (l0_1.length : Int) 0 a0_0 l0_1) = some r:=h
 clear h
 have H':=a_g.mk H
 clear H
 go_enter Tryd.func19,Tryd.ntmps19
 go_wp2_with (first|((with_reducible refine a_G (N:=1) rfl ?_);refine a_C ?hg (N:=1) ?hd (cs:=#[.int .i64 a0_0,.slice A0_1 l0_1.length c0_1]) (t:=24) ?hr ?_;(case hd => rfl);(case hg => rfl);(case hr => first|(go_simp;done)|(go_simp;rfl));intro d_9 hg w2 hbox hb;have b_h:=a_g.mk (hbox);have I_h:=a_g.mk ((by rw [hg];exact (a_n (lup_ HB.out)) : w.heap.size ≤ d_9));have d_J:=a_g.mk ((by rw [hg];exact (a_n (lup_ HB.out)) : w.heap.size ≤ d_9));replace HB:=a_g.mk (a_p (lup_ HB.out) hb);clear hb hbox hg;have x_v : w2.cell? ⟨d_9,0,none⟩ = some (.int .i64 a0_0):=(a_b b_h.out 0).trans rfl;have x_w : w2.cell? ⟨d_9,1,none⟩ = some (.slice A0_1 l0_1.length c0_1):=(a_b b_h.out 1).trans rfl;have x_N:=a_c b_h.out 0;have x_O:=a_c b_h.out 1))
 go_loopg [10] k (fun kq v10 w' => ∃ (x10_1 : Int),v10 = .int .i64 x10_1 ∧ a_g (a_y.l0 kq l0_1 (l0_1.length : Int) x10_1 a0_0 l0_1 = some r) ∧ a_g (kq ≤ k) ∧ a_g (w'.heap[d_9]? = some (.cells #[.int .i64 a0_0,(.slice A0_1 l0_1.length c0_1)] 24 (0,0))) ∧ a_g (Below w.heap.size w w'))
 case atStart => exact ⟨(0),(by first|rfl|(simp;done)|(simp [*];done)),H',⟨Nat.le_refl _⟩,⟨by (with_reducible repeat (first|refine a_e ?_ _|refine a_h ?_|refine a_d ?_ _));exact b_h.out⟩,⟨by repeat (first|(with_reducible first|exact HB.out|apply a_j|apply a_f|apply a_k|refine a_i ?_ d_J.out)|exact HB.out)⟩⟩
 case round =>
  clear H'
  try clear c1
  try clear p2
  try clear x_v
  try clear x_w
  try clear x_N
  try clear x_O
  obtain ⟨x10_1,rfl,HA,HK1,b_h,HB⟩:=hrel
  cases gk with
  | zero => exact absurd HA.out (by simp [a_y.l0])
  | succ k1 =>
   have H:=HA.out
   clear HA
   simp only [a_y.l0] at H
   by_cases c4 : x10_1 < (l0_1.length : Int)
   rotate_left
   ·rw [if_neg c4] at H
    have c4b0 : decide (x10_1 < (l0_1.length : Int)) = false:=decide_eq_false c4
    clear c4
    by_cases c112 : a0_0 ≥ 0
    ·rw [if_pos c112] at H
     have c112b0 : decide (0 ≤ a0_0) = true:=decide_eq_true c112
     clear c112
     obtain rfl:=Option.some.inj H
     have y_D : wr.cell? ⟨d_9,0,none⟩ = some (.int .i64 a0_0):=(a_b b_h.out 0).trans rfl
     have y_E : wr.cell? ⟨d_9,1,none⟩ = some (.slice A0_1 l0_1.length c0_1):=(a_b b_h.out 1).trans rfl
     have y_4:=a_c b_h.out 0
     have y_5:=a_c b_h.out 1
     go_wp2
     go_ret
     exact ⟨by first|rfl|(simp [a_u,a_v] <;> rfl)|(simp [*, a_u,a_v] <;> rfl),by repeat (first|(with_reducible first|exact HB.out|apply a_j|apply a_f|apply a_k|refine a_i ?_ d_J.out)|exact HB.out)⟩
    rw [if_neg c112] at H
    have c112b0 : decide (0 ≤ a0_0) = false:=decide_eq_false c112
    clear c112
    obtain rfl:=Option.some.inj H
    have y_F : wr.cell? ⟨d_9,0,none⟩ = some (.int .i64 a0_0):=(a_b b_h.out 0).trans rfl
    have y_G : wr.cell? ⟨d_9,1,none⟩ = some (.slice A0_1 l0_1.length c0_1):=(a_b b_h.out 1).trans rfl
    have y_6:=a_c b_h.out 0
    have y_7:=a_c b_h.out 1
    go_wp2
    go_ret
    exact ⟨by first|rfl|(simp [a_u,a_v] <;> rfl)|(simp [*, a_u,a_v] <;> rfl),by repeat (first|(with_reducible first|exact HB.out|apply a_j|apply a_f|apply a_k|refine a_i ?_ d_J.out)|exact HB.out)⟩
   rw [if_pos c4] at H
   have c4b0 : decide (x10_1 < (l0_1.length : Int)) = true:=decide_eq_true c4
   clear c4
   by_cases c5 : 0 ≤ x10_1
   rotate_left
   ·rw [if_neg c5] at H
    exact absurd H (by simp)
   rw [if_pos c5] at H
   have c5b0 : decide (0 ≤ x10_1) = true:=decide_eq_true c5
   clear c5
   by_cases c6 : x10_1 < (l0_1.length : Int)
   rotate_left
   ·rw [if_neg c6] at H
    exact absurd H (by simp)
   rw [if_pos c6] at H
   have c6b0 : decide (x10_1 < (l0_1.length : Int)) = true:=decide_eq_true c6
   clear c6
   have p112 : 0 ≤ (x10_1 : Int):=of_decide_eq_true (by first|(with_reducible assumption)|assumption)
   have q112 : x10_1 < (l0_1.length : Int):=of_decide_eq_true (by first|(with_reducible assumption)|assumption)
   obtain ⟨ad112,e112,n_u,n_v,n_w,n_x,n_y,n_z,n_A,n_B,n_C,n_D,l_b⟩:=c_e b_v.out x10_1 p112 q112
   cases e112
   replace n_u:=(HB.out.cell (World.block_lt_of_cell? w _ n_u)).trans n_u
   replace n_v:=(HB.out.cell (World.block_lt_of_cell? w _ n_v)).trans n_v
   replace n_w:=(HB.out.cell (World.block_lt_of_cell? w _ n_w)).trans n_w
   replace n_x:=(HB.out.cell (World.block_lt_of_cell? w _ n_x)).trans n_x
   replace n_y:=(HB.out.cell (World.block_lt_of_cell? w _ n_y)).trans n_y
   replace n_z:=(HB.out.cell (World.block_lt_of_cell? w _ n_z)).trans n_z
   replace n_A:=(HB.out.cell (World.block_lt_of_cell? w _ n_A)).trans n_A
   replace n_B:=(HB.out.cell (World.block_lt_of_cell? w _ n_B)).trans n_B
   replace n_C:=(HB.out.cell (World.block_lt_of_cell? w _ n_C)).trans n_C
   replace n_D:=(HB.out.cell (World.block_lt_of_cell? w _ n_D)).trans n_D
   replace l_b:=(HB.out.cell (World.block_lt_of_cell? w _ l_b)).trans l_b
   replace p112:=eq_true p112
   replace q112:=eq_true q112
   try go_wp2_with (first|((with_reducible refine a_G (N:=4) rfl ?_);refine a_C ?hg (N:=4) ?hd (cs:=#[.int .i64 0,.int .i64 0,.int .i64 0,.int .i64 0,.int .i64 0,.bool false,.bool false,.int .u32 0,.int .i64 0,.int .i64 0,.int .i64 0]) (t:=33) ?hr ?_;(case hd => rfl);(case hg => rfl);(case hr => first|(go_simp;done)|(go_simp;rfl));intro a_6 hg w14 hbox hb;have a_B:=a_g.mk (hbox);have I_i:=a_g.mk ((by rw [hg];exact (a_n (by repeat (first|(with_reducible first|exact HB.out|apply a_j|apply a_f|apply a_k|refine a_i ?_ d_J.out)|exact HB.out))) : w.heap.size ≤ a_6));have e_w:=a_g.mk ((by rw [hg];exact (a_n (by repeat (first|(with_reducible first|exact HB.out|apply a_j|apply a_f|apply a_k|refine a_i ?_ d_J.out)|exact HB.out))) : w.heap.size ≤ a_6));have b_r:=a_g.mk ((by rw [hg];exact Nat.ne_of_lt (a_L (bup_ b_h.out)) : d_9 ≠ a_6));have p_f:=a_g.mk ((by rw [hg];exact Nat.ne_of_gt (a_L (bup_ b_h.out)) : a_6 ≠ d_9));replace b_h:=a_g.mk (a_m (bup_ b_h.out) hb);replace HB:=a_g.mk (a_p (by repeat (first|(with_reducible first|exact HB.out|apply a_j|apply a_f|apply a_k|refine a_i ?_ d_J.out)|exact HB.out)) hb);clear hb hbox hg;have H_l:=p_f.out;have H_v:=b_r.out;have m_G : w14.cell? ⟨a_6,0,none⟩ = some (.int .i64 0):=(a_b a_B.out 0).trans rfl;have m_H : w14.cell? ⟨a_6,1,none⟩ = some (.int .i64 0):=(a_b a_B.out 1).trans rfl;have t_C : w14.cell? ⟨a_6,2,none⟩ = some (.int .i64 0):=(a_b a_B.out 2).trans rfl;have t_D : w14.cell? ⟨a_6,3,none⟩ = some (.int .i64 0):=(a_b a_B.out 3).trans rfl;have t_E : w14.cell? ⟨a_6,4,none⟩ = some (.int .i64 0):=(a_b a_B.out 4).trans rfl;have t_F : w14.cell? ⟨a_6,5,none⟩ = some (.bool false):=(a_b a_B.out 5).trans rfl;have t_G : w14.cell? ⟨a_6,6,none⟩ = some (.bool false):=(a_b a_B.out 6).trans rfl;have t_H : w14.cell? ⟨a_6,7,none⟩ = some (.int .u32 0):=(a_b a_B.out 7).trans rfl;have t_I : w14.cell? ⟨a_6,8,none⟩ = some (.int .i64 0):=(a_b a_B.out 8).trans rfl;have t_J : w14.cell? ⟨a_6,9,none⟩ = some (.int .i64 0):=(a_b a_B.out 9).trans rfl;have r_4 : w14.cell? ⟨a_6,10,none⟩ = some (.int .i64 0):=(a_b a_B.out 10).trans rfl;have n_d:=a_c a_B.out 0;have n_e:=a_c a_B.out 1;have v_p:=a_c a_B.out 2;have v_q:=a_c a_B.out 3;have v_r:=a_c a_B.out 4;have v_s:=a_c a_B.out 5;have v_t:=a_c a_B.out 6;have v_u:=a_c a_B.out 7;have v_v:=a_c a_B.out 8;have v_w:=a_c a_B.out 9;have s_e:=a_c a_B.out 10)|((with_reducible refine a_G (N:=5) rfl ?_);refine a_C ?hg (N:=5) ?hd (cs:=#[.nilFunc]) (t:=51) ?hr ?_;(case hd => rfl);(case hg => rfl);(case hr => first|(go_simp;done)|(go_simp;rfl));intro e_O hg w17 hbox hb;have b_V:=a_g.mk (hbox);have I_j:=a_g.mk ((by rw [hg];exact (a_n (by repeat (first|(with_reducible first|exact HB.out|apply a_j|apply a_f|apply a_k|refine a_i ?_ d_J.out|refine a_i ?_ e_w.out)|exact HB.out))) : w.heap.size ≤ e_O));have e_J:=a_g.mk ((by rw [hg];exact (a_n (by repeat (first|(with_reducible first|exact HB.out|apply a_j|apply a_f|apply a_k|refine a_i ?_ d_J.out|refine a_i ?_ e_w.out)|exact HB.out))) : w.heap.size ≤ e_O));have l_D:=a_g.mk ((by rw [hg];exact Nat.ne_of_lt (a_L (g:=d_9) (o:=.cells #[.int .i64 a0_0,.slice (some ad112) l0_1.length c0_1] 24 (0,0)) (by (with_reducible repeat (first|refine a_e ?_ _|refine a_h ?_|refine a_d ?_ _));refine a_o ?_ b_r.out _;(with_reducible repeat (first|refine a_e ?_ _|refine a_h ?_|refine a_d ?_ _));refine a_o ?_ b_r.out _;(with_reducible repeat (first|refine a_e ?_ _|refine a_h ?_|refine a_d ?_ _));refine a_o ?_ b_r.out _;(with_reducible repeat (first|refine a_e ?_ _|refine a_h ?_|refine a_d ?_ _));refine a_o ?_ b_r.out _;(with_reducible repeat (first|refine a_e ?_ _|refine a_h ?_|refine a_d ?_ _));refine a_o ?_ b_r.out _;(with_reducible repeat (first|refine a_e ?_ _|refine a_h ?_|refine a_d ?_ _));refine a_o ?_ b_r.out _;(with_reducible repeat (first|refine a_e ?_ _|refine a_h ?_|refine a_d ?_ _));refine a_o ?_ b_r.out _;(with_reducible repeat (first|refine a_e ?_ _|refine a_h ?_|refine a_d ?_ _));refine a_o ?_ b_r.out _;(with_reducible repeat (first|refine a_e ?_ _|refine a_h ?_|refine a_d ?_ _));refine a_o ?_ b_r.out _;(with_reducible repeat (first|refine a_e ?_ _|refine a_h ?_|refine a_d ?_ _));refine a_o ?_ b_r.out _;(with_reducible repeat (first|refine a_e ?_ _|refine a_h ?_|refine a_d ?_ _));refine a_o ?_ b_r.out _;(with_reducible repeat (first|refine a_e ?_ _|refine a_h ?_|refine a_d ?_ _));exact b_h.out)) : d_9 ≠ e_O));have p_g:=a_g.mk ((by rw [hg];exact Nat.ne_of_gt (a_L (g:=d_9) (o:=.cells #[.int .i64 a0_0,.slice (some ad112) l0_1.length c0_1] 24 (0,0)) (by (with_reducible repeat (first|refine a_e ?_ _|refine a_h ?_|refine a_d ?_ _));refine a_o ?_ b_r.out _;(with_reducible repeat (first|refine a_e ?_ _|refine a_h ?_|refine a_d ?_ _));refine a_o ?_ b_r.out _;(with_reducible repeat (first|refine a_e ?_ _|refine a_h ?_|refine a_d ?_ _));refine a_o ?_ b_r.out _;(with_reducible repeat (first|refine a_e ?_ _|refine a_h ?_|refine a_d ?_ _));refine a_o ?_ b_r.out _;(with_reducible repeat (first|refine a_e ?_ _|refine a_h ?_|refine a_d ?_ _));refine a_o ?_ b_r.out _;(with_reducible repeat (first|refine a_e ?_ _|refine a_h ?_|refine a_d ?_ _));refine a_o ?_ b_r.out _;(with_reducible repeat (first|refine a_e ?_ _|refine a_h ?_|refine a_d ?_ _));refine a_o ?_ b_r.out _;(with_reducible repeat (first|refine a_e ?_ _|refine a_h ?_|refine a_d ?_ _));refine a_o ?_ b_r.out _;(with_reducible repeat (first|refine a_e ?_ _|refine a_h ?_|refine a_d ?_ _));refine a_o ?_ b_r.out _;(with_reducible repeat (first|refine a_e ?_ _|refine a_h ?_|refine a_d ?_ _));refine a_o ?_ b_r.out _;(with_reducible repeat (first|refine a_e ?_ _|refine a_h ?_|refine a_d ?_ _));refine a_o ?_ b_r.out _;(with_reducible repeat (first|refine a_e ?_ _|refine a_h ?_|refine a_d ?_ _));exact b_h.out)) : e_O ≠ d_9));have l_E:=a_g.mk ((by rw [hg];exact Nat.ne_of_lt (a_L (g:=a_6) (o:=.cells #[.int .i64 ((a_a l0_1 x10_1).f0),.int .i64 ((a_a l0_1 x10_1).f1),.int .i64 ((a_a l0_1 x10_1).f2),.int .i64 ((a_a l0_1 x10_1).f3),.int .i64 ((a_a l0_1 x10_1).f4),.bool ((a_a l0_1 x10_1).f5),.bool ((a_a l0_1 x10_1).f6),.int .u32 ((a_a l0_1 x10_1).f7),.int .i64 ((a_a l0_1 x10_1).f8),.int .i64 ((a_a l0_1 x10_1).f9),.int .i64 ((a_a l0_1 x10_1).f10)] 33 (0,0)) (by (with_reducible repeat (first|refine a_e ?_ _|refine a_h ?_|refine a_d ?_ _));refine a_r (cs:=#[.int .i64 ((a_a l0_1 x10_1).f0),.int .i64 ((a_a l0_1 x10_1).f1),.int .i64 ((a_a l0_1 x10_1).f2),.int .i64 ((a_a l0_1 x10_1).f3),.int .i64 ((a_a l0_1 x10_1).f4),.bool ((a_a l0_1 x10_1).f5),.bool ((a_a l0_1 x10_1).f6),.int .u32 ((a_a l0_1 x10_1).f7),.int .i64 ((a_a l0_1 x10_1).f8),.int .i64 ((a_a l0_1 x10_1).f9),.int .i64 0]) ?_ 10 _ rfl;(with_reducible repeat (first|refine a_e ?_ _|refine a_h ?_|refine a_d ?_ _));refine a_r (cs:=#[.int .i64 ((a_a l0_1 x10_1).f0),.int .i64 ((a_a l0_1 x10_1).f1),.int .i64 ((a_a l0_1 x10_1).f2),.int .i64 ((a_a l0_1 x10_1).f3),.int .i64 ((a_a l0_1 x10_1).f4),.bool ((a_a l0_1 x10_1).f5),.bool ((a_a l0_1 x10_1).f6),.int .u32 ((a_a l0_1 x10_1).f7),.int .i64 ((a_a l0_1 x10_1).f8),.int .i64 0,.int .i64 0]) ?_ 9 _ rfl;(with_reducible repeat (first|refine a_e ?_ _|refine a_h ?_|refine a_d ?_ _));refine a_r (cs:=#[.int .i64 ((a_a l0_1 x10_1).f0),.int .i64 ((a_a l0_1 x10_1).f1),.int .i64 ((a_a l0_1 x10_1).f2),.int .i64 ((a_a l0_1 x10_1).f3),.int .i64 ((a_a l0_1 x10_1).f4),.bool ((a_a l0_1 x10_1).f5),.bool ((a_a l0_1 x10_1).f6),.int .u32 ((a_a l0_1 x10_1).f7),.int .i64 0,.int .i64 0,.int .i64 0]) ?_ 8 _ rfl;(with_reducible repeat (first|refine a_e ?_ _|refine a_h ?_|refine a_d ?_ _));refine a_r (cs:=#[.int .i64 ((a_a l0_1 x10_1).f0),.int .i64 ((a_a l0_1 x10_1).f1),.int .i64 ((a_a l0_1 x10_1).f2),.int .i64 ((a_a l0_1 x10_1).f3),.int .i64 ((a_a l0_1 x10_1).f4),.bool ((a_a l0_1 x10_1).f5),.bool ((a_a l0_1 x10_1).f6),.int .u32 0,.int .i64 0,.int .i64 0,.int .i64 0]) ?_ 7 _ rfl;(with_reducible repeat (first|refine a_e ?_ _|refine a_h ?_|refine a_d ?_ _));refine a_r (cs:=#[.int .i64 ((a_a l0_1 x10_1).f0),.int .i64 ((a_a l0_1 x10_1).f1),.int .i64 ((a_a l0_1 x10_1).f2),.int .i64 ((a_a l0_1 x10_1).f3),.int .i64 ((a_a l0_1 x10_1).f4),.bool ((a_a l0_1 x10_1).f5),.bool false,.int .u32 0,.int .i64 0,.int .i64 0,.int .i64 0]) ?_ 6 _ rfl;(with_reducible repeat (first|refine a_e ?_ _|refine a_h ?_|refine a_d ?_ _));refine a_r (cs:=#[.int .i64 ((a_a l0_1 x10_1).f0),.int .i64 ((a_a l0_1 x10_1).f1),.int .i64 ((a_a l0_1 x10_1).f2),.int .i64 ((a_a l0_1 x10_1).f3),.int .i64 ((a_a l0_1 x10_1).f4),.bool false,.bool false,.int .u32 0,.int .i64 0,.int .i64 0,.int .i64 0]) ?_ 5 _ rfl;(with_reducible repeat (first|refine a_e ?_ _|refine a_h ?_|refine a_d ?_ _));refine a_r (cs:=#[.int .i64 ((a_a l0_1 x10_1).f0),.int .i64 ((a_a l0_1 x10_1).f1),.int .i64 ((a_a l0_1 x10_1).f2),.int .i64 ((a_a l0_1 x10_1).f3),.int .i64 0,.bool false,.bool false,.int .u32 0,.int .i64 0,.int .i64 0,.int .i64 0]) ?_ 4 _ rfl;(with_reducible repeat (first|refine a_e ?_ _|refine a_h ?_|refine a_d ?_ _));refine a_r (cs:=#[.int .i64 ((a_a l0_1 x10_1).f0),.int .i64 ((a_a l0_1 x10_1).f1),.int .i64 ((a_a l0_1 x10_1).f2),.int .i64 0,.int .i64 0,.bool false,.bool false,.int .u32 0,.int .i64 0,.int .i64 0,.int .i64 0]) ?_ 3 _ rfl;(with_reducible repeat (first|refine a_e ?_ _|refine a_h ?_|refine a_d ?_ _));refine a_r (cs:=#[.int .i64 ((a_a l0_1 x10_1).f0),.int .i64 ((a_a l0_1 x10_1).f1),.int .i64 0,.int .i64 0,.int .i64 0,.bool false,.bool false,.int .u32 0,.int .i64 0,.int .i64 0,.int .i64 0]) ?_ 2 _ rfl;(with_reducible repeat (first|refine a_e ?_ _|refine a_h ?_|refine a_d ?_ _));refine a_r (cs:=#[.int .i64 ((a_a l0_1 x10_1).f0),.int .i64 0,.int .i64 0,.int .i64 0,.int .i64 0,.bool false,.bool false,.int .u32 0,.int .i64 0,.int .i64 0,.int .i64 0]) ?_ 1 _ rfl;(with_reducible repeat (first|refine a_e ?_ _|refine a_h ?_|refine a_d ?_ _));refine a_r (cs:=#[.int .i64 0,.int .i64 0,.int .i64 0,.int .i64 0,.int .i64 0,.bool false,.bool false,.int .u32 0,.int .i64 0,.int .i64 0,.int .i64 0]) ?_ 0 _ rfl;(with_reducible repeat (first|refine a_e ?_ _|refine a_h ?_|refine a_d ?_ _));exact a_B.out)) : a_6 ≠ e_O));have p_h:=a_g.mk ((by rw [hg];exact Nat.ne_of_gt (a_L (g:=a_6) (o:=.cells #[.int .i64 ((a_a l0_1 x10_1).f0),.int .i64 ((a_a l0_1 x10_1).f1),.int .i64 ((a_a l0_1 x10_1).f2),.int .i64 ((a_a l0_1 x10_1).f3),.int .i64 ((a_a l0_1 x10_1).f4),.bool ((a_a l0_1 x10_1).f5),.bool ((a_a l0_1 x10_1).f6),.int .u32 ((a_a l0_1 x10_1).f7),.int .i64 ((a_a l0_1 x10_1).f8),.int .i64 ((a_a l0_1 x10_1).f9),.int .i64 ((a_a l0_1 x10_1).f10)] 33 (0,0)) (by (with_reducible repeat (first|refine a_e ?_ _|refine a_h ?_|refine a_d ?_ _));refine a_r (cs:=#[.int .i64 ((a_a l0_1 x10_1).f0),.int .i64 ((a_a l0_1 x10_1).f1),.int .i64 ((a_a l0_1 x10_1).f2),.int .i64 ((a_a l0_1 x10_1).f3),.int .i64 ((a_a l0_1 x10_1).f4),.bool ((a_a l0_1 x10_1).f5),.bool ((a_a l0_1 x10_1).f6),.int .u32 ((a_a l0_1 x10_1).f7),.int .i64 ((a_a l0_1 x10_1).f8),.int .i64 ((a_a l0_1 x10_1).f9),.int .i64 0]) ?_ 10 _ rfl;(with_reducible repeat (first|refine a_e ?_ _|refine a_h ?_|refine a_d ?_ _));refine a_r (cs:=#[.int .i64 ((a_a l0_1 x10_1).f0),.int .i64 ((a_a l0_1 x10_1).f1),.int .i64 ((a_a l0_1 x10_1).f2),.int .i64 ((a_a l0_1 x10_1).f3),.int .i64 ((a_a l0_1 x10_1).f4),.bool ((a_a l0_1 x10_1).f5),.bool ((a_a l0_1 x10_1).f6),.int .u32 ((a_a l0_1 x10_1).f7),.int .i64 ((a_a l0_1 x10_1).f8),.int .i64 0,.int .i64 0]) ?_ 9 _ rfl;(with_reducible repeat (first|refine a_e ?_ _|refine a_h ?_|refine a_d ?_ _));refine a_r (cs:=#[.int .i64 ((a_a l0_1 x10_1).f0),.int .i64 ((a_a l0_1 x10_1).f1),.int .i64 ((a_a l0_1 x10_1).f2),.int .i64 ((a_a l0_1 x10_1).f3),.int .i64 ((a_a l0_1 x10_1).f4),.bool ((a_a l0_1 x10_1).f5),.bool ((a_a l0_1 x10_1).f6),.int .u32 ((a_a l0_1 x10_1).f7),.int .i64 0,.int .i64 0,.int .i64 0]) ?_ 8 _ rfl;(with_reducible repeat (first|refine a_e ?_ _|refine a_h ?_|refine a_d ?_ _));refine a_r (cs:=#[.int .i64 ((a_a l0_1 x10_1).f0),.int .i64 ((a_a l0_1 x10_1).f1),.int .i64 ((a_a l0_1 x10_1).f2),.int .i64 ((a_a l0_1 x10_1).f3),.int .i64 ((a_a l0_1 x10_1).f4),.bool ((a_a l0_1 x10_1).f5),.bool ((a_a l0_1 x10_1).f6),.int .u32 0,.int .i64 0,.int .i64 0,.int .i64 0]) ?_ 7 _ rfl;(with_reducible repeat (first|refine a_e ?_ _|refine a_h ?_|refine a_d ?_ _));refine a_r (cs:=#[.int .i64 ((a_a l0_1 x10_1).f0),.int .i64 ((a_a l0_1 x10_1).f1),.int .i64 ((a_a l0_1 x10_1).f2),.int .i64 ((a_a l0_1 x10_1).f3),.int .i64 ((a_a l0_1 x10_1).f4),.bool ((a_a l0_1 x10_1).f5),.bool false,.int .u32 0,.int .i64 0,.int .i64 0,.int .i64 0]) ?_ 6 _ rfl;(with_reducible repeat (first|refine a_e ?_ _|refine a_h ?_|refine a_d ?_ _));refine a_r (cs:=#[.int .i64 ((a_a l0_1 x10_1).f0),.int .i64 ((a_a l0_1 x10_1).f1),.int .i64 ((a_a l0_1 x10_1).f2),.int .i64 ((a_a l0_1 x10_1).f3),.int .i64 ((a_a l0_1 x10_1).f4),.bool false,.bool false,.int .u32 0,.int .i64 0,.int .i64 0,.int .i64 0]) ?_ 5 _ rfl;(with_reducible repeat (first|refine a_e ?_ _|refine a_h ?_|refine a_d ?_ _));refine a_r (cs:=#[.int .i64 ((a_a l0_1 x10_1).f0),.int .i64 ((a_a l0_1 x10_1).f1),.int .i64 ((a_a l0_1 x10_1).f2),.int .i64 ((a_a l0_1 x10_1).f3),.int .i64 0,.bool false,.bool false,.int .u32 0,.int .i64 0,.int .i64 0,.int .i64 0]) ?_ 4 _ rfl;(with_reducible repeat (first|refine a_e ?_ _|refine a_h ?_|refine a_d ?_ _));refine a_r (cs:=#[.int .i64 ((a_a l0_1 x10_1).f0),.int .i64 ((a_a l0_1 x10_1).f1),.int .i64 ((a_a l0_1 x10_1).f2),.int .i64 0,.int .i64 0,.bool false,.bool false,.int .u32 0,.int .i64 0,.int .i64 0,.int .i64 0]) ?_ 3 _ rfl;(with_reducible repeat (first|refine a_e ?_ _|refine a_h ?_|refine a_d ?_ _));refine a_r (cs:=#[.int .i64 ((a_a l0_1 x10_1).f0),.int .i64 ((a_a l0_1 x10_1).f1),.int .i64 0,.int .i64 0,.int .i64 0,.bool false,.bool false,.int .u32 0,.int .i64 0,.int .i64 0,.int .i64 0]) ?_ 2 _ rfl;(with_reducible repeat (first|refine a_e ?_ _|refine a_h ?_|refine a_d ?_ _));refine a_r (cs:=#[.int .i64 ((a_a l0_1 x10_1).f0),.int .i64 0,.int .i64 0,.int .i64 0,.int .i64 0,.bool false,.bool false,.int .u32 0,.int .i64 0,.int .i64 0,.int .i64 0]) ?_ 1 _ rfl;(with_reducible repeat (first|refine a_e ?_ _|refine a_h ?_|refine a_d ?_ _));refine a_r (cs:=#[.int .i64 0,.int .i64 0,.int .i64 0,.int .i64 0,.int .i64 0,.bool false,.bool false,.int .u32 0,.int .i64 0,.int .i64 0,.int .i64 0]) ?_ 0 _ rfl;(with_reducible repeat (first|refine a_e ?_ _|refine a_h ?_|refine a_d ?_ _));exact a_B.out)) : e_O ≠ a_6));replace b_h:=a_g.mk (a_m (g:=d_9) (o:=.cells #[.int .i64 a0_0,.slice (some ad112) l0_1.length c0_1] 24 (0,0)) (by (with_reducible repeat (first|refine a_e ?_ _|refine a_h ?_|refine a_d ?_ _));refine a_o ?_ b_r.out _;(with_reducible repeat (first|refine a_e ?_ _|refine a_h ?_|refine a_d ?_ _));refine a_o ?_ b_r.out _;(with_reducible repeat (first|refine a_e ?_ _|refine a_h ?_|refine a_d ?_ _));refine a_o ?_ b_r.out _;(with_reducible repeat (first|refine a_e ?_ _|refine a_h ?_|refine a_d ?_ _));refine a_o ?_ b_r.out _;(with_reducible repeat (first|refine a_e ?_ _|refine a_h ?_|refine a_d ?_ _));refine a_o ?_ b_r.out _;(with_reducible repeat (first|refine a_e ?_ _|refine a_h ?_|refine a_d ?_ _));refine a_o ?_ b_r.out _;(with_reducible repeat (first|refine a_e ?_ _|refine a_h ?_|refine a_d ?_ _));refine a_o ?_ b_r.out _;(with_reducible repeat (first|refine a_e ?_ _|refine a_h ?_|refine a_d ?_ _));refine a_o ?_ b_r.out _;(with_reducible repeat (first|refine a_e ?_ _|refine a_h ?_|refine a_d ?_ _));refine a_o ?_ b_r.out _;(with_reducible repeat (first|refine a_e ?_ _|refine a_h ?_|refine a_d ?_ _));refine a_o ?_ b_r.out _;(with_reducible repeat (first|refine a_e ?_ _|refine a_h ?_|refine a_d ?_ _));refine a_o ?_ b_r.out _;(with_reducible repeat (first|refine a_e ?_ _|refine a_h ?_|refine a_d ?_ _));exact b_h.out) hb);replace a_B:=a_g.mk (a_m (g:=a_6) (o:=.cells #[.int .i64 ((a_a l0_1 x10_1).f0),.int .i64 ((a_a l0_1 x10_1).f1),.int .i64 ((a_a l0_1 x10_1).f2),.int .i64 ((a_a l0_1 x10_1).f3),.int .i64 ((a_a l0_1 x10_1).f4),.bool ((a_a l0_1 x10_1).f5),.bool ((a_a l0_1 x10_1).f6),.int .u32 ((a_a l0_1 x10_1).f7),.int .i64 ((a_a l0_1 x10_1).f8),.int .i64 ((a_a l0_1 x10_1).f9),.int .i64 ((a_a l0_1 x10_1).f10)] 33 (0,0)) (by (with_reducible repeat (first|refine a_e ?_ _|refine a_h ?_|refine a_d ?_ _));refine a_r (cs:=#[.int .i64 ((a_a l0_1 x10_1).f0),.int .i64 ((a_a l0_1 x10_1).f1),.int .i64 ((a_a l0_1 x10_1).f2),.int .i64 ((a_a l0_1 x10_1).f3),.int .i64 ((a_a l0_1 x10_1).f4),.bool ((a_a l0_1 x10_1).f5),.bool ((a_a l0_1 x10_1).f6),.int .u32 ((a_a l0_1 x10_1).f7),.int .i64 ((a_a l0_1 x10_1).f8),.int .i64 ((a_a l0_1 x10_1).f9),.int .i64 0]) ?_ 10 _ rfl;(with_reducible repeat (first|refine a_e ?_ _|refine a_h ?_|refine a_d ?_ _));refine a_r (cs:=#[.int .i64 ((a_a l0_1 x10_1).f0),.int .i64 ((a_a l0_1 x10_1).f1),.int .i64 ((a_a l0_1 x10_1).f2),.int .i64 ((a_a l0_1 x10_1).f3),.int .i64 ((a_a l0_1 x10_1).f4),.bool ((a_a l0_1 x10_1).f5),.bool ((a_a l0_1 x10_1).f6),.int .u32 ((a_a l0_1 x10_1).f7),.int .i64 ((a_a l0_1 x10_1).f8),.int .i64 0,.int .i64 0]) ?_ 9 _ rfl;(with_reducible repeat (first|refine a_e ?_ _|refine a_h ?_|refine a_d ?_ _));refine a_r (cs:=#[.int .i64 ((a_a l0_1 x10_1).f0),.int .i64 ((a_a l0_1 x10_1).f1),.int .i64 ((a_a l0_1 x10_1).f2),.int .i64 ((a_a l0_1 x10_1).f3),.int .i64 ((a_a l0_1 x10_1).f4),.bool ((a_a l0_1 x10_1).f5),.bool ((a_a l0_1 x10_1).f6),.int .u32 ((a_a l0_1 x10_1).f7),.int .i64 0,.int .i64 0,.int .i64 0]) ?_ 8 _ rfl;(with_reducible repeat (first|refine a_e ?_ _|refine a_h ?_|refine a_d ?_ _));refine a_r (cs:=#[.int .i64 ((a_a l0_1 x10_1).f0),.int .i64 ((a_a l0_1 x10_1).f1),.int .i64 ((a_a l0_1 x10_1).f2),.int .i64 ((a_a l0_1 x10_1).f3),.int .i64 ((a_a l0_1 x10_1).f4),.bool ((a_a l0_1 x10_1).f5),.bool ((a_a l0_1 x10_1).f6),.int .u32 0,.int .i64 0,.int .i64 0,.int .i64 0]) ?_ 7 _ rfl;(with_reducible repeat (first|refine a_e ?_ _|refine a_h ?_|refine a_d ?_ _));refine a_r (cs:=#[.int .i64 ((a_a l0_1 x10_1).f0),.int .i64 ((a_a l0_1 x10_1).f1),.int .i64 ((a_a l0_1 x10_1).f2),.int .i64 ((a_a l0_1 x10_1).f3),.int .i64 ((a_a l0_1 x10_1).f4),.bool ((a_a l0_1 x10_1).f5),.bool false,.int .u32 0,.int .i64 0,.int .i64 0,.int .i64 0]) ?_ 6 _ rfl;(with_reducible repeat (first|refine a_e ?_ _|refine a_h ?_|refine a_d ?_ _));refine a_r (cs:=#[.int .i64 ((a_a l0_1 x10_1).f0),.int .i64 ((a_a l0_1 x10_1).f1),.int .i64 ((a_a l0_1 x10_1).f2),.int .i64 ((a_a l0_1 x10_1).f3),.int .i64 ((a_a l0_1 x10_1).f4),.bool false,.bool false,.int .u32 0,.int .i64 0,.int .i64 0,.int .i64 0]) ?_ 5 _ rfl;(with_reducible repeat (first|refine a_e ?_ _|refine a_h ?_|refine a_d ?_ _));refine a_r (cs:=#[.int .i64 ((a_a l0_1 x10_1).f0),.int .i64 ((a_a l0_1 x10_1).f1),.int .i64 ((a_a l0_1 x10_1).f2),.int .i64 ((a_a l0_1 x10_1).f3),.int .i64 0,.bool false,.bool false,.int .u32 0,.int .i64 0,.int .i64 0,.int .i64 0]) ?_ 4 _ rfl;(with_reducible repeat (first|refine a_e ?_ _|refine a_h ?_|refine a_d ?_ _));refine a_r (cs:=#[.int .i64 ((a_a l0_1 x10_1).f0),.int .i64 ((a_a l0_1 x10_1).f1),.int .i64 ((a_a l0_1 x10_1).f2),.int .i64 0,.int .i64 0,.bool false,.bool false,.int .u32 0,.int .i64 0,.int .i64 0,.int .i64 0]) ?_ 3 _ rfl;(with_reducible repeat (first|refine a_e ?_ _|refine a_h ?_|refine a_d ?_ _));refine a_r (cs:=#[.int .i64 ((a_a l0_1 x10_1).f0),.int .i64 ((a_a l0_1 x10_1).f1),.int .i64 0,.int .i64 0,.int .i64 0,.bool false,.bool false,.int .u32 0,.int .i64 0,.int .i64 0,.int .i64 0]) ?_ 2 _ rfl;(with_reducible repeat (first|refine a_e ?_ _|refine a_h ?_|refine a_d ?_ _));refine a_r (cs:=#[.int .i64 ((a_a l0_1 x10_1).f0),.int .i64 0,.int .i64 0,.int .i64 0,.int .i64 0,.bool false,.bool false,.int .u32 0,.int .i64 0,.int .i64 0,.int .i64 0]) ?_ 1 _ rfl;(with_reducible repeat (first|refine a_e ?_ _|refine a_h ?_|refine a_d ?_ _));refine a_r (cs:=#[.int .i64 0,.int .i64 0,.int .i64 0,.int .i64 0,.int .i64 0,.bool false,.bool false,.int .u32 0,.int .i64 0,.int .i64 0,.int .i64 0]) ?_ 0 _ rfl;(with_reducible repeat (first|refine a_e ?_ _|refine a_h ?_|refine a_d ?_ _));exact a_B.out) hb);replace HB:=a_g.mk (a_p (by repeat (first|(with_reducible first|exact HB.out|apply a_j|apply a_f|apply a_k|refine a_i ?_ d_J.out|refine a_i ?_ e_w.out)|exact HB.out)) hb);clear hb hbox hg;have x_7:=p_g.out;have y_e:=l_D.out;have x_8:=p_h.out;have y_f:=l_E.out;have g_B : w17.cell? ⟨e_O,0,none⟩ = some (.nilFunc):=(a_b b_V.out 0).trans rfl;have g_M:=a_c b_V.out 0))
   have n0_ : a_g ((w17.setCell ⟨e_O,0,none⟩ (.func (.func 33) #[] #[.pointer (some ⟨a_6,0,none⟩)])).heap[d_9]? = some (.cells #[.int .i64 a0_0,.slice (some ad112) l0_1.length c0_1] 24 (0,0))):=⟨by (with_reducible repeat (first|refine a_e ?_ _|refine a_h ?_|refine a_d ?_ _));refine a_o ?_ l_D.out _;(with_reducible repeat (first|refine a_e ?_ _|refine a_h ?_|refine a_d ?_ _));exact b_h.out⟩
   have n1_ : a_g ((w17.setCell ⟨e_O,0,none⟩ (.func (.func 33) #[] #[.pointer (some ⟨a_6,0,none⟩)])).heap[a_6]? = some (.cells #[.int .i64 ((a_a l0_1 x10_1).f0),.int .i64 ((a_a l0_1 x10_1).f1),.int .i64 ((a_a l0_1 x10_1).f2),.int .i64 ((a_a l0_1 x10_1).f3),.int .i64 ((a_a l0_1 x10_1).f4),.bool ((a_a l0_1 x10_1).f5),.bool ((a_a l0_1 x10_1).f6),.int .u32 ((a_a l0_1 x10_1).f7),.int .i64 ((a_a l0_1 x10_1).f8),.int .i64 ((a_a l0_1 x10_1).f9),.int .i64 ((a_a l0_1 x10_1).f10)] 33 (0,0))):=⟨by (with_reducible repeat (first|refine a_e ?_ _|refine a_h ?_|refine a_d ?_ _));refine a_o ?_ l_E.out _;(with_reducible repeat (first|refine a_e ?_ _|refine a_h ?_|refine a_d ?_ _));exact a_B.out⟩
   have n2_ : a_g ((w17.setCell ⟨e_O,0,none⟩ (.func (.func 33) #[] #[.pointer (some ⟨a_6,0,none⟩)])).heap[e_O]? = some (.cells #[.func (.func 33) #[] #[.pointer (some ⟨a_6,0,none⟩)]] 51 (0,0))):=⟨by (with_reducible repeat (first|refine a_e ?_ _|refine a_h ?_|refine a_d ?_ _));refine a_r (cs:=#[.nilFunc]) ?_ 0 _ rfl;(with_reducible repeat (first|refine a_e ?_ _|refine a_h ?_|refine a_d ?_ _));exact b_V.out⟩
   have n3_ : a_g (Below w.heap.size w (w17.setCell ⟨e_O,0,none⟩ (.func (.func 33) #[] #[.pointer (some ⟨a_6,0,none⟩)]))):=⟨by repeat (first|(with_reducible first|exact HB.out|apply a_j|apply a_f|apply a_k|refine a_i ?_ d_J.out|refine a_i ?_ e_w.out|refine a_i ?_ e_J.out)|exact HB.out)⟩
   (try clear b_h)
   (try clear a_B)
   (try clear b_V)
   (try clear HB)
   generalize (w17.setCell ⟨e_O,0,none⟩ (.func (.func 33) #[] #[.pointer (some ⟨a_6,0,none⟩)])) = w21 at n0_ n1_ n2_ n3_ ⊢
   have b_h:=n0_
   have a_B:=n1_
   have b_V:=n2_
   have HB:=n3_
   clear n0_ n1_ n2_ n3_
   replace b_h:=a_g.mk (a_h b_h.out)
   replace a_B:=a_g.mk (a_h a_B.out)
   replace b_V:=a_g.mk (a_h b_V.out)
   replace HB:=a_g.mk (a_k HB.out)
   replace H:=Option.bind_eq_some_iff.mp H
   obtain ⟨t115,A70,H⟩:=H
   replace H : (if t115 = true then (if x10_1 > 0 then (if 0 ≤ (wrap64 (x10_1 - 1)) then (if (wrap64 (x10_1 - 1)) < (l0_1.length : Int) then (if ((a_a l0_1 (wrap64 (x10_1 - 1))).f0) ≥ ((a_a l0_1 x10_1).f0) then (some false) else ((b_g.f l0_1 ((a_a l0_1 x10_1).f0) ((a_a l0_1 x10_1).f1) ((a_a l0_1 x10_1).f2) ((a_a l0_1 x10_1).f3) ((a_a l0_1 x10_1).f4) ((a_a l0_1 x10_1).f5) ((a_a l0_1 x10_1).f6) ((a_a l0_1 x10_1).f7) ((a_a l0_1 x10_1).f8) ((a_a l0_1 x10_1).f9) ((a_a l0_1 x10_1).f10)).bind fun t117 => (if t117 = ((a_a l0_1 x10_1).f9) then ((b_e.f l0_1 ((a_a l0_1 x10_1).f0) ((a_a l0_1 x10_1).f1) ((a_a l0_1 x10_1).f2) ((a_a l0_1 x10_1).f3) ((a_a l0_1 x10_1).f4) ((a_a l0_1 x10_1).f5) ((a_a l0_1 x10_1).f6) ((a_a l0_1 x10_1).f7) ((a_a l0_1 x10_1).f8) ((a_a l0_1 x10_1).f9) ((a_a l0_1 x10_1).f10) ((a_a l0_1 x10_1).f0) ((a_a l0_1 x10_1).f1) ((a_a l0_1 x10_1).f2) ((a_a l0_1 x10_1).f3) ((a_a l0_1 x10_1).f4) ((a_a l0_1 x10_1).f5) ((a_a l0_1 x10_1).f6) ((a_a l0_1 x10_1).f7) ((a_a l0_1 x10_1).f8) ((a_a l0_1 x10_1).f9) ((a_a l0_1 x10_1).f10)).bind fun t118 => (if t118 = ((a_a l0_1 x10_1).f9) then (a_y.l0 k1 l0_1 (l0_1.length : Int) (wrap64 (x10_1 + 1)) a0_0 l0_1) else (some false))) else (some false)))) else (none)) else (none)) else ((b_g.f l0_1 ((a_a l0_1 x10_1).f0) ((a_a l0_1 x10_1).f1) ((a_a l0_1 x10_1).f2) ((a_a l0_1 x10_1).f3) ((a_a l0_1 x10_1).f4) ((a_a l0_1 x10_1).f5) ((a_a l0_1 x10_1).f6) ((a_a l0_1 x10_1).f7) ((a_a l0_1 x10_1).f8) ((a_a l0_1 x10_1).f9) ((a_a l0_1 x10_1).f10)).bind fun t119 => (if t119 = ((a_a l0_1 x10_1).f9) then ((b_e.f l0_1 ((a_a l0_1 x10_1).f0) ((a_a l0_1 x10_1).f1) ((a_a l0_1 x10_1).f2) ((a_a l0_1 x10_1).f3) ((a_a l0_1 x10_1).f4) ((a_a l0_1 x10_1).f5) ((a_a l0_1 x10_1).f6) ((a_a l0_1 x10_1).f7) ((a_a l0_1 x10_1).f8) ((a_a l0_1 x10_1).f9) ((a_a l0_1 x10_1).f10) ((a_a l0_1 x10_1).f0) ((a_a l0_1 x10_1).f1) ((a_a l0_1 x10_1).f2) ((a_a l0_1 x10_1).f3) ((a_a l0_1 x10_1).f4) ((a_a l0_1 x10_1).f5) ((a_a l0_1 x10_1).f6) ((a_a l0_1 x10_1).f7) ((a_a l0_1 x10_1).f8) ((a_a l0_1 x10_1).f9) ((a_a l0_1 x10_1).f10)).bind fun t120 => (if t120 = ((a_a l0_1 x10_1).f9) then (a_y.l0 k1 l0_1 (l0_1.length : Int) (wrap64 (x10_1 + 1)) a0_0 l0_1) else (some false))) else (some false)))) else (some false)) = some r:=H
   have A7:=a_g.mk A70
   clear A70
   by_cases c8 : t115 = true
   rotate_left
   ·replace c8:=Bool.eq_false_iff.mpr c8
    subst c8
    have H1 : (some false) = some r:=by rw [if_neg (show ¬ (false = true) by decide)] at H;exact H
    clear H
    have H:=H1
    clear H1
    obtain rfl:=Option.some.inj H
    refine d_p (n:=37) (S:=fun w' => w'.cell? ⟨a_6,0,none⟩ = some (.int .i64 ((a_a l0_1 x10_1).f0)) ∧ w'.cell? ⟨a_6,1,none⟩ = some (.int .i64 ((a_a l0_1 x10_1).f1)) ∧ w'.cell? ⟨a_6,2,none⟩ = some (.int .i64 ((a_a l0_1 x10_1).f2)) ∧ w'.cell? ⟨a_6,3,none⟩ = some (.int .i64 ((a_a l0_1 x10_1).f3)) ∧ w'.cell? ⟨a_6,4,none⟩ = some (.int .i64 ((a_a l0_1 x10_1).f4)) ∧ w'.cell? ⟨a_6,5,none⟩ = some (.bool ((a_a l0_1 x10_1).f5)) ∧ w'.cell? ⟨a_6,6,none⟩ = some (.bool ((a_a l0_1 x10_1).f6)) ∧ w'.cell? ⟨a_6,7,none⟩ = some (.int .u32 ((a_a l0_1 x10_1).f7)) ∧ w'.cell? ⟨a_6,8,none⟩ = some (.int .i64 ((a_a l0_1 x10_1).f8)) ∧ w'.cell? ⟨a_6,9,none⟩ = some (.int .i64 ((a_a l0_1 x10_1).f9)) ∧ w'.cell? ⟨a_6,10,none⟩ = some (.int .i64 ((a_a l0_1 x10_1).f10))) (ds:=[]) Z0_ (by kernel_rfl) rfl rfl ⟨(a_b a_B.out 0).trans rfl,(a_b a_B.out 1).trans rfl,(a_b a_B.out 2).trans rfl,(a_b a_B.out 3).trans rfl,(a_b a_B.out 4).trans rfl,(a_b a_B.out 5).trans rfl,(a_b a_B.out 6).trans rfl,(a_b a_B.out 7).trans rfl,(a_b a_B.out 8).trans rfl,(a_b a_B.out 9).trans rfl,(a_b a_B.out 10).trans rfl⟩ (fun hHeld => ?_);refine b_T a_y.tab6 a_y.h_Y (fun HT_ HW_ => ?_)
    generalize w21.drew = w110 at b_h a_B b_V HB hHeld ⊢
    refine b_z (i:=0) (N:=some 17) (v:=?_) (a':=?_) Z4_ rfl rfl (a_N HT_.out HW_.out (by kernel_rfl)) (fun _ _ _ h => h) (Or.inl ⟨by rfl,?_⟩) hHeld ?_ ?_
    rotate_left
    ·rintro w' ⟨s0,s1,s2,s3,s4,s5,s6,s7,s8,s9,s10⟩
     go_simp
     with_reducible rfl
    rotate_left
    ·simp only [Act.put,sa_,sb_,sc_,a_0,a_1]
     rfl
    refine one_ (i:=1) (N:=some 18) Z10_ rfl rfl (b_W HT_.out (by kernel_rfl)) (by decide) (fun K hK => ?_)
    refine d_f Tryd.func35 (by kernel_rfl) rfl #[.agg #[.int .i64 ((a_a l0_1 x10_1).f0),.int .i64 ((a_a l0_1 x10_1).f1),.int .i64 ((a_a l0_1 x10_1).f2),.int .i64 ((a_a l0_1 x10_1).f3),.int .i64 ((a_a l0_1 x10_1).f4),.bool ((a_a l0_1 x10_1).f5),.bool ((a_a l0_1 x10_1).f6),.int .u32 ((a_a l0_1 x10_1).f7),.int .i64 ((a_a l0_1 x10_1).f8),.int .i64 ((a_a l0_1 x10_1).f9),.int .i64 ((a_a l0_1 x10_1).f10)]] (by rfl) rfl rfl (by (try simp only [List.map_toArray,List.map_cons,List.map_nil]);first|done|rfl|(simp only [List.length_drop,List.length_take];rfl)) ?_
    with_reducible refine (a_R.calls k1 ((a_a l0_1 x10_1).f0) ((a_a l0_1 x10_1).f1) ((a_a l0_1 x10_1).f2) ((a_a l0_1 x10_1).f3) ((a_a l0_1 x10_1).f4) ((a_a l0_1 x10_1).f5) ((a_a l0_1 x10_1).f6) ((a_a l0_1 x10_1).f7) ((a_a l0_1 x10_1).f8) ((a_a l0_1 x10_1).f9) ((a_a l0_1 x10_1).f10) false _ A7.out).mono ?_
    rintro e w111 ⟨rfl,hb⟩
    refine ⟨_,rfl,?_⟩
    replace b_h:=a_g.mk (a_m (bup_ b_h.out) hb)
    replace a_B:=a_g.mk (a_m (bup_ a_B.out) hb)
    replace b_V:=a_g.mk (a_m (bup_ b_V.out) hb)
    replace HB:=a_g.mk (a_p (by repeat (first|(with_reducible first|exact HB.out|apply a_j|apply a_f|apply a_k|refine a_i ?_ d_J.out|refine a_i ?_ e_w.out|refine a_i ?_ e_J.out)|exact HB.out)) hb)
    (try clear hb)
    (try clear hb2)
    (try clear hk)
    (try clear hi)
    refine hK.out _ _ ⟨(a_b a_B.out 0).trans rfl,(a_b a_B.out 1).trans rfl,(a_b a_B.out 2).trans rfl,(a_b a_B.out 3).trans rfl,(a_b a_B.out 4).trans rfl,(a_b a_B.out 5).trans rfl,(a_b a_B.out 6).trans rfl,(a_b a_B.out 7).trans rfl,(a_b a_B.out 8).trans rfl,(a_b a_B.out 9).trans rfl,(a_b a_B.out 10).trans rfl⟩ (fun hHeld => ?_)
    clear hK K
    refine c_N (a':=?_) ?_ ?_
    rotate_left
    ·show Act.put _ (some 18) _ = _
     simp only [Act.put,sa_,sb_,sc_,a_0,a_1]
     rfl
    refine pt_ 2 (some 19) Z13_ HT_ ?_
    refine pt_ 3 (some 20) Z17_ HT_ ?_
    refine pk_ 4 (some 21) Z20_ HT_ ?_
    refine pk_ 5 (some 22) Z25_ HT_ ?_
    refine pk_ 6 (some 23) Z28_ HT_ ?_
    refine pk_ 7 (some 24) Z32_ HT_ ?_
    refine pk_ 8 (some 25) Z39_ HT_ ?_
    refine pk_ 9 (some 26) Z42_ HT_ ?_
    refine pk_ 10 (some 27) Z45_ HT_ ?_
    refine pk_ 11 (some 28) Z49_ HT_ ?_
    refine pk_ 12 (some 29) Z53_ HT_ ?_
    refine pk_ 13 (some 30) Z57_ HT_ ?_
    refine pk_ 14 (some 31) Z60_ HT_ ?_
    refine pk_ 15 (some 32) Z66_ HT_ ?_
    refine pk_ 16 (some 33) Z69_ HT_ ?_
    refine pk_ 17 (some 34) Z72_ HT_ ?_
    refine pt_ 18 (some 35) Z76_ HT_ ?_
    refine pt_ 19 (some 36) Z79_ HT_ ?_
    refine pk_ 20 (some 37) Z82_ HT_ ?_
    refine pk_ 21 (some 38) Z85_ HT_ ?_
    refine pk_ 22 (some 39) Z88_ HT_ ?_
    refine pk_ 23 (some 40) Z92_ HT_ ?_
    refine pk_ 24 (some 41) Z94_ HT_ ?_
    refine pk_ 25 (some 42) Z96_ HT_ ?_
    refine pk_ 26 (some 43) Z97_ HT_ ?_
    refine pt_ 27 (some 44) Z98_ HT_ ?_
    refine pt_ 28 (some 45) Z99_ HT_ ?_
    refine pk_ 29 (some 46) l_H HT_ ?_
    refine pk_ 30 (some 47) r_T HT_ ?_
    refine pk_ 31 (some 48) r_U HT_ ?_
    refine pk_ 32 (some 49) r_X HT_ ?_
    refine pk_ 33 (some 50) r_Y HT_ ?_
    refine pk_ 34 (some 51) l_I HT_ ?_
    refine pk_ 35 (some 52) l_J HT_ ?_
    refine pt_ 36 (some 53) l_K HT_ ?_
    refine e_U (c_E HT_.out (by kernel_rfl)) ?_
    try go_wp2
    go_ret
    exact ⟨by first|rfl|(simp [a_u,a_v] <;> rfl)|(simp [*, a_u,a_v] <;> rfl),by repeat (first|(with_reducible first|exact HB.out|apply a_j|apply a_f|apply a_k|refine a_i ?_ d_J.out|refine a_i ?_ e_w.out|refine a_i ?_ e_J.out)|exact HB.out)⟩
   subst c8
   have H1 : (if x10_1 > 0 then (if 0 ≤ (wrap64 (x10_1 - 1)) then (if (wrap64 (x10_1 - 1)) < (l0_1.length : Int) then (if ((a_a l0_1 (wrap64 (x10_1 - 1))).f0) ≥ ((a_a l0_1 x10_1).f0) then (some false) else ((b_g.f l0_1 ((a_a l0_1 x10_1).f0) ((a_a l0_1 x10_1).f1) ((a_a l0_1 x10_1).f2) ((a_a l0_1 x10_1).f3) ((a_a l0_1 x10_1).f4) ((a_a l0_1 x10_1).f5) ((a_a l0_1 x10_1).f6) ((a_a l0_1 x10_1).f7) ((a_a l0_1 x10_1).f8) ((a_a l0_1 x10_1).f9) ((a_a l0_1 x10_1).f10)).bind fun t117 => (if t117 = ((a_a l0_1 x10_1).f9) then ((b_e.f l0_1 ((a_a l0_1 x10_1).f0) ((a_a l0_1 x10_1).f1) ((a_a l0_1 x10_1).f2) ((a_a l0_1 x10_1).f3) ((a_a l0_1 x10_1).f4) ((a_a l0_1 x10_1).f5) ((a_a l0_1 x10_1).f6) ((a_a l0_1 x10_1).f7) ((a_a l0_1 x10_1).f8) ((a_a l0_1 x10_1).f9) ((a_a l0_1 x10_1).f10) ((a_a l0_1 x10_1).f0) ((a_a l0_1 x10_1).f1) ((a_a l0_1 x10_1).f2) ((a_a l0_1 x10_1).f3) ((a_a l0_1 x10_1).f4) ((a_a l0_1 x10_1).f5) ((a_a l0_1 x10_1).f6) ((a_a l0_1 x10_1).f7) ((a_a l0_1 x10_1).f8) ((a_a l0_1 x10_1).f9) ((a_a l0_1 x10_1).f10)).bind fun t118 => (if t118 = ((a_a l0_1 x10_1).f9) then (a_y.l0 k1 l0_1 (l0_1.length : Int) (wrap64 (x10_1 + 1)) a0_0 l0_1) else (some false))) else (some false)))) else (none)) else (none)) else ((b_g.f l0_1 ((a_a l0_1 x10_1).f0) ((a_a l0_1 x10_1).f1) ((a_a l0_1 x10_1).f2) ((a_a l0_1 x10_1).f3) ((a_a l0_1 x10_1).f4) ((a_a l0_1 x10_1).f5) ((a_a l0_1 x10_1).f6) ((a_a l0_1 x10_1).f7) ((a_a l0_1 x10_1).f8) ((a_a l0_1 x10_1).f9) ((a_a l0_1 x10_1).f10)).bind fun t119 => (if t119 = ((a_a l0_1 x10_1).f9) then ((b_e.f l0_1 ((a_a l0_1 x10_1).f0) ((a_a l0_1 x10_1).f1) ((a_a l0_1 x10_1).f2) ((a_a l0_1 x10_1).f3) ((a_a l0_1 x10_1).f4) ((a_a l0_1 x10_1).f5) ((a_a l0_1 x10_1).f6) ((a_a l0_1 x10_1).f7) ((a_a l0_1 x10_1).f8) ((a_a l0_1 x10_1).f9) ((a_a l0_1 x10_1).f10) ((a_a l0_1 x10_1).f0) ((a_a l0_1 x10_1).f1) ((a_a l0_1 x10_1).f2) ((a_a l0_1 x10_1).f3) ((a_a l0_1 x10_1).f4) ((a_a l0_1 x10_1).f5) ((a_a l0_1 x10_1).f6) ((a_a l0_1 x10_1).f7) ((a_a l0_1 x10_1).f8) ((a_a l0_1 x10_1).f9) ((a_a l0_1 x10_1).f10)).bind fun t120 => (if t120 = ((a_a l0_1 x10_1).f9) then (a_y.l0 k1 l0_1 (l0_1.length : Int) (wrap64 (x10_1 + 1)) a0_0 l0_1) else (some false))) else (some false)))) = some r:=by rw [if_pos rfl] at H;exact H
   clear H
   have H:=H1
   clear H1
   by_cases c9 : x10_1 > 0
   rotate_left
   ·rw [if_neg c9] at H
    have c9b0 : decide (0 < x10_1) = false:=decide_eq_false c9
    clear c9
    replace H:=Option.bind_eq_some_iff.mp H
    obtain ⟨t119,A630,H⟩:=H
    replace H : (if t119 = ((a_a l0_1 x10_1).f9) then ((b_e.f l0_1 ((a_a l0_1 x10_1).f0) ((a_a l0_1 x10_1).f1) ((a_a l0_1 x10_1).f2) ((a_a l0_1 x10_1).f3) ((a_a l0_1 x10_1).f4) ((a_a l0_1 x10_1).f5) ((a_a l0_1 x10_1).f6) ((a_a l0_1 x10_1).f7) ((a_a l0_1 x10_1).f8) ((a_a l0_1 x10_1).f9) ((a_a l0_1 x10_1).f10) ((a_a l0_1 x10_1).f0) ((a_a l0_1 x10_1).f1) ((a_a l0_1 x10_1).f2) ((a_a l0_1 x10_1).f3) ((a_a l0_1 x10_1).f4) ((a_a l0_1 x10_1).f5) ((a_a l0_1 x10_1).f6) ((a_a l0_1 x10_1).f7) ((a_a l0_1 x10_1).f8) ((a_a l0_1 x10_1).f9) ((a_a l0_1 x10_1).f10)).bind fun t120 => (if t120 = ((a_a l0_1 x10_1).f9) then (a_y.l0 k1 l0_1 (l0_1.length : Int) (wrap64 (x10_1 + 1)) a0_0 l0_1) else (some false))) else (some false)) = some r:=H
    have A63:=a_g.mk A630
    clear A630
    by_cases c64 : t119 = ((a_a l0_1 x10_1).f9)
    rotate_left
    ·rw [if_neg c64] at H
     have c64b0 : (t119 == ((a_a l0_1 x10_1).f9)) = false:=beq_eq_false_iff_ne.mpr c64
     have c64b1 : (t119 != ((a_a l0_1 x10_1).f9)) = true:=bne_iff_ne.mpr c64
     obtain rfl:=Option.some.inj H
     refine d_p (n:=37) (S:=fun w' => w'.cell? ⟨a_6,0,none⟩ = some (.int .i64 ((a_a l0_1 x10_1).f0)) ∧ w'.cell? ⟨a_6,1,none⟩ = some (.int .i64 ((a_a l0_1 x10_1).f1)) ∧ w'.cell? ⟨a_6,2,none⟩ = some (.int .i64 ((a_a l0_1 x10_1).f2)) ∧ w'.cell? ⟨a_6,3,none⟩ = some (.int .i64 ((a_a l0_1 x10_1).f3)) ∧ w'.cell? ⟨a_6,4,none⟩ = some (.int .i64 ((a_a l0_1 x10_1).f4)) ∧ w'.cell? ⟨a_6,5,none⟩ = some (.bool ((a_a l0_1 x10_1).f5)) ∧ w'.cell? ⟨a_6,6,none⟩ = some (.bool ((a_a l0_1 x10_1).f6)) ∧ w'.cell? ⟨a_6,7,none⟩ = some (.int .u32 ((a_a l0_1 x10_1).f7)) ∧ w'.cell? ⟨a_6,8,none⟩ = some (.int .i64 ((a_a l0_1 x10_1).f8)) ∧ w'.cell? ⟨a_6,9,none⟩ = some (.int .i64 ((a_a l0_1 x10_1).f9)) ∧ w'.cell? ⟨a_6,10,none⟩ = some (.int .i64 ((a_a l0_1 x10_1).f10)) ∧ w'.cell? ⟨d_9,0,none⟩ = some (.int .i64 a0_0) ∧ w'.cell? ⟨d_9,1,none⟩ = some (.slice (some ad112) l0_1.length c0_1) ∧ w'.cell? ⟨e_O,0,none⟩ = some (.func (.func 33) #[] #[.pointer (some ⟨a_6,0,none⟩)])) (ds:=[]) Z0_ (by kernel_rfl) rfl rfl ⟨(a_b a_B.out 0).trans rfl,(a_b a_B.out 1).trans rfl,(a_b a_B.out 2).trans rfl,(a_b a_B.out 3).trans rfl,(a_b a_B.out 4).trans rfl,(a_b a_B.out 5).trans rfl,(a_b a_B.out 6).trans rfl,(a_b a_B.out 7).trans rfl,(a_b a_B.out 8).trans rfl,(a_b a_B.out 9).trans rfl,(a_b a_B.out 10).trans rfl,(a_b b_h.out 0).trans rfl,(a_b b_h.out 1).trans rfl,(a_b b_V.out 0).trans rfl⟩ (fun hHeld => ?_);refine b_T a_y.tab6 a_y.h_Y (fun HT_ HW_ => ?_)
     generalize w21.drew = w99 at b_h a_B b_V HB hHeld ⊢
     refine b_z (i:=0) (N:=some 17) (v:=?_) (a':=?_) Z4_ rfl rfl (a_N HT_.out HW_.out (by kernel_rfl)) (fun _ _ _ h => h) (Or.inl ⟨by rfl,?_⟩) hHeld ?_ ?_
     rotate_left
     ·rintro w' ⟨s0,s1,s2,s3,s4,s5,s6,s7,s8,s9,s10,s11,s12,s13⟩
      go_simp
      with_reducible rfl
     rotate_left
     ·simp only [Act.put,sa_,sb_,sc_,a_0,a_1]
      rfl
     refine one_ (i:=1) (N:=some 18) Z10_ rfl rfl (b_W HT_.out (by kernel_rfl)) (by decide) (fun K hK => ?_)
     refine d_f Tryd.func35 (by kernel_rfl) rfl #[.agg #[.int .i64 ((a_a l0_1 x10_1).f0),.int .i64 ((a_a l0_1 x10_1).f1),.int .i64 ((a_a l0_1 x10_1).f2),.int .i64 ((a_a l0_1 x10_1).f3),.int .i64 ((a_a l0_1 x10_1).f4),.bool ((a_a l0_1 x10_1).f5),.bool ((a_a l0_1 x10_1).f6),.int .u32 ((a_a l0_1 x10_1).f7),.int .i64 ((a_a l0_1 x10_1).f8),.int .i64 ((a_a l0_1 x10_1).f9),.int .i64 ((a_a l0_1 x10_1).f10)]] (by rfl) rfl rfl (by (try simp only [List.map_toArray,List.map_cons,List.map_nil]);first|done|rfl|(simp only [List.length_drop,List.length_take];rfl)) ?_
     with_reducible refine (a_R.calls k1 ((a_a l0_1 x10_1).f0) ((a_a l0_1 x10_1).f1) ((a_a l0_1 x10_1).f2) ((a_a l0_1 x10_1).f3) ((a_a l0_1 x10_1).f4) ((a_a l0_1 x10_1).f5) ((a_a l0_1 x10_1).f6) ((a_a l0_1 x10_1).f7) ((a_a l0_1 x10_1).f8) ((a_a l0_1 x10_1).f9) ((a_a l0_1 x10_1).f10) true _ A7.out).mono ?_
     rintro e w100 ⟨rfl,hb⟩
     refine ⟨_,rfl,?_⟩
     replace b_h:=a_g.mk (a_m (bup_ b_h.out) hb)
     replace a_B:=a_g.mk (a_m (bup_ a_B.out) hb)
     replace b_V:=a_g.mk (a_m (bup_ b_V.out) hb)
     replace HB:=a_g.mk (a_p (by repeat (first|(with_reducible first|exact HB.out|apply a_j|apply a_f|apply a_k|refine a_i ?_ d_J.out|refine a_i ?_ e_w.out|refine a_i ?_ e_J.out)|exact HB.out)) hb)
     (try clear hb)
     (try clear hb2)
     (try clear hk)
     (try clear hi)
     refine hK.out _ _ ⟨(a_b a_B.out 0).trans rfl,(a_b a_B.out 1).trans rfl,(a_b a_B.out 2).trans rfl,(a_b a_B.out 3).trans rfl,(a_b a_B.out 4).trans rfl,(a_b a_B.out 5).trans rfl,(a_b a_B.out 6).trans rfl,(a_b a_B.out 7).trans rfl,(a_b a_B.out 8).trans rfl,(a_b a_B.out 9).trans rfl,(a_b a_B.out 10).trans rfl,(a_b b_h.out 0).trans rfl,(a_b b_h.out 1).trans rfl,(a_b b_V.out 0).trans rfl⟩ (fun hHeld => ?_)
     clear hK K
     refine c_N (a':=?_) ?_ ?_
     rotate_left
     ·show Act.put _ (some 18) _ = _
      simp only [Act.put,sa_,sb_,sc_,a_0,a_1]
      rfl
     refine pt_ 2 (some 19) Z13_ HT_ ?_
     refine pt_ 3 (some 20) Z17_ HT_ ?_
     refine pt_ 4 (some 21) Z20_ HT_ ?_
     refine pt_ 5 (some 22) Z25_ HT_ ?_
     refine pt_ 6 (some 23) Z28_ HT_ ?_
     refine pk_ 7 (some 24) Z32_ HT_ ?_
     refine pk_ 8 (some 25) Z39_ HT_ ?_
     refine pk_ 9 (some 26) Z42_ HT_ ?_
     refine pk_ 10 (some 27) Z45_ HT_ ?_
     refine pk_ 11 (some 28) Z49_ HT_ ?_
     refine pk_ 12 (some 29) Z53_ HT_ ?_
     refine pk_ 13 (some 30) Z57_ HT_ ?_
     refine pk_ 14 (some 31) Z60_ HT_ ?_
     refine pk_ 15 (some 32) Z66_ HT_ ?_
     refine pk_ 16 (some 33) Z69_ HT_ ?_
     refine pt_ 17 (some 34) Z72_ HT_ ?_
     refine pt_ 18 (some 35) Z76_ HT_ ?_
     refine pt_ 19 (some 36) Z79_ HT_ ?_
     refine pt_ 20 (some 37) Z82_ HT_ ?_
     refine pt_ 24 (some 41) Z84_ HT_ ?_
     refine b_z (i:=21) (N:=some 38) (v:=?_) (a':=?_) Z87_ rfl rfl (a_N HT_.out HW_.out (by kernel_rfl)) (fun _ _ _ h => h) (Or.inl ⟨by rfl,?_⟩) hHeld ?_ ?_
     rotate_left
     ·rintro w' ⟨s0,s1,s2,s3,s4,s5,s6,s7,s8,s9,s10,s11,s12,s13⟩
      go_simp
      with_reducible rfl
     rotate_left
     ·simp only [Act.put,sa_,sb_,sc_,a_0,a_1]
      rfl
     refine b_z (i:=22) (N:=some 39) (v:=?_) (a':=?_) Z90_ rfl rfl (a_N HT_.out HW_.out (by kernel_rfl)) (fun _ _ _ h => h) (Or.inl ⟨by rfl,?_⟩) hHeld ?_ ?_
     rotate_left
     ·rintro w' ⟨s0,s1,s2,s3,s4,s5,s6,s7,s8,s9,s10,s11,s12,s13⟩
      go_simp
      with_reducible rfl
     rotate_left
     ·simp only [Act.put,sa_,sb_,sc_,a_0,a_1]
      rfl
     refine b_z (i:=25) (N:=some 42) (v:=?_) (a':=?_) Z91_ rfl rfl (a_N HT_.out HW_.out (by kernel_rfl)) (fun _ _ _ h => h) (Or.inl ⟨by rfl,?_⟩) hHeld ?_ ?_
     rotate_left
     ·rintro w' ⟨s0,s1,s2,s3,s4,s5,s6,s7,s8,s9,s10,s11,s12,s13⟩
      go_simp
      with_reducible rfl
     rotate_left
     ·simp only [Act.put,sa_,sb_,sc_,a_0,a_1]
      rfl
     refine one_ (i:=23) (N:=some 40) Z96_ rfl rfl (b_W HT_.out (by kernel_rfl)) (by decide) (fun K hK => ?_)
     refine d_f Tryd.func23 (by kernel_rfl) rfl #[.slice (some ad112) l0_1.length c0_1,.func (.func 33) #[] #[.pointer (some ⟨a_6,0,none⟩)]] (by rfl) rfl rfl (by (try simp only [List.map_toArray,List.map_cons,List.map_nil]);first|done|rfl|(simp only [List.length_drop,List.length_take];rfl)) ?_
     with_reducible refine (b_g.calls _ _ l0_1 a_6 ((a_a l0_1 x10_1).f0) ((a_a l0_1 x10_1).f1) ((a_a l0_1 x10_1).f2) ((a_a l0_1 x10_1).f3) ((a_a l0_1 x10_1).f4) ((a_a l0_1 x10_1).f5) ((a_a l0_1 x10_1).f6) ((a_a l0_1 x10_1).f7) ((a_a l0_1 x10_1).f8) ((a_a l0_1 x10_1).f9) ((a_a l0_1 x10_1).f10) t119 _ ?side1 ?side2 ?side3 A63.out).mono ?_
     (case side1 => repeat (first|exact (Kd.a_5 b_v.out HB.out)|(with_reducible refine Kd.a_8 ?_ _)|(with_reducible refine Kd.a_9 ?_ _)|(with_reducible refine Kd.b_p ?_)))
     (case side2 => exact c_b.out)
     (case side3 => exact (bup_ a_B.out))
     rintro e w101 ⟨rfl,hb⟩
     refine ⟨_,rfl,?_⟩
     replace b_h:=a_g.mk (a_m (bup_ b_h.out) hb)
     replace a_B:=a_g.mk (a_m (bup_ a_B.out) hb)
     replace b_V:=a_g.mk (a_m (bup_ b_V.out) hb)
     replace HB:=a_g.mk (a_p (by repeat (first|(with_reducible first|exact HB.out|apply a_j|apply a_f|apply a_k|refine a_i ?_ d_J.out|refine a_i ?_ e_w.out|refine a_i ?_ e_J.out)|exact HB.out)) hb)
     (try clear hb)
     (try clear hb2)
     (try clear hk)
     (try clear hi)
     refine hK.out _ _ ⟨(a_b a_B.out 0).trans rfl,(a_b a_B.out 1).trans rfl,(a_b a_B.out 2).trans rfl,(a_b a_B.out 3).trans rfl,(a_b a_B.out 4).trans rfl,(a_b a_B.out 5).trans rfl,(a_b a_B.out 6).trans rfl,(a_b a_B.out 7).trans rfl,(a_b a_B.out 8).trans rfl,(a_b a_B.out 9).trans rfl,(a_b a_B.out 10).trans rfl,(a_b b_h.out 0).trans rfl,(a_b b_h.out 1).trans rfl,(a_b b_V.out 0).trans rfl⟩ (fun hHeld => ?_)
     clear hK K
     refine c_N (a':=?_) ?_ ?_
     rotate_left
     ·show Act.put _ (some 40) _ = _
      simp only [Act.put,sa_,sb_,sc_,a_0,a_1]
      rfl
     refine pt_ 26 (some 43) Z97_ HT_ ?_
     refine pt_ 27 (some 44) Z98_ HT_ ?_
     refine pt_ 28 (some 45) Z99_ HT_ ?_
     refine pk_ 29 (some 46) l_H HT_ ?_
     refine pk_ 30 (some 47) r_T HT_ ?_
     refine pk_ 31 (some 48) r_U HT_ ?_
     refine pk_ 32 (some 49) r_X HT_ ?_
     refine pk_ 33 (some 50) r_Y HT_ ?_
     refine pk_ 34 (some 51) l_I HT_ ?_
     refine pk_ 35 (some 52) l_J HT_ ?_
     refine pt_ 36 (some 53) l_K HT_ ?_
     refine e_U (c_E HT_.out (by kernel_rfl)) ?_
     try go_wp2
     go_ret
     exact ⟨by first|rfl|(simp [a_u,a_v] <;> rfl)|(simp [*, a_u,a_v] <;> rfl),by repeat (first|(with_reducible first|exact HB.out|apply a_j|apply a_f|apply a_k|refine a_i ?_ d_J.out|refine a_i ?_ e_w.out|refine a_i ?_ e_J.out)|exact HB.out)⟩
    rw [if_pos c64] at H
    have c64b0 : (t119 == ((a_a l0_1 x10_1).f9)) = true:=beq_iff_eq.mpr c64
    have c64b1 : (t119 != ((a_a l0_1 x10_1).f9)) = false:=bne_eq_false_iff_eq.mpr c64
    clear c64
    replace H:=Option.bind_eq_some_iff.mp H
    obtain ⟨t120,A650,H⟩:=H
    replace H : (if t120 = ((a_a l0_1 x10_1).f9) then (a_y.l0 k1 l0_1 (l0_1.length : Int) (wrap64 (x10_1 + 1)) a0_0 l0_1) else (some false)) = some r:=H
    have A65:=a_g.mk A650
    clear A650
    by_cases c66 : t120 = ((a_a l0_1 x10_1).f9)
    rotate_left
    ·rw [if_neg c66] at H
     have c66b0 : (t120 == ((a_a l0_1 x10_1).f9)) = false:=beq_eq_false_iff_ne.mpr c66
     have c66b1 : (t120 != ((a_a l0_1 x10_1).f9)) = true:=bne_iff_ne.mpr c66
     obtain rfl:=Option.some.inj H
     refine d_p (n:=37) (S:=fun w' => w'.cell? ⟨a_6,0,none⟩ = some (.int .i64 ((a_a l0_1 x10_1).f0)) ∧ w'.cell? ⟨a_6,1,none⟩ = some (.int .i64 ((a_a l0_1 x10_1).f1)) ∧ w'.cell? ⟨a_6,2,none⟩ = some (.int .i64 ((a_a l0_1 x10_1).f2)) ∧ w'.cell? ⟨a_6,3,none⟩ = some (.int .i64 ((a_a l0_1 x10_1).f3)) ∧ w'.cell? ⟨a_6,4,none⟩ = some (.int .i64 ((a_a l0_1 x10_1).f4)) ∧ w'.cell? ⟨a_6,5,none⟩ = some (.bool ((a_a l0_1 x10_1).f5)) ∧ w'.cell? ⟨a_6,6,none⟩ = some (.bool ((a_a l0_1 x10_1).f6)) ∧ w'.cell? ⟨a_6,7,none⟩ = some (.int .u32 ((a_a l0_1 x10_1).f7)) ∧ w'.cell? ⟨a_6,8,none⟩ = some (.int .i64 ((a_a l0_1 x10_1).f8)) ∧ w'.cell? ⟨a_6,9,none⟩ = some (.int .i64 ((a_a l0_1 x10_1).f9)) ∧ w'.cell? ⟨a_6,10,none⟩ = some (.int .i64 ((a_a l0_1 x10_1).f10)) ∧ w'.cell? ⟨d_9,0,none⟩ = some (.int .i64 a0_0) ∧ w'.cell? ⟨d_9,1,none⟩ = some (.slice (some ad112) l0_1.length c0_1) ∧ w'.cell? ⟨e_O,0,none⟩ = some (.func (.func 33) #[] #[.pointer (some ⟨a_6,0,none⟩)])) (ds:=[]) Z0_ (by kernel_rfl) rfl rfl ⟨(a_b a_B.out 0).trans rfl,(a_b a_B.out 1).trans rfl,(a_b a_B.out 2).trans rfl,(a_b a_B.out 3).trans rfl,(a_b a_B.out 4).trans rfl,(a_b a_B.out 5).trans rfl,(a_b a_B.out 6).trans rfl,(a_b a_B.out 7).trans rfl,(a_b a_B.out 8).trans rfl,(a_b a_B.out 9).trans rfl,(a_b a_B.out 10).trans rfl,(a_b b_h.out 0).trans rfl,(a_b b_h.out 1).trans rfl,(a_b b_V.out 0).trans rfl⟩ (fun hHeld => ?_);refine b_T a_y.tab6 a_y.h_Y (fun HT_ HW_ => ?_)
     generalize w21.drew = w87 at b_h a_B b_V HB hHeld ⊢
     refine b_z (i:=0) (N:=some 17) (v:=?_) (a':=?_) Z4_ rfl rfl (a_N HT_.out HW_.out (by kernel_rfl)) (fun _ _ _ h => h) (Or.inl ⟨by rfl,?_⟩) hHeld ?_ ?_
     rotate_left
     ·rintro w' ⟨s0,s1,s2,s3,s4,s5,s6,s7,s8,s9,s10,s11,s12,s13⟩
      go_simp
      with_reducible rfl
     rotate_left
     ·simp only [Act.put,sa_,sb_,sc_,a_0,a_1]
      rfl
     refine one_ (i:=1) (N:=some 18) Z10_ rfl rfl (b_W HT_.out (by kernel_rfl)) (by decide) (fun K hK => ?_)
     refine d_f Tryd.func35 (by kernel_rfl) rfl #[.agg #[.int .i64 ((a_a l0_1 x10_1).f0),.int .i64 ((a_a l0_1 x10_1).f1),.int .i64 ((a_a l0_1 x10_1).f2),.int .i64 ((a_a l0_1 x10_1).f3),.int .i64 ((a_a l0_1 x10_1).f4),.bool ((a_a l0_1 x10_1).f5),.bool ((a_a l0_1 x10_1).f6),.int .u32 ((a_a l0_1 x10_1).f7),.int .i64 ((a_a l0_1 x10_1).f8),.int .i64 ((a_a l0_1 x10_1).f9),.int .i64 ((a_a l0_1 x10_1).f10)]] (by rfl) rfl rfl (by (try simp only [List.map_toArray,List.map_cons,List.map_nil]);first|done|rfl|(simp only [List.length_drop,List.length_take];rfl)) ?_
     with_reducible refine (a_R.calls k1 ((a_a l0_1 x10_1).f0) ((a_a l0_1 x10_1).f1) ((a_a l0_1 x10_1).f2) ((a_a l0_1 x10_1).f3) ((a_a l0_1 x10_1).f4) ((a_a l0_1 x10_1).f5) ((a_a l0_1 x10_1).f6) ((a_a l0_1 x10_1).f7) ((a_a l0_1 x10_1).f8) ((a_a l0_1 x10_1).f9) ((a_a l0_1 x10_1).f10) true _ A7.out).mono ?_
     rintro e w88 ⟨rfl,hb⟩
     refine ⟨_,rfl,?_⟩
     replace b_h:=a_g.mk (a_m (bup_ b_h.out) hb)
     replace a_B:=a_g.mk (a_m (bup_ a_B.out) hb)
     replace b_V:=a_g.mk (a_m (bup_ b_V.out) hb)
     replace HB:=a_g.mk (a_p (by repeat (first|(with_reducible first|exact HB.out|apply a_j|apply a_f|apply a_k|refine a_i ?_ d_J.out|refine a_i ?_ e_w.out|refine a_i ?_ e_J.out)|exact HB.out)) hb)
     (try clear hb)
     (try clear hb2)
     (try clear hk)
     (try clear hi)
     refine hK.out _ _ ⟨(a_b a_B.out 0).trans rfl,(a_b a_B.out 1).trans rfl,(a_b a_B.out 2).trans rfl,(a_b a_B.out 3).trans rfl,(a_b a_B.out 4).trans rfl,(a_b a_B.out 5).trans rfl,(a_b a_B.out 6).trans rfl,(a_b a_B.out 7).trans rfl,(a_b a_B.out 8).trans rfl,(a_b a_B.out 9).trans rfl,(a_b a_B.out 10).trans rfl,(a_b b_h.out 0).trans rfl,(a_b b_h.out 1).trans rfl,(a_b b_V.out 0).trans rfl⟩ (fun hHeld => ?_)
     clear hK K
     refine c_N (a':=?_) ?_ ?_
     rotate_left
     ·show Act.put _ (some 18) _ = _
      simp only [Act.put,sa_,sb_,sc_,a_0,a_1]
      rfl
     refine pt_ 2 (some 19) Z13_ HT_ ?_
     refine pt_ 3 (some 20) Z17_ HT_ ?_
     refine pt_ 4 (some 21) Z20_ HT_ ?_
     refine pt_ 5 (some 22) Z25_ HT_ ?_
     refine pt_ 6 (some 23) Z28_ HT_ ?_
     refine pk_ 7 (some 24) Z32_ HT_ ?_
     refine pk_ 8 (some 25) Z39_ HT_ ?_
     refine pk_ 9 (some 26) Z42_ HT_ ?_
     refine pk_ 10 (some 27) Z45_ HT_ ?_
     refine pk_ 11 (some 28) Z49_ HT_ ?_
     refine pk_ 12 (some 29) Z53_ HT_ ?_
     refine pk_ 13 (some 30) Z57_ HT_ ?_
     refine pk_ 14 (some 31) Z60_ HT_ ?_
     refine pk_ 15 (some 32) Z66_ HT_ ?_
     refine pk_ 16 (some 33) Z69_ HT_ ?_
     refine pt_ 17 (some 34) Z72_ HT_ ?_
     refine pt_ 18 (some 35) Z76_ HT_ ?_
     refine pt_ 19 (some 36) Z79_ HT_ ?_
     refine pt_ 20 (some 37) Z82_ HT_ ?_
     refine pt_ 24 (some 41) Z84_ HT_ ?_
     refine b_z (i:=21) (N:=some 38) (v:=?_) (a':=?_) Z87_ rfl rfl (a_N HT_.out HW_.out (by kernel_rfl)) (fun _ _ _ h => h) (Or.inl ⟨by rfl,?_⟩) hHeld ?_ ?_
     rotate_left
     ·rintro w' ⟨s0,s1,s2,s3,s4,s5,s6,s7,s8,s9,s10,s11,s12,s13⟩
      go_simp
      with_reducible rfl
     rotate_left
     ·simp only [Act.put,sa_,sb_,sc_,a_0,a_1]
      rfl
     refine b_z (i:=22) (N:=some 39) (v:=?_) (a':=?_) Z90_ rfl rfl (a_N HT_.out HW_.out (by kernel_rfl)) (fun _ _ _ h => h) (Or.inl ⟨by rfl,?_⟩) hHeld ?_ ?_
     rotate_left
     ·rintro w' ⟨s0,s1,s2,s3,s4,s5,s6,s7,s8,s9,s10,s11,s12,s13⟩
      go_simp
      with_reducible rfl
     rotate_left
     ·simp only [Act.put,sa_,sb_,sc_,a_0,a_1]
      rfl
     refine b_z (i:=25) (N:=some 42) (v:=?_) (a':=?_) Z91_ rfl rfl (a_N HT_.out HW_.out (by kernel_rfl)) (fun _ _ _ h => h) (Or.inl ⟨by rfl,?_⟩) hHeld ?_ ?_
     rotate_left
     ·rintro w' ⟨s0,s1,s2,s3,s4,s5,s6,s7,s8,s9,s10,s11,s12,s13⟩
      go_simp
      with_reducible rfl
     rotate_left
     ·simp only [Act.put,sa_,sb_,sc_,a_0,a_1]
      rfl
     refine one_ (i:=23) (N:=some 40) Z96_ rfl rfl (b_W HT_.out (by kernel_rfl)) (by decide) (fun K hK => ?_)
     refine d_f Tryd.func23 (by kernel_rfl) rfl #[.slice (some ad112) l0_1.length c0_1,.func (.func 33) #[] #[.pointer (some ⟨a_6,0,none⟩)]] (by rfl) rfl rfl (by (try simp only [List.map_toArray,List.map_cons,List.map_nil]);first|done|rfl|(simp only [List.length_drop,List.length_take];rfl)) ?_
     with_reducible refine (b_g.calls _ _ l0_1 a_6 ((a_a l0_1 x10_1).f0) ((a_a l0_1 x10_1).f1) ((a_a l0_1 x10_1).f2) ((a_a l0_1 x10_1).f3) ((a_a l0_1 x10_1).f4) ((a_a l0_1 x10_1).f5) ((a_a l0_1 x10_1).f6) ((a_a l0_1 x10_1).f7) ((a_a l0_1 x10_1).f8) ((a_a l0_1 x10_1).f9) ((a_a l0_1 x10_1).f10) t119 _ ?side1 ?side2 ?side3 A63.out).mono ?_
     (case side1 => repeat (first|exact (Kd.a_5 b_v.out HB.out)|(with_reducible refine Kd.a_8 ?_ _)|(with_reducible refine Kd.a_9 ?_ _)|(with_reducible refine Kd.b_p ?_)))
     (case side2 => exact c_b.out)
     (case side3 => exact (bup_ a_B.out))
     rintro e w89 ⟨rfl,hb⟩
     refine ⟨_,rfl,?_⟩
     replace b_h:=a_g.mk (a_m (bup_ b_h.out) hb)
     replace a_B:=a_g.mk (a_m (bup_ a_B.out) hb)
     replace b_V:=a_g.mk (a_m (bup_ b_V.out) hb)
     replace HB:=a_g.mk (a_p (by repeat (first|(with_reducible first|exact HB.out|apply a_j|apply a_f|apply a_k|refine a_i ?_ d_J.out|refine a_i ?_ e_w.out|refine a_i ?_ e_J.out)|exact HB.out)) hb)
     (try clear hb)
     (try clear hb2)
     (try clear hk)
     (try clear hi)
     refine hK.out _ _ ⟨(a_b a_B.out 0).trans rfl,(a_b a_B.out 1).trans rfl,(a_b a_B.out 2).trans rfl,(a_b a_B.out 3).trans rfl,(a_b a_B.out 4).trans rfl,(a_b a_B.out 5).trans rfl,(a_b a_B.out 6).trans rfl,(a_b a_B.out 7).trans rfl,(a_b a_B.out 8).trans rfl,(a_b a_B.out 9).trans rfl,(a_b a_B.out 10).trans rfl,(a_b b_h.out 0).trans rfl,(a_b b_h.out 1).trans rfl,(a_b b_V.out 0).trans rfl⟩ (fun hHeld => ?_)
     clear hK K
     refine c_N (a':=?_) ?_ ?_
     rotate_left
     ·show Act.put _ (some 40) _ = _
      simp only [Act.put,sa_,sb_,sc_,a_0,a_1]
      rfl
     refine pt_ 26 (some 43) Z97_ HT_ ?_
     refine pt_ 27 (some 44) Z98_ HT_ ?_
     refine pt_ 28 (some 45) Z99_ HT_ ?_
     refine pt_ 29 (some 46) l_H HT_ ?_
     refine pt_ 31 (some 48) r_R HT_ ?_
     refine pt_ 33 (some 50) r_S HT_ ?_
     refine b_z (i:=30) (N:=some 47) (v:=?_) (a':=?_) r_V rfl rfl (a_N HT_.out HW_.out (by kernel_rfl)) (fun _ _ _ h => h) (Or.inl ⟨by rfl,?_⟩) hHeld ?_ ?_
     rotate_left
     ·rintro w' ⟨s0,s1,s2,s3,s4,s5,s6,s7,s8,s9,s10,s11,s12,s13⟩
      go_simp
      with_reducible rfl
     rotate_left
     ·simp only [Act.put,sa_,sb_,sc_,a_0,a_1]
      rfl
     refine b_z (i:=34) (N:=some 51) (v:=?_) (a':=?_) r_W rfl rfl (a_N HT_.out HW_.out (by kernel_rfl)) (fun _ _ _ h => h) (Or.inl ⟨by rfl,?_⟩) hHeld ?_ ?_
     rotate_left
     ·rintro w' ⟨s0,s1,s2,s3,s4,s5,s6,s7,s8,s9,s10,s11,s12,s13⟩
      go_simp
      with_reducible rfl
     rotate_left
     ·simp only [Act.put,sa_,sb_,sc_,a_0,a_1]
      rfl
     refine one_ (i:=32) (N:=some 49) l_I rfl rfl (b_W HT_.out (by kernel_rfl)) (by decide) (fun K hK => ?_)
     refine d_f Tryd.func23 (by kernel_rfl) rfl #[.slice (some ad112) l0_1.length c0_1,.func (.func 34) #[] #[.pointer (some ⟨e_O,0,none⟩),.pointer (some ⟨a_6,0,none⟩)]] (by rfl) rfl rfl (by (try simp only [List.map_toArray,List.map_cons,List.map_nil]);first|done|rfl|(simp only [List.length_drop,List.length_take];rfl)) ?_
     with_reducible refine (b_e.calls _ _ l0_1 e_O a_6 a_6 ((a_a l0_1 x10_1).f0) ((a_a l0_1 x10_1).f1) ((a_a l0_1 x10_1).f2) ((a_a l0_1 x10_1).f3) ((a_a l0_1 x10_1).f4) ((a_a l0_1 x10_1).f5) ((a_a l0_1 x10_1).f6) ((a_a l0_1 x10_1).f7) ((a_a l0_1 x10_1).f8) ((a_a l0_1 x10_1).f9) ((a_a l0_1 x10_1).f10) ((a_a l0_1 x10_1).f0) ((a_a l0_1 x10_1).f1) ((a_a l0_1 x10_1).f2) ((a_a l0_1 x10_1).f3) ((a_a l0_1 x10_1).f4) ((a_a l0_1 x10_1).f5) ((a_a l0_1 x10_1).f6) ((a_a l0_1 x10_1).f7) ((a_a l0_1 x10_1).f8) ((a_a l0_1 x10_1).f9) ((a_a l0_1 x10_1).f10) t120 _ ?side1 ?side2 ?side3 ?side4 ?side5 A65.out).mono ?_
     (case side1 => repeat (first|exact (Kd.a_5 b_v.out HB.out)|(with_reducible refine Kd.a_8 ?_ _)|(with_reducible refine Kd.a_9 ?_ _)|(with_reducible refine Kd.b_p ?_)))
     (case side2 => exact c_b.out)
     (case side3 => exact (bup_ b_V.out))
     (case side4 => exact (bup_ a_B.out))
     (case side5 => exact (bup_ a_B.out))
     rintro e w90 ⟨rfl,hb⟩
     refine ⟨_,rfl,?_⟩
     replace b_h:=a_g.mk (a_m (bup_ b_h.out) hb)
     replace a_B:=a_g.mk (a_m (bup_ a_B.out) hb)
     replace b_V:=a_g.mk (a_m (bup_ b_V.out) hb)
     replace HB:=a_g.mk (a_p (by repeat (first|(with_reducible first|exact HB.out|apply a_j|apply a_f|apply a_k|refine a_i ?_ d_J.out|refine a_i ?_ e_w.out|refine a_i ?_ e_J.out)|exact HB.out)) hb)
     (try clear hb)
     (try clear hb2)
     (try clear hk)
     (try clear hi)
     refine hK.out _ _ ⟨(a_b a_B.out 0).trans rfl,(a_b a_B.out 1).trans rfl,(a_b a_B.out 2).trans rfl,(a_b a_B.out 3).trans rfl,(a_b a_B.out 4).trans rfl,(a_b a_B.out 5).trans rfl,(a_b a_B.out 6).trans rfl,(a_b a_B.out 7).trans rfl,(a_b a_B.out 8).trans rfl,(a_b a_B.out 9).trans rfl,(a_b a_B.out 10).trans rfl,(a_b b_h.out 0).trans rfl,(a_b b_h.out 1).trans rfl,(a_b b_V.out 0).trans rfl⟩ (fun hHeld => ?_)
     clear hK K
     refine c_N (a':=?_) ?_ ?_
     rotate_left
     ·show Act.put _ (some 49) _ = _
      simp only [Act.put,sa_,sb_,sc_,a_0,a_1]
      rfl
     refine pt_ 35 (some 52) l_J HT_ ?_
     refine pt_ 36 (some 53) l_K HT_ ?_
     refine e_U (c_E HT_.out (by kernel_rfl)) ?_
     try go_wp2
     go_ret
     exact ⟨by first|rfl|(simp [a_u,a_v] <;> rfl)|(simp [*, a_u,a_v] <;> rfl),by repeat (first|(with_reducible first|exact HB.out|apply a_j|apply a_f|apply a_k|refine a_i ?_ d_J.out|refine a_i ?_ e_w.out|refine a_i ?_ e_J.out)|exact HB.out)⟩
    rw [if_pos c66] at H
    have c66b0 : (t120 == ((a_a l0_1 x10_1).f9)) = true:=beq_iff_eq.mpr c66
    have c66b1 : (t120 != ((a_a l0_1 x10_1).f9)) = false:=bne_eq_false_iff_eq.mpr c66
    clear c66
    have H':=a_g.mk H
    clear H
    refine d_p (n:=37) (S:=fun w' => w'.cell? ⟨a_6,0,none⟩ = some (.int .i64 ((a_a l0_1 x10_1).f0)) ∧ w'.cell? ⟨a_6,1,none⟩ = some (.int .i64 ((a_a l0_1 x10_1).f1)) ∧ w'.cell? ⟨a_6,2,none⟩ = some (.int .i64 ((a_a l0_1 x10_1).f2)) ∧ w'.cell? ⟨a_6,3,none⟩ = some (.int .i64 ((a_a l0_1 x10_1).f3)) ∧ w'.cell? ⟨a_6,4,none⟩ = some (.int .i64 ((a_a l0_1 x10_1).f4)) ∧ w'.cell? ⟨a_6,5,none⟩ = some (.bool ((a_a l0_1 x10_1).f5)) ∧ w'.cell? ⟨a_6,6,none⟩ = some (.bool ((a_a l0_1 x10_1).f6)) ∧ w'.cell? ⟨a_6,7,none⟩ = some (.int .u32 ((a_a l0_1 x10_1).f7)) ∧ w'.cell? ⟨a_6,8,none⟩ = some (.int .i64 ((a_a l0_1 x10_1).f8)) ∧ w'.cell? ⟨a_6,9,none⟩ = some (.int .i64 ((a_a l0_1 x10_1).f9)) ∧ w'.cell? ⟨a_6,10,none⟩ = some (.int .i64 ((a_a l0_1 x10_1).f10)) ∧ w'.cell? ⟨d_9,0,none⟩ = some (.int .i64 a0_0) ∧ w'.cell? ⟨d_9,1,none⟩ = some (.slice (some ad112) l0_1.length c0_1) ∧ w'.cell? ⟨e_O,0,none⟩ = some (.func (.func 33) #[] #[.pointer (some ⟨a_6,0,none⟩)])) (ds:=[]) Z0_ (by kernel_rfl) rfl rfl ⟨(a_b a_B.out 0).trans rfl,(a_b a_B.out 1).trans rfl,(a_b a_B.out 2).trans rfl,(a_b a_B.out 3).trans rfl,(a_b a_B.out 4).trans rfl,(a_b a_B.out 5).trans rfl,(a_b a_B.out 6).trans rfl,(a_b a_B.out 7).trans rfl,(a_b a_B.out 8).trans rfl,(a_b a_B.out 9).trans rfl,(a_b a_B.out 10).trans rfl,(a_b b_h.out 0).trans rfl,(a_b b_h.out 1).trans rfl,(a_b b_V.out 0).trans rfl⟩ (fun hHeld => ?_);refine b_T a_y.tab6 a_y.h_Y (fun HT_ HW_ => ?_)
    generalize w21.drew = w75 at b_h a_B b_V HB hHeld ⊢
    refine b_z (i:=0) (N:=some 17) (v:=?_) (a':=?_) Z4_ rfl rfl (a_N HT_.out HW_.out (by kernel_rfl)) (fun _ _ _ h => h) (Or.inl ⟨by rfl,?_⟩) hHeld ?_ ?_
    rotate_left
    ·rintro w' ⟨s0,s1,s2,s3,s4,s5,s6,s7,s8,s9,s10,s11,s12,s13⟩
     go_simp
     with_reducible rfl
    rotate_left
    ·simp only [Act.put,sa_,sb_,sc_,a_0,a_1]
     rfl
    refine one_ (i:=1) (N:=some 18) Z10_ rfl rfl (b_W HT_.out (by kernel_rfl)) (by decide) (fun K hK => ?_)
    refine d_f Tryd.func35 (by kernel_rfl) rfl #[.agg #[.int .i64 ((a_a l0_1 x10_1).f0),.int .i64 ((a_a l0_1 x10_1).f1),.int .i64 ((a_a l0_1 x10_1).f2),.int .i64 ((a_a l0_1 x10_1).f3),.int .i64 ((a_a l0_1 x10_1).f4),.bool ((a_a l0_1 x10_1).f5),.bool ((a_a l0_1 x10_1).f6),.int .u32 ((a_a l0_1 x10_1).f7),.int .i64 ((a_a l0_1 x10_1).f8),.int .i64 ((a_a l0_1 x10_1).f9),.int .i64 ((a_a l0_1 x10_1).f10)]] (by rfl) rfl rfl (by (try simp only [List.map_toArray,List.map_cons,List.map_nil]);first|done|rfl|(simp only [List.length_drop,List.length_take];rfl)) ?_
    with_reducible refine (a_R.calls k1 ((a_a l0_1 x10_1).f0) ((a_a l0_1 x10_1).f1) ((a_a l0_1 x10_1).f2) ((a_a l0_1 x10_1).f3) ((a_a l0_1 x10_1).f4) ((a_a l0_1 x10_1).f5) ((a_a l0_1 x10_1).f6) ((a_a l0_1 x10_1).f7) ((a_a l0_1 x10_1).f8) ((a_a l0_1 x10_1).f9) ((a_a l0_1 x10_1).f10) true _ A7.out).mono ?_
    rintro e w76 ⟨rfl,hb⟩
    refine ⟨_,rfl,?_⟩
    replace b_h:=a_g.mk (a_m (bup_ b_h.out) hb)
    replace a_B:=a_g.mk (a_m (bup_ a_B.out) hb)
    replace b_V:=a_g.mk (a_m (bup_ b_V.out) hb)
    replace HB:=a_g.mk (a_p (by repeat (first|(with_reducible first|exact HB.out|apply a_j|apply a_f|apply a_k|refine a_i ?_ d_J.out|refine a_i ?_ e_w.out|refine a_i ?_ e_J.out)|exact HB.out)) hb)
    (try clear hb)
    (try clear hb2)
    (try clear hk)
    (try clear hi)
    refine hK.out _ _ ⟨(a_b a_B.out 0).trans rfl,(a_b a_B.out 1).trans rfl,(a_b a_B.out 2).trans rfl,(a_b a_B.out 3).trans rfl,(a_b a_B.out 4).trans rfl,(a_b a_B.out 5).trans rfl,(a_b a_B.out 6).trans rfl,(a_b a_B.out 7).trans rfl,(a_b a_B.out 8).trans rfl,(a_b a_B.out 9).trans rfl,(a_b a_B.out 10).trans rfl,(a_b b_h.out 0).trans rfl,(a_b b_h.out 1).trans rfl,(a_b b_V.out 0).trans rfl⟩ (fun hHeld => ?_)
    clear hK K
    refine c_N (a':=?_) ?_ ?_
    rotate_left
    ·show Act.put _ (some 18) _ = _
     simp only [Act.put,sa_,sb_,sc_,a_0,a_1]
     rfl
    refine pt_ 2 (some 19) Z13_ HT_ ?_
    refine pt_ 3 (some 20) Z17_ HT_ ?_
    refine pt_ 4 (some 21) Z20_ HT_ ?_
    refine pt_ 5 (some 22) Z25_ HT_ ?_
    refine pt_ 6 (some 23) Z28_ HT_ ?_
    refine pk_ 7 (some 24) Z32_ HT_ ?_
    refine pk_ 8 (some 25) Z39_ HT_ ?_
    refine pk_ 9 (some 26) Z42_ HT_ ?_
    refine pk_ 10 (some 27) Z45_ HT_ ?_
    refine pk_ 11 (some 28) Z49_ HT_ ?_
    refine pk_ 12 (some 29) Z53_ HT_ ?_
    refine pk_ 13 (some 30) Z57_ HT_ ?_
    refine pk_ 14 (some 31) Z60_ HT_ ?_
    refine pk_ 15 (some 32) Z66_ HT_ ?_
    refine pk_ 16 (some 33) Z69_ HT_ ?_
    refine pt_ 17 (some 34) Z72_ HT_ ?_
    refine pt_ 18 (some 35) Z76_ HT_ ?_
    refine pt_ 19 (some 36) Z79_ HT_ ?_
    refine pt_ 20 (some 37) Z82_ HT_ ?_
    refine pt_ 24 (some 41) Z84_ HT_ ?_
    refine b_z (i:=21) (N:=some 38) (v:=?_) (a':=?_) Z87_ rfl rfl (a_N HT_.out HW_.out (by kernel_rfl)) (fun _ _ _ h => h) (Or.inl ⟨by rfl,?_⟩) hHeld ?_ ?_
    rotate_left
    ·rintro w' ⟨s0,s1,s2,s3,s4,s5,s6,s7,s8,s9,s10,s11,s12,s13⟩
     go_simp
     with_reducible rfl
    rotate_left
    ·simp only [Act.put,sa_,sb_,sc_,a_0,a_1]
     rfl
    refine b_z (i:=22) (N:=some 39) (v:=?_) (a':=?_) Z90_ rfl rfl (a_N HT_.out HW_.out (by kernel_rfl)) (fun _ _ _ h => h) (Or.inl ⟨by rfl,?_⟩) hHeld ?_ ?_
    rotate_left
    ·rintro w' ⟨s0,s1,s2,s3,s4,s5,s6,s7,s8,s9,s10,s11,s12,s13⟩
     go_simp
     with_reducible rfl
    rotate_left
    ·simp only [Act.put,sa_,sb_,sc_,a_0,a_1]
     rfl
    refine b_z (i:=25) (N:=some 42) (v:=?_) (a':=?_) Z91_ rfl rfl (a_N HT_.out HW_.out (by kernel_rfl)) (fun _ _ _ h => h) (Or.inl ⟨by rfl,?_⟩) hHeld ?_ ?_
    rotate_left
    ·rintro w' ⟨s0,s1,s2,s3,s4,s5,s6,s7,s8,s9,s10,s11,s12,s13⟩
     go_simp
     with_reducible rfl
    rotate_left
    ·simp only [Act.put,sa_,sb_,sc_,a_0,a_1]
     rfl
    refine one_ (i:=23) (N:=some 40) Z96_ rfl rfl (b_W HT_.out (by kernel_rfl)) (by decide) (fun K hK => ?_)
    refine d_f Tryd.func23 (by kernel_rfl) rfl #[.slice (some ad112) l0_1.length c0_1,.func (.func 33) #[] #[.pointer (some ⟨a_6,0,none⟩)]] (by rfl) rfl rfl (by (try simp only [List.map_toArray,List.map_cons,List.map_nil]);first|done|rfl|(simp only [List.length_drop,List.length_take];rfl)) ?_
    with_reducible refine (b_g.calls _ _ l0_1 a_6 ((a_a l0_1 x10_1).f0) ((a_a l0_1 x10_1).f1) ((a_a l0_1 x10_1).f2) ((a_a l0_1 x10_1).f3) ((a_a l0_1 x10_1).f4) ((a_a l0_1 x10_1).f5) ((a_a l0_1 x10_1).f6) ((a_a l0_1 x10_1).f7) ((a_a l0_1 x10_1).f8) ((a_a l0_1 x10_1).f9) ((a_a l0_1 x10_1).f10) t119 _ ?side1 ?side2 ?side3 A63.out).mono ?_
    (case side1 => repeat (first|exact (Kd.a_5 b_v.out HB.out)|(with_reducible refine Kd.a_8 ?_ _)|(with_reducible refine Kd.a_9 ?_ _)|(with_reducible refine Kd.b_p ?_)))
    (case side2 => exact c_b.out)
    (case side3 => exact (bup_ a_B.out))
    rintro e w77 ⟨rfl,hb⟩
    refine ⟨_,rfl,?_⟩
    replace b_h:=a_g.mk (a_m (bup_ b_h.out) hb)
    replace a_B:=a_g.mk (a_m (bup_ a_B.out) hb)
    replace b_V:=a_g.mk (a_m (bup_ b_V.out) hb)
    replace HB:=a_g.mk (a_p (by repeat (first|(with_reducible first|exact HB.out|apply a_j|apply a_f|apply a_k|refine a_i ?_ d_J.out|refine a_i ?_ e_w.out|refine a_i ?_ e_J.out)|exact HB.out)) hb)
    (try clear hb)
    (try clear hb2)
    (try clear hk)
    (try clear hi)
    refine hK.out _ _ ⟨(a_b a_B.out 0).trans rfl,(a_b a_B.out 1).trans rfl,(a_b a_B.out 2).trans rfl,(a_b a_B.out 3).trans rfl,(a_b a_B.out 4).trans rfl,(a_b a_B.out 5).trans rfl,(a_b a_B.out 6).trans rfl,(a_b a_B.out 7).trans rfl,(a_b a_B.out 8).trans rfl,(a_b a_B.out 9).trans rfl,(a_b a_B.out 10).trans rfl,(a_b b_h.out 0).trans rfl,(a_b b_h.out 1).trans rfl,(a_b b_V.out 0).trans rfl⟩ (fun hHeld => ?_)
    clear hK K
    refine c_N (a':=?_) ?_ ?_
    rotate_left
    ·show Act.put _ (some 40) _ = _
     simp only [Act.put,sa_,sb_,sc_,a_0,a_1]
     rfl
    refine pt_ 26 (some 43) Z97_ HT_ ?_
    refine pt_ 27 (some 44) Z98_ HT_ ?_
    refine pt_ 28 (some 45) Z99_ HT_ ?_
    refine pt_ 29 (some 46) l_H HT_ ?_
    refine pt_ 31 (some 48) r_R HT_ ?_
    refine pt_ 33 (some 50) r_S HT_ ?_
    refine b_z (i:=30) (N:=some 47) (v:=?_) (a':=?_) r_V rfl rfl (a_N HT_.out HW_.out (by kernel_rfl)) (fun _ _ _ h => h) (Or.inl ⟨by rfl,?_⟩) hHeld ?_ ?_
    rotate_left
    ·rintro w' ⟨s0,s1,s2,s3,s4,s5,s6,s7,s8,s9,s10,s11,s12,s13⟩
     go_simp
     with_reducible rfl
    rotate_left
    ·simp only [Act.put,sa_,sb_,sc_,a_0,a_1]
     rfl
    refine b_z (i:=34) (N:=some 51) (v:=?_) (a':=?_) r_W rfl rfl (a_N HT_.out HW_.out (by kernel_rfl)) (fun _ _ _ h => h) (Or.inl ⟨by rfl,?_⟩) hHeld ?_ ?_
    rotate_left
    ·rintro w' ⟨s0,s1,s2,s3,s4,s5,s6,s7,s8,s9,s10,s11,s12,s13⟩
     go_simp
     with_reducible rfl
    rotate_left
    ·simp only [Act.put,sa_,sb_,sc_,a_0,a_1]
     rfl
    refine one_ (i:=32) (N:=some 49) l_I rfl rfl (b_W HT_.out (by kernel_rfl)) (by decide) (fun K hK => ?_)
    refine d_f Tryd.func23 (by kernel_rfl) rfl #[.slice (some ad112) l0_1.length c0_1,.func (.func 34) #[] #[.pointer (some ⟨e_O,0,none⟩),.pointer (some ⟨a_6,0,none⟩)]] (by rfl) rfl rfl (by (try simp only [List.map_toArray,List.map_cons,List.map_nil]);first|done|rfl|(simp only [List.length_drop,List.length_take];rfl)) ?_
    with_reducible refine (b_e.calls _ _ l0_1 e_O a_6 a_6 ((a_a l0_1 x10_1).f0) ((a_a l0_1 x10_1).f1) ((a_a l0_1 x10_1).f2) ((a_a l0_1 x10_1).f3) ((a_a l0_1 x10_1).f4) ((a_a l0_1 x10_1).f5) ((a_a l0_1 x10_1).f6) ((a_a l0_1 x10_1).f7) ((a_a l0_1 x10_1).f8) ((a_a l0_1 x10_1).f9) ((a_a l0_1 x10_1).f10) ((a_a l0_1 x10_1).f0) ((a_a l0_1 x10_1).f1) ((a_a l0_1 x10_1).f2) ((a_a l0_1 x10_1).f3) ((a_a l0_1 x10_1).f4) ((a_a l0_1 x10_1).f5) ((a_a l0_1 x10_1).f6) ((a_a l0_1 x10_1).f7) ((a_a l0_1 x10_1).f8) ((a_a l0_1 x10_1).f9) ((a_a l0_1 x10_1).f10) t120 _ ?side1 ?side2 ?side3 ?side4 ?side5 A65.out).mono ?_
    (case side1 => repeat (first|exact (Kd.a_5 b_v.out HB.out)|(with_reducible refine Kd.a_8 ?_ _)|(with_reducible refine Kd.a_9 ?_ _)|(with_reducible refine Kd.b_p ?_)))
    (case side2 => exact c_b.out)
    (case side3 => exact (bup_ b_V.out))
    (case side4 => exact (bup_ a_B.out))
    (case side5 => exact (bup_ a_B.out))
    rintro e w78 ⟨rfl,hb⟩
    refine ⟨_,rfl,?_⟩
    replace b_h:=a_g.mk (a_m (bup_ b_h.out) hb)
    replace a_B:=a_g.mk (a_m (bup_ a_B.out) hb)
    replace b_V:=a_g.mk (a_m (bup_ b_V.out) hb)
    replace HB:=a_g.mk (a_p (by repeat (first|(with_reducible first|exact HB.out|apply a_j|apply a_f|apply a_k|refine a_i ?_ d_J.out|refine a_i ?_ e_w.out|refine a_i ?_ e_J.out)|exact HB.out)) hb)
    (try clear hb)
    (try clear hb2)
    (try clear hk)
    (try clear hi)
    refine hK.out _ _ ⟨(a_b a_B.out 0).trans rfl,(a_b a_B.out 1).trans rfl,(a_b a_B.out 2).trans rfl,(a_b a_B.out 3).trans rfl,(a_b a_B.out 4).trans rfl,(a_b a_B.out 5).trans rfl,(a_b a_B.out 6).trans rfl,(a_b a_B.out 7).trans rfl,(a_b a_B.out 8).trans rfl,(a_b a_B.out 9).trans rfl,(a_b a_B.out 10).trans rfl,(a_b b_h.out 0).trans rfl,(a_b b_h.out 1).trans rfl,(a_b b_V.out 0).trans rfl⟩ (fun hHeld => ?_)
    clear hK K
    refine c_N (a':=?_) ?_ ?_
    rotate_left
    ·show Act.put _ (some 49) _ = _
     simp only [Act.put,sa_,sb_,sc_,a_0,a_1]
     rfl
    refine pt_ 35 (some 52) l_J HT_ ?_
    refine pt_ 36 (some 53) l_K HT_ ?_
    refine e_U (c_E HT_.out (by kernel_rfl)) ?_
    try go_wp2
    go_roundg k1
    case measure => have:=HK1.out;omega
    case rel => exact ⟨(wrap64 (x10_1 + 1)),(by first|rfl|(simp;done)|(simp [*];done)),H',⟨by have:=HK1.out;omega⟩,⟨by (with_reducible repeat (first|refine a_e ?_ _|refine a_h ?_|refine a_d ?_ _));exact b_h.out⟩,⟨by repeat (first|(with_reducible first|exact HB.out|apply a_j|apply a_f|apply a_k|refine a_i ?_ d_J.out|refine a_i ?_ e_w.out|refine a_i ?_ e_J.out)|exact HB.out)⟩⟩
   rw [if_pos c9] at H
   have c9b0 : decide (0 < x10_1) = true:=decide_eq_true c9
   clear c9
   obtain ⟨ji10,hji10⟩ : ∃ j_ : Int,(wrap64 (x10_1 - 1)) = j_:=⟨_,rfl⟩
   replace H : (if 0 ≤ (ji10) then (if (ji10) < (l0_1.length : Int) then (if ((a_a l0_1 (ji10)).f0) ≥ ((a_a l0_1 x10_1).f0) then (some false) else ((b_g.f l0_1 ((a_a l0_1 x10_1).f0) ((a_a l0_1 x10_1).f1) ((a_a l0_1 x10_1).f2) ((a_a l0_1 x10_1).f3) ((a_a l0_1 x10_1).f4) ((a_a l0_1 x10_1).f5) ((a_a l0_1 x10_1).f6) ((a_a l0_1 x10_1).f7) ((a_a l0_1 x10_1).f8) ((a_a l0_1 x10_1).f9) ((a_a l0_1 x10_1).f10)).bind fun t117 => (if t117 = ((a_a l0_1 x10_1).f9) then ((b_e.f l0_1 ((a_a l0_1 x10_1).f0) ((a_a l0_1 x10_1).f1) ((a_a l0_1 x10_1).f2) ((a_a l0_1 x10_1).f3) ((a_a l0_1 x10_1).f4) ((a_a l0_1 x10_1).f5) ((a_a l0_1 x10_1).f6) ((a_a l0_1 x10_1).f7) ((a_a l0_1 x10_1).f8) ((a_a l0_1 x10_1).f9) ((a_a l0_1 x10_1).f10) ((a_a l0_1 x10_1).f0) ((a_a l0_1 x10_1).f1) ((a_a l0_1 x10_1).f2) ((a_a l0_1 x10_1).f3) ((a_a l0_1 x10_1).f4) ((a_a l0_1 x10_1).f5) ((a_a l0_1 x10_1).f6) ((a_a l0_1 x10_1).f7) ((a_a l0_1 x10_1).f8) ((a_a l0_1 x10_1).f9) ((a_a l0_1 x10_1).f10)).bind fun t118 => (if t118 = ((a_a l0_1 x10_1).f9) then (a_y.l0 k1 l0_1 (l0_1.length : Int) (wrap64 (x10_1 + 1)) a0_0 l0_1) else (some false))) else (some false)))) else (none)) else (none)) = some r:=by first|(rw [hji10] at H;exact H)|(simp only [hji10] at H ⊢; exact H)
   (try rw [hji10] at A7)
   have hji10w : (IntKind.i64.wrap (x10_1 - 1)) = ji10:=(a_0 _).trans hji10
   by_cases c11 : 0 ≤ (ji10)
   rotate_left
   ·rw [if_neg c11] at H
    exact absurd H (by simp)
   rw [if_pos c11] at H
   have c11b0 : decide (0 ≤ (ji10)) = true:=decide_eq_true c11
   clear c11
   by_cases c12 : (ji10) < (l0_1.length : Int)
   rotate_left
   ·rw [if_neg c12] at H
    exact absurd H (by simp)
   rw [if_pos c12] at H
   have c12b0 : decide ((ji10) < (l0_1.length : Int)) = true:=decide_eq_true c12
   clear c12
   by_cases c13 : ((a_a l0_1 (ji10)).f0) ≥ ((a_a l0_1 x10_1).f0)
   ·rw [if_pos c13] at H
    have c13b0 : decide (((a_a l0_1 x10_1).f0) ≤ ((a_a l0_1 (ji10)).f0)) = true:=decide_eq_true c13
    clear c13
    obtain rfl:=Option.some.inj H
    have p116 : 0 ≤ ((ji10) : Int):=of_decide_eq_true (by first|(with_reducible assumption)|assumption)
    have q116 : (ji10) < (l0_1.length : Int):=of_decide_eq_true (by first|(with_reducible assumption)|assumption)
    obtain ⟨ad116,e116,c_Q,c_R,c_S,c_T,c_U,c_V,c_W,c_X,c_Y,c_Z,c_s⟩:=c_e b_v.out (ji10) p116 q116
    have b_0:=c_s
    have c_r:=c_Z
    have c_q:=c_Y
    have c_p:=c_X
    have c_o:=c_W
    have c_n:=c_V
    have c_m:=c_U
    have c_l:=c_T
    have c_k:=c_S
    have c_j:=c_R
    have c_i:=c_Q
    obtain rfl : ad112 = ad116:=(by injection e116)
    replace c_Q:=(HB.out.cell (World.block_lt_of_cell? w _ c_Q)).trans c_Q
    replace c_R:=(HB.out.cell (World.block_lt_of_cell? w _ c_R)).trans c_R
    replace c_S:=(HB.out.cell (World.block_lt_of_cell? w _ c_S)).trans c_S
    replace c_T:=(HB.out.cell (World.block_lt_of_cell? w _ c_T)).trans c_T
    replace c_U:=(HB.out.cell (World.block_lt_of_cell? w _ c_U)).trans c_U
    replace c_V:=(HB.out.cell (World.block_lt_of_cell? w _ c_V)).trans c_V
    replace c_W:=(HB.out.cell (World.block_lt_of_cell? w _ c_W)).trans c_W
    replace c_X:=(HB.out.cell (World.block_lt_of_cell? w _ c_X)).trans c_X
    replace c_Y:=(HB.out.cell (World.block_lt_of_cell? w _ c_Y)).trans c_Y
    replace c_Z:=(HB.out.cell (World.block_lt_of_cell? w _ c_Z)).trans c_Z
    replace c_s:=(HB.out.cell (World.block_lt_of_cell? w _ c_s)).trans c_s
    replace p116:=eq_true p116
    replace q116:=eq_true q116
    refine d_p (n:=37) (S:=fun w' => w'.cell? ⟨a_6,0,none⟩ = some (.int .i64 ((a_a l0_1 x10_1).f0)) ∧ w'.cell? ⟨a_6,1,none⟩ = some (.int .i64 ((a_a l0_1 x10_1).f1)) ∧ w'.cell? ⟨a_6,2,none⟩ = some (.int .i64 ((a_a l0_1 x10_1).f2)) ∧ w'.cell? ⟨a_6,3,none⟩ = some (.int .i64 ((a_a l0_1 x10_1).f3)) ∧ w'.cell? ⟨a_6,4,none⟩ = some (.int .i64 ((a_a l0_1 x10_1).f4)) ∧ w'.cell? ⟨a_6,5,none⟩ = some (.bool ((a_a l0_1 x10_1).f5)) ∧ w'.cell? ⟨a_6,6,none⟩ = some (.bool ((a_a l0_1 x10_1).f6)) ∧ w'.cell? ⟨a_6,7,none⟩ = some (.int .u32 ((a_a l0_1 x10_1).f7)) ∧ w'.cell? ⟨a_6,8,none⟩ = some (.int .i64 ((a_a l0_1 x10_1).f8)) ∧ w'.cell? ⟨a_6,9,none⟩ = some (.int .i64 ((a_a l0_1 x10_1).f9)) ∧ w'.cell? ⟨a_6,10,none⟩ = some (.int .i64 ((a_a l0_1 x10_1).f10)) ∧ w'.cell? ⟨d_9,0,none⟩ = some (.int .i64 a0_0) ∧ w'.cell? ⟨d_9,1,none⟩ = some (.slice (some ad112) l0_1.length c0_1) ∧ w'.cell? (ad112.add (((ji10)).toNat * 11)) = some (.int .i64 ((a_a l0_1 (ji10)).f0)) ∧ w'.cell? ⟨(ad112.add (((ji10)).toNat * 11)).block,(ad112.add (((ji10)).toNat * 11)).off + 1,none⟩ = some (.int .i64 ((a_a l0_1 (ji10)).f1)) ∧ w'.cell? ⟨(ad112.add (((ji10)).toNat * 11)).block,(ad112.add (((ji10)).toNat * 11)).off + 2,none⟩ = some (.int .i64 ((a_a l0_1 (ji10)).f2)) ∧ w'.cell? ⟨(ad112.add (((ji10)).toNat * 11)).block,(ad112.add (((ji10)).toNat * 11)).off + 3,none⟩ = some (.int .i64 ((a_a l0_1 (ji10)).f3)) ∧ w'.cell? ⟨(ad112.add (((ji10)).toNat * 11)).block,(ad112.add (((ji10)).toNat * 11)).off + 4,none⟩ = some (.int .i64 ((a_a l0_1 (ji10)).f4)) ∧ w'.cell? ⟨(ad112.add (((ji10)).toNat * 11)).block,(ad112.add (((ji10)).toNat * 11)).off + 5,none⟩ = some (.bool ((a_a l0_1 (ji10)).f5)) ∧ w'.cell? ⟨(ad112.add (((ji10)).toNat * 11)).block,(ad112.add (((ji10)).toNat * 11)).off + 6,none⟩ = some (.bool ((a_a l0_1 (ji10)).f6)) ∧ w'.cell? ⟨(ad112.add (((ji10)).toNat * 11)).block,(ad112.add (((ji10)).toNat * 11)).off + 7,none⟩ = some (.int .u32 ((a_a l0_1 (ji10)).f7)) ∧ w'.cell? ⟨(ad112.add (((ji10)).toNat * 11)).block,(ad112.add (((ji10)).toNat * 11)).off + 8,none⟩ = some (.int .i64 ((a_a l0_1 (ji10)).f8)) ∧ w'.cell? ⟨(ad112.add (((ji10)).toNat * 11)).block,(ad112.add (((ji10)).toNat * 11)).off + 9,none⟩ = some (.int .i64 ((a_a l0_1 (ji10)).f9)) ∧ w'.cell? ⟨(ad112.add (((ji10)).toNat * 11)).block,(ad112.add (((ji10)).toNat * 11)).off + 10,none⟩ = some (.int .i64 ((a_a l0_1 (ji10)).f10))) (ds:=[]) Z0_ (by kernel_rfl) rfl rfl ⟨(a_b a_B.out 0).trans rfl,(a_b a_B.out 1).trans rfl,(a_b a_B.out 2).trans rfl,(a_b a_B.out 3).trans rfl,(a_b a_B.out 4).trans rfl,(a_b a_B.out 5).trans rfl,(a_b a_B.out 6).trans rfl,(a_b a_B.out 7).trans rfl,(a_b a_B.out 8).trans rfl,(a_b a_B.out 9).trans rfl,(a_b a_B.out 10).trans rfl,(a_b b_h.out 0).trans rfl,(a_b b_h.out 1).trans rfl,((HB.out.cell (World.block_lt_of_cell? w _ c_i)).trans c_i),((HB.out.cell (World.block_lt_of_cell? w _ c_j)).trans c_j),((HB.out.cell (World.block_lt_of_cell? w _ c_k)).trans c_k),((HB.out.cell (World.block_lt_of_cell? w _ c_l)).trans c_l),((HB.out.cell (World.block_lt_of_cell? w _ c_m)).trans c_m),((HB.out.cell (World.block_lt_of_cell? w _ c_n)).trans c_n),((HB.out.cell (World.block_lt_of_cell? w _ c_o)).trans c_o),((HB.out.cell (World.block_lt_of_cell? w _ c_p)).trans c_p),((HB.out.cell (World.block_lt_of_cell? w _ c_q)).trans c_q),((HB.out.cell (World.block_lt_of_cell? w _ c_r)).trans c_r),((HB.out.cell (World.block_lt_of_cell? w _ b_0)).trans b_0)⟩ (fun hHeld => ?_);refine b_T a_y.tab6 a_y.h_Y (fun HT_ HW_ => ?_)
    generalize w21.drew = w22 at b_h a_B b_V HB c_Q c_R c_s c_S c_T c_U c_V c_W c_X c_Y c_Z hHeld ⊢
    refine b_z (i:=0) (N:=some 17) (v:=?_) (a':=?_) Z4_ rfl rfl (a_N HT_.out HW_.out (by kernel_rfl)) (fun _ _ _ h => h) (Or.inl ⟨by rfl,?_⟩) hHeld ?_ ?_
    rotate_left
    ·rintro w' ⟨s0,s1,s2,s3,s4,s5,s6,s7,s8,s9,s10,s11,s12,s13,s14,s15,s16,s17,s18,s19,s20,s21,s22,s23⟩
     go_simp
     with_reducible rfl
    rotate_left
    ·simp only [Act.put,sa_,sb_,sc_,a_0,a_1]
     rfl
    refine one_ (i:=1) (N:=some 18) Z10_ rfl rfl (b_W HT_.out (by kernel_rfl)) (by decide) (fun K hK => ?_)
    refine d_f Tryd.func35 (by kernel_rfl) rfl #[.agg #[.int .i64 ((a_a l0_1 x10_1).f0),.int .i64 ((a_a l0_1 x10_1).f1),.int .i64 ((a_a l0_1 x10_1).f2),.int .i64 ((a_a l0_1 x10_1).f3),.int .i64 ((a_a l0_1 x10_1).f4),.bool ((a_a l0_1 x10_1).f5),.bool ((a_a l0_1 x10_1).f6),.int .u32 ((a_a l0_1 x10_1).f7),.int .i64 ((a_a l0_1 x10_1).f8),.int .i64 ((a_a l0_1 x10_1).f9),.int .i64 ((a_a l0_1 x10_1).f10)]] (by rfl) rfl rfl (by (try simp only [List.map_toArray,List.map_cons,List.map_nil]);first|done|rfl|(simp only [List.length_drop,List.length_take];rfl)) ?_
    with_reducible refine (a_R.calls k1 ((a_a l0_1 x10_1).f0) ((a_a l0_1 x10_1).f1) ((a_a l0_1 x10_1).f2) ((a_a l0_1 x10_1).f3) ((a_a l0_1 x10_1).f4) ((a_a l0_1 x10_1).f5) ((a_a l0_1 x10_1).f6) ((a_a l0_1 x10_1).f7) ((a_a l0_1 x10_1).f8) ((a_a l0_1 x10_1).f9) ((a_a l0_1 x10_1).f10) true _ A7.out).mono ?_
    rintro e w23 ⟨rfl,hb⟩
    refine ⟨_,rfl,?_⟩
    replace b_h:=a_g.mk (a_m (bup_ b_h.out) hb)
    replace a_B:=a_g.mk (a_m (bup_ a_B.out) hb)
    replace b_V:=a_g.mk (a_m (bup_ b_V.out) hb)
    replace HB:=a_g.mk (a_p (by repeat (first|(with_reducible first|exact HB.out|apply a_j|apply a_f|apply a_k|refine a_i ?_ d_J.out|refine a_i ?_ e_w.out|refine a_i ?_ e_J.out)|exact HB.out)) hb)
    (try clear hb)
    (try clear hb2)
    (try clear hk)
    (try clear hi)
    refine hK.out _ _ ⟨(a_b a_B.out 0).trans rfl,(a_b a_B.out 1).trans rfl,(a_b a_B.out 2).trans rfl,(a_b a_B.out 3).trans rfl,(a_b a_B.out 4).trans rfl,(a_b a_B.out 5).trans rfl,(a_b a_B.out 6).trans rfl,(a_b a_B.out 7).trans rfl,(a_b a_B.out 8).trans rfl,(a_b a_B.out 9).trans rfl,(a_b a_B.out 10).trans rfl,(a_b b_h.out 0).trans rfl,(a_b b_h.out 1).trans rfl,((HB.out.cell (World.block_lt_of_cell? w _ c_i)).trans c_i),((HB.out.cell (World.block_lt_of_cell? w _ c_j)).trans c_j),((HB.out.cell (World.block_lt_of_cell? w _ c_k)).trans c_k),((HB.out.cell (World.block_lt_of_cell? w _ c_l)).trans c_l),((HB.out.cell (World.block_lt_of_cell? w _ c_m)).trans c_m),((HB.out.cell (World.block_lt_of_cell? w _ c_n)).trans c_n),((HB.out.cell (World.block_lt_of_cell? w _ c_o)).trans c_o),((HB.out.cell (World.block_lt_of_cell? w _ c_p)).trans c_p),((HB.out.cell (World.block_lt_of_cell? w _ c_q)).trans c_q),((HB.out.cell (World.block_lt_of_cell? w _ c_r)).trans c_r),((HB.out.cell (World.block_lt_of_cell? w _ b_0)).trans b_0)⟩ (fun hHeld => ?_)
    clear hK K
    refine c_N (a':=?_) ?_ ?_
    rotate_left
    ·show Act.put _ (some 18) _ = _
     simp only [Act.put,sa_,sb_,sc_,a_0,a_1]
     rfl
    refine pt_ 2 (some 19) Z13_ HT_ ?_
    refine pt_ 3 (some 20) Z17_ HT_ ?_
    refine pt_ 4 (some 21) Z20_ HT_ ?_
    refine pt_ 5 (some 22) Z25_ HT_ ?_
    refine pt_ 6 (some 23) Z28_ HT_ ?_
    refine pt_ 7 (some 24) Z32_ HT_ ?_
    refine pt_ 9 (some 26) Z35_ HT_ ?_
    refine pt_ 10 (some 27) Z36_ HT_ ?_
    refine pt_ 14 (some 31) Z37_ HT_ ?_
    refine b_z (i:=8) (N:=some 25) (v:=?_) (a':=?_) Z48_ rfl rfl (a_N HT_.out HW_.out (by kernel_rfl)) (fun _ _ _ h => h) (Or.inl ⟨by rfl,?_⟩) hHeld ?_ ?_
    rotate_left
    ·rintro w' ⟨s0,s1,s2,s3,s4,s5,s6,s7,s8,s9,s10,s11,s12,s13,s14,s15,s16,s17,s18,s19,s20,s21,s22,s23⟩
     go_simp
     with_reducible rfl
    rotate_left
    ·simp only [Act.put,sa_,sb_,sc_,a_0,a_1]
     rfl
    refine pt_ 11 (some 28) Z52_ HT_ ?_
    refine pt_ 12 (some 29) Z56_ HT_ ?_
    refine b_z (i:=13) (N:=some 30) (v:=?_) (a':=?_) Z60_ rfl rfl (a_N HT_.out HW_.out (by kernel_rfl)) (fun _ _ _ h => h) (Or.inl ⟨by rfl,?_⟩) hHeld ?_ ?_
    rotate_left
    ·rintro w' ⟨s0,s1,s2,s3,s4,s5,s6,s7,s8,s9,s10,s11,s12,s13,s14,s15,s16,s17,s18,s19,s20,s21,s22,s23⟩
     go_simp
     with_reducible rfl
    rotate_left
    ·simp only [Act.put,sa_,sb_,sc_,a_0,a_1]
     rfl
    refine b_z (i:=15) (N:=some 32) (v:=?_) (a':=?_) Z66_ rfl rfl (a_N HT_.out HW_.out (by kernel_rfl)) (fun _ _ _ h => h) (Or.inl ⟨by rfl,?_⟩) hHeld ?_ ?_
    rotate_left
    ·rintro w' ⟨s0,s1,s2,s3,s4,s5,s6,s7,s8,s9,s10,s11,s12,s13,s14,s15,s16,s17,s18,s19,s20,s21,s22,s23⟩
     go_simp
     with_reducible rfl
    rotate_left
    ·simp only [Act.put,sa_,sb_,sc_,a_0,a_1]
     rfl
    refine pt_ 16 (some 33) Z69_ HT_ ?_
    refine pt_ 17 (some 34) Z72_ HT_ ?_
    refine pt_ 18 (some 35) Z76_ HT_ ?_
    refine pt_ 19 (some 36) Z79_ HT_ ?_
    refine pk_ 20 (some 37) Z82_ HT_ ?_
    refine pk_ 21 (some 38) Z85_ HT_ ?_
    refine pk_ 22 (some 39) Z88_ HT_ ?_
    refine pk_ 23 (some 40) Z92_ HT_ ?_
    refine pk_ 24 (some 41) Z94_ HT_ ?_
    refine pk_ 25 (some 42) Z96_ HT_ ?_
    refine pk_ 26 (some 43) Z97_ HT_ ?_
    refine pt_ 27 (some 44) Z98_ HT_ ?_
    refine pt_ 28 (some 45) Z99_ HT_ ?_
    refine pk_ 29 (some 46) l_H HT_ ?_
    refine pk_ 30 (some 47) r_T HT_ ?_
    refine pk_ 31 (some 48) r_U HT_ ?_
    refine pk_ 32 (some 49) r_X HT_ ?_
    refine pk_ 33 (some 50) r_Y HT_ ?_
    refine pk_ 34 (some 51) l_I HT_ ?_
    refine pk_ 35 (some 52) l_J HT_ ?_
    refine pt_ 36 (some 53) l_K HT_ ?_
    refine e_U (c_E HT_.out (by kernel_rfl)) ?_
    try go_wp2
    go_ret
    exact ⟨by first|rfl|(simp [a_u,a_v] <;> rfl)|(simp only [← hji10];first|rfl|(simp [a_u,a_v] <;> rfl))|(simp [*, a_u,a_v] <;> rfl),by repeat (first|(with_reducible first|exact HB.out|apply a_j|apply a_f|apply a_k|refine a_i ?_ d_J.out|refine a_i ?_ e_w.out|refine a_i ?_ e_J.out)|exact HB.out)⟩
   rw [if_neg c13] at H
   have c13b0 : decide (((a_a l0_1 x10_1).f0) ≤ ((a_a l0_1 (ji10)).f0)) = false:=decide_eq_false c13
   clear c13
   replace H:=Option.bind_eq_some_iff.mp H
   obtain ⟨t117,A240,H⟩:=H
   replace H : (if t117 = ((a_a l0_1 x10_1).f9) then ((b_e.f l0_1 ((a_a l0_1 x10_1).f0) ((a_a l0_1 x10_1).f1) ((a_a l0_1 x10_1).f2) ((a_a l0_1 x10_1).f3) ((a_a l0_1 x10_1).f4) ((a_a l0_1 x10_1).f5) ((a_a l0_1 x10_1).f6) ((a_a l0_1 x10_1).f7) ((a_a l0_1 x10_1).f8) ((a_a l0_1 x10_1).f9) ((a_a l0_1 x10_1).f10) ((a_a l0_1 x10_1).f0) ((a_a l0_1 x10_1).f1) ((a_a l0_1 x10_1).f2) ((a_a l0_1 x10_1).f3) ((a_a l0_1 x10_1).f4) ((a_a l0_1 x10_1).f5) ((a_a l0_1 x10_1).f6) ((a_a l0_1 x10_1).f7) ((a_a l0_1 x10_1).f8) ((a_a l0_1 x10_1).f9) ((a_a l0_1 x10_1).f10)).bind fun t118 => (if t118 = ((a_a l0_1 x10_1).f9) then (a_y.l0 k1 l0_1 (l0_1.length : Int) (wrap64 (x10_1 + 1)) a0_0 l0_1) else (some false))) else (some false)) = some r:=H
   have A24:=a_g.mk A240
   clear A240
   by_cases c25 : t117 = ((a_a l0_1 x10_1).f9)
   rotate_left
   ·rw [if_neg c25] at H
    have c25b0 : (t117 == ((a_a l0_1 x10_1).f9)) = false:=beq_eq_false_iff_ne.mpr c25
    have c25b1 : (t117 != ((a_a l0_1 x10_1).f9)) = true:=bne_iff_ne.mpr c25
    obtain rfl:=Option.some.inj H
    have p116 : 0 ≤ ((ji10) : Int):=of_decide_eq_true (by first|(with_reducible assumption)|assumption)
    have q116 : (ji10) < (l0_1.length : Int):=of_decide_eq_true (by first|(with_reducible assumption)|assumption)
    obtain ⟨ad116,e116,c_Q,c_R,c_S,c_T,c_U,c_V,c_W,c_X,c_Y,c_Z,c_s⟩:=c_e b_v.out (ji10) p116 q116
    have b_0:=c_s
    have c_r:=c_Z
    have c_q:=c_Y
    have c_p:=c_X
    have c_o:=c_W
    have c_n:=c_V
    have c_m:=c_U
    have c_l:=c_T
    have c_k:=c_S
    have c_j:=c_R
    have c_i:=c_Q
    obtain rfl : ad112 = ad116:=(by injection e116)
    replace c_Q:=(HB.out.cell (World.block_lt_of_cell? w _ c_Q)).trans c_Q
    replace c_R:=(HB.out.cell (World.block_lt_of_cell? w _ c_R)).trans c_R
    replace c_S:=(HB.out.cell (World.block_lt_of_cell? w _ c_S)).trans c_S
    replace c_T:=(HB.out.cell (World.block_lt_of_cell? w _ c_T)).trans c_T
    replace c_U:=(HB.out.cell (World.block_lt_of_cell? w _ c_U)).trans c_U
    replace c_V:=(HB.out.cell (World.block_lt_of_cell? w _ c_V)).trans c_V
    replace c_W:=(HB.out.cell (World.block_lt_of_cell? w _ c_W)).trans c_W
    replace c_X:=(HB.out.cell (World.block_lt_of_cell? w _ c_X)).trans c_X
    replace c_Y:=(HB.out.cell (World.block_lt_of_cell? w _ c_Y)).trans c_Y
    replace c_Z:=(HB.out.cell (World.block_lt_of_cell? w _ c_Z)).trans c_Z
    replace c_s:=(HB.out.cell (World.block_lt_of_cell? w _ c_s)).trans c_s
    replace p116:=eq_true p116
    replace q116:=eq_true q116
    refine d_p (n:=37) (S:=fun w' => w'.cell? ⟨a_6,0,none⟩ = some (.int .i64 ((a_a l0_1 x10_1).f0)) ∧ w'.cell? ⟨a_6,1,none⟩ = some (.int .i64 ((a_a l0_1 x10_1).f1)) ∧ w'.cell? ⟨a_6,2,none⟩ = some (.int .i64 ((a_a l0_1 x10_1).f2)) ∧ w'.cell? ⟨a_6,3,none⟩ = some (.int .i64 ((a_a l0_1 x10_1).f3)) ∧ w'.cell? ⟨a_6,4,none⟩ = some (.int .i64 ((a_a l0_1 x10_1).f4)) ∧ w'.cell? ⟨a_6,5,none⟩ = some (.bool ((a_a l0_1 x10_1).f5)) ∧ w'.cell? ⟨a_6,6,none⟩ = some (.bool ((a_a l0_1 x10_1).f6)) ∧ w'.cell? ⟨a_6,7,none⟩ = some (.int .u32 ((a_a l0_1 x10_1).f7)) ∧ w'.cell? ⟨a_6,8,none⟩ = some (.int .i64 ((a_a l0_1 x10_1).f8)) ∧ w'.cell? ⟨a_6,9,none⟩ = some (.int .i64 ((a_a l0_1 x10_1).f9)) ∧ w'.cell? ⟨a_6,10,none⟩ = some (.int .i64 ((a_a l0_1 x10_1).f10)) ∧ w'.cell? ⟨d_9,0,none⟩ = some (.int .i64 a0_0) ∧ w'.cell? ⟨d_9,1,none⟩ = some (.slice (some ad112) l0_1.length c0_1) ∧ w'.cell? ⟨e_O,0,none⟩ = some (.func (.func 33) #[] #[.pointer (some ⟨a_6,0,none⟩)]) ∧ w'.cell? (ad112.add (((ji10)).toNat * 11)) = some (.int .i64 ((a_a l0_1 (ji10)).f0)) ∧ w'.cell? ⟨(ad112.add (((ji10)).toNat * 11)).block,(ad112.add (((ji10)).toNat * 11)).off + 1,none⟩ = some (.int .i64 ((a_a l0_1 (ji10)).f1)) ∧ w'.cell? ⟨(ad112.add (((ji10)).toNat * 11)).block,(ad112.add (((ji10)).toNat * 11)).off + 2,none⟩ = some (.int .i64 ((a_a l0_1 (ji10)).f2)) ∧ w'.cell? ⟨(ad112.add (((ji10)).toNat * 11)).block,(ad112.add (((ji10)).toNat * 11)).off + 3,none⟩ = some (.int .i64 ((a_a l0_1 (ji10)).f3)) ∧ w'.cell? ⟨(ad112.add (((ji10)).toNat * 11)).block,(ad112.add (((ji10)).toNat * 11)).off + 4,none⟩ = some (.int .i64 ((a_a l0_1 (ji10)).f4)) ∧ w'.cell? ⟨(ad112.add (((ji10)).toNat * 11)).block,(ad112.add (((ji10)).toNat * 11)).off + 5,none⟩ = some (.bool ((a_a l0_1 (ji10)).f5)) ∧ w'.cell? ⟨(ad112.add (((ji10)).toNat * 11)).block,(ad112.add (((ji10)).toNat * 11)).off + 6,none⟩ = some (.bool ((a_a l0_1 (ji10)).f6)) ∧ w'.cell? ⟨(ad112.add (((ji10)).toNat * 11)).block,(ad112.add (((ji10)).toNat * 11)).off + 7,none⟩ = some (.int .u32 ((a_a l0_1 (ji10)).f7)) ∧ w'.cell? ⟨(ad112.add (((ji10)).toNat * 11)).block,(ad112.add (((ji10)).toNat * 11)).off + 8,none⟩ = some (.int .i64 ((a_a l0_1 (ji10)).f8)) ∧ w'.cell? ⟨(ad112.add (((ji10)).toNat * 11)).block,(ad112.add (((ji10)).toNat * 11)).off + 9,none⟩ = some (.int .i64 ((a_a l0_1 (ji10)).f9)) ∧ w'.cell? ⟨(ad112.add (((ji10)).toNat * 11)).block,(ad112.add (((ji10)).toNat * 11)).off + 10,none⟩ = some (.int .i64 ((a_a l0_1 (ji10)).f10))) (ds:=[]) Z0_ (by kernel_rfl) rfl rfl ⟨(a_b a_B.out 0).trans rfl,(a_b a_B.out 1).trans rfl,(a_b a_B.out 2).trans rfl,(a_b a_B.out 3).trans rfl,(a_b a_B.out 4).trans rfl,(a_b a_B.out 5).trans rfl,(a_b a_B.out 6).trans rfl,(a_b a_B.out 7).trans rfl,(a_b a_B.out 8).trans rfl,(a_b a_B.out 9).trans rfl,(a_b a_B.out 10).trans rfl,(a_b b_h.out 0).trans rfl,(a_b b_h.out 1).trans rfl,(a_b b_V.out 0).trans rfl,((HB.out.cell (World.block_lt_of_cell? w _ c_i)).trans c_i),((HB.out.cell (World.block_lt_of_cell? w _ c_j)).trans c_j),((HB.out.cell (World.block_lt_of_cell? w _ c_k)).trans c_k),((HB.out.cell (World.block_lt_of_cell? w _ c_l)).trans c_l),((HB.out.cell (World.block_lt_of_cell? w _ c_m)).trans c_m),((HB.out.cell (World.block_lt_of_cell? w _ c_n)).trans c_n),((HB.out.cell (World.block_lt_of_cell? w _ c_o)).trans c_o),((HB.out.cell (World.block_lt_of_cell? w _ c_p)).trans c_p),((HB.out.cell (World.block_lt_of_cell? w _ c_q)).trans c_q),((HB.out.cell (World.block_lt_of_cell? w _ c_r)).trans c_r),((HB.out.cell (World.block_lt_of_cell? w _ b_0)).trans b_0)⟩ (fun hHeld => ?_);refine b_T a_y.tab6 a_y.h_Y (fun HT_ HW_ => ?_)
    generalize w21.drew = w60 at b_h a_B b_V HB c_Q c_R c_s c_S c_T c_U c_V c_W c_X c_Y c_Z hHeld ⊢
    refine b_z (i:=0) (N:=some 17) (v:=?_) (a':=?_) Z4_ rfl rfl (a_N HT_.out HW_.out (by kernel_rfl)) (fun _ _ _ h => h) (Or.inl ⟨by rfl,?_⟩) hHeld ?_ ?_
    rotate_left
    ·rintro w' ⟨s0,s1,s2,s3,s4,s5,s6,s7,s8,s9,s10,s11,s12,s13,s14,s15,s16,s17,s18,s19,s20,s21,s22,s23,s24⟩
     go_simp
     with_reducible rfl
    rotate_left
    ·simp only [Act.put,sa_,sb_,sc_,a_0,a_1]
     rfl
    refine one_ (i:=1) (N:=some 18) Z10_ rfl rfl (b_W HT_.out (by kernel_rfl)) (by decide) (fun K hK => ?_)
    refine d_f Tryd.func35 (by kernel_rfl) rfl #[.agg #[.int .i64 ((a_a l0_1 x10_1).f0),.int .i64 ((a_a l0_1 x10_1).f1),.int .i64 ((a_a l0_1 x10_1).f2),.int .i64 ((a_a l0_1 x10_1).f3),.int .i64 ((a_a l0_1 x10_1).f4),.bool ((a_a l0_1 x10_1).f5),.bool ((a_a l0_1 x10_1).f6),.int .u32 ((a_a l0_1 x10_1).f7),.int .i64 ((a_a l0_1 x10_1).f8),.int .i64 ((a_a l0_1 x10_1).f9),.int .i64 ((a_a l0_1 x10_1).f10)]] (by rfl) rfl rfl (by (try simp only [List.map_toArray,List.map_cons,List.map_nil]);first|done|rfl|(simp only [List.length_drop,List.length_take];rfl)) ?_
    with_reducible refine (a_R.calls k1 ((a_a l0_1 x10_1).f0) ((a_a l0_1 x10_1).f1) ((a_a l0_1 x10_1).f2) ((a_a l0_1 x10_1).f3) ((a_a l0_1 x10_1).f4) ((a_a l0_1 x10_1).f5) ((a_a l0_1 x10_1).f6) ((a_a l0_1 x10_1).f7) ((a_a l0_1 x10_1).f8) ((a_a l0_1 x10_1).f9) ((a_a l0_1 x10_1).f10) true _ A7.out).mono ?_
    rintro e w61 ⟨rfl,hb⟩
    refine ⟨_,rfl,?_⟩
    replace b_h:=a_g.mk (a_m (bup_ b_h.out) hb)
    replace a_B:=a_g.mk (a_m (bup_ a_B.out) hb)
    replace b_V:=a_g.mk (a_m (bup_ b_V.out) hb)
    replace HB:=a_g.mk (a_p (by repeat (first|(with_reducible first|exact HB.out|apply a_j|apply a_f|apply a_k|refine a_i ?_ d_J.out|refine a_i ?_ e_w.out|refine a_i ?_ e_J.out)|exact HB.out)) hb)
    (try clear hb)
    (try clear hb2)
    (try clear hk)
    (try clear hi)
    refine hK.out _ _ ⟨(a_b a_B.out 0).trans rfl,(a_b a_B.out 1).trans rfl,(a_b a_B.out 2).trans rfl,(a_b a_B.out 3).trans rfl,(a_b a_B.out 4).trans rfl,(a_b a_B.out 5).trans rfl,(a_b a_B.out 6).trans rfl,(a_b a_B.out 7).trans rfl,(a_b a_B.out 8).trans rfl,(a_b a_B.out 9).trans rfl,(a_b a_B.out 10).trans rfl,(a_b b_h.out 0).trans rfl,(a_b b_h.out 1).trans rfl,(a_b b_V.out 0).trans rfl,((HB.out.cell (World.block_lt_of_cell? w _ c_i)).trans c_i),((HB.out.cell (World.block_lt_of_cell? w _ c_j)).trans c_j),((HB.out.cell (World.block_lt_of_cell? w _ c_k)).trans c_k),((HB.out.cell (World.block_lt_of_cell? w _ c_l)).trans c_l),((HB.out.cell (World.block_lt_of_cell? w _ c_m)).trans c_m),((HB.out.cell (World.block_lt_of_cell? w _ c_n)).trans c_n),((HB.out.cell (World.block_lt_of_cell? w _ c_o)).trans c_o),((HB.out.cell (World.block_lt_of_cell? w _ c_p)).trans c_p),((HB.out.cell (World.block_lt_of_cell? w _ c_q)).trans c_q),((HB.out.cell (World.block_lt_of_cell? w _ c_r)).trans c_r),((HB.out.cell (World.block_lt_of_cell? w _ b_0)).trans b_0)⟩ (fun hHeld => ?_)
    clear hK K
    refine c_N (a':=?_) ?_ ?_
    rotate_left
    ·show Act.put _ (some 18) _ = _
     simp only [Act.put,sa_,sb_,sc_,a_0,a_1]
     rfl
    refine pt_ 2 (some 19) Z13_ HT_ ?_
    refine pt_ 3 (some 20) Z17_ HT_ ?_
    refine pt_ 4 (some 21) Z20_ HT_ ?_
    refine pt_ 5 (some 22) Z25_ HT_ ?_
    refine pt_ 6 (some 23) Z28_ HT_ ?_
    refine pt_ 7 (some 24) Z32_ HT_ ?_
    refine pt_ 9 (some 26) Z35_ HT_ ?_
    refine pt_ 10 (some 27) Z36_ HT_ ?_
    refine pt_ 14 (some 31) Z37_ HT_ ?_
    refine b_z (i:=8) (N:=some 25) (v:=?_) (a':=?_) Z48_ rfl rfl (a_N HT_.out HW_.out (by kernel_rfl)) (fun _ _ _ h => h) (Or.inl ⟨by rfl,?_⟩) hHeld ?_ ?_
    rotate_left
    ·rintro w' ⟨s0,s1,s2,s3,s4,s5,s6,s7,s8,s9,s10,s11,s12,s13,s14,s15,s16,s17,s18,s19,s20,s21,s22,s23,s24⟩
     go_simp
     with_reducible rfl
    rotate_left
    ·simp only [Act.put,sa_,sb_,sc_,a_0,a_1]
     rfl
    refine pt_ 11 (some 28) Z52_ HT_ ?_
    refine pt_ 12 (some 29) Z56_ HT_ ?_
    refine b_z (i:=13) (N:=some 30) (v:=?_) (a':=?_) Z60_ rfl rfl (a_N HT_.out HW_.out (by kernel_rfl)) (fun _ _ _ h => h) (Or.inl ⟨by rfl,?_⟩) hHeld ?_ ?_
    rotate_left
    ·rintro w' ⟨s0,s1,s2,s3,s4,s5,s6,s7,s8,s9,s10,s11,s12,s13,s14,s15,s16,s17,s18,s19,s20,s21,s22,s23,s24⟩
     go_simp
     with_reducible rfl
    rotate_left
    ·simp only [Act.put,sa_,sb_,sc_,a_0,a_1]
     rfl
    refine b_z (i:=15) (N:=some 32) (v:=?_) (a':=?_) Z66_ rfl rfl (a_N HT_.out HW_.out (by kernel_rfl)) (fun _ _ _ h => h) (Or.inl ⟨by rfl,?_⟩) hHeld ?_ ?_
    rotate_left
    ·rintro w' ⟨s0,s1,s2,s3,s4,s5,s6,s7,s8,s9,s10,s11,s12,s13,s14,s15,s16,s17,s18,s19,s20,s21,s22,s23,s24⟩
     go_simp
     with_reducible rfl
    rotate_left
    ·simp only [Act.put,sa_,sb_,sc_,a_0,a_1]
     rfl
    refine pt_ 16 (some 33) Z69_ HT_ ?_
    refine pt_ 17 (some 34) Z72_ HT_ ?_
    refine pt_ 18 (some 35) Z76_ HT_ ?_
    refine pt_ 19 (some 36) Z79_ HT_ ?_
    refine pt_ 20 (some 37) Z82_ HT_ ?_
    refine pt_ 24 (some 41) Z84_ HT_ ?_
    refine b_z (i:=21) (N:=some 38) (v:=?_) (a':=?_) Z87_ rfl rfl (a_N HT_.out HW_.out (by kernel_rfl)) (fun _ _ _ h => h) (Or.inl ⟨by rfl,?_⟩) hHeld ?_ ?_
    rotate_left
    ·rintro w' ⟨s0,s1,s2,s3,s4,s5,s6,s7,s8,s9,s10,s11,s12,s13,s14,s15,s16,s17,s18,s19,s20,s21,s22,s23,s24⟩
     go_simp
     with_reducible rfl
    rotate_left
    ·simp only [Act.put,sa_,sb_,sc_,a_0,a_1]
     rfl
    refine b_z (i:=22) (N:=some 39) (v:=?_) (a':=?_) Z90_ rfl rfl (a_N HT_.out HW_.out (by kernel_rfl)) (fun _ _ _ h => h) (Or.inl ⟨by rfl,?_⟩) hHeld ?_ ?_
    rotate_left
    ·rintro w' ⟨s0,s1,s2,s3,s4,s5,s6,s7,s8,s9,s10,s11,s12,s13,s14,s15,s16,s17,s18,s19,s20,s21,s22,s23,s24⟩
     go_simp
     with_reducible rfl
    rotate_left
    ·simp only [Act.put,sa_,sb_,sc_,a_0,a_1]
     rfl
    refine b_z (i:=25) (N:=some 42) (v:=?_) (a':=?_) Z91_ rfl rfl (a_N HT_.out HW_.out (by kernel_rfl)) (fun _ _ _ h => h) (Or.inl ⟨by rfl,?_⟩) hHeld ?_ ?_
    rotate_left
    ·rintro w' ⟨s0,s1,s2,s3,s4,s5,s6,s7,s8,s9,s10,s11,s12,s13,s14,s15,s16,s17,s18,s19,s20,s21,s22,s23,s24⟩
     go_simp
     with_reducible rfl
    rotate_left
    ·simp only [Act.put,sa_,sb_,sc_,a_0,a_1]
     rfl
    refine one_ (i:=23) (N:=some 40) Z96_ rfl rfl (b_W HT_.out (by kernel_rfl)) (by decide) (fun K hK => ?_)
    refine d_f Tryd.func23 (by kernel_rfl) rfl #[.slice (some ad112) l0_1.length c0_1,.func (.func 33) #[] #[.pointer (some ⟨a_6,0,none⟩)]] (by rfl) rfl rfl (by (try simp only [List.map_toArray,List.map_cons,List.map_nil]);first|done|rfl|(simp only [List.length_drop,List.length_take];rfl)) ?_
    with_reducible refine (b_g.calls _ _ l0_1 a_6 ((a_a l0_1 x10_1).f0) ((a_a l0_1 x10_1).f1) ((a_a l0_1 x10_1).f2) ((a_a l0_1 x10_1).f3) ((a_a l0_1 x10_1).f4) ((a_a l0_1 x10_1).f5) ((a_a l0_1 x10_1).f6) ((a_a l0_1 x10_1).f7) ((a_a l0_1 x10_1).f8) ((a_a l0_1 x10_1).f9) ((a_a l0_1 x10_1).f10) t117 _ ?side1 ?side2 ?side3 A24.out).mono ?_
    (case side1 => repeat (first|exact (Kd.a_5 b_v.out HB.out)|(with_reducible refine Kd.a_8 ?_ _)|(with_reducible refine Kd.a_9 ?_ _)|(with_reducible refine Kd.b_p ?_)))
    (case side2 => exact c_b.out)
    (case side3 => exact (bup_ a_B.out))
    rintro e w62 ⟨rfl,hb⟩
    refine ⟨_,rfl,?_⟩
    replace b_h:=a_g.mk (a_m (bup_ b_h.out) hb)
    replace a_B:=a_g.mk (a_m (bup_ a_B.out) hb)
    replace b_V:=a_g.mk (a_m (bup_ b_V.out) hb)
    replace HB:=a_g.mk (a_p (by repeat (first|(with_reducible first|exact HB.out|apply a_j|apply a_f|apply a_k|refine a_i ?_ d_J.out|refine a_i ?_ e_w.out|refine a_i ?_ e_J.out)|exact HB.out)) hb)
    (try clear hb)
    (try clear hb2)
    (try clear hk)
    (try clear hi)
    refine hK.out _ _ ⟨(a_b a_B.out 0).trans rfl,(a_b a_B.out 1).trans rfl,(a_b a_B.out 2).trans rfl,(a_b a_B.out 3).trans rfl,(a_b a_B.out 4).trans rfl,(a_b a_B.out 5).trans rfl,(a_b a_B.out 6).trans rfl,(a_b a_B.out 7).trans rfl,(a_b a_B.out 8).trans rfl,(a_b a_B.out 9).trans rfl,(a_b a_B.out 10).trans rfl,(a_b b_h.out 0).trans rfl,(a_b b_h.out 1).trans rfl,(a_b b_V.out 0).trans rfl,((HB.out.cell (World.block_lt_of_cell? w _ c_i)).trans c_i),((HB.out.cell (World.block_lt_of_cell? w _ c_j)).trans c_j),((HB.out.cell (World.block_lt_of_cell? w _ c_k)).trans c_k),((HB.out.cell (World.block_lt_of_cell? w _ c_l)).trans c_l),((HB.out.cell (World.block_lt_of_cell? w _ c_m)).trans c_m),((HB.out.cell (World.block_lt_of_cell? w _ c_n)).trans c_n),((HB.out.cell (World.block_lt_of_cell? w _ c_o)).trans c_o),((HB.out.cell (World.block_lt_of_cell? w _ c_p)).trans c_p),((HB.out.cell (World.block_lt_of_cell? w _ c_q)).trans c_q),((HB.out.cell (World.block_lt_of_cell? w _ c_r)).trans c_r),((HB.out.cell (World.block_lt_of_cell? w _ b_0)).trans b_0)⟩ (fun hHeld => ?_)
    clear hK K
    refine c_N (a':=?_) ?_ ?_
    rotate_left
    ·show Act.put _ (some 40) _ = _
     simp only [Act.put,sa_,sb_,sc_,a_0,a_1]
     rfl
    refine pt_ 26 (some 43) Z97_ HT_ ?_
    refine pt_ 27 (some 44) Z98_ HT_ ?_
    refine pt_ 28 (some 45) Z99_ HT_ ?_
    refine pk_ 29 (some 46) l_H HT_ ?_
    refine pk_ 30 (some 47) r_T HT_ ?_
    refine pk_ 31 (some 48) r_U HT_ ?_
    refine pk_ 32 (some 49) r_X HT_ ?_
    refine pk_ 33 (some 50) r_Y HT_ ?_
    refine pk_ 34 (some 51) l_I HT_ ?_
    refine pk_ 35 (some 52) l_J HT_ ?_
    refine pt_ 36 (some 53) l_K HT_ ?_
    refine e_U (c_E HT_.out (by kernel_rfl)) ?_
    try go_wp2
    go_ret
    exact ⟨by first|rfl|(simp [a_u,a_v] <;> rfl)|(simp only [← hji10];first|rfl|(simp [a_u,a_v] <;> rfl))|(simp [*, a_u,a_v] <;> rfl),by repeat (first|(with_reducible first|exact HB.out|apply a_j|apply a_f|apply a_k|refine a_i ?_ d_J.out|refine a_i ?_ e_w.out|refine a_i ?_ e_J.out)|exact HB.out)⟩
   rw [if_pos c25] at H
   have c25b0 : (t117 == ((a_a l0_1 x10_1).f9)) = true:=beq_iff_eq.mpr c25
   have c25b1 : (t117 != ((a_a l0_1 x10_1).f9)) = false:=bne_eq_false_iff_eq.mpr c25
   clear c25
   replace H:=Option.bind_eq_some_iff.mp H
   obtain ⟨t118,A260,H⟩:=H
   replace H : (if t118 = ((a_a l0_1 x10_1).f9) then (a_y.l0 k1 l0_1 (l0_1.length : Int) (wrap64 (x10_1 + 1)) a0_0 l0_1) else (some false)) = some r:=H
   have A26:=a_g.mk A260
   clear A260
   by_cases c27 : t118 = ((a_a l0_1 x10_1).f9)
   rotate_left
   ·rw [if_neg c27] at H
    have c27b0 : (t118 == ((a_a l0_1 x10_1).f9)) = false:=beq_eq_false_iff_ne.mpr c27
    have c27b1 : (t118 != ((a_a l0_1 x10_1).f9)) = true:=bne_iff_ne.mpr c27
    obtain rfl:=Option.some.inj H
    have p116 : 0 ≤ ((ji10) : Int):=of_decide_eq_true (by first|(with_reducible assumption)|assumption)
    have q116 : (ji10) < (l0_1.length : Int):=of_decide_eq_true (by first|(with_reducible assumption)|assumption)
    obtain ⟨ad116,e116,c_Q,c_R,c_S,c_T,c_U,c_V,c_W,c_X,c_Y,c_Z,c_s⟩:=c_e b_v.out (ji10) p116 q116
    have b_0:=c_s
    have c_r:=c_Z
    have c_q:=c_Y
    have c_p:=c_X
    have c_o:=c_W
    have c_n:=c_V
    have c_m:=c_U
    have c_l:=c_T
    have c_k:=c_S
    have c_j:=c_R
    have c_i:=c_Q
    obtain rfl : ad112 = ad116:=(by injection e116)
    replace c_Q:=(HB.out.cell (World.block_lt_of_cell? w _ c_Q)).trans c_Q
    replace c_R:=(HB.out.cell (World.block_lt_of_cell? w _ c_R)).trans c_R
    replace c_S:=(HB.out.cell (World.block_lt_of_cell? w _ c_S)).trans c_S
    replace c_T:=(HB.out.cell (World.block_lt_of_cell? w _ c_T)).trans c_T
    replace c_U:=(HB.out.cell (World.block_lt_of_cell? w _ c_U)).trans c_U
    replace c_V:=(HB.out.cell (World.block_lt_of_cell? w _ c_V)).trans c_V
    replace c_W:=(HB.out.cell (World.block_lt_of_cell? w _ c_W)).trans c_W
    replace c_X:=(HB.out.cell (World.block_lt_of_cell? w _ c_X)).trans c_X
    replace c_Y:=(HB.out.cell (World.block_lt_of_cell? w _ c_Y)).trans c_Y
    replace c_Z:=(HB.out.cell (World.block_lt_of_cell? w _ c_Z)).trans c_Z
    replace c_s:=(HB.out.cell (World.block_lt_of_cell? w _ c_s)).trans c_s
    replace p116:=eq_true p116
    replace q116:=eq_true q116
    refine d_p (n:=37) (S:=fun w' => w'.cell? ⟨a_6,0,none⟩ = some (.int .i64 ((a_a l0_1 x10_1).f0)) ∧ w'.cell? ⟨a_6,1,none⟩ = some (.int .i64 ((a_a l0_1 x10_1).f1)) ∧ w'.cell? ⟨a_6,2,none⟩ = some (.int .i64 ((a_a l0_1 x10_1).f2)) ∧ w'.cell? ⟨a_6,3,none⟩ = some (.int .i64 ((a_a l0_1 x10_1).f3)) ∧ w'.cell? ⟨a_6,4,none⟩ = some (.int .i64 ((a_a l0_1 x10_1).f4)) ∧ w'.cell? ⟨a_6,5,none⟩ = some (.bool ((a_a l0_1 x10_1).f5)) ∧ w'.cell? ⟨a_6,6,none⟩ = some (.bool ((a_a l0_1 x10_1).f6)) ∧ w'.cell? ⟨a_6,7,none⟩ = some (.int .u32 ((a_a l0_1 x10_1).f7)) ∧ w'.cell? ⟨a_6,8,none⟩ = some (.int .i64 ((a_a l0_1 x10_1).f8)) ∧ w'.cell? ⟨a_6,9,none⟩ = some (.int .i64 ((a_a l0_1 x10_1).f9)) ∧ w'.cell? ⟨a_6,10,none⟩ = some (.int .i64 ((a_a l0_1 x10_1).f10)) ∧ w'.cell? ⟨d_9,0,none⟩ = some (.int .i64 a0_0) ∧ w'.cell? ⟨d_9,1,none⟩ = some (.slice (some ad112) l0_1.length c0_1) ∧ w'.cell? ⟨e_O,0,none⟩ = some (.func (.func 33) #[] #[.pointer (some ⟨a_6,0,none⟩)]) ∧ w'.cell? (ad112.add (((ji10)).toNat * 11)) = some (.int .i64 ((a_a l0_1 (ji10)).f0)) ∧ w'.cell? ⟨(ad112.add (((ji10)).toNat * 11)).block,(ad112.add (((ji10)).toNat * 11)).off + 1,none⟩ = some (.int .i64 ((a_a l0_1 (ji10)).f1)) ∧ w'.cell? ⟨(ad112.add (((ji10)).toNat * 11)).block,(ad112.add (((ji10)).toNat * 11)).off + 2,none⟩ = some (.int .i64 ((a_a l0_1 (ji10)).f2)) ∧ w'.cell? ⟨(ad112.add (((ji10)).toNat * 11)).block,(ad112.add (((ji10)).toNat * 11)).off + 3,none⟩ = some (.int .i64 ((a_a l0_1 (ji10)).f3)) ∧ w'.cell? ⟨(ad112.add (((ji10)).toNat * 11)).block,(ad112.add (((ji10)).toNat * 11)).off + 4,none⟩ = some (.int .i64 ((a_a l0_1 (ji10)).f4)) ∧ w'.cell? ⟨(ad112.add (((ji10)).toNat * 11)).block,(ad112.add (((ji10)).toNat * 11)).off + 5,none⟩ = some (.bool ((a_a l0_1 (ji10)).f5)) ∧ w'.cell? ⟨(ad112.add (((ji10)).toNat * 11)).block,(ad112.add (((ji10)).toNat * 11)).off + 6,none⟩ = some (.bool ((a_a l0_1 (ji10)).f6)) ∧ w'.cell? ⟨(ad112.add (((ji10)).toNat * 11)).block,(ad112.add (((ji10)).toNat * 11)).off + 7,none⟩ = some (.int .u32 ((a_a l0_1 (ji10)).f7)) ∧ w'.cell? ⟨(ad112.add (((ji10)).toNat * 11)).block,(ad112.add (((ji10)).toNat * 11)).off + 8,none⟩ = some (.int .i64 ((a_a l0_1 (ji10)).f8)) ∧ w'.cell? ⟨(ad112.add (((ji10)).toNat * 11)).block,(ad112.add (((ji10)).toNat * 11)).off + 9,none⟩ = some (.int .i64 ((a_a l0_1 (ji10)).f9)) ∧ w'.cell? ⟨(ad112.add (((ji10)).toNat * 11)).block,(ad112.add (((ji10)).toNat * 11)).off + 10,none⟩ = some (.int .i64 ((a_a l0_1 (ji10)).f10))) (ds:=[]) Z0_ (by kernel_rfl) rfl rfl ⟨(a_b a_B.out 0).trans rfl,(a_b a_B.out 1).trans rfl,(a_b a_B.out 2).trans rfl,(a_b a_B.out 3).trans rfl,(a_b a_B.out 4).trans rfl,(a_b a_B.out 5).trans rfl,(a_b a_B.out 6).trans rfl,(a_b a_B.out 7).trans rfl,(a_b a_B.out 8).trans rfl,(a_b a_B.out 9).trans rfl,(a_b a_B.out 10).trans rfl,(a_b b_h.out 0).trans rfl,(a_b b_h.out 1).trans rfl,(a_b b_V.out 0).trans rfl,((HB.out.cell (World.block_lt_of_cell? w _ c_i)).trans c_i),((HB.out.cell (World.block_lt_of_cell? w _ c_j)).trans c_j),((HB.out.cell (World.block_lt_of_cell? w _ c_k)).trans c_k),((HB.out.cell (World.block_lt_of_cell? w _ c_l)).trans c_l),((HB.out.cell (World.block_lt_of_cell? w _ c_m)).trans c_m),((HB.out.cell (World.block_lt_of_cell? w _ c_n)).trans c_n),((HB.out.cell (World.block_lt_of_cell? w _ c_o)).trans c_o),((HB.out.cell (World.block_lt_of_cell? w _ c_p)).trans c_p),((HB.out.cell (World.block_lt_of_cell? w _ c_q)).trans c_q),((HB.out.cell (World.block_lt_of_cell? w _ c_r)).trans c_r),((HB.out.cell (World.block_lt_of_cell? w _ b_0)).trans b_0)⟩ (fun hHeld => ?_);refine b_T a_y.tab6 a_y.h_Y (fun HT_ HW_ => ?_)
    generalize w21.drew = w48 at b_h a_B b_V HB c_Q c_R c_s c_S c_T c_U c_V c_W c_X c_Y c_Z hHeld ⊢
    refine b_z (i:=0) (N:=some 17) (v:=?_) (a':=?_) Z4_ rfl rfl (a_N HT_.out HW_.out (by kernel_rfl)) (fun _ _ _ h => h) (Or.inl ⟨by rfl,?_⟩) hHeld ?_ ?_
    rotate_left
    ·rintro w' ⟨s0,s1,s2,s3,s4,s5,s6,s7,s8,s9,s10,s11,s12,s13,s14,s15,s16,s17,s18,s19,s20,s21,s22,s23,s24⟩
     go_simp
     with_reducible rfl
    rotate_left
    ·simp only [Act.put,sa_,sb_,sc_,a_0,a_1]
     rfl
    refine one_ (i:=1) (N:=some 18) Z10_ rfl rfl (b_W HT_.out (by kernel_rfl)) (by decide) (fun K hK => ?_)
    refine d_f Tryd.func35 (by kernel_rfl) rfl #[.agg #[.int .i64 ((a_a l0_1 x10_1).f0),.int .i64 ((a_a l0_1 x10_1).f1),.int .i64 ((a_a l0_1 x10_1).f2),.int .i64 ((a_a l0_1 x10_1).f3),.int .i64 ((a_a l0_1 x10_1).f4),.bool ((a_a l0_1 x10_1).f5),.bool ((a_a l0_1 x10_1).f6),.int .u32 ((a_a l0_1 x10_1).f7),.int .i64 ((a_a l0_1 x10_1).f8),.int .i64 ((a_a l0_1 x10_1).f9),.int .i64 ((a_a l0_1 x10_1).f10)]] (by rfl) rfl rfl (by (try simp only [List.map_toArray,List.map_cons,List.map_nil]);first|done|rfl|(simp only [List.length_drop,List.length_take];rfl)) ?_
    with_reducible refine (a_R.calls k1 ((a_a l0_1 x10_1).f0) ((a_a l0_1 x10_1).f1) ((a_a l0_1 x10_1).f2) ((a_a l0_1 x10_1).f3) ((a_a l0_1 x10_1).f4) ((a_a l0_1 x10_1).f5) ((a_a l0_1 x10_1).f6) ((a_a l0_1 x10_1).f7) ((a_a l0_1 x10_1).f8) ((a_a l0_1 x10_1).f9) ((a_a l0_1 x10_1).f10) true _ A7.out).mono ?_
    rintro e w49 ⟨rfl,hb⟩
    refine ⟨_,rfl,?_⟩
    replace b_h:=a_g.mk (a_m (bup_ b_h.out) hb)
    replace a_B:=a_g.mk (a_m (bup_ a_B.out) hb)
    replace b_V:=a_g.mk (a_m (bup_ b_V.out) hb)
    replace HB:=a_g.mk (a_p (by repeat (first|(with_reducible first|exact HB.out|apply a_j|apply a_f|apply a_k|refine a_i ?_ d_J.out|refine a_i ?_ e_w.out|refine a_i ?_ e_J.out)|exact HB.out)) hb)
    (try clear hb)
    (try clear hb2)
    (try clear hk)
    (try clear hi)
    refine hK.out _ _ ⟨(a_b a_B.out 0).trans rfl,(a_b a_B.out 1).trans rfl,(a_b a_B.out 2).trans rfl,(a_b a_B.out 3).trans rfl,(a_b a_B.out 4).trans rfl,(a_b a_B.out 5).trans rfl,(a_b a_B.out 6).trans rfl,(a_b a_B.out 7).trans rfl,(a_b a_B.out 8).trans rfl,(a_b a_B.out 9).trans rfl,(a_b a_B.out 10).trans rfl,(a_b b_h.out 0).trans rfl,(a_b b_h.out 1).trans rfl,(a_b b_V.out 0).trans rfl,((HB.out.cell (World.block_lt_of_cell? w _ c_i)).trans c_i),((HB.out.cell (World.block_lt_of_cell? w _ c_j)).trans c_j),((HB.out.cell (World.block_lt_of_cell? w _ c_k)).trans c_k),((HB.out.cell (World.block_lt_of_cell? w _ c_l)).trans c_l),((HB.out.cell (World.block_lt_of_cell? w _ c_m)).trans c_m),((HB.out.cell (World.block_lt_of_cell? w _ c_n)).trans c_n),((HB.out.cell (World.block_lt_of_cell? w _ c_o)).trans c_o),((HB.out.cell (World.block_lt_of_cell? w _ c_p)).trans c_p),((HB.out.cell (World.block_lt_of_cell? w _ c_q)).trans c_q),((HB.out.cell (World.block_lt_of_cell? w _ c_r)).trans c_r),((HB.out.cell (World.block_lt_of_cell? w _ b_0)).trans b_0)⟩ (fun hHeld => ?_)
    clear hK K
    refine c_N (a':=?_) ?_ ?_
    rotate_left
    ·show Act.put _ (some 18) _ = _
     simp only [Act.put,sa_,sb_,sc_,a_0,a_1]
     rfl
    refine pt_ 2 (some 19) Z13_ HT_ ?_
    refine pt_ 3 (some 20) Z17_ HT_ ?_
    refine pt_ 4 (some 21) Z20_ HT_ ?_
    refine pt_ 5 (some 22) Z25_ HT_ ?_
    refine pt_ 6 (some 23) Z28_ HT_ ?_
    refine pt_ 7 (some 24) Z32_ HT_ ?_
    refine pt_ 9 (some 26) Z35_ HT_ ?_
    refine pt_ 10 (some 27) Z36_ HT_ ?_
    refine pt_ 14 (some 31) Z37_ HT_ ?_
    refine b_z (i:=8) (N:=some 25) (v:=?_) (a':=?_) Z48_ rfl rfl (a_N HT_.out HW_.out (by kernel_rfl)) (fun _ _ _ h => h) (Or.inl ⟨by rfl,?_⟩) hHeld ?_ ?_
    rotate_left
    ·rintro w' ⟨s0,s1,s2,s3,s4,s5,s6,s7,s8,s9,s10,s11,s12,s13,s14,s15,s16,s17,s18,s19,s20,s21,s22,s23,s24⟩
     go_simp
     with_reducible rfl
    rotate_left
    ·simp only [Act.put,sa_,sb_,sc_,a_0,a_1]
     rfl
    refine pt_ 11 (some 28) Z52_ HT_ ?_
    refine pt_ 12 (some 29) Z56_ HT_ ?_
    refine b_z (i:=13) (N:=some 30) (v:=?_) (a':=?_) Z60_ rfl rfl (a_N HT_.out HW_.out (by kernel_rfl)) (fun _ _ _ h => h) (Or.inl ⟨by rfl,?_⟩) hHeld ?_ ?_
    rotate_left
    ·rintro w' ⟨s0,s1,s2,s3,s4,s5,s6,s7,s8,s9,s10,s11,s12,s13,s14,s15,s16,s17,s18,s19,s20,s21,s22,s23,s24⟩
     go_simp
     with_reducible rfl
    rotate_left
    ·simp only [Act.put,sa_,sb_,sc_,a_0,a_1]
     rfl
    refine b_z (i:=15) (N:=some 32) (v:=?_) (a':=?_) Z66_ rfl rfl (a_N HT_.out HW_.out (by kernel_rfl)) (fun _ _ _ h => h) (Or.inl ⟨by rfl,?_⟩) hHeld ?_ ?_
    rotate_left
    ·rintro w' ⟨s0,s1,s2,s3,s4,s5,s6,s7,s8,s9,s10,s11,s12,s13,s14,s15,s16,s17,s18,s19,s20,s21,s22,s23,s24⟩
     go_simp
     with_reducible rfl
    rotate_left
    ·simp only [Act.put,sa_,sb_,sc_,a_0,a_1]
     rfl
    refine pt_ 16 (some 33) Z69_ HT_ ?_
    refine pt_ 17 (some 34) Z72_ HT_ ?_
    refine pt_ 18 (some 35) Z76_ HT_ ?_
    refine pt_ 19 (some 36) Z79_ HT_ ?_
    refine pt_ 20 (some 37) Z82_ HT_ ?_
    refine pt_ 24 (some 41) Z84_ HT_ ?_
    refine b_z (i:=21) (N:=some 38) (v:=?_) (a':=?_) Z87_ rfl rfl (a_N HT_.out HW_.out (by kernel_rfl)) (fun _ _ _ h => h) (Or.inl ⟨by rfl,?_⟩) hHeld ?_ ?_
    rotate_left
    ·rintro w' ⟨s0,s1,s2,s3,s4,s5,s6,s7,s8,s9,s10,s11,s12,s13,s14,s15,s16,s17,s18,s19,s20,s21,s22,s23,s24⟩
     go_simp
     with_reducible rfl
    rotate_left
    ·simp only [Act.put,sa_,sb_,sc_,a_0,a_1]
     rfl
    refine b_z (i:=22) (N:=some 39) (v:=?_) (a':=?_) Z90_ rfl rfl (a_N HT_.out HW_.out (by kernel_rfl)) (fun _ _ _ h => h) (Or.inl ⟨by rfl,?_⟩) hHeld ?_ ?_
    rotate_left
    ·rintro w' ⟨s0,s1,s2,s3,s4,s5,s6,s7,s8,s9,s10,s11,s12,s13,s14,s15,s16,s17,s18,s19,s20,s21,s22,s23,s24⟩
     go_simp
     with_reducible rfl
    rotate_left
    ·simp only [Act.put,sa_,sb_,sc_,a_0,a_1]
     rfl
    refine b_z (i:=25) (N:=some 42) (v:=?_) (a':=?_) Z91_ rfl rfl (a_N HT_.out HW_.out (by kernel_rfl)) (fun _ _ _ h => h) (Or.inl ⟨by rfl,?_⟩) hHeld ?_ ?_
    rotate_left
    ·rintro w' ⟨s0,s1,s2,s3,s4,s5,s6,s7,s8,s9,s10,s11,s12,s13,s14,s15,s16,s17,s18,s19,s20,s21,s22,s23,s24⟩
     go_simp
     with_reducible rfl
    rotate_left
    ·simp only [Act.put,sa_,sb_,sc_,a_0,a_1]
     rfl
    refine one_ (i:=23) (N:=some 40) Z96_ rfl rfl (b_W HT_.out (by kernel_rfl)) (by decide) (fun K hK => ?_)
    refine d_f Tryd.func23 (by kernel_rfl) rfl #[.slice (some ad112) l0_1.length c0_1,.func (.func 33) #[] #[.pointer (some ⟨a_6,0,none⟩)]] (by rfl) rfl rfl (by (try simp only [List.map_toArray,List.map_cons,List.map_nil]);first|done|rfl|(simp only [List.length_drop,List.length_take];rfl)) ?_
    with_reducible refine (b_g.calls _ _ l0_1 a_6 ((a_a l0_1 x10_1).f0) ((a_a l0_1 x10_1).f1) ((a_a l0_1 x10_1).f2) ((a_a l0_1 x10_1).f3) ((a_a l0_1 x10_1).f4) ((a_a l0_1 x10_1).f5) ((a_a l0_1 x10_1).f6) ((a_a l0_1 x10_1).f7) ((a_a l0_1 x10_1).f8) ((a_a l0_1 x10_1).f9) ((a_a l0_1 x10_1).f10) t117 _ ?side1 ?side2 ?side3 A24.out).mono ?_
    (case side1 => repeat (first|exact (Kd.a_5 b_v.out HB.out)|(with_reducible refine Kd.a_8 ?_ _)|(with_reducible refine Kd.a_9 ?_ _)|(with_reducible refine Kd.b_p ?_)))
    (case side2 => exact c_b.out)
    (case side3 => exact (bup_ a_B.out))
    rintro e w50 ⟨rfl,hb⟩
    refine ⟨_,rfl,?_⟩
    replace b_h:=a_g.mk (a_m (bup_ b_h.out) hb)
    replace a_B:=a_g.mk (a_m (bup_ a_B.out) hb)
    replace b_V:=a_g.mk (a_m (bup_ b_V.out) hb)
    replace HB:=a_g.mk (a_p (by repeat (first|(with_reducible first|exact HB.out|apply a_j|apply a_f|apply a_k|refine a_i ?_ d_J.out|refine a_i ?_ e_w.out|refine a_i ?_ e_J.out)|exact HB.out)) hb)
    (try clear hb)
    (try clear hb2)
    (try clear hk)
    (try clear hi)
    refine hK.out _ _ ⟨(a_b a_B.out 0).trans rfl,(a_b a_B.out 1).trans rfl,(a_b a_B.out 2).trans rfl,(a_b a_B.out 3).trans rfl,(a_b a_B.out 4).trans rfl,(a_b a_B.out 5).trans rfl,(a_b a_B.out 6).trans rfl,(a_b a_B.out 7).trans rfl,(a_b a_B.out 8).trans rfl,(a_b a_B.out 9).trans rfl,(a_b a_B.out 10).trans rfl,(a_b b_h.out 0).trans rfl,(a_b b_h.out 1).trans rfl,(a_b b_V.out 0).trans rfl,((HB.out.cell (World.block_lt_of_cell? w _ c_i)).trans c_i),((HB.out.cell (World.block_lt_of_cell? w _ c_j)).trans c_j),((HB.out.cell (World.block_lt_of_cell? w _ c_k)).trans c_k),((HB.out.cell (World.block_lt_of_cell? w _ c_l)).trans c_l),((HB.out.cell (World.block_lt_of_cell? w _ c_m)).trans c_m),((HB.out.cell (World.block_lt_of_cell? w _ c_n)).trans c_n),((HB.out.cell (World.block_lt_of_cell? w _ c_o)).trans c_o),((HB.out.cell (World.block_lt_of_cell? w _ c_p)).trans c_p),((HB.out.cell (World.block_lt_of_cell? w _ c_q)).trans c_q),((HB.out.cell (World.block_lt_of_cell? w _ c_r)).trans c_r),((HB.out.cell (World.block_lt_of_cell? w _ b_0)).trans b_0)⟩ (fun hHeld => ?_)
    clear hK K
    refine c_N (a':=?_) ?_ ?_
    rotate_left
    ·show Act.put _ (some 40) _ = _
     simp only [Act.put,sa_,sb_,sc_,a_0,a_1]
     rfl
    refine pt_ 26 (some 43) Z97_ HT_ ?_
    refine pt_ 27 (some 44) Z98_ HT_ ?_
    refine pt_ 28 (some 45) Z99_ HT_ ?_
    refine pt_ 29 (some 46) l_H HT_ ?_
    refine pt_ 31 (some 48) r_R HT_ ?_
    refine pt_ 33 (some 50) r_S HT_ ?_
    refine b_z (i:=30) (N:=some 47) (v:=?_) (a':=?_) r_V rfl rfl (a_N HT_.out HW_.out (by kernel_rfl)) (fun _ _ _ h => h) (Or.inl ⟨by rfl,?_⟩) hHeld ?_ ?_
    rotate_left
    ·rintro w' ⟨s0,s1,s2,s3,s4,s5,s6,s7,s8,s9,s10,s11,s12,s13,s14,s15,s16,s17,s18,s19,s20,s21,s22,s23,s24⟩
     go_simp
     with_reducible rfl
    rotate_left
    ·simp only [Act.put,sa_,sb_,sc_,a_0,a_1]
     rfl
    refine b_z (i:=34) (N:=some 51) (v:=?_) (a':=?_) r_W rfl rfl (a_N HT_.out HW_.out (by kernel_rfl)) (fun _ _ _ h => h) (Or.inl ⟨by rfl,?_⟩) hHeld ?_ ?_
    rotate_left
    ·rintro w' ⟨s0,s1,s2,s3,s4,s5,s6,s7,s8,s9,s10,s11,s12,s13,s14,s15,s16,s17,s18,s19,s20,s21,s22,s23,s24⟩
     go_simp
     with_reducible rfl
    rotate_left
    ·simp only [Act.put,sa_,sb_,sc_,a_0,a_1]
     rfl
    refine one_ (i:=32) (N:=some 49) l_I rfl rfl (b_W HT_.out (by kernel_rfl)) (by decide) (fun K hK => ?_)
    refine d_f Tryd.func23 (by kernel_rfl) rfl #[.slice (some ad112) l0_1.length c0_1,.func (.func 34) #[] #[.pointer (some ⟨e_O,0,none⟩),.pointer (some ⟨a_6,0,none⟩)]] (by rfl) rfl rfl (by (try simp only [List.map_toArray,List.map_cons,List.map_nil]);first|done|rfl|(simp only [List.length_drop,List.length_take];rfl)) ?_
    with_reducible refine (b_e.calls _ _ l0_1 e_O a_6 a_6 ((a_a l0_1 x10_1).f0) ((a_a l0_1 x10_1).f1) ((a_a l0_1 x10_1).f2) ((a_a l0_1 x10_1).f3) ((a_a l0_1 x10_1).f4) ((a_a l0_1 x10_1).f5) ((a_a l0_1 x10_1).f6) ((a_a l0_1 x10_1).f7) ((a_a l0_1 x10_1).f8) ((a_a l0_1 x10_1).f9) ((a_a l0_1 x10_1).f10) ((a_a l0_1 x10_1).f0) ((a_a l0_1 x10_1).f1) ((a_a l0_1 x10_1).f2) ((a_a l0_1 x10_1).f3) ((a_a l0_1 x10_1).f4) ((a_a l0_1 x10_1).f5) ((a_a l0_1 x10_1).f6) ((a_a l0_1 x10_1).f7) ((a_a l0_1 x10_1).f8) ((a_a l0_1 x10_1).f9) ((a_a l0_1 x10_1).f10) t118 _ ?side1 ?side2 ?side3 ?side4 ?side5 A26.out).mono ?_
    (case side1 => repeat (first|exact (Kd.a_5 b_v.out HB.out)|(with_reducible refine Kd.a_8 ?_ _)|(with_reducible refine Kd.a_9 ?_ _)|(with_reducible refine Kd.b_p ?_)))
    (case side2 => exact c_b.out)
    (case side3 => exact (bup_ b_V.out))
    (case side4 => exact (bup_ a_B.out))
    (case side5 => exact (bup_ a_B.out))
    rintro e w51 ⟨rfl,hb⟩
    refine ⟨_,rfl,?_⟩
    replace b_h:=a_g.mk (a_m (bup_ b_h.out) hb)
    replace a_B:=a_g.mk (a_m (bup_ a_B.out) hb)
    replace b_V:=a_g.mk (a_m (bup_ b_V.out) hb)
    replace HB:=a_g.mk (a_p (by repeat (first|(with_reducible first|exact HB.out|apply a_j|apply a_f|apply a_k|refine a_i ?_ d_J.out|refine a_i ?_ e_w.out|refine a_i ?_ e_J.out)|exact HB.out)) hb)
    (try clear hb)
    (try clear hb2)
    (try clear hk)
    (try clear hi)
    refine hK.out _ _ ⟨(a_b a_B.out 0).trans rfl,(a_b a_B.out 1).trans rfl,(a_b a_B.out 2).trans rfl,(a_b a_B.out 3).trans rfl,(a_b a_B.out 4).trans rfl,(a_b a_B.out 5).trans rfl,(a_b a_B.out 6).trans rfl,(a_b a_B.out 7).trans rfl,(a_b a_B.out 8).trans rfl,(a_b a_B.out 9).trans rfl,(a_b a_B.out 10).trans rfl,(a_b b_h.out 0).trans rfl,(a_b b_h.out 1).trans rfl,(a_b b_V.out 0).trans rfl,((HB.out.cell (World.block_lt_of_cell? w _ c_i)).trans c_i),((HB.out.cell (World.block_lt_of_cell? w _ c_j)).trans c_j),((HB.out.cell (World.block_lt_of_cell? w _ c_k)).trans c_k),((HB.out.cell (World.block_lt_of_cell? w _ c_l)).trans c_l),((HB.out.cell (World.block_lt_of_cell? w _ c_m)).trans c_m),((HB.out.cell (World.block_lt_of_cell? w _ c_n)).trans c_n),((HB.out.cell (World.block_lt_of_cell? w _ c_o)).trans c_o),((HB.out.cell (World.block_lt_of_cell? w _ c_p)).trans c_p),((HB.out.cell (World.block_lt_of_cell? w _ c_q)).trans c_q),((HB.out.cell (World.block_lt_of_cell? w _ c_r)).trans c_r),((HB.out.cell (World.block_lt_of_cell? w _ b_0)).trans b_0)⟩ (fun hHeld => ?_)
    clear hK K
    refine c_N (a':=?_) ?_ ?_
    rotate_left
    ·show Act.put _ (some 49) _ = _
     simp only [Act.put,sa_,sb_,sc_,a_0,a_1]
     rfl
    refine pt_ 35 (some 52) l_J HT_ ?_
    refine pt_ 36 (some 53) l_K HT_ ?_
    refine e_U (c_E HT_.out (by kernel_rfl)) ?_
    try go_wp2
    go_ret
    exact ⟨by first|rfl|(simp [a_u,a_v] <;> rfl)|(simp only [← hji10];first|rfl|(simp [a_u,a_v] <;> rfl))|(simp [*, a_u,a_v] <;> rfl),by repeat (first|(with_reducible first|exact HB.out|apply a_j|apply a_f|apply a_k|refine a_i ?_ d_J.out|refine a_i ?_ e_w.out|refine a_i ?_ e_J.out)|exact HB.out)⟩
   rw [if_pos c27] at H
   have c27b0 : (t118 == ((a_a l0_1 x10_1).f9)) = true:=beq_iff_eq.mpr c27
   have c27b1 : (t118 != ((a_a l0_1 x10_1).f9)) = false:=bne_eq_false_iff_eq.mpr c27
   clear c27
   have H':=a_g.mk H
   clear H
   have p116 : 0 ≤ ((ji10) : Int):=of_decide_eq_true (by first|(with_reducible assumption)|assumption)
   have q116 : (ji10) < (l0_1.length : Int):=of_decide_eq_true (by first|(with_reducible assumption)|assumption)
   obtain ⟨ad116,e116,c_Q,c_R,c_S,c_T,c_U,c_V,c_W,c_X,c_Y,c_Z,c_s⟩:=c_e b_v.out (ji10) p116 q116
   have b_0:=c_s
   have c_r:=c_Z
   have c_q:=c_Y
   have c_p:=c_X
   have c_o:=c_W
   have c_n:=c_V
   have c_m:=c_U
   have c_l:=c_T
   have c_k:=c_S
   have c_j:=c_R
   have c_i:=c_Q
   obtain rfl : ad112 = ad116:=(by injection e116)
   replace c_Q:=(HB.out.cell (World.block_lt_of_cell? w _ c_Q)).trans c_Q
   replace c_R:=(HB.out.cell (World.block_lt_of_cell? w _ c_R)).trans c_R
   replace c_S:=(HB.out.cell (World.block_lt_of_cell? w _ c_S)).trans c_S
   replace c_T:=(HB.out.cell (World.block_lt_of_cell? w _ c_T)).trans c_T
   replace c_U:=(HB.out.cell (World.block_lt_of_cell? w _ c_U)).trans c_U
   replace c_V:=(HB.out.cell (World.block_lt_of_cell? w _ c_V)).trans c_V
   replace c_W:=(HB.out.cell (World.block_lt_of_cell? w _ c_W)).trans c_W
   replace c_X:=(HB.out.cell (World.block_lt_of_cell? w _ c_X)).trans c_X
   replace c_Y:=(HB.out.cell (World.block_lt_of_cell? w _ c_Y)).trans c_Y
   replace c_Z:=(HB.out.cell (World.block_lt_of_cell? w _ c_Z)).trans c_Z
   replace c_s:=(HB.out.cell (World.block_lt_of_cell? w _ c_s)).trans c_s
   replace p116:=eq_true p116
   replace q116:=eq_true q116
   refine d_p (n:=37) (S:=fun w' => w'.cell? ⟨a_6,0,none⟩ = some (.int .i64 ((a_a l0_1 x10_1).f0)) ∧ w'.cell? ⟨a_6,1,none⟩ = some (.int .i64 ((a_a l0_1 x10_1).f1)) ∧ w'.cell? ⟨a_6,2,none⟩ = some (.int .i64 ((a_a l0_1 x10_1).f2)) ∧ w'.cell? ⟨a_6,3,none⟩ = some (.int .i64 ((a_a l0_1 x10_1).f3)) ∧ w'.cell? ⟨a_6,4,none⟩ = some (.int .i64 ((a_a l0_1 x10_1).f4)) ∧ w'.cell? ⟨a_6,5,none⟩ = some (.bool ((a_a l0_1 x10_1).f5)) ∧ w'.cell? ⟨a_6,6,none⟩ = some (.bool ((a_a l0_1 x10_1).f6)) ∧ w'.cell? ⟨a_6,7,none⟩ = some (.int .u32 ((a_a l0_1 x10_1).f7)) ∧ w'.cell? ⟨a_6,8,none⟩ = some (.int .i64 ((a_a l0_1 x10_1).f8)) ∧ w'.cell? ⟨a_6,9,none⟩ = some (.int .i64 ((a_a l0_1 x10_1).f9)) ∧ w'.cell? ⟨a_6,10,none⟩ = some (.int .i64 ((a_a l0_1 x10_1).f10)) ∧ w'.cell? ⟨d_9,0,none⟩ = some (.int .i64 a0_0) ∧ w'.cell? ⟨d_9,1,none⟩ = some (.slice (some ad112) l0_1.length c0_1) ∧ w'.cell? ⟨e_O,0,none⟩ = some (.func (.func 33) #[] #[.pointer (some ⟨a_6,0,none⟩)]) ∧ w'.cell? (ad112.add (((ji10)).toNat * 11)) = some (.int .i64 ((a_a l0_1 (ji10)).f0)) ∧ w'.cell? ⟨(ad112.add (((ji10)).toNat * 11)).block,(ad112.add (((ji10)).toNat * 11)).off + 1,none⟩ = some (.int .i64 ((a_a l0_1 (ji10)).f1)) ∧ w'.cell? ⟨(ad112.add (((ji10)).toNat * 11)).block,(ad112.add (((ji10)).toNat * 11)).off + 2,none⟩ = some (.int .i64 ((a_a l0_1 (ji10)).f2)) ∧ w'.cell? ⟨(ad112.add (((ji10)).toNat * 11)).block,(ad112.add (((ji10)).toNat * 11)).off + 3,none⟩ = some (.int .i64 ((a_a l0_1 (ji10)).f3)) ∧ w'.cell? ⟨(ad112.add (((ji10)).toNat * 11)).block,(ad112.add (((ji10)).toNat * 11)).off + 4,none⟩ = some (.int .i64 ((a_a l0_1 (ji10)).f4)) ∧ w'.cell? ⟨(ad112.add (((ji10)).toNat * 11)).block,(ad112.add (((ji10)).toNat * 11)).off + 5,none⟩ = some (.bool ((a_a l0_1 (ji10)).f5)) ∧ w'.cell? ⟨(ad112.add (((ji10)).toNat * 11)).block,(ad112.add (((ji10)).toNat * 11)).off + 6,none⟩ = some (.bool ((a_a l0_1 (ji10)).f6)) ∧ w'.cell? ⟨(ad112.add (((ji10)).toNat * 11)).block,(ad112.add (((ji10)).toNat * 11)).off + 7,none⟩ = some (.int .u32 ((a_a l0_1 (ji10)).f7)) ∧ w'.cell? ⟨(ad112.add (((ji10)).toNat * 11)).block,(ad112.add (((ji10)).toNat * 11)).off + 8,none⟩ = some (.int .i64 ((a_a l0_1 (ji10)).f8)) ∧ w'.cell? ⟨(ad112.add (((ji10)).toNat * 11)).block,(ad112.add (((ji10)).toNat * 11)).off + 9,none⟩ = some (.int .i64 ((a_a l0_1 (ji10)).f9)) ∧ w'.cell? ⟨(ad112.add (((ji10)).toNat * 11)).block,(ad112.add (((ji10)).toNat * 11)).off + 10,none⟩ = some (.int .i64 ((a_a l0_1 (ji10)).f10))) (ds:=[]) Z0_ (by kernel_rfl) rfl rfl ⟨(a_b a_B.out 0).trans rfl,(a_b a_B.out 1).trans rfl,(a_b a_B.out 2).trans rfl,(a_b a_B.out 3).trans rfl,(a_b a_B.out 4).trans rfl,(a_b a_B.out 5).trans rfl,(a_b a_B.out 6).trans rfl,(a_b a_B.out 7).trans rfl,(a_b a_B.out 8).trans rfl,(a_b a_B.out 9).trans rfl,(a_b a_B.out 10).trans rfl,(a_b b_h.out 0).trans rfl,(a_b b_h.out 1).trans rfl,(a_b b_V.out 0).trans rfl,((HB.out.cell (World.block_lt_of_cell? w _ c_i)).trans c_i),((HB.out.cell (World.block_lt_of_cell? w _ c_j)).trans c_j),((HB.out.cell (World.block_lt_of_cell? w _ c_k)).trans c_k),((HB.out.cell (World.block_lt_of_cell? w _ c_l)).trans c_l),((HB.out.cell (World.block_lt_of_cell? w _ c_m)).trans c_m),((HB.out.cell (World.block_lt_of_cell? w _ c_n)).trans c_n),((HB.out.cell (World.block_lt_of_cell? w _ c_o)).trans c_o),((HB.out.cell (World.block_lt_of_cell? w _ c_p)).trans c_p),((HB.out.cell (World.block_lt_of_cell? w _ c_q)).trans c_q),((HB.out.cell (World.block_lt_of_cell? w _ c_r)).trans c_r),((HB.out.cell (World.block_lt_of_cell? w _ b_0)).trans b_0)⟩ (fun hHeld => ?_);refine b_T a_y.tab6 a_y.h_Y (fun HT_ HW_ => ?_)
   generalize w21.drew = w36 at b_h a_B b_V HB c_Q c_R c_s c_S c_T c_U c_V c_W c_X c_Y c_Z hHeld ⊢
   refine b_z (i:=0) (N:=some 17) (v:=?_) (a':=?_) Z4_ rfl rfl (a_N HT_.out HW_.out (by kernel_rfl)) (fun _ _ _ h => h) (Or.inl ⟨by rfl,?_⟩) hHeld ?_ ?_
   rotate_left
   ·rintro w' ⟨s0,s1,s2,s3,s4,s5,s6,s7,s8,s9,s10,s11,s12,s13,s14,s15,s16,s17,s18,s19,s20,s21,s22,s23,s24⟩
    go_simp
    with_reducible rfl
   rotate_left
   ·simp only [Act.put,sa_,sb_,sc_,a_0,a_1]
    rfl
   refine one_ (i:=1) (N:=some 18) Z10_ rfl rfl (b_W HT_.out (by kernel_rfl)) (by decide) (fun K hK => ?_)
   refine d_f Tryd.func35 (by kernel_rfl) rfl #[.agg #[.int .i64 ((a_a l0_1 x10_1).f0),.int .i64 ((a_a l0_1 x10_1).f1),.int .i64 ((a_a l0_1 x10_1).f2),.int .i64 ((a_a l0_1 x10_1).f3),.int .i64 ((a_a l0_1 x10_1).f4),.bool ((a_a l0_1 x10_1).f5),.bool ((a_a l0_1 x10_1).f6),.int .u32 ((a_a l0_1 x10_1).f7),.int .i64 ((a_a l0_1 x10_1).f8),.int .i64 ((a_a l0_1 x10_1).f9),.int .i64 ((a_a l0_1 x10_1).f10)]] (by rfl) rfl rfl (by (try simp only [List.map_toArray,List.map_cons,List.map_nil]);first|done|rfl|(simp only [List.length_drop,List.length_take];rfl)) ?_
   with_reducible refine (a_R.calls k1 ((a_a l0_1 x10_1).f0) ((a_a l0_1 x10_1).f1) ((a_a l0_1 x10_1).f2) ((a_a l0_1 x10_1).f3) ((a_a l0_1 x10_1).f4) ((a_a l0_1 x10_1).f5) ((a_a l0_1 x10_1).f6) ((a_a l0_1 x10_1).f7) ((a_a l0_1 x10_1).f8) ((a_a l0_1 x10_1).f9) ((a_a l0_1 x10_1).f10) true _ A7.out).mono ?_
   rintro e w37 ⟨rfl,hb⟩
   refine ⟨_,rfl,?_⟩
   replace b_h:=a_g.mk (a_m (bup_ b_h.out) hb)
   replace a_B:=a_g.mk (a_m (bup_ a_B.out) hb)
   replace b_V:=a_g.mk (a_m (bup_ b_V.out) hb)
   replace HB:=a_g.mk (a_p (by repeat (first|(with_reducible first|exact HB.out|apply a_j|apply a_f|apply a_k|refine a_i ?_ d_J.out|refine a_i ?_ e_w.out|refine a_i ?_ e_J.out)|exact HB.out)) hb)
   (try clear hb)
   (try clear hb2)
   (try clear hk)
   (try clear hi)
   refine hK.out _ _ ⟨(a_b a_B.out 0).trans rfl,(a_b a_B.out 1).trans rfl,(a_b a_B.out 2).trans rfl,(a_b a_B.out 3).trans rfl,(a_b a_B.out 4).trans rfl,(a_b a_B.out 5).trans rfl,(a_b a_B.out 6).trans rfl,(a_b a_B.out 7).trans rfl,(a_b a_B.out 8).trans rfl,(a_b a_B.out 9).trans rfl,(a_b a_B.out 10).trans rfl,(a_b b_h.out 0).trans rfl,(a_b b_h.out 1).trans rfl,(a_b b_V.out 0).trans rfl,((HB.out.cell (World.block_lt_of_cell? w _ c_i)).trans c_i),((HB.out.cell (World.block_lt_of_cell? w _ c_j)).trans c_j),((HB.out.cell (World.block_lt_of_cell? w _ c_k)).trans c_k),((HB.out.cell (World.block_lt_of_cell? w _ c_l)).trans c_l),((HB.out.cell (World.block_lt_of_cell? w _ c_m)).trans c_m),((HB.out.cell (World.block_lt_of_cell? w _ c_n)).trans c_n),((HB.out.cell (World.block_lt_of_cell? w _ c_o)).trans c_o),((HB.out.cell (World.block_lt_of_cell? w _ c_p)).trans c_p),((HB.out.cell (World.block_lt_of_cell? w _ c_q)).trans c_q),((HB.out.cell (World.block_lt_of_cell? w _ c_r)).trans c_r),((HB.out.cell (World.block_lt_of_cell? w _ b_0)).trans b_0)⟩ (fun hHeld => ?_)
   clear hK K
   refine c_N (a':=?_) ?_ ?_
   rotate_left
   ·show Act.put _ (some 18) _ = _
    simp only [Act.put,sa_,sb_,sc_,a_0,a_1]
    rfl
   refine pt_ 2 (some 19) Z13_ HT_ ?_
   refine pt_ 3 (some 20) Z17_ HT_ ?_
   refine pt_ 4 (some 21) Z20_ HT_ ?_
   refine pt_ 5 (some 22) Z25_ HT_ ?_
   refine pt_ 6 (some 23) Z28_ HT_ ?_
   refine pt_ 7 (some 24) Z32_ HT_ ?_
   refine pt_ 9 (some 26) Z35_ HT_ ?_
   refine pt_ 10 (some 27) Z36_ HT_ ?_
   refine pt_ 14 (some 31) Z37_ HT_ ?_
   refine b_z (i:=8) (N:=some 25) (v:=?_) (a':=?_) Z48_ rfl rfl (a_N HT_.out HW_.out (by kernel_rfl)) (fun _ _ _ h => h) (Or.inl ⟨by rfl,?_⟩) hHeld ?_ ?_
   rotate_left
   ·rintro w' ⟨s0,s1,s2,s3,s4,s5,s6,s7,s8,s9,s10,s11,s12,s13,s14,s15,s16,s17,s18,s19,s20,s21,s22,s23,s24⟩
    go_simp
    with_reducible rfl
   rotate_left
   ·simp only [Act.put,sa_,sb_,sc_,a_0,a_1]
    rfl
   refine pt_ 11 (some 28) Z52_ HT_ ?_
   refine pt_ 12 (some 29) Z56_ HT_ ?_
   refine b_z (i:=13) (N:=some 30) (v:=?_) (a':=?_) Z60_ rfl rfl (a_N HT_.out HW_.out (by kernel_rfl)) (fun _ _ _ h => h) (Or.inl ⟨by rfl,?_⟩) hHeld ?_ ?_
   rotate_left
   ·rintro w' ⟨s0,s1,s2,s3,s4,s5,s6,s7,s8,s9,s10,s11,s12,s13,s14,s15,s16,s17,s18,s19,s20,s21,s22,s23,s24⟩
    go_simp
    with_reducible rfl
   rotate_left
   ·simp only [Act.put,sa_,sb_,sc_,a_0,a_1]
    rfl
   refine b_z (i:=15) (N:=some 32) (v:=?_) (a':=?_) Z66_ rfl rfl (a_N HT_.out HW_.out (by kernel_rfl)) (fun _ _ _ h => h) (Or.inl ⟨by rfl,?_⟩) hHeld ?_ ?_
   rotate_left
   ·rintro w' ⟨s0,s1,s2,s3,s4,s5,s6,s7,s8,s9,s10,s11,s12,s13,s14,s15,s16,s17,s18,s19,s20,s21,s22,s23,s24⟩
    go_simp
    with_reducible rfl
   rotate_left
   ·simp only [Act.put,sa_,sb_,sc_,a_0,a_1]
    rfl
   refine pt_ 16 (some 33) Z69_ HT_ ?_
   refine pt_ 17 (some 34) Z72_ HT_ ?_
   refine pt_ 18 (some 35) Z76_ HT_ ?_
   refine pt_ 19 (some 36) Z79_ HT_ ?_
   refine pt_ 20 (some 37) Z82_ HT_ ?_
   refine pt_ 24 (some 41) Z84_ HT_ ?_
   refine b_z (i:=21) (N:=some 38) (v:=?_) (a':=?_) Z87_ rfl rfl (a_N HT_.out HW_.out (by kernel_rfl)) (fun _ _ _ h => h) (Or.inl ⟨by rfl,?_⟩) hHeld ?_ ?_
   rotate_left
   ·rintro w' ⟨s0,s1,s2,s3,s4,s5,s6,s7,s8,s9,s10,s11,s12,s13,s14,s15,s16,s17,s18,s19,s20,s21,s22,s23,s24⟩
    go_simp
    with_reducible rfl
   rotate_left
   ·simp only [Act.put,sa_,sb_,sc_,a_0,a_1]
    rfl
   refine b_z (i:=22) (N:=some 39) (v:=?_) (a':=?_) Z90_ rfl rfl (a_N HT_.out HW_.out (by kernel_rfl)) (fun _ _ _ h => h) (Or.inl ⟨by rfl,?_⟩) hHeld ?_ ?_
   rotate_left
   ·rintro w' ⟨s0,s1,s2,s3,s4,s5,s6,s7,s8,s9,s10,s11,s12,s13,s14,s15,s16,s17,s18,s19,s20,s21,s22,s23,s24⟩
    go_simp
    with_reducible rfl
   rotate_left
   ·simp only [Act.put,sa_,sb_,sc_,a_0,a_1]
    rfl
   refine b_z (i:=25) (N:=some 42) (v:=?_) (a':=?_) Z91_ rfl rfl (a_N HT_.out HW_.out (by kernel_rfl)) (fun _ _ _ h => h) (Or.inl ⟨by rfl,?_⟩) hHeld ?_ ?_
   rotate_left
   ·rintro w' ⟨s0,s1,s2,s3,s4,s5,s6,s7,s8,s9,s10,s11,s12,s13,s14,s15,s16,s17,s18,s19,s20,s21,s22,s23,s24⟩
    go_simp
    with_reducible rfl
   rotate_left
   ·simp only [Act.put,sa_,sb_,sc_,a_0,a_1]
    rfl
   refine one_ (i:=23) (N:=some 40) Z96_ rfl rfl (b_W HT_.out (by kernel_rfl)) (by decide) (fun K hK => ?_)
   refine d_f Tryd.func23 (by kernel_rfl) rfl #[.slice (some ad112) l0_1.length c0_1,.func (.func 33) #[] #[.pointer (some ⟨a_6,0,none⟩)]] (by rfl) rfl rfl (by (try simp only [List.map_toArray,List.map_cons,List.map_nil]);first|done|rfl|(simp only [List.length_drop,List.length_take];rfl)) ?_
   with_reducible refine (b_g.calls _ _ l0_1 a_6 ((a_a l0_1 x10_1).f0) ((a_a l0_1 x10_1).f1) ((a_a l0_1 x10_1).f2) ((a_a l0_1 x10_1).f3) ((a_a l0_1 x10_1).f4) ((a_a l0_1 x10_1).f5) ((a_a l0_1 x10_1).f6) ((a_a l0_1 x10_1).f7) ((a_a l0_1 x10_1).f8) ((a_a l0_1 x10_1).f9) ((a_a l0_1 x10_1).f10) t117 _ ?side1 ?side2 ?side3 A24.out).mono ?_
   (case side1 => repeat (first|exact (Kd.a_5 b_v.out HB.out)|(with_reducible refine Kd.a_8 ?_ _)|(with_reducible refine Kd.a_9 ?_ _)|(with_reducible refine Kd.b_p ?_)))
   (case side2 => exact c_b.out)
   (case side3 => exact (bup_ a_B.out))
   rintro e w38 ⟨rfl,hb⟩
   refine ⟨_,rfl,?_⟩
   replace b_h:=a_g.mk (a_m (bup_ b_h.out) hb)
   replace a_B:=a_g.mk (a_m (bup_ a_B.out) hb)
   replace b_V:=a_g.mk (a_m (bup_ b_V.out) hb)
   replace HB:=a_g.mk (a_p (by repeat (first|(with_reducible first|exact HB.out|apply a_j|apply a_f|apply a_k|refine a_i ?_ d_J.out|refine a_i ?_ e_w.out|refine a_i ?_ e_J.out)|exact HB.out)) hb)
   (try clear hb)
   (try clear hb2)
   (try clear hk)
   (try clear hi)
   refine hK.out _ _ ⟨(a_b a_B.out 0).trans rfl,(a_b a_B.out 1).trans rfl,(a_b a_B.out 2).trans rfl,(a_b a_B.out 3).trans rfl,(a_b a_B.out 4).trans rfl,(a_b a_B.out 5).trans rfl,(a_b a_B.out 6).trans rfl,(a_b a_B.out 7).trans rfl,(a_b a_B.out 8).trans rfl,(a_b a_B.out 9).trans rfl,(a_b a_B.out 10).trans rfl,(a_b b_h.out 0).trans rfl,(a_b b_h.out 1).trans rfl,(a_b b_V.out 0).trans rfl,((HB.out.cell (World.block_lt_of_cell? w _ c_i)).trans c_i),((HB.out.cell (World.block_lt_of_cell? w _ c_j)).trans c_j),((HB.out.cell (World.block_lt_of_cell? w _ c_k)).trans c_k),((HB.out.cell (World.block_lt_of_cell? w _ c_l)).trans c_l),((HB.out.cell (World.block_lt_of_cell? w _ c_m)).trans c_m),((HB.out.cell (World.block_lt_of_cell? w _ c_n)).trans c_n),((HB.out.cell (World.block_lt_of_cell? w _ c_o)).trans c_o),((HB.out.cell (World.block_lt_of_cell? w _ c_p)).trans c_p),((HB.out.cell (World.block_lt_of_cell? w _ c_q)).trans c_q),((HB.out.cell (World.block_lt_of_cell? w _ c_r)).trans c_r),((HB.out.cell (World.block_lt_of_cell? w _ b_0)).trans b_0)⟩ (fun hHeld => ?_)
   clear hK K
   refine c_N (a':=?_) ?_ ?_
   rotate_left
   ·show Act.put _ (some 40) _ = _
    simp only [Act.put,sa_,sb_,sc_,a_0,a_1]
    rfl
   refine pt_ 26 (some 43) Z97_ HT_ ?_
   refine pt_ 27 (some 44) Z98_ HT_ ?_
   refine pt_ 28 (some 45) Z99_ HT_ ?_
   refine pt_ 29 (some 46) l_H HT_ ?_
   refine pt_ 31 (some 48) r_R HT_ ?_
   refine pt_ 33 (some 50) r_S HT_ ?_
   refine b_z (i:=30) (N:=some 47) (v:=?_) (a':=?_) r_V rfl rfl (a_N HT_.out HW_.out (by kernel_rfl)) (fun _ _ _ h => h) (Or.inl ⟨by rfl,?_⟩) hHeld ?_ ?_
   rotate_left
   ·rintro w' ⟨s0,s1,s2,s3,s4,s5,s6,s7,s8,s9,s10,s11,s12,s13,s14,s15,s16,s17,s18,s19,s20,s21,s22,s23,s24⟩
    go_simp
    with_reducible rfl
   rotate_left
   ·simp only [Act.put,sa_,sb_,sc_,a_0,a_1]
    rfl
   refine b_z (i:=34) (N:=some 51) (v:=?_) (a':=?_) r_W rfl rfl (a_N HT_.out HW_.out (by kernel_rfl)) (fun _ _ _ h => h) (Or.inl ⟨by rfl,?_⟩) hHeld ?_ ?_
   rotate_left
   ·rintro w' ⟨s0,s1,s2,s3,s4,s5,s6,s7,s8,s9,s10,s11,s12,s13,s14,s15,s16,s17,s18,s19,s20,s21,s22,s23,s24⟩
    go_simp
    with_reducible rfl
   rotate_left
   ·simp only [Act.put,sa_,sb_,sc_,a_0,a_1]
    rfl
   refine one_ (i:=32) (N:=some 49) l_I rfl rfl (b_W HT_.out (by kernel_rfl)) (by decide) (fun K hK => ?_)
   refine d_f Tryd.func23 (by kernel_rfl) rfl #[.slice (some ad112) l0_1.length c0_1,.func (.func 34) #[] #[.pointer (some ⟨e_O,0,none⟩),.pointer (some ⟨a_6,0,none⟩)]] (by rfl) rfl rfl (by (try simp only [List.map_toArray,List.map_cons,List.map_nil]);first|done|rfl|(simp only [List.length_drop,List.length_take];rfl)) ?_
   with_reducible refine (b_e.calls _ _ l0_1 e_O a_6 a_6 ((a_a l0_1 x10_1).f0) ((a_a l0_1 x10_1).f1) ((a_a l0_1 x10_1).f2) ((a_a l0_1 x10_1).f3) ((a_a l0_1 x10_1).f4) ((a_a l0_1 x10_1).f5) ((a_a l0_1 x10_1).f6) ((a_a l0_1 x10_1).f7) ((a_a l0_1 x10_1).f8) ((a_a l0_1 x10_1).f9) ((a_a l0_1 x10_1).f10) ((a_a l0_1 x10_1).f0) ((a_a l0_1 x10_1).f1) ((a_a l0_1 x10_1).f2) ((a_a l0_1 x10_1).f3) ((a_a l0_1 x10_1).f4) ((a_a l0_1 x10_1).f5) ((a_a l0_1 x10_1).f6) ((a_a l0_1 x10_1).f7) ((a_a l0_1 x10_1).f8) ((a_a l0_1 x10_1).f9) ((a_a l0_1 x10_1).f10) t118 _ ?side1 ?side2 ?side3 ?side4 ?side5 A26.out).mono ?_
   (case side1 => repeat (first|exact (Kd.a_5 b_v.out HB.out)|(with_reducible refine Kd.a_8 ?_ _)|(with_reducible refine Kd.a_9 ?_ _)|(with_reducible refine Kd.b_p ?_)))
   (case side2 => exact c_b.out)
   (case side3 => exact (bup_ b_V.out))
   (case side4 => exact (bup_ a_B.out))
   (case side5 => exact (bup_ a_B.out))
   rintro e w39 ⟨rfl,hb⟩
   refine ⟨_,rfl,?_⟩
   replace b_h:=a_g.mk (a_m (bup_ b_h.out) hb)
   replace a_B:=a_g.mk (a_m (bup_ a_B.out) hb)
   replace b_V:=a_g.mk (a_m (bup_ b_V.out) hb)
   replace HB:=a_g.mk (a_p (by repeat (first|(with_reducible first|exact HB.out|apply a_j|apply a_f|apply a_k|refine a_i ?_ d_J.out|refine a_i ?_ e_w.out|refine a_i ?_ e_J.out)|exact HB.out)) hb)
   (try clear hb)
   (try clear hb2)
   (try clear hk)
   (try clear hi)
   refine hK.out _ _ ⟨(a_b a_B.out 0).trans rfl,(a_b a_B.out 1).trans rfl,(a_b a_B.out 2).trans rfl,(a_b a_B.out 3).trans rfl,(a_b a_B.out 4).trans rfl,(a_b a_B.out 5).trans rfl,(a_b a_B.out 6).trans rfl,(a_b a_B.out 7).trans rfl,(a_b a_B.out 8).trans rfl,(a_b a_B.out 9).trans rfl,(a_b a_B.out 10).trans rfl,(a_b b_h.out 0).trans rfl,(a_b b_h.out 1).trans rfl,(a_b b_V.out 0).trans rfl,((HB.out.cell (World.block_lt_of_cell? w _ c_i)).trans c_i),((HB.out.cell (World.block_lt_of_cell? w _ c_j)).trans c_j),((HB.out.cell (World.block_lt_of_cell? w _ c_k)).trans c_k),((HB.out.cell (World.block_lt_of_cell? w _ c_l)).trans c_l),((HB.out.cell (World.block_lt_of_cell? w _ c_m)).trans c_m),((HB.out.cell (World.block_lt_of_cell? w _ c_n)).trans c_n),((HB.out.cell (World.block_lt_of_cell? w _ c_o)).trans c_o),((HB.out.cell (World.block_lt_of_cell? w _ c_p)).trans c_p),((HB.out.cell (World.block_lt_of_cell? w _ c_q)).trans c_q),((HB.out.cell (World.block_lt_of_cell? w _ c_r)).trans c_r),((HB.out.cell (World.block_lt_of_cell? w _ b_0)).trans b_0)⟩ (fun hHeld => ?_)
   clear hK K
   refine c_N (a':=?_) ?_ ?_
   rotate_left
   ·show Act.put _ (some 49) _ = _
    simp only [Act.put,sa_,sb_,sc_,a_0,a_1]
    rfl
   refine pt_ 35 (some 52) l_J HT_ ?_
   refine pt_ 36 (some 53) l_K HT_ ?_
   refine e_U (c_E HT_.out (by kernel_rfl)) ?_
   try go_wp2
   go_roundg k1
   case measure => have:=HK1.out;omega
   case rel => exact ⟨(wrap64 (x10_1 + 1)),(by first|rfl|(simp;done)|(simp [*];done)),H',⟨by have:=HK1.out;omega⟩,⟨by (with_reducible repeat (first|refine a_e ?_ _|refine a_h ?_|refine a_d ?_ _));exact b_h.out⟩,⟨by repeat (first|(with_reducible first|exact HB.out|apply a_j|apply a_f|apply a_k|refine a_i ?_ d_J.out|refine a_i ?_ e_w.out|refine a_i ?_ e_J.out)|exact HB.out)⟩⟩
end Go.Proofs.YtgglkfilkagblaaDoor.Q
end
