/- Part 7 of 13 of what the row of AuditTimes stands on: contracts over the given program's functions, the plain law, the row; no condition beyond those that each theorem states. -/
import Derived.Test.YtgglkfilkagblaaXAuditTimes5
section
namespace Go.Proofs.Ytgglkfilkagblaa.Q
open Go.RowKit Go.Proofs.YtgglkfilkagblaaW.PrintWords Go.Proofs.YtgglkfilkagblaaW.PrintLast Go.Proofs.YtgglkfilkagblaaW.PrintMore
set_option linter.unusedVariables false
set_option linter.unusedSimpArgs false
def a_H.l0 : Nat → List (S65) → Int → Int → Int → List (S65) → Option (Bool)
 | 0,_,_,_,_,_ => none
 | k + 1,x8,x9,x10,x112000,x112001 => if x10 < x9 then (if 0 ≤ x10 then (if x10 < (x8.length : Int) then ((a_X.f k ((a_c x8 x10).f0) ((a_c x8 x10).f1) ((a_c x8 x10).f2) ((a_c x8 x10).f3) ((a_c x8 x10).f4) ((a_c x8 x10).f5) ((a_c x8 x10).f6) ((a_c x8 x10).f7) ((a_c x8 x10).f8) ((a_c x8 x10).f9) ((a_c x8 x10).f10)).bind fun t115 => (if t115 = true then (if x10 > 0 then (if 0 ≤ (wrap64 (x10 - 1)) then (if (wrap64 (x10 - 1)) < (x112001.length : Int) then (if ((a_c x112001 (wrap64 (x10 - 1))).f0) ≥ ((a_c x8 x10).f0) then (some false) else ((b_i.f x112001 ((a_c x8 x10).f0) ((a_c x8 x10).f1) ((a_c x8 x10).f2) ((a_c x8 x10).f3) ((a_c x8 x10).f4) ((a_c x8 x10).f5) ((a_c x8 x10).f6) ((a_c x8 x10).f7) ((a_c x8 x10).f8) ((a_c x8 x10).f9) ((a_c x8 x10).f10)).bind fun t117 => (if t117 = ((a_c x8 x10).f9) then ((b_g.f x112001 ((a_c x8 x10).f0) ((a_c x8 x10).f1) ((a_c x8 x10).f2) ((a_c x8 x10).f3) ((a_c x8 x10).f4) ((a_c x8 x10).f5) ((a_c x8 x10).f6) ((a_c x8 x10).f7) ((a_c x8 x10).f8) ((a_c x8 x10).f9) ((a_c x8 x10).f10) ((a_c x8 x10).f0) ((a_c x8 x10).f1) ((a_c x8 x10).f2) ((a_c x8 x10).f3) ((a_c x8 x10).f4) ((a_c x8 x10).f5) ((a_c x8 x10).f6) ((a_c x8 x10).f7) ((a_c x8 x10).f8) ((a_c x8 x10).f9) ((a_c x8 x10).f10)).bind fun t118 => (if t118 = ((a_c x8 x10).f9) then (a_H.l0 k x8 x9 (wrap64 (x10 + 1)) x112000 x112001) else (some false))) else (some false)))) else (none)) else (none)) else ((b_i.f x112001 ((a_c x8 x10).f0) ((a_c x8 x10).f1) ((a_c x8 x10).f2) ((a_c x8 x10).f3) ((a_c x8 x10).f4) ((a_c x8 x10).f5) ((a_c x8 x10).f6) ((a_c x8 x10).f7) ((a_c x8 x10).f8) ((a_c x8 x10).f9) ((a_c x8 x10).f10)).bind fun t119 => (if t119 = ((a_c x8 x10).f9) then ((b_g.f x112001 ((a_c x8 x10).f0) ((a_c x8 x10).f1) ((a_c x8 x10).f2) ((a_c x8 x10).f3) ((a_c x8 x10).f4) ((a_c x8 x10).f5) ((a_c x8 x10).f6) ((a_c x8 x10).f7) ((a_c x8 x10).f8) ((a_c x8 x10).f9) ((a_c x8 x10).f10) ((a_c x8 x10).f0) ((a_c x8 x10).f1) ((a_c x8 x10).f2) ((a_c x8 x10).f3) ((a_c x8 x10).f4) ((a_c x8 x10).f5) ((a_c x8 x10).f6) ((a_c x8 x10).f7) ((a_c x8 x10).f8) ((a_c x8 x10).f9) ((a_c x8 x10).f10)).bind fun t120 => (if t120 = ((a_c x8 x10).f9) then (a_H.l0 k x8 x9 (wrap64 (x10 + 1)) x112000 x112001) else (some false))) else (some false)))) else (some false))) else (none)) else (none)) else (if x112000 ≥ 0 then (some (decide (x112000 ≤ 1125899906842624))) else (some false))
def a_H.f (k : Nat) (a0_0 : Int) (l0_1 : List (S65)) : Option (Bool):=a_H.l0 k l0_1 (l0_1.length : Int) 0 a0_0 l0_1
theorem a_H.c_w : ∀ k,(∀ y0 y1 y2 y3 y4,LeO (a_H.l0 k y0 y1 y2 y3 y4) (a_H.l0 (k + 1) y0 y1 y2 y3 y4))
 | 0 => fun _ _ _ _ _ r h => by simp [a_H.l0] at h
 | k + 1 => by
  have ih0:=a_H.c_w k
  ·intro y0 y1 y2 y3 y4
   unfold a_H.l0
   repeat' first
   | (with_reducible exact ih0 _ _ _ _ _)
   | (with_reducible exact a_X.mono _ _ _ _ _ _ _ _ _ _ _ _)
   | (with_reducible exact LeO.refl _)
   | (with_reducible exact LeO.none _)
   | (with_reducible refine LeO.ite ?_ ?_)
   | (with_reducible refine LeO.bind ?_ (fun _ => ?_))
   | exact ih0 _ _ _ _ _
   | exact a_X.mono _ _ _ _ _ _ _ _ _ _ _ _
   | exact LeO.none _
   | refine LeO.ite ?_ ?_
   | refine LeO.bind ?_ (fun _ => ?_)
theorem a_H.mono : ∀ a0 a1 k,LeO (a_H.f k a0 a1) (a_H.f (k + 1) a0 a1):=by
 intro a0 a1 k
 have ih0:=a_H.c_w k
 unfold a_H.f
 repeat' first
  | (with_reducible exact ih0 _ _ _ _ _)
  | (with_reducible exact a_X.mono _ _ _ _ _ _ _ _ _ _ _ _)
  | (with_reducible exact LeO.refl _)
  | (with_reducible exact LeO.none _)
  | (with_reducible refine LeO.ite ?_ ?_)
  | (with_reducible refine LeO.bind ?_ (fun _ => ?_))
  | exact ih0 _ _ _ _ _
  | exact a_X.mono _ _ _ _ _ _ _ _ _ _ _ _
  | exact LeO.none _
  | refine LeO.ite ?_ ?_
  | refine LeO.bind ?_ (fun _ => ?_)
def a_H.T6 : Bool × List (List Nat × List Nat):=(true,[([],[]),([0],[0]),([1],[1]),([2,1],[2]),([3],[3]),([4,3],[3,4]),([5,3,3],[3,5]),([6],[6]),([7,6],[6,7]),([6],[6]),([9,6],[6,9]),([8,10,6],[6,8,10]),([11,6],[6,11]),([12,6],[6,12]),([6],[6]),([14,6],[6,14]),([13,15,6],[6,13,15]),([6,16,3],[3,6,16]),([3,17],[3,17]),([18,6],[18]),([19],[19]),([20,19],[19,20]),([19],[19]),([21,22,19,19],[19,21,22]),([19],[19]),([24,19],[19,24]),([23,25,19],[19,23,25]),([19,26],[19,26]),([27,23],[27]),([28],[28]),([29,28],[28,29]),([28],[28]),([30,31,28,28],[28,30,31]),([28],[28]),([33,28],[28,33]),([32,34,28],[28,32,34]),([28,35],[28,35])])
def a_H.B6 : List Nat:=[0,1,3,7,15,31,63,127,255,127,639,2047,4095,8191,127,16511,65535,131071,262143,524287,1048575,2097151,1048575,8388607,1048575,17825791,67108863,134217727,268435455,536870911,1073741823,536870911,4294967295,536870911,9126805503,34359738367,68719476735]
theorem a_H.tab6 : rtab .any (opsOf Try.f24 6) = a_H.T6:=by kernel_rfl
theorem a_H.e_I : e_s a_H.T6.2 a_H.B6 = true:=by kernel_rfl
set_option maxHeartbeats 8000000 in
set_option maxRecDepth 100000 in
theorem a_H.calls (k : Nat) (a0_0 : Int) (A0_1 : Option Addr) (c0_1 : Nat) (l0_1 : List (S65)) (r : Bool) (w : World) (hr0_1 : Kd.C k65 w A0_1 l0_1.length l0_1) (hc0_1 : l0_1.length ≤ c0_1) (h : a_H.f k a0_0 l0_1 = some r) :
 Calls Try.prog 24 #[.agg #[.int .i64 a0_0,.slice A0_1 l0_1.length c0_1]] w fun e w' => e = .returned (.bool r) ∧ Below w.heap.size w w':=by
 have hu27:=Try.underlying27
 have hu65:=Try.underlying65
 have hu68:=Try.underlying68
 have d_i:=a_d.mk hr0_1
 have f_j:=a_d.mk hc0_1
 clear hr0_1 hc0_1
 have HB:=a_d.mk (Below.refl w.heap.size w)
 have H : (a_H.l0 k l0_1 (l0_1.length : Int) 0 a0_0 l0_1) = some r:=h
 clear h
 have H':=a_d.mk H
 clear H
 go_enter Try.func24,Try.ntmps24
 go_wp2_with (first|((with_reducible refine a_J (N:=1) rfl ?_);refine a_C ?hg (N:=1) ?hd (cs:=#[.int .i64 a0_0,.slice A0_1 l0_1.length c0_1]) (t:=27) ?hr ?_;(case hd => rfl);(case hg => rfl);(case hr => first|(go_simp;done)|(go_simp;rfl));intro d_Z hg w2 hbox hb;have b_j:=a_d.mk (hbox);have H_f:=a_d.mk ((by rw [hg];exact (a_n (lup_ HB.out)) : w.heap.size ≤ d_Z));have d_E:=a_d.mk ((by rw [hg];exact (a_n (lup_ HB.out)) : w.heap.size ≤ d_Z));replace HB:=a_d.mk (a_o (lup_ HB.out) hb);clear hb hbox hg;have v_o : w2.cell? ⟨d_Z,0,none⟩ = some (.int .i64 a0_0):=(a_a b_j.out 0).trans rfl;have v_p : w2.cell? ⟨d_Z,1,none⟩ = some (.slice A0_1 l0_1.length c0_1):=(a_a b_j.out 1).trans rfl;have v_q:=a_b b_j.out 0;have v_r:=a_b b_j.out 1))
 go_loopg [10] k (fun kq v10 w' => ∃ (x10_1 : Int),v10 = .int .i64 x10_1 ∧ a_d (a_H.l0 kq l0_1 (l0_1.length : Int) x10_1 a0_0 l0_1 = some r) ∧ a_d (kq ≤ k) ∧ a_d (w'.heap[d_Z]? = some (.cells #[.int .i64 a0_0,(.slice A0_1 l0_1.length c0_1)] 27 (0,0))) ∧ a_d (Below w.heap.size w w'))
 case atStart => exact ⟨(0),(by first|rfl|(simp;done)|(simp [*];done)),H',⟨Nat.le_refl _⟩,⟨by (with_reducible repeat (first|refine a_l ?_ _|refine a_m ?_|refine a_j ?_ _));exact b_j.out⟩,⟨by repeat (first|(with_reducible first|exact HB.out|apply a_g|apply a_e|apply a_h|refine a_f ?_ d_E.out)|exact HB.out)⟩⟩
 case round =>
  clear H'
  try clear c2
  try clear p2
  try clear v_o
  try clear v_p
  try clear v_q
  try clear v_r
  obtain ⟨x10_1,rfl,HA,HK1,b_j,HB⟩:=hrel
  cases gk with
  | zero => exact absurd HA.out (by simp [a_H.l0])
  | succ k1 =>
   have H:=HA.out
   clear HA
   simp only [a_H.l0] at H
   by_cases c4 : x10_1 < (l0_1.length : Int)
   rotate_left
   ·rw [if_neg c4] at H
    have c4b0 : decide (x10_1 < (l0_1.length : Int)) = false:=decide_eq_false c4
    clear c4
    by_cases c112 : a0_0 ≥ 0
    ·rw [if_pos c112] at H
     have c112b0 : decide (0 ≤ a0_0) = true:=decide_eq_true c112
     clear c112
     obtain rfl:=Option.some.inj H
     have j_Z : wr.cell? ⟨d_Z,0,none⟩ = some (.int .i64 a0_0):=(a_a b_j.out 0).trans rfl
     have j_0 : wr.cell? ⟨d_Z,1,none⟩ = some (.slice A0_1 l0_1.length c0_1):=(a_a b_j.out 1).trans rfl
     have j_1:=a_b b_j.out 0
     have j_2:=a_b b_j.out 1
     go_wp2
     go_ret
     exact ⟨by first|rfl|(simp [a_w,a_x] <;> rfl)|(simp [*, a_w,a_x] <;> rfl),by repeat (first|(with_reducible first|exact HB.out|apply a_g|apply a_e|apply a_h|refine a_f ?_ d_E.out)|exact HB.out)⟩
    rw [if_neg c112] at H
    have c112b0 : decide (0 ≤ a0_0) = false:=decide_eq_false c112
    clear c112
    obtain rfl:=Option.some.inj H
    have w_U : wr.cell? ⟨d_Z,0,none⟩ = some (.int .i64 a0_0):=(a_a b_j.out 0).trans rfl
    have w_V : wr.cell? ⟨d_Z,1,none⟩ = some (.slice A0_1 l0_1.length c0_1):=(a_a b_j.out 1).trans rfl
    have w_W:=a_b b_j.out 0
    have w_X:=a_b b_j.out 1
    go_wp2
    go_ret
    exact ⟨by first|rfl|(simp [a_w,a_x] <;> rfl)|(simp [*, a_w,a_x] <;> rfl),by repeat (first|(with_reducible first|exact HB.out|apply a_g|apply a_e|apply a_h|refine a_f ?_ d_E.out)|exact HB.out)⟩
   rw [if_pos c4] at H
   have c4b0 : decide (x10_1 < (l0_1.length : Int)) = true:=decide_eq_true c4
   clear c4
   by_cases c5 : 0 ≤ x10_1
   rotate_left
   ·rw [if_neg c5] at H
    exact absurd H (by simp)
   rw [if_pos c5] at H
   have c5b0 : decide (0 ≤ x10_1) = true:=decide_eq_true c5
   clear c5
   by_cases c6 : x10_1 < (l0_1.length : Int)
   rotate_left
   ·rw [if_neg c6] at H
    exact absurd H (by simp)
   rw [if_pos c6] at H
   have c6b0 : decide (x10_1 < (l0_1.length : Int)) = true:=decide_eq_true c6
   clear c6
   have p112 : 0 ≤ (x10_1 : Int):=of_decide_eq_true (by first|(with_reducible assumption)|assumption)
   have q112 : x10_1 < (l0_1.length : Int):=of_decide_eq_true (by first|(with_reducible assumption)|assumption)
   obtain ⟨ad112,e112,l_P,l_Q,l_R,l_S,l_T,l_U,l_V,l_W,l_X,l_Y,j_3⟩:=d_g d_i.out x10_1 p112 q112
   cases e112
   replace l_P:=(HB.out.cell (World.block_lt_of_cell? w _ l_P)).trans l_P
   replace l_Q:=(HB.out.cell (World.block_lt_of_cell? w _ l_Q)).trans l_Q
   replace l_R:=(HB.out.cell (World.block_lt_of_cell? w _ l_R)).trans l_R
   replace l_S:=(HB.out.cell (World.block_lt_of_cell? w _ l_S)).trans l_S
   replace l_T:=(HB.out.cell (World.block_lt_of_cell? w _ l_T)).trans l_T
   replace l_U:=(HB.out.cell (World.block_lt_of_cell? w _ l_U)).trans l_U
   replace l_V:=(HB.out.cell (World.block_lt_of_cell? w _ l_V)).trans l_V
   replace l_W:=(HB.out.cell (World.block_lt_of_cell? w _ l_W)).trans l_W
   replace l_X:=(HB.out.cell (World.block_lt_of_cell? w _ l_X)).trans l_X
   replace l_Y:=(HB.out.cell (World.block_lt_of_cell? w _ l_Y)).trans l_Y
   replace j_3:=(HB.out.cell (World.block_lt_of_cell? w _ j_3)).trans j_3
   replace p112:=eq_true p112
   replace q112:=eq_true q112
   try go_wp2_with (first|((with_reducible refine a_J (N:=4) rfl ?_);refine a_C ?hg (N:=4) ?hd (cs:=#[.int .i64 0,.int .i64 0,.int .i64 0,.int .i64 0,.int .i64 0,.bool false,.bool false,.int .u32 0,.int .i64 0,.int .i64 0,.int .i64 0]) (t:=65) ?hr ?_;(case hd => rfl);(case hg => rfl);(case hr => first|(go_simp;done)|(go_simp;rfl));intro a_9 hg w14 hbox hb;have a_F:=a_d.mk (hbox);have H_g:=a_d.mk ((by rw [hg];exact (a_n (by repeat (first|(with_reducible first|exact HB.out|apply a_g|apply a_e|apply a_h|refine a_f ?_ d_E.out)|exact HB.out))) : w.heap.size ≤ a_9));have d_3:=a_d.mk ((by rw [hg];exact (a_n (by repeat (first|(with_reducible first|exact HB.out|apply a_g|apply a_e|apply a_h|refine a_f ?_ d_E.out)|exact HB.out))) : w.heap.size ≤ a_9));have b_u:=a_d.mk ((by rw [hg];exact Nat.ne_of_lt (a_Q (bup_ b_j.out)) : d_Z ≠ a_9));have p_G:=a_d.mk ((by rw [hg];exact Nat.ne_of_gt (a_Q (bup_ b_j.out)) : a_9 ≠ d_Z));replace b_j:=a_d.mk (a_i (bup_ b_j.out) hb);replace HB:=a_d.mk (a_o (by repeat (first|(with_reducible first|exact HB.out|apply a_g|apply a_e|apply a_h|refine a_f ?_ d_E.out)|exact HB.out)) hb);clear hb hbox hg;have v_s:=p_G.out;have v_t:=b_u.out;have j_E : w14.cell? ⟨a_9,0,none⟩ = some (.int .i64 0):=(a_a a_F.out 0).trans rfl;have j_F : w14.cell? ⟨a_9,1,none⟩ = some (.int .i64 0):=(a_a a_F.out 1).trans rfl;have s_p : w14.cell? ⟨a_9,2,none⟩ = some (.int .i64 0):=(a_a a_F.out 2).trans rfl;have s_q : w14.cell? ⟨a_9,3,none⟩ = some (.int .i64 0):=(a_a a_F.out 3).trans rfl;have s_r : w14.cell? ⟨a_9,4,none⟩ = some (.int .i64 0):=(a_a a_F.out 4).trans rfl;have s_s : w14.cell? ⟨a_9,5,none⟩ = some (.bool false):=(a_a a_F.out 5).trans rfl;have s_t : w14.cell? ⟨a_9,6,none⟩ = some (.bool false):=(a_a a_F.out 6).trans rfl;have s_u : w14.cell? ⟨a_9,7,none⟩ = some (.int .u32 0):=(a_a a_F.out 7).trans rfl;have s_v : w14.cell? ⟨a_9,8,none⟩ = some (.int .i64 0):=(a_a a_F.out 8).trans rfl;have s_w : w14.cell? ⟨a_9,9,none⟩ = some (.int .i64 0):=(a_a a_F.out 9).trans rfl;have r_f : w14.cell? ⟨a_9,10,none⟩ = some (.int .i64 0):=(a_a a_F.out 10).trans rfl;have j_G:=a_b a_F.out 0;have j_H:=a_b a_F.out 1;have s_x:=a_b a_F.out 2;have s_y:=a_b a_F.out 3;have s_z:=a_b a_F.out 4;have s_A:=a_b a_F.out 5;have s_B:=a_b a_F.out 6;have s_C:=a_b a_F.out 7;have s_D:=a_b a_F.out 8;have s_E:=a_b a_F.out 9;have r_g:=a_b a_F.out 10)|((with_reducible refine a_J (N:=5) rfl ?_);refine a_C ?hg (N:=5) ?hd (cs:=#[.nilFunc]) (t:=68) ?hr ?_;(case hd => rfl);(case hg => rfl);(case hr => first|(go_simp;done)|(go_simp;rfl));intro e_l hg w17 hbox hb;have b_V:=a_d.mk (hbox);have H_h:=a_d.mk ((by rw [hg];exact (a_n (by repeat (first|(with_reducible first|exact HB.out|apply a_g|apply a_e|apply a_h|refine a_f ?_ d_E.out|refine a_f ?_ d_3.out)|exact HB.out))) : w.heap.size ≤ e_l));have e_m:=a_d.mk ((by rw [hg];exact (a_n (by repeat (first|(with_reducible first|exact HB.out|apply a_g|apply a_e|apply a_h|refine a_f ?_ d_E.out|refine a_f ?_ d_3.out)|exact HB.out))) : w.heap.size ≤ e_l));have k_N:=a_d.mk ((by rw [hg];exact Nat.ne_of_lt (a_Q (g:=d_Z) (o:=.cells #[.int .i64 a0_0,.slice (some ad112) l0_1.length c0_1] 27 (0,0)) (by (with_reducible repeat (first|refine a_l ?_ _|refine a_m ?_|refine a_j ?_ _));refine a_L ?_ b_u.out _;(with_reducible repeat (first|refine a_l ?_ _|refine a_m ?_|refine a_j ?_ _));refine a_L ?_ b_u.out _;(with_reducible repeat (first|refine a_l ?_ _|refine a_m ?_|refine a_j ?_ _));refine a_L ?_ b_u.out _;(with_reducible repeat (first|refine a_l ?_ _|refine a_m ?_|refine a_j ?_ _));refine a_L ?_ b_u.out _;(with_reducible repeat (first|refine a_l ?_ _|refine a_m ?_|refine a_j ?_ _));refine a_L ?_ b_u.out _;(with_reducible repeat (first|refine a_l ?_ _|refine a_m ?_|refine a_j ?_ _));refine a_L ?_ b_u.out _;(with_reducible repeat (first|refine a_l ?_ _|refine a_m ?_|refine a_j ?_ _));refine a_L ?_ b_u.out _;(with_reducible repeat (first|refine a_l ?_ _|refine a_m ?_|refine a_j ?_ _));refine a_L ?_ b_u.out _;(with_reducible repeat (first|refine a_l ?_ _|refine a_m ?_|refine a_j ?_ _));refine a_L ?_ b_u.out _;(with_reducible repeat (first|refine a_l ?_ _|refine a_m ?_|refine a_j ?_ _));refine a_L ?_ b_u.out _;(with_reducible repeat (first|refine a_l ?_ _|refine a_m ?_|refine a_j ?_ _));refine a_L ?_ b_u.out _;(with_reducible repeat (first|refine a_l ?_ _|refine a_m ?_|refine a_j ?_ _));exact b_j.out)) : d_Z ≠ e_l));have p_H:=a_d.mk ((by rw [hg];exact Nat.ne_of_gt (a_Q (g:=d_Z) (o:=.cells #[.int .i64 a0_0,.slice (some ad112) l0_1.length c0_1] 27 (0,0)) (by (with_reducible repeat (first|refine a_l ?_ _|refine a_m ?_|refine a_j ?_ _));refine a_L ?_ b_u.out _;(with_reducible repeat (first|refine a_l ?_ _|refine a_m ?_|refine a_j ?_ _));refine a_L ?_ b_u.out _;(with_reducible repeat (first|refine a_l ?_ _|refine a_m ?_|refine a_j ?_ _));refine a_L ?_ b_u.out _;(with_reducible repeat (first|refine a_l ?_ _|refine a_m ?_|refine a_j ?_ _));refine a_L ?_ b_u.out _;(with_reducible repeat (first|refine a_l ?_ _|refine a_m ?_|refine a_j ?_ _));refine a_L ?_ b_u.out _;(with_reducible repeat (first|refine a_l ?_ _|refine a_m ?_|refine a_j ?_ _));refine a_L ?_ b_u.out _;(with_reducible repeat (first|refine a_l ?_ _|refine a_m ?_|refine a_j ?_ _));refine a_L ?_ b_u.out _;(with_reducible repeat (first|refine a_l ?_ _|refine a_m ?_|refine a_j ?_ _));refine a_L ?_ b_u.out _;(with_reducible repeat (first|refine a_l ?_ _|refine a_m ?_|refine a_j ?_ _));refine a_L ?_ b_u.out _;(with_reducible repeat (first|refine a_l ?_ _|refine a_m ?_|refine a_j ?_ _));refine a_L ?_ b_u.out _;(with_reducible repeat (first|refine a_l ?_ _|refine a_m ?_|refine a_j ?_ _));refine a_L ?_ b_u.out _;(with_reducible repeat (first|refine a_l ?_ _|refine a_m ?_|refine a_j ?_ _));exact b_j.out)) : e_l ≠ d_Z));have k_O:=a_d.mk ((by rw [hg];exact Nat.ne_of_lt (a_Q (g:=a_9) (o:=.cells #[.int .i64 ((a_c l0_1 x10_1).f0),.int .i64 ((a_c l0_1 x10_1).f1),.int .i64 ((a_c l0_1 x10_1).f2),.int .i64 ((a_c l0_1 x10_1).f3),.int .i64 ((a_c l0_1 x10_1).f4),.bool ((a_c l0_1 x10_1).f5),.bool ((a_c l0_1 x10_1).f6),.int .u32 ((a_c l0_1 x10_1).f7),.int .i64 ((a_c l0_1 x10_1).f8),.int .i64 ((a_c l0_1 x10_1).f9),.int .i64 ((a_c l0_1 x10_1).f10)] 65 (0,0)) (by (with_reducible repeat (first|refine a_l ?_ _|refine a_m ?_|refine a_j ?_ _));refine a_R (cs:=#[.int .i64 ((a_c l0_1 x10_1).f0),.int .i64 ((a_c l0_1 x10_1).f1),.int .i64 ((a_c l0_1 x10_1).f2),.int .i64 ((a_c l0_1 x10_1).f3),.int .i64 ((a_c l0_1 x10_1).f4),.bool ((a_c l0_1 x10_1).f5),.bool ((a_c l0_1 x10_1).f6),.int .u32 ((a_c l0_1 x10_1).f7),.int .i64 ((a_c l0_1 x10_1).f8),.int .i64 ((a_c l0_1 x10_1).f9),.int .i64 0]) ?_ 10 _ rfl;(with_reducible repeat (first|refine a_l ?_ _|refine a_m ?_|refine a_j ?_ _));refine a_R (cs:=#[.int .i64 ((a_c l0_1 x10_1).f0),.int .i64 ((a_c l0_1 x10_1).f1),.int .i64 ((a_c l0_1 x10_1).f2),.int .i64 ((a_c l0_1 x10_1).f3),.int .i64 ((a_c l0_1 x10_1).f4),.bool ((a_c l0_1 x10_1).f5),.bool ((a_c l0_1 x10_1).f6),.int .u32 ((a_c l0_1 x10_1).f7),.int .i64 ((a_c l0_1 x10_1).f8),.int .i64 0,.int .i64 0]) ?_ 9 _ rfl;(with_reducible repeat (first|refine a_l ?_ _|refine a_m ?_|refine a_j ?_ _));refine a_R (cs:=#[.int .i64 ((a_c l0_1 x10_1).f0),.int .i64 ((a_c l0_1 x10_1).f1),.int .i64 ((a_c l0_1 x10_1).f2),.int .i64 ((a_c l0_1 x10_1).f3),.int .i64 ((a_c l0_1 x10_1).f4),.bool ((a_c l0_1 x10_1).f5),.bool ((a_c l0_1 x10_1).f6),.int .u32 ((a_c l0_1 x10_1).f7),.int .i64 0,.int .i64 0,.int .i64 0]) ?_ 8 _ rfl;(with_reducible repeat (first|refine a_l ?_ _|refine a_m ?_|refine a_j ?_ _));refine a_R (cs:=#[.int .i64 ((a_c l0_1 x10_1).f0),.int .i64 ((a_c l0_1 x10_1).f1),.int .i64 ((a_c l0_1 x10_1).f2),.int .i64 ((a_c l0_1 x10_1).f3),.int .i64 ((a_c l0_1 x10_1).f4),.bool ((a_c l0_1 x10_1).f5),.bool ((a_c l0_1 x10_1).f6),.int .u32 0,.int .i64 0,.int .i64 0,.int .i64 0]) ?_ 7 _ rfl;(with_reducible repeat (first|refine a_l ?_ _|refine a_m ?_|refine a_j ?_ _));refine a_R (cs:=#[.int .i64 ((a_c l0_1 x10_1).f0),.int .i64 ((a_c l0_1 x10_1).f1),.int .i64 ((a_c l0_1 x10_1).f2),.int .i64 ((a_c l0_1 x10_1).f3),.int .i64 ((a_c l0_1 x10_1).f4),.bool ((a_c l0_1 x10_1).f5),.bool false,.int .u32 0,.int .i64 0,.int .i64 0,.int .i64 0]) ?_ 6 _ rfl;(with_reducible repeat (first|refine a_l ?_ _|refine a_m ?_|refine a_j ?_ _));refine a_R (cs:=#[.int .i64 ((a_c l0_1 x10_1).f0),.int .i64 ((a_c l0_1 x10_1).f1),.int .i64 ((a_c l0_1 x10_1).f2),.int .i64 ((a_c l0_1 x10_1).f3),.int .i64 ((a_c l0_1 x10_1).f4),.bool false,.bool false,.int .u32 0,.int .i64 0,.int .i64 0,.int .i64 0]) ?_ 5 _ rfl;(with_reducible repeat (first|refine a_l ?_ _|refine a_m ?_|refine a_j ?_ _));refine a_R (cs:=#[.int .i64 ((a_c l0_1 x10_1).f0),.int .i64 ((a_c l0_1 x10_1).f1),.int .i64 ((a_c l0_1 x10_1).f2),.int .i64 ((a_c l0_1 x10_1).f3),.int .i64 0,.bool false,.bool false,.int .u32 0,.int .i64 0,.int .i64 0,.int .i64 0]) ?_ 4 _ rfl;(with_reducible repeat (first|refine a_l ?_ _|refine a_m ?_|refine a_j ?_ _));refine a_R (cs:=#[.int .i64 ((a_c l0_1 x10_1).f0),.int .i64 ((a_c l0_1 x10_1).f1),.int .i64 ((a_c l0_1 x10_1).f2),.int .i64 0,.int .i64 0,.bool false,.bool false,.int .u32 0,.int .i64 0,.int .i64 0,.int .i64 0]) ?_ 3 _ rfl;(with_reducible repeat (first|refine a_l ?_ _|refine a_m ?_|refine a_j ?_ _));refine a_R (cs:=#[.int .i64 ((a_c l0_1 x10_1).f0),.int .i64 ((a_c l0_1 x10_1).f1),.int .i64 0,.int .i64 0,.int .i64 0,.bool false,.bool false,.int .u32 0,.int .i64 0,.int .i64 0,.int .i64 0]) ?_ 2 _ rfl;(with_reducible repeat (first|refine a_l ?_ _|refine a_m ?_|refine a_j ?_ _));refine a_R (cs:=#[.int .i64 ((a_c l0_1 x10_1).f0),.int .i64 0,.int .i64 0,.int .i64 0,.int .i64 0,.bool false,.bool false,.int .u32 0,.int .i64 0,.int .i64 0,.int .i64 0]) ?_ 1 _ rfl;(with_reducible repeat (first|refine a_l ?_ _|refine a_m ?_|refine a_j ?_ _));refine a_R (cs:=#[.int .i64 0,.int .i64 0,.int .i64 0,.int .i64 0,.int .i64 0,.bool false,.bool false,.int .u32 0,.int .i64 0,.int .i64 0,.int .i64 0]) ?_ 0 _ rfl;(with_reducible repeat (first|refine a_l ?_ _|refine a_m ?_|refine a_j ?_ _));exact a_F.out)) : a_9 ≠ e_l));have p_I:=a_d.mk ((by rw [hg];exact Nat.ne_of_gt (a_Q (g:=a_9) (o:=.cells #[.int .i64 ((a_c l0_1 x10_1).f0),.int .i64 ((a_c l0_1 x10_1).f1),.int .i64 ((a_c l0_1 x10_1).f2),.int .i64 ((a_c l0_1 x10_1).f3),.int .i64 ((a_c l0_1 x10_1).f4),.bool ((a_c l0_1 x10_1).f5),.bool ((a_c l0_1 x10_1).f6),.int .u32 ((a_c l0_1 x10_1).f7),.int .i64 ((a_c l0_1 x10_1).f8),.int .i64 ((a_c l0_1 x10_1).f9),.int .i64 ((a_c l0_1 x10_1).f10)] 65 (0,0)) (by (with_reducible repeat (first|refine a_l ?_ _|refine a_m ?_|refine a_j ?_ _));refine a_R (cs:=#[.int .i64 ((a_c l0_1 x10_1).f0),.int .i64 ((a_c l0_1 x10_1).f1),.int .i64 ((a_c l0_1 x10_1).f2),.int .i64 ((a_c l0_1 x10_1).f3),.int .i64 ((a_c l0_1 x10_1).f4),.bool ((a_c l0_1 x10_1).f5),.bool ((a_c l0_1 x10_1).f6),.int .u32 ((a_c l0_1 x10_1).f7),.int .i64 ((a_c l0_1 x10_1).f8),.int .i64 ((a_c l0_1 x10_1).f9),.int .i64 0]) ?_ 10 _ rfl;(with_reducible repeat (first|refine a_l ?_ _|refine a_m ?_|refine a_j ?_ _));refine a_R (cs:=#[.int .i64 ((a_c l0_1 x10_1).f0),.int .i64 ((a_c l0_1 x10_1).f1),.int .i64 ((a_c l0_1 x10_1).f2),.int .i64 ((a_c l0_1 x10_1).f3),.int .i64 ((a_c l0_1 x10_1).f4),.bool ((a_c l0_1 x10_1).f5),.bool ((a_c l0_1 x10_1).f6),.int .u32 ((a_c l0_1 x10_1).f7),.int .i64 ((a_c l0_1 x10_1).f8),.int .i64 0,.int .i64 0]) ?_ 9 _ rfl;(with_reducible repeat (first|refine a_l ?_ _|refine a_m ?_|refine a_j ?_ _));refine a_R (cs:=#[.int .i64 ((a_c l0_1 x10_1).f0),.int .i64 ((a_c l0_1 x10_1).f1),.int .i64 ((a_c l0_1 x10_1).f2),.int .i64 ((a_c l0_1 x10_1).f3),.int .i64 ((a_c l0_1 x10_1).f4),.bool ((a_c l0_1 x10_1).f5),.bool ((a_c l0_1 x10_1).f6),.int .u32 ((a_c l0_1 x10_1).f7),.int .i64 0,.int .i64 0,.int .i64 0]) ?_ 8 _ rfl;(with_reducible repeat (first|refine a_l ?_ _|refine a_m ?_|refine a_j ?_ _));refine a_R (cs:=#[.int .i64 ((a_c l0_1 x10_1).f0),.int .i64 ((a_c l0_1 x10_1).f1),.int .i64 ((a_c l0_1 x10_1).f2),.int .i64 ((a_c l0_1 x10_1).f3),.int .i64 ((a_c l0_1 x10_1).f4),.bool ((a_c l0_1 x10_1).f5),.bool ((a_c l0_1 x10_1).f6),.int .u32 0,.int .i64 0,.int .i64 0,.int .i64 0]) ?_ 7 _ rfl;(with_reducible repeat (first|refine a_l ?_ _|refine a_m ?_|refine a_j ?_ _));refine a_R (cs:=#[.int .i64 ((a_c l0_1 x10_1).f0),.int .i64 ((a_c l0_1 x10_1).f1),.int .i64 ((a_c l0_1 x10_1).f2),.int .i64 ((a_c l0_1 x10_1).f3),.int .i64 ((a_c l0_1 x10_1).f4),.bool ((a_c l0_1 x10_1).f5),.bool false,.int .u32 0,.int .i64 0,.int .i64 0,.int .i64 0]) ?_ 6 _ rfl;(with_reducible repeat (first|refine a_l ?_ _|refine a_m ?_|refine a_j ?_ _));refine a_R (cs:=#[.int .i64 ((a_c l0_1 x10_1).f0),.int .i64 ((a_c l0_1 x10_1).f1),.int .i64 ((a_c l0_1 x10_1).f2),.int .i64 ((a_c l0_1 x10_1).f3),.int .i64 ((a_c l0_1 x10_1).f4),.bool false,.bool false,.int .u32 0,.int .i64 0,.int .i64 0,.int .i64 0]) ?_ 5 _ rfl;(with_reducible repeat (first|refine a_l ?_ _|refine a_m ?_|refine a_j ?_ _));refine a_R (cs:=#[.int .i64 ((a_c l0_1 x10_1).f0),.int .i64 ((a_c l0_1 x10_1).f1),.int .i64 ((a_c l0_1 x10_1).f2),.int .i64 ((a_c l0_1 x10_1).f3),.int .i64 0,.bool false,.bool false,.int .u32 0,.int .i64 0,.int .i64 0,.int .i64 0]) ?_ 4 _ rfl;(with_reducible repeat (first|refine a_l ?_ _|refine a_m ?_|refine a_j ?_ _));refine a_R (cs:=#[.int .i64 ((a_c l0_1 x10_1).f0),.int .i64 ((a_c l0_1 x10_1).f1),.int .i64 ((a_c l0_1 x10_1).f2),.int .i64 0,.int .i64 0,.bool false,.bool false,.int .u32 0,.int .i64 0,.int .i64 0,.int .i64 0]) ?_ 3 _ rfl;(with_reducible repeat (first|refine a_l ?_ _|refine a_m ?_|refine a_j ?_ _));refine a_R (cs:=#[.int .i64 ((a_c l0_1 x10_1).f0),.int .i64 ((a_c l0_1 x10_1).f1),.int .i64 0,.int .i64 0,.int .i64 0,.bool false,.bool false,.int .u32 0,.int .i64 0,.int .i64 0,.int .i64 0]) ?_ 2 _ rfl;(with_reducible repeat (first|refine a_l ?_ _|refine a_m ?_|refine a_j ?_ _));refine a_R (cs:=#[.int .i64 ((a_c l0_1 x10_1).f0),.int .i64 0,.int .i64 0,.int .i64 0,.int .i64 0,.bool false,.bool false,.int .u32 0,.int .i64 0,.int .i64 0,.int .i64 0]) ?_ 1 _ rfl;(with_reducible repeat (first|refine a_l ?_ _|refine a_m ?_|refine a_j ?_ _));refine a_R (cs:=#[.int .i64 0,.int .i64 0,.int .i64 0,.int .i64 0,.int .i64 0,.bool false,.bool false,.int .u32 0,.int .i64 0,.int .i64 0,.int .i64 0]) ?_ 0 _ rfl;(with_reducible repeat (first|refine a_l ?_ _|refine a_m ?_|refine a_j ?_ _));exact a_F.out)) : e_l ≠ a_9));replace b_j:=a_d.mk (a_i (g:=d_Z) (o:=.cells #[.int .i64 a0_0,.slice (some ad112) l0_1.length c0_1] 27 (0,0)) (by (with_reducible repeat (first|refine a_l ?_ _|refine a_m ?_|refine a_j ?_ _));refine a_L ?_ b_u.out _;(with_reducible repeat (first|refine a_l ?_ _|refine a_m ?_|refine a_j ?_ _));refine a_L ?_ b_u.out _;(with_reducible repeat (first|refine a_l ?_ _|refine a_m ?_|refine a_j ?_ _));refine a_L ?_ b_u.out _;(with_reducible repeat (first|refine a_l ?_ _|refine a_m ?_|refine a_j ?_ _));refine a_L ?_ b_u.out _;(with_reducible repeat (first|refine a_l ?_ _|refine a_m ?_|refine a_j ?_ _));refine a_L ?_ b_u.out _;(with_reducible repeat (first|refine a_l ?_ _|refine a_m ?_|refine a_j ?_ _));refine a_L ?_ b_u.out _;(with_reducible repeat (first|refine a_l ?_ _|refine a_m ?_|refine a_j ?_ _));refine a_L ?_ b_u.out _;(with_reducible repeat (first|refine a_l ?_ _|refine a_m ?_|refine a_j ?_ _));refine a_L ?_ b_u.out _;(with_reducible repeat (first|refine a_l ?_ _|refine a_m ?_|refine a_j ?_ _));refine a_L ?_ b_u.out _;(with_reducible repeat (first|refine a_l ?_ _|refine a_m ?_|refine a_j ?_ _));refine a_L ?_ b_u.out _;(with_reducible repeat (first|refine a_l ?_ _|refine a_m ?_|refine a_j ?_ _));refine a_L ?_ b_u.out _;(with_reducible repeat (first|refine a_l ?_ _|refine a_m ?_|refine a_j ?_ _));exact b_j.out) hb);replace a_F:=a_d.mk (a_i (g:=a_9) (o:=.cells #[.int .i64 ((a_c l0_1 x10_1).f0),.int .i64 ((a_c l0_1 x10_1).f1),.int .i64 ((a_c l0_1 x10_1).f2),.int .i64 ((a_c l0_1 x10_1).f3),.int .i64 ((a_c l0_1 x10_1).f4),.bool ((a_c l0_1 x10_1).f5),.bool ((a_c l0_1 x10_1).f6),.int .u32 ((a_c l0_1 x10_1).f7),.int .i64 ((a_c l0_1 x10_1).f8),.int .i64 ((a_c l0_1 x10_1).f9),.int .i64 ((a_c l0_1 x10_1).f10)] 65 (0,0)) (by (with_reducible repeat (first|refine a_l ?_ _|refine a_m ?_|refine a_j ?_ _));refine a_R (cs:=#[.int .i64 ((a_c l0_1 x10_1).f0),.int .i64 ((a_c l0_1 x10_1).f1),.int .i64 ((a_c l0_1 x10_1).f2),.int .i64 ((a_c l0_1 x10_1).f3),.int .i64 ((a_c l0_1 x10_1).f4),.bool ((a_c l0_1 x10_1).f5),.bool ((a_c l0_1 x10_1).f6),.int .u32 ((a_c l0_1 x10_1).f7),.int .i64 ((a_c l0_1 x10_1).f8),.int .i64 ((a_c l0_1 x10_1).f9),.int .i64 0]) ?_ 10 _ rfl;(with_reducible repeat (first|refine a_l ?_ _|refine a_m ?_|refine a_j ?_ _));refine a_R (cs:=#[.int .i64 ((a_c l0_1 x10_1).f0),.int .i64 ((a_c l0_1 x10_1).f1),.int .i64 ((a_c l0_1 x10_1).f2),.int .i64 ((a_c l0_1 x10_1).f3),.int .i64 ((a_c l0_1 x10_1).f4),.bool ((a_c l0_1 x10_1).f5),.bool ((a_c l0_1 x10_1).f6),.int .u32 ((a_c l0_1 x10_1).f7),.int .i64 ((a_c l0_1 x10_1).f8),.int .i64 0,.int .i64 0]) ?_ 9 _ rfl;(with_reducible repeat (first|refine a_l ?_ _|refine a_m ?_|refine a_j ?_ _));refine a_R (cs:=#[.int .i64 ((a_c l0_1 x10_1).f0),.int .i64 ((a_c l0_1 x10_1).f1),.int .i64 ((a_c l0_1 x10_1).f2),.int .i64 ((a_c l0_1 x10_1).f3),.int .i64 ((a_c l0_1 x10_1).f4),.bool ((a_c l0_1 x10_1).f5),.bool ((a_c l0_1 x10_1).f6),.int .u32 ((a_c l0_1 x10_1).f7),.int .i64 0,.int .i64 0,.int .i64 0]) ?_ 8 _ rfl;(with_reducible repeat (first|refine a_l ?_ _|refine a_m ?_|refine a_j ?_ _));refine a_R (cs:=#[.int .i64 ((a_c l0_1 x10_1).f0),.int .i64 ((a_c l0_1 x10_1).f1),.int .i64 ((a_c l0_1 x10_1).f2),.int .i64 ((a_c l0_1 x10_1).f3),.int .i64 ((a_c l0_1 x10_1).f4),.bool ((a_c l0_1 x10_1).f5),.bool ((a_c l0_1 x10_1).f6),.int .u32 0,.int .i64 0,.int .i64 0,.int .i64 0]) ?_ 7 _ rfl;(with_reducible repeat (first|refine a_l ?_ _|refine a_m ?_|refine a_j ?_ _));refine a_R (cs:=#[.int .i64 ((a_c l0_1 x10_1).f0),.int .i64 ((a_c l0_1 x10_1).f1),.int .i64 ((a_c l0_1 x10_1).f2),.int .i64 ((a_c l0_1 x10_1).f3),.int .i64 ((a_c l0_1 x10_1).f4),.bool ((a_c l0_1 x10_1).f5),.bool false,.int .u32 0,.int .i64 0,.int .i64 0,.int .i64 0]) ?_ 6 _ rfl;(with_reducible repeat (first|refine a_l ?_ _|refine a_m ?_|refine a_j ?_ _));refine a_R (cs:=#[.int .i64 ((a_c l0_1 x10_1).f0),.int .i64 ((a_c l0_1 x10_1).f1),.int .i64 ((a_c l0_1 x10_1).f2),.int .i64 ((a_c l0_1 x10_1).f3),.int .i64 ((a_c l0_1 x10_1).f4),.bool false,.bool false,.int .u32 0,.int .i64 0,.int .i64 0,.int .i64 0]) ?_ 5 _ rfl;(with_reducible repeat (first|refine a_l ?_ _|refine a_m ?_|refine a_j ?_ _));refine a_R (cs:=#[.int .i64 ((a_c l0_1 x10_1).f0),.int .i64 ((a_c l0_1 x10_1).f1),.int .i64 ((a_c l0_1 x10_1).f2),.int .i64 ((a_c l0_1 x10_1).f3),.int .i64 0,.bool false,.bool false,.int .u32 0,.int .i64 0,.int .i64 0,.int .i64 0]) ?_ 4 _ rfl;(with_reducible repeat (first|refine a_l ?_ _|refine a_m ?_|refine a_j ?_ _));refine a_R (cs:=#[.int .i64 ((a_c l0_1 x10_1).f0),.int .i64 ((a_c l0_1 x10_1).f1),.int .i64 ((a_c l0_1 x10_1).f2),.int .i64 0,.int .i64 0,.bool false,.bool false,.int .u32 0,.int .i64 0,.int .i64 0,.int .i64 0]) ?_ 3 _ rfl;(with_reducible repeat (first|refine a_l ?_ _|refine a_m ?_|refine a_j ?_ _));refine a_R (cs:=#[.int .i64 ((a_c l0_1 x10_1).f0),.int .i64 ((a_c l0_1 x10_1).f1),.int .i64 0,.int .i64 0,.int .i64 0,.bool false,.bool false,.int .u32 0,.int .i64 0,.int .i64 0,.int .i64 0]) ?_ 2 _ rfl;(with_reducible repeat (first|refine a_l ?_ _|refine a_m ?_|refine a_j ?_ _));refine a_R (cs:=#[.int .i64 ((a_c l0_1 x10_1).f0),.int .i64 0,.int .i64 0,.int .i64 0,.int .i64 0,.bool false,.bool false,.int .u32 0,.int .i64 0,.int .i64 0,.int .i64 0]) ?_ 1 _ rfl;(with_reducible repeat (first|refine a_l ?_ _|refine a_m ?_|refine a_j ?_ _));refine a_R (cs:=#[.int .i64 0,.int .i64 0,.int .i64 0,.int .i64 0,.int .i64 0,.bool false,.bool false,.int .u32 0,.int .i64 0,.int .i64 0,.int .i64 0]) ?_ 0 _ rfl;(with_reducible repeat (first|refine a_l ?_ _|refine a_m ?_|refine a_j ?_ _));exact a_F.out) hb);replace HB:=a_d.mk (a_o (by repeat (first|(with_reducible first|exact HB.out|apply a_g|apply a_e|apply a_h|refine a_f ?_ d_E.out|refine a_f ?_ d_3.out)|exact HB.out)) hb);clear hb hbox hg;have D_6:=p_H.out;have D_7:=k_N.out;have D_8:=p_I.out;have D_9:=k_O.out;have i_z : w17.cell? ⟨e_l,0,none⟩ = some (.nilFunc):=(a_a b_V.out 0).trans rfl;have i_A:=a_b b_V.out 0))
   have n0_ : a_d ((w17.setCell ⟨e_l,0,none⟩ (.func (.func 51) #[] #[.pointer (some ⟨a_9,0,none⟩)])).heap[d_Z]? = some (.cells #[.int .i64 a0_0,.slice (some ad112) l0_1.length c0_1] 27 (0,0))):=⟨by (with_reducible repeat (first|refine a_l ?_ _|refine a_m ?_|refine a_j ?_ _));refine a_L ?_ k_N.out _;(with_reducible repeat (first|refine a_l ?_ _|refine a_m ?_|refine a_j ?_ _));exact b_j.out⟩
   have n1_ : a_d ((w17.setCell ⟨e_l,0,none⟩ (.func (.func 51) #[] #[.pointer (some ⟨a_9,0,none⟩)])).heap[a_9]? = some (.cells #[.int .i64 ((a_c l0_1 x10_1).f0),.int .i64 ((a_c l0_1 x10_1).f1),.int .i64 ((a_c l0_1 x10_1).f2),.int .i64 ((a_c l0_1 x10_1).f3),.int .i64 ((a_c l0_1 x10_1).f4),.bool ((a_c l0_1 x10_1).f5),.bool ((a_c l0_1 x10_1).f6),.int .u32 ((a_c l0_1 x10_1).f7),.int .i64 ((a_c l0_1 x10_1).f8),.int .i64 ((a_c l0_1 x10_1).f9),.int .i64 ((a_c l0_1 x10_1).f10)] 65 (0,0))):=⟨by (with_reducible repeat (first|refine a_l ?_ _|refine a_m ?_|refine a_j ?_ _));refine a_L ?_ k_O.out _;(with_reducible repeat (first|refine a_l ?_ _|refine a_m ?_|refine a_j ?_ _));exact a_F.out⟩
   have n2_ : a_d ((w17.setCell ⟨e_l,0,none⟩ (.func (.func 51) #[] #[.pointer (some ⟨a_9,0,none⟩)])).heap[e_l]? = some (.cells #[.func (.func 51) #[] #[.pointer (some ⟨a_9,0,none⟩)]] 68 (0,0))):=⟨by (with_reducible repeat (first|refine a_l ?_ _|refine a_m ?_|refine a_j ?_ _));refine a_R (cs:=#[.nilFunc]) ?_ 0 _ rfl;(with_reducible repeat (first|refine a_l ?_ _|refine a_m ?_|refine a_j ?_ _));exact b_V.out⟩
   have n3_ : a_d (Below w.heap.size w (w17.setCell ⟨e_l,0,none⟩ (.func (.func 51) #[] #[.pointer (some ⟨a_9,0,none⟩)]))):=⟨by repeat (first|(with_reducible first|exact HB.out|apply a_g|apply a_e|apply a_h|refine a_f ?_ d_E.out|refine a_f ?_ d_3.out|refine a_f ?_ e_m.out)|exact HB.out)⟩
   (try clear b_j)
   (try clear a_F)
   (try clear b_V)
   (try clear HB)
   generalize (w17.setCell ⟨e_l,0,none⟩ (.func (.func 51) #[] #[.pointer (some ⟨a_9,0,none⟩)])) = w21 at n0_ n1_ n2_ n3_ ⊢
   have b_j:=n0_
   have a_F:=n1_
   have b_V:=n2_
   have HB:=n3_
   clear n0_ n1_ n2_ n3_
   replace b_j:=a_d.mk (a_m b_j.out)
   replace a_F:=a_d.mk (a_m a_F.out)
   replace b_V:=a_d.mk (a_m b_V.out)
   replace HB:=a_d.mk (a_h HB.out)
   replace H:=Option.bind_eq_some_iff.mp H
   obtain ⟨t115,A70,H⟩:=H
   replace H : (if t115 = true then (if x10_1 > 0 then (if 0 ≤ (wrap64 (x10_1 - 1)) then (if (wrap64 (x10_1 - 1)) < (l0_1.length : Int) then (if ((a_c l0_1 (wrap64 (x10_1 - 1))).f0) ≥ ((a_c l0_1 x10_1).f0) then (some false) else ((b_i.f l0_1 ((a_c l0_1 x10_1).f0) ((a_c l0_1 x10_1).f1) ((a_c l0_1 x10_1).f2) ((a_c l0_1 x10_1).f3) ((a_c l0_1 x10_1).f4) ((a_c l0_1 x10_1).f5) ((a_c l0_1 x10_1).f6) ((a_c l0_1 x10_1).f7) ((a_c l0_1 x10_1).f8) ((a_c l0_1 x10_1).f9) ((a_c l0_1 x10_1).f10)).bind fun t117 => (if t117 = ((a_c l0_1 x10_1).f9) then ((b_g.f l0_1 ((a_c l0_1 x10_1).f0) ((a_c l0_1 x10_1).f1) ((a_c l0_1 x10_1).f2) ((a_c l0_1 x10_1).f3) ((a_c l0_1 x10_1).f4) ((a_c l0_1 x10_1).f5) ((a_c l0_1 x10_1).f6) ((a_c l0_1 x10_1).f7) ((a_c l0_1 x10_1).f8) ((a_c l0_1 x10_1).f9) ((a_c l0_1 x10_1).f10) ((a_c l0_1 x10_1).f0) ((a_c l0_1 x10_1).f1) ((a_c l0_1 x10_1).f2) ((a_c l0_1 x10_1).f3) ((a_c l0_1 x10_1).f4) ((a_c l0_1 x10_1).f5) ((a_c l0_1 x10_1).f6) ((a_c l0_1 x10_1).f7) ((a_c l0_1 x10_1).f8) ((a_c l0_1 x10_1).f9) ((a_c l0_1 x10_1).f10)).bind fun t118 => (if t118 = ((a_c l0_1 x10_1).f9) then (a_H.l0 k1 l0_1 (l0_1.length : Int) (wrap64 (x10_1 + 1)) a0_0 l0_1) else (some false))) else (some false)))) else (none)) else (none)) else ((b_i.f l0_1 ((a_c l0_1 x10_1).f0) ((a_c l0_1 x10_1).f1) ((a_c l0_1 x10_1).f2) ((a_c l0_1 x10_1).f3) ((a_c l0_1 x10_1).f4) ((a_c l0_1 x10_1).f5) ((a_c l0_1 x10_1).f6) ((a_c l0_1 x10_1).f7) ((a_c l0_1 x10_1).f8) ((a_c l0_1 x10_1).f9) ((a_c l0_1 x10_1).f10)).bind fun t119 => (if t119 = ((a_c l0_1 x10_1).f9) then ((b_g.f l0_1 ((a_c l0_1 x10_1).f0) ((a_c l0_1 x10_1).f1) ((a_c l0_1 x10_1).f2) ((a_c l0_1 x10_1).f3) ((a_c l0_1 x10_1).f4) ((a_c l0_1 x10_1).f5) ((a_c l0_1 x10_1).f6) ((a_c l0_1 x10_1).f7) ((a_c l0_1 x10_1).f8) ((a_c l0_1 x10_1).f9) ((a_c l0_1 x10_1).f10) ((a_c l0_1 x10_1).f0) ((a_c l0_1 x10_1).f1) ((a_c l0_1 x10_1).f2) ((a_c l0_1 x10_1).f3) ((a_c l0_1 x10_1).f4) ((a_c l0_1 x10_1).f5) ((a_c l0_1 x10_1).f6) ((a_c l0_1 x10_1).f7) ((a_c l0_1 x10_1).f8) ((a_c l0_1 x10_1).f9) ((a_c l0_1 x10_1).f10)).bind fun t120 => (if t120 = ((a_c l0_1 x10_1).f9) then (a_H.l0 k1 l0_1 (l0_1.length : Int) (wrap64 (x10_1 + 1)) a0_0 l0_1) else (some false))) else (some false)))) else (some false)) = some r:=H
   have A7:=a_d.mk A70
   clear A70
   by_cases c8 : t115 = true
   rotate_left
   ·replace c8:=Bool.eq_false_iff.mpr c8
    subst c8
    have H1 : (some false) = some r:=by rw [if_neg (show ¬ (false = true) by decide)] at H;exact H
    clear H
    have H:=H1
    clear H1
    obtain rfl:=Option.some.inj H
    refine c_9 (n:=37) (S:=fun w' => w'.cell? ⟨a_9,0,none⟩ = some (.int .i64 ((a_c l0_1 x10_1).f0)) ∧ w'.cell? ⟨a_9,1,none⟩ = some (.int .i64 ((a_c l0_1 x10_1).f1)) ∧ w'.cell? ⟨a_9,2,none⟩ = some (.int .i64 ((a_c l0_1 x10_1).f2)) ∧ w'.cell? ⟨a_9,3,none⟩ = some (.int .i64 ((a_c l0_1 x10_1).f3)) ∧ w'.cell? ⟨a_9,4,none⟩ = some (.int .i64 ((a_c l0_1 x10_1).f4)) ∧ w'.cell? ⟨a_9,5,none⟩ = some (.bool ((a_c l0_1 x10_1).f5)) ∧ w'.cell? ⟨a_9,6,none⟩ = some (.bool ((a_c l0_1 x10_1).f6)) ∧ w'.cell? ⟨a_9,7,none⟩ = some (.int .u32 ((a_c l0_1 x10_1).f7)) ∧ w'.cell? ⟨a_9,8,none⟩ = some (.int .i64 ((a_c l0_1 x10_1).f8)) ∧ w'.cell? ⟨a_9,9,none⟩ = some (.int .i64 ((a_c l0_1 x10_1).f9)) ∧ w'.cell? ⟨a_9,10,none⟩ = some (.int .i64 ((a_c l0_1 x10_1).f10))) (ds:=[]) Z1_ (by kernel_rfl) rfl rfl ⟨(a_a a_F.out 0).trans rfl,(a_a a_F.out 1).trans rfl,(a_a a_F.out 2).trans rfl,(a_a a_F.out 3).trans rfl,(a_a a_F.out 4).trans rfl,(a_a a_F.out 5).trans rfl,(a_a a_F.out 6).trans rfl,(a_a a_F.out 7).trans rfl,(a_a a_F.out 8).trans rfl,(a_a a_F.out 9).trans rfl,(a_a a_F.out 10).trans rfl⟩ (fun hHeld => ?_);refine b_P a_H.tab6 a_H.e_I (fun HT_ HW_ => ?_)
    generalize w21.drew = w110 at b_j a_F b_V HB hHeld ⊢
    refine b_l (i:=0) (N:=some 17) (v:=?_) (a':=?_) Z5_ rfl rfl (a_O HT_.out HW_.out (by kernel_rfl)) (fun _ _ _ h => h) (Or.inl ⟨by rfl,?_⟩) hHeld ?_ ?_
    rotate_left
    ·rintro w' ⟨s0,s1,s2,s3,s4,s5,s6,s7,s8,s9,s10⟩
     go_simp
     with_reducible rfl
    rotate_left
    ·simp only [Act.put,sa_,sb_,sc_,a_t,a_u]
     rfl
    refine one_ (i:=1) (N:=some 18) Z9_ rfl rfl (b_7 HT_.out (by kernel_rfl)) (by decide) (fun K hK => ?_)
    refine d_O Try.func53 (by kernel_rfl) rfl #[.agg #[.int .i64 ((a_c l0_1 x10_1).f0),.int .i64 ((a_c l0_1 x10_1).f1),.int .i64 ((a_c l0_1 x10_1).f2),.int .i64 ((a_c l0_1 x10_1).f3),.int .i64 ((a_c l0_1 x10_1).f4),.bool ((a_c l0_1 x10_1).f5),.bool ((a_c l0_1 x10_1).f6),.int .u32 ((a_c l0_1 x10_1).f7),.int .i64 ((a_c l0_1 x10_1).f8),.int .i64 ((a_c l0_1 x10_1).f9),.int .i64 ((a_c l0_1 x10_1).f10)]] (by rfl) rfl rfl (by (try simp only [List.map_toArray,List.map_cons,List.map_nil]);first|done|rfl|(simp only [List.length_drop,List.length_take];rfl)) ?_
    with_reducible refine (a_X.calls k1 ((a_c l0_1 x10_1).f0) ((a_c l0_1 x10_1).f1) ((a_c l0_1 x10_1).f2) ((a_c l0_1 x10_1).f3) ((a_c l0_1 x10_1).f4) ((a_c l0_1 x10_1).f5) ((a_c l0_1 x10_1).f6) ((a_c l0_1 x10_1).f7) ((a_c l0_1 x10_1).f8) ((a_c l0_1 x10_1).f9) ((a_c l0_1 x10_1).f10) false _ A7.out).mono ?_
    rintro e w111 ⟨rfl,hb⟩
    refine ⟨_,rfl,?_⟩
    replace b_j:=a_d.mk (a_i (bup_ b_j.out) hb)
    replace a_F:=a_d.mk (a_i (bup_ a_F.out) hb)
    replace b_V:=a_d.mk (a_i (bup_ b_V.out) hb)
    replace HB:=a_d.mk (a_o (by repeat (first|(with_reducible first|exact HB.out|apply a_g|apply a_e|apply a_h|refine a_f ?_ d_E.out|refine a_f ?_ d_3.out|refine a_f ?_ e_m.out)|exact HB.out)) hb)
    (try clear hb)
    (try clear hb2)
    (try clear hk)
    (try clear hi)
    refine hK.out _ _ ⟨(a_a a_F.out 0).trans rfl,(a_a a_F.out 1).trans rfl,(a_a a_F.out 2).trans rfl,(a_a a_F.out 3).trans rfl,(a_a a_F.out 4).trans rfl,(a_a a_F.out 5).trans rfl,(a_a a_F.out 6).trans rfl,(a_a a_F.out 7).trans rfl,(a_a a_F.out 8).trans rfl,(a_a a_F.out 9).trans rfl,(a_a a_F.out 10).trans rfl⟩ (fun hHeld => ?_)
    clear hK K
    refine d_A (a':=?_) ?_ ?_
    rotate_left
    ·show Act.put _ (some 18) _ = _
     simp only [Act.put,sa_,sb_,sc_,a_t,a_u]
     rfl
    refine a_z (i:=2) (N:=some 19) (v:=?_) (a':=?_) Z13_ rfl rfl (a_q HT_.out (by kernel_rfl)) (fun _ _ _ h => h) (Or.inl ⟨by rfl,?_⟩) ?_ ?_
    rotate_left
    ·intro w'
     go_simp
     with_reducible rfl
    rotate_left
    ·simp only [Act.put,sa_,sb_,sc_,a_t,a_u]
     rfl
    refine a_z (i:=3) (N:=some 20) (v:=?_) (a':=?_) Z17_ rfl rfl (a_q HT_.out (by kernel_rfl)) (fun _ _ _ h => h) (Or.inl ⟨by rfl,?_⟩) ?_ ?_
    rotate_left
    ·intro w'
     go_simp
     with_reducible rfl
    rotate_left
    ·simp only [Act.put,sa_,sb_,sc_,a_t,a_u]
     rfl
    refine a_z (i:=4) (N:=some 21) (v:=undef) (a':=?_) Z21_ rfl rfl (a_q HT_.out (by kernel_rfl)) (fun _ _ _ h => h) (Or.inr ⟨by rfl,rfl⟩) ?_ ?_
    rotate_left
    ·simp only [Act.put,sa_,sb_,sc_,a_t,a_u]
     rfl
    refine a_z (i:=5) (N:=some 22) (v:=undef) (a':=?_) Z26_ rfl rfl (a_q HT_.out (by kernel_rfl)) (fun _ _ _ h => h) (Or.inr ⟨by rfl,rfl⟩) ?_ ?_
    rotate_left
    ·simp only [Act.put,sa_,sb_,sc_,a_t,a_u]
     rfl
    refine a_z (i:=6) (N:=some 23) (v:=undef) (a':=?_) Z29_ rfl rfl (a_q HT_.out (by kernel_rfl)) (fun _ _ _ h => h) (Or.inr ⟨by rfl,rfl⟩) ?_ ?_
    rotate_left
    ·simp only [Act.put,sa_,sb_,sc_,a_t,a_u]
     rfl
    refine a_z (i:=7) (N:=some 24) (v:=undef) (a':=?_) Z33_ rfl rfl (a_q HT_.out (by kernel_rfl)) (fun _ _ _ h => h) (Or.inr ⟨by rfl,rfl⟩) ?_ ?_
    rotate_left
    ·simp only [Act.put,sa_,sb_,sc_,a_t,a_u]
     rfl
    refine a_z (i:=8) (N:=some 25) (v:=undef) (a':=?_) Z40_ rfl rfl (a_q HT_.out (by kernel_rfl)) (fun _ _ _ h => h) (Or.inr ⟨by rfl,rfl⟩) ?_ ?_
    rotate_left
    ·simp only [Act.put,sa_,sb_,sc_,a_t,a_u]
     rfl
    refine a_z (i:=9) (N:=some 26) (v:=undef) (a':=?_) Z45_ rfl rfl (a_q HT_.out (by kernel_rfl)) (fun _ _ _ h => h) (Or.inr ⟨by rfl,rfl⟩) ?_ ?_
    rotate_left
    ·simp only [Act.put,sa_,sb_,sc_,a_t,a_u]
     rfl
    refine a_z (i:=10) (N:=some 27) (v:=undef) (a':=?_) Z48_ rfl rfl (a_q HT_.out (by kernel_rfl)) (fun _ _ _ h => h) (Or.inr ⟨by rfl,rfl⟩) ?_ ?_
    rotate_left
    ·simp only [Act.put,sa_,sb_,sc_,a_t,a_u]
     rfl
    refine a_z (i:=11) (N:=some 28) (v:=undef) (a':=?_) Z53_ rfl rfl (a_q HT_.out (by kernel_rfl)) (fun _ _ _ h => h) (Or.inr ⟨by rfl,rfl⟩) ?_ ?_
    rotate_left
    ·simp only [Act.put,sa_,sb_,sc_,a_t,a_u]
     rfl
    refine a_z (i:=12) (N:=some 29) (v:=undef) (a':=?_) Z58_ rfl rfl (a_q HT_.out (by kernel_rfl)) (fun _ _ _ h => h) (Or.inr ⟨by rfl,rfl⟩) ?_ ?_
    rotate_left
    ·simp only [Act.put,sa_,sb_,sc_,a_t,a_u]
     rfl
    refine a_z (i:=13) (N:=some 30) (v:=undef) (a':=?_) Z63_ rfl rfl (a_q HT_.out (by kernel_rfl)) (fun _ _ _ h => h) (Or.inr ⟨by rfl,rfl⟩) ?_ ?_
    rotate_left
    ·simp only [Act.put,sa_,sb_,sc_,a_t,a_u]
     rfl
    refine a_z (i:=14) (N:=some 31) (v:=undef) (a':=?_) Z67_ rfl rfl (a_q HT_.out (by kernel_rfl)) (fun _ _ _ h => h) (Or.inr ⟨by rfl,rfl⟩) ?_ ?_
    rotate_left
    ·simp only [Act.put,sa_,sb_,sc_,a_t,a_u]
     rfl
    refine a_z (i:=15) (N:=some 32) (v:=undef) (a':=?_) Z74_ rfl rfl (a_q HT_.out (by kernel_rfl)) (fun _ _ _ h => h) (Or.inr ⟨by rfl,rfl⟩) ?_ ?_
    rotate_left
    ·simp only [Act.put,sa_,sb_,sc_,a_t,a_u]
     rfl
    refine a_z (i:=16) (N:=some 33) (v:=undef) (a':=?_) Z78_ rfl rfl (a_q HT_.out (by kernel_rfl)) (fun _ _ _ h => h) (Or.inr ⟨by rfl,rfl⟩) ?_ ?_
    rotate_left
    ·simp only [Act.put,sa_,sb_,sc_,a_t,a_u]
     rfl
    refine a_z (i:=17) (N:=some 34) (v:=undef) (a':=?_) Z82_ rfl rfl (a_q HT_.out (by kernel_rfl)) (fun _ _ _ h => h) (Or.inr ⟨by rfl,rfl⟩) ?_ ?_
    rotate_left
    ·simp only [Act.put,sa_,sb_,sc_,a_t,a_u]
     rfl
    refine a_z (i:=18) (N:=some 35) (v:=?_) (a':=?_) Z87_ rfl rfl (a_q HT_.out (by kernel_rfl)) (fun _ _ _ h => h) (Or.inl ⟨by rfl,?_⟩) ?_ ?_
    rotate_left
    ·intro w'
     go_simp
     with_reducible rfl
    rotate_left
    ·simp only [Act.put,sa_,sb_,sc_,a_t,a_u]
     rfl
    refine a_z (i:=19) (N:=some 36) (v:=?_) (a':=?_) Z91_ rfl rfl (a_q HT_.out (by kernel_rfl)) (fun _ _ _ h => h) (Or.inl ⟨by rfl,?_⟩) ?_ ?_
    rotate_left
    ·intro w'
     go_simp
     with_reducible rfl
    rotate_left
    ·simp only [Act.put,sa_,sb_,sc_,a_t,a_u]
     rfl
    refine a_z (i:=20) (N:=some 37) (v:=undef) (a':=?_) Z95_ rfl rfl (a_q HT_.out (by kernel_rfl)) (fun _ _ _ h => h) (Or.inr ⟨by rfl,rfl⟩) ?_ ?_
    rotate_left
    ·simp only [Act.put,sa_,sb_,sc_,a_t,a_u]
     rfl
    refine a_z (i:=21) (N:=some 38) (v:=undef) (a':=?_) Z99_ rfl rfl (a_q HT_.out (by kernel_rfl)) (fun _ _ _ h => h) (Or.inr ⟨by rfl,rfl⟩) ?_ ?_
    rotate_left
    ·simp only [Act.put,sa_,sb_,sc_,a_t,a_u]
     rfl
    refine a_z (i:=22) (N:=some 39) (v:=undef) (a':=?_) u_G rfl rfl (a_q HT_.out (by kernel_rfl)) (fun _ _ _ h => h) (Or.inr ⟨by rfl,rfl⟩) ?_ ?_
    rotate_left
    ·simp only [Act.put,sa_,sb_,sc_,a_t,a_u]
     rfl
    refine a_z (i:=23) (N:=some 40) (v:=undef) (a':=?_) u_9 rfl rfl (a_q HT_.out (by kernel_rfl)) (fun _ _ _ h => h) (Or.inr ⟨by rfl,rfl⟩) ?_ ?_
    rotate_left
    ·simp only [Act.put,sa_,sb_,sc_,a_t,a_u]
     rfl
    refine a_z (i:=24) (N:=some 41) (v:=undef) (a':=?_) u_V rfl rfl (a_q HT_.out (by kernel_rfl)) (fun _ _ _ h => h) (Or.inr ⟨by rfl,rfl⟩) ?_ ?_
    rotate_left
    ·simp only [Act.put,sa_,sb_,sc_,a_t,a_u]
     rfl
    refine a_z (i:=25) (N:=some 42) (v:=undef) (a':=?_) k_C rfl rfl (a_q HT_.out (by kernel_rfl)) (fun _ _ _ h => h) (Or.inr ⟨by rfl,rfl⟩) ?_ ?_
    rotate_left
    ·simp only [Act.put,sa_,sb_,sc_,a_t,a_u]
     rfl
    refine a_z (i:=26) (N:=some 43) (v:=undef) (a':=?_) k_B rfl rfl (a_q HT_.out (by kernel_rfl)) (fun _ _ _ h => h) (Or.inr ⟨by rfl,rfl⟩) ?_ ?_
    rotate_left
    ·simp only [Act.put,sa_,sb_,sc_,a_t,a_u]
     rfl
    refine a_z (i:=27) (N:=some 44) (v:=?_) (a':=?_) k_I rfl rfl (a_q HT_.out (by kernel_rfl)) (fun _ _ _ h => h) (Or.inl ⟨by rfl,?_⟩) ?_ ?_
    rotate_left
    ·intro w'
     go_simp
     with_reducible rfl
    rotate_left
    ·simp only [Act.put,sa_,sb_,sc_,a_t,a_u]
     rfl
    refine a_z (i:=28) (N:=some 45) (v:=?_) (a':=?_) k_u rfl rfl (a_q HT_.out (by kernel_rfl)) (fun _ _ _ h => h) (Or.inl ⟨by rfl,?_⟩) ?_ ?_
    rotate_left
    ·intro w'
     go_simp
     with_reducible rfl
    rotate_left
    ·simp only [Act.put,sa_,sb_,sc_,a_t,a_u]
     rfl
    refine a_z (i:=29) (N:=some 46) (v:=undef) (a':=?_) k_L rfl rfl (a_q HT_.out (by kernel_rfl)) (fun _ _ _ h => h) (Or.inr ⟨by rfl,rfl⟩) ?_ ?_
    rotate_left
    ·simp only [Act.put,sa_,sb_,sc_,a_t,a_u]
     rfl
    refine a_z (i:=30) (N:=some 47) (v:=undef) (a':=?_) q_3 rfl rfl (a_q HT_.out (by kernel_rfl)) (fun _ _ _ h => h) (Or.inr ⟨by rfl,rfl⟩) ?_ ?_
    rotate_left
    ·simp only [Act.put,sa_,sb_,sc_,a_t,a_u]
     rfl
    refine a_z (i:=31) (N:=some 48) (v:=undef) (a':=?_) q_7 rfl rfl (a_q HT_.out (by kernel_rfl)) (fun _ _ _ h => h) (Or.inr ⟨by rfl,rfl⟩) ?_ ?_
    rotate_left
    ·simp only [Act.put,sa_,sb_,sc_,a_t,a_u]
     rfl
    refine a_z (i:=32) (N:=some 49) (v:=undef) (a':=?_) q_R rfl rfl (a_q HT_.out (by kernel_rfl)) (fun _ _ _ h => h) (Or.inr ⟨by rfl,rfl⟩) ?_ ?_
    rotate_left
    ·simp only [Act.put,sa_,sb_,sc_,a_t,a_u]
     rfl
    refine a_z (i:=33) (N:=some 50) (v:=undef) (a':=?_) r_b rfl rfl (a_q HT_.out (by kernel_rfl)) (fun _ _ _ h => h) (Or.inr ⟨by rfl,rfl⟩) ?_ ?_
    rotate_left
    ·simp only [Act.put,sa_,sb_,sc_,a_t,a_u]
     rfl
    refine a_z (i:=34) (N:=some 51) (v:=undef) (a':=?_) k_m rfl rfl (a_q HT_.out (by kernel_rfl)) (fun _ _ _ h => h) (Or.inr ⟨by rfl,rfl⟩) ?_ ?_
    rotate_left
    ·simp only [Act.put,sa_,sb_,sc_,a_t,a_u]
     rfl
    refine a_z (i:=35) (N:=some 52) (v:=undef) (a':=?_) k_K rfl rfl (a_q HT_.out (by kernel_rfl)) (fun _ _ _ h => h) (Or.inr ⟨by rfl,rfl⟩) ?_ ?_
    rotate_left
    ·simp only [Act.put,sa_,sb_,sc_,a_t,a_u]
     rfl
    refine a_z (i:=36) (N:=some 53) (v:=?_) (a':=?_) k_y rfl rfl (a_q HT_.out (by kernel_rfl)) (fun _ _ _ h => h) (Or.inl ⟨by rfl,?_⟩) ?_ ?_
    rotate_left
    ·intro w'
     go_simp
     with_reducible rfl
    rotate_left
    ·simp only [Act.put,sa_,sb_,sc_,a_t,a_u]
     rfl
    refine e_j (c_q HT_.out (by kernel_rfl)) ?_
    try go_wp2
    go_ret
    exact ⟨by first|rfl|(simp [a_w,a_x] <;> rfl)|(simp [*, a_w,a_x] <;> rfl),by repeat (first|(with_reducible first|exact HB.out|apply a_g|apply a_e|apply a_h|refine a_f ?_ d_E.out|refine a_f ?_ d_3.out|refine a_f ?_ e_m.out)|exact HB.out)⟩
   subst c8
   have H1 : (if x10_1 > 0 then (if 0 ≤ (wrap64 (x10_1 - 1)) then (if (wrap64 (x10_1 - 1)) < (l0_1.length : Int) then (if ((a_c l0_1 (wrap64 (x10_1 - 1))).f0) ≥ ((a_c l0_1 x10_1).f0) then (some false) else ((b_i.f l0_1 ((a_c l0_1 x10_1).f0) ((a_c l0_1 x10_1).f1) ((a_c l0_1 x10_1).f2) ((a_c l0_1 x10_1).f3) ((a_c l0_1 x10_1).f4) ((a_c l0_1 x10_1).f5) ((a_c l0_1 x10_1).f6) ((a_c l0_1 x10_1).f7) ((a_c l0_1 x10_1).f8) ((a_c l0_1 x10_1).f9) ((a_c l0_1 x10_1).f10)).bind fun t117 => (if t117 = ((a_c l0_1 x10_1).f9) then ((b_g.f l0_1 ((a_c l0_1 x10_1).f0) ((a_c l0_1 x10_1).f1) ((a_c l0_1 x10_1).f2) ((a_c l0_1 x10_1).f3) ((a_c l0_1 x10_1).f4) ((a_c l0_1 x10_1).f5) ((a_c l0_1 x10_1).f6) ((a_c l0_1 x10_1).f7) ((a_c l0_1 x10_1).f8) ((a_c l0_1 x10_1).f9) ((a_c l0_1 x10_1).f10) ((a_c l0_1 x10_1).f0) ((a_c l0_1 x10_1).f1) ((a_c l0_1 x10_1).f2) ((a_c l0_1 x10_1).f3) ((a_c l0_1 x10_1).f4) ((a_c l0_1 x10_1).f5) ((a_c l0_1 x10_1).f6) ((a_c l0_1 x10_1).f7) ((a_c l0_1 x10_1).f8) ((a_c l0_1 x10_1).f9) ((a_c l0_1 x10_1).f10)).bind fun t118 => (if t118 = ((a_c l0_1 x10_1).f9) then (a_H.l0 k1 l0_1 (l0_1.length : Int) (wrap64 (x10_1 + 1)) a0_0 l0_1) else (some false))) else (some false)))) else (none)) else (none)) else ((b_i.f l0_1 ((a_c l0_1 x10_1).f0) ((a_c l0_1 x10_1).f1) ((a_c l0_1 x10_1).f2) ((a_c l0_1 x10_1).f3) ((a_c l0_1 x10_1).f4) ((a_c l0_1 x10_1).f5) ((a_c l0_1 x10_1).f6) ((a_c l0_1 x10_1).f7) ((a_c l0_1 x10_1).f8) ((a_c l0_1 x10_1).f9) ((a_c l0_1 x10_1).f10)).bind fun t119 => (if t119 = ((a_c l0_1 x10_1).f9) then ((b_g.f l0_1 ((a_c l0_1 x10_1).f0) ((a_c l0_1 x10_1).f1) ((a_c l0_1 x10_1).f2) ((a_c l0_1 x10_1).f3) ((a_c l0_1 x10_1).f4) ((a_c l0_1 x10_1).f5) ((a_c l0_1 x10_1).f6) ((a_c l0_1 x10_1).f7) ((a_c l0_1 x10_1).f8) ((a_c l0_1 x10_1).f9) ((a_c l0_1 x10_1).f10) ((a_c l0_1 x10_1).f0) ((a_c l0_1 x10_1).f1) ((a_c l0_1 x10_1).f2) ((a_c l0_1 x10_1).f3) ((a_c l0_1 x10_1).f4) ((a_c l0_1 x10_1).f5) ((a_c l0_1 x10_1).f6) ((a_c l0_1 x10_1).f7) ((a_c l0_1 x10_1).f8) ((a_c l0_1 x10_1).f9) ((a_c l0_1 x10_1).f10)).bind fun t120 => (if t120 = ((a_c l0_1 x10_1).f9) then (a_H.l0 k1 l0_1 (l0_1.length : Int) (wrap64 (x10_1 + 1)) a0_0 l0_1) else (some false))) else (some false)))) = some r:=by rw [if_pos rfl] at H;exact H
   clear H
   have H:=H1
   clear H1
   by_cases c9 : x10_1 > 0
   rotate_left
   ·rw [if_neg c9] at H
    have c9b0 : decide (0 < x10_1) = false:=decide_eq_false c9
    clear c9
    replace H:=Option.bind_eq_some_iff.mp H
    obtain ⟨t119,A630,H⟩:=H
    replace H : (if t119 = ((a_c l0_1 x10_1).f9) then ((b_g.f l0_1 ((a_c l0_1 x10_1).f0) ((a_c l0_1 x10_1).f1) ((a_c l0_1 x10_1).f2) ((a_c l0_1 x10_1).f3) ((a_c l0_1 x10_1).f4) ((a_c l0_1 x10_1).f5) ((a_c l0_1 x10_1).f6) ((a_c l0_1 x10_1).f7) ((a_c l0_1 x10_1).f8) ((a_c l0_1 x10_1).f9) ((a_c l0_1 x10_1).f10) ((a_c l0_1 x10_1).f0) ((a_c l0_1 x10_1).f1) ((a_c l0_1 x10_1).f2) ((a_c l0_1 x10_1).f3) ((a_c l0_1 x10_1).f4) ((a_c l0_1 x10_1).f5) ((a_c l0_1 x10_1).f6) ((a_c l0_1 x10_1).f7) ((a_c l0_1 x10_1).f8) ((a_c l0_1 x10_1).f9) ((a_c l0_1 x10_1).f10)).bind fun t120 => (if t120 = ((a_c l0_1 x10_1).f9) then (a_H.l0 k1 l0_1 (l0_1.length : Int) (wrap64 (x10_1 + 1)) a0_0 l0_1) else (some false))) else (some false)) = some r:=H
    have A63:=a_d.mk A630
    clear A630
    by_cases c64 : t119 = ((a_c l0_1 x10_1).f9)
    rotate_left
    ·rw [if_neg c64] at H
     have c64b0 : (t119 == ((a_c l0_1 x10_1).f9)) = false:=beq_eq_false_iff_ne.mpr c64
     have c64b1 : (t119 != ((a_c l0_1 x10_1).f9)) = true:=bne_iff_ne.mpr c64
     obtain rfl:=Option.some.inj H
     refine c_9 (n:=37) (S:=fun w' => w'.cell? ⟨a_9,0,none⟩ = some (.int .i64 ((a_c l0_1 x10_1).f0)) ∧ w'.cell? ⟨a_9,1,none⟩ = some (.int .i64 ((a_c l0_1 x10_1).f1)) ∧ w'.cell? ⟨a_9,2,none⟩ = some (.int .i64 ((a_c l0_1 x10_1).f2)) ∧ w'.cell? ⟨a_9,3,none⟩ = some (.int .i64 ((a_c l0_1 x10_1).f3)) ∧ w'.cell? ⟨a_9,4,none⟩ = some (.int .i64 ((a_c l0_1 x10_1).f4)) ∧ w'.cell? ⟨a_9,5,none⟩ = some (.bool ((a_c l0_1 x10_1).f5)) ∧ w'.cell? ⟨a_9,6,none⟩ = some (.bool ((a_c l0_1 x10_1).f6)) ∧ w'.cell? ⟨a_9,7,none⟩ = some (.int .u32 ((a_c l0_1 x10_1).f7)) ∧ w'.cell? ⟨a_9,8,none⟩ = some (.int .i64 ((a_c l0_1 x10_1).f8)) ∧ w'.cell? ⟨a_9,9,none⟩ = some (.int .i64 ((a_c l0_1 x10_1).f9)) ∧ w'.cell? ⟨a_9,10,none⟩ = some (.int .i64 ((a_c l0_1 x10_1).f10)) ∧ w'.cell? ⟨d_Z,0,none⟩ = some (.int .i64 a0_0) ∧ w'.cell? ⟨d_Z,1,none⟩ = some (.slice (some ad112) l0_1.length c0_1) ∧ w'.cell? ⟨e_l,0,none⟩ = some (.func (.func 51) #[] #[.pointer (some ⟨a_9,0,none⟩)])) (ds:=[]) Z1_ (by kernel_rfl) rfl rfl ⟨(a_a a_F.out 0).trans rfl,(a_a a_F.out 1).trans rfl,(a_a a_F.out 2).trans rfl,(a_a a_F.out 3).trans rfl,(a_a a_F.out 4).trans rfl,(a_a a_F.out 5).trans rfl,(a_a a_F.out 6).trans rfl,(a_a a_F.out 7).trans rfl,(a_a a_F.out 8).trans rfl,(a_a a_F.out 9).trans rfl,(a_a a_F.out 10).trans rfl,(a_a b_j.out 0).trans rfl,(a_a b_j.out 1).trans rfl,(a_a b_V.out 0).trans rfl⟩ (fun hHeld => ?_);refine b_P a_H.tab6 a_H.e_I (fun HT_ HW_ => ?_)
     generalize w21.drew = w99 at b_j a_F b_V HB hHeld ⊢
     refine b_l (i:=0) (N:=some 17) (v:=?_) (a':=?_) Z5_ rfl rfl (a_O HT_.out HW_.out (by kernel_rfl)) (fun _ _ _ h => h) (Or.inl ⟨by rfl,?_⟩) hHeld ?_ ?_
     rotate_left
     ·rintro w' ⟨s0,s1,s2,s3,s4,s5,s6,s7,s8,s9,s10,s11,s12,s13⟩
      go_simp
      with_reducible rfl
     rotate_left
     ·simp only [Act.put,sa_,sb_,sc_,a_t,a_u]
      rfl
     refine one_ (i:=1) (N:=some 18) Z9_ rfl rfl (b_7 HT_.out (by kernel_rfl)) (by decide) (fun K hK => ?_)
     refine d_O Try.func53 (by kernel_rfl) rfl #[.agg #[.int .i64 ((a_c l0_1 x10_1).f0),.int .i64 ((a_c l0_1 x10_1).f1),.int .i64 ((a_c l0_1 x10_1).f2),.int .i64 ((a_c l0_1 x10_1).f3),.int .i64 ((a_c l0_1 x10_1).f4),.bool ((a_c l0_1 x10_1).f5),.bool ((a_c l0_1 x10_1).f6),.int .u32 ((a_c l0_1 x10_1).f7),.int .i64 ((a_c l0_1 x10_1).f8),.int .i64 ((a_c l0_1 x10_1).f9),.int .i64 ((a_c l0_1 x10_1).f10)]] (by rfl) rfl rfl (by (try simp only [List.map_toArray,List.map_cons,List.map_nil]);first|done|rfl|(simp only [List.length_drop,List.length_take];rfl)) ?_
     with_reducible refine (a_X.calls k1 ((a_c l0_1 x10_1).f0) ((a_c l0_1 x10_1).f1) ((a_c l0_1 x10_1).f2) ((a_c l0_1 x10_1).f3) ((a_c l0_1 x10_1).f4) ((a_c l0_1 x10_1).f5) ((a_c l0_1 x10_1).f6) ((a_c l0_1 x10_1).f7) ((a_c l0_1 x10_1).f8) ((a_c l0_1 x10_1).f9) ((a_c l0_1 x10_1).f10) true _ A7.out).mono ?_
     rintro e w100 ⟨rfl,hb⟩
     refine ⟨_,rfl,?_⟩
     replace b_j:=a_d.mk (a_i (bup_ b_j.out) hb)
     replace a_F:=a_d.mk (a_i (bup_ a_F.out) hb)
     replace b_V:=a_d.mk (a_i (bup_ b_V.out) hb)
     replace HB:=a_d.mk (a_o (by repeat (first|(with_reducible first|exact HB.out|apply a_g|apply a_e|apply a_h|refine a_f ?_ d_E.out|refine a_f ?_ d_3.out|refine a_f ?_ e_m.out)|exact HB.out)) hb)
     (try clear hb)
     (try clear hb2)
     (try clear hk)
     (try clear hi)
     refine hK.out _ _ ⟨(a_a a_F.out 0).trans rfl,(a_a a_F.out 1).trans rfl,(a_a a_F.out 2).trans rfl,(a_a a_F.out 3).trans rfl,(a_a a_F.out 4).trans rfl,(a_a a_F.out 5).trans rfl,(a_a a_F.out 6).trans rfl,(a_a a_F.out 7).trans rfl,(a_a a_F.out 8).trans rfl,(a_a a_F.out 9).trans rfl,(a_a a_F.out 10).trans rfl,(a_a b_j.out 0).trans rfl,(a_a b_j.out 1).trans rfl,(a_a b_V.out 0).trans rfl⟩ (fun hHeld => ?_)
     clear hK K
     refine d_A (a':=?_) ?_ ?_
     rotate_left
     ·show Act.put _ (some 18) _ = _
      simp only [Act.put,sa_,sb_,sc_,a_t,a_u]
      rfl
     refine a_z (i:=2) (N:=some 19) (v:=?_) (a':=?_) Z13_ rfl rfl (a_q HT_.out (by kernel_rfl)) (fun _ _ _ h => h) (Or.inl ⟨by rfl,?_⟩) ?_ ?_
     rotate_left
     ·intro w'
      go_simp
      with_reducible rfl
     rotate_left
     ·simp only [Act.put,sa_,sb_,sc_,a_t,a_u]
      rfl
     refine a_z (i:=3) (N:=some 20) (v:=?_) (a':=?_) Z17_ rfl rfl (a_q HT_.out (by kernel_rfl)) (fun _ _ _ h => h) (Or.inl ⟨by rfl,?_⟩) ?_ ?_
     rotate_left
     ·intro w'
      go_simp
      with_reducible rfl
     rotate_left
     ·simp only [Act.put,sa_,sb_,sc_,a_t,a_u]
      rfl
     refine a_z (i:=4) (N:=some 21) (v:=?_) (a':=?_) Z21_ rfl rfl (a_q HT_.out (by kernel_rfl)) (fun _ _ _ h => h) (Or.inl ⟨by rfl,?_⟩) ?_ ?_
     rotate_left
     ·intro w'
      go_simp
      with_reducible rfl
     rotate_left
     ·simp only [Act.put,sa_,sb_,sc_,a_t,a_u]
      rfl
     refine a_z (i:=5) (N:=some 22) (v:=?_) (a':=?_) Z26_ rfl rfl (a_q HT_.out (by kernel_rfl)) (fun _ _ _ h => h) (Or.inl ⟨by rfl,?_⟩) ?_ ?_
     rotate_left
     ·intro w'
      go_simp
      with_reducible rfl
     rotate_left
     ·simp only [Act.put,sa_,sb_,sc_,a_t,a_u]
      rfl
     refine a_z (i:=6) (N:=some 23) (v:=?_) (a':=?_) Z29_ rfl rfl (a_q HT_.out (by kernel_rfl)) (fun _ _ _ h => h) (Or.inl ⟨by rfl,?_⟩) ?_ ?_
     rotate_left
     ·intro w'
      go_simp
      with_reducible rfl
     rotate_left
     ·simp only [Act.put,sa_,sb_,sc_,a_t,a_u]
      rfl
     refine a_z (i:=7) (N:=some 24) (v:=undef) (a':=?_) Z33_ rfl rfl (a_q HT_.out (by kernel_rfl)) (fun _ _ _ h => h) (Or.inr ⟨by rfl,rfl⟩) ?_ ?_
     rotate_left
     ·simp only [Act.put,sa_,sb_,sc_,a_t,a_u]
      rfl
     refine a_z (i:=8) (N:=some 25) (v:=undef) (a':=?_) Z40_ rfl rfl (a_q HT_.out (by kernel_rfl)) (fun _ _ _ h => h) (Or.inr ⟨by rfl,rfl⟩) ?_ ?_
     rotate_left
     ·simp only [Act.put,sa_,sb_,sc_,a_t,a_u]
      rfl
     refine a_z (i:=9) (N:=some 26) (v:=undef) (a':=?_) Z45_ rfl rfl (a_q HT_.out (by kernel_rfl)) (fun _ _ _ h => h) (Or.inr ⟨by rfl,rfl⟩) ?_ ?_
     rotate_left
     ·simp only [Act.put,sa_,sb_,sc_,a_t,a_u]
      rfl
     refine a_z (i:=10) (N:=some 27) (v:=undef) (a':=?_) Z48_ rfl rfl (a_q HT_.out (by kernel_rfl)) (fun _ _ _ h => h) (Or.inr ⟨by rfl,rfl⟩) ?_ ?_
     rotate_left
     ·simp only [Act.put,sa_,sb_,sc_,a_t,a_u]
      rfl
     refine a_z (i:=11) (N:=some 28) (v:=undef) (a':=?_) Z53_ rfl rfl (a_q HT_.out (by kernel_rfl)) (fun _ _ _ h => h) (Or.inr ⟨by rfl,rfl⟩) ?_ ?_
     rotate_left
     ·simp only [Act.put,sa_,sb_,sc_,a_t,a_u]
      rfl
     refine a_z (i:=12) (N:=some 29) (v:=undef) (a':=?_) Z58_ rfl rfl (a_q HT_.out (by kernel_rfl)) (fun _ _ _ h => h) (Or.inr ⟨by rfl,rfl⟩) ?_ ?_
     rotate_left
     ·simp only [Act.put,sa_,sb_,sc_,a_t,a_u]
      rfl
     refine a_z (i:=13) (N:=some 30) (v:=undef) (a':=?_) Z63_ rfl rfl (a_q HT_.out (by kernel_rfl)) (fun _ _ _ h => h) (Or.inr ⟨by rfl,rfl⟩) ?_ ?_
     rotate_left
     ·simp only [Act.put,sa_,sb_,sc_,a_t,a_u]
      rfl
     refine a_z (i:=14) (N:=some 31) (v:=undef) (a':=?_) Z67_ rfl rfl (a_q HT_.out (by kernel_rfl)) (fun _ _ _ h => h) (Or.inr ⟨by rfl,rfl⟩) ?_ ?_
     rotate_left
     ·simp only [Act.put,sa_,sb_,sc_,a_t,a_u]
      rfl
     refine a_z (i:=15) (N:=some 32) (v:=undef) (a':=?_) Z74_ rfl rfl (a_q HT_.out (by kernel_rfl)) (fun _ _ _ h => h) (Or.inr ⟨by rfl,rfl⟩) ?_ ?_
     rotate_left
     ·simp only [Act.put,sa_,sb_,sc_,a_t,a_u]
      rfl
     refine a_z (i:=16) (N:=some 33) (v:=undef) (a':=?_) Z78_ rfl rfl (a_q HT_.out (by kernel_rfl)) (fun _ _ _ h => h) (Or.inr ⟨by rfl,rfl⟩) ?_ ?_
     rotate_left
     ·simp only [Act.put,sa_,sb_,sc_,a_t,a_u]
      rfl
     refine a_z (i:=17) (N:=some 34) (v:=?_) (a':=?_) Z82_ rfl rfl (a_q HT_.out (by kernel_rfl)) (fun _ _ _ h => h) (Or.inl ⟨by rfl,?_⟩) ?_ ?_
     rotate_left
     ·intro w'
      go_simp
      with_reducible rfl
     rotate_left
     ·simp only [Act.put,sa_,sb_,sc_,a_t,a_u]
      rfl
     refine a_z (i:=18) (N:=some 35) (v:=?_) (a':=?_) Z87_ rfl rfl (a_q HT_.out (by kernel_rfl)) (fun _ _ _ h => h) (Or.inl ⟨by rfl,?_⟩) ?_ ?_
     rotate_left
     ·intro w'
      go_simp
      with_reducible rfl
     rotate_left
     ·simp only [Act.put,sa_,sb_,sc_,a_t,a_u]
      rfl
     refine a_z (i:=19) (N:=some 36) (v:=?_) (a':=?_) Z91_ rfl rfl (a_q HT_.out (by kernel_rfl)) (fun _ _ _ h => h) (Or.inl ⟨by rfl,?_⟩) ?_ ?_
     rotate_left
     ·intro w'
      go_simp
      with_reducible rfl
     rotate_left
     ·simp only [Act.put,sa_,sb_,sc_,a_t,a_u]
      rfl
     refine a_z (i:=20) (N:=some 37) (v:=?_) (a':=?_) Z95_ rfl rfl (a_q HT_.out (by kernel_rfl)) (fun _ _ _ h => h) (Or.inl ⟨by rfl,?_⟩) ?_ ?_
     rotate_left
     ·intro w'
      go_simp
      with_reducible rfl
     rotate_left
     ·simp only [Act.put,sa_,sb_,sc_,a_t,a_u]
      rfl
     refine a_z (i:=24) (N:=some 41) (v:=?_) (a':=?_) Z97_ rfl rfl (a_q HT_.out (by kernel_rfl)) (fun _ _ _ h => h) (Or.inl ⟨by rfl,?_⟩) ?_ ?_
     rotate_left
     ·intro w'
      go_simp
      with_reducible rfl
     rotate_left
     ·simp only [Act.put,sa_,sb_,sc_,a_t,a_u]
      rfl
     refine b_l (i:=21) (N:=some 38) (v:=?_) (a':=?_) n_C rfl rfl (a_O HT_.out HW_.out (by kernel_rfl)) (fun _ _ _ h => h) (Or.inl ⟨by rfl,?_⟩) hHeld ?_ ?_
     rotate_left
     ·rintro w' ⟨s0,s1,s2,s3,s4,s5,s6,s7,s8,s9,s10,s11,s12,s13⟩
      go_simp
      with_reducible rfl
     rotate_left
     ·simp only [Act.put,sa_,sb_,sc_,a_t,a_u]
      rfl
     refine b_l (i:=22) (N:=some 39) (v:=?_) (a':=?_) n_L rfl rfl (a_O HT_.out HW_.out (by kernel_rfl)) (fun _ _ _ h => h) (Or.inl ⟨by rfl,?_⟩) hHeld ?_ ?_
     rotate_left
     ·rintro w' ⟨s0,s1,s2,s3,s4,s5,s6,s7,s8,s9,s10,s11,s12,s13⟩
      go_simp
      with_reducible rfl
     rotate_left
     ·simp only [Act.put,sa_,sb_,sc_,a_t,a_u]
      rfl
     refine b_l (i:=25) (N:=some 42) (v:=?_) (a':=?_) n_J rfl rfl (a_O HT_.out HW_.out (by kernel_rfl)) (fun _ _ _ h => h) (Or.inl ⟨by rfl,?_⟩) hHeld ?_ ?_
     rotate_left
     ·rintro w' ⟨s0,s1,s2,s3,s4,s5,s6,s7,s8,s9,s10,s11,s12,s13⟩
      go_simp
      with_reducible rfl
     rotate_left
     ·simp only [Act.put,sa_,sb_,sc_,a_t,a_u]
      rfl
     refine one_ (i:=23) (N:=some 40) k_C rfl rfl (b_7 HT_.out (by kernel_rfl)) (by decide) (fun K hK => ?_)
     refine d_O Try.func38 (by kernel_rfl) rfl #[.slice (some ad112) l0_1.length c0_1,.func (.func 51) #[] #[.pointer (some ⟨a_9,0,none⟩)]] (by rfl) rfl rfl (by (try simp only [List.map_toArray,List.map_cons,List.map_nil]);first|done|rfl|(simp only [List.length_drop,List.length_take];rfl)) ?_
     with_reducible refine (b_i.calls _ _ l0_1 a_9 ((a_c l0_1 x10_1).f0) ((a_c l0_1 x10_1).f1) ((a_c l0_1 x10_1).f2) ((a_c l0_1 x10_1).f3) ((a_c l0_1 x10_1).f4) ((a_c l0_1 x10_1).f5) ((a_c l0_1 x10_1).f6) ((a_c l0_1 x10_1).f7) ((a_c l0_1 x10_1).f8) ((a_c l0_1 x10_1).f9) ((a_c l0_1 x10_1).f10) t119 _ ?side1 ?side2 ?side3 A63.out).mono ?_
     (case side1 => repeat (first|exact (Kd.a_U d_i.out HB.out)|(with_reducible refine Kd.a_V ?_ _)|(with_reducible refine Kd.a_W ?_ _)|(with_reducible refine Kd.a_5 ?_)))
     (case side2 => exact f_j.out)
     (case side3 => exact (bup_ a_F.out))
     rintro e w101 ⟨rfl,hb⟩
     refine ⟨_,rfl,?_⟩
     replace b_j:=a_d.mk (a_i (bup_ b_j.out) hb)
     replace a_F:=a_d.mk (a_i (bup_ a_F.out) hb)
     replace b_V:=a_d.mk (a_i (bup_ b_V.out) hb)
     replace HB:=a_d.mk (a_o (by repeat (first|(with_reducible first|exact HB.out|apply a_g|apply a_e|apply a_h|refine a_f ?_ d_E.out|refine a_f ?_ d_3.out|refine a_f ?_ e_m.out)|exact HB.out)) hb)
     (try clear hb)
     (try clear hb2)
     (try clear hk)
     (try clear hi)
     refine hK.out _ _ ⟨(a_a a_F.out 0).trans rfl,(a_a a_F.out 1).trans rfl,(a_a a_F.out 2).trans rfl,(a_a a_F.out 3).trans rfl,(a_a a_F.out 4).trans rfl,(a_a a_F.out 5).trans rfl,(a_a a_F.out 6).trans rfl,(a_a a_F.out 7).trans rfl,(a_a a_F.out 8).trans rfl,(a_a a_F.out 9).trans rfl,(a_a a_F.out 10).trans rfl,(a_a b_j.out 0).trans rfl,(a_a b_j.out 1).trans rfl,(a_a b_V.out 0).trans rfl⟩ (fun hHeld => ?_)
     clear hK K
     refine d_A (a':=?_) ?_ ?_
     rotate_left
     ·show Act.put _ (some 40) _ = _
      simp only [Act.put,sa_,sb_,sc_,a_t,a_u]
      rfl
     refine a_z (i:=26) (N:=some 43) (v:=?_) (a':=?_) k_B rfl rfl (a_q HT_.out (by kernel_rfl)) (fun _ _ _ h => h) (Or.inl ⟨by rfl,?_⟩) ?_ ?_
     rotate_left
     ·intro w'
      go_simp
      with_reducible rfl
     rotate_left
     ·simp only [Act.put,sa_,sb_,sc_,a_t,a_u]
      rfl
     refine a_z (i:=27) (N:=some 44) (v:=?_) (a':=?_) k_I rfl rfl (a_q HT_.out (by kernel_rfl)) (fun _ _ _ h => h) (Or.inl ⟨by rfl,?_⟩) ?_ ?_
     rotate_left
     ·intro w'
      go_simp
      with_reducible rfl
     rotate_left
     ·simp only [Act.put,sa_,sb_,sc_,a_t,a_u]
      rfl
     refine a_z (i:=28) (N:=some 45) (v:=?_) (a':=?_) k_u rfl rfl (a_q HT_.out (by kernel_rfl)) (fun _ _ _ h => h) (Or.inl ⟨by rfl,?_⟩) ?_ ?_
     rotate_left
     ·intro w'
      go_simp
      with_reducible rfl
     rotate_left
     ·simp only [Act.put,sa_,sb_,sc_,a_t,a_u]
      rfl
     refine a_z (i:=29) (N:=some 46) (v:=undef) (a':=?_) k_L rfl rfl (a_q HT_.out (by kernel_rfl)) (fun _ _ _ h => h) (Or.inr ⟨by rfl,rfl⟩) ?_ ?_
     rotate_left
     ·simp only [Act.put,sa_,sb_,sc_,a_t,a_u]
      rfl
     refine a_z (i:=30) (N:=some 47) (v:=undef) (a':=?_) q_3 rfl rfl (a_q HT_.out (by kernel_rfl)) (fun _ _ _ h => h) (Or.inr ⟨by rfl,rfl⟩) ?_ ?_
     rotate_left
     ·simp only [Act.put,sa_,sb_,sc_,a_t,a_u]
      rfl
     refine a_z (i:=31) (N:=some 48) (v:=undef) (a':=?_) q_7 rfl rfl (a_q HT_.out (by kernel_rfl)) (fun _ _ _ h => h) (Or.inr ⟨by rfl,rfl⟩) ?_ ?_
     rotate_left
     ·simp only [Act.put,sa_,sb_,sc_,a_t,a_u]
      rfl
     refine a_z (i:=32) (N:=some 49) (v:=undef) (a':=?_) q_R rfl rfl (a_q HT_.out (by kernel_rfl)) (fun _ _ _ h => h) (Or.inr ⟨by rfl,rfl⟩) ?_ ?_
     rotate_left
     ·simp only [Act.put,sa_,sb_,sc_,a_t,a_u]
      rfl
     refine a_z (i:=33) (N:=some 50) (v:=undef) (a':=?_) r_b rfl rfl (a_q HT_.out (by kernel_rfl)) (fun _ _ _ h => h) (Or.inr ⟨by rfl,rfl⟩) ?_ ?_
     rotate_left
     ·simp only [Act.put,sa_,sb_,sc_,a_t,a_u]
      rfl
     refine a_z (i:=34) (N:=some 51) (v:=undef) (a':=?_) k_m rfl rfl (a_q HT_.out (by kernel_rfl)) (fun _ _ _ h => h) (Or.inr ⟨by rfl,rfl⟩) ?_ ?_
     rotate_left
     ·simp only [Act.put,sa_,sb_,sc_,a_t,a_u]
      rfl
     refine a_z (i:=35) (N:=some 52) (v:=undef) (a':=?_) k_K rfl rfl (a_q HT_.out (by kernel_rfl)) (fun _ _ _ h => h) (Or.inr ⟨by rfl,rfl⟩) ?_ ?_
     rotate_left
     ·simp only [Act.put,sa_,sb_,sc_,a_t,a_u]
      rfl
     refine a_z (i:=36) (N:=some 53) (v:=?_) (a':=?_) k_y rfl rfl (a_q HT_.out (by kernel_rfl)) (fun _ _ _ h => h) (Or.inl ⟨by rfl,?_⟩) ?_ ?_
     rotate_left
     ·intro w'
      go_simp
      with_reducible rfl
     rotate_left
     ·simp only [Act.put,sa_,sb_,sc_,a_t,a_u]
      rfl
     refine e_j (c_q HT_.out (by kernel_rfl)) ?_
     try go_wp2
     go_ret
     exact ⟨by first|rfl|(simp [a_w,a_x] <;> rfl)|(simp [*, a_w,a_x] <;> rfl),by repeat (first|(with_reducible first|exact HB.out|apply a_g|apply a_e|apply a_h|refine a_f ?_ d_E.out|refine a_f ?_ d_3.out|refine a_f ?_ e_m.out)|exact HB.out)⟩
    rw [if_pos c64] at H
    have c64b0 : (t119 == ((a_c l0_1 x10_1).f9)) = true:=beq_iff_eq.mpr c64
    have c64b1 : (t119 != ((a_c l0_1 x10_1).f9)) = false:=bne_eq_false_iff_eq.mpr c64
    clear c64
    replace H:=Option.bind_eq_some_iff.mp H
    obtain ⟨t120,A650,H⟩:=H
    replace H : (if t120 = ((a_c l0_1 x10_1).f9) then (a_H.l0 k1 l0_1 (l0_1.length : Int) (wrap64 (x10_1 + 1)) a0_0 l0_1) else (some false)) = some r:=H
    have A65:=a_d.mk A650
    clear A650
    by_cases c66 : t120 = ((a_c l0_1 x10_1).f9)
    rotate_left
    ·rw [if_neg c66] at H
     have c66b0 : (t120 == ((a_c l0_1 x10_1).f9)) = false:=beq_eq_false_iff_ne.mpr c66
     have c66b1 : (t120 != ((a_c l0_1 x10_1).f9)) = true:=bne_iff_ne.mpr c66
     obtain rfl:=Option.some.inj H
     refine c_9 (n:=37) (S:=fun w' => w'.cell? ⟨a_9,0,none⟩ = some (.int .i64 ((a_c l0_1 x10_1).f0)) ∧ w'.cell? ⟨a_9,1,none⟩ = some (.int .i64 ((a_c l0_1 x10_1).f1)) ∧ w'.cell? ⟨a_9,2,none⟩ = some (.int .i64 ((a_c l0_1 x10_1).f2)) ∧ w'.cell? ⟨a_9,3,none⟩ = some (.int .i64 ((a_c l0_1 x10_1).f3)) ∧ w'.cell? ⟨a_9,4,none⟩ = some (.int .i64 ((a_c l0_1 x10_1).f4)) ∧ w'.cell? ⟨a_9,5,none⟩ = some (.bool ((a_c l0_1 x10_1).f5)) ∧ w'.cell? ⟨a_9,6,none⟩ = some (.bool ((a_c l0_1 x10_1).f6)) ∧ w'.cell? ⟨a_9,7,none⟩ = some (.int .u32 ((a_c l0_1 x10_1).f7)) ∧ w'.cell? ⟨a_9,8,none⟩ = some (.int .i64 ((a_c l0_1 x10_1).f8)) ∧ w'.cell? ⟨a_9,9,none⟩ = some (.int .i64 ((a_c l0_1 x10_1).f9)) ∧ w'.cell? ⟨a_9,10,none⟩ = some (.int .i64 ((a_c l0_1 x10_1).f10)) ∧ w'.cell? ⟨d_Z,0,none⟩ = some (.int .i64 a0_0) ∧ w'.cell? ⟨d_Z,1,none⟩ = some (.slice (some ad112) l0_1.length c0_1) ∧ w'.cell? ⟨e_l,0,none⟩ = some (.func (.func 51) #[] #[.pointer (some ⟨a_9,0,none⟩)])) (ds:=[]) Z1_ (by kernel_rfl) rfl rfl ⟨(a_a a_F.out 0).trans rfl,(a_a a_F.out 1).trans rfl,(a_a a_F.out 2).trans rfl,(a_a a_F.out 3).trans rfl,(a_a a_F.out 4).trans rfl,(a_a a_F.out 5).trans rfl,(a_a a_F.out 6).trans rfl,(a_a a_F.out 7).trans rfl,(a_a a_F.out 8).trans rfl,(a_a a_F.out 9).trans rfl,(a_a a_F.out 10).trans rfl,(a_a b_j.out 0).trans rfl,(a_a b_j.out 1).trans rfl,(a_a b_V.out 0).trans rfl⟩ (fun hHeld => ?_);refine b_P a_H.tab6 a_H.e_I (fun HT_ HW_ => ?_)
     generalize w21.drew = w87 at b_j a_F b_V HB hHeld ⊢
     refine b_l (i:=0) (N:=some 17) (v:=?_) (a':=?_) Z5_ rfl rfl (a_O HT_.out HW_.out (by kernel_rfl)) (fun _ _ _ h => h) (Or.inl ⟨by rfl,?_⟩) hHeld ?_ ?_
     rotate_left
     ·rintro w' ⟨s0,s1,s2,s3,s4,s5,s6,s7,s8,s9,s10,s11,s12,s13⟩
      go_simp
      with_reducible rfl
     rotate_left
     ·simp only [Act.put,sa_,sb_,sc_,a_t,a_u]
      rfl
     refine one_ (i:=1) (N:=some 18) Z9_ rfl rfl (b_7 HT_.out (by kernel_rfl)) (by decide) (fun K hK => ?_)
     refine d_O Try.func53 (by kernel_rfl) rfl #[.agg #[.int .i64 ((a_c l0_1 x10_1).f0),.int .i64 ((a_c l0_1 x10_1).f1),.int .i64 ((a_c l0_1 x10_1).f2),.int .i64 ((a_c l0_1 x10_1).f3),.int .i64 ((a_c l0_1 x10_1).f4),.bool ((a_c l0_1 x10_1).f5),.bool ((a_c l0_1 x10_1).f6),.int .u32 ((a_c l0_1 x10_1).f7),.int .i64 ((a_c l0_1 x10_1).f8),.int .i64 ((a_c l0_1 x10_1).f9),.int .i64 ((a_c l0_1 x10_1).f10)]] (by rfl) rfl rfl (by (try simp only [List.map_toArray,List.map_cons,List.map_nil]);first|done|rfl|(simp only [List.length_drop,List.length_take];rfl)) ?_
     with_reducible refine (a_X.calls k1 ((a_c l0_1 x10_1).f0) ((a_c l0_1 x10_1).f1) ((a_c l0_1 x10_1).f2) ((a_c l0_1 x10_1).f3) ((a_c l0_1 x10_1).f4) ((a_c l0_1 x10_1).f5) ((a_c l0_1 x10_1).f6) ((a_c l0_1 x10_1).f7) ((a_c l0_1 x10_1).f8) ((a_c l0_1 x10_1).f9) ((a_c l0_1 x10_1).f10) true _ A7.out).mono ?_
     rintro e w88 ⟨rfl,hb⟩
     refine ⟨_,rfl,?_⟩
     replace b_j:=a_d.mk (a_i (bup_ b_j.out) hb)
     replace a_F:=a_d.mk (a_i (bup_ a_F.out) hb)
     replace b_V:=a_d.mk (a_i (bup_ b_V.out) hb)
     replace HB:=a_d.mk (a_o (by repeat (first|(with_reducible first|exact HB.out|apply a_g|apply a_e|apply a_h|refine a_f ?_ d_E.out|refine a_f ?_ d_3.out|refine a_f ?_ e_m.out)|exact HB.out)) hb)
     (try clear hb)
     (try clear hb2)
     (try clear hk)
     (try clear hi)
     refine hK.out _ _ ⟨(a_a a_F.out 0).trans rfl,(a_a a_F.out 1).trans rfl,(a_a a_F.out 2).trans rfl,(a_a a_F.out 3).trans rfl,(a_a a_F.out 4).trans rfl,(a_a a_F.out 5).trans rfl,(a_a a_F.out 6).trans rfl,(a_a a_F.out 7).trans rfl,(a_a a_F.out 8).trans rfl,(a_a a_F.out 9).trans rfl,(a_a a_F.out 10).trans rfl,(a_a b_j.out 0).trans rfl,(a_a b_j.out 1).trans rfl,(a_a b_V.out 0).trans rfl⟩ (fun hHeld => ?_)
     clear hK K
     refine d_A (a':=?_) ?_ ?_
     rotate_left
     ·show Act.put _ (some 18) _ = _
      simp only [Act.put,sa_,sb_,sc_,a_t,a_u]
      rfl
     refine a_z (i:=2) (N:=some 19) (v:=?_) (a':=?_) Z13_ rfl rfl (a_q HT_.out (by kernel_rfl)) (fun _ _ _ h => h) (Or.inl ⟨by rfl,?_⟩) ?_ ?_
     rotate_left
     ·intro w'
      go_simp
      with_reducible rfl
     rotate_left
     ·simp only [Act.put,sa_,sb_,sc_,a_t,a_u]
      rfl
     refine a_z (i:=3) (N:=some 20) (v:=?_) (a':=?_) Z17_ rfl rfl (a_q HT_.out (by kernel_rfl)) (fun _ _ _ h => h) (Or.inl ⟨by rfl,?_⟩) ?_ ?_
     rotate_left
     ·intro w'
      go_simp
      with_reducible rfl
     rotate_left
     ·simp only [Act.put,sa_,sb_,sc_,a_t,a_u]
      rfl
     refine a_z (i:=4) (N:=some 21) (v:=?_) (a':=?_) Z21_ rfl rfl (a_q HT_.out (by kernel_rfl)) (fun _ _ _ h => h) (Or.inl ⟨by rfl,?_⟩) ?_ ?_
     rotate_left
     ·intro w'
      go_simp
      with_reducible rfl
     rotate_left
     ·simp only [Act.put,sa_,sb_,sc_,a_t,a_u]
      rfl
     refine a_z (i:=5) (N:=some 22) (v:=?_) (a':=?_) Z26_ rfl rfl (a_q HT_.out (by kernel_rfl)) (fun _ _ _ h => h) (Or.inl ⟨by rfl,?_⟩) ?_ ?_
     rotate_left
     ·intro w'
      go_simp
      with_reducible rfl
     rotate_left
     ·simp only [Act.put,sa_,sb_,sc_,a_t,a_u]
      rfl
     refine a_z (i:=6) (N:=some 23) (v:=?_) (a':=?_) Z29_ rfl rfl (a_q HT_.out (by kernel_rfl)) (fun _ _ _ h => h) (Or.inl ⟨by rfl,?_⟩) ?_ ?_
     rotate_left
     ·intro w'
      go_simp
      with_reducible rfl
     rotate_left
     ·simp only [Act.put,sa_,sb_,sc_,a_t,a_u]
      rfl
     refine a_z (i:=7) (N:=some 24) (v:=undef) (a':=?_) Z33_ rfl rfl (a_q HT_.out (by kernel_rfl)) (fun _ _ _ h => h) (Or.inr ⟨by rfl,rfl⟩) ?_ ?_
     rotate_left
     ·simp only [Act.put,sa_,sb_,sc_,a_t,a_u]
      rfl
     refine a_z (i:=8) (N:=some 25) (v:=undef) (a':=?_) Z40_ rfl rfl (a_q HT_.out (by kernel_rfl)) (fun _ _ _ h => h) (Or.inr ⟨by rfl,rfl⟩) ?_ ?_
     rotate_left
     ·simp only [Act.put,sa_,sb_,sc_,a_t,a_u]
      rfl
     refine a_z (i:=9) (N:=some 26) (v:=undef) (a':=?_) Z45_ rfl rfl (a_q HT_.out (by kernel_rfl)) (fun _ _ _ h => h) (Or.inr ⟨by rfl,rfl⟩) ?_ ?_
     rotate_left
     ·simp only [Act.put,sa_,sb_,sc_,a_t,a_u]
      rfl
     refine a_z (i:=10) (N:=some 27) (v:=undef) (a':=?_) Z48_ rfl rfl (a_q HT_.out (by kernel_rfl)) (fun _ _ _ h => h) (Or.inr ⟨by rfl,rfl⟩) ?_ ?_
     rotate_left
     ·simp only [Act.put,sa_,sb_,sc_,a_t,a_u]
      rfl
     refine a_z (i:=11) (N:=some 28) (v:=undef) (a':=?_) Z53_ rfl rfl (a_q HT_.out (by kernel_rfl)) (fun _ _ _ h => h) (Or.inr ⟨by rfl,rfl⟩) ?_ ?_
     rotate_left
     ·simp only [Act.put,sa_,sb_,sc_,a_t,a_u]
      rfl
     refine a_z (i:=12) (N:=some 29) (v:=undef) (a':=?_) Z58_ rfl rfl (a_q HT_.out (by kernel_rfl)) (fun _ _ _ h => h) (Or.inr ⟨by rfl,rfl⟩) ?_ ?_
     rotate_left
     ·simp only [Act.put,sa_,sb_,sc_,a_t,a_u]
      rfl
     refine a_z (i:=13) (N:=some 30) (v:=undef) (a':=?_) Z63_ rfl rfl (a_q HT_.out (by kernel_rfl)) (fun _ _ _ h => h) (Or.inr ⟨by rfl,rfl⟩) ?_ ?_
     rotate_left
     ·simp only [Act.put,sa_,sb_,sc_,a_t,a_u]
      rfl
     refine a_z (i:=14) (N:=some 31) (v:=undef) (a':=?_) Z67_ rfl rfl (a_q HT_.out (by kernel_rfl)) (fun _ _ _ h => h) (Or.inr ⟨by rfl,rfl⟩) ?_ ?_
     rotate_left
     ·simp only [Act.put,sa_,sb_,sc_,a_t,a_u]
      rfl
     refine a_z (i:=15) (N:=some 32) (v:=undef) (a':=?_) Z74_ rfl rfl (a_q HT_.out (by kernel_rfl)) (fun _ _ _ h => h) (Or.inr ⟨by rfl,rfl⟩) ?_ ?_
     rotate_left
     ·simp only [Act.put,sa_,sb_,sc_,a_t,a_u]
      rfl
     refine a_z (i:=16) (N:=some 33) (v:=undef) (a':=?_) Z78_ rfl rfl (a_q HT_.out (by kernel_rfl)) (fun _ _ _ h => h) (Or.inr ⟨by rfl,rfl⟩) ?_ ?_
     rotate_left
     ·simp only [Act.put,sa_,sb_,sc_,a_t,a_u]
      rfl
     refine a_z (i:=17) (N:=some 34) (v:=?_) (a':=?_) Z82_ rfl rfl (a_q HT_.out (by kernel_rfl)) (fun _ _ _ h => h) (Or.inl ⟨by rfl,?_⟩) ?_ ?_
     rotate_left
     ·intro w'
      go_simp
      with_reducible rfl
     rotate_left
     ·simp only [Act.put,sa_,sb_,sc_,a_t,a_u]
      rfl
     refine a_z (i:=18) (N:=some 35) (v:=?_) (a':=?_) Z87_ rfl rfl (a_q HT_.out (by kernel_rfl)) (fun _ _ _ h => h) (Or.inl ⟨by rfl,?_⟩) ?_ ?_
     rotate_left
     ·intro w'
      go_simp
      with_reducible rfl
     rotate_left
     ·simp only [Act.put,sa_,sb_,sc_,a_t,a_u]
      rfl
     refine a_z (i:=19) (N:=some 36) (v:=?_) (a':=?_) Z91_ rfl rfl (a_q HT_.out (by kernel_rfl)) (fun _ _ _ h => h) (Or.inl ⟨by rfl,?_⟩) ?_ ?_
     rotate_left
     ·intro w'
      go_simp
      with_reducible rfl
     rotate_left
     ·simp only [Act.put,sa_,sb_,sc_,a_t,a_u]
      rfl
     refine a_z (i:=20) (N:=some 37) (v:=?_) (a':=?_) Z95_ rfl rfl (a_q HT_.out (by kernel_rfl)) (fun _ _ _ h => h) (Or.inl ⟨by rfl,?_⟩) ?_ ?_
     rotate_left
     ·intro w'
      go_simp
      with_reducible rfl
     rotate_left
     ·simp only [Act.put,sa_,sb_,sc_,a_t,a_u]
      rfl
     refine a_z (i:=24) (N:=some 41) (v:=?_) (a':=?_) Z97_ rfl rfl (a_q HT_.out (by kernel_rfl)) (fun _ _ _ h => h) (Or.inl ⟨by rfl,?_⟩) ?_ ?_
     rotate_left
     ·intro w'
      go_simp
      with_reducible rfl
     rotate_left
     ·simp only [Act.put,sa_,sb_,sc_,a_t,a_u]
      rfl
     refine b_l (i:=21) (N:=some 38) (v:=?_) (a':=?_) n_C rfl rfl (a_O HT_.out HW_.out (by kernel_rfl)) (fun _ _ _ h => h) (Or.inl ⟨by rfl,?_⟩) hHeld ?_ ?_
     rotate_left
     ·rintro w' ⟨s0,s1,s2,s3,s4,s5,s6,s7,s8,s9,s10,s11,s12,s13⟩
      go_simp
      with_reducible rfl
     rotate_left
     ·simp only [Act.put,sa_,sb_,sc_,a_t,a_u]
      rfl
     refine b_l (i:=22) (N:=some 39) (v:=?_) (a':=?_) n_L rfl rfl (a_O HT_.out HW_.out (by kernel_rfl)) (fun _ _ _ h => h) (Or.inl ⟨by rfl,?_⟩) hHeld ?_ ?_
     rotate_left
     ·rintro w' ⟨s0,s1,s2,s3,s4,s5,s6,s7,s8,s9,s10,s11,s12,s13⟩
      go_simp
      with_reducible rfl
     rotate_left
     ·simp only [Act.put,sa_,sb_,sc_,a_t,a_u]
      rfl
     refine b_l (i:=25) (N:=some 42) (v:=?_) (a':=?_) n_J rfl rfl (a_O HT_.out HW_.out (by kernel_rfl)) (fun _ _ _ h => h) (Or.inl ⟨by rfl,?_⟩) hHeld ?_ ?_
     rotate_left
     ·rintro w' ⟨s0,s1,s2,s3,s4,s5,s6,s7,s8,s9,s10,s11,s12,s13⟩
      go_simp
      with_reducible rfl
     rotate_left
     ·simp only [Act.put,sa_,sb_,sc_,a_t,a_u]
      rfl
     refine one_ (i:=23) (N:=some 40) k_C rfl rfl (b_7 HT_.out (by kernel_rfl)) (by decide) (fun K hK => ?_)
     refine d_O Try.func38 (by kernel_rfl) rfl #[.slice (some ad112) l0_1.length c0_1,.func (.func 51) #[] #[.pointer (some ⟨a_9,0,none⟩)]] (by rfl) rfl rfl (by (try simp only [List.map_toArray,List.map_cons,List.map_nil]);first|done|rfl|(simp only [List.length_drop,List.length_take];rfl)) ?_
     with_reducible refine (b_i.calls _ _ l0_1 a_9 ((a_c l0_1 x10_1).f0) ((a_c l0_1 x10_1).f1) ((a_c l0_1 x10_1).f2) ((a_c l0_1 x10_1).f3) ((a_c l0_1 x10_1).f4) ((a_c l0_1 x10_1).f5) ((a_c l0_1 x10_1).f6) ((a_c l0_1 x10_1).f7) ((a_c l0_1 x10_1).f8) ((a_c l0_1 x10_1).f9) ((a_c l0_1 x10_1).f10) t119 _ ?side1 ?side2 ?side3 A63.out).mono ?_
     (case side1 => repeat (first|exact (Kd.a_U d_i.out HB.out)|(with_reducible refine Kd.a_V ?_ _)|(with_reducible refine Kd.a_W ?_ _)|(with_reducible refine Kd.a_5 ?_)))
     (case side2 => exact f_j.out)
     (case side3 => exact (bup_ a_F.out))
     rintro e w89 ⟨rfl,hb⟩
     refine ⟨_,rfl,?_⟩
     replace b_j:=a_d.mk (a_i (bup_ b_j.out) hb)
     replace a_F:=a_d.mk (a_i (bup_ a_F.out) hb)
     replace b_V:=a_d.mk (a_i (bup_ b_V.out) hb)
     replace HB:=a_d.mk (a_o (by repeat (first|(with_reducible first|exact HB.out|apply a_g|apply a_e|apply a_h|refine a_f ?_ d_E.out|refine a_f ?_ d_3.out|refine a_f ?_ e_m.out)|exact HB.out)) hb)
     (try clear hb)
     (try clear hb2)
     (try clear hk)
     (try clear hi)
     refine hK.out _ _ ⟨(a_a a_F.out 0).trans rfl,(a_a a_F.out 1).trans rfl,(a_a a_F.out 2).trans rfl,(a_a a_F.out 3).trans rfl,(a_a a_F.out 4).trans rfl,(a_a a_F.out 5).trans rfl,(a_a a_F.out 6).trans rfl,(a_a a_F.out 7).trans rfl,(a_a a_F.out 8).trans rfl,(a_a a_F.out 9).trans rfl,(a_a a_F.out 10).trans rfl,(a_a b_j.out 0).trans rfl,(a_a b_j.out 1).trans rfl,(a_a b_V.out 0).trans rfl⟩ (fun hHeld => ?_)
     clear hK K
     refine d_A (a':=?_) ?_ ?_
     rotate_left
     ·show Act.put _ (some 40) _ = _
      simp only [Act.put,sa_,sb_,sc_,a_t,a_u]
      rfl
     refine a_z (i:=26) (N:=some 43) (v:=?_) (a':=?_) k_B rfl rfl (a_q HT_.out (by kernel_rfl)) (fun _ _ _ h => h) (Or.inl ⟨by rfl,?_⟩) ?_ ?_
     rotate_left
     ·intro w'
      go_simp
      with_reducible rfl
     rotate_left
     ·simp only [Act.put,sa_,sb_,sc_,a_t,a_u]
      rfl
     refine a_z (i:=27) (N:=some 44) (v:=?_) (a':=?_) k_I rfl rfl (a_q HT_.out (by kernel_rfl)) (fun _ _ _ h => h) (Or.inl ⟨by rfl,?_⟩) ?_ ?_
     rotate_left
     ·intro w'
      go_simp
      with_reducible rfl
     rotate_left
     ·simp only [Act.put,sa_,sb_,sc_,a_t,a_u]
      rfl
     refine a_z (i:=28) (N:=some 45) (v:=?_) (a':=?_) k_u rfl rfl (a_q HT_.out (by kernel_rfl)) (fun _ _ _ h => h) (Or.inl ⟨by rfl,?_⟩) ?_ ?_
     rotate_left
     ·intro w'
      go_simp
      with_reducible rfl
     rotate_left
     ·simp only [Act.put,sa_,sb_,sc_,a_t,a_u]
      rfl
     refine a_z (i:=29) (N:=some 46) (v:=?_) (a':=?_) k_L rfl rfl (a_q HT_.out (by kernel_rfl)) (fun _ _ _ h => h) (Or.inl ⟨by rfl,?_⟩) ?_ ?_
     rotate_left
     ·intro w'
      go_simp
      with_reducible rfl
     rotate_left
     ·simp only [Act.put,sa_,sb_,sc_,a_t,a_u]
      rfl
     refine a_z (i:=31) (N:=some 48) (v:=?_) (a':=?_) r_e rfl rfl (a_q HT_.out (by kernel_rfl)) (fun _ _ _ h => h) (Or.inl ⟨by rfl,?_⟩) ?_ ?_
     rotate_left
     ·intro w'
      go_simp
      with_reducible rfl
     rotate_left
     ·simp only [Act.put,sa_,sb_,sc_,a_t,a_u]
      rfl
     refine a_z (i:=33) (N:=some 50) (v:=?_) (a':=?_) q_P rfl rfl (a_q HT_.out (by kernel_rfl)) (fun _ _ _ h => h) (Or.inl ⟨by rfl,?_⟩) ?_ ?_
     rotate_left
     ·intro w'
      go_simp
      with_reducible rfl
     rotate_left
     ·simp only [Act.put,sa_,sb_,sc_,a_t,a_u]
      rfl
     refine b_l (i:=30) (N:=some 47) (v:=?_) (a':=?_) q_J rfl rfl (a_O HT_.out HW_.out (by kernel_rfl)) (fun _ _ _ h => h) (Or.inl ⟨by rfl,?_⟩) hHeld ?_ ?_
     rotate_left
     ·rintro w' ⟨s0,s1,s2,s3,s4,s5,s6,s7,s8,s9,s10,s11,s12,s13⟩
      go_simp
      with_reducible rfl
     rotate_left
     ·simp only [Act.put,sa_,sb_,sc_,a_t,a_u]
      rfl
     refine b_l (i:=34) (N:=some 51) (v:=?_) (a':=?_) q_I rfl rfl (a_O HT_.out HW_.out (by kernel_rfl)) (fun _ _ _ h => h) (Or.inl ⟨by rfl,?_⟩) hHeld ?_ ?_
     rotate_left
     ·rintro w' ⟨s0,s1,s2,s3,s4,s5,s6,s7,s8,s9,s10,s11,s12,s13⟩
      go_simp
      with_reducible rfl
     rotate_left
     ·simp only [Act.put,sa_,sb_,sc_,a_t,a_u]
      rfl
     refine one_ (i:=32) (N:=some 49) k_m rfl rfl (b_7 HT_.out (by kernel_rfl)) (by decide) (fun K hK => ?_)
     refine d_O Try.func38 (by kernel_rfl) rfl #[.slice (some ad112) l0_1.length c0_1,.func (.func 52) #[] #[.pointer (some ⟨e_l,0,none⟩),.pointer (some ⟨a_9,0,none⟩)]] (by rfl) rfl rfl (by (try simp only [List.map_toArray,List.map_cons,List.map_nil]);first|done|rfl|(simp only [List.length_drop,List.length_take];rfl)) ?_
     with_reducible refine (b_g.calls _ _ l0_1 e_l a_9 a_9 ((a_c l0_1 x10_1).f0) ((a_c l0_1 x10_1).f1) ((a_c l0_1 x10_1).f2) ((a_c l0_1 x10_1).f3) ((a_c l0_1 x10_1).f4) ((a_c l0_1 x10_1).f5) ((a_c l0_1 x10_1).f6) ((a_c l0_1 x10_1).f7) ((a_c l0_1 x10_1).f8) ((a_c l0_1 x10_1).f9) ((a_c l0_1 x10_1).f10) ((a_c l0_1 x10_1).f0) ((a_c l0_1 x10_1).f1) ((a_c l0_1 x10_1).f2) ((a_c l0_1 x10_1).f3) ((a_c l0_1 x10_1).f4) ((a_c l0_1 x10_1).f5) ((a_c l0_1 x10_1).f6) ((a_c l0_1 x10_1).f7) ((a_c l0_1 x10_1).f8) ((a_c l0_1 x10_1).f9) ((a_c l0_1 x10_1).f10) t120 _ ?side1 ?side2 ?side3 ?side4 ?side5 A65.out).mono ?_
     (case side1 => repeat (first|exact (Kd.a_U d_i.out HB.out)|(with_reducible refine Kd.a_V ?_ _)|(with_reducible refine Kd.a_W ?_ _)|(with_reducible refine Kd.a_5 ?_)))
     (case side2 => exact f_j.out)
     (case side3 => exact (bup_ b_V.out))
     (case side4 => exact (bup_ a_F.out))
     (case side5 => exact (bup_ a_F.out))
     rintro e w90 ⟨rfl,hb⟩
     refine ⟨_,rfl,?_⟩
     replace b_j:=a_d.mk (a_i (bup_ b_j.out) hb)
     replace a_F:=a_d.mk (a_i (bup_ a_F.out) hb)
     replace b_V:=a_d.mk (a_i (bup_ b_V.out) hb)
     replace HB:=a_d.mk (a_o (by repeat (first|(with_reducible first|exact HB.out|apply a_g|apply a_e|apply a_h|refine a_f ?_ d_E.out|refine a_f ?_ d_3.out|refine a_f ?_ e_m.out)|exact HB.out)) hb)
     (try clear hb)
     (try clear hb2)
     (try clear hk)
     (try clear hi)
     refine hK.out _ _ ⟨(a_a a_F.out 0).trans rfl,(a_a a_F.out 1).trans rfl,(a_a a_F.out 2).trans rfl,(a_a a_F.out 3).trans rfl,(a_a a_F.out 4).trans rfl,(a_a a_F.out 5).trans rfl,(a_a a_F.out 6).trans rfl,(a_a a_F.out 7).trans rfl,(a_a a_F.out 8).trans rfl,(a_a a_F.out 9).trans rfl,(a_a a_F.out 10).trans rfl,(a_a b_j.out 0).trans rfl,(a_a b_j.out 1).trans rfl,(a_a b_V.out 0).trans rfl⟩ (fun hHeld => ?_)
     clear hK K
     refine d_A (a':=?_) ?_ ?_
     rotate_left
     ·show Act.put _ (some 49) _ = _
      simp only [Act.put,sa_,sb_,sc_,a_t,a_u]
      rfl
     refine a_z (i:=35) (N:=some 52) (v:=?_) (a':=?_) k_K rfl rfl (a_q HT_.out (by kernel_rfl)) (fun _ _ _ h => h) (Or.inl ⟨by rfl,?_⟩) ?_ ?_
     rotate_left
     ·intro w'
      go_simp
      with_reducible rfl
     rotate_left
     ·simp only [Act.put,sa_,sb_,sc_,a_t,a_u]
      rfl
     refine a_z (i:=36) (N:=some 53) (v:=?_) (a':=?_) k_y rfl rfl (a_q HT_.out (by kernel_rfl)) (fun _ _ _ h => h) (Or.inl ⟨by rfl,?_⟩) ?_ ?_
     rotate_left
     ·intro w'
      go_simp
      with_reducible rfl
     rotate_left
     ·simp only [Act.put,sa_,sb_,sc_,a_t,a_u]
      rfl
     refine e_j (c_q HT_.out (by kernel_rfl)) ?_
     try go_wp2
     go_ret
     exact ⟨by first|rfl|(simp [a_w,a_x] <;> rfl)|(simp [*, a_w,a_x] <;> rfl),by repeat (first|(with_reducible first|exact HB.out|apply a_g|apply a_e|apply a_h|refine a_f ?_ d_E.out|refine a_f ?_ d_3.out|refine a_f ?_ e_m.out)|exact HB.out)⟩
    rw [if_pos c66] at H
    have c66b0 : (t120 == ((a_c l0_1 x10_1).f9)) = true:=beq_iff_eq.mpr c66
    have c66b1 : (t120 != ((a_c l0_1 x10_1).f9)) = false:=bne_eq_false_iff_eq.mpr c66
    clear c66
    have H':=a_d.mk H
    clear H
    refine c_9 (n:=37) (S:=fun w' => w'.cell? ⟨a_9,0,none⟩ = some (.int .i64 ((a_c l0_1 x10_1).f0)) ∧ w'.cell? ⟨a_9,1,none⟩ = some (.int .i64 ((a_c l0_1 x10_1).f1)) ∧ w'.cell? ⟨a_9,2,none⟩ = some (.int .i64 ((a_c l0_1 x10_1).f2)) ∧ w'.cell? ⟨a_9,3,none⟩ = some (.int .i64 ((a_c l0_1 x10_1).f3)) ∧ w'.cell? ⟨a_9,4,none⟩ = some (.int .i64 ((a_c l0_1 x10_1).f4)) ∧ w'.cell? ⟨a_9,5,none⟩ = some (.bool ((a_c l0_1 x10_1).f5)) ∧ w'.cell? ⟨a_9,6,none⟩ = some (.bool ((a_c l0_1 x10_1).f6)) ∧ w'.cell? ⟨a_9,7,none⟩ = some (.int .u32 ((a_c l0_1 x10_1).f7)) ∧ w'.cell? ⟨a_9,8,none⟩ = some (.int .i64 ((a_c l0_1 x10_1).f8)) ∧ w'.cell? ⟨a_9,9,none⟩ = some (.int .i64 ((a_c l0_1 x10_1).f9)) ∧ w'.cell? ⟨a_9,10,none⟩ = some (.int .i64 ((a_c l0_1 x10_1).f10)) ∧ w'.cell? ⟨d_Z,0,none⟩ = some (.int .i64 a0_0) ∧ w'.cell? ⟨d_Z,1,none⟩ = some (.slice (some ad112) l0_1.length c0_1) ∧ w'.cell? ⟨e_l,0,none⟩ = some (.func (.func 51) #[] #[.pointer (some ⟨a_9,0,none⟩)])) (ds:=[]) Z1_ (by kernel_rfl) rfl rfl ⟨(a_a a_F.out 0).trans rfl,(a_a a_F.out 1).trans rfl,(a_a a_F.out 2).trans rfl,(a_a a_F.out 3).trans rfl,(a_a a_F.out 4).trans rfl,(a_a a_F.out 5).trans rfl,(a_a a_F.out 6).trans rfl,(a_a a_F.out 7).trans rfl,(a_a a_F.out 8).trans rfl,(a_a a_F.out 9).trans rfl,(a_a a_F.out 10).trans rfl,(a_a b_j.out 0).trans rfl,(a_a b_j.out 1).trans rfl,(a_a b_V.out 0).trans rfl⟩ (fun hHeld => ?_);refine b_P a_H.tab6 a_H.e_I (fun HT_ HW_ => ?_)
    generalize w21.drew = w75 at b_j a_F b_V HB hHeld ⊢
    refine b_l (i:=0) (N:=some 17) (v:=?_) (a':=?_) Z5_ rfl rfl (a_O HT_.out HW_.out (by kernel_rfl)) (fun _ _ _ h => h) (Or.inl ⟨by rfl,?_⟩) hHeld ?_ ?_
    rotate_left
    ·rintro w' ⟨s0,s1,s2,s3,s4,s5,s6,s7,s8,s9,s10,s11,s12,s13⟩
     go_simp
     with_reducible rfl
    rotate_left
    ·simp only [Act.put,sa_,sb_,sc_,a_t,a_u]
     rfl
    refine one_ (i:=1) (N:=some 18) Z9_ rfl rfl (b_7 HT_.out (by kernel_rfl)) (by decide) (fun K hK => ?_)
    refine d_O Try.func53 (by kernel_rfl) rfl #[.agg #[.int .i64 ((a_c l0_1 x10_1).f0),.int .i64 ((a_c l0_1 x10_1).f1),.int .i64 ((a_c l0_1 x10_1).f2),.int .i64 ((a_c l0_1 x10_1).f3),.int .i64 ((a_c l0_1 x10_1).f4),.bool ((a_c l0_1 x10_1).f5),.bool ((a_c l0_1 x10_1).f6),.int .u32 ((a_c l0_1 x10_1).f7),.int .i64 ((a_c l0_1 x10_1).f8),.int .i64 ((a_c l0_1 x10_1).f9),.int .i64 ((a_c l0_1 x10_1).f10)]] (by rfl) rfl rfl (by (try simp only [List.map_toArray,List.map_cons,List.map_nil]);first|done|rfl|(simp only [List.length_drop,List.length_take];rfl)) ?_
    with_reducible refine (a_X.calls k1 ((a_c l0_1 x10_1).f0) ((a_c l0_1 x10_1).f1) ((a_c l0_1 x10_1).f2) ((a_c l0_1 x10_1).f3) ((a_c l0_1 x10_1).f4) ((a_c l0_1 x10_1).f5) ((a_c l0_1 x10_1).f6) ((a_c l0_1 x10_1).f7) ((a_c l0_1 x10_1).f8) ((a_c l0_1 x10_1).f9) ((a_c l0_1 x10_1).f10) true _ A7.out).mono ?_
    rintro e w76 ⟨rfl,hb⟩
    refine ⟨_,rfl,?_⟩
    replace b_j:=a_d.mk (a_i (bup_ b_j.out) hb)
    replace a_F:=a_d.mk (a_i (bup_ a_F.out) hb)
    replace b_V:=a_d.mk (a_i (bup_ b_V.out) hb)
    replace HB:=a_d.mk (a_o (by repeat (first|(with_reducible first|exact HB.out|apply a_g|apply a_e|apply a_h|refine a_f ?_ d_E.out|refine a_f ?_ d_3.out|refine a_f ?_ e_m.out)|exact HB.out)) hb)
    (try clear hb)
    (try clear hb2)
    (try clear hk)
    (try clear hi)
    refine hK.out _ _ ⟨(a_a a_F.out 0).trans rfl,(a_a a_F.out 1).trans rfl,(a_a a_F.out 2).trans rfl,(a_a a_F.out 3).trans rfl,(a_a a_F.out 4).trans rfl,(a_a a_F.out 5).trans rfl,(a_a a_F.out 6).trans rfl,(a_a a_F.out 7).trans rfl,(a_a a_F.out 8).trans rfl,(a_a a_F.out 9).trans rfl,(a_a a_F.out 10).trans rfl,(a_a b_j.out 0).trans rfl,(a_a b_j.out 1).trans rfl,(a_a b_V.out 0).trans rfl⟩ (fun hHeld => ?_)
    clear hK K
    refine d_A (a':=?_) ?_ ?_
    rotate_left
    ·show Act.put _ (some 18) _ = _
     simp only [Act.put,sa_,sb_,sc_,a_t,a_u]
     rfl
    refine a_z (i:=2) (N:=some 19) (v:=?_) (a':=?_) Z13_ rfl rfl (a_q HT_.out (by kernel_rfl)) (fun _ _ _ h => h) (Or.inl ⟨by rfl,?_⟩) ?_ ?_
    rotate_left
    ·intro w'
     go_simp
     with_reducible rfl
    rotate_left
    ·simp only [Act.put,sa_,sb_,sc_,a_t,a_u]
     rfl
    refine a_z (i:=3) (N:=some 20) (v:=?_) (a':=?_) Z17_ rfl rfl (a_q HT_.out (by kernel_rfl)) (fun _ _ _ h => h) (Or.inl ⟨by rfl,?_⟩) ?_ ?_
    rotate_left
    ·intro w'
     go_simp
     with_reducible rfl
    rotate_left
    ·simp only [Act.put,sa_,sb_,sc_,a_t,a_u]
     rfl
    refine a_z (i:=4) (N:=some 21) (v:=?_) (a':=?_) Z21_ rfl rfl (a_q HT_.out (by kernel_rfl)) (fun _ _ _ h => h) (Or.inl ⟨by rfl,?_⟩) ?_ ?_
    rotate_left
    ·intro w'
     go_simp
     with_reducible rfl
    rotate_left
    ·simp only [Act.put,sa_,sb_,sc_,a_t,a_u]
     rfl
    refine a_z (i:=5) (N:=some 22) (v:=?_) (a':=?_) Z26_ rfl rfl (a_q HT_.out (by kernel_rfl)) (fun _ _ _ h => h) (Or.inl ⟨by rfl,?_⟩) ?_ ?_
    rotate_left
    ·intro w'
     go_simp
     with_reducible rfl
    rotate_left
    ·simp only [Act.put,sa_,sb_,sc_,a_t,a_u]
     rfl
    refine a_z (i:=6) (N:=some 23) (v:=?_) (a':=?_) Z29_ rfl rfl (a_q HT_.out (by kernel_rfl)) (fun _ _ _ h => h) (Or.inl ⟨by rfl,?_⟩) ?_ ?_
    rotate_left
    ·intro w'
     go_simp
     with_reducible rfl
    rotate_left
    ·simp only [Act.put,sa_,sb_,sc_,a_t,a_u]
     rfl
    refine a_z (i:=7) (N:=some 24) (v:=undef) (a':=?_) Z33_ rfl rfl (a_q HT_.out (by kernel_rfl)) (fun _ _ _ h => h) (Or.inr ⟨by rfl,rfl⟩) ?_ ?_
    rotate_left
    ·simp only [Act.put,sa_,sb_,sc_,a_t,a_u]
     rfl
    refine a_z (i:=8) (N:=some 25) (v:=undef) (a':=?_) Z40_ rfl rfl (a_q HT_.out (by kernel_rfl)) (fun _ _ _ h => h) (Or.inr ⟨by rfl,rfl⟩) ?_ ?_
    rotate_left
    ·simp only [Act.put,sa_,sb_,sc_,a_t,a_u]
     rfl
    refine a_z (i:=9) (N:=some 26) (v:=undef) (a':=?_) Z45_ rfl rfl (a_q HT_.out (by kernel_rfl)) (fun _ _ _ h => h) (Or.inr ⟨by rfl,rfl⟩) ?_ ?_
    rotate_left
    ·simp only [Act.put,sa_,sb_,sc_,a_t,a_u]
     rfl
    refine a_z (i:=10) (N:=some 27) (v:=undef) (a':=?_) Z48_ rfl rfl (a_q HT_.out (by kernel_rfl)) (fun _ _ _ h => h) (Or.inr ⟨by rfl,rfl⟩) ?_ ?_
    rotate_left
    ·simp only [Act.put,sa_,sb_,sc_,a_t,a_u]
     rfl
    refine a_z (i:=11) (N:=some 28) (v:=undef) (a':=?_) Z53_ rfl rfl (a_q HT_.out (by kernel_rfl)) (fun _ _ _ h => h) (Or.inr ⟨by rfl,rfl⟩) ?_ ?_
    rotate_left
    ·simp only [Act.put,sa_,sb_,sc_,a_t,a_u]
     rfl
    refine a_z (i:=12) (N:=some 29) (v:=undef) (a':=?_) Z58_ rfl rfl (a_q HT_.out (by kernel_rfl)) (fun _ _ _ h => h) (Or.inr ⟨by rfl,rfl⟩) ?_ ?_
    rotate_left
    ·simp only [Act.put,sa_,sb_,sc_,a_t,a_u]
     rfl
    refine a_z (i:=13) (N:=some 30) (v:=undef) (a':=?_) Z63_ rfl rfl (a_q HT_.out (by kernel_rfl)) (fun _ _ _ h => h) (Or.inr ⟨by rfl,rfl⟩) ?_ ?_
    rotate_left
    ·simp only [Act.put,sa_,sb_,sc_,a_t,a_u]
     rfl
    refine a_z (i:=14) (N:=some 31) (v:=undef) (a':=?_) Z67_ rfl rfl (a_q HT_.out (by kernel_rfl)) (fun _ _ _ h => h) (Or.inr ⟨by rfl,rfl⟩) ?_ ?_
    rotate_left
    ·simp only [Act.put,sa_,sb_,sc_,a_t,a_u]
     rfl
    refine a_z (i:=15) (N:=some 32) (v:=undef) (a':=?_) Z74_ rfl rfl (a_q HT_.out (by kernel_rfl)) (fun _ _ _ h => h) (Or.inr ⟨by rfl,rfl⟩) ?_ ?_
    rotate_left
    ·simp only [Act.put,sa_,sb_,sc_,a_t,a_u]
     rfl
    refine a_z (i:=16) (N:=some 33) (v:=undef) (a':=?_) Z78_ rfl rfl (a_q HT_.out (by kernel_rfl)) (fun _ _ _ h => h) (Or.inr ⟨by rfl,rfl⟩) ?_ ?_
    rotate_left
    ·simp only [Act.put,sa_,sb_,sc_,a_t,a_u]
     rfl
    refine a_z (i:=17) (N:=some 34) (v:=?_) (a':=?_) Z82_ rfl rfl (a_q HT_.out (by kernel_rfl)) (fun _ _ _ h => h) (Or.inl ⟨by rfl,?_⟩) ?_ ?_
    rotate_left
    ·intro w'
     go_simp
     with_reducible rfl
    rotate_left
    ·simp only [Act.put,sa_,sb_,sc_,a_t,a_u]
     rfl
    refine a_z (i:=18) (N:=some 35) (v:=?_) (a':=?_) Z87_ rfl rfl (a_q HT_.out (by kernel_rfl)) (fun _ _ _ h => h) (Or.inl ⟨by rfl,?_⟩) ?_ ?_
    rotate_left
    ·intro w'
     go_simp
     with_reducible rfl
    rotate_left
    ·simp only [Act.put,sa_,sb_,sc_,a_t,a_u]
     rfl
    refine a_z (i:=19) (N:=some 36) (v:=?_) (a':=?_) Z91_ rfl rfl (a_q HT_.out (by kernel_rfl)) (fun _ _ _ h => h) (Or.inl ⟨by rfl,?_⟩) ?_ ?_
    rotate_left
    ·intro w'
     go_simp
     with_reducible rfl
    rotate_left
    ·simp only [Act.put,sa_,sb_,sc_,a_t,a_u]
     rfl
    refine a_z (i:=20) (N:=some 37) (v:=?_) (a':=?_) Z95_ rfl rfl (a_q HT_.out (by kernel_rfl)) (fun _ _ _ h => h) (Or.inl ⟨by rfl,?_⟩) ?_ ?_
    rotate_left
    ·intro w'
     go_simp
     with_reducible rfl
    rotate_left
    ·simp only [Act.put,sa_,sb_,sc_,a_t,a_u]
     rfl
    refine a_z (i:=24) (N:=some 41) (v:=?_) (a':=?_) Z97_ rfl rfl (a_q HT_.out (by kernel_rfl)) (fun _ _ _ h => h) (Or.inl ⟨by rfl,?_⟩) ?_ ?_
    rotate_left
    ·intro w'
     go_simp
     with_reducible rfl
    rotate_left
    ·simp only [Act.put,sa_,sb_,sc_,a_t,a_u]
     rfl
    refine b_l (i:=21) (N:=some 38) (v:=?_) (a':=?_) n_C rfl rfl (a_O HT_.out HW_.out (by kernel_rfl)) (fun _ _ _ h => h) (Or.inl ⟨by rfl,?_⟩) hHeld ?_ ?_
    rotate_left
    ·rintro w' ⟨s0,s1,s2,s3,s4,s5,s6,s7,s8,s9,s10,s11,s12,s13⟩
     go_simp
     with_reducible rfl
    rotate_left
    ·simp only [Act.put,sa_,sb_,sc_,a_t,a_u]
     rfl
    refine b_l (i:=22) (N:=some 39) (v:=?_) (a':=?_) n_L rfl rfl (a_O HT_.out HW_.out (by kernel_rfl)) (fun _ _ _ h => h) (Or.inl ⟨by rfl,?_⟩) hHeld ?_ ?_
    rotate_left
    ·rintro w' ⟨s0,s1,s2,s3,s4,s5,s6,s7,s8,s9,s10,s11,s12,s13⟩
     go_simp
     with_reducible rfl
    rotate_left
    ·simp only [Act.put,sa_,sb_,sc_,a_t,a_u]
     rfl
    refine b_l (i:=25) (N:=some 42) (v:=?_) (a':=?_) n_J rfl rfl (a_O HT_.out HW_.out (by kernel_rfl)) (fun _ _ _ h => h) (Or.inl ⟨by rfl,?_⟩) hHeld ?_ ?_
    rotate_left
    ·rintro w' ⟨s0,s1,s2,s3,s4,s5,s6,s7,s8,s9,s10,s11,s12,s13⟩
     go_simp
     with_reducible rfl
    rotate_left
    ·simp only [Act.put,sa_,sb_,sc_,a_t,a_u]
     rfl
    refine one_ (i:=23) (N:=some 40) k_C rfl rfl (b_7 HT_.out (by kernel_rfl)) (by decide) (fun K hK => ?_)
    refine d_O Try.func38 (by kernel_rfl) rfl #[.slice (some ad112) l0_1.length c0_1,.func (.func 51) #[] #[.pointer (some ⟨a_9,0,none⟩)]] (by rfl) rfl rfl (by (try simp only [List.map_toArray,List.map_cons,List.map_nil]);first|done|rfl|(simp only [List.length_drop,List.length_take];rfl)) ?_
    with_reducible refine (b_i.calls _ _ l0_1 a_9 ((a_c l0_1 x10_1).f0) ((a_c l0_1 x10_1).f1) ((a_c l0_1 x10_1).f2) ((a_c l0_1 x10_1).f3) ((a_c l0_1 x10_1).f4) ((a_c l0_1 x10_1).f5) ((a_c l0_1 x10_1).f6) ((a_c l0_1 x10_1).f7) ((a_c l0_1 x10_1).f8) ((a_c l0_1 x10_1).f9) ((a_c l0_1 x10_1).f10) t119 _ ?side1 ?side2 ?side3 A63.out).mono ?_
    (case side1 => repeat (first|exact (Kd.a_U d_i.out HB.out)|(with_reducible refine Kd.a_V ?_ _)|(with_reducible refine Kd.a_W ?_ _)|(with_reducible refine Kd.a_5 ?_)))
    (case side2 => exact f_j.out)
    (case side3 => exact (bup_ a_F.out))
    rintro e w77 ⟨rfl,hb⟩
    refine ⟨_,rfl,?_⟩
    replace b_j:=a_d.mk (a_i (bup_ b_j.out) hb)
    replace a_F:=a_d.mk (a_i (bup_ a_F.out) hb)
    replace b_V:=a_d.mk (a_i (bup_ b_V.out) hb)
    replace HB:=a_d.mk (a_o (by repeat (first|(with_reducible first|exact HB.out|apply a_g|apply a_e|apply a_h|refine a_f ?_ d_E.out|refine a_f ?_ d_3.out|refine a_f ?_ e_m.out)|exact HB.out)) hb)
    (try clear hb)
    (try clear hb2)
    (try clear hk)
    (try clear hi)
    refine hK.out _ _ ⟨(a_a a_F.out 0).trans rfl,(a_a a_F.out 1).trans rfl,(a_a a_F.out 2).trans rfl,(a_a a_F.out 3).trans rfl,(a_a a_F.out 4).trans rfl,(a_a a_F.out 5).trans rfl,(a_a a_F.out 6).trans rfl,(a_a a_F.out 7).trans rfl,(a_a a_F.out 8).trans rfl,(a_a a_F.out 9).trans rfl,(a_a a_F.out 10).trans rfl,(a_a b_j.out 0).trans rfl,(a_a b_j.out 1).trans rfl,(a_a b_V.out 0).trans rfl⟩ (fun hHeld => ?_)
    clear hK K
    refine d_A (a':=?_) ?_ ?_
    rotate_left
    ·show Act.put _ (some 40) _ = _
     simp only [Act.put,sa_,sb_,sc_,a_t,a_u]
     rfl
    refine a_z (i:=26) (N:=some 43) (v:=?_) (a':=?_) k_B rfl rfl (a_q HT_.out (by kernel_rfl)) (fun _ _ _ h => h) (Or.inl ⟨by rfl,?_⟩) ?_ ?_
    rotate_left
    ·intro w'
     go_simp
     with_reducible rfl
    rotate_left
    ·simp only [Act.put,sa_,sb_,sc_,a_t,a_u]
     rfl
    refine a_z (i:=27) (N:=some 44) (v:=?_) (a':=?_) k_I rfl rfl (a_q HT_.out (by kernel_rfl)) (fun _ _ _ h => h) (Or.inl ⟨by rfl,?_⟩) ?_ ?_
    rotate_left
    ·intro w'
     go_simp
     with_reducible rfl
    rotate_left
    ·simp only [Act.put,sa_,sb_,sc_,a_t,a_u]
     rfl
    refine a_z (i:=28) (N:=some 45) (v:=?_) (a':=?_) k_u rfl rfl (a_q HT_.out (by kernel_rfl)) (fun _ _ _ h => h) (Or.inl ⟨by rfl,?_⟩) ?_ ?_
    rotate_left
    ·intro w'
     go_simp
     with_reducible rfl
    rotate_left
    ·simp only [Act.put,sa_,sb_,sc_,a_t,a_u]
     rfl
    refine a_z (i:=29) (N:=some 46) (v:=?_) (a':=?_) k_L rfl rfl (a_q HT_.out (by kernel_rfl)) (fun _ _ _ h => h) (Or.inl ⟨by rfl,?_⟩) ?_ ?_
    rotate_left
    ·intro w'
     go_simp
     with_reducible rfl
    rotate_left
    ·simp only [Act.put,sa_,sb_,sc_,a_t,a_u]
     rfl
    refine a_z (i:=31) (N:=some 48) (v:=?_) (a':=?_) r_e rfl rfl (a_q HT_.out (by kernel_rfl)) (fun _ _ _ h => h) (Or.inl ⟨by rfl,?_⟩) ?_ ?_
    rotate_left
    ·intro w'
     go_simp
     with_reducible rfl
    rotate_left
    ·simp only [Act.put,sa_,sb_,sc_,a_t,a_u]
     rfl
    refine a_z (i:=33) (N:=some 50) (v:=?_) (a':=?_) q_P rfl rfl (a_q HT_.out (by kernel_rfl)) (fun _ _ _ h => h) (Or.inl ⟨by rfl,?_⟩) ?_ ?_
    rotate_left
    ·intro w'
     go_simp
     with_reducible rfl
    rotate_left
    ·simp only [Act.put,sa_,sb_,sc_,a_t,a_u]
     rfl
    refine b_l (i:=30) (N:=some 47) (v:=?_) (a':=?_) q_J rfl rfl (a_O HT_.out HW_.out (by kernel_rfl)) (fun _ _ _ h => h) (Or.inl ⟨by rfl,?_⟩) hHeld ?_ ?_
    rotate_left
    ·rintro w' ⟨s0,s1,s2,s3,s4,s5,s6,s7,s8,s9,s10,s11,s12,s13⟩
     go_simp
     with_reducible rfl
    rotate_left
    ·simp only [Act.put,sa_,sb_,sc_,a_t,a_u]
     rfl
    refine b_l (i:=34) (N:=some 51) (v:=?_) (a':=?_) q_I rfl rfl (a_O HT_.out HW_.out (by kernel_rfl)) (fun _ _ _ h => h) (Or.inl ⟨by rfl,?_⟩) hHeld ?_ ?_
    rotate_left
    ·rintro w' ⟨s0,s1,s2,s3,s4,s5,s6,s7,s8,s9,s10,s11,s12,s13⟩
     go_simp
     with_reducible rfl
    rotate_left
    ·simp only [Act.put,sa_,sb_,sc_,a_t,a_u]
     rfl
    refine one_ (i:=32) (N:=some 49) k_m rfl rfl (b_7 HT_.out (by kernel_rfl)) (by decide) (fun K hK => ?_)
    refine d_O Try.func38 (by kernel_rfl) rfl #[.slice (some ad112) l0_1.length c0_1,.func (.func 52) #[] #[.pointer (some ⟨e_l,0,none⟩),.pointer (some ⟨a_9,0,none⟩)]] (by rfl) rfl rfl (by (try simp only [List.map_toArray,List.map_cons,List.map_nil]);first|done|rfl|(simp only [List.length_drop,List.length_take];rfl)) ?_
    with_reducible refine (b_g.calls _ _ l0_1 e_l a_9 a_9 ((a_c l0_1 x10_1).f0) ((a_c l0_1 x10_1).f1) ((a_c l0_1 x10_1).f2) ((a_c l0_1 x10_1).f3) ((a_c l0_1 x10_1).f4) ((a_c l0_1 x10_1).f5) ((a_c l0_1 x10_1).f6) ((a_c l0_1 x10_1).f7) ((a_c l0_1 x10_1).f8) ((a_c l0_1 x10_1).f9) ((a_c l0_1 x10_1).f10) ((a_c l0_1 x10_1).f0) ((a_c l0_1 x10_1).f1) ((a_c l0_1 x10_1).f2) ((a_c l0_1 x10_1).f3) ((a_c l0_1 x10_1).f4) ((a_c l0_1 x10_1).f5) ((a_c l0_1 x10_1).f6) ((a_c l0_1 x10_1).f7) ((a_c l0_1 x10_1).f8) ((a_c l0_1 x10_1).f9) ((a_c l0_1 x10_1).f10) t120 _ ?side1 ?side2 ?side3 ?side4 ?side5 A65.out).mono ?_
    (case side1 => repeat (first|exact (Kd.a_U d_i.out HB.out)|(with_reducible refine Kd.a_V ?_ _)|(with_reducible refine Kd.a_W ?_ _)|(with_reducible refine Kd.a_5 ?_)))
    (case side2 => exact f_j.out)
    (case side3 => exact (bup_ b_V.out))
    (case side4 => exact (bup_ a_F.out))
    (case side5 => exact (bup_ a_F.out))
    rintro e w78 ⟨rfl,hb⟩
    refine ⟨_,rfl,?_⟩
    replace b_j:=a_d.mk (a_i (bup_ b_j.out) hb)
    replace a_F:=a_d.mk (a_i (bup_ a_F.out) hb)
    replace b_V:=a_d.mk (a_i (bup_ b_V.out) hb)
    replace HB:=a_d.mk (a_o (by repeat (first|(with_reducible first|exact HB.out|apply a_g|apply a_e|apply a_h|refine a_f ?_ d_E.out|refine a_f ?_ d_3.out|refine a_f ?_ e_m.out)|exact HB.out)) hb)
    (try clear hb)
    (try clear hb2)
    (try clear hk)
    (try clear hi)
    refine hK.out _ _ ⟨(a_a a_F.out 0).trans rfl,(a_a a_F.out 1).trans rfl,(a_a a_F.out 2).trans rfl,(a_a a_F.out 3).trans rfl,(a_a a_F.out 4).trans rfl,(a_a a_F.out 5).trans rfl,(a_a a_F.out 6).trans rfl,(a_a a_F.out 7).trans rfl,(a_a a_F.out 8).trans rfl,(a_a a_F.out 9).trans rfl,(a_a a_F.out 10).trans rfl,(a_a b_j.out 0).trans rfl,(a_a b_j.out 1).trans rfl,(a_a b_V.out 0).trans rfl⟩ (fun hHeld => ?_)
    clear hK K
    refine d_A (a':=?_) ?_ ?_
    rotate_left
    ·show Act.put _ (some 49) _ = _
     simp only [Act.put,sa_,sb_,sc_,a_t,a_u]
     rfl
    refine a_z (i:=35) (N:=some 52) (v:=?_) (a':=?_) k_K rfl rfl (a_q HT_.out (by kernel_rfl)) (fun _ _ _ h => h) (Or.inl ⟨by rfl,?_⟩) ?_ ?_
    rotate_left
    ·intro w'
     go_simp
     with_reducible rfl
    rotate_left
    ·simp only [Act.put,sa_,sb_,sc_,a_t,a_u]
     rfl
    refine a_z (i:=36) (N:=some 53) (v:=?_) (a':=?_) k_y rfl rfl (a_q HT_.out (by kernel_rfl)) (fun _ _ _ h => h) (Or.inl ⟨by rfl,?_⟩) ?_ ?_
    rotate_left
    ·intro w'
     go_simp
     with_reducible rfl
    rotate_left
    ·simp only [Act.put,sa_,sb_,sc_,a_t,a_u]
     rfl
    refine e_j (c_q HT_.out (by kernel_rfl)) ?_
    try go_wp2
    go_roundg k1
    case measure => have:=HK1.out;omega
    case rel => exact ⟨(wrap64 (x10_1 + 1)),(by first|rfl|(simp;done)|(simp [*];done)),H',⟨by have:=HK1.out;omega⟩,⟨by (with_reducible repeat (first|refine a_l ?_ _|refine a_m ?_|refine a_j ?_ _));exact b_j.out⟩,⟨by repeat (first|(with_reducible first|exact HB.out|apply a_g|apply a_e|apply a_h|refine a_f ?_ d_E.out|refine a_f ?_ d_3.out|refine a_f ?_ e_m.out)|exact HB.out)⟩⟩
   rw [if_pos c9] at H
   have c9b0 : decide (0 < x10_1) = true:=decide_eq_true c9
   clear c9
   obtain ⟨ji10,hji10⟩ : ∃ j_ : Int,(wrap64 (x10_1 - 1)) = j_:=⟨_,rfl⟩
   replace H : (if 0 ≤ (ji10) then (if (ji10) < (l0_1.length : Int) then (if ((a_c l0_1 (ji10)).f0) ≥ ((a_c l0_1 x10_1).f0) then (some false) else ((b_i.f l0_1 ((a_c l0_1 x10_1).f0) ((a_c l0_1 x10_1).f1) ((a_c l0_1 x10_1).f2) ((a_c l0_1 x10_1).f3) ((a_c l0_1 x10_1).f4) ((a_c l0_1 x10_1).f5) ((a_c l0_1 x10_1).f6) ((a_c l0_1 x10_1).f7) ((a_c l0_1 x10_1).f8) ((a_c l0_1 x10_1).f9) ((a_c l0_1 x10_1).f10)).bind fun t117 => (if t117 = ((a_c l0_1 x10_1).f9) then ((b_g.f l0_1 ((a_c l0_1 x10_1).f0) ((a_c l0_1 x10_1).f1) ((a_c l0_1 x10_1).f2) ((a_c l0_1 x10_1).f3) ((a_c l0_1 x10_1).f4) ((a_c l0_1 x10_1).f5) ((a_c l0_1 x10_1).f6) ((a_c l0_1 x10_1).f7) ((a_c l0_1 x10_1).f8) ((a_c l0_1 x10_1).f9) ((a_c l0_1 x10_1).f10) ((a_c l0_1 x10_1).f0) ((a_c l0_1 x10_1).f1) ((a_c l0_1 x10_1).f2) ((a_c l0_1 x10_1).f3) ((a_c l0_1 x10_1).f4) ((a_c l0_1 x10_1).f5) ((a_c l0_1 x10_1).f6) ((a_c l0_1 x10_1).f7) ((a_c l0_1 x10_1).f8) ((a_c l0_1 x10_1).f9) ((a_c l0_1 x10_1).f10)).bind fun t118 => (if t118 = ((a_c l0_1 x10_1).f9) then (a_H.l0 k1 l0_1 (l0_1.length : Int) (wrap64 (x10_1 + 1)) a0_0 l0_1) else (some false))) else (some false)))) else (none)) else (none)) = some r:=by first|(rw [hji10] at H;exact H)|(simp only [hji10] at H ⊢; exact H)
   (try rw [hji10] at A7)
   have hji10w : (IntKind.i64.wrap (x10_1 - 1)) = ji10:=(a_t _).trans hji10
   by_cases c11 : 0 ≤ (ji10)
   rotate_left
   ·rw [if_neg c11] at H
    exact absurd H (by simp)
   rw [if_pos c11] at H
   have c11b0 : decide (0 ≤ (ji10)) = true:=decide_eq_true c11
   clear c11
   by_cases c12 : (ji10) < (l0_1.length : Int)
   rotate_left
   ·rw [if_neg c12] at H
    exact absurd H (by simp)
   rw [if_pos c12] at H
   have c12b0 : decide ((ji10) < (l0_1.length : Int)) = true:=decide_eq_true c12
   clear c12
   by_cases c13 : ((a_c l0_1 (ji10)).f0) ≥ ((a_c l0_1 x10_1).f0)
   ·rw [if_pos c13] at H
    have c13b0 : decide (((a_c l0_1 x10_1).f0) ≤ ((a_c l0_1 (ji10)).f0)) = true:=decide_eq_true c13
    clear c13
    obtain rfl:=Option.some.inj H
    have p116 : 0 ≤ ((ji10) : Int):=of_decide_eq_true (by first|(with_reducible assumption)|assumption)
    have q116 : (ji10) < (l0_1.length : Int):=of_decide_eq_true (by first|(with_reducible assumption)|assumption)
    obtain ⟨ad116,e116,c_K,c_L,c_M,c_N,c_O,c_P,c_Q,c_R,c_S,c_T,c_b⟩:=d_g d_i.out (ji10) p116 q116
    have b_X:=c_b
    have c_c:=c_T
    have c_d:=c_S
    have c_e:=c_R
    have c_f:=c_Q
    have c_g:=c_P
    have c_h:=c_O
    have c_i:=c_N
    have c_j:=c_M
    have c_k:=c_L
    have c_l:=c_K
    obtain rfl : ad112 = ad116:=(by injection e116)
    replace c_K:=(HB.out.cell (World.block_lt_of_cell? w _ c_K)).trans c_K
    replace c_L:=(HB.out.cell (World.block_lt_of_cell? w _ c_L)).trans c_L
    replace c_M:=(HB.out.cell (World.block_lt_of_cell? w _ c_M)).trans c_M
    replace c_N:=(HB.out.cell (World.block_lt_of_cell? w _ c_N)).trans c_N
    replace c_O:=(HB.out.cell (World.block_lt_of_cell? w _ c_O)).trans c_O
    replace c_P:=(HB.out.cell (World.block_lt_of_cell? w _ c_P)).trans c_P
    replace c_Q:=(HB.out.cell (World.block_lt_of_cell? w _ c_Q)).trans c_Q
    replace c_R:=(HB.out.cell (World.block_lt_of_cell? w _ c_R)).trans c_R
    replace c_S:=(HB.out.cell (World.block_lt_of_cell? w _ c_S)).trans c_S
    replace c_T:=(HB.out.cell (World.block_lt_of_cell? w _ c_T)).trans c_T
    replace c_b:=(HB.out.cell (World.block_lt_of_cell? w _ c_b)).trans c_b
    replace p116:=eq_true p116
    replace q116:=eq_true q116
    refine c_9 (n:=37) (S:=fun w' => w'.cell? ⟨a_9,0,none⟩ = some (.int .i64 ((a_c l0_1 x10_1).f0)) ∧ w'.cell? ⟨a_9,1,none⟩ = some (.int .i64 ((a_c l0_1 x10_1).f1)) ∧ w'.cell? ⟨a_9,2,none⟩ = some (.int .i64 ((a_c l0_1 x10_1).f2)) ∧ w'.cell? ⟨a_9,3,none⟩ = some (.int .i64 ((a_c l0_1 x10_1).f3)) ∧ w'.cell? ⟨a_9,4,none⟩ = some (.int .i64 ((a_c l0_1 x10_1).f4)) ∧ w'.cell? ⟨a_9,5,none⟩ = some (.bool ((a_c l0_1 x10_1).f5)) ∧ w'.cell? ⟨a_9,6,none⟩ = some (.bool ((a_c l0_1 x10_1).f6)) ∧ w'.cell? ⟨a_9,7,none⟩ = some (.int .u32 ((a_c l0_1 x10_1).f7)) ∧ w'.cell? ⟨a_9,8,none⟩ = some (.int .i64 ((a_c l0_1 x10_1).f8)) ∧ w'.cell? ⟨a_9,9,none⟩ = some (.int .i64 ((a_c l0_1 x10_1).f9)) ∧ w'.cell? ⟨a_9,10,none⟩ = some (.int .i64 ((a_c l0_1 x10_1).f10)) ∧ w'.cell? ⟨d_Z,0,none⟩ = some (.int .i64 a0_0) ∧ w'.cell? ⟨d_Z,1,none⟩ = some (.slice (some ad112) l0_1.length c0_1) ∧ w'.cell? (ad112.add (((ji10)).toNat * 11)) = some (.int .i64 ((a_c l0_1 (ji10)).f0)) ∧ w'.cell? ⟨(ad112.add (((ji10)).toNat * 11)).block,(ad112.add (((ji10)).toNat * 11)).off + 1,none⟩ = some (.int .i64 ((a_c l0_1 (ji10)).f1)) ∧ w'.cell? ⟨(ad112.add (((ji10)).toNat * 11)).block,(ad112.add (((ji10)).toNat * 11)).off + 2,none⟩ = some (.int .i64 ((a_c l0_1 (ji10)).f2)) ∧ w'.cell? ⟨(ad112.add (((ji10)).toNat * 11)).block,(ad112.add (((ji10)).toNat * 11)).off + 3,none⟩ = some (.int .i64 ((a_c l0_1 (ji10)).f3)) ∧ w'.cell? ⟨(ad112.add (((ji10)).toNat * 11)).block,(ad112.add (((ji10)).toNat * 11)).off + 4,none⟩ = some (.int .i64 ((a_c l0_1 (ji10)).f4)) ∧ w'.cell? ⟨(ad112.add (((ji10)).toNat * 11)).block,(ad112.add (((ji10)).toNat * 11)).off + 5,none⟩ = some (.bool ((a_c l0_1 (ji10)).f5)) ∧ w'.cell? ⟨(ad112.add (((ji10)).toNat * 11)).block,(ad112.add (((ji10)).toNat * 11)).off + 6,none⟩ = some (.bool ((a_c l0_1 (ji10)).f6)) ∧ w'.cell? ⟨(ad112.add (((ji10)).toNat * 11)).block,(ad112.add (((ji10)).toNat * 11)).off + 7,none⟩ = some (.int .u32 ((a_c l0_1 (ji10)).f7)) ∧ w'.cell? ⟨(ad112.add (((ji10)).toNat * 11)).block,(ad112.add (((ji10)).toNat * 11)).off + 8,none⟩ = some (.int .i64 ((a_c l0_1 (ji10)).f8)) ∧ w'.cell? ⟨(ad112.add (((ji10)).toNat * 11)).block,(ad112.add (((ji10)).toNat * 11)).off + 9,none⟩ = some (.int .i64 ((a_c l0_1 (ji10)).f9)) ∧ w'.cell? ⟨(ad112.add (((ji10)).toNat * 11)).block,(ad112.add (((ji10)).toNat * 11)).off + 10,none⟩ = some (.int .i64 ((a_c l0_1 (ji10)).f10))) (ds:=[]) Z1_ (by kernel_rfl) rfl rfl ⟨(a_a a_F.out 0).trans rfl,(a_a a_F.out 1).trans rfl,(a_a a_F.out 2).trans rfl,(a_a a_F.out 3).trans rfl,(a_a a_F.out 4).trans rfl,(a_a a_F.out 5).trans rfl,(a_a a_F.out 6).trans rfl,(a_a a_F.out 7).trans rfl,(a_a a_F.out 8).trans rfl,(a_a a_F.out 9).trans rfl,(a_a a_F.out 10).trans rfl,(a_a b_j.out 0).trans rfl,(a_a b_j.out 1).trans rfl,((HB.out.cell (World.block_lt_of_cell? w _ c_l)).trans c_l),((HB.out.cell (World.block_lt_of_cell? w _ c_k)).trans c_k),((HB.out.cell (World.block_lt_of_cell? w _ c_j)).trans c_j),((HB.out.cell (World.block_lt_of_cell? w _ c_i)).trans c_i),((HB.out.cell (World.block_lt_of_cell? w _ c_h)).trans c_h),((HB.out.cell (World.block_lt_of_cell? w _ c_g)).trans c_g),((HB.out.cell (World.block_lt_of_cell? w _ c_f)).trans c_f),((HB.out.cell (World.block_lt_of_cell? w _ c_e)).trans c_e),((HB.out.cell (World.block_lt_of_cell? w _ c_d)).trans c_d),((HB.out.cell (World.block_lt_of_cell? w _ c_c)).trans c_c),((HB.out.cell (World.block_lt_of_cell? w _ b_X)).trans b_X)⟩ (fun hHeld => ?_);refine b_P a_H.tab6 a_H.e_I (fun HT_ HW_ => ?_)
    generalize w21.drew = w22 at b_j a_F b_V HB c_K c_L c_b c_M c_N c_O c_P c_Q c_R c_S c_T hHeld ⊢
    refine b_l (i:=0) (N:=some 17) (v:=?_) (a':=?_) Z5_ rfl rfl (a_O HT_.out HW_.out (by kernel_rfl)) (fun _ _ _ h => h) (Or.inl ⟨by rfl,?_⟩) hHeld ?_ ?_
    rotate_left
    ·rintro w' ⟨s0,s1,s2,s3,s4,s5,s6,s7,s8,s9,s10,s11,s12,s13,s14,s15,s16,s17,s18,s19,s20,s21,s22,s23⟩
     go_simp
     with_reducible rfl
    rotate_left
    ·simp only [Act.put,sa_,sb_,sc_,a_t,a_u]
     rfl
    refine one_ (i:=1) (N:=some 18) Z9_ rfl rfl (b_7 HT_.out (by kernel_rfl)) (by decide) (fun K hK => ?_)
    refine d_O Try.func53 (by kernel_rfl) rfl #[.agg #[.int .i64 ((a_c l0_1 x10_1).f0),.int .i64 ((a_c l0_1 x10_1).f1),.int .i64 ((a_c l0_1 x10_1).f2),.int .i64 ((a_c l0_1 x10_1).f3),.int .i64 ((a_c l0_1 x10_1).f4),.bool ((a_c l0_1 x10_1).f5),.bool ((a_c l0_1 x10_1).f6),.int .u32 ((a_c l0_1 x10_1).f7),.int .i64 ((a_c l0_1 x10_1).f8),.int .i64 ((a_c l0_1 x10_1).f9),.int .i64 ((a_c l0_1 x10_1).f10)]] (by rfl) rfl rfl (by (try simp only [List.map_toArray,List.map_cons,List.map_nil]);first|done|rfl|(simp only [List.length_drop,List.length_take];rfl)) ?_
    with_reducible refine (a_X.calls k1 ((a_c l0_1 x10_1).f0) ((a_c l0_1 x10_1).f1) ((a_c l0_1 x10_1).f2) ((a_c l0_1 x10_1).f3) ((a_c l0_1 x10_1).f4) ((a_c l0_1 x10_1).f5) ((a_c l0_1 x10_1).f6) ((a_c l0_1 x10_1).f7) ((a_c l0_1 x10_1).f8) ((a_c l0_1 x10_1).f9) ((a_c l0_1 x10_1).f10) true _ A7.out).mono ?_
    rintro e w23 ⟨rfl,hb⟩
    refine ⟨_,rfl,?_⟩
    replace b_j:=a_d.mk (a_i (bup_ b_j.out) hb)
    replace a_F:=a_d.mk (a_i (bup_ a_F.out) hb)
    replace b_V:=a_d.mk (a_i (bup_ b_V.out) hb)
    replace HB:=a_d.mk (a_o (by repeat (first|(with_reducible first|exact HB.out|apply a_g|apply a_e|apply a_h|refine a_f ?_ d_E.out|refine a_f ?_ d_3.out|refine a_f ?_ e_m.out)|exact HB.out)) hb)
    (try clear hb)
    (try clear hb2)
    (try clear hk)
    (try clear hi)
    refine hK.out _ _ ⟨(a_a a_F.out 0).trans rfl,(a_a a_F.out 1).trans rfl,(a_a a_F.out 2).trans rfl,(a_a a_F.out 3).trans rfl,(a_a a_F.out 4).trans rfl,(a_a a_F.out 5).trans rfl,(a_a a_F.out 6).trans rfl,(a_a a_F.out 7).trans rfl,(a_a a_F.out 8).trans rfl,(a_a a_F.out 9).trans rfl,(a_a a_F.out 10).trans rfl,(a_a b_j.out 0).trans rfl,(a_a b_j.out 1).trans rfl,((HB.out.cell (World.block_lt_of_cell? w _ c_l)).trans c_l),((HB.out.cell (World.block_lt_of_cell? w _ c_k)).trans c_k),((HB.out.cell (World.block_lt_of_cell? w _ c_j)).trans c_j),((HB.out.cell (World.block_lt_of_cell? w _ c_i)).trans c_i),((HB.out.cell (World.block_lt_of_cell? w _ c_h)).trans c_h),((HB.out.cell (World.block_lt_of_cell? w _ c_g)).trans c_g),((HB.out.cell (World.block_lt_of_cell? w _ c_f)).trans c_f),((HB.out.cell (World.block_lt_of_cell? w _ c_e)).trans c_e),((HB.out.cell (World.block_lt_of_cell? w _ c_d)).trans c_d),((HB.out.cell (World.block_lt_of_cell? w _ c_c)).trans c_c),((HB.out.cell (World.block_lt_of_cell? w _ b_X)).trans b_X)⟩ (fun hHeld => ?_)
    clear hK K
    refine d_A (a':=?_) ?_ ?_
    rotate_left
    ·show Act.put _ (some 18) _ = _
     simp only [Act.put,sa_,sb_,sc_,a_t,a_u]
     rfl
    refine a_z (i:=2) (N:=some 19) (v:=?_) (a':=?_) Z13_ rfl rfl (a_q HT_.out (by kernel_rfl)) (fun _ _ _ h => h) (Or.inl ⟨by rfl,?_⟩) ?_ ?_
    rotate_left
    ·intro w'
     go_simp
     with_reducible rfl
    rotate_left
    ·simp only [Act.put,sa_,sb_,sc_,a_t,a_u]
     rfl
    refine a_z (i:=3) (N:=some 20) (v:=?_) (a':=?_) Z17_ rfl rfl (a_q HT_.out (by kernel_rfl)) (fun _ _ _ h => h) (Or.inl ⟨by rfl,?_⟩) ?_ ?_
    rotate_left
    ·intro w'
     go_simp
     with_reducible rfl
    rotate_left
    ·simp only [Act.put,sa_,sb_,sc_,a_t,a_u]
     rfl
    refine a_z (i:=4) (N:=some 21) (v:=?_) (a':=?_) Z21_ rfl rfl (a_q HT_.out (by kernel_rfl)) (fun _ _ _ h => h) (Or.inl ⟨by rfl,?_⟩) ?_ ?_
    rotate_left
    ·intro w'
     go_simp
     with_reducible rfl
    rotate_left
    ·simp only [Act.put,sa_,sb_,sc_,a_t,a_u]
     rfl
    refine a_z (i:=5) (N:=some 22) (v:=?_) (a':=?_) Z26_ rfl rfl (a_q HT_.out (by kernel_rfl)) (fun _ _ _ h => h) (Or.inl ⟨by rfl,?_⟩) ?_ ?_
    rotate_left
    ·intro w'
     go_simp
     with_reducible rfl
    rotate_left
    ·simp only [Act.put,sa_,sb_,sc_,a_t,a_u]
     rfl
    refine a_z (i:=6) (N:=some 23) (v:=?_) (a':=?_) Z29_ rfl rfl (a_q HT_.out (by kernel_rfl)) (fun _ _ _ h => h) (Or.inl ⟨by rfl,?_⟩) ?_ ?_
    rotate_left
    ·intro w'
     go_simp
     with_reducible rfl
    rotate_left
    ·simp only [Act.put,sa_,sb_,sc_,a_t,a_u]
     rfl
    refine a_z (i:=7) (N:=some 24) (v:=?_) (a':=?_) Z33_ rfl rfl (a_q HT_.out (by kernel_rfl)) (fun _ _ _ h => h) (Or.inl ⟨by rfl,?_⟩) ?_ ?_
    rotate_left
    ·intro w'
     go_simp
     with_reducible rfl
    rotate_left
    ·simp only [Act.put,sa_,sb_,sc_,a_t,a_u]
     rfl
    refine a_z (i:=9) (N:=some 26) (v:=?_) (a':=?_) Z36_ rfl rfl (a_q HT_.out (by kernel_rfl)) (fun _ _ _ h => h) (Or.inl ⟨by rfl,?_⟩) ?_ ?_
    rotate_left
    ·intro w'
     go_simp
     with_reducible rfl
    rotate_left
    ·simp only [Act.put,sa_,sb_,sc_,a_t,a_u]
     rfl
    refine a_z (i:=10) (N:=some 27) (v:=?_) (a':=?_) Z37_ rfl rfl (a_q HT_.out (by kernel_rfl)) (fun _ _ _ h => h) (Or.inl ⟨by rfl,?_⟩) ?_ ?_
    rotate_left
    ·intro w'
     go_simp
     with_reducible rfl
    rotate_left
    ·simp only [Act.put,sa_,sb_,sc_,a_t,a_u]
     rfl
    refine a_z (i:=14) (N:=some 31) (v:=?_) (a':=?_) Z38_ rfl rfl (a_q HT_.out (by kernel_rfl)) (fun _ _ _ h => h) (Or.inl ⟨by rfl,?_⟩) ?_ ?_
    rotate_left
    ·intro w'
     go_simp
     with_reducible rfl
    rotate_left
    ·simp only [Act.put,sa_,sb_,sc_,a_t,a_u]
     rfl
    refine b_l (i:=8) (N:=some 25) (v:=?_) (a':=?_) Z52_ rfl rfl (a_O HT_.out HW_.out (by kernel_rfl)) (fun _ _ _ h => h) (Or.inl ⟨by rfl,?_⟩) hHeld ?_ ?_
    rotate_left
    ·rintro w' ⟨s0,s1,s2,s3,s4,s5,s6,s7,s8,s9,s10,s11,s12,s13,s14,s15,s16,s17,s18,s19,s20,s21,s22,s23⟩
     go_simp
     with_reducible rfl
    rotate_left
    ·simp only [Act.put,sa_,sb_,sc_,a_t,a_u]
     rfl
    refine a_z (i:=11) (N:=some 28) (v:=?_) (a':=?_) Z57_ rfl rfl (a_q HT_.out (by kernel_rfl)) (fun _ _ _ h => h) (Or.inl ⟨by rfl,?_⟩) ?_ ?_
    rotate_left
    ·intro w'
     go_simp
     with_reducible rfl
    rotate_left
    ·simp only [Act.put,sa_,sb_,sc_,a_t,a_u]
     rfl
    refine a_z (i:=12) (N:=some 29) (v:=?_) (a':=?_) Z62_ rfl rfl (a_q HT_.out (by kernel_rfl)) (fun _ _ _ h => h) (Or.inl ⟨by rfl,?_⟩) ?_ ?_
    rotate_left
    ·intro w'
     go_simp
     with_reducible rfl
    rotate_left
    ·simp only [Act.put,sa_,sb_,sc_,a_t,a_u]
     rfl
    refine b_l (i:=13) (N:=some 30) (v:=?_) (a':=?_) Z67_ rfl rfl (a_O HT_.out HW_.out (by kernel_rfl)) (fun _ _ _ h => h) (Or.inl ⟨by rfl,?_⟩) hHeld ?_ ?_
    rotate_left
    ·rintro w' ⟨s0,s1,s2,s3,s4,s5,s6,s7,s8,s9,s10,s11,s12,s13,s14,s15,s16,s17,s18,s19,s20,s21,s22,s23⟩
     go_simp
     with_reducible rfl
    rotate_left
    ·simp only [Act.put,sa_,sb_,sc_,a_t,a_u]
     rfl
    refine b_l (i:=15) (N:=some 32) (v:=?_) (a':=?_) Z74_ rfl rfl (a_O HT_.out HW_.out (by kernel_rfl)) (fun _ _ _ h => h) (Or.inl ⟨by rfl,?_⟩) hHeld ?_ ?_
    rotate_left
    ·rintro w' ⟨s0,s1,s2,s3,s4,s5,s6,s7,s8,s9,s10,s11,s12,s13,s14,s15,s16,s17,s18,s19,s20,s21,s22,s23⟩
     go_simp
     with_reducible rfl
    rotate_left
    ·simp only [Act.put,sa_,sb_,sc_,a_t,a_u]
     rfl
    refine a_z (i:=16) (N:=some 33) (v:=?_) (a':=?_) Z78_ rfl rfl (a_q HT_.out (by kernel_rfl)) (fun _ _ _ h => h) (Or.inl ⟨by rfl,?_⟩) ?_ ?_
    rotate_left
    ·intro w'
     go_simp
     with_reducible rfl
    rotate_left
    ·simp only [Act.put,sa_,sb_,sc_,a_t,a_u]
     rfl
    refine a_z (i:=17) (N:=some 34) (v:=?_) (a':=?_) Z82_ rfl rfl (a_q HT_.out (by kernel_rfl)) (fun _ _ _ h => h) (Or.inl ⟨by rfl,?_⟩) ?_ ?_
    rotate_left
    ·intro w'
     go_simp
     with_reducible rfl
    rotate_left
    ·simp only [Act.put,sa_,sb_,sc_,a_t,a_u]
     rfl
    refine a_z (i:=18) (N:=some 35) (v:=?_) (a':=?_) Z87_ rfl rfl (a_q HT_.out (by kernel_rfl)) (fun _ _ _ h => h) (Or.inl ⟨by rfl,?_⟩) ?_ ?_
    rotate_left
    ·intro w'
     go_simp
     with_reducible rfl
    rotate_left
    ·simp only [Act.put,sa_,sb_,sc_,a_t,a_u]
     rfl
    refine a_z (i:=19) (N:=some 36) (v:=?_) (a':=?_) Z91_ rfl rfl (a_q HT_.out (by kernel_rfl)) (fun _ _ _ h => h) (Or.inl ⟨by rfl,?_⟩) ?_ ?_
    rotate_left
    ·intro w'
     go_simp
     with_reducible rfl
    rotate_left
    ·simp only [Act.put,sa_,sb_,sc_,a_t,a_u]
     rfl
    refine a_z (i:=20) (N:=some 37) (v:=undef) (a':=?_) Z95_ rfl rfl (a_q HT_.out (by kernel_rfl)) (fun _ _ _ h => h) (Or.inr ⟨by rfl,rfl⟩) ?_ ?_
    rotate_left
    ·simp only [Act.put,sa_,sb_,sc_,a_t,a_u]
     rfl
    refine a_z (i:=21) (N:=some 38) (v:=undef) (a':=?_) Z99_ rfl rfl (a_q HT_.out (by kernel_rfl)) (fun _ _ _ h => h) (Or.inr ⟨by rfl,rfl⟩) ?_ ?_
    rotate_left
    ·simp only [Act.put,sa_,sb_,sc_,a_t,a_u]
     rfl
    refine a_z (i:=22) (N:=some 39) (v:=undef) (a':=?_) u_G rfl rfl (a_q HT_.out (by kernel_rfl)) (fun _ _ _ h => h) (Or.inr ⟨by rfl,rfl⟩) ?_ ?_
    rotate_left
    ·simp only [Act.put,sa_,sb_,sc_,a_t,a_u]
     rfl
    refine a_z (i:=23) (N:=some 40) (v:=undef) (a':=?_) u_9 rfl rfl (a_q HT_.out (by kernel_rfl)) (fun _ _ _ h => h) (Or.inr ⟨by rfl,rfl⟩) ?_ ?_
    rotate_left
    ·simp only [Act.put,sa_,sb_,sc_,a_t,a_u]
     rfl
    refine a_z (i:=24) (N:=some 41) (v:=undef) (a':=?_) u_V rfl rfl (a_q HT_.out (by kernel_rfl)) (fun _ _ _ h => h) (Or.inr ⟨by rfl,rfl⟩) ?_ ?_
    rotate_left
    ·simp only [Act.put,sa_,sb_,sc_,a_t,a_u]
     rfl
    refine a_z (i:=25) (N:=some 42) (v:=undef) (a':=?_) k_C rfl rfl (a_q HT_.out (by kernel_rfl)) (fun _ _ _ h => h) (Or.inr ⟨by rfl,rfl⟩) ?_ ?_
    rotate_left
    ·simp only [Act.put,sa_,sb_,sc_,a_t,a_u]
     rfl
    refine a_z (i:=26) (N:=some 43) (v:=undef) (a':=?_) k_B rfl rfl (a_q HT_.out (by kernel_rfl)) (fun _ _ _ h => h) (Or.inr ⟨by rfl,rfl⟩) ?_ ?_
    rotate_left
    ·simp only [Act.put,sa_,sb_,sc_,a_t,a_u]
     rfl
    refine a_z (i:=27) (N:=some 44) (v:=?_) (a':=?_) k_I rfl rfl (a_q HT_.out (by kernel_rfl)) (fun _ _ _ h => h) (Or.inl ⟨by rfl,?_⟩) ?_ ?_
    rotate_left
    ·intro w'
     go_simp
     with_reducible rfl
    rotate_left
    ·simp only [Act.put,sa_,sb_,sc_,a_t,a_u]
     rfl
    refine a_z (i:=28) (N:=some 45) (v:=?_) (a':=?_) k_u rfl rfl (a_q HT_.out (by kernel_rfl)) (fun _ _ _ h => h) (Or.inl ⟨by rfl,?_⟩) ?_ ?_
    rotate_left
    ·intro w'
     go_simp
     with_reducible rfl
    rotate_left
    ·simp only [Act.put,sa_,sb_,sc_,a_t,a_u]
     rfl
    refine a_z (i:=29) (N:=some 46) (v:=undef) (a':=?_) k_L rfl rfl (a_q HT_.out (by kernel_rfl)) (fun _ _ _ h => h) (Or.inr ⟨by rfl,rfl⟩) ?_ ?_
    rotate_left
    ·simp only [Act.put,sa_,sb_,sc_,a_t,a_u]
     rfl
    refine a_z (i:=30) (N:=some 47) (v:=undef) (a':=?_) q_3 rfl rfl (a_q HT_.out (by kernel_rfl)) (fun _ _ _ h => h) (Or.inr ⟨by rfl,rfl⟩) ?_ ?_
    rotate_left
    ·simp only [Act.put,sa_,sb_,sc_,a_t,a_u]
     rfl
    refine a_z (i:=31) (N:=some 48) (v:=undef) (a':=?_) q_7 rfl rfl (a_q HT_.out (by kernel_rfl)) (fun _ _ _ h => h) (Or.inr ⟨by rfl,rfl⟩) ?_ ?_
    rotate_left
    ·simp only [Act.put,sa_,sb_,sc_,a_t,a_u]
     rfl
    refine a_z (i:=32) (N:=some 49) (v:=undef) (a':=?_) q_R rfl rfl (a_q HT_.out (by kernel_rfl)) (fun _ _ _ h => h) (Or.inr ⟨by rfl,rfl⟩) ?_ ?_
    rotate_left
    ·simp only [Act.put,sa_,sb_,sc_,a_t,a_u]
     rfl
    refine a_z (i:=33) (N:=some 50) (v:=undef) (a':=?_) r_b rfl rfl (a_q HT_.out (by kernel_rfl)) (fun _ _ _ h => h) (Or.inr ⟨by rfl,rfl⟩) ?_ ?_
    rotate_left
    ·simp only [Act.put,sa_,sb_,sc_,a_t,a_u]
     rfl
    refine a_z (i:=34) (N:=some 51) (v:=undef) (a':=?_) k_m rfl rfl (a_q HT_.out (by kernel_rfl)) (fun _ _ _ h => h) (Or.inr ⟨by rfl,rfl⟩) ?_ ?_
    rotate_left
    ·simp only [Act.put,sa_,sb_,sc_,a_t,a_u]
     rfl
    refine a_z (i:=35) (N:=some 52) (v:=undef) (a':=?_) k_K rfl rfl (a_q HT_.out (by kernel_rfl)) (fun _ _ _ h => h) (Or.inr ⟨by rfl,rfl⟩) ?_ ?_
    rotate_left
    ·simp only [Act.put,sa_,sb_,sc_,a_t,a_u]
     rfl
    refine a_z (i:=36) (N:=some 53) (v:=?_) (a':=?_) k_y rfl rfl (a_q HT_.out (by kernel_rfl)) (fun _ _ _ h => h) (Or.inl ⟨by rfl,?_⟩) ?_ ?_
    rotate_left
    ·intro w'
     go_simp
     with_reducible rfl
    rotate_left
    ·simp only [Act.put,sa_,sb_,sc_,a_t,a_u]
     rfl
    refine e_j (c_q HT_.out (by kernel_rfl)) ?_
    try go_wp2
    go_ret
    exact ⟨by first|rfl|(simp [a_w,a_x] <;> rfl)|(simp only [← hji10];first|rfl|(simp [a_w,a_x] <;> rfl))|(simp [*, a_w,a_x] <;> rfl),by repeat (first|(with_reducible first|exact HB.out|apply a_g|apply a_e|apply a_h|refine a_f ?_ d_E.out|refine a_f ?_ d_3.out|refine a_f ?_ e_m.out)|exact HB.out)⟩
   rw [if_neg c13] at H
   have c13b0 : decide (((a_c l0_1 x10_1).f0) ≤ ((a_c l0_1 (ji10)).f0)) = false:=decide_eq_false c13
   clear c13
   replace H:=Option.bind_eq_some_iff.mp H
   obtain ⟨t117,A240,H⟩:=H
   replace H : (if t117 = ((a_c l0_1 x10_1).f9) then ((b_g.f l0_1 ((a_c l0_1 x10_1).f0) ((a_c l0_1 x10_1).f1) ((a_c l0_1 x10_1).f2) ((a_c l0_1 x10_1).f3) ((a_c l0_1 x10_1).f4) ((a_c l0_1 x10_1).f5) ((a_c l0_1 x10_1).f6) ((a_c l0_1 x10_1).f7) ((a_c l0_1 x10_1).f8) ((a_c l0_1 x10_1).f9) ((a_c l0_1 x10_1).f10) ((a_c l0_1 x10_1).f0) ((a_c l0_1 x10_1).f1) ((a_c l0_1 x10_1).f2) ((a_c l0_1 x10_1).f3) ((a_c l0_1 x10_1).f4) ((a_c l0_1 x10_1).f5) ((a_c l0_1 x10_1).f6) ((a_c l0_1 x10_1).f7) ((a_c l0_1 x10_1).f8) ((a_c l0_1 x10_1).f9) ((a_c l0_1 x10_1).f10)).bind fun t118 => (if t118 = ((a_c l0_1 x10_1).f9) then (a_H.l0 k1 l0_1 (l0_1.length : Int) (wrap64 (x10_1 + 1)) a0_0 l0_1) else (some false))) else (some false)) = some r:=H
   have A24:=a_d.mk A240
   clear A240
   by_cases c25 : t117 = ((a_c l0_1 x10_1).f9)
   rotate_left
   ·rw [if_neg c25] at H
    have c25b0 : (t117 == ((a_c l0_1 x10_1).f9)) = false:=beq_eq_false_iff_ne.mpr c25
    have c25b1 : (t117 != ((a_c l0_1 x10_1).f9)) = true:=bne_iff_ne.mpr c25
    obtain rfl:=Option.some.inj H
    have p116 : 0 ≤ ((ji10) : Int):=of_decide_eq_true (by first|(with_reducible assumption)|assumption)
    have q116 : (ji10) < (l0_1.length : Int):=of_decide_eq_true (by first|(with_reducible assumption)|assumption)
    obtain ⟨ad116,e116,c_K,c_L,c_M,c_N,c_O,c_P,c_Q,c_R,c_S,c_T,c_b⟩:=d_g d_i.out (ji10) p116 q116
    have b_X:=c_b
    have c_c:=c_T
    have c_d:=c_S
    have c_e:=c_R
    have c_f:=c_Q
    have c_g:=c_P
    have c_h:=c_O
    have c_i:=c_N
    have c_j:=c_M
    have c_k:=c_L
    have c_l:=c_K
    obtain rfl : ad112 = ad116:=(by injection e116)
    replace c_K:=(HB.out.cell (World.block_lt_of_cell? w _ c_K)).trans c_K
    replace c_L:=(HB.out.cell (World.block_lt_of_cell? w _ c_L)).trans c_L
    replace c_M:=(HB.out.cell (World.block_lt_of_cell? w _ c_M)).trans c_M
    replace c_N:=(HB.out.cell (World.block_lt_of_cell? w _ c_N)).trans c_N
    replace c_O:=(HB.out.cell (World.block_lt_of_cell? w _ c_O)).trans c_O
    replace c_P:=(HB.out.cell (World.block_lt_of_cell? w _ c_P)).trans c_P
    replace c_Q:=(HB.out.cell (World.block_lt_of_cell? w _ c_Q)).trans c_Q
    replace c_R:=(HB.out.cell (World.block_lt_of_cell? w _ c_R)).trans c_R
    replace c_S:=(HB.out.cell (World.block_lt_of_cell? w _ c_S)).trans c_S
    replace c_T:=(HB.out.cell (World.block_lt_of_cell? w _ c_T)).trans c_T
    replace c_b:=(HB.out.cell (World.block_lt_of_cell? w _ c_b)).trans c_b
    replace p116:=eq_true p116
    replace q116:=eq_true q116
    refine c_9 (n:=37) (S:=fun w' => w'.cell? ⟨a_9,0,none⟩ = some (.int .i64 ((a_c l0_1 x10_1).f0)) ∧ w'.cell? ⟨a_9,1,none⟩ = some (.int .i64 ((a_c l0_1 x10_1).f1)) ∧ w'.cell? ⟨a_9,2,none⟩ = some (.int .i64 ((a_c l0_1 x10_1).f2)) ∧ w'.cell? ⟨a_9,3,none⟩ = some (.int .i64 ((a_c l0_1 x10_1).f3)) ∧ w'.cell? ⟨a_9,4,none⟩ = some (.int .i64 ((a_c l0_1 x10_1).f4)) ∧ w'.cell? ⟨a_9,5,none⟩ = some (.bool ((a_c l0_1 x10_1).f5)) ∧ w'.cell? ⟨a_9,6,none⟩ = some (.bool ((a_c l0_1 x10_1).f6)) ∧ w'.cell? ⟨a_9,7,none⟩ = some (.int .u32 ((a_c l0_1 x10_1).f7)) ∧ w'.cell? ⟨a_9,8,none⟩ = some (.int .i64 ((a_c l0_1 x10_1).f8)) ∧ w'.cell? ⟨a_9,9,none⟩ = some (.int .i64 ((a_c l0_1 x10_1).f9)) ∧ w'.cell? ⟨a_9,10,none⟩ = some (.int .i64 ((a_c l0_1 x10_1).f10)) ∧ w'.cell? ⟨d_Z,0,none⟩ = some (.int .i64 a0_0) ∧ w'.cell? ⟨d_Z,1,none⟩ = some (.slice (some ad112) l0_1.length c0_1) ∧ w'.cell? ⟨e_l,0,none⟩ = some (.func (.func 51) #[] #[.pointer (some ⟨a_9,0,none⟩)]) ∧ w'.cell? (ad112.add (((ji10)).toNat * 11)) = some (.int .i64 ((a_c l0_1 (ji10)).f0)) ∧ w'.cell? ⟨(ad112.add (((ji10)).toNat * 11)).block,(ad112.add (((ji10)).toNat * 11)).off + 1,none⟩ = some (.int .i64 ((a_c l0_1 (ji10)).f1)) ∧ w'.cell? ⟨(ad112.add (((ji10)).toNat * 11)).block,(ad112.add (((ji10)).toNat * 11)).off + 2,none⟩ = some (.int .i64 ((a_c l0_1 (ji10)).f2)) ∧ w'.cell? ⟨(ad112.add (((ji10)).toNat * 11)).block,(ad112.add (((ji10)).toNat * 11)).off + 3,none⟩ = some (.int .i64 ((a_c l0_1 (ji10)).f3)) ∧ w'.cell? ⟨(ad112.add (((ji10)).toNat * 11)).block,(ad112.add (((ji10)).toNat * 11)).off + 4,none⟩ = some (.int .i64 ((a_c l0_1 (ji10)).f4)) ∧ w'.cell? ⟨(ad112.add (((ji10)).toNat * 11)).block,(ad112.add (((ji10)).toNat * 11)).off + 5,none⟩ = some (.bool ((a_c l0_1 (ji10)).f5)) ∧ w'.cell? ⟨(ad112.add (((ji10)).toNat * 11)).block,(ad112.add (((ji10)).toNat * 11)).off + 6,none⟩ = some (.bool ((a_c l0_1 (ji10)).f6)) ∧ w'.cell? ⟨(ad112.add (((ji10)).toNat * 11)).block,(ad112.add (((ji10)).toNat * 11)).off + 7,none⟩ = some (.int .u32 ((a_c l0_1 (ji10)).f7)) ∧ w'.cell? ⟨(ad112.add (((ji10)).toNat * 11)).block,(ad112.add (((ji10)).toNat * 11)).off + 8,none⟩ = some (.int .i64 ((a_c l0_1 (ji10)).f8)) ∧ w'.cell? ⟨(ad112.add (((ji10)).toNat * 11)).block,(ad112.add (((ji10)).toNat * 11)).off + 9,none⟩ = some (.int .i64 ((a_c l0_1 (ji10)).f9)) ∧ w'.cell? ⟨(ad112.add (((ji10)).toNat * 11)).block,(ad112.add (((ji10)).toNat * 11)).off + 10,none⟩ = some (.int .i64 ((a_c l0_1 (ji10)).f10))) (ds:=[]) Z1_ (by kernel_rfl) rfl rfl ⟨(a_a a_F.out 0).trans rfl,(a_a a_F.out 1).trans rfl,(a_a a_F.out 2).trans rfl,(a_a a_F.out 3).trans rfl,(a_a a_F.out 4).trans rfl,(a_a a_F.out 5).trans rfl,(a_a a_F.out 6).trans rfl,(a_a a_F.out 7).trans rfl,(a_a a_F.out 8).trans rfl,(a_a a_F.out 9).trans rfl,(a_a a_F.out 10).trans rfl,(a_a b_j.out 0).trans rfl,(a_a b_j.out 1).trans rfl,(a_a b_V.out 0).trans rfl,((HB.out.cell (World.block_lt_of_cell? w _ c_l)).trans c_l),((HB.out.cell (World.block_lt_of_cell? w _ c_k)).trans c_k),((HB.out.cell (World.block_lt_of_cell? w _ c_j)).trans c_j),((HB.out.cell (World.block_lt_of_cell? w _ c_i)).trans c_i),((HB.out.cell (World.block_lt_of_cell? w _ c_h)).trans c_h),((HB.out.cell (World.block_lt_of_cell? w _ c_g)).trans c_g),((HB.out.cell (World.block_lt_of_cell? w _ c_f)).trans c_f),((HB.out.cell (World.block_lt_of_cell? w _ c_e)).trans c_e),((HB.out.cell (World.block_lt_of_cell? w _ c_d)).trans c_d),((HB.out.cell (World.block_lt_of_cell? w _ c_c)).trans c_c),((HB.out.cell (World.block_lt_of_cell? w _ b_X)).trans b_X)⟩ (fun hHeld => ?_);refine b_P a_H.tab6 a_H.e_I (fun HT_ HW_ => ?_)
    generalize w21.drew = w60 at b_j a_F b_V HB c_K c_L c_b c_M c_N c_O c_P c_Q c_R c_S c_T hHeld ⊢
    refine b_l (i:=0) (N:=some 17) (v:=?_) (a':=?_) Z5_ rfl rfl (a_O HT_.out HW_.out (by kernel_rfl)) (fun _ _ _ h => h) (Or.inl ⟨by rfl,?_⟩) hHeld ?_ ?_
    rotate_left
    ·rintro w' ⟨s0,s1,s2,s3,s4,s5,s6,s7,s8,s9,s10,s11,s12,s13,s14,s15,s16,s17,s18,s19,s20,s21,s22,s23,s24⟩
     go_simp
     with_reducible rfl
    rotate_left
    ·simp only [Act.put,sa_,sb_,sc_,a_t,a_u]
     rfl
    refine one_ (i:=1) (N:=some 18) Z9_ rfl rfl (b_7 HT_.out (by kernel_rfl)) (by decide) (fun K hK => ?_)
    refine d_O Try.func53 (by kernel_rfl) rfl #[.agg #[.int .i64 ((a_c l0_1 x10_1).f0),.int .i64 ((a_c l0_1 x10_1).f1),.int .i64 ((a_c l0_1 x10_1).f2),.int .i64 ((a_c l0_1 x10_1).f3),.int .i64 ((a_c l0_1 x10_1).f4),.bool ((a_c l0_1 x10_1).f5),.bool ((a_c l0_1 x10_1).f6),.int .u32 ((a_c l0_1 x10_1).f7),.int .i64 ((a_c l0_1 x10_1).f8),.int .i64 ((a_c l0_1 x10_1).f9),.int .i64 ((a_c l0_1 x10_1).f10)]] (by rfl) rfl rfl (by (try simp only [List.map_toArray,List.map_cons,List.map_nil]);first|done|rfl|(simp only [List.length_drop,List.length_take];rfl)) ?_
    with_reducible refine (a_X.calls k1 ((a_c l0_1 x10_1).f0) ((a_c l0_1 x10_1).f1) ((a_c l0_1 x10_1).f2) ((a_c l0_1 x10_1).f3) ((a_c l0_1 x10_1).f4) ((a_c l0_1 x10_1).f5) ((a_c l0_1 x10_1).f6) ((a_c l0_1 x10_1).f7) ((a_c l0_1 x10_1).f8) ((a_c l0_1 x10_1).f9) ((a_c l0_1 x10_1).f10) true _ A7.out).mono ?_
    rintro e w61 ⟨rfl,hb⟩
    refine ⟨_,rfl,?_⟩
    replace b_j:=a_d.mk (a_i (bup_ b_j.out) hb)
    replace a_F:=a_d.mk (a_i (bup_ a_F.out) hb)
    replace b_V:=a_d.mk (a_i (bup_ b_V.out) hb)
    replace HB:=a_d.mk (a_o (by repeat (first|(with_reducible first|exact HB.out|apply a_g|apply a_e|apply a_h|refine a_f ?_ d_E.out|refine a_f ?_ d_3.out|refine a_f ?_ e_m.out)|exact HB.out)) hb)
    (try clear hb)
    (try clear hb2)
    (try clear hk)
    (try clear hi)
    refine hK.out _ _ ⟨(a_a a_F.out 0).trans rfl,(a_a a_F.out 1).trans rfl,(a_a a_F.out 2).trans rfl,(a_a a_F.out 3).trans rfl,(a_a a_F.out 4).trans rfl,(a_a a_F.out 5).trans rfl,(a_a a_F.out 6).trans rfl,(a_a a_F.out 7).trans rfl,(a_a a_F.out 8).trans rfl,(a_a a_F.out 9).trans rfl,(a_a a_F.out 10).trans rfl,(a_a b_j.out 0).trans rfl,(a_a b_j.out 1).trans rfl,(a_a b_V.out 0).trans rfl,((HB.out.cell (World.block_lt_of_cell? w _ c_l)).trans c_l),((HB.out.cell (World.block_lt_of_cell? w _ c_k)).trans c_k),((HB.out.cell (World.block_lt_of_cell? w _ c_j)).trans c_j),((HB.out.cell (World.block_lt_of_cell? w _ c_i)).trans c_i),((HB.out.cell (World.block_lt_of_cell? w _ c_h)).trans c_h),((HB.out.cell (World.block_lt_of_cell? w _ c_g)).trans c_g),((HB.out.cell (World.block_lt_of_cell? w _ c_f)).trans c_f),((HB.out.cell (World.block_lt_of_cell? w _ c_e)).trans c_e),((HB.out.cell (World.block_lt_of_cell? w _ c_d)).trans c_d),((HB.out.cell (World.block_lt_of_cell? w _ c_c)).trans c_c),((HB.out.cell (World.block_lt_of_cell? w _ b_X)).trans b_X)⟩ (fun hHeld => ?_)
    clear hK K
    refine d_A (a':=?_) ?_ ?_
    rotate_left
    ·show Act.put _ (some 18) _ = _
     simp only [Act.put,sa_,sb_,sc_,a_t,a_u]
     rfl
    refine a_z (i:=2) (N:=some 19) (v:=?_) (a':=?_) Z13_ rfl rfl (a_q HT_.out (by kernel_rfl)) (fun _ _ _ h => h) (Or.inl ⟨by rfl,?_⟩) ?_ ?_
    rotate_left
    ·intro w'
     go_simp
     with_reducible rfl
    rotate_left
    ·simp only [Act.put,sa_,sb_,sc_,a_t,a_u]
     rfl
    refine a_z (i:=3) (N:=some 20) (v:=?_) (a':=?_) Z17_ rfl rfl (a_q HT_.out (by kernel_rfl)) (fun _ _ _ h => h) (Or.inl ⟨by rfl,?_⟩) ?_ ?_
    rotate_left
    ·intro w'
     go_simp
     with_reducible rfl
    rotate_left
    ·simp only [Act.put,sa_,sb_,sc_,a_t,a_u]
     rfl
    refine a_z (i:=4) (N:=some 21) (v:=?_) (a':=?_) Z21_ rfl rfl (a_q HT_.out (by kernel_rfl)) (fun _ _ _ h => h) (Or.inl ⟨by rfl,?_⟩) ?_ ?_
    rotate_left
    ·intro w'
     go_simp
     with_reducible rfl
    rotate_left
    ·simp only [Act.put,sa_,sb_,sc_,a_t,a_u]
     rfl
    refine a_z (i:=5) (N:=some 22) (v:=?_) (a':=?_) Z26_ rfl rfl (a_q HT_.out (by kernel_rfl)) (fun _ _ _ h => h) (Or.inl ⟨by rfl,?_⟩) ?_ ?_
    rotate_left
    ·intro w'
     go_simp
     with_reducible rfl
    rotate_left
    ·simp only [Act.put,sa_,sb_,sc_,a_t,a_u]
     rfl
    refine a_z (i:=6) (N:=some 23) (v:=?_) (a':=?_) Z29_ rfl rfl (a_q HT_.out (by kernel_rfl)) (fun _ _ _ h => h) (Or.inl ⟨by rfl,?_⟩) ?_ ?_
    rotate_left
    ·intro w'
     go_simp
     with_reducible rfl
    rotate_left
    ·simp only [Act.put,sa_,sb_,sc_,a_t,a_u]
     rfl
    refine a_z (i:=7) (N:=some 24) (v:=?_) (a':=?_) Z33_ rfl rfl (a_q HT_.out (by kernel_rfl)) (fun _ _ _ h => h) (Or.inl ⟨by rfl,?_⟩) ?_ ?_
    rotate_left
    ·intro w'
     go_simp
     with_reducible rfl
    rotate_left
    ·simp only [Act.put,sa_,sb_,sc_,a_t,a_u]
     rfl
    refine a_z (i:=9) (N:=some 26) (v:=?_) (a':=?_) Z36_ rfl rfl (a_q HT_.out (by kernel_rfl)) (fun _ _ _ h => h) (Or.inl ⟨by rfl,?_⟩) ?_ ?_
    rotate_left
    ·intro w'
     go_simp
     with_reducible rfl
    rotate_left
    ·simp only [Act.put,sa_,sb_,sc_,a_t,a_u]
     rfl
    refine a_z (i:=10) (N:=some 27) (v:=?_) (a':=?_) Z37_ rfl rfl (a_q HT_.out (by kernel_rfl)) (fun _ _ _ h => h) (Or.inl ⟨by rfl,?_⟩) ?_ ?_
    rotate_left
    ·intro w'
     go_simp
     with_reducible rfl
    rotate_left
    ·simp only [Act.put,sa_,sb_,sc_,a_t,a_u]
     rfl
    refine a_z (i:=14) (N:=some 31) (v:=?_) (a':=?_) Z38_ rfl rfl (a_q HT_.out (by kernel_rfl)) (fun _ _ _ h => h) (Or.inl ⟨by rfl,?_⟩) ?_ ?_
    rotate_left
    ·intro w'
     go_simp
     with_reducible rfl
    rotate_left
    ·simp only [Act.put,sa_,sb_,sc_,a_t,a_u]
     rfl
    refine b_l (i:=8) (N:=some 25) (v:=?_) (a':=?_) Z52_ rfl rfl (a_O HT_.out HW_.out (by kernel_rfl)) (fun _ _ _ h => h) (Or.inl ⟨by rfl,?_⟩) hHeld ?_ ?_
    rotate_left
    ·rintro w' ⟨s0,s1,s2,s3,s4,s5,s6,s7,s8,s9,s10,s11,s12,s13,s14,s15,s16,s17,s18,s19,s20,s21,s22,s23,s24⟩
     go_simp
     with_reducible rfl
    rotate_left
    ·simp only [Act.put,sa_,sb_,sc_,a_t,a_u]
     rfl
    refine a_z (i:=11) (N:=some 28) (v:=?_) (a':=?_) Z57_ rfl rfl (a_q HT_.out (by kernel_rfl)) (fun _ _ _ h => h) (Or.inl ⟨by rfl,?_⟩) ?_ ?_
    rotate_left
    ·intro w'
     go_simp
     with_reducible rfl
    rotate_left
    ·simp only [Act.put,sa_,sb_,sc_,a_t,a_u]
     rfl
    refine a_z (i:=12) (N:=some 29) (v:=?_) (a':=?_) Z62_ rfl rfl (a_q HT_.out (by kernel_rfl)) (fun _ _ _ h => h) (Or.inl ⟨by rfl,?_⟩) ?_ ?_
    rotate_left
    ·intro w'
     go_simp
     with_reducible rfl
    rotate_left
    ·simp only [Act.put,sa_,sb_,sc_,a_t,a_u]
     rfl
    refine b_l (i:=13) (N:=some 30) (v:=?_) (a':=?_) Z67_ rfl rfl (a_O HT_.out HW_.out (by kernel_rfl)) (fun _ _ _ h => h) (Or.inl ⟨by rfl,?_⟩) hHeld ?_ ?_
    rotate_left
    ·rintro w' ⟨s0,s1,s2,s3,s4,s5,s6,s7,s8,s9,s10,s11,s12,s13,s14,s15,s16,s17,s18,s19,s20,s21,s22,s23,s24⟩
     go_simp
     with_reducible rfl
    rotate_left
    ·simp only [Act.put,sa_,sb_,sc_,a_t,a_u]
     rfl
    refine b_l (i:=15) (N:=some 32) (v:=?_) (a':=?_) Z74_ rfl rfl (a_O HT_.out HW_.out (by kernel_rfl)) (fun _ _ _ h => h) (Or.inl ⟨by rfl,?_⟩) hHeld ?_ ?_
    rotate_left
    ·rintro w' ⟨s0,s1,s2,s3,s4,s5,s6,s7,s8,s9,s10,s11,s12,s13,s14,s15,s16,s17,s18,s19,s20,s21,s22,s23,s24⟩
     go_simp
     with_reducible rfl
    rotate_left
    ·simp only [Act.put,sa_,sb_,sc_,a_t,a_u]
     rfl
    refine a_z (i:=16) (N:=some 33) (v:=?_) (a':=?_) Z78_ rfl rfl (a_q HT_.out (by kernel_rfl)) (fun _ _ _ h => h) (Or.inl ⟨by rfl,?_⟩) ?_ ?_
    rotate_left
    ·intro w'
     go_simp
     with_reducible rfl
    rotate_left
    ·simp only [Act.put,sa_,sb_,sc_,a_t,a_u]
     rfl
    refine a_z (i:=17) (N:=some 34) (v:=?_) (a':=?_) Z82_ rfl rfl (a_q HT_.out (by kernel_rfl)) (fun _ _ _ h => h) (Or.inl ⟨by rfl,?_⟩) ?_ ?_
    rotate_left
    ·intro w'
     go_simp
     with_reducible rfl
    rotate_left
    ·simp only [Act.put,sa_,sb_,sc_,a_t,a_u]
     rfl
    refine a_z (i:=18) (N:=some 35) (v:=?_) (a':=?_) Z87_ rfl rfl (a_q HT_.out (by kernel_rfl)) (fun _ _ _ h => h) (Or.inl ⟨by rfl,?_⟩) ?_ ?_
    rotate_left
    ·intro w'
     go_simp
     with_reducible rfl
    rotate_left
    ·simp only [Act.put,sa_,sb_,sc_,a_t,a_u]
     rfl
    refine a_z (i:=19) (N:=some 36) (v:=?_) (a':=?_) Z91_ rfl rfl (a_q HT_.out (by kernel_rfl)) (fun _ _ _ h => h) (Or.inl ⟨by rfl,?_⟩) ?_ ?_
    rotate_left
    ·intro w'
     go_simp
     with_reducible rfl
    rotate_left
    ·simp only [Act.put,sa_,sb_,sc_,a_t,a_u]
     rfl
    refine a_z (i:=20) (N:=some 37) (v:=?_) (a':=?_) Z95_ rfl rfl (a_q HT_.out (by kernel_rfl)) (fun _ _ _ h => h) (Or.inl ⟨by rfl,?_⟩) ?_ ?_
    rotate_left
    ·intro w'
     go_simp
     with_reducible rfl
    rotate_left
    ·simp only [Act.put,sa_,sb_,sc_,a_t,a_u]
     rfl
    refine a_z (i:=24) (N:=some 41) (v:=?_) (a':=?_) Z97_ rfl rfl (a_q HT_.out (by kernel_rfl)) (fun _ _ _ h => h) (Or.inl ⟨by rfl,?_⟩) ?_ ?_
    rotate_left
    ·intro w'
     go_simp
     with_reducible rfl
    rotate_left
    ·simp only [Act.put,sa_,sb_,sc_,a_t,a_u]
     rfl
    refine b_l (i:=21) (N:=some 38) (v:=?_) (a':=?_) n_C rfl rfl (a_O HT_.out HW_.out (by kernel_rfl)) (fun _ _ _ h => h) (Or.inl ⟨by rfl,?_⟩) hHeld ?_ ?_
    rotate_left
    ·rintro w' ⟨s0,s1,s2,s3,s4,s5,s6,s7,s8,s9,s10,s11,s12,s13,s14,s15,s16,s17,s18,s19,s20,s21,s22,s23,s24⟩
     go_simp
     with_reducible rfl
    rotate_left
    ·simp only [Act.put,sa_,sb_,sc_,a_t,a_u]
     rfl
    refine b_l (i:=22) (N:=some 39) (v:=?_) (a':=?_) n_L rfl rfl (a_O HT_.out HW_.out (by kernel_rfl)) (fun _ _ _ h => h) (Or.inl ⟨by rfl,?_⟩) hHeld ?_ ?_
    rotate_left
    ·rintro w' ⟨s0,s1,s2,s3,s4,s5,s6,s7,s8,s9,s10,s11,s12,s13,s14,s15,s16,s17,s18,s19,s20,s21,s22,s23,s24⟩
     go_simp
     with_reducible rfl
    rotate_left
    ·simp only [Act.put,sa_,sb_,sc_,a_t,a_u]
     rfl
    refine b_l (i:=25) (N:=some 42) (v:=?_) (a':=?_) n_J rfl rfl (a_O HT_.out HW_.out (by kernel_rfl)) (fun _ _ _ h => h) (Or.inl ⟨by rfl,?_⟩) hHeld ?_ ?_
    rotate_left
    ·rintro w' ⟨s0,s1,s2,s3,s4,s5,s6,s7,s8,s9,s10,s11,s12,s13,s14,s15,s16,s17,s18,s19,s20,s21,s22,s23,s24⟩
     go_simp
     with_reducible rfl
    rotate_left
    ·simp only [Act.put,sa_,sb_,sc_,a_t,a_u]
     rfl
    refine one_ (i:=23) (N:=some 40) k_C rfl rfl (b_7 HT_.out (by kernel_rfl)) (by decide) (fun K hK => ?_)
    refine d_O Try.func38 (by kernel_rfl) rfl #[.slice (some ad112) l0_1.length c0_1,.func (.func 51) #[] #[.pointer (some ⟨a_9,0,none⟩)]] (by rfl) rfl rfl (by (try simp only [List.map_toArray,List.map_cons,List.map_nil]);first|done|rfl|(simp only [List.length_drop,List.length_take];rfl)) ?_
    with_reducible refine (b_i.calls _ _ l0_1 a_9 ((a_c l0_1 x10_1).f0) ((a_c l0_1 x10_1).f1) ((a_c l0_1 x10_1).f2) ((a_c l0_1 x10_1).f3) ((a_c l0_1 x10_1).f4) ((a_c l0_1 x10_1).f5) ((a_c l0_1 x10_1).f6) ((a_c l0_1 x10_1).f7) ((a_c l0_1 x10_1).f8) ((a_c l0_1 x10_1).f9) ((a_c l0_1 x10_1).f10) t117 _ ?side1 ?side2 ?side3 A24.out).mono ?_
    (case side1 => repeat (first|exact (Kd.a_U d_i.out HB.out)|(with_reducible refine Kd.a_V ?_ _)|(with_reducible refine Kd.a_W ?_ _)|(with_reducible refine Kd.a_5 ?_)))
    (case side2 => exact f_j.out)
    (case side3 => exact (bup_ a_F.out))
    rintro e w62 ⟨rfl,hb⟩
    refine ⟨_,rfl,?_⟩
    replace b_j:=a_d.mk (a_i (bup_ b_j.out) hb)
    replace a_F:=a_d.mk (a_i (bup_ a_F.out) hb)
    replace b_V:=a_d.mk (a_i (bup_ b_V.out) hb)
    replace HB:=a_d.mk (a_o (by repeat (first|(with_reducible first|exact HB.out|apply a_g|apply a_e|apply a_h|refine a_f ?_ d_E.out|refine a_f ?_ d_3.out|refine a_f ?_ e_m.out)|exact HB.out)) hb)
    (try clear hb)
    (try clear hb2)
    (try clear hk)
    (try clear hi)
    refine hK.out _ _ ⟨(a_a a_F.out 0).trans rfl,(a_a a_F.out 1).trans rfl,(a_a a_F.out 2).trans rfl,(a_a a_F.out 3).trans rfl,(a_a a_F.out 4).trans rfl,(a_a a_F.out 5).trans rfl,(a_a a_F.out 6).trans rfl,(a_a a_F.out 7).trans rfl,(a_a a_F.out 8).trans rfl,(a_a a_F.out 9).trans rfl,(a_a a_F.out 10).trans rfl,(a_a b_j.out 0).trans rfl,(a_a b_j.out 1).trans rfl,(a_a b_V.out 0).trans rfl,((HB.out.cell (World.block_lt_of_cell? w _ c_l)).trans c_l),((HB.out.cell (World.block_lt_of_cell? w _ c_k)).trans c_k),((HB.out.cell (World.block_lt_of_cell? w _ c_j)).trans c_j),((HB.out.cell (World.block_lt_of_cell? w _ c_i)).trans c_i),((HB.out.cell (World.block_lt_of_cell? w _ c_h)).trans c_h),((HB.out.cell (World.block_lt_of_cell? w _ c_g)).trans c_g),((HB.out.cell (World.block_lt_of_cell? w _ c_f)).trans c_f),((HB.out.cell (World.block_lt_of_cell? w _ c_e)).trans c_e),((HB.out.cell (World.block_lt_of_cell? w _ c_d)).trans c_d),((HB.out.cell (World.block_lt_of_cell? w _ c_c)).trans c_c),((HB.out.cell (World.block_lt_of_cell? w _ b_X)).trans b_X)⟩ (fun hHeld => ?_)
    clear hK K
    refine d_A (a':=?_) ?_ ?_
    rotate_left
    ·show Act.put _ (some 40) _ = _
     simp only [Act.put,sa_,sb_,sc_,a_t,a_u]
     rfl
    refine a_z (i:=26) (N:=some 43) (v:=?_) (a':=?_) k_B rfl rfl (a_q HT_.out (by kernel_rfl)) (fun _ _ _ h => h) (Or.inl ⟨by rfl,?_⟩) ?_ ?_
    rotate_left
    ·intro w'
     go_simp
     with_reducible rfl
    rotate_left
    ·simp only [Act.put,sa_,sb_,sc_,a_t,a_u]
     rfl
    refine a_z (i:=27) (N:=some 44) (v:=?_) (a':=?_) k_I rfl rfl (a_q HT_.out (by kernel_rfl)) (fun _ _ _ h => h) (Or.inl ⟨by rfl,?_⟩) ?_ ?_
    rotate_left
    ·intro w'
     go_simp
     with_reducible rfl
    rotate_left
    ·simp only [Act.put,sa_,sb_,sc_,a_t,a_u]
     rfl
    refine a_z (i:=28) (N:=some 45) (v:=?_) (a':=?_) k_u rfl rfl (a_q HT_.out (by kernel_rfl)) (fun _ _ _ h => h) (Or.inl ⟨by rfl,?_⟩) ?_ ?_
    rotate_left
    ·intro w'
     go_simp
     with_reducible rfl
    rotate_left
    ·simp only [Act.put,sa_,sb_,sc_,a_t,a_u]
     rfl
    refine a_z (i:=29) (N:=some 46) (v:=undef) (a':=?_) k_L rfl rfl (a_q HT_.out (by kernel_rfl)) (fun _ _ _ h => h) (Or.inr ⟨by rfl,rfl⟩) ?_ ?_
    rotate_left
    ·simp only [Act.put,sa_,sb_,sc_,a_t,a_u]
     rfl
    refine a_z (i:=30) (N:=some 47) (v:=undef) (a':=?_) q_3 rfl rfl (a_q HT_.out (by kernel_rfl)) (fun _ _ _ h => h) (Or.inr ⟨by rfl,rfl⟩) ?_ ?_
    rotate_left
    ·simp only [Act.put,sa_,sb_,sc_,a_t,a_u]
     rfl
    refine a_z (i:=31) (N:=some 48) (v:=undef) (a':=?_) q_7 rfl rfl (a_q HT_.out (by kernel_rfl)) (fun _ _ _ h => h) (Or.inr ⟨by rfl,rfl⟩) ?_ ?_
    rotate_left
    ·simp only [Act.put,sa_,sb_,sc_,a_t,a_u]
     rfl
    refine a_z (i:=32) (N:=some 49) (v:=undef) (a':=?_) q_R rfl rfl (a_q HT_.out (by kernel_rfl)) (fun _ _ _ h => h) (Or.inr ⟨by rfl,rfl⟩) ?_ ?_
    rotate_left
    ·simp only [Act.put,sa_,sb_,sc_,a_t,a_u]
     rfl
    refine a_z (i:=33) (N:=some 50) (v:=undef) (a':=?_) r_b rfl rfl (a_q HT_.out (by kernel_rfl)) (fun _ _ _ h => h) (Or.inr ⟨by rfl,rfl⟩) ?_ ?_
    rotate_left
    ·simp only [Act.put,sa_,sb_,sc_,a_t,a_u]
     rfl
    refine a_z (i:=34) (N:=some 51) (v:=undef) (a':=?_) k_m rfl rfl (a_q HT_.out (by kernel_rfl)) (fun _ _ _ h => h) (Or.inr ⟨by rfl,rfl⟩) ?_ ?_
    rotate_left
    ·simp only [Act.put,sa_,sb_,sc_,a_t,a_u]
     rfl
    refine a_z (i:=35) (N:=some 52) (v:=undef) (a':=?_) k_K rfl rfl (a_q HT_.out (by kernel_rfl)) (fun _ _ _ h => h) (Or.inr ⟨by rfl,rfl⟩) ?_ ?_
    rotate_left
    ·simp only [Act.put,sa_,sb_,sc_,a_t,a_u]
     rfl
    refine a_z (i:=36) (N:=some 53) (v:=?_) (a':=?_) k_y rfl rfl (a_q HT_.out (by kernel_rfl)) (fun _ _ _ h => h) (Or.inl ⟨by rfl,?_⟩) ?_ ?_
    rotate_left
    ·intro w'
     go_simp
     with_reducible rfl
    rotate_left
    ·simp only [Act.put,sa_,sb_,sc_,a_t,a_u]
     rfl
    refine e_j (c_q HT_.out (by kernel_rfl)) ?_
    try go_wp2
    go_ret
    exact ⟨by first|rfl|(simp [a_w,a_x] <;> rfl)|(simp only [← hji10];first|rfl|(simp [a_w,a_x] <;> rfl))|(simp [*, a_w,a_x] <;> rfl),by repeat (first|(with_reducible first|exact HB.out|apply a_g|apply a_e|apply a_h|refine a_f ?_ d_E.out|refine a_f ?_ d_3.out|refine a_f ?_ e_m.out)|exact HB.out)⟩
   rw [if_pos c25] at H
   have c25b0 : (t117 == ((a_c l0_1 x10_1).f9)) = true:=beq_iff_eq.mpr c25
   have c25b1 : (t117 != ((a_c l0_1 x10_1).f9)) = false:=bne_eq_false_iff_eq.mpr c25
   clear c25
   replace H:=Option.bind_eq_some_iff.mp H
   obtain ⟨t118,A260,H⟩:=H
   replace H : (if t118 = ((a_c l0_1 x10_1).f9) then (a_H.l0 k1 l0_1 (l0_1.length : Int) (wrap64 (x10_1 + 1)) a0_0 l0_1) else (some false)) = some r:=H
   have A26:=a_d.mk A260
   clear A260
   by_cases c27 : t118 = ((a_c l0_1 x10_1).f9)
   rotate_left
   ·rw [if_neg c27] at H
    have c27b0 : (t118 == ((a_c l0_1 x10_1).f9)) = false:=beq_eq_false_iff_ne.mpr c27
    have c27b1 : (t118 != ((a_c l0_1 x10_1).f9)) = true:=bne_iff_ne.mpr c27
    obtain rfl:=Option.some.inj H
    have p116 : 0 ≤ ((ji10) : Int):=of_decide_eq_true (by first|(with_reducible assumption)|assumption)
    have q116 : (ji10) < (l0_1.length : Int):=of_decide_eq_true (by first|(with_reducible assumption)|assumption)
    obtain ⟨ad116,e116,c_K,c_L,c_M,c_N,c_O,c_P,c_Q,c_R,c_S,c_T,c_b⟩:=d_g d_i.out (ji10) p116 q116
    have b_X:=c_b
    have c_c:=c_T
    have c_d:=c_S
    have c_e:=c_R
    have c_f:=c_Q
    have c_g:=c_P
    have c_h:=c_O
    have c_i:=c_N
    have c_j:=c_M
    have c_k:=c_L
    have c_l:=c_K
    obtain rfl : ad112 = ad116:=(by injection e116)
    replace c_K:=(HB.out.cell (World.block_lt_of_cell? w _ c_K)).trans c_K
    replace c_L:=(HB.out.cell (World.block_lt_of_cell? w _ c_L)).trans c_L
    replace c_M:=(HB.out.cell (World.block_lt_of_cell? w _ c_M)).trans c_M
    replace c_N:=(HB.out.cell (World.block_lt_of_cell? w _ c_N)).trans c_N
    replace c_O:=(HB.out.cell (World.block_lt_of_cell? w _ c_O)).trans c_O
    replace c_P:=(HB.out.cell (World.block_lt_of_cell? w _ c_P)).trans c_P
    replace c_Q:=(HB.out.cell (World.block_lt_of_cell? w _ c_Q)).trans c_Q
    replace c_R:=(HB.out.cell (World.block_lt_of_cell? w _ c_R)).trans c_R
    replace c_S:=(HB.out.cell (World.block_lt_of_cell? w _ c_S)).trans c_S
    replace c_T:=(HB.out.cell (World.block_lt_of_cell? w _ c_T)).trans c_T
    replace c_b:=(HB.out.cell (World.block_lt_of_cell? w _ c_b)).trans c_b
    replace p116:=eq_true p116
    replace q116:=eq_true q116
    refine c_9 (n:=37) (S:=fun w' => w'.cell? ⟨a_9,0,none⟩ = some (.int .i64 ((a_c l0_1 x10_1).f0)) ∧ w'.cell? ⟨a_9,1,none⟩ = some (.int .i64 ((a_c l0_1 x10_1).f1)) ∧ w'.cell? ⟨a_9,2,none⟩ = some (.int .i64 ((a_c l0_1 x10_1).f2)) ∧ w'.cell? ⟨a_9,3,none⟩ = some (.int .i64 ((a_c l0_1 x10_1).f3)) ∧ w'.cell? ⟨a_9,4,none⟩ = some (.int .i64 ((a_c l0_1 x10_1).f4)) ∧ w'.cell? ⟨a_9,5,none⟩ = some (.bool ((a_c l0_1 x10_1).f5)) ∧ w'.cell? ⟨a_9,6,none⟩ = some (.bool ((a_c l0_1 x10_1).f6)) ∧ w'.cell? ⟨a_9,7,none⟩ = some (.int .u32 ((a_c l0_1 x10_1).f7)) ∧ w'.cell? ⟨a_9,8,none⟩ = some (.int .i64 ((a_c l0_1 x10_1).f8)) ∧ w'.cell? ⟨a_9,9,none⟩ = some (.int .i64 ((a_c l0_1 x10_1).f9)) ∧ w'.cell? ⟨a_9,10,none⟩ = some (.int .i64 ((a_c l0_1 x10_1).f10)) ∧ w'.cell? ⟨d_Z,0,none⟩ = some (.int .i64 a0_0) ∧ w'.cell? ⟨d_Z,1,none⟩ = some (.slice (some ad112) l0_1.length c0_1) ∧ w'.cell? ⟨e_l,0,none⟩ = some (.func (.func 51) #[] #[.pointer (some ⟨a_9,0,none⟩)]) ∧ w'.cell? (ad112.add (((ji10)).toNat * 11)) = some (.int .i64 ((a_c l0_1 (ji10)).f0)) ∧ w'.cell? ⟨(ad112.add (((ji10)).toNat * 11)).block,(ad112.add (((ji10)).toNat * 11)).off + 1,none⟩ = some (.int .i64 ((a_c l0_1 (ji10)).f1)) ∧ w'.cell? ⟨(ad112.add (((ji10)).toNat * 11)).block,(ad112.add (((ji10)).toNat * 11)).off + 2,none⟩ = some (.int .i64 ((a_c l0_1 (ji10)).f2)) ∧ w'.cell? ⟨(ad112.add (((ji10)).toNat * 11)).block,(ad112.add (((ji10)).toNat * 11)).off + 3,none⟩ = some (.int .i64 ((a_c l0_1 (ji10)).f3)) ∧ w'.cell? ⟨(ad112.add (((ji10)).toNat * 11)).block,(ad112.add (((ji10)).toNat * 11)).off + 4,none⟩ = some (.int .i64 ((a_c l0_1 (ji10)).f4)) ∧ w'.cell? ⟨(ad112.add (((ji10)).toNat * 11)).block,(ad112.add (((ji10)).toNat * 11)).off + 5,none⟩ = some (.bool ((a_c l0_1 (ji10)).f5)) ∧ w'.cell? ⟨(ad112.add (((ji10)).toNat * 11)).block,(ad112.add (((ji10)).toNat * 11)).off + 6,none⟩ = some (.bool ((a_c l0_1 (ji10)).f6)) ∧ w'.cell? ⟨(ad112.add (((ji10)).toNat * 11)).block,(ad112.add (((ji10)).toNat * 11)).off + 7,none⟩ = some (.int .u32 ((a_c l0_1 (ji10)).f7)) ∧ w'.cell? ⟨(ad112.add (((ji10)).toNat * 11)).block,(ad112.add (((ji10)).toNat * 11)).off + 8,none⟩ = some (.int .i64 ((a_c l0_1 (ji10)).f8)) ∧ w'.cell? ⟨(ad112.add (((ji10)).toNat * 11)).block,(ad112.add (((ji10)).toNat * 11)).off + 9,none⟩ = some (.int .i64 ((a_c l0_1 (ji10)).f9)) ∧ w'.cell? ⟨(ad112.add (((ji10)).toNat * 11)).block,(ad112.add (((ji10)).toNat * 11)).off + 10,none⟩ = some (.int .i64 ((a_c l0_1 (ji10)).f10))) (ds:=[]) Z1_ (by kernel_rfl) rfl rfl ⟨(a_a a_F.out 0).trans rfl,(a_a a_F.out 1).trans rfl,(a_a a_F.out 2).trans rfl,(a_a a_F.out 3).trans rfl,(a_a a_F.out 4).trans rfl,(a_a a_F.out 5).trans rfl,(a_a a_F.out 6).trans rfl,(a_a a_F.out 7).trans rfl,(a_a a_F.out 8).trans rfl,(a_a a_F.out 9).trans rfl,(a_a a_F.out 10).trans rfl,(a_a b_j.out 0).trans rfl,(a_a b_j.out 1).trans rfl,(a_a b_V.out 0).trans rfl,((HB.out.cell (World.block_lt_of_cell? w _ c_l)).trans c_l),((HB.out.cell (World.block_lt_of_cell? w _ c_k)).trans c_k),((HB.out.cell (World.block_lt_of_cell? w _ c_j)).trans c_j),((HB.out.cell (World.block_lt_of_cell? w _ c_i)).trans c_i),((HB.out.cell (World.block_lt_of_cell? w _ c_h)).trans c_h),((HB.out.cell (World.block_lt_of_cell? w _ c_g)).trans c_g),((HB.out.cell (World.block_lt_of_cell? w _ c_f)).trans c_f),((HB.out.cell (World.block_lt_of_cell? w _ c_e)).trans c_e),((HB.out.cell (World.block_lt_of_cell? w _ c_d)).trans c_d),((HB.out.cell (World.block_lt_of_cell? w _ c_c)).trans c_c),((HB.out.cell (World.block_lt_of_cell? w _ b_X)).trans b_X)⟩ (fun hHeld => ?_);refine b_P a_H.tab6 a_H.e_I (fun HT_ HW_ => ?_)
    generalize w21.drew = w48 at b_j a_F b_V HB c_K c_L c_b c_M c_N c_O c_P c_Q c_R c_S c_T hHeld ⊢
    refine b_l (i:=0) (N:=some 17) (v:=?_) (a':=?_) Z5_ rfl rfl (a_O HT_.out HW_.out (by kernel_rfl)) (fun _ _ _ h => h) (Or.inl ⟨by rfl,?_⟩) hHeld ?_ ?_
    rotate_left
    ·rintro w' ⟨s0,s1,s2,s3,s4,s5,s6,s7,s8,s9,s10,s11,s12,s13,s14,s15,s16,s17,s18,s19,s20,s21,s22,s23,s24⟩
     go_simp
     with_reducible rfl
    rotate_left
    ·simp only [Act.put,sa_,sb_,sc_,a_t,a_u]
     rfl
    refine one_ (i:=1) (N:=some 18) Z9_ rfl rfl (b_7 HT_.out (by kernel_rfl)) (by decide) (fun K hK => ?_)
    refine d_O Try.func53 (by kernel_rfl) rfl #[.agg #[.int .i64 ((a_c l0_1 x10_1).f0),.int .i64 ((a_c l0_1 x10_1).f1),.int .i64 ((a_c l0_1 x10_1).f2),.int .i64 ((a_c l0_1 x10_1).f3),.int .i64 ((a_c l0_1 x10_1).f4),.bool ((a_c l0_1 x10_1).f5),.bool ((a_c l0_1 x10_1).f6),.int .u32 ((a_c l0_1 x10_1).f7),.int .i64 ((a_c l0_1 x10_1).f8),.int .i64 ((a_c l0_1 x10_1).f9),.int .i64 ((a_c l0_1 x10_1).f10)]] (by rfl) rfl rfl (by (try simp only [List.map_toArray,List.map_cons,List.map_nil]);first|done|rfl|(simp only [List.length_drop,List.length_take];rfl)) ?_
    with_reducible refine (a_X.calls k1 ((a_c l0_1 x10_1).f0) ((a_c l0_1 x10_1).f1) ((a_c l0_1 x10_1).f2) ((a_c l0_1 x10_1).f3) ((a_c l0_1 x10_1).f4) ((a_c l0_1 x10_1).f5) ((a_c l0_1 x10_1).f6) ((a_c l0_1 x10_1).f7) ((a_c l0_1 x10_1).f8) ((a_c l0_1 x10_1).f9) ((a_c l0_1 x10_1).f10) true _ A7.out).mono ?_
    rintro e w49 ⟨rfl,hb⟩
    refine ⟨_,rfl,?_⟩
    replace b_j:=a_d.mk (a_i (bup_ b_j.out) hb)
    replace a_F:=a_d.mk (a_i (bup_ a_F.out) hb)
    replace b_V:=a_d.mk (a_i (bup_ b_V.out) hb)
    replace HB:=a_d.mk (a_o (by repeat (first|(with_reducible first|exact HB.out|apply a_g|apply a_e|apply a_h|refine a_f ?_ d_E.out|refine a_f ?_ d_3.out|refine a_f ?_ e_m.out)|exact HB.out)) hb)
    (try clear hb)
    (try clear hb2)
    (try clear hk)
    (try clear hi)
    refine hK.out _ _ ⟨(a_a a_F.out 0).trans rfl,(a_a a_F.out 1).trans rfl,(a_a a_F.out 2).trans rfl,(a_a a_F.out 3).trans rfl,(a_a a_F.out 4).trans rfl,(a_a a_F.out 5).trans rfl,(a_a a_F.out 6).trans rfl,(a_a a_F.out 7).trans rfl,(a_a a_F.out 8).trans rfl,(a_a a_F.out 9).trans rfl,(a_a a_F.out 10).trans rfl,(a_a b_j.out 0).trans rfl,(a_a b_j.out 1).trans rfl,(a_a b_V.out 0).trans rfl,((HB.out.cell (World.block_lt_of_cell? w _ c_l)).trans c_l),((HB.out.cell (World.block_lt_of_cell? w _ c_k)).trans c_k),((HB.out.cell (World.block_lt_of_cell? w _ c_j)).trans c_j),((HB.out.cell (World.block_lt_of_cell? w _ c_i)).trans c_i),((HB.out.cell (World.block_lt_of_cell? w _ c_h)).trans c_h),((HB.out.cell (World.block_lt_of_cell? w _ c_g)).trans c_g),((HB.out.cell (World.block_lt_of_cell? w _ c_f)).trans c_f),((HB.out.cell (World.block_lt_of_cell? w _ c_e)).trans c_e),((HB.out.cell (World.block_lt_of_cell? w _ c_d)).trans c_d),((HB.out.cell (World.block_lt_of_cell? w _ c_c)).trans c_c),((HB.out.cell (World.block_lt_of_cell? w _ b_X)).trans b_X)⟩ (fun hHeld => ?_)
    clear hK K
    refine d_A (a':=?_) ?_ ?_
    rotate_left
    ·show Act.put _ (some 18) _ = _
     simp only [Act.put,sa_,sb_,sc_,a_t,a_u]
     rfl
    refine a_z (i:=2) (N:=some 19) (v:=?_) (a':=?_) Z13_ rfl rfl (a_q HT_.out (by kernel_rfl)) (fun _ _ _ h => h) (Or.inl ⟨by rfl,?_⟩) ?_ ?_
    rotate_left
    ·intro w'
     go_simp
     with_reducible rfl
    rotate_left
    ·simp only [Act.put,sa_,sb_,sc_,a_t,a_u]
     rfl
    refine a_z (i:=3) (N:=some 20) (v:=?_) (a':=?_) Z17_ rfl rfl (a_q HT_.out (by kernel_rfl)) (fun _ _ _ h => h) (Or.inl ⟨by rfl,?_⟩) ?_ ?_
    rotate_left
    ·intro w'
     go_simp
     with_reducible rfl
    rotate_left
    ·simp only [Act.put,sa_,sb_,sc_,a_t,a_u]
     rfl
    refine a_z (i:=4) (N:=some 21) (v:=?_) (a':=?_) Z21_ rfl rfl (a_q HT_.out (by kernel_rfl)) (fun _ _ _ h => h) (Or.inl ⟨by rfl,?_⟩) ?_ ?_
    rotate_left
    ·intro w'
     go_simp
     with_reducible rfl
    rotate_left
    ·simp only [Act.put,sa_,sb_,sc_,a_t,a_u]
     rfl
    refine a_z (i:=5) (N:=some 22) (v:=?_) (a':=?_) Z26_ rfl rfl (a_q HT_.out (by kernel_rfl)) (fun _ _ _ h => h) (Or.inl ⟨by rfl,?_⟩) ?_ ?_
    rotate_left
    ·intro w'
     go_simp
     with_reducible rfl
    rotate_left
    ·simp only [Act.put,sa_,sb_,sc_,a_t,a_u]
     rfl
    refine a_z (i:=6) (N:=some 23) (v:=?_) (a':=?_) Z29_ rfl rfl (a_q HT_.out (by kernel_rfl)) (fun _ _ _ h => h) (Or.inl ⟨by rfl,?_⟩) ?_ ?_
    rotate_left
    ·intro w'
     go_simp
     with_reducible rfl
    rotate_left
    ·simp only [Act.put,sa_,sb_,sc_,a_t,a_u]
     rfl
    refine a_z (i:=7) (N:=some 24) (v:=?_) (a':=?_) Z33_ rfl rfl (a_q HT_.out (by kernel_rfl)) (fun _ _ _ h => h) (Or.inl ⟨by rfl,?_⟩) ?_ ?_
    rotate_left
    ·intro w'
     go_simp
     with_reducible rfl
    rotate_left
    ·simp only [Act.put,sa_,sb_,sc_,a_t,a_u]
     rfl
    refine a_z (i:=9) (N:=some 26) (v:=?_) (a':=?_) Z36_ rfl rfl (a_q HT_.out (by kernel_rfl)) (fun _ _ _ h => h) (Or.inl ⟨by rfl,?_⟩) ?_ ?_
    rotate_left
    ·intro w'
     go_simp
     with_reducible rfl
    rotate_left
    ·simp only [Act.put,sa_,sb_,sc_,a_t,a_u]
     rfl
    refine a_z (i:=10) (N:=some 27) (v:=?_) (a':=?_) Z37_ rfl rfl (a_q HT_.out (by kernel_rfl)) (fun _ _ _ h => h) (Or.inl ⟨by rfl,?_⟩) ?_ ?_
    rotate_left
    ·intro w'
     go_simp
     with_reducible rfl
    rotate_left
    ·simp only [Act.put,sa_,sb_,sc_,a_t,a_u]
     rfl
    refine a_z (i:=14) (N:=some 31) (v:=?_) (a':=?_) Z38_ rfl rfl (a_q HT_.out (by kernel_rfl)) (fun _ _ _ h => h) (Or.inl ⟨by rfl,?_⟩) ?_ ?_
    rotate_left
    ·intro w'
     go_simp
     with_reducible rfl
    rotate_left
    ·simp only [Act.put,sa_,sb_,sc_,a_t,a_u]
     rfl
    refine b_l (i:=8) (N:=some 25) (v:=?_) (a':=?_) Z52_ rfl rfl (a_O HT_.out HW_.out (by kernel_rfl)) (fun _ _ _ h => h) (Or.inl ⟨by rfl,?_⟩) hHeld ?_ ?_
    rotate_left
    ·rintro w' ⟨s0,s1,s2,s3,s4,s5,s6,s7,s8,s9,s10,s11,s12,s13,s14,s15,s16,s17,s18,s19,s20,s21,s22,s23,s24⟩
     go_simp
     with_reducible rfl
    rotate_left
    ·simp only [Act.put,sa_,sb_,sc_,a_t,a_u]
     rfl
    refine a_z (i:=11) (N:=some 28) (v:=?_) (a':=?_) Z57_ rfl rfl (a_q HT_.out (by kernel_rfl)) (fun _ _ _ h => h) (Or.inl ⟨by rfl,?_⟩) ?_ ?_
    rotate_left
    ·intro w'
     go_simp
     with_reducible rfl
    rotate_left
    ·simp only [Act.put,sa_,sb_,sc_,a_t,a_u]
     rfl
    refine a_z (i:=12) (N:=some 29) (v:=?_) (a':=?_) Z62_ rfl rfl (a_q HT_.out (by kernel_rfl)) (fun _ _ _ h => h) (Or.inl ⟨by rfl,?_⟩) ?_ ?_
    rotate_left
    ·intro w'
     go_simp
     with_reducible rfl
    rotate_left
    ·simp only [Act.put,sa_,sb_,sc_,a_t,a_u]
     rfl
    refine b_l (i:=13) (N:=some 30) (v:=?_) (a':=?_) Z67_ rfl rfl (a_O HT_.out HW_.out (by kernel_rfl)) (fun _ _ _ h => h) (Or.inl ⟨by rfl,?_⟩) hHeld ?_ ?_
    rotate_left
    ·rintro w' ⟨s0,s1,s2,s3,s4,s5,s6,s7,s8,s9,s10,s11,s12,s13,s14,s15,s16,s17,s18,s19,s20,s21,s22,s23,s24⟩
     go_simp
     with_reducible rfl
    rotate_left
    ·simp only [Act.put,sa_,sb_,sc_,a_t,a_u]
     rfl
    refine b_l (i:=15) (N:=some 32) (v:=?_) (a':=?_) Z74_ rfl rfl (a_O HT_.out HW_.out (by kernel_rfl)) (fun _ _ _ h => h) (Or.inl ⟨by rfl,?_⟩) hHeld ?_ ?_
    rotate_left
    ·rintro w' ⟨s0,s1,s2,s3,s4,s5,s6,s7,s8,s9,s10,s11,s12,s13,s14,s15,s16,s17,s18,s19,s20,s21,s22,s23,s24⟩
     go_simp
     with_reducible rfl
    rotate_left
    ·simp only [Act.put,sa_,sb_,sc_,a_t,a_u]
     rfl
    refine a_z (i:=16) (N:=some 33) (v:=?_) (a':=?_) Z78_ rfl rfl (a_q HT_.out (by kernel_rfl)) (fun _ _ _ h => h) (Or.inl ⟨by rfl,?_⟩) ?_ ?_
    rotate_left
    ·intro w'
     go_simp
     with_reducible rfl
    rotate_left
    ·simp only [Act.put,sa_,sb_,sc_,a_t,a_u]
     rfl
    refine a_z (i:=17) (N:=some 34) (v:=?_) (a':=?_) Z82_ rfl rfl (a_q HT_.out (by kernel_rfl)) (fun _ _ _ h => h) (Or.inl ⟨by rfl,?_⟩) ?_ ?_
    rotate_left
    ·intro w'
     go_simp
     with_reducible rfl
    rotate_left
    ·simp only [Act.put,sa_,sb_,sc_,a_t,a_u]
     rfl
    refine a_z (i:=18) (N:=some 35) (v:=?_) (a':=?_) Z87_ rfl rfl (a_q HT_.out (by kernel_rfl)) (fun _ _ _ h => h) (Or.inl ⟨by rfl,?_⟩) ?_ ?_
    rotate_left
    ·intro w'
     go_simp
     with_reducible rfl
    rotate_left
    ·simp only [Act.put,sa_,sb_,sc_,a_t,a_u]
     rfl
    refine a_z (i:=19) (N:=some 36) (v:=?_) (a':=?_) Z91_ rfl rfl (a_q HT_.out (by kernel_rfl)) (fun _ _ _ h => h) (Or.inl ⟨by rfl,?_⟩) ?_ ?_
    rotate_left
    ·intro w'
     go_simp
     with_reducible rfl
    rotate_left
    ·simp only [Act.put,sa_,sb_,sc_,a_t,a_u]
     rfl
    refine a_z (i:=20) (N:=some 37) (v:=?_) (a':=?_) Z95_ rfl rfl (a_q HT_.out (by kernel_rfl)) (fun _ _ _ h => h) (Or.inl ⟨by rfl,?_⟩) ?_ ?_
    rotate_left
    ·intro w'
     go_simp
     with_reducible rfl
    rotate_left
    ·simp only [Act.put,sa_,sb_,sc_,a_t,a_u]
     rfl
    refine a_z (i:=24) (N:=some 41) (v:=?_) (a':=?_) Z97_ rfl rfl (a_q HT_.out (by kernel_rfl)) (fun _ _ _ h => h) (Or.inl ⟨by rfl,?_⟩) ?_ ?_
    rotate_left
    ·intro w'
     go_simp
     with_reducible rfl
    rotate_left
    ·simp only [Act.put,sa_,sb_,sc_,a_t,a_u]
     rfl
    refine b_l (i:=21) (N:=some 38) (v:=?_) (a':=?_) n_C rfl rfl (a_O HT_.out HW_.out (by kernel_rfl)) (fun _ _ _ h => h) (Or.inl ⟨by rfl,?_⟩) hHeld ?_ ?_
    rotate_left
    ·rintro w' ⟨s0,s1,s2,s3,s4,s5,s6,s7,s8,s9,s10,s11,s12,s13,s14,s15,s16,s17,s18,s19,s20,s21,s22,s23,s24⟩
     go_simp
     with_reducible rfl
    rotate_left
    ·simp only [Act.put,sa_,sb_,sc_,a_t,a_u]
     rfl
    refine b_l (i:=22) (N:=some 39) (v:=?_) (a':=?_) n_L rfl rfl (a_O HT_.out HW_.out (by kernel_rfl)) (fun _ _ _ h => h) (Or.inl ⟨by rfl,?_⟩) hHeld ?_ ?_
    rotate_left
    ·rintro w' ⟨s0,s1,s2,s3,s4,s5,s6,s7,s8,s9,s10,s11,s12,s13,s14,s15,s16,s17,s18,s19,s20,s21,s22,s23,s24⟩
     go_simp
     with_reducible rfl
    rotate_left
    ·simp only [Act.put,sa_,sb_,sc_,a_t,a_u]
     rfl
    refine b_l (i:=25) (N:=some 42) (v:=?_) (a':=?_) n_J rfl rfl (a_O HT_.out HW_.out (by kernel_rfl)) (fun _ _ _ h => h) (Or.inl ⟨by rfl,?_⟩) hHeld ?_ ?_
    rotate_left
    ·rintro w' ⟨s0,s1,s2,s3,s4,s5,s6,s7,s8,s9,s10,s11,s12,s13,s14,s15,s16,s17,s18,s19,s20,s21,s22,s23,s24⟩
     go_simp
     with_reducible rfl
    rotate_left
    ·simp only [Act.put,sa_,sb_,sc_,a_t,a_u]
     rfl
    refine one_ (i:=23) (N:=some 40) k_C rfl rfl (b_7 HT_.out (by kernel_rfl)) (by decide) (fun K hK => ?_)
    refine d_O Try.func38 (by kernel_rfl) rfl #[.slice (some ad112) l0_1.length c0_1,.func (.func 51) #[] #[.pointer (some ⟨a_9,0,none⟩)]] (by rfl) rfl rfl (by (try simp only [List.map_toArray,List.map_cons,List.map_nil]);first|done|rfl|(simp only [List.length_drop,List.length_take];rfl)) ?_
    with_reducible refine (b_i.calls _ _ l0_1 a_9 ((a_c l0_1 x10_1).f0) ((a_c l0_1 x10_1).f1) ((a_c l0_1 x10_1).f2) ((a_c l0_1 x10_1).f3) ((a_c l0_1 x10_1).f4) ((a_c l0_1 x10_1).f5) ((a_c l0_1 x10_1).f6) ((a_c l0_1 x10_1).f7) ((a_c l0_1 x10_1).f8) ((a_c l0_1 x10_1).f9) ((a_c l0_1 x10_1).f10) t117 _ ?side1 ?side2 ?side3 A24.out).mono ?_
    (case side1 => repeat (first|exact (Kd.a_U d_i.out HB.out)|(with_reducible refine Kd.a_V ?_ _)|(with_reducible refine Kd.a_W ?_ _)|(with_reducible refine Kd.a_5 ?_)))
    (case side2 => exact f_j.out)
    (case side3 => exact (bup_ a_F.out))
    rintro e w50 ⟨rfl,hb⟩
    refine ⟨_,rfl,?_⟩
    replace b_j:=a_d.mk (a_i (bup_ b_j.out) hb)
    replace a_F:=a_d.mk (a_i (bup_ a_F.out) hb)
    replace b_V:=a_d.mk (a_i (bup_ b_V.out) hb)
    replace HB:=a_d.mk (a_o (by repeat (first|(with_reducible first|exact HB.out|apply a_g|apply a_e|apply a_h|refine a_f ?_ d_E.out|refine a_f ?_ d_3.out|refine a_f ?_ e_m.out)|exact HB.out)) hb)
    (try clear hb)
    (try clear hb2)
    (try clear hk)
    (try clear hi)
    refine hK.out _ _ ⟨(a_a a_F.out 0).trans rfl,(a_a a_F.out 1).trans rfl,(a_a a_F.out 2).trans rfl,(a_a a_F.out 3).trans rfl,(a_a a_F.out 4).trans rfl,(a_a a_F.out 5).trans rfl,(a_a a_F.out 6).trans rfl,(a_a a_F.out 7).trans rfl,(a_a a_F.out 8).trans rfl,(a_a a_F.out 9).trans rfl,(a_a a_F.out 10).trans rfl,(a_a b_j.out 0).trans rfl,(a_a b_j.out 1).trans rfl,(a_a b_V.out 0).trans rfl,((HB.out.cell (World.block_lt_of_cell? w _ c_l)).trans c_l),((HB.out.cell (World.block_lt_of_cell? w _ c_k)).trans c_k),((HB.out.cell (World.block_lt_of_cell? w _ c_j)).trans c_j),((HB.out.cell (World.block_lt_of_cell? w _ c_i)).trans c_i),((HB.out.cell (World.block_lt_of_cell? w _ c_h)).trans c_h),((HB.out.cell (World.block_lt_of_cell? w _ c_g)).trans c_g),((HB.out.cell (World.block_lt_of_cell? w _ c_f)).trans c_f),((HB.out.cell (World.block_lt_of_cell? w _ c_e)).trans c_e),((HB.out.cell (World.block_lt_of_cell? w _ c_d)).trans c_d),((HB.out.cell (World.block_lt_of_cell? w _ c_c)).trans c_c),((HB.out.cell (World.block_lt_of_cell? w _ b_X)).trans b_X)⟩ (fun hHeld => ?_)
    clear hK K
    refine d_A (a':=?_) ?_ ?_
    rotate_left
    ·show Act.put _ (some 40) _ = _
     simp only [Act.put,sa_,sb_,sc_,a_t,a_u]
     rfl
    refine a_z (i:=26) (N:=some 43) (v:=?_) (a':=?_) k_B rfl rfl (a_q HT_.out (by kernel_rfl)) (fun _ _ _ h => h) (Or.inl ⟨by rfl,?_⟩) ?_ ?_
    rotate_left
    ·intro w'
     go_simp
     with_reducible rfl
    rotate_left
    ·simp only [Act.put,sa_,sb_,sc_,a_t,a_u]
     rfl
    refine a_z (i:=27) (N:=some 44) (v:=?_) (a':=?_) k_I rfl rfl (a_q HT_.out (by kernel_rfl)) (fun _ _ _ h => h) (Or.inl ⟨by rfl,?_⟩) ?_ ?_
    rotate_left
    ·intro w'
     go_simp
     with_reducible rfl
    rotate_left
    ·simp only [Act.put,sa_,sb_,sc_,a_t,a_u]
     rfl
    refine a_z (i:=28) (N:=some 45) (v:=?_) (a':=?_) k_u rfl rfl (a_q HT_.out (by kernel_rfl)) (fun _ _ _ h => h) (Or.inl ⟨by rfl,?_⟩) ?_ ?_
    rotate_left
    ·intro w'
     go_simp
     with_reducible rfl
    rotate_left
    ·simp only [Act.put,sa_,sb_,sc_,a_t,a_u]
     rfl
    refine a_z (i:=29) (N:=some 46) (v:=?_) (a':=?_) k_L rfl rfl (a_q HT_.out (by kernel_rfl)) (fun _ _ _ h => h) (Or.inl ⟨by rfl,?_⟩) ?_ ?_
    rotate_left
    ·intro w'
     go_simp
     with_reducible rfl
    rotate_left
    ·simp only [Act.put,sa_,sb_,sc_,a_t,a_u]
     rfl
    refine a_z (i:=31) (N:=some 48) (v:=?_) (a':=?_) r_e rfl rfl (a_q HT_.out (by kernel_rfl)) (fun _ _ _ h => h) (Or.inl ⟨by rfl,?_⟩) ?_ ?_
    rotate_left
    ·intro w'
     go_simp
     with_reducible rfl
    rotate_left
    ·simp only [Act.put,sa_,sb_,sc_,a_t,a_u]
     rfl
    refine a_z (i:=33) (N:=some 50) (v:=?_) (a':=?_) q_P rfl rfl (a_q HT_.out (by kernel_rfl)) (fun _ _ _ h => h) (Or.inl ⟨by rfl,?_⟩) ?_ ?_
    rotate_left
    ·intro w'
     go_simp
     with_reducible rfl
    rotate_left
    ·simp only [Act.put,sa_,sb_,sc_,a_t,a_u]
     rfl
    refine b_l (i:=30) (N:=some 47) (v:=?_) (a':=?_) q_J rfl rfl (a_O HT_.out HW_.out (by kernel_rfl)) (fun _ _ _ h => h) (Or.inl ⟨by rfl,?_⟩) hHeld ?_ ?_
    rotate_left
    ·rintro w' ⟨s0,s1,s2,s3,s4,s5,s6,s7,s8,s9,s10,s11,s12,s13,s14,s15,s16,s17,s18,s19,s20,s21,s22,s23,s24⟩
     go_simp
     with_reducible rfl
    rotate_left
    ·simp only [Act.put,sa_,sb_,sc_,a_t,a_u]
     rfl
    refine b_l (i:=34) (N:=some 51) (v:=?_) (a':=?_) q_I rfl rfl (a_O HT_.out HW_.out (by kernel_rfl)) (fun _ _ _ h => h) (Or.inl ⟨by rfl,?_⟩) hHeld ?_ ?_
    rotate_left
    ·rintro w' ⟨s0,s1,s2,s3,s4,s5,s6,s7,s8,s9,s10,s11,s12,s13,s14,s15,s16,s17,s18,s19,s20,s21,s22,s23,s24⟩
     go_simp
     with_reducible rfl
    rotate_left
    ·simp only [Act.put,sa_,sb_,sc_,a_t,a_u]
     rfl
    refine one_ (i:=32) (N:=some 49) k_m rfl rfl (b_7 HT_.out (by kernel_rfl)) (by decide) (fun K hK => ?_)
    refine d_O Try.func38 (by kernel_rfl) rfl #[.slice (some ad112) l0_1.length c0_1,.func (.func 52) #[] #[.pointer (some ⟨e_l,0,none⟩),.pointer (some ⟨a_9,0,none⟩)]] (by rfl) rfl rfl (by (try simp only [List.map_toArray,List.map_cons,List.map_nil]);first|done|rfl|(simp only [List.length_drop,List.length_take];rfl)) ?_
    with_reducible refine (b_g.calls _ _ l0_1 e_l a_9 a_9 ((a_c l0_1 x10_1).f0) ((a_c l0_1 x10_1).f1) ((a_c l0_1 x10_1).f2) ((a_c l0_1 x10_1).f3) ((a_c l0_1 x10_1).f4) ((a_c l0_1 x10_1).f5) ((a_c l0_1 x10_1).f6) ((a_c l0_1 x10_1).f7) ((a_c l0_1 x10_1).f8) ((a_c l0_1 x10_1).f9) ((a_c l0_1 x10_1).f10) ((a_c l0_1 x10_1).f0) ((a_c l0_1 x10_1).f1) ((a_c l0_1 x10_1).f2) ((a_c l0_1 x10_1).f3) ((a_c l0_1 x10_1).f4) ((a_c l0_1 x10_1).f5) ((a_c l0_1 x10_1).f6) ((a_c l0_1 x10_1).f7) ((a_c l0_1 x10_1).f8) ((a_c l0_1 x10_1).f9) ((a_c l0_1 x10_1).f10) t118 _ ?side1 ?side2 ?side3 ?side4 ?side5 A26.out).mono ?_
    (case side1 => repeat (first|exact (Kd.a_U d_i.out HB.out)|(with_reducible refine Kd.a_V ?_ _)|(with_reducible refine Kd.a_W ?_ _)|(with_reducible refine Kd.a_5 ?_)))
    (case side2 => exact f_j.out)
    (case side3 => exact (bup_ b_V.out))
    (case side4 => exact (bup_ a_F.out))
    (case side5 => exact (bup_ a_F.out))
    rintro e w51 ⟨rfl,hb⟩
    refine ⟨_,rfl,?_⟩
    replace b_j:=a_d.mk (a_i (bup_ b_j.out) hb)
    replace a_F:=a_d.mk (a_i (bup_ a_F.out) hb)
    replace b_V:=a_d.mk (a_i (bup_ b_V.out) hb)
    replace HB:=a_d.mk (a_o (by repeat (first|(with_reducible first|exact HB.out|apply a_g|apply a_e|apply a_h|refine a_f ?_ d_E.out|refine a_f ?_ d_3.out|refine a_f ?_ e_m.out)|exact HB.out)) hb)
    (try clear hb)
    (try clear hb2)
    (try clear hk)
    (try clear hi)
    refine hK.out _ _ ⟨(a_a a_F.out 0).trans rfl,(a_a a_F.out 1).trans rfl,(a_a a_F.out 2).trans rfl,(a_a a_F.out 3).trans rfl,(a_a a_F.out 4).trans rfl,(a_a a_F.out 5).trans rfl,(a_a a_F.out 6).trans rfl,(a_a a_F.out 7).trans rfl,(a_a a_F.out 8).trans rfl,(a_a a_F.out 9).trans rfl,(a_a a_F.out 10).trans rfl,(a_a b_j.out 0).trans rfl,(a_a b_j.out 1).trans rfl,(a_a b_V.out 0).trans rfl,((HB.out.cell (World.block_lt_of_cell? w _ c_l)).trans c_l),((HB.out.cell (World.block_lt_of_cell? w _ c_k)).trans c_k),((HB.out.cell (World.block_lt_of_cell? w _ c_j)).trans c_j),((HB.out.cell (World.block_lt_of_cell? w _ c_i)).trans c_i),((HB.out.cell (World.block_lt_of_cell? w _ c_h)).trans c_h),((HB.out.cell (World.block_lt_of_cell? w _ c_g)).trans c_g),((HB.out.cell (World.block_lt_of_cell? w _ c_f)).trans c_f),((HB.out.cell (World.block_lt_of_cell? w _ c_e)).trans c_e),((HB.out.cell (World.block_lt_of_cell? w _ c_d)).trans c_d),((HB.out.cell (World.block_lt_of_cell? w _ c_c)).trans c_c),((HB.out.cell (World.block_lt_of_cell? w _ b_X)).trans b_X)⟩ (fun hHeld => ?_)
    clear hK K
    refine d_A (a':=?_) ?_ ?_
    rotate_left
    ·show Act.put _ (some 49) _ = _
     simp only [Act.put,sa_,sb_,sc_,a_t,a_u]
     rfl
    refine a_z (i:=35) (N:=some 52) (v:=?_) (a':=?_) k_K rfl rfl (a_q HT_.out (by kernel_rfl)) (fun _ _ _ h => h) (Or.inl ⟨by rfl,?_⟩) ?_ ?_
    rotate_left
    ·intro w'
     go_simp
     with_reducible rfl
    rotate_left
    ·simp only [Act.put,sa_,sb_,sc_,a_t,a_u]
     rfl
    refine a_z (i:=36) (N:=some 53) (v:=?_) (a':=?_) k_y rfl rfl (a_q HT_.out (by kernel_rfl)) (fun _ _ _ h => h) (Or.inl ⟨by rfl,?_⟩) ?_ ?_
    rotate_left
    ·intro w'
     go_simp
     with_reducible rfl
    rotate_left
    ·simp only [Act.put,sa_,sb_,sc_,a_t,a_u]
     rfl
    refine e_j (c_q HT_.out (by kernel_rfl)) ?_
    try go_wp2
    go_ret
    exact ⟨by first|rfl|(simp [a_w,a_x] <;> rfl)|(simp only [← hji10];first|rfl|(simp [a_w,a_x] <;> rfl))|(simp [*, a_w,a_x] <;> rfl),by repeat (first|(with_reducible first|exact HB.out|apply a_g|apply a_e|apply a_h|refine a_f ?_ d_E.out|refine a_f ?_ d_3.out|refine a_f ?_ e_m.out)|exact HB.out)⟩
   rw [if_pos c27] at H
   have c27b0 : (t118 == ((a_c l0_1 x10_1).f9)) = true:=beq_iff_eq.mpr c27
   have c27b1 : (t118 != ((a_c l0_1 x10_1).f9)) = false:=bne_eq_false_iff_eq.mpr c27
   clear c27
   have H':=a_d.mk H
   clear H
   have p116 : 0 ≤ ((ji10) : Int):=of_decide_eq_true (by first|(with_reducible assumption)|assumption)
   have q116 : (ji10) < (l0_1.length : Int):=of_decide_eq_true (by first|(with_reducible assumption)|assumption)
   obtain ⟨ad116,e116,c_K,c_L,c_M,c_N,c_O,c_P,c_Q,c_R,c_S,c_T,c_b⟩:=d_g d_i.out (ji10) p116 q116
   have b_X:=c_b
   have c_c:=c_T
   have c_d:=c_S
   have c_e:=c_R
   have c_f:=c_Q
   have c_g:=c_P
   have c_h:=c_O
   have c_i:=c_N
   have c_j:=c_M
   have c_k:=c_L
   have c_l:=c_K
   obtain rfl : ad112 = ad116:=(by injection e116)
   replace c_K:=(HB.out.cell (World.block_lt_of_cell? w _ c_K)).trans c_K
   replace c_L:=(HB.out.cell (World.block_lt_of_cell? w _ c_L)).trans c_L
   replace c_M:=(HB.out.cell (World.block_lt_of_cell? w _ c_M)).trans c_M
   replace c_N:=(HB.out.cell (World.block_lt_of_cell? w _ c_N)).trans c_N
   replace c_O:=(HB.out.cell (World.block_lt_of_cell? w _ c_O)).trans c_O
   replace c_P:=(HB.out.cell (World.block_lt_of_cell? w _ c_P)).trans c_P
   replace c_Q:=(HB.out.cell (World.block_lt_of_cell? w _ c_Q)).trans c_Q
   replace c_R:=(HB.out.cell (World.block_lt_of_cell? w _ c_R)).trans c_R
   replace c_S:=(HB.out.cell (World.block_lt_of_cell? w _ c_S)).trans c_S
   replace c_T:=(HB.out.cell (World.block_lt_of_cell? w _ c_T)).trans c_T
   replace c_b:=(HB.out.cell (World.block_lt_of_cell? w _ c_b)).trans c_b
   replace p116:=eq_true p116
   replace q116:=eq_true q116
   refine c_9 (n:=37) (S:=fun w' => w'.cell? ⟨a_9,0,none⟩ = some (.int .i64 ((a_c l0_1 x10_1).f0)) ∧ w'.cell? ⟨a_9,1,none⟩ = some (.int .i64 ((a_c l0_1 x10_1).f1)) ∧ w'.cell? ⟨a_9,2,none⟩ = some (.int .i64 ((a_c l0_1 x10_1).f2)) ∧ w'.cell? ⟨a_9,3,none⟩ = some (.int .i64 ((a_c l0_1 x10_1).f3)) ∧ w'.cell? ⟨a_9,4,none⟩ = some (.int .i64 ((a_c l0_1 x10_1).f4)) ∧ w'.cell? ⟨a_9,5,none⟩ = some (.bool ((a_c l0_1 x10_1).f5)) ∧ w'.cell? ⟨a_9,6,none⟩ = some (.bool ((a_c l0_1 x10_1).f6)) ∧ w'.cell? ⟨a_9,7,none⟩ = some (.int .u32 ((a_c l0_1 x10_1).f7)) ∧ w'.cell? ⟨a_9,8,none⟩ = some (.int .i64 ((a_c l0_1 x10_1).f8)) ∧ w'.cell? ⟨a_9,9,none⟩ = some (.int .i64 ((a_c l0_1 x10_1).f9)) ∧ w'.cell? ⟨a_9,10,none⟩ = some (.int .i64 ((a_c l0_1 x10_1).f10)) ∧ w'.cell? ⟨d_Z,0,none⟩ = some (.int .i64 a0_0) ∧ w'.cell? ⟨d_Z,1,none⟩ = some (.slice (some ad112) l0_1.length c0_1) ∧ w'.cell? ⟨e_l,0,none⟩ = some (.func (.func 51) #[] #[.pointer (some ⟨a_9,0,none⟩)]) ∧ w'.cell? (ad112.add (((ji10)).toNat * 11)) = some (.int .i64 ((a_c l0_1 (ji10)).f0)) ∧ w'.cell? ⟨(ad112.add (((ji10)).toNat * 11)).block,(ad112.add (((ji10)).toNat * 11)).off + 1,none⟩ = some (.int .i64 ((a_c l0_1 (ji10)).f1)) ∧ w'.cell? ⟨(ad112.add (((ji10)).toNat * 11)).block,(ad112.add (((ji10)).toNat * 11)).off + 2,none⟩ = some (.int .i64 ((a_c l0_1 (ji10)).f2)) ∧ w'.cell? ⟨(ad112.add (((ji10)).toNat * 11)).block,(ad112.add (((ji10)).toNat * 11)).off + 3,none⟩ = some (.int .i64 ((a_c l0_1 (ji10)).f3)) ∧ w'.cell? ⟨(ad112.add (((ji10)).toNat * 11)).block,(ad112.add (((ji10)).toNat * 11)).off + 4,none⟩ = some (.int .i64 ((a_c l0_1 (ji10)).f4)) ∧ w'.cell? ⟨(ad112.add (((ji10)).toNat * 11)).block,(ad112.add (((ji10)).toNat * 11)).off + 5,none⟩ = some (.bool ((a_c l0_1 (ji10)).f5)) ∧ w'.cell? ⟨(ad112.add (((ji10)).toNat * 11)).block,(ad112.add (((ji10)).toNat * 11)).off + 6,none⟩ = some (.bool ((a_c l0_1 (ji10)).f6)) ∧ w'.cell? ⟨(ad112.add (((ji10)).toNat * 11)).block,(ad112.add (((ji10)).toNat * 11)).off + 7,none⟩ = some (.int .u32 ((a_c l0_1 (ji10)).f7)) ∧ w'.cell? ⟨(ad112.add (((ji10)).toNat * 11)).block,(ad112.add (((ji10)).toNat * 11)).off + 8,none⟩ = some (.int .i64 ((a_c l0_1 (ji10)).f8)) ∧ w'.cell? ⟨(ad112.add (((ji10)).toNat * 11)).block,(ad112.add (((ji10)).toNat * 11)).off + 9,none⟩ = some (.int .i64 ((a_c l0_1 (ji10)).f9)) ∧ w'.cell? ⟨(ad112.add (((ji10)).toNat * 11)).block,(ad112.add (((ji10)).toNat * 11)).off + 10,none⟩ = some (.int .i64 ((a_c l0_1 (ji10)).f10))) (ds:=[]) Z1_ (by kernel_rfl) rfl rfl ⟨(a_a a_F.out 0).trans rfl,(a_a a_F.out 1).trans rfl,(a_a a_F.out 2).trans rfl,(a_a a_F.out 3).trans rfl,(a_a a_F.out 4).trans rfl,(a_a a_F.out 5).trans rfl,(a_a a_F.out 6).trans rfl,(a_a a_F.out 7).trans rfl,(a_a a_F.out 8).trans rfl,(a_a a_F.out 9).trans rfl,(a_a a_F.out 10).trans rfl,(a_a b_j.out 0).trans rfl,(a_a b_j.out 1).trans rfl,(a_a b_V.out 0).trans rfl,((HB.out.cell (World.block_lt_of_cell? w _ c_l)).trans c_l),((HB.out.cell (World.block_lt_of_cell? w _ c_k)).trans c_k),((HB.out.cell (World.block_lt_of_cell? w _ c_j)).trans c_j),((HB.out.cell (World.block_lt_of_cell? w _ c_i)).trans c_i),((HB.out.cell (World.block_lt_of_cell? w _ c_h)).trans c_h),((HB.out.cell (World.block_lt_of_cell? w _ c_g)).trans c_g),((HB.out.cell (World.block_lt_of_cell? w _ c_f)).trans c_f),((HB.out.cell (World.block_lt_of_cell? w _ c_e)).trans c_e),((HB.out.cell (World.block_lt_of_cell? w _ c_d)).trans c_d),((HB.out.cell (World.block_lt_of_cell? w _ c_c)).trans c_c),((HB.out.cell (World.block_lt_of_cell? w _ b_X)).trans b_X)⟩ (fun hHeld => ?_);refine b_P a_H.tab6 a_H.e_I (fun HT_ HW_ => ?_)
   generalize w21.drew = w36 at b_j a_F b_V HB c_K c_L c_b c_M c_N c_O c_P c_Q c_R c_S c_T hHeld ⊢
   refine b_l (i:=0) (N:=some 17) (v:=?_) (a':=?_) Z5_ rfl rfl (a_O HT_.out HW_.out (by kernel_rfl)) (fun _ _ _ h => h) (Or.inl ⟨by rfl,?_⟩) hHeld ?_ ?_
   rotate_left
   ·rintro w' ⟨s0,s1,s2,s3,s4,s5,s6,s7,s8,s9,s10,s11,s12,s13,s14,s15,s16,s17,s18,s19,s20,s21,s22,s23,s24⟩
    go_simp
    with_reducible rfl
   rotate_left
   ·simp only [Act.put,sa_,sb_,sc_,a_t,a_u]
    rfl
   refine one_ (i:=1) (N:=some 18) Z9_ rfl rfl (b_7 HT_.out (by kernel_rfl)) (by decide) (fun K hK => ?_)
   refine d_O Try.func53 (by kernel_rfl) rfl #[.agg #[.int .i64 ((a_c l0_1 x10_1).f0),.int .i64 ((a_c l0_1 x10_1).f1),.int .i64 ((a_c l0_1 x10_1).f2),.int .i64 ((a_c l0_1 x10_1).f3),.int .i64 ((a_c l0_1 x10_1).f4),.bool ((a_c l0_1 x10_1).f5),.bool ((a_c l0_1 x10_1).f6),.int .u32 ((a_c l0_1 x10_1).f7),.int .i64 ((a_c l0_1 x10_1).f8),.int .i64 ((a_c l0_1 x10_1).f9),.int .i64 ((a_c l0_1 x10_1).f10)]] (by rfl) rfl rfl (by (try simp only [List.map_toArray,List.map_cons,List.map_nil]);first|done|rfl|(simp only [List.length_drop,List.length_take];rfl)) ?_
   with_reducible refine (a_X.calls k1 ((a_c l0_1 x10_1).f0) ((a_c l0_1 x10_1).f1) ((a_c l0_1 x10_1).f2) ((a_c l0_1 x10_1).f3) ((a_c l0_1 x10_1).f4) ((a_c l0_1 x10_1).f5) ((a_c l0_1 x10_1).f6) ((a_c l0_1 x10_1).f7) ((a_c l0_1 x10_1).f8) ((a_c l0_1 x10_1).f9) ((a_c l0_1 x10_1).f10) true _ A7.out).mono ?_
   rintro e w37 ⟨rfl,hb⟩
   refine ⟨_,rfl,?_⟩
   replace b_j:=a_d.mk (a_i (bup_ b_j.out) hb)
   replace a_F:=a_d.mk (a_i (bup_ a_F.out) hb)
   replace b_V:=a_d.mk (a_i (bup_ b_V.out) hb)
   replace HB:=a_d.mk (a_o (by repeat (first|(with_reducible first|exact HB.out|apply a_g|apply a_e|apply a_h|refine a_f ?_ d_E.out|refine a_f ?_ d_3.out|refine a_f ?_ e_m.out)|exact HB.out)) hb)
   (try clear hb)
   (try clear hb2)
   (try clear hk)
   (try clear hi)
   refine hK.out _ _ ⟨(a_a a_F.out 0).trans rfl,(a_a a_F.out 1).trans rfl,(a_a a_F.out 2).trans rfl,(a_a a_F.out 3).trans rfl,(a_a a_F.out 4).trans rfl,(a_a a_F.out 5).trans rfl,(a_a a_F.out 6).trans rfl,(a_a a_F.out 7).trans rfl,(a_a a_F.out 8).trans rfl,(a_a a_F.out 9).trans rfl,(a_a a_F.out 10).trans rfl,(a_a b_j.out 0).trans rfl,(a_a b_j.out 1).trans rfl,(a_a b_V.out 0).trans rfl,((HB.out.cell (World.block_lt_of_cell? w _ c_l)).trans c_l),((HB.out.cell (World.block_lt_of_cell? w _ c_k)).trans c_k),((HB.out.cell (World.block_lt_of_cell? w _ c_j)).trans c_j),((HB.out.cell (World.block_lt_of_cell? w _ c_i)).trans c_i),((HB.out.cell (World.block_lt_of_cell? w _ c_h)).trans c_h),((HB.out.cell (World.block_lt_of_cell? w _ c_g)).trans c_g),((HB.out.cell (World.block_lt_of_cell? w _ c_f)).trans c_f),((HB.out.cell (World.block_lt_of_cell? w _ c_e)).trans c_e),((HB.out.cell (World.block_lt_of_cell? w _ c_d)).trans c_d),((HB.out.cell (World.block_lt_of_cell? w _ c_c)).trans c_c),((HB.out.cell (World.block_lt_of_cell? w _ b_X)).trans b_X)⟩ (fun hHeld => ?_)
   clear hK K
   refine d_A (a':=?_) ?_ ?_
   rotate_left
   ·show Act.put _ (some 18) _ = _
    simp only [Act.put,sa_,sb_,sc_,a_t,a_u]
    rfl
   refine a_z (i:=2) (N:=some 19) (v:=?_) (a':=?_) Z13_ rfl rfl (a_q HT_.out (by kernel_rfl)) (fun _ _ _ h => h) (Or.inl ⟨by rfl,?_⟩) ?_ ?_
   rotate_left
   ·intro w'
    go_simp
    with_reducible rfl
   rotate_left
   ·simp only [Act.put,sa_,sb_,sc_,a_t,a_u]
    rfl
   refine a_z (i:=3) (N:=some 20) (v:=?_) (a':=?_) Z17_ rfl rfl (a_q HT_.out (by kernel_rfl)) (fun _ _ _ h => h) (Or.inl ⟨by rfl,?_⟩) ?_ ?_
   rotate_left
   ·intro w'
    go_simp
    with_reducible rfl
   rotate_left
   ·simp only [Act.put,sa_,sb_,sc_,a_t,a_u]
    rfl
   refine a_z (i:=4) (N:=some 21) (v:=?_) (a':=?_) Z21_ rfl rfl (a_q HT_.out (by kernel_rfl)) (fun _ _ _ h => h) (Or.inl ⟨by rfl,?_⟩) ?_ ?_
   rotate_left
   ·intro w'
    go_simp
    with_reducible rfl
   rotate_left
   ·simp only [Act.put,sa_,sb_,sc_,a_t,a_u]
    rfl
   refine a_z (i:=5) (N:=some 22) (v:=?_) (a':=?_) Z26_ rfl rfl (a_q HT_.out (by kernel_rfl)) (fun _ _ _ h => h) (Or.inl ⟨by rfl,?_⟩) ?_ ?_
   rotate_left
   ·intro w'
    go_simp
    with_reducible rfl
   rotate_left
   ·simp only [Act.put,sa_,sb_,sc_,a_t,a_u]
    rfl
   refine a_z (i:=6) (N:=some 23) (v:=?_) (a':=?_) Z29_ rfl rfl (a_q HT_.out (by kernel_rfl)) (fun _ _ _ h => h) (Or.inl ⟨by rfl,?_⟩) ?_ ?_
   rotate_left
   ·intro w'
    go_simp
    with_reducible rfl
   rotate_left
   ·simp only [Act.put,sa_,sb_,sc_,a_t,a_u]
    rfl
   refine a_z (i:=7) (N:=some 24) (v:=?_) (a':=?_) Z33_ rfl rfl (a_q HT_.out (by kernel_rfl)) (fun _ _ _ h => h) (Or.inl ⟨by rfl,?_⟩) ?_ ?_
   rotate_left
   ·intro w'
    go_simp
    with_reducible rfl
   rotate_left
   ·simp only [Act.put,sa_,sb_,sc_,a_t,a_u]
    rfl
   refine a_z (i:=9) (N:=some 26) (v:=?_) (a':=?_) Z36_ rfl rfl (a_q HT_.out (by kernel_rfl)) (fun _ _ _ h => h) (Or.inl ⟨by rfl,?_⟩) ?_ ?_
   rotate_left
   ·intro w'
    go_simp
    with_reducible rfl
   rotate_left
   ·simp only [Act.put,sa_,sb_,sc_,a_t,a_u]
    rfl
   refine a_z (i:=10) (N:=some 27) (v:=?_) (a':=?_) Z37_ rfl rfl (a_q HT_.out (by kernel_rfl)) (fun _ _ _ h => h) (Or.inl ⟨by rfl,?_⟩) ?_ ?_
   rotate_left
   ·intro w'
    go_simp
    with_reducible rfl
   rotate_left
   ·simp only [Act.put,sa_,sb_,sc_,a_t,a_u]
    rfl
   refine a_z (i:=14) (N:=some 31) (v:=?_) (a':=?_) Z38_ rfl rfl (a_q HT_.out (by kernel_rfl)) (fun _ _ _ h => h) (Or.inl ⟨by rfl,?_⟩) ?_ ?_
   rotate_left
   ·intro w'
    go_simp
    with_reducible rfl
   rotate_left
   ·simp only [Act.put,sa_,sb_,sc_,a_t,a_u]
    rfl
   refine b_l (i:=8) (N:=some 25) (v:=?_) (a':=?_) Z52_ rfl rfl (a_O HT_.out HW_.out (by kernel_rfl)) (fun _ _ _ h => h) (Or.inl ⟨by rfl,?_⟩) hHeld ?_ ?_
   rotate_left
   ·rintro w' ⟨s0,s1,s2,s3,s4,s5,s6,s7,s8,s9,s10,s11,s12,s13,s14,s15,s16,s17,s18,s19,s20,s21,s22,s23,s24⟩
    go_simp
    with_reducible rfl
   rotate_left
   ·simp only [Act.put,sa_,sb_,sc_,a_t,a_u]
    rfl
   refine a_z (i:=11) (N:=some 28) (v:=?_) (a':=?_) Z57_ rfl rfl (a_q HT_.out (by kernel_rfl)) (fun _ _ _ h => h) (Or.inl ⟨by rfl,?_⟩) ?_ ?_
   rotate_left
   ·intro w'
    go_simp
    with_reducible rfl
   rotate_left
   ·simp only [Act.put,sa_,sb_,sc_,a_t,a_u]
    rfl
   refine a_z (i:=12) (N:=some 29) (v:=?_) (a':=?_) Z62_ rfl rfl (a_q HT_.out (by kernel_rfl)) (fun _ _ _ h => h) (Or.inl ⟨by rfl,?_⟩) ?_ ?_
   rotate_left
   ·intro w'
    go_simp
    with_reducible rfl
   rotate_left
   ·simp only [Act.put,sa_,sb_,sc_,a_t,a_u]
    rfl
   refine b_l (i:=13) (N:=some 30) (v:=?_) (a':=?_) Z67_ rfl rfl (a_O HT_.out HW_.out (by kernel_rfl)) (fun _ _ _ h => h) (Or.inl ⟨by rfl,?_⟩) hHeld ?_ ?_
   rotate_left
   ·rintro w' ⟨s0,s1,s2,s3,s4,s5,s6,s7,s8,s9,s10,s11,s12,s13,s14,s15,s16,s17,s18,s19,s20,s21,s22,s23,s24⟩
    go_simp
    with_reducible rfl
   rotate_left
   ·simp only [Act.put,sa_,sb_,sc_,a_t,a_u]
    rfl
   refine b_l (i:=15) (N:=some 32) (v:=?_) (a':=?_) Z74_ rfl rfl (a_O HT_.out HW_.out (by kernel_rfl)) (fun _ _ _ h => h) (Or.inl ⟨by rfl,?_⟩) hHeld ?_ ?_
   rotate_left
   ·rintro w' ⟨s0,s1,s2,s3,s4,s5,s6,s7,s8,s9,s10,s11,s12,s13,s14,s15,s16,s17,s18,s19,s20,s21,s22,s23,s24⟩
    go_simp
    with_reducible rfl
   rotate_left
   ·simp only [Act.put,sa_,sb_,sc_,a_t,a_u]
    rfl
   refine a_z (i:=16) (N:=some 33) (v:=?_) (a':=?_) Z78_ rfl rfl (a_q HT_.out (by kernel_rfl)) (fun _ _ _ h => h) (Or.inl ⟨by rfl,?_⟩) ?_ ?_
   rotate_left
   ·intro w'
    go_simp
    with_reducible rfl
   rotate_left
   ·simp only [Act.put,sa_,sb_,sc_,a_t,a_u]
    rfl
   refine a_z (i:=17) (N:=some 34) (v:=?_) (a':=?_) Z82_ rfl rfl (a_q HT_.out (by kernel_rfl)) (fun _ _ _ h => h) (Or.inl ⟨by rfl,?_⟩) ?_ ?_
   rotate_left
   ·intro w'
    go_simp
    with_reducible rfl
   rotate_left
   ·simp only [Act.put,sa_,sb_,sc_,a_t,a_u]
    rfl
   refine a_z (i:=18) (N:=some 35) (v:=?_) (a':=?_) Z87_ rfl rfl (a_q HT_.out (by kernel_rfl)) (fun _ _ _ h => h) (Or.inl ⟨by rfl,?_⟩) ?_ ?_
   rotate_left
   ·intro w'
    go_simp
    with_reducible rfl
   rotate_left
   ·simp only [Act.put,sa_,sb_,sc_,a_t,a_u]
    rfl
   refine a_z (i:=19) (N:=some 36) (v:=?_) (a':=?_) Z91_ rfl rfl (a_q HT_.out (by kernel_rfl)) (fun _ _ _ h => h) (Or.inl ⟨by rfl,?_⟩) ?_ ?_
   rotate_left
   ·intro w'
    go_simp
    with_reducible rfl
   rotate_left
   ·simp only [Act.put,sa_,sb_,sc_,a_t,a_u]
    rfl
   refine a_z (i:=20) (N:=some 37) (v:=?_) (a':=?_) Z95_ rfl rfl (a_q HT_.out (by kernel_rfl)) (fun _ _ _ h => h) (Or.inl ⟨by rfl,?_⟩) ?_ ?_
   rotate_left
   ·intro w'
    go_simp
    with_reducible rfl
   rotate_left
   ·simp only [Act.put,sa_,sb_,sc_,a_t,a_u]
    rfl
   refine a_z (i:=24) (N:=some 41) (v:=?_) (a':=?_) Z97_ rfl rfl (a_q HT_.out (by kernel_rfl)) (fun _ _ _ h => h) (Or.inl ⟨by rfl,?_⟩) ?_ ?_
   rotate_left
   ·intro w'
    go_simp
    with_reducible rfl
   rotate_left
   ·simp only [Act.put,sa_,sb_,sc_,a_t,a_u]
    rfl
   refine b_l (i:=21) (N:=some 38) (v:=?_) (a':=?_) n_C rfl rfl (a_O HT_.out HW_.out (by kernel_rfl)) (fun _ _ _ h => h) (Or.inl ⟨by rfl,?_⟩) hHeld ?_ ?_
   rotate_left
   ·rintro w' ⟨s0,s1,s2,s3,s4,s5,s6,s7,s8,s9,s10,s11,s12,s13,s14,s15,s16,s17,s18,s19,s20,s21,s22,s23,s24⟩
    go_simp
    with_reducible rfl
   rotate_left
   ·simp only [Act.put,sa_,sb_,sc_,a_t,a_u]
    rfl
   refine b_l (i:=22) (N:=some 39) (v:=?_) (a':=?_) n_L rfl rfl (a_O HT_.out HW_.out (by kernel_rfl)) (fun _ _ _ h => h) (Or.inl ⟨by rfl,?_⟩) hHeld ?_ ?_
   rotate_left
   ·rintro w' ⟨s0,s1,s2,s3,s4,s5,s6,s7,s8,s9,s10,s11,s12,s13,s14,s15,s16,s17,s18,s19,s20,s21,s22,s23,s24⟩
    go_simp
    with_reducible rfl
   rotate_left
   ·simp only [Act.put,sa_,sb_,sc_,a_t,a_u]
    rfl
   refine b_l (i:=25) (N:=some 42) (v:=?_) (a':=?_) n_J rfl rfl (a_O HT_.out HW_.out (by kernel_rfl)) (fun _ _ _ h => h) (Or.inl ⟨by rfl,?_⟩) hHeld ?_ ?_
   rotate_left
   ·rintro w' ⟨s0,s1,s2,s3,s4,s5,s6,s7,s8,s9,s10,s11,s12,s13,s14,s15,s16,s17,s18,s19,s20,s21,s22,s23,s24⟩
    go_simp
    with_reducible rfl
   rotate_left
   ·simp only [Act.put,sa_,sb_,sc_,a_t,a_u]
    rfl
   refine one_ (i:=23) (N:=some 40) k_C rfl rfl (b_7 HT_.out (by kernel_rfl)) (by decide) (fun K hK => ?_)
   refine d_O Try.func38 (by kernel_rfl) rfl #[.slice (some ad112) l0_1.length c0_1,.func (.func 51) #[] #[.pointer (some ⟨a_9,0,none⟩)]] (by rfl) rfl rfl (by (try simp only [List.map_toArray,List.map_cons,List.map_nil]);first|done|rfl|(simp only [List.length_drop,List.length_take];rfl)) ?_
   with_reducible refine (b_i.calls _ _ l0_1 a_9 ((a_c l0_1 x10_1).f0) ((a_c l0_1 x10_1).f1) ((a_c l0_1 x10_1).f2) ((a_c l0_1 x10_1).f3) ((a_c l0_1 x10_1).f4) ((a_c l0_1 x10_1).f5) ((a_c l0_1 x10_1).f6) ((a_c l0_1 x10_1).f7) ((a_c l0_1 x10_1).f8) ((a_c l0_1 x10_1).f9) ((a_c l0_1 x10_1).f10) t117 _ ?side1 ?side2 ?side3 A24.out).mono ?_
   (case side1 => repeat (first|exact (Kd.a_U d_i.out HB.out)|(with_reducible refine Kd.a_V ?_ _)|(with_reducible refine Kd.a_W ?_ _)|(with_reducible refine Kd.a_5 ?_)))
   (case side2 => exact f_j.out)
   (case side3 => exact (bup_ a_F.out))
   rintro e w38 ⟨rfl,hb⟩
   refine ⟨_,rfl,?_⟩
   replace b_j:=a_d.mk (a_i (bup_ b_j.out) hb)
   replace a_F:=a_d.mk (a_i (bup_ a_F.out) hb)
   replace b_V:=a_d.mk (a_i (bup_ b_V.out) hb)
   replace HB:=a_d.mk (a_o (by repeat (first|(with_reducible first|exact HB.out|apply a_g|apply a_e|apply a_h|refine a_f ?_ d_E.out|refine a_f ?_ d_3.out|refine a_f ?_ e_m.out)|exact HB.out)) hb)
   (try clear hb)
   (try clear hb2)
   (try clear hk)
   (try clear hi)
   refine hK.out _ _ ⟨(a_a a_F.out 0).trans rfl,(a_a a_F.out 1).trans rfl,(a_a a_F.out 2).trans rfl,(a_a a_F.out 3).trans rfl,(a_a a_F.out 4).trans rfl,(a_a a_F.out 5).trans rfl,(a_a a_F.out 6).trans rfl,(a_a a_F.out 7).trans rfl,(a_a a_F.out 8).trans rfl,(a_a a_F.out 9).trans rfl,(a_a a_F.out 10).trans rfl,(a_a b_j.out 0).trans rfl,(a_a b_j.out 1).trans rfl,(a_a b_V.out 0).trans rfl,((HB.out.cell (World.block_lt_of_cell? w _ c_l)).trans c_l),((HB.out.cell (World.block_lt_of_cell? w _ c_k)).trans c_k),((HB.out.cell (World.block_lt_of_cell? w _ c_j)).trans c_j),((HB.out.cell (World.block_lt_of_cell? w _ c_i)).trans c_i),((HB.out.cell (World.block_lt_of_cell? w _ c_h)).trans c_h),((HB.out.cell (World.block_lt_of_cell? w _ c_g)).trans c_g),((HB.out.cell (World.block_lt_of_cell? w _ c_f)).trans c_f),((HB.out.cell (World.block_lt_of_cell? w _ c_e)).trans c_e),((HB.out.cell (World.block_lt_of_cell? w _ c_d)).trans c_d),((HB.out.cell (World.block_lt_of_cell? w _ c_c)).trans c_c),((HB.out.cell (World.block_lt_of_cell? w _ b_X)).trans b_X)⟩ (fun hHeld => ?_)
   clear hK K
   refine d_A (a':=?_) ?_ ?_
   rotate_left
   ·show Act.put _ (some 40) _ = _
    simp only [Act.put,sa_,sb_,sc_,a_t,a_u]
    rfl
   refine a_z (i:=26) (N:=some 43) (v:=?_) (a':=?_) k_B rfl rfl (a_q HT_.out (by kernel_rfl)) (fun _ _ _ h => h) (Or.inl ⟨by rfl,?_⟩) ?_ ?_
   rotate_left
   ·intro w'
    go_simp
    with_reducible rfl
   rotate_left
   ·simp only [Act.put,sa_,sb_,sc_,a_t,a_u]
    rfl
   refine a_z (i:=27) (N:=some 44) (v:=?_) (a':=?_) k_I rfl rfl (a_q HT_.out (by kernel_rfl)) (fun _ _ _ h => h) (Or.inl ⟨by rfl,?_⟩) ?_ ?_
   rotate_left
   ·intro w'
    go_simp
    with_reducible rfl
   rotate_left
   ·simp only [Act.put,sa_,sb_,sc_,a_t,a_u]
    rfl
   refine a_z (i:=28) (N:=some 45) (v:=?_) (a':=?_) k_u rfl rfl (a_q HT_.out (by kernel_rfl)) (fun _ _ _ h => h) (Or.inl ⟨by rfl,?_⟩) ?_ ?_
   rotate_left
   ·intro w'
    go_simp
    with_reducible rfl
   rotate_left
   ·simp only [Act.put,sa_,sb_,sc_,a_t,a_u]
    rfl
   refine a_z (i:=29) (N:=some 46) (v:=?_) (a':=?_) k_L rfl rfl (a_q HT_.out (by kernel_rfl)) (fun _ _ _ h => h) (Or.inl ⟨by rfl,?_⟩) ?_ ?_
   rotate_left
   ·intro w'
    go_simp
    with_reducible rfl
   rotate_left
   ·simp only [Act.put,sa_,sb_,sc_,a_t,a_u]
    rfl
   refine a_z (i:=31) (N:=some 48) (v:=?_) (a':=?_) r_e rfl rfl (a_q HT_.out (by kernel_rfl)) (fun _ _ _ h => h) (Or.inl ⟨by rfl,?_⟩) ?_ ?_
   rotate_left
   ·intro w'
    go_simp
    with_reducible rfl
   rotate_left
   ·simp only [Act.put,sa_,sb_,sc_,a_t,a_u]
    rfl
   refine a_z (i:=33) (N:=some 50) (v:=?_) (a':=?_) q_P rfl rfl (a_q HT_.out (by kernel_rfl)) (fun _ _ _ h => h) (Or.inl ⟨by rfl,?_⟩) ?_ ?_
   rotate_left
   ·intro w'
    go_simp
    with_reducible rfl
   rotate_left
   ·simp only [Act.put,sa_,sb_,sc_,a_t,a_u]
    rfl
   refine b_l (i:=30) (N:=some 47) (v:=?_) (a':=?_) q_J rfl rfl (a_O HT_.out HW_.out (by kernel_rfl)) (fun _ _ _ h => h) (Or.inl ⟨by rfl,?_⟩) hHeld ?_ ?_
   rotate_left
   ·rintro w' ⟨s0,s1,s2,s3,s4,s5,s6,s7,s8,s9,s10,s11,s12,s13,s14,s15,s16,s17,s18,s19,s20,s21,s22,s23,s24⟩
    go_simp
    with_reducible rfl
   rotate_left
   ·simp only [Act.put,sa_,sb_,sc_,a_t,a_u]
    rfl
   refine b_l (i:=34) (N:=some 51) (v:=?_) (a':=?_) q_I rfl rfl (a_O HT_.out HW_.out (by kernel_rfl)) (fun _ _ _ h => h) (Or.inl ⟨by rfl,?_⟩) hHeld ?_ ?_
   rotate_left
   ·rintro w' ⟨s0,s1,s2,s3,s4,s5,s6,s7,s8,s9,s10,s11,s12,s13,s14,s15,s16,s17,s18,s19,s20,s21,s22,s23,s24⟩
    go_simp
    with_reducible rfl
   rotate_left
   ·simp only [Act.put,sa_,sb_,sc_,a_t,a_u]
    rfl
   refine one_ (i:=32) (N:=some 49) k_m rfl rfl (b_7 HT_.out (by kernel_rfl)) (by decide) (fun K hK => ?_)
   refine d_O Try.func38 (by kernel_rfl) rfl #[.slice (some ad112) l0_1.length c0_1,.func (.func 52) #[] #[.pointer (some ⟨e_l,0,none⟩),.pointer (some ⟨a_9,0,none⟩)]] (by rfl) rfl rfl (by (try simp only [List.map_toArray,List.map_cons,List.map_nil]);first|done|rfl|(simp only [List.length_drop,List.length_take];rfl)) ?_
   with_reducible refine (b_g.calls _ _ l0_1 e_l a_9 a_9 ((a_c l0_1 x10_1).f0) ((a_c l0_1 x10_1).f1) ((a_c l0_1 x10_1).f2) ((a_c l0_1 x10_1).f3) ((a_c l0_1 x10_1).f4) ((a_c l0_1 x10_1).f5) ((a_c l0_1 x10_1).f6) ((a_c l0_1 x10_1).f7) ((a_c l0_1 x10_1).f8) ((a_c l0_1 x10_1).f9) ((a_c l0_1 x10_1).f10) ((a_c l0_1 x10_1).f0) ((a_c l0_1 x10_1).f1) ((a_c l0_1 x10_1).f2) ((a_c l0_1 x10_1).f3) ((a_c l0_1 x10_1).f4) ((a_c l0_1 x10_1).f5) ((a_c l0_1 x10_1).f6) ((a_c l0_1 x10_1).f7) ((a_c l0_1 x10_1).f8) ((a_c l0_1 x10_1).f9) ((a_c l0_1 x10_1).f10) t118 _ ?side1 ?side2 ?side3 ?side4 ?side5 A26.out).mono ?_
   (case side1 => repeat (first|exact (Kd.a_U d_i.out HB.out)|(with_reducible refine Kd.a_V ?_ _)|(with_reducible refine Kd.a_W ?_ _)|(with_reducible refine Kd.a_5 ?_)))
   (case side2 => exact f_j.out)
   (case side3 => exact (bup_ b_V.out))
   (case side4 => exact (bup_ a_F.out))
   (case side5 => exact (bup_ a_F.out))
   rintro e w39 ⟨rfl,hb⟩
   refine ⟨_,rfl,?_⟩
   replace b_j:=a_d.mk (a_i (bup_ b_j.out) hb)
   replace a_F:=a_d.mk (a_i (bup_ a_F.out) hb)
   replace b_V:=a_d.mk (a_i (bup_ b_V.out) hb)
   replace HB:=a_d.mk (a_o (by repeat (first|(with_reducible first|exact HB.out|apply a_g|apply a_e|apply a_h|refine a_f ?_ d_E.out|refine a_f ?_ d_3.out|refine a_f ?_ e_m.out)|exact HB.out)) hb)
   (try clear hb)
   (try clear hb2)
   (try clear hk)
   (try clear hi)
   refine hK.out _ _ ⟨(a_a a_F.out 0).trans rfl,(a_a a_F.out 1).trans rfl,(a_a a_F.out 2).trans rfl,(a_a a_F.out 3).trans rfl,(a_a a_F.out 4).trans rfl,(a_a a_F.out 5).trans rfl,(a_a a_F.out 6).trans rfl,(a_a a_F.out 7).trans rfl,(a_a a_F.out 8).trans rfl,(a_a a_F.out 9).trans rfl,(a_a a_F.out 10).trans rfl,(a_a b_j.out 0).trans rfl,(a_a b_j.out 1).trans rfl,(a_a b_V.out 0).trans rfl,((HB.out.cell (World.block_lt_of_cell? w _ c_l)).trans c_l),((HB.out.cell (World.block_lt_of_cell? w _ c_k)).trans c_k),((HB.out.cell (World.block_lt_of_cell? w _ c_j)).trans c_j),((HB.out.cell (World.block_lt_of_cell? w _ c_i)).trans c_i),((HB.out.cell (World.block_lt_of_cell? w _ c_h)).trans c_h),((HB.out.cell (World.block_lt_of_cell? w _ c_g)).trans c_g),((HB.out.cell (World.block_lt_of_cell? w _ c_f)).trans c_f),((HB.out.cell (World.block_lt_of_cell? w _ c_e)).trans c_e),((HB.out.cell (World.block_lt_of_cell? w _ c_d)).trans c_d),((HB.out.cell (World.block_lt_of_cell? w _ c_c)).trans c_c),((HB.out.cell (World.block_lt_of_cell? w _ b_X)).trans b_X)⟩ (fun hHeld => ?_)
   clear hK K
   refine d_A (a':=?_) ?_ ?_
   rotate_left
   ·show Act.put _ (some 49) _ = _
    simp only [Act.put,sa_,sb_,sc_,a_t,a_u]
    rfl
   refine a_z (i:=35) (N:=some 52) (v:=?_) (a':=?_) k_K rfl rfl (a_q HT_.out (by kernel_rfl)) (fun _ _ _ h => h) (Or.inl ⟨by rfl,?_⟩) ?_ ?_
   rotate_left
   ·intro w'
    go_simp
    with_reducible rfl
   rotate_left
   ·simp only [Act.put,sa_,sb_,sc_,a_t,a_u]
    rfl
   refine a_z (i:=36) (N:=some 53) (v:=?_) (a':=?_) k_y rfl rfl (a_q HT_.out (by kernel_rfl)) (fun _ _ _ h => h) (Or.inl ⟨by rfl,?_⟩) ?_ ?_
   rotate_left
   ·intro w'
    go_simp
    with_reducible rfl
   rotate_left
   ·simp only [Act.put,sa_,sb_,sc_,a_t,a_u]
    rfl
   refine e_j (c_q HT_.out (by kernel_rfl)) ?_
   try go_wp2
   go_roundg k1
   case measure => have:=HK1.out;omega
   case rel => exact ⟨(wrap64 (x10_1 + 1)),(by first|rfl|(simp;done)|(simp [*];done)),H',⟨by have:=HK1.out;omega⟩,⟨by (with_reducible repeat (first|refine a_l ?_ _|refine a_m ?_|refine a_j ?_ _));exact b_j.out⟩,⟨by repeat (first|(with_reducible first|exact HB.out|apply a_g|apply a_e|apply a_h|refine a_f ?_ d_E.out|refine a_f ?_ d_3.out|refine a_f ?_ e_m.out)|exact HB.out)⟩⟩
end Go.Proofs.Ytgglkfilkagblaa.Q
end
