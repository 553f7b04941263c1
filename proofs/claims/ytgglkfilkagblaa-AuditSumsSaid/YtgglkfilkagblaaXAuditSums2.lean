/- Part 3 of 9 of what the row of AuditSums stands on: contracts over the given program's functions, the plain law, the row; no condition beyond those that each theorem states. -/
import Derived.Test.YtgglkfilkagblaaXAuditSums1
section
namespace Go.Proofs.Ytgglkfilkagblaa.Q
open Go.RowKit Go.Proofs.YtgglkfilkagblaaW.PrintWords Go.Proofs.YtgglkfilkagblaaW.PrintLast Go.Proofs.YtgglkfilkagblaaW.PrintMore
set_option linter.unusedVariables false
set_option linter.unusedSimpArgs false
def a_y.l0 : Nat → List (S65) → Int → Int → Int → List (S65) → Option (Bool)
 | 0,_,_,_,_,_ => none
 | k + 1,x8,x9,x10,x112000,x112001 => if x10 < x9 then (if 0 ≤ x10 then (if x10 < (x8.length : Int) then ((a_K.f k ((a_d x8 x10).f0) ((a_d x8 x10).f1) ((a_d x8 x10).f2) ((a_d x8 x10).f3) ((a_d x8 x10).f4) ((a_d x8 x10).f5) ((a_d x8 x10).f6) ((a_d x8 x10).f7) ((a_d x8 x10).f8) ((a_d x8 x10).f9) ((a_d x8 x10).f10)).bind fun t115 => (if t115 = true then (if x10 > 0 then (if 0 ≤ (wrap64 (x10 - 1)) then (if (wrap64 (x10 - 1)) < (x112001.length : Int) then (if ((a_d x112001 (wrap64 (x10 - 1))).f0) ≥ ((a_d x8 x10).f0) then (some false) else ((a_4.f x112001 ((a_d x8 x10).f0) ((a_d x8 x10).f1) ((a_d x8 x10).f2) ((a_d x8 x10).f3) ((a_d x8 x10).f4) ((a_d x8 x10).f5) ((a_d x8 x10).f6) ((a_d x8 x10).f7) ((a_d x8 x10).f8) ((a_d x8 x10).f9) ((a_d x8 x10).f10)).bind fun t117 => (if t117 = ((a_d x8 x10).f9) then ((a_2.f x112001 ((a_d x8 x10).f0) ((a_d x8 x10).f1) ((a_d x8 x10).f2) ((a_d x8 x10).f3) ((a_d x8 x10).f4) ((a_d x8 x10).f5) ((a_d x8 x10).f6) ((a_d x8 x10).f7) ((a_d x8 x10).f8) ((a_d x8 x10).f9) ((a_d x8 x10).f10) ((a_d x8 x10).f0) ((a_d x8 x10).f1) ((a_d x8 x10).f2) ((a_d x8 x10).f3) ((a_d x8 x10).f4) ((a_d x8 x10).f5) ((a_d x8 x10).f6) ((a_d x8 x10).f7) ((a_d x8 x10).f8) ((a_d x8 x10).f9) ((a_d x8 x10).f10)).bind fun t118 => (if t118 = ((a_d x8 x10).f9) then (a_y.l0 k x8 x9 (wrap64 (x10 + 1)) x112000 x112001) else (some false))) else (some false)))) else (none)) else (none)) else ((a_4.f x112001 ((a_d x8 x10).f0) ((a_d x8 x10).f1) ((a_d x8 x10).f2) ((a_d x8 x10).f3) ((a_d x8 x10).f4) ((a_d x8 x10).f5) ((a_d x8 x10).f6) ((a_d x8 x10).f7) ((a_d x8 x10).f8) ((a_d x8 x10).f9) ((a_d x8 x10).f10)).bind fun t119 => (if t119 = ((a_d x8 x10).f9) then ((a_2.f x112001 ((a_d x8 x10).f0) ((a_d x8 x10).f1) ((a_d x8 x10).f2) ((a_d x8 x10).f3) ((a_d x8 x10).f4) ((a_d x8 x10).f5) ((a_d x8 x10).f6) ((a_d x8 x10).f7) ((a_d x8 x10).f8) ((a_d x8 x10).f9) ((a_d x8 x10).f10) ((a_d x8 x10).f0) ((a_d x8 x10).f1) ((a_d x8 x10).f2) ((a_d x8 x10).f3) ((a_d x8 x10).f4) ((a_d x8 x10).f5) ((a_d x8 x10).f6) ((a_d x8 x10).f7) ((a_d x8 x10).f8) ((a_d x8 x10).f9) ((a_d x8 x10).f10)).bind fun t120 => (if t120 = ((a_d x8 x10).f9) then (a_y.l0 k x8 x9 (wrap64 (x10 + 1)) x112000 x112001) else (some false))) else (some false)))) else (some false))) else (none)) else (none)) else (if x112000 ≥ 0 then (some (decide (x112000 ≤ 1125899906842624))) else (some false))
def a_y.f (k : Nat) (a0_0 : Int) (l0_1 : List (S65)) : Option (Bool):=a_y.l0 k l0_1 (l0_1.length : Int) 0 a0_0 l0_1
theorem a_y.c_8 : ∀ k,(∀ y0 y1 y2 y3 y4,LeO (a_y.l0 k y0 y1 y2 y3 y4) (a_y.l0 (k + 1) y0 y1 y2 y3 y4))
 | 0 => fun _ _ _ _ _ r h => by simp [a_y.l0] at h
 | k + 1 => by
  have ih0:=a_y.c_8 k
  ·intro y0 y1 y2 y3 y4
   unfold a_y.l0
   repeat' first
   | (with_reducible exact ih0 _ _ _ _ _)
   | (with_reducible exact a_K.mono _ _ _ _ _ _ _ _ _ _ _ _)
   | (with_reducible exact LeO.refl _)
   | (with_reducible exact LeO.none _)
   | (with_reducible refine LeO.ite ?_ ?_)
   | (with_reducible refine LeO.bind ?_ (fun _ => ?_))
   | exact ih0 _ _ _ _ _
   | exact a_K.mono _ _ _ _ _ _ _ _ _ _ _ _
   | exact LeO.none _
   | refine LeO.ite ?_ ?_
   | refine LeO.bind ?_ (fun _ => ?_)
theorem a_y.mono : ∀ a0 a1 k,LeO (a_y.f k a0 a1) (a_y.f (k + 1) a0 a1):=by
 intro a0 a1 k
 have ih0:=a_y.c_8 k
 unfold a_y.f
 repeat' first
  | (with_reducible exact ih0 _ _ _ _ _)
  | (with_reducible exact a_K.mono _ _ _ _ _ _ _ _ _ _ _ _)
  | (with_reducible exact LeO.refl _)
  | (with_reducible exact LeO.none _)
  | (with_reducible refine LeO.ite ?_ ?_)
  | (with_reducible refine LeO.bind ?_ (fun _ => ?_))
  | exact ih0 _ _ _ _ _
  | exact a_K.mono _ _ _ _ _ _ _ _ _ _ _ _
  | exact LeO.none _
  | refine LeO.ite ?_ ?_
  | refine LeO.bind ?_ (fun _ => ?_)
def a_y.T6 : Bool × List (List Nat × List Nat):=(true,[([],[]),([0],[0]),([1],[1]),([2,1],[2]),([3],[3]),([4,3],[3,4]),([5,3,3],[3,5]),([6],[6]),([7,6],[6,7]),([6],[6]),([9,6],[6,9]),([8,10,6],[6,8,10]),([11,6],[6,11]),([12,6],[6,12]),([6],[6]),([14,6],[6,14]),([13,15,6],[6,13,15]),([6,16,3],[3,6,16]),([3,17],[3,17]),([18,6],[18]),([19],[19]),([20,19],[19,20]),([19],[19]),([21,22,19,19],[19,21,22]),([19],[19]),([24,19],[19,24]),([23,25,19],[19,23,25]),([19,26],[19,26]),([27,23],[27]),([28],[28]),([29,28],[28,29]),([28],[28]),([30,31,28,28],[28,30,31]),([28],[28]),([33,28],[28,33]),([32,34,28],[28,32,34]),([28,35],[28,35])])
def a_y.B6 : List Nat:=[0,1,3,7,15,31,63,127,255,127,639,2047,4095,8191,127,16511,65535,131071,262143,524287,1048575,2097151,1048575,8388607,1048575,17825791,67108863,134217727,268435455,536870911,1073741823,536870911,4294967295,536870911,9126805503,34359738367,68719476735]
theorem a_y.tab6 : rtab .any (opsOf Try.f24 6) = a_y.T6:=by kernel_rfl
theorem a_y.e_r : d_4 a_y.T6.2 a_y.B6 = true:=by kernel_rfl
set_option maxHeartbeats 8000000 in
set_option maxRecDepth 100000 in
theorem a_y.calls (k : Nat) (a0_0 : Int) (A0_1 : Option Addr) (c0_1 : Nat) (l0_1 : List (S65)) (r : Bool) (w : World) (hr0_1 : Kd.C k65 w A0_1 l0_1.length l0_1) (hc0_1 : l0_1.length ≤ c0_1) (h : a_y.f k a0_0 l0_1 = some r) :
 Calls Try.prog 24 #[.agg #[.int .i64 a0_0,.slice A0_1 l0_1.length c0_1]] w fun e w' => e = .returned (.bool r) ∧ Below w.heap.size w w':=by
 have hu27:=Try.underlying27
 have hu65:=Try.underlying65
 have hu68:=Try.underlying68
 have d_h:=a_c.mk hr0_1
 have e_e:=a_c.mk hc0_1
 clear hr0_1 hc0_1
 have HB:=a_c.mk (Below.refl w.heap.size w)
 have H : (a_y.l0 k l0_1 (l0_1.length : Int) 0 a0_0 l0_1) = some r:=h
 clear h
 have H':=a_c.mk H
 clear H
 go_enter Try.func24,Try.ntmps24
 go_wp2_with (first|((with_reducible refine a_M (N:=1) rfl ?_);refine a_G ?hg (N:=1) ?hd (cs:=#[.int .i64 a0_0,.slice A0_1 l0_1.length c0_1]) (t:=27) ?hr ?_;(case hd => rfl);(case hg => rfl);(case hr => first|(go_simp;done)|(go_simp;rfl));intro c_5 hg w2 hbox hb;have a_5:=a_c.mk (hbox);have t_E:=a_c.mk ((by rw [hg];exact (a_n (lup_ HB.out)) : w.heap.size ≤ c_5));have c_R:=a_c.mk ((by rw [hg];exact (a_n (lup_ HB.out)) : w.heap.size ≤ c_5));replace HB:=a_c.mk (a_o (lup_ HB.out) hb);clear hb hbox hg;have o_e : w2.cell? ⟨c_5,0,none⟩ = some (.int .i64 a0_0):=(a_a a_5.out 0).trans rfl;have o_f : w2.cell? ⟨c_5,1,none⟩ = some (.slice A0_1 l0_1.length c0_1):=(a_a a_5.out 1).trans rfl;have o_g:=a_e a_5.out 0;have o_h:=a_e a_5.out 1))
 go_loopg [10] k (fun kq v10 w' => ∃ (x10_1 : Int),v10 = .int .i64 x10_1 ∧ a_c (a_y.l0 kq l0_1 (l0_1.length : Int) x10_1 a0_0 l0_1 = some r) ∧ a_c (kq ≤ k) ∧ a_c (w'.heap[c_5]? = some (.cells #[.int .i64 a0_0,(.slice A0_1 l0_1.length c0_1)] 27 (0,0))) ∧ a_c (Below w.heap.size w w'))
 case atStart => exact ⟨(0),(by first|rfl|(simp;done)|(simp [*];done)),H',⟨Nat.le_refl _⟩,⟨by (with_reducible repeat (first|refine a_j ?_ _|refine a_l ?_|refine a_i ?_ _));exact a_5.out⟩,⟨by repeat (first|(with_reducible first|exact HB.out|apply a_g|apply a_b|apply a_h|refine a_f ?_ c_R.out)|exact HB.out)⟩⟩
 case round =>
  clear H'
  try clear c2
  try clear p2
  try clear o_e
  try clear o_f
  try clear o_g
  try clear o_h
  obtain ⟨x10_1,rfl,HA,HK1,a_5,HB⟩:=hrel
  cases gk with
  | zero => exact absurd HA.out (by simp [a_y.l0])
  | succ k1 =>
   have H:=HA.out
   clear HA
   simp only [a_y.l0] at H
   by_cases c4 : x10_1 < (l0_1.length : Int)
   rotate_left
   ·rw [if_neg c4] at H
    have c4b0 : decide (x10_1 < (l0_1.length : Int)) = false:=decide_eq_false c4
    clear c4
    by_cases c112 : a0_0 ≥ 0
    ·rw [if_pos c112] at H
     have c112b0 : decide (0 ≤ a0_0) = true:=decide_eq_true c112
     clear c112
     obtain rfl:=Option.some.inj H
     have o_V : wr.cell? ⟨c_5,0,none⟩ = some (.int .i64 a0_0):=(a_a a_5.out 0).trans rfl
     have o_W : wr.cell? ⟨c_5,1,none⟩ = some (.slice A0_1 l0_1.length c0_1):=(a_a a_5.out 1).trans rfl
     have o_X:=a_e a_5.out 0
     have o_Y:=a_e a_5.out 1
     go_wp2
     go_ret
     exact ⟨by first|rfl|(simp [a_v,a_u] <;> rfl)|(simp [*, a_v,a_u] <;> rfl),by repeat (first|(with_reducible first|exact HB.out|apply a_g|apply a_b|apply a_h|refine a_f ?_ c_R.out)|exact HB.out)⟩
    rw [if_neg c112] at H
    have c112b0 : decide (0 ≤ a0_0) = false:=decide_eq_false c112
    clear c112
    obtain rfl:=Option.some.inj H
    have o_Z : wr.cell? ⟨c_5,0,none⟩ = some (.int .i64 a0_0):=(a_a a_5.out 0).trans rfl
    have o_0 : wr.cell? ⟨c_5,1,none⟩ = some (.slice A0_1 l0_1.length c0_1):=(a_a a_5.out 1).trans rfl
    have o_1:=a_e a_5.out 0
    have o_2:=a_e a_5.out 1
    go_wp2
    go_ret
    exact ⟨by first|rfl|(simp [a_v,a_u] <;> rfl)|(simp [*, a_v,a_u] <;> rfl),by repeat (first|(with_reducible first|exact HB.out|apply a_g|apply a_b|apply a_h|refine a_f ?_ c_R.out)|exact HB.out)⟩
   rw [if_pos c4] at H
   have c4b0 : decide (x10_1 < (l0_1.length : Int)) = true:=decide_eq_true c4
   clear c4
   by_cases c5 : 0 ≤ x10_1
   rotate_left
   ·rw [if_neg c5] at H
    exact absurd H (by simp)
   rw [if_pos c5] at H
   have c5b0 : decide (0 ≤ x10_1) = true:=decide_eq_true c5
   clear c5
   by_cases c6 : x10_1 < (l0_1.length : Int)
   rotate_left
   ·rw [if_neg c6] at H
    exact absurd H (by simp)
   rw [if_pos c6] at H
   have c6b0 : decide (x10_1 < (l0_1.length : Int)) = true:=decide_eq_true c6
   clear c6
   have p112 : 0 ≤ (x10_1 : Int):=of_decide_eq_true (by first|(with_reducible assumption)|assumption)
   have q112 : x10_1 < (l0_1.length : Int):=of_decide_eq_true (by first|(with_reducible assumption)|assumption)
   obtain ⟨ad112,e112,g_5,g_6,g_7,g_8,g_9,h_a,h_b,h_d,h_e,h_f,g_b⟩:=d_F d_h.out x10_1 p112 q112
   cases e112
   replace g_5:=(HB.out.cell (World.block_lt_of_cell? w _ g_5)).trans g_5
   replace g_6:=(HB.out.cell (World.block_lt_of_cell? w _ g_6)).trans g_6
   replace g_7:=(HB.out.cell (World.block_lt_of_cell? w _ g_7)).trans g_7
   replace g_8:=(HB.out.cell (World.block_lt_of_cell? w _ g_8)).trans g_8
   replace g_9:=(HB.out.cell (World.block_lt_of_cell? w _ g_9)).trans g_9
   replace h_a:=(HB.out.cell (World.block_lt_of_cell? w _ h_a)).trans h_a
   replace h_b:=(HB.out.cell (World.block_lt_of_cell? w _ h_b)).trans h_b
   replace h_d:=(HB.out.cell (World.block_lt_of_cell? w _ h_d)).trans h_d
   replace h_e:=(HB.out.cell (World.block_lt_of_cell? w _ h_e)).trans h_e
   replace h_f:=(HB.out.cell (World.block_lt_of_cell? w _ h_f)).trans h_f
   replace g_b:=(HB.out.cell (World.block_lt_of_cell? w _ g_b)).trans g_b
   replace p112:=eq_true p112
   replace q112:=eq_true q112
   try go_wp2_with (first|((with_reducible refine a_M (N:=4) rfl ?_);refine a_G ?hg (N:=4) ?hd (cs:=#[.int .i64 0,.int .i64 0,.int .i64 0,.int .i64 0,.int .i64 0,.bool false,.bool false,.int .u32 0,.int .i64 0,.int .i64 0,.int .i64 0]) (t:=65) ?hr ?_;(case hd => rfl);(case hg => rfl);(case hr => first|(go_simp;done)|(go_simp;rfl));intro a_X hg w14 hbox hb;have a_w:=a_c.mk (hbox);have t_F:=a_c.mk ((by rw [hg];exact (a_n (by repeat (first|(with_reducible first|exact HB.out|apply a_g|apply a_b|apply a_h|refine a_f ?_ c_R.out)|exact HB.out))) : w.heap.size ≤ a_X));have d_a:=a_c.mk ((by rw [hg];exact (a_n (by repeat (first|(with_reducible first|exact HB.out|apply a_g|apply a_b|apply a_h|refine a_f ?_ c_R.out)|exact HB.out))) : w.heap.size ≤ a_X));have b_e:=a_c.mk ((by rw [hg];exact Nat.ne_of_lt (a_J (bup_ a_5.out)) : c_5 ≠ a_X));have j_R:=a_c.mk ((by rw [hg];exact Nat.ne_of_gt (a_J (bup_ a_5.out)) : a_X ≠ c_5));replace a_5:=a_c.mk (a_m (bup_ a_5.out) hb);replace HB:=a_c.mk (a_o (by repeat (first|(with_reducible first|exact HB.out|apply a_g|apply a_b|apply a_h|refine a_f ?_ c_R.out)|exact HB.out)) hb);clear hb hbox hg;have o_i:=j_R.out;have o_j:=b_e.out;have d_P : w14.cell? ⟨a_X,0,none⟩ = some (.int .i64 0):=(a_a a_w.out 0).trans rfl;have d_Q : w14.cell? ⟨a_X,1,none⟩ = some (.int .i64 0):=(a_a a_w.out 1).trans rfl;have q_d : w14.cell? ⟨a_X,2,none⟩ = some (.int .i64 0):=(a_a a_w.out 2).trans rfl;have q_e : w14.cell? ⟨a_X,3,none⟩ = some (.int .i64 0):=(a_a a_w.out 3).trans rfl;have q_f : w14.cell? ⟨a_X,4,none⟩ = some (.int .i64 0):=(a_a a_w.out 4).trans rfl;have q_g : w14.cell? ⟨a_X,5,none⟩ = some (.bool false):=(a_a a_w.out 5).trans rfl;have q_h : w14.cell? ⟨a_X,6,none⟩ = some (.bool false):=(a_a a_w.out 6).trans rfl;have q_i : w14.cell? ⟨a_X,7,none⟩ = some (.int .u32 0):=(a_a a_w.out 7).trans rfl;have q_j : w14.cell? ⟨a_X,8,none⟩ = some (.int .i64 0):=(a_a a_w.out 8).trans rfl;have q_k : w14.cell? ⟨a_X,9,none⟩ = some (.int .i64 0):=(a_a a_w.out 9).trans rfl;have o_3 : w14.cell? ⟨a_X,10,none⟩ = some (.int .i64 0):=(a_a a_w.out 10).trans rfl;have d_R:=a_e a_w.out 0;have d_S:=a_e a_w.out 1;have q_l:=a_e a_w.out 2;have q_m:=a_e a_w.out 3;have q_n:=a_e a_w.out 4;have q_o:=a_e a_w.out 5;have q_p:=a_e a_w.out 6;have q_q:=a_e a_w.out 7;have q_r:=a_e a_w.out 8;have q_s:=a_e a_w.out 9;have o_4:=a_e a_w.out 10)|((with_reducible refine a_M (N:=5) rfl ?_);refine a_G ?hg (N:=5) ?hd (cs:=#[.nilFunc]) (t:=68) ?hr ?_;(case hd => rfl);(case hg => rfl);(case hr => first|(go_simp;done)|(go_simp;rfl));intro d_l hg w17 hbox hb;have b_A:=a_c.mk (hbox);have t_G:=a_c.mk ((by rw [hg];exact (a_n (by repeat (first|(with_reducible first|exact HB.out|apply a_g|apply a_b|apply a_h|refine a_f ?_ c_R.out|refine a_f ?_ d_a.out)|exact HB.out))) : w.heap.size ≤ d_l));have d_m:=a_c.mk ((by rw [hg];exact (a_n (by repeat (first|(with_reducible first|exact HB.out|apply a_g|apply a_b|apply a_h|refine a_f ?_ c_R.out|refine a_f ?_ d_a.out)|exact HB.out))) : w.heap.size ≤ d_l));have g_D:=a_c.mk ((by rw [hg];exact Nat.ne_of_lt (a_J (g:=c_5) (o:=.cells #[.int .i64 a0_0,.slice (some ad112) l0_1.length c0_1] 27 (0,0)) (by (with_reducible repeat (first|refine a_j ?_ _|refine a_l ?_|refine a_i ?_ _));refine a_I ?_ b_e.out _;(with_reducible repeat (first|refine a_j ?_ _|refine a_l ?_|refine a_i ?_ _));refine a_I ?_ b_e.out _;(with_reducible repeat (first|refine a_j ?_ _|refine a_l ?_|refine a_i ?_ _));refine a_I ?_ b_e.out _;(with_reducible repeat (first|refine a_j ?_ _|refine a_l ?_|refine a_i ?_ _));refine a_I ?_ b_e.out _;(with_reducible repeat (first|refine a_j ?_ _|refine a_l ?_|refine a_i ?_ _));refine a_I ?_ b_e.out _;(with_reducible repeat (first|refine a_j ?_ _|refine a_l ?_|refine a_i ?_ _));refine a_I ?_ b_e.out _;(with_reducible repeat (first|refine a_j ?_ _|refine a_l ?_|refine a_i ?_ _));refine a_I ?_ b_e.out _;(with_reducible repeat (first|refine a_j ?_ _|refine a_l ?_|refine a_i ?_ _));refine a_I ?_ b_e.out _;(with_reducible repeat (first|refine a_j ?_ _|refine a_l ?_|refine a_i ?_ _));refine a_I ?_ b_e.out _;(with_reducible repeat (first|refine a_j ?_ _|refine a_l ?_|refine a_i ?_ _));refine a_I ?_ b_e.out _;(with_reducible repeat (first|refine a_j ?_ _|refine a_l ?_|refine a_i ?_ _));refine a_I ?_ b_e.out _;(with_reducible repeat (first|refine a_j ?_ _|refine a_l ?_|refine a_i ?_ _));exact a_5.out)) : c_5 ≠ d_l));have j_S:=a_c.mk ((by rw [hg];exact Nat.ne_of_gt (a_J (g:=c_5) (o:=.cells #[.int .i64 a0_0,.slice (some ad112) l0_1.length c0_1] 27 (0,0)) (by (with_reducible repeat (first|refine a_j ?_ _|refine a_l ?_|refine a_i ?_ _));refine a_I ?_ b_e.out _;(with_reducible repeat (first|refine a_j ?_ _|refine a_l ?_|refine a_i ?_ _));refine a_I ?_ b_e.out _;(with_reducible repeat (first|refine a_j ?_ _|refine a_l ?_|refine a_i ?_ _));refine a_I ?_ b_e.out _;(with_reducible repeat (first|refine a_j ?_ _|refine a_l ?_|refine a_i ?_ _));refine a_I ?_ b_e.out _;(with_reducible repeat (first|refine a_j ?_ _|refine a_l ?_|refine a_i ?_ _));refine a_I ?_ b_e.out _;(with_reducible repeat (first|refine a_j ?_ _|refine a_l ?_|refine a_i ?_ _));refine a_I ?_ b_e.out _;(with_reducible repeat (first|refine a_j ?_ _|refine a_l ?_|refine a_i ?_ _));refine a_I ?_ b_e.out _;(with_reducible repeat (first|refine a_j ?_ _|refine a_l ?_|refine a_i ?_ _));refine a_I ?_ b_e.out _;(with_reducible repeat (first|refine a_j ?_ _|refine a_l ?_|refine a_i ?_ _));refine a_I ?_ b_e.out _;(with_reducible repeat (first|refine a_j ?_ _|refine a_l ?_|refine a_i ?_ _));refine a_I ?_ b_e.out _;(with_reducible repeat (first|refine a_j ?_ _|refine a_l ?_|refine a_i ?_ _));refine a_I ?_ b_e.out _;(with_reducible repeat (first|refine a_j ?_ _|refine a_l ?_|refine a_i ?_ _));exact a_5.out)) : d_l ≠ c_5));have g_E:=a_c.mk ((by rw [hg];exact Nat.ne_of_lt (a_J (g:=a_X) (o:=.cells #[.int .i64 ((a_d l0_1 x10_1).f0),.int .i64 ((a_d l0_1 x10_1).f1),.int .i64 ((a_d l0_1 x10_1).f2),.int .i64 ((a_d l0_1 x10_1).f3),.int .i64 ((a_d l0_1 x10_1).f4),.bool ((a_d l0_1 x10_1).f5),.bool ((a_d l0_1 x10_1).f6),.int .u32 ((a_d l0_1 x10_1).f7),.int .i64 ((a_d l0_1 x10_1).f8),.int .i64 ((a_d l0_1 x10_1).f9),.int .i64 ((a_d l0_1 x10_1).f10)] 65 (0,0)) (by (with_reducible repeat (first|refine a_j ?_ _|refine a_l ?_|refine a_i ?_ _));refine a_E (cs:=#[.int .i64 ((a_d l0_1 x10_1).f0),.int .i64 ((a_d l0_1 x10_1).f1),.int .i64 ((a_d l0_1 x10_1).f2),.int .i64 ((a_d l0_1 x10_1).f3),.int .i64 ((a_d l0_1 x10_1).f4),.bool ((a_d l0_1 x10_1).f5),.bool ((a_d l0_1 x10_1).f6),.int .u32 ((a_d l0_1 x10_1).f7),.int .i64 ((a_d l0_1 x10_1).f8),.int .i64 ((a_d l0_1 x10_1).f9),.int .i64 0]) ?_ 10 _ rfl;(with_reducible repeat (first|refine a_j ?_ _|refine a_l ?_|refine a_i ?_ _));refine a_E (cs:=#[.int .i64 ((a_d l0_1 x10_1).f0),.int .i64 ((a_d l0_1 x10_1).f1),.int .i64 ((a_d l0_1 x10_1).f2),.int .i64 ((a_d l0_1 x10_1).f3),.int .i64 ((a_d l0_1 x10_1).f4),.bool ((a_d l0_1 x10_1).f5),.bool ((a_d l0_1 x10_1).f6),.int .u32 ((a_d l0_1 x10_1).f7),.int .i64 ((a_d l0_1 x10_1).f8),.int .i64 0,.int .i64 0]) ?_ 9 _ rfl;(with_reducible repeat (first|refine a_j ?_ _|refine a_l ?_|refine a_i ?_ _));refine a_E (cs:=#[.int .i64 ((a_d l0_1 x10_1).f0),.int .i64 ((a_d l0_1 x10_1).f1),.int .i64 ((a_d l0_1 x10_1).f2),.int .i64 ((a_d l0_1 x10_1).f3),.int .i64 ((a_d l0_1 x10_1).f4),.bool ((a_d l0_1 x10_1).f5),.bool ((a_d l0_1 x10_1).f6),.int .u32 ((a_d l0_1 x10_1).f7),.int .i64 0,.int .i64 0,.int .i64 0]) ?_ 8 _ rfl;(with_reducible repeat (first|refine a_j ?_ _|refine a_l ?_|refine a_i ?_ _));refine a_E (cs:=#[.int .i64 ((a_d l0_1 x10_1).f0),.int .i64 ((a_d l0_1 x10_1).f1),.int .i64 ((a_d l0_1 x10_1).f2),.int .i64 ((a_d l0_1 x10_1).f3),.int .i64 ((a_d l0_1 x10_1).f4),.bool ((a_d l0_1 x10_1).f5),.bool ((a_d l0_1 x10_1).f6),.int .u32 0,.int .i64 0,.int .i64 0,.int .i64 0]) ?_ 7 _ rfl;(with_reducible repeat (first|refine a_j ?_ _|refine a_l ?_|refine a_i ?_ _));refine a_E (cs:=#[.int .i64 ((a_d l0_1 x10_1).f0),.int .i64 ((a_d l0_1 x10_1).f1),.int .i64 ((a_d l0_1 x10_1).f2),.int .i64 ((a_d l0_1 x10_1).f3),.int .i64 ((a_d l0_1 x10_1).f4),.bool ((a_d l0_1 x10_1).f5),.bool false,.int .u32 0,.int .i64 0,.int .i64 0,.int .i64 0]) ?_ 6 _ rfl;(with_reducible repeat (first|refine a_j ?_ _|refine a_l ?_|refine a_i ?_ _));refine a_E (cs:=#[.int .i64 ((a_d l0_1 x10_1).f0),.int .i64 ((a_d l0_1 x10_1).f1),.int .i64 ((a_d l0_1 x10_1).f2),.int .i64 ((a_d l0_1 x10_1).f3),.int .i64 ((a_d l0_1 x10_1).f4),.bool false,.bool false,.int .u32 0,.int .i64 0,.int .i64 0,.int .i64 0]) ?_ 5 _ rfl;(with_reducible repeat (first|refine a_j ?_ _|refine a_l ?_|refine a_i ?_ _));refine a_E (cs:=#[.int .i64 ((a_d l0_1 x10_1).f0),.int .i64 ((a_d l0_1 x10_1).f1),.int .i64 ((a_d l0_1 x10_1).f2),.int .i64 ((a_d l0_1 x10_1).f3),.int .i64 0,.bool false,.bool false,.int .u32 0,.int .i64 0,.int .i64 0,.int .i64 0]) ?_ 4 _ rfl;(with_reducible repeat (first|refine a_j ?_ _|refine a_l ?_|refine a_i ?_ _));refine a_E (cs:=#[.int .i64 ((a_d l0_1 x10_1).f0),.int .i64 ((a_d l0_1 x10_1).f1),.int .i64 ((a_d l0_1 x10_1).f2),.int .i64 0,.int .i64 0,.bool false,.bool false,.int .u32 0,.int .i64 0,.int .i64 0,.int .i64 0]) ?_ 3 _ rfl;(with_reducible repeat (first|refine a_j ?_ _|refine a_l ?_|refine a_i ?_ _));refine a_E (cs:=#[.int .i64 ((a_d l0_1 x10_1).f0),.int .i64 ((a_d l0_1 x10_1).f1),.int .i64 0,.int .i64 0,.int .i64 0,.bool false,.bool false,.int .u32 0,.int .i64 0,.int .i64 0,.int .i64 0]) ?_ 2 _ rfl;(with_reducible repeat (first|refine a_j ?_ _|refine a_l ?_|refine a_i ?_ _));refine a_E (cs:=#[.int .i64 ((a_d l0_1 x10_1).f0),.int .i64 0,.int .i64 0,.int .i64 0,.int .i64 0,.bool false,.bool false,.int .u32 0,.int .i64 0,.int .i64 0,.int .i64 0]) ?_ 1 _ rfl;(with_reducible repeat (first|refine a_j ?_ _|refine a_l ?_|refine a_i ?_ _));refine a_E (cs:=#[.int .i64 0,.int .i64 0,.int .i64 0,.int .i64 0,.int .i64 0,.bool false,.bool false,.int .u32 0,.int .i64 0,.int .i64 0,.int .i64 0]) ?_ 0 _ rfl;(with_reducible repeat (first|refine a_j ?_ _|refine a_l ?_|refine a_i ?_ _));exact a_w.out)) : a_X ≠ d_l));have j_T:=a_c.mk ((by rw [hg];exact Nat.ne_of_gt (a_J (g:=a_X) (o:=.cells #[.int .i64 ((a_d l0_1 x10_1).f0),.int .i64 ((a_d l0_1 x10_1).f1),.int .i64 ((a_d l0_1 x10_1).f2),.int .i64 ((a_d l0_1 x10_1).f3),.int .i64 ((a_d l0_1 x10_1).f4),.bool ((a_d l0_1 x10_1).f5),.bool ((a_d l0_1 x10_1).f6),.int .u32 ((a_d l0_1 x10_1).f7),.int .i64 ((a_d l0_1 x10_1).f8),.int .i64 ((a_d l0_1 x10_1).f9),.int .i64 ((a_d l0_1 x10_1).f10)] 65 (0,0)) (by (with_reducible repeat (first|refine a_j ?_ _|refine a_l ?_|refine a_i ?_ _));refine a_E (cs:=#[.int .i64 ((a_d l0_1 x10_1).f0),.int .i64 ((a_d l0_1 x10_1).f1),.int .i64 ((a_d l0_1 x10_1).f2),.int .i64 ((a_d l0_1 x10_1).f3),.int .i64 ((a_d l0_1 x10_1).f4),.bool ((a_d l0_1 x10_1).f5),.bool ((a_d l0_1 x10_1).f6),.int .u32 ((a_d l0_1 x10_1).f7),.int .i64 ((a_d l0_1 x10_1).f8),.int .i64 ((a_d l0_1 x10_1).f9),.int .i64 0]) ?_ 10 _ rfl;(with_reducible repeat (first|refine a_j ?_ _|refine a_l ?_|refine a_i ?_ _));refine a_E (cs:=#[.int .i64 ((a_d l0_1 x10_1).f0),.int .i64 ((a_d l0_1 x10_1).f1),.int .i64 ((a_d l0_1 x10_1).f2),.int .i64 ((a_d l0_1 x10_1).f3),.int .i64 ((a_d l0_1 x10_1).f4),.bool ((a_d l0_1 x10_1).f5),.bool ((a_d l0_1 x10_1).f6),.int .u32 ((a_d l0_1 x10_1).f7),.int .i64 ((a_d l0_1 x10_1).f8),.int .i64 0,.int .i64 0]) ?_ 9 _ rfl;(with_reducible repeat (first|refine a_j ?_ _|refine a_l ?_|refine a_i ?_ _));refine a_E (cs:=#[.int .i64 ((a_d l0_1 x10_1).f0),.int .i64 ((a_d l0_1 x10_1).f1),.int .i64 ((a_d l0_1 x10_1).f2),.int .i64 ((a_d l0_1 x10_1).f3),.int .i64 ((a_d l0_1 x10_1).f4),.bool ((a_d l0_1 x10_1).f5),.bool ((a_d l0_1 x10_1).f6),.int .u32 ((a_d l0_1 x10_1).f7),.int .i64 0,.int .i64 0,.int .i64 0]) ?_ 8 _ rfl;(with_reducible repeat (first|refine a_j ?_ _|refine a_l ?_|refine a_i ?_ _));refine a_E (cs:=#[.int .i64 ((a_d l0_1 x10_1).f0),.int .i64 ((a_d l0_1 x10_1).f1),.int .i64 ((a_d l0_1 x10_1).f2),.int .i64 ((a_d l0_1 x10_1).f3),.int .i64 ((a_d l0_1 x10_1).f4),.bool ((a_d l0_1 x10_1).f5),.bool ((a_d l0_1 x10_1).f6),.int .u32 0,.int .i64 0,.int .i64 0,.int .i64 0]) ?_ 7 _ rfl;(with_reducible repeat (first|refine a_j ?_ _|refine a_l ?_|refine a_i ?_ _));refine a_E (cs:=#[.int .i64 ((a_d l0_1 x10_1).f0),.int .i64 ((a_d l0_1 x10_1).f1),.int .i64 ((a_d l0_1 x10_1).f2),.int .i64 ((a_d l0_1 x10_1).f3),.int .i64 ((a_d l0_1 x10_1).f4),.bool ((a_d l0_1 x10_1).f5),.bool false,.int .u32 0,.int .i64 0,.int .i64 0,.int .i64 0]) ?_ 6 _ rfl;(with_reducible repeat (first|refine a_j ?_ _|refine a_l ?_|refine a_i ?_ _));refine a_E (cs:=#[.int .i64 ((a_d l0_1 x10_1).f0),.int .i64 ((a_d l0_1 x10_1).f1),.int .i64 ((a_d l0_1 x10_1).f2),.int .i64 ((a_d l0_1 x10_1).f3),.int .i64 ((a_d l0_1 x10_1).f4),.bool false,.bool false,.int .u32 0,.int .i64 0,.int .i64 0,.int .i64 0]) ?_ 5 _ rfl;(with_reducible repeat (first|refine a_j ?_ _|refine a_l ?_|refine a_i ?_ _));refine a_E (cs:=#[.int .i64 ((a_d l0_1 x10_1).f0),.int .i64 ((a_d l0_1 x10_1).f1),.int .i64 ((a_d l0_1 x10_1).f2),.int .i64 ((a_d l0_1 x10_1).f3),.int .i64 0,.bool false,.bool false,.int .u32 0,.int .i64 0,.int .i64 0,.int .i64 0]) ?_ 4 _ rfl;(with_reducible repeat (first|refine a_j ?_ _|refine a_l ?_|refine a_i ?_ _));refine a_E (cs:=#[.int .i64 ((a_d l0_1 x10_1).f0),.int .i64 ((a_d l0_1 x10_1).f1),.int .i64 ((a_d l0_1 x10_1).f2),.int .i64 0,.int .i64 0,.bool false,.bool false,.int .u32 0,.int .i64 0,.int .i64 0,.int .i64 0]) ?_ 3 _ rfl;(with_reducible repeat (first|refine a_j ?_ _|refine a_l ?_|refine a_i ?_ _));refine a_E (cs:=#[.int .i64 ((a_d l0_1 x10_1).f0),.int .i64 ((a_d l0_1 x10_1).f1),.int .i64 0,.int .i64 0,.int .i64 0,.bool false,.bool false,.int .u32 0,.int .i64 0,.int .i64 0,.int .i64 0]) ?_ 2 _ rfl;(with_reducible repeat (first|refine a_j ?_ _|refine a_l ?_|refine a_i ?_ _));refine a_E (cs:=#[.int .i64 ((a_d l0_1 x10_1).f0),.int .i64 0,.int .i64 0,.int .i64 0,.int .i64 0,.bool false,.bool false,.int .u32 0,.int .i64 0,.int .i64 0,.int .i64 0]) ?_ 1 _ rfl;(with_reducible repeat (first|refine a_j ?_ _|refine a_l ?_|refine a_i ?_ _));refine a_E (cs:=#[.int .i64 0,.int .i64 0,.int .i64 0,.int .i64 0,.int .i64 0,.bool false,.bool false,.int .u32 0,.int .i64 0,.int .i64 0,.int .i64 0]) ?_ 0 _ rfl;(with_reducible repeat (first|refine a_j ?_ _|refine a_l ?_|refine a_i ?_ _));exact a_w.out)) : d_l ≠ a_X));replace a_5:=a_c.mk (a_m (g:=c_5) (o:=.cells #[.int .i64 a0_0,.slice (some ad112) l0_1.length c0_1] 27 (0,0)) (by (with_reducible repeat (first|refine a_j ?_ _|refine a_l ?_|refine a_i ?_ _));refine a_I ?_ b_e.out _;(with_reducible repeat (first|refine a_j ?_ _|refine a_l ?_|refine a_i ?_ _));refine a_I ?_ b_e.out _;(with_reducible repeat (first|refine a_j ?_ _|refine a_l ?_|refine a_i ?_ _));refine a_I ?_ b_e.out _;(with_reducible repeat (first|refine a_j ?_ _|refine a_l ?_|refine a_i ?_ _));refine a_I ?_ b_e.out _;(with_reducible repeat (first|refine a_j ?_ _|refine a_l ?_|refine a_i ?_ _));refine a_I ?_ b_e.out _;(with_reducible repeat (first|refine a_j ?_ _|refine a_l ?_|refine a_i ?_ _));refine a_I ?_ b_e.out _;(with_reducible repeat (first|refine a_j ?_ _|refine a_l ?_|refine a_i ?_ _));refine a_I ?_ b_e.out _;(with_reducible repeat (first|refine a_j ?_ _|refine a_l ?_|refine a_i ?_ _));refine a_I ?_ b_e.out _;(with_reducible repeat (first|refine a_j ?_ _|refine a_l ?_|refine a_i ?_ _));refine a_I ?_ b_e.out _;(with_reducible repeat (first|refine a_j ?_ _|refine a_l ?_|refine a_i ?_ _));refine a_I ?_ b_e.out _;(with_reducible repeat (first|refine a_j ?_ _|refine a_l ?_|refine a_i ?_ _));refine a_I ?_ b_e.out _;(with_reducible repeat (first|refine a_j ?_ _|refine a_l ?_|refine a_i ?_ _));exact a_5.out) hb);replace a_w:=a_c.mk (a_m (g:=a_X) (o:=.cells #[.int .i64 ((a_d l0_1 x10_1).f0),.int .i64 ((a_d l0_1 x10_1).f1),.int .i64 ((a_d l0_1 x10_1).f2),.int .i64 ((a_d l0_1 x10_1).f3),.int .i64 ((a_d l0_1 x10_1).f4),.bool ((a_d l0_1 x10_1).f5),.bool ((a_d l0_1 x10_1).f6),.int .u32 ((a_d l0_1 x10_1).f7),.int .i64 ((a_d l0_1 x10_1).f8),.int .i64 ((a_d l0_1 x10_1).f9),.int .i64 ((a_d l0_1 x10_1).f10)] 65 (0,0)) (by (with_reducible repeat (first|refine a_j ?_ _|refine a_l ?_|refine a_i ?_ _));refine a_E (cs:=#[.int .i64 ((a_d l0_1 x10_1).f0),.int .i64 ((a_d l0_1 x10_1).f1),.int .i64 ((a_d l0_1 x10_1).f2),.int .i64 ((a_d l0_1 x10_1).f3),.int .i64 ((a_d l0_1 x10_1).f4),.bool ((a_d l0_1 x10_1).f5),.bool ((a_d l0_1 x10_1).f6),.int .u32 ((a_d l0_1 x10_1).f7),.int .i64 ((a_d l0_1 x10_1).f8),.int .i64 ((a_d l0_1 x10_1).f9),.int .i64 0]) ?_ 10 _ rfl;(with_reducible repeat (first|refine a_j ?_ _|refine a_l ?_|refine a_i ?_ _));refine a_E (cs:=#[.int .i64 ((a_d l0_1 x10_1).f0),.int .i64 ((a_d l0_1 x10_1).f1),.int .i64 ((a_d l0_1 x10_1).f2),.int .i64 ((a_d l0_1 x10_1).f3),.int .i64 ((a_d l0_1 x10_1).f4),.bool ((a_d l0_1 x10_1).f5),.bool ((a_d l0_1 x10_1).f6),.int .u32 ((a_d l0_1 x10_1).f7),.int .i64 ((a_d l0_1 x10_1).f8),.int .i64 0,.int .i64 0]) ?_ 9 _ rfl;(with_reducible repeat (first|refine a_j ?_ _|refine a_l ?_|refine a_i ?_ _));refine a_E (cs:=#[.int .i64 ((a_d l0_1 x10_1).f0),.int .i64 ((a_d l0_1 x10_1).f1),.int .i64 ((a_d l0_1 x10_1).f2),.int .i64 ((a_d l0_1 x10_1).f3),.int .i64 ((a_d l0_1 x10_1).f4),.bool ((a_d l0_1 x10_1).f5),.bool ((a_d l0_1 x10_1).f6),.int .u32 ((a_d l0_1 x10_1).f7),.int .i64 0,.int .i64 0,.int .i64 0]) ?_ 8 _ rfl;(with_reducible repeat (first|refine a_j ?_ _|refine a_l ?_|refine a_i ?_ _));refine a_E (cs:=#[.int .i64 ((a_d l0_1 x10_1).f0),.int .i64 ((a_d l0_1 x10_1).f1),.int .i64 ((a_d l0_1 x10_1).f2),.int .i64 ((a_d l0_1 x10_1).f3),.int .i64 ((a_d l0_1 x10_1).f4),.bool ((a_d l0_1 x10_1).f5),.bool ((a_d l0_1 x10_1).f6),.int .u32 0,.int .i64 0,.int .i64 0,.int .i64 0]) ?_ 7 _ rfl;(with_reducible repeat (first|refine a_j ?_ _|refine a_l ?_|refine a_i ?_ _));refine a_E (cs:=#[.int .i64 ((a_d l0_1 x10_1).f0),.int .i64 ((a_d l0_1 x10_1).f1),.int .i64 ((a_d l0_1 x10_1).f2),.int .i64 ((a_d l0_1 x10_1).f3),.int .i64 ((a_d l0_1 x10_1).f4),.bool ((a_d l0_1 x10_1).f5),.bool false,.int .u32 0,.int .i64 0,.int .i64 0,.int .i64 0]) ?_ 6 _ rfl;(with_reducible repeat (first|refine a_j ?_ _|refine a_l ?_|refine a_i ?_ _));refine a_E (cs:=#[.int .i64 ((a_d l0_1 x10_1).f0),.int .i64 ((a_d l0_1 x10_1).f1),.int .i64 ((a_d l0_1 x10_1).f2),.int .i64 ((a_d l0_1 x10_1).f3),.int .i64 ((a_d l0_1 x10_1).f4),.bool false,.bool false,.int .u32 0,.int .i64 0,.int .i64 0,.int .i64 0]) ?_ 5 _ rfl;(with_reducible repeat (first|refine a_j ?_ _|refine a_l ?_|refine a_i ?_ _));refine a_E (cs:=#[.int .i64 ((a_d l0_1 x10_1).f0),.int .i64 ((a_d l0_1 x10_1).f1),.int .i64 ((a_d l0_1 x10_1).f2),.int .i64 ((a_d l0_1 x10_1).f3),.int .i64 0,.bool false,.bool false,.int .u32 0,.int .i64 0,.int .i64 0,.int .i64 0]) ?_ 4 _ rfl;(with_reducible repeat (first|refine a_j ?_ _|refine a_l ?_|refine a_i ?_ _));refine a_E (cs:=#[.int .i64 ((a_d l0_1 x10_1).f0),.int .i64 ((a_d l0_1 x10_1).f1),.int .i64 ((a_d l0_1 x10_1).f2),.int .i64 0,.int .i64 0,.bool false,.bool false,.int .u32 0,.int .i64 0,.int .i64 0,.int .i64 0]) ?_ 3 _ rfl;(with_reducible repeat (first|refine a_j ?_ _|refine a_l ?_|refine a_i ?_ _));refine a_E (cs:=#[.int .i64 ((a_d l0_1 x10_1).f0),.int .i64 ((a_d l0_1 x10_1).f1),.int .i64 0,.int .i64 0,.int .i64 0,.bool false,.bool false,.int .u32 0,.int .i64 0,.int .i64 0,.int .i64 0]) ?_ 2 _ rfl;(with_reducible repeat (first|refine a_j ?_ _|refine a_l ?_|refine a_i ?_ _));refine a_E (cs:=#[.int .i64 ((a_d l0_1 x10_1).f0),.int .i64 0,.int .i64 0,.int .i64 0,.int .i64 0,.bool false,.bool false,.int .u32 0,.int .i64 0,.int .i64 0,.int .i64 0]) ?_ 1 _ rfl;(with_reducible repeat (first|refine a_j ?_ _|refine a_l ?_|refine a_i ?_ _));refine a_E (cs:=#[.int .i64 0,.int .i64 0,.int .i64 0,.int .i64 0,.int .i64 0,.bool false,.bool false,.int .u32 0,.int .i64 0,.int .i64 0,.int .i64 0]) ?_ 0 _ rfl;(with_reducible repeat (first|refine a_j ?_ _|refine a_l ?_|refine a_i ?_ _));exact a_w.out) hb);replace HB:=a_c.mk (a_o (by repeat (first|(with_reducible first|exact HB.out|apply a_g|apply a_b|apply a_h|refine a_f ?_ c_R.out|refine a_f ?_ d_a.out)|exact HB.out)) hb);clear hb hbox hg;have q_t:=j_S.out;have q_u:=g_D.out;have q_v:=j_T.out;have q_w:=g_E.out;have h_g : w17.cell? ⟨d_l,0,none⟩ = some (.nilFunc):=(a_a b_A.out 0).trans rfl;have h_h:=a_e b_A.out 0))
   have n0_ : a_c ((w17.setCell ⟨d_l,0,none⟩ (.func (.func 51) #[] #[.pointer (some ⟨a_X,0,none⟩)])).heap[c_5]? = some (.cells #[.int .i64 a0_0,.slice (some ad112) l0_1.length c0_1] 27 (0,0))):=⟨by (with_reducible repeat (first|refine a_j ?_ _|refine a_l ?_|refine a_i ?_ _));refine a_I ?_ g_D.out _;(with_reducible repeat (first|refine a_j ?_ _|refine a_l ?_|refine a_i ?_ _));exact a_5.out⟩
   have n1_ : a_c ((w17.setCell ⟨d_l,0,none⟩ (.func (.func 51) #[] #[.pointer (some ⟨a_X,0,none⟩)])).heap[a_X]? = some (.cells #[.int .i64 ((a_d l0_1 x10_1).f0),.int .i64 ((a_d l0_1 x10_1).f1),.int .i64 ((a_d l0_1 x10_1).f2),.int .i64 ((a_d l0_1 x10_1).f3),.int .i64 ((a_d l0_1 x10_1).f4),.bool ((a_d l0_1 x10_1).f5),.bool ((a_d l0_1 x10_1).f6),.int .u32 ((a_d l0_1 x10_1).f7),.int .i64 ((a_d l0_1 x10_1).f8),.int .i64 ((a_d l0_1 x10_1).f9),.int .i64 ((a_d l0_1 x10_1).f10)] 65 (0,0))):=⟨by (with_reducible repeat (first|refine a_j ?_ _|refine a_l ?_|refine a_i ?_ _));refine a_I ?_ g_E.out _;(with_reducible repeat (first|refine a_j ?_ _|refine a_l ?_|refine a_i ?_ _));exact a_w.out⟩
   have n2_ : a_c ((w17.setCell ⟨d_l,0,none⟩ (.func (.func 51) #[] #[.pointer (some ⟨a_X,0,none⟩)])).heap[d_l]? = some (.cells #[.func (.func 51) #[] #[.pointer (some ⟨a_X,0,none⟩)]] 68 (0,0))):=⟨by (with_reducible repeat (first|refine a_j ?_ _|refine a_l ?_|refine a_i ?_ _));refine a_E (cs:=#[.nilFunc]) ?_ 0 _ rfl;(with_reducible repeat (first|refine a_j ?_ _|refine a_l ?_|refine a_i ?_ _));exact b_A.out⟩
   have n3_ : a_c (Below w.heap.size w (w17.setCell ⟨d_l,0,none⟩ (.func (.func 51) #[] #[.pointer (some ⟨a_X,0,none⟩)]))):=⟨by repeat (first|(with_reducible first|exact HB.out|apply a_g|apply a_b|apply a_h|refine a_f ?_ c_R.out|refine a_f ?_ d_a.out|refine a_f ?_ d_m.out)|exact HB.out)⟩
   (try clear a_5)
   (try clear a_w)
   (try clear b_A)
   (try clear HB)
   generalize (w17.setCell ⟨d_l,0,none⟩ (.func (.func 51) #[] #[.pointer (some ⟨a_X,0,none⟩)])) = w21 at n0_ n1_ n2_ n3_ ⊢
   have a_5:=n0_
   have a_w:=n1_
   have b_A:=n2_
   have HB:=n3_
   clear n0_ n1_ n2_ n3_
   replace a_5:=a_c.mk (a_l a_5.out)
   replace a_w:=a_c.mk (a_l a_w.out)
   replace b_A:=a_c.mk (a_l b_A.out)
   replace HB:=a_c.mk (a_h HB.out)
   replace H:=Option.bind_eq_some_iff.mp H
   obtain ⟨t115,A70,H⟩:=H
   replace H : (if t115 = true then (if x10_1 > 0 then (if 0 ≤ (wrap64 (x10_1 - 1)) then (if (wrap64 (x10_1 - 1)) < (l0_1.length : Int) then (if ((a_d l0_1 (wrap64 (x10_1 - 1))).f0) ≥ ((a_d l0_1 x10_1).f0) then (some false) else ((a_4.f l0_1 ((a_d l0_1 x10_1).f0) ((a_d l0_1 x10_1).f1) ((a_d l0_1 x10_1).f2) ((a_d l0_1 x10_1).f3) ((a_d l0_1 x10_1).f4) ((a_d l0_1 x10_1).f5) ((a_d l0_1 x10_1).f6) ((a_d l0_1 x10_1).f7) ((a_d l0_1 x10_1).f8) ((a_d l0_1 x10_1).f9) ((a_d l0_1 x10_1).f10)).bind fun t117 => (if t117 = ((a_d l0_1 x10_1).f9) then ((a_2.f l0_1 ((a_d l0_1 x10_1).f0) ((a_d l0_1 x10_1).f1) ((a_d l0_1 x10_1).f2) ((a_d l0_1 x10_1).f3) ((a_d l0_1 x10_1).f4) ((a_d l0_1 x10_1).f5) ((a_d l0_1 x10_1).f6) ((a_d l0_1 x10_1).f7) ((a_d l0_1 x10_1).f8) ((a_d l0_1 x10_1).f9) ((a_d l0_1 x10_1).f10) ((a_d l0_1 x10_1).f0) ((a_d l0_1 x10_1).f1) ((a_d l0_1 x10_1).f2) ((a_d l0_1 x10_1).f3) ((a_d l0_1 x10_1).f4) ((a_d l0_1 x10_1).f5) ((a_d l0_1 x10_1).f6) ((a_d l0_1 x10_1).f7) ((a_d l0_1 x10_1).f8) ((a_d l0_1 x10_1).f9) ((a_d l0_1 x10_1).f10)).bind fun t118 => (if t118 = ((a_d l0_1 x10_1).f9) then (a_y.l0 k1 l0_1 (l0_1.length : Int) (wrap64 (x10_1 + 1)) a0_0 l0_1) else (some false))) else (some false)))) else (none)) else (none)) else ((a_4.f l0_1 ((a_d l0_1 x10_1).f0) ((a_d l0_1 x10_1).f1) ((a_d l0_1 x10_1).f2) ((a_d l0_1 x10_1).f3) ((a_d l0_1 x10_1).f4) ((a_d l0_1 x10_1).f5) ((a_d l0_1 x10_1).f6) ((a_d l0_1 x10_1).f7) ((a_d l0_1 x10_1).f8) ((a_d l0_1 x10_1).f9) ((a_d l0_1 x10_1).f10)).bind fun t119 => (if t119 = ((a_d l0_1 x10_1).f9) then ((a_2.f l0_1 ((a_d l0_1 x10_1).f0) ((a_d l0_1 x10_1).f1) ((a_d l0_1 x10_1).f2) ((a_d l0_1 x10_1).f3) ((a_d l0_1 x10_1).f4) ((a_d l0_1 x10_1).f5) ((a_d l0_1 x10_1).f6) ((a_d l0_1 x10_1).f7) ((a_d l0_1 x10_1).f8) ((a_d l0_1 x10_1).f9) ((a_d l0_1 x10_1).f10) ((a_d l0_1 x10_1).f0) ((a_d l0_1 x10_1).f1) ((a_d l0_1 x10_1).f2) ((a_d l0_1 x10_1).f3) ((a_d l0_1 x10_1).f4) ((a_d l0_1 x10_1).f5) ((a_d l0_1 x10_1).f6) ((a_d l0_1 x10_1).f7) ((a_d l0_1 x10_1).f8) ((a_d l0_1 x10_1).f9) ((a_d l0_1 x10_1).f10)).bind fun t120 => (if t120 = ((a_d l0_1 x10_1).f9) then (a_y.l0 k1 l0_1 (l0_1.length : Int) (wrap64 (x10_1 + 1)) a0_0 l0_1) else (some false))) else (some false)))) else (some false)) = some r:=H
   have A7:=a_c.mk A70
   clear A70
   by_cases c8 : t115 = true
   rotate_left
   ·replace c8:=Bool.eq_false_iff.mpr c8
    subst c8
    have H1 : (some false) = some r:=by rw [if_neg (show ¬ (false = true) by decide)] at H;exact H
    clear H
    have H:=H1
    clear H1
    obtain rfl:=Option.some.inj H
    refine d_n (n:=37) (S:=fun w' => w'.cell? ⟨a_X,0,none⟩ = some (.int .i64 ((a_d l0_1 x10_1).f0)) ∧ w'.cell? ⟨a_X,1,none⟩ = some (.int .i64 ((a_d l0_1 x10_1).f1)) ∧ w'.cell? ⟨a_X,2,none⟩ = some (.int .i64 ((a_d l0_1 x10_1).f2)) ∧ w'.cell? ⟨a_X,3,none⟩ = some (.int .i64 ((a_d l0_1 x10_1).f3)) ∧ w'.cell? ⟨a_X,4,none⟩ = some (.int .i64 ((a_d l0_1 x10_1).f4)) ∧ w'.cell? ⟨a_X,5,none⟩ = some (.bool ((a_d l0_1 x10_1).f5)) ∧ w'.cell? ⟨a_X,6,none⟩ = some (.bool ((a_d l0_1 x10_1).f6)) ∧ w'.cell? ⟨a_X,7,none⟩ = some (.int .u32 ((a_d l0_1 x10_1).f7)) ∧ w'.cell? ⟨a_X,8,none⟩ = some (.int .i64 ((a_d l0_1 x10_1).f8)) ∧ w'.cell? ⟨a_X,9,none⟩ = some (.int .i64 ((a_d l0_1 x10_1).f9)) ∧ w'.cell? ⟨a_X,10,none⟩ = some (.int .i64 ((a_d l0_1 x10_1).f10))) (ds:=[]) Z0_ (by kernel_rfl) rfl rfl ⟨(a_a a_w.out 0).trans rfl,(a_a a_w.out 1).trans rfl,(a_a a_w.out 2).trans rfl,(a_a a_w.out 3).trans rfl,(a_a a_w.out 4).trans rfl,(a_a a_w.out 5).trans rfl,(a_a a_w.out 6).trans rfl,(a_a a_w.out 7).trans rfl,(a_a a_w.out 8).trans rfl,(a_a a_w.out 9).trans rfl,(a_a a_w.out 10).trans rfl⟩ (fun hHeld => ?_);refine b_9 a_y.tab6 a_y.e_r (fun HT_ HW_ => ?_)
    generalize w21.drew = w110 at a_5 a_w b_A HB hHeld ⊢
    refine b_F (i:=0) (N:=some 17) (v:=?_) (a':=?_) Z2_ rfl rfl (a_Q HT_.out HW_.out (by kernel_rfl)) (fun _ _ _ h => h) (Or.inl ⟨by rfl,?_⟩) hHeld ?_ ?_
    rotate_left
    ·rintro w' ⟨s0,s1,s2,s3,s4,s5,s6,s7,s8,s9,s10⟩
     go_simp
     with_reducible rfl
    rotate_left
    ·simp only [Act.put,sa_,sb_,sc_,a_r,a_s]
     rfl
    refine one_ (i:=1) (N:=some 18) Z4_ rfl rfl (c_B HT_.out (by kernel_rfl)) (by decide) (fun K hK => ?_)
    refine d_w Try.func53 (by kernel_rfl) rfl #[.agg #[.int .i64 ((a_d l0_1 x10_1).f0),.int .i64 ((a_d l0_1 x10_1).f1),.int .i64 ((a_d l0_1 x10_1).f2),.int .i64 ((a_d l0_1 x10_1).f3),.int .i64 ((a_d l0_1 x10_1).f4),.bool ((a_d l0_1 x10_1).f5),.bool ((a_d l0_1 x10_1).f6),.int .u32 ((a_d l0_1 x10_1).f7),.int .i64 ((a_d l0_1 x10_1).f8),.int .i64 ((a_d l0_1 x10_1).f9),.int .i64 ((a_d l0_1 x10_1).f10)]] (by rfl) rfl rfl (by (try simp only [List.map_toArray,List.map_cons,List.map_nil]);first|done|rfl|(simp only [List.length_drop,List.length_take];rfl)) ?_
    with_reducible refine (a_K.calls k1 ((a_d l0_1 x10_1).f0) ((a_d l0_1 x10_1).f1) ((a_d l0_1 x10_1).f2) ((a_d l0_1 x10_1).f3) ((a_d l0_1 x10_1).f4) ((a_d l0_1 x10_1).f5) ((a_d l0_1 x10_1).f6) ((a_d l0_1 x10_1).f7) ((a_d l0_1 x10_1).f8) ((a_d l0_1 x10_1).f9) ((a_d l0_1 x10_1).f10) false _ A7.out).mono ?_
    rintro e w111 ⟨rfl,hb⟩
    refine ⟨_,rfl,?_⟩
    replace a_5:=a_c.mk (a_m (bup_ a_5.out) hb)
    replace a_w:=a_c.mk (a_m (bup_ a_w.out) hb)
    replace b_A:=a_c.mk (a_m (bup_ b_A.out) hb)
    replace HB:=a_c.mk (a_o (by repeat (first|(with_reducible first|exact HB.out|apply a_g|apply a_b|apply a_h|refine a_f ?_ c_R.out|refine a_f ?_ d_a.out|refine a_f ?_ d_m.out)|exact HB.out)) hb)
    (try clear hb)
    (try clear hb2)
    (try clear hk)
    (try clear hi)
    refine hK.out _ _ ⟨(a_a a_w.out 0).trans rfl,(a_a a_w.out 1).trans rfl,(a_a a_w.out 2).trans rfl,(a_a a_w.out 3).trans rfl,(a_a a_w.out 4).trans rfl,(a_a a_w.out 5).trans rfl,(a_a a_w.out 6).trans rfl,(a_a a_w.out 7).trans rfl,(a_a a_w.out 8).trans rfl,(a_a a_w.out 9).trans rfl,(a_a a_w.out 10).trans rfl⟩ (fun hHeld => ?_)
    clear hK K
    refine d_k (a':=?_) ?_ ?_
    rotate_left
    ·show Act.put _ (some 18) _ = _
     simp only [Act.put,sa_,sb_,sc_,a_r,a_s]
     rfl
    refine a_x (i:=2) (N:=some 19) (v:=?_) (a':=?_) Z6_ rfl rfl (a_q HT_.out (by kernel_rfl)) (fun _ _ _ h => h) (Or.inl ⟨by rfl,?_⟩) ?_ ?_
    rotate_left
    ·intro w'
     go_simp
     with_reducible rfl
    rotate_left
    ·simp only [Act.put,sa_,sb_,sc_,a_r,a_s]
     rfl
    refine a_x (i:=3) (N:=some 20) (v:=?_) (a':=?_) Z8_ rfl rfl (a_q HT_.out (by kernel_rfl)) (fun _ _ _ h => h) (Or.inl ⟨by rfl,?_⟩) ?_ ?_
    rotate_left
    ·intro w'
     go_simp
     with_reducible rfl
    rotate_left
    ·simp only [Act.put,sa_,sb_,sc_,a_r,a_s]
     rfl
    refine a_x (i:=4) (N:=some 21) (v:=undef) (a':=?_) Z10_ rfl rfl (a_q HT_.out (by kernel_rfl)) (fun _ _ _ h => h) (Or.inr ⟨by rfl,rfl⟩) ?_ ?_
    rotate_left
    ·simp only [Act.put,sa_,sb_,sc_,a_r,a_s]
     rfl
    refine a_x (i:=5) (N:=some 22) (v:=undef) (a':=?_) Z13_ rfl rfl (a_q HT_.out (by kernel_rfl)) (fun _ _ _ h => h) (Or.inr ⟨by rfl,rfl⟩) ?_ ?_
    rotate_left
    ·simp only [Act.put,sa_,sb_,sc_,a_r,a_s]
     rfl
    refine a_x (i:=6) (N:=some 23) (v:=undef) (a':=?_) Z14_ rfl rfl (a_q HT_.out (by kernel_rfl)) (fun _ _ _ h => h) (Or.inr ⟨by rfl,rfl⟩) ?_ ?_
    rotate_left
    ·simp only [Act.put,sa_,sb_,sc_,a_r,a_s]
     rfl
    refine a_x (i:=7) (N:=some 24) (v:=undef) (a':=?_) Z16_ rfl rfl (a_q HT_.out (by kernel_rfl)) (fun _ _ _ h => h) (Or.inr ⟨by rfl,rfl⟩) ?_ ?_
    rotate_left
    ·simp only [Act.put,sa_,sb_,sc_,a_r,a_s]
     rfl
    refine a_x (i:=8) (N:=some 25) (v:=undef) (a':=?_) Z21_ rfl rfl (a_q HT_.out (by kernel_rfl)) (fun _ _ _ h => h) (Or.inr ⟨by rfl,rfl⟩) ?_ ?_
    rotate_left
    ·simp only [Act.put,sa_,sb_,sc_,a_r,a_s]
     rfl
    refine a_x (i:=9) (N:=some 26) (v:=undef) (a':=?_) Z23_ rfl rfl (a_q HT_.out (by kernel_rfl)) (fun _ _ _ h => h) (Or.inr ⟨by rfl,rfl⟩) ?_ ?_
    rotate_left
    ·simp only [Act.put,sa_,sb_,sc_,a_r,a_s]
     rfl
    refine a_x (i:=10) (N:=some 27) (v:=undef) (a':=?_) Z25_ rfl rfl (a_q HT_.out (by kernel_rfl)) (fun _ _ _ h => h) (Or.inr ⟨by rfl,rfl⟩) ?_ ?_
    rotate_left
    ·simp only [Act.put,sa_,sb_,sc_,a_r,a_s]
     rfl
    refine a_x (i:=11) (N:=some 28) (v:=undef) (a':=?_) Z28_ rfl rfl (a_q HT_.out (by kernel_rfl)) (fun _ _ _ h => h) (Or.inr ⟨by rfl,rfl⟩) ?_ ?_
    rotate_left
    ·simp only [Act.put,sa_,sb_,sc_,a_r,a_s]
     rfl
    refine a_x (i:=12) (N:=some 29) (v:=undef) (a':=?_) Z31_ rfl rfl (a_q HT_.out (by kernel_rfl)) (fun _ _ _ h => h) (Or.inr ⟨by rfl,rfl⟩) ?_ ?_
    rotate_left
    ·simp only [Act.put,sa_,sb_,sc_,a_r,a_s]
     rfl
    refine a_x (i:=13) (N:=some 30) (v:=undef) (a':=?_) Z34_ rfl rfl (a_q HT_.out (by kernel_rfl)) (fun _ _ _ h => h) (Or.inr ⟨by rfl,rfl⟩) ?_ ?_
    rotate_left
    ·simp only [Act.put,sa_,sb_,sc_,a_r,a_s]
     rfl
    refine a_x (i:=14) (N:=some 31) (v:=undef) (a':=?_) Z36_ rfl rfl (a_q HT_.out (by kernel_rfl)) (fun _ _ _ h => h) (Or.inr ⟨by rfl,rfl⟩) ?_ ?_
    rotate_left
    ·simp only [Act.put,sa_,sb_,sc_,a_r,a_s]
     rfl
    refine a_x (i:=15) (N:=some 32) (v:=undef) (a':=?_) Z41_ rfl rfl (a_q HT_.out (by kernel_rfl)) (fun _ _ _ h => h) (Or.inr ⟨by rfl,rfl⟩) ?_ ?_
    rotate_left
    ·simp only [Act.put,sa_,sb_,sc_,a_r,a_s]
     rfl
    refine a_x (i:=16) (N:=some 33) (v:=undef) (a':=?_) Z43_ rfl rfl (a_q HT_.out (by kernel_rfl)) (fun _ _ _ h => h) (Or.inr ⟨by rfl,rfl⟩) ?_ ?_
    rotate_left
    ·simp only [Act.put,sa_,sb_,sc_,a_r,a_s]
     rfl
    refine a_x (i:=17) (N:=some 34) (v:=undef) (a':=?_) Z45_ rfl rfl (a_q HT_.out (by kernel_rfl)) (fun _ _ _ h => h) (Or.inr ⟨by rfl,rfl⟩) ?_ ?_
    rotate_left
    ·simp only [Act.put,sa_,sb_,sc_,a_r,a_s]
     rfl
    refine a_x (i:=18) (N:=some 35) (v:=?_) (a':=?_) Z48_ rfl rfl (a_q HT_.out (by kernel_rfl)) (fun _ _ _ h => h) (Or.inl ⟨by rfl,?_⟩) ?_ ?_
    rotate_left
    ·intro w'
     go_simp
     with_reducible rfl
    rotate_left
    ·simp only [Act.put,sa_,sb_,sc_,a_r,a_s]
     rfl
    refine a_x (i:=19) (N:=some 36) (v:=?_) (a':=?_) Z51_ rfl rfl (a_q HT_.out (by kernel_rfl)) (fun _ _ _ h => h) (Or.inl ⟨by rfl,?_⟩) ?_ ?_
    rotate_left
    ·intro w'
     go_simp
     with_reducible rfl
    rotate_left
    ·simp only [Act.put,sa_,sb_,sc_,a_r,a_s]
     rfl
    refine a_x (i:=20) (N:=some 37) (v:=undef) (a':=?_) Z54_ rfl rfl (a_q HT_.out (by kernel_rfl)) (fun _ _ _ h => h) (Or.inr ⟨by rfl,rfl⟩) ?_ ?_
    rotate_left
    ·simp only [Act.put,sa_,sb_,sc_,a_r,a_s]
     rfl
    refine a_x (i:=21) (N:=some 38) (v:=undef) (a':=?_) Z57_ rfl rfl (a_q HT_.out (by kernel_rfl)) (fun _ _ _ h => h) (Or.inr ⟨by rfl,rfl⟩) ?_ ?_
    rotate_left
    ·simp only [Act.put,sa_,sb_,sc_,a_r,a_s]
     rfl
    refine a_x (i:=22) (N:=some 39) (v:=undef) (a':=?_) Z60_ rfl rfl (a_q HT_.out (by kernel_rfl)) (fun _ _ _ h => h) (Or.inr ⟨by rfl,rfl⟩) ?_ ?_
    rotate_left
    ·simp only [Act.put,sa_,sb_,sc_,a_r,a_s]
     rfl
    refine a_x (i:=23) (N:=some 40) (v:=undef) (a':=?_) Z64_ rfl rfl (a_q HT_.out (by kernel_rfl)) (fun _ _ _ h => h) (Or.inr ⟨by rfl,rfl⟩) ?_ ?_
    rotate_left
    ·simp only [Act.put,sa_,sb_,sc_,a_r,a_s]
     rfl
    refine a_x (i:=24) (N:=some 41) (v:=undef) (a':=?_) Z66_ rfl rfl (a_q HT_.out (by kernel_rfl)) (fun _ _ _ h => h) (Or.inr ⟨by rfl,rfl⟩) ?_ ?_
    rotate_left
    ·simp only [Act.put,sa_,sb_,sc_,a_r,a_s]
     rfl
    refine a_x (i:=25) (N:=some 42) (v:=undef) (a':=?_) Z68_ rfl rfl (a_q HT_.out (by kernel_rfl)) (fun _ _ _ h => h) (Or.inr ⟨by rfl,rfl⟩) ?_ ?_
    rotate_left
    ·simp only [Act.put,sa_,sb_,sc_,a_r,a_s]
     rfl
    refine a_x (i:=26) (N:=some 43) (v:=undef) (a':=?_) Z69_ rfl rfl (a_q HT_.out (by kernel_rfl)) (fun _ _ _ h => h) (Or.inr ⟨by rfl,rfl⟩) ?_ ?_
    rotate_left
    ·simp only [Act.put,sa_,sb_,sc_,a_r,a_s]
     rfl
    refine a_x (i:=27) (N:=some 44) (v:=?_) (a':=?_) Z70_ rfl rfl (a_q HT_.out (by kernel_rfl)) (fun _ _ _ h => h) (Or.inl ⟨by rfl,?_⟩) ?_ ?_
    rotate_left
    ·intro w'
     go_simp
     with_reducible rfl
    rotate_left
    ·simp only [Act.put,sa_,sb_,sc_,a_r,a_s]
     rfl
    refine a_x (i:=28) (N:=some 45) (v:=?_) (a':=?_) Z71_ rfl rfl (a_q HT_.out (by kernel_rfl)) (fun _ _ _ h => h) (Or.inl ⟨by rfl,?_⟩) ?_ ?_
    rotate_left
    ·intro w'
     go_simp
     with_reducible rfl
    rotate_left
    ·simp only [Act.put,sa_,sb_,sc_,a_r,a_s]
     rfl
    refine a_x (i:=29) (N:=some 46) (v:=undef) (a':=?_) Z72_ rfl rfl (a_q HT_.out (by kernel_rfl)) (fun _ _ _ h => h) (Or.inr ⟨by rfl,rfl⟩) ?_ ?_
    rotate_left
    ·simp only [Act.put,sa_,sb_,sc_,a_r,a_s]
     rfl
    refine a_x (i:=30) (N:=some 47) (v:=undef) (a':=?_) Z75_ rfl rfl (a_q HT_.out (by kernel_rfl)) (fun _ _ _ h => h) (Or.inr ⟨by rfl,rfl⟩) ?_ ?_
    rotate_left
    ·simp only [Act.put,sa_,sb_,sc_,a_r,a_s]
     rfl
    refine a_x (i:=31) (N:=some 48) (v:=undef) (a':=?_) Z76_ rfl rfl (a_q HT_.out (by kernel_rfl)) (fun _ _ _ h => h) (Or.inr ⟨by rfl,rfl⟩) ?_ ?_
    rotate_left
    ·simp only [Act.put,sa_,sb_,sc_,a_r,a_s]
     rfl
    refine a_x (i:=32) (N:=some 49) (v:=undef) (a':=?_) Z79_ rfl rfl (a_q HT_.out (by kernel_rfl)) (fun _ _ _ h => h) (Or.inr ⟨by rfl,rfl⟩) ?_ ?_
    rotate_left
    ·simp only [Act.put,sa_,sb_,sc_,a_r,a_s]
     rfl
    refine a_x (i:=33) (N:=some 50) (v:=undef) (a':=?_) Z80_ rfl rfl (a_q HT_.out (by kernel_rfl)) (fun _ _ _ h => h) (Or.inr ⟨by rfl,rfl⟩) ?_ ?_
    rotate_left
    ·simp only [Act.put,sa_,sb_,sc_,a_r,a_s]
     rfl
    refine a_x (i:=34) (N:=some 51) (v:=undef) (a':=?_) Z81_ rfl rfl (a_q HT_.out (by kernel_rfl)) (fun _ _ _ h => h) (Or.inr ⟨by rfl,rfl⟩) ?_ ?_
    rotate_left
    ·simp only [Act.put,sa_,sb_,sc_,a_r,a_s]
     rfl
    refine a_x (i:=35) (N:=some 52) (v:=undef) (a':=?_) Z82_ rfl rfl (a_q HT_.out (by kernel_rfl)) (fun _ _ _ h => h) (Or.inr ⟨by rfl,rfl⟩) ?_ ?_
    rotate_left
    ·simp only [Act.put,sa_,sb_,sc_,a_r,a_s]
     rfl
    refine a_x (i:=36) (N:=some 53) (v:=?_) (a':=?_) Z83_ rfl rfl (a_q HT_.out (by kernel_rfl)) (fun _ _ _ h => h) (Or.inl ⟨by rfl,?_⟩) ?_ ?_
    rotate_left
    ·intro w'
     go_simp
     with_reducible rfl
    rotate_left
    ·simp only [Act.put,sa_,sb_,sc_,a_r,a_s]
     rfl
    refine d_3 (c_U HT_.out (by kernel_rfl)) ?_
    try go_wp2
    go_ret
    exact ⟨by first|rfl|(simp [a_v,a_u] <;> rfl)|(simp [*, a_v,a_u] <;> rfl),by repeat (first|(with_reducible first|exact HB.out|apply a_g|apply a_b|apply a_h|refine a_f ?_ c_R.out|refine a_f ?_ d_a.out|refine a_f ?_ d_m.out)|exact HB.out)⟩
   subst c8
   have H1 : (if x10_1 > 0 then (if 0 ≤ (wrap64 (x10_1 - 1)) then (if (wrap64 (x10_1 - 1)) < (l0_1.length : Int) then (if ((a_d l0_1 (wrap64 (x10_1 - 1))).f0) ≥ ((a_d l0_1 x10_1).f0) then (some false) else ((a_4.f l0_1 ((a_d l0_1 x10_1).f0) ((a_d l0_1 x10_1).f1) ((a_d l0_1 x10_1).f2) ((a_d l0_1 x10_1).f3) ((a_d l0_1 x10_1).f4) ((a_d l0_1 x10_1).f5) ((a_d l0_1 x10_1).f6) ((a_d l0_1 x10_1).f7) ((a_d l0_1 x10_1).f8) ((a_d l0_1 x10_1).f9) ((a_d l0_1 x10_1).f10)).bind fun t117 => (if t117 = ((a_d l0_1 x10_1).f9) then ((a_2.f l0_1 ((a_d l0_1 x10_1).f0) ((a_d l0_1 x10_1).f1) ((a_d l0_1 x10_1).f2) ((a_d l0_1 x10_1).f3) ((a_d l0_1 x10_1).f4) ((a_d l0_1 x10_1).f5) ((a_d l0_1 x10_1).f6) ((a_d l0_1 x10_1).f7) ((a_d l0_1 x10_1).f8) ((a_d l0_1 x10_1).f9) ((a_d l0_1 x10_1).f10) ((a_d l0_1 x10_1).f0) ((a_d l0_1 x10_1).f1) ((a_d l0_1 x10_1).f2) ((a_d l0_1 x10_1).f3) ((a_d l0_1 x10_1).f4) ((a_d l0_1 x10_1).f5) ((a_d l0_1 x10_1).f6) ((a_d l0_1 x10_1).f7) ((a_d l0_1 x10_1).f8) ((a_d l0_1 x10_1).f9) ((a_d l0_1 x10_1).f10)).bind fun t118 => (if t118 = ((a_d l0_1 x10_1).f9) then (a_y.l0 k1 l0_1 (l0_1.length : Int) (wrap64 (x10_1 + 1)) a0_0 l0_1) else (some false))) else (some false)))) else (none)) else (none)) else ((a_4.f l0_1 ((a_d l0_1 x10_1).f0) ((a_d l0_1 x10_1).f1) ((a_d l0_1 x10_1).f2) ((a_d l0_1 x10_1).f3) ((a_d l0_1 x10_1).f4) ((a_d l0_1 x10_1).f5) ((a_d l0_1 x10_1).f6) ((a_d l0_1 x10_1).f7) ((a_d l0_1 x10_1).f8) ((a_d l0_1 x10_1).f9) ((a_d l0_1 x10_1).f10)).bind fun t119 => (if t119 = ((a_d l0_1 x10_1).f9) then ((a_2.f l0_1 ((a_d l0_1 x10_1).f0) ((a_d l0_1 x10_1).f1) ((a_d l0_1 x10_1).f2) ((a_d l0_1 x10_1).f3) ((a_d l0_1 x10_1).f4) ((a_d l0_1 x10_1).f5) ((a_d l0_1 x10_1).f6) ((a_d l0_1 x10_1).f7) ((a_d l0_1 x10_1).f8) ((a_d l0_1 x10_1).f9) ((a_d l0_1 x10_1).f10) ((a_d l0_1 x10_1).f0) ((a_d l0_1 x10_1).f1) ((a_d l0_1 x10_1).f2) ((a_d l0_1 x10_1).f3) ((a_d l0_1 x10_1).f4) ((a_d l0_1 x10_1).f5) ((a_d l0_1 x10_1).f6) ((a_d l0_1 x10_1).f7) ((a_d l0_1 x10_1).f8) ((a_d l0_1 x10_1).f9) ((a_d l0_1 x10_1).f10)).bind fun t120 => (if t120 = ((a_d l0_1 x10_1).f9) then (a_y.l0 k1 l0_1 (l0_1.length : Int) (wrap64 (x10_1 + 1)) a0_0 l0_1) else (some false))) else (some false)))) = some r:=by rw [if_pos rfl] at H;exact H
   clear H
   have H:=H1
   clear H1
   by_cases c9 : x10_1 > 0
   rotate_left
   ·rw [if_neg c9] at H
    have c9b0 : decide (0 < x10_1) = false:=decide_eq_false c9
    clear c9
    replace H:=Option.bind_eq_some_iff.mp H
    obtain ⟨t119,A630,H⟩:=H
    replace H : (if t119 = ((a_d l0_1 x10_1).f9) then ((a_2.f l0_1 ((a_d l0_1 x10_1).f0) ((a_d l0_1 x10_1).f1) ((a_d l0_1 x10_1).f2) ((a_d l0_1 x10_1).f3) ((a_d l0_1 x10_1).f4) ((a_d l0_1 x10_1).f5) ((a_d l0_1 x10_1).f6) ((a_d l0_1 x10_1).f7) ((a_d l0_1 x10_1).f8) ((a_d l0_1 x10_1).f9) ((a_d l0_1 x10_1).f10) ((a_d l0_1 x10_1).f0) ((a_d l0_1 x10_1).f1) ((a_d l0_1 x10_1).f2) ((a_d l0_1 x10_1).f3) ((a_d l0_1 x10_1).f4) ((a_d l0_1 x10_1).f5) ((a_d l0_1 x10_1).f6) ((a_d l0_1 x10_1).f7) ((a_d l0_1 x10_1).f8) ((a_d l0_1 x10_1).f9) ((a_d l0_1 x10_1).f10)).bind fun t120 => (if t120 = ((a_d l0_1 x10_1).f9) then (a_y.l0 k1 l0_1 (l0_1.length : Int) (wrap64 (x10_1 + 1)) a0_0 l0_1) else (some false))) else (some false)) = some r:=H
    have A63:=a_c.mk A630
    clear A630
    by_cases c64 : t119 = ((a_d l0_1 x10_1).f9)
    rotate_left
    ·rw [if_neg c64] at H
     have c64b0 : (t119 == ((a_d l0_1 x10_1).f9)) = false:=beq_eq_false_iff_ne.mpr c64
     have c64b1 : (t119 != ((a_d l0_1 x10_1).f9)) = true:=bne_iff_ne.mpr c64
     obtain rfl:=Option.some.inj H
     refine d_n (n:=37) (S:=fun w' => w'.cell? ⟨a_X,0,none⟩ = some (.int .i64 ((a_d l0_1 x10_1).f0)) ∧ w'.cell? ⟨a_X,1,none⟩ = some (.int .i64 ((a_d l0_1 x10_1).f1)) ∧ w'.cell? ⟨a_X,2,none⟩ = some (.int .i64 ((a_d l0_1 x10_1).f2)) ∧ w'.cell? ⟨a_X,3,none⟩ = some (.int .i64 ((a_d l0_1 x10_1).f3)) ∧ w'.cell? ⟨a_X,4,none⟩ = some (.int .i64 ((a_d l0_1 x10_1).f4)) ∧ w'.cell? ⟨a_X,5,none⟩ = some (.bool ((a_d l0_1 x10_1).f5)) ∧ w'.cell? ⟨a_X,6,none⟩ = some (.bool ((a_d l0_1 x10_1).f6)) ∧ w'.cell? ⟨a_X,7,none⟩ = some (.int .u32 ((a_d l0_1 x10_1).f7)) ∧ w'.cell? ⟨a_X,8,none⟩ = some (.int .i64 ((a_d l0_1 x10_1).f8)) ∧ w'.cell? ⟨a_X,9,none⟩ = some (.int .i64 ((a_d l0_1 x10_1).f9)) ∧ w'.cell? ⟨a_X,10,none⟩ = some (.int .i64 ((a_d l0_1 x10_1).f10)) ∧ w'.cell? ⟨c_5,0,none⟩ = some (.int .i64 a0_0) ∧ w'.cell? ⟨c_5,1,none⟩ = some (.slice (some ad112) l0_1.length c0_1) ∧ w'.cell? ⟨d_l,0,none⟩ = some (.func (.func 51) #[] #[.pointer (some ⟨a_X,0,none⟩)])) (ds:=[]) Z0_ (by kernel_rfl) rfl rfl ⟨(a_a a_w.out 0).trans rfl,(a_a a_w.out 1).trans rfl,(a_a a_w.out 2).trans rfl,(a_a a_w.out 3).trans rfl,(a_a a_w.out 4).trans rfl,(a_a a_w.out 5).trans rfl,(a_a a_w.out 6).trans rfl,(a_a a_w.out 7).trans rfl,(a_a a_w.out 8).trans rfl,(a_a a_w.out 9).trans rfl,(a_a a_w.out 10).trans rfl,(a_a a_5.out 0).trans rfl,(a_a a_5.out 1).trans rfl,(a_a b_A.out 0).trans rfl⟩ (fun hHeld => ?_);refine b_9 a_y.tab6 a_y.e_r (fun HT_ HW_ => ?_)
     generalize w21.drew = w99 at a_5 a_w b_A HB hHeld ⊢
     refine b_F (i:=0) (N:=some 17) (v:=?_) (a':=?_) Z2_ rfl rfl (a_Q HT_.out HW_.out (by kernel_rfl)) (fun _ _ _ h => h) (Or.inl ⟨by rfl,?_⟩) hHeld ?_ ?_
     rotate_left
     ·rintro w' ⟨s0,s1,s2,s3,s4,s5,s6,s7,s8,s9,s10,s11,s12,s13⟩
      go_simp
      with_reducible rfl
     rotate_left
     ·simp only [Act.put,sa_,sb_,sc_,a_r,a_s]
      rfl
     refine one_ (i:=1) (N:=some 18) Z4_ rfl rfl (c_B HT_.out (by kernel_rfl)) (by decide) (fun K hK => ?_)
     refine d_w Try.func53 (by kernel_rfl) rfl #[.agg #[.int .i64 ((a_d l0_1 x10_1).f0),.int .i64 ((a_d l0_1 x10_1).f1),.int .i64 ((a_d l0_1 x10_1).f2),.int .i64 ((a_d l0_1 x10_1).f3),.int .i64 ((a_d l0_1 x10_1).f4),.bool ((a_d l0_1 x10_1).f5),.bool ((a_d l0_1 x10_1).f6),.int .u32 ((a_d l0_1 x10_1).f7),.int .i64 ((a_d l0_1 x10_1).f8),.int .i64 ((a_d l0_1 x10_1).f9),.int .i64 ((a_d l0_1 x10_1).f10)]] (by rfl) rfl rfl (by (try simp only [List.map_toArray,List.map_cons,List.map_nil]);first|done|rfl|(simp only [List.length_drop,List.length_take];rfl)) ?_
     with_reducible refine (a_K.calls k1 ((a_d l0_1 x10_1).f0) ((a_d l0_1 x10_1).f1) ((a_d l0_1 x10_1).f2) ((a_d l0_1 x10_1).f3) ((a_d l0_1 x10_1).f4) ((a_d l0_1 x10_1).f5) ((a_d l0_1 x10_1).f6) ((a_d l0_1 x10_1).f7) ((a_d l0_1 x10_1).f8) ((a_d l0_1 x10_1).f9) ((a_d l0_1 x10_1).f10) true _ A7.out).mono ?_
     rintro e w100 ⟨rfl,hb⟩
     refine ⟨_,rfl,?_⟩
     replace a_5:=a_c.mk (a_m (bup_ a_5.out) hb)
     replace a_w:=a_c.mk (a_m (bup_ a_w.out) hb)
     replace b_A:=a_c.mk (a_m (bup_ b_A.out) hb)
     replace HB:=a_c.mk (a_o (by repeat (first|(with_reducible first|exact HB.out|apply a_g|apply a_b|apply a_h|refine a_f ?_ c_R.out|refine a_f ?_ d_a.out|refine a_f ?_ d_m.out)|exact HB.out)) hb)
     (try clear hb)
     (try clear hb2)
     (try clear hk)
     (try clear hi)
     refine hK.out _ _ ⟨(a_a a_w.out 0).trans rfl,(a_a a_w.out 1).trans rfl,(a_a a_w.out 2).trans rfl,(a_a a_w.out 3).trans rfl,(a_a a_w.out 4).trans rfl,(a_a a_w.out 5).trans rfl,(a_a a_w.out 6).trans rfl,(a_a a_w.out 7).trans rfl,(a_a a_w.out 8).trans rfl,(a_a a_w.out 9).trans rfl,(a_a a_w.out 10).trans rfl,(a_a a_5.out 0).trans rfl,(a_a a_5.out 1).trans rfl,(a_a b_A.out 0).trans rfl⟩ (fun hHeld => ?_)
     clear hK K
     refine d_k (a':=?_) ?_ ?_
     rotate_left
     ·show Act.put _ (some 18) _ = _
      simp only [Act.put,sa_,sb_,sc_,a_r,a_s]
      rfl
     refine a_x (i:=2) (N:=some 19) (v:=?_) (a':=?_) Z6_ rfl rfl (a_q HT_.out (by kernel_rfl)) (fun _ _ _ h => h) (Or.inl ⟨by rfl,?_⟩) ?_ ?_
     rotate_left
     ·intro w'
      go_simp
      with_reducible rfl
     rotate_left
     ·simp only [Act.put,sa_,sb_,sc_,a_r,a_s]
      rfl
     refine a_x (i:=3) (N:=some 20) (v:=?_) (a':=?_) Z8_ rfl rfl (a_q HT_.out (by kernel_rfl)) (fun _ _ _ h => h) (Or.inl ⟨by rfl,?_⟩) ?_ ?_
     rotate_left
     ·intro w'
      go_simp
      with_reducible rfl
     rotate_left
     ·simp only [Act.put,sa_,sb_,sc_,a_r,a_s]
      rfl
     refine a_x (i:=4) (N:=some 21) (v:=?_) (a':=?_) Z10_ rfl rfl (a_q HT_.out (by kernel_rfl)) (fun _ _ _ h => h) (Or.inl ⟨by rfl,?_⟩) ?_ ?_
     rotate_left
     ·intro w'
      go_simp
      with_reducible rfl
     rotate_left
     ·simp only [Act.put,sa_,sb_,sc_,a_r,a_s]
      rfl
     refine a_x (i:=5) (N:=some 22) (v:=?_) (a':=?_) Z13_ rfl rfl (a_q HT_.out (by kernel_rfl)) (fun _ _ _ h => h) (Or.inl ⟨by rfl,?_⟩) ?_ ?_
     rotate_left
     ·intro w'
      go_simp
      with_reducible rfl
     rotate_left
     ·simp only [Act.put,sa_,sb_,sc_,a_r,a_s]
      rfl
     refine a_x (i:=6) (N:=some 23) (v:=?_) (a':=?_) Z14_ rfl rfl (a_q HT_.out (by kernel_rfl)) (fun _ _ _ h => h) (Or.inl ⟨by rfl,?_⟩) ?_ ?_
     rotate_left
     ·intro w'
      go_simp
      with_reducible rfl
     rotate_left
     ·simp only [Act.put,sa_,sb_,sc_,a_r,a_s]
      rfl
     refine a_x (i:=7) (N:=some 24) (v:=undef) (a':=?_) Z16_ rfl rfl (a_q HT_.out (by kernel_rfl)) (fun _ _ _ h => h) (Or.inr ⟨by rfl,rfl⟩) ?_ ?_
     rotate_left
     ·simp only [Act.put,sa_,sb_,sc_,a_r,a_s]
      rfl
     refine a_x (i:=8) (N:=some 25) (v:=undef) (a':=?_) Z21_ rfl rfl (a_q HT_.out (by kernel_rfl)) (fun _ _ _ h => h) (Or.inr ⟨by rfl,rfl⟩) ?_ ?_
     rotate_left
     ·simp only [Act.put,sa_,sb_,sc_,a_r,a_s]
      rfl
     refine a_x (i:=9) (N:=some 26) (v:=undef) (a':=?_) Z23_ rfl rfl (a_q HT_.out (by kernel_rfl)) (fun _ _ _ h => h) (Or.inr ⟨by rfl,rfl⟩) ?_ ?_
     rotate_left
     ·simp only [Act.put,sa_,sb_,sc_,a_r,a_s]
      rfl
     refine a_x (i:=10) (N:=some 27) (v:=undef) (a':=?_) Z25_ rfl rfl (a_q HT_.out (by kernel_rfl)) (fun _ _ _ h => h) (Or.inr ⟨by rfl,rfl⟩) ?_ ?_
     rotate_left
     ·simp only [Act.put,sa_,sb_,sc_,a_r,a_s]
      rfl
     refine a_x (i:=11) (N:=some 28) (v:=undef) (a':=?_) Z28_ rfl rfl (a_q HT_.out (by kernel_rfl)) (fun _ _ _ h => h) (Or.inr ⟨by rfl,rfl⟩) ?_ ?_
     rotate_left
     ·simp only [Act.put,sa_,sb_,sc_,a_r,a_s]
      rfl
     refine a_x (i:=12) (N:=some 29) (v:=undef) (a':=?_) Z31_ rfl rfl (a_q HT_.out (by kernel_rfl)) (fun _ _ _ h => h) (Or.inr ⟨by rfl,rfl⟩) ?_ ?_
     rotate_left
     ·simp only [Act.put,sa_,sb_,sc_,a_r,a_s]
      rfl
     refine a_x (i:=13) (N:=some 30) (v:=undef) (a':=?_) Z34_ rfl rfl (a_q HT_.out (by kernel_rfl)) (fun _ _ _ h => h) (Or.inr ⟨by rfl,rfl⟩) ?_ ?_
     rotate_left
     ·simp only [Act.put,sa_,sb_,sc_,a_r,a_s]
      rfl
     refine a_x (i:=14) (N:=some 31) (v:=undef) (a':=?_) Z36_ rfl rfl (a_q HT_.out (by kernel_rfl)) (fun _ _ _ h => h) (Or.inr ⟨by rfl,rfl⟩) ?_ ?_
     rotate_left
     ·simp only [Act.put,sa_,sb_,sc_,a_r,a_s]
      rfl
     refine a_x (i:=15) (N:=some 32) (v:=undef) (a':=?_) Z41_ rfl rfl (a_q HT_.out (by kernel_rfl)) (fun _ _ _ h => h) (Or.inr ⟨by rfl,rfl⟩) ?_ ?_
     rotate_left
     ·simp only [Act.put,sa_,sb_,sc_,a_r,a_s]
      rfl
     refine a_x (i:=16) (N:=some 33) (v:=undef) (a':=?_) Z43_ rfl rfl (a_q HT_.out (by kernel_rfl)) (fun _ _ _ h => h) (Or.inr ⟨by rfl,rfl⟩) ?_ ?_
     rotate_left
     ·simp only [Act.put,sa_,sb_,sc_,a_r,a_s]
      rfl
     refine a_x (i:=17) (N:=some 34) (v:=?_) (a':=?_) Z45_ rfl rfl (a_q HT_.out (by kernel_rfl)) (fun _ _ _ h => h) (Or.inl ⟨by rfl,?_⟩) ?_ ?_
     rotate_left
     ·intro w'
      go_simp
      with_reducible rfl
     rotate_left
     ·simp only [Act.put,sa_,sb_,sc_,a_r,a_s]
      rfl
     refine a_x (i:=18) (N:=some 35) (v:=?_) (a':=?_) Z48_ rfl rfl (a_q HT_.out (by kernel_rfl)) (fun _ _ _ h => h) (Or.inl ⟨by rfl,?_⟩) ?_ ?_
     rotate_left
     ·intro w'
      go_simp
      with_reducible rfl
     rotate_left
     ·simp only [Act.put,sa_,sb_,sc_,a_r,a_s]
      rfl
     refine a_x (i:=19) (N:=some 36) (v:=?_) (a':=?_) Z51_ rfl rfl (a_q HT_.out (by kernel_rfl)) (fun _ _ _ h => h) (Or.inl ⟨by rfl,?_⟩) ?_ ?_
     rotate_left
     ·intro w'
      go_simp
      with_reducible rfl
     rotate_left
     ·simp only [Act.put,sa_,sb_,sc_,a_r,a_s]
      rfl
     refine a_x (i:=20) (N:=some 37) (v:=?_) (a':=?_) Z54_ rfl rfl (a_q HT_.out (by kernel_rfl)) (fun _ _ _ h => h) (Or.inl ⟨by rfl,?_⟩) ?_ ?_
     rotate_left
     ·intro w'
      go_simp
      with_reducible rfl
     rotate_left
     ·simp only [Act.put,sa_,sb_,sc_,a_r,a_s]
      rfl
     refine a_x (i:=24) (N:=some 41) (v:=?_) (a':=?_) Z56_ rfl rfl (a_q HT_.out (by kernel_rfl)) (fun _ _ _ h => h) (Or.inl ⟨by rfl,?_⟩) ?_ ?_
     rotate_left
     ·intro w'
      go_simp
      with_reducible rfl
     rotate_left
     ·simp only [Act.put,sa_,sb_,sc_,a_r,a_s]
      rfl
     refine b_F (i:=21) (N:=some 38) (v:=?_) (a':=?_) Z59_ rfl rfl (a_Q HT_.out HW_.out (by kernel_rfl)) (fun _ _ _ h => h) (Or.inl ⟨by rfl,?_⟩) hHeld ?_ ?_
     rotate_left
     ·rintro w' ⟨s0,s1,s2,s3,s4,s5,s6,s7,s8,s9,s10,s11,s12,s13⟩
      go_simp
      with_reducible rfl
     rotate_left
     ·simp only [Act.put,sa_,sb_,sc_,a_r,a_s]
      rfl
     refine b_F (i:=22) (N:=some 39) (v:=?_) (a':=?_) Z62_ rfl rfl (a_Q HT_.out HW_.out (by kernel_rfl)) (fun _ _ _ h => h) (Or.inl ⟨by rfl,?_⟩) hHeld ?_ ?_
     rotate_left
     ·rintro w' ⟨s0,s1,s2,s3,s4,s5,s6,s7,s8,s9,s10,s11,s12,s13⟩
      go_simp
      with_reducible rfl
     rotate_left
     ·simp only [Act.put,sa_,sb_,sc_,a_r,a_s]
      rfl
     refine b_F (i:=25) (N:=some 42) (v:=?_) (a':=?_) Z63_ rfl rfl (a_Q HT_.out HW_.out (by kernel_rfl)) (fun _ _ _ h => h) (Or.inl ⟨by rfl,?_⟩) hHeld ?_ ?_
     rotate_left
     ·rintro w' ⟨s0,s1,s2,s3,s4,s5,s6,s7,s8,s9,s10,s11,s12,s13⟩
      go_simp
      with_reducible rfl
     rotate_left
     ·simp only [Act.put,sa_,sb_,sc_,a_r,a_s]
      rfl
     refine one_ (i:=23) (N:=some 40) Z68_ rfl rfl (c_B HT_.out (by kernel_rfl)) (by decide) (fun K hK => ?_)
     refine d_w Try.func38 (by kernel_rfl) rfl #[.slice (some ad112) l0_1.length c0_1,.func (.func 51) #[] #[.pointer (some ⟨a_X,0,none⟩)]] (by rfl) rfl rfl (by (try simp only [List.map_toArray,List.map_cons,List.map_nil]);first|done|rfl|(simp only [List.length_drop,List.length_take];rfl)) ?_
     with_reducible refine (a_4.calls _ _ l0_1 a_X ((a_d l0_1 x10_1).f0) ((a_d l0_1 x10_1).f1) ((a_d l0_1 x10_1).f2) ((a_d l0_1 x10_1).f3) ((a_d l0_1 x10_1).f4) ((a_d l0_1 x10_1).f5) ((a_d l0_1 x10_1).f6) ((a_d l0_1 x10_1).f7) ((a_d l0_1 x10_1).f8) ((a_d l0_1 x10_1).f9) ((a_d l0_1 x10_1).f10) t119 _ ?side1 ?side2 ?side3 A63.out).mono ?_
     (case side1 => repeat (first|exact (Kd.a_U d_h.out HB.out)|(with_reducible refine Kd.a_8 ?_ _)|(with_reducible refine Kd.a_7 ?_ _)|(with_reducible refine Kd.b_t ?_)))
     (case side2 => exact e_e.out)
     (case side3 => exact (bup_ a_w.out))
     rintro e w101 ⟨rfl,hb⟩
     refine ⟨_,rfl,?_⟩
     replace a_5:=a_c.mk (a_m (bup_ a_5.out) hb)
     replace a_w:=a_c.mk (a_m (bup_ a_w.out) hb)
     replace b_A:=a_c.mk (a_m (bup_ b_A.out) hb)
     replace HB:=a_c.mk (a_o (by repeat (first|(with_reducible first|exact HB.out|apply a_g|apply a_b|apply a_h|refine a_f ?_ c_R.out|refine a_f ?_ d_a.out|refine a_f ?_ d_m.out)|exact HB.out)) hb)
     (try clear hb)
     (try clear hb2)
     (try clear hk)
     (try clear hi)
     refine hK.out _ _ ⟨(a_a a_w.out 0).trans rfl,(a_a a_w.out 1).trans rfl,(a_a a_w.out 2).trans rfl,(a_a a_w.out 3).trans rfl,(a_a a_w.out 4).trans rfl,(a_a a_w.out 5).trans rfl,(a_a a_w.out 6).trans rfl,(a_a a_w.out 7).trans rfl,(a_a a_w.out 8).trans rfl,(a_a a_w.out 9).trans rfl,(a_a a_w.out 10).trans rfl,(a_a a_5.out 0).trans rfl,(a_a a_5.out 1).trans rfl,(a_a b_A.out 0).trans rfl⟩ (fun hHeld => ?_)
     clear hK K
     refine d_k (a':=?_) ?_ ?_
     rotate_left
     ·show Act.put _ (some 40) _ = _
      simp only [Act.put,sa_,sb_,sc_,a_r,a_s]
      rfl
     refine a_x (i:=26) (N:=some 43) (v:=?_) (a':=?_) Z69_ rfl rfl (a_q HT_.out (by kernel_rfl)) (fun _ _ _ h => h) (Or.inl ⟨by rfl,?_⟩) ?_ ?_
     rotate_left
     ·intro w'
      go_simp
      with_reducible rfl
     rotate_left
     ·simp only [Act.put,sa_,sb_,sc_,a_r,a_s]
      rfl
     refine a_x (i:=27) (N:=some 44) (v:=?_) (a':=?_) Z70_ rfl rfl (a_q HT_.out (by kernel_rfl)) (fun _ _ _ h => h) (Or.inl ⟨by rfl,?_⟩) ?_ ?_
     rotate_left
     ·intro w'
      go_simp
      with_reducible rfl
     rotate_left
     ·simp only [Act.put,sa_,sb_,sc_,a_r,a_s]
      rfl
     refine a_x (i:=28) (N:=some 45) (v:=?_) (a':=?_) Z71_ rfl rfl (a_q HT_.out (by kernel_rfl)) (fun _ _ _ h => h) (Or.inl ⟨by rfl,?_⟩) ?_ ?_
     rotate_left
     ·intro w'
      go_simp
      with_reducible rfl
     rotate_left
     ·simp only [Act.put,sa_,sb_,sc_,a_r,a_s]
      rfl
     refine a_x (i:=29) (N:=some 46) (v:=undef) (a':=?_) Z72_ rfl rfl (a_q HT_.out (by kernel_rfl)) (fun _ _ _ h => h) (Or.inr ⟨by rfl,rfl⟩) ?_ ?_
     rotate_left
     ·simp only [Act.put,sa_,sb_,sc_,a_r,a_s]
      rfl
     refine a_x (i:=30) (N:=some 47) (v:=undef) (a':=?_) Z75_ rfl rfl (a_q HT_.out (by kernel_rfl)) (fun _ _ _ h => h) (Or.inr ⟨by rfl,rfl⟩) ?_ ?_
     rotate_left
     ·simp only [Act.put,sa_,sb_,sc_,a_r,a_s]
      rfl
     refine a_x (i:=31) (N:=some 48) (v:=undef) (a':=?_) Z76_ rfl rfl (a_q HT_.out (by kernel_rfl)) (fun _ _ _ h => h) (Or.inr ⟨by rfl,rfl⟩) ?_ ?_
     rotate_left
     ·simp only [Act.put,sa_,sb_,sc_,a_r,a_s]
      rfl
     refine a_x (i:=32) (N:=some 49) (v:=undef) (a':=?_) Z79_ rfl rfl (a_q HT_.out (by kernel_rfl)) (fun _ _ _ h => h) (Or.inr ⟨by rfl,rfl⟩) ?_ ?_
     rotate_left
     ·simp only [Act.put,sa_,sb_,sc_,a_r,a_s]
      rfl
     refine a_x (i:=33) (N:=some 50) (v:=undef) (a':=?_) Z80_ rfl rfl (a_q HT_.out (by kernel_rfl)) (fun _ _ _ h => h) (Or.inr ⟨by rfl,rfl⟩) ?_ ?_
     rotate_left
     ·simp only [Act.put,sa_,sb_,sc_,a_r,a_s]
      rfl
     refine a_x (i:=34) (N:=some 51) (v:=undef) (a':=?_) Z81_ rfl rfl (a_q HT_.out (by kernel_rfl)) (fun _ _ _ h => h) (Or.inr ⟨by rfl,rfl⟩) ?_ ?_
     rotate_left
     ·simp only [Act.put,sa_,sb_,sc_,a_r,a_s]
      rfl
     refine a_x (i:=35) (N:=some 52) (v:=undef) (a':=?_) Z82_ rfl rfl (a_q HT_.out (by kernel_rfl)) (fun _ _ _ h => h) (Or.inr ⟨by rfl,rfl⟩) ?_ ?_
     rotate_left
     ·simp only [Act.put,sa_,sb_,sc_,a_r,a_s]
      rfl
     refine a_x (i:=36) (N:=some 53) (v:=?_) (a':=?_) Z83_ rfl rfl (a_q HT_.out (by kernel_rfl)) (fun _ _ _ h => h) (Or.inl ⟨by rfl,?_⟩) ?_ ?_
     rotate_left
     ·intro w'
      go_simp
      with_reducible rfl
     rotate_left
     ·simp only [Act.put,sa_,sb_,sc_,a_r,a_s]
      rfl
     refine d_3 (c_U HT_.out (by kernel_rfl)) ?_
     try go_wp2
     go_ret
     exact ⟨by first|rfl|(simp [a_v,a_u] <;> rfl)|(simp [*, a_v,a_u] <;> rfl),by repeat (first|(with_reducible first|exact HB.out|apply a_g|apply a_b|apply a_h|refine a_f ?_ c_R.out|refine a_f ?_ d_a.out|refine a_f ?_ d_m.out)|exact HB.out)⟩
    rw [if_pos c64] at H
    have c64b0 : (t119 == ((a_d l0_1 x10_1).f9)) = true:=beq_iff_eq.mpr c64
    have c64b1 : (t119 != ((a_d l0_1 x10_1).f9)) = false:=bne_eq_false_iff_eq.mpr c64
    clear c64
    replace H:=Option.bind_eq_some_iff.mp H
    obtain ⟨t120,A650,H⟩:=H
    replace H : (if t120 = ((a_d l0_1 x10_1).f9) then (a_y.l0 k1 l0_1 (l0_1.length : Int) (wrap64 (x10_1 + 1)) a0_0 l0_1) else (some false)) = some r:=H
    have A65:=a_c.mk A650
    clear A650
    by_cases c66 : t120 = ((a_d l0_1 x10_1).f9)
    rotate_left
    ·rw [if_neg c66] at H
     have c66b0 : (t120 == ((a_d l0_1 x10_1).f9)) = false:=beq_eq_false_iff_ne.mpr c66
     have c66b1 : (t120 != ((a_d l0_1 x10_1).f9)) = true:=bne_iff_ne.mpr c66
     obtain rfl:=Option.some.inj H
     refine d_n (n:=37) (S:=fun w' => w'.cell? ⟨a_X,0,none⟩ = some (.int .i64 ((a_d l0_1 x10_1).f0)) ∧ w'.cell? ⟨a_X,1,none⟩ = some (.int .i64 ((a_d l0_1 x10_1).f1)) ∧ w'.cell? ⟨a_X,2,none⟩ = some (.int .i64 ((a_d l0_1 x10_1).f2)) ∧ w'.cell? ⟨a_X,3,none⟩ = some (.int .i64 ((a_d l0_1 x10_1).f3)) ∧ w'.cell? ⟨a_X,4,none⟩ = some (.int .i64 ((a_d l0_1 x10_1).f4)) ∧ w'.cell? ⟨a_X,5,none⟩ = some (.bool ((a_d l0_1 x10_1).f5)) ∧ w'.cell? ⟨a_X,6,none⟩ = some (.bool ((a_d l0_1 x10_1).f6)) ∧ w'.cell? ⟨a_X,7,none⟩ = some (.int .u32 ((a_d l0_1 x10_1).f7)) ∧ w'.cell? ⟨a_X,8,none⟩ = some (.int .i64 ((a_d l0_1 x10_1).f8)) ∧ w'.cell? ⟨a_X,9,none⟩ = some (.int .i64 ((a_d l0_1 x10_1).f9)) ∧ w'.cell? ⟨a_X,10,none⟩ = some (.int .i64 ((a_d l0_1 x10_1).f10)) ∧ w'.cell? ⟨c_5,0,none⟩ = some (.int .i64 a0_0) ∧ w'.cell? ⟨c_5,1,none⟩ = some (.slice (some ad112) l0_1.length c0_1) ∧ w'.cell? ⟨d_l,0,none⟩ = some (.func (.func 51) #[] #[.pointer (some ⟨a_X,0,none⟩)])) (ds:=[]) Z0_ (by kernel_rfl) rfl rfl ⟨(a_a a_w.out 0).trans rfl,(a_a a_w.out 1).trans rfl,(a_a a_w.out 2).trans rfl,(a_a a_w.out 3).trans rfl,(a_a a_w.out 4).trans rfl,(a_a a_w.out 5).trans rfl,(a_a a_w.out 6).trans rfl,(a_a a_w.out 7).trans rfl,(a_a a_w.out 8).trans rfl,(a_a a_w.out 9).trans rfl,(a_a a_w.out 10).trans rfl,(a_a a_5.out 0).trans rfl,(a_a a_5.out 1).trans rfl,(a_a b_A.out 0).trans rfl⟩ (fun hHeld => ?_);refine b_9 a_y.tab6 a_y.e_r (fun HT_ HW_ => ?_)
     generalize w21.drew = w87 at a_5 a_w b_A HB hHeld ⊢
     refine b_F (i:=0) (N:=some 17) (v:=?_) (a':=?_) Z2_ rfl rfl (a_Q HT_.out HW_.out (by kernel_rfl)) (fun _ _ _ h => h) (Or.inl ⟨by rfl,?_⟩) hHeld ?_ ?_
     rotate_left
     ·rintro w' ⟨s0,s1,s2,s3,s4,s5,s6,s7,s8,s9,s10,s11,s12,s13⟩
      go_simp
      with_reducible rfl
     rotate_left
     ·simp only [Act.put,sa_,sb_,sc_,a_r,a_s]
      rfl
     refine one_ (i:=1) (N:=some 18) Z4_ rfl rfl (c_B HT_.out (by kernel_rfl)) (by decide) (fun K hK => ?_)
     refine d_w Try.func53 (by kernel_rfl) rfl #[.agg #[.int .i64 ((a_d l0_1 x10_1).f0),.int .i64 ((a_d l0_1 x10_1).f1),.int .i64 ((a_d l0_1 x10_1).f2),.int .i64 ((a_d l0_1 x10_1).f3),.int .i64 ((a_d l0_1 x10_1).f4),.bool ((a_d l0_1 x10_1).f5),.bool ((a_d l0_1 x10_1).f6),.int .u32 ((a_d l0_1 x10_1).f7),.int .i64 ((a_d l0_1 x10_1).f8),.int .i64 ((a_d l0_1 x10_1).f9),.int .i64 ((a_d l0_1 x10_1).f10)]] (by rfl) rfl rfl (by (try simp only [List.map_toArray,List.map_cons,List.map_nil]);first|done|rfl|(simp only [List.length_drop,List.length_take];rfl)) ?_
     with_reducible refine (a_K.calls k1 ((a_d l0_1 x10_1).f0) ((a_d l0_1 x10_1).f1) ((a_d l0_1 x10_1).f2) ((a_d l0_1 x10_1).f3) ((a_d l0_1 x10_1).f4) ((a_d l0_1 x10_1).f5) ((a_d l0_1 x10_1).f6) ((a_d l0_1 x10_1).f7) ((a_d l0_1 x10_1).f8) ((a_d l0_1 x10_1).f9) ((a_d l0_1 x10_1).f10) true _ A7.out).mono ?_
     rintro e w88 ⟨rfl,hb⟩
     refine ⟨_,rfl,?_⟩
     replace a_5:=a_c.mk (a_m (bup_ a_5.out) hb)
     replace a_w:=a_c.mk (a_m (bup_ a_w.out) hb)
     replace b_A:=a_c.mk (a_m (bup_ b_A.out) hb)
     replace HB:=a_c.mk (a_o (by repeat (first|(with_reducible first|exact HB.out|apply a_g|apply a_b|apply a_h|refine a_f ?_ c_R.out|refine a_f ?_ d_a.out|refine a_f ?_ d_m.out)|exact HB.out)) hb)
     (try clear hb)
     (try clear hb2)
     (try clear hk)
     (try clear hi)
     refine hK.out _ _ ⟨(a_a a_w.out 0).trans rfl,(a_a a_w.out 1).trans rfl,(a_a a_w.out 2).trans rfl,(a_a a_w.out 3).trans rfl,(a_a a_w.out 4).trans rfl,(a_a a_w.out 5).trans rfl,(a_a a_w.out 6).trans rfl,(a_a a_w.out 7).trans rfl,(a_a a_w.out 8).trans rfl,(a_a a_w.out 9).trans rfl,(a_a a_w.out 10).trans rfl,(a_a a_5.out 0).trans rfl,(a_a a_5.out 1).trans rfl,(a_a b_A.out 0).trans rfl⟩ (fun hHeld => ?_)
     clear hK K
     refine d_k (a':=?_) ?_ ?_
     rotate_left
     ·show Act.put _ (some 18) _ = _
      simp only [Act.put,sa_,sb_,sc_,a_r,a_s]
      rfl
     refine a_x (i:=2) (N:=some 19) (v:=?_) (a':=?_) Z6_ rfl rfl (a_q HT_.out (by kernel_rfl)) (fun _ _ _ h => h) (Or.inl ⟨by rfl,?_⟩) ?_ ?_
     rotate_left
     ·intro w'
      go_simp
      with_reducible rfl
     rotate_left
     ·simp only [Act.put,sa_,sb_,sc_,a_r,a_s]
      rfl
     refine a_x (i:=3) (N:=some 20) (v:=?_) (a':=?_) Z8_ rfl rfl (a_q HT_.out (by kernel_rfl)) (fun _ _ _ h => h) (Or.inl ⟨by rfl,?_⟩) ?_ ?_
     rotate_left
     ·intro w'
      go_simp
      with_reducible rfl
     rotate_left
     ·simp only [Act.put,sa_,sb_,sc_,a_r,a_s]
      rfl
     refine a_x (i:=4) (N:=some 21) (v:=?_) (a':=?_) Z10_ rfl rfl (a_q HT_.out (by kernel_rfl)) (fun _ _ _ h => h) (Or.inl ⟨by rfl,?_⟩) ?_ ?_
     rotate_left
     ·intro w'
      go_simp
      with_reducible rfl
     rotate_left
     ·simp only [Act.put,sa_,sb_,sc_,a_r,a_s]
      rfl
     refine a_x (i:=5) (N:=some 22) (v:=?_) (a':=?_) Z13_ rfl rfl (a_q HT_.out (by kernel_rfl)) (fun _ _ _ h => h) (Or.inl ⟨by rfl,?_⟩) ?_ ?_
     rotate_left
     ·intro w'
      go_simp
      with_reducible rfl
     rotate_left
     ·simp only [Act.put,sa_,sb_,sc_,a_r,a_s]
      rfl
     refine a_x (i:=6) (N:=some 23) (v:=?_) (a':=?_) Z14_ rfl rfl (a_q HT_.out (by kernel_rfl)) (fun _ _ _ h => h) (Or.inl ⟨by rfl,?_⟩) ?_ ?_
     rotate_left
     ·intro w'
      go_simp
      with_reducible rfl
     rotate_left
     ·simp only [Act.put,sa_,sb_,sc_,a_r,a_s]
      rfl
     refine a_x (i:=7) (N:=some 24) (v:=undef) (a':=?_) Z16_ rfl rfl (a_q HT_.out (by kernel_rfl)) (fun _ _ _ h => h) (Or.inr ⟨by rfl,rfl⟩) ?_ ?_
     rotate_left
     ·simp only [Act.put,sa_,sb_,sc_,a_r,a_s]
      rfl
     refine a_x (i:=8) (N:=some 25) (v:=undef) (a':=?_) Z21_ rfl rfl (a_q HT_.out (by kernel_rfl)) (fun _ _ _ h => h) (Or.inr ⟨by rfl,rfl⟩) ?_ ?_
     rotate_left
     ·simp only [Act.put,sa_,sb_,sc_,a_r,a_s]
      rfl
     refine a_x (i:=9) (N:=some 26) (v:=undef) (a':=?_) Z23_ rfl rfl (a_q HT_.out (by kernel_rfl)) (fun _ _ _ h => h) (Or.inr ⟨by rfl,rfl⟩) ?_ ?_
     rotate_left
     ·simp only [Act.put,sa_,sb_,sc_,a_r,a_s]
      rfl
     refine a_x (i:=10) (N:=some 27) (v:=undef) (a':=?_) Z25_ rfl rfl (a_q HT_.out (by kernel_rfl)) (fun _ _ _ h => h) (Or.inr ⟨by rfl,rfl⟩) ?_ ?_
     rotate_left
     ·simp only [Act.put,sa_,sb_,sc_,a_r,a_s]
      rfl
     refine a_x (i:=11) (N:=some 28) (v:=undef) (a':=?_) Z28_ rfl rfl (a_q HT_.out (by kernel_rfl)) (fun _ _ _ h => h) (Or.inr ⟨by rfl,rfl⟩) ?_ ?_
     rotate_left
     ·simp only [Act.put,sa_,sb_,sc_,a_r,a_s]
      rfl
     refine a_x (i:=12) (N:=some 29) (v:=undef) (a':=?_) Z31_ rfl rfl (a_q HT_.out (by kernel_rfl)) (fun _ _ _ h => h) (Or.inr ⟨by rfl,rfl⟩) ?_ ?_
     rotate_left
     ·simp only [Act.put,sa_,sb_,sc_,a_r,a_s]
      rfl
     refine a_x (i:=13) (N:=some 30) (v:=undef) (a':=?_) Z34_ rfl rfl (a_q HT_.out (by kernel_rfl)) (fun _ _ _ h => h) (Or.inr ⟨by rfl,rfl⟩) ?_ ?_
     rotate_left
     ·simp only [Act.put,sa_,sb_,sc_,a_r,a_s]
      rfl
     refine a_x (i:=14) (N:=some 31) (v:=undef) (a':=?_) Z36_ rfl rfl (a_q HT_.out (by kernel_rfl)) (fun _ _ _ h => h) (Or.inr ⟨by rfl,rfl⟩) ?_ ?_
     rotate_left
     ·simp only [Act.put,sa_,sb_,sc_,a_r,a_s]
      rfl
     refine a_x (i:=15) (N:=some 32) (v:=undef) (a':=?_) Z41_ rfl rfl (a_q HT_.out (by kernel_rfl)) (fun _ _ _ h => h) (Or.inr ⟨by rfl,rfl⟩) ?_ ?_
     rotate_left
     ·simp only [Act.put,sa_,sb_,sc_,a_r,a_s]
      rfl
     refine a_x (i:=16) (N:=some 33) (v:=undef) (a':=?_) Z43_ rfl rfl (a_q HT_.out (by kernel_rfl)) (fun _ _ _ h => h) (Or.inr ⟨by rfl,rfl⟩) ?_ ?_
     rotate_left
     ·simp only [Act.put,sa_,sb_,sc_,a_r,a_s]
      rfl
     refine a_x (i:=17) (N:=some 34) (v:=?_) (a':=?_) Z45_ rfl rfl (a_q HT_.out (by kernel_rfl)) (fun _ _ _ h => h) (Or.inl ⟨by rfl,?_⟩) ?_ ?_
     rotate_left
     ·intro w'
      go_simp
      with_reducible rfl
     rotate_left
     ·simp only [Act.put,sa_,sb_,sc_,a_r,a_s]
      rfl
     refine a_x (i:=18) (N:=some 35) (v:=?_) (a':=?_) Z48_ rfl rfl (a_q HT_.out (by kernel_rfl)) (fun _ _ _ h => h) (Or.inl ⟨by rfl,?_⟩) ?_ ?_
     rotate_left
     ·intro w'
      go_simp
      with_reducible rfl
     rotate_left
     ·simp only [Act.put,sa_,sb_,sc_,a_r,a_s]
      rfl
     refine a_x (i:=19) (N:=some 36) (v:=?_) (a':=?_) Z51_ rfl rfl (a_q HT_.out (by kernel_rfl)) (fun _ _ _ h => h) (Or.inl ⟨by rfl,?_⟩) ?_ ?_
     rotate_left
     ·intro w'
      go_simp
      with_reducible rfl
     rotate_left
     ·simp only [Act.put,sa_,sb_,sc_,a_r,a_s]
      rfl
     refine a_x (i:=20) (N:=some 37) (v:=?_) (a':=?_) Z54_ rfl rfl (a_q HT_.out (by kernel_rfl)) (fun _ _ _ h => h) (Or.inl ⟨by rfl,?_⟩) ?_ ?_
     rotate_left
     ·intro w'
      go_simp
      with_reducible rfl
     rotate_left
     ·simp only [Act.put,sa_,sb_,sc_,a_r,a_s]
      rfl
     refine a_x (i:=24) (N:=some 41) (v:=?_) (a':=?_) Z56_ rfl rfl (a_q HT_.out (by kernel_rfl)) (fun _ _ _ h => h) (Or.inl ⟨by rfl,?_⟩) ?_ ?_
     rotate_left
     ·intro w'
      go_simp
      with_reducible rfl
     rotate_left
     ·simp only [Act.put,sa_,sb_,sc_,a_r,a_s]
      rfl
     refine b_F (i:=21) (N:=some 38) (v:=?_) (a':=?_) Z59_ rfl rfl (a_Q HT_.out HW_.out (by kernel_rfl)) (fun _ _ _ h => h) (Or.inl ⟨by rfl,?_⟩) hHeld ?_ ?_
     rotate_left
     ·rintro w' ⟨s0,s1,s2,s3,s4,s5,s6,s7,s8,s9,s10,s11,s12,s13⟩
      go_simp
      with_reducible rfl
     rotate_left
     ·simp only [Act.put,sa_,sb_,sc_,a_r,a_s]
      rfl
     refine b_F (i:=22) (N:=some 39) (v:=?_) (a':=?_) Z62_ rfl rfl (a_Q HT_.out HW_.out (by kernel_rfl)) (fun _ _ _ h => h) (Or.inl ⟨by rfl,?_⟩) hHeld ?_ ?_
     rotate_left
     ·rintro w' ⟨s0,s1,s2,s3,s4,s5,s6,s7,s8,s9,s10,s11,s12,s13⟩
      go_simp
      with_reducible rfl
     rotate_left
     ·simp only [Act.put,sa_,sb_,sc_,a_r,a_s]
      rfl
     refine b_F (i:=25) (N:=some 42) (v:=?_) (a':=?_) Z63_ rfl rfl (a_Q HT_.out HW_.out (by kernel_rfl)) (fun _ _ _ h => h) (Or.inl ⟨by rfl,?_⟩) hHeld ?_ ?_
     rotate_left
     ·rintro w' ⟨s0,s1,s2,s3,s4,s5,s6,s7,s8,s9,s10,s11,s12,s13⟩
      go_simp
      with_reducible rfl
     rotate_left
     ·simp only [Act.put,sa_,sb_,sc_,a_r,a_s]
      rfl
     refine one_ (i:=23) (N:=some 40) Z68_ rfl rfl (c_B HT_.out (by kernel_rfl)) (by decide) (fun K hK => ?_)
     refine d_w Try.func38 (by kernel_rfl) rfl #[.slice (some ad112) l0_1.length c0_1,.func (.func 51) #[] #[.pointer (some ⟨a_X,0,none⟩)]] (by rfl) rfl rfl (by (try simp only [List.map_toArray,List.map_cons,List.map_nil]);first|done|rfl|(simp only [List.length_drop,List.length_take];rfl)) ?_
     with_reducible refine (a_4.calls _ _ l0_1 a_X ((a_d l0_1 x10_1).f0) ((a_d l0_1 x10_1).f1) ((a_d l0_1 x10_1).f2) ((a_d l0_1 x10_1).f3) ((a_d l0_1 x10_1).f4) ((a_d l0_1 x10_1).f5) ((a_d l0_1 x10_1).f6) ((a_d l0_1 x10_1).f7) ((a_d l0_1 x10_1).f8) ((a_d l0_1 x10_1).f9) ((a_d l0_1 x10_1).f10) t119 _ ?side1 ?side2 ?side3 A63.out).mono ?_
     (case side1 => repeat (first|exact (Kd.a_U d_h.out HB.out)|(with_reducible refine Kd.a_8 ?_ _)|(with_reducible refine Kd.a_7 ?_ _)|(with_reducible refine Kd.b_t ?_)))
     (case side2 => exact e_e.out)
     (case side3 => exact (bup_ a_w.out))
     rintro e w89 ⟨rfl,hb⟩
     refine ⟨_,rfl,?_⟩
     replace a_5:=a_c.mk (a_m (bup_ a_5.out) hb)
     replace a_w:=a_c.mk (a_m (bup_ a_w.out) hb)
     replace b_A:=a_c.mk (a_m (bup_ b_A.out) hb)
     replace HB:=a_c.mk (a_o (by repeat (first|(with_reducible first|exact HB.out|apply a_g|apply a_b|apply a_h|refine a_f ?_ c_R.out|refine a_f ?_ d_a.out|refine a_f ?_ d_m.out)|exact HB.out)) hb)
     (try clear hb)
     (try clear hb2)
     (try clear hk)
     (try clear hi)
     refine hK.out _ _ ⟨(a_a a_w.out 0).trans rfl,(a_a a_w.out 1).trans rfl,(a_a a_w.out 2).trans rfl,(a_a a_w.out 3).trans rfl,(a_a a_w.out 4).trans rfl,(a_a a_w.out 5).trans rfl,(a_a a_w.out 6).trans rfl,(a_a a_w.out 7).trans rfl,(a_a a_w.out 8).trans rfl,(a_a a_w.out 9).trans rfl,(a_a a_w.out 10).trans rfl,(a_a a_5.out 0).trans rfl,(a_a a_5.out 1).trans rfl,(a_a b_A.out 0).trans rfl⟩ (fun hHeld => ?_)
     clear hK K
     refine d_k (a':=?_) ?_ ?_
     rotate_left
     ·show Act.put _ (some 40) _ = _
      simp only [Act.put,sa_,sb_,sc_,a_r,a_s]
      rfl
     refine a_x (i:=26) (N:=some 43) (v:=?_) (a':=?_) Z69_ rfl rfl (a_q HT_.out (by kernel_rfl)) (fun _ _ _ h => h) (Or.inl ⟨by rfl,?_⟩) ?_ ?_
     rotate_left
     ·intro w'
      go_simp
      with_reducible rfl
     rotate_left
     ·simp only [Act.put,sa_,sb_,sc_,a_r,a_s]
      rfl
     refine a_x (i:=27) (N:=some 44) (v:=?_) (a':=?_) Z70_ rfl rfl (a_q HT_.out (by kernel_rfl)) (fun _ _ _ h => h) (Or.inl ⟨by rfl,?_⟩) ?_ ?_
     rotate_left
     ·intro w'
      go_simp
      with_reducible rfl
     rotate_left
     ·simp only [Act.put,sa_,sb_,sc_,a_r,a_s]
      rfl
     refine a_x (i:=28) (N:=some 45) (v:=?_) (a':=?_) Z71_ rfl rfl (a_q HT_.out (by kernel_rfl)) (fun _ _ _ h => h) (Or.inl ⟨by rfl,?_⟩) ?_ ?_
     rotate_left
     ·intro w'
      go_simp
      with_reducible rfl
     rotate_left
     ·simp only [Act.put,sa_,sb_,sc_,a_r,a_s]
      rfl
     refine a_x (i:=29) (N:=some 46) (v:=?_) (a':=?_) Z72_ rfl rfl (a_q HT_.out (by kernel_rfl)) (fun _ _ _ h => h) (Or.inl ⟨by rfl,?_⟩) ?_ ?_
     rotate_left
     ·intro w'
      go_simp
      with_reducible rfl
     rotate_left
     ·simp only [Act.put,sa_,sb_,sc_,a_r,a_s]
      rfl
     refine a_x (i:=31) (N:=some 48) (v:=?_) (a':=?_) Z73_ rfl rfl (a_q HT_.out (by kernel_rfl)) (fun _ _ _ h => h) (Or.inl ⟨by rfl,?_⟩) ?_ ?_
     rotate_left
     ·intro w'
      go_simp
      with_reducible rfl
     rotate_left
     ·simp only [Act.put,sa_,sb_,sc_,a_r,a_s]
      rfl
     refine a_x (i:=33) (N:=some 50) (v:=?_) (a':=?_) Z74_ rfl rfl (a_q HT_.out (by kernel_rfl)) (fun _ _ _ h => h) (Or.inl ⟨by rfl,?_⟩) ?_ ?_
     rotate_left
     ·intro w'
      go_simp
      with_reducible rfl
     rotate_left
     ·simp only [Act.put,sa_,sb_,sc_,a_r,a_s]
      rfl
     refine b_F (i:=30) (N:=some 47) (v:=?_) (a':=?_) Z77_ rfl rfl (a_Q HT_.out HW_.out (by kernel_rfl)) (fun _ _ _ h => h) (Or.inl ⟨by rfl,?_⟩) hHeld ?_ ?_
     rotate_left
     ·rintro w' ⟨s0,s1,s2,s3,s4,s5,s6,s7,s8,s9,s10,s11,s12,s13⟩
      go_simp
      with_reducible rfl
     rotate_left
     ·simp only [Act.put,sa_,sb_,sc_,a_r,a_s]
      rfl
     refine b_F (i:=34) (N:=some 51) (v:=?_) (a':=?_) Z78_ rfl rfl (a_Q HT_.out HW_.out (by kernel_rfl)) (fun _ _ _ h => h) (Or.inl ⟨by rfl,?_⟩) hHeld ?_ ?_
     rotate_left
     ·rintro w' ⟨s0,s1,s2,s3,s4,s5,s6,s7,s8,s9,s10,s11,s12,s13⟩
      go_simp
      with_reducible rfl
     rotate_left
     ·simp only [Act.put,sa_,sb_,sc_,a_r,a_s]
      rfl
     refine one_ (i:=32) (N:=some 49) Z81_ rfl rfl (c_B HT_.out (by kernel_rfl)) (by decide) (fun K hK => ?_)
     refine d_w Try.func38 (by kernel_rfl) rfl #[.slice (some ad112) l0_1.length c0_1,.func (.func 52) #[] #[.pointer (some ⟨d_l,0,none⟩),.pointer (some ⟨a_X,0,none⟩)]] (by rfl) rfl rfl (by (try simp only [List.map_toArray,List.map_cons,List.map_nil]);first|done|rfl|(simp only [List.length_drop,List.length_take];rfl)) ?_
     with_reducible refine (a_2.calls _ _ l0_1 d_l a_X a_X ((a_d l0_1 x10_1).f0) ((a_d l0_1 x10_1).f1) ((a_d l0_1 x10_1).f2) ((a_d l0_1 x10_1).f3) ((a_d l0_1 x10_1).f4) ((a_d l0_1 x10_1).f5) ((a_d l0_1 x10_1).f6) ((a_d l0_1 x10_1).f7) ((a_d l0_1 x10_1).f8) ((a_d l0_1 x10_1).f9) ((a_d l0_1 x10_1).f10) ((a_d l0_1 x10_1).f0) ((a_d l0_1 x10_1).f1) ((a_d l0_1 x10_1).f2) ((a_d l0_1 x10_1).f3) ((a_d l0_1 x10_1).f4) ((a_d l0_1 x10_1).f5) ((a_d l0_1 x10_1).f6) ((a_d l0_1 x10_1).f7) ((a_d l0_1 x10_1).f8) ((a_d l0_1 x10_1).f9) ((a_d l0_1 x10_1).f10) t120 _ ?side1 ?side2 ?side3 ?side4 ?side5 A65.out).mono ?_
     (case side1 => repeat (first|exact (Kd.a_U d_h.out HB.out)|(with_reducible refine Kd.a_8 ?_ _)|(with_reducible refine Kd.a_7 ?_ _)|(with_reducible refine Kd.b_t ?_)))
     (case side2 => exact e_e.out)
     (case side3 => exact (bup_ b_A.out))
     (case side4 => exact (bup_ a_w.out))
     (case side5 => exact (bup_ a_w.out))
     rintro e w90 ⟨rfl,hb⟩
     refine ⟨_,rfl,?_⟩
     replace a_5:=a_c.mk (a_m (bup_ a_5.out) hb)
     replace a_w:=a_c.mk (a_m (bup_ a_w.out) hb)
     replace b_A:=a_c.mk (a_m (bup_ b_A.out) hb)
     replace HB:=a_c.mk (a_o (by repeat (first|(with_reducible first|exact HB.out|apply a_g|apply a_b|apply a_h|refine a_f ?_ c_R.out|refine a_f ?_ d_a.out|refine a_f ?_ d_m.out)|exact HB.out)) hb)
     (try clear hb)
     (try clear hb2)
     (try clear hk)
     (try clear hi)
     refine hK.out _ _ ⟨(a_a a_w.out 0).trans rfl,(a_a a_w.out 1).trans rfl,(a_a a_w.out 2).trans rfl,(a_a a_w.out 3).trans rfl,(a_a a_w.out 4).trans rfl,(a_a a_w.out 5).trans rfl,(a_a a_w.out 6).trans rfl,(a_a a_w.out 7).trans rfl,(a_a a_w.out 8).trans rfl,(a_a a_w.out 9).trans rfl,(a_a a_w.out 10).trans rfl,(a_a a_5.out 0).trans rfl,(a_a a_5.out 1).trans rfl,(a_a b_A.out 0).trans rfl⟩ (fun hHeld => ?_)
     clear hK K
     refine d_k (a':=?_) ?_ ?_
     rotate_left
     ·show Act.put _ (some 49) _ = _
      simp only [Act.put,sa_,sb_,sc_,a_r,a_s]
      rfl
     refine a_x (i:=35) (N:=some 52) (v:=?_) (a':=?_) Z82_ rfl rfl (a_q HT_.out (by kernel_rfl)) (fun _ _ _ h => h) (Or.inl ⟨by rfl,?_⟩) ?_ ?_
     rotate_left
     ·intro w'
      go_simp
      with_reducible rfl
     rotate_left
     ·simp only [Act.put,sa_,sb_,sc_,a_r,a_s]
      rfl
     refine a_x (i:=36) (N:=some 53) (v:=?_) (a':=?_) Z83_ rfl rfl (a_q HT_.out (by kernel_rfl)) (fun _ _ _ h => h) (Or.inl ⟨by rfl,?_⟩) ?_ ?_
     rotate_left
     ·intro w'
      go_simp
      with_reducible rfl
     rotate_left
     ·simp only [Act.put,sa_,sb_,sc_,a_r,a_s]
      rfl
     refine d_3 (c_U HT_.out (by kernel_rfl)) ?_
     try go_wp2
     go_ret
     exact ⟨by first|rfl|(simp [a_v,a_u] <;> rfl)|(simp [*, a_v,a_u] <;> rfl),by repeat (first|(with_reducible first|exact HB.out|apply a_g|apply a_b|apply a_h|refine a_f ?_ c_R.out|refine a_f ?_ d_a.out|refine a_f ?_ d_m.out)|exact HB.out)⟩
    rw [if_pos c66] at H
    have c66b0 : (t120 == ((a_d l0_1 x10_1).f9)) = true:=beq_iff_eq.mpr c66
    have c66b1 : (t120 != ((a_d l0_1 x10_1).f9)) = false:=bne_eq_false_iff_eq.mpr c66
    clear c66
    have H':=a_c.mk H
    clear H
    refine d_n (n:=37) (S:=fun w' => w'.cell? ⟨a_X,0,none⟩ = some (.int .i64 ((a_d l0_1 x10_1).f0)) ∧ w'.cell? ⟨a_X,1,none⟩ = some (.int .i64 ((a_d l0_1 x10_1).f1)) ∧ w'.cell? ⟨a_X,2,none⟩ = some (.int .i64 ((a_d l0_1 x10_1).f2)) ∧ w'.cell? ⟨a_X,3,none⟩ = some (.int .i64 ((a_d l0_1 x10_1).f3)) ∧ w'.cell? ⟨a_X,4,none⟩ = some (.int .i64 ((a_d l0_1 x10_1).f4)) ∧ w'.cell? ⟨a_X,5,none⟩ = some (.bool ((a_d l0_1 x10_1).f5)) ∧ w'.cell? ⟨a_X,6,none⟩ = some (.bool ((a_d l0_1 x10_1).f6)) ∧ w'.cell? ⟨a_X,7,none⟩ = some (.int .u32 ((a_d l0_1 x10_1).f7)) ∧ w'.cell? ⟨a_X,8,none⟩ = some (.int .i64 ((a_d l0_1 x10_1).f8)) ∧ w'.cell? ⟨a_X,9,none⟩ = some (.int .i64 ((a_d l0_1 x10_1).f9)) ∧ w'.cell? ⟨a_X,10,none⟩ = some (.int .i64 ((a_d l0_1 x10_1).f10)) ∧ w'.cell? ⟨c_5,0,none⟩ = some (.int .i64 a0_0) ∧ w'.cell? ⟨c_5,1,none⟩ = some (.slice (some ad112) l0_1.length c0_1) ∧ w'.cell? ⟨d_l,0,none⟩ = some (.func (.func 51) #[] #[.pointer (some ⟨a_X,0,none⟩)])) (ds:=[]) Z0_ (by kernel_rfl) rfl rfl ⟨(a_a a_w.out 0).trans rfl,(a_a a_w.out 1).trans rfl,(a_a a_w.out 2).trans rfl,(a_a a_w.out 3).trans rfl,(a_a a_w.out 4).trans rfl,(a_a a_w.out 5).trans rfl,(a_a a_w.out 6).trans rfl,(a_a a_w.out 7).trans rfl,(a_a a_w.out 8).trans rfl,(a_a a_w.out 9).trans rfl,(a_a a_w.out 10).trans rfl,(a_a a_5.out 0).trans rfl,(a_a a_5.out 1).trans rfl,(a_a b_A.out 0).trans rfl⟩ (fun hHeld => ?_);refine b_9 a_y.tab6 a_y.e_r (fun HT_ HW_ => ?_)
    generalize w21.drew = w75 at a_5 a_w b_A HB hHeld ⊢
    refine b_F (i:=0) (N:=some 17) (v:=?_) (a':=?_) Z2_ rfl rfl (a_Q HT_.out HW_.out (by kernel_rfl)) (fun _ _ _ h => h) (Or.inl ⟨by rfl,?_⟩) hHeld ?_ ?_
    rotate_left
    ·rintro w' ⟨s0,s1,s2,s3,s4,s5,s6,s7,s8,s9,s10,s11,s12,s13⟩
     go_simp
     with_reducible rfl
    rotate_left
    ·simp only [Act.put,sa_,sb_,sc_,a_r,a_s]
     rfl
    refine one_ (i:=1) (N:=some 18) Z4_ rfl rfl (c_B HT_.out (by kernel_rfl)) (by decide) (fun K hK => ?_)
    refine d_w Try.func53 (by kernel_rfl) rfl #[.agg #[.int .i64 ((a_d l0_1 x10_1).f0),.int .i64 ((a_d l0_1 x10_1).f1),.int .i64 ((a_d l0_1 x10_1).f2),.int .i64 ((a_d l0_1 x10_1).f3),.int .i64 ((a_d l0_1 x10_1).f4),.bool ((a_d l0_1 x10_1).f5),.bool ((a_d l0_1 x10_1).f6),.int .u32 ((a_d l0_1 x10_1).f7),.int .i64 ((a_d l0_1 x10_1).f8),.int .i64 ((a_d l0_1 x10_1).f9),.int .i64 ((a_d l0_1 x10_1).f10)]] (by rfl) rfl rfl (by (try simp only [List.map_toArray,List.map_cons,List.map_nil]);first|done|rfl|(simp only [List.length_drop,List.length_take];rfl)) ?_
    with_reducible refine (a_K.calls k1 ((a_d l0_1 x10_1).f0) ((a_d l0_1 x10_1).f1) ((a_d l0_1 x10_1).f2) ((a_d l0_1 x10_1).f3) ((a_d l0_1 x10_1).f4) ((a_d l0_1 x10_1).f5) ((a_d l0_1 x10_1).f6) ((a_d l0_1 x10_1).f7) ((a_d l0_1 x10_1).f8) ((a_d l0_1 x10_1).f9) ((a_d l0_1 x10_1).f10) true _ A7.out).mono ?_
    rintro e w76 ⟨rfl,hb⟩
    refine ⟨_,rfl,?_⟩
    replace a_5:=a_c.mk (a_m (bup_ a_5.out) hb)
    replace a_w:=a_c.mk (a_m (bup_ a_w.out) hb)
    replace b_A:=a_c.mk (a_m (bup_ b_A.out) hb)
    replace HB:=a_c.mk (a_o (by repeat (first|(with_reducible first|exact HB.out|apply a_g|apply a_b|apply a_h|refine a_f ?_ c_R.out|refine a_f ?_ d_a.out|refine a_f ?_ d_m.out)|exact HB.out)) hb)
    (try clear hb)
    (try clear hb2)
    (try clear hk)
    (try clear hi)
    refine hK.out _ _ ⟨(a_a a_w.out 0).trans rfl,(a_a a_w.out 1).trans rfl,(a_a a_w.out 2).trans rfl,(a_a a_w.out 3).trans rfl,(a_a a_w.out 4).trans rfl,(a_a a_w.out 5).trans rfl,(a_a a_w.out 6).trans rfl,(a_a a_w.out 7).trans rfl,(a_a a_w.out 8).trans rfl,(a_a a_w.out 9).trans rfl,(a_a a_w.out 10).trans rfl,(a_a a_5.out 0).trans rfl,(a_a a_5.out 1).trans rfl,(a_a b_A.out 0).trans rfl⟩ (fun hHeld => ?_)
    clear hK K
    refine d_k (a':=?_) ?_ ?_
    rotate_left
    ·show Act.put _ (some 18) _ = _
     simp only [Act.put,sa_,sb_,sc_,a_r,a_s]
     rfl
    refine a_x (i:=2) (N:=some 19) (v:=?_) (a':=?_) Z6_ rfl rfl (a_q HT_.out (by kernel_rfl)) (fun _ _ _ h => h) (Or.inl ⟨by rfl,?_⟩) ?_ ?_
    rotate_left
    ·intro w'
     go_simp
     with_reducible rfl
    rotate_left
    ·simp only [Act.put,sa_,sb_,sc_,a_r,a_s]
     rfl
    refine a_x (i:=3) (N:=some 20) (v:=?_) (a':=?_) Z8_ rfl rfl (a_q HT_.out (by kernel_rfl)) (fun _ _ _ h => h) (Or.inl ⟨by rfl,?_⟩) ?_ ?_
    rotate_left
    ·intro w'
     go_simp
     with_reducible rfl
    rotate_left
    ·simp only [Act.put,sa_,sb_,sc_,a_r,a_s]
     rfl
    refine a_x (i:=4) (N:=some 21) (v:=?_) (a':=?_) Z10_ rfl rfl (a_q HT_.out (by kernel_rfl)) (fun _ _ _ h => h) (Or.inl ⟨by rfl,?_⟩) ?_ ?_
    rotate_left
    ·intro w'
     go_simp
     with_reducible rfl
    rotate_left
    ·simp only [Act.put,sa_,sb_,sc_,a_r,a_s]
     rfl
    refine a_x (i:=5) (N:=some 22) (v:=?_) (a':=?_) Z13_ rfl rfl (a_q HT_.out (by kernel_rfl)) (fun _ _ _ h => h) (Or.inl ⟨by rfl,?_⟩) ?_ ?_
    rotate_left
    ·intro w'
     go_simp
     with_reducible rfl
    rotate_left
    ·simp only [Act.put,sa_,sb_,sc_,a_r,a_s]
     rfl
    refine a_x (i:=6) (N:=some 23) (v:=?_) (a':=?_) Z14_ rfl rfl (a_q HT_.out (by kernel_rfl)) (fun _ _ _ h => h) (Or.inl ⟨by rfl,?_⟩) ?_ ?_
    rotate_left
    ·intro w'
     go_simp
     with_reducible rfl
    rotate_left
    ·simp only [Act.put,sa_,sb_,sc_,a_r,a_s]
     rfl
    refine a_x (i:=7) (N:=some 24) (v:=undef) (a':=?_) Z16_ rfl rfl (a_q HT_.out (by kernel_rfl)) (fun _ _ _ h => h) (Or.inr ⟨by rfl,rfl⟩) ?_ ?_
    rotate_left
    ·simp only [Act.put,sa_,sb_,sc_,a_r,a_s]
     rfl
    refine a_x (i:=8) (N:=some 25) (v:=undef) (a':=?_) Z21_ rfl rfl (a_q HT_.out (by kernel_rfl)) (fun _ _ _ h => h) (Or.inr ⟨by rfl,rfl⟩) ?_ ?_
    rotate_left
    ·simp only [Act.put,sa_,sb_,sc_,a_r,a_s]
     rfl
    refine a_x (i:=9) (N:=some 26) (v:=undef) (a':=?_) Z23_ rfl rfl (a_q HT_.out (by kernel_rfl)) (fun _ _ _ h => h) (Or.inr ⟨by rfl,rfl⟩) ?_ ?_
    rotate_left
    ·simp only [Act.put,sa_,sb_,sc_,a_r,a_s]
     rfl
    refine a_x (i:=10) (N:=some 27) (v:=undef) (a':=?_) Z25_ rfl rfl (a_q HT_.out (by kernel_rfl)) (fun _ _ _ h => h) (Or.inr ⟨by rfl,rfl⟩) ?_ ?_
    rotate_left
    ·simp only [Act.put,sa_,sb_,sc_,a_r,a_s]
     rfl
    refine a_x (i:=11) (N:=some 28) (v:=undef) (a':=?_) Z28_ rfl rfl (a_q HT_.out (by kernel_rfl)) (fun _ _ _ h => h) (Or.inr ⟨by rfl,rfl⟩) ?_ ?_
    rotate_left
    ·simp only [Act.put,sa_,sb_,sc_,a_r,a_s]
     rfl
    refine a_x (i:=12) (N:=some 29) (v:=undef) (a':=?_) Z31_ rfl rfl (a_q HT_.out (by kernel_rfl)) (fun _ _ _ h => h) (Or.inr ⟨by rfl,rfl⟩) ?_ ?_
    rotate_left
    ·simp only [Act.put,sa_,sb_,sc_,a_r,a_s]
     rfl
    refine a_x (i:=13) (N:=some 30) (v:=undef) (a':=?_) Z34_ rfl rfl (a_q HT_.out (by kernel_rfl)) (fun _ _ _ h => h) (Or.inr ⟨by rfl,rfl⟩) ?_ ?_
    rotate_left
    ·simp only [Act.put,sa_,sb_,sc_,a_r,a_s]
     rfl
    refine a_x (i:=14) (N:=some 31) (v:=undef) (a':=?_) Z36_ rfl rfl (a_q HT_.out (by kernel_rfl)) (fun _ _ _ h => h) (Or.inr ⟨by rfl,rfl⟩) ?_ ?_
    rotate_left
    ·simp only [Act.put,sa_,sb_,sc_,a_r,a_s]
     rfl
    refine a_x (i:=15) (N:=some 32) (v:=undef) (a':=?_) Z41_ rfl rfl (a_q HT_.out (by kernel_rfl)) (fun _ _ _ h => h) (Or.inr ⟨by rfl,rfl⟩) ?_ ?_
    rotate_left
    ·simp only [Act.put,sa_,sb_,sc_,a_r,a_s]
     rfl
    refine a_x (i:=16) (N:=some 33) (v:=undef) (a':=?_) Z43_ rfl rfl (a_q HT_.out (by kernel_rfl)) (fun _ _ _ h => h) (Or.inr ⟨by rfl,rfl⟩) ?_ ?_
    rotate_left
    ·simp only [Act.put,sa_,sb_,sc_,a_r,a_s]
     rfl
    refine a_x (i:=17) (N:=some 34) (v:=?_) (a':=?_) Z45_ rfl rfl (a_q HT_.out (by kernel_rfl)) (fun _ _ _ h => h) (Or.inl ⟨by rfl,?_⟩) ?_ ?_
    rotate_left
    ·intro w'
     go_simp
     with_reducible rfl
    rotate_left
    ·simp only [Act.put,sa_,sb_,sc_,a_r,a_s]
     rfl
    refine a_x (i:=18) (N:=some 35) (v:=?_) (a':=?_) Z48_ rfl rfl (a_q HT_.out (by kernel_rfl)) (fun _ _ _ h => h) (Or.inl ⟨by rfl,?_⟩) ?_ ?_
    rotate_left
    ·intro w'
     go_simp
     with_reducible rfl
    rotate_left
    ·simp only [Act.put,sa_,sb_,sc_,a_r,a_s]
     rfl
    refine a_x (i:=19) (N:=some 36) (v:=?_) (a':=?_) Z51_ rfl rfl (a_q HT_.out (by kernel_rfl)) (fun _ _ _ h => h) (Or.inl ⟨by rfl,?_⟩) ?_ ?_
    rotate_left
    ·intro w'
     go_simp
     with_reducible rfl
    rotate_left
    ·simp only [Act.put,sa_,sb_,sc_,a_r,a_s]
     rfl
    refine a_x (i:=20) (N:=some 37) (v:=?_) (a':=?_) Z54_ rfl rfl (a_q HT_.out (by kernel_rfl)) (fun _ _ _ h => h) (Or.inl ⟨by rfl,?_⟩) ?_ ?_
    rotate_left
    ·intro w'
     go_simp
     with_reducible rfl
    rotate_left
    ·simp only [Act.put,sa_,sb_,sc_,a_r,a_s]
     rfl
    refine a_x (i:=24) (N:=some 41) (v:=?_) (a':=?_) Z56_ rfl rfl (a_q HT_.out (by kernel_rfl)) (fun _ _ _ h => h) (Or.inl ⟨by rfl,?_⟩) ?_ ?_
    rotate_left
    ·intro w'
     go_simp
     with_reducible rfl
    rotate_left
    ·simp only [Act.put,sa_,sb_,sc_,a_r,a_s]
     rfl
    refine b_F (i:=21) (N:=some 38) (v:=?_) (a':=?_) Z59_ rfl rfl (a_Q HT_.out HW_.out (by kernel_rfl)) (fun _ _ _ h => h) (Or.inl ⟨by rfl,?_⟩) hHeld ?_ ?_
    rotate_left
    ·rintro w' ⟨s0,s1,s2,s3,s4,s5,s6,s7,s8,s9,s10,s11,s12,s13⟩
     go_simp
     with_reducible rfl
    rotate_left
    ·simp only [Act.put,sa_,sb_,sc_,a_r,a_s]
     rfl
    refine b_F (i:=22) (N:=some 39) (v:=?_) (a':=?_) Z62_ rfl rfl (a_Q HT_.out HW_.out (by kernel_rfl)) (fun _ _ _ h => h) (Or.inl ⟨by rfl,?_⟩) hHeld ?_ ?_
    rotate_left
    ·rintro w' ⟨s0,s1,s2,s3,s4,s5,s6,s7,s8,s9,s10,s11,s12,s13⟩
     go_simp
     with_reducible rfl
    rotate_left
    ·simp only [Act.put,sa_,sb_,sc_,a_r,a_s]
     rfl
    refine b_F (i:=25) (N:=some 42) (v:=?_) (a':=?_) Z63_ rfl rfl (a_Q HT_.out HW_.out (by kernel_rfl)) (fun _ _ _ h => h) (Or.inl ⟨by rfl,?_⟩) hHeld ?_ ?_
    rotate_left
    ·rintro w' ⟨s0,s1,s2,s3,s4,s5,s6,s7,s8,s9,s10,s11,s12,s13⟩
     go_simp
     with_reducible rfl
    rotate_left
    ·simp only [Act.put,sa_,sb_,sc_,a_r,a_s]
     rfl
    refine one_ (i:=23) (N:=some 40) Z68_ rfl rfl (c_B HT_.out (by kernel_rfl)) (by decide) (fun K hK => ?_)
    refine d_w Try.func38 (by kernel_rfl) rfl #[.slice (some ad112) l0_1.length c0_1,.func (.func 51) #[] #[.pointer (some ⟨a_X,0,none⟩)]] (by rfl) rfl rfl (by (try simp only [List.map_toArray,List.map_cons,List.map_nil]);first|done|rfl|(simp only [List.length_drop,List.length_take];rfl)) ?_
    with_reducible refine (a_4.calls _ _ l0_1 a_X ((a_d l0_1 x10_1).f0) ((a_d l0_1 x10_1).f1) ((a_d l0_1 x10_1).f2) ((a_d l0_1 x10_1).f3) ((a_d l0_1 x10_1).f4) ((a_d l0_1 x10_1).f5) ((a_d l0_1 x10_1).f6) ((a_d l0_1 x10_1).f7) ((a_d l0_1 x10_1).f8) ((a_d l0_1 x10_1).f9) ((a_d l0_1 x10_1).f10) t119 _ ?side1 ?side2 ?side3 A63.out).mono ?_
    (case side1 => repeat (first|exact (Kd.a_U d_h.out HB.out)|(with_reducible refine Kd.a_8 ?_ _)|(with_reducible refine Kd.a_7 ?_ _)|(with_reducible refine Kd.b_t ?_)))
    (case side2 => exact e_e.out)
    (case side3 => exact (bup_ a_w.out))
    rintro e w77 ⟨rfl,hb⟩
    refine ⟨_,rfl,?_⟩
    replace a_5:=a_c.mk (a_m (bup_ a_5.out) hb)
    replace a_w:=a_c.mk (a_m (bup_ a_w.out) hb)
    replace b_A:=a_c.mk (a_m (bup_ b_A.out) hb)
    replace HB:=a_c.mk (a_o (by repeat (first|(with_reducible first|exact HB.out|apply a_g|apply a_b|apply a_h|refine a_f ?_ c_R.out|refine a_f ?_ d_a.out|refine a_f ?_ d_m.out)|exact HB.out)) hb)
    (try clear hb)
    (try clear hb2)
    (try clear hk)
    (try clear hi)
    refine hK.out _ _ ⟨(a_a a_w.out 0).trans rfl,(a_a a_w.out 1).trans rfl,(a_a a_w.out 2).trans rfl,(a_a a_w.out 3).trans rfl,(a_a a_w.out 4).trans rfl,(a_a a_w.out 5).trans rfl,(a_a a_w.out 6).trans rfl,(a_a a_w.out 7).trans rfl,(a_a a_w.out 8).trans rfl,(a_a a_w.out 9).trans rfl,(a_a a_w.out 10).trans rfl,(a_a a_5.out 0).trans rfl,(a_a a_5.out 1).trans rfl,(a_a b_A.out 0).trans rfl⟩ (fun hHeld => ?_)
    clear hK K
    refine d_k (a':=?_) ?_ ?_
    rotate_left
    ·show Act.put _ (some 40) _ = _
     simp only [Act.put,sa_,sb_,sc_,a_r,a_s]
     rfl
    refine a_x (i:=26) (N:=some 43) (v:=?_) (a':=?_) Z69_ rfl rfl (a_q HT_.out (by kernel_rfl)) (fun _ _ _ h => h) (Or.inl ⟨by rfl,?_⟩) ?_ ?_
    rotate_left
    ·intro w'
     go_simp
     with_reducible rfl
    rotate_left
    ·simp only [Act.put,sa_,sb_,sc_,a_r,a_s]
     rfl
    refine a_x (i:=27) (N:=some 44) (v:=?_) (a':=?_) Z70_ rfl rfl (a_q HT_.out (by kernel_rfl)) (fun _ _ _ h => h) (Or.inl ⟨by rfl,?_⟩) ?_ ?_
    rotate_left
    ·intro w'
     go_simp
     with_reducible rfl
    rotate_left
    ·simp only [Act.put,sa_,sb_,sc_,a_r,a_s]
     rfl
    refine a_x (i:=28) (N:=some 45) (v:=?_) (a':=?_) Z71_ rfl rfl (a_q HT_.out (by kernel_rfl)) (fun _ _ _ h => h) (Or.inl ⟨by rfl,?_⟩) ?_ ?_
    rotate_left
    ·intro w'
     go_simp
     with_reducible rfl
    rotate_left
    ·simp only [Act.put,sa_,sb_,sc_,a_r,a_s]
     rfl
    refine a_x (i:=29) (N:=some 46) (v:=?_) (a':=?_) Z72_ rfl rfl (a_q HT_.out (by kernel_rfl)) (fun _ _ _ h => h) (Or.inl ⟨by rfl,?_⟩) ?_ ?_
    rotate_left
    ·intro w'
     go_simp
     with_reducible rfl
    rotate_left
    ·simp only [Act.put,sa_,sb_,sc_,a_r,a_s]
     rfl
    refine a_x (i:=31) (N:=some 48) (v:=?_) (a':=?_) Z73_ rfl rfl (a_q HT_.out (by kernel_rfl)) (fun _ _ _ h => h) (Or.inl ⟨by rfl,?_⟩) ?_ ?_
    rotate_left
    ·intro w'
     go_simp
     with_reducible rfl
    rotate_left
    ·simp only [Act.put,sa_,sb_,sc_,a_r,a_s]
     rfl
    refine a_x (i:=33) (N:=some 50) (v:=?_) (a':=?_) Z74_ rfl rfl (a_q HT_.out (by kernel_rfl)) (fun _ _ _ h => h) (Or.inl ⟨by rfl,?_⟩) ?_ ?_
    rotate_left
    ·intro w'
     go_simp
     with_reducible rfl
    rotate_left
    ·simp only [Act.put,sa_,sb_,sc_,a_r,a_s]
     rfl
    refine b_F (i:=30) (N:=some 47) (v:=?_) (a':=?_) Z77_ rfl rfl (a_Q HT_.out HW_.out (by kernel_rfl)) (fun _ _ _ h => h) (Or.inl ⟨by rfl,?_⟩) hHeld ?_ ?_
    rotate_left
    ·rintro w' ⟨s0,s1,s2,s3,s4,s5,s6,s7,s8,s9,s10,s11,s12,s13⟩
     go_simp
     with_reducible rfl
    rotate_left
    ·simp only [Act.put,sa_,sb_,sc_,a_r,a_s]
     rfl
    refine b_F (i:=34) (N:=some 51) (v:=?_) (a':=?_) Z78_ rfl rfl (a_Q HT_.out HW_.out (by kernel_rfl)) (fun _ _ _ h => h) (Or.inl ⟨by rfl,?_⟩) hHeld ?_ ?_
    rotate_left
    ·rintro w' ⟨s0,s1,s2,s3,s4,s5,s6,s7,s8,s9,s10,s11,s12,s13⟩
     go_simp
     with_reducible rfl
    rotate_left
    ·simp only [Act.put,sa_,sb_,sc_,a_r,a_s]
     rfl
    refine one_ (i:=32) (N:=some 49) Z81_ rfl rfl (c_B HT_.out (by kernel_rfl)) (by decide) (fun K hK => ?_)
    refine d_w Try.func38 (by kernel_rfl) rfl #[.slice (some ad112) l0_1.length c0_1,.func (.func 52) #[] #[.pointer (some ⟨d_l,0,none⟩),.pointer (some ⟨a_X,0,none⟩)]] (by rfl) rfl rfl (by (try simp only [List.map_toArray,List.map_cons,List.map_nil]);first|done|rfl|(simp only [List.length_drop,List.length_take];rfl)) ?_
    with_reducible refine (a_2.calls _ _ l0_1 d_l a_X a_X ((a_d l0_1 x10_1).f0) ((a_d l0_1 x10_1).f1) ((a_d l0_1 x10_1).f2) ((a_d l0_1 x10_1).f3) ((a_d l0_1 x10_1).f4) ((a_d l0_1 x10_1).f5) ((a_d l0_1 x10_1).f6) ((a_d l0_1 x10_1).f7) ((a_d l0_1 x10_1).f8) ((a_d l0_1 x10_1).f9) ((a_d l0_1 x10_1).f10) ((a_d l0_1 x10_1).f0) ((a_d l0_1 x10_1).f1) ((a_d l0_1 x10_1).f2) ((a_d l0_1 x10_1).f3) ((a_d l0_1 x10_1).f4) ((a_d l0_1 x10_1).f5) ((a_d l0_1 x10_1).f6) ((a_d l0_1 x10_1).f7) ((a_d l0_1 x10_1).f8) ((a_d l0_1 x10_1).f9) ((a_d l0_1 x10_1).f10) t120 _ ?side1 ?side2 ?side3 ?side4 ?side5 A65.out).mono ?_
    (case side1 => repeat (first|exact (Kd.a_U d_h.out HB.out)|(with_reducible refine Kd.a_8 ?_ _)|(with_reducible refine Kd.a_7 ?_ _)|(with_reducible refine Kd.b_t ?_)))
    (case side2 => exact e_e.out)
    (case side3 => exact (bup_ b_A.out))
    (case side4 => exact (bup_ a_w.out))
    (case side5 => exact (bup_ a_w.out))
    rintro e w78 ⟨rfl,hb⟩
    refine ⟨_,rfl,?_⟩
    replace a_5:=a_c.mk (a_m (bup_ a_5.out) hb)
    replace a_w:=a_c.mk (a_m (bup_ a_w.out) hb)
    replace b_A:=a_c.mk (a_m (bup_ b_A.out) hb)
    replace HB:=a_c.mk (a_o (by repeat (first|(with_reducible first|exact HB.out|apply a_g|apply a_b|apply a_h|refine a_f ?_ c_R.out|refine a_f ?_ d_a.out|refine a_f ?_ d_m.out)|exact HB.out)) hb)
    (try clear hb)
    (try clear hb2)
    (try clear hk)
    (try clear hi)
    refine hK.out _ _ ⟨(a_a a_w.out 0).trans rfl,(a_a a_w.out 1).trans rfl,(a_a a_w.out 2).trans rfl,(a_a a_w.out 3).trans rfl,(a_a a_w.out 4).trans rfl,(a_a a_w.out 5).trans rfl,(a_a a_w.out 6).trans rfl,(a_a a_w.out 7).trans rfl,(a_a a_w.out 8).trans rfl,(a_a a_w.out 9).trans rfl,(a_a a_w.out 10).trans rfl,(a_a a_5.out 0).trans rfl,(a_a a_5.out 1).trans rfl,(a_a b_A.out 0).trans rfl⟩ (fun hHeld => ?_)
    clear hK K
    refine d_k (a':=?_) ?_ ?_
    rotate_left
    ·show Act.put _ (some 49) _ = _
     simp only [Act.put,sa_,sb_,sc_,a_r,a_s]
     rfl
    refine a_x (i:=35) (N:=some 52) (v:=?_) (a':=?_) Z82_ rfl rfl (a_q HT_.out (by kernel_rfl)) (fun _ _ _ h => h) (Or.inl ⟨by rfl,?_⟩) ?_ ?_
    rotate_left
    ·intro w'
     go_simp
     with_reducible rfl
    rotate_left
    ·simp only [Act.put,sa_,sb_,sc_,a_r,a_s]
     rfl
    refine a_x (i:=36) (N:=some 53) (v:=?_) (a':=?_) Z83_ rfl rfl (a_q HT_.out (by kernel_rfl)) (fun _ _ _ h => h) (Or.inl ⟨by rfl,?_⟩) ?_ ?_
    rotate_left
    ·intro w'
     go_simp
     with_reducible rfl
    rotate_left
    ·simp only [Act.put,sa_,sb_,sc_,a_r,a_s]
     rfl
    refine d_3 (c_U HT_.out (by kernel_rfl)) ?_
    try go_wp2
    go_roundg k1
    case measure => have:=HK1.out;omega
    case rel => exact ⟨(wrap64 (x10_1 + 1)),(by first|rfl|(simp;done)|(simp [*];done)),H',⟨by have:=HK1.out;omega⟩,⟨by (with_reducible repeat (first|refine a_j ?_ _|refine a_l ?_|refine a_i ?_ _));exact a_5.out⟩,⟨by repeat (first|(with_reducible first|exact HB.out|apply a_g|apply a_b|apply a_h|refine a_f ?_ c_R.out|refine a_f ?_ d_a.out|refine a_f ?_ d_m.out)|exact HB.out)⟩⟩
   rw [if_pos c9] at H
   have c9b0 : decide (0 < x10_1) = true:=decide_eq_true c9
   clear c9
   obtain ⟨ji10,hji10⟩ : ∃ j_ : Int,(wrap64 (x10_1 - 1)) = j_:=⟨_,rfl⟩
   replace H : (if 0 ≤ (ji10) then (if (ji10) < (l0_1.length : Int) then (if ((a_d l0_1 (ji10)).f0) ≥ ((a_d l0_1 x10_1).f0) then (some false) else ((a_4.f l0_1 ((a_d l0_1 x10_1).f0) ((a_d l0_1 x10_1).f1) ((a_d l0_1 x10_1).f2) ((a_d l0_1 x10_1).f3) ((a_d l0_1 x10_1).f4) ((a_d l0_1 x10_1).f5) ((a_d l0_1 x10_1).f6) ((a_d l0_1 x10_1).f7) ((a_d l0_1 x10_1).f8) ((a_d l0_1 x10_1).f9) ((a_d l0_1 x10_1).f10)).bind fun t117 => (if t117 = ((a_d l0_1 x10_1).f9) then ((a_2.f l0_1 ((a_d l0_1 x10_1).f0) ((a_d l0_1 x10_1).f1) ((a_d l0_1 x10_1).f2) ((a_d l0_1 x10_1).f3) ((a_d l0_1 x10_1).f4) ((a_d l0_1 x10_1).f5) ((a_d l0_1 x10_1).f6) ((a_d l0_1 x10_1).f7) ((a_d l0_1 x10_1).f8) ((a_d l0_1 x10_1).f9) ((a_d l0_1 x10_1).f10) ((a_d l0_1 x10_1).f0) ((a_d l0_1 x10_1).f1) ((a_d l0_1 x10_1).f2) ((a_d l0_1 x10_1).f3) ((a_d l0_1 x10_1).f4) ((a_d l0_1 x10_1).f5) ((a_d l0_1 x10_1).f6) ((a_d l0_1 x10_1).f7) ((a_d l0_1 x10_1).f8) ((a_d l0_1 x10_1).f9) ((a_d l0_1 x10_1).f10)).bind fun t118 => (if t118 = ((a_d l0_1 x10_1).f9) then (a_y.l0 k1 l0_1 (l0_1.length : Int) (wrap64 (x10_1 + 1)) a0_0 l0_1) else (some false))) else (some false)))) else (none)) else (none)) = some r:=by first|(rw [hji10] at H;exact H)|(simp only [hji10] at H ⊢; exact H)
   (try rw [hji10] at A7)
   have hji10w : (IntKind.i64.wrap (x10_1 - 1)) = ji10:=(a_r _).trans hji10
   by_cases c11 : 0 ≤ (ji10)
   rotate_left
   ·rw [if_neg c11] at H
    exact absurd H (by simp)
   rw [if_pos c11] at H
   have c11b0 : decide (0 ≤ (ji10)) = true:=decide_eq_true c11
   clear c11
   by_cases c12 : (ji10) < (l0_1.length : Int)
   rotate_left
   ·rw [if_neg c12] at H
    exact absurd H (by simp)
   rw [if_pos c12] at H
   have c12b0 : decide ((ji10) < (l0_1.length : Int)) = true:=decide_eq_true c12
   clear c12
   by_cases c13 : ((a_d l0_1 (ji10)).f0) ≥ ((a_d l0_1 x10_1).f0)
   ·rw [if_pos c13] at H
    have c13b0 : decide (((a_d l0_1 x10_1).f0) ≤ ((a_d l0_1 (ji10)).f0)) = true:=decide_eq_true c13
    clear c13
    obtain rfl:=Option.some.inj H
    have p116 : 0 ≤ ((ji10) : Int):=of_decide_eq_true (by first|(with_reducible assumption)|assumption)
    have q116 : (ji10) < (l0_1.length : Int):=of_decide_eq_true (by first|(with_reducible assumption)|assumption)
    obtain ⟨ad116,e116,c_f,c_g,c_h,c_i,c_j,c_k,c_l,c_m,c_n,c_o,b_P⟩:=d_F d_h.out (ji10) p116 q116
    have b_D:=b_P
    have b_Q:=c_o
    have b_R:=c_n
    have b_S:=c_m
    have b_T:=c_l
    have b_U:=c_k
    have b_V:=c_j
    have b_W:=c_i
    have b_X:=c_h
    have b_Y:=c_g
    have b_Z:=c_f
    obtain rfl : ad112 = ad116:=(by injection e116)
    replace c_f:=(HB.out.cell (World.block_lt_of_cell? w _ c_f)).trans c_f
    replace c_g:=(HB.out.cell (World.block_lt_of_cell? w _ c_g)).trans c_g
    replace c_h:=(HB.out.cell (World.block_lt_of_cell? w _ c_h)).trans c_h
    replace c_i:=(HB.out.cell (World.block_lt_of_cell? w _ c_i)).trans c_i
    replace c_j:=(HB.out.cell (World.block_lt_of_cell? w _ c_j)).trans c_j
    replace c_k:=(HB.out.cell (World.block_lt_of_cell? w _ c_k)).trans c_k
    replace c_l:=(HB.out.cell (World.block_lt_of_cell? w _ c_l)).trans c_l
    replace c_m:=(HB.out.cell (World.block_lt_of_cell? w _ c_m)).trans c_m
    replace c_n:=(HB.out.cell (World.block_lt_of_cell? w _ c_n)).trans c_n
    replace c_o:=(HB.out.cell (World.block_lt_of_cell? w _ c_o)).trans c_o
    replace b_P:=(HB.out.cell (World.block_lt_of_cell? w _ b_P)).trans b_P
    replace p116:=eq_true p116
    replace q116:=eq_true q116
    refine d_n (n:=37) (S:=fun w' => w'.cell? ⟨a_X,0,none⟩ = some (.int .i64 ((a_d l0_1 x10_1).f0)) ∧ w'.cell? ⟨a_X,1,none⟩ = some (.int .i64 ((a_d l0_1 x10_1).f1)) ∧ w'.cell? ⟨a_X,2,none⟩ = some (.int .i64 ((a_d l0_1 x10_1).f2)) ∧ w'.cell? ⟨a_X,3,none⟩ = some (.int .i64 ((a_d l0_1 x10_1).f3)) ∧ w'.cell? ⟨a_X,4,none⟩ = some (.int .i64 ((a_d l0_1 x10_1).f4)) ∧ w'.cell? ⟨a_X,5,none⟩ = some (.bool ((a_d l0_1 x10_1).f5)) ∧ w'.cell? ⟨a_X,6,none⟩ = some (.bool ((a_d l0_1 x10_1).f6)) ∧ w'.cell? ⟨a_X,7,none⟩ = some (.int .u32 ((a_d l0_1 x10_1).f7)) ∧ w'.cell? ⟨a_X,8,none⟩ = some (.int .i64 ((a_d l0_1 x10_1).f8)) ∧ w'.cell? ⟨a_X,9,none⟩ = some (.int .i64 ((a_d l0_1 x10_1).f9)) ∧ w'.cell? ⟨a_X,10,none⟩ = some (.int .i64 ((a_d l0_1 x10_1).f10)) ∧ w'.cell? ⟨c_5,0,none⟩ = some (.int .i64 a0_0) ∧ w'.cell? ⟨c_5,1,none⟩ = some (.slice (some ad112) l0_1.length c0_1) ∧ w'.cell? (ad112.add (((ji10)).toNat * 11)) = some (.int .i64 ((a_d l0_1 (ji10)).f0)) ∧ w'.cell? ⟨(ad112.add (((ji10)).toNat * 11)).block,(ad112.add (((ji10)).toNat * 11)).off + 1,none⟩ = some (.int .i64 ((a_d l0_1 (ji10)).f1)) ∧ w'.cell? ⟨(ad112.add (((ji10)).toNat * 11)).block,(ad112.add (((ji10)).toNat * 11)).off + 2,none⟩ = some (.int .i64 ((a_d l0_1 (ji10)).f2)) ∧ w'.cell? ⟨(ad112.add (((ji10)).toNat * 11)).block,(ad112.add (((ji10)).toNat * 11)).off + 3,none⟩ = some (.int .i64 ((a_d l0_1 (ji10)).f3)) ∧ w'.cell? ⟨(ad112.add (((ji10)).toNat * 11)).block,(ad112.add (((ji10)).toNat * 11)).off + 4,none⟩ = some (.int .i64 ((a_d l0_1 (ji10)).f4)) ∧ w'.cell? ⟨(ad112.add (((ji10)).toNat * 11)).block,(ad112.add (((ji10)).toNat * 11)).off + 5,none⟩ = some (.bool ((a_d l0_1 (ji10)).f5)) ∧ w'.cell? ⟨(ad112.add (((ji10)).toNat * 11)).block,(ad112.add (((ji10)).toNat * 11)).off + 6,none⟩ = some (.bool ((a_d l0_1 (ji10)).f6)) ∧ w'.cell? ⟨(ad112.add (((ji10)).toNat * 11)).block,(ad112.add (((ji10)).toNat * 11)).off + 7,none⟩ = some (.int .u32 ((a_d l0_1 (ji10)).f7)) ∧ w'.cell? ⟨(ad112.add (((ji10)).toNat * 11)).block,(ad112.add (((ji10)).toNat * 11)).off + 8,none⟩ = some (.int .i64 ((a_d l0_1 (ji10)).f8)) ∧ w'.cell? ⟨(ad112.add (((ji10)).toNat * 11)).block,(ad112.add (((ji10)).toNat * 11)).off + 9,none⟩ = some (.int .i64 ((a_d l0_1 (ji10)).f9)) ∧ w'.cell? ⟨(ad112.add (((ji10)).toNat * 11)).block,(ad112.add (((ji10)).toNat * 11)).off + 10,none⟩ = some (.int .i64 ((a_d l0_1 (ji10)).f10))) (ds:=[]) Z0_ (by kernel_rfl) rfl rfl ⟨(a_a a_w.out 0).trans rfl,(a_a a_w.out 1).trans rfl,(a_a a_w.out 2).trans rfl,(a_a a_w.out 3).trans rfl,(a_a a_w.out 4).trans rfl,(a_a a_w.out 5).trans rfl,(a_a a_w.out 6).trans rfl,(a_a a_w.out 7).trans rfl,(a_a a_w.out 8).trans rfl,(a_a a_w.out 9).trans rfl,(a_a a_w.out 10).trans rfl,(a_a a_5.out 0).trans rfl,(a_a a_5.out 1).trans rfl,((HB.out.cell (World.block_lt_of_cell? w _ b_Z)).trans b_Z),((HB.out.cell (World.block_lt_of_cell? w _ b_Y)).trans b_Y),((HB.out.cell (World.block_lt_of_cell? w _ b_X)).trans b_X),((HB.out.cell (World.block_lt_of_cell? w _ b_W)).trans b_W),((HB.out.cell (World.block_lt_of_cell? w _ b_V)).trans b_V),((HB.out.cell (World.block_lt_of_cell? w _ b_U)).trans b_U),((HB.out.cell (World.block_lt_of_cell? w _ b_T)).trans b_T),((HB.out.cell (World.block_lt_of_cell? w _ b_S)).trans b_S),((HB.out.cell (World.block_lt_of_cell? w _ b_R)).trans b_R),((HB.out.cell (World.block_lt_of_cell? w _ b_Q)).trans b_Q),((HB.out.cell (World.block_lt_of_cell? w _ b_D)).trans b_D)⟩ (fun hHeld => ?_);refine b_9 a_y.tab6 a_y.e_r (fun HT_ HW_ => ?_)
    generalize w21.drew = w22 at a_5 a_w b_A HB c_f c_g b_P c_h c_i c_j c_k c_l c_m c_n c_o hHeld ⊢
    refine b_F (i:=0) (N:=some 17) (v:=?_) (a':=?_) Z2_ rfl rfl (a_Q HT_.out HW_.out (by kernel_rfl)) (fun _ _ _ h => h) (Or.inl ⟨by rfl,?_⟩) hHeld ?_ ?_
    rotate_left
    ·rintro w' ⟨s0,s1,s2,s3,s4,s5,s6,s7,s8,s9,s10,s11,s12,s13,s14,s15,s16,s17,s18,s19,s20,s21,s22,s23⟩
     go_simp
     with_reducible rfl
    rotate_left
    ·simp only [Act.put,sa_,sb_,sc_,a_r,a_s]
     rfl
    refine one_ (i:=1) (N:=some 18) Z4_ rfl rfl (c_B HT_.out (by kernel_rfl)) (by decide) (fun K hK => ?_)
    refine d_w Try.func53 (by kernel_rfl) rfl #[.agg #[.int .i64 ((a_d l0_1 x10_1).f0),.int .i64 ((a_d l0_1 x10_1).f1),.int .i64 ((a_d l0_1 x10_1).f2),.int .i64 ((a_d l0_1 x10_1).f3),.int .i64 ((a_d l0_1 x10_1).f4),.bool ((a_d l0_1 x10_1).f5),.bool ((a_d l0_1 x10_1).f6),.int .u32 ((a_d l0_1 x10_1).f7),.int .i64 ((a_d l0_1 x10_1).f8),.int .i64 ((a_d l0_1 x10_1).f9),.int .i64 ((a_d l0_1 x10_1).f10)]] (by rfl) rfl rfl (by (try simp only [List.map_toArray,List.map_cons,List.map_nil]);first|done|rfl|(simp only [List.length_drop,List.length_take];rfl)) ?_
    with_reducible refine (a_K.calls k1 ((a_d l0_1 x10_1).f0) ((a_d l0_1 x10_1).f1) ((a_d l0_1 x10_1).f2) ((a_d l0_1 x10_1).f3) ((a_d l0_1 x10_1).f4) ((a_d l0_1 x10_1).f5) ((a_d l0_1 x10_1).f6) ((a_d l0_1 x10_1).f7) ((a_d l0_1 x10_1).f8) ((a_d l0_1 x10_1).f9) ((a_d l0_1 x10_1).f10) true _ A7.out).mono ?_
    rintro e w23 ⟨rfl,hb⟩
    refine ⟨_,rfl,?_⟩
    replace a_5:=a_c.mk (a_m (bup_ a_5.out) hb)
    replace a_w:=a_c.mk (a_m (bup_ a_w.out) hb)
    replace b_A:=a_c.mk (a_m (bup_ b_A.out) hb)
    replace HB:=a_c.mk (a_o (by repeat (first|(with_reducible first|exact HB.out|apply a_g|apply a_b|apply a_h|refine a_f ?_ c_R.out|refine a_f ?_ d_a.out|refine a_f ?_ d_m.out)|exact HB.out)) hb)
    (try clear hb)
    (try clear hb2)
    (try clear hk)
    (try clear hi)
    refine hK.out _ _ ⟨(a_a a_w.out 0).trans rfl,(a_a a_w.out 1).trans rfl,(a_a a_w.out 2).trans rfl,(a_a a_w.out 3).trans rfl,(a_a a_w.out 4).trans rfl,(a_a a_w.out 5).trans rfl,(a_a a_w.out 6).trans rfl,(a_a a_w.out 7).trans rfl,(a_a a_w.out 8).trans rfl,(a_a a_w.out 9).trans rfl,(a_a a_w.out 10).trans rfl,(a_a a_5.out 0).trans rfl,(a_a a_5.out 1).trans rfl,((HB.out.cell (World.block_lt_of_cell? w _ b_Z)).trans b_Z),((HB.out.cell (World.block_lt_of_cell? w _ b_Y)).trans b_Y),((HB.out.cell (World.block_lt_of_cell? w _ b_X)).trans b_X),((HB.out.cell (World.block_lt_of_cell? w _ b_W)).trans b_W),((HB.out.cell (World.block_lt_of_cell? w _ b_V)).trans b_V),((HB.out.cell (World.block_lt_of_cell? w _ b_U)).trans b_U),((HB.out.cell (World.block_lt_of_cell? w _ b_T)).trans b_T),((HB.out.cell (World.block_lt_of_cell? w _ b_S)).trans b_S),((HB.out.cell (World.block_lt_of_cell? w _ b_R)).trans b_R),((HB.out.cell (World.block_lt_of_cell? w _ b_Q)).trans b_Q),((HB.out.cell (World.block_lt_of_cell? w _ b_D)).trans b_D)⟩ (fun hHeld => ?_)
    clear hK K
    refine d_k (a':=?_) ?_ ?_
    rotate_left
    ·show Act.put _ (some 18) _ = _
     simp only [Act.put,sa_,sb_,sc_,a_r,a_s]
     rfl
    refine a_x (i:=2) (N:=some 19) (v:=?_) (a':=?_) Z6_ rfl rfl (a_q HT_.out (by kernel_rfl)) (fun _ _ _ h => h) (Or.inl ⟨by rfl,?_⟩) ?_ ?_
    rotate_left
    ·intro w'
     go_simp
     with_reducible rfl
    rotate_left
    ·simp only [Act.put,sa_,sb_,sc_,a_r,a_s]
     rfl
    refine a_x (i:=3) (N:=some 20) (v:=?_) (a':=?_) Z8_ rfl rfl (a_q HT_.out (by kernel_rfl)) (fun _ _ _ h => h) (Or.inl ⟨by rfl,?_⟩) ?_ ?_
    rotate_left
    ·intro w'
     go_simp
     with_reducible rfl
    rotate_left
    ·simp only [Act.put,sa_,sb_,sc_,a_r,a_s]
     rfl
    refine a_x (i:=4) (N:=some 21) (v:=?_) (a':=?_) Z10_ rfl rfl (a_q HT_.out (by kernel_rfl)) (fun _ _ _ h => h) (Or.inl ⟨by rfl,?_⟩) ?_ ?_
    rotate_left
    ·intro w'
     go_simp
     with_reducible rfl
    rotate_left
    ·simp only [Act.put,sa_,sb_,sc_,a_r,a_s]
     rfl
    refine a_x (i:=5) (N:=some 22) (v:=?_) (a':=?_) Z13_ rfl rfl (a_q HT_.out (by kernel_rfl)) (fun _ _ _ h => h) (Or.inl ⟨by rfl,?_⟩) ?_ ?_
    rotate_left
    ·intro w'
     go_simp
     with_reducible rfl
    rotate_left
    ·simp only [Act.put,sa_,sb_,sc_,a_r,a_s]
     rfl
    refine a_x (i:=6) (N:=some 23) (v:=?_) (a':=?_) Z14_ rfl rfl (a_q HT_.out (by kernel_rfl)) (fun _ _ _ h => h) (Or.inl ⟨by rfl,?_⟩) ?_ ?_
    rotate_left
    ·intro w'
     go_simp
     with_reducible rfl
    rotate_left
    ·simp only [Act.put,sa_,sb_,sc_,a_r,a_s]
     rfl
    refine a_x (i:=7) (N:=some 24) (v:=?_) (a':=?_) Z16_ rfl rfl (a_q HT_.out (by kernel_rfl)) (fun _ _ _ h => h) (Or.inl ⟨by rfl,?_⟩) ?_ ?_
    rotate_left
    ·intro w'
     go_simp
     with_reducible rfl
    rotate_left
    ·simp only [Act.put,sa_,sb_,sc_,a_r,a_s]
     rfl
    refine a_x (i:=9) (N:=some 26) (v:=?_) (a':=?_) Z18_ rfl rfl (a_q HT_.out (by kernel_rfl)) (fun _ _ _ h => h) (Or.inl ⟨by rfl,?_⟩) ?_ ?_
    rotate_left
    ·intro w'
     go_simp
     with_reducible rfl
    rotate_left
    ·simp only [Act.put,sa_,sb_,sc_,a_r,a_s]
     rfl
    refine a_x (i:=10) (N:=some 27) (v:=?_) (a':=?_) Z19_ rfl rfl (a_q HT_.out (by kernel_rfl)) (fun _ _ _ h => h) (Or.inl ⟨by rfl,?_⟩) ?_ ?_
    rotate_left
    ·intro w'
     go_simp
     with_reducible rfl
    rotate_left
    ·simp only [Act.put,sa_,sb_,sc_,a_r,a_s]
     rfl
    refine a_x (i:=14) (N:=some 31) (v:=?_) (a':=?_) Z20_ rfl rfl (a_q HT_.out (by kernel_rfl)) (fun _ _ _ h => h) (Or.inl ⟨by rfl,?_⟩) ?_ ?_
    rotate_left
    ·intro w'
     go_simp
     with_reducible rfl
    rotate_left
    ·simp only [Act.put,sa_,sb_,sc_,a_r,a_s]
     rfl
    refine b_F (i:=8) (N:=some 25) (v:=?_) (a':=?_) Z27_ rfl rfl (a_Q HT_.out HW_.out (by kernel_rfl)) (fun _ _ _ h => h) (Or.inl ⟨by rfl,?_⟩) hHeld ?_ ?_
    rotate_left
    ·rintro w' ⟨s0,s1,s2,s3,s4,s5,s6,s7,s8,s9,s10,s11,s12,s13,s14,s15,s16,s17,s18,s19,s20,s21,s22,s23⟩
     go_simp
     with_reducible rfl
    rotate_left
    ·simp only [Act.put,sa_,sb_,sc_,a_r,a_s]
     rfl
    refine a_x (i:=11) (N:=some 28) (v:=?_) (a':=?_) Z30_ rfl rfl (a_q HT_.out (by kernel_rfl)) (fun _ _ _ h => h) (Or.inl ⟨by rfl,?_⟩) ?_ ?_
    rotate_left
    ·intro w'
     go_simp
     with_reducible rfl
    rotate_left
    ·simp only [Act.put,sa_,sb_,sc_,a_r,a_s]
     rfl
    refine a_x (i:=12) (N:=some 29) (v:=?_) (a':=?_) Z33_ rfl rfl (a_q HT_.out (by kernel_rfl)) (fun _ _ _ h => h) (Or.inl ⟨by rfl,?_⟩) ?_ ?_
    rotate_left
    ·intro w'
     go_simp
     with_reducible rfl
    rotate_left
    ·simp only [Act.put,sa_,sb_,sc_,a_r,a_s]
     rfl
    refine b_F (i:=13) (N:=some 30) (v:=?_) (a':=?_) Z36_ rfl rfl (a_Q HT_.out HW_.out (by kernel_rfl)) (fun _ _ _ h => h) (Or.inl ⟨by rfl,?_⟩) hHeld ?_ ?_
    rotate_left
    ·rintro w' ⟨s0,s1,s2,s3,s4,s5,s6,s7,s8,s9,s10,s11,s12,s13,s14,s15,s16,s17,s18,s19,s20,s21,s22,s23⟩
     go_simp
     with_reducible rfl
    rotate_left
    ·simp only [Act.put,sa_,sb_,sc_,a_r,a_s]
     rfl
    refine b_F (i:=15) (N:=some 32) (v:=?_) (a':=?_) Z41_ rfl rfl (a_Q HT_.out HW_.out (by kernel_rfl)) (fun _ _ _ h => h) (Or.inl ⟨by rfl,?_⟩) hHeld ?_ ?_
    rotate_left
    ·rintro w' ⟨s0,s1,s2,s3,s4,s5,s6,s7,s8,s9,s10,s11,s12,s13,s14,s15,s16,s17,s18,s19,s20,s21,s22,s23⟩
     go_simp
     with_reducible rfl
    rotate_left
    ·simp only [Act.put,sa_,sb_,sc_,a_r,a_s]
     rfl
    refine a_x (i:=16) (N:=some 33) (v:=?_) (a':=?_) Z43_ rfl rfl (a_q HT_.out (by kernel_rfl)) (fun _ _ _ h => h) (Or.inl ⟨by rfl,?_⟩) ?_ ?_
    rotate_left
    ·intro w'
     go_simp
     with_reducible rfl
    rotate_left
    ·simp only [Act.put,sa_,sb_,sc_,a_r,a_s]
     rfl
    refine a_x (i:=17) (N:=some 34) (v:=?_) (a':=?_) Z45_ rfl rfl (a_q HT_.out (by kernel_rfl)) (fun _ _ _ h => h) (Or.inl ⟨by rfl,?_⟩) ?_ ?_
    rotate_left
    ·intro w'
     go_simp
     with_reducible rfl
    rotate_left
    ·simp only [Act.put,sa_,sb_,sc_,a_r,a_s]
     rfl
    refine a_x (i:=18) (N:=some 35) (v:=?_) (a':=?_) Z48_ rfl rfl (a_q HT_.out (by kernel_rfl)) (fun _ _ _ h => h) (Or.inl ⟨by rfl,?_⟩) ?_ ?_
    rotate_left
    ·intro w'
     go_simp
     with_reducible rfl
    rotate_left
    ·simp only [Act.put,sa_,sb_,sc_,a_r,a_s]
     rfl
    refine a_x (i:=19) (N:=some 36) (v:=?_) (a':=?_) Z51_ rfl rfl (a_q HT_.out (by kernel_rfl)) (fun _ _ _ h => h) (Or.inl ⟨by rfl,?_⟩) ?_ ?_
    rotate_left
    ·intro w'
     go_simp
     with_reducible rfl
    rotate_left
    ·simp only [Act.put,sa_,sb_,sc_,a_r,a_s]
     rfl
    refine a_x (i:=20) (N:=some 37) (v:=undef) (a':=?_) Z54_ rfl rfl (a_q HT_.out (by kernel_rfl)) (fun _ _ _ h => h) (Or.inr ⟨by rfl,rfl⟩) ?_ ?_
    rotate_left
    ·simp only [Act.put,sa_,sb_,sc_,a_r,a_s]
     rfl
    refine a_x (i:=21) (N:=some 38) (v:=undef) (a':=?_) Z57_ rfl rfl (a_q HT_.out (by kernel_rfl)) (fun _ _ _ h => h) (Or.inr ⟨by rfl,rfl⟩) ?_ ?_
    rotate_left
    ·simp only [Act.put,sa_,sb_,sc_,a_r,a_s]
     rfl
    refine a_x (i:=22) (N:=some 39) (v:=undef) (a':=?_) Z60_ rfl rfl (a_q HT_.out (by kernel_rfl)) (fun _ _ _ h => h) (Or.inr ⟨by rfl,rfl⟩) ?_ ?_
    rotate_left
    ·simp only [Act.put,sa_,sb_,sc_,a_r,a_s]
     rfl
    refine a_x (i:=23) (N:=some 40) (v:=undef) (a':=?_) Z64_ rfl rfl (a_q HT_.out (by kernel_rfl)) (fun _ _ _ h => h) (Or.inr ⟨by rfl,rfl⟩) ?_ ?_
    rotate_left
    ·simp only [Act.put,sa_,sb_,sc_,a_r,a_s]
     rfl
    refine a_x (i:=24) (N:=some 41) (v:=undef) (a':=?_) Z66_ rfl rfl (a_q HT_.out (by kernel_rfl)) (fun _ _ _ h => h) (Or.inr ⟨by rfl,rfl⟩) ?_ ?_
    rotate_left
    ·simp only [Act.put,sa_,sb_,sc_,a_r,a_s]
     rfl
    refine a_x (i:=25) (N:=some 42) (v:=undef) (a':=?_) Z68_ rfl rfl (a_q HT_.out (by kernel_rfl)) (fun _ _ _ h => h) (Or.inr ⟨by rfl,rfl⟩) ?_ ?_
    rotate_left
    ·simp only [Act.put,sa_,sb_,sc_,a_r,a_s]
     rfl
    refine a_x (i:=26) (N:=some 43) (v:=undef) (a':=?_) Z69_ rfl rfl (a_q HT_.out (by kernel_rfl)) (fun _ _ _ h => h) (Or.inr ⟨by rfl,rfl⟩) ?_ ?_
    rotate_left
    ·simp only [Act.put,sa_,sb_,sc_,a_r,a_s]
     rfl
    refine a_x (i:=27) (N:=some 44) (v:=?_) (a':=?_) Z70_ rfl rfl (a_q HT_.out (by kernel_rfl)) (fun _ _ _ h => h) (Or.inl ⟨by rfl,?_⟩) ?_ ?_
    rotate_left
    ·intro w'
     go_simp
     with_reducible rfl
    rotate_left
    ·simp only [Act.put,sa_,sb_,sc_,a_r,a_s]
     rfl
    refine a_x (i:=28) (N:=some 45) (v:=?_) (a':=?_) Z71_ rfl rfl (a_q HT_.out (by kernel_rfl)) (fun _ _ _ h => h) (Or.inl ⟨by rfl,?_⟩) ?_ ?_
    rotate_left
    ·intro w'
     go_simp
     with_reducible rfl
    rotate_left
    ·simp only [Act.put,sa_,sb_,sc_,a_r,a_s]
     rfl
    refine a_x (i:=29) (N:=some 46) (v:=undef) (a':=?_) Z72_ rfl rfl (a_q HT_.out (by kernel_rfl)) (fun _ _ _ h => h) (Or.inr ⟨by rfl,rfl⟩) ?_ ?_
    rotate_left
    ·simp only [Act.put,sa_,sb_,sc_,a_r,a_s]
     rfl
    refine a_x (i:=30) (N:=some 47) (v:=undef) (a':=?_) Z75_ rfl rfl (a_q HT_.out (by kernel_rfl)) (fun _ _ _ h => h) (Or.inr ⟨by rfl,rfl⟩) ?_ ?_
    rotate_left
    ·simp only [Act.put,sa_,sb_,sc_,a_r,a_s]
     rfl
    refine a_x (i:=31) (N:=some 48) (v:=undef) (a':=?_) Z76_ rfl rfl (a_q HT_.out (by kernel_rfl)) (fun _ _ _ h => h) (Or.inr ⟨by rfl,rfl⟩) ?_ ?_
    rotate_left
    ·simp only [Act.put,sa_,sb_,sc_,a_r,a_s]
     rfl
    refine a_x (i:=32) (N:=some 49) (v:=undef) (a':=?_) Z79_ rfl rfl (a_q HT_.out (by kernel_rfl)) (fun _ _ _ h => h) (Or.inr ⟨by rfl,rfl⟩) ?_ ?_
    rotate_left
    ·simp only [Act.put,sa_,sb_,sc_,a_r,a_s]
     rfl
    refine a_x (i:=33) (N:=some 50) (v:=undef) (a':=?_) Z80_ rfl rfl (a_q HT_.out (by kernel_rfl)) (fun _ _ _ h => h) (Or.inr ⟨by rfl,rfl⟩) ?_ ?_
    rotate_left
    ·simp only [Act.put,sa_,sb_,sc_,a_r,a_s]
     rfl
    refine a_x (i:=34) (N:=some 51) (v:=undef) (a':=?_) Z81_ rfl rfl (a_q HT_.out (by kernel_rfl)) (fun _ _ _ h => h) (Or.inr ⟨by rfl,rfl⟩) ?_ ?_
    rotate_left
    ·simp only [Act.put,sa_,sb_,sc_,a_r,a_s]
     rfl
    refine a_x (i:=35) (N:=some 52) (v:=undef) (a':=?_) Z82_ rfl rfl (a_q HT_.out (by kernel_rfl)) (fun _ _ _ h => h) (Or.inr ⟨by rfl,rfl⟩) ?_ ?_
    rotate_left
    ·simp only [Act.put,sa_,sb_,sc_,a_r,a_s]
     rfl
    refine a_x (i:=36) (N:=some 53) (v:=?_) (a':=?_) Z83_ rfl rfl (a_q HT_.out (by kernel_rfl)) (fun _ _ _ h => h) (Or.inl ⟨by rfl,?_⟩) ?_ ?_
    rotate_left
    ·intro w'
     go_simp
     with_reducible rfl
    rotate_left
    ·simp only [Act.put,sa_,sb_,sc_,a_r,a_s]
     rfl
    refine d_3 (c_U HT_.out (by kernel_rfl)) ?_
    try go_wp2
    go_ret
    exact ⟨by first|rfl|(simp [a_v,a_u] <;> rfl)|(simp only [← hji10];first|rfl|(simp [a_v,a_u] <;> rfl))|(simp [*, a_v,a_u] <;> rfl),by repeat (first|(with_reducible first|exact HB.out|apply a_g|apply a_b|apply a_h|refine a_f ?_ c_R.out|refine a_f ?_ d_a.out|refine a_f ?_ d_m.out)|exact HB.out)⟩
   rw [if_neg c13] at H
   have c13b0 : decide (((a_d l0_1 x10_1).f0) ≤ ((a_d l0_1 (ji10)).f0)) = false:=decide_eq_false c13
   clear c13
   replace H:=Option.bind_eq_some_iff.mp H
   obtain ⟨t117,A240,H⟩:=H
   replace H : (if t117 = ((a_d l0_1 x10_1).f9) then ((a_2.f l0_1 ((a_d l0_1 x10_1).f0) ((a_d l0_1 x10_1).f1) ((a_d l0_1 x10_1).f2) ((a_d l0_1 x10_1).f3) ((a_d l0_1 x10_1).f4) ((a_d l0_1 x10_1).f5) ((a_d l0_1 x10_1).f6) ((a_d l0_1 x10_1).f7) ((a_d l0_1 x10_1).f8) ((a_d l0_1 x10_1).f9) ((a_d l0_1 x10_1).f10) ((a_d l0_1 x10_1).f0) ((a_d l0_1 x10_1).f1) ((a_d l0_1 x10_1).f2) ((a_d l0_1 x10_1).f3) ((a_d l0_1 x10_1).f4) ((a_d l0_1 x10_1).f5) ((a_d l0_1 x10_1).f6) ((a_d l0_1 x10_1).f7) ((a_d l0_1 x10_1).f8) ((a_d l0_1 x10_1).f9) ((a_d l0_1 x10_1).f10)).bind fun t118 => (if t118 = ((a_d l0_1 x10_1).f9) then (a_y.l0 k1 l0_1 (l0_1.length : Int) (wrap64 (x10_1 + 1)) a0_0 l0_1) else (some false))) else (some false)) = some r:=H
   have A24:=a_c.mk A240
   clear A240
   by_cases c25 : t117 = ((a_d l0_1 x10_1).f9)
   rotate_left
   ·rw [if_neg c25] at H
    have c25b0 : (t117 == ((a_d l0_1 x10_1).f9)) = false:=beq_eq_false_iff_ne.mpr c25
    have c25b1 : (t117 != ((a_d l0_1 x10_1).f9)) = true:=bne_iff_ne.mpr c25
    obtain rfl:=Option.some.inj H
    have p116 : 0 ≤ ((ji10) : Int):=of_decide_eq_true (by first|(with_reducible assumption)|assumption)
    have q116 : (ji10) < (l0_1.length : Int):=of_decide_eq_true (by first|(with_reducible assumption)|assumption)
    obtain ⟨ad116,e116,c_f,c_g,c_h,c_i,c_j,c_k,c_l,c_m,c_n,c_o,b_P⟩:=d_F d_h.out (ji10) p116 q116
    have b_D:=b_P
    have b_Q:=c_o
    have b_R:=c_n
    have b_S:=c_m
    have b_T:=c_l
    have b_U:=c_k
    have b_V:=c_j
    have b_W:=c_i
    have b_X:=c_h
    have b_Y:=c_g
    have b_Z:=c_f
    obtain rfl : ad112 = ad116:=(by injection e116)
    replace c_f:=(HB.out.cell (World.block_lt_of_cell? w _ c_f)).trans c_f
    replace c_g:=(HB.out.cell (World.block_lt_of_cell? w _ c_g)).trans c_g
    replace c_h:=(HB.out.cell (World.block_lt_of_cell? w _ c_h)).trans c_h
    replace c_i:=(HB.out.cell (World.block_lt_of_cell? w _ c_i)).trans c_i
    replace c_j:=(HB.out.cell (World.block_lt_of_cell? w _ c_j)).trans c_j
    replace c_k:=(HB.out.cell (World.block_lt_of_cell? w _ c_k)).trans c_k
    replace c_l:=(HB.out.cell (World.block_lt_of_cell? w _ c_l)).trans c_l
    replace c_m:=(HB.out.cell (World.block_lt_of_cell? w _ c_m)).trans c_m
    replace c_n:=(HB.out.cell (World.block_lt_of_cell? w _ c_n)).trans c_n
    replace c_o:=(HB.out.cell (World.block_lt_of_cell? w _ c_o)).trans c_o
    replace b_P:=(HB.out.cell (World.block_lt_of_cell? w _ b_P)).trans b_P
    replace p116:=eq_true p116
    replace q116:=eq_true q116
    refine d_n (n:=37) (S:=fun w' => w'.cell? ⟨a_X,0,none⟩ = some (.int .i64 ((a_d l0_1 x10_1).f0)) ∧ w'.cell? ⟨a_X,1,none⟩ = some (.int .i64 ((a_d l0_1 x10_1).f1)) ∧ w'.cell? ⟨a_X,2,none⟩ = some (.int .i64 ((a_d l0_1 x10_1).f2)) ∧ w'.cell? ⟨a_X,3,none⟩ = some (.int .i64 ((a_d l0_1 x10_1).f3)) ∧ w'.cell? ⟨a_X,4,none⟩ = some (.int .i64 ((a_d l0_1 x10_1).f4)) ∧ w'.cell? ⟨a_X,5,none⟩ = some (.bool ((a_d l0_1 x10_1).f5)) ∧ w'.cell? ⟨a_X,6,none⟩ = some (.bool ((a_d l0_1 x10_1).f6)) ∧ w'.cell? ⟨a_X,7,none⟩ = some (.int .u32 ((a_d l0_1 x10_1).f7)) ∧ w'.cell? ⟨a_X,8,none⟩ = some (.int .i64 ((a_d l0_1 x10_1).f8)) ∧ w'.cell? ⟨a_X,9,none⟩ = some (.int .i64 ((a_d l0_1 x10_1).f9)) ∧ w'.cell? ⟨a_X,10,none⟩ = some (.int .i64 ((a_d l0_1 x10_1).f10)) ∧ w'.cell? ⟨c_5,0,none⟩ = some (.int .i64 a0_0) ∧ w'.cell? ⟨c_5,1,none⟩ = some (.slice (some ad112) l0_1.length c0_1) ∧ w'.cell? ⟨d_l,0,none⟩ = some (.func (.func 51) #[] #[.pointer (some ⟨a_X,0,none⟩)]) ∧ w'.cell? (ad112.add (((ji10)).toNat * 11)) = some (.int .i64 ((a_d l0_1 (ji10)).f0)) ∧ w'.cell? ⟨(ad112.add (((ji10)).toNat * 11)).block,(ad112.add (((ji10)).toNat * 11)).off + 1,none⟩ = some (.int .i64 ((a_d l0_1 (ji10)).f1)) ∧ w'.cell? ⟨(ad112.add (((ji10)).toNat * 11)).block,(ad112.add (((ji10)).toNat * 11)).off + 2,none⟩ = some (.int .i64 ((a_d l0_1 (ji10)).f2)) ∧ w'.cell? ⟨(ad112.add (((ji10)).toNat * 11)).block,(ad112.add (((ji10)).toNat * 11)).off + 3,none⟩ = some (.int .i64 ((a_d l0_1 (ji10)).f3)) ∧ w'.cell? ⟨(ad112.add (((ji10)).toNat * 11)).block,(ad112.add (((ji10)).toNat * 11)).off + 4,none⟩ = some (.int .i64 ((a_d l0_1 (ji10)).f4)) ∧ w'.cell? ⟨(ad112.add (((ji10)).toNat * 11)).block,(ad112.add (((ji10)).toNat * 11)).off + 5,none⟩ = some (.bool ((a_d l0_1 (ji10)).f5)) ∧ w'.cell? ⟨(ad112.add (((ji10)).toNat * 11)).block,(ad112.add (((ji10)).toNat * 11)).off + 6,none⟩ = some (.bool ((a_d l0_1 (ji10)).f6)) ∧ w'.cell? ⟨(ad112.add (((ji10)).toNat * 11)).block,(ad112.add (((ji10)).toNat * 11)).off + 7,none⟩ = some (.int .u32 ((a_d l0_1 (ji10)).f7)) ∧ w'.cell? ⟨(ad112.add (((ji10)).toNat * 11)).block,(ad112.add (((ji10)).toNat * 11)).off + 8,none⟩ = some (.int .i64 ((a_d l0_1 (ji10)).f8)) ∧ w'.cell? ⟨(ad112.add (((ji10)).toNat * 11)).block,(ad112.add (((ji10)).toNat * 11)).off + 9,none⟩ = some (.int .i64 ((a_d l0_1 (ji10)).f9)) ∧ w'.cell? ⟨(ad112.add (((ji10)).toNat * 11)).block,(ad112.add (((ji10)).toNat * 11)).off + 10,none⟩ = some (.int .i64 ((a_d l0_1 (ji10)).f10))) (ds:=[]) Z0_ (by kernel_rfl) rfl rfl ⟨(a_a a_w.out 0).trans rfl,(a_a a_w.out 1).trans rfl,(a_a a_w.out 2).trans rfl,(a_a a_w.out 3).trans rfl,(a_a a_w.out 4).trans rfl,(a_a a_w.out 5).trans rfl,(a_a a_w.out 6).trans rfl,(a_a a_w.out 7).trans rfl,(a_a a_w.out 8).trans rfl,(a_a a_w.out 9).trans rfl,(a_a a_w.out 10).trans rfl,(a_a a_5.out 0).trans rfl,(a_a a_5.out 1).trans rfl,(a_a b_A.out 0).trans rfl,((HB.out.cell (World.block_lt_of_cell? w _ b_Z)).trans b_Z),((HB.out.cell (World.block_lt_of_cell? w _ b_Y)).trans b_Y),((HB.out.cell (World.block_lt_of_cell? w _ b_X)).trans b_X),((HB.out.cell (World.block_lt_of_cell? w _ b_W)).trans b_W),((HB.out.cell (World.block_lt_of_cell? w _ b_V)).trans b_V),((HB.out.cell (World.block_lt_of_cell? w _ b_U)).trans b_U),((HB.out.cell (World.block_lt_of_cell? w _ b_T)).trans b_T),((HB.out.cell (World.block_lt_of_cell? w _ b_S)).trans b_S),((HB.out.cell (World.block_lt_of_cell? w _ b_R)).trans b_R),((HB.out.cell (World.block_lt_of_cell? w _ b_Q)).trans b_Q),((HB.out.cell (World.block_lt_of_cell? w _ b_D)).trans b_D)⟩ (fun hHeld => ?_);refine b_9 a_y.tab6 a_y.e_r (fun HT_ HW_ => ?_)
    generalize w21.drew = w60 at a_5 a_w b_A HB c_f c_g b_P c_h c_i c_j c_k c_l c_m c_n c_o hHeld ⊢
    refine b_F (i:=0) (N:=some 17) (v:=?_) (a':=?_) Z2_ rfl rfl (a_Q HT_.out HW_.out (by kernel_rfl)) (fun _ _ _ h => h) (Or.inl ⟨by rfl,?_⟩) hHeld ?_ ?_
    rotate_left
    ·rintro w' ⟨s0,s1,s2,s3,s4,s5,s6,s7,s8,s9,s10,s11,s12,s13,s14,s15,s16,s17,s18,s19,s20,s21,s22,s23,s24⟩
     go_simp
     with_reducible rfl
    rotate_left
    ·simp only [Act.put,sa_,sb_,sc_,a_r,a_s]
     rfl
    refine one_ (i:=1) (N:=some 18) Z4_ rfl rfl (c_B HT_.out (by kernel_rfl)) (by decide) (fun K hK => ?_)
    refine d_w Try.func53 (by kernel_rfl) rfl #[.agg #[.int .i64 ((a_d l0_1 x10_1).f0),.int .i64 ((a_d l0_1 x10_1).f1),.int .i64 ((a_d l0_1 x10_1).f2),.int .i64 ((a_d l0_1 x10_1).f3),.int .i64 ((a_d l0_1 x10_1).f4),.bool ((a_d l0_1 x10_1).f5),.bool ((a_d l0_1 x10_1).f6),.int .u32 ((a_d l0_1 x10_1).f7),.int .i64 ((a_d l0_1 x10_1).f8),.int .i64 ((a_d l0_1 x10_1).f9),.int .i64 ((a_d l0_1 x10_1).f10)]] (by rfl) rfl rfl (by (try simp only [List.map_toArray,List.map_cons,List.map_nil]);first|done|rfl|(simp only [List.length_drop,List.length_take];rfl)) ?_
    with_reducible refine (a_K.calls k1 ((a_d l0_1 x10_1).f0) ((a_d l0_1 x10_1).f1) ((a_d l0_1 x10_1).f2) ((a_d l0_1 x10_1).f3) ((a_d l0_1 x10_1).f4) ((a_d l0_1 x10_1).f5) ((a_d l0_1 x10_1).f6) ((a_d l0_1 x10_1).f7) ((a_d l0_1 x10_1).f8) ((a_d l0_1 x10_1).f9) ((a_d l0_1 x10_1).f10) true _ A7.out).mono ?_
    rintro e w61 ⟨rfl,hb⟩
    refine ⟨_,rfl,?_⟩
    replace a_5:=a_c.mk (a_m (bup_ a_5.out) hb)
    replace a_w:=a_c.mk (a_m (bup_ a_w.out) hb)
    replace b_A:=a_c.mk (a_m (bup_ b_A.out) hb)
    replace HB:=a_c.mk (a_o (by repeat (first|(with_reducible first|exact HB.out|apply a_g|apply a_b|apply a_h|refine a_f ?_ c_R.out|refine a_f ?_ d_a.out|refine a_f ?_ d_m.out)|exact HB.out)) hb)
    (try clear hb)
    (try clear hb2)
    (try clear hk)
    (try clear hi)
    refine hK.out _ _ ⟨(a_a a_w.out 0).trans rfl,(a_a a_w.out 1).trans rfl,(a_a a_w.out 2).trans rfl,(a_a a_w.out 3).trans rfl,(a_a a_w.out 4).trans rfl,(a_a a_w.out 5).trans rfl,(a_a a_w.out 6).trans rfl,(a_a a_w.out 7).trans rfl,(a_a a_w.out 8).trans rfl,(a_a a_w.out 9).trans rfl,(a_a a_w.out 10).trans rfl,(a_a a_5.out 0).trans rfl,(a_a a_5.out 1).trans rfl,(a_a b_A.out 0).trans rfl,((HB.out.cell (World.block_lt_of_cell? w _ b_Z)).trans b_Z),((HB.out.cell (World.block_lt_of_cell? w _ b_Y)).trans b_Y),((HB.out.cell (World.block_lt_of_cell? w _ b_X)).trans b_X),((HB.out.cell (World.block_lt_of_cell? w _ b_W)).trans b_W),((HB.out.cell (World.block_lt_of_cell? w _ b_V)).trans b_V),((HB.out.cell (World.block_lt_of_cell? w _ b_U)).trans b_U),((HB.out.cell (World.block_lt_of_cell? w _ b_T)).trans b_T),((HB.out.cell (World.block_lt_of_cell? w _ b_S)).trans b_S),((HB.out.cell (World.block_lt_of_cell? w _ b_R)).trans b_R),((HB.out.cell (World.block_lt_of_cell? w _ b_Q)).trans b_Q),((HB.out.cell (World.block_lt_of_cell? w _ b_D)).trans b_D)⟩ (fun hHeld => ?_)
    clear hK K
    refine d_k (a':=?_) ?_ ?_
    rotate_left
    ·show Act.put _ (some 18) _ = _
     simp only [Act.put,sa_,sb_,sc_,a_r,a_s]
     rfl
    refine a_x (i:=2) (N:=some 19) (v:=?_) (a':=?_) Z6_ rfl rfl (a_q HT_.out (by kernel_rfl)) (fun _ _ _ h => h) (Or.inl ⟨by rfl,?_⟩) ?_ ?_
    rotate_left
    ·intro w'
     go_simp
     with_reducible rfl
    rotate_left
    ·simp only [Act.put,sa_,sb_,sc_,a_r,a_s]
     rfl
    refine a_x (i:=3) (N:=some 20) (v:=?_) (a':=?_) Z8_ rfl rfl (a_q HT_.out (by kernel_rfl)) (fun _ _ _ h => h) (Or.inl ⟨by rfl,?_⟩) ?_ ?_
    rotate_left
    ·intro w'
     go_simp
     with_reducible rfl
    rotate_left
    ·simp only [Act.put,sa_,sb_,sc_,a_r,a_s]
     rfl
    refine a_x (i:=4) (N:=some 21) (v:=?_) (a':=?_) Z10_ rfl rfl (a_q HT_.out (by kernel_rfl)) (fun _ _ _ h => h) (Or.inl ⟨by rfl,?_⟩) ?_ ?_
    rotate_left
    ·intro w'
     go_simp
     with_reducible rfl
    rotate_left
    ·simp only [Act.put,sa_,sb_,sc_,a_r,a_s]
     rfl
    refine a_x (i:=5) (N:=some 22) (v:=?_) (a':=?_) Z13_ rfl rfl (a_q HT_.out (by kernel_rfl)) (fun _ _ _ h => h) (Or.inl ⟨by rfl,?_⟩) ?_ ?_
    rotate_left
    ·intro w'
     go_simp
     with_reducible rfl
    rotate_left
    ·simp only [Act.put,sa_,sb_,sc_,a_r,a_s]
     rfl
    refine a_x (i:=6) (N:=some 23) (v:=?_) (a':=?_) Z14_ rfl rfl (a_q HT_.out (by kernel_rfl)) (fun _ _ _ h => h) (Or.inl ⟨by rfl,?_⟩) ?_ ?_
    rotate_left
    ·intro w'
     go_simp
     with_reducible rfl
    rotate_left
    ·simp only [Act.put,sa_,sb_,sc_,a_r,a_s]
     rfl
    refine a_x (i:=7) (N:=some 24) (v:=?_) (a':=?_) Z16_ rfl rfl (a_q HT_.out (by kernel_rfl)) (fun _ _ _ h => h) (Or.inl ⟨by rfl,?_⟩) ?_ ?_
    rotate_left
    ·intro w'
     go_simp
     with_reducible rfl
    rotate_left
    ·simp only [Act.put,sa_,sb_,sc_,a_r,a_s]
     rfl
    refine a_x (i:=9) (N:=some 26) (v:=?_) (a':=?_) Z18_ rfl rfl (a_q HT_.out (by kernel_rfl)) (fun _ _ _ h => h) (Or.inl ⟨by rfl,?_⟩) ?_ ?_
    rotate_left
    ·intro w'
     go_simp
     with_reducible rfl
    rotate_left
    ·simp only [Act.put,sa_,sb_,sc_,a_r,a_s]
     rfl
    refine a_x (i:=10) (N:=some 27) (v:=?_) (a':=?_) Z19_ rfl rfl (a_q HT_.out (by kernel_rfl)) (fun _ _ _ h => h) (Or.inl ⟨by rfl,?_⟩) ?_ ?_
    rotate_left
    ·intro w'
     go_simp
     with_reducible rfl
    rotate_left
    ·simp only [Act.put,sa_,sb_,sc_,a_r,a_s]
     rfl
    refine a_x (i:=14) (N:=some 31) (v:=?_) (a':=?_) Z20_ rfl rfl (a_q HT_.out (by kernel_rfl)) (fun _ _ _ h => h) (Or.inl ⟨by rfl,?_⟩) ?_ ?_
    rotate_left
    ·intro w'
     go_simp
     with_reducible rfl
    rotate_left
    ·simp only [Act.put,sa_,sb_,sc_,a_r,a_s]
     rfl
    refine b_F (i:=8) (N:=some 25) (v:=?_) (a':=?_) Z27_ rfl rfl (a_Q HT_.out HW_.out (by kernel_rfl)) (fun _ _ _ h => h) (Or.inl ⟨by rfl,?_⟩) hHeld ?_ ?_
    rotate_left
    ·rintro w' ⟨s0,s1,s2,s3,s4,s5,s6,s7,s8,s9,s10,s11,s12,s13,s14,s15,s16,s17,s18,s19,s20,s21,s22,s23,s24⟩
     go_simp
     with_reducible rfl
    rotate_left
    ·simp only [Act.put,sa_,sb_,sc_,a_r,a_s]
     rfl
    refine a_x (i:=11) (N:=some 28) (v:=?_) (a':=?_) Z30_ rfl rfl (a_q HT_.out (by kernel_rfl)) (fun _ _ _ h => h) (Or.inl ⟨by rfl,?_⟩) ?_ ?_
    rotate_left
    ·intro w'
     go_simp
     with_reducible rfl
    rotate_left
    ·simp only [Act.put,sa_,sb_,sc_,a_r,a_s]
     rfl
    refine a_x (i:=12) (N:=some 29) (v:=?_) (a':=?_) Z33_ rfl rfl (a_q HT_.out (by kernel_rfl)) (fun _ _ _ h => h) (Or.inl ⟨by rfl,?_⟩) ?_ ?_
    rotate_left
    ·intro w'
     go_simp
     with_reducible rfl
    rotate_left
    ·simp only [Act.put,sa_,sb_,sc_,a_r,a_s]
     rfl
    refine b_F (i:=13) (N:=some 30) (v:=?_) (a':=?_) Z36_ rfl rfl (a_Q HT_.out HW_.out (by kernel_rfl)) (fun _ _ _ h => h) (Or.inl ⟨by rfl,?_⟩) hHeld ?_ ?_
    rotate_left
    ·rintro w' ⟨s0,s1,s2,s3,s4,s5,s6,s7,s8,s9,s10,s11,s12,s13,s14,s15,s16,s17,s18,s19,s20,s21,s22,s23,s24⟩
     go_simp
     with_reducible rfl
    rotate_left
    ·simp only [Act.put,sa_,sb_,sc_,a_r,a_s]
     rfl
    refine b_F (i:=15) (N:=some 32) (v:=?_) (a':=?_) Z41_ rfl rfl (a_Q HT_.out HW_.out (by kernel_rfl)) (fun _ _ _ h => h) (Or.inl ⟨by rfl,?_⟩) hHeld ?_ ?_
    rotate_left
    ·rintro w' ⟨s0,s1,s2,s3,s4,s5,s6,s7,s8,s9,s10,s11,s12,s13,s14,s15,s16,s17,s18,s19,s20,s21,s22,s23,s24⟩
     go_simp
     with_reducible rfl
    rotate_left
    ·simp only [Act.put,sa_,sb_,sc_,a_r,a_s]
     rfl
    refine a_x (i:=16) (N:=some 33) (v:=?_) (a':=?_) Z43_ rfl rfl (a_q HT_.out (by kernel_rfl)) (fun _ _ _ h => h) (Or.inl ⟨by rfl,?_⟩) ?_ ?_
    rotate_left
    ·intro w'
     go_simp
     with_reducible rfl
    rotate_left
    ·simp only [Act.put,sa_,sb_,sc_,a_r,a_s]
     rfl
    refine a_x (i:=17) (N:=some 34) (v:=?_) (a':=?_) Z45_ rfl rfl (a_q HT_.out (by kernel_rfl)) (fun _ _ _ h => h) (Or.inl ⟨by rfl,?_⟩) ?_ ?_
    rotate_left
    ·intro w'
     go_simp
     with_reducible rfl
    rotate_left
    ·simp only [Act.put,sa_,sb_,sc_,a_r,a_s]
     rfl
    refine a_x (i:=18) (N:=some 35) (v:=?_) (a':=?_) Z48_ rfl rfl (a_q HT_.out (by kernel_rfl)) (fun _ _ _ h => h) (Or.inl ⟨by rfl,?_⟩) ?_ ?_
    rotate_left
    ·intro w'
     go_simp
     with_reducible rfl
    rotate_left
    ·simp only [Act.put,sa_,sb_,sc_,a_r,a_s]
     rfl
    refine a_x (i:=19) (N:=some 36) (v:=?_) (a':=?_) Z51_ rfl rfl (a_q HT_.out (by kernel_rfl)) (fun _ _ _ h => h) (Or.inl ⟨by rfl,?_⟩) ?_ ?_
    rotate_left
    ·intro w'
     go_simp
     with_reducible rfl
    rotate_left
    ·simp only [Act.put,sa_,sb_,sc_,a_r,a_s]
     rfl
    refine a_x (i:=20) (N:=some 37) (v:=?_) (a':=?_) Z54_ rfl rfl (a_q HT_.out (by kernel_rfl)) (fun _ _ _ h => h) (Or.inl ⟨by rfl,?_⟩) ?_ ?_
    rotate_left
    ·intro w'
     go_simp
     with_reducible rfl
    rotate_left
    ·simp only [Act.put,sa_,sb_,sc_,a_r,a_s]
     rfl
    refine a_x (i:=24) (N:=some 41) (v:=?_) (a':=?_) Z56_ rfl rfl (a_q HT_.out (by kernel_rfl)) (fun _ _ _ h => h) (Or.inl ⟨by rfl,?_⟩) ?_ ?_
    rotate_left
    ·intro w'
     go_simp
     with_reducible rfl
    rotate_left
    ·simp only [Act.put,sa_,sb_,sc_,a_r,a_s]
     rfl
    refine b_F (i:=21) (N:=some 38) (v:=?_) (a':=?_) Z59_ rfl rfl (a_Q HT_.out HW_.out (by kernel_rfl)) (fun _ _ _ h => h) (Or.inl ⟨by rfl,?_⟩) hHeld ?_ ?_
    rotate_left
    ·rintro w' ⟨s0,s1,s2,s3,s4,s5,s6,s7,s8,s9,s10,s11,s12,s13,s14,s15,s16,s17,s18,s19,s20,s21,s22,s23,s24⟩
     go_simp
     with_reducible rfl
    rotate_left
    ·simp only [Act.put,sa_,sb_,sc_,a_r,a_s]
     rfl
    refine b_F (i:=22) (N:=some 39) (v:=?_) (a':=?_) Z62_ rfl rfl (a_Q HT_.out HW_.out (by kernel_rfl)) (fun _ _ _ h => h) (Or.inl ⟨by rfl,?_⟩) hHeld ?_ ?_
    rotate_left
    ·rintro w' ⟨s0,s1,s2,s3,s4,s5,s6,s7,s8,s9,s10,s11,s12,s13,s14,s15,s16,s17,s18,s19,s20,s21,s22,s23,s24⟩
     go_simp
     with_reducible rfl
    rotate_left
    ·simp only [Act.put,sa_,sb_,sc_,a_r,a_s]
     rfl
    refine b_F (i:=25) (N:=some 42) (v:=?_) (a':=?_) Z63_ rfl rfl (a_Q HT_.out HW_.out (by kernel_rfl)) (fun _ _ _ h => h) (Or.inl ⟨by rfl,?_⟩) hHeld ?_ ?_
    rotate_left
    ·rintro w' ⟨s0,s1,s2,s3,s4,s5,s6,s7,s8,s9,s10,s11,s12,s13,s14,s15,s16,s17,s18,s19,s20,s21,s22,s23,s24⟩
     go_simp
     with_reducible rfl
    rotate_left
    ·simp only [Act.put,sa_,sb_,sc_,a_r,a_s]
     rfl
    refine one_ (i:=23) (N:=some 40) Z68_ rfl rfl (c_B HT_.out (by kernel_rfl)) (by decide) (fun K hK => ?_)
    refine d_w Try.func38 (by kernel_rfl) rfl #[.slice (some ad112) l0_1.length c0_1,.func (.func 51) #[] #[.pointer (some ⟨a_X,0,none⟩)]] (by rfl) rfl rfl (by (try simp only [List.map_toArray,List.map_cons,List.map_nil]);first|done|rfl|(simp only [List.length_drop,List.length_take];rfl)) ?_
    with_reducible refine (a_4.calls _ _ l0_1 a_X ((a_d l0_1 x10_1).f0) ((a_d l0_1 x10_1).f1) ((a_d l0_1 x10_1).f2) ((a_d l0_1 x10_1).f3) ((a_d l0_1 x10_1).f4) ((a_d l0_1 x10_1).f5) ((a_d l0_1 x10_1).f6) ((a_d l0_1 x10_1).f7) ((a_d l0_1 x10_1).f8) ((a_d l0_1 x10_1).f9) ((a_d l0_1 x10_1).f10) t117 _ ?side1 ?side2 ?side3 A24.out).mono ?_
    (case side1 => repeat (first|exact (Kd.a_U d_h.out HB.out)|(with_reducible refine Kd.a_8 ?_ _)|(with_reducible refine Kd.a_7 ?_ _)|(with_reducible refine Kd.b_t ?_)))
    (case side2 => exact e_e.out)
    (case side3 => exact (bup_ a_w.out))
    rintro e w62 ⟨rfl,hb⟩
    refine ⟨_,rfl,?_⟩
    replace a_5:=a_c.mk (a_m (bup_ a_5.out) hb)
    replace a_w:=a_c.mk (a_m (bup_ a_w.out) hb)
    replace b_A:=a_c.mk (a_m (bup_ b_A.out) hb)
    replace HB:=a_c.mk (a_o (by repeat (first|(with_reducible first|exact HB.out|apply a_g|apply a_b|apply a_h|refine a_f ?_ c_R.out|refine a_f ?_ d_a.out|refine a_f ?_ d_m.out)|exact HB.out)) hb)
    (try clear hb)
    (try clear hb2)
    (try clear hk)
    (try clear hi)
    refine hK.out _ _ ⟨(a_a a_w.out 0).trans rfl,(a_a a_w.out 1).trans rfl,(a_a a_w.out 2).trans rfl,(a_a a_w.out 3).trans rfl,(a_a a_w.out 4).trans rfl,(a_a a_w.out 5).trans rfl,(a_a a_w.out 6).trans rfl,(a_a a_w.out 7).trans rfl,(a_a a_w.out 8).trans rfl,(a_a a_w.out 9).trans rfl,(a_a a_w.out 10).trans rfl,(a_a a_5.out 0).trans rfl,(a_a a_5.out 1).trans rfl,(a_a b_A.out 0).trans rfl,((HB.out.cell (World.block_lt_of_cell? w _ b_Z)).trans b_Z),((HB.out.cell (World.block_lt_of_cell? w _ b_Y)).trans b_Y),((HB.out.cell (World.block_lt_of_cell? w _ b_X)).trans b_X),((HB.out.cell (World.block_lt_of_cell? w _ b_W)).trans b_W),((HB.out.cell (World.block_lt_of_cell? w _ b_V)).trans b_V),((HB.out.cell (World.block_lt_of_cell? w _ b_U)).trans b_U),((HB.out.cell (World.block_lt_of_cell? w _ b_T)).trans b_T),((HB.out.cell (World.block_lt_of_cell? w _ b_S)).trans b_S),((HB.out.cell (World.block_lt_of_cell? w _ b_R)).trans b_R),((HB.out.cell (World.block_lt_of_cell? w _ b_Q)).trans b_Q),((HB.out.cell (World.block_lt_of_cell? w _ b_D)).trans b_D)⟩ (fun hHeld => ?_)
    clear hK K
    refine d_k (a':=?_) ?_ ?_
    rotate_left
    ·show Act.put _ (some 40) _ = _
     simp only [Act.put,sa_,sb_,sc_,a_r,a_s]
     rfl
    refine a_x (i:=26) (N:=some 43) (v:=?_) (a':=?_) Z69_ rfl rfl (a_q HT_.out (by kernel_rfl)) (fun _ _ _ h => h) (Or.inl ⟨by rfl,?_⟩) ?_ ?_
    rotate_left
    ·intro w'
     go_simp
     with_reducible rfl
    rotate_left
    ·simp only [Act.put,sa_,sb_,sc_,a_r,a_s]
     rfl
    refine a_x (i:=27) (N:=some 44) (v:=?_) (a':=?_) Z70_ rfl rfl (a_q HT_.out (by kernel_rfl)) (fun _ _ _ h => h) (Or.inl ⟨by rfl,?_⟩) ?_ ?_
    rotate_left
    ·intro w'
     go_simp
     with_reducible rfl
    rotate_left
    ·simp only [Act.put,sa_,sb_,sc_,a_r,a_s]
     rfl
    refine a_x (i:=28) (N:=some 45) (v:=?_) (a':=?_) Z71_ rfl rfl (a_q HT_.out (by kernel_rfl)) (fun _ _ _ h => h) (Or.inl ⟨by rfl,?_⟩) ?_ ?_
    rotate_left
    ·intro w'
     go_simp
     with_reducible rfl
    rotate_left
    ·simp only [Act.put,sa_,sb_,sc_,a_r,a_s]
     rfl
    refine a_x (i:=29) (N:=some 46) (v:=undef) (a':=?_) Z72_ rfl rfl (a_q HT_.out (by kernel_rfl)) (fun _ _ _ h => h) (Or.inr ⟨by rfl,rfl⟩) ?_ ?_
    rotate_left
    ·simp only [Act.put,sa_,sb_,sc_,a_r,a_s]
     rfl
    refine a_x (i:=30) (N:=some 47) (v:=undef) (a':=?_) Z75_ rfl rfl (a_q HT_.out (by kernel_rfl)) (fun _ _ _ h => h) (Or.inr ⟨by rfl,rfl⟩) ?_ ?_
    rotate_left
    ·simp only [Act.put,sa_,sb_,sc_,a_r,a_s]
     rfl
    refine a_x (i:=31) (N:=some 48) (v:=undef) (a':=?_) Z76_ rfl rfl (a_q HT_.out (by kernel_rfl)) (fun _ _ _ h => h) (Or.inr ⟨by rfl,rfl⟩) ?_ ?_
    rotate_left
    ·simp only [Act.put,sa_,sb_,sc_,a_r,a_s]
     rfl
    refine a_x (i:=32) (N:=some 49) (v:=undef) (a':=?_) Z79_ rfl rfl (a_q HT_.out (by kernel_rfl)) (fun _ _ _ h => h) (Or.inr ⟨by rfl,rfl⟩) ?_ ?_
    rotate_left
    ·simp only [Act.put,sa_,sb_,sc_,a_r,a_s]
     rfl
    refine a_x (i:=33) (N:=some 50) (v:=undef) (a':=?_) Z80_ rfl rfl (a_q HT_.out (by kernel_rfl)) (fun _ _ _ h => h) (Or.inr ⟨by rfl,rfl⟩) ?_ ?_
    rotate_left
    ·simp only [Act.put,sa_,sb_,sc_,a_r,a_s]
     rfl
    refine a_x (i:=34) (N:=some 51) (v:=undef) (a':=?_) Z81_ rfl rfl (a_q HT_.out (by kernel_rfl)) (fun _ _ _ h => h) (Or.inr ⟨by rfl,rfl⟩) ?_ ?_
    rotate_left
    ·simp only [Act.put,sa_,sb_,sc_,a_r,a_s]
     rfl
    refine a_x (i:=35) (N:=some 52) (v:=undef) (a':=?_) Z82_ rfl rfl (a_q HT_.out (by kernel_rfl)) (fun _ _ _ h => h) (Or.inr ⟨by rfl,rfl⟩) ?_ ?_
    rotate_left
    ·simp only [Act.put,sa_,sb_,sc_,a_r,a_s]
     rfl
    refine a_x (i:=36) (N:=some 53) (v:=?_) (a':=?_) Z83_ rfl rfl (a_q HT_.out (by kernel_rfl)) (fun _ _ _ h => h) (Or.inl ⟨by rfl,?_⟩) ?_ ?_
    rotate_left
    ·intro w'
     go_simp
     with_reducible rfl
    rotate_left
    ·simp only [Act.put,sa_,sb_,sc_,a_r,a_s]
     rfl
    refine d_3 (c_U HT_.out (by kernel_rfl)) ?_
    try go_wp2
    go_ret
    exact ⟨by first|rfl|(simp [a_v,a_u] <;> rfl)|(simp only [← hji10];first|rfl|(simp [a_v,a_u] <;> rfl))|(simp [*, a_v,a_u] <;> rfl),by repeat (first|(with_reducible first|exact HB.out|apply a_g|apply a_b|apply a_h|refine a_f ?_ c_R.out|refine a_f ?_ d_a.out|refine a_f ?_ d_m.out)|exact HB.out)⟩
   rw [if_pos c25] at H
   have c25b0 : (t117 == ((a_d l0_1 x10_1).f9)) = true:=beq_iff_eq.mpr c25
   have c25b1 : (t117 != ((a_d l0_1 x10_1).f9)) = false:=bne_eq_false_iff_eq.mpr c25
   clear c25
   replace H:=Option.bind_eq_some_iff.mp H
   obtain ⟨t118,A260,H⟩:=H
   replace H : (if t118 = ((a_d l0_1 x10_1).f9) then (a_y.l0 k1 l0_1 (l0_1.length : Int) (wrap64 (x10_1 + 1)) a0_0 l0_1) else (some false)) = some r:=H
   have A26:=a_c.mk A260
   clear A260
   by_cases c27 : t118 = ((a_d l0_1 x10_1).f9)
   rotate_left
   ·rw [if_neg c27] at H
    have c27b0 : (t118 == ((a_d l0_1 x10_1).f9)) = false:=beq_eq_false_iff_ne.mpr c27
    have c27b1 : (t118 != ((a_d l0_1 x10_1).f9)) = true:=bne_iff_ne.mpr c27
    obtain rfl:=Option.some.inj H
    have p116 : 0 ≤ ((ji10) : Int):=of_decide_eq_true (by first|(with_reducible assumption)|assumption)
    have q116 : (ji10) < (l0_1.length : Int):=of_decide_eq_true (by first|(with_reducible assumption)|assumption)
    obtain ⟨ad116,e116,c_f,c_g,c_h,c_i,c_j,c_k,c_l,c_m,c_n,c_o,b_P⟩:=d_F d_h.out (ji10) p116 q116
    have b_D:=b_P
    have b_Q:=c_o
    have b_R:=c_n
    have b_S:=c_m
    have b_T:=c_l
    have b_U:=c_k
    have b_V:=c_j
    have b_W:=c_i
    have b_X:=c_h
    have b_Y:=c_g
    have b_Z:=c_f
    obtain rfl : ad112 = ad116:=(by injection e116)
    replace c_f:=(HB.out.cell (World.block_lt_of_cell? w _ c_f)).trans c_f
    replace c_g:=(HB.out.cell (World.block_lt_of_cell? w _ c_g)).trans c_g
    replace c_h:=(HB.out.cell (World.block_lt_of_cell? w _ c_h)).trans c_h
    replace c_i:=(HB.out.cell (World.block_lt_of_cell? w _ c_i)).trans c_i
    replace c_j:=(HB.out.cell (World.block_lt_of_cell? w _ c_j)).trans c_j
    replace c_k:=(HB.out.cell (World.block_lt_of_cell? w _ c_k)).trans c_k
    replace c_l:=(HB.out.cell (World.block_lt_of_cell? w _ c_l)).trans c_l
    replace c_m:=(HB.out.cell (World.block_lt_of_cell? w _ c_m)).trans c_m
    replace c_n:=(HB.out.cell (World.block_lt_of_cell? w _ c_n)).trans c_n
    replace c_o:=(HB.out.cell (World.block_lt_of_cell? w _ c_o)).trans c_o
    replace b_P:=(HB.out.cell (World.block_lt_of_cell? w _ b_P)).trans b_P
    replace p116:=eq_true p116
    replace q116:=eq_true q116
    refine d_n (n:=37) (S:=fun w' => w'.cell? ⟨a_X,0,none⟩ = some (.int .i64 ((a_d l0_1 x10_1).f0)) ∧ w'.cell? ⟨a_X,1,none⟩ = some (.int .i64 ((a_d l0_1 x10_1).f1)) ∧ w'.cell? ⟨a_X,2,none⟩ = some (.int .i64 ((a_d l0_1 x10_1).f2)) ∧ w'.cell? ⟨a_X,3,none⟩ = some (.int .i64 ((a_d l0_1 x10_1).f3)) ∧ w'.cell? ⟨a_X,4,none⟩ = some (.int .i64 ((a_d l0_1 x10_1).f4)) ∧ w'.cell? ⟨a_X,5,none⟩ = some (.bool ((a_d l0_1 x10_1).f5)) ∧ w'.cell? ⟨a_X,6,none⟩ = some (.bool ((a_d l0_1 x10_1).f6)) ∧ w'.cell? ⟨a_X,7,none⟩ = some (.int .u32 ((a_d l0_1 x10_1).f7)) ∧ w'.cell? ⟨a_X,8,none⟩ = some (.int .i64 ((a_d l0_1 x10_1).f8)) ∧ w'.cell? ⟨a_X,9,none⟩ = some (.int .i64 ((a_d l0_1 x10_1).f9)) ∧ w'.cell? ⟨a_X,10,none⟩ = some (.int .i64 ((a_d l0_1 x10_1).f10)) ∧ w'.cell? ⟨c_5,0,none⟩ = some (.int .i64 a0_0) ∧ w'.cell? ⟨c_5,1,none⟩ = some (.slice (some ad112) l0_1.length c0_1) ∧ w'.cell? ⟨d_l,0,none⟩ = some (.func (.func 51) #[] #[.pointer (some ⟨a_X,0,none⟩)]) ∧ w'.cell? (ad112.add (((ji10)).toNat * 11)) = some (.int .i64 ((a_d l0_1 (ji10)).f0)) ∧ w'.cell? ⟨(ad112.add (((ji10)).toNat * 11)).block,(ad112.add (((ji10)).toNat * 11)).off + 1,none⟩ = some (.int .i64 ((a_d l0_1 (ji10)).f1)) ∧ w'.cell? ⟨(ad112.add (((ji10)).toNat * 11)).block,(ad112.add (((ji10)).toNat * 11)).off + 2,none⟩ = some (.int .i64 ((a_d l0_1 (ji10)).f2)) ∧ w'.cell? ⟨(ad112.add (((ji10)).toNat * 11)).block,(ad112.add (((ji10)).toNat * 11)).off + 3,none⟩ = some (.int .i64 ((a_d l0_1 (ji10)).f3)) ∧ w'.cell? ⟨(ad112.add (((ji10)).toNat * 11)).block,(ad112.add (((ji10)).toNat * 11)).off + 4,none⟩ = some (.int .i64 ((a_d l0_1 (ji10)).f4)) ∧ w'.cell? ⟨(ad112.add (((ji10)).toNat * 11)).block,(ad112.add (((ji10)).toNat * 11)).off + 5,none⟩ = some (.bool ((a_d l0_1 (ji10)).f5)) ∧ w'.cell? ⟨(ad112.add (((ji10)).toNat * 11)).block,(ad112.add (((ji10)).toNat * 11)).off + 6,none⟩ = some (.bool ((a_d l0_1 (ji10)).f6)) ∧ w'.cell? ⟨(ad112.add (((ji10)).toNat * 11)).block,(ad112.add (((ji10)).toNat * 11)).off + 7,none⟩ = some (.int .u32 ((a_d l0_1 (ji10)).f7)) ∧ w'.cell? ⟨(ad112.add (((ji10)).toNat * 11)).block,(ad112.add (((ji10)).toNat * 11)).off + 8,none⟩ = some (.int .i64 ((a_d l0_1 (ji10)).f8)) ∧ w'.cell? ⟨(ad112.add (((ji10)).toNat * 11)).block,(ad112.add (((ji10)).toNat * 11)).off + 9,none⟩ = some (.int .i64 ((a_d l0_1 (ji10)).f9)) ∧ w'.cell? ⟨(ad112.add (((ji10)).toNat * 11)).block,(ad112.add (((ji10)).toNat * 11)).off + 10,none⟩ = some (.int .i64 ((a_d l0_1 (ji10)).f10))) (ds:=[]) Z0_ (by kernel_rfl) rfl rfl ⟨(a_a a_w.out 0).trans rfl,(a_a a_w.out 1).trans rfl,(a_a a_w.out 2).trans rfl,(a_a a_w.out 3).trans rfl,(a_a a_w.out 4).trans rfl,(a_a a_w.out 5).trans rfl,(a_a a_w.out 6).trans rfl,(a_a a_w.out 7).trans rfl,(a_a a_w.out 8).trans rfl,(a_a a_w.out 9).trans rfl,(a_a a_w.out 10).trans rfl,(a_a a_5.out 0).trans rfl,(a_a a_5.out 1).trans rfl,(a_a b_A.out 0).trans rfl,((HB.out.cell (World.block_lt_of_cell? w _ b_Z)).trans b_Z),((HB.out.cell (World.block_lt_of_cell? w _ b_Y)).trans b_Y),((HB.out.cell (World.block_lt_of_cell? w _ b_X)).trans b_X),((HB.out.cell (World.block_lt_of_cell? w _ b_W)).trans b_W),((HB.out.cell (World.block_lt_of_cell? w _ b_V)).trans b_V),((HB.out.cell (World.block_lt_of_cell? w _ b_U)).trans b_U),((HB.out.cell (World.block_lt_of_cell? w _ b_T)).trans b_T),((HB.out.cell (World.block_lt_of_cell? w _ b_S)).trans b_S),((HB.out.cell (World.block_lt_of_cell? w _ b_R)).trans b_R),((HB.out.cell (World.block_lt_of_cell? w _ b_Q)).trans b_Q),((HB.out.cell (World.block_lt_of_cell? w _ b_D)).trans b_D)⟩ (fun hHeld => ?_);refine b_9 a_y.tab6 a_y.e_r (fun HT_ HW_ => ?_)
    generalize w21.drew = w48 at a_5 a_w b_A HB c_f c_g b_P c_h c_i c_j c_k c_l c_m c_n c_o hHeld ⊢
    refine b_F (i:=0) (N:=some 17) (v:=?_) (a':=?_) Z2_ rfl rfl (a_Q HT_.out HW_.out (by kernel_rfl)) (fun _ _ _ h => h) (Or.inl ⟨by rfl,?_⟩) hHeld ?_ ?_
    rotate_left
    ·rintro w' ⟨s0,s1,s2,s3,s4,s5,s6,s7,s8,s9,s10,s11,s12,s13,s14,s15,s16,s17,s18,s19,s20,s21,s22,s23,s24⟩
     go_simp
     with_reducible rfl
    rotate_left
    ·simp only [Act.put,sa_,sb_,sc_,a_r,a_s]
     rfl
    refine one_ (i:=1) (N:=some 18) Z4_ rfl rfl (c_B HT_.out (by kernel_rfl)) (by decide) (fun K hK => ?_)
    refine d_w Try.func53 (by kernel_rfl) rfl #[.agg #[.int .i64 ((a_d l0_1 x10_1).f0),.int .i64 ((a_d l0_1 x10_1).f1),.int .i64 ((a_d l0_1 x10_1).f2),.int .i64 ((a_d l0_1 x10_1).f3),.int .i64 ((a_d l0_1 x10_1).f4),.bool ((a_d l0_1 x10_1).f5),.bool ((a_d l0_1 x10_1).f6),.int .u32 ((a_d l0_1 x10_1).f7),.int .i64 ((a_d l0_1 x10_1).f8),.int .i64 ((a_d l0_1 x10_1).f9),.int .i64 ((a_d l0_1 x10_1).f10)]] (by rfl) rfl rfl (by (try simp only [List.map_toArray,List.map_cons,List.map_nil]);first|done|rfl|(simp only [List.length_drop,List.length_take];rfl)) ?_
    with_reducible refine (a_K.calls k1 ((a_d l0_1 x10_1).f0) ((a_d l0_1 x10_1).f1) ((a_d l0_1 x10_1).f2) ((a_d l0_1 x10_1).f3) ((a_d l0_1 x10_1).f4) ((a_d l0_1 x10_1).f5) ((a_d l0_1 x10_1).f6) ((a_d l0_1 x10_1).f7) ((a_d l0_1 x10_1).f8) ((a_d l0_1 x10_1).f9) ((a_d l0_1 x10_1).f10) true _ A7.out).mono ?_
    rintro e w49 ⟨rfl,hb⟩
    refine ⟨_,rfl,?_⟩
    replace a_5:=a_c.mk (a_m (bup_ a_5.out) hb)
    replace a_w:=a_c.mk (a_m (bup_ a_w.out) hb)
    replace b_A:=a_c.mk (a_m (bup_ b_A.out) hb)
    replace HB:=a_c.mk (a_o (by repeat (first|(with_reducible first|exact HB.out|apply a_g|apply a_b|apply a_h|refine a_f ?_ c_R.out|refine a_f ?_ d_a.out|refine a_f ?_ d_m.out)|exact HB.out)) hb)
    (try clear hb)
    (try clear hb2)
    (try clear hk)
    (try clear hi)
    refine hK.out _ _ ⟨(a_a a_w.out 0).trans rfl,(a_a a_w.out 1).trans rfl,(a_a a_w.out 2).trans rfl,(a_a a_w.out 3).trans rfl,(a_a a_w.out 4).trans rfl,(a_a a_w.out 5).trans rfl,(a_a a_w.out 6).trans rfl,(a_a a_w.out 7).trans rfl,(a_a a_w.out 8).trans rfl,(a_a a_w.out 9).trans rfl,(a_a a_w.out 10).trans rfl,(a_a a_5.out 0).trans rfl,(a_a a_5.out 1).trans rfl,(a_a b_A.out 0).trans rfl,((HB.out.cell (World.block_lt_of_cell? w _ b_Z)).trans b_Z),((HB.out.cell (World.block_lt_of_cell? w _ b_Y)).trans b_Y),((HB.out.cell (World.block_lt_of_cell? w _ b_X)).trans b_X),((HB.out.cell (World.block_lt_of_cell? w _ b_W)).trans b_W),((HB.out.cell (World.block_lt_of_cell? w _ b_V)).trans b_V),((HB.out.cell (World.block_lt_of_cell? w _ b_U)).trans b_U),((HB.out.cell (World.block_lt_of_cell? w _ b_T)).trans b_T),((HB.out.cell (World.block_lt_of_cell? w _ b_S)).trans b_S),((HB.out.cell (World.block_lt_of_cell? w _ b_R)).trans b_R),((HB.out.cell (World.block_lt_of_cell? w _ b_Q)).trans b_Q),((HB.out.cell (World.block_lt_of_cell? w _ b_D)).trans b_D)⟩ (fun hHeld => ?_)
    clear hK K
    refine d_k (a':=?_) ?_ ?_
    rotate_left
    ·show Act.put _ (some 18) _ = _
     simp only [Act.put,sa_,sb_,sc_,a_r,a_s]
     rfl
    refine a_x (i:=2) (N:=some 19) (v:=?_) (a':=?_) Z6_ rfl rfl (a_q HT_.out (by kernel_rfl)) (fun _ _ _ h => h) (Or.inl ⟨by rfl,?_⟩) ?_ ?_
    rotate_left
    ·intro w'
     go_simp
     with_reducible rfl
    rotate_left
    ·simp only [Act.put,sa_,sb_,sc_,a_r,a_s]
     rfl
    refine a_x (i:=3) (N:=some 20) (v:=?_) (a':=?_) Z8_ rfl rfl (a_q HT_.out (by kernel_rfl)) (fun _ _ _ h => h) (Or.inl ⟨by rfl,?_⟩) ?_ ?_
    rotate_left
    ·intro w'
     go_simp
     with_reducible rfl
    rotate_left
    ·simp only [Act.put,sa_,sb_,sc_,a_r,a_s]
     rfl
    refine a_x (i:=4) (N:=some 21) (v:=?_) (a':=?_) Z10_ rfl rfl (a_q HT_.out (by kernel_rfl)) (fun _ _ _ h => h) (Or.inl ⟨by rfl,?_⟩) ?_ ?_
    rotate_left
    ·intro w'
     go_simp
     with_reducible rfl
    rotate_left
    ·simp only [Act.put,sa_,sb_,sc_,a_r,a_s]
     rfl
    refine a_x (i:=5) (N:=some 22) (v:=?_) (a':=?_) Z13_ rfl rfl (a_q HT_.out (by kernel_rfl)) (fun _ _ _ h => h) (Or.inl ⟨by rfl,?_⟩) ?_ ?_
    rotate_left
    ·intro w'
     go_simp
     with_reducible rfl
    rotate_left
    ·simp only [Act.put,sa_,sb_,sc_,a_r,a_s]
     rfl
    refine a_x (i:=6) (N:=some 23) (v:=?_) (a':=?_) Z14_ rfl rfl (a_q HT_.out (by kernel_rfl)) (fun _ _ _ h => h) (Or.inl ⟨by rfl,?_⟩) ?_ ?_
    rotate_left
    ·intro w'
     go_simp
     with_reducible rfl
    rotate_left
    ·simp only [Act.put,sa_,sb_,sc_,a_r,a_s]
     rfl
    refine a_x (i:=7) (N:=some 24) (v:=?_) (a':=?_) Z16_ rfl rfl (a_q HT_.out (by kernel_rfl)) (fun _ _ _ h => h) (Or.inl ⟨by rfl,?_⟩) ?_ ?_
    rotate_left
    ·intro w'
     go_simp
     with_reducible rfl
    rotate_left
    ·simp only [Act.put,sa_,sb_,sc_,a_r,a_s]
     rfl
    refine a_x (i:=9) (N:=some 26) (v:=?_) (a':=?_) Z18_ rfl rfl (a_q HT_.out (by kernel_rfl)) (fun _ _ _ h => h) (Or.inl ⟨by rfl,?_⟩) ?_ ?_
    rotate_left
    ·intro w'
     go_simp
     with_reducible rfl
    rotate_left
    ·simp only [Act.put,sa_,sb_,sc_,a_r,a_s]
     rfl
    refine a_x (i:=10) (N:=some 27) (v:=?_) (a':=?_) Z19_ rfl rfl (a_q HT_.out (by kernel_rfl)) (fun _ _ _ h => h) (Or.inl ⟨by rfl,?_⟩) ?_ ?_
    rotate_left
    ·intro w'
     go_simp
     with_reducible rfl
    rotate_left
    ·simp only [Act.put,sa_,sb_,sc_,a_r,a_s]
     rfl
    refine a_x (i:=14) (N:=some 31) (v:=?_) (a':=?_) Z20_ rfl rfl (a_q HT_.out (by kernel_rfl)) (fun _ _ _ h => h) (Or.inl ⟨by rfl,?_⟩) ?_ ?_
    rotate_left
    ·intro w'
     go_simp
     with_reducible rfl
    rotate_left
    ·simp only [Act.put,sa_,sb_,sc_,a_r,a_s]
     rfl
    refine b_F (i:=8) (N:=some 25) (v:=?_) (a':=?_) Z27_ rfl rfl (a_Q HT_.out HW_.out (by kernel_rfl)) (fun _ _ _ h => h) (Or.inl ⟨by rfl,?_⟩) hHeld ?_ ?_
    rotate_left
    ·rintro w' ⟨s0,s1,s2,s3,s4,s5,s6,s7,s8,s9,s10,s11,s12,s13,s14,s15,s16,s17,s18,s19,s20,s21,s22,s23,s24⟩
     go_simp
     with_reducible rfl
    rotate_left
    ·simp only [Act.put,sa_,sb_,sc_,a_r,a_s]
     rfl
    refine a_x (i:=11) (N:=some 28) (v:=?_) (a':=?_) Z30_ rfl rfl (a_q HT_.out (by kernel_rfl)) (fun _ _ _ h => h) (Or.inl ⟨by rfl,?_⟩) ?_ ?_
    rotate_left
    ·intro w'
     go_simp
     with_reducible rfl
    rotate_left
    ·simp only [Act.put,sa_,sb_,sc_,a_r,a_s]
     rfl
    refine a_x (i:=12) (N:=some 29) (v:=?_) (a':=?_) Z33_ rfl rfl (a_q HT_.out (by kernel_rfl)) (fun _ _ _ h => h) (Or.inl ⟨by rfl,?_⟩) ?_ ?_
    rotate_left
    ·intro w'
     go_simp
     with_reducible rfl
    rotate_left
    ·simp only [Act.put,sa_,sb_,sc_,a_r,a_s]
     rfl
    refine b_F (i:=13) (N:=some 30) (v:=?_) (a':=?_) Z36_ rfl rfl (a_Q HT_.out HW_.out (by kernel_rfl)) (fun _ _ _ h => h) (Or.inl ⟨by rfl,?_⟩) hHeld ?_ ?_
    rotate_left
    ·rintro w' ⟨s0,s1,s2,s3,s4,s5,s6,s7,s8,s9,s10,s11,s12,s13,s14,s15,s16,s17,s18,s19,s20,s21,s22,s23,s24⟩
     go_simp
     with_reducible rfl
    rotate_left
    ·simp only [Act.put,sa_,sb_,sc_,a_r,a_s]
     rfl
    refine b_F (i:=15) (N:=some 32) (v:=?_) (a':=?_) Z41_ rfl rfl (a_Q HT_.out HW_.out (by kernel_rfl)) (fun _ _ _ h => h) (Or.inl ⟨by rfl,?_⟩) hHeld ?_ ?_
    rotate_left
    ·rintro w' ⟨s0,s1,s2,s3,s4,s5,s6,s7,s8,s9,s10,s11,s12,s13,s14,s15,s16,s17,s18,s19,s20,s21,s22,s23,s24⟩
     go_simp
     with_reducible rfl
    rotate_left
    ·simp only [Act.put,sa_,sb_,sc_,a_r,a_s]
     rfl
    refine a_x (i:=16) (N:=some 33) (v:=?_) (a':=?_) Z43_ rfl rfl (a_q HT_.out (by kernel_rfl)) (fun _ _ _ h => h) (Or.inl ⟨by rfl,?_⟩) ?_ ?_
    rotate_left
    ·intro w'
     go_simp
     with_reducible rfl
    rotate_left
    ·simp only [Act.put,sa_,sb_,sc_,a_r,a_s]
     rfl
    refine a_x (i:=17) (N:=some 34) (v:=?_) (a':=?_) Z45_ rfl rfl (a_q HT_.out (by kernel_rfl)) (fun _ _ _ h => h) (Or.inl ⟨by rfl,?_⟩) ?_ ?_
    rotate_left
    ·intro w'
     go_simp
     with_reducible rfl
    rotate_left
    ·simp only [Act.put,sa_,sb_,sc_,a_r,a_s]
     rfl
    refine a_x (i:=18) (N:=some 35) (v:=?_) (a':=?_) Z48_ rfl rfl (a_q HT_.out (by kernel_rfl)) (fun _ _ _ h => h) (Or.inl ⟨by rfl,?_⟩) ?_ ?_
    rotate_left
    ·intro w'
     go_simp
     with_reducible rfl
    rotate_left
    ·simp only [Act.put,sa_,sb_,sc_,a_r,a_s]
     rfl
    refine a_x (i:=19) (N:=some 36) (v:=?_) (a':=?_) Z51_ rfl rfl (a_q HT_.out (by kernel_rfl)) (fun _ _ _ h => h) (Or.inl ⟨by rfl,?_⟩) ?_ ?_
    rotate_left
    ·intro w'
     go_simp
     with_reducible rfl
    rotate_left
    ·simp only [Act.put,sa_,sb_,sc_,a_r,a_s]
     rfl
    refine a_x (i:=20) (N:=some 37) (v:=?_) (a':=?_) Z54_ rfl rfl (a_q HT_.out (by kernel_rfl)) (fun _ _ _ h => h) (Or.inl ⟨by rfl,?_⟩) ?_ ?_
    rotate_left
    ·intro w'
     go_simp
     with_reducible rfl
    rotate_left
    ·simp only [Act.put,sa_,sb_,sc_,a_r,a_s]
     rfl
    refine a_x (i:=24) (N:=some 41) (v:=?_) (a':=?_) Z56_ rfl rfl (a_q HT_.out (by kernel_rfl)) (fun _ _ _ h => h) (Or.inl ⟨by rfl,?_⟩) ?_ ?_
    rotate_left
    ·intro w'
     go_simp
     with_reducible rfl
    rotate_left
    ·simp only [Act.put,sa_,sb_,sc_,a_r,a_s]
     rfl
    refine b_F (i:=21) (N:=some 38) (v:=?_) (a':=?_) Z59_ rfl rfl (a_Q HT_.out HW_.out (by kernel_rfl)) (fun _ _ _ h => h) (Or.inl ⟨by rfl,?_⟩) hHeld ?_ ?_
    rotate_left
    ·rintro w' ⟨s0,s1,s2,s3,s4,s5,s6,s7,s8,s9,s10,s11,s12,s13,s14,s15,s16,s17,s18,s19,s20,s21,s22,s23,s24⟩
     go_simp
     with_reducible rfl
    rotate_left
    ·simp only [Act.put,sa_,sb_,sc_,a_r,a_s]
     rfl
    refine b_F (i:=22) (N:=some 39) (v:=?_) (a':=?_) Z62_ rfl rfl (a_Q HT_.out HW_.out (by kernel_rfl)) (fun _ _ _ h => h) (Or.inl ⟨by rfl,?_⟩) hHeld ?_ ?_
    rotate_left
    ·rintro w' ⟨s0,s1,s2,s3,s4,s5,s6,s7,s8,s9,s10,s11,s12,s13,s14,s15,s16,s17,s18,s19,s20,s21,s22,s23,s24⟩
     go_simp
     with_reducible rfl
    rotate_left
    ·simp only [Act.put,sa_,sb_,sc_,a_r,a_s]
     rfl
    refine b_F (i:=25) (N:=some 42) (v:=?_) (a':=?_) Z63_ rfl rfl (a_Q HT_.out HW_.out (by kernel_rfl)) (fun _ _ _ h => h) (Or.inl ⟨by rfl,?_⟩) hHeld ?_ ?_
    rotate_left
    ·rintro w' ⟨s0,s1,s2,s3,s4,s5,s6,s7,s8,s9,s10,s11,s12,s13,s14,s15,s16,s17,s18,s19,s20,s21,s22,s23,s24⟩
     go_simp
     with_reducible rfl
    rotate_left
    ·simp only [Act.put,sa_,sb_,sc_,a_r,a_s]
     rfl
    refine one_ (i:=23) (N:=some 40) Z68_ rfl rfl (c_B HT_.out (by kernel_rfl)) (by decide) (fun K hK => ?_)
    refine d_w Try.func38 (by kernel_rfl) rfl #[.slice (some ad112) l0_1.length c0_1,.func (.func 51) #[] #[.pointer (some ⟨a_X,0,none⟩)]] (by rfl) rfl rfl (by (try simp only [List.map_toArray,List.map_cons,List.map_nil]);first|done|rfl|(simp only [List.length_drop,List.length_take];rfl)) ?_
    with_reducible refine (a_4.calls _ _ l0_1 a_X ((a_d l0_1 x10_1).f0) ((a_d l0_1 x10_1).f1) ((a_d l0_1 x10_1).f2) ((a_d l0_1 x10_1).f3) ((a_d l0_1 x10_1).f4) ((a_d l0_1 x10_1).f5) ((a_d l0_1 x10_1).f6) ((a_d l0_1 x10_1).f7) ((a_d l0_1 x10_1).f8) ((a_d l0_1 x10_1).f9) ((a_d l0_1 x10_1).f10) t117 _ ?side1 ?side2 ?side3 A24.out).mono ?_
    (case side1 => repeat (first|exact (Kd.a_U d_h.out HB.out)|(with_reducible refine Kd.a_8 ?_ _)|(with_reducible refine Kd.a_7 ?_ _)|(with_reducible refine Kd.b_t ?_)))
    (case side2 => exact e_e.out)
    (case side3 => exact (bup_ a_w.out))
    rintro e w50 ⟨rfl,hb⟩
    refine ⟨_,rfl,?_⟩
    replace a_5:=a_c.mk (a_m (bup_ a_5.out) hb)
    replace a_w:=a_c.mk (a_m (bup_ a_w.out) hb)
    replace b_A:=a_c.mk (a_m (bup_ b_A.out) hb)
    replace HB:=a_c.mk (a_o (by repeat (first|(with_reducible first|exact HB.out|apply a_g|apply a_b|apply a_h|refine a_f ?_ c_R.out|refine a_f ?_ d_a.out|refine a_f ?_ d_m.out)|exact HB.out)) hb)
    (try clear hb)
    (try clear hb2)
    (try clear hk)
    (try clear hi)
    refine hK.out _ _ ⟨(a_a a_w.out 0).trans rfl,(a_a a_w.out 1).trans rfl,(a_a a_w.out 2).trans rfl,(a_a a_w.out 3).trans rfl,(a_a a_w.out 4).trans rfl,(a_a a_w.out 5).trans rfl,(a_a a_w.out 6).trans rfl,(a_a a_w.out 7).trans rfl,(a_a a_w.out 8).trans rfl,(a_a a_w.out 9).trans rfl,(a_a a_w.out 10).trans rfl,(a_a a_5.out 0).trans rfl,(a_a a_5.out 1).trans rfl,(a_a b_A.out 0).trans rfl,((HB.out.cell (World.block_lt_of_cell? w _ b_Z)).trans b_Z),((HB.out.cell (World.block_lt_of_cell? w _ b_Y)).trans b_Y),((HB.out.cell (World.block_lt_of_cell? w _ b_X)).trans b_X),((HB.out.cell (World.block_lt_of_cell? w _ b_W)).trans b_W),((HB.out.cell (World.block_lt_of_cell? w _ b_V)).trans b_V),((HB.out.cell (World.block_lt_of_cell? w _ b_U)).trans b_U),((HB.out.cell (World.block_lt_of_cell? w _ b_T)).trans b_T),((HB.out.cell (World.block_lt_of_cell? w _ b_S)).trans b_S),((HB.out.cell (World.block_lt_of_cell? w _ b_R)).trans b_R),((HB.out.cell (World.block_lt_of_cell? w _ b_Q)).trans b_Q),((HB.out.cell (World.block_lt_of_cell? w _ b_D)).trans b_D)⟩ (fun hHeld => ?_)
    clear hK K
    refine d_k (a':=?_) ?_ ?_
    rotate_left
    ·show Act.put _ (some 40) _ = _
     simp only [Act.put,sa_,sb_,sc_,a_r,a_s]
     rfl
    refine a_x (i:=26) (N:=some 43) (v:=?_) (a':=?_) Z69_ rfl rfl (a_q HT_.out (by kernel_rfl)) (fun _ _ _ h => h) (Or.inl ⟨by rfl,?_⟩) ?_ ?_
    rotate_left
    ·intro w'
     go_simp
     with_reducible rfl
    rotate_left
    ·simp only [Act.put,sa_,sb_,sc_,a_r,a_s]
     rfl
    refine a_x (i:=27) (N:=some 44) (v:=?_) (a':=?_) Z70_ rfl rfl (a_q HT_.out (by kernel_rfl)) (fun _ _ _ h => h) (Or.inl ⟨by rfl,?_⟩) ?_ ?_
    rotate_left
    ·intro w'
     go_simp
     with_reducible rfl
    rotate_left
    ·simp only [Act.put,sa_,sb_,sc_,a_r,a_s]
     rfl
    refine a_x (i:=28) (N:=some 45) (v:=?_) (a':=?_) Z71_ rfl rfl (a_q HT_.out (by kernel_rfl)) (fun _ _ _ h => h) (Or.inl ⟨by rfl,?_⟩) ?_ ?_
    rotate_left
    ·intro w'
     go_simp
     with_reducible rfl
    rotate_left
    ·simp only [Act.put,sa_,sb_,sc_,a_r,a_s]
     rfl
    refine a_x (i:=29) (N:=some 46) (v:=?_) (a':=?_) Z72_ rfl rfl (a_q HT_.out (by kernel_rfl)) (fun _ _ _ h => h) (Or.inl ⟨by rfl,?_⟩) ?_ ?_
    rotate_left
    ·intro w'
     go_simp
     with_reducible rfl
    rotate_left
    ·simp only [Act.put,sa_,sb_,sc_,a_r,a_s]
     rfl
    refine a_x (i:=31) (N:=some 48) (v:=?_) (a':=?_) Z73_ rfl rfl (a_q HT_.out (by kernel_rfl)) (fun _ _ _ h => h) (Or.inl ⟨by rfl,?_⟩) ?_ ?_
    rotate_left
    ·intro w'
     go_simp
     with_reducible rfl
    rotate_left
    ·simp only [Act.put,sa_,sb_,sc_,a_r,a_s]
     rfl
    refine a_x (i:=33) (N:=some 50) (v:=?_) (a':=?_) Z74_ rfl rfl (a_q HT_.out (by kernel_rfl)) (fun _ _ _ h => h) (Or.inl ⟨by rfl,?_⟩) ?_ ?_
    rotate_left
    ·intro w'
     go_simp
     with_reducible rfl
    rotate_left
    ·simp only [Act.put,sa_,sb_,sc_,a_r,a_s]
     rfl
    refine b_F (i:=30) (N:=some 47) (v:=?_) (a':=?_) Z77_ rfl rfl (a_Q HT_.out HW_.out (by kernel_rfl)) (fun _ _ _ h => h) (Or.inl ⟨by rfl,?_⟩) hHeld ?_ ?_
    rotate_left
    ·rintro w' ⟨s0,s1,s2,s3,s4,s5,s6,s7,s8,s9,s10,s11,s12,s13,s14,s15,s16,s17,s18,s19,s20,s21,s22,s23,s24⟩
     go_simp
     with_reducible rfl
    rotate_left
    ·simp only [Act.put,sa_,sb_,sc_,a_r,a_s]
     rfl
    refine b_F (i:=34) (N:=some 51) (v:=?_) (a':=?_) Z78_ rfl rfl (a_Q HT_.out HW_.out (by kernel_rfl)) (fun _ _ _ h => h) (Or.inl ⟨by rfl,?_⟩) hHeld ?_ ?_
    rotate_left
    ·rintro w' ⟨s0,s1,s2,s3,s4,s5,s6,s7,s8,s9,s10,s11,s12,s13,s14,s15,s16,s17,s18,s19,s20,s21,s22,s23,s24⟩
     go_simp
     with_reducible rfl
    rotate_left
    ·simp only [Act.put,sa_,sb_,sc_,a_r,a_s]
     rfl
    refine one_ (i:=32) (N:=some 49) Z81_ rfl rfl (c_B HT_.out (by kernel_rfl)) (by decide) (fun K hK => ?_)
    refine d_w Try.func38 (by kernel_rfl) rfl #[.slice (some ad112) l0_1.length c0_1,.func (.func 52) #[] #[.pointer (some ⟨d_l,0,none⟩),.pointer (some ⟨a_X,0,none⟩)]] (by rfl) rfl rfl (by (try simp only [List.map_toArray,List.map_cons,List.map_nil]);first|done|rfl|(simp only [List.length_drop,List.length_take];rfl)) ?_
    with_reducible refine (a_2.calls _ _ l0_1 d_l a_X a_X ((a_d l0_1 x10_1).f0) ((a_d l0_1 x10_1).f1) ((a_d l0_1 x10_1).f2) ((a_d l0_1 x10_1).f3) ((a_d l0_1 x10_1).f4) ((a_d l0_1 x10_1).f5) ((a_d l0_1 x10_1).f6) ((a_d l0_1 x10_1).f7) ((a_d l0_1 x10_1).f8) ((a_d l0_1 x10_1).f9) ((a_d l0_1 x10_1).f10) ((a_d l0_1 x10_1).f0) ((a_d l0_1 x10_1).f1) ((a_d l0_1 x10_1).f2) ((a_d l0_1 x10_1).f3) ((a_d l0_1 x10_1).f4) ((a_d l0_1 x10_1).f5) ((a_d l0_1 x10_1).f6) ((a_d l0_1 x10_1).f7) ((a_d l0_1 x10_1).f8) ((a_d l0_1 x10_1).f9) ((a_d l0_1 x10_1).f10) t118 _ ?side1 ?side2 ?side3 ?side4 ?side5 A26.out).mono ?_
    (case side1 => repeat (first|exact (Kd.a_U d_h.out HB.out)|(with_reducible refine Kd.a_8 ?_ _)|(with_reducible refine Kd.a_7 ?_ _)|(with_reducible refine Kd.b_t ?_)))
    (case side2 => exact e_e.out)
    (case side3 => exact (bup_ b_A.out))
    (case side4 => exact (bup_ a_w.out))
    (case side5 => exact (bup_ a_w.out))
    rintro e w51 ⟨rfl,hb⟩
    refine ⟨_,rfl,?_⟩
    replace a_5:=a_c.mk (a_m (bup_ a_5.out) hb)
    replace a_w:=a_c.mk (a_m (bup_ a_w.out) hb)
    replace b_A:=a_c.mk (a_m (bup_ b_A.out) hb)
    replace HB:=a_c.mk (a_o (by repeat (first|(with_reducible first|exact HB.out|apply a_g|apply a_b|apply a_h|refine a_f ?_ c_R.out|refine a_f ?_ d_a.out|refine a_f ?_ d_m.out)|exact HB.out)) hb)
    (try clear hb)
    (try clear hb2)
    (try clear hk)
    (try clear hi)
    refine hK.out _ _ ⟨(a_a a_w.out 0).trans rfl,(a_a a_w.out 1).trans rfl,(a_a a_w.out 2).trans rfl,(a_a a_w.out 3).trans rfl,(a_a a_w.out 4).trans rfl,(a_a a_w.out 5).trans rfl,(a_a a_w.out 6).trans rfl,(a_a a_w.out 7).trans rfl,(a_a a_w.out 8).trans rfl,(a_a a_w.out 9).trans rfl,(a_a a_w.out 10).trans rfl,(a_a a_5.out 0).trans rfl,(a_a a_5.out 1).trans rfl,(a_a b_A.out 0).trans rfl,((HB.out.cell (World.block_lt_of_cell? w _ b_Z)).trans b_Z),((HB.out.cell (World.block_lt_of_cell? w _ b_Y)).trans b_Y),((HB.out.cell (World.block_lt_of_cell? w _ b_X)).trans b_X),((HB.out.cell (World.block_lt_of_cell? w _ b_W)).trans b_W),((HB.out.cell (World.block_lt_of_cell? w _ b_V)).trans b_V),((HB.out.cell (World.block_lt_of_cell? w _ b_U)).trans b_U),((HB.out.cell (World.block_lt_of_cell? w _ b_T)).trans b_T),((HB.out.cell (World.block_lt_of_cell? w _ b_S)).trans b_S),((HB.out.cell (World.block_lt_of_cell? w _ b_R)).trans b_R),((HB.out.cell (World.block_lt_of_cell? w _ b_Q)).trans b_Q),((HB.out.cell (World.block_lt_of_cell? w _ b_D)).trans b_D)⟩ (fun hHeld => ?_)
    clear hK K
    refine d_k (a':=?_) ?_ ?_
    rotate_left
    ·show Act.put _ (some 49) _ = _
     simp only [Act.put,sa_,sb_,sc_,a_r,a_s]
     rfl
    refine a_x (i:=35) (N:=some 52) (v:=?_) (a':=?_) Z82_ rfl rfl (a_q HT_.out (by kernel_rfl)) (fun _ _ _ h => h) (Or.inl ⟨by rfl,?_⟩) ?_ ?_
    rotate_left
    ·intro w'
     go_simp
     with_reducible rfl
    rotate_left
    ·simp only [Act.put,sa_,sb_,sc_,a_r,a_s]
     rfl
    refine a_x (i:=36) (N:=some 53) (v:=?_) (a':=?_) Z83_ rfl rfl (a_q HT_.out (by kernel_rfl)) (fun _ _ _ h => h) (Or.inl ⟨by rfl,?_⟩) ?_ ?_
    rotate_left
    ·intro w'
     go_simp
     with_reducible rfl
    rotate_left
    ·simp only [Act.put,sa_,sb_,sc_,a_r,a_s]
     rfl
    refine d_3 (c_U HT_.out (by kernel_rfl)) ?_
    try go_wp2
    go_ret
    exact ⟨by first|rfl|(simp [a_v,a_u] <;> rfl)|(simp only [← hji10];first|rfl|(simp [a_v,a_u] <;> rfl))|(simp [*, a_v,a_u] <;> rfl),by repeat (first|(with_reducible first|exact HB.out|apply a_g|apply a_b|apply a_h|refine a_f ?_ c_R.out|refine a_f ?_ d_a.out|refine a_f ?_ d_m.out)|exact HB.out)⟩
   rw [if_pos c27] at H
   have c27b0 : (t118 == ((a_d l0_1 x10_1).f9)) = true:=beq_iff_eq.mpr c27
   have c27b1 : (t118 != ((a_d l0_1 x10_1).f9)) = false:=bne_eq_false_iff_eq.mpr c27
   clear c27
   have H':=a_c.mk H
   clear H
   have p116 : 0 ≤ ((ji10) : Int):=of_decide_eq_true (by first|(with_reducible assumption)|assumption)
   have q116 : (ji10) < (l0_1.length : Int):=of_decide_eq_true (by first|(with_reducible assumption)|assumption)
   obtain ⟨ad116,e116,c_f,c_g,c_h,c_i,c_j,c_k,c_l,c_m,c_n,c_o,b_P⟩:=d_F d_h.out (ji10) p116 q116
   have b_D:=b_P
   have b_Q:=c_o
   have b_R:=c_n
   have b_S:=c_m
   have b_T:=c_l
   have b_U:=c_k
   have b_V:=c_j
   have b_W:=c_i
   have b_X:=c_h
   have b_Y:=c_g
   have b_Z:=c_f
   obtain rfl : ad112 = ad116:=(by injection e116)
   replace c_f:=(HB.out.cell (World.block_lt_of_cell? w _ c_f)).trans c_f
   replace c_g:=(HB.out.cell (World.block_lt_of_cell? w _ c_g)).trans c_g
   replace c_h:=(HB.out.cell (World.block_lt_of_cell? w _ c_h)).trans c_h
   replace c_i:=(HB.out.cell (World.block_lt_of_cell? w _ c_i)).trans c_i
   replace c_j:=(HB.out.cell (World.block_lt_of_cell? w _ c_j)).trans c_j
   replace c_k:=(HB.out.cell (World.block_lt_of_cell? w _ c_k)).trans c_k
   replace c_l:=(HB.out.cell (World.block_lt_of_cell? w _ c_l)).trans c_l
   replace c_m:=(HB.out.cell (World.block_lt_of_cell? w _ c_m)).trans c_m
   replace c_n:=(HB.out.cell (World.block_lt_of_cell? w _ c_n)).trans c_n
   replace c_o:=(HB.out.cell (World.block_lt_of_cell? w _ c_o)).trans c_o
   replace b_P:=(HB.out.cell (World.block_lt_of_cell? w _ b_P)).trans b_P
   replace p116:=eq_true p116
   replace q116:=eq_true q116
   refine d_n (n:=37) (S:=fun w' => w'.cell? ⟨a_X,0,none⟩ = some (.int .i64 ((a_d l0_1 x10_1).f0)) ∧ w'.cell? ⟨a_X,1,none⟩ = some (.int .i64 ((a_d l0_1 x10_1).f1)) ∧ w'.cell? ⟨a_X,2,none⟩ = some (.int .i64 ((a_d l0_1 x10_1).f2)) ∧ w'.cell? ⟨a_X,3,none⟩ = some (.int .i64 ((a_d l0_1 x10_1).f3)) ∧ w'.cell? ⟨a_X,4,none⟩ = some (.int .i64 ((a_d l0_1 x10_1).f4)) ∧ w'.cell? ⟨a_X,5,none⟩ = some (.bool ((a_d l0_1 x10_1).f5)) ∧ w'.cell? ⟨a_X,6,none⟩ = some (.bool ((a_d l0_1 x10_1).f6)) ∧ w'.cell? ⟨a_X,7,none⟩ = some (.int .u32 ((a_d l0_1 x10_1).f7)) ∧ w'.cell? ⟨a_X,8,none⟩ = some (.int .i64 ((a_d l0_1 x10_1).f8)) ∧ w'.cell? ⟨a_X,9,none⟩ = some (.int .i64 ((a_d l0_1 x10_1).f9)) ∧ w'.cell? ⟨a_X,10,none⟩ = some (.int .i64 ((a_d l0_1 x10_1).f10)) ∧ w'.cell? ⟨c_5,0,none⟩ = some (.int .i64 a0_0) ∧ w'.cell? ⟨c_5,1,none⟩ = some (.slice (some ad112) l0_1.length c0_1) ∧ w'.cell? ⟨d_l,0,none⟩ = some (.func (.func 51) #[] #[.pointer (some ⟨a_X,0,none⟩)]) ∧ w'.cell? (ad112.add (((ji10)).toNat * 11)) = some (.int .i64 ((a_d l0_1 (ji10)).f0)) ∧ w'.cell? ⟨(ad112.add (((ji10)).toNat * 11)).block,(ad112.add (((ji10)).toNat * 11)).off + 1,none⟩ = some (.int .i64 ((a_d l0_1 (ji10)).f1)) ∧ w'.cell? ⟨(ad112.add (((ji10)).toNat * 11)).block,(ad112.add (((ji10)).toNat * 11)).off + 2,none⟩ = some (.int .i64 ((a_d l0_1 (ji10)).f2)) ∧ w'.cell? ⟨(ad112.add (((ji10)).toNat * 11)).block,(ad112.add (((ji10)).toNat * 11)).off + 3,none⟩ = some (.int .i64 ((a_d l0_1 (ji10)).f3)) ∧ w'.cell? ⟨(ad112.add (((ji10)).toNat * 11)).block,(ad112.add (((ji10)).toNat * 11)).off + 4,none⟩ = some (.int .i64 ((a_d l0_1 (ji10)).f4)) ∧ w'.cell? ⟨(ad112.add (((ji10)).toNat * 11)).block,(ad112.add (((ji10)).toNat * 11)).off + 5,none⟩ = some (.bool ((a_d l0_1 (ji10)).f5)) ∧ w'.cell? ⟨(ad112.add (((ji10)).toNat * 11)).block,(ad112.add (((ji10)).toNat * 11)).off + 6,none⟩ = some (.bool ((a_d l0_1 (ji10)).f6)) ∧ w'.cell? ⟨(ad112.add (((ji10)).toNat * 11)).block,(ad112.add (((ji10)).toNat * 11)).off + 7,none⟩ = some (.int .u32 ((a_d l0_1 (ji10)).f7)) ∧ w'.cell? ⟨(ad112.add (((ji10)).toNat * 11)).block,(ad112.add (((ji10)).toNat * 11)).off + 8,none⟩ = some (.int .i64 ((a_d l0_1 (ji10)).f8)) ∧ w'.cell? ⟨(ad112.add (((ji10)).toNat * 11)).block,(ad112.add (((ji10)).toNat * 11)).off + 9,none⟩ = some (.int .i64 ((a_d l0_1 (ji10)).f9)) ∧ w'.cell? ⟨(ad112.add (((ji10)).toNat * 11)).block,(ad112.add (((ji10)).toNat * 11)).off + 10,none⟩ = some (.int .i64 ((a_d l0_1 (ji10)).f10))) (ds:=[]) Z0_ (by kernel_rfl) rfl rfl ⟨(a_a a_w.out 0).trans rfl,(a_a a_w.out 1).trans rfl,(a_a a_w.out 2).trans rfl,(a_a a_w.out 3).trans rfl,(a_a a_w.out 4).trans rfl,(a_a a_w.out 5).trans rfl,(a_a a_w.out 6).trans rfl,(a_a a_w.out 7).trans rfl,(a_a a_w.out 8).trans rfl,(a_a a_w.out 9).trans rfl,(a_a a_w.out 10).trans rfl,(a_a a_5.out 0).trans rfl,(a_a a_5.out 1).trans rfl,(a_a b_A.out 0).trans rfl,((HB.out.cell (World.block_lt_of_cell? w _ b_Z)).trans b_Z),((HB.out.cell (World.block_lt_of_cell? w _ b_Y)).trans b_Y),((HB.out.cell (World.block_lt_of_cell? w _ b_X)).trans b_X),((HB.out.cell (World.block_lt_of_cell? w _ b_W)).trans b_W),((HB.out.cell (World.block_lt_of_cell? w _ b_V)).trans b_V),((HB.out.cell (World.block_lt_of_cell? w _ b_U)).trans b_U),((HB.out.cell (World.block_lt_of_cell? w _ b_T)).trans b_T),((HB.out.cell (World.block_lt_of_cell? w _ b_S)).trans b_S),((HB.out.cell (World.block_lt_of_cell? w _ b_R)).trans b_R),((HB.out.cell (World.block_lt_of_cell? w _ b_Q)).trans b_Q),((HB.out.cell (World.block_lt_of_cell? w _ b_D)).trans b_D)⟩ (fun hHeld => ?_);refine b_9 a_y.tab6 a_y.e_r (fun HT_ HW_ => ?_)
   generalize w21.drew = w36 at a_5 a_w b_A HB c_f c_g b_P c_h c_i c_j c_k c_l c_m c_n c_o hHeld ⊢
   refine b_F (i:=0) (N:=some 17) (v:=?_) (a':=?_) Z2_ rfl rfl (a_Q HT_.out HW_.out (by kernel_rfl)) (fun _ _ _ h => h) (Or.inl ⟨by rfl,?_⟩) hHeld ?_ ?_
   rotate_left
   ·rintro w' ⟨s0,s1,s2,s3,s4,s5,s6,s7,s8,s9,s10,s11,s12,s13,s14,s15,s16,s17,s18,s19,s20,s21,s22,s23,s24⟩
    go_simp
    with_reducible rfl
   rotate_left
   ·simp only [Act.put,sa_,sb_,sc_,a_r,a_s]
    rfl
   refine one_ (i:=1) (N:=some 18) Z4_ rfl rfl (c_B HT_.out (by kernel_rfl)) (by decide) (fun K hK => ?_)
   refine d_w Try.func53 (by kernel_rfl) rfl #[.agg #[.int .i64 ((a_d l0_1 x10_1).f0),.int .i64 ((a_d l0_1 x10_1).f1),.int .i64 ((a_d l0_1 x10_1).f2),.int .i64 ((a_d l0_1 x10_1).f3),.int .i64 ((a_d l0_1 x10_1).f4),.bool ((a_d l0_1 x10_1).f5),.bool ((a_d l0_1 x10_1).f6),.int .u32 ((a_d l0_1 x10_1).f7),.int .i64 ((a_d l0_1 x10_1).f8),.int .i64 ((a_d l0_1 x10_1).f9),.int .i64 ((a_d l0_1 x10_1).f10)]] (by rfl) rfl rfl (by (try simp only [List.map_toArray,List.map_cons,List.map_nil]);first|done|rfl|(simp only [List.length_drop,List.length_take];rfl)) ?_
   with_reducible refine (a_K.calls k1 ((a_d l0_1 x10_1).f0) ((a_d l0_1 x10_1).f1) ((a_d l0_1 x10_1).f2) ((a_d l0_1 x10_1).f3) ((a_d l0_1 x10_1).f4) ((a_d l0_1 x10_1).f5) ((a_d l0_1 x10_1).f6) ((a_d l0_1 x10_1).f7) ((a_d l0_1 x10_1).f8) ((a_d l0_1 x10_1).f9) ((a_d l0_1 x10_1).f10) true _ A7.out).mono ?_
   rintro e w37 ⟨rfl,hb⟩
   refine ⟨_,rfl,?_⟩
   replace a_5:=a_c.mk (a_m (bup_ a_5.out) hb)
   replace a_w:=a_c.mk (a_m (bup_ a_w.out) hb)
   replace b_A:=a_c.mk (a_m (bup_ b_A.out) hb)
   replace HB:=a_c.mk (a_o (by repeat (first|(with_reducible first|exact HB.out|apply a_g|apply a_b|apply a_h|refine a_f ?_ c_R.out|refine a_f ?_ d_a.out|refine a_f ?_ d_m.out)|exact HB.out)) hb)
   (try clear hb)
   (try clear hb2)
   (try clear hk)
   (try clear hi)
   refine hK.out _ _ ⟨(a_a a_w.out 0).trans rfl,(a_a a_w.out 1).trans rfl,(a_a a_w.out 2).trans rfl,(a_a a_w.out 3).trans rfl,(a_a a_w.out 4).trans rfl,(a_a a_w.out 5).trans rfl,(a_a a_w.out 6).trans rfl,(a_a a_w.out 7).trans rfl,(a_a a_w.out 8).trans rfl,(a_a a_w.out 9).trans rfl,(a_a a_w.out 10).trans rfl,(a_a a_5.out 0).trans rfl,(a_a a_5.out 1).trans rfl,(a_a b_A.out 0).trans rfl,((HB.out.cell (World.block_lt_of_cell? w _ b_Z)).trans b_Z),((HB.out.cell (World.block_lt_of_cell? w _ b_Y)).trans b_Y),((HB.out.cell (World.block_lt_of_cell? w _ b_X)).trans b_X),((HB.out.cell (World.block_lt_of_cell? w _ b_W)).trans b_W),((HB.out.cell (World.block_lt_of_cell? w _ b_V)).trans b_V),((HB.out.cell (World.block_lt_of_cell? w _ b_U)).trans b_U),((HB.out.cell (World.block_lt_of_cell? w _ b_T)).trans b_T),((HB.out.cell (World.block_lt_of_cell? w _ b_S)).trans b_S),((HB.out.cell (World.block_lt_of_cell? w _ b_R)).trans b_R),((HB.out.cell (World.block_lt_of_cell? w _ b_Q)).trans b_Q),((HB.out.cell (World.block_lt_of_cell? w _ b_D)).trans b_D)⟩ (fun hHeld => ?_)
   clear hK K
   refine d_k (a':=?_) ?_ ?_
   rotate_left
   ·show Act.put _ (some 18) _ = _
    simp only [Act.put,sa_,sb_,sc_,a_r,a_s]
    rfl
   refine a_x (i:=2) (N:=some 19) (v:=?_) (a':=?_) Z6_ rfl rfl (a_q HT_.out (by kernel_rfl)) (fun _ _ _ h => h) (Or.inl ⟨by rfl,?_⟩) ?_ ?_
   rotate_left
   ·intro w'
    go_simp
    with_reducible rfl
   rotate_left
   ·simp only [Act.put,sa_,sb_,sc_,a_r,a_s]
    rfl
   refine a_x (i:=3) (N:=some 20) (v:=?_) (a':=?_) Z8_ rfl rfl (a_q HT_.out (by kernel_rfl)) (fun _ _ _ h => h) (Or.inl ⟨by rfl,?_⟩) ?_ ?_
   rotate_left
   ·intro w'
    go_simp
    with_reducible rfl
   rotate_left
   ·simp only [Act.put,sa_,sb_,sc_,a_r,a_s]
    rfl
   refine a_x (i:=4) (N:=some 21) (v:=?_) (a':=?_) Z10_ rfl rfl (a_q HT_.out (by kernel_rfl)) (fun _ _ _ h => h) (Or.inl ⟨by rfl,?_⟩) ?_ ?_
   rotate_left
   ·intro w'
    go_simp
    with_reducible rfl
   rotate_left
   ·simp only [Act.put,sa_,sb_,sc_,a_r,a_s]
    rfl
   refine a_x (i:=5) (N:=some 22) (v:=?_) (a':=?_) Z13_ rfl rfl (a_q HT_.out (by kernel_rfl)) (fun _ _ _ h => h) (Or.inl ⟨by rfl,?_⟩) ?_ ?_
   rotate_left
   ·intro w'
    go_simp
    with_reducible rfl
   rotate_left
   ·simp only [Act.put,sa_,sb_,sc_,a_r,a_s]
    rfl
   refine a_x (i:=6) (N:=some 23) (v:=?_) (a':=?_) Z14_ rfl rfl (a_q HT_.out (by kernel_rfl)) (fun _ _ _ h => h) (Or.inl ⟨by rfl,?_⟩) ?_ ?_
   rotate_left
   ·intro w'
    go_simp
    with_reducible rfl
   rotate_left
   ·simp only [Act.put,sa_,sb_,sc_,a_r,a_s]
    rfl
   refine a_x (i:=7) (N:=some 24) (v:=?_) (a':=?_) Z16_ rfl rfl (a_q HT_.out (by kernel_rfl)) (fun _ _ _ h => h) (Or.inl ⟨by rfl,?_⟩) ?_ ?_
   rotate_left
   ·intro w'
    go_simp
    with_reducible rfl
   rotate_left
   ·simp only [Act.put,sa_,sb_,sc_,a_r,a_s]
    rfl
   refine a_x (i:=9) (N:=some 26) (v:=?_) (a':=?_) Z18_ rfl rfl (a_q HT_.out (by kernel_rfl)) (fun _ _ _ h => h) (Or.inl ⟨by rfl,?_⟩) ?_ ?_
   rotate_left
   ·intro w'
    go_simp
    with_reducible rfl
   rotate_left
   ·simp only [Act.put,sa_,sb_,sc_,a_r,a_s]
    rfl
   refine a_x (i:=10) (N:=some 27) (v:=?_) (a':=?_) Z19_ rfl rfl (a_q HT_.out (by kernel_rfl)) (fun _ _ _ h => h) (Or.inl ⟨by rfl,?_⟩) ?_ ?_
   rotate_left
   ·intro w'
    go_simp
    with_reducible rfl
   rotate_left
   ·simp only [Act.put,sa_,sb_,sc_,a_r,a_s]
    rfl
   refine a_x (i:=14) (N:=some 31) (v:=?_) (a':=?_) Z20_ rfl rfl (a_q HT_.out (by kernel_rfl)) (fun _ _ _ h => h) (Or.inl ⟨by rfl,?_⟩) ?_ ?_
   rotate_left
   ·intro w'
    go_simp
    with_reducible rfl
   rotate_left
   ·simp only [Act.put,sa_,sb_,sc_,a_r,a_s]
    rfl
   refine b_F (i:=8) (N:=some 25) (v:=?_) (a':=?_) Z27_ rfl rfl (a_Q HT_.out HW_.out (by kernel_rfl)) (fun _ _ _ h => h) (Or.inl ⟨by rfl,?_⟩) hHeld ?_ ?_
   rotate_left
   ·rintro w' ⟨s0,s1,s2,s3,s4,s5,s6,s7,s8,s9,s10,s11,s12,s13,s14,s15,s16,s17,s18,s19,s20,s21,s22,s23,s24⟩
    go_simp
    with_reducible rfl
   rotate_left
   ·simp only [Act.put,sa_,sb_,sc_,a_r,a_s]
    rfl
   refine a_x (i:=11) (N:=some 28) (v:=?_) (a':=?_) Z30_ rfl rfl (a_q HT_.out (by kernel_rfl)) (fun _ _ _ h => h) (Or.inl ⟨by rfl,?_⟩) ?_ ?_
   rotate_left
   ·intro w'
    go_simp
    with_reducible rfl
   rotate_left
   ·simp only [Act.put,sa_,sb_,sc_,a_r,a_s]
    rfl
   refine a_x (i:=12) (N:=some 29) (v:=?_) (a':=?_) Z33_ rfl rfl (a_q HT_.out (by kernel_rfl)) (fun _ _ _ h => h) (Or.inl ⟨by rfl,?_⟩) ?_ ?_
   rotate_left
   ·intro w'
    go_simp
    with_reducible rfl
   rotate_left
   ·simp only [Act.put,sa_,sb_,sc_,a_r,a_s]
    rfl
   refine b_F (i:=13) (N:=some 30) (v:=?_) (a':=?_) Z36_ rfl rfl (a_Q HT_.out HW_.out (by kernel_rfl)) (fun _ _ _ h => h) (Or.inl ⟨by rfl,?_⟩) hHeld ?_ ?_
   rotate_left
   ·rintro w' ⟨s0,s1,s2,s3,s4,s5,s6,s7,s8,s9,s10,s11,s12,s13,s14,s15,s16,s17,s18,s19,s20,s21,s22,s23,s24⟩
    go_simp
    with_reducible rfl
   rotate_left
   ·simp only [Act.put,sa_,sb_,sc_,a_r,a_s]
    rfl
   refine b_F (i:=15) (N:=some 32) (v:=?_) (a':=?_) Z41_ rfl rfl (a_Q HT_.out HW_.out (by kernel_rfl)) (fun _ _ _ h => h) (Or.inl ⟨by rfl,?_⟩) hHeld ?_ ?_
   rotate_left
   ·rintro w' ⟨s0,s1,s2,s3,s4,s5,s6,s7,s8,s9,s10,s11,s12,s13,s14,s15,s16,s17,s18,s19,s20,s21,s22,s23,s24⟩
    go_simp
    with_reducible rfl
   rotate_left
   ·simp only [Act.put,sa_,sb_,sc_,a_r,a_s]
    rfl
   refine a_x (i:=16) (N:=some 33) (v:=?_) (a':=?_) Z43_ rfl rfl (a_q HT_.out (by kernel_rfl)) (fun _ _ _ h => h) (Or.inl ⟨by rfl,?_⟩) ?_ ?_
   rotate_left
   ·intro w'
    go_simp
    with_reducible rfl
   rotate_left
   ·simp only [Act.put,sa_,sb_,sc_,a_r,a_s]
    rfl
   refine a_x (i:=17) (N:=some 34) (v:=?_) (a':=?_) Z45_ rfl rfl (a_q HT_.out (by kernel_rfl)) (fun _ _ _ h => h) (Or.inl ⟨by rfl,?_⟩) ?_ ?_
   rotate_left
   ·intro w'
    go_simp
    with_reducible rfl
   rotate_left
   ·simp only [Act.put,sa_,sb_,sc_,a_r,a_s]
    rfl
   refine a_x (i:=18) (N:=some 35) (v:=?_) (a':=?_) Z48_ rfl rfl (a_q HT_.out (by kernel_rfl)) (fun _ _ _ h => h) (Or.inl ⟨by rfl,?_⟩) ?_ ?_
   rotate_left
   ·intro w'
    go_simp
    with_reducible rfl
   rotate_left
   ·simp only [Act.put,sa_,sb_,sc_,a_r,a_s]
    rfl
   refine a_x (i:=19) (N:=some 36) (v:=?_) (a':=?_) Z51_ rfl rfl (a_q HT_.out (by kernel_rfl)) (fun _ _ _ h => h) (Or.inl ⟨by rfl,?_⟩) ?_ ?_
   rotate_left
   ·intro w'
    go_simp
    with_reducible rfl
   rotate_left
   ·simp only [Act.put,sa_,sb_,sc_,a_r,a_s]
    rfl
   refine a_x (i:=20) (N:=some 37) (v:=?_) (a':=?_) Z54_ rfl rfl (a_q HT_.out (by kernel_rfl)) (fun _ _ _ h => h) (Or.inl ⟨by rfl,?_⟩) ?_ ?_
   rotate_left
   ·intro w'
    go_simp
    with_reducible rfl
   rotate_left
   ·simp only [Act.put,sa_,sb_,sc_,a_r,a_s]
    rfl
   refine a_x (i:=24) (N:=some 41) (v:=?_) (a':=?_) Z56_ rfl rfl (a_q HT_.out (by kernel_rfl)) (fun _ _ _ h => h) (Or.inl ⟨by rfl,?_⟩) ?_ ?_
   rotate_left
   ·intro w'
    go_simp
    with_reducible rfl
   rotate_left
   ·simp only [Act.put,sa_,sb_,sc_,a_r,a_s]
    rfl
   refine b_F (i:=21) (N:=some 38) (v:=?_) (a':=?_) Z59_ rfl rfl (a_Q HT_.out HW_.out (by kernel_rfl)) (fun _ _ _ h => h) (Or.inl ⟨by rfl,?_⟩) hHeld ?_ ?_
   rotate_left
   ·rintro w' ⟨s0,s1,s2,s3,s4,s5,s6,s7,s8,s9,s10,s11,s12,s13,s14,s15,s16,s17,s18,s19,s20,s21,s22,s23,s24⟩
    go_simp
    with_reducible rfl
   rotate_left
   ·simp only [Act.put,sa_,sb_,sc_,a_r,a_s]
    rfl
   refine b_F (i:=22) (N:=some 39) (v:=?_) (a':=?_) Z62_ rfl rfl (a_Q HT_.out HW_.out (by kernel_rfl)) (fun _ _ _ h => h) (Or.inl ⟨by rfl,?_⟩) hHeld ?_ ?_
   rotate_left
   ·rintro w' ⟨s0,s1,s2,s3,s4,s5,s6,s7,s8,s9,s10,s11,s12,s13,s14,s15,s16,s17,s18,s19,s20,s21,s22,s23,s24⟩
    go_simp
    with_reducible rfl
   rotate_left
   ·simp only [Act.put,sa_,sb_,sc_,a_r,a_s]
    rfl
   refine b_F (i:=25) (N:=some 42) (v:=?_) (a':=?_) Z63_ rfl rfl (a_Q HT_.out HW_.out (by kernel_rfl)) (fun _ _ _ h => h) (Or.inl ⟨by rfl,?_⟩) hHeld ?_ ?_
   rotate_left
   ·rintro w' ⟨s0,s1,s2,s3,s4,s5,s6,s7,s8,s9,s10,s11,s12,s13,s14,s15,s16,s17,s18,s19,s20,s21,s22,s23,s24⟩
    go_simp
    with_reducible rfl
   rotate_left
   ·simp only [Act.put,sa_,sb_,sc_,a_r,a_s]
    rfl
   refine one_ (i:=23) (N:=some 40) Z68_ rfl rfl (c_B HT_.out (by kernel_rfl)) (by decide) (fun K hK => ?_)
   refine d_w Try.func38 (by kernel_rfl) rfl #[.slice (some ad112) l0_1.length c0_1,.func (.func 51) #[] #[.pointer (some ⟨a_X,0,none⟩)]] (by rfl) rfl rfl (by (try simp only [List.map_toArray,List.map_cons,List.map_nil]);first|done|rfl|(simp only [List.length_drop,List.length_take];rfl)) ?_
   with_reducible refine (a_4.calls _ _ l0_1 a_X ((a_d l0_1 x10_1).f0) ((a_d l0_1 x10_1).f1) ((a_d l0_1 x10_1).f2) ((a_d l0_1 x10_1).f3) ((a_d l0_1 x10_1).f4) ((a_d l0_1 x10_1).f5) ((a_d l0_1 x10_1).f6) ((a_d l0_1 x10_1).f7) ((a_d l0_1 x10_1).f8) ((a_d l0_1 x10_1).f9) ((a_d l0_1 x10_1).f10) t117 _ ?side1 ?side2 ?side3 A24.out).mono ?_
   (case side1 => repeat (first|exact (Kd.a_U d_h.out HB.out)|(with_reducible refine Kd.a_8 ?_ _)|(with_reducible refine Kd.a_7 ?_ _)|(with_reducible refine Kd.b_t ?_)))
   (case side2 => exact e_e.out)
   (case side3 => exact (bup_ a_w.out))
   rintro e w38 ⟨rfl,hb⟩
   refine ⟨_,rfl,?_⟩
   replace a_5:=a_c.mk (a_m (bup_ a_5.out) hb)
   replace a_w:=a_c.mk (a_m (bup_ a_w.out) hb)
   replace b_A:=a_c.mk (a_m (bup_ b_A.out) hb)
   replace HB:=a_c.mk (a_o (by repeat (first|(with_reducible first|exact HB.out|apply a_g|apply a_b|apply a_h|refine a_f ?_ c_R.out|refine a_f ?_ d_a.out|refine a_f ?_ d_m.out)|exact HB.out)) hb)
   (try clear hb)
   (try clear hb2)
   (try clear hk)
   (try clear hi)
   refine hK.out _ _ ⟨(a_a a_w.out 0).trans rfl,(a_a a_w.out 1).trans rfl,(a_a a_w.out 2).trans rfl,(a_a a_w.out 3).trans rfl,(a_a a_w.out 4).trans rfl,(a_a a_w.out 5).trans rfl,(a_a a_w.out 6).trans rfl,(a_a a_w.out 7).trans rfl,(a_a a_w.out 8).trans rfl,(a_a a_w.out 9).trans rfl,(a_a a_w.out 10).trans rfl,(a_a a_5.out 0).trans rfl,(a_a a_5.out 1).trans rfl,(a_a b_A.out 0).trans rfl,((HB.out.cell (World.block_lt_of_cell? w _ b_Z)).trans b_Z),((HB.out.cell (World.block_lt_of_cell? w _ b_Y)).trans b_Y),((HB.out.cell (World.block_lt_of_cell? w _ b_X)).trans b_X),((HB.out.cell (World.block_lt_of_cell? w _ b_W)).trans b_W),((HB.out.cell (World.block_lt_of_cell? w _ b_V)).trans b_V),((HB.out.cell (World.block_lt_of_cell? w _ b_U)).trans b_U),((HB.out.cell (World.block_lt_of_cell? w _ b_T)).trans b_T),((HB.out.cell (World.block_lt_of_cell? w _ b_S)).trans b_S),((HB.out.cell (World.block_lt_of_cell? w _ b_R)).trans b_R),((HB.out.cell (World.block_lt_of_cell? w _ b_Q)).trans b_Q),((HB.out.cell (World.block_lt_of_cell? w _ b_D)).trans b_D)⟩ (fun hHeld => ?_)
   clear hK K
   refine d_k (a':=?_) ?_ ?_
   rotate_left
   ·show Act.put _ (some 40) _ = _
    simp only [Act.put,sa_,sb_,sc_,a_r,a_s]
    rfl
   refine a_x (i:=26) (N:=some 43) (v:=?_) (a':=?_) Z69_ rfl rfl (a_q HT_.out (by kernel_rfl)) (fun _ _ _ h => h) (Or.inl ⟨by rfl,?_⟩) ?_ ?_
   rotate_left
   ·intro w'
    go_simp
    with_reducible rfl
   rotate_left
   ·simp only [Act.put,sa_,sb_,sc_,a_r,a_s]
    rfl
   refine a_x (i:=27) (N:=some 44) (v:=?_) (a':=?_) Z70_ rfl rfl (a_q HT_.out (by kernel_rfl)) (fun _ _ _ h => h) (Or.inl ⟨by rfl,?_⟩) ?_ ?_
   rotate_left
   ·intro w'
    go_simp
    with_reducible rfl
   rotate_left
   ·simp only [Act.put,sa_,sb_,sc_,a_r,a_s]
    rfl
   refine a_x (i:=28) (N:=some 45) (v:=?_) (a':=?_) Z71_ rfl rfl (a_q HT_.out (by kernel_rfl)) (fun _ _ _ h => h) (Or.inl ⟨by rfl,?_⟩) ?_ ?_
   rotate_left
   ·intro w'
    go_simp
    with_reducible rfl
   rotate_left
   ·simp only [Act.put,sa_,sb_,sc_,a_r,a_s]
    rfl
   refine a_x (i:=29) (N:=some 46) (v:=?_) (a':=?_) Z72_ rfl rfl (a_q HT_.out (by kernel_rfl)) (fun _ _ _ h => h) (Or.inl ⟨by rfl,?_⟩) ?_ ?_
   rotate_left
   ·intro w'
    go_simp
    with_reducible rfl
   rotate_left
   ·simp only [Act.put,sa_,sb_,sc_,a_r,a_s]
    rfl
   refine a_x (i:=31) (N:=some 48) (v:=?_) (a':=?_) Z73_ rfl rfl (a_q HT_.out (by kernel_rfl)) (fun _ _ _ h => h) (Or.inl ⟨by rfl,?_⟩) ?_ ?_
   rotate_left
   ·intro w'
    go_simp
    with_reducible rfl
   rotate_left
   ·simp only [Act.put,sa_,sb_,sc_,a_r,a_s]
    rfl
   refine a_x (i:=33) (N:=some 50) (v:=?_) (a':=?_) Z74_ rfl rfl (a_q HT_.out (by kernel_rfl)) (fun _ _ _ h => h) (Or.inl ⟨by rfl,?_⟩) ?_ ?_
   rotate_left
   ·intro w'
    go_simp
    with_reducible rfl
   rotate_left
   ·simp only [Act.put,sa_,sb_,sc_,a_r,a_s]
    rfl
   refine b_F (i:=30) (N:=some 47) (v:=?_) (a':=?_) Z77_ rfl rfl (a_Q HT_.out HW_.out (by kernel_rfl)) (fun _ _ _ h => h) (Or.inl ⟨by rfl,?_⟩) hHeld ?_ ?_
   rotate_left
   ·rintro w' ⟨s0,s1,s2,s3,s4,s5,s6,s7,s8,s9,s10,s11,s12,s13,s14,s15,s16,s17,s18,s19,s20,s21,s22,s23,s24⟩
    go_simp
    with_reducible rfl
   rotate_left
   ·simp only [Act.put,sa_,sb_,sc_,a_r,a_s]
    rfl
   refine b_F (i:=34) (N:=some 51) (v:=?_) (a':=?_) Z78_ rfl rfl (a_Q HT_.out HW_.out (by kernel_rfl)) (fun _ _ _ h => h) (Or.inl ⟨by rfl,?_⟩) hHeld ?_ ?_
   rotate_left
   ·rintro w' ⟨s0,s1,s2,s3,s4,s5,s6,s7,s8,s9,s10,s11,s12,s13,s14,s15,s16,s17,s18,s19,s20,s21,s22,s23,s24⟩
    go_simp
    with_reducible rfl
   rotate_left
   ·simp only [Act.put,sa_,sb_,sc_,a_r,a_s]
    rfl
   refine one_ (i:=32) (N:=some 49) Z81_ rfl rfl (c_B HT_.out (by kernel_rfl)) (by decide) (fun K hK => ?_)
   refine d_w Try.func38 (by kernel_rfl) rfl #[.slice (some ad112) l0_1.length c0_1,.func (.func 52) #[] #[.pointer (some ⟨d_l,0,none⟩),.pointer (some ⟨a_X,0,none⟩)]] (by rfl) rfl rfl (by (try simp only [List.map_toArray,List.map_cons,List.map_nil]);first|done|rfl|(simp only [List.length_drop,List.length_take];rfl)) ?_
   with_reducible refine (a_2.calls _ _ l0_1 d_l a_X a_X ((a_d l0_1 x10_1).f0) ((a_d l0_1 x10_1).f1) ((a_d l0_1 x10_1).f2) ((a_d l0_1 x10_1).f3) ((a_d l0_1 x10_1).f4) ((a_d l0_1 x10_1).f5) ((a_d l0_1 x10_1).f6) ((a_d l0_1 x10_1).f7) ((a_d l0_1 x10_1).f8) ((a_d l0_1 x10_1).f9) ((a_d l0_1 x10_1).f10) ((a_d l0_1 x10_1).f0) ((a_d l0_1 x10_1).f1) ((a_d l0_1 x10_1).f2) ((a_d l0_1 x10_1).f3) ((a_d l0_1 x10_1).f4) ((a_d l0_1 x10_1).f5) ((a_d l0_1 x10_1).f6) ((a_d l0_1 x10_1).f7) ((a_d l0_1 x10_1).f8) ((a_d l0_1 x10_1).f9) ((a_d l0_1 x10_1).f10) t118 _ ?side1 ?side2 ?side3 ?side4 ?side5 A26.out).mono ?_
   (case side1 => repeat (first|exact (Kd.a_U d_h.out HB.out)|(with_reducible refine Kd.a_8 ?_ _)|(with_reducible refine Kd.a_7 ?_ _)|(with_reducible refine Kd.b_t ?_)))
   (case side2 => exact e_e.out)
   (case side3 => exact (bup_ b_A.out))
   (case side4 => exact (bup_ a_w.out))
   (case side5 => exact (bup_ a_w.out))
   rintro e w39 ⟨rfl,hb⟩
   refine ⟨_,rfl,?_⟩
   replace a_5:=a_c.mk (a_m (bup_ a_5.out) hb)
   replace a_w:=a_c.mk (a_m (bup_ a_w.out) hb)
   replace b_A:=a_c.mk (a_m (bup_ b_A.out) hb)
   replace HB:=a_c.mk (a_o (by repeat (first|(with_reducible first|exact HB.out|apply a_g|apply a_b|apply a_h|refine a_f ?_ c_R.out|refine a_f ?_ d_a.out|refine a_f ?_ d_m.out)|exact HB.out)) hb)
   (try clear hb)
   (try clear hb2)
   (try clear hk)
   (try clear hi)
   refine hK.out _ _ ⟨(a_a a_w.out 0).trans rfl,(a_a a_w.out 1).trans rfl,(a_a a_w.out 2).trans rfl,(a_a a_w.out 3).trans rfl,(a_a a_w.out 4).trans rfl,(a_a a_w.out 5).trans rfl,(a_a a_w.out 6).trans rfl,(a_a a_w.out 7).trans rfl,(a_a a_w.out 8).trans rfl,(a_a a_w.out 9).trans rfl,(a_a a_w.out 10).trans rfl,(a_a a_5.out 0).trans rfl,(a_a a_5.out 1).trans rfl,(a_a b_A.out 0).trans rfl,((HB.out.cell (World.block_lt_of_cell? w _ b_Z)).trans b_Z),((HB.out.cell (World.block_lt_of_cell? w _ b_Y)).trans b_Y),((HB.out.cell (World.block_lt_of_cell? w _ b_X)).trans b_X),((HB.out.cell (World.block_lt_of_cell? w _ b_W)).trans b_W),((HB.out.cell (World.block_lt_of_cell? w _ b_V)).trans b_V),((HB.out.cell (World.block_lt_of_cell? w _ b_U)).trans b_U),((HB.out.cell (World.block_lt_of_cell? w _ b_T)).trans b_T),((HB.out.cell (World.block_lt_of_cell? w _ b_S)).trans b_S),((HB.out.cell (World.block_lt_of_cell? w _ b_R)).trans b_R),((HB.out.cell (World.block_lt_of_cell? w _ b_Q)).trans b_Q),((HB.out.cell (World.block_lt_of_cell? w _ b_D)).trans b_D)⟩ (fun hHeld => ?_)
   clear hK K
   refine d_k (a':=?_) ?_ ?_
   rotate_left
   ·show Act.put _ (some 49) _ = _
    simp only [Act.put,sa_,sb_,sc_,a_r,a_s]
    rfl
   refine a_x (i:=35) (N:=some 52) (v:=?_) (a':=?_) Z82_ rfl rfl (a_q HT_.out (by kernel_rfl)) (fun _ _ _ h => h) (Or.inl ⟨by rfl,?_⟩) ?_ ?_
   rotate_left
   ·intro w'
    go_simp
    with_reducible rfl
   rotate_left
   ·simp only [Act.put,sa_,sb_,sc_,a_r,a_s]
    rfl
   refine a_x (i:=36) (N:=some 53) (v:=?_) (a':=?_) Z83_ rfl rfl (a_q HT_.out (by kernel_rfl)) (fun _ _ _ h => h) (Or.inl ⟨by rfl,?_⟩) ?_ ?_
   rotate_left
   ·intro w'
    go_simp
    with_reducible rfl
   rotate_left
   ·simp only [Act.put,sa_,sb_,sc_,a_r,a_s]
    rfl
   refine d_3 (c_U HT_.out (by kernel_rfl)) ?_
   try go_wp2
   go_roundg k1
   case measure => have:=HK1.out;omega
   case rel => exact ⟨(wrap64 (x10_1 + 1)),(by first|rfl|(simp;done)|(simp [*];done)),H',⟨by have:=HK1.out;omega⟩,⟨by (with_reducible repeat (first|refine a_j ?_ _|refine a_l ?_|refine a_i ?_ _));exact a_5.out⟩,⟨by repeat (first|(with_reducible first|exact HB.out|apply a_g|apply a_b|apply a_h|refine a_f ?_ c_R.out|refine a_f ?_ d_a.out|refine a_f ?_ d_m.out)|exact HB.out)⟩⟩
end Go.Proofs.Ytgglkfilkagblaa.Q
end
