/- Part 4 of 11 of what the row of AuditOne stands on: contracts over the given program's functions, the plain law, the row; no condition beyond those that each theorem states. -/
import Derived.Test.YtgglkfilkagblaaDoorXAuditOne2
section
namespace Go.Proofs.YtgglkfilkagblaaDoor.Q
open Go.RowKit Go.Proofs.YtgglkfilkagblaaDoorW.PrintWords Go.Proofs.YtgglkfilkagblaaDoorW.PrintLast Go.Proofs.YtgglkfilkagblaaDoorW.PrintMore
set_option linter.unusedVariables false
set_option linter.unusedSimpArgs false
def a_t.l0 : Nat → List (S33) → Int → Int → Int → List (S33) → Option (Bool)
 | 0,_,_,_,_,_ => none
 | k + 1,x8,x9,x10,x112000,x112001 => if x10 < x9 then (if 0 ≤ x10 then (if x10 < (x8.length : Int) then ((a_D.f k ((a_a x8 x10).f0) ((a_a x8 x10).f1) ((a_a x8 x10).f2) ((a_a x8 x10).f3) ((a_a x8 x10).f4) ((a_a x8 x10).f5) ((a_a x8 x10).f6) ((a_a x8 x10).f7) ((a_a x8 x10).f8) ((a_a x8 x10).f9) ((a_a x8 x10).f10)).bind fun t115 => (if t115 = true then (if x10 > 0 then (if 0 ≤ (wrap64 (x10 - 1)) then (if (wrap64 (x10 - 1)) < (x112001.length : Int) then (if ((a_a x112001 (wrap64 (x10 - 1))).f0) ≥ ((a_a x8 x10).f0) then (some false) else ((a_X.f x112001 ((a_a x8 x10).f0) ((a_a x8 x10).f1) ((a_a x8 x10).f2) ((a_a x8 x10).f3) ((a_a x8 x10).f4) ((a_a x8 x10).f5) ((a_a x8 x10).f6) ((a_a x8 x10).f7) ((a_a x8 x10).f8) ((a_a x8 x10).f9) ((a_a x8 x10).f10)).bind fun t117 => (if t117 = ((a_a x8 x10).f9) then ((a_V.f x112001 ((a_a x8 x10).f0) ((a_a x8 x10).f1) ((a_a x8 x10).f2) ((a_a x8 x10).f3) ((a_a x8 x10).f4) ((a_a x8 x10).f5) ((a_a x8 x10).f6) ((a_a x8 x10).f7) ((a_a x8 x10).f8) ((a_a x8 x10).f9) ((a_a x8 x10).f10) ((a_a x8 x10).f0) ((a_a x8 x10).f1) ((a_a x8 x10).f2) ((a_a x8 x10).f3) ((a_a x8 x10).f4) ((a_a x8 x10).f5) ((a_a x8 x10).f6) ((a_a x8 x10).f7) ((a_a x8 x10).f8) ((a_a x8 x10).f9) ((a_a x8 x10).f10)).bind fun t118 => (if t118 = ((a_a x8 x10).f9) then (a_t.l0 k x8 x9 (wrap64 (x10 + 1)) x112000 x112001) else (some false))) else (some false)))) else (none)) else (none)) else ((a_X.f x112001 ((a_a x8 x10).f0) ((a_a x8 x10).f1) ((a_a x8 x10).f2) ((a_a x8 x10).f3) ((a_a x8 x10).f4) ((a_a x8 x10).f5) ((a_a x8 x10).f6) ((a_a x8 x10).f7) ((a_a x8 x10).f8) ((a_a x8 x10).f9) ((a_a x8 x10).f10)).bind fun t119 => (if t119 = ((a_a x8 x10).f9) then ((a_V.f x112001 ((a_a x8 x10).f0) ((a_a x8 x10).f1) ((a_a x8 x10).f2) ((a_a x8 x10).f3) ((a_a x8 x10).f4) ((a_a x8 x10).f5) ((a_a x8 x10).f6) ((a_a x8 x10).f7) ((a_a x8 x10).f8) ((a_a x8 x10).f9) ((a_a x8 x10).f10) ((a_a x8 x10).f0) ((a_a x8 x10).f1) ((a_a x8 x10).f2) ((a_a x8 x10).f3) ((a_a x8 x10).f4) ((a_a x8 x10).f5) ((a_a x8 x10).f6) ((a_a x8 x10).f7) ((a_a x8 x10).f8) ((a_a x8 x10).f9) ((a_a x8 x10).f10)).bind fun t120 => (if t120 = ((a_a x8 x10).f9) then (a_t.l0 k x8 x9 (wrap64 (x10 + 1)) x112000 x112001) else (some false))) else (some false)))) else (some false))) else (none)) else (none)) else (if x112000 ≥ 0 then (some (decide (x112000 ≤ 1125899906842624))) else (some false))
def a_t.f (k : Nat) (a0_0 : Int) (l0_1 : List (S33)) : Option (Bool):=a_t.l0 k l0_1 (l0_1.length : Int) 0 a0_0 l0_1
theorem a_t.c_9 : ∀ k,(∀ y0 y1 y2 y3 y4,LeO (a_t.l0 k y0 y1 y2 y3 y4) (a_t.l0 (k + 1) y0 y1 y2 y3 y4))
 | 0 => fun _ _ _ _ _ r h => by simp [a_t.l0] at h
 | k + 1 => by
  have ih0:=a_t.c_9 k
  ·intro y0 y1 y2 y3 y4
   unfold a_t.l0
   repeat' first
   | (with_reducible exact ih0 _ _ _ _ _)
   | (with_reducible exact a_D.mono _ _ _ _ _ _ _ _ _ _ _ _)
   | (with_reducible exact LeO.refl _)
   | (with_reducible exact LeO.none _)
   | (with_reducible refine LeO.ite ?_ ?_)
   | (with_reducible refine LeO.bind ?_ (fun _ => ?_))
   | exact ih0 _ _ _ _ _
   | exact a_D.mono _ _ _ _ _ _ _ _ _ _ _ _
   | exact LeO.none _
   | refine LeO.ite ?_ ?_
   | refine LeO.bind ?_ (fun _ => ?_)
theorem a_t.mono : ∀ a0 a1 k,LeO (a_t.f k a0 a1) (a_t.f (k + 1) a0 a1):=by
 intro a0 a1 k
 have ih0:=a_t.c_9 k
 unfold a_t.f
 repeat' first
  | (with_reducible exact ih0 _ _ _ _ _)
  | (with_reducible exact a_D.mono _ _ _ _ _ _ _ _ _ _ _ _)
  | (with_reducible exact LeO.refl _)
  | (with_reducible exact LeO.none _)
  | (with_reducible refine LeO.ite ?_ ?_)
  | (with_reducible refine LeO.bind ?_ (fun _ => ?_))
  | exact ih0 _ _ _ _ _
  | exact a_D.mono _ _ _ _ _ _ _ _ _ _ _ _
  | exact LeO.none _
  | refine LeO.ite ?_ ?_
  | refine LeO.bind ?_ (fun _ => ?_)
def a_t.T6 : Bool × List (List Nat × List Nat):=(true,[([],[]),([0],[0]),([1],[1]),([2,1],[2]),([3],[3]),([4,3],[3,4]),([5,3,3],[3,5]),([6],[6]),([7,6],[6,7]),([6],[6]),([9,6],[6,9]),([8,10,6],[6,8,10]),([11,6],[6,11]),([12,6],[6,12]),([6],[6]),([14,6],[6,14]),([13,15,6],[6,13,15]),([6,16,3],[3,6,16]),([3,17],[3,17]),([18,6],[18]),([19],[19]),([20,19],[19,20]),([19],[19]),([21,22,19,19],[19,21,22]),([19],[19]),([24,19],[19,24]),([23,25,19],[19,23,25]),([19,26],[19,26]),([27,23],[27]),([28],[28]),([29,28],[28,29]),([28],[28]),([30,31,28,28],[28,30,31]),([28],[28]),([33,28],[28,33]),([32,34,28],[28,32,34]),([28,35],[28,35])])
def a_t.B6 : List Nat:=[0,1,3,7,15,31,63,127,255,127,639,2047,4095,8191,127,16511,65535,131071,262143,524287,1048575,2097151,1048575,8388607,1048575,17825791,67108863,134217727,268435455,536870911,1073741823,536870911,4294967295,536870911,9126805503,34359738367,68719476735]
theorem a_t.tab6 : rtab .any (opsOf Tryd.f19 6) = a_t.T6:=by kernel_rfl
theorem a_t.f_w : e_H a_t.T6.2 a_t.B6 = true:=by kernel_rfl
set_option maxHeartbeats 8000000 in
set_option maxRecDepth 100000 in
theorem a_t.calls (k : Nat) (a0_0 : Int) (A0_1 : Option Addr) (c0_1 : Nat) (l0_1 : List (S33)) (r : Bool) (w : World) (hr0_1 : Kd.C k33 w A0_1 l0_1.length l0_1) (hc0_1 : l0_1.length ≤ c0_1) (h : a_t.f k a0_0 l0_1 = some r) :
 Calls Tryd.prog 19 #[.agg #[.int .i64 a0_0,.slice A0_1 l0_1.length c0_1]] w fun e w' => e = .returned (.bool r) ∧ Below w.heap.size w w':=by
 have hu24:=Tryd.underlying24
 have hu33:=Tryd.underlying33
 have hu51:=Tryd.underlying51
 have c_c:=a_f.mk hr0_1
 have d_I:=a_f.mk hc0_1
 clear hr0_1 hc0_1
 have HB:=a_f.mk (Below.refl w.heap.size w)
 have H : (a_t.l0 k l0_1 (l0_1.length : Int) 0 a0_0 l0_1) = some r:=h
 clear h
 have H':=a_f.mk H
 clear H
 go_enter Tryd.func19,Tryd.ntmps19
 go_wp2_with (first|((with_reducible refine a_J (N:=1) rfl ?_);refine a_A ?hg (N:=1) ?hd (cs:=#[.int .i64 a0_0,.slice A0_1 l0_1.length c0_1]) (t:=24) ?hr ?_;(case hd => rfl);(case hg => rfl);(case hr => first|(go_simp;done)|(go_simp;rfl));intro d_i hg w2 hbox hb;have a_Z:=a_f.mk (hbox);have y_Z:=a_f.mk ((by rw [hg];exact (a_o (lup_ HB.out)) : w.heap.size ≤ d_i));have c_2:=a_f.mk ((by rw [hg];exact (a_o (lup_ HB.out)) : w.heap.size ≤ d_i));replace HB:=a_f.mk (a_q (lup_ HB.out) hb);clear hb hbox hg;have r_u : w2.cell? ⟨d_i,0,none⟩ = some (.int .i64 a0_0):=(a_b a_Z.out 0).trans rfl;have r_v : w2.cell? ⟨d_i,1,none⟩ = some (.slice A0_1 l0_1.length c0_1):=(a_b a_Z.out 1).trans rfl;have r_y:=a_c a_Z.out 0;have r_z:=a_c a_Z.out 1))
 go_loopg [10] k (fun kq v10 w' => ∃ (x10_1 : Int),v10 = .int .i64 x10_1 ∧ a_f (a_t.l0 kq l0_1 (l0_1.length : Int) x10_1 a0_0 l0_1 = some r) ∧ a_f (kq ≤ k) ∧ a_f (w'.heap[d_i]? = some (.cells #[.int .i64 a0_0,(.slice A0_1 l0_1.length c0_1)] 24 (0,0))) ∧ a_f (Below w.heap.size w w'))
 case atStart => exact ⟨(0),(by first|rfl|(simp;done)|(simp [*];done)),H',⟨Nat.le_refl _⟩,⟨by (with_reducible repeat (first|refine a_e ?_ _|refine a_g ?_|refine a_d ?_ _));exact a_Z.out⟩,⟨by repeat (first|(with_reducible first|exact HB.out|apply a_j|apply a_h|apply a_k|refine a_i ?_ c_2.out)|exact HB.out)⟩⟩
 case round =>
  clear H'
  try clear c1
  try clear p2
  try clear r_u
  try clear r_v
  try clear r_y
  try clear r_z
  obtain ⟨x10_1,rfl,HA,HK1,a_Z,HB⟩:=hrel
  cases gk with
  | zero => exact absurd HA.out (by simp [a_t.l0])
  | succ k1 =>
   have H:=HA.out
   clear HA
   simp only [a_t.l0] at H
   by_cases c4 : x10_1 < (l0_1.length : Int)
   rotate_left
   ·rw [if_neg c4] at H
    have c4b0 : decide (x10_1 < (l0_1.length : Int)) = false:=decide_eq_false c4
    clear c4
    by_cases c112 : a0_0 ≥ 0
    ·rw [if_pos c112] at H
     have c112b0 : decide (0 ≤ a0_0) = true:=decide_eq_true c112
     clear c112
     obtain rfl:=Option.some.inj H
     have r_Z : wr.cell? ⟨d_i,0,none⟩ = some (.int .i64 a0_0):=(a_b a_Z.out 0).trans rfl
     have r_0 : wr.cell? ⟨d_i,1,none⟩ = some (.slice A0_1 l0_1.length c0_1):=(a_b a_Z.out 1).trans rfl
     have s_h:=a_c a_Z.out 0
     have s_i:=a_c a_Z.out 1
     go_wp2
     go_ret
     exact ⟨by first|rfl|(simp [a_u,a_v] <;> rfl)|(simp [*, a_u,a_v] <;> rfl),by repeat (first|(with_reducible first|exact HB.out|apply a_j|apply a_h|apply a_k|refine a_i ?_ c_2.out)|exact HB.out)⟩
    rw [if_neg c112] at H
    have c112b0 : decide (0 ≤ a0_0) = false:=decide_eq_false c112
    clear c112
    obtain rfl:=Option.some.inj H
    have r_1 : wr.cell? ⟨d_i,0,none⟩ = some (.int .i64 a0_0):=(a_b a_Z.out 0).trans rfl
    have r_2 : wr.cell? ⟨d_i,1,none⟩ = some (.slice A0_1 l0_1.length c0_1):=(a_b a_Z.out 1).trans rfl
    have s_j:=a_c a_Z.out 0
    have s_k:=a_c a_Z.out 1
    go_wp2
    go_ret
    exact ⟨by first|rfl|(simp [a_u,a_v] <;> rfl)|(simp [*, a_u,a_v] <;> rfl),by repeat (first|(with_reducible first|exact HB.out|apply a_j|apply a_h|apply a_k|refine a_i ?_ c_2.out)|exact HB.out)⟩
   rw [if_pos c4] at H
   have c4b0 : decide (x10_1 < (l0_1.length : Int)) = true:=decide_eq_true c4
   clear c4
   by_cases c5 : 0 ≤ x10_1
   rotate_left
   ·rw [if_neg c5] at H
    exact absurd H (by simp)
   rw [if_pos c5] at H
   have c5b0 : decide (0 ≤ x10_1) = true:=decide_eq_true c5
   clear c5
   by_cases c6 : x10_1 < (l0_1.length : Int)
   rotate_left
   ·rw [if_neg c6] at H
    exact absurd H (by simp)
   rw [if_pos c6] at H
   have c6b0 : decide (x10_1 < (l0_1.length : Int)) = true:=decide_eq_true c6
   clear c6
   have p112 : 0 ≤ (x10_1 : Int):=of_decide_eq_true (by first|(with_reducible assumption)|assumption)
   have q112 : x10_1 < (l0_1.length : Int):=of_decide_eq_true (by first|(with_reducible assumption)|assumption)
   obtain ⟨ad112,e112,i_6,i_7,i_8,i_9,j_a,j_b,j_c,j_d,j_e,j_f,h_p⟩:=c_R c_c.out x10_1 p112 q112
   cases e112
   replace i_6:=(HB.out.cell (World.block_lt_of_cell? w _ i_6)).trans i_6
   replace i_7:=(HB.out.cell (World.block_lt_of_cell? w _ i_7)).trans i_7
   replace i_8:=(HB.out.cell (World.block_lt_of_cell? w _ i_8)).trans i_8
   replace i_9:=(HB.out.cell (World.block_lt_of_cell? w _ i_9)).trans i_9
   replace j_a:=(HB.out.cell (World.block_lt_of_cell? w _ j_a)).trans j_a
   replace j_b:=(HB.out.cell (World.block_lt_of_cell? w _ j_b)).trans j_b
   replace j_c:=(HB.out.cell (World.block_lt_of_cell? w _ j_c)).trans j_c
   replace j_d:=(HB.out.cell (World.block_lt_of_cell? w _ j_d)).trans j_d
   replace j_e:=(HB.out.cell (World.block_lt_of_cell? w _ j_e)).trans j_e
   replace j_f:=(HB.out.cell (World.block_lt_of_cell? w _ j_f)).trans j_f
   replace h_p:=(HB.out.cell (World.block_lt_of_cell? w _ h_p)).trans h_p
   replace p112:=eq_true p112
   replace q112:=eq_true q112
   try go_wp2_with (first|((with_reducible refine a_J (N:=4) rfl ?_);refine a_A ?hg (N:=4) ?hd (cs:=#[.int .i64 0,.int .i64 0,.int .i64 0,.int .i64 0,.int .i64 0,.bool false,.bool false,.int .u32 0,.int .i64 0,.int .i64 0,.int .i64 0]) (t:=33) ?hr ?_;(case hd => rfl);(case hg => rfl);(case hr => first|(go_simp;done)|(go_simp;rfl));intro a_Q hg w14 hbox hb;have a_w:=a_f.mk (hbox);have y_0:=a_f.mk ((by rw [hg];exact (a_o (by repeat (first|(with_reducible first|exact HB.out|apply a_j|apply a_h|apply a_k|refine a_i ?_ c_2.out)|exact HB.out))) : w.heap.size ≤ a_Q));have d_E:=a_f.mk ((by rw [hg];exact (a_o (by repeat (first|(with_reducible first|exact HB.out|apply a_j|apply a_h|apply a_k|refine a_i ?_ c_2.out)|exact HB.out))) : w.heap.size ≤ a_Q));have a_5:=a_f.mk ((by rw [hg];exact Nat.ne_of_lt (a_B (bup_ a_Z.out)) : d_i ≠ a_Q));have k_l:=a_f.mk ((by rw [hg];exact Nat.ne_of_gt (a_B (bup_ a_Z.out)) : a_Q ≠ d_i));replace a_Z:=a_f.mk (a_l (bup_ a_Z.out) hb);replace HB:=a_f.mk (a_q (by repeat (first|(with_reducible first|exact HB.out|apply a_j|apply a_h|apply a_k|refine a_i ?_ c_2.out)|exact HB.out)) hb);clear hb hbox hg;have x_W:=k_l.out;have x_5:=a_5.out;have g_n : w14.cell? ⟨a_Q,0,none⟩ = some (.int .i64 0):=(a_b a_w.out 0).trans rfl;have g_o : w14.cell? ⟨a_Q,1,none⟩ = some (.int .i64 0):=(a_b a_w.out 1).trans rfl;have s_2 : w14.cell? ⟨a_Q,2,none⟩ = some (.int .i64 0):=(a_b a_w.out 2).trans rfl;have s_3 : w14.cell? ⟨a_Q,3,none⟩ = some (.int .i64 0):=(a_b a_w.out 3).trans rfl;have s_4 : w14.cell? ⟨a_Q,4,none⟩ = some (.int .i64 0):=(a_b a_w.out 4).trans rfl;have s_5 : w14.cell? ⟨a_Q,5,none⟩ = some (.bool false):=(a_b a_w.out 5).trans rfl;have s_6 : w14.cell? ⟨a_Q,6,none⟩ = some (.bool false):=(a_b a_w.out 6).trans rfl;have s_7 : w14.cell? ⟨a_Q,7,none⟩ = some (.int .u32 0):=(a_b a_w.out 7).trans rfl;have s_8 : w14.cell? ⟨a_Q,8,none⟩ = some (.int .i64 0):=(a_b a_w.out 8).trans rfl;have s_9 : w14.cell? ⟨a_Q,9,none⟩ = some (.int .i64 0):=(a_b a_w.out 9).trans rfl;have r_3 : w14.cell? ⟨a_Q,10,none⟩ = some (.int .i64 0):=(a_b a_w.out 10).trans rfl;have g_p:=a_c a_w.out 0;have g_q:=a_c a_w.out 1;have v_y:=a_c a_w.out 2;have v_z:=a_c a_w.out 3;have v_A:=a_c a_w.out 4;have v_B:=a_c a_w.out 5;have v_C:=a_c a_w.out 6;have v_D:=a_c a_w.out 7;have v_E:=a_c a_w.out 8;have v_F:=a_c a_w.out 9;have s_l:=a_c a_w.out 10)|((with_reducible refine a_J (N:=5) rfl ?_);refine a_A ?hg (N:=5) ?hd (cs:=#[.nilFunc]) (t:=51) ?hr ?_;(case hd => rfl);(case hg => rfl);(case hr => first|(go_simp;done)|(go_simp;rfl));intro d_X hg w17 hbox hb;have b_t:=a_f.mk (hbox);have y_1:=a_f.mk ((by rw [hg];exact (a_o (by repeat (first|(with_reducible first|exact HB.out|apply a_j|apply a_h|apply a_k|refine a_i ?_ c_2.out|refine a_i ?_ d_E.out)|exact HB.out))) : w.heap.size ≤ d_X));have d_S:=a_f.mk ((by rw [hg];exact (a_o (by repeat (first|(with_reducible first|exact HB.out|apply a_j|apply a_h|apply a_k|refine a_i ?_ c_2.out|refine a_i ?_ d_E.out)|exact HB.out))) : w.heap.size ≤ d_X));have h_z:=a_f.mk ((by rw [hg];exact Nat.ne_of_lt (a_B (g:=d_i) (o:=.cells #[.int .i64 a0_0,.slice (some ad112) l0_1.length c0_1] 24 (0,0)) (by (with_reducible repeat (first|refine a_e ?_ _|refine a_g ?_|refine a_d ?_ _));refine a_p ?_ a_5.out _;(with_reducible repeat (first|refine a_e ?_ _|refine a_g ?_|refine a_d ?_ _));refine a_p ?_ a_5.out _;(with_reducible repeat (first|refine a_e ?_ _|refine a_g ?_|refine a_d ?_ _));refine a_p ?_ a_5.out _;(with_reducible repeat (first|refine a_e ?_ _|refine a_g ?_|refine a_d ?_ _));refine a_p ?_ a_5.out _;(with_reducible repeat (first|refine a_e ?_ _|refine a_g ?_|refine a_d ?_ _));refine a_p ?_ a_5.out _;(with_reducible repeat (first|refine a_e ?_ _|refine a_g ?_|refine a_d ?_ _));refine a_p ?_ a_5.out _;(with_reducible repeat (first|refine a_e ?_ _|refine a_g ?_|refine a_d ?_ _));refine a_p ?_ a_5.out _;(with_reducible repeat (first|refine a_e ?_ _|refine a_g ?_|refine a_d ?_ _));refine a_p ?_ a_5.out _;(with_reducible repeat (first|refine a_e ?_ _|refine a_g ?_|refine a_d ?_ _));refine a_p ?_ a_5.out _;(with_reducible repeat (first|refine a_e ?_ _|refine a_g ?_|refine a_d ?_ _));refine a_p ?_ a_5.out _;(with_reducible repeat (first|refine a_e ?_ _|refine a_g ?_|refine a_d ?_ _));refine a_p ?_ a_5.out _;(with_reducible repeat (first|refine a_e ?_ _|refine a_g ?_|refine a_d ?_ _));exact a_Z.out)) : d_i ≠ d_X));have k_m:=a_f.mk ((by rw [hg];exact Nat.ne_of_gt (a_B (g:=d_i) (o:=.cells #[.int .i64 a0_0,.slice (some ad112) l0_1.length c0_1] 24 (0,0)) (by (with_reducible repeat (first|refine a_e ?_ _|refine a_g ?_|refine a_d ?_ _));refine a_p ?_ a_5.out _;(with_reducible repeat (first|refine a_e ?_ _|refine a_g ?_|refine a_d ?_ _));refine a_p ?_ a_5.out _;(with_reducible repeat (first|refine a_e ?_ _|refine a_g ?_|refine a_d ?_ _));refine a_p ?_ a_5.out _;(with_reducible repeat (first|refine a_e ?_ _|refine a_g ?_|refine a_d ?_ _));refine a_p ?_ a_5.out _;(with_reducible repeat (first|refine a_e ?_ _|refine a_g ?_|refine a_d ?_ _));refine a_p ?_ a_5.out _;(with_reducible repeat (first|refine a_e ?_ _|refine a_g ?_|refine a_d ?_ _));refine a_p ?_ a_5.out _;(with_reducible repeat (first|refine a_e ?_ _|refine a_g ?_|refine a_d ?_ _));refine a_p ?_ a_5.out _;(with_reducible repeat (first|refine a_e ?_ _|refine a_g ?_|refine a_d ?_ _));refine a_p ?_ a_5.out _;(with_reducible repeat (first|refine a_e ?_ _|refine a_g ?_|refine a_d ?_ _));refine a_p ?_ a_5.out _;(with_reducible repeat (first|refine a_e ?_ _|refine a_g ?_|refine a_d ?_ _));refine a_p ?_ a_5.out _;(with_reducible repeat (first|refine a_e ?_ _|refine a_g ?_|refine a_d ?_ _));refine a_p ?_ a_5.out _;(with_reducible repeat (first|refine a_e ?_ _|refine a_g ?_|refine a_d ?_ _));exact a_Z.out)) : d_X ≠ d_i));have h_A:=a_f.mk ((by rw [hg];exact Nat.ne_of_lt (a_B (g:=a_Q) (o:=.cells #[.int .i64 ((a_a l0_1 x10_1).f0),.int .i64 ((a_a l0_1 x10_1).f1),.int .i64 ((a_a l0_1 x10_1).f2),.int .i64 ((a_a l0_1 x10_1).f3),.int .i64 ((a_a l0_1 x10_1).f4),.bool ((a_a l0_1 x10_1).f5),.bool ((a_a l0_1 x10_1).f6),.int .u32 ((a_a l0_1 x10_1).f7),.int .i64 ((a_a l0_1 x10_1).f8),.int .i64 ((a_a l0_1 x10_1).f9),.int .i64 ((a_a l0_1 x10_1).f10)] 33 (0,0)) (by (with_reducible repeat (first|refine a_e ?_ _|refine a_g ?_|refine a_d ?_ _));refine a_n (cs:=#[.int .i64 ((a_a l0_1 x10_1).f0),.int .i64 ((a_a l0_1 x10_1).f1),.int .i64 ((a_a l0_1 x10_1).f2),.int .i64 ((a_a l0_1 x10_1).f3),.int .i64 ((a_a l0_1 x10_1).f4),.bool ((a_a l0_1 x10_1).f5),.bool ((a_a l0_1 x10_1).f6),.int .u32 ((a_a l0_1 x10_1).f7),.int .i64 ((a_a l0_1 x10_1).f8),.int .i64 ((a_a l0_1 x10_1).f9),.int .i64 0]) ?_ 10 _ rfl;(with_reducible repeat (first|refine a_e ?_ _|refine a_g ?_|refine a_d ?_ _));refine a_n (cs:=#[.int .i64 ((a_a l0_1 x10_1).f0),.int .i64 ((a_a l0_1 x10_1).f1),.int .i64 ((a_a l0_1 x10_1).f2),.int .i64 ((a_a l0_1 x10_1).f3),.int .i64 ((a_a l0_1 x10_1).f4),.bool ((a_a l0_1 x10_1).f5),.bool ((a_a l0_1 x10_1).f6),.int .u32 ((a_a l0_1 x10_1).f7),.int .i64 ((a_a l0_1 x10_1).f8),.int .i64 0,.int .i64 0]) ?_ 9 _ rfl;(with_reducible repeat (first|refine a_e ?_ _|refine a_g ?_|refine a_d ?_ _));refine a_n (cs:=#[.int .i64 ((a_a l0_1 x10_1).f0),.int .i64 ((a_a l0_1 x10_1).f1),.int .i64 ((a_a l0_1 x10_1).f2),.int .i64 ((a_a l0_1 x10_1).f3),.int .i64 ((a_a l0_1 x10_1).f4),.bool ((a_a l0_1 x10_1).f5),.bool ((a_a l0_1 x10_1).f6),.int .u32 ((a_a l0_1 x10_1).f7),.int .i64 0,.int .i64 0,.int .i64 0]) ?_ 8 _ rfl;(with_reducible repeat (first|refine a_e ?_ _|refine a_g ?_|refine a_d ?_ _));refine a_n (cs:=#[.int .i64 ((a_a l0_1 x10_1).f0),.int .i64 ((a_a l0_1 x10_1).f1),.int .i64 ((a_a l0_1 x10_1).f2),.int .i64 ((a_a l0_1 x10_1).f3),.int .i64 ((a_a l0_1 x10_1).f4),.bool ((a_a l0_1 x10_1).f5),.bool ((a_a l0_1 x10_1).f6),.int .u32 0,.int .i64 0,.int .i64 0,.int .i64 0]) ?_ 7 _ rfl;(with_reducible repeat (first|refine a_e ?_ _|refine a_g ?_|refine a_d ?_ _));refine a_n (cs:=#[.int .i64 ((a_a l0_1 x10_1).f0),.int .i64 ((a_a l0_1 x10_1).f1),.int .i64 ((a_a l0_1 x10_1).f2),.int .i64 ((a_a l0_1 x10_1).f3),.int .i64 ((a_a l0_1 x10_1).f4),.bool ((a_a l0_1 x10_1).f5),.bool false,.int .u32 0,.int .i64 0,.int .i64 0,.int .i64 0]) ?_ 6 _ rfl;(with_reducible repeat (first|refine a_e ?_ _|refine a_g ?_|refine a_d ?_ _));refine a_n (cs:=#[.int .i64 ((a_a l0_1 x10_1).f0),.int .i64 ((a_a l0_1 x10_1).f1),.int .i64 ((a_a l0_1 x10_1).f2),.int .i64 ((a_a l0_1 x10_1).f3),.int .i64 ((a_a l0_1 x10_1).f4),.bool false,.bool false,.int .u32 0,.int .i64 0,.int .i64 0,.int .i64 0]) ?_ 5 _ rfl;(with_reducible repeat (first|refine a_e ?_ _|refine a_g ?_|refine a_d ?_ _));refine a_n (cs:=#[.int .i64 ((a_a l0_1 x10_1).f0),.int .i64 ((a_a l0_1 x10_1).f1),.int .i64 ((a_a l0_1 x10_1).f2),.int .i64 ((a_a l0_1 x10_1).f3),.int .i64 0,.bool false,.bool false,.int .u32 0,.int .i64 0,.int .i64 0,.int .i64 0]) ?_ 4 _ rfl;(with_reducible repeat (first|refine a_e ?_ _|refine a_g ?_|refine a_d ?_ _));refine a_n (cs:=#[.int .i64 ((a_a l0_1 x10_1).f0),.int .i64 ((a_a l0_1 x10_1).f1),.int .i64 ((a_a l0_1 x10_1).f2),.int .i64 0,.int .i64 0,.bool false,.bool false,.int .u32 0,.int .i64 0,.int .i64 0,.int .i64 0]) ?_ 3 _ rfl;(with_reducible repeat (first|refine a_e ?_ _|refine a_g ?_|refine a_d ?_ _));refine a_n (cs:=#[.int .i64 ((a_a l0_1 x10_1).f0),.int .i64 ((a_a l0_1 x10_1).f1),.int .i64 0,.int .i64 0,.int .i64 0,.bool false,.bool false,.int .u32 0,.int .i64 0,.int .i64 0,.int .i64 0]) ?_ 2 _ rfl;(with_reducible repeat (first|refine a_e ?_ _|refine a_g ?_|refine a_d ?_ _));refine a_n (cs:=#[.int .i64 ((a_a l0_1 x10_1).f0),.int .i64 0,.int .i64 0,.int .i64 0,.int .i64 0,.bool false,.bool false,.int .u32 0,.int .i64 0,.int .i64 0,.int .i64 0]) ?_ 1 _ rfl;(with_reducible repeat (first|refine a_e ?_ _|refine a_g ?_|refine a_d ?_ _));refine a_n (cs:=#[.int .i64 0,.int .i64 0,.int .i64 0,.int .i64 0,.int .i64 0,.bool false,.bool false,.int .u32 0,.int .i64 0,.int .i64 0,.int .i64 0]) ?_ 0 _ rfl;(with_reducible repeat (first|refine a_e ?_ _|refine a_g ?_|refine a_d ?_ _));exact a_w.out)) : a_Q ≠ d_X));have k_n:=a_f.mk ((by rw [hg];exact Nat.ne_of_gt (a_B (g:=a_Q) (o:=.cells #[.int .i64 ((a_a l0_1 x10_1).f0),.int .i64 ((a_a l0_1 x10_1).f1),.int .i64 ((a_a l0_1 x10_1).f2),.int .i64 ((a_a l0_1 x10_1).f3),.int .i64 ((a_a l0_1 x10_1).f4),.bool ((a_a l0_1 x10_1).f5),.bool ((a_a l0_1 x10_1).f6),.int .u32 ((a_a l0_1 x10_1).f7),.int .i64 ((a_a l0_1 x10_1).f8),.int .i64 ((a_a l0_1 x10_1).f9),.int .i64 ((a_a l0_1 x10_1).f10)] 33 (0,0)) (by (with_reducible repeat (first|refine a_e ?_ _|refine a_g ?_|refine a_d ?_ _));refine a_n (cs:=#[.int .i64 ((a_a l0_1 x10_1).f0),.int .i64 ((a_a l0_1 x10_1).f1),.int .i64 ((a_a l0_1 x10_1).f2),.int .i64 ((a_a l0_1 x10_1).f3),.int .i64 ((a_a l0_1 x10_1).f4),.bool ((a_a l0_1 x10_1).f5),.bool ((a_a l0_1 x10_1).f6),.int .u32 ((a_a l0_1 x10_1).f7),.int .i64 ((a_a l0_1 x10_1).f8),.int .i64 ((a_a l0_1 x10_1).f9),.int .i64 0]) ?_ 10 _ rfl;(with_reducible repeat (first|refine a_e ?_ _|refine a_g ?_|refine a_d ?_ _));refine a_n (cs:=#[.int .i64 ((a_a l0_1 x10_1).f0),.int .i64 ((a_a l0_1 x10_1).f1),.int .i64 ((a_a l0_1 x10_1).f2),.int .i64 ((a_a l0_1 x10_1).f3),.int .i64 ((a_a l0_1 x10_1).f4),.bool ((a_a l0_1 x10_1).f5),.bool ((a_a l0_1 x10_1).f6),.int .u32 ((a_a l0_1 x10_1).f7),.int .i64 ((a_a l0_1 x10_1).f8),.int .i64 0,.int .i64 0]) ?_ 9 _ rfl;(with_reducible repeat (first|refine a_e ?_ _|refine a_g ?_|refine a_d ?_ _));refine a_n (cs:=#[.int .i64 ((a_a l0_1 x10_1).f0),.int .i64 ((a_a l0_1 x10_1).f1),.int .i64 ((a_a l0_1 x10_1).f2),.int .i64 ((a_a l0_1 x10_1).f3),.int .i64 ((a_a l0_1 x10_1).f4),.bool ((a_a l0_1 x10_1).f5),.bool ((a_a l0_1 x10_1).f6),.int .u32 ((a_a l0_1 x10_1).f7),.int .i64 0,.int .i64 0,.int .i64 0]) ?_ 8 _ rfl;(with_reducible repeat (first|refine a_e ?_ _|refine a_g ?_|refine a_d ?_ _));refine a_n (cs:=#[.int .i64 ((a_a l0_1 x10_1).f0),.int .i64 ((a_a l0_1 x10_1).f1),.int .i64 ((a_a l0_1 x10_1).f2),.int .i64 ((a_a l0_1 x10_1).f3),.int .i64 ((a_a l0_1 x10_1).f4),.bool ((a_a l0_1 x10_1).f5),.bool ((a_a l0_1 x10_1).f6),.int .u32 0,.int .i64 0,.int .i64 0,.int .i64 0]) ?_ 7 _ rfl;(with_reducible repeat (first|refine a_e ?_ _|refine a_g ?_|refine a_d ?_ _));refine a_n (cs:=#[.int .i64 ((a_a l0_1 x10_1).f0),.int .i64 ((a_a l0_1 x10_1).f1),.int .i64 ((a_a l0_1 x10_1).f2),.int .i64 ((a_a l0_1 x10_1).f3),.int .i64 ((a_a l0_1 x10_1).f4),.bool ((a_a l0_1 x10_1).f5),.bool false,.int .u32 0,.int .i64 0,.int .i64 0,.int .i64 0]) ?_ 6 _ rfl;(with_reducible repeat (first|refine a_e ?_ _|refine a_g ?_|refine a_d ?_ _));refine a_n (cs:=#[.int .i64 ((a_a l0_1 x10_1).f0),.int .i64 ((a_a l0_1 x10_1).f1),.int .i64 ((a_a l0_1 x10_1).f2),.int .i64 ((a_a l0_1 x10_1).f3),.int .i64 ((a_a l0_1 x10_1).f4),.bool false,.bool false,.int .u32 0,.int .i64 0,.int .i64 0,.int .i64 0]) ?_ 5 _ rfl;(with_reducible repeat (first|refine a_e ?_ _|refine a_g ?_|refine a_d ?_ _));refine a_n (cs:=#[.int .i64 ((a_a l0_1 x10_1).f0),.int .i64 ((a_a l0_1 x10_1).f1),.int .i64 ((a_a l0_1 x10_1).f2),.int .i64 ((a_a l0_1 x10_1).f3),.int .i64 0,.bool false,.bool false,.int .u32 0,.int .i64 0,.int .i64 0,.int .i64 0]) ?_ 4 _ rfl;(with_reducible repeat (first|refine a_e ?_ _|refine a_g ?_|refine a_d ?_ _));refine a_n (cs:=#[.int .i64 ((a_a l0_1 x10_1).f0),.int .i64 ((a_a l0_1 x10_1).f1),.int .i64 ((a_a l0_1 x10_1).f2),.int .i64 0,.int .i64 0,.bool false,.bool false,.int .u32 0,.int .i64 0,.int .i64 0,.int .i64 0]) ?_ 3 _ rfl;(with_reducible repeat (first|refine a_e ?_ _|refine a_g ?_|refine a_d ?_ _));refine a_n (cs:=#[.int .i64 ((a_a l0_1 x10_1).f0),.int .i64 ((a_a l0_1 x10_1).f1),.int .i64 0,.int .i64 0,.int .i64 0,.bool false,.bool false,.int .u32 0,.int .i64 0,.int .i64 0,.int .i64 0]) ?_ 2 _ rfl;(with_reducible repeat (first|refine a_e ?_ _|refine a_g ?_|refine a_d ?_ _));refine a_n (cs:=#[.int .i64 ((a_a l0_1 x10_1).f0),.int .i64 0,.int .i64 0,.int .i64 0,.int .i64 0,.bool false,.bool false,.int .u32 0,.int .i64 0,.int .i64 0,.int .i64 0]) ?_ 1 _ rfl;(with_reducible repeat (first|refine a_e ?_ _|refine a_g ?_|refine a_d ?_ _));refine a_n (cs:=#[.int .i64 0,.int .i64 0,.int .i64 0,.int .i64 0,.int .i64 0,.bool false,.bool false,.int .u32 0,.int .i64 0,.int .i64 0,.int .i64 0]) ?_ 0 _ rfl;(with_reducible repeat (first|refine a_e ?_ _|refine a_g ?_|refine a_d ?_ _));exact a_w.out)) : d_X ≠ a_Q));replace a_Z:=a_f.mk (a_l (g:=d_i) (o:=.cells #[.int .i64 a0_0,.slice (some ad112) l0_1.length c0_1] 24 (0,0)) (by (with_reducible repeat (first|refine a_e ?_ _|refine a_g ?_|refine a_d ?_ _));refine a_p ?_ a_5.out _;(with_reducible repeat (first|refine a_e ?_ _|refine a_g ?_|refine a_d ?_ _));refine a_p ?_ a_5.out _;(with_reducible repeat (first|refine a_e ?_ _|refine a_g ?_|refine a_d ?_ _));refine a_p ?_ a_5.out _;(with_reducible repeat (first|refine a_e ?_ _|refine a_g ?_|refine a_d ?_ _));refine a_p ?_ a_5.out _;(with_reducible repeat (first|refine a_e ?_ _|refine a_g ?_|refine a_d ?_ _));refine a_p ?_ a_5.out _;(with_reducible repeat (first|refine a_e ?_ _|refine a_g ?_|refine a_d ?_ _));refine a_p ?_ a_5.out _;(with_reducible repeat (first|refine a_e ?_ _|refine a_g ?_|refine a_d ?_ _));refine a_p ?_ a_5.out _;(with_reducible repeat (first|refine a_e ?_ _|refine a_g ?_|refine a_d ?_ _));refine a_p ?_ a_5.out _;(with_reducible repeat (first|refine a_e ?_ _|refine a_g ?_|refine a_d ?_ _));refine a_p ?_ a_5.out _;(with_reducible repeat (first|refine a_e ?_ _|refine a_g ?_|refine a_d ?_ _));refine a_p ?_ a_5.out _;(with_reducible repeat (first|refine a_e ?_ _|refine a_g ?_|refine a_d ?_ _));refine a_p ?_ a_5.out _;(with_reducible repeat (first|refine a_e ?_ _|refine a_g ?_|refine a_d ?_ _));exact a_Z.out) hb);replace a_w:=a_f.mk (a_l (g:=a_Q) (o:=.cells #[.int .i64 ((a_a l0_1 x10_1).f0),.int .i64 ((a_a l0_1 x10_1).f1),.int .i64 ((a_a l0_1 x10_1).f2),.int .i64 ((a_a l0_1 x10_1).f3),.int .i64 ((a_a l0_1 x10_1).f4),.bool ((a_a l0_1 x10_1).f5),.bool ((a_a l0_1 x10_1).f6),.int .u32 ((a_a l0_1 x10_1).f7),.int .i64 ((a_a l0_1 x10_1).f8),.int .i64 ((a_a l0_1 x10_1).f9),.int .i64 ((a_a l0_1 x10_1).f10)] 33 (0,0)) (by (with_reducible repeat (first|refine a_e ?_ _|refine a_g ?_|refine a_d ?_ _));refine a_n (cs:=#[.int .i64 ((a_a l0_1 x10_1).f0),.int .i64 ((a_a l0_1 x10_1).f1),.int .i64 ((a_a l0_1 x10_1).f2),.int .i64 ((a_a l0_1 x10_1).f3),.int .i64 ((a_a l0_1 x10_1).f4),.bool ((a_a l0_1 x10_1).f5),.bool ((a_a l0_1 x10_1).f6),.int .u32 ((a_a l0_1 x10_1).f7),.int .i64 ((a_a l0_1 x10_1).f8),.int .i64 ((a_a l0_1 x10_1).f9),.int .i64 0]) ?_ 10 _ rfl;(with_reducible repeat (first|refine a_e ?_ _|refine a_g ?_|refine a_d ?_ _));refine a_n (cs:=#[.int .i64 ((a_a l0_1 x10_1).f0),.int .i64 ((a_a l0_1 x10_1).f1),.int .i64 ((a_a l0_1 x10_1).f2),.int .i64 ((a_a l0_1 x10_1).f3),.int .i64 ((a_a l0_1 x10_1).f4),.bool ((a_a l0_1 x10_1).f5),.bool ((a_a l0_1 x10_1).f6),.int .u32 ((a_a l0_1 x10_1).f7),.int .i64 ((a_a l0_1 x10_1).f8),.int .i64 0,.int .i64 0]) ?_ 9 _ rfl;(with_reducible repeat (first|refine a_e ?_ _|refine a_g ?_|refine a_d ?_ _));refine a_n (cs:=#[.int .i64 ((a_a l0_1 x10_1).f0),.int .i64 ((a_a l0_1 x10_1).f1),.int .i64 ((a_a l0_1 x10_1).f2),.int .i64 ((a_a l0_1 x10_1).f3),.int .i64 ((a_a l0_1 x10_1).f4),.bool ((a_a l0_1 x10_1).f5),.bool ((a_a l0_1 x10_1).f6),.int .u32 ((a_a l0_1 x10_1).f7),.int .i64 0,.int .i64 0,.int .i64 0]) ?_ 8 _ rfl;(with_reducible repeat (first|refine a_e ?_ _|refine a_g ?_|refine a_d ?_ _));refine a_n (cs:=#[.int .i64 ((a_a l0_1 x10_1).f0),.int .i64 ((a_a l0_1 x10_1).f1),.int .i64 ((a_a l0_1 x10_1).f2),.int .i64 ((a_a l0_1 x10_1).f3),.int .i64 ((a_a l0_1 x10_1).f4),.bool ((a_a l0_1 x10_1).f5),.bool ((a_a l0_1 x10_1).f6),.int .u32 0,.int .i64 0,.int .i64 0,.int .i64 0]) ?_ 7 _ rfl;(with_reducible repeat (first|refine a_e ?_ _|refine a_g ?_|refine a_d ?_ _));refine a_n (cs:=#[.int .i64 ((a_a l0_1 x10_1).f0),.int .i64 ((a_a l0_1 x10_1).f1),.int .i64 ((a_a l0_1 x10_1).f2),.int .i64 ((a_a l0_1 x10_1).f3),.int .i64 ((a_a l0_1 x10_1).f4),.bool ((a_a l0_1 x10_1).f5),.bool false,.int .u32 0,.int .i64 0,.int .i64 0,.int .i64 0]) ?_ 6 _ rfl;(with_reducible repeat (first|refine a_e ?_ _|refine a_g ?_|refine a_d ?_ _));refine a_n (cs:=#[.int .i64 ((a_a l0_1 x10_1).f0),.int .i64 ((a_a l0_1 x10_1).f1),.int .i64 ((a_a l0_1 x10_1).f2),.int .i64 ((a_a l0_1 x10_1).f3),.int .i64 ((a_a l0_1 x10_1).f4),.bool false,.bool false,.int .u32 0,.int .i64 0,.int .i64 0,.int .i64 0]) ?_ 5 _ rfl;(with_reducible repeat (first|refine a_e ?_ _|refine a_g ?_|refine a_d ?_ _));refine a_n (cs:=#[.int .i64 ((a_a l0_1 x10_1).f0),.int .i64 ((a_a l0_1 x10_1).f1),.int .i64 ((a_a l0_1 x10_1).f2),.int .i64 ((a_a l0_1 x10_1).f3),.int .i64 0,.bool false,.bool false,.int .u32 0,.int .i64 0,.int .i64 0,.int .i64 0]) ?_ 4 _ rfl;(with_reducible repeat (first|refine a_e ?_ _|refine a_g ?_|refine a_d ?_ _));refine a_n (cs:=#[.int .i64 ((a_a l0_1 x10_1).f0),.int .i64 ((a_a l0_1 x10_1).f1),.int .i64 ((a_a l0_1 x10_1).f2),.int .i64 0,.int .i64 0,.bool false,.bool false,.int .u32 0,.int .i64 0,.int .i64 0,.int .i64 0]) ?_ 3 _ rfl;(with_reducible repeat (first|refine a_e ?_ _|refine a_g ?_|refine a_d ?_ _));refine a_n (cs:=#[.int .i64 ((a_a l0_1 x10_1).f0),.int .i64 ((a_a l0_1 x10_1).f1),.int .i64 0,.int .i64 0,.int .i64 0,.bool false,.bool false,.int .u32 0,.int .i64 0,.int .i64 0,.int .i64 0]) ?_ 2 _ rfl;(with_reducible repeat (first|refine a_e ?_ _|refine a_g ?_|refine a_d ?_ _));refine a_n (cs:=#[.int .i64 ((a_a l0_1 x10_1).f0),.int .i64 0,.int .i64 0,.int .i64 0,.int .i64 0,.bool false,.bool false,.int .u32 0,.int .i64 0,.int .i64 0,.int .i64 0]) ?_ 1 _ rfl;(with_reducible repeat (first|refine a_e ?_ _|refine a_g ?_|refine a_d ?_ _));refine a_n (cs:=#[.int .i64 0,.int .i64 0,.int .i64 0,.int .i64 0,.int .i64 0,.bool false,.bool false,.int .u32 0,.int .i64 0,.int .i64 0,.int .i64 0]) ?_ 0 _ rfl;(with_reducible repeat (first|refine a_e ?_ _|refine a_g ?_|refine a_d ?_ _));exact a_w.out) hb);replace HB:=a_f.mk (a_q (by repeat (first|(with_reducible first|exact HB.out|apply a_j|apply a_h|apply a_k|refine a_i ?_ c_2.out|refine a_i ?_ d_E.out)|exact HB.out)) hb);clear hb hbox hg;have x_Y:=k_m.out;have x_7:=h_z.out;have x_Z:=k_n.out;have x_8:=h_A.out;have g_8 : w17.cell? ⟨d_X,0,none⟩ = some (.nilFunc):=(a_b b_t.out 0).trans rfl;have h_h:=a_c b_t.out 0))
   have n0_ : a_f ((w17.setCell ⟨d_X,0,none⟩ (.func (.func 33) #[] #[.pointer (some ⟨a_Q,0,none⟩)])).heap[d_i]? = some (.cells #[.int .i64 a0_0,.slice (some ad112) l0_1.length c0_1] 24 (0,0))):=⟨by (with_reducible repeat (first|refine a_e ?_ _|refine a_g ?_|refine a_d ?_ _));refine a_p ?_ h_z.out _;(with_reducible repeat (first|refine a_e ?_ _|refine a_g ?_|refine a_d ?_ _));exact a_Z.out⟩
   have n1_ : a_f ((w17.setCell ⟨d_X,0,none⟩ (.func (.func 33) #[] #[.pointer (some ⟨a_Q,0,none⟩)])).heap[a_Q]? = some (.cells #[.int .i64 ((a_a l0_1 x10_1).f0),.int .i64 ((a_a l0_1 x10_1).f1),.int .i64 ((a_a l0_1 x10_1).f2),.int .i64 ((a_a l0_1 x10_1).f3),.int .i64 ((a_a l0_1 x10_1).f4),.bool ((a_a l0_1 x10_1).f5),.bool ((a_a l0_1 x10_1).f6),.int .u32 ((a_a l0_1 x10_1).f7),.int .i64 ((a_a l0_1 x10_1).f8),.int .i64 ((a_a l0_1 x10_1).f9),.int .i64 ((a_a l0_1 x10_1).f10)] 33 (0,0))):=⟨by (with_reducible repeat (first|refine a_e ?_ _|refine a_g ?_|refine a_d ?_ _));refine a_p ?_ h_A.out _;(with_reducible repeat (first|refine a_e ?_ _|refine a_g ?_|refine a_d ?_ _));exact a_w.out⟩
   have n2_ : a_f ((w17.setCell ⟨d_X,0,none⟩ (.func (.func 33) #[] #[.pointer (some ⟨a_Q,0,none⟩)])).heap[d_X]? = some (.cells #[.func (.func 33) #[] #[.pointer (some ⟨a_Q,0,none⟩)]] 51 (0,0))):=⟨by (with_reducible repeat (first|refine a_e ?_ _|refine a_g ?_|refine a_d ?_ _));refine a_n (cs:=#[.nilFunc]) ?_ 0 _ rfl;(with_reducible repeat (first|refine a_e ?_ _|refine a_g ?_|refine a_d ?_ _));exact b_t.out⟩
   have n3_ : a_f (Below w.heap.size w (w17.setCell ⟨d_X,0,none⟩ (.func (.func 33) #[] #[.pointer (some ⟨a_Q,0,none⟩)]))):=⟨by repeat (first|(with_reducible first|exact HB.out|apply a_j|apply a_h|apply a_k|refine a_i ?_ c_2.out|refine a_i ?_ d_E.out|refine a_i ?_ d_S.out)|exact HB.out)⟩
   (try clear a_Z)
   (try clear a_w)
   (try clear b_t)
   (try clear HB)
   generalize (w17.setCell ⟨d_X,0,none⟩ (.func (.func 33) #[] #[.pointer (some ⟨a_Q,0,none⟩)])) = w21 at n0_ n1_ n2_ n3_ ⊢
   have a_Z:=n0_
   have a_w:=n1_
   have b_t:=n2_
   have HB:=n3_
   clear n0_ n1_ n2_ n3_
   replace a_Z:=a_f.mk (a_g a_Z.out)
   replace a_w:=a_f.mk (a_g a_w.out)
   replace b_t:=a_f.mk (a_g b_t.out)
   replace HB:=a_f.mk (a_k HB.out)
   replace H:=Option.bind_eq_some_iff.mp H
   obtain ⟨t115,A70,H⟩:=H
   replace H : (if t115 = true then (if x10_1 > 0 then (if 0 ≤ (wrap64 (x10_1 - 1)) then (if (wrap64 (x10_1 - 1)) < (l0_1.length : Int) then (if ((a_a l0_1 (wrap64 (x10_1 - 1))).f0) ≥ ((a_a l0_1 x10_1).f0) then (some false) else ((a_X.f l0_1 ((a_a l0_1 x10_1).f0) ((a_a l0_1 x10_1).f1) ((a_a l0_1 x10_1).f2) ((a_a l0_1 x10_1).f3) ((a_a l0_1 x10_1).f4) ((a_a l0_1 x10_1).f5) ((a_a l0_1 x10_1).f6) ((a_a l0_1 x10_1).f7) ((a_a l0_1 x10_1).f8) ((a_a l0_1 x10_1).f9) ((a_a l0_1 x10_1).f10)).bind fun t117 => (if t117 = ((a_a l0_1 x10_1).f9) then ((a_V.f l0_1 ((a_a l0_1 x10_1).f0) ((a_a l0_1 x10_1).f1) ((a_a l0_1 x10_1).f2) ((a_a l0_1 x10_1).f3) ((a_a l0_1 x10_1).f4) ((a_a l0_1 x10_1).f5) ((a_a l0_1 x10_1).f6) ((a_a l0_1 x10_1).f7) ((a_a l0_1 x10_1).f8) ((a_a l0_1 x10_1).f9) ((a_a l0_1 x10_1).f10) ((a_a l0_1 x10_1).f0) ((a_a l0_1 x10_1).f1) ((a_a l0_1 x10_1).f2) ((a_a l0_1 x10_1).f3) ((a_a l0_1 x10_1).f4) ((a_a l0_1 x10_1).f5) ((a_a l0_1 x10_1).f6) ((a_a l0_1 x10_1).f7) ((a_a l0_1 x10_1).f8) ((a_a l0_1 x10_1).f9) ((a_a l0_1 x10_1).f10)).bind fun t118 => (if t118 = ((a_a l0_1 x10_1).f9) then (a_t.l0 k1 l0_1 (l0_1.length : Int) (wrap64 (x10_1 + 1)) a0_0 l0_1) else (some false))) else (some false)))) else (none)) else (none)) else ((a_X.f l0_1 ((a_a l0_1 x10_1).f0) ((a_a l0_1 x10_1).f1) ((a_a l0_1 x10_1).f2) ((a_a l0_1 x10_1).f3) ((a_a l0_1 x10_1).f4) ((a_a l0_1 x10_1).f5) ((a_a l0_1 x10_1).f6) ((a_a l0_1 x10_1).f7) ((a_a l0_1 x10_1).f8) ((a_a l0_1 x10_1).f9) ((a_a l0_1 x10_1).f10)).bind fun t119 => (if t119 = ((a_a l0_1 x10_1).f9) then ((a_V.f l0_1 ((a_a l0_1 x10_1).f0) ((a_a l0_1 x10_1).f1) ((a_a l0_1 x10_1).f2) ((a_a l0_1 x10_1).f3) ((a_a l0_1 x10_1).f4) ((a_a l0_1 x10_1).f5) ((a_a l0_1 x10_1).f6) ((a_a l0_1 x10_1).f7) ((a_a l0_1 x10_1).f8) ((a_a l0_1 x10_1).f9) ((a_a l0_1 x10_1).f10) ((a_a l0_1 x10_1).f0) ((a_a l0_1 x10_1).f1) ((a_a l0_1 x10_1).f2) ((a_a l0_1 x10_1).f3) ((a_a l0_1 x10_1).f4) ((a_a l0_1 x10_1).f5) ((a_a l0_1 x10_1).f6) ((a_a l0_1 x10_1).f7) ((a_a l0_1 x10_1).f8) ((a_a l0_1 x10_1).f9) ((a_a l0_1 x10_1).f10)).bind fun t120 => (if t120 = ((a_a l0_1 x10_1).f9) then (a_t.l0 k1 l0_1 (l0_1.length : Int) (wrap64 (x10_1 + 1)) a0_0 l0_1) else (some false))) else (some false)))) else (some false)) = some r:=H
   have A7:=a_f.mk A70
   clear A70
   by_cases c8 : t115 = true
   rotate_left
   ·replace c8:=Bool.eq_false_iff.mpr c8
    subst c8
    have H1 : (some false) = some r:=by rw [if_neg (show ¬ (false = true) by decide)] at H;exact H
    clear H
    have H:=H1
    clear H1
    obtain rfl:=Option.some.inj H
    refine d_R (n:=37) (S:=fun w' => w'.cell? ⟨a_Q,0,none⟩ = some (.int .i64 ((a_a l0_1 x10_1).f0)) ∧ w'.cell? ⟨a_Q,1,none⟩ = some (.int .i64 ((a_a l0_1 x10_1).f1)) ∧ w'.cell? ⟨a_Q,2,none⟩ = some (.int .i64 ((a_a l0_1 x10_1).f2)) ∧ w'.cell? ⟨a_Q,3,none⟩ = some (.int .i64 ((a_a l0_1 x10_1).f3)) ∧ w'.cell? ⟨a_Q,4,none⟩ = some (.int .i64 ((a_a l0_1 x10_1).f4)) ∧ w'.cell? ⟨a_Q,5,none⟩ = some (.bool ((a_a l0_1 x10_1).f5)) ∧ w'.cell? ⟨a_Q,6,none⟩ = some (.bool ((a_a l0_1 x10_1).f6)) ∧ w'.cell? ⟨a_Q,7,none⟩ = some (.int .u32 ((a_a l0_1 x10_1).f7)) ∧ w'.cell? ⟨a_Q,8,none⟩ = some (.int .i64 ((a_a l0_1 x10_1).f8)) ∧ w'.cell? ⟨a_Q,9,none⟩ = some (.int .i64 ((a_a l0_1 x10_1).f9)) ∧ w'.cell? ⟨a_Q,10,none⟩ = some (.int .i64 ((a_a l0_1 x10_1).f10))) (ds:=[]) Z0_ (by kernel_rfl) rfl rfl ⟨(a_b a_w.out 0).trans rfl,(a_b a_w.out 1).trans rfl,(a_b a_w.out 2).trans rfl,(a_b a_w.out 3).trans rfl,(a_b a_w.out 4).trans rfl,(a_b a_w.out 5).trans rfl,(a_b a_w.out 6).trans rfl,(a_b a_w.out 7).trans rfl,(a_b a_w.out 8).trans rfl,(a_b a_w.out 9).trans rfl,(a_b a_w.out 10).trans rfl⟩ (fun hHeld => ?_);refine b_5 a_t.tab6 a_t.f_w (fun HT_ HW_ => ?_)
    generalize w21.drew = w110 at a_Z a_w b_t HB hHeld ⊢
    refine b_v (i:=0) (N:=some 17) (v:=?_) (a':=?_) Z2_ rfl rfl (a_N HT_.out HW_.out (by kernel_rfl)) (fun _ _ _ h => h) (Or.inl ⟨by rfl,?_⟩) hHeld ?_ ?_
    rotate_left
    ·rintro w' ⟨s0,s1,s2,s3,s4,s5,s6,s7,s8,s9,s10⟩
     go_simp
     with_reducible rfl
    rotate_left
    ·simp only [Act.put,sa_,sb_,sc_,a_Y,a_0]
     rfl
    refine one_ (i:=1) (N:=some 18) Z4_ rfl rfl (c_B HT_.out (by kernel_rfl)) (by decide) (fun K hK => ?_)
    refine e_n Tryd.func35 (by kernel_rfl) rfl #[.agg #[.int .i64 ((a_a l0_1 x10_1).f0),.int .i64 ((a_a l0_1 x10_1).f1),.int .i64 ((a_a l0_1 x10_1).f2),.int .i64 ((a_a l0_1 x10_1).f3),.int .i64 ((a_a l0_1 x10_1).f4),.bool ((a_a l0_1 x10_1).f5),.bool ((a_a l0_1 x10_1).f6),.int .u32 ((a_a l0_1 x10_1).f7),.int .i64 ((a_a l0_1 x10_1).f8),.int .i64 ((a_a l0_1 x10_1).f9),.int .i64 ((a_a l0_1 x10_1).f10)]] (by rfl) rfl rfl (by (try simp only [List.map_toArray,List.map_cons,List.map_nil]);first|done|rfl|(simp only [List.length_drop,List.length_take];rfl)) ?_
    with_reducible refine (a_D.calls k1 ((a_a l0_1 x10_1).f0) ((a_a l0_1 x10_1).f1) ((a_a l0_1 x10_1).f2) ((a_a l0_1 x10_1).f3) ((a_a l0_1 x10_1).f4) ((a_a l0_1 x10_1).f5) ((a_a l0_1 x10_1).f6) ((a_a l0_1 x10_1).f7) ((a_a l0_1 x10_1).f8) ((a_a l0_1 x10_1).f9) ((a_a l0_1 x10_1).f10) false _ A7.out).mono ?_
    rintro e w111 ⟨rfl,hb⟩
    refine ⟨_,rfl,?_⟩
    replace a_Z:=a_f.mk (a_l (bup_ a_Z.out) hb)
    replace a_w:=a_f.mk (a_l (bup_ a_w.out) hb)
    replace b_t:=a_f.mk (a_l (bup_ b_t.out) hb)
    replace HB:=a_f.mk (a_q (by repeat (first|(with_reducible first|exact HB.out|apply a_j|apply a_h|apply a_k|refine a_i ?_ c_2.out|refine a_i ?_ d_E.out|refine a_i ?_ d_S.out)|exact HB.out)) hb)
    (try clear hb)
    (try clear hb2)
    (try clear hk)
    (try clear hi)
    refine hK.out _ _ ⟨(a_b a_w.out 0).trans rfl,(a_b a_w.out 1).trans rfl,(a_b a_w.out 2).trans rfl,(a_b a_w.out 3).trans rfl,(a_b a_w.out 4).trans rfl,(a_b a_w.out 5).trans rfl,(a_b a_w.out 6).trans rfl,(a_b a_w.out 7).trans rfl,(a_b a_w.out 8).trans rfl,(a_b a_w.out 9).trans rfl,(a_b a_w.out 10).trans rfl⟩ (fun hHeld => ?_)
    clear hK K
    refine d_Y (a':=?_) ?_ ?_
    rotate_left
    ·show Act.put _ (some 18) _ = _
     simp only [Act.put,sa_,sb_,sc_,a_Y,a_0]
     rfl
    refine pt_ 2 (some 19) Z6_ HT_ ?_
    refine pt_ 3 (some 20) Z8_ HT_ ?_
    refine pk_ 4 (some 21) Z10_ HT_ ?_
    refine pk_ 5 (some 22) Z13_ HT_ ?_
    refine pk_ 6 (some 23) Z14_ HT_ ?_
    refine pk_ 7 (some 24) Z16_ HT_ ?_
    refine pk_ 8 (some 25) Z21_ HT_ ?_
    refine pk_ 9 (some 26) Z23_ HT_ ?_
    refine pk_ 10 (some 27) Z25_ HT_ ?_
    refine pk_ 11 (some 28) Z28_ HT_ ?_
    refine pk_ 12 (some 29) Z31_ HT_ ?_
    refine pk_ 13 (some 30) Z34_ HT_ ?_
    refine pk_ 14 (some 31) Z36_ HT_ ?_
    refine pk_ 15 (some 32) Z41_ HT_ ?_
    refine pk_ 16 (some 33) Z43_ HT_ ?_
    refine pk_ 17 (some 34) Z45_ HT_ ?_
    refine pt_ 18 (some 35) Z48_ HT_ ?_
    refine pt_ 19 (some 36) Z51_ HT_ ?_
    refine pk_ 20 (some 37) Z54_ HT_ ?_
    refine pk_ 21 (some 38) Z57_ HT_ ?_
    refine pk_ 22 (some 39) Z60_ HT_ ?_
    refine pk_ 23 (some 40) Z64_ HT_ ?_
    refine pk_ 24 (some 41) Z66_ HT_ ?_
    refine pk_ 25 (some 42) Z68_ HT_ ?_
    refine pk_ 26 (some 43) Z69_ HT_ ?_
    refine pt_ 27 (some 44) Z70_ HT_ ?_
    refine pt_ 28 (some 45) Z71_ HT_ ?_
    refine pk_ 29 (some 46) Z72_ HT_ ?_
    refine pk_ 30 (some 47) Z75_ HT_ ?_
    refine pk_ 31 (some 48) Z76_ HT_ ?_
    refine pk_ 32 (some 49) Z79_ HT_ ?_
    refine pk_ 33 (some 50) Z80_ HT_ ?_
    refine pk_ 34 (some 51) Z81_ HT_ ?_
    refine pk_ 35 (some 52) Z82_ HT_ ?_
    refine pt_ 36 (some 53) Z83_ HT_ ?_
    refine e_L (c_Z HT_.out (by kernel_rfl)) ?_
    try go_wp2
    go_ret
    exact ⟨by first|rfl|(simp [a_u,a_v] <;> rfl)|(simp [*, a_u,a_v] <;> rfl),by repeat (first|(with_reducible first|exact HB.out|apply a_j|apply a_h|apply a_k|refine a_i ?_ c_2.out|refine a_i ?_ d_E.out|refine a_i ?_ d_S.out)|exact HB.out)⟩
   subst c8
   have H1 : (if x10_1 > 0 then (if 0 ≤ (wrap64 (x10_1 - 1)) then (if (wrap64 (x10_1 - 1)) < (l0_1.length : Int) then (if ((a_a l0_1 (wrap64 (x10_1 - 1))).f0) ≥ ((a_a l0_1 x10_1).f0) then (some false) else ((a_X.f l0_1 ((a_a l0_1 x10_1).f0) ((a_a l0_1 x10_1).f1) ((a_a l0_1 x10_1).f2) ((a_a l0_1 x10_1).f3) ((a_a l0_1 x10_1).f4) ((a_a l0_1 x10_1).f5) ((a_a l0_1 x10_1).f6) ((a_a l0_1 x10_1).f7) ((a_a l0_1 x10_1).f8) ((a_a l0_1 x10_1).f9) ((a_a l0_1 x10_1).f10)).bind fun t117 => (if t117 = ((a_a l0_1 x10_1).f9) then ((a_V.f l0_1 ((a_a l0_1 x10_1).f0) ((a_a l0_1 x10_1).f1) ((a_a l0_1 x10_1).f2) ((a_a l0_1 x10_1).f3) ((a_a l0_1 x10_1).f4) ((a_a l0_1 x10_1).f5) ((a_a l0_1 x10_1).f6) ((a_a l0_1 x10_1).f7) ((a_a l0_1 x10_1).f8) ((a_a l0_1 x10_1).f9) ((a_a l0_1 x10_1).f10) ((a_a l0_1 x10_1).f0) ((a_a l0_1 x10_1).f1) ((a_a l0_1 x10_1).f2) ((a_a l0_1 x10_1).f3) ((a_a l0_1 x10_1).f4) ((a_a l0_1 x10_1).f5) ((a_a l0_1 x10_1).f6) ((a_a l0_1 x10_1).f7) ((a_a l0_1 x10_1).f8) ((a_a l0_1 x10_1).f9) ((a_a l0_1 x10_1).f10)).bind fun t118 => (if t118 = ((a_a l0_1 x10_1).f9) then (a_t.l0 k1 l0_1 (l0_1.length : Int) (wrap64 (x10_1 + 1)) a0_0 l0_1) else (some false))) else (some false)))) else (none)) else (none)) else ((a_X.f l0_1 ((a_a l0_1 x10_1).f0) ((a_a l0_1 x10_1).f1) ((a_a l0_1 x10_1).f2) ((a_a l0_1 x10_1).f3) ((a_a l0_1 x10_1).f4) ((a_a l0_1 x10_1).f5) ((a_a l0_1 x10_1).f6) ((a_a l0_1 x10_1).f7) ((a_a l0_1 x10_1).f8) ((a_a l0_1 x10_1).f9) ((a_a l0_1 x10_1).f10)).bind fun t119 => (if t119 = ((a_a l0_1 x10_1).f9) then ((a_V.f l0_1 ((a_a l0_1 x10_1).f0) ((a_a l0_1 x10_1).f1) ((a_a l0_1 x10_1).f2) ((a_a l0_1 x10_1).f3) ((a_a l0_1 x10_1).f4) ((a_a l0_1 x10_1).f5) ((a_a l0_1 x10_1).f6) ((a_a l0_1 x10_1).f7) ((a_a l0_1 x10_1).f8) ((a_a l0_1 x10_1).f9) ((a_a l0_1 x10_1).f10) ((a_a l0_1 x10_1).f0) ((a_a l0_1 x10_1).f1) ((a_a l0_1 x10_1).f2) ((a_a l0_1 x10_1).f3) ((a_a l0_1 x10_1).f4) ((a_a l0_1 x10_1).f5) ((a_a l0_1 x10_1).f6) ((a_a l0_1 x10_1).f7) ((a_a l0_1 x10_1).f8) ((a_a l0_1 x10_1).f9) ((a_a l0_1 x10_1).f10)).bind fun t120 => (if t120 = ((a_a l0_1 x10_1).f9) then (a_t.l0 k1 l0_1 (l0_1.length : Int) (wrap64 (x10_1 + 1)) a0_0 l0_1) else (some false))) else (some false)))) = some r:=by rw [if_pos rfl] at H;exact H
   clear H
   have H:=H1
   clear H1
   by_cases c9 : x10_1 > 0
   rotate_left
   ·rw [if_neg c9] at H
    have c9b0 : decide (0 < x10_1) = false:=decide_eq_false c9
    clear c9
    replace H:=Option.bind_eq_some_iff.mp H
    obtain ⟨t119,A630,H⟩:=H
    replace H : (if t119 = ((a_a l0_1 x10_1).f9) then ((a_V.f l0_1 ((a_a l0_1 x10_1).f0) ((a_a l0_1 x10_1).f1) ((a_a l0_1 x10_1).f2) ((a_a l0_1 x10_1).f3) ((a_a l0_1 x10_1).f4) ((a_a l0_1 x10_1).f5) ((a_a l0_1 x10_1).f6) ((a_a l0_1 x10_1).f7) ((a_a l0_1 x10_1).f8) ((a_a l0_1 x10_1).f9) ((a_a l0_1 x10_1).f10) ((a_a l0_1 x10_1).f0) ((a_a l0_1 x10_1).f1) ((a_a l0_1 x10_1).f2) ((a_a l0_1 x10_1).f3) ((a_a l0_1 x10_1).f4) ((a_a l0_1 x10_1).f5) ((a_a l0_1 x10_1).f6) ((a_a l0_1 x10_1).f7) ((a_a l0_1 x10_1).f8) ((a_a l0_1 x10_1).f9) ((a_a l0_1 x10_1).f10)).bind fun t120 => (if t120 = ((a_a l0_1 x10_1).f9) then (a_t.l0 k1 l0_1 (l0_1.length : Int) (wrap64 (x10_1 + 1)) a0_0 l0_1) else (some false))) else (some false)) = some r:=H
    have A63:=a_f.mk A630
    clear A630
    by_cases c64 : t119 = ((a_a l0_1 x10_1).f9)
    rotate_left
    ·rw [if_neg c64] at H
     have c64b0 : (t119 == ((a_a l0_1 x10_1).f9)) = false:=beq_eq_false_iff_ne.mpr c64
     have c64b1 : (t119 != ((a_a l0_1 x10_1).f9)) = true:=bne_iff_ne.mpr c64
     obtain rfl:=Option.some.inj H
     refine d_R (n:=37) (S:=fun w' => w'.cell? ⟨a_Q,0,none⟩ = some (.int .i64 ((a_a l0_1 x10_1).f0)) ∧ w'.cell? ⟨a_Q,1,none⟩ = some (.int .i64 ((a_a l0_1 x10_1).f1)) ∧ w'.cell? ⟨a_Q,2,none⟩ = some (.int .i64 ((a_a l0_1 x10_1).f2)) ∧ w'.cell? ⟨a_Q,3,none⟩ = some (.int .i64 ((a_a l0_1 x10_1).f3)) ∧ w'.cell? ⟨a_Q,4,none⟩ = some (.int .i64 ((a_a l0_1 x10_1).f4)) ∧ w'.cell? ⟨a_Q,5,none⟩ = some (.bool ((a_a l0_1 x10_1).f5)) ∧ w'.cell? ⟨a_Q,6,none⟩ = some (.bool ((a_a l0_1 x10_1).f6)) ∧ w'.cell? ⟨a_Q,7,none⟩ = some (.int .u32 ((a_a l0_1 x10_1).f7)) ∧ w'.cell? ⟨a_Q,8,none⟩ = some (.int .i64 ((a_a l0_1 x10_1).f8)) ∧ w'.cell? ⟨a_Q,9,none⟩ = some (.int .i64 ((a_a l0_1 x10_1).f9)) ∧ w'.cell? ⟨a_Q,10,none⟩ = some (.int .i64 ((a_a l0_1 x10_1).f10)) ∧ w'.cell? ⟨d_i,0,none⟩ = some (.int .i64 a0_0) ∧ w'.cell? ⟨d_i,1,none⟩ = some (.slice (some ad112) l0_1.length c0_1) ∧ w'.cell? ⟨d_X,0,none⟩ = some (.func (.func 33) #[] #[.pointer (some ⟨a_Q,0,none⟩)])) (ds:=[]) Z0_ (by kernel_rfl) rfl rfl ⟨(a_b a_w.out 0).trans rfl,(a_b a_w.out 1).trans rfl,(a_b a_w.out 2).trans rfl,(a_b a_w.out 3).trans rfl,(a_b a_w.out 4).trans rfl,(a_b a_w.out 5).trans rfl,(a_b a_w.out 6).trans rfl,(a_b a_w.out 7).trans rfl,(a_b a_w.out 8).trans rfl,(a_b a_w.out 9).trans rfl,(a_b a_w.out 10).trans rfl,(a_b a_Z.out 0).trans rfl,(a_b a_Z.out 1).trans rfl,(a_b b_t.out 0).trans rfl⟩ (fun hHeld => ?_);refine b_5 a_t.tab6 a_t.f_w (fun HT_ HW_ => ?_)
     generalize w21.drew = w99 at a_Z a_w b_t HB hHeld ⊢
     refine b_v (i:=0) (N:=some 17) (v:=?_) (a':=?_) Z2_ rfl rfl (a_N HT_.out HW_.out (by kernel_rfl)) (fun _ _ _ h => h) (Or.inl ⟨by rfl,?_⟩) hHeld ?_ ?_
     rotate_left
     ·rintro w' ⟨s0,s1,s2,s3,s4,s5,s6,s7,s8,s9,s10,s11,s12,s13⟩
      go_simp
      with_reducible rfl
     rotate_left
     ·simp only [Act.put,sa_,sb_,sc_,a_Y,a_0]
      rfl
     refine one_ (i:=1) (N:=some 18) Z4_ rfl rfl (c_B HT_.out (by kernel_rfl)) (by decide) (fun K hK => ?_)
     refine e_n Tryd.func35 (by kernel_rfl) rfl #[.agg #[.int .i64 ((a_a l0_1 x10_1).f0),.int .i64 ((a_a l0_1 x10_1).f1),.int .i64 ((a_a l0_1 x10_1).f2),.int .i64 ((a_a l0_1 x10_1).f3),.int .i64 ((a_a l0_1 x10_1).f4),.bool ((a_a l0_1 x10_1).f5),.bool ((a_a l0_1 x10_1).f6),.int .u32 ((a_a l0_1 x10_1).f7),.int .i64 ((a_a l0_1 x10_1).f8),.int .i64 ((a_a l0_1 x10_1).f9),.int .i64 ((a_a l0_1 x10_1).f10)]] (by rfl) rfl rfl (by (try simp only [List.map_toArray,List.map_cons,List.map_nil]);first|done|rfl|(simp only [List.length_drop,List.length_take];rfl)) ?_
     with_reducible refine (a_D.calls k1 ((a_a l0_1 x10_1).f0) ((a_a l0_1 x10_1).f1) ((a_a l0_1 x10_1).f2) ((a_a l0_1 x10_1).f3) ((a_a l0_1 x10_1).f4) ((a_a l0_1 x10_1).f5) ((a_a l0_1 x10_1).f6) ((a_a l0_1 x10_1).f7) ((a_a l0_1 x10_1).f8) ((a_a l0_1 x10_1).f9) ((a_a l0_1 x10_1).f10) true _ A7.out).mono ?_
     rintro e w100 ⟨rfl,hb⟩
     refine ⟨_,rfl,?_⟩
     replace a_Z:=a_f.mk (a_l (bup_ a_Z.out) hb)
     replace a_w:=a_f.mk (a_l (bup_ a_w.out) hb)
     replace b_t:=a_f.mk (a_l (bup_ b_t.out) hb)
     replace HB:=a_f.mk (a_q (by repeat (first|(with_reducible first|exact HB.out|apply a_j|apply a_h|apply a_k|refine a_i ?_ c_2.out|refine a_i ?_ d_E.out|refine a_i ?_ d_S.out)|exact HB.out)) hb)
     (try clear hb)
     (try clear hb2)
     (try clear hk)
     (try clear hi)
     refine hK.out _ _ ⟨(a_b a_w.out 0).trans rfl,(a_b a_w.out 1).trans rfl,(a_b a_w.out 2).trans rfl,(a_b a_w.out 3).trans rfl,(a_b a_w.out 4).trans rfl,(a_b a_w.out 5).trans rfl,(a_b a_w.out 6).trans rfl,(a_b a_w.out 7).trans rfl,(a_b a_w.out 8).trans rfl,(a_b a_w.out 9).trans rfl,(a_b a_w.out 10).trans rfl,(a_b a_Z.out 0).trans rfl,(a_b a_Z.out 1).trans rfl,(a_b b_t.out 0).trans rfl⟩ (fun hHeld => ?_)
     clear hK K
     refine d_Y (a':=?_) ?_ ?_
     rotate_left
     ·show Act.put _ (some 18) _ = _
      simp only [Act.put,sa_,sb_,sc_,a_Y,a_0]
      rfl
     refine pt_ 2 (some 19) Z6_ HT_ ?_
     refine pt_ 3 (some 20) Z8_ HT_ ?_
     refine pt_ 4 (some 21) Z10_ HT_ ?_
     refine pt_ 5 (some 22) Z13_ HT_ ?_
     refine pt_ 6 (some 23) Z14_ HT_ ?_
     refine pk_ 7 (some 24) Z16_ HT_ ?_
     refine pk_ 8 (some 25) Z21_ HT_ ?_
     refine pk_ 9 (some 26) Z23_ HT_ ?_
     refine pk_ 10 (some 27) Z25_ HT_ ?_
     refine pk_ 11 (some 28) Z28_ HT_ ?_
     refine pk_ 12 (some 29) Z31_ HT_ ?_
     refine pk_ 13 (some 30) Z34_ HT_ ?_
     refine pk_ 14 (some 31) Z36_ HT_ ?_
     refine pk_ 15 (some 32) Z41_ HT_ ?_
     refine pk_ 16 (some 33) Z43_ HT_ ?_
     refine pt_ 17 (some 34) Z45_ HT_ ?_
     refine pt_ 18 (some 35) Z48_ HT_ ?_
     refine pt_ 19 (some 36) Z51_ HT_ ?_
     refine pt_ 20 (some 37) Z54_ HT_ ?_
     refine pt_ 24 (some 41) Z56_ HT_ ?_
     refine b_v (i:=21) (N:=some 38) (v:=?_) (a':=?_) Z59_ rfl rfl (a_N HT_.out HW_.out (by kernel_rfl)) (fun _ _ _ h => h) (Or.inl ⟨by rfl,?_⟩) hHeld ?_ ?_
     rotate_left
     ·rintro w' ⟨s0,s1,s2,s3,s4,s5,s6,s7,s8,s9,s10,s11,s12,s13⟩
      go_simp
      with_reducible rfl
     rotate_left
     ·simp only [Act.put,sa_,sb_,sc_,a_Y,a_0]
      rfl
     refine b_v (i:=22) (N:=some 39) (v:=?_) (a':=?_) Z62_ rfl rfl (a_N HT_.out HW_.out (by kernel_rfl)) (fun _ _ _ h => h) (Or.inl ⟨by rfl,?_⟩) hHeld ?_ ?_
     rotate_left
     ·rintro w' ⟨s0,s1,s2,s3,s4,s5,s6,s7,s8,s9,s10,s11,s12,s13⟩
      go_simp
      with_reducible rfl
     rotate_left
     ·simp only [Act.put,sa_,sb_,sc_,a_Y,a_0]
      rfl
     refine b_v (i:=25) (N:=some 42) (v:=?_) (a':=?_) Z63_ rfl rfl (a_N HT_.out HW_.out (by kernel_rfl)) (fun _ _ _ h => h) (Or.inl ⟨by rfl,?_⟩) hHeld ?_ ?_
     rotate_left
     ·rintro w' ⟨s0,s1,s2,s3,s4,s5,s6,s7,s8,s9,s10,s11,s12,s13⟩
      go_simp
      with_reducible rfl
     rotate_left
     ·simp only [Act.put,sa_,sb_,sc_,a_Y,a_0]
      rfl
     refine one_ (i:=23) (N:=some 40) Z68_ rfl rfl (c_B HT_.out (by kernel_rfl)) (by decide) (fun K hK => ?_)
     refine e_n Tryd.func23 (by kernel_rfl) rfl #[.slice (some ad112) l0_1.length c0_1,.func (.func 33) #[] #[.pointer (some ⟨a_Q,0,none⟩)]] (by rfl) rfl rfl (by (try simp only [List.map_toArray,List.map_cons,List.map_nil]);first|done|rfl|(simp only [List.length_drop,List.length_take];rfl)) ?_
     with_reducible refine (a_X.calls _ _ l0_1 a_Q ((a_a l0_1 x10_1).f0) ((a_a l0_1 x10_1).f1) ((a_a l0_1 x10_1).f2) ((a_a l0_1 x10_1).f3) ((a_a l0_1 x10_1).f4) ((a_a l0_1 x10_1).f5) ((a_a l0_1 x10_1).f6) ((a_a l0_1 x10_1).f7) ((a_a l0_1 x10_1).f8) ((a_a l0_1 x10_1).f9) ((a_a l0_1 x10_1).f10) t119 _ ?side1 ?side2 ?side3 A63.out).mono ?_
     (case side1 => repeat (first|exact (Kd.b_i c_c.out HB.out)|(with_reducible refine Kd.b_b ?_ _)|(with_reducible refine Kd.b_c ?_ _)|(with_reducible refine Kd.b_z ?_)))
     (case side2 => exact d_I.out)
     (case side3 => exact (bup_ a_w.out))
     rintro e w101 ⟨rfl,hb⟩
     refine ⟨_,rfl,?_⟩
     replace a_Z:=a_f.mk (a_l (bup_ a_Z.out) hb)
     replace a_w:=a_f.mk (a_l (bup_ a_w.out) hb)
     replace b_t:=a_f.mk (a_l (bup_ b_t.out) hb)
     replace HB:=a_f.mk (a_q (by repeat (first|(with_reducible first|exact HB.out|apply a_j|apply a_h|apply a_k|refine a_i ?_ c_2.out|refine a_i ?_ d_E.out|refine a_i ?_ d_S.out)|exact HB.out)) hb)
     (try clear hb)
     (try clear hb2)
     (try clear hk)
     (try clear hi)
     refine hK.out _ _ ⟨(a_b a_w.out 0).trans rfl,(a_b a_w.out 1).trans rfl,(a_b a_w.out 2).trans rfl,(a_b a_w.out 3).trans rfl,(a_b a_w.out 4).trans rfl,(a_b a_w.out 5).trans rfl,(a_b a_w.out 6).trans rfl,(a_b a_w.out 7).trans rfl,(a_b a_w.out 8).trans rfl,(a_b a_w.out 9).trans rfl,(a_b a_w.out 10).trans rfl,(a_b a_Z.out 0).trans rfl,(a_b a_Z.out 1).trans rfl,(a_b b_t.out 0).trans rfl⟩ (fun hHeld => ?_)
     clear hK K
     refine d_Y (a':=?_) ?_ ?_
     rotate_left
     ·show Act.put _ (some 40) _ = _
      simp only [Act.put,sa_,sb_,sc_,a_Y,a_0]
      rfl
     refine pt_ 26 (some 43) Z69_ HT_ ?_
     refine pt_ 27 (some 44) Z70_ HT_ ?_
     refine pt_ 28 (some 45) Z71_ HT_ ?_
     refine pk_ 29 (some 46) Z72_ HT_ ?_
     refine pk_ 30 (some 47) Z75_ HT_ ?_
     refine pk_ 31 (some 48) Z76_ HT_ ?_
     refine pk_ 32 (some 49) Z79_ HT_ ?_
     refine pk_ 33 (some 50) Z80_ HT_ ?_
     refine pk_ 34 (some 51) Z81_ HT_ ?_
     refine pk_ 35 (some 52) Z82_ HT_ ?_
     refine pt_ 36 (some 53) Z83_ HT_ ?_
     refine e_L (c_Z HT_.out (by kernel_rfl)) ?_
     try go_wp2
     go_ret
     exact ⟨by first|rfl|(simp [a_u,a_v] <;> rfl)|(simp [*, a_u,a_v] <;> rfl),by repeat (first|(with_reducible first|exact HB.out|apply a_j|apply a_h|apply a_k|refine a_i ?_ c_2.out|refine a_i ?_ d_E.out|refine a_i ?_ d_S.out)|exact HB.out)⟩
    rw [if_pos c64] at H
    have c64b0 : (t119 == ((a_a l0_1 x10_1).f9)) = true:=beq_iff_eq.mpr c64
    have c64b1 : (t119 != ((a_a l0_1 x10_1).f9)) = false:=bne_eq_false_iff_eq.mpr c64
    clear c64
    replace H:=Option.bind_eq_some_iff.mp H
    obtain ⟨t120,A650,H⟩:=H
    replace H : (if t120 = ((a_a l0_1 x10_1).f9) then (a_t.l0 k1 l0_1 (l0_1.length : Int) (wrap64 (x10_1 + 1)) a0_0 l0_1) else (some false)) = some r:=H
    have A65:=a_f.mk A650
    clear A650
    by_cases c66 : t120 = ((a_a l0_1 x10_1).f9)
    rotate_left
    ·rw [if_neg c66] at H
     have c66b0 : (t120 == ((a_a l0_1 x10_1).f9)) = false:=beq_eq_false_iff_ne.mpr c66
     have c66b1 : (t120 != ((a_a l0_1 x10_1).f9)) = true:=bne_iff_ne.mpr c66
     obtain rfl:=Option.some.inj H
     refine d_R (n:=37) (S:=fun w' => w'.cell? ⟨a_Q,0,none⟩ = some (.int .i64 ((a_a l0_1 x10_1).f0)) ∧ w'.cell? ⟨a_Q,1,none⟩ = some (.int .i64 ((a_a l0_1 x10_1).f1)) ∧ w'.cell? ⟨a_Q,2,none⟩ = some (.int .i64 ((a_a l0_1 x10_1).f2)) ∧ w'.cell? ⟨a_Q,3,none⟩ = some (.int .i64 ((a_a l0_1 x10_1).f3)) ∧ w'.cell? ⟨a_Q,4,none⟩ = some (.int .i64 ((a_a l0_1 x10_1).f4)) ∧ w'.cell? ⟨a_Q,5,none⟩ = some (.bool ((a_a l0_1 x10_1).f5)) ∧ w'.cell? ⟨a_Q,6,none⟩ = some (.bool ((a_a l0_1 x10_1).f6)) ∧ w'.cell? ⟨a_Q,7,none⟩ = some (.int .u32 ((a_a l0_1 x10_1).f7)) ∧ w'.cell? ⟨a_Q,8,none⟩ = some (.int .i64 ((a_a l0_1 x10_1).f8)) ∧ w'.cell? ⟨a_Q,9,none⟩ = some (.int .i64 ((a_a l0_1 x10_1).f9)) ∧ w'.cell? ⟨a_Q,10,none⟩ = some (.int .i64 ((a_a l0_1 x10_1).f10)) ∧ w'.cell? ⟨d_i,0,none⟩ = some (.int .i64 a0_0) ∧ w'.cell? ⟨d_i,1,none⟩ = some (.slice (some ad112) l0_1.length c0_1) ∧ w'.cell? ⟨d_X,0,none⟩ = some (.func (.func 33) #[] #[.pointer (some ⟨a_Q,0,none⟩)])) (ds:=[]) Z0_ (by kernel_rfl) rfl rfl ⟨(a_b a_w.out 0).trans rfl,(a_b a_w.out 1).trans rfl,(a_b a_w.out 2).trans rfl,(a_b a_w.out 3).trans rfl,(a_b a_w.out 4).trans rfl,(a_b a_w.out 5).trans rfl,(a_b a_w.out 6).trans rfl,(a_b a_w.out 7).trans rfl,(a_b a_w.out 8).trans rfl,(a_b a_w.out 9).trans rfl,(a_b a_w.out 10).trans rfl,(a_b a_Z.out 0).trans rfl,(a_b a_Z.out 1).trans rfl,(a_b b_t.out 0).trans rfl⟩ (fun hHeld => ?_);refine b_5 a_t.tab6 a_t.f_w (fun HT_ HW_ => ?_)
     generalize w21.drew = w87 at a_Z a_w b_t HB hHeld ⊢
     refine b_v (i:=0) (N:=some 17) (v:=?_) (a':=?_) Z2_ rfl rfl (a_N HT_.out HW_.out (by kernel_rfl)) (fun _ _ _ h => h) (Or.inl ⟨by rfl,?_⟩) hHeld ?_ ?_
     rotate_left
     ·rintro w' ⟨s0,s1,s2,s3,s4,s5,s6,s7,s8,s9,s10,s11,s12,s13⟩
      go_simp
      with_reducible rfl
     rotate_left
     ·simp only [Act.put,sa_,sb_,sc_,a_Y,a_0]
      rfl
     refine one_ (i:=1) (N:=some 18) Z4_ rfl rfl (c_B HT_.out (by kernel_rfl)) (by decide) (fun K hK => ?_)
     refine e_n Tryd.func35 (by kernel_rfl) rfl #[.agg #[.int .i64 ((a_a l0_1 x10_1).f0),.int .i64 ((a_a l0_1 x10_1).f1),.int .i64 ((a_a l0_1 x10_1).f2),.int .i64 ((a_a l0_1 x10_1).f3),.int .i64 ((a_a l0_1 x10_1).f4),.bool ((a_a l0_1 x10_1).f5),.bool ((a_a l0_1 x10_1).f6),.int .u32 ((a_a l0_1 x10_1).f7),.int .i64 ((a_a l0_1 x10_1).f8),.int .i64 ((a_a l0_1 x10_1).f9),.int .i64 ((a_a l0_1 x10_1).f10)]] (by rfl) rfl rfl (by (try simp only [List.map_toArray,List.map_cons,List.map_nil]);first|done|rfl|(simp only [List.length_drop,List.length_take];rfl)) ?_
     with_reducible refine (a_D.calls k1 ((a_a l0_1 x10_1).f0) ((a_a l0_1 x10_1).f1) ((a_a l0_1 x10_1).f2) ((a_a l0_1 x10_1).f3) ((a_a l0_1 x10_1).f4) ((a_a l0_1 x10_1).f5) ((a_a l0_1 x10_1).f6) ((a_a l0_1 x10_1).f7) ((a_a l0_1 x10_1).f8) ((a_a l0_1 x10_1).f9) ((a_a l0_1 x10_1).f10) true _ A7.out).mono ?_
     rintro e w88 ⟨rfl,hb⟩
     refine ⟨_,rfl,?_⟩
     replace a_Z:=a_f.mk (a_l (bup_ a_Z.out) hb)
     replace a_w:=a_f.mk (a_l (bup_ a_w.out) hb)
     replace b_t:=a_f.mk (a_l (bup_ b_t.out) hb)
     replace HB:=a_f.mk (a_q (by repeat (first|(with_reducible first|exact HB.out|apply a_j|apply a_h|apply a_k|refine a_i ?_ c_2.out|refine a_i ?_ d_E.out|refine a_i ?_ d_S.out)|exact HB.out)) hb)
     (try clear hb)
     (try clear hb2)
     (try clear hk)
     (try clear hi)
     refine hK.out _ _ ⟨(a_b a_w.out 0).trans rfl,(a_b a_w.out 1).trans rfl,(a_b a_w.out 2).trans rfl,(a_b a_w.out 3).trans rfl,(a_b a_w.out 4).trans rfl,(a_b a_w.out 5).trans rfl,(a_b a_w.out 6).trans rfl,(a_b a_w.out 7).trans rfl,(a_b a_w.out 8).trans rfl,(a_b a_w.out 9).trans rfl,(a_b a_w.out 10).trans rfl,(a_b a_Z.out 0).trans rfl,(a_b a_Z.out 1).trans rfl,(a_b b_t.out 0).trans rfl⟩ (fun hHeld => ?_)
     clear hK K
     refine d_Y (a':=?_) ?_ ?_
     rotate_left
     ·show Act.put _ (some 18) _ = _
      simp only [Act.put,sa_,sb_,sc_,a_Y,a_0]
      rfl
     refine pt_ 2 (some 19) Z6_ HT_ ?_
     refine pt_ 3 (some 20) Z8_ HT_ ?_
     refine pt_ 4 (some 21) Z10_ HT_ ?_
     refine pt_ 5 (some 22) Z13_ HT_ ?_
     refine pt_ 6 (some 23) Z14_ HT_ ?_
     refine pk_ 7 (some 24) Z16_ HT_ ?_
     refine pk_ 8 (some 25) Z21_ HT_ ?_
     refine pk_ 9 (some 26) Z23_ HT_ ?_
     refine pk_ 10 (some 27) Z25_ HT_ ?_
     refine pk_ 11 (some 28) Z28_ HT_ ?_
     refine pk_ 12 (some 29) Z31_ HT_ ?_
     refine pk_ 13 (some 30) Z34_ HT_ ?_
     refine pk_ 14 (some 31) Z36_ HT_ ?_
     refine pk_ 15 (some 32) Z41_ HT_ ?_
     refine pk_ 16 (some 33) Z43_ HT_ ?_
     refine pt_ 17 (some 34) Z45_ HT_ ?_
     refine pt_ 18 (some 35) Z48_ HT_ ?_
     refine pt_ 19 (some 36) Z51_ HT_ ?_
     refine pt_ 20 (some 37) Z54_ HT_ ?_
     refine pt_ 24 (some 41) Z56_ HT_ ?_
     refine b_v (i:=21) (N:=some 38) (v:=?_) (a':=?_) Z59_ rfl rfl (a_N HT_.out HW_.out (by kernel_rfl)) (fun _ _ _ h => h) (Or.inl ⟨by rfl,?_⟩) hHeld ?_ ?_
     rotate_left
     ·rintro w' ⟨s0,s1,s2,s3,s4,s5,s6,s7,s8,s9,s10,s11,s12,s13⟩
      go_simp
      with_reducible rfl
     rotate_left
     ·simp only [Act.put,sa_,sb_,sc_,a_Y,a_0]
      rfl
     refine b_v (i:=22) (N:=some 39) (v:=?_) (a':=?_) Z62_ rfl rfl (a_N HT_.out HW_.out (by kernel_rfl)) (fun _ _ _ h => h) (Or.inl ⟨by rfl,?_⟩) hHeld ?_ ?_
     rotate_left
     ·rintro w' ⟨s0,s1,s2,s3,s4,s5,s6,s7,s8,s9,s10,s11,s12,s13⟩
      go_simp
      with_reducible rfl
     rotate_left
     ·simp only [Act.put,sa_,sb_,sc_,a_Y,a_0]
      rfl
     refine b_v (i:=25) (N:=some 42) (v:=?_) (a':=?_) Z63_ rfl rfl (a_N HT_.out HW_.out (by kernel_rfl)) (fun _ _ _ h => h) (Or.inl ⟨by rfl,?_⟩) hHeld ?_ ?_
     rotate_left
     ·rintro w' ⟨s0,s1,s2,s3,s4,s5,s6,s7,s8,s9,s10,s11,s12,s13⟩
      go_simp
      with_reducible rfl
     rotate_left
     ·simp only [Act.put,sa_,sb_,sc_,a_Y,a_0]
      rfl
     refine one_ (i:=23) (N:=some 40) Z68_ rfl rfl (c_B HT_.out (by kernel_rfl)) (by decide) (fun K hK => ?_)
     refine e_n Tryd.func23 (by kernel_rfl) rfl #[.slice (some ad112) l0_1.length c0_1,.func (.func 33) #[] #[.pointer (some ⟨a_Q,0,none⟩)]] (by rfl) rfl rfl (by (try simp only [List.map_toArray,List.map_cons,List.map_nil]);first|done|rfl|(simp only [List.length_drop,List.length_take];rfl)) ?_
     with_reducible refine (a_X.calls _ _ l0_1 a_Q ((a_a l0_1 x10_1).f0) ((a_a l0_1 x10_1).f1) ((a_a l0_1 x10_1).f2) ((a_a l0_1 x10_1).f3) ((a_a l0_1 x10_1).f4) ((a_a l0_1 x10_1).f5) ((a_a l0_1 x10_1).f6) ((a_a l0_1 x10_1).f7) ((a_a l0_1 x10_1).f8) ((a_a l0_1 x10_1).f9) ((a_a l0_1 x10_1).f10) t119 _ ?side1 ?side2 ?side3 A63.out).mono ?_
     (case side1 => repeat (first|exact (Kd.b_i c_c.out HB.out)|(with_reducible refine Kd.b_b ?_ _)|(with_reducible refine Kd.b_c ?_ _)|(with_reducible refine Kd.b_z ?_)))
     (case side2 => exact d_I.out)
     (case side3 => exact (bup_ a_w.out))
     rintro e w89 ⟨rfl,hb⟩
     refine ⟨_,rfl,?_⟩
     replace a_Z:=a_f.mk (a_l (bup_ a_Z.out) hb)
     replace a_w:=a_f.mk (a_l (bup_ a_w.out) hb)
     replace b_t:=a_f.mk (a_l (bup_ b_t.out) hb)
     replace HB:=a_f.mk (a_q (by repeat (first|(with_reducible first|exact HB.out|apply a_j|apply a_h|apply a_k|refine a_i ?_ c_2.out|refine a_i ?_ d_E.out|refine a_i ?_ d_S.out)|exact HB.out)) hb)
     (try clear hb)
     (try clear hb2)
     (try clear hk)
     (try clear hi)
     refine hK.out _ _ ⟨(a_b a_w.out 0).trans rfl,(a_b a_w.out 1).trans rfl,(a_b a_w.out 2).trans rfl,(a_b a_w.out 3).trans rfl,(a_b a_w.out 4).trans rfl,(a_b a_w.out 5).trans rfl,(a_b a_w.out 6).trans rfl,(a_b a_w.out 7).trans rfl,(a_b a_w.out 8).trans rfl,(a_b a_w.out 9).trans rfl,(a_b a_w.out 10).trans rfl,(a_b a_Z.out 0).trans rfl,(a_b a_Z.out 1).trans rfl,(a_b b_t.out 0).trans rfl⟩ (fun hHeld => ?_)
     clear hK K
     refine d_Y (a':=?_) ?_ ?_
     rotate_left
     ·show Act.put _ (some 40) _ = _
      simp only [Act.put,sa_,sb_,sc_,a_Y,a_0]
      rfl
     refine pt_ 26 (some 43) Z69_ HT_ ?_
     refine pt_ 27 (some 44) Z70_ HT_ ?_
     refine pt_ 28 (some 45) Z71_ HT_ ?_
     refine pt_ 29 (some 46) Z72_ HT_ ?_
     refine pt_ 31 (some 48) Z73_ HT_ ?_
     refine pt_ 33 (some 50) Z74_ HT_ ?_
     refine b_v (i:=30) (N:=some 47) (v:=?_) (a':=?_) Z77_ rfl rfl (a_N HT_.out HW_.out (by kernel_rfl)) (fun _ _ _ h => h) (Or.inl ⟨by rfl,?_⟩) hHeld ?_ ?_
     rotate_left
     ·rintro w' ⟨s0,s1,s2,s3,s4,s5,s6,s7,s8,s9,s10,s11,s12,s13⟩
      go_simp
      with_reducible rfl
     rotate_left
     ·simp only [Act.put,sa_,sb_,sc_,a_Y,a_0]
      rfl
     refine b_v (i:=34) (N:=some 51) (v:=?_) (a':=?_) Z78_ rfl rfl (a_N HT_.out HW_.out (by kernel_rfl)) (fun _ _ _ h => h) (Or.inl ⟨by rfl,?_⟩) hHeld ?_ ?_
     rotate_left
     ·rintro w' ⟨s0,s1,s2,s3,s4,s5,s6,s7,s8,s9,s10,s11,s12,s13⟩
      go_simp
      with_reducible rfl
     rotate_left
     ·simp only [Act.put,sa_,sb_,sc_,a_Y,a_0]
      rfl
     refine one_ (i:=32) (N:=some 49) Z81_ rfl rfl (c_B HT_.out (by kernel_rfl)) (by decide) (fun K hK => ?_)
     refine e_n Tryd.func23 (by kernel_rfl) rfl #[.slice (some ad112) l0_1.length c0_1,.func (.func 34) #[] #[.pointer (some ⟨d_X,0,none⟩),.pointer (some ⟨a_Q,0,none⟩)]] (by rfl) rfl rfl (by (try simp only [List.map_toArray,List.map_cons,List.map_nil]);first|done|rfl|(simp only [List.length_drop,List.length_take];rfl)) ?_
     with_reducible refine (a_V.calls _ _ l0_1 d_X a_Q a_Q ((a_a l0_1 x10_1).f0) ((a_a l0_1 x10_1).f1) ((a_a l0_1 x10_1).f2) ((a_a l0_1 x10_1).f3) ((a_a l0_1 x10_1).f4) ((a_a l0_1 x10_1).f5) ((a_a l0_1 x10_1).f6) ((a_a l0_1 x10_1).f7) ((a_a l0_1 x10_1).f8) ((a_a l0_1 x10_1).f9) ((a_a l0_1 x10_1).f10) ((a_a l0_1 x10_1).f0) ((a_a l0_1 x10_1).f1) ((a_a l0_1 x10_1).f2) ((a_a l0_1 x10_1).f3) ((a_a l0_1 x10_1).f4) ((a_a l0_1 x10_1).f5) ((a_a l0_1 x10_1).f6) ((a_a l0_1 x10_1).f7) ((a_a l0_1 x10_1).f8) ((a_a l0_1 x10_1).f9) ((a_a l0_1 x10_1).f10) t120 _ ?side1 ?side2 ?side3 ?side4 ?side5 A65.out).mono ?_
     (case side1 => repeat (first|exact (Kd.b_i c_c.out HB.out)|(with_reducible refine Kd.b_b ?_ _)|(with_reducible refine Kd.b_c ?_ _)|(with_reducible refine Kd.b_z ?_)))
     (case side2 => exact d_I.out)
     (case side3 => exact (bup_ b_t.out))
     (case side4 => exact (bup_ a_w.out))
     (case side5 => exact (bup_ a_w.out))
     rintro e w90 ⟨rfl,hb⟩
     refine ⟨_,rfl,?_⟩
     replace a_Z:=a_f.mk (a_l (bup_ a_Z.out) hb)
     replace a_w:=a_f.mk (a_l (bup_ a_w.out) hb)
     replace b_t:=a_f.mk (a_l (bup_ b_t.out) hb)
     replace HB:=a_f.mk (a_q (by repeat (first|(with_reducible first|exact HB.out|apply a_j|apply a_h|apply a_k|refine a_i ?_ c_2.out|refine a_i ?_ d_E.out|refine a_i ?_ d_S.out)|exact HB.out)) hb)
     (try clear hb)
     (try clear hb2)
     (try clear hk)
     (try clear hi)
     refine hK.out _ _ ⟨(a_b a_w.out 0).trans rfl,(a_b a_w.out 1).trans rfl,(a_b a_w.out 2).trans rfl,(a_b a_w.out 3).trans rfl,(a_b a_w.out 4).trans rfl,(a_b a_w.out 5).trans rfl,(a_b a_w.out 6).trans rfl,(a_b a_w.out 7).trans rfl,(a_b a_w.out 8).trans rfl,(a_b a_w.out 9).trans rfl,(a_b a_w.out 10).trans rfl,(a_b a_Z.out 0).trans rfl,(a_b a_Z.out 1).trans rfl,(a_b b_t.out 0).trans rfl⟩ (fun hHeld => ?_)
     clear hK K
     refine d_Y (a':=?_) ?_ ?_
     rotate_left
     ·show Act.put _ (some 49) _ = _
      simp only [Act.put,sa_,sb_,sc_,a_Y,a_0]
      rfl
     refine pt_ 35 (some 52) Z82_ HT_ ?_
     refine pt_ 36 (some 53) Z83_ HT_ ?_
     refine e_L (c_Z HT_.out (by kernel_rfl)) ?_
     try go_wp2
     go_ret
     exact ⟨by first|rfl|(simp [a_u,a_v] <;> rfl)|(simp [*, a_u,a_v] <;> rfl),by repeat (first|(with_reducible first|exact HB.out|apply a_j|apply a_h|apply a_k|refine a_i ?_ c_2.out|refine a_i ?_ d_E.out|refine a_i ?_ d_S.out)|exact HB.out)⟩
    rw [if_pos c66] at H
    have c66b0 : (t120 == ((a_a l0_1 x10_1).f9)) = true:=beq_iff_eq.mpr c66
    have c66b1 : (t120 != ((a_a l0_1 x10_1).f9)) = false:=bne_eq_false_iff_eq.mpr c66
    clear c66
    have H':=a_f.mk H
    clear H
    refine d_R (n:=37) (S:=fun w' => w'.cell? ⟨a_Q,0,none⟩ = some (.int .i64 ((a_a l0_1 x10_1).f0)) ∧ w'.cell? ⟨a_Q,1,none⟩ = some (.int .i64 ((a_a l0_1 x10_1).f1)) ∧ w'.cell? ⟨a_Q,2,none⟩ = some (.int .i64 ((a_a l0_1 x10_1).f2)) ∧ w'.cell? ⟨a_Q,3,none⟩ = some (.int .i64 ((a_a l0_1 x10_1).f3)) ∧ w'.cell? ⟨a_Q,4,none⟩ = some (.int .i64 ((a_a l0_1 x10_1).f4)) ∧ w'.cell? ⟨a_Q,5,none⟩ = some (.bool ((a_a l0_1 x10_1).f5)) ∧ w'.cell? ⟨a_Q,6,none⟩ = some (.bool ((a_a l0_1 x10_1).f6)) ∧ w'.cell? ⟨a_Q,7,none⟩ = some (.int .u32 ((a_a l0_1 x10_1).f7)) ∧ w'.cell? ⟨a_Q,8,none⟩ = some (.int .i64 ((a_a l0_1 x10_1).f8)) ∧ w'.cell? ⟨a_Q,9,none⟩ = some (.int .i64 ((a_a l0_1 x10_1).f9)) ∧ w'.cell? ⟨a_Q,10,none⟩ = some (.int .i64 ((a_a l0_1 x10_1).f10)) ∧ w'.cell? ⟨d_i,0,none⟩ = some (.int .i64 a0_0) ∧ w'.cell? ⟨d_i,1,none⟩ = some (.slice (some ad112) l0_1.length c0_1) ∧ w'.cell? ⟨d_X,0,none⟩ = some (.func (.func 33) #[] #[.pointer (some ⟨a_Q,0,none⟩)])) (ds:=[]) Z0_ (by kernel_rfl) rfl rfl ⟨(a_b a_w.out 0).trans rfl,(a_b a_w.out 1).trans rfl,(a_b a_w.out 2).trans rfl,(a_b a_w.out 3).trans rfl,(a_b a_w.out 4).trans rfl,(a_b a_w.out 5).trans rfl,(a_b a_w.out 6).trans rfl,(a_b a_w.out 7).trans rfl,(a_b a_w.out 8).trans rfl,(a_b a_w.out 9).trans rfl,(a_b a_w.out 10).trans rfl,(a_b a_Z.out 0).trans rfl,(a_b a_Z.out 1).trans rfl,(a_b b_t.out 0).trans rfl⟩ (fun hHeld => ?_);refine b_5 a_t.tab6 a_t.f_w (fun HT_ HW_ => ?_)
    generalize w21.drew = w75 at a_Z a_w b_t HB hHeld ⊢
    refine b_v (i:=0) (N:=some 17) (v:=?_) (a':=?_) Z2_ rfl rfl (a_N HT_.out HW_.out (by kernel_rfl)) (fun _ _ _ h => h) (Or.inl ⟨by rfl,?_⟩) hHeld ?_ ?_
    rotate_left
    ·rintro w' ⟨s0,s1,s2,s3,s4,s5,s6,s7,s8,s9,s10,s11,s12,s13⟩
     go_simp
     with_reducible rfl
    rotate_left
    ·simp only [Act.put,sa_,sb_,sc_,a_Y,a_0]
     rfl
    refine one_ (i:=1) (N:=some 18) Z4_ rfl rfl (c_B HT_.out (by kernel_rfl)) (by decide) (fun K hK => ?_)
    refine e_n Tryd.func35 (by kernel_rfl) rfl #[.agg #[.int .i64 ((a_a l0_1 x10_1).f0),.int .i64 ((a_a l0_1 x10_1).f1),.int .i64 ((a_a l0_1 x10_1).f2),.int .i64 ((a_a l0_1 x10_1).f3),.int .i64 ((a_a l0_1 x10_1).f4),.bool ((a_a l0_1 x10_1).f5),.bool ((a_a l0_1 x10_1).f6),.int .u32 ((a_a l0_1 x10_1).f7),.int .i64 ((a_a l0_1 x10_1).f8),.int .i64 ((a_a l0_1 x10_1).f9),.int .i64 ((a_a l0_1 x10_1).f10)]] (by rfl) rfl rfl (by (try simp only [List.map_toArray,List.map_cons,List.map_nil]);first|done|rfl|(simp only [List.length_drop,List.length_take];rfl)) ?_
    with_reducible refine (a_D.calls k1 ((a_a l0_1 x10_1).f0) ((a_a l0_1 x10_1).f1) ((a_a l0_1 x10_1).f2) ((a_a l0_1 x10_1).f3) ((a_a l0_1 x10_1).f4) ((a_a l0_1 x10_1).f5) ((a_a l0_1 x10_1).f6) ((a_a l0_1 x10_1).f7) ((a_a l0_1 x10_1).f8) ((a_a l0_1 x10_1).f9) ((a_a l0_1 x10_1).f10) true _ A7.out).mono ?_
    rintro e w76 ⟨rfl,hb⟩
    refine ⟨_,rfl,?_⟩
    replace a_Z:=a_f.mk (a_l (bup_ a_Z.out) hb)
    replace a_w:=a_f.mk (a_l (bup_ a_w.out) hb)
    replace b_t:=a_f.mk (a_l (bup_ b_t.out) hb)
    replace HB:=a_f.mk (a_q (by repeat (first|(with_reducible first|exact HB.out|apply a_j|apply a_h|apply a_k|refine a_i ?_ c_2.out|refine a_i ?_ d_E.out|refine a_i ?_ d_S.out)|exact HB.out)) hb)
    (try clear hb)
    (try clear hb2)
    (try clear hk)
    (try clear hi)
    refine hK.out _ _ ⟨(a_b a_w.out 0).trans rfl,(a_b a_w.out 1).trans rfl,(a_b a_w.out 2).trans rfl,(a_b a_w.out 3).trans rfl,(a_b a_w.out 4).trans rfl,(a_b a_w.out 5).trans rfl,(a_b a_w.out 6).trans rfl,(a_b a_w.out 7).trans rfl,(a_b a_w.out 8).trans rfl,(a_b a_w.out 9).trans rfl,(a_b a_w.out 10).trans rfl,(a_b a_Z.out 0).trans rfl,(a_b a_Z.out 1).trans rfl,(a_b b_t.out 0).trans rfl⟩ (fun hHeld => ?_)
    clear hK K
    refine d_Y (a':=?_) ?_ ?_
    rotate_left
    ·show Act.put _ (some 18) _ = _
     simp only [Act.put,sa_,sb_,sc_,a_Y,a_0]
     rfl
    refine pt_ 2 (some 19) Z6_ HT_ ?_
    refine pt_ 3 (some 20) Z8_ HT_ ?_
    refine pt_ 4 (some 21) Z10_ HT_ ?_
    refine pt_ 5 (some 22) Z13_ HT_ ?_
    refine pt_ 6 (some 23) Z14_ HT_ ?_
    refine pk_ 7 (some 24) Z16_ HT_ ?_
    refine pk_ 8 (some 25) Z21_ HT_ ?_
    refine pk_ 9 (some 26) Z23_ HT_ ?_
    refine pk_ 10 (some 27) Z25_ HT_ ?_
    refine pk_ 11 (some 28) Z28_ HT_ ?_
    refine pk_ 12 (some 29) Z31_ HT_ ?_
    refine pk_ 13 (some 30) Z34_ HT_ ?_
    refine pk_ 14 (some 31) Z36_ HT_ ?_
    refine pk_ 15 (some 32) Z41_ HT_ ?_
    refine pk_ 16 (some 33) Z43_ HT_ ?_
    refine pt_ 17 (some 34) Z45_ HT_ ?_
    refine pt_ 18 (some 35) Z48_ HT_ ?_
    refine pt_ 19 (some 36) Z51_ HT_ ?_
    refine pt_ 20 (some 37) Z54_ HT_ ?_
    refine pt_ 24 (some 41) Z56_ HT_ ?_
    refine b_v (i:=21) (N:=some 38) (v:=?_) (a':=?_) Z59_ rfl rfl (a_N HT_.out HW_.out (by kernel_rfl)) (fun _ _ _ h => h) (Or.inl ⟨by rfl,?_⟩) hHeld ?_ ?_
    rotate_left
    ·rintro w' ⟨s0,s1,s2,s3,s4,s5,s6,s7,s8,s9,s10,s11,s12,s13⟩
     go_simp
     with_reducible rfl
    rotate_left
    ·simp only [Act.put,sa_,sb_,sc_,a_Y,a_0]
     rfl
    refine b_v (i:=22) (N:=some 39) (v:=?_) (a':=?_) Z62_ rfl rfl (a_N HT_.out HW_.out (by kernel_rfl)) (fun _ _ _ h => h) (Or.inl ⟨by rfl,?_⟩) hHeld ?_ ?_
    rotate_left
    ·rintro w' ⟨s0,s1,s2,s3,s4,s5,s6,s7,s8,s9,s10,s11,s12,s13⟩
     go_simp
     with_reducible rfl
    rotate_left
    ·simp only [Act.put,sa_,sb_,sc_,a_Y,a_0]
     rfl
    refine b_v (i:=25) (N:=some 42) (v:=?_) (a':=?_) Z63_ rfl rfl (a_N HT_.out HW_.out (by kernel_rfl)) (fun _ _ _ h => h) (Or.inl ⟨by rfl,?_⟩) hHeld ?_ ?_
    rotate_left
    ·rintro w' ⟨s0,s1,s2,s3,s4,s5,s6,s7,s8,s9,s10,s11,s12,s13⟩
     go_simp
     with_reducible rfl
    rotate_left
    ·simp only [Act.put,sa_,sb_,sc_,a_Y,a_0]
     rfl
    refine one_ (i:=23) (N:=some 40) Z68_ rfl rfl (c_B HT_.out (by kernel_rfl)) (by decide) (fun K hK => ?_)
    refine e_n Tryd.func23 (by kernel_rfl) rfl #[.slice (some ad112) l0_1.length c0_1,.func (.func 33) #[] #[.pointer (some ⟨a_Q,0,none⟩)]] (by rfl) rfl rfl (by (try simp only [List.map_toArray,List.map_cons,List.map_nil]);first|done|rfl|(simp only [List.length_drop,List.length_take];rfl)) ?_
    with_reducible refine (a_X.calls _ _ l0_1 a_Q ((a_a l0_1 x10_1).f0) ((a_a l0_1 x10_1).f1) ((a_a l0_1 x10_1).f2) ((a_a l0_1 x10_1).f3) ((a_a l0_1 x10_1).f4) ((a_a l0_1 x10_1).f5) ((a_a l0_1 x10_1).f6) ((a_a l0_1 x10_1).f7) ((a_a l0_1 x10_1).f8) ((a_a l0_1 x10_1).f9) ((a_a l0_1 x10_1).f10) t119 _ ?side1 ?side2 ?side3 A63.out).mono ?_
    (case side1 => repeat (first|exact (Kd.b_i c_c.out HB.out)|(with_reducible refine Kd.b_b ?_ _)|(with_reducible refine Kd.b_c ?_ _)|(with_reducible refine Kd.b_z ?_)))
    (case side2 => exact d_I.out)
    (case side3 => exact (bup_ a_w.out))
    rintro e w77 ⟨rfl,hb⟩
    refine ⟨_,rfl,?_⟩
    replace a_Z:=a_f.mk (a_l (bup_ a_Z.out) hb)
    replace a_w:=a_f.mk (a_l (bup_ a_w.out) hb)
    replace b_t:=a_f.mk (a_l (bup_ b_t.out) hb)
    replace HB:=a_f.mk (a_q (by repeat (first|(with_reducible first|exact HB.out|apply a_j|apply a_h|apply a_k|refine a_i ?_ c_2.out|refine a_i ?_ d_E.out|refine a_i ?_ d_S.out)|exact HB.out)) hb)
    (try clear hb)
    (try clear hb2)
    (try clear hk)
    (try clear hi)
    refine hK.out _ _ ⟨(a_b a_w.out 0).trans rfl,(a_b a_w.out 1).trans rfl,(a_b a_w.out 2).trans rfl,(a_b a_w.out 3).trans rfl,(a_b a_w.out 4).trans rfl,(a_b a_w.out 5).trans rfl,(a_b a_w.out 6).trans rfl,(a_b a_w.out 7).trans rfl,(a_b a_w.out 8).trans rfl,(a_b a_w.out 9).trans rfl,(a_b a_w.out 10).trans rfl,(a_b a_Z.out 0).trans rfl,(a_b a_Z.out 1).trans rfl,(a_b b_t.out 0).trans rfl⟩ (fun hHeld => ?_)
    clear hK K
    refine d_Y (a':=?_) ?_ ?_
    rotate_left
    ·show Act.put _ (some 40) _ = _
     simp only [Act.put,sa_,sb_,sc_,a_Y,a_0]
     rfl
    refine pt_ 26 (some 43) Z69_ HT_ ?_
    refine pt_ 27 (some 44) Z70_ HT_ ?_
    refine pt_ 28 (some 45) Z71_ HT_ ?_
    refine pt_ 29 (some 46) Z72_ HT_ ?_
    refine pt_ 31 (some 48) Z73_ HT_ ?_
    refine pt_ 33 (some 50) Z74_ HT_ ?_
    refine b_v (i:=30) (N:=some 47) (v:=?_) (a':=?_) Z77_ rfl rfl (a_N HT_.out HW_.out (by kernel_rfl)) (fun _ _ _ h => h) (Or.inl ⟨by rfl,?_⟩) hHeld ?_ ?_
    rotate_left
    ·rintro w' ⟨s0,s1,s2,s3,s4,s5,s6,s7,s8,s9,s10,s11,s12,s13⟩
     go_simp
     with_reducible rfl
    rotate_left
    ·simp only [Act.put,sa_,sb_,sc_,a_Y,a_0]
     rfl
    refine b_v (i:=34) (N:=some 51) (v:=?_) (a':=?_) Z78_ rfl rfl (a_N HT_.out HW_.out (by kernel_rfl)) (fun _ _ _ h => h) (Or.inl ⟨by rfl,?_⟩) hHeld ?_ ?_
    rotate_left
    ·rintro w' ⟨s0,s1,s2,s3,s4,s5,s6,s7,s8,s9,s10,s11,s12,s13⟩
     go_simp
     with_reducible rfl
    rotate_left
    ·simp only [Act.put,sa_,sb_,sc_,a_Y,a_0]
     rfl
    refine one_ (i:=32) (N:=some 49) Z81_ rfl rfl (c_B HT_.out (by kernel_rfl)) (by decide) (fun K hK => ?_)
    refine e_n Tryd.func23 (by kernel_rfl) rfl #[.slice (some ad112) l0_1.length c0_1,.func (.func 34) #[] #[.pointer (some ⟨d_X,0,none⟩),.pointer (some ⟨a_Q,0,none⟩)]] (by rfl) rfl rfl (by (try simp only [List.map_toArray,List.map_cons,List.map_nil]);first|done|rfl|(simp only [List.length_drop,List.length_take];rfl)) ?_
    with_reducible refine (a_V.calls _ _ l0_1 d_X a_Q a_Q ((a_a l0_1 x10_1).f0) ((a_a l0_1 x10_1).f1) ((a_a l0_1 x10_1).f2) ((a_a l0_1 x10_1).f3) ((a_a l0_1 x10_1).f4) ((a_a l0_1 x10_1).f5) ((a_a l0_1 x10_1).f6) ((a_a l0_1 x10_1).f7) ((a_a l0_1 x10_1).f8) ((a_a l0_1 x10_1).f9) ((a_a l0_1 x10_1).f10) ((a_a l0_1 x10_1).f0) ((a_a l0_1 x10_1).f1) ((a_a l0_1 x10_1).f2) ((a_a l0_1 x10_1).f3) ((a_a l0_1 x10_1).f4) ((a_a l0_1 x10_1).f5) ((a_a l0_1 x10_1).f6) ((a_a l0_1 x10_1).f7) ((a_a l0_1 x10_1).f8) ((a_a l0_1 x10_1).f9) ((a_a l0_1 x10_1).f10) t120 _ ?side1 ?side2 ?side3 ?side4 ?side5 A65.out).mono ?_
    (case side1 => repeat (first|exact (Kd.b_i c_c.out HB.out)|(with_reducible refine Kd.b_b ?_ _)|(with_reducible refine Kd.b_c ?_ _)|(with_reducible refine Kd.b_z ?_)))
    (case side2 => exact d_I.out)
    (case side3 => exact (bup_ b_t.out))
    (case side4 => exact (bup_ a_w.out))
    (case side5 => exact (bup_ a_w.out))
    rintro e w78 ⟨rfl,hb⟩
    refine ⟨_,rfl,?_⟩
    replace a_Z:=a_f.mk (a_l (bup_ a_Z.out) hb)
    replace a_w:=a_f.mk (a_l (bup_ a_w.out) hb)
    replace b_t:=a_f.mk (a_l (bup_ b_t.out) hb)
    replace HB:=a_f.mk (a_q (by repeat (first|(with_reducible first|exact HB.out|apply a_j|apply a_h|apply a_k|refine a_i ?_ c_2.out|refine a_i ?_ d_E.out|refine a_i ?_ d_S.out)|exact HB.out)) hb)
    (try clear hb)
    (try clear hb2)
    (try clear hk)
    (try clear hi)
    refine hK.out _ _ ⟨(a_b a_w.out 0).trans rfl,(a_b a_w.out 1).trans rfl,(a_b a_w.out 2).trans rfl,(a_b a_w.out 3).trans rfl,(a_b a_w.out 4).trans rfl,(a_b a_w.out 5).trans rfl,(a_b a_w.out 6).trans rfl,(a_b a_w.out 7).trans rfl,(a_b a_w.out 8).trans rfl,(a_b a_w.out 9).trans rfl,(a_b a_w.out 10).trans rfl,(a_b a_Z.out 0).trans rfl,(a_b a_Z.out 1).trans rfl,(a_b b_t.out 0).trans rfl⟩ (fun hHeld => ?_)
    clear hK K
    refine d_Y (a':=?_) ?_ ?_
    rotate_left
    ·show Act.put _ (some 49) _ = _
     simp only [Act.put,sa_,sb_,sc_,a_Y,a_0]
     rfl
    refine pt_ 35 (some 52) Z82_ HT_ ?_
    refine pt_ 36 (some 53) Z83_ HT_ ?_
    refine e_L (c_Z HT_.out (by kernel_rfl)) ?_
    try go_wp2
    go_roundg k1
    case measure => have:=HK1.out;omega
    case rel => exact ⟨(wrap64 (x10_1 + 1)),(by first|rfl|(simp;done)|(simp [*];done)),H',⟨by have:=HK1.out;omega⟩,⟨by (with_reducible repeat (first|refine a_e ?_ _|refine a_g ?_|refine a_d ?_ _));exact a_Z.out⟩,⟨by repeat (first|(with_reducible first|exact HB.out|apply a_j|apply a_h|apply a_k|refine a_i ?_ c_2.out|refine a_i ?_ d_E.out|refine a_i ?_ d_S.out)|exact HB.out)⟩⟩
   rw [if_pos c9] at H
   have c9b0 : decide (0 < x10_1) = true:=decide_eq_true c9
   clear c9
   obtain ⟨ji10,hji10⟩ : ∃ j_ : Int,(wrap64 (x10_1 - 1)) = j_:=⟨_,rfl⟩
   replace H : (if 0 ≤ (ji10) then (if (ji10) < (l0_1.length : Int) then (if ((a_a l0_1 (ji10)).f0) ≥ ((a_a l0_1 x10_1).f0) then (some false) else ((a_X.f l0_1 ((a_a l0_1 x10_1).f0) ((a_a l0_1 x10_1).f1) ((a_a l0_1 x10_1).f2) ((a_a l0_1 x10_1).f3) ((a_a l0_1 x10_1).f4) ((a_a l0_1 x10_1).f5) ((a_a l0_1 x10_1).f6) ((a_a l0_1 x10_1).f7) ((a_a l0_1 x10_1).f8) ((a_a l0_1 x10_1).f9) ((a_a l0_1 x10_1).f10)).bind fun t117 => (if t117 = ((a_a l0_1 x10_1).f9) then ((a_V.f l0_1 ((a_a l0_1 x10_1).f0) ((a_a l0_1 x10_1).f1) ((a_a l0_1 x10_1).f2) ((a_a l0_1 x10_1).f3) ((a_a l0_1 x10_1).f4) ((a_a l0_1 x10_1).f5) ((a_a l0_1 x10_1).f6) ((a_a l0_1 x10_1).f7) ((a_a l0_1 x10_1).f8) ((a_a l0_1 x10_1).f9) ((a_a l0_1 x10_1).f10) ((a_a l0_1 x10_1).f0) ((a_a l0_1 x10_1).f1) ((a_a l0_1 x10_1).f2) ((a_a l0_1 x10_1).f3) ((a_a l0_1 x10_1).f4) ((a_a l0_1 x10_1).f5) ((a_a l0_1 x10_1).f6) ((a_a l0_1 x10_1).f7) ((a_a l0_1 x10_1).f8) ((a_a l0_1 x10_1).f9) ((a_a l0_1 x10_1).f10)).bind fun t118 => (if t118 = ((a_a l0_1 x10_1).f9) then (a_t.l0 k1 l0_1 (l0_1.length : Int) (wrap64 (x10_1 + 1)) a0_0 l0_1) else (some false))) else (some false)))) else (none)) else (none)) = some r:=by first|(rw [hji10] at H;exact H)|(simp only [hji10] at H ⊢; exact H)
   (try rw [hji10] at A7)
   have hji10w : (IntKind.i64.wrap (x10_1 - 1)) = ji10:=(a_Y _).trans hji10
   by_cases c11 : 0 ≤ (ji10)
   rotate_left
   ·rw [if_neg c11] at H
    exact absurd H (by simp)
   rw [if_pos c11] at H
   have c11b0 : decide (0 ≤ (ji10)) = true:=decide_eq_true c11
   clear c11
   by_cases c12 : (ji10) < (l0_1.length : Int)
   rotate_left
   ·rw [if_neg c12] at H
    exact absurd H (by simp)
   rw [if_pos c12] at H
   have c12b0 : decide ((ji10) < (l0_1.length : Int)) = true:=decide_eq_true c12
   clear c12
   by_cases c13 : ((a_a l0_1 (ji10)).f0) ≥ ((a_a l0_1 x10_1).f0)
   ·rw [if_pos c13] at H
    have c13b0 : decide (((a_a l0_1 x10_1).f0) ≤ ((a_a l0_1 (ji10)).f0)) = true:=decide_eq_true c13
    clear c13
    obtain rfl:=Option.some.inj H
    have p116 : 0 ≤ ((ji10) : Int):=of_decide_eq_true (by first|(with_reducible assumption)|assumption)
    have q116 : (ji10) < (l0_1.length : Int):=of_decide_eq_true (by first|(with_reducible assumption)|assumption)
    obtain ⟨ad116,e116,c_j,c_k,c_l,c_m,c_n,c_o,c_p,c_q,c_r,c_s,b_1⟩:=c_R c_c.out (ji10) p116 q116
    have b_y:=b_1
    have b_0:=c_s
    have b_Z:=c_r
    have b_Y:=c_q
    have b_X:=c_p
    have b_W:=c_o
    have b_V:=c_n
    have b_U:=c_m
    have b_T:=c_l
    have b_S:=c_k
    have b_R:=c_j
    obtain rfl : ad112 = ad116:=(by injection e116)
    replace c_j:=(HB.out.cell (World.block_lt_of_cell? w _ c_j)).trans c_j
    replace c_k:=(HB.out.cell (World.block_lt_of_cell? w _ c_k)).trans c_k
    replace c_l:=(HB.out.cell (World.block_lt_of_cell? w _ c_l)).trans c_l
    replace c_m:=(HB.out.cell (World.block_lt_of_cell? w _ c_m)).trans c_m
    replace c_n:=(HB.out.cell (World.block_lt_of_cell? w _ c_n)).trans c_n
    replace c_o:=(HB.out.cell (World.block_lt_of_cell? w _ c_o)).trans c_o
    replace c_p:=(HB.out.cell (World.block_lt_of_cell? w _ c_p)).trans c_p
    replace c_q:=(HB.out.cell (World.block_lt_of_cell? w _ c_q)).trans c_q
    replace c_r:=(HB.out.cell (World.block_lt_of_cell? w _ c_r)).trans c_r
    replace c_s:=(HB.out.cell (World.block_lt_of_cell? w _ c_s)).trans c_s
    replace b_1:=(HB.out.cell (World.block_lt_of_cell? w _ b_1)).trans b_1
    replace p116:=eq_true p116
    replace q116:=eq_true q116
    refine d_R (n:=37) (S:=fun w' => w'.cell? ⟨a_Q,0,none⟩ = some (.int .i64 ((a_a l0_1 x10_1).f0)) ∧ w'.cell? ⟨a_Q,1,none⟩ = some (.int .i64 ((a_a l0_1 x10_1).f1)) ∧ w'.cell? ⟨a_Q,2,none⟩ = some (.int .i64 ((a_a l0_1 x10_1).f2)) ∧ w'.cell? ⟨a_Q,3,none⟩ = some (.int .i64 ((a_a l0_1 x10_1).f3)) ∧ w'.cell? ⟨a_Q,4,none⟩ = some (.int .i64 ((a_a l0_1 x10_1).f4)) ∧ w'.cell? ⟨a_Q,5,none⟩ = some (.bool ((a_a l0_1 x10_1).f5)) ∧ w'.cell? ⟨a_Q,6,none⟩ = some (.bool ((a_a l0_1 x10_1).f6)) ∧ w'.cell? ⟨a_Q,7,none⟩ = some (.int .u32 ((a_a l0_1 x10_1).f7)) ∧ w'.cell? ⟨a_Q,8,none⟩ = some (.int .i64 ((a_a l0_1 x10_1).f8)) ∧ w'.cell? ⟨a_Q,9,none⟩ = some (.int .i64 ((a_a l0_1 x10_1).f9)) ∧ w'.cell? ⟨a_Q,10,none⟩ = some (.int .i64 ((a_a l0_1 x10_1).f10)) ∧ w'.cell? ⟨d_i,0,none⟩ = some (.int .i64 a0_0) ∧ w'.cell? ⟨d_i,1,none⟩ = some (.slice (some ad112) l0_1.length c0_1) ∧ w'.cell? (ad112.add (((ji10)).toNat * 11)) = some (.int .i64 ((a_a l0_1 (ji10)).f0)) ∧ w'.cell? ⟨(ad112.add (((ji10)).toNat * 11)).block,(ad112.add (((ji10)).toNat * 11)).off + 1,none⟩ = some (.int .i64 ((a_a l0_1 (ji10)).f1)) ∧ w'.cell? ⟨(ad112.add (((ji10)).toNat * 11)).block,(ad112.add (((ji10)).toNat * 11)).off + 2,none⟩ = some (.int .i64 ((a_a l0_1 (ji10)).f2)) ∧ w'.cell? ⟨(ad112.add (((ji10)).toNat * 11)).block,(ad112.add (((ji10)).toNat * 11)).off + 3,none⟩ = some (.int .i64 ((a_a l0_1 (ji10)).f3)) ∧ w'.cell? ⟨(ad112.add (((ji10)).toNat * 11)).block,(ad112.add (((ji10)).toNat * 11)).off + 4,none⟩ = some (.int .i64 ((a_a l0_1 (ji10)).f4)) ∧ w'.cell? ⟨(ad112.add (((ji10)).toNat * 11)).block,(ad112.add (((ji10)).toNat * 11)).off + 5,none⟩ = some (.bool ((a_a l0_1 (ji10)).f5)) ∧ w'.cell? ⟨(ad112.add (((ji10)).toNat * 11)).block,(ad112.add (((ji10)).toNat * 11)).off + 6,none⟩ = some (.bool ((a_a l0_1 (ji10)).f6)) ∧ w'.cell? ⟨(ad112.add (((ji10)).toNat * 11)).block,(ad112.add (((ji10)).toNat * 11)).off + 7,none⟩ = some (.int .u32 ((a_a l0_1 (ji10)).f7)) ∧ w'.cell? ⟨(ad112.add (((ji10)).toNat * 11)).block,(ad112.add (((ji10)).toNat * 11)).off + 8,none⟩ = some (.int .i64 ((a_a l0_1 (ji10)).f8)) ∧ w'.cell? ⟨(ad112.add (((ji10)).toNat * 11)).block,(ad112.add (((ji10)).toNat * 11)).off + 9,none⟩ = some (.int .i64 ((a_a l0_1 (ji10)).f9)) ∧ w'.cell? ⟨(ad112.add (((ji10)).toNat * 11)).block,(ad112.add (((ji10)).toNat * 11)).off + 10,none⟩ = some (.int .i64 ((a_a l0_1 (ji10)).f10))) (ds:=[]) Z0_ (by kernel_rfl) rfl rfl ⟨(a_b a_w.out 0).trans rfl,(a_b a_w.out 1).trans rfl,(a_b a_w.out 2).trans rfl,(a_b a_w.out 3).trans rfl,(a_b a_w.out 4).trans rfl,(a_b a_w.out 5).trans rfl,(a_b a_w.out 6).trans rfl,(a_b a_w.out 7).trans rfl,(a_b a_w.out 8).trans rfl,(a_b a_w.out 9).trans rfl,(a_b a_w.out 10).trans rfl,(a_b a_Z.out 0).trans rfl,(a_b a_Z.out 1).trans rfl,((HB.out.cell (World.block_lt_of_cell? w _ b_R)).trans b_R),((HB.out.cell (World.block_lt_of_cell? w _ b_S)).trans b_S),((HB.out.cell (World.block_lt_of_cell? w _ b_T)).trans b_T),((HB.out.cell (World.block_lt_of_cell? w _ b_U)).trans b_U),((HB.out.cell (World.block_lt_of_cell? w _ b_V)).trans b_V),((HB.out.cell (World.block_lt_of_cell? w _ b_W)).trans b_W),((HB.out.cell (World.block_lt_of_cell? w _ b_X)).trans b_X),((HB.out.cell (World.block_lt_of_cell? w _ b_Y)).trans b_Y),((HB.out.cell (World.block_lt_of_cell? w _ b_Z)).trans b_Z),((HB.out.cell (World.block_lt_of_cell? w _ b_0)).trans b_0),((HB.out.cell (World.block_lt_of_cell? w _ b_y)).trans b_y)⟩ (fun hHeld => ?_);refine b_5 a_t.tab6 a_t.f_w (fun HT_ HW_ => ?_)
    generalize w21.drew = w22 at a_Z a_w b_t HB c_j c_k b_1 c_l c_m c_n c_o c_p c_q c_r c_s hHeld ⊢
    refine b_v (i:=0) (N:=some 17) (v:=?_) (a':=?_) Z2_ rfl rfl (a_N HT_.out HW_.out (by kernel_rfl)) (fun _ _ _ h => h) (Or.inl ⟨by rfl,?_⟩) hHeld ?_ ?_
    rotate_left
    ·rintro w' ⟨s0,s1,s2,s3,s4,s5,s6,s7,s8,s9,s10,s11,s12,s13,s14,s15,s16,s17,s18,s19,s20,s21,s22,s23⟩
     go_simp
     with_reducible rfl
    rotate_left
    ·simp only [Act.put,sa_,sb_,sc_,a_Y,a_0]
     rfl
    refine one_ (i:=1) (N:=some 18) Z4_ rfl rfl (c_B HT_.out (by kernel_rfl)) (by decide) (fun K hK => ?_)
    refine e_n Tryd.func35 (by kernel_rfl) rfl #[.agg #[.int .i64 ((a_a l0_1 x10_1).f0),.int .i64 ((a_a l0_1 x10_1).f1),.int .i64 ((a_a l0_1 x10_1).f2),.int .i64 ((a_a l0_1 x10_1).f3),.int .i64 ((a_a l0_1 x10_1).f4),.bool ((a_a l0_1 x10_1).f5),.bool ((a_a l0_1 x10_1).f6),.int .u32 ((a_a l0_1 x10_1).f7),.int .i64 ((a_a l0_1 x10_1).f8),.int .i64 ((a_a l0_1 x10_1).f9),.int .i64 ((a_a l0_1 x10_1).f10)]] (by rfl) rfl rfl (by (try simp only [List.map_toArray,List.map_cons,List.map_nil]);first|done|rfl|(simp only [List.length_drop,List.length_take];rfl)) ?_
    with_reducible refine (a_D.calls k1 ((a_a l0_1 x10_1).f0) ((a_a l0_1 x10_1).f1) ((a_a l0_1 x10_1).f2) ((a_a l0_1 x10_1).f3) ((a_a l0_1 x10_1).f4) ((a_a l0_1 x10_1).f5) ((a_a l0_1 x10_1).f6) ((a_a l0_1 x10_1).f7) ((a_a l0_1 x10_1).f8) ((a_a l0_1 x10_1).f9) ((a_a l0_1 x10_1).f10) true _ A7.out).mono ?_
    rintro e w23 ⟨rfl,hb⟩
    refine ⟨_,rfl,?_⟩
    replace a_Z:=a_f.mk (a_l (bup_ a_Z.out) hb)
    replace a_w:=a_f.mk (a_l (bup_ a_w.out) hb)
    replace b_t:=a_f.mk (a_l (bup_ b_t.out) hb)
    replace HB:=a_f.mk (a_q (by repeat (first|(with_reducible first|exact HB.out|apply a_j|apply a_h|apply a_k|refine a_i ?_ c_2.out|refine a_i ?_ d_E.out|refine a_i ?_ d_S.out)|exact HB.out)) hb)
    (try clear hb)
    (try clear hb2)
    (try clear hk)
    (try clear hi)
    refine hK.out _ _ ⟨(a_b a_w.out 0).trans rfl,(a_b a_w.out 1).trans rfl,(a_b a_w.out 2).trans rfl,(a_b a_w.out 3).trans rfl,(a_b a_w.out 4).trans rfl,(a_b a_w.out 5).trans rfl,(a_b a_w.out 6).trans rfl,(a_b a_w.out 7).trans rfl,(a_b a_w.out 8).trans rfl,(a_b a_w.out 9).trans rfl,(a_b a_w.out 10).trans rfl,(a_b a_Z.out 0).trans rfl,(a_b a_Z.out 1).trans rfl,((HB.out.cell (World.block_lt_of_cell? w _ b_R)).trans b_R),((HB.out.cell (World.block_lt_of_cell? w _ b_S)).trans b_S),((HB.out.cell (World.block_lt_of_cell? w _ b_T)).trans b_T),((HB.out.cell (World.block_lt_of_cell? w _ b_U)).trans b_U),((HB.out.cell (World.block_lt_of_cell? w _ b_V)).trans b_V),((HB.out.cell (World.block_lt_of_cell? w _ b_W)).trans b_W),((HB.out.cell (World.block_lt_of_cell? w _ b_X)).trans b_X),((HB.out.cell (World.block_lt_of_cell? w _ b_Y)).trans b_Y),((HB.out.cell (World.block_lt_of_cell? w _ b_Z)).trans b_Z),((HB.out.cell (World.block_lt_of_cell? w _ b_0)).trans b_0),((HB.out.cell (World.block_lt_of_cell? w _ b_y)).trans b_y)⟩ (fun hHeld => ?_)
    clear hK K
    refine d_Y (a':=?_) ?_ ?_
    rotate_left
    ·show Act.put _ (some 18) _ = _
     simp only [Act.put,sa_,sb_,sc_,a_Y,a_0]
     rfl
    refine pt_ 2 (some 19) Z6_ HT_ ?_
    refine pt_ 3 (some 20) Z8_ HT_ ?_
    refine pt_ 4 (some 21) Z10_ HT_ ?_
    refine pt_ 5 (some 22) Z13_ HT_ ?_
    refine pt_ 6 (some 23) Z14_ HT_ ?_
    refine pt_ 7 (some 24) Z16_ HT_ ?_
    refine pt_ 9 (some 26) Z18_ HT_ ?_
    refine pt_ 10 (some 27) Z19_ HT_ ?_
    refine pt_ 14 (some 31) Z20_ HT_ ?_
    refine b_v (i:=8) (N:=some 25) (v:=?_) (a':=?_) Z27_ rfl rfl (a_N HT_.out HW_.out (by kernel_rfl)) (fun _ _ _ h => h) (Or.inl ⟨by rfl,?_⟩) hHeld ?_ ?_
    rotate_left
    ·rintro w' ⟨s0,s1,s2,s3,s4,s5,s6,s7,s8,s9,s10,s11,s12,s13,s14,s15,s16,s17,s18,s19,s20,s21,s22,s23⟩
     go_simp
     with_reducible rfl
    rotate_left
    ·simp only [Act.put,sa_,sb_,sc_,a_Y,a_0]
     rfl
    refine pt_ 11 (some 28) Z30_ HT_ ?_
    refine pt_ 12 (some 29) Z33_ HT_ ?_
    refine b_v (i:=13) (N:=some 30) (v:=?_) (a':=?_) Z36_ rfl rfl (a_N HT_.out HW_.out (by kernel_rfl)) (fun _ _ _ h => h) (Or.inl ⟨by rfl,?_⟩) hHeld ?_ ?_
    rotate_left
    ·rintro w' ⟨s0,s1,s2,s3,s4,s5,s6,s7,s8,s9,s10,s11,s12,s13,s14,s15,s16,s17,s18,s19,s20,s21,s22,s23⟩
     go_simp
     with_reducible rfl
    rotate_left
    ·simp only [Act.put,sa_,sb_,sc_,a_Y,a_0]
     rfl
    refine b_v (i:=15) (N:=some 32) (v:=?_) (a':=?_) Z41_ rfl rfl (a_N HT_.out HW_.out (by kernel_rfl)) (fun _ _ _ h => h) (Or.inl ⟨by rfl,?_⟩) hHeld ?_ ?_
    rotate_left
    ·rintro w' ⟨s0,s1,s2,s3,s4,s5,s6,s7,s8,s9,s10,s11,s12,s13,s14,s15,s16,s17,s18,s19,s20,s21,s22,s23⟩
     go_simp
     with_reducible rfl
    rotate_left
    ·simp only [Act.put,sa_,sb_,sc_,a_Y,a_0]
     rfl
    refine pt_ 16 (some 33) Z43_ HT_ ?_
    refine pt_ 17 (some 34) Z45_ HT_ ?_
    refine pt_ 18 (some 35) Z48_ HT_ ?_
    refine pt_ 19 (some 36) Z51_ HT_ ?_
    refine pk_ 20 (some 37) Z54_ HT_ ?_
    refine pk_ 21 (some 38) Z57_ HT_ ?_
    refine pk_ 22 (some 39) Z60_ HT_ ?_
    refine pk_ 23 (some 40) Z64_ HT_ ?_
    refine pk_ 24 (some 41) Z66_ HT_ ?_
    refine pk_ 25 (some 42) Z68_ HT_ ?_
    refine pk_ 26 (some 43) Z69_ HT_ ?_
    refine pt_ 27 (some 44) Z70_ HT_ ?_
    refine pt_ 28 (some 45) Z71_ HT_ ?_
    refine pk_ 29 (some 46) Z72_ HT_ ?_
    refine pk_ 30 (some 47) Z75_ HT_ ?_
    refine pk_ 31 (some 48) Z76_ HT_ ?_
    refine pk_ 32 (some 49) Z79_ HT_ ?_
    refine pk_ 33 (some 50) Z80_ HT_ ?_
    refine pk_ 34 (some 51) Z81_ HT_ ?_
    refine pk_ 35 (some 52) Z82_ HT_ ?_
    refine pt_ 36 (some 53) Z83_ HT_ ?_
    refine e_L (c_Z HT_.out (by kernel_rfl)) ?_
    try go_wp2
    go_ret
    exact ⟨by first|rfl|(simp [a_u,a_v] <;> rfl)|(simp only [← hji10];first|rfl|(simp [a_u,a_v] <;> rfl))|(simp [*, a_u,a_v] <;> rfl),by repeat (first|(with_reducible first|exact HB.out|apply a_j|apply a_h|apply a_k|refine a_i ?_ c_2.out|refine a_i ?_ d_E.out|refine a_i ?_ d_S.out)|exact HB.out)⟩
   rw [if_neg c13] at H
   have c13b0 : decide (((a_a l0_1 x10_1).f0) ≤ ((a_a l0_1 (ji10)).f0)) = false:=decide_eq_false c13
   clear c13
   replace H:=Option.bind_eq_some_iff.mp H
   obtain ⟨t117,A240,H⟩:=H
   replace H : (if t117 = ((a_a l0_1 x10_1).f9) then ((a_V.f l0_1 ((a_a l0_1 x10_1).f0) ((a_a l0_1 x10_1).f1) ((a_a l0_1 x10_1).f2) ((a_a l0_1 x10_1).f3) ((a_a l0_1 x10_1).f4) ((a_a l0_1 x10_1).f5) ((a_a l0_1 x10_1).f6) ((a_a l0_1 x10_1).f7) ((a_a l0_1 x10_1).f8) ((a_a l0_1 x10_1).f9) ((a_a l0_1 x10_1).f10) ((a_a l0_1 x10_1).f0) ((a_a l0_1 x10_1).f1) ((a_a l0_1 x10_1).f2) ((a_a l0_1 x10_1).f3) ((a_a l0_1 x10_1).f4) ((a_a l0_1 x10_1).f5) ((a_a l0_1 x10_1).f6) ((a_a l0_1 x10_1).f7) ((a_a l0_1 x10_1).f8) ((a_a l0_1 x10_1).f9) ((a_a l0_1 x10_1).f10)).bind fun t118 => (if t118 = ((a_a l0_1 x10_1).f9) then (a_t.l0 k1 l0_1 (l0_1.length : Int) (wrap64 (x10_1 + 1)) a0_0 l0_1) else (some false))) else (some false)) = some r:=H
   have A24:=a_f.mk A240
   clear A240
   by_cases c25 : t117 = ((a_a l0_1 x10_1).f9)
   rotate_left
   ·rw [if_neg c25] at H
    have c25b0 : (t117 == ((a_a l0_1 x10_1).f9)) = false:=beq_eq_false_iff_ne.mpr c25
    have c25b1 : (t117 != ((a_a l0_1 x10_1).f9)) = true:=bne_iff_ne.mpr c25
    obtain rfl:=Option.some.inj H
    have p116 : 0 ≤ ((ji10) : Int):=of_decide_eq_true (by first|(with_reducible assumption)|assumption)
    have q116 : (ji10) < (l0_1.length : Int):=of_decide_eq_true (by first|(with_reducible assumption)|assumption)
    obtain ⟨ad116,e116,c_j,c_k,c_l,c_m,c_n,c_o,c_p,c_q,c_r,c_s,b_1⟩:=c_R c_c.out (ji10) p116 q116
    have b_y:=b_1
    have b_0:=c_s
    have b_Z:=c_r
    have b_Y:=c_q
    have b_X:=c_p
    have b_W:=c_o
    have b_V:=c_n
    have b_U:=c_m
    have b_T:=c_l
    have b_S:=c_k
    have b_R:=c_j
    obtain rfl : ad112 = ad116:=(by injection e116)
    replace c_j:=(HB.out.cell (World.block_lt_of_cell? w _ c_j)).trans c_j
    replace c_k:=(HB.out.cell (World.block_lt_of_cell? w _ c_k)).trans c_k
    replace c_l:=(HB.out.cell (World.block_lt_of_cell? w _ c_l)).trans c_l
    replace c_m:=(HB.out.cell (World.block_lt_of_cell? w _ c_m)).trans c_m
    replace c_n:=(HB.out.cell (World.block_lt_of_cell? w _ c_n)).trans c_n
    replace c_o:=(HB.out.cell (World.block_lt_of_cell? w _ c_o)).trans c_o
    replace c_p:=(HB.out.cell (World.block_lt_of_cell? w _ c_p)).trans c_p
    replace c_q:=(HB.out.cell (World.block_lt_of_cell? w _ c_q)).trans c_q
    replace c_r:=(HB.out.cell (World.block_lt_of_cell? w _ c_r)).trans c_r
    replace c_s:=(HB.out.cell (World.block_lt_of_cell? w _ c_s)).trans c_s
    replace b_1:=(HB.out.cell (World.block_lt_of_cell? w _ b_1)).trans b_1
    replace p116:=eq_true p116
    replace q116:=eq_true q116
    refine d_R (n:=37) (S:=fun w' => w'.cell? ⟨a_Q,0,none⟩ = some (.int .i64 ((a_a l0_1 x10_1).f0)) ∧ w'.cell? ⟨a_Q,1,none⟩ = some (.int .i64 ((a_a l0_1 x10_1).f1)) ∧ w'.cell? ⟨a_Q,2,none⟩ = some (.int .i64 ((a_a l0_1 x10_1).f2)) ∧ w'.cell? ⟨a_Q,3,none⟩ = some (.int .i64 ((a_a l0_1 x10_1).f3)) ∧ w'.cell? ⟨a_Q,4,none⟩ = some (.int .i64 ((a_a l0_1 x10_1).f4)) ∧ w'.cell? ⟨a_Q,5,none⟩ = some (.bool ((a_a l0_1 x10_1).f5)) ∧ w'.cell? ⟨a_Q,6,none⟩ = some (.bool ((a_a l0_1 x10_1).f6)) ∧ w'.cell? ⟨a_Q,7,none⟩ = some (.int .u32 ((a_a l0_1 x10_1).f7)) ∧ w'.cell? ⟨a_Q,8,none⟩ = some (.int .i64 ((a_a l0_1 x10_1).f8)) ∧ w'.cell? ⟨a_Q,9,none⟩ = some (.int .i64 ((a_a l0_1 x10_1).f9)) ∧ w'.cell? ⟨a_Q,10,none⟩ = some (.int .i64 ((a_a l0_1 x10_1).f10)) ∧ w'.cell? ⟨d_i,0,none⟩ = some (.int .i64 a0_0) ∧ w'.cell? ⟨d_i,1,none⟩ = some (.slice (some ad112) l0_1.length c0_1) ∧ w'.cell? ⟨d_X,0,none⟩ = some (.func (.func 33) #[] #[.pointer (some ⟨a_Q,0,none⟩)]) ∧ w'.cell? (ad112.add (((ji10)).toNat * 11)) = some (.int .i64 ((a_a l0_1 (ji10)).f0)) ∧ w'.cell? ⟨(ad112.add (((ji10)).toNat * 11)).block,(ad112.add (((ji10)).toNat * 11)).off + 1,none⟩ = some (.int .i64 ((a_a l0_1 (ji10)).f1)) ∧ w'.cell? ⟨(ad112.add (((ji10)).toNat * 11)).block,(ad112.add (((ji10)).toNat * 11)).off + 2,none⟩ = some (.int .i64 ((a_a l0_1 (ji10)).f2)) ∧ w'.cell? ⟨(ad112.add (((ji10)).toNat * 11)).block,(ad112.add (((ji10)).toNat * 11)).off + 3,none⟩ = some (.int .i64 ((a_a l0_1 (ji10)).f3)) ∧ w'.cell? ⟨(ad112.add (((ji10)).toNat * 11)).block,(ad112.add (((ji10)).toNat * 11)).off + 4,none⟩ = some (.int .i64 ((a_a l0_1 (ji10)).f4)) ∧ w'.cell? ⟨(ad112.add (((ji10)).toNat * 11)).block,(ad112.add (((ji10)).toNat * 11)).off + 5,none⟩ = some (.bool ((a_a l0_1 (ji10)).f5)) ∧ w'.cell? ⟨(ad112.add (((ji10)).toNat * 11)).block,(ad112.add (((ji10)).toNat * 11)).off + 6,none⟩ = some (.bool ((a_a l0_1 (ji10)).f6)) ∧ w'.cell? ⟨(ad112.add (((ji10)).toNat * 11)).block,(ad112.add (((ji10)).toNat * 11)).off + 7,none⟩ = some (.int .u32 ((a_a l0_1 (ji10)).f7)) ∧ w'.cell? ⟨(ad112.add (((ji10)).toNat * 11)).block,(ad112.add (((ji10)).toNat * 11)).off + 8,none⟩ = some (.int .i64 ((a_a l0_1 (ji10)).f8)) ∧ w'.cell? ⟨(ad112.add (((ji10)).toNat * 11)).block,(ad112.add (((ji10)).toNat * 11)).off + 9,none⟩ = some (.int .i64 ((a_a l0_1 (ji10)).f9)) ∧ w'.cell? ⟨(ad112.add (((ji10)).toNat * 11)).block,(ad112.add (((ji10)).toNat * 11)).off + 10,none⟩ = some (.int .i64 ((a_a l0_1 (ji10)).f10))) (ds:=[]) Z0_ (by kernel_rfl) rfl rfl ⟨(a_b a_w.out 0).trans rfl,(a_b a_w.out 1).trans rfl,(a_b a_w.out 2).trans rfl,(a_b a_w.out 3).trans rfl,(a_b a_w.out 4).trans rfl,(a_b a_w.out 5).trans rfl,(a_b a_w.out 6).trans rfl,(a_b a_w.out 7).trans rfl,(a_b a_w.out 8).trans rfl,(a_b a_w.out 9).trans rfl,(a_b a_w.out 10).trans rfl,(a_b a_Z.out 0).trans rfl,(a_b a_Z.out 1).trans rfl,(a_b b_t.out 0).trans rfl,((HB.out.cell (World.block_lt_of_cell? w _ b_R)).trans b_R),((HB.out.cell (World.block_lt_of_cell? w _ b_S)).trans b_S),((HB.out.cell (World.block_lt_of_cell? w _ b_T)).trans b_T),((HB.out.cell (World.block_lt_of_cell? w _ b_U)).trans b_U),((HB.out.cell (World.block_lt_of_cell? w _ b_V)).trans b_V),((HB.out.cell (World.block_lt_of_cell? w _ b_W)).trans b_W),((HB.out.cell (World.block_lt_of_cell? w _ b_X)).trans b_X),((HB.out.cell (World.block_lt_of_cell? w _ b_Y)).trans b_Y),((HB.out.cell (World.block_lt_of_cell? w _ b_Z)).trans b_Z),((HB.out.cell (World.block_lt_of_cell? w _ b_0)).trans b_0),((HB.out.cell (World.block_lt_of_cell? w _ b_y)).trans b_y)⟩ (fun hHeld => ?_);refine b_5 a_t.tab6 a_t.f_w (fun HT_ HW_ => ?_)
    generalize w21.drew = w60 at a_Z a_w b_t HB c_j c_k b_1 c_l c_m c_n c_o c_p c_q c_r c_s hHeld ⊢
    refine b_v (i:=0) (N:=some 17) (v:=?_) (a':=?_) Z2_ rfl rfl (a_N HT_.out HW_.out (by kernel_rfl)) (fun _ _ _ h => h) (Or.inl ⟨by rfl,?_⟩) hHeld ?_ ?_
    rotate_left
    ·rintro w' ⟨s0,s1,s2,s3,s4,s5,s6,s7,s8,s9,s10,s11,s12,s13,s14,s15,s16,s17,s18,s19,s20,s21,s22,s23,s24⟩
     go_simp
     with_reducible rfl
    rotate_left
    ·simp only [Act.put,sa_,sb_,sc_,a_Y,a_0]
     rfl
    refine one_ (i:=1) (N:=some 18) Z4_ rfl rfl (c_B HT_.out (by kernel_rfl)) (by decide) (fun K hK => ?_)
    refine e_n Tryd.func35 (by kernel_rfl) rfl #[.agg #[.int .i64 ((a_a l0_1 x10_1).f0),.int .i64 ((a_a l0_1 x10_1).f1),.int .i64 ((a_a l0_1 x10_1).f2),.int .i64 ((a_a l0_1 x10_1).f3),.int .i64 ((a_a l0_1 x10_1).f4),.bool ((a_a l0_1 x10_1).f5),.bool ((a_a l0_1 x10_1).f6),.int .u32 ((a_a l0_1 x10_1).f7),.int .i64 ((a_a l0_1 x10_1).f8),.int .i64 ((a_a l0_1 x10_1).f9),.int .i64 ((a_a l0_1 x10_1).f10)]] (by rfl) rfl rfl (by (try simp only [List.map_toArray,List.map_cons,List.map_nil]);first|done|rfl|(simp only [List.length_drop,List.length_take];rfl)) ?_
    with_reducible refine (a_D.calls k1 ((a_a l0_1 x10_1).f0) ((a_a l0_1 x10_1).f1) ((a_a l0_1 x10_1).f2) ((a_a l0_1 x10_1).f3) ((a_a l0_1 x10_1).f4) ((a_a l0_1 x10_1).f5) ((a_a l0_1 x10_1).f6) ((a_a l0_1 x10_1).f7) ((a_a l0_1 x10_1).f8) ((a_a l0_1 x10_1).f9) ((a_a l0_1 x10_1).f10) true _ A7.out).mono ?_
    rintro e w61 ⟨rfl,hb⟩
    refine ⟨_,rfl,?_⟩
    replace a_Z:=a_f.mk (a_l (bup_ a_Z.out) hb)
    replace a_w:=a_f.mk (a_l (bup_ a_w.out) hb)
    replace b_t:=a_f.mk (a_l (bup_ b_t.out) hb)
    replace HB:=a_f.mk (a_q (by repeat (first|(with_reducible first|exact HB.out|apply a_j|apply a_h|apply a_k|refine a_i ?_ c_2.out|refine a_i ?_ d_E.out|refine a_i ?_ d_S.out)|exact HB.out)) hb)
    (try clear hb)
    (try clear hb2)
    (try clear hk)
    (try clear hi)
    refine hK.out _ _ ⟨(a_b a_w.out 0).trans rfl,(a_b a_w.out 1).trans rfl,(a_b a_w.out 2).trans rfl,(a_b a_w.out 3).trans rfl,(a_b a_w.out 4).trans rfl,(a_b a_w.out 5).trans rfl,(a_b a_w.out 6).trans rfl,(a_b a_w.out 7).trans rfl,(a_b a_w.out 8).trans rfl,(a_b a_w.out 9).trans rfl,(a_b a_w.out 10).trans rfl,(a_b a_Z.out 0).trans rfl,(a_b a_Z.out 1).trans rfl,(a_b b_t.out 0).trans rfl,((HB.out.cell (World.block_lt_of_cell? w _ b_R)).trans b_R),((HB.out.cell (World.block_lt_of_cell? w _ b_S)).trans b_S),((HB.out.cell (World.block_lt_of_cell? w _ b_T)).trans b_T),((HB.out.cell (World.block_lt_of_cell? w _ b_U)).trans b_U),((HB.out.cell (World.block_lt_of_cell? w _ b_V)).trans b_V),((HB.out.cell (World.block_lt_of_cell? w _ b_W)).trans b_W),((HB.out.cell (World.block_lt_of_cell? w _ b_X)).trans b_X),((HB.out.cell (World.block_lt_of_cell? w _ b_Y)).trans b_Y),((HB.out.cell (World.block_lt_of_cell? w _ b_Z)).trans b_Z),((HB.out.cell (World.block_lt_of_cell? w _ b_0)).trans b_0),((HB.out.cell (World.block_lt_of_cell? w _ b_y)).trans b_y)⟩ (fun hHeld => ?_)
    clear hK K
    refine d_Y (a':=?_) ?_ ?_
    rotate_left
    ·show Act.put _ (some 18) _ = _
     simp only [Act.put,sa_,sb_,sc_,a_Y,a_0]
     rfl
    refine pt_ 2 (some 19) Z6_ HT_ ?_
    refine pt_ 3 (some 20) Z8_ HT_ ?_
    refine pt_ 4 (some 21) Z10_ HT_ ?_
    refine pt_ 5 (some 22) Z13_ HT_ ?_
    refine pt_ 6 (some 23) Z14_ HT_ ?_
    refine pt_ 7 (some 24) Z16_ HT_ ?_
    refine pt_ 9 (some 26) Z18_ HT_ ?_
    refine pt_ 10 (some 27) Z19_ HT_ ?_
    refine pt_ 14 (some 31) Z20_ HT_ ?_
    refine b_v (i:=8) (N:=some 25) (v:=?_) (a':=?_) Z27_ rfl rfl (a_N HT_.out HW_.out (by kernel_rfl)) (fun _ _ _ h => h) (Or.inl ⟨by rfl,?_⟩) hHeld ?_ ?_
    rotate_left
    ·rintro w' ⟨s0,s1,s2,s3,s4,s5,s6,s7,s8,s9,s10,s11,s12,s13,s14,s15,s16,s17,s18,s19,s20,s21,s22,s23,s24⟩
     go_simp
     with_reducible rfl
    rotate_left
    ·simp only [Act.put,sa_,sb_,sc_,a_Y,a_0]
     rfl
    refine pt_ 11 (some 28) Z30_ HT_ ?_
    refine pt_ 12 (some 29) Z33_ HT_ ?_
    refine b_v (i:=13) (N:=some 30) (v:=?_) (a':=?_) Z36_ rfl rfl (a_N HT_.out HW_.out (by kernel_rfl)) (fun _ _ _ h => h) (Or.inl ⟨by rfl,?_⟩) hHeld ?_ ?_
    rotate_left
    ·rintro w' ⟨s0,s1,s2,s3,s4,s5,s6,s7,s8,s9,s10,s11,s12,s13,s14,s15,s16,s17,s18,s19,s20,s21,s22,s23,s24⟩
     go_simp
     with_reducible rfl
    rotate_left
    ·simp only [Act.put,sa_,sb_,sc_,a_Y,a_0]
     rfl
    refine b_v (i:=15) (N:=some 32) (v:=?_) (a':=?_) Z41_ rfl rfl (a_N HT_.out HW_.out (by kernel_rfl)) (fun _ _ _ h => h) (Or.inl ⟨by rfl,?_⟩) hHeld ?_ ?_
    rotate_left
    ·rintro w' ⟨s0,s1,s2,s3,s4,s5,s6,s7,s8,s9,s10,s11,s12,s13,s14,s15,s16,s17,s18,s19,s20,s21,s22,s23,s24⟩
     go_simp
     with_reducible rfl
    rotate_left
    ·simp only [Act.put,sa_,sb_,sc_,a_Y,a_0]
     rfl
    refine pt_ 16 (some 33) Z43_ HT_ ?_
    refine pt_ 17 (some 34) Z45_ HT_ ?_
    refine pt_ 18 (some 35) Z48_ HT_ ?_
    refine pt_ 19 (some 36) Z51_ HT_ ?_
    refine pt_ 20 (some 37) Z54_ HT_ ?_
    refine pt_ 24 (some 41) Z56_ HT_ ?_
    refine b_v (i:=21) (N:=some 38) (v:=?_) (a':=?_) Z59_ rfl rfl (a_N HT_.out HW_.out (by kernel_rfl)) (fun _ _ _ h => h) (Or.inl ⟨by rfl,?_⟩) hHeld ?_ ?_
    rotate_left
    ·rintro w' ⟨s0,s1,s2,s3,s4,s5,s6,s7,s8,s9,s10,s11,s12,s13,s14,s15,s16,s17,s18,s19,s20,s21,s22,s23,s24⟩
     go_simp
     with_reducible rfl
    rotate_left
    ·simp only [Act.put,sa_,sb_,sc_,a_Y,a_0]
     rfl
    refine b_v (i:=22) (N:=some 39) (v:=?_) (a':=?_) Z62_ rfl rfl (a_N HT_.out HW_.out (by kernel_rfl)) (fun _ _ _ h => h) (Or.inl ⟨by rfl,?_⟩) hHeld ?_ ?_
    rotate_left
    ·rintro w' ⟨s0,s1,s2,s3,s4,s5,s6,s7,s8,s9,s10,s11,s12,s13,s14,s15,s16,s17,s18,s19,s20,s21,s22,s23,s24⟩
     go_simp
     with_reducible rfl
    rotate_left
    ·simp only [Act.put,sa_,sb_,sc_,a_Y,a_0]
     rfl
    refine b_v (i:=25) (N:=some 42) (v:=?_) (a':=?_) Z63_ rfl rfl (a_N HT_.out HW_.out (by kernel_rfl)) (fun _ _ _ h => h) (Or.inl ⟨by rfl,?_⟩) hHeld ?_ ?_
    rotate_left
    ·rintro w' ⟨s0,s1,s2,s3,s4,s5,s6,s7,s8,s9,s10,s11,s12,s13,s14,s15,s16,s17,s18,s19,s20,s21,s22,s23,s24⟩
     go_simp
     with_reducible rfl
    rotate_left
    ·simp only [Act.put,sa_,sb_,sc_,a_Y,a_0]
     rfl
    refine one_ (i:=23) (N:=some 40) Z68_ rfl rfl (c_B HT_.out (by kernel_rfl)) (by decide) (fun K hK => ?_)
    refine e_n Tryd.func23 (by kernel_rfl) rfl #[.slice (some ad112) l0_1.length c0_1,.func (.func 33) #[] #[.pointer (some ⟨a_Q,0,none⟩)]] (by rfl) rfl rfl (by (try simp only [List.map_toArray,List.map_cons,List.map_nil]);first|done|rfl|(simp only [List.length_drop,List.length_take];rfl)) ?_
    with_reducible refine (a_X.calls _ _ l0_1 a_Q ((a_a l0_1 x10_1).f0) ((a_a l0_1 x10_1).f1) ((a_a l0_1 x10_1).f2) ((a_a l0_1 x10_1).f3) ((a_a l0_1 x10_1).f4) ((a_a l0_1 x10_1).f5) ((a_a l0_1 x10_1).f6) ((a_a l0_1 x10_1).f7) ((a_a l0_1 x10_1).f8) ((a_a l0_1 x10_1).f9) ((a_a l0_1 x10_1).f10) t117 _ ?side1 ?side2 ?side3 A24.out).mono ?_
    (case side1 => repeat (first|exact (Kd.b_i c_c.out HB.out)|(with_reducible refine Kd.b_b ?_ _)|(with_reducible refine Kd.b_c ?_ _)|(with_reducible refine Kd.b_z ?_)))
    (case side2 => exact d_I.out)
    (case side3 => exact (bup_ a_w.out))
    rintro e w62 ⟨rfl,hb⟩
    refine ⟨_,rfl,?_⟩
    replace a_Z:=a_f.mk (a_l (bup_ a_Z.out) hb)
    replace a_w:=a_f.mk (a_l (bup_ a_w.out) hb)
    replace b_t:=a_f.mk (a_l (bup_ b_t.out) hb)
    replace HB:=a_f.mk (a_q (by repeat (first|(with_reducible first|exact HB.out|apply a_j|apply a_h|apply a_k|refine a_i ?_ c_2.out|refine a_i ?_ d_E.out|refine a_i ?_ d_S.out)|exact HB.out)) hb)
    (try clear hb)
    (try clear hb2)
    (try clear hk)
    (try clear hi)
    refine hK.out _ _ ⟨(a_b a_w.out 0).trans rfl,(a_b a_w.out 1).trans rfl,(a_b a_w.out 2).trans rfl,(a_b a_w.out 3).trans rfl,(a_b a_w.out 4).trans rfl,(a_b a_w.out 5).trans rfl,(a_b a_w.out 6).trans rfl,(a_b a_w.out 7).trans rfl,(a_b a_w.out 8).trans rfl,(a_b a_w.out 9).trans rfl,(a_b a_w.out 10).trans rfl,(a_b a_Z.out 0).trans rfl,(a_b a_Z.out 1).trans rfl,(a_b b_t.out 0).trans rfl,((HB.out.cell (World.block_lt_of_cell? w _ b_R)).trans b_R),((HB.out.cell (World.block_lt_of_cell? w _ b_S)).trans b_S),((HB.out.cell (World.block_lt_of_cell? w _ b_T)).trans b_T),((HB.out.cell (World.block_lt_of_cell? w _ b_U)).trans b_U),((HB.out.cell (World.block_lt_of_cell? w _ b_V)).trans b_V),((HB.out.cell (World.block_lt_of_cell? w _ b_W)).trans b_W),((HB.out.cell (World.block_lt_of_cell? w _ b_X)).trans b_X),((HB.out.cell (World.block_lt_of_cell? w _ b_Y)).trans b_Y),((HB.out.cell (World.block_lt_of_cell? w _ b_Z)).trans b_Z),((HB.out.cell (World.block_lt_of_cell? w _ b_0)).trans b_0),((HB.out.cell (World.block_lt_of_cell? w _ b_y)).trans b_y)⟩ (fun hHeld => ?_)
    clear hK K
    refine d_Y (a':=?_) ?_ ?_
    rotate_left
    ·show Act.put _ (some 40) _ = _
     simp only [Act.put,sa_,sb_,sc_,a_Y,a_0]
     rfl
    refine pt_ 26 (some 43) Z69_ HT_ ?_
    refine pt_ 27 (some 44) Z70_ HT_ ?_
    refine pt_ 28 (some 45) Z71_ HT_ ?_
    refine pk_ 29 (some 46) Z72_ HT_ ?_
    refine pk_ 30 (some 47) Z75_ HT_ ?_
    refine pk_ 31 (some 48) Z76_ HT_ ?_
    refine pk_ 32 (some 49) Z79_ HT_ ?_
    refine pk_ 33 (some 50) Z80_ HT_ ?_
    refine pk_ 34 (some 51) Z81_ HT_ ?_
    refine pk_ 35 (some 52) Z82_ HT_ ?_
    refine pt_ 36 (some 53) Z83_ HT_ ?_
    refine e_L (c_Z HT_.out (by kernel_rfl)) ?_
    try go_wp2
    go_ret
    exact ⟨by first|rfl|(simp [a_u,a_v] <;> rfl)|(simp only [← hji10];first|rfl|(simp [a_u,a_v] <;> rfl))|(simp [*, a_u,a_v] <;> rfl),by repeat (first|(with_reducible first|exact HB.out|apply a_j|apply a_h|apply a_k|refine a_i ?_ c_2.out|refine a_i ?_ d_E.out|refine a_i ?_ d_S.out)|exact HB.out)⟩
   rw [if_pos c25] at H
   have c25b0 : (t117 == ((a_a l0_1 x10_1).f9)) = true:=beq_iff_eq.mpr c25
   have c25b1 : (t117 != ((a_a l0_1 x10_1).f9)) = false:=bne_eq_false_iff_eq.mpr c25
   clear c25
   replace H:=Option.bind_eq_some_iff.mp H
   obtain ⟨t118,A260,H⟩:=H
   replace H : (if t118 = ((a_a l0_1 x10_1).f9) then (a_t.l0 k1 l0_1 (l0_1.length : Int) (wrap64 (x10_1 + 1)) a0_0 l0_1) else (some false)) = some r:=H
   have A26:=a_f.mk A260
   clear A260
   by_cases c27 : t118 = ((a_a l0_1 x10_1).f9)
   rotate_left
   ·rw [if_neg c27] at H
    have c27b0 : (t118 == ((a_a l0_1 x10_1).f9)) = false:=beq_eq_false_iff_ne.mpr c27
    have c27b1 : (t118 != ((a_a l0_1 x10_1).f9)) = true:=bne_iff_ne.mpr c27
    obtain rfl:=Option.some.inj H
    have p116 : 0 ≤ ((ji10) : Int):=of_decide_eq_true (by first|(with_reducible assumption)|assumption)
    have q116 : (ji10) < (l0_1.length : Int):=of_decide_eq_true (by first|(with_reducible assumption)|assumption)
    obtain ⟨ad116,e116,c_j,c_k,c_l,c_m,c_n,c_o,c_p,c_q,c_r,c_s,b_1⟩:=c_R c_c.out (ji10) p116 q116
    have b_y:=b_1
    have b_0:=c_s
    have b_Z:=c_r
    have b_Y:=c_q
    have b_X:=c_p
    have b_W:=c_o
    have b_V:=c_n
    have b_U:=c_m
    have b_T:=c_l
    have b_S:=c_k
    have b_R:=c_j
    obtain rfl : ad112 = ad116:=(by injection e116)
    replace c_j:=(HB.out.cell (World.block_lt_of_cell? w _ c_j)).trans c_j
    replace c_k:=(HB.out.cell (World.block_lt_of_cell? w _ c_k)).trans c_k
    replace c_l:=(HB.out.cell (World.block_lt_of_cell? w _ c_l)).trans c_l
    replace c_m:=(HB.out.cell (World.block_lt_of_cell? w _ c_m)).trans c_m
    replace c_n:=(HB.out.cell (World.block_lt_of_cell? w _ c_n)).trans c_n
    replace c_o:=(HB.out.cell (World.block_lt_of_cell? w _ c_o)).trans c_o
    replace c_p:=(HB.out.cell (World.block_lt_of_cell? w _ c_p)).trans c_p
    replace c_q:=(HB.out.cell (World.block_lt_of_cell? w _ c_q)).trans c_q
    replace c_r:=(HB.out.cell (World.block_lt_of_cell? w _ c_r)).trans c_r
    replace c_s:=(HB.out.cell (World.block_lt_of_cell? w _ c_s)).trans c_s
    replace b_1:=(HB.out.cell (World.block_lt_of_cell? w _ b_1)).trans b_1
    replace p116:=eq_true p116
    replace q116:=eq_true q116
    refine d_R (n:=37) (S:=fun w' => w'.cell? ⟨a_Q,0,none⟩ = some (.int .i64 ((a_a l0_1 x10_1).f0)) ∧ w'.cell? ⟨a_Q,1,none⟩ = some (.int .i64 ((a_a l0_1 x10_1).f1)) ∧ w'.cell? ⟨a_Q,2,none⟩ = some (.int .i64 ((a_a l0_1 x10_1).f2)) ∧ w'.cell? ⟨a_Q,3,none⟩ = some (.int .i64 ((a_a l0_1 x10_1).f3)) ∧ w'.cell? ⟨a_Q,4,none⟩ = some (.int .i64 ((a_a l0_1 x10_1).f4)) ∧ w'.cell? ⟨a_Q,5,none⟩ = some (.bool ((a_a l0_1 x10_1).f5)) ∧ w'.cell? ⟨a_Q,6,none⟩ = some (.bool ((a_a l0_1 x10_1).f6)) ∧ w'.cell? ⟨a_Q,7,none⟩ = some (.int .u32 ((a_a l0_1 x10_1).f7)) ∧ w'.cell? ⟨a_Q,8,none⟩ = some (.int .i64 ((a_a l0_1 x10_1).f8)) ∧ w'.cell? ⟨a_Q,9,none⟩ = some (.int .i64 ((a_a l0_1 x10_1).f9)) ∧ w'.cell? ⟨a_Q,10,none⟩ = some (.int .i64 ((a_a l0_1 x10_1).f10)) ∧ w'.cell? ⟨d_i,0,none⟩ = some (.int .i64 a0_0) ∧ w'.cell? ⟨d_i,1,none⟩ = some (.slice (some ad112) l0_1.length c0_1) ∧ w'.cell? ⟨d_X,0,none⟩ = some (.func (.func 33) #[] #[.pointer (some ⟨a_Q,0,none⟩)]) ∧ w'.cell? (ad112.add (((ji10)).toNat * 11)) = some (.int .i64 ((a_a l0_1 (ji10)).f0)) ∧ w'.cell? ⟨(ad112.add (((ji10)).toNat * 11)).block,(ad112.add (((ji10)).toNat * 11)).off + 1,none⟩ = some (.int .i64 ((a_a l0_1 (ji10)).f1)) ∧ w'.cell? ⟨(ad112.add (((ji10)).toNat * 11)).block,(ad112.add (((ji10)).toNat * 11)).off + 2,none⟩ = some (.int .i64 ((a_a l0_1 (ji10)).f2)) ∧ w'.cell? ⟨(ad112.add (((ji10)).toNat * 11)).block,(ad112.add (((ji10)).toNat * 11)).off + 3,none⟩ = some (.int .i64 ((a_a l0_1 (ji10)).f3)) ∧ w'.cell? ⟨(ad112.add (((ji10)).toNat * 11)).block,(ad112.add (((ji10)).toNat * 11)).off + 4,none⟩ = some (.int .i64 ((a_a l0_1 (ji10)).f4)) ∧ w'.cell? ⟨(ad112.add (((ji10)).toNat * 11)).block,(ad112.add (((ji10)).toNat * 11)).off + 5,none⟩ = some (.bool ((a_a l0_1 (ji10)).f5)) ∧ w'.cell? ⟨(ad112.add (((ji10)).toNat * 11)).block,(ad112.add (((ji10)).toNat * 11)).off + 6,none⟩ = some (.bool ((a_a l0_1 (ji10)).f6)) ∧ w'.cell? ⟨(ad112.add (((ji10)).toNat * 11)).block,(ad112.add (((ji10)).toNat * 11)).off + 7,none⟩ = some (.int .u32 ((a_a l0_1 (ji10)).f7)) ∧ w'.cell? ⟨(ad112.add (((ji10)).toNat * 11)).block,(ad112.add (((ji10)).toNat * 11)).off + 8,none⟩ = some (.int .i64 ((a_a l0_1 (ji10)).f8)) ∧ w'.cell? ⟨(ad112.add (((ji10)).toNat * 11)).block,(ad112.add (((ji10)).toNat * 11)).off + 9,none⟩ = some (.int .i64 ((a_a l0_1 (ji10)).f9)) ∧ w'.cell? ⟨(ad112.add (((ji10)).toNat * 11)).block,(ad112.add (((ji10)).toNat * 11)).off + 10,none⟩ = some (.int .i64 ((a_a l0_1 (ji10)).f10))) (ds:=[]) Z0_ (by kernel_rfl) rfl rfl ⟨(a_b a_w.out 0).trans rfl,(a_b a_w.out 1).trans rfl,(a_b a_w.out 2).trans rfl,(a_b a_w.out 3).trans rfl,(a_b a_w.out 4).trans rfl,(a_b a_w.out 5).trans rfl,(a_b a_w.out 6).trans rfl,(a_b a_w.out 7).trans rfl,(a_b a_w.out 8).trans rfl,(a_b a_w.out 9).trans rfl,(a_b a_w.out 10).trans rfl,(a_b a_Z.out 0).trans rfl,(a_b a_Z.out 1).trans rfl,(a_b b_t.out 0).trans rfl,((HB.out.cell (World.block_lt_of_cell? w _ b_R)).trans b_R),((HB.out.cell (World.block_lt_of_cell? w _ b_S)).trans b_S),((HB.out.cell (World.block_lt_of_cell? w _ b_T)).trans b_T),((HB.out.cell (World.block_lt_of_cell? w _ b_U)).trans b_U),((HB.out.cell (World.block_lt_of_cell? w _ b_V)).trans b_V),((HB.out.cell (World.block_lt_of_cell? w _ b_W)).trans b_W),((HB.out.cell (World.block_lt_of_cell? w _ b_X)).trans b_X),((HB.out.cell (World.block_lt_of_cell? w _ b_Y)).trans b_Y),((HB.out.cell (World.block_lt_of_cell? w _ b_Z)).trans b_Z),((HB.out.cell (World.block_lt_of_cell? w _ b_0)).trans b_0),((HB.out.cell (World.block_lt_of_cell? w _ b_y)).trans b_y)⟩ (fun hHeld => ?_);refine b_5 a_t.tab6 a_t.f_w (fun HT_ HW_ => ?_)
    generalize w21.drew = w48 at a_Z a_w b_t HB c_j c_k b_1 c_l c_m c_n c_o c_p c_q c_r c_s hHeld ⊢
    refine b_v (i:=0) (N:=some 17) (v:=?_) (a':=?_) Z2_ rfl rfl (a_N HT_.out HW_.out (by kernel_rfl)) (fun _ _ _ h => h) (Or.inl ⟨by rfl,?_⟩) hHeld ?_ ?_
    rotate_left
    ·rintro w' ⟨s0,s1,s2,s3,s4,s5,s6,s7,s8,s9,s10,s11,s12,s13,s14,s15,s16,s17,s18,s19,s20,s21,s22,s23,s24⟩
     go_simp
     with_reducible rfl
    rotate_left
    ·simp only [Act.put,sa_,sb_,sc_,a_Y,a_0]
     rfl
    refine one_ (i:=1) (N:=some 18) Z4_ rfl rfl (c_B HT_.out (by kernel_rfl)) (by decide) (fun K hK => ?_)
    refine e_n Tryd.func35 (by kernel_rfl) rfl #[.agg #[.int .i64 ((a_a l0_1 x10_1).f0),.int .i64 ((a_a l0_1 x10_1).f1),.int .i64 ((a_a l0_1 x10_1).f2),.int .i64 ((a_a l0_1 x10_1).f3),.int .i64 ((a_a l0_1 x10_1).f4),.bool ((a_a l0_1 x10_1).f5),.bool ((a_a l0_1 x10_1).f6),.int .u32 ((a_a l0_1 x10_1).f7),.int .i64 ((a_a l0_1 x10_1).f8),.int .i64 ((a_a l0_1 x10_1).f9),.int .i64 ((a_a l0_1 x10_1).f10)]] (by rfl) rfl rfl (by (try simp only [List.map_toArray,List.map_cons,List.map_nil]);first|done|rfl|(simp only [List.length_drop,List.length_take];rfl)) ?_
    with_reducible refine (a_D.calls k1 ((a_a l0_1 x10_1).f0) ((a_a l0_1 x10_1).f1) ((a_a l0_1 x10_1).f2) ((a_a l0_1 x10_1).f3) ((a_a l0_1 x10_1).f4) ((a_a l0_1 x10_1).f5) ((a_a l0_1 x10_1).f6) ((a_a l0_1 x10_1).f7) ((a_a l0_1 x10_1).f8) ((a_a l0_1 x10_1).f9) ((a_a l0_1 x10_1).f10) true _ A7.out).mono ?_
    rintro e w49 ⟨rfl,hb⟩
    refine ⟨_,rfl,?_⟩
    replace a_Z:=a_f.mk (a_l (bup_ a_Z.out) hb)
    replace a_w:=a_f.mk (a_l (bup_ a_w.out) hb)
    replace b_t:=a_f.mk (a_l (bup_ b_t.out) hb)
    replace HB:=a_f.mk (a_q (by repeat (first|(with_reducible first|exact HB.out|apply a_j|apply a_h|apply a_k|refine a_i ?_ c_2.out|refine a_i ?_ d_E.out|refine a_i ?_ d_S.out)|exact HB.out)) hb)
    (try clear hb)
    (try clear hb2)
    (try clear hk)
    (try clear hi)
    refine hK.out _ _ ⟨(a_b a_w.out 0).trans rfl,(a_b a_w.out 1).trans rfl,(a_b a_w.out 2).trans rfl,(a_b a_w.out 3).trans rfl,(a_b a_w.out 4).trans rfl,(a_b a_w.out 5).trans rfl,(a_b a_w.out 6).trans rfl,(a_b a_w.out 7).trans rfl,(a_b a_w.out 8).trans rfl,(a_b a_w.out 9).trans rfl,(a_b a_w.out 10).trans rfl,(a_b a_Z.out 0).trans rfl,(a_b a_Z.out 1).trans rfl,(a_b b_t.out 0).trans rfl,((HB.out.cell (World.block_lt_of_cell? w _ b_R)).trans b_R),((HB.out.cell (World.block_lt_of_cell? w _ b_S)).trans b_S),((HB.out.cell (World.block_lt_of_cell? w _ b_T)).trans b_T),((HB.out.cell (World.block_lt_of_cell? w _ b_U)).trans b_U),((HB.out.cell (World.block_lt_of_cell? w _ b_V)).trans b_V),((HB.out.cell (World.block_lt_of_cell? w _ b_W)).trans b_W),((HB.out.cell (World.block_lt_of_cell? w _ b_X)).trans b_X),((HB.out.cell (World.block_lt_of_cell? w _ b_Y)).trans b_Y),((HB.out.cell (World.block_lt_of_cell? w _ b_Z)).trans b_Z),((HB.out.cell (World.block_lt_of_cell? w _ b_0)).trans b_0),((HB.out.cell (World.block_lt_of_cell? w _ b_y)).trans b_y)⟩ (fun hHeld => ?_)
    clear hK K
    refine d_Y (a':=?_) ?_ ?_
    rotate_left
    ·show Act.put _ (some 18) _ = _
     simp only [Act.put,sa_,sb_,sc_,a_Y,a_0]
     rfl
    refine pt_ 2 (some 19) Z6_ HT_ ?_
    refine pt_ 3 (some 20) Z8_ HT_ ?_
    refine pt_ 4 (some 21) Z10_ HT_ ?_
    refine pt_ 5 (some 22) Z13_ HT_ ?_
    refine pt_ 6 (some 23) Z14_ HT_ ?_
    refine pt_ 7 (some 24) Z16_ HT_ ?_
    refine pt_ 9 (some 26) Z18_ HT_ ?_
    refine pt_ 10 (some 27) Z19_ HT_ ?_
    refine pt_ 14 (some 31) Z20_ HT_ ?_
    refine b_v (i:=8) (N:=some 25) (v:=?_) (a':=?_) Z27_ rfl rfl (a_N HT_.out HW_.out (by kernel_rfl)) (fun _ _ _ h => h) (Or.inl ⟨by rfl,?_⟩) hHeld ?_ ?_
    rotate_left
    ·rintro w' ⟨s0,s1,s2,s3,s4,s5,s6,s7,s8,s9,s10,s11,s12,s13,s14,s15,s16,s17,s18,s19,s20,s21,s22,s23,s24⟩
     go_simp
     with_reducible rfl
    rotate_left
    ·simp only [Act.put,sa_,sb_,sc_,a_Y,a_0]
     rfl
    refine pt_ 11 (some 28) Z30_ HT_ ?_
    refine pt_ 12 (some 29) Z33_ HT_ ?_
    refine b_v (i:=13) (N:=some 30) (v:=?_) (a':=?_) Z36_ rfl rfl (a_N HT_.out HW_.out (by kernel_rfl)) (fun _ _ _ h => h) (Or.inl ⟨by rfl,?_⟩) hHeld ?_ ?_
    rotate_left
    ·rintro w' ⟨s0,s1,s2,s3,s4,s5,s6,s7,s8,s9,s10,s11,s12,s13,s14,s15,s16,s17,s18,s19,s20,s21,s22,s23,s24⟩
     go_simp
     with_reducible rfl
    rotate_left
    ·simp only [Act.put,sa_,sb_,sc_,a_Y,a_0]
     rfl
    refine b_v (i:=15) (N:=some 32) (v:=?_) (a':=?_) Z41_ rfl rfl (a_N HT_.out HW_.out (by kernel_rfl)) (fun _ _ _ h => h) (Or.inl ⟨by rfl,?_⟩) hHeld ?_ ?_
    rotate_left
    ·rintro w' ⟨s0,s1,s2,s3,s4,s5,s6,s7,s8,s9,s10,s11,s12,s13,s14,s15,s16,s17,s18,s19,s20,s21,s22,s23,s24⟩
     go_simp
     with_reducible rfl
    rotate_left
    ·simp only [Act.put,sa_,sb_,sc_,a_Y,a_0]
     rfl
    refine pt_ 16 (some 33) Z43_ HT_ ?_
    refine pt_ 17 (some 34) Z45_ HT_ ?_
    refine pt_ 18 (some 35) Z48_ HT_ ?_
    refine pt_ 19 (some 36) Z51_ HT_ ?_
    refine pt_ 20 (some 37) Z54_ HT_ ?_
    refine pt_ 24 (some 41) Z56_ HT_ ?_
    refine b_v (i:=21) (N:=some 38) (v:=?_) (a':=?_) Z59_ rfl rfl (a_N HT_.out HW_.out (by kernel_rfl)) (fun _ _ _ h => h) (Or.inl ⟨by rfl,?_⟩) hHeld ?_ ?_
    rotate_left
    ·rintro w' ⟨s0,s1,s2,s3,s4,s5,s6,s7,s8,s9,s10,s11,s12,s13,s14,s15,s16,s17,s18,s19,s20,s21,s22,s23,s24⟩
     go_simp
     with_reducible rfl
    rotate_left
    ·simp only [Act.put,sa_,sb_,sc_,a_Y,a_0]
     rfl
    refine b_v (i:=22) (N:=some 39) (v:=?_) (a':=?_) Z62_ rfl rfl (a_N HT_.out HW_.out (by kernel_rfl)) (fun _ _ _ h => h) (Or.inl ⟨by rfl,?_⟩) hHeld ?_ ?_
    rotate_left
    ·rintro w' ⟨s0,s1,s2,s3,s4,s5,s6,s7,s8,s9,s10,s11,s12,s13,s14,s15,s16,s17,s18,s19,s20,s21,s22,s23,s24⟩
     go_simp
     with_reducible rfl
    rotate_left
    ·simp only [Act.put,sa_,sb_,sc_,a_Y,a_0]
     rfl
    refine b_v (i:=25) (N:=some 42) (v:=?_) (a':=?_) Z63_ rfl rfl (a_N HT_.out HW_.out (by kernel_rfl)) (fun _ _ _ h => h) (Or.inl ⟨by rfl,?_⟩) hHeld ?_ ?_
    rotate_left
    ·rintro w' ⟨s0,s1,s2,s3,s4,s5,s6,s7,s8,s9,s10,s11,s12,s13,s14,s15,s16,s17,s18,s19,s20,s21,s22,s23,s24⟩
     go_simp
     with_reducible rfl
    rotate_left
    ·simp only [Act.put,sa_,sb_,sc_,a_Y,a_0]
     rfl
    refine one_ (i:=23) (N:=some 40) Z68_ rfl rfl (c_B HT_.out (by kernel_rfl)) (by decide) (fun K hK => ?_)
    refine e_n Tryd.func23 (by kernel_rfl) rfl #[.slice (some ad112) l0_1.length c0_1,.func (.func 33) #[] #[.pointer (some ⟨a_Q,0,none⟩)]] (by rfl) rfl rfl (by (try simp only [List.map_toArray,List.map_cons,List.map_nil]);first|done|rfl|(simp only [List.length_drop,List.length_take];rfl)) ?_
    with_reducible refine (a_X.calls _ _ l0_1 a_Q ((a_a l0_1 x10_1).f0) ((a_a l0_1 x10_1).f1) ((a_a l0_1 x10_1).f2) ((a_a l0_1 x10_1).f3) ((a_a l0_1 x10_1).f4) ((a_a l0_1 x10_1).f5) ((a_a l0_1 x10_1).f6) ((a_a l0_1 x10_1).f7) ((a_a l0_1 x10_1).f8) ((a_a l0_1 x10_1).f9) ((a_a l0_1 x10_1).f10) t117 _ ?side1 ?side2 ?side3 A24.out).mono ?_
    (case side1 => repeat (first|exact (Kd.b_i c_c.out HB.out)|(with_reducible refine Kd.b_b ?_ _)|(with_reducible refine Kd.b_c ?_ _)|(with_reducible refine Kd.b_z ?_)))
    (case side2 => exact d_I.out)
    (case side3 => exact (bup_ a_w.out))
    rintro e w50 ⟨rfl,hb⟩
    refine ⟨_,rfl,?_⟩
    replace a_Z:=a_f.mk (a_l (bup_ a_Z.out) hb)
    replace a_w:=a_f.mk (a_l (bup_ a_w.out) hb)
    replace b_t:=a_f.mk (a_l (bup_ b_t.out) hb)
    replace HB:=a_f.mk (a_q (by repeat (first|(with_reducible first|exact HB.out|apply a_j|apply a_h|apply a_k|refine a_i ?_ c_2.out|refine a_i ?_ d_E.out|refine a_i ?_ d_S.out)|exact HB.out)) hb)
    (try clear hb)
    (try clear hb2)
    (try clear hk)
    (try clear hi)
    refine hK.out _ _ ⟨(a_b a_w.out 0).trans rfl,(a_b a_w.out 1).trans rfl,(a_b a_w.out 2).trans rfl,(a_b a_w.out 3).trans rfl,(a_b a_w.out 4).trans rfl,(a_b a_w.out 5).trans rfl,(a_b a_w.out 6).trans rfl,(a_b a_w.out 7).trans rfl,(a_b a_w.out 8).trans rfl,(a_b a_w.out 9).trans rfl,(a_b a_w.out 10).trans rfl,(a_b a_Z.out 0).trans rfl,(a_b a_Z.out 1).trans rfl,(a_b b_t.out 0).trans rfl,((HB.out.cell (World.block_lt_of_cell? w _ b_R)).trans b_R),((HB.out.cell (World.block_lt_of_cell? w _ b_S)).trans b_S),((HB.out.cell (World.block_lt_of_cell? w _ b_T)).trans b_T),((HB.out.cell (World.block_lt_of_cell? w _ b_U)).trans b_U),((HB.out.cell (World.block_lt_of_cell? w _ b_V)).trans b_V),((HB.out.cell (World.block_lt_of_cell? w _ b_W)).trans b_W),((HB.out.cell (World.block_lt_of_cell? w _ b_X)).trans b_X),((HB.out.cell (World.block_lt_of_cell? w _ b_Y)).trans b_Y),((HB.out.cell (World.block_lt_of_cell? w _ b_Z)).trans b_Z),((HB.out.cell (World.block_lt_of_cell? w _ b_0)).trans b_0),((HB.out.cell (World.block_lt_of_cell? w _ b_y)).trans b_y)⟩ (fun hHeld => ?_)
    clear hK K
    refine d_Y (a':=?_) ?_ ?_
    rotate_left
    ·show Act.put _ (some 40) _ = _
     simp only [Act.put,sa_,sb_,sc_,a_Y,a_0]
     rfl
    refine pt_ 26 (some 43) Z69_ HT_ ?_
    refine pt_ 27 (some 44) Z70_ HT_ ?_
    refine pt_ 28 (some 45) Z71_ HT_ ?_
    refine pt_ 29 (some 46) Z72_ HT_ ?_
    refine pt_ 31 (some 48) Z73_ HT_ ?_
    refine pt_ 33 (some 50) Z74_ HT_ ?_
    refine b_v (i:=30) (N:=some 47) (v:=?_) (a':=?_) Z77_ rfl rfl (a_N HT_.out HW_.out (by kernel_rfl)) (fun _ _ _ h => h) (Or.inl ⟨by rfl,?_⟩) hHeld ?_ ?_
    rotate_left
    ·rintro w' ⟨s0,s1,s2,s3,s4,s5,s6,s7,s8,s9,s10,s11,s12,s13,s14,s15,s16,s17,s18,s19,s20,s21,s22,s23,s24⟩
     go_simp
     with_reducible rfl
    rotate_left
    ·simp only [Act.put,sa_,sb_,sc_,a_Y,a_0]
     rfl
    refine b_v (i:=34) (N:=some 51) (v:=?_) (a':=?_) Z78_ rfl rfl (a_N HT_.out HW_.out (by kernel_rfl)) (fun _ _ _ h => h) (Or.inl ⟨by rfl,?_⟩) hHeld ?_ ?_
    rotate_left
    ·rintro w' ⟨s0,s1,s2,s3,s4,s5,s6,s7,s8,s9,s10,s11,s12,s13,s14,s15,s16,s17,s18,s19,s20,s21,s22,s23,s24⟩
     go_simp
     with_reducible rfl
    rotate_left
    ·simp only [Act.put,sa_,sb_,sc_,a_Y,a_0]
     rfl
    refine one_ (i:=32) (N:=some 49) Z81_ rfl rfl (c_B HT_.out (by kernel_rfl)) (by decide) (fun K hK => ?_)
    refine e_n Tryd.func23 (by kernel_rfl) rfl #[.slice (some ad112) l0_1.length c0_1,.func (.func 34) #[] #[.pointer (some ⟨d_X,0,none⟩),.pointer (some ⟨a_Q,0,none⟩)]] (by rfl) rfl rfl (by (try simp only [List.map_toArray,List.map_cons,List.map_nil]);first|done|rfl|(simp only [List.length_drop,List.length_take];rfl)) ?_
    with_reducible refine (a_V.calls _ _ l0_1 d_X a_Q a_Q ((a_a l0_1 x10_1).f0) ((a_a l0_1 x10_1).f1) ((a_a l0_1 x10_1).f2) ((a_a l0_1 x10_1).f3) ((a_a l0_1 x10_1).f4) ((a_a l0_1 x10_1).f5) ((a_a l0_1 x10_1).f6) ((a_a l0_1 x10_1).f7) ((a_a l0_1 x10_1).f8) ((a_a l0_1 x10_1).f9) ((a_a l0_1 x10_1).f10) ((a_a l0_1 x10_1).f0) ((a_a l0_1 x10_1).f1) ((a_a l0_1 x10_1).f2) ((a_a l0_1 x10_1).f3) ((a_a l0_1 x10_1).f4) ((a_a l0_1 x10_1).f5) ((a_a l0_1 x10_1).f6) ((a_a l0_1 x10_1).f7) ((a_a l0_1 x10_1).f8) ((a_a l0_1 x10_1).f9) ((a_a l0_1 x10_1).f10) t118 _ ?side1 ?side2 ?side3 ?side4 ?side5 A26.out).mono ?_
    (case side1 => repeat (first|exact (Kd.b_i c_c.out HB.out)|(with_reducible refine Kd.b_b ?_ _)|(with_reducible refine Kd.b_c ?_ _)|(with_reducible refine Kd.b_z ?_)))
    (case side2 => exact d_I.out)
    (case side3 => exact (bup_ b_t.out))
    (case side4 => exact (bup_ a_w.out))
    (case side5 => exact (bup_ a_w.out))
    rintro e w51 ⟨rfl,hb⟩
    refine ⟨_,rfl,?_⟩
    replace a_Z:=a_f.mk (a_l (bup_ a_Z.out) hb)
    replace a_w:=a_f.mk (a_l (bup_ a_w.out) hb)
    replace b_t:=a_f.mk (a_l (bup_ b_t.out) hb)
    replace HB:=a_f.mk (a_q (by repeat (first|(with_reducible first|exact HB.out|apply a_j|apply a_h|apply a_k|refine a_i ?_ c_2.out|refine a_i ?_ d_E.out|refine a_i ?_ d_S.out)|exact HB.out)) hb)
    (try clear hb)
    (try clear hb2)
    (try clear hk)
    (try clear hi)
    refine hK.out _ _ ⟨(a_b a_w.out 0).trans rfl,(a_b a_w.out 1).trans rfl,(a_b a_w.out 2).trans rfl,(a_b a_w.out 3).trans rfl,(a_b a_w.out 4).trans rfl,(a_b a_w.out 5).trans rfl,(a_b a_w.out 6).trans rfl,(a_b a_w.out 7).trans rfl,(a_b a_w.out 8).trans rfl,(a_b a_w.out 9).trans rfl,(a_b a_w.out 10).trans rfl,(a_b a_Z.out 0).trans rfl,(a_b a_Z.out 1).trans rfl,(a_b b_t.out 0).trans rfl,((HB.out.cell (World.block_lt_of_cell? w _ b_R)).trans b_R),((HB.out.cell (World.block_lt_of_cell? w _ b_S)).trans b_S),((HB.out.cell (World.block_lt_of_cell? w _ b_T)).trans b_T),((HB.out.cell (World.block_lt_of_cell? w _ b_U)).trans b_U),((HB.out.cell (World.block_lt_of_cell? w _ b_V)).trans b_V),((HB.out.cell (World.block_lt_of_cell? w _ b_W)).trans b_W),((HB.out.cell (World.block_lt_of_cell? w _ b_X)).trans b_X),((HB.out.cell (World.block_lt_of_cell? w _ b_Y)).trans b_Y),((HB.out.cell (World.block_lt_of_cell? w _ b_Z)).trans b_Z),((HB.out.cell (World.block_lt_of_cell? w _ b_0)).trans b_0),((HB.out.cell (World.block_lt_of_cell? w _ b_y)).trans b_y)⟩ (fun hHeld => ?_)
    clear hK K
    refine d_Y (a':=?_) ?_ ?_
    rotate_left
    ·show Act.put _ (some 49) _ = _
     simp only [Act.put,sa_,sb_,sc_,a_Y,a_0]
     rfl
    refine pt_ 35 (some 52) Z82_ HT_ ?_
    refine pt_ 36 (some 53) Z83_ HT_ ?_
    refine e_L (c_Z HT_.out (by kernel_rfl)) ?_
    try go_wp2
    go_ret
    exact ⟨by first|rfl|(simp [a_u,a_v] <;> rfl)|(simp only [← hji10];first|rfl|(simp [a_u,a_v] <;> rfl))|(simp [*, a_u,a_v] <;> rfl),by repeat (first|(with_reducible first|exact HB.out|apply a_j|apply a_h|apply a_k|refine a_i ?_ c_2.out|refine a_i ?_ d_E.out|refine a_i ?_ d_S.out)|exact HB.out)⟩
   rw [if_pos c27] at H
   have c27b0 : (t118 == ((a_a l0_1 x10_1).f9)) = true:=beq_iff_eq.mpr c27
   have c27b1 : (t118 != ((a_a l0_1 x10_1).f9)) = false:=bne_eq_false_iff_eq.mpr c27
   clear c27
   have H':=a_f.mk H
   clear H
   have p116 : 0 ≤ ((ji10) : Int):=of_decide_eq_true (by first|(with_reducible assumption)|assumption)
   have q116 : (ji10) < (l0_1.length : Int):=of_decide_eq_true (by first|(with_reducible assumption)|assumption)
   obtain ⟨ad116,e116,c_j,c_k,c_l,c_m,c_n,c_o,c_p,c_q,c_r,c_s,b_1⟩:=c_R c_c.out (ji10) p116 q116
   have b_y:=b_1
   have b_0:=c_s
   have b_Z:=c_r
   have b_Y:=c_q
   have b_X:=c_p
   have b_W:=c_o
   have b_V:=c_n
   have b_U:=c_m
   have b_T:=c_l
   have b_S:=c_k
   have b_R:=c_j
   obtain rfl : ad112 = ad116:=(by injection e116)
   replace c_j:=(HB.out.cell (World.block_lt_of_cell? w _ c_j)).trans c_j
   replace c_k:=(HB.out.cell (World.block_lt_of_cell? w _ c_k)).trans c_k
   replace c_l:=(HB.out.cell (World.block_lt_of_cell? w _ c_l)).trans c_l
   replace c_m:=(HB.out.cell (World.block_lt_of_cell? w _ c_m)).trans c_m
   replace c_n:=(HB.out.cell (World.block_lt_of_cell? w _ c_n)).trans c_n
   replace c_o:=(HB.out.cell (World.block_lt_of_cell? w _ c_o)).trans c_o
   replace c_p:=(HB.out.cell (World.block_lt_of_cell? w _ c_p)).trans c_p
   replace c_q:=(HB.out.cell (World.block_lt_of_cell? w _ c_q)).trans c_q
   replace c_r:=(HB.out.cell (World.block_lt_of_cell? w _ c_r)).trans c_r
   replace c_s:=(HB.out.cell (World.block_lt_of_cell? w _ c_s)).trans c_s
   replace b_1:=(HB.out.cell (World.block_lt_of_cell? w _ b_1)).trans b_1
   replace p116:=eq_true p116
   replace q116:=eq_true q116
   refine d_R (n:=37) (S:=fun w' => w'.cell? ⟨a_Q,0,none⟩ = some (.int .i64 ((a_a l0_1 x10_1).f0)) ∧ w'.cell? ⟨a_Q,1,none⟩ = some (.int .i64 ((a_a l0_1 x10_1).f1)) ∧ w'.cell? ⟨a_Q,2,none⟩ = some (.int .i64 ((a_a l0_1 x10_1).f2)) ∧ w'.cell? ⟨a_Q,3,none⟩ = some (.int .i64 ((a_a l0_1 x10_1).f3)) ∧ w'.cell? ⟨a_Q,4,none⟩ = some (.int .i64 ((a_a l0_1 x10_1).f4)) ∧ w'.cell? ⟨a_Q,5,none⟩ = some (.bool ((a_a l0_1 x10_1).f5)) ∧ w'.cell? ⟨a_Q,6,none⟩ = some (.bool ((a_a l0_1 x10_1).f6)) ∧ w'.cell? ⟨a_Q,7,none⟩ = some (.int .u32 ((a_a l0_1 x10_1).f7)) ∧ w'.cell? ⟨a_Q,8,none⟩ = some (.int .i64 ((a_a l0_1 x10_1).f8)) ∧ w'.cell? ⟨a_Q,9,none⟩ = some (.int .i64 ((a_a l0_1 x10_1).f9)) ∧ w'.cell? ⟨a_Q,10,none⟩ = some (.int .i64 ((a_a l0_1 x10_1).f10)) ∧ w'.cell? ⟨d_i,0,none⟩ = some (.int .i64 a0_0) ∧ w'.cell? ⟨d_i,1,none⟩ = some (.slice (some ad112) l0_1.length c0_1) ∧ w'.cell? ⟨d_X,0,none⟩ = some (.func (.func 33) #[] #[.pointer (some ⟨a_Q,0,none⟩)]) ∧ w'.cell? (ad112.add (((ji10)).toNat * 11)) = some (.int .i64 ((a_a l0_1 (ji10)).f0)) ∧ w'.cell? ⟨(ad112.add (((ji10)).toNat * 11)).block,(ad112.add (((ji10)).toNat * 11)).off + 1,none⟩ = some (.int .i64 ((a_a l0_1 (ji10)).f1)) ∧ w'.cell? ⟨(ad112.add (((ji10)).toNat * 11)).block,(ad112.add (((ji10)).toNat * 11)).off + 2,none⟩ = some (.int .i64 ((a_a l0_1 (ji10)).f2)) ∧ w'.cell? ⟨(ad112.add (((ji10)).toNat * 11)).block,(ad112.add (((ji10)).toNat * 11)).off + 3,none⟩ = some (.int .i64 ((a_a l0_1 (ji10)).f3)) ∧ w'.cell? ⟨(ad112.add (((ji10)).toNat * 11)).block,(ad112.add (((ji10)).toNat * 11)).off + 4,none⟩ = some (.int .i64 ((a_a l0_1 (ji10)).f4)) ∧ w'.cell? ⟨(ad112.add (((ji10)).toNat * 11)).block,(ad112.add (((ji10)).toNat * 11)).off + 5,none⟩ = some (.bool ((a_a l0_1 (ji10)).f5)) ∧ w'.cell? ⟨(ad112.add (((ji10)).toNat * 11)).block,(ad112.add (((ji10)).toNat * 11)).off + 6,none⟩ = some (.bool ((a_a l0_1 (ji10)).f6)) ∧ w'.cell? ⟨(ad112.add (((ji10)).toNat * 11)).block,(ad112.add (((ji10)).toNat * 11)).off + 7,none⟩ = some (.int .u32 ((a_a l0_1 (ji10)).f7)) ∧ w'.cell? ⟨(ad112.add (((ji10)).toNat * 11)).block,(ad112.add (((ji10)).toNat * 11)).off + 8,none⟩ = some (.int .i64 ((a_a l0_1 (ji10)).f8)) ∧ w'.cell? ⟨(ad112.add (((ji10)).toNat * 11)).block,(ad112.add (((ji10)).toNat * 11)).off + 9,none⟩ = some (.int .i64 ((a_a l0_1 (ji10)).f9)) ∧ w'.cell? ⟨(ad112.add (((ji10)).toNat * 11)).block,(ad112.add (((ji10)).toNat * 11)).off + 10,none⟩ = some (.int .i64 ((a_a l0_1 (ji10)).f10))) (ds:=[]) Z0_ (by kernel_rfl) rfl rfl ⟨(a_b a_w.out 0).trans rfl,(a_b a_w.out 1).trans rfl,(a_b a_w.out 2).trans rfl,(a_b a_w.out 3).trans rfl,(a_b a_w.out 4).trans rfl,(a_b a_w.out 5).trans rfl,(a_b a_w.out 6).trans rfl,(a_b a_w.out 7).trans rfl,(a_b a_w.out 8).trans rfl,(a_b a_w.out 9).trans rfl,(a_b a_w.out 10).trans rfl,(a_b a_Z.out 0).trans rfl,(a_b a_Z.out 1).trans rfl,(a_b b_t.out 0).trans rfl,((HB.out.cell (World.block_lt_of_cell? w _ b_R)).trans b_R),((HB.out.cell (World.block_lt_of_cell? w _ b_S)).trans b_S),((HB.out.cell (World.block_lt_of_cell? w _ b_T)).trans b_T),((HB.out.cell (World.block_lt_of_cell? w _ b_U)).trans b_U),((HB.out.cell (World.block_lt_of_cell? w _ b_V)).trans b_V),((HB.out.cell (World.block_lt_of_cell? w _ b_W)).trans b_W),((HB.out.cell (World.block_lt_of_cell? w _ b_X)).trans b_X),((HB.out.cell (World.block_lt_of_cell? w _ b_Y)).trans b_Y),((HB.out.cell (World.block_lt_of_cell? w _ b_Z)).trans b_Z),((HB.out.cell (World.block_lt_of_cell? w _ b_0)).trans b_0),((HB.out.cell (World.block_lt_of_cell? w _ b_y)).trans b_y)⟩ (fun hHeld => ?_);refine b_5 a_t.tab6 a_t.f_w (fun HT_ HW_ => ?_)
   generalize w21.drew = w36 at a_Z a_w b_t HB c_j c_k b_1 c_l c_m c_n c_o c_p c_q c_r c_s hHeld ⊢
   refine b_v (i:=0) (N:=some 17) (v:=?_) (a':=?_) Z2_ rfl rfl (a_N HT_.out HW_.out (by kernel_rfl)) (fun _ _ _ h => h) (Or.inl ⟨by rfl,?_⟩) hHeld ?_ ?_
   rotate_left
   ·rintro w' ⟨s0,s1,s2,s3,s4,s5,s6,s7,s8,s9,s10,s11,s12,s13,s14,s15,s16,s17,s18,s19,s20,s21,s22,s23,s24⟩
    go_simp
    with_reducible rfl
   rotate_left
   ·simp only [Act.put,sa_,sb_,sc_,a_Y,a_0]
    rfl
   refine one_ (i:=1) (N:=some 18) Z4_ rfl rfl (c_B HT_.out (by kernel_rfl)) (by decide) (fun K hK => ?_)
   refine e_n Tryd.func35 (by kernel_rfl) rfl #[.agg #[.int .i64 ((a_a l0_1 x10_1).f0),.int .i64 ((a_a l0_1 x10_1).f1),.int .i64 ((a_a l0_1 x10_1).f2),.int .i64 ((a_a l0_1 x10_1).f3),.int .i64 ((a_a l0_1 x10_1).f4),.bool ((a_a l0_1 x10_1).f5),.bool ((a_a l0_1 x10_1).f6),.int .u32 ((a_a l0_1 x10_1).f7),.int .i64 ((a_a l0_1 x10_1).f8),.int .i64 ((a_a l0_1 x10_1).f9),.int .i64 ((a_a l0_1 x10_1).f10)]] (by rfl) rfl rfl (by (try simp only [List.map_toArray,List.map_cons,List.map_nil]);first|done|rfl|(simp only [List.length_drop,List.length_take];rfl)) ?_
   with_reducible refine (a_D.calls k1 ((a_a l0_1 x10_1).f0) ((a_a l0_1 x10_1).f1) ((a_a l0_1 x10_1).f2) ((a_a l0_1 x10_1).f3) ((a_a l0_1 x10_1).f4) ((a_a l0_1 x10_1).f5) ((a_a l0_1 x10_1).f6) ((a_a l0_1 x10_1).f7) ((a_a l0_1 x10_1).f8) ((a_a l0_1 x10_1).f9) ((a_a l0_1 x10_1).f10) true _ A7.out).mono ?_
   rintro e w37 ⟨rfl,hb⟩
   refine ⟨_,rfl,?_⟩
   replace a_Z:=a_f.mk (a_l (bup_ a_Z.out) hb)
   replace a_w:=a_f.mk (a_l (bup_ a_w.out) hb)
   replace b_t:=a_f.mk (a_l (bup_ b_t.out) hb)
   replace HB:=a_f.mk (a_q (by repeat (first|(with_reducible first|exact HB.out|apply a_j|apply a_h|apply a_k|refine a_i ?_ c_2.out|refine a_i ?_ d_E.out|refine a_i ?_ d_S.out)|exact HB.out)) hb)
   (try clear hb)
   (try clear hb2)
   (try clear hk)
   (try clear hi)
   refine hK.out _ _ ⟨(a_b a_w.out 0).trans rfl,(a_b a_w.out 1).trans rfl,(a_b a_w.out 2).trans rfl,(a_b a_w.out 3).trans rfl,(a_b a_w.out 4).trans rfl,(a_b a_w.out 5).trans rfl,(a_b a_w.out 6).trans rfl,(a_b a_w.out 7).trans rfl,(a_b a_w.out 8).trans rfl,(a_b a_w.out 9).trans rfl,(a_b a_w.out 10).trans rfl,(a_b a_Z.out 0).trans rfl,(a_b a_Z.out 1).trans rfl,(a_b b_t.out 0).trans rfl,((HB.out.cell (World.block_lt_of_cell? w _ b_R)).trans b_R),((HB.out.cell (World.block_lt_of_cell? w _ b_S)).trans b_S),((HB.out.cell (World.block_lt_of_cell? w _ b_T)).trans b_T),((HB.out.cell (World.block_lt_of_cell? w _ b_U)).trans b_U),((HB.out.cell (World.block_lt_of_cell? w _ b_V)).trans b_V),((HB.out.cell (World.block_lt_of_cell? w _ b_W)).trans b_W),((HB.out.cell (World.block_lt_of_cell? w _ b_X)).trans b_X),((HB.out.cell (World.block_lt_of_cell? w _ b_Y)).trans b_Y),((HB.out.cell (World.block_lt_of_cell? w _ b_Z)).trans b_Z),((HB.out.cell (World.block_lt_of_cell? w _ b_0)).trans b_0),((HB.out.cell (World.block_lt_of_cell? w _ b_y)).trans b_y)⟩ (fun hHeld => ?_)
   clear hK K
   refine d_Y (a':=?_) ?_ ?_
   rotate_left
   ·show Act.put _ (some 18) _ = _
    simp only [Act.put,sa_,sb_,sc_,a_Y,a_0]
    rfl
   refine pt_ 2 (some 19) Z6_ HT_ ?_
   refine pt_ 3 (some 20) Z8_ HT_ ?_
   refine pt_ 4 (some 21) Z10_ HT_ ?_
   refine pt_ 5 (some 22) Z13_ HT_ ?_
   refine pt_ 6 (some 23) Z14_ HT_ ?_
   refine pt_ 7 (some 24) Z16_ HT_ ?_
   refine pt_ 9 (some 26) Z18_ HT_ ?_
   refine pt_ 10 (some 27) Z19_ HT_ ?_
   refine pt_ 14 (some 31) Z20_ HT_ ?_
   refine b_v (i:=8) (N:=some 25) (v:=?_) (a':=?_) Z27_ rfl rfl (a_N HT_.out HW_.out (by kernel_rfl)) (fun _ _ _ h => h) (Or.inl ⟨by rfl,?_⟩) hHeld ?_ ?_
   rotate_left
   ·rintro w' ⟨s0,s1,s2,s3,s4,s5,s6,s7,s8,s9,s10,s11,s12,s13,s14,s15,s16,s17,s18,s19,s20,s21,s22,s23,s24⟩
    go_simp
    with_reducible rfl
   rotate_left
   ·simp only [Act.put,sa_,sb_,sc_,a_Y,a_0]
    rfl
   refine pt_ 11 (some 28) Z30_ HT_ ?_
   refine pt_ 12 (some 29) Z33_ HT_ ?_
   refine b_v (i:=13) (N:=some 30) (v:=?_) (a':=?_) Z36_ rfl rfl (a_N HT_.out HW_.out (by kernel_rfl)) (fun _ _ _ h => h) (Or.inl ⟨by rfl,?_⟩) hHeld ?_ ?_
   rotate_left
   ·rintro w' ⟨s0,s1,s2,s3,s4,s5,s6,s7,s8,s9,s10,s11,s12,s13,s14,s15,s16,s17,s18,s19,s20,s21,s22,s23,s24⟩
    go_simp
    with_reducible rfl
   rotate_left
   ·simp only [Act.put,sa_,sb_,sc_,a_Y,a_0]
    rfl
   refine b_v (i:=15) (N:=some 32) (v:=?_) (a':=?_) Z41_ rfl rfl (a_N HT_.out HW_.out (by kernel_rfl)) (fun _ _ _ h => h) (Or.inl ⟨by rfl,?_⟩) hHeld ?_ ?_
   rotate_left
   ·rintro w' ⟨s0,s1,s2,s3,s4,s5,s6,s7,s8,s9,s10,s11,s12,s13,s14,s15,s16,s17,s18,s19,s20,s21,s22,s23,s24⟩
    go_simp
    with_reducible rfl
   rotate_left
   ·simp only [Act.put,sa_,sb_,sc_,a_Y,a_0]
    rfl
   refine pt_ 16 (some 33) Z43_ HT_ ?_
   refine pt_ 17 (some 34) Z45_ HT_ ?_
   refine pt_ 18 (some 35) Z48_ HT_ ?_
   refine pt_ 19 (some 36) Z51_ HT_ ?_
   refine pt_ 20 (some 37) Z54_ HT_ ?_
   refine pt_ 24 (some 41) Z56_ HT_ ?_
   refine b_v (i:=21) (N:=some 38) (v:=?_) (a':=?_) Z59_ rfl rfl (a_N HT_.out HW_.out (by kernel_rfl)) (fun _ _ _ h => h) (Or.inl ⟨by rfl,?_⟩) hHeld ?_ ?_
   rotate_left
   ·rintro w' ⟨s0,s1,s2,s3,s4,s5,s6,s7,s8,s9,s10,s11,s12,s13,s14,s15,s16,s17,s18,s19,s20,s21,s22,s23,s24⟩
    go_simp
    with_reducible rfl
   rotate_left
   ·simp only [Act.put,sa_,sb_,sc_,a_Y,a_0]
    rfl
   refine b_v (i:=22) (N:=some 39) (v:=?_) (a':=?_) Z62_ rfl rfl (a_N HT_.out HW_.out (by kernel_rfl)) (fun _ _ _ h => h) (Or.inl ⟨by rfl,?_⟩) hHeld ?_ ?_
   rotate_left
   ·rintro w' ⟨s0,s1,s2,s3,s4,s5,s6,s7,s8,s9,s10,s11,s12,s13,s14,s15,s16,s17,s18,s19,s20,s21,s22,s23,s24⟩
    go_simp
    with_reducible rfl
   rotate_left
   ·simp only [Act.put,sa_,sb_,sc_,a_Y,a_0]
    rfl
   refine b_v (i:=25) (N:=some 42) (v:=?_) (a':=?_) Z63_ rfl rfl (a_N HT_.out HW_.out (by kernel_rfl)) (fun _ _ _ h => h) (Or.inl ⟨by rfl,?_⟩) hHeld ?_ ?_
   rotate_left
   ·rintro w' ⟨s0,s1,s2,s3,s4,s5,s6,s7,s8,s9,s10,s11,s12,s13,s14,s15,s16,s17,s18,s19,s20,s21,s22,s23,s24⟩
    go_simp
    with_reducible rfl
   rotate_left
   ·simp only [Act.put,sa_,sb_,sc_,a_Y,a_0]
    rfl
   refine one_ (i:=23) (N:=some 40) Z68_ rfl rfl (c_B HT_.out (by kernel_rfl)) (by decide) (fun K hK => ?_)
   refine e_n Tryd.func23 (by kernel_rfl) rfl #[.slice (some ad112) l0_1.length c0_1,.func (.func 33) #[] #[.pointer (some ⟨a_Q,0,none⟩)]] (by rfl) rfl rfl (by (try simp only [List.map_toArray,List.map_cons,List.map_nil]);first|done|rfl|(simp only [List.length_drop,List.length_take];rfl)) ?_
   with_reducible refine (a_X.calls _ _ l0_1 a_Q ((a_a l0_1 x10_1).f0) ((a_a l0_1 x10_1).f1) ((a_a l0_1 x10_1).f2) ((a_a l0_1 x10_1).f3) ((a_a l0_1 x10_1).f4) ((a_a l0_1 x10_1).f5) ((a_a l0_1 x10_1).f6) ((a_a l0_1 x10_1).f7) ((a_a l0_1 x10_1).f8) ((a_a l0_1 x10_1).f9) ((a_a l0_1 x10_1).f10) t117 _ ?side1 ?side2 ?side3 A24.out).mono ?_
   (case side1 => repeat (first|exact (Kd.b_i c_c.out HB.out)|(with_reducible refine Kd.b_b ?_ _)|(with_reducible refine Kd.b_c ?_ _)|(with_reducible refine Kd.b_z ?_)))
   (case side2 => exact d_I.out)
   (case side3 => exact (bup_ a_w.out))
   rintro e w38 ⟨rfl,hb⟩
   refine ⟨_,rfl,?_⟩
   replace a_Z:=a_f.mk (a_l (bup_ a_Z.out) hb)
   replace a_w:=a_f.mk (a_l (bup_ a_w.out) hb)
   replace b_t:=a_f.mk (a_l (bup_ b_t.out) hb)
   replace HB:=a_f.mk (a_q (by repeat (first|(with_reducible first|exact HB.out|apply a_j|apply a_h|apply a_k|refine a_i ?_ c_2.out|refine a_i ?_ d_E.out|refine a_i ?_ d_S.out)|exact HB.out)) hb)
   (try clear hb)
   (try clear hb2)
   (try clear hk)
   (try clear hi)
   refine hK.out _ _ ⟨(a_b a_w.out 0).trans rfl,(a_b a_w.out 1).trans rfl,(a_b a_w.out 2).trans rfl,(a_b a_w.out 3).trans rfl,(a_b a_w.out 4).trans rfl,(a_b a_w.out 5).trans rfl,(a_b a_w.out 6).trans rfl,(a_b a_w.out 7).trans rfl,(a_b a_w.out 8).trans rfl,(a_b a_w.out 9).trans rfl,(a_b a_w.out 10).trans rfl,(a_b a_Z.out 0).trans rfl,(a_b a_Z.out 1).trans rfl,(a_b b_t.out 0).trans rfl,((HB.out.cell (World.block_lt_of_cell? w _ b_R)).trans b_R),((HB.out.cell (World.block_lt_of_cell? w _ b_S)).trans b_S),((HB.out.cell (World.block_lt_of_cell? w _ b_T)).trans b_T),((HB.out.cell (World.block_lt_of_cell? w _ b_U)).trans b_U),((HB.out.cell (World.block_lt_of_cell? w _ b_V)).trans b_V),((HB.out.cell (World.block_lt_of_cell? w _ b_W)).trans b_W),((HB.out.cell (World.block_lt_of_cell? w _ b_X)).trans b_X),((HB.out.cell (World.block_lt_of_cell? w _ b_Y)).trans b_Y),((HB.out.cell (World.block_lt_of_cell? w _ b_Z)).trans b_Z),((HB.out.cell (World.block_lt_of_cell? w _ b_0)).trans b_0),((HB.out.cell (World.block_lt_of_cell? w _ b_y)).trans b_y)⟩ (fun hHeld => ?_)
   clear hK K
   refine d_Y (a':=?_) ?_ ?_
   rotate_left
   ·show Act.put _ (some 40) _ = _
    simp only [Act.put,sa_,sb_,sc_,a_Y,a_0]
    rfl
   refine pt_ 26 (some 43) Z69_ HT_ ?_
   refine pt_ 27 (some 44) Z70_ HT_ ?_
   refine pt_ 28 (some 45) Z71_ HT_ ?_
   refine pt_ 29 (some 46) Z72_ HT_ ?_
   refine pt_ 31 (some 48) Z73_ HT_ ?_
   refine pt_ 33 (some 50) Z74_ HT_ ?_
   refine b_v (i:=30) (N:=some 47) (v:=?_) (a':=?_) Z77_ rfl rfl (a_N HT_.out HW_.out (by kernel_rfl)) (fun _ _ _ h => h) (Or.inl ⟨by rfl,?_⟩) hHeld ?_ ?_
   rotate_left
   ·rintro w' ⟨s0,s1,s2,s3,s4,s5,s6,s7,s8,s9,s10,s11,s12,s13,s14,s15,s16,s17,s18,s19,s20,s21,s22,s23,s24⟩
    go_simp
    with_reducible rfl
   rotate_left
   ·simp only [Act.put,sa_,sb_,sc_,a_Y,a_0]
    rfl
   refine b_v (i:=34) (N:=some 51) (v:=?_) (a':=?_) Z78_ rfl rfl (a_N HT_.out HW_.out (by kernel_rfl)) (fun _ _ _ h => h) (Or.inl ⟨by rfl,?_⟩) hHeld ?_ ?_
   rotate_left
   ·rintro w' ⟨s0,s1,s2,s3,s4,s5,s6,s7,s8,s9,s10,s11,s12,s13,s14,s15,s16,s17,s18,s19,s20,s21,s22,s23,s24⟩
    go_simp
    with_reducible rfl
   rotate_left
   ·simp only [Act.put,sa_,sb_,sc_,a_Y,a_0]
    rfl
   refine one_ (i:=32) (N:=some 49) Z81_ rfl rfl (c_B HT_.out (by kernel_rfl)) (by decide) (fun K hK => ?_)
   refine e_n Tryd.func23 (by kernel_rfl) rfl #[.slice (some ad112) l0_1.length c0_1,.func (.func 34) #[] #[.pointer (some ⟨d_X,0,none⟩),.pointer (some ⟨a_Q,0,none⟩)]] (by rfl) rfl rfl (by (try simp only [List.map_toArray,List.map_cons,List.map_nil]);first|done|rfl|(simp only [List.length_drop,List.length_take];rfl)) ?_
   with_reducible refine (a_V.calls _ _ l0_1 d_X a_Q a_Q ((a_a l0_1 x10_1).f0) ((a_a l0_1 x10_1).f1) ((a_a l0_1 x10_1).f2) ((a_a l0_1 x10_1).f3) ((a_a l0_1 x10_1).f4) ((a_a l0_1 x10_1).f5) ((a_a l0_1 x10_1).f6) ((a_a l0_1 x10_1).f7) ((a_a l0_1 x10_1).f8) ((a_a l0_1 x10_1).f9) ((a_a l0_1 x10_1).f10) ((a_a l0_1 x10_1).f0) ((a_a l0_1 x10_1).f1) ((a_a l0_1 x10_1).f2) ((a_a l0_1 x10_1).f3) ((a_a l0_1 x10_1).f4) ((a_a l0_1 x10_1).f5) ((a_a l0_1 x10_1).f6) ((a_a l0_1 x10_1).f7) ((a_a l0_1 x10_1).f8) ((a_a l0_1 x10_1).f9) ((a_a l0_1 x10_1).f10) t118 _ ?side1 ?side2 ?side3 ?side4 ?side5 A26.out).mono ?_
   (case side1 => repeat (first|exact (Kd.b_i c_c.out HB.out)|(with_reducible refine Kd.b_b ?_ _)|(with_reducible refine Kd.b_c ?_ _)|(with_reducible refine Kd.b_z ?_)))
   (case side2 => exact d_I.out)
   (case side3 => exact (bup_ b_t.out))
   (case side4 => exact (bup_ a_w.out))
   (case side5 => exact (bup_ a_w.out))
   rintro e w39 ⟨rfl,hb⟩
   refine ⟨_,rfl,?_⟩
   replace a_Z:=a_f.mk (a_l (bup_ a_Z.out) hb)
   replace a_w:=a_f.mk (a_l (bup_ a_w.out) hb)
   replace b_t:=a_f.mk (a_l (bup_ b_t.out) hb)
   replace HB:=a_f.mk (a_q (by repeat (first|(with_reducible first|exact HB.out|apply a_j|apply a_h|apply a_k|refine a_i ?_ c_2.out|refine a_i ?_ d_E.out|refine a_i ?_ d_S.out)|exact HB.out)) hb)
   (try clear hb)
   (try clear hb2)
   (try clear hk)
   (try clear hi)
   refine hK.out _ _ ⟨(a_b a_w.out 0).trans rfl,(a_b a_w.out 1).trans rfl,(a_b a_w.out 2).trans rfl,(a_b a_w.out 3).trans rfl,(a_b a_w.out 4).trans rfl,(a_b a_w.out 5).trans rfl,(a_b a_w.out 6).trans rfl,(a_b a_w.out 7).trans rfl,(a_b a_w.out 8).trans rfl,(a_b a_w.out 9).trans rfl,(a_b a_w.out 10).trans rfl,(a_b a_Z.out 0).trans rfl,(a_b a_Z.out 1).trans rfl,(a_b b_t.out 0).trans rfl,((HB.out.cell (World.block_lt_of_cell? w _ b_R)).trans b_R),((HB.out.cell (World.block_lt_of_cell? w _ b_S)).trans b_S),((HB.out.cell (World.block_lt_of_cell? w _ b_T)).trans b_T),((HB.out.cell (World.block_lt_of_cell? w _ b_U)).trans b_U),((HB.out.cell (World.block_lt_of_cell? w _ b_V)).trans b_V),((HB.out.cell (World.block_lt_of_cell? w _ b_W)).trans b_W),((HB.out.cell (World.block_lt_of_cell? w _ b_X)).trans b_X),((HB.out.cell (World.block_lt_of_cell? w _ b_Y)).trans b_Y),((HB.out.cell (World.block_lt_of_cell? w _ b_Z)).trans b_Z),((HB.out.cell (World.block_lt_of_cell? w _ b_0)).trans b_0),((HB.out.cell (World.block_lt_of_cell? w _ b_y)).trans b_y)⟩ (fun hHeld => ?_)
   clear hK K
   refine d_Y (a':=?_) ?_ ?_
   rotate_left
   ·show Act.put _ (some 49) _ = _
    simp only [Act.put,sa_,sb_,sc_,a_Y,a_0]
    rfl
   refine pt_ 35 (some 52) Z82_ HT_ ?_
   refine pt_ 36 (some 53) Z83_ HT_ ?_
   refine e_L (c_Z HT_.out (by kernel_rfl)) ?_
   try go_wp2
   go_roundg k1
   case measure => have:=HK1.out;omega
   case rel => exact ⟨(wrap64 (x10_1 + 1)),(by first|rfl|(simp;done)|(simp [*];done)),H',⟨by have:=HK1.out;omega⟩,⟨by (with_reducible repeat (first|refine a_e ?_ _|refine a_g ?_|refine a_d ?_ _));exact a_Z.out⟩,⟨by repeat (first|(with_reducible first|exact HB.out|apply a_j|apply a_h|apply a_k|refine a_i ?_ c_2.out|refine a_i ?_ d_E.out|refine a_i ?_ d_S.out)|exact HB.out)⟩⟩
end Go.Proofs.YtgglkfilkagblaaDoor.Q
end
