/- Part 7 of 11 of what the row of AuditOne stands on: contracts over the given program's functions, the plain law, the row; no condition beyond those that each theorem states. -/
import Derived.Test.YtgglkfilkagblaaDoorXAuditOne5
import Derived.RangeFuncBox
section
namespace Go.Proofs.YtgglkfilkagblaaDoor.Q
open Go.RowKit Go.Proofs.YtgglkfilkagblaaDoorW.PrintWords Go.Proofs.YtgglkfilkagblaaDoorW.PrintLast Go.Proofs.YtgglkfilkagblaaDoorW.PrintMore
set_option linter.unusedVariables false
set_option linter.unusedSimpArgs false
def c_N.f (a0_0 : Int) (l0_1 : List (S33)) (a1 : Int) : Option (Int × Int × Int × Int × Int × Bool × Bool × Int × Int × Int × Int × Bool):=(a_3.f l0_1 a1).bind fun t163 => (if t163 < 0 then (some (0,0,0,0,0,false,false,0,0,0,0,false)) else (if 0 ≤ t163 then (if t163 < (l0_1.length : Int) then (some ((a_a l0_1 t163).f0,(a_a l0_1 t163).f1,(a_a l0_1 t163).f2,(a_a l0_1 t163).f3,(a_a l0_1 t163).f4,(a_a l0_1 t163).f5,(a_a l0_1 t163).f6,(a_a l0_1 t163).f7,(a_a l0_1 t163).f8,(a_a l0_1 t163).f9,(a_a l0_1 t163).f10,true)) else (none)) else (none)))
set_option maxHeartbeats 8000000 in
set_option maxRecDepth 100000 in
theorem c_N.calls (a0_0 : Int) (A0_1 : Option Addr) (c0_1 : Nat) (l0_1 : List (S33)) (a1 : Int) (r1 : Int) (r2 : Int) (r3 : Int) (r4 : Int) (r5 : Int) (r6 : Bool) (r7 : Bool) (r8 : Int) (r9 : Int) (r10 : Int) (r11 : Int) (r12 : Bool) (w : World) (hr0_1 : Kd.C k33 w A0_1 l0_1.length l0_1) (hc0_1 : l0_1.length ≤ c0_1) (h : c_N.f a0_0 l0_1 a1 = some (r1,r2,r3,r4,r5,r6,r7,r8,r9,r10,r11,r12)) :
 Calls Tryd.prog 32 #[.agg #[.int .i64 a0_0,.slice A0_1 l0_1.length c0_1],.int .i64 a1] w fun e w' => e = .returned (.tuple #[.agg #[.int .i64 r1,.int .i64 r2,.int .i64 r3,.int .i64 r4,.int .i64 r5,.bool r6,.bool r7,.int .u32 r8,.int .i64 r9,.int .i64 r10,.int .i64 r11],.bool r12]) ∧ Below w.heap.size w w':=by
 have hu24:=Tryd.underlying24
 have hu33:=Tryd.underlying33
 have hu51:=Tryd.underlying51
 have c_c:=a_f.mk hr0_1
 have d_I:=a_f.mk hc0_1
 clear hr0_1 hc0_1
 have HB:=a_f.mk (Below.refl w.heap.size w)
 have H : ((a_3.f l0_1 a1).bind fun t163 => (if t163 < 0 then (some (0,0,0,0,0,false,false,0,0,0,0,false)) else (if 0 ≤ t163 then (if t163 < (l0_1.length : Int) then (some ((a_a l0_1 t163).f0,(a_a l0_1 t163).f1,(a_a l0_1 t163).f2,(a_a l0_1 t163).f3,(a_a l0_1 t163).f4,(a_a l0_1 t163).f5,(a_a l0_1 t163).f6,(a_a l0_1 t163).f7,(a_a l0_1 t163).f8,(a_a l0_1 t163).f9,(a_a l0_1 t163).f10,true)) else (none)) else (none)))) = some (r1,r2,r3,r4,r5,r6,r7,r8,r9,r10,r11,r12):=h
 clear h
 replace H:=Option.bind_eq_some_iff.mp H
 obtain ⟨t163,A30,H⟩:=H
 replace H : (if t163 < 0 then (some (0,0,0,0,0,false,false,0,0,0,0,false)) else (if 0 ≤ t163 then (if t163 < (l0_1.length : Int) then (some ((a_a l0_1 t163).f0,(a_a l0_1 t163).f1,(a_a l0_1 t163).f2,(a_a l0_1 t163).f3,(a_a l0_1 t163).f4,(a_a l0_1 t163).f5,(a_a l0_1 t163).f6,(a_a l0_1 t163).f7,(a_a l0_1 t163).f8,(a_a l0_1 t163).f9,(a_a l0_1 t163).f10,true)) else (none)) else (none))) = some (r1,r2,r3,r4,r5,r6,r7,r8,r9,r10,r11,r12):=H
 have A3:=a_f.mk A30
 clear A30
 by_cases c4 : t163 < 0
 ·rw [if_pos c4] at H
  have c4b0 : decide (t163 < 0) = true:=decide_eq_true c4
  clear c4
  simp only [Option.some.injEq,Prod.mk.injEq] at H
  obtain ⟨rfl,rfl,rfl,rfl,rfl,rfl,rfl,rfl,rfl,rfl,rfl,rfl⟩:=H
  go_enter Tryd.func32,Tryd.ntmps32
  go_wp2_with (first|((with_reducible refine a_J (N:=2) rfl ?_);refine a_A ?hg (N:=2) ?hd (cs:=#[.int .i64 a0_0,.slice A0_1 l0_1.length c0_1]) (t:=24) ?hr ?_;(case hd => rfl);(case hg => rfl);(case hr => first|(go_simp;done)|(go_simp;rfl));intro e_A hg w5 hbox hb;have d_b:=a_f.mk (hbox);have s_C:=a_f.mk ((by rw [hg];exact (a_o (lup_ HB.out)) : w.heap.size ≤ e_A));have e_M:=a_f.mk ((by rw [hg];exact (a_o (lup_ HB.out)) : w.heap.size ≤ e_A));replace HB:=a_f.mk (a_q (lup_ HB.out) hb);clear hb hbox hg)|((with_reducible refine a_J (N:=3) rfl ?_);refine a_A ?hg (N:=3) ?hd (cs:=#[.int .i64 a1]) (t:=3) ?hr ?_;(case hd => rfl);(case hg => rfl);(case hr => first|(go_simp;done)|(go_simp;rfl));intro e_R hg w6 hbox hb;have e_0:=a_f.mk (hbox);have s_D:=a_f.mk ((by rw [hg];exact (a_o (by repeat (first|(with_reducible first|exact HB.out|apply a_j|apply a_h|apply a_k|refine a_i ?_ e_M.out)|exact HB.out))) : w.heap.size ≤ e_R));have g_a:=a_f.mk ((by rw [hg];exact (a_o (by repeat (first|(with_reducible first|exact HB.out|apply a_j|apply a_h|apply a_k|refine a_i ?_ e_M.out)|exact HB.out))) : w.heap.size ≤ e_R));have g_c:=a_f.mk ((by rw [hg];exact Nat.ne_of_lt (a_B (bup_ d_b.out)) : e_A ≠ e_R));have g_e:=a_f.mk ((by rw [hg];exact Nat.ne_of_gt (a_B (bup_ d_b.out)) : e_R ≠ e_A));replace d_b:=a_f.mk (a_l (bup_ d_b.out) hb);replace HB:=a_f.mk (a_q (by repeat (first|(with_reducible first|exact HB.out|apply a_j|apply a_h|apply a_k|refine a_i ?_ e_M.out)|exact HB.out)) hb);clear hb hbox hg)|((with_reducible refine a_J (N:=4) rfl ?_);refine a_A ?hg (N:=4) ?hd (cs:=#[.int .i64 0,.int .i64 0,.int .i64 0,.int .i64 0,.int .i64 0,.bool false,.bool false,.int .u32 0,.int .i64 0,.int .i64 0,.int .i64 0]) (t:=33) ?hr ?_;(case hd => rfl);(case hg => rfl);(case hr => first|(go_simp;done)|(go_simp;rfl));intro c_0 hg w7 hbox hb;have c_a:=a_f.mk (hbox);have s_E:=a_f.mk ((by rw [hg];exact (a_o (by repeat (first|(with_reducible first|exact HB.out|apply a_j|apply a_h|apply a_k|refine a_i ?_ e_M.out|refine a_i ?_ g_a.out)|exact HB.out))) : w.heap.size ≤ c_0));have k_i:=a_f.mk ((by rw [hg];exact (a_o (by repeat (first|(with_reducible first|exact HB.out|apply a_j|apply a_h|apply a_k|refine a_i ?_ e_M.out|refine a_i ?_ g_a.out)|exact HB.out))) : w.heap.size ≤ c_0));have g_d:=a_f.mk ((by rw [hg];exact Nat.ne_of_lt (a_B (bup_ d_b.out)) : e_A ≠ c_0));have g_g:=a_f.mk ((by rw [hg];exact Nat.ne_of_gt (a_B (bup_ d_b.out)) : c_0 ≠ e_A));have g_f:=a_f.mk ((by rw [hg];exact Nat.ne_of_lt (a_B (bup_ e_0.out)) : e_R ≠ c_0));have g_h:=a_f.mk ((by rw [hg];exact Nat.ne_of_gt (a_B (bup_ e_0.out)) : c_0 ≠ e_R));replace d_b:=a_f.mk (a_l (bup_ d_b.out) hb);replace e_0:=a_f.mk (a_l (bup_ e_0.out) hb);replace HB:=a_f.mk (a_q (by repeat (first|(with_reducible first|exact HB.out|apply a_j|apply a_h|apply a_k|refine a_i ?_ e_M.out|refine a_i ?_ g_a.out)|exact HB.out)) hb);clear hb hbox hg;have hnb8:=g_c.out;have hnc8:=g_e.out;have hnb9:=g_d.out;have hnc9:=g_g.out;have i_i : w7.cell? ⟨e_A,0,none⟩ = some (.int .i64 a0_0):=(a_b d_b.out 0).trans rfl;have i_j : w7.cell? ⟨e_A,1,none⟩ = some (.slice A0_1 l0_1.length c0_1):=(a_b d_b.out 1).trans rfl;have i_H:=a_c d_b.out 0;have i_I:=a_c d_b.out 1)|((with_reducible refine a_M (f:=43) rfl ?_);refine b_D (some 10) rfl rfl Tryd.func43 (by kernel_rfl) rfl #[.slice A0_1 l0_1.length c0_1,.func (.func 44) #[] #[.pointer (some ⟨e_R,0,none⟩)]] rfl (by (try simp only [List.map_toArray,List.map_cons,List.map_nil]);first|done|rfl|(simp only [List.length_drop,List.length_take];rfl)) ?_;(with_reducible refine (a_3.calls _ _ l0_1 e_R a1 t163 _ ?side1 ?side2 ?side3 A3.out).mono ?_);(case side1 => repeat (first|exact (Kd.b_i c_c.out HB.out)|(with_reducible refine Kd.b_b ?_ _)|(with_reducible refine Kd.b_c ?_ _)|(with_reducible refine Kd.b_z ?_)));(case side2 => exact d_I.out);(case side3 => exact (bup_ e_0.out));rintro e w11 ⟨rfl,hb⟩;refine ⟨_,rfl,?_⟩;replace d_b:=a_f.mk (a_l (bup_ d_b.out) hb);replace e_0:=a_f.mk (a_l (bup_ e_0.out) hb);replace c_a:=a_f.mk (a_l (bup_ c_a.out) hb);replace HB:=a_f.mk (a_q (by repeat (first|(with_reducible first|exact HB.out|apply a_j|apply a_h|apply a_k|refine a_i ?_ e_M.out|refine a_i ?_ g_a.out|refine a_i ?_ k_i.out)|exact HB.out)) hb);(try clear hb);(try clear hb2);(try clear hk);(try clear hi);have x_V:=g_h.out;have x_4:=g_f.out;have e_3 : w11.cell? ⟨c_0,0,none⟩ = some (.int .i64 0):=(a_b c_a.out 0).trans rfl;have e_4 : w11.cell? ⟨c_0,1,none⟩ = some (.int .i64 0):=(a_b c_a.out 1).trans rfl;have k_N : w11.cell? ⟨c_0,2,none⟩ = some (.int .i64 0):=(a_b c_a.out 2).trans rfl;have k_O : w11.cell? ⟨c_0,3,none⟩ = some (.int .i64 0):=(a_b c_a.out 3).trans rfl;have k_P : w11.cell? ⟨c_0,4,none⟩ = some (.int .i64 0):=(a_b c_a.out 4).trans rfl;have k_Q : w11.cell? ⟨c_0,5,none⟩ = some (.bool false):=(a_b c_a.out 5).trans rfl;have k_R : w11.cell? ⟨c_0,6,none⟩ = some (.bool false):=(a_b c_a.out 6).trans rfl;have k_S : w11.cell? ⟨c_0,7,none⟩ = some (.int .u32 0):=(a_b c_a.out 7).trans rfl;have k_T : w11.cell? ⟨c_0,8,none⟩ = some (.int .i64 0):=(a_b c_a.out 8).trans rfl;have k_U : w11.cell? ⟨c_0,9,none⟩ = some (.int .i64 0):=(a_b c_a.out 9).trans rfl;have j_J : w11.cell? ⟨c_0,10,none⟩ = some (.int .i64 0):=(a_b c_a.out 10).trans rfl;have e_5:=a_c c_a.out 0;have e_6:=a_c c_a.out 1;have l_n:=a_c c_a.out 2;have l_o:=a_c c_a.out 3;have l_p:=a_c c_a.out 4;have l_q:=a_c c_a.out 5;have l_r:=a_c c_a.out 6;have l_s:=a_c c_a.out 7;have l_t:=a_c c_a.out 8;have l_u:=a_c c_a.out 9;have j_M:=a_c c_a.out 10))
  refine bodyPost_ret (c_g rfl _ _ c_0 33 #[.int .i64 0,.int .i64 0,.int .i64 0,.int .i64 0,.int .i64 0,.bool false,.bool false,.int .u32 0,.int .i64 0,.int .i64 0,.int .i64 0] (0,0) _ rfl (by (with_reducible repeat (first|refine a_e ?_ _|refine a_g ?_|refine a_d ?_ _));refine a_n (cs:=#[.int .i64 0,.int .i64 0,.int .i64 0,.int .i64 0,.int .i64 0,.bool false,.bool false,.int .u32 0,.int .i64 0,.int .i64 0,.int .i64 0]) ?_ 10 _ rfl;(with_reducible repeat (first|refine a_e ?_ _|refine a_g ?_|refine a_d ?_ _));refine a_n (cs:=#[.int .i64 0,.int .i64 0,.int .i64 0,.int .i64 0,.int .i64 0,.bool false,.bool false,.int .u32 0,.int .i64 0,.int .i64 0,.int .i64 0]) ?_ 9 _ rfl;(with_reducible repeat (first|refine a_e ?_ _|refine a_g ?_|refine a_d ?_ _));refine a_n (cs:=#[.int .i64 0,.int .i64 0,.int .i64 0,.int .i64 0,.int .i64 0,.bool false,.bool false,.int .u32 0,.int .i64 0,.int .i64 0,.int .i64 0]) ?_ 8 _ rfl;(with_reducible repeat (first|refine a_e ?_ _|refine a_g ?_|refine a_d ?_ _));refine a_n (cs:=#[.int .i64 0,.int .i64 0,.int .i64 0,.int .i64 0,.int .i64 0,.bool false,.bool false,.int .u32 0,.int .i64 0,.int .i64 0,.int .i64 0]) ?_ 7 _ rfl;(with_reducible repeat (first|refine a_e ?_ _|refine a_g ?_|refine a_d ?_ _));refine a_n (cs:=#[.int .i64 0,.int .i64 0,.int .i64 0,.int .i64 0,.int .i64 0,.bool false,.bool false,.int .u32 0,.int .i64 0,.int .i64 0,.int .i64 0]) ?_ 6 _ rfl;(with_reducible repeat (first|refine a_e ?_ _|refine a_g ?_|refine a_d ?_ _));refine a_n (cs:=#[.int .i64 0,.int .i64 0,.int .i64 0,.int .i64 0,.int .i64 0,.bool false,.bool false,.int .u32 0,.int .i64 0,.int .i64 0,.int .i64 0]) ?_ 5 _ rfl;(with_reducible repeat (first|refine a_e ?_ _|refine a_g ?_|refine a_d ?_ _));refine a_n (cs:=#[.int .i64 0,.int .i64 0,.int .i64 0,.int .i64 0,.int .i64 0,.bool false,.bool false,.int .u32 0,.int .i64 0,.int .i64 0,.int .i64 0]) ?_ 4 _ rfl;(with_reducible repeat (first|refine a_e ?_ _|refine a_g ?_|refine a_d ?_ _));refine a_n (cs:=#[.int .i64 0,.int .i64 0,.int .i64 0,.int .i64 0,.int .i64 0,.bool false,.bool false,.int .u32 0,.int .i64 0,.int .i64 0,.int .i64 0]) ?_ 3 _ rfl;(with_reducible repeat (first|refine a_e ?_ _|refine a_g ?_|refine a_d ?_ _));refine a_n (cs:=#[.int .i64 0,.int .i64 0,.int .i64 0,.int .i64 0,.int .i64 0,.bool false,.bool false,.int .u32 0,.int .i64 0,.int .i64 0,.int .i64 0]) ?_ 2 _ rfl;(with_reducible repeat (first|refine a_e ?_ _|refine a_g ?_|refine a_d ?_ _));refine a_n (cs:=#[.int .i64 0,.int .i64 0,.int .i64 0,.int .i64 0,.int .i64 0,.bool false,.bool false,.int .u32 0,.int .i64 0,.int .i64 0,.int .i64 0]) ?_ 1 _ rfl;(with_reducible repeat (first|refine a_e ?_ _|refine a_g ?_|refine a_d ?_ _));refine a_n (cs:=#[.int .i64 0,.int .i64 0,.int .i64 0,.int .i64 0,.int .i64 0,.bool false,.bool false,.int .u32 0,.int .i64 0,.int .i64 0,.int .i64 0]) ?_ 0 _ rfl;(with_reducible repeat (first|refine a_e ?_ _|refine a_g ?_|refine a_d ?_ _));exact c_a.out) Tryd.underlying33 rfl (by kernel_rfl)) rfl ?_
  exact ⟨by first|rfl|(simp [a_u,a_v] <;> rfl)|(simp [*, a_u,a_v] <;> rfl),by repeat (first|(with_reducible first|exact HB.out|apply a_j|apply a_h|apply a_k|refine a_i ?_ e_M.out|refine a_i ?_ g_a.out|refine a_i ?_ k_i.out)|exact HB.out)⟩
 rw [if_neg c4] at H
 have c4b0 : decide (t163 < 0) = false:=decide_eq_false c4
 clear c4
 by_cases c14 : 0 ≤ t163
 rotate_left
 ·rw [if_neg c14] at H
  exact absurd H (by simp)
 rw [if_pos c14] at H
 have c14b0 : decide (0 ≤ t163) = true:=decide_eq_true c14
 clear c14
 by_cases c15 : t163 < (l0_1.length : Int)
 rotate_left
 ·rw [if_neg c15] at H
  exact absurd H (by simp)
 rw [if_pos c15] at H
 have c15b0 : decide (t163 < (l0_1.length : Int)) = true:=decide_eq_true c15
 clear c15
 simp only [Option.some.injEq,Prod.mk.injEq] at H
 obtain ⟨rfl,rfl,rfl,rfl,rfl,rfl,rfl,rfl,rfl,rfl,rfl,rfl⟩:=H
 go_enter Tryd.func32,Tryd.ntmps32
 go_wp2_with (first|((with_reducible refine a_J (N:=2) rfl ?_);refine a_A ?hg (N:=2) ?hd (cs:=#[.int .i64 a0_0,.slice A0_1 l0_1.length c0_1]) (t:=24) ?hr ?_;(case hd => rfl);(case hg => rfl);(case hr => first|(go_simp;done)|(go_simp;rfl));intro e_A hg w16 hbox hb;have d_b:=a_f.mk (hbox);have s_C:=a_f.mk ((by rw [hg];exact (a_o (lup_ HB.out)) : w.heap.size ≤ e_A));have e_M:=a_f.mk ((by rw [hg];exact (a_o (lup_ HB.out)) : w.heap.size ≤ e_A));replace HB:=a_f.mk (a_q (lup_ HB.out) hb);clear hb hbox hg)|((with_reducible refine a_J (N:=3) rfl ?_);refine a_A ?hg (N:=3) ?hd (cs:=#[.int .i64 a1]) (t:=3) ?hr ?_;(case hd => rfl);(case hg => rfl);(case hr => first|(go_simp;done)|(go_simp;rfl));intro e_R hg w17 hbox hb;have e_0:=a_f.mk (hbox);have s_D:=a_f.mk ((by rw [hg];exact (a_o (by repeat (first|(with_reducible first|exact HB.out|apply a_j|apply a_h|apply a_k|refine a_i ?_ e_M.out)|exact HB.out))) : w.heap.size ≤ e_R));have g_a:=a_f.mk ((by rw [hg];exact (a_o (by repeat (first|(with_reducible first|exact HB.out|apply a_j|apply a_h|apply a_k|refine a_i ?_ e_M.out)|exact HB.out))) : w.heap.size ≤ e_R));have g_c:=a_f.mk ((by rw [hg];exact Nat.ne_of_lt (a_B (bup_ d_b.out)) : e_A ≠ e_R));have g_e:=a_f.mk ((by rw [hg];exact Nat.ne_of_gt (a_B (bup_ d_b.out)) : e_R ≠ e_A));replace d_b:=a_f.mk (a_l (bup_ d_b.out) hb);replace HB:=a_f.mk (a_q (by repeat (first|(with_reducible first|exact HB.out|apply a_j|apply a_h|apply a_k|refine a_i ?_ e_M.out)|exact HB.out)) hb);clear hb hbox hg)|((with_reducible refine a_J (N:=4) rfl ?_);refine a_A ?hg (N:=4) ?hd (cs:=#[.int .i64 0,.int .i64 0,.int .i64 0,.int .i64 0,.int .i64 0,.bool false,.bool false,.int .u32 0,.int .i64 0,.int .i64 0,.int .i64 0]) (t:=33) ?hr ?_;(case hd => rfl);(case hg => rfl);(case hr => first|(go_simp;done)|(go_simp;rfl));intro c_0 hg w18 hbox hb;have c_a:=a_f.mk (hbox);have s_E:=a_f.mk ((by rw [hg];exact (a_o (by repeat (first|(with_reducible first|exact HB.out|apply a_j|apply a_h|apply a_k|refine a_i ?_ e_M.out|refine a_i ?_ g_a.out)|exact HB.out))) : w.heap.size ≤ c_0));have k_i:=a_f.mk ((by rw [hg];exact (a_o (by repeat (first|(with_reducible first|exact HB.out|apply a_j|apply a_h|apply a_k|refine a_i ?_ e_M.out|refine a_i ?_ g_a.out)|exact HB.out))) : w.heap.size ≤ c_0));have g_d:=a_f.mk ((by rw [hg];exact Nat.ne_of_lt (a_B (bup_ d_b.out)) : e_A ≠ c_0));have g_g:=a_f.mk ((by rw [hg];exact Nat.ne_of_gt (a_B (bup_ d_b.out)) : c_0 ≠ e_A));have g_f:=a_f.mk ((by rw [hg];exact Nat.ne_of_lt (a_B (bup_ e_0.out)) : e_R ≠ c_0));have g_h:=a_f.mk ((by rw [hg];exact Nat.ne_of_gt (a_B (bup_ e_0.out)) : c_0 ≠ e_R));replace d_b:=a_f.mk (a_l (bup_ d_b.out) hb);replace e_0:=a_f.mk (a_l (bup_ e_0.out) hb);replace HB:=a_f.mk (a_q (by repeat (first|(with_reducible first|exact HB.out|apply a_j|apply a_h|apply a_k|refine a_i ?_ e_M.out|refine a_i ?_ g_a.out)|exact HB.out)) hb);clear hb hbox hg;have x_Z:=g_c.out;have x_8:=g_e.out;have r_E:=g_d.out;have r_G:=g_g.out;have k_5 : w18.cell? ⟨e_A,0,none⟩ = some (.int .i64 a0_0):=(a_b d_b.out 0).trans rfl;have k_6 : w18.cell? ⟨e_A,1,none⟩ = some (.slice A0_1 l0_1.length c0_1):=(a_b d_b.out 1).trans rfl;have l_F:=a_c d_b.out 0;have l_G:=a_c d_b.out 1)|((with_reducible refine a_M (f:=43) rfl ?_);refine b_D (some 10) rfl rfl Tryd.func43 (by kernel_rfl) rfl #[.slice A0_1 l0_1.length c0_1,.func (.func 44) #[] #[.pointer (some ⟨e_R,0,none⟩)]] rfl (by (try simp only [List.map_toArray,List.map_cons,List.map_nil]);first|done|rfl|(simp only [List.length_drop,List.length_take];rfl)) ?_;(with_reducible refine (a_3.calls _ _ l0_1 e_R a1 t163 _ ?side1 ?side2 ?side3 A3.out).mono ?_);(case side1 => repeat (first|exact (Kd.b_i c_c.out HB.out)|(with_reducible refine Kd.b_b ?_ _)|(with_reducible refine Kd.b_c ?_ _)|(with_reducible refine Kd.b_z ?_)));(case side2 => exact d_I.out);(case side3 => exact (bup_ e_0.out));rintro e w22 ⟨rfl,hb⟩;refine ⟨_,rfl,?_⟩;replace d_b:=a_f.mk (a_l (bup_ d_b.out) hb);replace e_0:=a_f.mk (a_l (bup_ e_0.out) hb);replace c_a:=a_f.mk (a_l (bup_ c_a.out) hb);replace HB:=a_f.mk (a_q (by repeat (first|(with_reducible first|exact HB.out|apply a_j|apply a_h|apply a_k|refine a_i ?_ e_M.out|refine a_i ?_ g_a.out|refine a_i ?_ k_i.out)|exact HB.out)) hb);(try clear hb);(try clear hb2);(try clear hk);(try clear hi);have i_p : w22.cell? ⟨e_A,0,none⟩ = some (.int .i64 a0_0):=(a_b d_b.out 0).trans rfl;have i_q : w22.cell? ⟨e_A,1,none⟩ = some (.slice A0_1 l0_1.length c0_1):=(a_b d_b.out 1).trans rfl;have i_O:=a_c d_b.out 0;have i_P:=a_c d_b.out 1;have p164 : 0 ≤ (t163 : Int):=of_decide_eq_true (by first|(with_reducible assumption)|assumption);have q164 : t163 < (l0_1.length : Int):=of_decide_eq_true (by first|(with_reducible assumption)|assumption);obtain ⟨ad164,e164,j_h,j_i,j_j,j_k,j_l,j_m,j_n,j_o,j_p,j_q,h_r⟩:=c_R c_c.out t163 p164 q164;cases e164;replace j_h:=(HB.out.cell (World.block_lt_of_cell? w _ j_h)).trans j_h;replace j_i:=(HB.out.cell (World.block_lt_of_cell? w _ j_i)).trans j_i;replace j_j:=(HB.out.cell (World.block_lt_of_cell? w _ j_j)).trans j_j;replace j_k:=(HB.out.cell (World.block_lt_of_cell? w _ j_k)).trans j_k;replace j_l:=(HB.out.cell (World.block_lt_of_cell? w _ j_l)).trans j_l;replace j_m:=(HB.out.cell (World.block_lt_of_cell? w _ j_m)).trans j_m;replace j_n:=(HB.out.cell (World.block_lt_of_cell? w _ j_n)).trans j_n;replace j_o:=(HB.out.cell (World.block_lt_of_cell? w _ j_o)).trans j_o;replace j_p:=(HB.out.cell (World.block_lt_of_cell? w _ j_p)).trans j_p;replace j_q:=(HB.out.cell (World.block_lt_of_cell? w _ j_q)).trans j_q;replace h_r:=(HB.out.cell (World.block_lt_of_cell? w _ h_r)).trans h_r;replace p164:=eq_true p164;replace q164:=eq_true q164;have z_b:=g_h.out;have z_H:=g_f.out;have i_r : w22.cell? ⟨c_0,0,none⟩ = some (.int .i64 0):=(a_b c_a.out 0).trans rfl;have i_s : w22.cell? ⟨c_0,1,none⟩ = some (.int .i64 0):=(a_b c_a.out 1).trans rfl;have i_t : w22.cell? ⟨c_0,2,none⟩ = some (.int .i64 0):=(a_b c_a.out 2).trans rfl;have i_u : w22.cell? ⟨c_0,3,none⟩ = some (.int .i64 0):=(a_b c_a.out 3).trans rfl;have i_v : w22.cell? ⟨c_0,4,none⟩ = some (.int .i64 0):=(a_b c_a.out 4).trans rfl;have i_w : w22.cell? ⟨c_0,5,none⟩ = some (.bool false):=(a_b c_a.out 5).trans rfl;have i_x : w22.cell? ⟨c_0,6,none⟩ = some (.bool false):=(a_b c_a.out 6).trans rfl;have i_y : w22.cell? ⟨c_0,7,none⟩ = some (.int .u32 0):=(a_b c_a.out 7).trans rfl;have i_z : w22.cell? ⟨c_0,8,none⟩ = some (.int .i64 0):=(a_b c_a.out 8).trans rfl;have i_A : w22.cell? ⟨c_0,9,none⟩ = some (.int .i64 0):=(a_b c_a.out 9).trans rfl;have g_9 : w22.cell? ⟨c_0,10,none⟩ = some (.int .i64 0):=(a_b c_a.out 10).trans rfl;have i_Q:=a_c c_a.out 0;have i_R:=a_c c_a.out 1;have i_S:=a_c c_a.out 2;have i_T:=a_c c_a.out 3;have i_U:=a_c c_a.out 4;have i_V:=a_c c_a.out 5;have i_W:=a_c c_a.out 6;have i_X:=a_c c_a.out 7;have i_Y:=a_c c_a.out 8;have i_Z:=a_c c_a.out 9;have h_i:=a_c c_a.out 10))
 refine bodyPost_ret (c_g rfl _ _ c_0 33 #[.int .i64 ((a_a l0_1 t163).f0),.int .i64 ((a_a l0_1 t163).f1),.int .i64 ((a_a l0_1 t163).f2),.int .i64 ((a_a l0_1 t163).f3),.int .i64 ((a_a l0_1 t163).f4),.bool ((a_a l0_1 t163).f5),.bool ((a_a l0_1 t163).f6),.int .u32 ((a_a l0_1 t163).f7),.int .i64 ((a_a l0_1 t163).f8),.int .i64 ((a_a l0_1 t163).f9),.int .i64 ((a_a l0_1 t163).f10)] (0,0) _ rfl (by (with_reducible repeat (first|refine a_e ?_ _|refine a_g ?_|refine a_d ?_ _));refine a_n (cs:=#[.int .i64 ((a_a l0_1 t163).f0),.int .i64 ((a_a l0_1 t163).f1),.int .i64 ((a_a l0_1 t163).f2),.int .i64 ((a_a l0_1 t163).f3),.int .i64 ((a_a l0_1 t163).f4),.bool ((a_a l0_1 t163).f5),.bool ((a_a l0_1 t163).f6),.int .u32 ((a_a l0_1 t163).f7),.int .i64 ((a_a l0_1 t163).f8),.int .i64 ((a_a l0_1 t163).f9),.int .i64 0]) ?_ 10 _ rfl;(with_reducible repeat (first|refine a_e ?_ _|refine a_g ?_|refine a_d ?_ _));refine a_n (cs:=#[.int .i64 ((a_a l0_1 t163).f0),.int .i64 ((a_a l0_1 t163).f1),.int .i64 ((a_a l0_1 t163).f2),.int .i64 ((a_a l0_1 t163).f3),.int .i64 ((a_a l0_1 t163).f4),.bool ((a_a l0_1 t163).f5),.bool ((a_a l0_1 t163).f6),.int .u32 ((a_a l0_1 t163).f7),.int .i64 ((a_a l0_1 t163).f8),.int .i64 0,.int .i64 0]) ?_ 9 _ rfl;(with_reducible repeat (first|refine a_e ?_ _|refine a_g ?_|refine a_d ?_ _));refine a_n (cs:=#[.int .i64 ((a_a l0_1 t163).f0),.int .i64 ((a_a l0_1 t163).f1),.int .i64 ((a_a l0_1 t163).f2),.int .i64 ((a_a l0_1 t163).f3),.int .i64 ((a_a l0_1 t163).f4),.bool ((a_a l0_1 t163).f5),.bool ((a_a l0_1 t163).f6),.int .u32 ((a_a l0_1 t163).f7),.int .i64 0,.int .i64 0,.int .i64 0]) ?_ 8 _ rfl;(with_reducible repeat (first|refine a_e ?_ _|refine a_g ?_|refine a_d ?_ _));refine a_n (cs:=#[.int .i64 ((a_a l0_1 t163).f0),.int .i64 ((a_a l0_1 t163).f1),.int .i64 ((a_a l0_1 t163).f2),.int .i64 ((a_a l0_1 t163).f3),.int .i64 ((a_a l0_1 t163).f4),.bool ((a_a l0_1 t163).f5),.bool ((a_a l0_1 t163).f6),.int .u32 0,.int .i64 0,.int .i64 0,.int .i64 0]) ?_ 7 _ rfl;(with_reducible repeat (first|refine a_e ?_ _|refine a_g ?_|refine a_d ?_ _));refine a_n (cs:=#[.int .i64 ((a_a l0_1 t163).f0),.int .i64 ((a_a l0_1 t163).f1),.int .i64 ((a_a l0_1 t163).f2),.int .i64 ((a_a l0_1 t163).f3),.int .i64 ((a_a l0_1 t163).f4),.bool ((a_a l0_1 t163).f5),.bool false,.int .u32 0,.int .i64 0,.int .i64 0,.int .i64 0]) ?_ 6 _ rfl;(with_reducible repeat (first|refine a_e ?_ _|refine a_g ?_|refine a_d ?_ _));refine a_n (cs:=#[.int .i64 ((a_a l0_1 t163).f0),.int .i64 ((a_a l0_1 t163).f1),.int .i64 ((a_a l0_1 t163).f2),.int .i64 ((a_a l0_1 t163).f3),.int .i64 ((a_a l0_1 t163).f4),.bool false,.bool false,.int .u32 0,.int .i64 0,.int .i64 0,.int .i64 0]) ?_ 5 _ rfl;(with_reducible repeat (first|refine a_e ?_ _|refine a_g ?_|refine a_d ?_ _));refine a_n (cs:=#[.int .i64 ((a_a l0_1 t163).f0),.int .i64 ((a_a l0_1 t163).f1),.int .i64 ((a_a l0_1 t163).f2),.int .i64 ((a_a l0_1 t163).f3),.int .i64 0,.bool false,.bool false,.int .u32 0,.int .i64 0,.int .i64 0,.int .i64 0]) ?_ 4 _ rfl;(with_reducible repeat (first|refine a_e ?_ _|refine a_g ?_|refine a_d ?_ _));refine a_n (cs:=#[.int .i64 ((a_a l0_1 t163).f0),.int .i64 ((a_a l0_1 t163).f1),.int .i64 ((a_a l0_1 t163).f2),.int .i64 0,.int .i64 0,.bool false,.bool false,.int .u32 0,.int .i64 0,.int .i64 0,.int .i64 0]) ?_ 3 _ rfl;(with_reducible repeat (first|refine a_e ?_ _|refine a_g ?_|refine a_d ?_ _));refine a_n (cs:=#[.int .i64 ((a_a l0_1 t163).f0),.int .i64 ((a_a l0_1 t163).f1),.int .i64 0,.int .i64 0,.int .i64 0,.bool false,.bool false,.int .u32 0,.int .i64 0,.int .i64 0,.int .i64 0]) ?_ 2 _ rfl;(with_reducible repeat (first|refine a_e ?_ _|refine a_g ?_|refine a_d ?_ _));refine a_n (cs:=#[.int .i64 ((a_a l0_1 t163).f0),.int .i64 0,.int .i64 0,.int .i64 0,.int .i64 0,.bool false,.bool false,.int .u32 0,.int .i64 0,.int .i64 0,.int .i64 0]) ?_ 1 _ rfl;(with_reducible repeat (first|refine a_e ?_ _|refine a_g ?_|refine a_d ?_ _));refine a_n (cs:=#[.int .i64 0,.int .i64 0,.int .i64 0,.int .i64 0,.int .i64 0,.bool false,.bool false,.int .u32 0,.int .i64 0,.int .i64 0,.int .i64 0]) ?_ 0 _ rfl;(with_reducible repeat (first|refine a_e ?_ _|refine a_g ?_|refine a_d ?_ _));exact c_a.out) Tryd.underlying33 rfl (by kernel_rfl)) rfl ?_
 exact ⟨by first|rfl|(simp [a_u,a_v] <;> rfl)|(simp [*, a_u,a_v] <;> rfl),by repeat (first|(with_reducible first|exact HB.out|apply a_j|apply a_h|apply a_k|refine a_i ?_ e_M.out|refine a_i ?_ g_a.out|refine a_i ?_ k_i.out)|exact HB.out)⟩
end Go.Proofs.YtgglkfilkagblaaDoor.Q
end
section
namespace Go.Proofs.YtgglkfilkagblaaDoor.Q
open Go.RowKit Go.Proofs.YtgglkfilkagblaaDoorW.PrintWords Go.Proofs.YtgglkfilkagblaaDoorW.PrintLast Go.Proofs.YtgglkfilkagblaaDoorW.PrintMore
set_option linter.unusedVariables false
set_option linter.unusedSimpArgs false
section
attribute [local go_sem] Oper.semAt_some
def a_L (l : List S33) (v : Int) : S33 × Bool:=if idxOf (fun s => s.f0 == v) l < 0 then (z33,false) else (a_a l (idxOf (fun s => s.f0 == v) l),true)
theorem m_D {α : Type} (p : α → Bool) (xs : List α) : idxOf p xs < (xs.length : Int):=by
 unfold idxOf
 cases h : xs.findIdx? p with
 | none => simp only [];omega
 | some i =>
  rw [List.findIdx?_eq_some_iff_getElem] at h
  obtain ⟨hi,_⟩:=h
  simp only [];omega
theorem k_A (a : Int) (l : List S33) (v : Int) (hl : l.length ≤ 1099511627776) : c_N.f a l v = some ((a_L l v).1.f0,(a_L l v).1.f1,(a_L l v).1.f2,(a_L l v).1.f3,(a_L l v).1.f4,(a_L l v).1.f5,(a_L l v).1.f6,(a_L l v).1.f7,(a_L l v).1.f8,(a_L l v).1.f9,(a_L l v).1.f10,(a_L l v).2):=by
 have hlt:=m_D (fun s : S33 => s.f0 == v) l
 unfold c_N.f a_3.f a_L
 rw [if_pos hl,Option.bind_some]
 by_cases h : idxOf (fun s : S33 => s.f0 == v) l < 0
 ·rw [if_pos h,if_pos h];rfl
 rw [if_neg h,if_neg h,if_pos (by omega),if_pos hlt]
def ranB (xs : List S24) (en v frm tt : Int) (n : Int) (j : Nat) : Int:=if (a_L (a_r xs (j : Int)).f1 v).2 = true ∧ -1 < (a_L (a_r xs (j : Int)).f1 v).1.f4 then wrap64 (n + mx (wrap64 (mn (c_e xs en j) tt - mx (a_r xs (j : Int)).f0 frm)) 0) else n
def b_M.f (k : Nat) (l0_0 : List S24) (a0_1 a1 a2 a3 : Int) : Option (Int × Int):=(a_x.f k l0_0 a0_1).bind fun e => if e = 0 then (if a2 < 0 then some (0,2) else if 1125899906842624 < a3 then some (0,2) else if a3 < a2 then some (0,2) else if l0_0.length ≤ 4398046511104 ∧ ∀ m ∈ l0_0,m.f1.length ≤ 1099511627776 then some ((List.range l0_0.length).foldl (ranB l0_0 a0_1 a1 a2 a3) 0,0) else none) else some (0,390)
theorem e_m {W W' : World} {row : Option Nat} {B g t : Nat} {cs : Array Value} {fr : Nat × Nat} (h : W.heap[g]? = some (.cells cs t fr)) (hg : W.grownBy W' row) (hr : ∀ r,row = some r → B ≤ r ∧ ∃ o : Obj,W.heap[r]? = some o ∧ o.isCells = false) : W'.heap[g]? = some (.cells cs t fr) :=
 (hg.block g (a_B h) (fun e => by
  obtain ⟨_,o,ho,hc⟩:=hr g e.symm
  rw [h] at ho
  cases ho
  cases hc)).trans h
theorem b_A {B : Nat} {W W' : World} (h : Below W.heap.size W W') : KeepsFrom B W W':=⟨h.size,fun k o _ hk _ => (h.block k (a_B hk)).trans hk⟩
theorem b_M.mono : ∀ a0 a1 a2 a3 a4 k,LeO (b_M.f k a0 a1 a2 a3 a4) (b_M.f (k + 1) a0 a1 a2 a3 a4):=fun a0 a1 a2 a3 a4 k => LeO.bind (a_x.mono _ _ _) (fun _ => LeO.refl _)
theorem r_N {a b : Int} (h : b < a) : mn a b = b:=by unfold mn;split <;> omega
theorem r_O {a b : Int} (h : a ≤ b) : mn a b = a:=by unfold mn;split <;> omega
theorem n_b {a b : Int} (h : a < b) : mx a b = b:=by unfold mx;split <;> omega
theorem n_a {a b : Int} (h : b ≤ a) : mx a b = a:=by unfold mx;split <;> omega
structure RanI (w w1 : World) (a1 a2 a3 v : Int) (W : World) : Prop where
 b0 : W.heap[w1.heap.size]? = some (.cells #[.int .i64 v] 2 (0,0))
 b1 : W.heap[w.heap.size + 1]? = some (.cells #[.int .i64 a1] 3 (0,0))
 b2 : W.heap[w.heap.size + 1 + 1]? = some (.cells #[.int .i64 a2] 2 (0,0))
 b3 : W.heap[w.heap.size + 1 + 1 + 1]? = some (.cells #[.int .i64 a3] 2 (0,0))
 b4 : w1.heap.size + 1 < W.heap.size
 below : Below w.heap.size w W
set_option maxRecDepth 100000 in
set_option maxHeartbeats 4000000 in
theorem b_M.sums (k : Nat) (A0_0 : Option Addr) (c0_0 : Nat) (l0_0 : List S24) (a0_1 a1 a2 a3 : Int) (w : World) (hr0_0 : Kd.C k24 w A0_0 l0_0.length l0_0) (hc0_0 : l0_0.length ≤ c0_0) (he : a_x.f k l0_0 a0_1 = some 0) (h1 : ¬ a2 < 0) (h2 : ¬ 1125899906842624 < a3) (h3 : ¬ a3 < a2) (hl : l0_0.length ≤ 4398046511104) (hm : ∀ m ∈ l0_0,m.f1.length ≤ 1099511627776) :
 Calls Tryd.prog 17 #[.agg #[.slice A0_0 l0_0.length c0_0,.int .i64 a0_1],.int .i64 a1,.int .i64 a2,.int .i64 a3] w fun e w' => e = .returned (.tuple #[.int .i64 ((List.range l0_0.length).foldl (ranB l0_0 a0_1 a1 a2 a3) 0),.int .i64 0]) ∧ Below w.heap.size w w':=by
 have HR:=a_f.mk hr0_0
 have HE:=a_f.mk he
 have HM:=a_f.mk hm
 clear hr0_0 he hm
 have g1 : decide (a2 < 0) = false:=decide_eq_false h1
 have g2 : decide (1125899906842624 < a3) = false:=decide_eq_false h2
 have g3 : decide (a3 < a2) = false:=decide_eq_false h3
 clear h1 h2 h3
 have q0:=a_f.mk (a_d (a_d (a_d (c_E w (.cells #[.slice A0_0 l0_0.length c0_0,.int .i64 a0_1] 37)) (.cells #[.int .i64 a1] 3)) (.cells #[.int .i64 a2] 2)) (.cells #[.int .i64 a3] 2))
 have q1:=a_f.mk (a_d (a_d (c_E (w.alloc (.cells #[.slice A0_0 l0_0.length c0_0,.int .i64 a0_1] 37)) (.cells #[.int .i64 a1] 3)) (.cells #[.int .i64 a2] 2)) (.cells #[.int .i64 a3] 2))
 have q2:=a_f.mk (a_d (c_E ((w.alloc (.cells #[.slice A0_0 l0_0.length c0_0,.int .i64 a0_1] 37)).alloc (.cells #[.int .i64 a1] 3)) (.cells #[.int .i64 a2] 2)) (.cells #[.int .i64 a3] 2))
 have q3:=a_f.mk (c_E (((w.alloc (.cells #[.slice A0_0 l0_0.length c0_0,.int .i64 a0_1] 37)).alloc (.cells #[.int .i64 a1] 3)).alloc (.cells #[.int .i64 a2] 2)) (.cells #[.int .i64 a3] 2))
 have qB:=a_f.mk (a_j (a_j (a_j (a_j (Below.refl w.heap.size w) (.cells #[.slice A0_0 l0_0.length c0_0,.int .i64 a0_1] 37)) (.cells #[.int .i64 a1] 3)) (.cells #[.int .i64 a2] 2)) (.cells #[.int .i64 a3] 2))
 simp only [World.size_alloc] at q0 q1 q2 q3
 refine (callsIn_wide (n:=9)).1 ?_
 refine callsIn_of_wp_marks Tryd.func17 rfl trivial ?_ rfl
 simp only [Tryd.ntmps17,List.size_toArray,List.length_cons,List.length_nil,Nat.reduceAdd,Nat.reduceSub,Array.replicate_succ,Array.replicate_zero,List.push_toArray,List.append_toArray,List.nil_append,List.cons_append]
 gi_wp2_with (first
  | (refine ⟨trivial,?_⟩;gi_at_call 29;refine (callsIn_wide.2 (a_x.calls k _ _ l0_0 a0_1 0 _ ?s1 hc0_0 HE.out)).mono ?_;(case s1 => exact Kd.b_i HR.out qB.out);rintro e w1 ⟨rfl,hb⟩;have HB:=a_f.mk (a_q qB.out hb);have p0:=a_f.mk (a_l q0.out hb);have p1:=a_f.mk (a_l q1.out hb);have p2:=a_f.mk (a_l q2.out hb);have p3:=a_f.mk (a_l q3.out hb);clear hb;have r0 : w1.cell? ⟨w.heap.size,0,none⟩ = some (.slice A0_0 l0_0.length c0_0):=(a_b p0.out 0).trans rfl;have r1 : w1.cell? ⟨w.heap.size,1,none⟩ = some (.int .i64 a0_1):=(a_b p0.out 1).trans rfl;have r2 : w1.cell? ⟨w.heap.size + 1 + 1,0,none⟩ = some (.int .i64 a2):=(a_b p2.out 0).trans rfl;have r3 : w1.cell? ⟨w.heap.size + 1 + 1 + 1,0,none⟩ = some (.int .i64 a3):=(a_b p3.out 0).trans rfl;have z0:=a_B p0.out;have z2:=a_B p2.out;have z3:=a_B p3.out)
  | (refine ⟨trivial,?_⟩;gi_at_call 31;refine (callsIn_wide.2 (h_D.calls _ _ _ _ _)).mono ?_;rintro e w' ⟨rfl,rfl⟩))
 have n0:=a_f.mk (a_d (c_E w1 (.cells #[.int .i64 0] 2)) (.cells #[.slice A0_0 l0_0.length c0_0,.int .i64 a0_1] 37))
 have n1:=a_f.mk (c_E (w1.alloc (.cells #[.int .i64 0] 2)) (.cells #[.slice A0_0 l0_0.length c0_0,.int .i64 a0_1] 37))
 have n2:=a_f.mk (a_d (a_d p1.out (.cells #[.int .i64 0] 2)) (.cells #[.slice A0_0 l0_0.length c0_0,.int .i64 a0_1] 37))
 have n3:=a_f.mk (a_d (a_d p2.out (.cells #[.int .i64 0] 2)) (.cells #[.slice A0_0 l0_0.length c0_0,.int .i64 a0_1] 37))
 have n4:=a_f.mk (a_d (a_d p3.out (.cells #[.int .i64 0] 2)) (.cells #[.slice A0_0 l0_0.length c0_0,.int .i64 a0_1] 37))
 have nB:=a_f.mk (a_j (a_j HB.out (.cells #[.int .i64 0] 2)) (.cells #[.slice A0_0 l0_0.length c0_0,.int .i64 a0_1] 37))
 have hsz : ((w1.alloc (.cells #[.int .i64 0] 2)).alloc (.cells #[.slice A0_0 l0_0.length c0_0,.int .i64 a0_1] 37)).heap.size = w1.heap.size + 1 + 1:=by simp
 simp only [World.size_alloc] at n0 n1 n2 n3 n4
 have hws:=HB.out.size
 clear q0 q1 q2 q3 p0 p1 p2 p3 r0 r1 r2 r3 qB HB
 obtain ⟨W2,hW2⟩ : ∃ W2,(w1.alloc (.cells #[.int .i64 0] 2)).alloc (.cells #[.slice A0_0 l0_0.length c0_0,.int .i64 a0_1] 37) = W2:=⟨_,rfl⟩
 rw [hW2] at n0 n1 n2 n3 n4 nB hsz ⊢
 clear hW2
 obtain ⟨ad,am,cm,hA,hMs⟩ : ∃ ad am cm,(0 < l0_0.length → A0_0 = some ad) ∧ f_X l0_0 ad am cm w:=by
  by_cases h : 0 < l0_0.length
  ·obtain ⟨ad,am,cm,e,hm⟩:=h_M HR.out h
   exact ⟨ad,am,cm,fun _ => e,hm⟩
  exact ⟨⟨0,0,none⟩,fun _ => none,fun _ => 0,fun h' => absurd h' h,fun j hj => absurd (Nat.lt_of_le_of_lt (Nat.zero_le _) hj) h⟩
 have HMS:=a_f.mk hMs
 have hAA:=a_f.mk hA
 clear hMs hA
 refine wpIn_rangeFunc_ownH rfl (by omega) (gf:=41) (lb:=#[.pointer (some ⟨w1.heap.size + 1,0,none⟩)]) rfl trivial (enters_of Tryd.func41 (by kernel_rfl) rfl)
  (encs:=fun x : Fin l0_0.length => #[momV l0_0 am cm x.val,.agg #[.int .i64 (a_r l0_0 (x.val : Int)).f0,.int .i64 (c_e l0_0 a0_1 x.val)]]) (Kp:=KpB w.heap.size (w1.heap.size + 1)) (S:=fun ys => ys = List.finRange l0_0.length) (Sp:=fun _ => True) (N:=l0_0.length) (w0:=W2)
  (fun l J Jx W hW hJ hJx hY h0 => f_v 8 (by omega) l (w1.heap.size + 1) w.heap.size A0_0 ad c0_0 l0_0 a0_1 hl am cm J Jx hY w W hJ rfl (nB.out.trans (hW.mono nB.out.size)) hAA.out ((hW.block _ (a_B n1.out)).trans n1.out) HMS.out hc0_0 HR.out h0)
  (fun h k => ⟨h.1.trans k.1,k.2.trans h.2⟩) (fun W l o o' hl' hh hc hk => ⟨belowK_b (w:=W2) nB.out.size W l o o' hl' hh hc hk,(grownBy_putObj' W l o').block _ (by have:=a_B hh;omega) (by intro e;cases e;omega)⟩) (Below.refl _ _) (fun _ => rfl)
  (fun pre W => RanI w w1 a1 a2 a3 ((pre.map (·.val)).foldl (ranB l0_0 a0_1 a1 a2 a3) 0) W)
  (fun _ _ _ => False)
  (fun s A B row hs hg hr => ⟨e_m hs.b0 hg hr,e_m hs.b1 hg hr,e_m hs.b2 hg hr,e_m hs.b3 hg hr,Nat.lt_of_lt_of_le hs.b4 hg.size,hs.below.grown hg hs.below.size (fun k e => Nat.le_trans nB.out.size (hr k e).1)⟩)
  (fun _ _ _ _ _ hs _ _ => hs)
  ⟨n0.out,n2.out,n3.out,n4.out,by omega,nB.out⟩
  (fun x a' W => ∃ Bm Bs : Nat,W.heap[Bm]? = some (.cells #[.int .i64 (a_r l0_0 (x.val : Int)).f0,.slice (am x.val) (a_r l0_0 (x.val : Int)).f1.length (cm x.val)] 24 (0,0)) ∧ W.heap[Bs]? = some (.cells #[.int .i64 (a_r l0_0 (x.val : Int)).f0,.int .i64 (c_e l0_0 a0_1 x.val)] 49 (0,0)) ∧ a' = { tmps:=#[.agg #[.slice A0_0 l0_0.length c0_0,.int .i64 a0_1],.int .i64 a1,.int .i64 a2,.int .i64 a3,.pointer (some ⟨w.heap.size,0,none⟩),.pointer (some ⟨w.heap.size + 1,0,none⟩),.pointer (some ⟨w.heap.size + 1 + 1,0,none⟩),.pointer (some ⟨w.heap.size + 1 + 1 + 1,0,none⟩),.int .i64 0,.int .i64 0,.pointer (some ⟨w1.heap.size,0,none⟩),.pointer (some ⟨Bm,0,none⟩),.pointer (some ⟨Bs,0,none⟩),undef,undef,.bool false,.agg #[.slice A0_0 l0_0.length c0_0,.int .i64 a0_1],.int .i64 0,.bool false,.bool false,.int .i64 a2,.bool false,.bool false,.int .i64 a3,.bool false,.bool false,.bool false,.int .i64 a2,.int .i64 a3,.bool false,.bool false,.agg #[.slice A0_0 l0_0.length c0_0,.int .i64 a0_1],.func (.func 41) #[] #[.pointer (some ⟨w1.heap.size + 1,0,none⟩)],momV l0_0 am cm x.val,.agg #[.int .i64 (a_r l0_0 (x.val : Int)).f0,.int .i64 (c_e l0_0 a0_1 x.val)],undef,undef,undef,undef,undef,undef,undef,undef,undef,undef,undef,undef,undef,undef,undef,undef,undef,undef,undef,undef,undef,undef,undef,undef,undef],defers:=[] })
  (fun x a' s A B row hs hg hr => by obtain ⟨Bm,Bs,h1,h2,h3⟩:=hs;exact ⟨Bm,Bs,e_m h1 hg hr,e_m h2 hg hr,h3⟩) ?assign ?body ?done ?stop
 case assign =>
  rintro l pre x W K ⟨b0,b1,b2,b3,b4,hB⟩ hK
  simp only [momV]
  have i0:=a_f.mk b0
  have i1:=a_f.mk b1
  have i2:=a_f.mk b2
  have i3:=a_f.mk b3
  have iB:=a_f.mk hB
  have iK:=a_f.mk hK
  clear b0 b1 b2 b3 hB hK
  gi_wp2
  have u:=a_j (a_j (Below.refl W.heap.size W) (.cells #[.int .i64 (a_r l0_0 (x.val : Int)).f0,.slice (am x.val) (a_r l0_0 (x.val : Int)).f1.length (cm x.val)] 24)) (.cells #[.int .i64 (a_r l0_0 (x.val : Int)).f0,.int .i64 (c_e l0_0 a0_1 x.val)] 49)
  exact iK.out _ _ (b_A u) ⟨u.mono iB.out.size,u.block _ b4⟩ ⟨a_l i0.out u,a_l i1.out u,a_l i2.out u,a_l i3.out u,Nat.lt_of_lt_of_le b4 u.size,iB.out.trans (u.mono iB.out.size)⟩ ⟨_,_,a_d (c_E W _) _,by have:=c_E (W.alloc (.cells #[.int .i64 (a_r l0_0 (x.val : Int)).f0,.slice (am x.val) (a_r l0_0 (x.val : Int)).f1.length (cm x.val)] 24)) (.cells #[.int .i64 (a_r l0_0 (x.val : Int)).f0,.int .i64 (c_e l0_0 a0_1 x.val)] 49);rwa [World.size_alloc] at this,rfl⟩
 case body =>
  rintro l pre x a' W hl' _ ⟨b0,b1,b2,b3,b4,hB⟩ ⟨Bm,Bs,bm,bs,rfl⟩ hlt
  simp only [momV]
  have hmx:=HMS.out x.val x.isLt
  have hsm : (a_r l0_0 (x.val : Int)).f1.length ≤ 1099511627776:=HM.out _ (by unfold a_r;simp)
  have IF:=a_f.mk (k_A (a_r l0_0 (x.val : Int)).f0 (a_r l0_0 (x.val : Int)).f1 a1 hsm)
  have iC:=a_f.mk (Kd.b_i hmx.2.2.2 hB)
  have iL:=hmx.2.2.1
  clear hmx hsm
  have c0:=(a_b bm 0).trans rfl
  have c1:=(a_b bm 1).trans rfl
  have c2:=(a_b b1 0).trans rfl
  have iN : ((pre ++ [x]).map (·.val)).foldl (ranB l0_0 a0_1 a1 a2 a3) 0 = ranB l0_0 a0_1 a1 a2 a3 ((pre.map (·.val)).foldl (ranB l0_0 a0_1 a1 a2 a3) 0) x.val:=by simp
  generalize hn : (pre.map (·.val)).foldl (ranB l0_0 a0_1 a1 a2 a3) 0 = nn at b0 iN
  clear hn
  have IN:=a_f.mk iN
  have i0:=a_f.mk b0
  have i1:=a_f.mk b1
  have i2:=a_f.mk b2
  have i3:=a_f.mk b3
  have is:=a_f.mk bs
  have iB:=a_f.mk hB
  clear b0 b1 b2 b3 hB bm bs iN
  cases hb : (a_L (a_r l0_0 (x.val : Int)).f1 a1).2 with
  | false =>
   rw [hb] at IF
   have IH:=a_f.mk hb
   clear hb
   gi_wp2_with (refine ⟨trivial,?_⟩;gi_at_call 32;refine (CallsIn.inRound l (callsIn_wide.2 (c_N.calls _ _ _ _ _ _ _ _ _ _ _ _ _ _ _ _ _ _ iC.out iL IF.out))).mono ?_;rintro e w' ⟨rfl,hb⟩;have IB2:=a_f.mk hb;clear hb)
   have u:=a_j IB2.out (.cells #[.int .i64 (a_L (a_r l0_0 (x.val : Int)).f1 a1).1.f0,.int .i64 (a_L (a_r l0_0 (x.val : Int)).f1 a1).1.f1,.int .i64 (a_L (a_r l0_0 (x.val : Int)).f1 a1).1.f2,.int .i64 (a_L (a_r l0_0 (x.val : Int)).f1 a1).1.f3,.int .i64 (a_L (a_r l0_0 (x.val : Int)).f1 a1).1.f4,.bool (a_L (a_r l0_0 (x.val : Int)).f1 a1).1.f5,.bool (a_L (a_r l0_0 (x.val : Int)).f1 a1).1.f6,.int .u32 (a_L (a_r l0_0 (x.val : Int)).f1 a1).1.f7,.int .i64 (a_L (a_r l0_0 (x.val : Int)).f1 a1).1.f8,.int .i64 (a_L (a_r l0_0 (x.val : Int)).f1 a1).1.f9,.int .i64 (a_L (a_r l0_0 (x.val : Int)).f1 a1).1.f10] 33)
   have e : ranB l0_0 a0_1 a1 a2 a3 nn x.val = nn:=by unfold ranB;rw [IH.out];simp
   exact ⟨b_A u,⟨u.mono iB.out.size,u.block _ b4⟩,⟨by rw [IN.out,e];exact a_l i0.out u,a_l i1.out u,a_l i2.out u,a_l i3.out u,Nat.lt_of_lt_of_le b4 u.size,iB.out.trans (u.mono iB.out.size)⟩⟩
  | true =>
   rw [hb] at IF
   have IH:=a_f.mk hb
   clear hb
   cases hd : decide (-1 < (a_L (a_r l0_0 (x.val : Int)).f1 a1).1.f4) with
   | false =>
    gi_wp2_with (refine ⟨trivial,?_⟩;gi_at_call 32;refine (CallsIn.inRound l (callsIn_wide.2 (c_N.calls _ _ _ _ _ _ _ _ _ _ _ _ _ _ _ _ _ _ iC.out iL IF.out))).mono ?_;rintro e w' ⟨rfl,hb⟩;have IB2:=a_f.mk hb;clear hb)
    have u:=a_j IB2.out (.cells #[.int .i64 (a_L (a_r l0_0 (x.val : Int)).f1 a1).1.f0,.int .i64 (a_L (a_r l0_0 (x.val : Int)).f1 a1).1.f1,.int .i64 (a_L (a_r l0_0 (x.val : Int)).f1 a1).1.f2,.int .i64 (a_L (a_r l0_0 (x.val : Int)).f1 a1).1.f3,.int .i64 (a_L (a_r l0_0 (x.val : Int)).f1 a1).1.f4,.bool (a_L (a_r l0_0 (x.val : Int)).f1 a1).1.f5,.bool (a_L (a_r l0_0 (x.val : Int)).f1 a1).1.f6,.int .u32 (a_L (a_r l0_0 (x.val : Int)).f1 a1).1.f7,.int .i64 (a_L (a_r l0_0 (x.val : Int)).f1 a1).1.f8,.int .i64 (a_L (a_r l0_0 (x.val : Int)).f1 a1).1.f9,.int .i64 (a_L (a_r l0_0 (x.val : Int)).f1 a1).1.f10] 33)
    have e : ranB l0_0 a0_1 a1 a2 a3 nn x.val = nn:=by unfold ranB;rw [if_neg (fun h => of_decide_eq_false hd h.2)]
    exact ⟨b_A u,⟨u.mono iB.out.size,u.block _ b4⟩,⟨by rw [IN.out,e];exact a_l i0.out u,a_l i1.out u,a_l i2.out u,a_l i3.out u,Nat.lt_of_lt_of_le b4 u.size,iB.out.trans (u.mono iB.out.size)⟩⟩
   | true =>
    gi_wp2_with (refine ⟨trivial,?_⟩;gi_at_call 32;refine (CallsIn.inRound l (callsIn_wide.2 (c_N.calls _ _ _ _ _ _ _ _ _ _ _ _ _ _ _ _ _ _ iC.out iL IF.out))).mono ?_;rintro e w' ⟨rfl,hb⟩;have s0 : w'.cell? ⟨Bs,0,none⟩ = some (.int .i64 (a_r l0_0 (x.val : Int)).f0):=(a_b (a_l is.out hb) 0).trans rfl;have s1 : w'.cell? ⟨Bs,1,none⟩ = some (.int .i64 (c_e l0_0 a0_1 x.val)):=(a_b (a_l is.out hb) 1).trans rfl;have s2 : w'.cell? ⟨w1.heap.size,0,none⟩ = some (.int .i64 nn):=(a_b (a_l i0.out hb) 0).trans rfl;have s3 : w'.cell? ⟨w.heap.size + 1 + 1,0,none⟩ = some (.int .i64 a2):=(a_b (a_l i2.out hb) 0).trans rfl;have s4 : w'.cell? ⟨w.heap.size + 1 + 1 + 1,0,none⟩ = some (.int .i64 a3):=(a_b (a_l i3.out hb) 0).trans rfl;have sf:=a_c (a_l i0.out hb) 0;have y0:=a_B (a_l is.out hb);have y1:=a_B (a_l i0.out hb);have y2:=a_B (a_l i2.out hb);have y3:=a_B (a_l i3.out hb);have IB2:=a_f.mk hb;clear hb)
    all_goals
     have key : ∀ (B : Nat) (v : Int),ranB l0_0 a0_1 a1 a2 a3 nn x.val = v → KeepsFrom B W ((w'.setCell ⟨w1.heap.size,0,none⟩ (.int .i64 v)).alloc (.cells #[.int .i64 (a_L (a_r l0_0 (x.val : Int)).f1 a1).1.f0,.int .i64 (a_L (a_r l0_0 (x.val : Int)).f1 a1).1.f1,.int .i64 (a_L (a_r l0_0 (x.val : Int)).f1 a1).1.f2,.int .i64 (a_L (a_r l0_0 (x.val : Int)).f1 a1).1.f3,.int .i64 (a_L (a_r l0_0 (x.val : Int)).f1 a1).1.f4,.bool (a_L (a_r l0_0 (x.val : Int)).f1 a1).1.f5,.bool (a_L (a_r l0_0 (x.val : Int)).f1 a1).1.f6,.int .u32 (a_L (a_r l0_0 (x.val : Int)).f1 a1).1.f7,.int .i64 (a_L (a_r l0_0 (x.val : Int)).f1 a1).1.f8,.int .i64 (a_L (a_r l0_0 (x.val : Int)).f1 a1).1.f9,.int .i64 (a_L (a_r l0_0 (x.val : Int)).f1 a1).1.f10] 33)) ∧ KpB w.heap.size (w1.heap.size + 1) W ((w'.setCell ⟨w1.heap.size,0,none⟩ (.int .i64 v)).alloc (.cells #[.int .i64 (a_L (a_r l0_0 (x.val : Int)).f1 a1).1.f0,.int .i64 (a_L (a_r l0_0 (x.val : Int)).f1 a1).1.f1,.int .i64 (a_L (a_r l0_0 (x.val : Int)).f1 a1).1.f2,.int .i64 (a_L (a_r l0_0 (x.val : Int)).f1 a1).1.f3,.int .i64 (a_L (a_r l0_0 (x.val : Int)).f1 a1).1.f4,.bool (a_L (a_r l0_0 (x.val : Int)).f1 a1).1.f5,.bool (a_L (a_r l0_0 (x.val : Int)).f1 a1).1.f6,.int .u32 (a_L (a_r l0_0 (x.val : Int)).f1 a1).1.f7,.int .i64 (a_L (a_r l0_0 (x.val : Int)).f1 a1).1.f8,.int .i64 (a_L (a_r l0_0 (x.val : Int)).f1 a1).1.f9,.int .i64 (a_L (a_r l0_0 (x.val : Int)).f1 a1).1.f10] 33)) ∧ RanI w w1 a1 a2 a3 (((pre ++ [x]).map (·.val)).foldl (ranB l0_0 a0_1 a1 a2 a3) 0) ((w'.setCell ⟨w1.heap.size,0,none⟩ (.int .i64 v)).alloc (.cells #[.int .i64 (a_L (a_r l0_0 (x.val : Int)).f1 a1).1.f0,.int .i64 (a_L (a_r l0_0 (x.val : Int)).f1 a1).1.f1,.int .i64 (a_L (a_r l0_0 (x.val : Int)).f1 a1).1.f2,.int .i64 (a_L (a_r l0_0 (x.val : Int)).f1 a1).1.f3,.int .i64 (a_L (a_r l0_0 (x.val : Int)).f1 a1).1.f4,.bool (a_L (a_r l0_0 (x.val : Int)).f1 a1).1.f5,.bool (a_L (a_r l0_0 (x.val : Int)).f1 a1).1.f6,.int .u32 (a_L (a_r l0_0 (x.val : Int)).f1 a1).1.f7,.int .i64 (a_L (a_r l0_0 (x.val : Int)).f1 a1).1.f8,.int .i64 (a_L (a_r l0_0 (x.val : Int)).f1 a1).1.f9,.int .i64 (a_L (a_r l0_0 (x.val : Int)).f1 a1).1.f10] 33))   := fun B v e => by
      have u0:=IB2.out
      have h1 : Below w.heap.size W (w'.setCell ⟨w1.heap.size,0,none⟩ (.int .i64 v)):=(u0.mono iB.out.size).setCell (p:=⟨w1.heap.size,0,none⟩) hws _
      have h2:=h1.alloc (Nat.le_trans iB.out.size h1.size) (.cells #[.int .i64 (a_L (a_r l0_0 (x.val : Int)).f1 a1).1.f0,.int .i64 (a_L (a_r l0_0 (x.val : Int)).f1 a1).1.f1,.int .i64 (a_L (a_r l0_0 (x.val : Int)).f1 a1).1.f2,.int .i64 (a_L (a_r l0_0 (x.val : Int)).f1 a1).1.f3,.int .i64 (a_L (a_r l0_0 (x.val : Int)).f1 a1).1.f4,.bool (a_L (a_r l0_0 (x.val : Int)).f1 a1).1.f5,.bool (a_L (a_r l0_0 (x.val : Int)).f1 a1).1.f6,.int .u32 (a_L (a_r l0_0 (x.val : Int)).f1 a1).1.f7,.int .i64 (a_L (a_r l0_0 (x.val : Int)).f1 a1).1.f8,.int .i64 (a_L (a_r l0_0 (x.val : Int)).f1 a1).1.f9,.int .i64 (a_L (a_r l0_0 (x.val : Int)).f1 a1).1.f10] 33)
      refine ⟨((b_A u0).trans ((KeepsOthers.setCell w' ⟨w1.heap.size,0,none⟩ (.int .i64 v)).from _)).trans ((KeepsOthers.alloc _ _).from _),⟨h2,?_⟩,⟨a_d (by rw [IN.out,e];exact a_n (a_l i0.out u0) 0 _ rfl) _,a_d (a_p (a_l i1.out u0) (by show w.heap.size + 1 ≠ w1.heap.size;omega) _) _,a_d (a_p (a_l i2.out u0) (by show w.heap.size + 1 + 1 ≠ w1.heap.size;omega) _) _,a_d (a_p (a_l i3.out u0) (by show w.heap.size + 1 + 1 + 1 ≠ w1.heap.size;omega) _) _,Nat.lt_of_lt_of_le b4 h2.size,iB.out.trans h2⟩⟩
      rw [Below.heap_alloc _ _ _ (by have:=u0.size;simp only [World.setCell,Array.size_modify];omega),Below.heap_setCell _ _ _ _ (by show w1.heap.size + 1 ≠ w1.heap.size;omega)]
      exact u0.block _ b4
     refine key _ _ ?_
     unfold ranB
     rw [if_pos ⟨IH.out,of_decide_eq_true hd⟩]
     (first|rw [r_N (by assumption)]|rw [r_O (by assumption)])
     (first|rw [n_b (a:=(a_r l0_0 (x.val : Int)).f0) (by assumption)]|rw [n_a (a:=(a_r l0_0 (x.val : Int)).f0) (by assumption)])
     (first|rw [n_b (by assumption),Int.add_zero]|rw [n_a (by assumption)])
 case done =>
  rintro D ys W hD rfl ⟨b0,b1,b2,b3,b4,hB⟩ hK
  have hv : ((List.finRange l0_0.length).map (·.val)).foldl (ranB l0_0 a0_1 a1 a2 a3) 0 = (List.range l0_0.length).foldl (ranB l0_0 a0_1 a1 a2 a3) 0:=by
   congr 1
   apply List.ext_getElem
   ·simp
   intro i h1 h2;simp
  rw [hv] at b0
  have c0 : W.cell? ⟨w1.heap.size,0,none⟩ = some (.int .i64 ((List.range l0_0.length).foldl (ranB l0_0 a0_1 a1 a2 a3) 0)):=(a_b b0 0).trans rfl
  clear b0 b1 b2 b3 hv
  gi_wp2
  refine ⟨by simp,.inl ⟨_,_,rfl,run_takeDeferred hK,?_⟩⟩
  exact ⟨.tuple #[.int .i64 ((List.range l0_0.length).foldl (ranB l0_0 a0_1 a1 a2 a3) 0),.int .i64 0],by simp [results,Tryd.results17,go_sem],rfl,hB.trans (belowK_b (w:=w) (Nat.le_refl _) W D _ _ (by have:=nB.out.size;omega) hK rfl rfl)⟩
 case stop =>
  rintro D c pre W _ _ h _
  exact h.elim
set_option maxHeartbeats 2000000 in
theorem b_M.errs (k : Nat) (A0_0 : Option Addr) (c0_0 : Nat) (l0_0 : List S24) (a0_1 a1 a2 a3 : Int) (e r : Int) (w : World) (hr0_0 : Kd.C k24 w A0_0 l0_0.length l0_0) (hc0_0 : l0_0.length ≤ c0_0) (he : a_x.f k l0_0 a0_1 = some e) (hr : (e ≠ 0 ∧ r = 390) ∨ (e = 0 ∧ (a2 < 0 ∨ 1125899906842624 < a3 ∨ a3 < a2) ∧ r = 2)) :
 Calls Tryd.prog 17 #[.agg #[.slice A0_0 l0_0.length c0_0,.int .i64 a0_1],.int .i64 a1,.int .i64 a2,.int .i64 a3] w fun e w' => e = .returned (.tuple #[.int .i64 0,.int .i64 r]) ∧ Below w.heap.size w w':=by
 have HR:=a_f.mk hr0_0
 have HE:=a_f.mk he
 clear hr0_0 he
 have q2:=a_f.mk (a_d (c_E ((w.alloc (.cells #[.slice A0_0 l0_0.length c0_0,.int .i64 a0_1] 37)).alloc (.cells #[.int .i64 a1] 3)) (.cells #[.int .i64 a2] 2)) (.cells #[.int .i64 a3] 2))
 have q3:=a_f.mk (c_E (((w.alloc (.cells #[.slice A0_0 l0_0.length c0_0,.int .i64 a0_1] 37)).alloc (.cells #[.int .i64 a1] 3)).alloc (.cells #[.int .i64 a2] 2)) (.cells #[.int .i64 a3] 2))
 have qB:=a_f.mk (a_j (a_j (a_j (a_j (Below.refl w.heap.size w) (.cells #[.slice A0_0 l0_0.length c0_0,.int .i64 a0_1] 37)) (.cells #[.int .i64 a1] 3)) (.cells #[.int .i64 a2] 2)) (.cells #[.int .i64 a3] 2))
 simp only [World.size_alloc] at q2 q3
 rcases hr with ⟨h1,rfl⟩ | ⟨rfl,h2,rfl⟩
 ·have g0 : (e != 0) = true:=bne_iff_ne.mpr h1
  clear h1
  go_enter Tryd.func17,Tryd.ntmps17
  go_wp2_with (go_at_call 29;refine (a_x.calls k _ _ l0_0 a0_1 e _ ?s1 hc0_0 HE.out).mono ?_;(case s1 => exact Kd.b_i HR.out qB.out);rintro e w1 ⟨rfl,hb⟩;have HB:=a_f.mk (a_q qB.out hb);clear hb)
  go_ret2
  exact ⟨rfl,HB.out⟩
 have key : ∀ b1 b2 b3 : Bool,decide (a2 < 0) = b1 → decide (1125899906842624 < a3) = b2 → decide (a3 < a2) = b3 → (b1 || b2 || b3) = true → Calls Tryd.prog 17 #[.agg #[.slice A0_0 l0_0.length c0_0,.int .i64 a0_1],.int .i64 a1,.int .i64 a2,.int .i64 a3] w fun e w' => e = .returned (.tuple #[.int .i64 0,.int .i64 2]) ∧ Below w.heap.size w w':=by
  intro b1 b2 b3 g1 g2 g3 hor
  cases b1 <;> cases b2 <;> cases b3 <;> first|(exact absurd hor (by decide))|skip
  all_goals
   clear hor
   go_enter Tryd.func17,Tryd.ntmps17
   go_wp2_with (go_at_call 29;refine (a_x.calls k _ _ l0_0 a0_1 0 _ ?s1 hc0_0 HE.out).mono ?_;(case s1 => exact Kd.b_i HR.out qB.out);rintro e w1 ⟨rfl,hb⟩;have HB:=a_f.mk (a_q qB.out hb);have p2:=a_f.mk (a_l q2.out hb);have p3:=a_f.mk (a_l q3.out hb);clear hb;have r2 : w1.cell? ⟨w.heap.size + 1 + 1,0,none⟩ = some (.int .i64 a2):=(a_b p2.out 0).trans rfl;have r3 : w1.cell? ⟨w.heap.size + 1 + 1 + 1,0,none⟩ = some (.int .i64 a3):=(a_b p3.out 0).trans rfl)
   go_ret2
   exact ⟨rfl,HB.out⟩
 refine key _ _ _ rfl rfl rfl ?_
 simp only [Bool.or_eq_true,decide_eq_true_eq]
 omega
theorem b_M.calls (k : Nat) (A0_0 : Option Addr) (c0_0 : Nat) (l0_0 : List S24) (a0_1 a1 a2 a3 : Int) (r1 r2 : Int) (w : World) (hr0_0 : Kd.C k24 w A0_0 l0_0.length l0_0) (hc0_0 : l0_0.length ≤ c0_0) (h : b_M.f k l0_0 a0_1 a1 a2 a3 = some (r1,r2)) :
 Calls Tryd.prog 17 #[.agg #[.slice A0_0 l0_0.length c0_0,.int .i64 a0_1],.int .i64 a1,.int .i64 a2,.int .i64 a3] w fun e w' => e = .returned (.tuple #[.int .i64 r1,.int .i64 r2]) ∧ Below w.heap.size w w':=by
 obtain ⟨e,he,h⟩:=Option.bind_eq_some_iff.mp h
 by_cases h0 : e = 0
 rotate_left
 ·rw [if_neg h0] at h;cases h
  exact b_M.errs k A0_0 c0_0 l0_0 a0_1 a1 a2 a3 e 390 w hr0_0 hc0_0 he (.inl ⟨h0,rfl⟩)
 rw [if_pos h0] at h
 subst h0
 by_cases h1 : a2 < 0
 ·rw [if_pos h1] at h;cases h
  exact b_M.errs k A0_0 c0_0 l0_0 a0_1 a1 a2 a3 0 2 w hr0_0 hc0_0 he (.inr ⟨rfl,.inl h1,rfl⟩)
 rw [if_neg h1] at h
 by_cases h2 : 1125899906842624 < a3
 ·rw [if_pos h2] at h;cases h
  exact b_M.errs k A0_0 c0_0 l0_0 a0_1 a1 a2 a3 0 2 w hr0_0 hc0_0 he (.inr ⟨rfl,.inr (.inl h2),rfl⟩)
 rw [if_neg h2] at h
 by_cases h3 : a3 < a2
 ·rw [if_pos h3] at h;cases h
  exact b_M.errs k A0_0 c0_0 l0_0 a0_1 a1 a2 a3 0 2 w hr0_0 hc0_0 he (.inr ⟨rfl,.inr (.inr h3),rfl⟩)
 rw [if_neg h3] at h
 by_cases h4 : l0_0.length ≤ 4398046511104 ∧ ∀ m ∈ l0_0,m.f1.length ≤ 1099511627776
 ·rw [if_pos h4] at h;cases h
  exact b_M.sums k A0_0 c0_0 l0_0 a0_1 a1 a2 a3 w hr0_0 hc0_0 he h1 h2 h3 h4.1 h4.2
 rw [if_neg h4] at h;cases h
end
end Go.Proofs.YtgglkfilkagblaaDoor.Q
end
section
namespace Go.Proofs.YtgglkfilkagblaaDoor.Q
open Go.RowKit Go.Proofs.YtgglkfilkagblaaDoorW.PrintWords Go.Proofs.YtgglkfilkagblaaDoorW.PrintLast Go.Proofs.YtgglkfilkagblaaDoorW.PrintMore
set_option linter.unusedVariables false
set_option linter.unusedSimpArgs false
def b_P.f (a0_0 : Int) (a0_1 : Int) (a0_2 : Int) (a0_3 : Int) (a0_4 : Int) (a0_5 : Bool) (a0_6 : Bool) (a0_7 : Int) (a0_8 : Int) (a0_9 : Int) (a0_10 : Int) : Option (Bool):=if a0_5 = true then (if a0_6 = true then (some false) else (if a0_2 = 0 then (some (a0_4 == (-1))) else (some false))) else (some false)
set_option maxHeartbeats 8000000 in
set_option maxRecDepth 100000 in
theorem b_P.calls (a0_0 : Int) (a0_1 : Int) (a0_2 : Int) (a0_3 : Int) (a0_4 : Int) (a0_5 : Bool) (a0_6 : Bool) (a0_7 : Int) (a0_8 : Int) (a0_9 : Int) (a0_10 : Int) (r : Bool) (w : World) (h : b_P.f a0_0 a0_1 a0_2 a0_3 a0_4 a0_5 a0_6 a0_7 a0_8 a0_9 a0_10 = some r) :
 Calls Tryd.prog 24 #[.agg #[.int .i64 a0_0,.int .i64 a0_1,.int .i64 a0_2,.int .i64 a0_3,.int .i64 a0_4,.bool a0_5,.bool a0_6,.int .u32 a0_7,.int .i64 a0_8,.int .i64 a0_9,.int .i64 a0_10]] w fun e w' => e = .returned (.bool r) ∧ Below w.heap.size w w':=by
 have hu33:=Tryd.underlying33
 have HB:=a_f.mk (Below.refl w.heap.size w)
 have H : (if a0_5 = true then (if a0_6 = true then (some false) else (if a0_2 = 0 then (some (a0_4 == (-1))) else (some false))) else (some false)) = some r:=h
 clear h
 by_cases c2 : a0_5 = true
 rotate_left
 ·replace c2:=Bool.eq_false_iff.mpr c2
  subst c2
  have H1 : (some false) = some r:=by rw [if_neg (show ¬ (false = true) by decide)] at H;exact H
  clear H
  have H:=H1
  clear H1
  obtain rfl:=Option.some.inj H
  go_enter Tryd.func24,Tryd.ntmps24
  go_wp2_with (first|((with_reducible refine a_J (N:=1) rfl ?_);refine a_A ?hg (N:=1) ?hd (cs:=#[.int .i64 a0_0,.int .i64 a0_1,.int .i64 a0_2,.int .i64 a0_3,.int .i64 a0_4,.bool false,.bool a0_6,.int .u32 a0_7,.int .i64 a0_8,.int .i64 a0_9,.int .i64 a0_10]) (t:=33) ?hr ?_;(case hd => rfl);(case hg => rfl);(case hr => first|(go_simp;done)|(go_simp;rfl));intro b_7 hg w11 hbox hb;have b_h:=a_f.mk (hbox);have n_r:=a_f.mk ((by rw [hg];exact (a_o (lup_ HB.out)) : w.heap.size ≤ b_7));have h_U:=a_f.mk ((by rw [hg];exact (a_o (lup_ HB.out)) : w.heap.size ≤ b_7));replace HB:=a_f.mk (a_q (lup_ HB.out) hb);clear hb hbox hg;have i_k : w11.cell? ⟨b_7,0,none⟩ = some (.int .i64 a0_0):=(a_b b_h.out 0).trans rfl;have i_l : w11.cell? ⟨b_7,1,none⟩ = some (.int .i64 a0_1):=(a_b b_h.out 1).trans rfl;have k_F : w11.cell? ⟨b_7,2,none⟩ = some (.int .i64 a0_2):=(a_b b_h.out 2).trans rfl;have k_G : w11.cell? ⟨b_7,3,none⟩ = some (.int .i64 a0_3):=(a_b b_h.out 3).trans rfl;have k_H : w11.cell? ⟨b_7,4,none⟩ = some (.int .i64 a0_4):=(a_b b_h.out 4).trans rfl;have k_I : w11.cell? ⟨b_7,5,none⟩ = some (.bool false):=(a_b b_h.out 5).trans rfl;have k_J : w11.cell? ⟨b_7,6,none⟩ = some (.bool a0_6):=(a_b b_h.out 6).trans rfl;have k_K : w11.cell? ⟨b_7,7,none⟩ = some (.int .u32 a0_7):=(a_b b_h.out 7).trans rfl;have k_L : w11.cell? ⟨b_7,8,none⟩ = some (.int .i64 a0_8):=(a_b b_h.out 8).trans rfl;have k_M : w11.cell? ⟨b_7,9,none⟩ = some (.int .i64 a0_9):=(a_b b_h.out 9).trans rfl;have j_I : w11.cell? ⟨b_7,10,none⟩ = some (.int .i64 a0_10):=(a_b b_h.out 10).trans rfl;have i_J:=a_c b_h.out 0;have i_K:=a_c b_h.out 1;have l_f:=a_c b_h.out 2;have l_g:=a_c b_h.out 3;have l_h:=a_c b_h.out 4;have l_i:=a_c b_h.out 5;have l_j:=a_c b_h.out 6;have l_k:=a_c b_h.out 7;have l_l:=a_c b_h.out 8;have l_m:=a_c b_h.out 9;have j_L:=a_c b_h.out 10))
  go_ret
  exact ⟨by first|rfl|(simp [a_u,a_v] <;> rfl)|(simp [*, a_u,a_v] <;> rfl),by repeat (first|(with_reducible first|exact HB.out|apply a_j|apply a_h|apply a_k|refine a_i ?_ h_U.out)|exact HB.out)⟩
 subst c2
 have H1 : (if a0_6 = true then (some false) else (if a0_2 = 0 then (some (a0_4 == (-1))) else (some false))) = some r:=by rw [if_pos rfl] at H;exact H
 clear H
 have H:=H1
 clear H1
 by_cases c3 : a0_6 = true
 ·subst c3
  have H1 : (some false) = some r:=by rw [if_pos rfl] at H;exact H
  clear H
  have H:=H1
  clear H1
  obtain rfl:=Option.some.inj H
  go_enter Tryd.func24,Tryd.ntmps24
  go_wp2_with (first|((with_reducible refine a_J (N:=1) rfl ?_);refine a_A ?hg (N:=1) ?hd (cs:=#[.int .i64 a0_0,.int .i64 a0_1,.int .i64 a0_2,.int .i64 a0_3,.int .i64 a0_4,.bool true,.bool true,.int .u32 a0_7,.int .i64 a0_8,.int .i64 a0_9,.int .i64 a0_10]) (t:=33) ?hr ?_;(case hd => rfl);(case hg => rfl);(case hr => first|(go_simp;done)|(go_simp;rfl));intro b_7 hg w4 hbox hb;have b_h:=a_f.mk (hbox);have n_r:=a_f.mk ((by rw [hg];exact (a_o (lup_ HB.out)) : w.heap.size ≤ b_7));have h_U:=a_f.mk ((by rw [hg];exact (a_o (lup_ HB.out)) : w.heap.size ≤ b_7));replace HB:=a_f.mk (a_q (lup_ HB.out) hb);clear hb hbox hg;have f_x : w4.cell? ⟨b_7,0,none⟩ = some (.int .i64 a0_0):=(a_b b_h.out 0).trans rfl;have f_y : w4.cell? ⟨b_7,1,none⟩ = some (.int .i64 a0_1):=(a_b b_h.out 1).trans rfl;have y_i : w4.cell? ⟨b_7,2,none⟩ = some (.int .i64 a0_2):=(a_b b_h.out 2).trans rfl;have y_j : w4.cell? ⟨b_7,3,none⟩ = some (.int .i64 a0_3):=(a_b b_h.out 3).trans rfl;have y_k : w4.cell? ⟨b_7,4,none⟩ = some (.int .i64 a0_4):=(a_b b_h.out 4).trans rfl;have y_l : w4.cell? ⟨b_7,5,none⟩ = some (.bool true):=(a_b b_h.out 5).trans rfl;have y_m : w4.cell? ⟨b_7,6,none⟩ = some (.bool true):=(a_b b_h.out 6).trans rfl;have y_n : w4.cell? ⟨b_7,7,none⟩ = some (.int .u32 a0_7):=(a_b b_h.out 7).trans rfl;have y_o : w4.cell? ⟨b_7,8,none⟩ = some (.int .i64 a0_8):=(a_b b_h.out 8).trans rfl;have y_p : w4.cell? ⟨b_7,9,none⟩ = some (.int .i64 a0_9):=(a_b b_h.out 9).trans rfl;have u_O : w4.cell? ⟨b_7,10,none⟩ = some (.int .i64 a0_10):=(a_b b_h.out 10).trans rfl;have f_B:=a_c b_h.out 0;have f_C:=a_c b_h.out 1;have y_y:=a_c b_h.out 2;have y_z:=a_c b_h.out 3;have y_A:=a_c b_h.out 4;have y_B:=a_c b_h.out 5;have y_C:=a_c b_h.out 6;have y_D:=a_c b_h.out 7;have y_E:=a_c b_h.out 8;have y_F:=a_c b_h.out 9;have x_j:=a_c b_h.out 10))
  go_ret
  exact ⟨by first|rfl|(simp [a_u,a_v] <;> rfl)|(simp [*, a_u,a_v] <;> rfl),by repeat (first|(with_reducible first|exact HB.out|apply a_j|apply a_h|apply a_k|refine a_i ?_ h_U.out)|exact HB.out)⟩
 replace c3:=Bool.eq_false_iff.mpr c3
 subst c3
 have H1 : (if a0_2 = 0 then (some (a0_4 == (-1))) else (some false)) = some r:=by rw [if_neg (show ¬ (false = true) by decide)] at H;exact H
 clear H
 have H:=H1
 clear H1
 by_cases c6 : a0_2 = 0
 ·rw [if_pos c6] at H
  have c6b0 : (a0_2 == 0) = true:=beq_iff_eq.mpr c6
  have c6b1 : (a0_2 != 0) = false:=bne_eq_false_iff_eq.mpr c6
  clear c6
  obtain rfl:=Option.some.inj H
  go_enter Tryd.func24,Tryd.ntmps24
  go_wp2_with (first|((with_reducible refine a_J (N:=1) rfl ?_);refine a_A ?hg (N:=1) ?hd (cs:=#[.int .i64 a0_0,.int .i64 a0_1,.int .i64 a0_2,.int .i64 a0_3,.int .i64 a0_4,.bool true,.bool false,.int .u32 a0_7,.int .i64 a0_8,.int .i64 a0_9,.int .i64 a0_10]) (t:=33) ?hr ?_;(case hd => rfl);(case hg => rfl);(case hr => first|(go_simp;done)|(go_simp;rfl));intro b_7 hg w7 hbox hb;have b_h:=a_f.mk (hbox);have n_r:=a_f.mk ((by rw [hg];exact (a_o (lup_ HB.out)) : w.heap.size ≤ b_7));have h_U:=a_f.mk ((by rw [hg];exact (a_o (lup_ HB.out)) : w.heap.size ≤ b_7));replace HB:=a_f.mk (a_q (lup_ HB.out) hb);clear hb hbox hg;have g_P : w7.cell? ⟨b_7,0,none⟩ = some (.int .i64 a0_0):=(a_b b_h.out 0).trans rfl;have g_Q : w7.cell? ⟨b_7,1,none⟩ = some (.int .i64 a0_1):=(a_b b_h.out 1).trans rfl;have y_q : w7.cell? ⟨b_7,2,none⟩ = some (.int .i64 a0_2):=(a_b b_h.out 2).trans rfl;have y_r : w7.cell? ⟨b_7,3,none⟩ = some (.int .i64 a0_3):=(a_b b_h.out 3).trans rfl;have y_s : w7.cell? ⟨b_7,4,none⟩ = some (.int .i64 a0_4):=(a_b b_h.out 4).trans rfl;have y_t : w7.cell? ⟨b_7,5,none⟩ = some (.bool true):=(a_b b_h.out 5).trans rfl;have y_u : w7.cell? ⟨b_7,6,none⟩ = some (.bool false):=(a_b b_h.out 6).trans rfl;have y_v : w7.cell? ⟨b_7,7,none⟩ = some (.int .u32 a0_7):=(a_b b_h.out 7).trans rfl;have y_w : w7.cell? ⟨b_7,8,none⟩ = some (.int .i64 a0_8):=(a_b b_h.out 8).trans rfl;have y_x : w7.cell? ⟨b_7,9,none⟩ = some (.int .i64 a0_9):=(a_b b_h.out 9).trans rfl;have v_p : w7.cell? ⟨b_7,10,none⟩ = some (.int .i64 a0_10):=(a_b b_h.out 10).trans rfl;have g_R:=a_c b_h.out 0;have g_S:=a_c b_h.out 1;have y_G:=a_c b_h.out 2;have y_H:=a_c b_h.out 3;have y_I:=a_c b_h.out 4;have y_J:=a_c b_h.out 5;have y_K:=a_c b_h.out 6;have y_L:=a_c b_h.out 7;have y_M:=a_c b_h.out 8;have y_N:=a_c b_h.out 9;have x_U:=a_c b_h.out 10))
  go_ret
  exact ⟨by first|rfl|(simp [a_u,a_v] <;> rfl)|(simp [*, a_u,a_v] <;> rfl),by repeat (first|(with_reducible first|exact HB.out|apply a_j|apply a_h|apply a_k|refine a_i ?_ h_U.out)|exact HB.out)⟩
 rw [if_neg c6] at H
 have c6b0 : (a0_2 == 0) = false:=beq_eq_false_iff_ne.mpr c6
 have c6b1 : (a0_2 != 0) = true:=bne_iff_ne.mpr c6
 obtain rfl:=Option.some.inj H
 go_enter Tryd.func24,Tryd.ntmps24
 go_wp2_with (first|((with_reducible refine a_J (N:=1) rfl ?_);refine a_A ?hg (N:=1) ?hd (cs:=#[.int .i64 a0_0,.int .i64 a0_1,.int .i64 a0_2,.int .i64 a0_3,.int .i64 a0_4,.bool true,.bool false,.int .u32 a0_7,.int .i64 a0_8,.int .i64 a0_9,.int .i64 a0_10]) (t:=33) ?hr ?_;(case hd => rfl);(case hg => rfl);(case hr => first|(go_simp;done)|(go_simp;rfl));intro b_7 hg w9 hbox hb;have b_h:=a_f.mk (hbox);have n_r:=a_f.mk ((by rw [hg];exact (a_o (lup_ HB.out)) : w.heap.size ≤ b_7));have h_U:=a_f.mk ((by rw [hg];exact (a_o (lup_ HB.out)) : w.heap.size ≤ b_7));replace HB:=a_f.mk (a_q (lup_ HB.out) hb);clear hb hbox hg;have i_i : w9.cell? ⟨b_7,0,none⟩ = some (.int .i64 a0_0):=(a_b b_h.out 0).trans rfl;have i_j : w9.cell? ⟨b_7,1,none⟩ = some (.int .i64 a0_1):=(a_b b_h.out 1).trans rfl;have s_U : w9.cell? ⟨b_7,2,none⟩ = some (.int .i64 a0_2):=(a_b b_h.out 2).trans rfl;have s_V : w9.cell? ⟨b_7,3,none⟩ = some (.int .i64 a0_3):=(a_b b_h.out 3).trans rfl;have s_W : w9.cell? ⟨b_7,4,none⟩ = some (.int .i64 a0_4):=(a_b b_h.out 4).trans rfl;have s_X : w9.cell? ⟨b_7,5,none⟩ = some (.bool true):=(a_b b_h.out 5).trans rfl;have s_Y : w9.cell? ⟨b_7,6,none⟩ = some (.bool false):=(a_b b_h.out 6).trans rfl;have s_Z : w9.cell? ⟨b_7,7,none⟩ = some (.int .u32 a0_7):=(a_b b_h.out 7).trans rfl;have s_0 : w9.cell? ⟨b_7,8,none⟩ = some (.int .i64 a0_8):=(a_b b_h.out 8).trans rfl;have s_1 : w9.cell? ⟨b_7,9,none⟩ = some (.int .i64 a0_9):=(a_b b_h.out 9).trans rfl;have r_Y : w9.cell? ⟨b_7,10,none⟩ = some (.int .i64 a0_10):=(a_b b_h.out 10).trans rfl;have i_H:=a_c b_h.out 0;have i_I:=a_c b_h.out 1;have v_q:=a_c b_h.out 2;have v_r:=a_c b_h.out 3;have v_s:=a_c b_h.out 4;have v_t:=a_c b_h.out 5;have v_u:=a_c b_h.out 6;have v_v:=a_c b_h.out 7;have v_w:=a_c b_h.out 8;have v_x:=a_c b_h.out 9;have s_g:=a_c b_h.out 10))
 go_ret
 exact ⟨by first|rfl|(simp [a_u,a_v] <;> rfl)|(simp [*, a_u,a_v] <;> rfl),by repeat (first|(with_reducible first|exact HB.out|apply a_j|apply a_h|apply a_k|refine a_i ?_ h_U.out)|exact HB.out)⟩
end Go.Proofs.YtgglkfilkagblaaDoor.Q
end
section
namespace Go.Proofs.YtgglkfilkagblaaDoor.Q
open Go.RowKit Go.Proofs.YtgglkfilkagblaaDoorW.PrintWords Go.Proofs.YtgglkfilkagblaaDoorW.PrintLast Go.Proofs.YtgglkfilkagblaaDoorW.PrintMore
set_option linter.unusedVariables false
set_option linter.unusedSimpArgs false
section
attribute [local go_sem] Oper.semAt_some
def j_X (x : S33) : Bool:=x.f5 && !x.f6 && x.f2 == 0 && x.f4 == -1
theorem m_R (x : S33) : b_P.f x.f0 x.f1 x.f2 x.f3 x.f4 x.f5 x.f6 x.f7 x.f8 x.f9 x.f10 = some (j_X x):=by
 unfold b_P.f j_X
 cases x.f5 <;> cases x.f6 <;> simp
 by_cases h : x.f2 = 0 <;> simp [h]
def c_Q (xs : List S24) (en v : Int) (acc : List S49) (j : Nat) : List S49 :=
 if (a_L (a_r xs (j : Int)).f1 v).2 = true ∧ j_X (a_L (a_r xs (j : Int)).f1 v).1 = true ∧ (a_r xs (j : Int)).f0 ≠ c_e xs en j then
  (if 0 < acc.length ∧ (acc.getD (acc.length - 1) z49).f1 = (a_r xs (j : Int)).f0 then acc.set (acc.length - 1) ⟨(acc.getD (acc.length - 1) z49).f0,c_e xs en j⟩
  else acc ++ [⟨(a_r xs (j : Int)).f0,c_e xs en j⟩]) else acc
theorem l_6 (xs : List S24) (en v : Int) (js : List Nat) (acc : List S49) : (js.foldl (c_Q xs en v) acc).length ≤ acc.length + js.length:=by
 induction js generalizing acc with
 | nil => simp
 | cons j js ih =>
  have:=ih (c_Q xs en v acc j)
  have h : (c_Q xs en v acc j).length ≤ acc.length + 1:=by unfold c_Q;split <;> (try split) <;> simp
  simp only [List.foldl_cons,List.length_cons];omega
def b_u.f (k : Nat) (l0_0 : List S24) (a0_1 a1 : Int) : Option (List S49 × Int):=(a_x.f k l0_0 a0_1).bind fun e => if e = 0 then (if l0_0.length ≤ 4398046511104 ∧ ∀ m ∈ l0_0,m.f1.length ≤ 1099511627776 then some ((List.range l0_0.length).foldl (c_Q l0_0 a0_1 a1) [],0) else none) else some ([],e)
theorem b_u.mono : ∀ a0 a1 a2 k,LeO (b_u.f k a0 a1 a2) (b_u.f (k + 1) a0 a1 a2):=fun a0 a1 a2 k => LeO.bind (a_x.mono _ _ _) (fun _ => LeO.refl _)
def d_3 (l : List S49) : List Value:=l.flatMap fun s => [.int .i64 s.f0,.int .i64 s.f1]
theorem h_J (l : List S49) : (d_3 l).length = l.length * 2:=by
 induction l with
 | nil => rfl
 | cons s l ih => simp only [d_3,List.flatMap_cons,List.length_append,List.length_cons,List.length_nil] at ih ⊢; omega
theorem h_H (a b : List S49) : d_3 (a ++ b) = d_3 a ++ d_3 b:=List.flatMap_append
theorem h_I (l : List S49) (i : Nat) (h : i < l.length) : (d_3 l)[i * 2]? = some (.int .i64 (l.getD i z49).f0) ∧ (d_3 l)[i * 2 + 1]? = some (.int .i64 (l.getD i z49).f1):=by
 induction l generalizing i with
 | nil => simp at h
 | cons s l ih =>
  cases i with
  | zero => exact ⟨rfl,rfl⟩
  | succ i =>
   have:=ih i (by simpa using h)
   have e : d_3 (s :: l) = [.int .i64 s.f0,.int .i64 s.f1] ++ d_3 l:=rfl
   rw [e,List.getElem?_append_right (by simp;omega),List.getElem?_append_right (by simp;omega),List.getD_cons_succ]
   simp only [List.length_cons,List.length_nil]
   rw [show (i + 1) * 2 - (0 + 1 + 1) = i * 2 by omega,show (i + 1) * 2 + 1 - (0 + 1 + 1) = i * 2 + 1 by omega]
   exact this
theorem k_B (l : List S49) (i : Nat) (h : i < l.length) (u : Int) : (d_3 l).set (i * 2 + 1) (.int .i64 u) = d_3 (l.set i ⟨(l.getD i z49).f0,u⟩):=by
 induction l generalizing i with
 | nil => simp at h
 | cons s l ih =>
  cases i with
  | zero => rfl
  | succ i =>
   have:=ih i (by simpa using h)
   have e : d_3 (s :: l) = .int .i64 s.f0 :: .int .i64 s.f1 :: d_3 l:=rfl
   rw [e,show (i + 1) * 2 + 1 = (i * 2 + 1) + 1 + 1 by omega,List.set_cons_succ,List.set_cons_succ,this]
   rfl
theorem f_T {W W' : World} {base n : Nat} {e : TypeId} {size : Nat} {v : Value} {xs : List Value} (h : W.ownsRow base e size v n xs) (hb : Below W.heap.size W W') : W'.ownsRow base e size v n xs :=
 h.kept (row:=none) ⟨hb.os,hb.tape,hb.output,hb.size,fun k hk _ => hb.block k hk⟩ (by rcases h.2 with ⟨rfl,_⟩ | ⟨g,cap,cur,rfl,_⟩;exact .inl rfl;exact .inr (by simp [Value.ownBlock]))
theorem q_X {W : World} {base n g cap : Nat} {e : TypeId} {size : Nat} {xs : List Value} (h : W.ownsRow base e size (.slice (some ⟨g,0,none⟩) n cap) n xs) (i : Nat) (hi : i < n * size) (u : Value) : (W.setCell ⟨g,i,none⟩ u).ownsRow base e size (.slice (some ⟨g,0,none⟩) n cap) n (xs.set i u):=by
 obtain ⟨h1,h2⟩:=h
 rcases h2 with ⟨h2,_⟩ | ⟨g',cap',cur,h2,h3,h4,h5,h6,h7,h8⟩
 ·cases h2
 cases h2
 refine ⟨by simpa using h1,.inr ⟨g,cap,cur.setIfInBounds i u,rfl,h3,i_f h4 i u,h5,h6,by simpa using h7,?_⟩⟩
 rw [Array.toList_setIfInBounds,List.take_set,h8]
theorem j_P {W : World} {base n g cap : Nat} {e : TypeId} {size : Nat} {xs : List Value} (h : W.ownsRow base e size (.slice (some ⟨g,0,none⟩) n cap) n xs) (i : Nat) (hi : i < n * size) : W.cell? ⟨g,i,none⟩ = xs[i]? ∧ W.frozen? ⟨g,i,none⟩ = false ∧ base ≤ g ∧ n ≤ cap:=by
 obtain ⟨h1,h2⟩:=h
 rcases h2 with ⟨h2,_⟩ | ⟨g',cap',cur,h2,h3,h4,h5,h6,h7,h8⟩
 ·cases h2
 cases h2
 refine ⟨(a_b h4 i).trans ?_,a_c h4 i,h3,h5⟩
 rw [← h8,List.getElem?_take_of_lt hi]
 simp
theorem l_W {W : World} {B t : Nat} {cs : Array Value} (h : W.heap[B]? = some (.cells cs t (0,0))) {e : TypeId} (hte : t ≠ e) {base size k : Nat} {v : Value} {xs : List Value} (hr : W.ownsRow base e size v k xs) : some B ≠ v.ownBlock:=by
 rcases hr.2 with ⟨rfl,_⟩ | ⟨g,cap,cur,rfl,_,hgb,_⟩
 ·simp [Value.ownBlock]
 intro e'
 obtain rfl : B = g:=by simpa [Value.ownBlock] using e'
 have:=h.symm.trans hgb
 simp at this
 exact hte this.2
theorem r_P {W : World} {base : Nat} {v : Value} {xs : List S49} (h : W.ownsRow base 49 2 v xs.length (d_3 xs)) : Kd.R k49 49 W base (fun _ => True) v xs :=
 ⟨fun _ _ => trivial,d_3 xs,h,(h_J xs).trans rfl,fun j p hj => by
  obtain ⟨hj',rfl⟩:=List.getElem?_eq_some_iff.mp hj
  have h2:=h_I xs j hj'
  have e : ((d_3 xs).drop (j * 2)).take 2 = [.int .i64 xs[j].f0,.int .i64 xs[j].f1]:=by
   have g : xs.getD j z49 = xs[j]:=by simp [List.getD,hj']
   rw [g] at h2
   apply List.ext_getElem?
   intro i
   rcases i with _|_|i
   ·simpa [List.getElem?_take,List.getElem?_drop] using h2.1
   ·simpa [List.getElem?_take,List.getElem?_drop] using h2.2
   ·simp;omega
  show k49.M W base _ _ (((d_3 xs).drop (j * 2)).take 2)
  rw [e];exact q_U _ _ _ _⟩
structure e_1 (w w1 : World) (a1 : Int) (acc : List S49) (W : World) : Prop where
 v : ∃ v,W.heap[w1.heap.size]? = some (.cells #[v] 45 (0,0)) ∧ W.ownsRow w.heap.size 49 2 v acc.length (d_3 acc)
 b1 : W.heap[w.heap.size + 1]? = some (.cells #[.int .i64 a1] 3 (0,0))
 b4 : w1.heap.size + 1 < W.heap.size
 ga : ∃ cs,W.heap[w1.heap.size + 1]? = some (.cells cs 37 (0,0))
 below : Below w.heap.size w W
theorem e_1.bel {w w1 W W' : World} {a1 : Int} {acc : List S49} (h : e_1 w w1 a1 acc W) (u : Below W.heap.size W W') : e_1 w w1 a1 acc W':=by
 obtain ⟨⟨v,h1,h2⟩,h3,h4,⟨cs,h5⟩,h6⟩:=h
 exact ⟨⟨v,a_l h1 u,f_T h2 u⟩,a_l h3 u,Nat.lt_of_lt_of_le h4 u.size,⟨cs,a_l h5 u⟩,h6.trans (u.mono h6.size)⟩
theorem l_3 (W : World) (a b : Value) (t : TypeId) : ∀ j u,[a,b][j]? = some u → (W.alloc (.cells #[a,b] t)).cell? ((⟨W.heap.size,0,none⟩ : Addr).add j) = some u:=by
 intro j u hj
 rcases j with _|_|j
 ·cases hj;exact (a_b (c_E W (.cells #[a,b] t)) 0).trans rfl
 ·cases hj;exact (a_b (c_E W (.cells #[a,b] t)) 1).trans rfl
 simp at hj
structure s_O (A : Act) (W' : World) (e : Exit) (a : Act) (w : World) : Prop where
 e : e = .normal
 a : a = A
 w : w = W'
theorem j_0 {F : Fence} {n : Nat} {P : Program} {c : Code} {Q : Exit → Act → World → Prop} {a : Act} {w : World} (h : ∃ A W',c.wpIn F n P (s_O A W') a w ∧ Q .normal A W') : c.wpIn F n P Q a w:=by
 obtain ⟨A,W',h1,h2⟩:=h
 exact wpIn_mono h1 (by rintro e a w ⟨rfl,rfl,rfl⟩;exact h2)
theorem k_a (l : List S49) (f t : Int) : d_3 (l ++ [⟨f,t⟩]) = d_3 l ++ [.int .i64 f,.int .i64 t]:=h_H l [⟨f,t⟩]
theorem j_W {w w1 W w4 w5 : World} {a1 : Int} {acc : List S49} (iI : e_1 w w1 a1 acc W) (hw : w.heap.size ≤ w1.heap.size) (u : Below W.heap.size W w4) {v v' : Value} (bv : W.heap[w1.heap.size]? = some (.cells #[v] 45 (0,0))) {n : Nat} (hn : acc.length = n) (hr : W.ownsRow w.heap.size 49 2 v n (d_3 acc)) {f t : Int} {tmp : Obj}
 (hown' : w5.ownsRow w.heap.size 49 2 v' (n + 1) (d_3 acc ++ [.int .i64 f,.int .i64 t])) (hgrow : (w4.alloc tmp).grownBy w5 v.ownBlock) :
 (w5.cell? ⟨w1.heap.size,0,none⟩ = some v ∧ w5.frozen? ⟨w1.heap.size,0,none⟩ = false) ∧ (∀ B,KeepsFrom B W (w5.setCell ⟨w1.heap.size,0,none⟩ v')) ∧ KpB w.heap.size (w1.heap.size + 1) W (w5.setCell ⟨w1.heap.size,0,none⟩ v') ∧ e_1 w w1 a1 (acc ++ [⟨f,t⟩]) (w5.setCell ⟨w1.heap.size,0,none⟩ v'):=by
 subst hn
 obtain ⟨_,b1,b4,⟨cs,ga⟩,hB⟩:=iI
 have hb4 : Boxed w4 w1.heap.size 45 v:=a_l bv u
 have hr4:=f_T hr u
 obtain ⟨h1,h2,h3,h4,h5⟩:=hb4.appended (n₀:=w.heap.size) (by decide) hr4 (Nat.le_trans hB.size u.size) hw hown' hgrow
 have hB5 : Below w.heap.size W (w5.setCell ⟨w1.heap.size,0,none⟩ v'):=(u.mono hB.size).trans h5
 have far : ∀ {k : Nat} {cs : Array Value} {t : TypeId}, W.heap[k]? = some (.cells cs t (0,0)) → t ≠ 49 → k ≠ w1.heap.size → (w5.setCell ⟨w1.heap.size,0,none⟩ v').heap[k]? = some (.cells cs t (0,0)):=fun {k cs t} hk ht hne => by
  have k4:=a_l hk u
  rw [Below.heap_setCell _ _ _ _ hne,hgrow.block _ (by have:=a_B k4;simp only [World.size_alloc];omega) (l_W k4 ht hr4)]
  exact a_d k4 _
 refine ⟨⟨h1.cell,h1.frozen⟩,fun B => (b_A u).trans (h4.from B),⟨hB5,(far ga (by decide) (by omega)).trans ga.symm⟩,⟨⟨v',h2,by rw [k_a,List.length_append];exact h3⟩,far b1 (by decide) ?_,Nat.lt_of_lt_of_le b4 hB5.size,⟨cs,far ga (by decide) (by omega)⟩,hB.trans hB5⟩⟩
 intro e
 rw [e] at b1
 rw [bv] at b1
 simp at b1
theorem m_Q {w w1 W w4 : World} {a1 : Int} {acc : List S49} (iI : e_1 w w1 a1 acc W) (hw : w.heap.size ≤ w1.heap.size) (u : Below W.heap.size W w4) {g cap m : Nat} (bv : W.heap[w1.heap.size]? = some (.cells #[.slice (some ⟨g,0,none⟩) (m + 1) cap] 45 (0,0))) (hr : W.ownsRow w.heap.size 49 2 (.slice (some ⟨g,0,none⟩) (m + 1) cap) (m + 1) (d_3 acc)) (hm : acc.length = m + 1) (t : Int) :
 (∀ B,KeepsFrom B W (w4.setCell ⟨g,m * 2 + 1,none⟩ (.int .i64 t))) ∧ KpB w.heap.size (w1.heap.size + 1) W (w4.setCell ⟨g,m * 2 + 1,none⟩ (.int .i64 t)) ∧ e_1 w w1 a1 (acc.set m ⟨(acc.getD m z49).f0,t⟩) (w4.setCell ⟨g,m * 2 + 1,none⟩ (.int .i64 t)):=by
 obtain ⟨_,b1,b4,⟨cs,ga⟩,hB⟩:=iI
 have hr4:=f_T hr u
 obtain ⟨_,_,hg,_⟩:=j_P hr (m * 2 + 1) (by omega)
 have hB5 : Below w.heap.size W (w4.setCell ⟨g,m * 2 + 1,none⟩ (.int .i64 t)):=(u.mono hB.size).setCell (p:=⟨g,_,none⟩) hg _
 have far : ∀ {k : Nat} {cs : Array Value} {ty : TypeId}, W.heap[k]? = some (.cells cs ty (0,0)) → ty ≠ 49 → (w4.setCell ⟨g,m * 2 + 1,none⟩ (.int .i64 t)).heap[k]? = some (.cells cs ty (0,0)):=fun {k cs ty} hk ht => by
  have k4:=a_l hk u
  rw [Below.heap_setCell _ _ _ _ (fun e => l_W k4 ht hr4 (by rw [e];rfl))]
  exact k4
 refine ⟨fun B => (b_A u).trans ((KeepsOthers.setCell _ _ _).from B),⟨hB5,(far ga (by decide)).trans ga.symm⟩,⟨⟨_,far bv (by decide),?_⟩,far b1 (by decide),Nat.lt_of_lt_of_le b4 hB5.size,⟨cs,far ga (by decide)⟩,hB.trans hB5⟩⟩
 rw [← k_B acc m (by omega) t,List.length_set,hm]
 exact q_X hr4 _ (by omega) _
set_option maxRecDepth 100000 in
set_option maxHeartbeats 12000000 in
theorem b_u.sums (k : Nat) (A0_0 : Option Addr) (c0_0 : Nat) (l0_0 : List S24) (a0_1 a1 : Int) (w : World) (hr0_0 : Kd.C k24 w A0_0 l0_0.length l0_0) (hc0_0 : l0_0.length ≤ c0_0) (he : a_x.f k l0_0 a0_1 = some 0) (hl : l0_0.length ≤ 4398046511104) (hm : ∀ m ∈ l0_0,m.f1.length ≤ 1099511627776) :
 Calls Tryd.prog 18 #[.agg #[.slice A0_0 l0_0.length c0_0,.int .i64 a0_1],.int .i64 a1] w fun e w' => ∃ v0_ : Value,e = .returned (.tuple #[v0_,.int .i64 0]) ∧ Kd.R k49 49 w' w.heap.size (fun _ => True) v0_ ((List.range l0_0.length).foldl (c_Q l0_0 a0_1 a1) []) ∧ Below w.heap.size w w':=by
 have HR:=a_f.mk hr0_0
 have HE:=a_f.mk he
 have HM:=a_f.mk hm
 clear hr0_0 he hm
 have q0:=a_f.mk (a_d (c_E w (.cells #[.slice A0_0 l0_0.length c0_0,.int .i64 a0_1] 37)) (.cells #[.int .i64 a1] 3))
 have q1:=a_f.mk (c_E (w.alloc (.cells #[.slice A0_0 l0_0.length c0_0,.int .i64 a0_1] 37)) (.cells #[.int .i64 a1] 3))
 have qB:=a_f.mk (a_j (a_j (Below.refl w.heap.size w) (.cells #[.slice A0_0 l0_0.length c0_0,.int .i64 a0_1] 37)) (.cells #[.int .i64 a1] 3))
 simp only [World.size_alloc] at q0 q1
 refine (callsIn_wide (n:=9)).1 ?_
 refine callsIn_of_wp_marks Tryd.func18 rfl trivial ?_ rfl
 simp only [Tryd.ntmps18,List.size_toArray,List.length_cons,List.length_nil,Nat.reduceAdd,Nat.reduceSub,Array.replicate_succ,Array.replicate_zero,List.push_toArray,List.append_toArray,List.nil_append,List.cons_append]
 gi_wp2_with (first
  | (refine ⟨trivial,?_⟩;gi_at_call 29;refine (callsIn_wide.2 (a_x.calls k _ _ l0_0 a0_1 0 _ ?s1 hc0_0 HE.out)).mono ?_;(case s1 => exact Kd.b_i HR.out qB.out);rintro e w1 ⟨rfl,hb⟩;have HB:=a_f.mk (a_q qB.out hb);have p0:=a_f.mk (a_l q0.out hb);have p1:=a_f.mk (a_l q1.out hb);clear hb;have r0 : w1.cell? ⟨w.heap.size,0,none⟩ = some (.slice A0_0 l0_0.length c0_0):=(a_b p0.out 0).trans rfl;have r1 : w1.cell? ⟨w.heap.size,1,none⟩ = some (.int .i64 a0_1):=(a_b p0.out 1).trans rfl;have z0:=a_B p0.out;have z1:=a_B p1.out)
  | (refine ⟨trivial,?_⟩;gi_at_call 31;refine (callsIn_wide.2 (h_D.calls _ _ _ _ _)).mono ?_;rintro e w' ⟨rfl,rfl⟩))
 have n0:=a_f.mk (a_d (c_E w1 (.cells #[.slice none 0 0] 45)) (.cells #[.slice A0_0 l0_0.length c0_0,.int .i64 a0_1] 37))
 have n1:=a_f.mk (c_E (w1.alloc (.cells #[.slice none 0 0] 45)) (.cells #[.slice A0_0 l0_0.length c0_0,.int .i64 a0_1] 37))
 have n2:=a_f.mk (a_d (a_d p1.out (.cells #[.slice none 0 0] 45)) (.cells #[.slice A0_0 l0_0.length c0_0,.int .i64 a0_1] 37))
 have nB:=a_f.mk (a_j (a_j HB.out (.cells #[.slice none 0 0] 45)) (.cells #[.slice A0_0 l0_0.length c0_0,.int .i64 a0_1] 37))
 have hsz:=a_f.mk (show ((w1.alloc (.cells #[.slice none 0 0] 45)).alloc (.cells #[.slice A0_0 l0_0.length c0_0,.int .i64 a0_1] 37)).heap.size = w1.heap.size + 1 + 1 by simp)
 simp only [World.size_alloc] at n0 n1 n2
 have hws:=HB.out.size
 clear q0 q1 p0 p1 r0 r1 qB HB
 obtain ⟨W2,hW2⟩ : ∃ W2,(w1.alloc (.cells #[.slice none 0 0] 45)).alloc (.cells #[.slice A0_0 l0_0.length c0_0,.int .i64 a0_1] 37) = W2:=⟨_,rfl⟩
 rw [hW2] at n0 n1 n2 nB hsz ⊢
 clear hW2
 obtain ⟨ad,am,cm,hA,hMs⟩ : ∃ ad am cm,(0 < l0_0.length → A0_0 = some ad) ∧ f_X l0_0 ad am cm w:=by
  by_cases h : 0 < l0_0.length
  ·obtain ⟨ad,am,cm,e,hm⟩:=h_M HR.out h
   exact ⟨ad,am,cm,fun _ => e,hm⟩
  exact ⟨⟨0,0,none⟩,fun _ => none,fun _ => 0,fun h' => absurd h' h,fun j hj => absurd (Nat.lt_of_le_of_lt (Nat.zero_le _) hj) h⟩
 have HMS:=a_f.mk hMs
 have hAA:=a_f.mk hA
 clear hMs hA
 refine wpIn_rangeFunc_ownH rfl (by omega) (gf:=41) (lb:=#[.pointer (some ⟨w1.heap.size + 1,0,none⟩)]) rfl trivial (enters_of Tryd.func41 (by kernel_rfl) rfl)
  (encs:=fun x : Fin l0_0.length => #[momV l0_0 am cm x.val,.agg #[.int .i64 (a_r l0_0 (x.val : Int)).f0,.int .i64 (c_e l0_0 a0_1 x.val)]]) (Kp:=KpB w.heap.size (w1.heap.size + 1)) (S:=fun ys => ys = List.finRange l0_0.length) (Sp:=fun _ => True) (N:=l0_0.length) (w0:=W2)
  (fun l J Jx W hW hJ hJx hY h0 => f_v 8 (by omega) l (w1.heap.size + 1) w.heap.size A0_0 ad c0_0 l0_0 a0_1 hl am cm J Jx hY w W hJ rfl (nB.out.trans (hW.mono nB.out.size)) hAA.out ((hW.block _ (a_B n1.out)).trans n1.out) HMS.out hc0_0 HR.out h0)
  (fun h k => ⟨h.1.trans k.1,k.2.trans h.2⟩) (fun W l o o' hl' hh hc hk => ⟨belowK_b (w:=W2) nB.out.size W l o o' hl' hh hc hk,(grownBy_putObj' W l o').block _ (by have:=a_B hh;have:=hsz.out;omega) (by intro e;cases e;have:=hsz.out;omega)⟩) (Below.refl _ _) (fun _ => rfl)
  (fun pre W => e_1 w w1 a1 ((pre.map (·.val)).foldl (c_Q l0_0 a0_1 a1) []) W)
  (fun _ _ _ => False)
  (fun s A B row hs hg hr => by
   obtain ⟨⟨v,h1,h2⟩,h3,h4,⟨cs,h5⟩,h6⟩:=hs
   exact ⟨⟨v,e_m h1 hg hr,h2.kept hg (by
    rcases h2.2 with ⟨rfl,_⟩ | ⟨g,cap,cur,rfl,_,hgb,_⟩
    ·exact .inl rfl
    ·refine .inr fun e' => ?_
     obtain ⟨_,o,ho,hc⟩:=hr g (by simpa [Value.ownBlock] using e'.symm)
     rw [hgb] at ho;cases ho;cases hc)⟩,e_m h3 hg hr,Nat.lt_of_lt_of_le h4 hg.size,⟨cs,e_m h5 hg hr⟩,h6.grown hg h6.size (fun k e => Nat.le_trans nB.out.size (hr k e).1)⟩)
  (fun _ _ _ _ _ hs _ _ => hs)
  ⟨⟨_,n0.out,j_v _ _ _ _⟩,n2.out,by have:=hsz.out;omega,⟨_,n1.out⟩,nB.out⟩
  (fun x a' W => ∃ Bm Bs : Nat,W.heap[Bm]? = some (.cells #[.int .i64 (a_r l0_0 (x.val : Int)).f0,.slice (am x.val) (a_r l0_0 (x.val : Int)).f1.length (cm x.val)] 24 (0,0)) ∧ W.heap[Bs]? = some (.cells #[.int .i64 (a_r l0_0 (x.val : Int)).f0,.int .i64 (c_e l0_0 a0_1 x.val)] 49 (0,0)) ∧ a' = { tmps:=#[.agg #[.slice A0_0 l0_0.length c0_0,.int .i64 a0_1],.int .i64 a1,.pointer (some ⟨w.heap.size,0,none⟩),.pointer (some ⟨w.heap.size + 1,0,none⟩),.slice none 0 0,.int .i64 0,.int .i64 0,.pointer (some ⟨w1.heap.size,0,none⟩),.pointer (some ⟨Bm,0,none⟩),.pointer (some ⟨Bs,0,none⟩),undef,undef,undef,.agg #[.slice A0_0 l0_0.length c0_0,.int .i64 a0_1],.int .i64 0,.int .i64 0,.bool false,undef,.agg #[.slice A0_0 l0_0.length c0_0,.int .i64 a0_1],.func (.func 41) #[] #[.pointer (some ⟨w1.heap.size + 1,0,none⟩)],momV l0_0 am cm x.val,.agg #[.int .i64 (a_r l0_0 (x.val : Int)).f0,.int .i64 (c_e l0_0 a0_1 x.val)],undef,undef,undef,undef,undef,undef,undef,undef,undef,undef,undef,undef,undef,undef,undef,undef,undef,undef,undef,undef,undef,undef,undef,undef,undef,undef,undef,undef,undef,undef,undef,undef,undef,undef,undef,undef,undef,undef,undef,undef,undef,undef,undef,undef,undef,undef,undef],defers:=[] })
  (fun x a' s A B row hs hg hr => by obtain ⟨Bm,Bs,h1,h2,h3⟩:=hs;exact ⟨Bm,Bs,e_m h1 hg hr,e_m h2 hg hr,h3⟩) ?assign ?body ?done ?stop
 case assign =>
  rintro l pre x W K hI hK
  simp only [momV]
  have iI:=a_f.mk hI
  have iK:=a_f.mk hK
  clear hI hK
  gi_wp2
  have u:=a_j (a_j (Below.refl W.heap.size W) (.cells #[.int .i64 (a_r l0_0 (x.val : Int)).f0,.slice (am x.val) (a_r l0_0 (x.val : Int)).f1.length (cm x.val)] 24)) (.cells #[.int .i64 (a_r l0_0 (x.val : Int)).f0,.int .i64 (c_e l0_0 a0_1 x.val)] 49)
  exact iK.out _ _ (b_A u) ⟨u.mono iI.out.below.size,u.block _ iI.out.b4⟩ (iI.out.bel u) ⟨_,_,a_d (c_E W _) _,by have:=c_E (W.alloc (.cells #[.int .i64 (a_r l0_0 (x.val : Int)).f0,.slice (am x.val) (a_r l0_0 (x.val : Int)).f1.length (cm x.val)] 24)) (.cells #[.int .i64 (a_r l0_0 (x.val : Int)).f0,.int .i64 (c_e l0_0 a0_1 x.val)] 49);rwa [World.size_alloc] at this,rfl⟩
 case body =>
  rintro l pre x a' W hl' _ hI ⟨Bm,Bs,bm,bs,rfl⟩ hlt
  have iI:=a_f.mk hI
  obtain ⟨⟨v,bv,hrow⟩,b1,b4,⟨gcs,ga⟩,hB⟩:=hI
  simp only [momV]
  have hmx:=HMS.out x.val x.isLt
  have hsm : (a_r l0_0 (x.val : Int)).f1.length ≤ 1099511627776:=HM.out _ (by unfold a_r;simp)
  have IF:=a_f.mk (k_A (a_r l0_0 (x.val : Int)).f0 (a_r l0_0 (x.val : Int)).f1 a1 hsm)
  have IW:=a_f.mk (m_R (a_L (a_r l0_0 (x.val : Int)).f1 a1).1)
  have iC:=a_f.mk (Kd.b_i hmx.2.2.2 hB)
  have iL:=hmx.2.2.1
  clear hmx hsm
  have c0:=(a_b bm 0).trans rfl
  have c1:=(a_b bm 1).trans rfl
  have c2:=(a_b b1 0).trans rfl
  have iN : ((pre ++ [x]).map (·.val)).foldl (c_Q l0_0 a0_1 a1) [] = c_Q l0_0 a0_1 a1 ((pre.map (·.val)).foldl (c_Q l0_0 a0_1 a1) []) x.val:=by simp
  have hln : ((pre.map (·.val)).foldl (c_Q l0_0 a0_1 a1) []).length ≤ pre.length:=by simpa using l_6 l0_0 a0_1 a1 (pre.map (·.val)) []
  have hlq : ((pre.map (·.val)).foldl (c_Q l0_0 a0_1 a1) []).length ≤ 4398046511104:=by omega
  clear hln
  generalize hn : (pre.map (·.val)).foldl (c_Q l0_0 a0_1 a1) [] = acc at hrow iN hlq iI
  clear hn
  have IN:=a_f.mk iN
  have IQ:=a_f.mk hlq
  have iv:=a_f.mk bv
  have i1:=a_f.mk b1
  have ig:=a_f.mk ga
  have is:=a_f.mk bs
  have iB:=a_f.mk hB
  have iR:=a_f.mk hrow
  have i4:=a_f.mk b4
  clear b1 hB bm bs iN hlq hrow bv ga b4
  cases hb : (a_L (a_r l0_0 (x.val : Int)).f1 a1).2 with
  | false =>
   rw [hb] at IF
   have IH:=a_f.mk hb
   clear hb
   gi_wp2_with (first|(refine ⟨trivial,?_⟩;gi_at_call 32;refine (CallsIn.inRound l (callsIn_wide.2 (c_N.calls _ _ _ _ _ _ _ _ _ _ _ _ _ _ _ _ _ _ iC.out iL IF.out))).mono ?_;rintro e w3 ⟨rfl,hb⟩;have IB3:=a_f.mk hb;skip;clear hb)|(refine ⟨trivial,?_⟩))
   have u:=a_j IB3.out (.cells #[.int .i64 (a_L (a_r l0_0 (x.val : Int)).f1 a1).1.f0,.int .i64 (a_L (a_r l0_0 (x.val : Int)).f1 a1).1.f1,.int .i64 (a_L (a_r l0_0 (x.val : Int)).f1 a1).1.f2,.int .i64 (a_L (a_r l0_0 (x.val : Int)).f1 a1).1.f3,.int .i64 (a_L (a_r l0_0 (x.val : Int)).f1 a1).1.f4,.bool (a_L (a_r l0_0 (x.val : Int)).f1 a1).1.f5,.bool (a_L (a_r l0_0 (x.val : Int)).f1 a1).1.f6,.int .u32 (a_L (a_r l0_0 (x.val : Int)).f1 a1).1.f7,.int .i64 (a_L (a_r l0_0 (x.val : Int)).f1 a1).1.f8,.int .i64 (a_L (a_r l0_0 (x.val : Int)).f1 a1).1.f9,.int .i64 (a_L (a_r l0_0 (x.val : Int)).f1 a1).1.f10] 33)
   have e : c_Q l0_0 a0_1 a1 acc x.val = acc:=by unfold c_Q;rw [IH.out];simp
   exact ⟨b_A u,⟨u.mono iB.out.size,u.block _ i4.out⟩,by show e_1 w w1 a1 _ _;rw [IN.out,e];exact iI.out.bel u⟩
  | true =>
   rw [hb] at IF
   have IH:=a_f.mk hb
   clear hb
   cases hd : j_X (a_L (a_r l0_0 (x.val : Int)).f1 a1).1 with
   | false =>
    rw [hd] at IW
    have IG:=a_f.mk hd
    clear hd
    gi_wp2_with (first|(refine ⟨trivial,?_⟩;gi_at_call 32;refine (CallsIn.inRound l (callsIn_wide.2 (c_N.calls _ _ _ _ _ _ _ _ _ _ _ _ _ _ _ _ _ _ iC.out iL IF.out))).mono ?_;rintro e w3 ⟨rfl,hb⟩;have IB3:=a_f.mk hb;skip;clear hb)|(refine ⟨trivial,?_⟩;gi_at_call 24;refine (CallsIn.inRound l (callsIn_wide.2 (b_P.calls _ _ _ _ _ _ _ _ _ _ _ _ _ IW.out))).mono ?_;rintro e w4 ⟨rfl,hb⟩;have IB4:=a_f.mk (Below.trans (a_j IB3.out (.cells #[.int .i64 (a_L (a_r l0_0 (x.val : Int)).f1 a1).1.f0,.int .i64 (a_L (a_r l0_0 (x.val : Int)).f1 a1).1.f1,.int .i64 (a_L (a_r l0_0 (x.val : Int)).f1 a1).1.f2,.int .i64 (a_L (a_r l0_0 (x.val : Int)).f1 a1).1.f3,.int .i64 (a_L (a_r l0_0 (x.val : Int)).f1 a1).1.f4,.bool (a_L (a_r l0_0 (x.val : Int)).f1 a1).1.f5,.bool (a_L (a_r l0_0 (x.val : Int)).f1 a1).1.f6,.int .u32 (a_L (a_r l0_0 (x.val : Int)).f1 a1).1.f7,.int .i64 (a_L (a_r l0_0 (x.val : Int)).f1 a1).1.f8,.int .i64 (a_L (a_r l0_0 (x.val : Int)).f1 a1).1.f9,.int .i64 (a_L (a_r l0_0 (x.val : Int)).f1 a1).1.f10] 33)) (hb.mono (a_j IB3.out (.cells #[.int .i64 (a_L (a_r l0_0 (x.val : Int)).f1 a1).1.f0,.int .i64 (a_L (a_r l0_0 (x.val : Int)).f1 a1).1.f1,.int .i64 (a_L (a_r l0_0 (x.val : Int)).f1 a1).1.f2,.int .i64 (a_L (a_r l0_0 (x.val : Int)).f1 a1).1.f3,.int .i64 (a_L (a_r l0_0 (x.val : Int)).f1 a1).1.f4,.bool (a_L (a_r l0_0 (x.val : Int)).f1 a1).1.f5,.bool (a_L (a_r l0_0 (x.val : Int)).f1 a1).1.f6,.int .u32 (a_L (a_r l0_0 (x.val : Int)).f1 a1).1.f7,.int .i64 (a_L (a_r l0_0 (x.val : Int)).f1 a1).1.f8,.int .i64 (a_L (a_r l0_0 (x.val : Int)).f1 a1).1.f9,.int .i64 (a_L (a_r l0_0 (x.val : Int)).f1 a1).1.f10] 33)).size));clear hb;skip))
    have u:=IB4.out
    have e : c_Q l0_0 a0_1 a1 acc x.val = acc:=by unfold c_Q;rw [IG.out];simp
    exact ⟨b_A u,⟨u.mono iB.out.size,u.block _ i4.out⟩,by show e_1 w w1 a1 _ _;rw [IN.out,e];exact iI.out.bel u⟩
   | true =>
    rw [hd] at IW
    have IG:=a_f.mk hd
    clear hd
    obtain ⟨i46,hi46,hz46⟩:=Option.map_eq_some_iff.mp r_J
    have H46:=a_f.mk hi46
    have H46z : a_f (i46.zero = some (.agg #[.int .i64 0,.int .i64 0])):=a_f.mk (Prod.mk.inj hz46).1
    have H46s : a_f (i46.size = 2):=a_f.mk (Prod.mk.inj (Prod.mk.inj hz46).2).1
    have H46b : a_f (i46.bytes = 16):=a_f.mk (Prod.mk.inj (Prod.mk.inj hz46).2).2
    clear hi46 hz46
    have hrow:=iR.out
    obtain ⟨A,cap,rfl⟩ : ∃ A cap,v = .slice A acc.length cap:=by
     rcases hrow.2 with ⟨rfl,hz⟩ | ⟨g,cap,cur,rfl,_⟩
     ·exact ⟨_,0,by rw [hz]⟩
     exact ⟨_,cap,rfl⟩
    by_cases hz : acc.length = 0
    ·have hacc : acc = []:=List.eq_nil_of_length_eq_zero hz
     have IA:=a_f.mk hacc
     have AHN:=a_f.mk hz
     rw [hz] at iv iR
     clear hz hacc hrow
     gi_wp2_with (first|(refine ⟨trivial,?_⟩;gi_at_call 32;refine (CallsIn.inRound l (callsIn_wide.2 (c_N.calls _ _ _ _ _ _ _ _ _ _ _ _ _ _ _ _ _ _ iC.out iL IF.out))).mono ?_;rintro e w3 ⟨rfl,hb⟩;have IB3:=a_f.mk hb;skip;clear hb)|(refine ⟨trivial,?_⟩;gi_at_call 24;refine (CallsIn.inRound l (callsIn_wide.2 (b_P.calls _ _ _ _ _ _ _ _ _ _ _ _ _ IW.out))).mono ?_;rintro e w4 ⟨rfl,hb⟩;have IB4:=a_f.mk (Below.trans (a_j IB3.out (.cells #[.int .i64 (a_L (a_r l0_0 (x.val : Int)).f1 a1).1.f0,.int .i64 (a_L (a_r l0_0 (x.val : Int)).f1 a1).1.f1,.int .i64 (a_L (a_r l0_0 (x.val : Int)).f1 a1).1.f2,.int .i64 (a_L (a_r l0_0 (x.val : Int)).f1 a1).1.f3,.int .i64 (a_L (a_r l0_0 (x.val : Int)).f1 a1).1.f4,.bool (a_L (a_r l0_0 (x.val : Int)).f1 a1).1.f5,.bool (a_L (a_r l0_0 (x.val : Int)).f1 a1).1.f6,.int .u32 (a_L (a_r l0_0 (x.val : Int)).f1 a1).1.f7,.int .i64 (a_L (a_r l0_0 (x.val : Int)).f1 a1).1.f8,.int .i64 (a_L (a_r l0_0 (x.val : Int)).f1 a1).1.f9,.int .i64 (a_L (a_r l0_0 (x.val : Int)).f1 a1).1.f10] 33)) (hb.mono (a_j IB3.out (.cells #[.int .i64 (a_L (a_r l0_0 (x.val : Int)).f1 a1).1.f0,.int .i64 (a_L (a_r l0_0 (x.val : Int)).f1 a1).1.f1,.int .i64 (a_L (a_r l0_0 (x.val : Int)).f1 a1).1.f2,.int .i64 (a_L (a_r l0_0 (x.val : Int)).f1 a1).1.f3,.int .i64 (a_L (a_r l0_0 (x.val : Int)).f1 a1).1.f4,.bool (a_L (a_r l0_0 (x.val : Int)).f1 a1).1.f5,.bool (a_L (a_r l0_0 (x.val : Int)).f1 a1).1.f6,.int .u32 (a_L (a_r l0_0 (x.val : Int)).f1 a1).1.f7,.int .i64 (a_L (a_r l0_0 (x.val : Int)).f1 a1).1.f8,.int .i64 (a_L (a_r l0_0 (x.val : Int)).f1 a1).1.f9,.int .i64 (a_L (a_r l0_0 (x.val : Int)).f1 a1).1.f10] 33)).size));clear hb;have s2:=(a_b (a_l iv.out IB4.out) 0).trans rfl;have y2:=a_B (a_l iv.out IB4.out);have s0 : w4.cell? ⟨Bs,0,none⟩ = some (.int .i64 (a_r l0_0 (x.val : Int)).f0):=(a_b (a_l is.out IB4.out) 0).trans rfl;have s1 : w4.cell? ⟨Bs,1,none⟩ = some (.int .i64 (c_e l0_0 a0_1 x.val)):=(a_b (a_l is.out IB4.out) 1).trans rfl;have y0:=a_B (a_l is.out IB4.out)))
     ·have u:=IB4.out;have e : c_Q l0_0 a0_1 a1 acc x.val = acc:=if_neg (fun h => h.2.2 (eq_of_beq (by assumption)));exact ⟨b_A u,⟨u.mono iB.out.size,u.block _ i4.out⟩,by show e_1 w w1 a1 _ _;rw [IN.out,e];exact iI.out.bel u⟩
     generalize (Value.agg #[.int .i64 (a_L (a_r l0_0 (x.val : Int)).f1 a1).1.f0,.int .i64 (a_L (a_r l0_0 (x.val : Int)).f1 a1).1.f1,.int .i64 (a_L (a_r l0_0 (x.val : Int)).f1 a1).1.f2,.int .i64 (a_L (a_r l0_0 (x.val : Int)).f1 a1).1.f3,.int .i64 (a_L (a_r l0_0 (x.val : Int)).f1 a1).1.f4,.bool (a_L (a_r l0_0 (x.val : Int)).f1 a1).1.f5,.bool (a_L (a_r l0_0 (x.val : Int)).f1 a1).1.f6,.int .u32 (a_L (a_r l0_0 (x.val : Int)).f1 a1).1.f7,.int .i64 (a_L (a_r l0_0 (x.val : Int)).f1 a1).1.f8,.int .i64 (a_L (a_r l0_0 (x.val : Int)).f1 a1).1.f9,.int .i64 (a_L (a_r l0_0 (x.val : Int)).f1 a1).1.f10]) = X1;have d0 : w4.drew.cell? ⟨Bs,0,none⟩ = some (.int .i64 (a_r l0_0 (x.val : Int)).f0):=s0;have d1 : w4.drew.cell? ⟨Bs,1,none⟩ = some (.int .i64 (c_e l0_0 a0_1 x.val)):=s1;have d2:=(show w4.drew.cell? _ = _ from s2);have y3 : Bs < w4.drew.heap.size:=y0;have y4 : w1.heap.size < w4.drew.heap.size:=y2;have mx : Tryd.prog.follows .mixedOrders = true:=by kernel_rfl
     refine j_0 ?_;apply Exists.intro;apply Exists.intro;refine And.intro ?ra ?ka;(case ra => (gi_region_with_o (fail));all_goals exact ⟨rfl,rfl,rfl⟩)
     gi_wp2_with (gi_at_builtin;refine wpListIn_append_own _ rfl _ _ 45 rfl w.heap.size 49 _ (.agg #[.int .i64 0,.int .i64 0]) 2 16 Tryd.underlying45 H46.out H46z.out H46s.out H46b.out rfl (by decide) _ _ (d_3 acc) rfl ((f_T iR.out (Below.drew IB4.out)).alloc (.cells #[.int .i64 (a_r l0_0 (x.val : Int)).f0,.int .i64 (c_e l0_0 a0_1 x.val)] 49)) ⟨w4.heap.size,0,none⟩ 1 1 [.int .i64 (a_r l0_0 (x.val : Int)).f0,.int .i64 (c_e l0_0 a0_1 x.val)] rfl rfl (l_3 w4 _ _ _) (by simp [Value.oneCell']) (by have:=IQ.out;have:=AHN.out;simp only [maxLen];omega) (by have:=IQ.out;have:=AHN.out;omega) (by have h1:=iB.out.size;have h2:=IB4.out.size;exact Nat.le_trans h1 (Nat.le_trans h2 (by show w4.heap.size ≤ (w4.heap.push _).size;simp))) ?_;intro v' w5 hown' hgrow _;obtain ⟨g',cap',rfl⟩:=ownsRow_succ hown';obtain ⟨⟨e1,e2⟩,e3,e4,e5⟩:=j_W (hn:=AHN.out) (tmp:=.cells #[.int .i64 (a_r l0_0 (x.val : Int)).f0,.int .i64 (c_e l0_0 a0_1 x.val)] 49) iI.out hws (Below.drew IB4.out) iv.out iR.out hown' hgrow;have E3:=a_f.mk e3;have E4:=a_f.mk e4;have E5:=a_f.mk e5;clear e3 e4 e5 hown' hgrow)
     have e : c_Q l0_0 a0_1 a1 acc x.val = acc ++ [⟨(a_r l0_0 (x.val : Int)).f0,c_e l0_0 a0_1 x.val⟩]:=by unfold c_Q;rw [if_pos ⟨IH.out,IG.out,ne_of_beq_false (by assumption)⟩,if_neg (fun h => by have:=h.1;have:=AHN.out;omega)]
     exact ⟨E3.out _,E4.out,by show e_1 w w1 a1 _ _;rw [IN.out,e];exact E5.out⟩
    obtain ⟨m,hm⟩ : ∃ m,acc.length = m + 1:=⟨acc.length - 1,by omega⟩
    obtain ⟨g,rfl⟩ : ∃ g,A = some ⟨g,0,none⟩:=by
     rcases hrow.2 with ⟨_,hz'⟩ | ⟨g,cap,cur,e,_⟩
     ·exact absurd hz' hz
     cases e;exact ⟨_,rfl⟩
    have AHN:=a_f.mk hm
    rw [hm] at iv
    rw [hm] at iR
    clear hz hrow hm
    gi_wp2_with (first|(refine ⟨trivial,?_⟩;gi_at_call 32;refine (CallsIn.inRound l (callsIn_wide.2 (c_N.calls _ _ _ _ _ _ _ _ _ _ _ _ _ _ _ _ _ _ iC.out iL IF.out))).mono ?_;rintro e w3 ⟨rfl,hb⟩;have IB3:=a_f.mk hb;skip;clear hb)|(refine ⟨trivial,?_⟩;gi_at_call 24;refine (CallsIn.inRound l (callsIn_wide.2 (b_P.calls _ _ _ _ _ _ _ _ _ _ _ _ _ IW.out))).mono ?_;rintro e w4 ⟨rfl,hb⟩;have IB4:=a_f.mk (Below.trans (a_j IB3.out (.cells #[.int .i64 (a_L (a_r l0_0 (x.val : Int)).f1 a1).1.f0,.int .i64 (a_L (a_r l0_0 (x.val : Int)).f1 a1).1.f1,.int .i64 (a_L (a_r l0_0 (x.val : Int)).f1 a1).1.f2,.int .i64 (a_L (a_r l0_0 (x.val : Int)).f1 a1).1.f3,.int .i64 (a_L (a_r l0_0 (x.val : Int)).f1 a1).1.f4,.bool (a_L (a_r l0_0 (x.val : Int)).f1 a1).1.f5,.bool (a_L (a_r l0_0 (x.val : Int)).f1 a1).1.f6,.int .u32 (a_L (a_r l0_0 (x.val : Int)).f1 a1).1.f7,.int .i64 (a_L (a_r l0_0 (x.val : Int)).f1 a1).1.f8,.int .i64 (a_L (a_r l0_0 (x.val : Int)).f1 a1).1.f9,.int .i64 (a_L (a_r l0_0 (x.val : Int)).f1 a1).1.f10] 33)) (hb.mono (a_j IB3.out (.cells #[.int .i64 (a_L (a_r l0_0 (x.val : Int)).f1 a1).1.f0,.int .i64 (a_L (a_r l0_0 (x.val : Int)).f1 a1).1.f1,.int .i64 (a_L (a_r l0_0 (x.val : Int)).f1 a1).1.f2,.int .i64 (a_L (a_r l0_0 (x.val : Int)).f1 a1).1.f3,.int .i64 (a_L (a_r l0_0 (x.val : Int)).f1 a1).1.f4,.bool (a_L (a_r l0_0 (x.val : Int)).f1 a1).1.f5,.bool (a_L (a_r l0_0 (x.val : Int)).f1 a1).1.f6,.int .u32 (a_L (a_r l0_0 (x.val : Int)).f1 a1).1.f7,.int .i64 (a_L (a_r l0_0 (x.val : Int)).f1 a1).1.f8,.int .i64 (a_L (a_r l0_0 (x.val : Int)).f1 a1).1.f9,.int .i64 (a_L (a_r l0_0 (x.val : Int)).f1 a1).1.f10] 33)).size));clear hb;have s2:=(a_b (a_l iv.out IB4.out) 0).trans rfl;have y2:=a_B (a_l iv.out IB4.out);have s0 : w4.cell? ⟨Bs,0,none⟩ = some (.int .i64 (a_r l0_0 (x.val : Int)).f0):=(a_b (a_l is.out IB4.out) 0).trans rfl;have s1 : w4.cell? ⟨Bs,1,none⟩ = some (.int .i64 (c_e l0_0 a0_1 x.val)):=(a_b (a_l is.out IB4.out) 1).trans rfl;have y0:=a_B (a_l is.out IB4.out)))
    ·have u:=IB4.out;have e : c_Q l0_0 a0_1 a1 acc x.val = acc:=if_neg (fun h => h.2.2 (eq_of_beq (by assumption)));exact ⟨b_A u,⟨u.mono iB.out.size,u.block _ i4.out⟩,by show e_1 w w1 a1 _ _;rw [IN.out,e];exact iI.out.bel u⟩
    generalize (Value.agg #[.int .i64 (a_L (a_r l0_0 (x.val : Int)).f1 a1).1.f0,.int .i64 (a_L (a_r l0_0 (x.val : Int)).f1 a1).1.f1,.int .i64 (a_L (a_r l0_0 (x.val : Int)).f1 a1).1.f2,.int .i64 (a_L (a_r l0_0 (x.val : Int)).f1 a1).1.f3,.int .i64 (a_L (a_r l0_0 (x.val : Int)).f1 a1).1.f4,.bool (a_L (a_r l0_0 (x.val : Int)).f1 a1).1.f5,.bool (a_L (a_r l0_0 (x.val : Int)).f1 a1).1.f6,.int .u32 (a_L (a_r l0_0 (x.val : Int)).f1 a1).1.f7,.int .i64 (a_L (a_r l0_0 (x.val : Int)).f1 a1).1.f8,.int .i64 (a_L (a_r l0_0 (x.val : Int)).f1 a1).1.f9,.int .i64 (a_L (a_r l0_0 (x.val : Int)).f1 a1).1.f10]) = X1;have d0 : w4.drew.cell? ⟨Bs,0,none⟩ = some (.int .i64 (a_r l0_0 (x.val : Int)).f0):=s0;have d1 : w4.drew.cell? ⟨Bs,1,none⟩ = some (.int .i64 (c_e l0_0 a0_1 x.val)):=s1;have d2:=(show w4.drew.cell? _ = _ from s2);have y3 : Bs < w4.drew.heap.size:=y0;have y4 : w1.heap.size < w4.drew.heap.size:=y2;have mx : Tryd.prog.follows .mixedOrders = true:=by kernel_rfl
    have hoc:=j_P (f_T iR.out (Below.drew IB4.out)) (m * 2 + 1) (by omega)
    rw [(h_I acc m (by rw [AHN.out];omega)).2] at hoc
    have d3:=hoc.1
    have d4:=hoc.2.1
    clear hoc
    have wm : IntKind.i64.wrap (m : Int) = (m : Int):=by have:=IQ.out;have:=AHN.out;rw [IntKind.wrap_i64];omega
    refine j_0 ?_;apply Exists.intro;apply Exists.intro;refine And.intro ?rb ?kb;(case rb => (gi_region_with_o (fail));all_goals exact ⟨rfl,rfl,rfl⟩)
    gi_wp2_with (gi_at_builtin;refine wpListIn_append_own _ rfl _ _ 45 rfl w.heap.size 49 _ (.agg #[.int .i64 0,.int .i64 0]) 2 16 Tryd.underlying45 H46.out H46z.out H46s.out H46b.out rfl (by decide) _ _ (d_3 acc) rfl ((f_T iR.out (Below.drew IB4.out)).alloc (.cells #[.int .i64 (a_r l0_0 (x.val : Int)).f0,.int .i64 (c_e l0_0 a0_1 x.val)] 49)) ⟨w4.heap.size,0,none⟩ 1 1 [.int .i64 (a_r l0_0 (x.val : Int)).f0,.int .i64 (c_e l0_0 a0_1 x.val)] rfl rfl (l_3 w4 _ _ _) (by simp [Value.oneCell']) (by have:=IQ.out;have:=AHN.out;simp only [maxLen];omega) (by have:=IQ.out;have:=AHN.out;omega) (by have h1:=iB.out.size;have h2:=IB4.out.size;exact Nat.le_trans h1 (Nat.le_trans h2 (by show w4.heap.size ≤ (w4.heap.push _).size;simp))) ?_;intro v' w5 hown' hgrow _;obtain ⟨g',cap',rfl⟩:=ownsRow_succ hown';obtain ⟨⟨e1,e2⟩,e3,e4,e5⟩:=j_W (hn:=AHN.out) (tmp:=.cells #[.int .i64 (a_r l0_0 (x.val : Int)).f0,.int .i64 (c_e l0_0 a0_1 x.val)] 49) iI.out hws (Below.drew IB4.out) iv.out iR.out hown' hgrow;have E3:=a_f.mk e3;have E4:=a_f.mk e4;have E5:=a_f.mk e5;clear e3 e4 e5 hown' hgrow)
    ·have e : c_Q l0_0 a0_1 a1 acc x.val = acc.set m ⟨(acc.getD m z49).f0,c_e l0_0 a0_1 x.val⟩:=by unfold c_Q;rw [if_pos ⟨IH.out,IG.out,ne_of_beq_false (by assumption)⟩,AHN.out,if_pos ⟨Nat.succ_pos m,eq_of_beq (by assumption)⟩];rfl
     obtain ⟨k1,k2,k3⟩:=m_Q iI.out hws (Below.drew IB4.out) iv.out iR.out AHN.out (c_e l0_0 a0_1 x.val)
     exact ⟨k1 _,k2,by show e_1 w w1 a1 _ _;rw [IN.out,e];exact k3⟩
    have e : c_Q l0_0 a0_1 a1 acc x.val = acc ++ [⟨(a_r l0_0 (x.val : Int)).f0,c_e l0_0 a0_1 x.val⟩]:=by unfold c_Q;rw [if_pos ⟨IH.out,IG.out,ne_of_beq_false (by assumption)⟩,AHN.out,if_neg (fun h => ne_of_beq_false (by assumption) h.2)]
    exact ⟨E3.out _,E4.out,by show e_1 w w1 a1 _ _;rw [IN.out,e];exact E5.out⟩
 case done =>
  rintro D ys W hD rfl hI hK
  obtain ⟨⟨v,bv,hrow⟩,b1,b4,⟨gcs,ga⟩,hB⟩:=hI
  have hv : ((List.finRange l0_0.length).map (·.val)).foldl (c_Q l0_0 a0_1 a1) [] = (List.range l0_0.length).foldl (c_Q l0_0 a0_1 a1) []:=by
   congr 1
   apply List.ext_getElem
   ·simp
   intro i h1 h2;simp
  rw [hv] at hrow
  have c0 : W.cell? ⟨w1.heap.size,0,none⟩ = some v:=(a_b bv 0).trans rfl
  clear bv b1 b4 ga hv
  gi_wp2
  refine ⟨by simp,.inl ⟨_,_,rfl,run_takeDeferred hK,?_⟩⟩
  exact ⟨.tuple #[v,.int .i64 0],by simp [results,Tryd.results18,go_sem],v,rfl,r_P (ownsRow_putObj hrow _ hK rfl),hB.trans (belowK_b (w:=w) (Nat.le_refl _) W D _ _ (by have:=nB.out.size;omega) hK rfl rfl)⟩
 case stop =>
  rintro D c pre W _ _ h _
  exact h.elim
set_option maxHeartbeats 2000000 in
theorem b_u.errs (k : Nat) (A0_0 : Option Addr) (c0_0 : Nat) (l0_0 : List S24) (a0_1 a1 : Int) (e : Int) (w : World) (hr0_0 : Kd.C k24 w A0_0 l0_0.length l0_0) (hc0_0 : l0_0.length ≤ c0_0) (he : a_x.f k l0_0 a0_1 = some e) (h1 : e ≠ 0) :
 Calls Tryd.prog 18 #[.agg #[.slice A0_0 l0_0.length c0_0,.int .i64 a0_1],.int .i64 a1] w fun e' w' => e' = .returned (.tuple #[.slice none 0 0,.int .i64 e]) ∧ Below w.heap.size w w':=by
 have HR:=a_f.mk hr0_0
 have HE:=a_f.mk he
 clear hr0_0 he
 have qB:=a_f.mk (a_j (a_j (Below.refl w.heap.size w) (.cells #[.slice A0_0 l0_0.length c0_0,.int .i64 a0_1] 37)) (.cells #[.int .i64 a1] 3))
 have g0 : (e != 0) = true:=bne_iff_ne.mpr h1
 clear h1
 go_enter Tryd.func18,Tryd.ntmps18
 go_wp2_with (go_at_call 29;refine (a_x.calls k _ _ l0_0 a0_1 e _ ?s1 hc0_0 HE.out).mono ?_;(case s1 => exact Kd.b_i HR.out qB.out);rintro e w1 ⟨rfl,hb⟩;have HB:=a_f.mk (a_q qB.out hb);clear hb)
 go_ret2
 exact ⟨rfl,HB.out⟩
theorem b_u.calls (k : Nat) (A0_0 : Option Addr) (c0_0 : Nat) (l0_0 : List S24) (a0_1 a1 : Int) (r1 : List S49) (r2 : Int) (w : World) (hr0_0 : Kd.C k24 w A0_0 l0_0.length l0_0) (hc0_0 : l0_0.length ≤ c0_0) (h : b_u.f k l0_0 a0_1 a1 = some (r1,r2)) :
 Calls Tryd.prog 18 #[.agg #[.slice A0_0 l0_0.length c0_0,.int .i64 a0_1],.int .i64 a1] w fun e w' => ∃ v0_ : Value,e = .returned (.tuple #[v0_,.int .i64 r2]) ∧ Kd.R k49 49 w' w.heap.size (fun _ => True) v0_ r1 ∧ Below w.heap.size w w':=by
 obtain ⟨e,he,h⟩:=Option.bind_eq_some_iff.mp h
 by_cases h0 : e = 0
 ·rw [if_pos h0] at h
  subst h0
  by_cases h4 : l0_0.length ≤ 4398046511104 ∧ ∀ m ∈ l0_0,m.f1.length ≤ 1099511627776
  ·rw [if_pos h4] at h;cases h
   exact b_u.sums k A0_0 c0_0 l0_0 a0_1 a1 w hr0_0 hc0_0 he h4.1 h4.2
  rw [if_neg h4] at h;cases h
 rw [if_neg h0] at h;cases h
 exact (b_u.errs k A0_0 c0_0 l0_0 a0_1 a1 _ w hr0_0 hc0_0 he h0).mono (by
  rintro e w' ⟨rfl,hb⟩
  exact ⟨_,rfl,r_P (xs:=[]) (j_v _ _ _ _),hb⟩)
end
end Go.Proofs.YtgglkfilkagblaaDoor.Q
end
section
namespace Go.Proofs.YtgglkfilkagblaaDoor.Q
open Go.RowKit Go.Proofs.YtgglkfilkagblaaDoorW.PrintWords Go.Proofs.YtgglkfilkagblaaDoorW.PrintLast Go.Proofs.YtgglkfilkagblaaDoorW.PrintMore
set_option linter.unusedVariables false
set_option linter.unusedSimpArgs false
def d_D.f (a0 : Int) : Option (Int):=if a0 < 0 then (some 0) else (if a0 ≥ 8 then (some 0) else (if 0 ≤ a0 then (some (shl .u32 1 a0)) else (none)))
set_option maxHeartbeats 8000000 in
set_option maxRecDepth 100000 in
theorem d_D.calls (a0 : Int) (r : Int) (w : World) (h : d_D.f a0 = some r) :
 Calls Tryd.prog 36 #[.int .i64 a0] w fun e w' => e = .returned (.int .u32 r) ∧ c_G w w':=by
 have H : (if a0 < 0 then (some 0) else (if a0 ≥ 8 then (some 0) else (if 0 ≤ a0 then (some (shl .u32 1 a0)) else (none)))) = some r:=h
 clear h
 by_cases c2 : a0 < 0
 ·rw [if_pos c2] at H
  have c2b0 : decide (a0 < 0) = true:=decide_eq_true c2
  clear c2
  obtain rfl:=Option.some.inj H
  go_enter Tryd.func36,Tryd.ntmps36
  go_wp2
  go_ret
  exact ⟨by first|rfl|(simp;done)|(simp [*];done),by repeat (first|exact c_G.refl _|apply c_G.step)⟩
 rw [if_neg c2] at H
 have c2b0 : decide (a0 < 0) = false:=decide_eq_false c2
 clear c2
 by_cases c3 : a0 ≥ 8
 ·rw [if_pos c3] at H
  have c3b0 : decide (8 ≤ a0) = true:=decide_eq_true c3
  clear c3
  obtain rfl:=Option.some.inj H
  go_enter Tryd.func36,Tryd.ntmps36
  go_wp2
  go_ret
  exact ⟨by first|rfl|(simp;done)|(simp [*];done),by repeat (first|exact c_G.refl _|apply c_G.step)⟩
 rw [if_neg c3] at H
 have c3b0 : decide (8 ≤ a0) = false:=decide_eq_false c3
 clear c3
 by_cases c4 : 0 ≤ a0
 rotate_left
 ·rw [if_neg c4] at H
  exact absurd H (by simp)
 rw [if_pos c4] at H
 have c4b0:=eq_true c4
 have c4b1 : decide (0 ≤ a0) = true:=decide_eq_true c4
 clear c4
 obtain ⟨ji5,hji5⟩ : ∃ j_ : Int,(shl .u32 1 a0) = j_:=⟨_,rfl⟩
 replace H : (some ji5) = some r:=by first|(rw [hji5] at H;exact H)|(simp only [hji5] at H ⊢; exact H)
 have hji5_ : (IntKind.u32.wrap (1 * 2 ^ min a0.toNat 32)) = ji5:=hji5
 have hji5z : a0 ≤ 32 → (IntKind.u32.wrap (1 * 2 ^ a0.toNat)) = ji5:=e_U hji5
 have hji5u : (IntKind.u32.wrap (2 ^ min a0.toNat 32)) = ji5:=by have h_:=hji5_;rw [Int.one_mul] at h_;exact h_
 have hji5v : a0 ≤ 32 → (IntKind.u32.wrap (2 ^ a0.toNat)) = ji5:=fun hle_ => by have h_:=hji5z hle_;rw [Int.one_mul] at h_;exact h_
 obtain rfl:=Option.some.inj H
 go_enter Tryd.func36,Tryd.ntmps36
 go_wp2
 go_ret
 exact ⟨by first|rfl|(simp;done)|(simp only [← hji5] <;> (first|rfl|simp))|(simp [*];done),by repeat (first|exact c_G.refl _|apply c_G.step)⟩
end Go.Proofs.YtgglkfilkagblaaDoor.Q
end
section
namespace Go.Proofs.YtgglkfilkagblaaDoor.Q
open Go.RowKit Go.Proofs.YtgglkfilkagblaaDoorW.PrintWords Go.Proofs.YtgglkfilkagblaaDoorW.PrintLast Go.Proofs.YtgglkfilkagblaaDoorW.PrintMore
set_option linter.unusedVariables false
set_option linter.unusedSimpArgs false
def b_q.f (a0 : Int) (a1 : Int) : Option (Bool):=(d_D.f a1).bind fun t121 => (some ((Go.bits .and .u32 a0 t121) != 0))
set_option maxHeartbeats 8000000 in
set_option maxRecDepth 100000 in
theorem b_q.calls (a0 : Int) (a1 : Int) (r : Bool) (w : World) (h : b_q.f a0 a1 = some r) :
 Calls Tryd.prog 20 #[.int .u32 a0,.int .i64 a1] w fun e w' => e = .returned (.bool r) ∧ c_G w w':=by
 have H : ((d_D.f a1).bind fun t121 => (some ((Go.bits .and .u32 a0 t121) != 0))) = some r:=h
 clear h
 replace H:=Option.bind_eq_some_iff.mp H
 obtain ⟨t121,A30,H⟩:=H
 replace H : (some ((Go.bits .and .u32 a0 t121) != 0)) = some r:=H
 have A3:=a_f.mk A30
 clear A30
 obtain rfl:=Option.some.inj H
 go_enter Tryd.func20,Tryd.ntmps20
 go_wp2_with (first|((with_reducible refine a_M (f:=36) rfl ?_);refine b_D (some 7) rfl rfl Tryd.func36 (by kernel_rfl) rfl #[.int .i64 a1] rfl (by (try simp only [List.map_toArray,List.map_cons,List.map_nil]);first|done|rfl|(simp only [List.length_drop,List.length_take];rfl)) ?_;(with_reducible refine (d_D.calls a1 t121 _ A3.out).mono ?_);rintro e w' ⟨rfl,⟨nd,rfl⟩⟩;refine ⟨_,rfl,?_⟩))
 go_ret
 exact ⟨by first|rfl|(simp;done)|(simp [*];done),by repeat (first|exact c_G.refl _|apply c_G.step)⟩
end Go.Proofs.YtgglkfilkagblaaDoor.Q
end
