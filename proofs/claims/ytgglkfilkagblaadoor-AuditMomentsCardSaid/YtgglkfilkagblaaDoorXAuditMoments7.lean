/- Part 8 of 13 of what the row of AuditMoments stands on: contracts over the given program's functions, the plain law, the row; no condition beyond those that each theorem states. -/
import Derived.Test.YtgglkfilkagblaaDoorXAuditMoments6
import Derived.RangeFuncBox
section
namespace Go.Proofs.YtgglkfilkagblaaDoor.Q
open Go.RowKit Go.Proofs.YtgglkfilkagblaaDoorW.PrintWords Go.Proofs.YtgglkfilkagblaaDoorW.PrintLast Go.Proofs.YtgglkfilkagblaaDoorW.PrintMore
set_option linter.unusedVariables false
set_option linter.unusedSimpArgs false
def d_n.f (a0_0 : Int) (l0_1 : List (S33)) (a1 : Int) : Option (Int × Int × Int × Int × Int × Bool × Bool × Int × Int × Int × Int × Bool):=(b_o.f l0_1 a1).bind fun t163 => (if t163 < 0 then (some (0,0,0,0,0,false,false,0,0,0,0,false)) else (if 0 ≤ t163 then (if t163 < (l0_1.length : Int) then (some ((a_a l0_1 t163).f0,(a_a l0_1 t163).f1,(a_a l0_1 t163).f2,(a_a l0_1 t163).f3,(a_a l0_1 t163).f4,(a_a l0_1 t163).f5,(a_a l0_1 t163).f6,(a_a l0_1 t163).f7,(a_a l0_1 t163).f8,(a_a l0_1 t163).f9,(a_a l0_1 t163).f10,true)) else (none)) else (none)))
set_option maxHeartbeats 8000000 in
set_option maxRecDepth 100000 in
theorem d_n.calls (a0_0 : Int) (A0_1 : Option Addr) (c0_1 : Nat) (l0_1 : List (S33)) (a1 : Int) (r1 : Int) (r2 : Int) (r3 : Int) (r4 : Int) (r5 : Int) (r6 : Bool) (r7 : Bool) (r8 : Int) (r9 : Int) (r10 : Int) (r11 : Int) (r12 : Bool) (w : World) (hr0_1 : Kd.C k33 w A0_1 l0_1.length l0_1) (hc0_1 : l0_1.length ≤ c0_1) (h : d_n.f a0_0 l0_1 a1 = some (r1,r2,r3,r4,r5,r6,r7,r8,r9,r10,r11,r12)) :
 Calls Tryd.prog 32 #[.agg #[.int .i64 a0_0,.slice A0_1 l0_1.length c0_1],.int .i64 a1] w fun e w' => e = .returned (.tuple #[.agg #[.int .i64 r1,.int .i64 r2,.int .i64 r3,.int .i64 r4,.int .i64 r5,.bool r6,.bool r7,.int .u32 r8,.int .i64 r9,.int .i64 r10,.int .i64 r11],.bool r12]) ∧ Below w.heap.size w w':=by
 have hu24:=Tryd.underlying24
 have hu33:=Tryd.underlying33
 have hu51:=Tryd.underlying51
 have b_v:=a_g.mk hr0_1
 have c_b:=a_g.mk hc0_1
 clear hr0_1 hc0_1
 have HB:=a_g.mk (Below.refl w.heap.size w)
 have H : ((b_o.f l0_1 a1).bind fun t163 => (if t163 < 0 then (some (0,0,0,0,0,false,false,0,0,0,0,false)) else (if 0 ≤ t163 then (if t163 < (l0_1.length : Int) then (some ((a_a l0_1 t163).f0,(a_a l0_1 t163).f1,(a_a l0_1 t163).f2,(a_a l0_1 t163).f3,(a_a l0_1 t163).f4,(a_a l0_1 t163).f5,(a_a l0_1 t163).f6,(a_a l0_1 t163).f7,(a_a l0_1 t163).f8,(a_a l0_1 t163).f9,(a_a l0_1 t163).f10,true)) else (none)) else (none)))) = some (r1,r2,r3,r4,r5,r6,r7,r8,r9,r10,r11,r12):=h
 clear h
 replace H:=Option.bind_eq_some_iff.mp H
 obtain ⟨t163,A30,H⟩:=H
 replace H : (if t163 < 0 then (some (0,0,0,0,0,false,false,0,0,0,0,false)) else (if 0 ≤ t163 then (if t163 < (l0_1.length : Int) then (some ((a_a l0_1 t163).f0,(a_a l0_1 t163).f1,(a_a l0_1 t163).f2,(a_a l0_1 t163).f3,(a_a l0_1 t163).f4,(a_a l0_1 t163).f5,(a_a l0_1 t163).f6,(a_a l0_1 t163).f7,(a_a l0_1 t163).f8,(a_a l0_1 t163).f9,(a_a l0_1 t163).f10,true)) else (none)) else (none))) = some (r1,r2,r3,r4,r5,r6,r7,r8,r9,r10,r11,r12):=H
 have A3:=a_g.mk A30
 clear A30
 by_cases c4 : t163 < 0
 ·rw [if_pos c4] at H
  have c4b0 : decide (t163 < 0) = true:=decide_eq_true c4
  clear c4
  simp only [Option.some.injEq,Prod.mk.injEq] at H
  obtain ⟨rfl,rfl,rfl,rfl,rfl,rfl,rfl,rfl,rfl,rfl,rfl,rfl⟩:=H
  go_enter Tryd.func32,Tryd.ntmps32
  go_wp2_with (first|((with_reducible refine a_G (N:=2) rfl ?_);refine a_C ?hg (N:=2) ?hd (cs:=#[.int .i64 a0_0,.slice A0_1 l0_1.length c0_1]) (t:=24) ?hr ?_;(case hd => rfl);(case hg => rfl);(case hr => first|(go_simp;done)|(go_simp;rfl));intro f_6 hg w5 hbox hb;have d_V:=a_g.mk (hbox);have z_A:=a_g.mk ((by rw [hg];exact (a_n (lup_ HB.out)) : w.heap.size ≤ f_6));have g_u:=a_g.mk ((by rw [hg];exact (a_n (lup_ HB.out)) : w.heap.size ≤ f_6));replace HB:=a_g.mk (a_p (lup_ HB.out) hb);clear hb hbox hg)|((with_reducible refine a_G (N:=3) rfl ?_);refine a_C ?hg (N:=3) ?hd (cs:=#[.int .i64 a1]) (t:=3) ?hr ?_;(case hd => rfl);(case hg => rfl);(case hr => first|(go_simp;done)|(go_simp;rfl));intro g_A hg w6 hbox hb;have g_3:=a_g.mk (hbox);have z_B:=a_g.mk ((by rw [hg];exact (a_n (by repeat (first|(with_reducible first|exact HB.out|apply a_j|apply a_f|apply a_k|refine a_i ?_ g_u.out)|exact HB.out))) : w.heap.size ≤ g_A));have i_M:=a_g.mk ((by rw [hg];exact (a_n (by repeat (first|(with_reducible first|exact HB.out|apply a_j|apply a_f|apply a_k|refine a_i ?_ g_u.out)|exact HB.out))) : w.heap.size ≤ g_A));have i_O:=a_g.mk ((by rw [hg];exact Nat.ne_of_lt (a_L (bup_ d_V.out)) : f_6 ≠ g_A));have i_Q:=a_g.mk ((by rw [hg];exact Nat.ne_of_gt (a_L (bup_ d_V.out)) : g_A ≠ f_6));replace d_V:=a_g.mk (a_m (bup_ d_V.out) hb);replace HB:=a_g.mk (a_p (by repeat (first|(with_reducible first|exact HB.out|apply a_j|apply a_f|apply a_k|refine a_i ?_ g_u.out)|exact HB.out)) hb);clear hb hbox hg)|((with_reducible refine a_G (N:=4) rfl ?_);refine a_C ?hg (N:=4) ?hd (cs:=#[.int .i64 0,.int .i64 0,.int .i64 0,.int .i64 0,.int .i64 0,.bool false,.bool false,.int .u32 0,.int .i64 0,.int .i64 0,.int .i64 0]) (t:=33) ?hr ?_;(case hd => rfl);(case hg => rfl);(case hr => first|(go_simp;done)|(go_simp;rfl));intro d_H hg w7 hbox hb;have c_H:=a_g.mk (hbox);have z_C:=a_g.mk ((by rw [hg];exact (a_n (by repeat (first|(with_reducible first|exact HB.out|apply a_j|apply a_f|apply a_k|refine a_i ?_ g_u.out|refine a_i ?_ i_M.out)|exact HB.out))) : w.heap.size ≤ d_H));have p_b:=a_g.mk ((by rw [hg];exact (a_n (by repeat (first|(with_reducible first|exact HB.out|apply a_j|apply a_f|apply a_k|refine a_i ?_ g_u.out|refine a_i ?_ i_M.out)|exact HB.out))) : w.heap.size ≤ d_H));have i_P:=a_g.mk ((by rw [hg];exact Nat.ne_of_lt (a_L (bup_ d_V.out)) : f_6 ≠ d_H));have i_S:=a_g.mk ((by rw [hg];exact Nat.ne_of_gt (a_L (bup_ d_V.out)) : d_H ≠ f_6));have i_R:=a_g.mk ((by rw [hg];exact Nat.ne_of_lt (a_L (bup_ g_3.out)) : g_A ≠ d_H));have i_T:=a_g.mk ((by rw [hg];exact Nat.ne_of_gt (a_L (bup_ g_3.out)) : d_H ≠ g_A));replace d_V:=a_g.mk (a_m (bup_ d_V.out) hb);replace g_3:=a_g.mk (a_m (bup_ g_3.out) hb);replace HB:=a_g.mk (a_p (by repeat (first|(with_reducible first|exact HB.out|apply a_j|apply a_f|apply a_k|refine a_i ?_ g_u.out|refine a_i ?_ i_M.out)|exact HB.out)) hb);clear hb hbox hg;have hnb8:=i_O.out;have hnc8:=i_Q.out;have hnb9:=i_P.out;have hnc9:=i_S.out;have g_8 : w7.cell? ⟨f_6,0,none⟩ = some (.int .i64 a0_0):=(a_b d_V.out 0).trans rfl;have g_9 : w7.cell? ⟨f_6,1,none⟩ = some (.slice A0_1 l0_1.length c0_1):=(a_b d_V.out 1).trans rfl;have h_g:=a_c d_V.out 0;have h_h:=a_c d_V.out 1)|((with_reducible refine a_J (f:=43) rfl ?_);refine b_t (some 10) rfl rfl Tryd.func43 (by kernel_rfl) rfl #[.slice A0_1 l0_1.length c0_1,.func (.func 44) #[] #[.pointer (some ⟨g_A,0,none⟩)]] rfl (by (try simp only [List.map_toArray,List.map_cons,List.map_nil]);first|done|rfl|(simp only [List.length_drop,List.length_take];rfl)) ?_;(with_reducible refine (b_o.calls _ _ l0_1 g_A a1 t163 _ ?side1 ?side2 ?side3 A3.out).mono ?_);(case side1 => repeat (first|exact (Kd.a_5 b_v.out HB.out)|(with_reducible refine Kd.a_8 ?_ _)|(with_reducible refine Kd.a_9 ?_ _)|(with_reducible refine Kd.b_p ?_)));(case side2 => exact c_b.out);(case side3 => exact (bup_ g_3.out));rintro e w11 ⟨rfl,hb⟩;refine ⟨_,rfl,?_⟩;replace d_V:=a_g.mk (a_m (bup_ d_V.out) hb);replace g_3:=a_g.mk (a_m (bup_ g_3.out) hb);replace c_H:=a_g.mk (a_m (bup_ c_H.out) hb);replace HB:=a_g.mk (a_p (by repeat (first|(with_reducible first|exact HB.out|apply a_j|apply a_f|apply a_k|refine a_i ?_ g_u.out|refine a_i ?_ i_M.out|refine a_i ?_ p_b.out)|exact HB.out)) hb);(try clear hb);(try clear hb2);(try clear hk);(try clear hi);have H_k:=i_T.out;have H_u:=i_R.out;have i_1 : w11.cell? ⟨d_H,0,none⟩ = some (.int .i64 0):=(a_b c_H.out 0).trans rfl;have i_2 : w11.cell? ⟨d_H,1,none⟩ = some (.int .i64 0):=(a_b c_H.out 1).trans rfl;have m_y : w11.cell? ⟨d_H,2,none⟩ = some (.int .i64 0):=(a_b c_H.out 2).trans rfl;have m_z : w11.cell? ⟨d_H,3,none⟩ = some (.int .i64 0):=(a_b c_H.out 3).trans rfl;have m_A : w11.cell? ⟨d_H,4,none⟩ = some (.int .i64 0):=(a_b c_H.out 4).trans rfl;have m_B : w11.cell? ⟨d_H,5,none⟩ = some (.bool false):=(a_b c_H.out 5).trans rfl;have m_C : w11.cell? ⟨d_H,6,none⟩ = some (.bool false):=(a_b c_H.out 6).trans rfl;have m_D : w11.cell? ⟨d_H,7,none⟩ = some (.int .u32 0):=(a_b c_H.out 7).trans rfl;have m_E : w11.cell? ⟨d_H,8,none⟩ = some (.int .i64 0):=(a_b c_H.out 8).trans rfl;have m_F : w11.cell? ⟨d_H,9,none⟩ = some (.int .i64 0):=(a_b c_H.out 9).trans rfl;have k_e : w11.cell? ⟨d_H,10,none⟩ = some (.int .i64 0):=(a_b c_H.out 10).trans rfl;have i_7:=a_c c_H.out 0;have i_8:=a_c c_H.out 1;have m_5:=a_c c_H.out 2;have m_6:=a_c c_H.out 3;have m_7:=a_c c_H.out 4;have m_8:=a_c c_H.out 5;have m_9:=a_c c_H.out 6;have n_a:=a_c c_H.out 7;have n_b:=a_c c_H.out 8;have n_c:=a_c c_H.out 9;have k_I:=a_c c_H.out 10))
  refine bodyPost_ret (c_O rfl _ _ d_H 33 #[.int .i64 0,.int .i64 0,.int .i64 0,.int .i64 0,.int .i64 0,.bool false,.bool false,.int .u32 0,.int .i64 0,.int .i64 0,.int .i64 0] (0,0) _ rfl (by (with_reducible repeat (first|refine a_e ?_ _|refine a_h ?_|refine a_d ?_ _));refine a_r (cs:=#[.int .i64 0,.int .i64 0,.int .i64 0,.int .i64 0,.int .i64 0,.bool false,.bool false,.int .u32 0,.int .i64 0,.int .i64 0,.int .i64 0]) ?_ 10 _ rfl;(with_reducible repeat (first|refine a_e ?_ _|refine a_h ?_|refine a_d ?_ _));refine a_r (cs:=#[.int .i64 0,.int .i64 0,.int .i64 0,.int .i64 0,.int .i64 0,.bool false,.bool false,.int .u32 0,.int .i64 0,.int .i64 0,.int .i64 0]) ?_ 9 _ rfl;(with_reducible repeat (first|refine a_e ?_ _|refine a_h ?_|refine a_d ?_ _));refine a_r (cs:=#[.int .i64 0,.int .i64 0,.int .i64 0,.int .i64 0,.int .i64 0,.bool false,.bool false,.int .u32 0,.int .i64 0,.int .i64 0,.int .i64 0]) ?_ 8 _ rfl;(with_reducible repeat (first|refine a_e ?_ _|refine a_h ?_|refine a_d ?_ _));refine a_r (cs:=#[.int .i64 0,.int .i64 0,.int .i64 0,.int .i64 0,.int .i64 0,.bool false,.bool false,.int .u32 0,.int .i64 0,.int .i64 0,.int .i64 0]) ?_ 7 _ rfl;(with_reducible repeat (first|refine a_e ?_ _|refine a_h ?_|refine a_d ?_ _));refine a_r (cs:=#[.int .i64 0,.int .i64 0,.int .i64 0,.int .i64 0,.int .i64 0,.bool false,.bool false,.int .u32 0,.int .i64 0,.int .i64 0,.int .i64 0]) ?_ 6 _ rfl;(with_reducible repeat (first|refine a_e ?_ _|refine a_h ?_|refine a_d ?_ _));refine a_r (cs:=#[.int .i64 0,.int .i64 0,.int .i64 0,.int .i64 0,.int .i64 0,.bool false,.bool false,.int .u32 0,.int .i64 0,.int .i64 0,.int .i64 0]) ?_ 5 _ rfl;(with_reducible repeat (first|refine a_e ?_ _|refine a_h ?_|refine a_d ?_ _));refine a_r (cs:=#[.int .i64 0,.int .i64 0,.int .i64 0,.int .i64 0,.int .i64 0,.bool false,.bool false,.int .u32 0,.int .i64 0,.int .i64 0,.int .i64 0]) ?_ 4 _ rfl;(with_reducible repeat (first|refine a_e ?_ _|refine a_h ?_|refine a_d ?_ _));refine a_r (cs:=#[.int .i64 0,.int .i64 0,.int .i64 0,.int .i64 0,.int .i64 0,.bool false,.bool false,.int .u32 0,.int .i64 0,.int .i64 0,.int .i64 0]) ?_ 3 _ rfl;(with_reducible repeat (first|refine a_e ?_ _|refine a_h ?_|refine a_d ?_ _));refine a_r (cs:=#[.int .i64 0,.int .i64 0,.int .i64 0,.int .i64 0,.int .i64 0,.bool false,.bool false,.int .u32 0,.int .i64 0,.int .i64 0,.int .i64 0]) ?_ 2 _ rfl;(with_reducible repeat (first|refine a_e ?_ _|refine a_h ?_|refine a_d ?_ _));refine a_r (cs:=#[.int .i64 0,.int .i64 0,.int .i64 0,.int .i64 0,.int .i64 0,.bool false,.bool false,.int .u32 0,.int .i64 0,.int .i64 0,.int .i64 0]) ?_ 1 _ rfl;(with_reducible repeat (first|refine a_e ?_ _|refine a_h ?_|refine a_d ?_ _));refine a_r (cs:=#[.int .i64 0,.int .i64 0,.int .i64 0,.int .i64 0,.int .i64 0,.bool false,.bool false,.int .u32 0,.int .i64 0,.int .i64 0,.int .i64 0]) ?_ 0 _ rfl;(with_reducible repeat (first|refine a_e ?_ _|refine a_h ?_|refine a_d ?_ _));exact c_H.out) Tryd.underlying33 rfl (by kernel_rfl)) rfl ?_
  exact ⟨by first|rfl|(simp [a_u,a_v] <;> rfl)|(simp [*, a_u,a_v] <;> rfl),by repeat (first|(with_reducible first|exact HB.out|apply a_j|apply a_f|apply a_k|refine a_i ?_ g_u.out|refine a_i ?_ i_M.out|refine a_i ?_ p_b.out)|exact HB.out)⟩
 rw [if_neg c4] at H
 have c4b0 : decide (t163 < 0) = false:=decide_eq_false c4
 clear c4
 by_cases c14 : 0 ≤ t163
 rotate_left
 ·rw [if_neg c14] at H
  exact absurd H (by simp)
 rw [if_pos c14] at H
 have c14b0 : decide (0 ≤ t163) = true:=decide_eq_true c14
 clear c14
 by_cases c15 : t163 < (l0_1.length : Int)
 rotate_left
 ·rw [if_neg c15] at H
  exact absurd H (by simp)
 rw [if_pos c15] at H
 have c15b0 : decide (t163 < (l0_1.length : Int)) = true:=decide_eq_true c15
 clear c15
 simp only [Option.some.injEq,Prod.mk.injEq] at H
 obtain ⟨rfl,rfl,rfl,rfl,rfl,rfl,rfl,rfl,rfl,rfl,rfl,rfl⟩:=H
 go_enter Tryd.func32,Tryd.ntmps32
 go_wp2_with (first|((with_reducible refine a_G (N:=2) rfl ?_);refine a_C ?hg (N:=2) ?hd (cs:=#[.int .i64 a0_0,.slice A0_1 l0_1.length c0_1]) (t:=24) ?hr ?_;(case hd => rfl);(case hg => rfl);(case hr => first|(go_simp;done)|(go_simp;rfl));intro f_6 hg w16 hbox hb;have d_V:=a_g.mk (hbox);have z_A:=a_g.mk ((by rw [hg];exact (a_n (lup_ HB.out)) : w.heap.size ≤ f_6));have g_u:=a_g.mk ((by rw [hg];exact (a_n (lup_ HB.out)) : w.heap.size ≤ f_6));replace HB:=a_g.mk (a_p (lup_ HB.out) hb);clear hb hbox hg)|((with_reducible refine a_G (N:=3) rfl ?_);refine a_C ?hg (N:=3) ?hd (cs:=#[.int .i64 a1]) (t:=3) ?hr ?_;(case hd => rfl);(case hg => rfl);(case hr => first|(go_simp;done)|(go_simp;rfl));intro g_A hg w17 hbox hb;have g_3:=a_g.mk (hbox);have z_B:=a_g.mk ((by rw [hg];exact (a_n (by repeat (first|(with_reducible first|exact HB.out|apply a_j|apply a_f|apply a_k|refine a_i ?_ g_u.out)|exact HB.out))) : w.heap.size ≤ g_A));have i_M:=a_g.mk ((by rw [hg];exact (a_n (by repeat (first|(with_reducible first|exact HB.out|apply a_j|apply a_f|apply a_k|refine a_i ?_ g_u.out)|exact HB.out))) : w.heap.size ≤ g_A));have i_O:=a_g.mk ((by rw [hg];exact Nat.ne_of_lt (a_L (bup_ d_V.out)) : f_6 ≠ g_A));have i_Q:=a_g.mk ((by rw [hg];exact Nat.ne_of_gt (a_L (bup_ d_V.out)) : g_A ≠ f_6));replace d_V:=a_g.mk (a_m (bup_ d_V.out) hb);replace HB:=a_g.mk (a_p (by repeat (first|(with_reducible first|exact HB.out|apply a_j|apply a_f|apply a_k|refine a_i ?_ g_u.out)|exact HB.out)) hb);clear hb hbox hg)|((with_reducible refine a_G (N:=4) rfl ?_);refine a_C ?hg (N:=4) ?hd (cs:=#[.int .i64 0,.int .i64 0,.int .i64 0,.int .i64 0,.int .i64 0,.bool false,.bool false,.int .u32 0,.int .i64 0,.int .i64 0,.int .i64 0]) (t:=33) ?hr ?_;(case hd => rfl);(case hg => rfl);(case hr => first|(go_simp;done)|(go_simp;rfl));intro d_H hg w18 hbox hb;have c_H:=a_g.mk (hbox);have z_C:=a_g.mk ((by rw [hg];exact (a_n (by repeat (first|(with_reducible first|exact HB.out|apply a_j|apply a_f|apply a_k|refine a_i ?_ g_u.out|refine a_i ?_ i_M.out)|exact HB.out))) : w.heap.size ≤ d_H));have p_b:=a_g.mk ((by rw [hg];exact (a_n (by repeat (first|(with_reducible first|exact HB.out|apply a_j|apply a_f|apply a_k|refine a_i ?_ g_u.out|refine a_i ?_ i_M.out)|exact HB.out))) : w.heap.size ≤ d_H));have i_P:=a_g.mk ((by rw [hg];exact Nat.ne_of_lt (a_L (bup_ d_V.out)) : f_6 ≠ d_H));have i_S:=a_g.mk ((by rw [hg];exact Nat.ne_of_gt (a_L (bup_ d_V.out)) : d_H ≠ f_6));have i_R:=a_g.mk ((by rw [hg];exact Nat.ne_of_lt (a_L (bup_ g_3.out)) : g_A ≠ d_H));have i_T:=a_g.mk ((by rw [hg];exact Nat.ne_of_gt (a_L (bup_ g_3.out)) : d_H ≠ g_A));replace d_V:=a_g.mk (a_m (bup_ d_V.out) hb);replace g_3:=a_g.mk (a_m (bup_ g_3.out) hb);replace HB:=a_g.mk (a_p (by repeat (first|(with_reducible first|exact HB.out|apply a_j|apply a_f|apply a_k|refine a_i ?_ g_u.out|refine a_i ?_ i_M.out)|exact HB.out)) hb);clear hb hbox hg;have x_8:=i_O.out;have y_f:=i_Q.out;have x_9:=i_P.out;have y_g:=i_S.out;have k_i : w18.cell? ⟨f_6,0,none⟩ = some (.int .i64 a0_0):=(a_b d_V.out 0).trans rfl;have k_j : w18.cell? ⟨f_6,1,none⟩ = some (.slice A0_1 l0_1.length c0_1):=(a_b d_V.out 1).trans rfl;have k_M:=a_c d_V.out 0;have k_N:=a_c d_V.out 1)|((with_reducible refine a_J (f:=43) rfl ?_);refine b_t (some 10) rfl rfl Tryd.func43 (by kernel_rfl) rfl #[.slice A0_1 l0_1.length c0_1,.func (.func 44) #[] #[.pointer (some ⟨g_A,0,none⟩)]] rfl (by (try simp only [List.map_toArray,List.map_cons,List.map_nil]);first|done|rfl|(simp only [List.length_drop,List.length_take];rfl)) ?_;(with_reducible refine (b_o.calls _ _ l0_1 g_A a1 t163 _ ?side1 ?side2 ?side3 A3.out).mono ?_);(case side1 => repeat (first|exact (Kd.a_5 b_v.out HB.out)|(with_reducible refine Kd.a_8 ?_ _)|(with_reducible refine Kd.a_9 ?_ _)|(with_reducible refine Kd.b_p ?_)));(case side2 => exact c_b.out);(case side3 => exact (bup_ g_3.out));rintro e w22 ⟨rfl,hb⟩;refine ⟨_,rfl,?_⟩;replace d_V:=a_g.mk (a_m (bup_ d_V.out) hb);replace g_3:=a_g.mk (a_m (bup_ g_3.out) hb);replace c_H:=a_g.mk (a_m (bup_ c_H.out) hb);replace HB:=a_g.mk (a_p (by repeat (first|(with_reducible first|exact HB.out|apply a_j|apply a_f|apply a_k|refine a_i ?_ g_u.out|refine a_i ?_ i_M.out|refine a_i ?_ p_b.out)|exact HB.out)) hb);(try clear hb);(try clear hb2);(try clear hk);(try clear hi);have h_b : w22.cell? ⟨f_6,0,none⟩ = some (.int .i64 a0_0):=(a_b d_V.out 0).trans rfl;have h_d : w22.cell? ⟨f_6,1,none⟩ = some (.slice A0_1 l0_1.length c0_1):=(a_b d_V.out 1).trans rfl;have h_j:=a_c d_V.out 0;have h_k:=a_c d_V.out 1;have p164 : 0 ≤ (t163 : Int):=of_decide_eq_true (by first|(with_reducible assumption)|assumption);have q164 : t163 < (l0_1.length : Int):=of_decide_eq_true (by first|(with_reducible assumption)|assumption);obtain ⟨ad164,e164,n_F,n_G,n_H,n_I,n_J,n_K,n_L,n_M,n_N,n_O,l_e⟩:=c_e b_v.out t163 p164 q164;cases e164;replace n_F:=(HB.out.cell (World.block_lt_of_cell? w _ n_F)).trans n_F;replace n_G:=(HB.out.cell (World.block_lt_of_cell? w _ n_G)).trans n_G;replace n_H:=(HB.out.cell (World.block_lt_of_cell? w _ n_H)).trans n_H;replace n_I:=(HB.out.cell (World.block_lt_of_cell? w _ n_I)).trans n_I;replace n_J:=(HB.out.cell (World.block_lt_of_cell? w _ n_J)).trans n_J;replace n_K:=(HB.out.cell (World.block_lt_of_cell? w _ n_K)).trans n_K;replace n_L:=(HB.out.cell (World.block_lt_of_cell? w _ n_L)).trans n_L;replace n_M:=(HB.out.cell (World.block_lt_of_cell? w _ n_M)).trans n_M;replace n_N:=(HB.out.cell (World.block_lt_of_cell? w _ n_N)).trans n_N;replace n_O:=(HB.out.cell (World.block_lt_of_cell? w _ n_O)).trans n_O;replace l_e:=(HB.out.cell (World.block_lt_of_cell? w _ l_e)).trans l_e;replace p164:=eq_true p164;replace q164:=eq_true q164;have y_b:=i_T.out;have y_i:=i_R.out;have f_7 : w22.cell? ⟨d_H,0,none⟩ = some (.int .i64 0):=(a_b c_H.out 0).trans rfl;have f_8 : w22.cell? ⟨d_H,1,none⟩ = some (.int .i64 0):=(a_b c_H.out 1).trans rfl;have g_C : w22.cell? ⟨d_H,2,none⟩ = some (.int .i64 0):=(a_b c_H.out 2).trans rfl;have g_D : w22.cell? ⟨d_H,3,none⟩ = some (.int .i64 0):=(a_b c_H.out 3).trans rfl;have g_E : w22.cell? ⟨d_H,4,none⟩ = some (.int .i64 0):=(a_b c_H.out 4).trans rfl;have g_F : w22.cell? ⟨d_H,5,none⟩ = some (.bool false):=(a_b c_H.out 5).trans rfl;have g_G : w22.cell? ⟨d_H,6,none⟩ = some (.bool false):=(a_b c_H.out 6).trans rfl;have g_H : w22.cell? ⟨d_H,7,none⟩ = some (.int .u32 0):=(a_b c_H.out 7).trans rfl;have g_I : w22.cell? ⟨d_H,8,none⟩ = some (.int .i64 0):=(a_b c_H.out 8).trans rfl;have g_J : w22.cell? ⟨d_H,9,none⟩ = some (.int .i64 0):=(a_b c_H.out 9).trans rfl;have f_v : w22.cell? ⟨d_H,10,none⟩ = some (.int .i64 0):=(a_b c_H.out 10).trans rfl;have f_9:=a_c c_H.out 0;have g_a:=a_c c_H.out 1;have g_N:=a_c c_H.out 2;have g_O:=a_c c_H.out 3;have g_P:=a_c c_H.out 4;have g_Q:=a_c c_H.out 5;have g_R:=a_c c_H.out 6;have g_S:=a_c c_H.out 7;have g_T:=a_c c_H.out 8;have g_U:=a_c c_H.out 9;have f_w:=a_c c_H.out 10))
 refine bodyPost_ret (c_O rfl _ _ d_H 33 #[.int .i64 ((a_a l0_1 t163).f0),.int .i64 ((a_a l0_1 t163).f1),.int .i64 ((a_a l0_1 t163).f2),.int .i64 ((a_a l0_1 t163).f3),.int .i64 ((a_a l0_1 t163).f4),.bool ((a_a l0_1 t163).f5),.bool ((a_a l0_1 t163).f6),.int .u32 ((a_a l0_1 t163).f7),.int .i64 ((a_a l0_1 t163).f8),.int .i64 ((a_a l0_1 t163).f9),.int .i64 ((a_a l0_1 t163).f10)] (0,0) _ rfl (by (with_reducible repeat (first|refine a_e ?_ _|refine a_h ?_|refine a_d ?_ _));refine a_r (cs:=#[.int .i64 ((a_a l0_1 t163).f0),.int .i64 ((a_a l0_1 t163).f1),.int .i64 ((a_a l0_1 t163).f2),.int .i64 ((a_a l0_1 t163).f3),.int .i64 ((a_a l0_1 t163).f4),.bool ((a_a l0_1 t163).f5),.bool ((a_a l0_1 t163).f6),.int .u32 ((a_a l0_1 t163).f7),.int .i64 ((a_a l0_1 t163).f8),.int .i64 ((a_a l0_1 t163).f9),.int .i64 0]) ?_ 10 _ rfl;(with_reducible repeat (first|refine a_e ?_ _|refine a_h ?_|refine a_d ?_ _));refine a_r (cs:=#[.int .i64 ((a_a l0_1 t163).f0),.int .i64 ((a_a l0_1 t163).f1),.int .i64 ((a_a l0_1 t163).f2),.int .i64 ((a_a l0_1 t163).f3),.int .i64 ((a_a l0_1 t163).f4),.bool ((a_a l0_1 t163).f5),.bool ((a_a l0_1 t163).f6),.int .u32 ((a_a l0_1 t163).f7),.int .i64 ((a_a l0_1 t163).f8),.int .i64 0,.int .i64 0]) ?_ 9 _ rfl;(with_reducible repeat (first|refine a_e ?_ _|refine a_h ?_|refine a_d ?_ _));refine a_r (cs:=#[.int .i64 ((a_a l0_1 t163).f0),.int .i64 ((a_a l0_1 t163).f1),.int .i64 ((a_a l0_1 t163).f2),.int .i64 ((a_a l0_1 t163).f3),.int .i64 ((a_a l0_1 t163).f4),.bool ((a_a l0_1 t163).f5),.bool ((a_a l0_1 t163).f6),.int .u32 ((a_a l0_1 t163).f7),.int .i64 0,.int .i64 0,.int .i64 0]) ?_ 8 _ rfl;(with_reducible repeat (first|refine a_e ?_ _|refine a_h ?_|refine a_d ?_ _));refine a_r (cs:=#[.int .i64 ((a_a l0_1 t163).f0),.int .i64 ((a_a l0_1 t163).f1),.int .i64 ((a_a l0_1 t163).f2),.int .i64 ((a_a l0_1 t163).f3),.int .i64 ((a_a l0_1 t163).f4),.bool ((a_a l0_1 t163).f5),.bool ((a_a l0_1 t163).f6),.int .u32 0,.int .i64 0,.int .i64 0,.int .i64 0]) ?_ 7 _ rfl;(with_reducible repeat (first|refine a_e ?_ _|refine a_h ?_|refine a_d ?_ _));refine a_r (cs:=#[.int .i64 ((a_a l0_1 t163).f0),.int .i64 ((a_a l0_1 t163).f1),.int .i64 ((a_a l0_1 t163).f2),.int .i64 ((a_a l0_1 t163).f3),.int .i64 ((a_a l0_1 t163).f4),.bool ((a_a l0_1 t163).f5),.bool false,.int .u32 0,.int .i64 0,.int .i64 0,.int .i64 0]) ?_ 6 _ rfl;(with_reducible repeat (first|refine a_e ?_ _|refine a_h ?_|refine a_d ?_ _));refine a_r (cs:=#[.int .i64 ((a_a l0_1 t163).f0),.int .i64 ((a_a l0_1 t163).f1),.int .i64 ((a_a l0_1 t163).f2),.int .i64 ((a_a l0_1 t163).f3),.int .i64 ((a_a l0_1 t163).f4),.bool false,.bool false,.int .u32 0,.int .i64 0,.int .i64 0,.int .i64 0]) ?_ 5 _ rfl;(with_reducible repeat (first|refine a_e ?_ _|refine a_h ?_|refine a_d ?_ _));refine a_r (cs:=#[.int .i64 ((a_a l0_1 t163).f0),.int .i64 ((a_a l0_1 t163).f1),.int .i64 ((a_a l0_1 t163).f2),.int .i64 ((a_a l0_1 t163).f3),.int .i64 0,.bool false,.bool false,.int .u32 0,.int .i64 0,.int .i64 0,.int .i64 0]) ?_ 4 _ rfl;(with_reducible repeat (first|refine a_e ?_ _|refine a_h ?_|refine a_d ?_ _));refine a_r (cs:=#[.int .i64 ((a_a l0_1 t163).f0),.int .i64 ((a_a l0_1 t163).f1),.int .i64 ((a_a l0_1 t163).f2),.int .i64 0,.int .i64 0,.bool false,.bool false,.int .u32 0,.int .i64 0,.int .i64 0,.int .i64 0]) ?_ 3 _ rfl;(with_reducible repeat (first|refine a_e ?_ _|refine a_h ?_|refine a_d ?_ _));refine a_r (cs:=#[.int .i64 ((a_a l0_1 t163).f0),.int .i64 ((a_a l0_1 t163).f1),.int .i64 0,.int .i64 0,.int .i64 0,.bool false,.bool false,.int .u32 0,.int .i64 0,.int .i64 0,.int .i64 0]) ?_ 2 _ rfl;(with_reducible repeat (first|refine a_e ?_ _|refine a_h ?_|refine a_d ?_ _));refine a_r (cs:=#[.int .i64 ((a_a l0_1 t163).f0),.int .i64 0,.int .i64 0,.int .i64 0,.int .i64 0,.bool false,.bool false,.int .u32 0,.int .i64 0,.int .i64 0,.int .i64 0]) ?_ 1 _ rfl;(with_reducible repeat (first|refine a_e ?_ _|refine a_h ?_|refine a_d ?_ _));refine a_r (cs:=#[.int .i64 0,.int .i64 0,.int .i64 0,.int .i64 0,.int .i64 0,.bool false,.bool false,.int .u32 0,.int .i64 0,.int .i64 0,.int .i64 0]) ?_ 0 _ rfl;(with_reducible repeat (first|refine a_e ?_ _|refine a_h ?_|refine a_d ?_ _));exact c_H.out) Tryd.underlying33 rfl (by kernel_rfl)) rfl ?_
 exact ⟨by first|rfl|(simp [a_u,a_v] <;> rfl)|(simp [*, a_u,a_v] <;> rfl),by repeat (first|(with_reducible first|exact HB.out|apply a_j|apply a_f|apply a_k|refine a_i ?_ g_u.out|refine a_i ?_ i_M.out|refine a_i ?_ p_b.out)|exact HB.out)⟩
end Go.Proofs.YtgglkfilkagblaaDoor.Q
end
section
namespace Go.Proofs.YtgglkfilkagblaaDoor.Q
open Go.RowKit Go.Proofs.YtgglkfilkagblaaDoorW.PrintWords Go.Proofs.YtgglkfilkagblaaDoorW.PrintLast Go.Proofs.YtgglkfilkagblaaDoorW.PrintMore
set_option linter.unusedVariables false
set_option linter.unusedSimpArgs false
section
attribute [local go_sem] Oper.semAt_some
def a_X (l : List S33) (v : Int) : S33 × Bool:=if idxOf (fun s => s.f0 == v) l < 0 then (z33,false) else (a_a l (idxOf (fun s => s.f0 == v) l),true)
theorem s_o {α : Type} (p : α → Bool) (xs : List α) : idxOf p xs < (xs.length : Int):=by
 unfold idxOf
 cases h : xs.findIdx? p with
 | none => simp only [];omega
 | some i =>
  rw [List.findIdx?_eq_some_iff_getElem] at h
  obtain ⟨hi,_⟩:=h
  simp only [];omega
theorem p_y (a : Int) (l : List S33) (v : Int) (hl : l.length ≤ 1099511627776) : d_n.f a l v = some ((a_X l v).1.f0,(a_X l v).1.f1,(a_X l v).1.f2,(a_X l v).1.f3,(a_X l v).1.f4,(a_X l v).1.f5,(a_X l v).1.f6,(a_X l v).1.f7,(a_X l v).1.f8,(a_X l v).1.f9,(a_X l v).1.f10,(a_X l v).2):=by
 have hlt:=s_o (fun s : S33 => s.f0 == v) l
 unfold d_n.f b_o.f a_X
 rw [if_pos hl,Option.bind_some]
 by_cases h : idxOf (fun s : S33 => s.f0 == v) l < 0
 ·rw [if_pos h,if_pos h];rfl
 rw [if_neg h,if_neg h,if_pos (by omega),if_pos hlt]
def ranB (xs : List S24) (en v frm tt : Int) (n : Int) (j : Nat) : Int:=if (a_X (a_w xs (j : Int)).f1 v).2 = true ∧ -1 < (a_X (a_w xs (j : Int)).f1 v).1.f4 then wrap64 (n + mx (wrap64 (mn (c_L xs en j) tt - mx (a_w xs (j : Int)).f0 frm)) 0) else n
def c_c.f (k : Nat) (l0_0 : List S24) (a0_1 a1 a2 a3 : Int) : Option (Int × Int):=(a_D.f k l0_0 a0_1).bind fun e => if e = 0 then (if a2 < 0 then some (0,2) else if 1125899906842624 < a3 then some (0,2) else if a3 < a2 then some (0,2) else if l0_0.length ≤ 4398046511104 ∧ ∀ m ∈ l0_0,m.f1.length ≤ 1099511627776 then some ((List.range l0_0.length).foldl (ranB l0_0 a0_1 a1 a2 a3) 0,0) else none) else some (0,390)
theorem f_d {W W' : World} {row : Option Nat} {B g t : Nat} {cs : Array Value} {fr : Nat × Nat} (h : W.heap[g]? = some (.cells cs t fr)) (hg : W.grownBy W' row) (hr : ∀ r,row = some r → B ≤ r ∧ ∃ o : Obj,W.heap[r]? = some o ∧ o.isCells = false) : W'.heap[g]? = some (.cells cs t fr) :=
 (hg.block g (a_L h) (fun e => by
  obtain ⟨_,o,ho,hc⟩:=hr g e.symm
  rw [h] at ho
  cases ho
  cases hc)).trans h
theorem b_3 {B : Nat} {W W' : World} (h : Below W.heap.size W W') : KeepsFrom B W W':=⟨h.size,fun k o _ hk _ => (h.block k (a_L hk)).trans hk⟩
theorem c_c.mono : ∀ a0 a1 a2 a3 a4 k,LeO (c_c.f k a0 a1 a2 a3 a4) (c_c.f (k + 1) a0 a1 a2 a3 a4):=fun a0 a1 a2 a3 a4 k => LeO.bind (a_D.mono _ _ _) (fun _ => LeO.refl _)
theorem y_o {a b : Int} (h : b < a) : mn a b = b:=by unfold mn;split <;> omega
theorem y_p {a b : Int} (h : a ≤ b) : mn a b = a:=by unfold mn;split <;> omega
theorem s_P {a b : Int} (h : a < b) : mx a b = b:=by unfold mx;split <;> omega
theorem s_O {a b : Int} (h : b ≤ a) : mx a b = a:=by unfold mx;split <;> omega
structure RanI (w w1 : World) (a1 a2 a3 v : Int) (W : World) : Prop where
 b0 : W.heap[w1.heap.size]? = some (.cells #[.int .i64 v] 2 (0,0))
 b1 : W.heap[w.heap.size + 1]? = some (.cells #[.int .i64 a1] 3 (0,0))
 b2 : W.heap[w.heap.size + 1 + 1]? = some (.cells #[.int .i64 a2] 2 (0,0))
 b3 : W.heap[w.heap.size + 1 + 1 + 1]? = some (.cells #[.int .i64 a3] 2 (0,0))
 b4 : w1.heap.size + 1 < W.heap.size
 below : Below w.heap.size w W
set_option maxRecDepth 100000 in
set_option maxHeartbeats 4000000 in
theorem c_c.sums (k : Nat) (A0_0 : Option Addr) (c0_0 : Nat) (l0_0 : List S24) (a0_1 a1 a2 a3 : Int) (w : World) (hr0_0 : Kd.C k24 w A0_0 l0_0.length l0_0) (hc0_0 : l0_0.length ≤ c0_0) (he : a_D.f k l0_0 a0_1 = some 0) (h1 : ¬ a2 < 0) (h2 : ¬ 1125899906842624 < a3) (h3 : ¬ a3 < a2) (hl : l0_0.length ≤ 4398046511104) (hm : ∀ m ∈ l0_0,m.f1.length ≤ 1099511627776) :
 Calls Tryd.prog 17 #[.agg #[.slice A0_0 l0_0.length c0_0,.int .i64 a0_1],.int .i64 a1,.int .i64 a2,.int .i64 a3] w fun e w' => e = .returned (.tuple #[.int .i64 ((List.range l0_0.length).foldl (ranB l0_0 a0_1 a1 a2 a3) 0),.int .i64 0]) ∧ Below w.heap.size w w':=by
 have HR:=a_g.mk hr0_0
 have HE:=a_g.mk he
 have HM:=a_g.mk hm
 clear hr0_0 he hm
 have g1 : decide (a2 < 0) = false:=decide_eq_false h1
 have g2 : decide (1125899906842624 < a3) = false:=decide_eq_false h2
 have g3 : decide (a3 < a2) = false:=decide_eq_false h3
 clear h1 h2 h3
 have q0:=a_g.mk (a_d (a_d (a_d (d_a w (.cells #[.slice A0_0 l0_0.length c0_0,.int .i64 a0_1] 37)) (.cells #[.int .i64 a1] 3)) (.cells #[.int .i64 a2] 2)) (.cells #[.int .i64 a3] 2))
 have q1:=a_g.mk (a_d (a_d (d_a (w.alloc (.cells #[.slice A0_0 l0_0.length c0_0,.int .i64 a0_1] 37)) (.cells #[.int .i64 a1] 3)) (.cells #[.int .i64 a2] 2)) (.cells #[.int .i64 a3] 2))
 have q2:=a_g.mk (a_d (d_a ((w.alloc (.cells #[.slice A0_0 l0_0.length c0_0,.int .i64 a0_1] 37)).alloc (.cells #[.int .i64 a1] 3)) (.cells #[.int .i64 a2] 2)) (.cells #[.int .i64 a3] 2))
 have q3:=a_g.mk (d_a (((w.alloc (.cells #[.slice A0_0 l0_0.length c0_0,.int .i64 a0_1] 37)).alloc (.cells #[.int .i64 a1] 3)).alloc (.cells #[.int .i64 a2] 2)) (.cells #[.int .i64 a3] 2))
 have qB:=a_g.mk (a_j (a_j (a_j (a_j (Below.refl w.heap.size w) (.cells #[.slice A0_0 l0_0.length c0_0,.int .i64 a0_1] 37)) (.cells #[.int .i64 a1] 3)) (.cells #[.int .i64 a2] 2)) (.cells #[.int .i64 a3] 2))
 simp only [World.size_alloc] at q0 q1 q2 q3
 refine (callsIn_wide (n:=9)).1 ?_
 refine callsIn_of_wp_marks Tryd.func17 rfl trivial ?_ rfl
 simp only [Tryd.ntmps17,List.size_toArray,List.length_cons,List.length_nil,Nat.reduceAdd,Nat.reduceSub,Array.replicate_succ,Array.replicate_zero,List.push_toArray,List.append_toArray,List.nil_append,List.cons_append]
 gi_wp2_with (first
  | (refine ⟨trivial,?_⟩;gi_at_call 29;refine (callsIn_wide.2 (a_D.calls k _ _ l0_0 a0_1 0 _ ?s1 hc0_0 HE.out)).mono ?_;(case s1 => exact Kd.a_5 HR.out qB.out);rintro e w1 ⟨rfl,hb⟩;have HB:=a_g.mk (a_p qB.out hb);have p0:=a_g.mk (a_m q0.out hb);have p1:=a_g.mk (a_m q1.out hb);have p2:=a_g.mk (a_m q2.out hb);have p3:=a_g.mk (a_m q3.out hb);clear hb;have r0 : w1.cell? ⟨w.heap.size,0,none⟩ = some (.slice A0_0 l0_0.length c0_0):=(a_b p0.out 0).trans rfl;have r1 : w1.cell? ⟨w.heap.size,1,none⟩ = some (.int .i64 a0_1):=(a_b p0.out 1).trans rfl;have r2 : w1.cell? ⟨w.heap.size + 1 + 1,0,none⟩ = some (.int .i64 a2):=(a_b p2.out 0).trans rfl;have r3 : w1.cell? ⟨w.heap.size + 1 + 1 + 1,0,none⟩ = some (.int .i64 a3):=(a_b p3.out 0).trans rfl;have z0:=a_L p0.out;have z2:=a_L p2.out;have z3:=a_L p3.out)
  | (refine ⟨trivial,?_⟩;gi_at_call 31;refine (callsIn_wide.2 (l_M.calls _ _ _ _ _)).mono ?_;rintro e w' ⟨rfl,rfl⟩))
 have n0:=a_g.mk (a_d (d_a w1 (.cells #[.int .i64 0] 2)) (.cells #[.slice A0_0 l0_0.length c0_0,.int .i64 a0_1] 37))
 have n1:=a_g.mk (d_a (w1.alloc (.cells #[.int .i64 0] 2)) (.cells #[.slice A0_0 l0_0.length c0_0,.int .i64 a0_1] 37))
 have n2:=a_g.mk (a_d (a_d p1.out (.cells #[.int .i64 0] 2)) (.cells #[.slice A0_0 l0_0.length c0_0,.int .i64 a0_1] 37))
 have n3:=a_g.mk (a_d (a_d p2.out (.cells #[.int .i64 0] 2)) (.cells #[.slice A0_0 l0_0.length c0_0,.int .i64 a0_1] 37))
 have n4:=a_g.mk (a_d (a_d p3.out (.cells #[.int .i64 0] 2)) (.cells #[.slice A0_0 l0_0.length c0_0,.int .i64 a0_1] 37))
 have nB:=a_g.mk (a_j (a_j HB.out (.cells #[.int .i64 0] 2)) (.cells #[.slice A0_0 l0_0.length c0_0,.int .i64 a0_1] 37))
 have hsz : ((w1.alloc (.cells #[.int .i64 0] 2)).alloc (.cells #[.slice A0_0 l0_0.length c0_0,.int .i64 a0_1] 37)).heap.size = w1.heap.size + 1 + 1:=by simp
 simp only [World.size_alloc] at n0 n1 n2 n3 n4
 have hws:=HB.out.size
 clear q0 q1 q2 q3 p0 p1 p2 p3 r0 r1 r2 r3 qB HB
 obtain ⟨W2,hW2⟩ : ∃ W2,(w1.alloc (.cells #[.int .i64 0] 2)).alloc (.cells #[.slice A0_0 l0_0.length c0_0,.int .i64 a0_1] 37) = W2:=⟨_,rfl⟩
 rw [hW2] at n0 n1 n2 n3 n4 nB hsz ⊢
 clear hW2
 obtain ⟨ad,am,cm,hA,hMs⟩ : ∃ ad am cm,(0 < l0_0.length → A0_0 = some ad) ∧ i_t l0_0 ad am cm w:=by
  by_cases h : 0 < l0_0.length
  ·obtain ⟨ad,am,cm,e,hm⟩:=l_Z HR.out h
   exact ⟨ad,am,cm,fun _ => e,hm⟩
  exact ⟨⟨0,0,none⟩,fun _ => none,fun _ => 0,fun h' => absurd h' h,fun j hj => absurd (Nat.lt_of_le_of_lt (Nat.zero_le _) hj) h⟩
 have HMS:=a_g.mk hMs
 have hAA:=a_g.mk hA
 clear hMs hA
 refine wpIn_rangeFunc_ownH rfl (by omega) (gf:=41) (lb:=#[.pointer (some ⟨w1.heap.size + 1,0,none⟩)]) rfl trivial (enters_of Tryd.func41 (by kernel_rfl) rfl)
  (encs:=fun x : Fin l0_0.length => #[momV l0_0 am cm x.val,.agg #[.int .i64 (a_w l0_0 (x.val : Int)).f0,.int .i64 (c_L l0_0 a0_1 x.val)]]) (Kp:=KpB w.heap.size (w1.heap.size + 1)) (S:=fun ys => ys = List.finRange l0_0.length) (Sp:=fun _ => True) (N:=l0_0.length) (w0:=W2)
  (fun l J Jx W hW hJ hJx hY h0 => h_X 8 (by omega) l (w1.heap.size + 1) w.heap.size A0_0 ad c0_0 l0_0 a0_1 hl am cm J Jx hY w W hJ rfl (nB.out.trans (hW.mono nB.out.size)) hAA.out ((hW.block _ (a_L n1.out)).trans n1.out) HMS.out hc0_0 HR.out h0)
  (fun h k => ⟨h.1.trans k.1,k.2.trans h.2⟩) (fun W l o o' hl' hh hc hk => ⟨belowK_b (w:=W2) nB.out.size W l o o' hl' hh hc hk,(grownBy_putObj' W l o').block _ (by have:=a_L hh;omega) (by intro e;cases e;omega)⟩) (Below.refl _ _) (fun _ => rfl)
  (fun pre W => RanI w w1 a1 a2 a3 ((pre.map (·.val)).foldl (ranB l0_0 a0_1 a1 a2 a3) 0) W)
  (fun _ _ _ => False)
  (fun s A B row hs hg hr => ⟨f_d hs.b0 hg hr,f_d hs.b1 hg hr,f_d hs.b2 hg hr,f_d hs.b3 hg hr,Nat.lt_of_lt_of_le hs.b4 hg.size,hs.below.grown hg hs.below.size (fun k e => Nat.le_trans nB.out.size (hr k e).1)⟩)
  (fun _ _ _ _ _ hs _ _ => hs)
  ⟨n0.out,n2.out,n3.out,n4.out,by omega,nB.out⟩
  (fun x a' W => ∃ Bm Bs : Nat,W.heap[Bm]? = some (.cells #[.int .i64 (a_w l0_0 (x.val : Int)).f0,.slice (am x.val) (a_w l0_0 (x.val : Int)).f1.length (cm x.val)] 24 (0,0)) ∧ W.heap[Bs]? = some (.cells #[.int .i64 (a_w l0_0 (x.val : Int)).f0,.int .i64 (c_L l0_0 a0_1 x.val)] 49 (0,0)) ∧ a' = { tmps:=#[.agg #[.slice A0_0 l0_0.length c0_0,.int .i64 a0_1],.int .i64 a1,.int .i64 a2,.int .i64 a3,.pointer (some ⟨w.heap.size,0,none⟩),.pointer (some ⟨w.heap.size + 1,0,none⟩),.pointer (some ⟨w.heap.size + 1 + 1,0,none⟩),.pointer (some ⟨w.heap.size + 1 + 1 + 1,0,none⟩),.int .i64 0,.int .i64 0,.pointer (some ⟨w1.heap.size,0,none⟩),.pointer (some ⟨Bm,0,none⟩),.pointer (some ⟨Bs,0,none⟩),undef,undef,.bool false,.agg #[.slice A0_0 l0_0.length c0_0,.int .i64 a0_1],.int .i64 0,.bool false,.bool false,.int .i64 a2,.bool false,.bool false,.int .i64 a3,.bool false,.bool false,.bool false,.int .i64 a2,.int .i64 a3,.bool false,.bool false,.agg #[.slice A0_0 l0_0.length c0_0,.int .i64 a0_1],.func (.func 41) #[] #[.pointer (some ⟨w1.heap.size + 1,0,none⟩)],momV l0_0 am cm x.val,.agg #[.int .i64 (a_w l0_0 (x.val : Int)).f0,.int .i64 (c_L l0_0 a0_1 x.val)],undef,undef,undef,undef,undef,undef,undef,undef,undef,undef,undef,undef,undef,undef,undef,undef,undef,undef,undef,undef,undef,undef,undef,undef,undef],defers:=[] })
  (fun x a' s A B row hs hg hr => by obtain ⟨Bm,Bs,h1,h2,h3⟩:=hs;exact ⟨Bm,Bs,f_d h1 hg hr,f_d h2 hg hr,h3⟩) ?assign ?body ?done ?stop
 case assign =>
  rintro l pre x W K ⟨b0,b1,b2,b3,b4,hB⟩ hK
  simp only [momV]
  have i0:=a_g.mk b0
  have i1:=a_g.mk b1
  have i2:=a_g.mk b2
  have i3:=a_g.mk b3
  have iB:=a_g.mk hB
  have iK:=a_g.mk hK
  clear b0 b1 b2 b3 hB hK
  gi_wp2
  have u:=a_j (a_j (Below.refl W.heap.size W) (.cells #[.int .i64 (a_w l0_0 (x.val : Int)).f0,.slice (am x.val) (a_w l0_0 (x.val : Int)).f1.length (cm x.val)] 24)) (.cells #[.int .i64 (a_w l0_0 (x.val : Int)).f0,.int .i64 (c_L l0_0 a0_1 x.val)] 49)
  exact iK.out _ _ (b_3 u) ⟨u.mono iB.out.size,u.block _ b4⟩ ⟨a_m i0.out u,a_m i1.out u,a_m i2.out u,a_m i3.out u,Nat.lt_of_lt_of_le b4 u.size,iB.out.trans (u.mono iB.out.size)⟩ ⟨_,_,a_d (d_a W _) _,by have:=d_a (W.alloc (.cells #[.int .i64 (a_w l0_0 (x.val : Int)).f0,.slice (am x.val) (a_w l0_0 (x.val : Int)).f1.length (cm x.val)] 24)) (.cells #[.int .i64 (a_w l0_0 (x.val : Int)).f0,.int .i64 (c_L l0_0 a0_1 x.val)] 49);rwa [World.size_alloc] at this,rfl⟩
 case body =>
  rintro l pre x a' W hl' _ ⟨b0,b1,b2,b3,b4,hB⟩ ⟨Bm,Bs,bm,bs,rfl⟩ hlt
  simp only [momV]
  have hmx:=HMS.out x.val x.isLt
  have hsm : (a_w l0_0 (x.val : Int)).f1.length ≤ 1099511627776:=HM.out _ (by unfold a_w;simp)
  have IF:=a_g.mk (p_y (a_w l0_0 (x.val : Int)).f0 (a_w l0_0 (x.val : Int)).f1 a1 hsm)
  have iC:=a_g.mk (Kd.a_5 hmx.2.2.2 hB)
  have iL:=hmx.2.2.1
  clear hmx hsm
  have c0:=(a_b bm 0).trans rfl
  have c1:=(a_b bm 1).trans rfl
  have c2:=(a_b b1 0).trans rfl
  have iN : ((pre ++ [x]).map (·.val)).foldl (ranB l0_0 a0_1 a1 a2 a3) 0 = ranB l0_0 a0_1 a1 a2 a3 ((pre.map (·.val)).foldl (ranB l0_0 a0_1 a1 a2 a3) 0) x.val:=by simp
  generalize hn : (pre.map (·.val)).foldl (ranB l0_0 a0_1 a1 a2 a3) 0 = nn at b0 iN
  clear hn
  have IN:=a_g.mk iN
  have i0:=a_g.mk b0
  have i1:=a_g.mk b1
  have i2:=a_g.mk b2
  have i3:=a_g.mk b3
  have is:=a_g.mk bs
  have iB:=a_g.mk hB
  clear b0 b1 b2 b3 hB bm bs iN
  cases hb : (a_X (a_w l0_0 (x.val : Int)).f1 a1).2 with
  | false =>
   rw [hb] at IF
   have IH:=a_g.mk hb
   clear hb
   gi_wp2_with (refine ⟨trivial,?_⟩;gi_at_call 32;refine (CallsIn.inRound l (callsIn_wide.2 (d_n.calls _ _ _ _ _ _ _ _ _ _ _ _ _ _ _ _ _ _ iC.out iL IF.out))).mono ?_;rintro e w' ⟨rfl,hb⟩;have IB2:=a_g.mk hb;clear hb)
   have u:=a_j IB2.out (.cells #[.int .i64 (a_X (a_w l0_0 (x.val : Int)).f1 a1).1.f0,.int .i64 (a_X (a_w l0_0 (x.val : Int)).f1 a1).1.f1,.int .i64 (a_X (a_w l0_0 (x.val : Int)).f1 a1).1.f2,.int .i64 (a_X (a_w l0_0 (x.val : Int)).f1 a1).1.f3,.int .i64 (a_X (a_w l0_0 (x.val : Int)).f1 a1).1.f4,.bool (a_X (a_w l0_0 (x.val : Int)).f1 a1).1.f5,.bool (a_X (a_w l0_0 (x.val : Int)).f1 a1).1.f6,.int .u32 (a_X (a_w l0_0 (x.val : Int)).f1 a1).1.f7,.int .i64 (a_X (a_w l0_0 (x.val : Int)).f1 a1).1.f8,.int .i64 (a_X (a_w l0_0 (x.val : Int)).f1 a1).1.f9,.int .i64 (a_X (a_w l0_0 (x.val : Int)).f1 a1).1.f10] 33)
   have e : ranB l0_0 a0_1 a1 a2 a3 nn x.val = nn:=by unfold ranB;rw [IH.out];simp
   exact ⟨b_3 u,⟨u.mono iB.out.size,u.block _ b4⟩,⟨by rw [IN.out,e];exact a_m i0.out u,a_m i1.out u,a_m i2.out u,a_m i3.out u,Nat.lt_of_lt_of_le b4 u.size,iB.out.trans (u.mono iB.out.size)⟩⟩
  | true =>
   rw [hb] at IF
   have IH:=a_g.mk hb
   clear hb
   cases hd : decide (-1 < (a_X (a_w l0_0 (x.val : Int)).f1 a1).1.f4) with
   | false =>
    gi_wp2_with (refine ⟨trivial,?_⟩;gi_at_call 32;refine (CallsIn.inRound l (callsIn_wide.2 (d_n.calls _ _ _ _ _ _ _ _ _ _ _ _ _ _ _ _ _ _ iC.out iL IF.out))).mono ?_;rintro e w' ⟨rfl,hb⟩;have IB2:=a_g.mk hb;clear hb)
    have u:=a_j IB2.out (.cells #[.int .i64 (a_X (a_w l0_0 (x.val : Int)).f1 a1).1.f0,.int .i64 (a_X (a_w l0_0 (x.val : Int)).f1 a1).1.f1,.int .i64 (a_X (a_w l0_0 (x.val : Int)).f1 a1).1.f2,.int .i64 (a_X (a_w l0_0 (x.val : Int)).f1 a1).1.f3,.int .i64 (a_X (a_w l0_0 (x.val : Int)).f1 a1).1.f4,.bool (a_X (a_w l0_0 (x.val : Int)).f1 a1).1.f5,.bool (a_X (a_w l0_0 (x.val : Int)).f1 a1).1.f6,.int .u32 (a_X (a_w l0_0 (x.val : Int)).f1 a1).1.f7,.int .i64 (a_X (a_w l0_0 (x.val : Int)).f1 a1).1.f8,.int .i64 (a_X (a_w l0_0 (x.val : Int)).f1 a1).1.f9,.int .i64 (a_X (a_w l0_0 (x.val : Int)).f1 a1).1.f10] 33)
    have e : ranB l0_0 a0_1 a1 a2 a3 nn x.val = nn:=by unfold ranB;rw [if_neg (fun h => of_decide_eq_false hd h.2)]
    exact ⟨b_3 u,⟨u.mono iB.out.size,u.block _ b4⟩,⟨by rw [IN.out,e];exact a_m i0.out u,a_m i1.out u,a_m i2.out u,a_m i3.out u,Nat.lt_of_lt_of_le b4 u.size,iB.out.trans (u.mono iB.out.size)⟩⟩
   | true =>
    gi_wp2_with (refine ⟨trivial,?_⟩;gi_at_call 32;refine (CallsIn.inRound l (callsIn_wide.2 (d_n.calls _ _ _ _ _ _ _ _ _ _ _ _ _ _ _ _ _ _ iC.out iL IF.out))).mono ?_;rintro e w' ⟨rfl,hb⟩;have s0 : w'.cell? ⟨Bs,0,none⟩ = some (.int .i64 (a_w l0_0 (x.val : Int)).f0):=(a_b (a_m is.out hb) 0).trans rfl;have s1 : w'.cell? ⟨Bs,1,none⟩ = some (.int .i64 (c_L l0_0 a0_1 x.val)):=(a_b (a_m is.out hb) 1).trans rfl;have s2 : w'.cell? ⟨w1.heap.size,0,none⟩ = some (.int .i64 nn):=(a_b (a_m i0.out hb) 0).trans rfl;have s3 : w'.cell? ⟨w.heap.size + 1 + 1,0,none⟩ = some (.int .i64 a2):=(a_b (a_m i2.out hb) 0).trans rfl;have s4 : w'.cell? ⟨w.heap.size + 1 + 1 + 1,0,none⟩ = some (.int .i64 a3):=(a_b (a_m i3.out hb) 0).trans rfl;have sf:=a_c (a_m i0.out hb) 0;have y0:=a_L (a_m is.out hb);have y1:=a_L (a_m i0.out hb);have y2:=a_L (a_m i2.out hb);have y3:=a_L (a_m i3.out hb);have IB2:=a_g.mk hb;clear hb)
    all_goals
     have key : ∀ (B : Nat) (v : Int),ranB l0_0 a0_1 a1 a2 a3 nn x.val = v → KeepsFrom B W ((w'.setCell ⟨w1.heap.size,0,none⟩ (.int .i64 v)).alloc (.cells #[.int .i64 (a_X (a_w l0_0 (x.val : Int)).f1 a1).1.f0,.int .i64 (a_X (a_w l0_0 (x.val : Int)).f1 a1).1.f1,.int .i64 (a_X (a_w l0_0 (x.val : Int)).f1 a1).1.f2,.int .i64 (a_X (a_w l0_0 (x.val : Int)).f1 a1).1.f3,.int .i64 (a_X (a_w l0_0 (x.val : Int)).f1 a1).1.f4,.bool (a_X (a_w l0_0 (x.val : Int)).f1 a1).1.f5,.bool (a_X (a_w l0_0 (x.val : Int)).f1 a1).1.f6,.int .u32 (a_X (a_w l0_0 (x.val : Int)).f1 a1).1.f7,.int .i64 (a_X (a_w l0_0 (x.val : Int)).f1 a1).1.f8,.int .i64 (a_X (a_w l0_0 (x.val : Int)).f1 a1).1.f9,.int .i64 (a_X (a_w l0_0 (x.val : Int)).f1 a1).1.f10] 33)) ∧ KpB w.heap.size (w1.heap.size + 1) W ((w'.setCell ⟨w1.heap.size,0,none⟩ (.int .i64 v)).alloc (.cells #[.int .i64 (a_X (a_w l0_0 (x.val : Int)).f1 a1).1.f0,.int .i64 (a_X (a_w l0_0 (x.val : Int)).f1 a1).1.f1,.int .i64 (a_X (a_w l0_0 (x.val : Int)).f1 a1).1.f2,.int .i64 (a_X (a_w l0_0 (x.val : Int)).f1 a1).1.f3,.int .i64 (a_X (a_w l0_0 (x.val : Int)).f1 a1).1.f4,.bool (a_X (a_w l0_0 (x.val : Int)).f1 a1).1.f5,.bool (a_X (a_w l0_0 (x.val : Int)).f1 a1).1.f6,.int .u32 (a_X (a_w l0_0 (x.val : Int)).f1 a1).1.f7,.int .i64 (a_X (a_w l0_0 (x.val : Int)).f1 a1).1.f8,.int .i64 (a_X (a_w l0_0 (x.val : Int)).f1 a1).1.f9,.int .i64 (a_X (a_w l0_0 (x.val : Int)).f1 a1).1.f10] 33)) ∧ RanI w w1 a1 a2 a3 (((pre ++ [x]).map (·.val)).foldl (ranB l0_0 a0_1 a1 a2 a3) 0) ((w'.setCell ⟨w1.heap.size,0,none⟩ (.int .i64 v)).alloc (.cells #[.int .i64 (a_X (a_w l0_0 (x.val : Int)).f1 a1).1.f0,.int .i64 (a_X (a_w l0_0 (x.val : Int)).f1 a1).1.f1,.int .i64 (a_X (a_w l0_0 (x.val : Int)).f1 a1).1.f2,.int .i64 (a_X (a_w l0_0 (x.val : Int)).f1 a1).1.f3,.int .i64 (a_X (a_w l0_0 (x.val : Int)).f1 a1).1.f4,.bool (a_X (a_w l0_0 (x.val : Int)).f1 a1).1.f5,.bool (a_X (a_w l0_0 (x.val : Int)).f1 a1).1.f6,.int .u32 (a_X (a_w l0_0 (x.val : Int)).f1 a1).1.f7,.int .i64 (a_X (a_w l0_0 (x.val : Int)).f1 a1).1.f8,.int .i64 (a_X (a_w l0_0 (x.val : Int)).f1 a1).1.f9,.int .i64 (a_X (a_w l0_0 (x.val : Int)).f1 a1).1.f10] 33))   := fun B v e => by
      have u0:=IB2.out
      have h1 : Below w.heap.size W (w'.setCell ⟨w1.heap.size,0,none⟩ (.int .i64 v)):=(u0.mono iB.out.size).setCell (p:=⟨w1.heap.size,0,none⟩) hws _
      have h2:=h1.alloc (Nat.le_trans iB.out.size h1.size) (.cells #[.int .i64 (a_X (a_w l0_0 (x.val : Int)).f1 a1).1.f0,.int .i64 (a_X (a_w l0_0 (x.val : Int)).f1 a1).1.f1,.int .i64 (a_X (a_w l0_0 (x.val : Int)).f1 a1).1.f2,.int .i64 (a_X (a_w l0_0 (x.val : Int)).f1 a1).1.f3,.int .i64 (a_X (a_w l0_0 (x.val : Int)).f1 a1).1.f4,.bool (a_X (a_w l0_0 (x.val : Int)).f1 a1).1.f5,.bool (a_X (a_w l0_0 (x.val : Int)).f1 a1).1.f6,.int .u32 (a_X (a_w l0_0 (x.val : Int)).f1 a1).1.f7,.int .i64 (a_X (a_w l0_0 (x.val : Int)).f1 a1).1.f8,.int .i64 (a_X (a_w l0_0 (x.val : Int)).f1 a1).1.f9,.int .i64 (a_X (a_w l0_0 (x.val : Int)).f1 a1).1.f10] 33)
      refine ⟨((b_3 u0).trans ((KeepsOthers.setCell w' ⟨w1.heap.size,0,none⟩ (.int .i64 v)).from _)).trans ((KeepsOthers.alloc _ _).from _),⟨h2,?_⟩,⟨a_d (by rw [IN.out,e];exact a_r (a_m i0.out u0) 0 _ rfl) _,a_d (a_o (a_m i1.out u0) (by show w.heap.size + 1 ≠ w1.heap.size;omega) _) _,a_d (a_o (a_m i2.out u0) (by show w.heap.size + 1 + 1 ≠ w1.heap.size;omega) _) _,a_d (a_o (a_m i3.out u0) (by show w.heap.size + 1 + 1 + 1 ≠ w1.heap.size;omega) _) _,Nat.lt_of_lt_of_le b4 h2.size,iB.out.trans h2⟩⟩
      rw [Below.heap_alloc _ _ _ (by have:=u0.size;simp only [World.setCell,Array.size_modify];omega),Below.heap_setCell _ _ _ _ (by show w1.heap.size + 1 ≠ w1.heap.size;omega)]
      exact u0.block _ b4
     refine key _ _ ?_
     unfold ranB
     rw [if_pos ⟨IH.out,of_decide_eq_true hd⟩]
     (first|rw [y_o (by assumption)]|rw [y_p (by assumption)])
     (first|rw [s_P (a:=(a_w l0_0 (x.val : Int)).f0) (by assumption)]|rw [s_O (a:=(a_w l0_0 (x.val : Int)).f0) (by assumption)])
     (first|rw [s_P (by assumption),Int.add_zero]|rw [s_O (by assumption)])
 case done =>
  rintro D ys W hD rfl ⟨b0,b1,b2,b3,b4,hB⟩ hK
  have hv : ((List.finRange l0_0.length).map (·.val)).foldl (ranB l0_0 a0_1 a1 a2 a3) 0 = (List.range l0_0.length).foldl (ranB l0_0 a0_1 a1 a2 a3) 0:=by
   congr 1
   apply List.ext_getElem
   ·simp
   intro i h1 h2;simp
  rw [hv] at b0
  have c0 : W.cell? ⟨w1.heap.size,0,none⟩ = some (.int .i64 ((List.range l0_0.length).foldl (ranB l0_0 a0_1 a1 a2 a3) 0)):=(a_b b0 0).trans rfl
  clear b0 b1 b2 b3 hv
  gi_wp2
  refine ⟨by simp,.inl ⟨_,_,rfl,run_takeDeferred hK,?_⟩⟩
  exact ⟨.tuple #[.int .i64 ((List.range l0_0.length).foldl (ranB l0_0 a0_1 a1 a2 a3) 0),.int .i64 0],by simp [results,Tryd.results17,go_sem],rfl,hB.trans (belowK_b (w:=w) (Nat.le_refl _) W D _ _ (by have:=nB.out.size;omega) hK rfl rfl)⟩
 case stop =>
  rintro D c pre W _ _ h _
  exact h.elim
set_option maxHeartbeats 2000000 in
theorem c_c.errs (k : Nat) (A0_0 : Option Addr) (c0_0 : Nat) (l0_0 : List S24) (a0_1 a1 a2 a3 : Int) (e r : Int) (w : World) (hr0_0 : Kd.C k24 w A0_0 l0_0.length l0_0) (hc0_0 : l0_0.length ≤ c0_0) (he : a_D.f k l0_0 a0_1 = some e) (hr : (e ≠ 0 ∧ r = 390) ∨ (e = 0 ∧ (a2 < 0 ∨ 1125899906842624 < a3 ∨ a3 < a2) ∧ r = 2)) :
 Calls Tryd.prog 17 #[.agg #[.slice A0_0 l0_0.length c0_0,.int .i64 a0_1],.int .i64 a1,.int .i64 a2,.int .i64 a3] w fun e w' => e = .returned (.tuple #[.int .i64 0,.int .i64 r]) ∧ Below w.heap.size w w':=by
 have HR:=a_g.mk hr0_0
 have HE:=a_g.mk he
 clear hr0_0 he
 have q2:=a_g.mk (a_d (d_a ((w.alloc (.cells #[.slice A0_0 l0_0.length c0_0,.int .i64 a0_1] 37)).alloc (.cells #[.int .i64 a1] 3)) (.cells #[.int .i64 a2] 2)) (.cells #[.int .i64 a3] 2))
 have q3:=a_g.mk (d_a (((w.alloc (.cells #[.slice A0_0 l0_0.length c0_0,.int .i64 a0_1] 37)).alloc (.cells #[.int .i64 a1] 3)).alloc (.cells #[.int .i64 a2] 2)) (.cells #[.int .i64 a3] 2))
 have qB:=a_g.mk (a_j (a_j (a_j (a_j (Below.refl w.heap.size w) (.cells #[.slice A0_0 l0_0.length c0_0,.int .i64 a0_1] 37)) (.cells #[.int .i64 a1] 3)) (.cells #[.int .i64 a2] 2)) (.cells #[.int .i64 a3] 2))
 simp only [World.size_alloc] at q2 q3
 rcases hr with ⟨h1,rfl⟩ | ⟨rfl,h2,rfl⟩
 ·have g0 : (e != 0) = true:=bne_iff_ne.mpr h1
  clear h1
  go_enter Tryd.func17,Tryd.ntmps17
  go_wp2_with (go_at_call 29;refine (a_D.calls k _ _ l0_0 a0_1 e _ ?s1 hc0_0 HE.out).mono ?_;(case s1 => exact Kd.a_5 HR.out qB.out);rintro e w1 ⟨rfl,hb⟩;have HB:=a_g.mk (a_p qB.out hb);clear hb)
  go_ret2
  exact ⟨rfl,HB.out⟩
 have key : ∀ b1 b2 b3 : Bool,decide (a2 < 0) = b1 → decide (1125899906842624 < a3) = b2 → decide (a3 < a2) = b3 → (b1 || b2 || b3) = true → Calls Tryd.prog 17 #[.agg #[.slice A0_0 l0_0.length c0_0,.int .i64 a0_1],.int .i64 a1,.int .i64 a2,.int .i64 a3] w fun e w' => e = .returned (.tuple #[.int .i64 0,.int .i64 2]) ∧ Below w.heap.size w w':=by
  intro b1 b2 b3 g1 g2 g3 hor
  cases b1 <;> cases b2 <;> cases b3 <;> first|(exact absurd hor (by decide))|skip
  all_goals
   clear hor
   go_enter Tryd.func17,Tryd.ntmps17
   go_wp2_with (go_at_call 29;refine (a_D.calls k _ _ l0_0 a0_1 0 _ ?s1 hc0_0 HE.out).mono ?_;(case s1 => exact Kd.a_5 HR.out qB.out);rintro e w1 ⟨rfl,hb⟩;have HB:=a_g.mk (a_p qB.out hb);have p2:=a_g.mk (a_m q2.out hb);have p3:=a_g.mk (a_m q3.out hb);clear hb;have r2 : w1.cell? ⟨w.heap.size + 1 + 1,0,none⟩ = some (.int .i64 a2):=(a_b p2.out 0).trans rfl;have r3 : w1.cell? ⟨w.heap.size + 1 + 1 + 1,0,none⟩ = some (.int .i64 a3):=(a_b p3.out 0).trans rfl)
   go_ret2
   exact ⟨rfl,HB.out⟩
 refine key _ _ _ rfl rfl rfl ?_
 simp only [Bool.or_eq_true,decide_eq_true_eq]
 omega
theorem c_c.calls (k : Nat) (A0_0 : Option Addr) (c0_0 : Nat) (l0_0 : List S24) (a0_1 a1 a2 a3 : Int) (r1 r2 : Int) (w : World) (hr0_0 : Kd.C k24 w A0_0 l0_0.length l0_0) (hc0_0 : l0_0.length ≤ c0_0) (h : c_c.f k l0_0 a0_1 a1 a2 a3 = some (r1,r2)) :
 Calls Tryd.prog 17 #[.agg #[.slice A0_0 l0_0.length c0_0,.int .i64 a0_1],.int .i64 a1,.int .i64 a2,.int .i64 a3] w fun e w' => e = .returned (.tuple #[.int .i64 r1,.int .i64 r2]) ∧ Below w.heap.size w w':=by
 obtain ⟨e,he,h⟩:=Option.bind_eq_some_iff.mp h
 by_cases h0 : e = 0
 rotate_left
 ·rw [if_neg h0] at h;cases h
  exact c_c.errs k A0_0 c0_0 l0_0 a0_1 a1 a2 a3 e 390 w hr0_0 hc0_0 he (.inl ⟨h0,rfl⟩)
 rw [if_pos h0] at h
 subst h0
 by_cases h1 : a2 < 0
 ·rw [if_pos h1] at h;cases h
  exact c_c.errs k A0_0 c0_0 l0_0 a0_1 a1 a2 a3 0 2 w hr0_0 hc0_0 he (.inr ⟨rfl,.inl h1,rfl⟩)
 rw [if_neg h1] at h
 by_cases h2 : 1125899906842624 < a3
 ·rw [if_pos h2] at h;cases h
  exact c_c.errs k A0_0 c0_0 l0_0 a0_1 a1 a2 a3 0 2 w hr0_0 hc0_0 he (.inr ⟨rfl,.inr (.inl h2),rfl⟩)
 rw [if_neg h2] at h
 by_cases h3 : a3 < a2
 ·rw [if_pos h3] at h;cases h
  exact c_c.errs k A0_0 c0_0 l0_0 a0_1 a1 a2 a3 0 2 w hr0_0 hc0_0 he (.inr ⟨rfl,.inr (.inr h3),rfl⟩)
 rw [if_neg h3] at h
 by_cases h4 : l0_0.length ≤ 4398046511104 ∧ ∀ m ∈ l0_0,m.f1.length ≤ 1099511627776
 ·rw [if_pos h4] at h;cases h
  exact c_c.sums k A0_0 c0_0 l0_0 a0_1 a1 a2 a3 w hr0_0 hc0_0 he h1 h2 h3 h4.1 h4.2
 rw [if_neg h4] at h;cases h
end
end Go.Proofs.YtgglkfilkagblaaDoor.Q
end
section
namespace Go.Proofs.YtgglkfilkagblaaDoor.Q
open Go.RowKit Go.Proofs.YtgglkfilkagblaaDoorW.PrintWords Go.Proofs.YtgglkfilkagblaaDoorW.PrintLast Go.Proofs.YtgglkfilkagblaaDoorW.PrintMore
set_option linter.unusedVariables false
set_option linter.unusedSimpArgs false
def c_g.f (a0_0 : Int) (a0_1 : Int) (a0_2 : Int) (a0_3 : Int) (a0_4 : Int) (a0_5 : Bool) (a0_6 : Bool) (a0_7 : Int) (a0_8 : Int) (a0_9 : Int) (a0_10 : Int) : Option (Bool):=if a0_5 = true then (if a0_6 = true then (some false) else (if a0_2 = 0 then (some (a0_4 == (-1))) else (some false))) else (some false)
set_option maxHeartbeats 8000000 in
set_option maxRecDepth 100000 in
theorem c_g.calls (a0_0 : Int) (a0_1 : Int) (a0_2 : Int) (a0_3 : Int) (a0_4 : Int) (a0_5 : Bool) (a0_6 : Bool) (a0_7 : Int) (a0_8 : Int) (a0_9 : Int) (a0_10 : Int) (r : Bool) (w : World) (h : c_g.f a0_0 a0_1 a0_2 a0_3 a0_4 a0_5 a0_6 a0_7 a0_8 a0_9 a0_10 = some r) :
 Calls Tryd.prog 24 #[.agg #[.int .i64 a0_0,.int .i64 a0_1,.int .i64 a0_2,.int .i64 a0_3,.int .i64 a0_4,.bool a0_5,.bool a0_6,.int .u32 a0_7,.int .i64 a0_8,.int .i64 a0_9,.int .i64 a0_10]] w fun e w' => e = .returned (.bool r) ∧ Below w.heap.size w w':=by
 have hu33:=Tryd.underlying33
 have HB:=a_g.mk (Below.refl w.heap.size w)
 have H : (if a0_5 = true then (if a0_6 = true then (some false) else (if a0_2 = 0 then (some (a0_4 == (-1))) else (some false))) else (some false)) = some r:=h
 clear h
 by_cases c2 : a0_5 = true
 rotate_left
 ·replace c2:=Bool.eq_false_iff.mpr c2
  subst c2
  have H1 : (some false) = some r:=by rw [if_neg (show ¬ (false = true) by decide)] at H;exact H
  clear H
  have H:=H1
  clear H1
  obtain rfl:=Option.some.inj H
  go_enter Tryd.func24,Tryd.ntmps24
  go_wp2_with (first|((with_reducible refine a_G (N:=1) rfl ?_);refine a_C ?hg (N:=1) ?hd (cs:=#[.int .i64 a0_0,.int .i64 a0_1,.int .i64 a0_2,.int .i64 a0_3,.int .i64 a0_4,.bool false,.bool a0_6,.int .u32 a0_7,.int .i64 a0_8,.int .i64 a0_9,.int .i64 a0_10]) (t:=33) ?hr ?_;(case hd => rfl);(case hg => rfl);(case hr => first|(go_simp;done)|(go_simp;rfl));intro c_B hg w11 hbox hb;have b_H:=a_g.mk (hbox);have s_4:=a_g.mk ((by rw [hg];exact (a_n (lup_ HB.out)) : w.heap.size ≤ c_B));have m_c:=a_g.mk ((by rw [hg];exact (a_n (lup_ HB.out)) : w.heap.size ≤ c_B));replace HB:=a_g.mk (a_p (lup_ HB.out) hb);clear hb hbox hg;have k_a : w11.cell? ⟨c_B,0,none⟩ = some (.int .i64 a0_0):=(a_b b_H.out 0).trans rfl;have k_b : w11.cell? ⟨c_B,1,none⟩ = some (.int .i64 a0_1):=(a_b b_H.out 1).trans rfl;have m_q : w11.cell? ⟨c_B,2,none⟩ = some (.int .i64 a0_2):=(a_b b_H.out 2).trans rfl;have m_r : w11.cell? ⟨c_B,3,none⟩ = some (.int .i64 a0_3):=(a_b b_H.out 3).trans rfl;have m_s : w11.cell? ⟨c_B,4,none⟩ = some (.int .i64 a0_4):=(a_b b_H.out 4).trans rfl;have m_t : w11.cell? ⟨c_B,5,none⟩ = some (.bool false):=(a_b b_H.out 5).trans rfl;have m_u : w11.cell? ⟨c_B,6,none⟩ = some (.bool a0_6):=(a_b b_H.out 6).trans rfl;have m_v : w11.cell? ⟨c_B,7,none⟩ = some (.int .u32 a0_7):=(a_b b_H.out 7).trans rfl;have m_w : w11.cell? ⟨c_B,8,none⟩ = some (.int .i64 a0_8):=(a_b b_H.out 8).trans rfl;have m_x : w11.cell? ⟨c_B,9,none⟩ = some (.int .i64 a0_9):=(a_b b_H.out 9).trans rfl;have k_d : w11.cell? ⟨c_B,10,none⟩ = some (.int .i64 a0_10):=(a_b b_H.out 10).trans rfl;have k_F:=a_c b_H.out 0;have k_G:=a_c b_H.out 1;have m_X:=a_c b_H.out 2;have m_Y:=a_c b_H.out 3;have m_Z:=a_c b_H.out 4;have m_0:=a_c b_H.out 5;have m_1:=a_c b_H.out 6;have m_2:=a_c b_H.out 7;have m_3:=a_c b_H.out 8;have m_4:=a_c b_H.out 9;have k_H:=a_c b_H.out 10))
  go_ret
  exact ⟨by first|rfl|(simp [a_u,a_v] <;> rfl)|(simp [*, a_u,a_v] <;> rfl),by repeat (first|(with_reducible first|exact HB.out|apply a_j|apply a_f|apply a_k|refine a_i ?_ m_c.out)|exact HB.out)⟩
 subst c2
 have H1 : (if a0_6 = true then (some false) else (if a0_2 = 0 then (some (a0_4 == (-1))) else (some false))) = some r:=by rw [if_pos rfl] at H;exact H
 clear H
 have H:=H1
 clear H1
 by_cases c3 : a0_6 = true
 ·subst c3
  have H1 : (some false) = some r:=by rw [if_pos rfl] at H;exact H
  clear H
  have H:=H1
  clear H1
  obtain rfl:=Option.some.inj H
  go_enter Tryd.func24,Tryd.ntmps24
  go_wp2_with (first|((with_reducible refine a_G (N:=1) rfl ?_);refine a_C ?hg (N:=1) ?hd (cs:=#[.int .i64 a0_0,.int .i64 a0_1,.int .i64 a0_2,.int .i64 a0_3,.int .i64 a0_4,.bool true,.bool true,.int .u32 a0_7,.int .i64 a0_8,.int .i64 a0_9,.int .i64 a0_10]) (t:=33) ?hr ?_;(case hd => rfl);(case hg => rfl);(case hr => first|(go_simp;done)|(go_simp;rfl));intro c_B hg w4 hbox hb;have b_H:=a_g.mk (hbox);have s_4:=a_g.mk ((by rw [hg];exact (a_n (lup_ HB.out)) : w.heap.size ≤ c_B));have m_c:=a_g.mk ((by rw [hg];exact (a_n (lup_ HB.out)) : w.heap.size ≤ c_B));replace HB:=a_g.mk (a_p (lup_ HB.out) hb);clear hb hbox hg;have f_X : w4.cell? ⟨c_B,0,none⟩ = some (.int .i64 a0_0):=(a_b b_H.out 0).trans rfl;have f_Y : w4.cell? ⟨c_B,1,none⟩ = some (.int .i64 a0_1):=(a_b b_H.out 1).trans rfl;have x_x : w4.cell? ⟨c_B,2,none⟩ = some (.int .i64 a0_2):=(a_b b_H.out 2).trans rfl;have x_y : w4.cell? ⟨c_B,3,none⟩ = some (.int .i64 a0_3):=(a_b b_H.out 3).trans rfl;have x_z : w4.cell? ⟨c_B,4,none⟩ = some (.int .i64 a0_4):=(a_b b_H.out 4).trans rfl;have x_A : w4.cell? ⟨c_B,5,none⟩ = some (.bool true):=(a_b b_H.out 5).trans rfl;have x_B : w4.cell? ⟨c_B,6,none⟩ = some (.bool true):=(a_b b_H.out 6).trans rfl;have x_C : w4.cell? ⟨c_B,7,none⟩ = some (.int .u32 a0_7):=(a_b b_H.out 7).trans rfl;have x_D : w4.cell? ⟨c_B,8,none⟩ = some (.int .i64 a0_8):=(a_b b_H.out 8).trans rfl;have x_E : w4.cell? ⟨c_B,9,none⟩ = some (.int .i64 a0_9):=(a_b b_H.out 9).trans rfl;have u_Y : w4.cell? ⟨c_B,10,none⟩ = some (.int .i64 a0_10):=(a_b b_H.out 10).trans rfl;have f_Z:=a_c b_H.out 0;have f_0:=a_c b_H.out 1;have x_P:=a_c b_H.out 2;have x_Q:=a_c b_H.out 3;have x_R:=a_c b_H.out 4;have x_S:=a_c b_H.out 5;have x_T:=a_c b_H.out 6;have x_U:=a_c b_H.out 7;have x_V:=a_c b_H.out 8;have x_W:=a_c b_H.out 9;have w_K:=a_c b_H.out 10))
  go_ret
  exact ⟨by first|rfl|(simp [a_u,a_v] <;> rfl)|(simp [*, a_u,a_v] <;> rfl),by repeat (first|(with_reducible first|exact HB.out|apply a_j|apply a_f|apply a_k|refine a_i ?_ m_c.out)|exact HB.out)⟩
 replace c3:=Bool.eq_false_iff.mpr c3
 subst c3
 have H1 : (if a0_2 = 0 then (some (a0_4 == (-1))) else (some false)) = some r:=by rw [if_neg (show ¬ (false = true) by decide)] at H;exact H
 clear H
 have H:=H1
 clear H1
 by_cases c6 : a0_2 = 0
 ·rw [if_pos c6] at H
  have c6b0 : (a0_2 == 0) = true:=beq_iff_eq.mpr c6
  have c6b1 : (a0_2 != 0) = false:=bne_eq_false_iff_eq.mpr c6
  clear c6
  obtain rfl:=Option.some.inj H
  go_enter Tryd.func24,Tryd.ntmps24
  go_wp2_with (first|((with_reducible refine a_G (N:=1) rfl ?_);refine a_C ?hg (N:=1) ?hd (cs:=#[.int .i64 a0_0,.int .i64 a0_1,.int .i64 a0_2,.int .i64 a0_3,.int .i64 a0_4,.bool true,.bool false,.int .u32 a0_7,.int .i64 a0_8,.int .i64 a0_9,.int .i64 a0_10]) (t:=33) ?hr ?_;(case hd => rfl);(case hg => rfl);(case hr => first|(go_simp;done)|(go_simp;rfl));intro c_B hg w7 hbox hb;have b_H:=a_g.mk (hbox);have s_4:=a_g.mk ((by rw [hg];exact (a_n (lup_ HB.out)) : w.heap.size ≤ c_B));have m_c:=a_g.mk ((by rw [hg];exact (a_n (lup_ HB.out)) : w.heap.size ≤ c_B));replace HB:=a_g.mk (a_p (lup_ HB.out) hb);clear hb hbox hg;have o_d : w7.cell? ⟨c_B,0,none⟩ = some (.int .i64 a0_0):=(a_b b_H.out 0).trans rfl;have o_e : w7.cell? ⟨c_B,1,none⟩ = some (.int .i64 a0_1):=(a_b b_H.out 1).trans rfl;have x_F : w7.cell? ⟨c_B,2,none⟩ = some (.int .i64 a0_2):=(a_b b_H.out 2).trans rfl;have x_G : w7.cell? ⟨c_B,3,none⟩ = some (.int .i64 a0_3):=(a_b b_H.out 3).trans rfl;have x_H : w7.cell? ⟨c_B,4,none⟩ = some (.int .i64 a0_4):=(a_b b_H.out 4).trans rfl;have x_I : w7.cell? ⟨c_B,5,none⟩ = some (.bool true):=(a_b b_H.out 5).trans rfl;have x_J : w7.cell? ⟨c_B,6,none⟩ = some (.bool false):=(a_b b_H.out 6).trans rfl;have x_K : w7.cell? ⟨c_B,7,none⟩ = some (.int .u32 a0_7):=(a_b b_H.out 7).trans rfl;have x_L : w7.cell? ⟨c_B,8,none⟩ = some (.int .i64 a0_8):=(a_b b_H.out 8).trans rfl;have x_M : w7.cell? ⟨c_B,9,none⟩ = some (.int .i64 a0_9):=(a_b b_H.out 9).trans rfl;have u_7 : w7.cell? ⟨c_B,10,none⟩ = some (.int .i64 a0_10):=(a_b b_H.out 10).trans rfl;have o_s:=a_c b_H.out 0;have o_t:=a_c b_H.out 1;have x_X:=a_c b_H.out 2;have x_Y:=a_c b_H.out 3;have x_Z:=a_c b_H.out 4;have x_0:=a_c b_H.out 5;have x_1:=a_c b_H.out 6;have x_2:=a_c b_H.out 7;have x_3:=a_c b_H.out 8;have x_4:=a_c b_H.out 9;have w_T:=a_c b_H.out 10))
  go_ret
  exact ⟨by first|rfl|(simp [a_u,a_v] <;> rfl)|(simp [*, a_u,a_v] <;> rfl),by repeat (first|(with_reducible first|exact HB.out|apply a_j|apply a_f|apply a_k|refine a_i ?_ m_c.out)|exact HB.out)⟩
 rw [if_neg c6] at H
 have c6b0 : (a0_2 == 0) = false:=beq_eq_false_iff_ne.mpr c6
 have c6b1 : (a0_2 != 0) = true:=bne_iff_ne.mpr c6
 obtain rfl:=Option.some.inj H
 go_enter Tryd.func24,Tryd.ntmps24
 go_wp2_with (first|((with_reducible refine a_G (N:=1) rfl ?_);refine a_C ?hg (N:=1) ?hd (cs:=#[.int .i64 a0_0,.int .i64 a0_1,.int .i64 a0_2,.int .i64 a0_3,.int .i64 a0_4,.bool true,.bool false,.int .u32 a0_7,.int .i64 a0_8,.int .i64 a0_9,.int .i64 a0_10]) (t:=33) ?hr ?_;(case hd => rfl);(case hg => rfl);(case hr => first|(go_simp;done)|(go_simp;rfl));intro c_B hg w9 hbox hb;have b_H:=a_g.mk (hbox);have s_4:=a_g.mk ((by rw [hg];exact (a_n (lup_ HB.out)) : w.heap.size ≤ c_B));have m_c:=a_g.mk ((by rw [hg];exact (a_n (lup_ HB.out)) : w.heap.size ≤ c_B));replace HB:=a_g.mk (a_p (lup_ HB.out) hb);clear hb hbox hg;have g_8 : w9.cell? ⟨c_B,0,none⟩ = some (.int .i64 a0_0):=(a_b b_H.out 0).trans rfl;have g_9 : w9.cell? ⟨c_B,1,none⟩ = some (.int .i64 a0_1):=(a_b b_H.out 1).trans rfl;have j_2 : w9.cell? ⟨c_B,2,none⟩ = some (.int .i64 a0_2):=(a_b b_H.out 2).trans rfl;have j_3 : w9.cell? ⟨c_B,3,none⟩ = some (.int .i64 a0_3):=(a_b b_H.out 3).trans rfl;have j_4 : w9.cell? ⟨c_B,4,none⟩ = some (.int .i64 a0_4):=(a_b b_H.out 4).trans rfl;have j_5 : w9.cell? ⟨c_B,5,none⟩ = some (.bool true):=(a_b b_H.out 5).trans rfl;have j_6 : w9.cell? ⟨c_B,6,none⟩ = some (.bool false):=(a_b b_H.out 6).trans rfl;have j_7 : w9.cell? ⟨c_B,7,none⟩ = some (.int .u32 a0_7):=(a_b b_H.out 7).trans rfl;have j_8 : w9.cell? ⟨c_B,8,none⟩ = some (.int .i64 a0_8):=(a_b b_H.out 8).trans rfl;have j_9 : w9.cell? ⟨c_B,9,none⟩ = some (.int .i64 a0_9):=(a_b b_H.out 9).trans rfl;have i_C : w9.cell? ⟨c_B,10,none⟩ = some (.int .i64 a0_10):=(a_b b_H.out 10).trans rfl;have h_g:=a_c b_H.out 0;have h_h:=a_c b_H.out 1;have k_x:=a_c b_H.out 2;have k_y:=a_c b_H.out 3;have k_z:=a_c b_H.out 4;have k_A:=a_c b_H.out 5;have k_B:=a_c b_H.out 6;have k_C:=a_c b_H.out 7;have k_D:=a_c b_H.out 8;have k_E:=a_c b_H.out 9;have i_E:=a_c b_H.out 10))
 go_ret
 exact ⟨by first|rfl|(simp [a_u,a_v] <;> rfl)|(simp [*, a_u,a_v] <;> rfl),by repeat (first|(with_reducible first|exact HB.out|apply a_j|apply a_f|apply a_k|refine a_i ?_ m_c.out)|exact HB.out)⟩
end Go.Proofs.YtgglkfilkagblaaDoor.Q
end
section
namespace Go.Proofs.YtgglkfilkagblaaDoor.Q
open Go.RowKit Go.Proofs.YtgglkfilkagblaaDoorW.PrintWords Go.Proofs.YtgglkfilkagblaaDoorW.PrintLast Go.Proofs.YtgglkfilkagblaaDoorW.PrintMore
set_option linter.unusedVariables false
set_option linter.unusedSimpArgs false
section
attribute [local go_sem] Oper.semAt_some
def o_M (x : S33) : Bool:=x.f5 && !x.f6 && x.f2 == 0 && x.f4 == -1
theorem s_A (x : S33) : c_g.f x.f0 x.f1 x.f2 x.f3 x.f4 x.f5 x.f6 x.f7 x.f8 x.f9 x.f10 = some (o_M x):=by
 unfold c_g.f o_M
 cases x.f5 <;> cases x.f6 <;> simp
 by_cases h : x.f2 = 0 <;> simp [h]
def d_g (xs : List S24) (en v : Int) (acc : List S49) (j : Nat) : List S49 :=
 if (a_X (a_w xs (j : Int)).f1 v).2 = true ∧ o_M (a_X (a_w xs (j : Int)).f1 v).1 = true ∧ (a_w xs (j : Int)).f0 ≠ c_L xs en j then
  (if 0 < acc.length ∧ (acc.getD (acc.length - 1) z49).f1 = (a_w xs (j : Int)).f0 then acc.set (acc.length - 1) ⟨(acc.getD (acc.length - 1) z49).f0,c_L xs en j⟩
  else acc ++ [⟨(a_w xs (j : Int)).f0,c_L xs en j⟩]) else acc
theorem r_H (xs : List S24) (en v : Int) (js : List Nat) (acc : List S49) : (js.foldl (d_g xs en v) acc).length ≤ acc.length + js.length:=by
 induction js generalizing acc with
 | nil => simp
 | cons j js ih =>
  have:=ih (d_g xs en v acc j)
  have h : (d_g xs en v acc j).length ≤ acc.length + 1:=by unfold d_g;split <;> (try split) <;> simp
  simp only [List.foldl_cons,List.length_cons];omega
def b_X.f (k : Nat) (l0_0 : List S24) (a0_1 a1 : Int) : Option (List S49 × Int):=(a_D.f k l0_0 a0_1).bind fun e => if e = 0 then (if l0_0.length ≤ 4398046511104 ∧ ∀ m ∈ l0_0,m.f1.length ≤ 1099511627776 then some ((List.range l0_0.length).foldl (d_g l0_0 a0_1 a1) [],0) else none) else some ([],e)
theorem b_X.mono : ∀ a0 a1 a2 k,LeO (b_X.f k a0 a1 a2) (b_X.f (k + 1) a0 a1 a2):=fun a0 a1 a2 k => LeO.bind (a_D.mono _ _ _) (fun _ => LeO.refl _)
def e_W (l : List S49) : List Value:=l.flatMap fun s => [.int .i64 s.f0,.int .i64 s.f1]
theorem l_S (l : List S49) : (e_W l).length = l.length * 2:=by
 induction l with
 | nil => rfl
 | cons s l ih => simp only [e_W,List.flatMap_cons,List.length_append,List.length_cons,List.length_nil] at ih ⊢; omega
theorem l_Q (a b : List S49) : e_W (a ++ b) = e_W a ++ e_W b:=List.flatMap_append
theorem l_R (l : List S49) (i : Nat) (h : i < l.length) : (e_W l)[i * 2]? = some (.int .i64 (l.getD i z49).f0) ∧ (e_W l)[i * 2 + 1]? = some (.int .i64 (l.getD i z49).f1):=by
 induction l generalizing i with
 | nil => simp at h
 | cons s l ih =>
  cases i with
  | zero => exact ⟨rfl,rfl⟩
  | succ i =>
   have:=ih i (by simpa using h)
   have e : e_W (s :: l) = [.int .i64 s.f0,.int .i64 s.f1] ++ e_W l:=rfl
   rw [e,List.getElem?_append_right (by simp;omega),List.getElem?_append_right (by simp;omega),List.getD_cons_succ]
   simp only [List.length_cons,List.length_nil]
   rw [show (i + 1) * 2 - (0 + 1 + 1) = i * 2 by omega,show (i + 1) * 2 + 1 - (0 + 1 + 1) = i * 2 + 1 by omega]
   exact this
theorem p_z (l : List S49) (i : Nat) (h : i < l.length) (u : Int) : (e_W l).set (i * 2 + 1) (.int .i64 u) = e_W (l.set i ⟨(l.getD i z49).f0,u⟩):=by
 induction l generalizing i with
 | nil => simp at h
 | cons s l ih =>
  cases i with
  | zero => rfl
  | succ i =>
   have:=ih i (by simpa using h)
   have e : e_W (s :: l) = .int .i64 s.f0 :: .int .i64 s.f1 :: e_W l:=rfl
   rw [e,show (i + 1) * 2 + 1 = (i * 2 + 1) + 1 + 1 by omega,List.set_cons_succ,List.set_cons_succ,this]
   rfl
theorem i_o {W W' : World} {base n : Nat} {e : TypeId} {size : Nat} {v : Value} {xs : List Value} (h : W.ownsRow base e size v n xs) (hb : Below W.heap.size W W') : W'.ownsRow base e size v n xs :=
 h.kept (row:=none) ⟨hb.os,hb.tape,hb.output,hb.size,fun k hk _ => hb.block k hk⟩ (by rcases h.2 with ⟨rfl,_⟩ | ⟨g,cap,cur,rfl,_⟩;exact .inl rfl;exact .inr (by simp [Value.ownBlock]))
theorem w_1 {W : World} {base n g cap : Nat} {e : TypeId} {size : Nat} {xs : List Value} (h : W.ownsRow base e size (.slice (some ⟨g,0,none⟩) n cap) n xs) (i : Nat) (hi : i < n * size) (u : Value) : (W.setCell ⟨g,i,none⟩ u).ownsRow base e size (.slice (some ⟨g,0,none⟩) n cap) n (xs.set i u):=by
 obtain ⟨h1,h2⟩:=h
 rcases h2 with ⟨h2,_⟩ | ⟨g',cap',cur,h2,h3,h4,h5,h6,h7,h8⟩
 ·cases h2
 cases h2
 refine ⟨by simpa using h1,.inr ⟨g,cap,cur.setIfInBounds i u,rfl,h3,p_q h4 i u,h5,h6,by simpa using h7,?_⟩⟩
 rw [Array.toList_setIfInBounds,List.take_set,h8]
theorem o_C {W : World} {base n g cap : Nat} {e : TypeId} {size : Nat} {xs : List Value} (h : W.ownsRow base e size (.slice (some ⟨g,0,none⟩) n cap) n xs) (i : Nat) (hi : i < n * size) : W.cell? ⟨g,i,none⟩ = xs[i]? ∧ W.frozen? ⟨g,i,none⟩ = false ∧ base ≤ g ∧ n ≤ cap:=by
 obtain ⟨h1,h2⟩:=h
 rcases h2 with ⟨h2,_⟩ | ⟨g',cap',cur,h2,h3,h4,h5,h6,h7,h8⟩
 ·cases h2
 cases h2
 refine ⟨(a_b h4 i).trans ?_,a_c h4 i,h3,h5⟩
 rw [← h8,List.getElem?_take_of_lt hi]
 simp
theorem r_t {W : World} {B t : Nat} {cs : Array Value} (h : W.heap[B]? = some (.cells cs t (0,0))) {e : TypeId} (hte : t ≠ e) {base size k : Nat} {v : Value} {xs : List Value} (hr : W.ownsRow base e size v k xs) : some B ≠ v.ownBlock:=by
 rcases hr.2 with ⟨rfl,_⟩ | ⟨g,cap,cur,rfl,_,hgb,_⟩
 ·simp [Value.ownBlock]
 intro e'
 obtain rfl : B = g:=by simpa [Value.ownBlock] using e'
 have:=h.symm.trans hgb
 simp at this
 exact hte this.2
theorem y_q {W : World} {base : Nat} {v : Value} {xs : List S49} (h : W.ownsRow base 49 2 v xs.length (e_W xs)) : Kd.R k49 49 W base (fun _ => True) v xs :=
 ⟨fun _ _ => trivial,e_W xs,h,(l_S xs).trans rfl,fun j p hj => by
  obtain ⟨hj',rfl⟩:=List.getElem?_eq_some_iff.mp hj
  have h2:=l_R xs j hj'
  have e : ((e_W xs).drop (j * 2)).take 2 = [.int .i64 xs[j].f0,.int .i64 xs[j].f1]:=by
   have g : xs.getD j z49 = xs[j]:=by simp [List.getD,hj']
   rw [g] at h2
   apply List.ext_getElem?
   intro i
   rcases i with _|_|i
   ·simpa [List.getElem?_take,List.getElem?_drop] using h2.1
   ·simpa [List.getElem?_take,List.getElem?_drop] using h2.2
   ·simp;omega
  show k49.M W base _ _ (((e_W xs).drop (j * 2)).take 2)
  rw [e];exact w_Z _ _ _ _⟩
structure g_5 (w w1 : World) (a1 : Int) (acc : List S49) (W : World) : Prop where
 v : ∃ v,W.heap[w1.heap.size]? = some (.cells #[v] 45 (0,0)) ∧ W.ownsRow w.heap.size 49 2 v acc.length (e_W acc)
 b1 : W.heap[w.heap.size + 1]? = some (.cells #[.int .i64 a1] 3 (0,0))
 b4 : w1.heap.size + 1 < W.heap.size
 ga : ∃ cs,W.heap[w1.heap.size + 1]? = some (.cells cs 37 (0,0))
 below : Below w.heap.size w W
theorem g_5.bel {w w1 W W' : World} {a1 : Int} {acc : List S49} (h : g_5 w w1 a1 acc W) (u : Below W.heap.size W W') : g_5 w w1 a1 acc W':=by
 obtain ⟨⟨v,h1,h2⟩,h3,h4,⟨cs,h5⟩,h6⟩:=h
 exact ⟨⟨v,a_m h1 u,i_o h2 u⟩,a_m h3 u,Nat.lt_of_lt_of_le h4 u.size,⟨cs,a_m h5 u⟩,h6.trans (u.mono h6.size)⟩
theorem r_E (W : World) (a b : Value) (t : TypeId) : ∀ j u,[a,b][j]? = some u → (W.alloc (.cells #[a,b] t)).cell? ((⟨W.heap.size,0,none⟩ : Addr).add j) = some u:=by
 intro j u hj
 rcases j with _|_|j
 ·cases hj;exact (a_b (d_a W (.cells #[a,b] t)) 0).trans rfl
 ·cases hj;exact (a_b (d_a W (.cells #[a,b] t)) 1).trans rfl
 simp at hj
structure z_N (A : Act) (W' : World) (e : Exit) (a : Act) (w : World) : Prop where
 e : e = .normal
 a : a = A
 w : w = W'
theorem o_P {F : Fence} {n : Nat} {P : Program} {c : Code} {Q : Exit → Act → World → Prop} {a : Act} {w : World} (h : ∃ A W',c.wpIn F n P (z_N A W') a w ∧ Q .normal A W') : c.wpIn F n P Q a w:=by
 obtain ⟨A,W',h1,h2⟩:=h
 exact wpIn_mono h1 (by rintro e a w ⟨rfl,rfl,rfl⟩;exact h2)
theorem o_Z (l : List S49) (f t : Int) : e_W (l ++ [⟨f,t⟩]) = e_W l ++ [.int .i64 f,.int .i64 t]:=l_Q l [⟨f,t⟩]
theorem o_L {w w1 W w4 w5 : World} {a1 : Int} {acc : List S49} (iI : g_5 w w1 a1 acc W) (hw : w.heap.size ≤ w1.heap.size) (u : Below W.heap.size W w4) {v v' : Value} (bv : W.heap[w1.heap.size]? = some (.cells #[v] 45 (0,0))) {n : Nat} (hn : acc.length = n) (hr : W.ownsRow w.heap.size 49 2 v n (e_W acc)) {f t : Int} {tmp : Obj}
 (hown' : w5.ownsRow w.heap.size 49 2 v' (n + 1) (e_W acc ++ [.int .i64 f,.int .i64 t])) (hgrow : (w4.alloc tmp).grownBy w5 v.ownBlock) :
 (w5.cell? ⟨w1.heap.size,0,none⟩ = some v ∧ w5.frozen? ⟨w1.heap.size,0,none⟩ = false) ∧ (∀ B,KeepsFrom B W (w5.setCell ⟨w1.heap.size,0,none⟩ v')) ∧ KpB w.heap.size (w1.heap.size + 1) W (w5.setCell ⟨w1.heap.size,0,none⟩ v') ∧ g_5 w w1 a1 (acc ++ [⟨f,t⟩]) (w5.setCell ⟨w1.heap.size,0,none⟩ v'):=by
 subst hn
 obtain ⟨_,b1,b4,⟨cs,ga⟩,hB⟩:=iI
 have hb4 : Boxed w4 w1.heap.size 45 v:=a_m bv u
 have hr4:=i_o hr u
 obtain ⟨h1,h2,h3,h4,h5⟩:=hb4.appended (n₀:=w.heap.size) (by decide) hr4 (Nat.le_trans hB.size u.size) hw hown' hgrow
 have hB5 : Below w.heap.size W (w5.setCell ⟨w1.heap.size,0,none⟩ v'):=(u.mono hB.size).trans h5
 have far : ∀ {k : Nat} {cs : Array Value} {t : TypeId}, W.heap[k]? = some (.cells cs t (0,0)) → t ≠ 49 → k ≠ w1.heap.size → (w5.setCell ⟨w1.heap.size,0,none⟩ v').heap[k]? = some (.cells cs t (0,0)):=fun {k cs t} hk ht hne => by
  have k4:=a_m hk u
  rw [Below.heap_setCell _ _ _ _ hne,hgrow.block _ (by have:=a_L k4;simp only [World.size_alloc];omega) (r_t k4 ht hr4)]
  exact a_d k4 _
 refine ⟨⟨h1.cell,h1.frozen⟩,fun B => (b_3 u).trans (h4.from B),⟨hB5,(far ga (by decide) (by omega)).trans ga.symm⟩,⟨⟨v',h2,by rw [o_Z,List.length_append];exact h3⟩,far b1 (by decide) ?_,Nat.lt_of_lt_of_le b4 hB5.size,⟨cs,far ga (by decide) (by omega)⟩,hB.trans hB5⟩⟩
 intro e
 rw [e] at b1
 rw [bv] at b1
 simp at b1
theorem s_z {w w1 W w4 : World} {a1 : Int} {acc : List S49} (iI : g_5 w w1 a1 acc W) (hw : w.heap.size ≤ w1.heap.size) (u : Below W.heap.size W w4) {g cap m : Nat} (bv : W.heap[w1.heap.size]? = some (.cells #[.slice (some ⟨g,0,none⟩) (m + 1) cap] 45 (0,0))) (hr : W.ownsRow w.heap.size 49 2 (.slice (some ⟨g,0,none⟩) (m + 1) cap) (m + 1) (e_W acc)) (hm : acc.length = m + 1) (t : Int) :
 (∀ B,KeepsFrom B W (w4.setCell ⟨g,m * 2 + 1,none⟩ (.int .i64 t))) ∧ KpB w.heap.size (w1.heap.size + 1) W (w4.setCell ⟨g,m * 2 + 1,none⟩ (.int .i64 t)) ∧ g_5 w w1 a1 (acc.set m ⟨(acc.getD m z49).f0,t⟩) (w4.setCell ⟨g,m * 2 + 1,none⟩ (.int .i64 t)):=by
 obtain ⟨_,b1,b4,⟨cs,ga⟩,hB⟩:=iI
 have hr4:=i_o hr u
 obtain ⟨_,_,hg,_⟩:=o_C hr (m * 2 + 1) (by omega)
 have hB5 : Below w.heap.size W (w4.setCell ⟨g,m * 2 + 1,none⟩ (.int .i64 t)):=(u.mono hB.size).setCell (p:=⟨g,_,none⟩) hg _
 have far : ∀ {k : Nat} {cs : Array Value} {ty : TypeId}, W.heap[k]? = some (.cells cs ty (0,0)) → ty ≠ 49 → (w4.setCell ⟨g,m * 2 + 1,none⟩ (.int .i64 t)).heap[k]? = some (.cells cs ty (0,0)):=fun {k cs ty} hk ht => by
  have k4:=a_m hk u
  rw [Below.heap_setCell _ _ _ _ (fun e => r_t k4 ht hr4 (by rw [e];rfl))]
  exact k4
 refine ⟨fun B => (b_3 u).trans ((KeepsOthers.setCell _ _ _).from B),⟨hB5,(far ga (by decide)).trans ga.symm⟩,⟨⟨_,far bv (by decide),?_⟩,far b1 (by decide),Nat.lt_of_lt_of_le b4 hB5.size,⟨cs,far ga (by decide)⟩,hB.trans hB5⟩⟩
 rw [← p_z acc m (by omega) t,List.length_set,hm]
 exact w_1 hr4 _ (by omega) _
set_option maxRecDepth 100000 in
set_option maxHeartbeats 12000000 in
theorem b_X.sums (k : Nat) (A0_0 : Option Addr) (c0_0 : Nat) (l0_0 : List S24) (a0_1 a1 : Int) (w : World) (hr0_0 : Kd.C k24 w A0_0 l0_0.length l0_0) (hc0_0 : l0_0.length ≤ c0_0) (he : a_D.f k l0_0 a0_1 = some 0) (hl : l0_0.length ≤ 4398046511104) (hm : ∀ m ∈ l0_0,m.f1.length ≤ 1099511627776) :
 Calls Tryd.prog 18 #[.agg #[.slice A0_0 l0_0.length c0_0,.int .i64 a0_1],.int .i64 a1] w fun e w' => ∃ v0_ : Value,e = .returned (.tuple #[v0_,.int .i64 0]) ∧ Kd.R k49 49 w' w.heap.size (fun _ => True) v0_ ((List.range l0_0.length).foldl (d_g l0_0 a0_1 a1) []) ∧ Below w.heap.size w w':=by
 have HR:=a_g.mk hr0_0
 have HE:=a_g.mk he
 have HM:=a_g.mk hm
 clear hr0_0 he hm
 have q0:=a_g.mk (a_d (d_a w (.cells #[.slice A0_0 l0_0.length c0_0,.int .i64 a0_1] 37)) (.cells #[.int .i64 a1] 3))
 have q1:=a_g.mk (d_a (w.alloc (.cells #[.slice A0_0 l0_0.length c0_0,.int .i64 a0_1] 37)) (.cells #[.int .i64 a1] 3))
 have qB:=a_g.mk (a_j (a_j (Below.refl w.heap.size w) (.cells #[.slice A0_0 l0_0.length c0_0,.int .i64 a0_1] 37)) (.cells #[.int .i64 a1] 3))
 simp only [World.size_alloc] at q0 q1
 refine (callsIn_wide (n:=9)).1 ?_
 refine callsIn_of_wp_marks Tryd.func18 rfl trivial ?_ rfl
 simp only [Tryd.ntmps18,List.size_toArray,List.length_cons,List.length_nil,Nat.reduceAdd,Nat.reduceSub,Array.replicate_succ,Array.replicate_zero,List.push_toArray,List.append_toArray,List.nil_append,List.cons_append]
 gi_wp2_with (first
  | (refine ⟨trivial,?_⟩;gi_at_call 29;refine (callsIn_wide.2 (a_D.calls k _ _ l0_0 a0_1 0 _ ?s1 hc0_0 HE.out)).mono ?_;(case s1 => exact Kd.a_5 HR.out qB.out);rintro e w1 ⟨rfl,hb⟩;have HB:=a_g.mk (a_p qB.out hb);have p0:=a_g.mk (a_m q0.out hb);have p1:=a_g.mk (a_m q1.out hb);clear hb;have r0 : w1.cell? ⟨w.heap.size,0,none⟩ = some (.slice A0_0 l0_0.length c0_0):=(a_b p0.out 0).trans rfl;have r1 : w1.cell? ⟨w.heap.size,1,none⟩ = some (.int .i64 a0_1):=(a_b p0.out 1).trans rfl;have z0:=a_L p0.out;have z1:=a_L p1.out)
  | (refine ⟨trivial,?_⟩;gi_at_call 31;refine (callsIn_wide.2 (l_M.calls _ _ _ _ _)).mono ?_;rintro e w' ⟨rfl,rfl⟩))
 have n0:=a_g.mk (a_d (d_a w1 (.cells #[.slice none 0 0] 45)) (.cells #[.slice A0_0 l0_0.length c0_0,.int .i64 a0_1] 37))
 have n1:=a_g.mk (d_a (w1.alloc (.cells #[.slice none 0 0] 45)) (.cells #[.slice A0_0 l0_0.length c0_0,.int .i64 a0_1] 37))
 have n2:=a_g.mk (a_d (a_d p1.out (.cells #[.slice none 0 0] 45)) (.cells #[.slice A0_0 l0_0.length c0_0,.int .i64 a0_1] 37))
 have nB:=a_g.mk (a_j (a_j HB.out (.cells #[.slice none 0 0] 45)) (.cells #[.slice A0_0 l0_0.length c0_0,.int .i64 a0_1] 37))
 have hsz:=a_g.mk (show ((w1.alloc (.cells #[.slice none 0 0] 45)).alloc (.cells #[.slice A0_0 l0_0.length c0_0,.int .i64 a0_1] 37)).heap.size = w1.heap.size + 1 + 1 by simp)
 simp only [World.size_alloc] at n0 n1 n2
 have hws:=HB.out.size
 clear q0 q1 p0 p1 r0 r1 qB HB
 obtain ⟨W2,hW2⟩ : ∃ W2,(w1.alloc (.cells #[.slice none 0 0] 45)).alloc (.cells #[.slice A0_0 l0_0.length c0_0,.int .i64 a0_1] 37) = W2:=⟨_,rfl⟩
 rw [hW2] at n0 n1 n2 nB hsz ⊢
 clear hW2
 obtain ⟨ad,am,cm,hA,hMs⟩ : ∃ ad am cm,(0 < l0_0.length → A0_0 = some ad) ∧ i_t l0_0 ad am cm w:=by
  by_cases h : 0 < l0_0.length
  ·obtain ⟨ad,am,cm,e,hm⟩:=l_Z HR.out h
   exact ⟨ad,am,cm,fun _ => e,hm⟩
  exact ⟨⟨0,0,none⟩,fun _ => none,fun _ => 0,fun h' => absurd h' h,fun j hj => absurd (Nat.lt_of_le_of_lt (Nat.zero_le _) hj) h⟩
 have HMS:=a_g.mk hMs
 have hAA:=a_g.mk hA
 clear hMs hA
 refine wpIn_rangeFunc_ownH rfl (by omega) (gf:=41) (lb:=#[.pointer (some ⟨w1.heap.size + 1,0,none⟩)]) rfl trivial (enters_of Tryd.func41 (by kernel_rfl) rfl)
  (encs:=fun x : Fin l0_0.length => #[momV l0_0 am cm x.val,.agg #[.int .i64 (a_w l0_0 (x.val : Int)).f0,.int .i64 (c_L l0_0 a0_1 x.val)]]) (Kp:=KpB w.heap.size (w1.heap.size + 1)) (S:=fun ys => ys = List.finRange l0_0.length) (Sp:=fun _ => True) (N:=l0_0.length) (w0:=W2)
  (fun l J Jx W hW hJ hJx hY h0 => h_X 8 (by omega) l (w1.heap.size + 1) w.heap.size A0_0 ad c0_0 l0_0 a0_1 hl am cm J Jx hY w W hJ rfl (nB.out.trans (hW.mono nB.out.size)) hAA.out ((hW.block _ (a_L n1.out)).trans n1.out) HMS.out hc0_0 HR.out h0)
  (fun h k => ⟨h.1.trans k.1,k.2.trans h.2⟩) (fun W l o o' hl' hh hc hk => ⟨belowK_b (w:=W2) nB.out.size W l o o' hl' hh hc hk,(grownBy_putObj' W l o').block _ (by have:=a_L hh;have:=hsz.out;omega) (by intro e;cases e;have:=hsz.out;omega)⟩) (Below.refl _ _) (fun _ => rfl)
  (fun pre W => g_5 w w1 a1 ((pre.map (·.val)).foldl (d_g l0_0 a0_1 a1) []) W)
  (fun _ _ _ => False)
  (fun s A B row hs hg hr => by
   obtain ⟨⟨v,h1,h2⟩,h3,h4,⟨cs,h5⟩,h6⟩:=hs
   exact ⟨⟨v,f_d h1 hg hr,h2.kept hg (by
    rcases h2.2 with ⟨rfl,_⟩ | ⟨g,cap,cur,rfl,_,hgb,_⟩
    ·exact .inl rfl
    ·refine .inr fun e' => ?_
     obtain ⟨_,o,ho,hc⟩:=hr g (by simpa [Value.ownBlock] using e'.symm)
     rw [hgb] at ho;cases ho;cases hc)⟩,f_d h3 hg hr,Nat.lt_of_lt_of_le h4 hg.size,⟨cs,f_d h5 hg hr⟩,h6.grown hg h6.size (fun k e => Nat.le_trans nB.out.size (hr k e).1)⟩)
  (fun _ _ _ _ _ hs _ _ => hs)
  ⟨⟨_,n0.out,n_U _ _ _ _⟩,n2.out,by have:=hsz.out;omega,⟨_,n1.out⟩,nB.out⟩
  (fun x a' W => ∃ Bm Bs : Nat,W.heap[Bm]? = some (.cells #[.int .i64 (a_w l0_0 (x.val : Int)).f0,.slice (am x.val) (a_w l0_0 (x.val : Int)).f1.length (cm x.val)] 24 (0,0)) ∧ W.heap[Bs]? = some (.cells #[.int .i64 (a_w l0_0 (x.val : Int)).f0,.int .i64 (c_L l0_0 a0_1 x.val)] 49 (0,0)) ∧ a' = { tmps:=#[.agg #[.slice A0_0 l0_0.length c0_0,.int .i64 a0_1],.int .i64 a1,.pointer (some ⟨w.heap.size,0,none⟩),.pointer (some ⟨w.heap.size + 1,0,none⟩),.slice none 0 0,.int .i64 0,.int .i64 0,.pointer (some ⟨w1.heap.size,0,none⟩),.pointer (some ⟨Bm,0,none⟩),.pointer (some ⟨Bs,0,none⟩),undef,undef,undef,.agg #[.slice A0_0 l0_0.length c0_0,.int .i64 a0_1],.int .i64 0,.int .i64 0,.bool false,undef,.agg #[.slice A0_0 l0_0.length c0_0,.int .i64 a0_1],.func (.func 41) #[] #[.pointer (some ⟨w1.heap.size + 1,0,none⟩)],momV l0_0 am cm x.val,.agg #[.int .i64 (a_w l0_0 (x.val : Int)).f0,.int .i64 (c_L l0_0 a0_1 x.val)],undef,undef,undef,undef,undef,undef,undef,undef,undef,undef,undef,undef,undef,undef,undef,undef,undef,undef,undef,undef,undef,undef,undef,undef,undef,undef,undef,undef,undef,undef,undef,undef,undef,undef,undef,undef,undef,undef,undef,undef,undef,undef,undef,undef,undef,undef,undef],defers:=[] })
  (fun x a' s A B row hs hg hr => by obtain ⟨Bm,Bs,h1,h2,h3⟩:=hs;exact ⟨Bm,Bs,f_d h1 hg hr,f_d h2 hg hr,h3⟩) ?assign ?body ?done ?stop
 case assign =>
  rintro l pre x W K hI hK
  simp only [momV]
  have iI:=a_g.mk hI
  have iK:=a_g.mk hK
  clear hI hK
  gi_wp2
  have u:=a_j (a_j (Below.refl W.heap.size W) (.cells #[.int .i64 (a_w l0_0 (x.val : Int)).f0,.slice (am x.val) (a_w l0_0 (x.val : Int)).f1.length (cm x.val)] 24)) (.cells #[.int .i64 (a_w l0_0 (x.val : Int)).f0,.int .i64 (c_L l0_0 a0_1 x.val)] 49)
  exact iK.out _ _ (b_3 u) ⟨u.mono iI.out.below.size,u.block _ iI.out.b4⟩ (iI.out.bel u) ⟨_,_,a_d (d_a W _) _,by have:=d_a (W.alloc (.cells #[.int .i64 (a_w l0_0 (x.val : Int)).f0,.slice (am x.val) (a_w l0_0 (x.val : Int)).f1.length (cm x.val)] 24)) (.cells #[.int .i64 (a_w l0_0 (x.val : Int)).f0,.int .i64 (c_L l0_0 a0_1 x.val)] 49);rwa [World.size_alloc] at this,rfl⟩
 case body =>
  rintro l pre x a' W hl' _ hI ⟨Bm,Bs,bm,bs,rfl⟩ hlt
  have iI:=a_g.mk hI
  obtain ⟨⟨v,bv,hrow⟩,b1,b4,⟨gcs,ga⟩,hB⟩:=hI
  simp only [momV]
  have hmx:=HMS.out x.val x.isLt
  have hsm : (a_w l0_0 (x.val : Int)).f1.length ≤ 1099511627776:=HM.out _ (by unfold a_w;simp)
  have IF:=a_g.mk (p_y (a_w l0_0 (x.val : Int)).f0 (a_w l0_0 (x.val : Int)).f1 a1 hsm)
  have IW:=a_g.mk (s_A (a_X (a_w l0_0 (x.val : Int)).f1 a1).1)
  have iC:=a_g.mk (Kd.a_5 hmx.2.2.2 hB)
  have iL:=hmx.2.2.1
  clear hmx hsm
  have c0:=(a_b bm 0).trans rfl
  have c1:=(a_b bm 1).trans rfl
  have c2:=(a_b b1 0).trans rfl
  have iN : ((pre ++ [x]).map (·.val)).foldl (d_g l0_0 a0_1 a1) [] = d_g l0_0 a0_1 a1 ((pre.map (·.val)).foldl (d_g l0_0 a0_1 a1) []) x.val:=by simp
  have hln : ((pre.map (·.val)).foldl (d_g l0_0 a0_1 a1) []).length ≤ pre.length:=by simpa using r_H l0_0 a0_1 a1 (pre.map (·.val)) []
  have hlq : ((pre.map (·.val)).foldl (d_g l0_0 a0_1 a1) []).length ≤ 4398046511104:=by omega
  clear hln
  generalize hn : (pre.map (·.val)).foldl (d_g l0_0 a0_1 a1) [] = acc at hrow iN hlq iI
  clear hn
  have IN:=a_g.mk iN
  have IQ:=a_g.mk hlq
  have iv:=a_g.mk bv
  have i1:=a_g.mk b1
  have ig:=a_g.mk ga
  have is:=a_g.mk bs
  have iB:=a_g.mk hB
  have iR:=a_g.mk hrow
  have i4:=a_g.mk b4
  clear b1 hB bm bs iN hlq hrow bv ga b4
  cases hb : (a_X (a_w l0_0 (x.val : Int)).f1 a1).2 with
  | false =>
   rw [hb] at IF
   have IH:=a_g.mk hb
   clear hb
   gi_wp2_with (first|(refine ⟨trivial,?_⟩;gi_at_call 32;refine (CallsIn.inRound l (callsIn_wide.2 (d_n.calls _ _ _ _ _ _ _ _ _ _ _ _ _ _ _ _ _ _ iC.out iL IF.out))).mono ?_;rintro e w3 ⟨rfl,hb⟩;have IB3:=a_g.mk hb;skip;clear hb)|(refine ⟨trivial,?_⟩))
   have u:=a_j IB3.out (.cells #[.int .i64 (a_X (a_w l0_0 (x.val : Int)).f1 a1).1.f0,.int .i64 (a_X (a_w l0_0 (x.val : Int)).f1 a1).1.f1,.int .i64 (a_X (a_w l0_0 (x.val : Int)).f1 a1).1.f2,.int .i64 (a_X (a_w l0_0 (x.val : Int)).f1 a1).1.f3,.int .i64 (a_X (a_w l0_0 (x.val : Int)).f1 a1).1.f4,.bool (a_X (a_w l0_0 (x.val : Int)).f1 a1).1.f5,.bool (a_X (a_w l0_0 (x.val : Int)).f1 a1).1.f6,.int .u32 (a_X (a_w l0_0 (x.val : Int)).f1 a1).1.f7,.int .i64 (a_X (a_w l0_0 (x.val : Int)).f1 a1).1.f8,.int .i64 (a_X (a_w l0_0 (x.val : Int)).f1 a1).1.f9,.int .i64 (a_X (a_w l0_0 (x.val : Int)).f1 a1).1.f10] 33)
   have e : d_g l0_0 a0_1 a1 acc x.val = acc:=by unfold d_g;rw [IH.out];simp
   exact ⟨b_3 u,⟨u.mono iB.out.size,u.block _ i4.out⟩,by show g_5 w w1 a1 _ _;rw [IN.out,e];exact iI.out.bel u⟩
  | true =>
   rw [hb] at IF
   have IH:=a_g.mk hb
   clear hb
   cases hd : o_M (a_X (a_w l0_0 (x.val : Int)).f1 a1).1 with
   | false =>
    rw [hd] at IW
    have IG:=a_g.mk hd
    clear hd
    gi_wp2_with (first|(refine ⟨trivial,?_⟩;gi_at_call 32;refine (CallsIn.inRound l (callsIn_wide.2 (d_n.calls _ _ _ _ _ _ _ _ _ _ _ _ _ _ _ _ _ _ iC.out iL IF.out))).mono ?_;rintro e w3 ⟨rfl,hb⟩;have IB3:=a_g.mk hb;skip;clear hb)|(refine ⟨trivial,?_⟩;gi_at_call 24;refine (CallsIn.inRound l (callsIn_wide.2 (c_g.calls _ _ _ _ _ _ _ _ _ _ _ _ _ IW.out))).mono ?_;rintro e w4 ⟨rfl,hb⟩;have IB4:=a_g.mk (Below.trans (a_j IB3.out (.cells #[.int .i64 (a_X (a_w l0_0 (x.val : Int)).f1 a1).1.f0,.int .i64 (a_X (a_w l0_0 (x.val : Int)).f1 a1).1.f1,.int .i64 (a_X (a_w l0_0 (x.val : Int)).f1 a1).1.f2,.int .i64 (a_X (a_w l0_0 (x.val : Int)).f1 a1).1.f3,.int .i64 (a_X (a_w l0_0 (x.val : Int)).f1 a1).1.f4,.bool (a_X (a_w l0_0 (x.val : Int)).f1 a1).1.f5,.bool (a_X (a_w l0_0 (x.val : Int)).f1 a1).1.f6,.int .u32 (a_X (a_w l0_0 (x.val : Int)).f1 a1).1.f7,.int .i64 (a_X (a_w l0_0 (x.val : Int)).f1 a1).1.f8,.int .i64 (a_X (a_w l0_0 (x.val : Int)).f1 a1).1.f9,.int .i64 (a_X (a_w l0_0 (x.val : Int)).f1 a1).1.f10] 33)) (hb.mono (a_j IB3.out (.cells #[.int .i64 (a_X (a_w l0_0 (x.val : Int)).f1 a1).1.f0,.int .i64 (a_X (a_w l0_0 (x.val : Int)).f1 a1).1.f1,.int .i64 (a_X (a_w l0_0 (x.val : Int)).f1 a1).1.f2,.int .i64 (a_X (a_w l0_0 (x.val : Int)).f1 a1).1.f3,.int .i64 (a_X (a_w l0_0 (x.val : Int)).f1 a1).1.f4,.bool (a_X (a_w l0_0 (x.val : Int)).f1 a1).1.f5,.bool (a_X (a_w l0_0 (x.val : Int)).f1 a1).1.f6,.int .u32 (a_X (a_w l0_0 (x.val : Int)).f1 a1).1.f7,.int .i64 (a_X (a_w l0_0 (x.val : Int)).f1 a1).1.f8,.int .i64 (a_X (a_w l0_0 (x.val : Int)).f1 a1).1.f9,.int .i64 (a_X (a_w l0_0 (x.val : Int)).f1 a1).1.f10] 33)).size));clear hb;skip))
    have u:=IB4.out
    have e : d_g l0_0 a0_1 a1 acc x.val = acc:=by unfold d_g;rw [IG.out];simp
    exact ⟨b_3 u,⟨u.mono iB.out.size,u.block _ i4.out⟩,by show g_5 w w1 a1 _ _;rw [IN.out,e];exact iI.out.bel u⟩
   | true =>
    rw [hd] at IW
    have IG:=a_g.mk hd
    clear hd
    obtain ⟨i46,hi46,hz46⟩:=Option.map_eq_some_iff.mp y_l
    have H46:=a_g.mk hi46
    have H46z : a_g (i46.zero = some (.agg #[.int .i64 0,.int .i64 0])):=a_g.mk (Prod.mk.inj hz46).1
    have H46s : a_g (i46.size = 2):=a_g.mk (Prod.mk.inj (Prod.mk.inj hz46).2).1
    have H46b : a_g (i46.bytes = 16):=a_g.mk (Prod.mk.inj (Prod.mk.inj hz46).2).2
    clear hi46 hz46
    have hrow:=iR.out
    obtain ⟨A,cap,rfl⟩ : ∃ A cap,v = .slice A acc.length cap:=by
     rcases hrow.2 with ⟨rfl,hz⟩ | ⟨g,cap,cur,rfl,_⟩
     ·exact ⟨_,0,by rw [hz]⟩
     exact ⟨_,cap,rfl⟩
    by_cases hz : acc.length = 0
    ·have hacc : acc = []:=List.eq_nil_of_length_eq_zero hz
     have IA:=a_g.mk hacc
     have AHN:=a_g.mk hz
     rw [hz] at iv iR
     clear hz hacc hrow
     gi_wp2_with (first|(refine ⟨trivial,?_⟩;gi_at_call 32;refine (CallsIn.inRound l (callsIn_wide.2 (d_n.calls _ _ _ _ _ _ _ _ _ _ _ _ _ _ _ _ _ _ iC.out iL IF.out))).mono ?_;rintro e w3 ⟨rfl,hb⟩;have IB3:=a_g.mk hb;skip;clear hb)|(refine ⟨trivial,?_⟩;gi_at_call 24;refine (CallsIn.inRound l (callsIn_wide.2 (c_g.calls _ _ _ _ _ _ _ _ _ _ _ _ _ IW.out))).mono ?_;rintro e w4 ⟨rfl,hb⟩;have IB4:=a_g.mk (Below.trans (a_j IB3.out (.cells #[.int .i64 (a_X (a_w l0_0 (x.val : Int)).f1 a1).1.f0,.int .i64 (a_X (a_w l0_0 (x.val : Int)).f1 a1).1.f1,.int .i64 (a_X (a_w l0_0 (x.val : Int)).f1 a1).1.f2,.int .i64 (a_X (a_w l0_0 (x.val : Int)).f1 a1).1.f3,.int .i64 (a_X (a_w l0_0 (x.val : Int)).f1 a1).1.f4,.bool (a_X (a_w l0_0 (x.val : Int)).f1 a1).1.f5,.bool (a_X (a_w l0_0 (x.val : Int)).f1 a1).1.f6,.int .u32 (a_X (a_w l0_0 (x.val : Int)).f1 a1).1.f7,.int .i64 (a_X (a_w l0_0 (x.val : Int)).f1 a1).1.f8,.int .i64 (a_X (a_w l0_0 (x.val : Int)).f1 a1).1.f9,.int .i64 (a_X (a_w l0_0 (x.val : Int)).f1 a1).1.f10] 33)) (hb.mono (a_j IB3.out (.cells #[.int .i64 (a_X (a_w l0_0 (x.val : Int)).f1 a1).1.f0,.int .i64 (a_X (a_w l0_0 (x.val : Int)).f1 a1).1.f1,.int .i64 (a_X (a_w l0_0 (x.val : Int)).f1 a1).1.f2,.int .i64 (a_X (a_w l0_0 (x.val : Int)).f1 a1).1.f3,.int .i64 (a_X (a_w l0_0 (x.val : Int)).f1 a1).1.f4,.bool (a_X (a_w l0_0 (x.val : Int)).f1 a1).1.f5,.bool (a_X (a_w l0_0 (x.val : Int)).f1 a1).1.f6,.int .u32 (a_X (a_w l0_0 (x.val : Int)).f1 a1).1.f7,.int .i64 (a_X (a_w l0_0 (x.val : Int)).f1 a1).1.f8,.int .i64 (a_X (a_w l0_0 (x.val : Int)).f1 a1).1.f9,.int .i64 (a_X (a_w l0_0 (x.val : Int)).f1 a1).1.f10] 33)).size));clear hb;have s2:=(a_b (a_m iv.out IB4.out) 0).trans rfl;have y2:=a_L (a_m iv.out IB4.out);have s0 : w4.cell? ⟨Bs,0,none⟩ = some (.int .i64 (a_w l0_0 (x.val : Int)).f0):=(a_b (a_m is.out IB4.out) 0).trans rfl;have s1 : w4.cell? ⟨Bs,1,none⟩ = some (.int .i64 (c_L l0_0 a0_1 x.val)):=(a_b (a_m is.out IB4.out) 1).trans rfl;have y0:=a_L (a_m is.out IB4.out)))
     ·have u:=IB4.out;have e : d_g l0_0 a0_1 a1 acc x.val = acc:=if_neg (fun h => h.2.2 (eq_of_beq (by assumption)));exact ⟨b_3 u,⟨u.mono iB.out.size,u.block _ i4.out⟩,by show g_5 w w1 a1 _ _;rw [IN.out,e];exact iI.out.bel u⟩
     generalize (Value.agg #[.int .i64 (a_X (a_w l0_0 (x.val : Int)).f1 a1).1.f0,.int .i64 (a_X (a_w l0_0 (x.val : Int)).f1 a1).1.f1,.int .i64 (a_X (a_w l0_0 (x.val : Int)).f1 a1).1.f2,.int .i64 (a_X (a_w l0_0 (x.val : Int)).f1 a1).1.f3,.int .i64 (a_X (a_w l0_0 (x.val : Int)).f1 a1).1.f4,.bool (a_X (a_w l0_0 (x.val : Int)).f1 a1).1.f5,.bool (a_X (a_w l0_0 (x.val : Int)).f1 a1).1.f6,.int .u32 (a_X (a_w l0_0 (x.val : Int)).f1 a1).1.f7,.int .i64 (a_X (a_w l0_0 (x.val : Int)).f1 a1).1.f8,.int .i64 (a_X (a_w l0_0 (x.val : Int)).f1 a1).1.f9,.int .i64 (a_X (a_w l0_0 (x.val : Int)).f1 a1).1.f10]) = X1;have d0 : w4.drew.cell? ⟨Bs,0,none⟩ = some (.int .i64 (a_w l0_0 (x.val : Int)).f0):=s0;have d1 : w4.drew.cell? ⟨Bs,1,none⟩ = some (.int .i64 (c_L l0_0 a0_1 x.val)):=s1;have d2:=(show w4.drew.cell? _ = _ from s2);have y3 : Bs < w4.drew.heap.size:=y0;have y4 : w1.heap.size < w4.drew.heap.size:=y2;have mx : Tryd.prog.follows .mixedOrders = true:=by kernel_rfl
     refine o_P ?_;apply Exists.intro;apply Exists.intro;refine And.intro ?ra ?ka;(case ra => (gi_region_with_o (fail));all_goals exact ⟨rfl,rfl,rfl⟩)
     gi_wp2_with (gi_at_builtin;refine wpListIn_append_own _ rfl _ _ 45 rfl w.heap.size 49 _ (.agg #[.int .i64 0,.int .i64 0]) 2 16 Tryd.underlying45 H46.out H46z.out H46s.out H46b.out rfl (by decide) _ _ (e_W acc) rfl ((i_o iR.out (Below.drew IB4.out)).alloc (.cells #[.int .i64 (a_w l0_0 (x.val : Int)).f0,.int .i64 (c_L l0_0 a0_1 x.val)] 49)) ⟨w4.heap.size,0,none⟩ 1 1 [.int .i64 (a_w l0_0 (x.val : Int)).f0,.int .i64 (c_L l0_0 a0_1 x.val)] rfl rfl (r_E w4 _ _ _) (by simp [Value.oneCell']) (by have:=IQ.out;have:=AHN.out;simp only [maxLen];omega) (by have:=IQ.out;have:=AHN.out;omega) (by have h1:=iB.out.size;have h2:=IB4.out.size;exact Nat.le_trans h1 (Nat.le_trans h2 (by show w4.heap.size ≤ (w4.heap.push _).size;simp))) ?_;intro v' w5 hown' hgrow _;obtain ⟨g',cap',rfl⟩:=ownsRow_succ hown';obtain ⟨⟨e1,e2⟩,e3,e4,e5⟩:=o_L (hn:=AHN.out) (tmp:=.cells #[.int .i64 (a_w l0_0 (x.val : Int)).f0,.int .i64 (c_L l0_0 a0_1 x.val)] 49) iI.out hws (Below.drew IB4.out) iv.out iR.out hown' hgrow;have E3:=a_g.mk e3;have E4:=a_g.mk e4;have E5:=a_g.mk e5;clear e3 e4 e5 hown' hgrow)
     have e : d_g l0_0 a0_1 a1 acc x.val = acc ++ [⟨(a_w l0_0 (x.val : Int)).f0,c_L l0_0 a0_1 x.val⟩]:=by unfold d_g;rw [if_pos ⟨IH.out,IG.out,ne_of_beq_false (by assumption)⟩,if_neg (fun h => by have:=h.1;have:=AHN.out;omega)]
     exact ⟨E3.out _,E4.out,by show g_5 w w1 a1 _ _;rw [IN.out,e];exact E5.out⟩
    obtain ⟨m,hm⟩ : ∃ m,acc.length = m + 1:=⟨acc.length - 1,by omega⟩
    obtain ⟨g,rfl⟩ : ∃ g,A = some ⟨g,0,none⟩:=by
     rcases hrow.2 with ⟨_,hz'⟩ | ⟨g,cap,cur,e,_⟩
     ·exact absurd hz' hz
     cases e;exact ⟨_,rfl⟩
    have AHN:=a_g.mk hm
    rw [hm] at iv
    rw [hm] at iR
    clear hz hrow hm
    gi_wp2_with (first|(refine ⟨trivial,?_⟩;gi_at_call 32;refine (CallsIn.inRound l (callsIn_wide.2 (d_n.calls _ _ _ _ _ _ _ _ _ _ _ _ _ _ _ _ _ _ iC.out iL IF.out))).mono ?_;rintro e w3 ⟨rfl,hb⟩;have IB3:=a_g.mk hb;skip;clear hb)|(refine ⟨trivial,?_⟩;gi_at_call 24;refine (CallsIn.inRound l (callsIn_wide.2 (c_g.calls _ _ _ _ _ _ _ _ _ _ _ _ _ IW.out))).mono ?_;rintro e w4 ⟨rfl,hb⟩;have IB4:=a_g.mk (Below.trans (a_j IB3.out (.cells #[.int .i64 (a_X (a_w l0_0 (x.val : Int)).f1 a1).1.f0,.int .i64 (a_X (a_w l0_0 (x.val : Int)).f1 a1).1.f1,.int .i64 (a_X (a_w l0_0 (x.val : Int)).f1 a1).1.f2,.int .i64 (a_X (a_w l0_0 (x.val : Int)).f1 a1).1.f3,.int .i64 (a_X (a_w l0_0 (x.val : Int)).f1 a1).1.f4,.bool (a_X (a_w l0_0 (x.val : Int)).f1 a1).1.f5,.bool (a_X (a_w l0_0 (x.val : Int)).f1 a1).1.f6,.int .u32 (a_X (a_w l0_0 (x.val : Int)).f1 a1).1.f7,.int .i64 (a_X (a_w l0_0 (x.val : Int)).f1 a1).1.f8,.int .i64 (a_X (a_w l0_0 (x.val : Int)).f1 a1).1.f9,.int .i64 (a_X (a_w l0_0 (x.val : Int)).f1 a1).1.f10] 33)) (hb.mono (a_j IB3.out (.cells #[.int .i64 (a_X (a_w l0_0 (x.val : Int)).f1 a1).1.f0,.int .i64 (a_X (a_w l0_0 (x.val : Int)).f1 a1).1.f1,.int .i64 (a_X (a_w l0_0 (x.val : Int)).f1 a1).1.f2,.int .i64 (a_X (a_w l0_0 (x.val : Int)).f1 a1).1.f3,.int .i64 (a_X (a_w l0_0 (x.val : Int)).f1 a1).1.f4,.bool (a_X (a_w l0_0 (x.val : Int)).f1 a1).1.f5,.bool (a_X (a_w l0_0 (x.val : Int)).f1 a1).1.f6,.int .u32 (a_X (a_w l0_0 (x.val : Int)).f1 a1).1.f7,.int .i64 (a_X (a_w l0_0 (x.val : Int)).f1 a1).1.f8,.int .i64 (a_X (a_w l0_0 (x.val : Int)).f1 a1).1.f9,.int .i64 (a_X (a_w l0_0 (x.val : Int)).f1 a1).1.f10] 33)).size));clear hb;have s2:=(a_b (a_m iv.out IB4.out) 0).trans rfl;have y2:=a_L (a_m iv.out IB4.out);have s0 : w4.cell? ⟨Bs,0,none⟩ = some (.int .i64 (a_w l0_0 (x.val : Int)).f0):=(a_b (a_m is.out IB4.out) 0).trans rfl;have s1 : w4.cell? ⟨Bs,1,none⟩ = some (.int .i64 (c_L l0_0 a0_1 x.val)):=(a_b (a_m is.out IB4.out) 1).trans rfl;have y0:=a_L (a_m is.out IB4.out)))
    ·have u:=IB4.out;have e : d_g l0_0 a0_1 a1 acc x.val = acc:=if_neg (fun h => h.2.2 (eq_of_beq (by assumption)));exact ⟨b_3 u,⟨u.mono iB.out.size,u.block _ i4.out⟩,by show g_5 w w1 a1 _ _;rw [IN.out,e];exact iI.out.bel u⟩
    generalize (Value.agg #[.int .i64 (a_X (a_w l0_0 (x.val : Int)).f1 a1).1.f0,.int .i64 (a_X (a_w l0_0 (x.val : Int)).f1 a1).1.f1,.int .i64 (a_X (a_w l0_0 (x.val : Int)).f1 a1).1.f2,.int .i64 (a_X (a_w l0_0 (x.val : Int)).f1 a1).1.f3,.int .i64 (a_X (a_w l0_0 (x.val : Int)).f1 a1).1.f4,.bool (a_X (a_w l0_0 (x.val : Int)).f1 a1).1.f5,.bool (a_X (a_w l0_0 (x.val : Int)).f1 a1).1.f6,.int .u32 (a_X (a_w l0_0 (x.val : Int)).f1 a1).1.f7,.int .i64 (a_X (a_w l0_0 (x.val : Int)).f1 a1).1.f8,.int .i64 (a_X (a_w l0_0 (x.val : Int)).f1 a1).1.f9,.int .i64 (a_X (a_w l0_0 (x.val : Int)).f1 a1).1.f10]) = X1;have d0 : w4.drew.cell? ⟨Bs,0,none⟩ = some (.int .i64 (a_w l0_0 (x.val : Int)).f0):=s0;have d1 : w4.drew.cell? ⟨Bs,1,none⟩ = some (.int .i64 (c_L l0_0 a0_1 x.val)):=s1;have d2:=(show w4.drew.cell? _ = _ from s2);have y3 : Bs < w4.drew.heap.size:=y0;have y4 : w1.heap.size < w4.drew.heap.size:=y2;have mx : Tryd.prog.follows .mixedOrders = true:=by kernel_rfl
    have hoc:=o_C (i_o iR.out (Below.drew IB4.out)) (m * 2 + 1) (by omega)
    rw [(l_R acc m (by rw [AHN.out];omega)).2] at hoc
    have d3:=hoc.1
    have d4:=hoc.2.1
    clear hoc
    have wm : IntKind.i64.wrap (m : Int) = (m : Int):=by have:=IQ.out;have:=AHN.out;rw [IntKind.wrap_i64];omega
    refine o_P ?_;apply Exists.intro;apply Exists.intro;refine And.intro ?rb ?kb;(case rb => (gi_region_with_o (fail));all_goals exact ⟨rfl,rfl,rfl⟩)
    gi_wp2_with (gi_at_builtin;refine wpListIn_append_own _ rfl _ _ 45 rfl w.heap.size 49 _ (.agg #[.int .i64 0,.int .i64 0]) 2 16 Tryd.underlying45 H46.out H46z.out H46s.out H46b.out rfl (by decide) _ _ (e_W acc) rfl ((i_o iR.out (Below.drew IB4.out)).alloc (.cells #[.int .i64 (a_w l0_0 (x.val : Int)).f0,.int .i64 (c_L l0_0 a0_1 x.val)] 49)) ⟨w4.heap.size,0,none⟩ 1 1 [.int .i64 (a_w l0_0 (x.val : Int)).f0,.int .i64 (c_L l0_0 a0_1 x.val)] rfl rfl (r_E w4 _ _ _) (by simp [Value.oneCell']) (by have:=IQ.out;have:=AHN.out;simp only [maxLen];omega) (by have:=IQ.out;have:=AHN.out;omega) (by have h1:=iB.out.size;have h2:=IB4.out.size;exact Nat.le_trans h1 (Nat.le_trans h2 (by show w4.heap.size ≤ (w4.heap.push _).size;simp))) ?_;intro v' w5 hown' hgrow _;obtain ⟨g',cap',rfl⟩:=ownsRow_succ hown';obtain ⟨⟨e1,e2⟩,e3,e4,e5⟩:=o_L (hn:=AHN.out) (tmp:=.cells #[.int .i64 (a_w l0_0 (x.val : Int)).f0,.int .i64 (c_L l0_0 a0_1 x.val)] 49) iI.out hws (Below.drew IB4.out) iv.out iR.out hown' hgrow;have E3:=a_g.mk e3;have E4:=a_g.mk e4;have E5:=a_g.mk e5;clear e3 e4 e5 hown' hgrow)
    ·have e : d_g l0_0 a0_1 a1 acc x.val = acc.set m ⟨(acc.getD m z49).f0,c_L l0_0 a0_1 x.val⟩:=by unfold d_g;rw [if_pos ⟨IH.out,IG.out,ne_of_beq_false (by assumption)⟩,AHN.out,if_pos ⟨Nat.succ_pos m,eq_of_beq (by assumption)⟩];rfl
     obtain ⟨k1,k2,k3⟩:=s_z iI.out hws (Below.drew IB4.out) iv.out iR.out AHN.out (c_L l0_0 a0_1 x.val)
     exact ⟨k1 _,k2,by show g_5 w w1 a1 _ _;rw [IN.out,e];exact k3⟩
    have e : d_g l0_0 a0_1 a1 acc x.val = acc ++ [⟨(a_w l0_0 (x.val : Int)).f0,c_L l0_0 a0_1 x.val⟩]:=by unfold d_g;rw [if_pos ⟨IH.out,IG.out,ne_of_beq_false (by assumption)⟩,AHN.out,if_neg (fun h => ne_of_beq_false (by assumption) h.2)]
    exact ⟨E3.out _,E4.out,by show g_5 w w1 a1 _ _;rw [IN.out,e];exact E5.out⟩
 case done =>
  rintro D ys W hD rfl hI hK
  obtain ⟨⟨v,bv,hrow⟩,b1,b4,⟨gcs,ga⟩,hB⟩:=hI
  have hv : ((List.finRange l0_0.length).map (·.val)).foldl (d_g l0_0 a0_1 a1) [] = (List.range l0_0.length).foldl (d_g l0_0 a0_1 a1) []:=by
   congr 1
   apply List.ext_getElem
   ·simp
   intro i h1 h2;simp
  rw [hv] at hrow
  have c0 : W.cell? ⟨w1.heap.size,0,none⟩ = some v:=(a_b bv 0).trans rfl
  clear bv b1 b4 ga hv
  gi_wp2
  refine ⟨by simp,.inl ⟨_,_,rfl,run_takeDeferred hK,?_⟩⟩
  exact ⟨.tuple #[v,.int .i64 0],by simp [results,Tryd.results18,go_sem],v,rfl,y_q (ownsRow_putObj hrow _ hK rfl),hB.trans (belowK_b (w:=w) (Nat.le_refl _) W D _ _ (by have:=nB.out.size;omega) hK rfl rfl)⟩
 case stop =>
  rintro D c pre W _ _ h _
  exact h.elim
set_option maxHeartbeats 2000000 in
theorem b_X.errs (k : Nat) (A0_0 : Option Addr) (c0_0 : Nat) (l0_0 : List S24) (a0_1 a1 : Int) (e : Int) (w : World) (hr0_0 : Kd.C k24 w A0_0 l0_0.length l0_0) (hc0_0 : l0_0.length ≤ c0_0) (he : a_D.f k l0_0 a0_1 = some e) (h1 : e ≠ 0) :
 Calls Tryd.prog 18 #[.agg #[.slice A0_0 l0_0.length c0_0,.int .i64 a0_1],.int .i64 a1] w fun e' w' => e' = .returned (.tuple #[.slice none 0 0,.int .i64 e]) ∧ Below w.heap.size w w':=by
 have HR:=a_g.mk hr0_0
 have HE:=a_g.mk he
 clear hr0_0 he
 have qB:=a_g.mk (a_j (a_j (Below.refl w.heap.size w) (.cells #[.slice A0_0 l0_0.length c0_0,.int .i64 a0_1] 37)) (.cells #[.int .i64 a1] 3))
 have g0 : (e != 0) = true:=bne_iff_ne.mpr h1
 clear h1
 go_enter Tryd.func18,Tryd.ntmps18
 go_wp2_with (go_at_call 29;refine (a_D.calls k _ _ l0_0 a0_1 e _ ?s1 hc0_0 HE.out).mono ?_;(case s1 => exact Kd.a_5 HR.out qB.out);rintro e w1 ⟨rfl,hb⟩;have HB:=a_g.mk (a_p qB.out hb);clear hb)
 go_ret2
 exact ⟨rfl,HB.out⟩
theorem b_X.calls (k : Nat) (A0_0 : Option Addr) (c0_0 : Nat) (l0_0 : List S24) (a0_1 a1 : Int) (r1 : List S49) (r2 : Int) (w : World) (hr0_0 : Kd.C k24 w A0_0 l0_0.length l0_0) (hc0_0 : l0_0.length ≤ c0_0) (h : b_X.f k l0_0 a0_1 a1 = some (r1,r2)) :
 Calls Tryd.prog 18 #[.agg #[.slice A0_0 l0_0.length c0_0,.int .i64 a0_1],.int .i64 a1] w fun e w' => ∃ v0_ : Value,e = .returned (.tuple #[v0_,.int .i64 r2]) ∧ Kd.R k49 49 w' w.heap.size (fun _ => True) v0_ r1 ∧ Below w.heap.size w w':=by
 obtain ⟨e,he,h⟩:=Option.bind_eq_some_iff.mp h
 by_cases h0 : e = 0
 ·rw [if_pos h0] at h
  subst h0
  by_cases h4 : l0_0.length ≤ 4398046511104 ∧ ∀ m ∈ l0_0,m.f1.length ≤ 1099511627776
  ·rw [if_pos h4] at h;cases h
   exact b_X.sums k A0_0 c0_0 l0_0 a0_1 a1 w hr0_0 hc0_0 he h4.1 h4.2
  rw [if_neg h4] at h;cases h
 rw [if_neg h0] at h;cases h
 exact (b_X.errs k A0_0 c0_0 l0_0 a0_1 a1 _ w hr0_0 hc0_0 he h0).mono (by
  rintro e w' ⟨rfl,hb⟩
  exact ⟨_,rfl,y_q (xs:=[]) (n_U _ _ _ _),hb⟩)
end
end Go.Proofs.YtgglkfilkagblaaDoor.Q
end
section
namespace Go.Proofs.YtgglkfilkagblaaDoor.Q
open Go.RowKit Go.Proofs.YtgglkfilkagblaaDoorW.PrintWords Go.Proofs.YtgglkfilkagblaaDoorW.PrintLast Go.Proofs.YtgglkfilkagblaaDoorW.PrintMore
set_option linter.unusedVariables false
set_option linter.unusedSimpArgs false
def e_v.f (a0 : Int) : Option (Int):=if a0 < 0 then (some 0) else (if a0 ≥ 8 then (some 0) else (if 0 ≤ a0 then (some (shl .u32 1 a0)) else (none)))
set_option maxHeartbeats 8000000 in
set_option maxRecDepth 100000 in
theorem e_v.calls (a0 : Int) (r : Int) (w : World) (h : e_v.f a0 = some r) :
 Calls Tryd.prog 36 #[.int .i64 a0] w fun e w' => e = .returned (.int .u32 r) ∧ b_R w w':=by
 have H : (if a0 < 0 then (some 0) else (if a0 ≥ 8 then (some 0) else (if 0 ≤ a0 then (some (shl .u32 1 a0)) else (none)))) = some r:=h
 clear h
 by_cases c2 : a0 < 0
 ·rw [if_pos c2] at H
  have c2b0 : decide (a0 < 0) = true:=decide_eq_true c2
  clear c2
  obtain rfl:=Option.some.inj H
  go_enter Tryd.func36,Tryd.ntmps36
  go_wp2
  go_ret
  exact ⟨by first|rfl|(simp;done)|(simp [*];done),by repeat (first|exact b_R.refl _|apply b_R.step)⟩
 rw [if_neg c2] at H
 have c2b0 : decide (a0 < 0) = false:=decide_eq_false c2
 clear c2
 by_cases c3 : a0 ≥ 8
 ·rw [if_pos c3] at H
  have c3b0 : decide (8 ≤ a0) = true:=decide_eq_true c3
  clear c3
  obtain rfl:=Option.some.inj H
  go_enter Tryd.func36,Tryd.ntmps36
  go_wp2
  go_ret
  exact ⟨by first|rfl|(simp;done)|(simp [*];done),by repeat (first|exact b_R.refl _|apply b_R.step)⟩
 rw [if_neg c3] at H
 have c3b0 : decide (8 ≤ a0) = false:=decide_eq_false c3
 clear c3
 by_cases c4 : 0 ≤ a0
 rotate_left
 ·rw [if_neg c4] at H
  exact absurd H (by simp)
 rw [if_pos c4] at H
 have c4b0:=eq_true c4
 have c4b1 : decide (0 ≤ a0) = true:=decide_eq_true c4
 clear c4
 obtain ⟨ji5,hji5⟩ : ∃ j_ : Int,(shl .u32 1 a0) = j_:=⟨_,rfl⟩
 replace H : (some ji5) = some r:=by first|(rw [hji5] at H;exact H)|(simp only [hji5] at H ⊢; exact H)
 have hji5_ : (IntKind.u32.wrap (1 * 2 ^ min a0.toNat 32)) = ji5:=hji5
 have hji5z : a0 ≤ 32 → (IntKind.u32.wrap (1 * 2 ^ a0.toNat)) = ji5:=i_b hji5
 have hji5u : (IntKind.u32.wrap (2 ^ min a0.toNat 32)) = ji5:=by have h_:=hji5_;rw [Int.one_mul] at h_;exact h_
 have hji5v : a0 ≤ 32 → (IntKind.u32.wrap (2 ^ a0.toNat)) = ji5:=fun hle_ => by have h_:=hji5z hle_;rw [Int.one_mul] at h_;exact h_
 obtain rfl:=Option.some.inj H
 go_enter Tryd.func36,Tryd.ntmps36
 go_wp2
 go_ret
 exact ⟨by first|rfl|(simp;done)|(simp only [← hji5] <;> (first|rfl|simp))|(simp [*];done),by repeat (first|exact b_R.refl _|apply b_R.step)⟩
end Go.Proofs.YtgglkfilkagblaaDoor.Q
end
section
namespace Go.Proofs.YtgglkfilkagblaaDoor.Q
open Go.RowKit Go.Proofs.YtgglkfilkagblaaDoorW.PrintWords Go.Proofs.YtgglkfilkagblaaDoorW.PrintLast Go.Proofs.YtgglkfilkagblaaDoorW.PrintMore
set_option linter.unusedVariables false
set_option linter.unusedSimpArgs false
def b_Q.f (a0 : Int) (a1 : Int) : Option (Bool):=(e_v.f a1).bind fun t121 => (some ((Go.bits .and .u32 a0 t121) != 0))
set_option maxHeartbeats 8000000 in
set_option maxRecDepth 100000 in
theorem b_Q.calls (a0 : Int) (a1 : Int) (r : Bool) (w : World) (h : b_Q.f a0 a1 = some r) :
 Calls Tryd.prog 20 #[.int .u32 a0,.int .i64 a1] w fun e w' => e = .returned (.bool r) ∧ b_R w w':=by
 have H : ((e_v.f a1).bind fun t121 => (some ((Go.bits .and .u32 a0 t121) != 0))) = some r:=h
 clear h
 replace H:=Option.bind_eq_some_iff.mp H
 obtain ⟨t121,A30,H⟩:=H
 replace H : (some ((Go.bits .and .u32 a0 t121) != 0)) = some r:=H
 have A3:=a_g.mk A30
 clear A30
 obtain rfl:=Option.some.inj H
 go_enter Tryd.func20,Tryd.ntmps20
 go_wp2_with (first|((with_reducible refine a_J (f:=36) rfl ?_);refine b_t (some 7) rfl rfl Tryd.func36 (by kernel_rfl) rfl #[.int .i64 a1] rfl (by (try simp only [List.map_toArray,List.map_cons,List.map_nil]);first|done|rfl|(simp only [List.length_drop,List.length_take];rfl)) ?_;(with_reducible refine (e_v.calls a1 t121 _ A3.out).mono ?_);rintro e w' ⟨rfl,⟨nd,rfl⟩⟩;refine ⟨_,rfl,?_⟩))
 go_ret
 exact ⟨by first|rfl|(simp;done)|(simp [*];done),by repeat (first|exact b_R.refl _|apply b_R.step)⟩
end Go.Proofs.YtgglkfilkagblaaDoor.Q
end
