/- Part 11 of 14 of what the row of AuditAdds stands on: contracts over the given program's functions, the plain law, the row; no condition beyond those that each theorem states. -/
import Derived.Test.YtgglkfilkagblaaXAuditAdds9
import Derived.RangeFuncBox
section
namespace Go.Proofs.Ytgglkfilkagblaa.Q
open Go.RowKit Go.Proofs.YtgglkfilkagblaaW.PrintWords Go.Proofs.YtgglkfilkagblaaW.PrintLast Go.Proofs.YtgglkfilkagblaaW.PrintMore
set_option linter.unusedVariables false
set_option linter.unusedSimpArgs false
def d_S.f (a0_0 : Int) (l0_1 : List (S65)) (a1 : Int) : Option (Int × Int × Int × Int × Int × Bool × Bool × Int × Int × Int × Int × Bool):=(b_u.f l0_1 a1).bind fun t156 => (if t156 < 0 then (some (0,0,0,0,0,false,false,0,0,0,0,false)) else (if 0 ≤ t156 then (if t156 < (l0_1.length : Int) then (some ((a_c l0_1 t156).f0,(a_c l0_1 t156).f1,(a_c l0_1 t156).f2,(a_c l0_1 t156).f3,(a_c l0_1 t156).f4,(a_c l0_1 t156).f5,(a_c l0_1 t156).f6,(a_c l0_1 t156).f7,(a_c l0_1 t156).f8,(a_c l0_1 t156).f9,(a_c l0_1 t156).f10,true)) else (none)) else (none)))
set_option maxHeartbeats 8000000 in
set_option maxRecDepth 100000 in
theorem d_S.calls (a0_0 : Int) (A0_1 : Option Addr) (c0_1 : Nat) (l0_1 : List (S65)) (a1 : Int) (r1 : Int) (r2 : Int) (r3 : Int) (r4 : Int) (r5 : Int) (r6 : Bool) (r7 : Bool) (r8 : Int) (r9 : Int) (r10 : Int) (r11 : Int) (r12 : Bool) (w : World) (hr0_1 : Kd.C k65 w A0_1 l0_1.length l0_1) (hc0_1 : l0_1.length ≤ c0_1) (h : d_S.f a0_0 l0_1 a1 = some (r1,r2,r3,r4,r5,r6,r7,r8,r9,r10,r11,r12)) :
 Calls Try.prog 29 #[.agg #[.int .i64 a0_0,.slice A0_1 l0_1.length c0_1],.int .i64 a1] w fun e w' => e = .returned (.tuple #[.agg #[.int .i64 r1,.int .i64 r2,.int .i64 r3,.int .i64 r4,.int .i64 r5,.bool r6,.bool r7,.int .u32 r8,.int .i64 r9,.int .i64 r10,.int .i64 r11],.bool r12]) ∧ Below w.heap.size w w':=by
 have hu27:=Try.underlying27
 have hu65:=Try.underlying65
 have hu68:=Try.underlying68
 have e_o:=a_e.mk hr0_1
 have g_I:=a_e.mk hc0_1
 clear hr0_1 hc0_1
 have HB:=a_e.mk (Below.refl w.heap.size w)
 have H : ((b_u.f l0_1 a1).bind fun t156 => (if t156 < 0 then (some (0,0,0,0,0,false,false,0,0,0,0,false)) else (if 0 ≤ t156 then (if t156 < (l0_1.length : Int) then (some ((a_c l0_1 t156).f0,(a_c l0_1 t156).f1,(a_c l0_1 t156).f2,(a_c l0_1 t156).f3,(a_c l0_1 t156).f4,(a_c l0_1 t156).f5,(a_c l0_1 t156).f6,(a_c l0_1 t156).f7,(a_c l0_1 t156).f8,(a_c l0_1 t156).f9,(a_c l0_1 t156).f10,true)) else (none)) else (none)))) = some (r1,r2,r3,r4,r5,r6,r7,r8,r9,r10,r11,r12):=h
 clear h
 replace H:=Option.bind_eq_some_iff.mp H
 obtain ⟨t156,A30,H⟩:=H
 replace H : (if t156 < 0 then (some (0,0,0,0,0,false,false,0,0,0,0,false)) else (if 0 ≤ t156 then (if t156 < (l0_1.length : Int) then (some ((a_c l0_1 t156).f0,(a_c l0_1 t156).f1,(a_c l0_1 t156).f2,(a_c l0_1 t156).f3,(a_c l0_1 t156).f4,(a_c l0_1 t156).f5,(a_c l0_1 t156).f6,(a_c l0_1 t156).f7,(a_c l0_1 t156).f8,(a_c l0_1 t156).f9,(a_c l0_1 t156).f10,true)) else (none)) else (none))) = some (r1,r2,r3,r4,r5,r6,r7,r8,r9,r10,r11,r12):=H
 have A3:=a_e.mk A30
 clear A30
 by_cases c4 : t156 < 0
 ·rw [if_pos c4] at H
  have c4b0 : decide (t156 < 0) = true:=decide_eq_true c4
  clear c4
  simp only [Option.some.injEq,Prod.mk.injEq] at H
  obtain ⟨rfl,rfl,rfl,rfl,rfl,rfl,rfl,rfl,rfl,rfl,rfl,rfl⟩:=H
  go_enter Try.func29,Try.ntmps29
  go_wp2_with (first|((with_reducible refine a_U (N:=2) rfl ?_);refine a_H ?hg (N:=2) ?hd (cs:=#[.int .i64 a0_0,.slice A0_1 l0_1.length c0_1]) (t:=27) ?hr ?_;(case hd => rfl);(case hg => rfl);(case hr => first|(go_simp;done)|(go_simp;rfl));intro g_y hg w5 hbox hb;have e_D:=a_e.mk (hbox);have H_W:=a_e.mk ((by rw [hg];exact (a_p (lup_ HB.out)) : w.heap.size ≤ g_y));have g_O:=a_e.mk ((by rw [hg];exact (a_p (lup_ HB.out)) : w.heap.size ≤ g_y));replace HB:=a_e.mk (a_t (lup_ HB.out) hb);clear hb hbox hg)|((with_reducible refine a_U (N:=3) rfl ?_);refine a_H ?hg (N:=3) ?hd (cs:=#[.int .i64 a1]) (t:=3) ?hr ?_;(case hd => rfl);(case hg => rfl);(case hr => first|(go_simp;done)|(go_simp;rfl));intro g_P hg w6 hbox hb;have h_C:=a_e.mk (hbox);have H_X:=a_e.mk ((by rw [hg];exact (a_p (by repeat (first|(with_reducible first|exact HB.out|apply a_g|apply a_f|apply a_h|refine a_d ?_ g_O.out)|exact HB.out))) : w.heap.size ≤ g_P));have j_V:=a_e.mk ((by rw [hg];exact (a_p (by repeat (first|(with_reducible first|exact HB.out|apply a_g|apply a_f|apply a_h|refine a_d ?_ g_O.out)|exact HB.out))) : w.heap.size ≤ g_P));have j_W:=a_e.mk ((by rw [hg];exact Nat.ne_of_lt (a_N (bup_ e_D.out)) : g_y ≠ g_P));have j_X:=a_e.mk ((by rw [hg];exact Nat.ne_of_gt (a_N (bup_ e_D.out)) : g_P ≠ g_y));replace e_D:=a_e.mk (a_l (bup_ e_D.out) hb);replace HB:=a_e.mk (a_t (by repeat (first|(with_reducible first|exact HB.out|apply a_g|apply a_f|apply a_h|refine a_d ?_ g_O.out)|exact HB.out)) hb);clear hb hbox hg)|((with_reducible refine a_U (N:=4) rfl ?_);refine a_H ?hg (N:=4) ?hd (cs:=#[.int .i64 0,.int .i64 0,.int .i64 0,.int .i64 0,.int .i64 0,.bool false,.bool false,.int .u32 0,.int .i64 0,.int .i64 0,.int .i64 0]) (t:=65) ?hr ?_;(case hd => rfl);(case hg => rfl);(case hr => first|(go_simp;done)|(go_simp;rfl));intro e_k hg w7 hbox hb;have c_6:=a_e.mk (hbox);have H_Y:=a_e.mk ((by rw [hg];exact (a_p (by repeat (first|(with_reducible first|exact HB.out|apply a_g|apply a_f|apply a_h|refine a_d ?_ g_O.out|refine a_d ?_ j_V.out)|exact HB.out))) : w.heap.size ≤ e_k));have q_B:=a_e.mk ((by rw [hg];exact (a_p (by repeat (first|(with_reducible first|exact HB.out|apply a_g|apply a_f|apply a_h|refine a_d ?_ g_O.out|refine a_d ?_ j_V.out)|exact HB.out))) : w.heap.size ≤ e_k));have j_Y:=a_e.mk ((by rw [hg];exact Nat.ne_of_lt (a_N (bup_ e_D.out)) : g_y ≠ e_k));have j_Z:=a_e.mk ((by rw [hg];exact Nat.ne_of_gt (a_N (bup_ e_D.out)) : e_k ≠ g_y));have j_0:=a_e.mk ((by rw [hg];exact Nat.ne_of_lt (a_N (bup_ h_C.out)) : g_P ≠ e_k));have j_1:=a_e.mk ((by rw [hg];exact Nat.ne_of_gt (a_N (bup_ h_C.out)) : e_k ≠ g_P));replace e_D:=a_e.mk (a_l (bup_ e_D.out) hb);replace h_C:=a_e.mk (a_l (bup_ h_C.out) hb);replace HB:=a_e.mk (a_t (by repeat (first|(with_reducible first|exact HB.out|apply a_g|apply a_f|apply a_h|refine a_d ?_ g_O.out|refine a_d ?_ j_V.out)|exact HB.out)) hb);clear hb hbox hg;have hnb8:=j_W.out;have hnc8:=j_X.out;have hnb9:=j_Y.out;have hnc9:=j_Z.out;have i_s : w7.cell? ⟨g_y,0,none⟩ = some (.int .i64 a0_0):=(a_a e_D.out 0).trans rfl;have i_t : w7.cell? ⟨g_y,1,none⟩ = some (.slice A0_1 l0_1.length c0_1):=(a_a e_D.out 1).trans rfl;have i_u:=a_b e_D.out 0;have i_v:=a_b e_D.out 1)|((with_reducible refine a_P (f:=36) rfl ?_);refine b_v (some 10) rfl rfl Try.func36 (by kernel_rfl) rfl #[.slice A0_1 l0_1.length c0_1,.func (.func 56) #[] #[.pointer (some ⟨g_P,0,none⟩)]] rfl (by (try simp only [List.map_toArray,List.map_cons,List.map_nil]);first|done|rfl|(simp only [List.length_drop,List.length_take];rfl)) ?_;(with_reducible refine (b_u.calls _ _ l0_1 g_P a1 t156 _ ?side1 ?side2 ?side3 A3.out).mono ?_);(case side1 => repeat (first|exact (Kd.b_f e_o.out HB.out)|(with_reducible refine Kd.a_9 ?_ _)|(with_reducible refine Kd.a_8 ?_ _)|(with_reducible refine Kd.b_i ?_)));(case side2 => exact g_I.out);(case side3 => exact (bup_ h_C.out));rintro e w11 ⟨rfl,hb⟩;refine ⟨_,rfl,?_⟩;replace e_D:=a_e.mk (a_l (bup_ e_D.out) hb);replace h_C:=a_e.mk (a_l (bup_ h_C.out) hb);replace c_6:=a_e.mk (a_l (bup_ c_6.out) hb);replace HB:=a_e.mk (a_t (by repeat (first|(with_reducible first|exact HB.out|apply a_g|apply a_f|apply a_h|refine a_d ?_ g_O.out|refine a_d ?_ j_V.out|refine a_d ?_ q_B.out)|exact HB.out)) hb);(try clear hb);(try clear hb2);(try clear hk);(try clear hi);have t_s:=j_1.out;have t_t:=j_0.out;have g_d : w11.cell? ⟨e_k,0,none⟩ = some (.int .i64 0):=(a_a c_6.out 0).trans rfl;have g_e : w11.cell? ⟨e_k,1,none⟩ = some (.int .i64 0):=(a_a c_6.out 1).trans rfl;have l_3 : w11.cell? ⟨e_k,2,none⟩ = some (.int .i64 0):=(a_a c_6.out 2).trans rfl;have l_4 : w11.cell? ⟨e_k,3,none⟩ = some (.int .i64 0):=(a_a c_6.out 3).trans rfl;have l_5 : w11.cell? ⟨e_k,4,none⟩ = some (.int .i64 0):=(a_a c_6.out 4).trans rfl;have l_6 : w11.cell? ⟨e_k,5,none⟩ = some (.bool false):=(a_a c_6.out 5).trans rfl;have l_7 : w11.cell? ⟨e_k,6,none⟩ = some (.bool false):=(a_a c_6.out 6).trans rfl;have l_8 : w11.cell? ⟨e_k,7,none⟩ = some (.int .u32 0):=(a_a c_6.out 7).trans rfl;have l_9 : w11.cell? ⟨e_k,8,none⟩ = some (.int .i64 0):=(a_a c_6.out 8).trans rfl;have m_a : w11.cell? ⟨e_k,9,none⟩ = some (.int .i64 0):=(a_a c_6.out 9).trans rfl;have k_N : w11.cell? ⟨e_k,10,none⟩ = some (.int .i64 0):=(a_a c_6.out 10).trans rfl;have g_f:=a_b c_6.out 0;have g_g:=a_b c_6.out 1;have m_b:=a_b c_6.out 2;have m_c:=a_b c_6.out 3;have m_d:=a_b c_6.out 4;have m_e:=a_b c_6.out 5;have m_f:=a_b c_6.out 6;have m_g:=a_b c_6.out 7;have m_h:=a_b c_6.out 8;have m_i:=a_b c_6.out 9;have k_O:=a_b c_6.out 10))
  refine bodyPost_ret (c_o rfl _ _ e_k 65 #[.int .i64 0,.int .i64 0,.int .i64 0,.int .i64 0,.int .i64 0,.bool false,.bool false,.int .u32 0,.int .i64 0,.int .i64 0,.int .i64 0] (0,0) _ rfl (by (with_reducible repeat (first|refine a_j ?_ _|refine a_k ?_|refine a_i ?_ _));refine a_J (cs:=#[.int .i64 0,.int .i64 0,.int .i64 0,.int .i64 0,.int .i64 0,.bool false,.bool false,.int .u32 0,.int .i64 0,.int .i64 0,.int .i64 0]) ?_ 10 _ rfl;(with_reducible repeat (first|refine a_j ?_ _|refine a_k ?_|refine a_i ?_ _));refine a_J (cs:=#[.int .i64 0,.int .i64 0,.int .i64 0,.int .i64 0,.int .i64 0,.bool false,.bool false,.int .u32 0,.int .i64 0,.int .i64 0,.int .i64 0]) ?_ 9 _ rfl;(with_reducible repeat (first|refine a_j ?_ _|refine a_k ?_|refine a_i ?_ _));refine a_J (cs:=#[.int .i64 0,.int .i64 0,.int .i64 0,.int .i64 0,.int .i64 0,.bool false,.bool false,.int .u32 0,.int .i64 0,.int .i64 0,.int .i64 0]) ?_ 8 _ rfl;(with_reducible repeat (first|refine a_j ?_ _|refine a_k ?_|refine a_i ?_ _));refine a_J (cs:=#[.int .i64 0,.int .i64 0,.int .i64 0,.int .i64 0,.int .i64 0,.bool false,.bool false,.int .u32 0,.int .i64 0,.int .i64 0,.int .i64 0]) ?_ 7 _ rfl;(with_reducible repeat (first|refine a_j ?_ _|refine a_k ?_|refine a_i ?_ _));refine a_J (cs:=#[.int .i64 0,.int .i64 0,.int .i64 0,.int .i64 0,.int .i64 0,.bool false,.bool false,.int .u32 0,.int .i64 0,.int .i64 0,.int .i64 0]) ?_ 6 _ rfl;(with_reducible repeat (first|refine a_j ?_ _|refine a_k ?_|refine a_i ?_ _));refine a_J (cs:=#[.int .i64 0,.int .i64 0,.int .i64 0,.int .i64 0,.int .i64 0,.bool false,.bool false,.int .u32 0,.int .i64 0,.int .i64 0,.int .i64 0]) ?_ 5 _ rfl;(with_reducible repeat (first|refine a_j ?_ _|refine a_k ?_|refine a_i ?_ _));refine a_J (cs:=#[.int .i64 0,.int .i64 0,.int .i64 0,.int .i64 0,.int .i64 0,.bool false,.bool false,.int .u32 0,.int .i64 0,.int .i64 0,.int .i64 0]) ?_ 4 _ rfl;(with_reducible repeat (first|refine a_j ?_ _|refine a_k ?_|refine a_i ?_ _));refine a_J (cs:=#[.int .i64 0,.int .i64 0,.int .i64 0,.int .i64 0,.int .i64 0,.bool false,.bool false,.int .u32 0,.int .i64 0,.int .i64 0,.int .i64 0]) ?_ 3 _ rfl;(with_reducible repeat (first|refine a_j ?_ _|refine a_k ?_|refine a_i ?_ _));refine a_J (cs:=#[.int .i64 0,.int .i64 0,.int .i64 0,.int .i64 0,.int .i64 0,.bool false,.bool false,.int .u32 0,.int .i64 0,.int .i64 0,.int .i64 0]) ?_ 2 _ rfl;(with_reducible repeat (first|refine a_j ?_ _|refine a_k ?_|refine a_i ?_ _));refine a_J (cs:=#[.int .i64 0,.int .i64 0,.int .i64 0,.int .i64 0,.int .i64 0,.bool false,.bool false,.int .u32 0,.int .i64 0,.int .i64 0,.int .i64 0]) ?_ 1 _ rfl;(with_reducible repeat (first|refine a_j ?_ _|refine a_k ?_|refine a_i ?_ _));refine a_J (cs:=#[.int .i64 0,.int .i64 0,.int .i64 0,.int .i64 0,.int .i64 0,.bool false,.bool false,.int .u32 0,.int .i64 0,.int .i64 0,.int .i64 0]) ?_ 0 _ rfl;(with_reducible repeat (first|refine a_j ?_ _|refine a_k ?_|refine a_i ?_ _));exact c_6.out) Try.underlying65 rfl (by kernel_rfl)) rfl ?_
  exact ⟨by first|rfl|(simp [a_w,a_x] <;> rfl)|(simp [*, a_w,a_x] <;> rfl),by repeat (first|(with_reducible first|exact HB.out|apply a_g|apply a_f|apply a_h|refine a_d ?_ g_O.out|refine a_d ?_ j_V.out|refine a_d ?_ q_B.out)|exact HB.out)⟩
 rw [if_neg c4] at H
 have c4b0 : decide (t156 < 0) = false:=decide_eq_false c4
 clear c4
 by_cases c14 : 0 ≤ t156
 rotate_left
 ·rw [if_neg c14] at H
  exact absurd H (by simp)
 rw [if_pos c14] at H
 have c14b0 : decide (0 ≤ t156) = true:=decide_eq_true c14
 clear c14
 by_cases c15 : t156 < (l0_1.length : Int)
 rotate_left
 ·rw [if_neg c15] at H
  exact absurd H (by simp)
 rw [if_pos c15] at H
 have c15b0 : decide (t156 < (l0_1.length : Int)) = true:=decide_eq_true c15
 clear c15
 simp only [Option.some.injEq,Prod.mk.injEq] at H
 obtain ⟨rfl,rfl,rfl,rfl,rfl,rfl,rfl,rfl,rfl,rfl,rfl,rfl⟩:=H
 go_enter Try.func29,Try.ntmps29
 go_wp2_with (first|((with_reducible refine a_U (N:=2) rfl ?_);refine a_H ?hg (N:=2) ?hd (cs:=#[.int .i64 a0_0,.slice A0_1 l0_1.length c0_1]) (t:=27) ?hr ?_;(case hd => rfl);(case hg => rfl);(case hr => first|(go_simp;done)|(go_simp;rfl));intro g_y hg w16 hbox hb;have e_D:=a_e.mk (hbox);have H_W:=a_e.mk ((by rw [hg];exact (a_p (lup_ HB.out)) : w.heap.size ≤ g_y));have g_O:=a_e.mk ((by rw [hg];exact (a_p (lup_ HB.out)) : w.heap.size ≤ g_y));replace HB:=a_e.mk (a_t (lup_ HB.out) hb);clear hb hbox hg)|((with_reducible refine a_U (N:=3) rfl ?_);refine a_H ?hg (N:=3) ?hd (cs:=#[.int .i64 a1]) (t:=3) ?hr ?_;(case hd => rfl);(case hg => rfl);(case hr => first|(go_simp;done)|(go_simp;rfl));intro g_P hg w17 hbox hb;have h_C:=a_e.mk (hbox);have H_X:=a_e.mk ((by rw [hg];exact (a_p (by repeat (first|(with_reducible first|exact HB.out|apply a_g|apply a_f|apply a_h|refine a_d ?_ g_O.out)|exact HB.out))) : w.heap.size ≤ g_P));have j_V:=a_e.mk ((by rw [hg];exact (a_p (by repeat (first|(with_reducible first|exact HB.out|apply a_g|apply a_f|apply a_h|refine a_d ?_ g_O.out)|exact HB.out))) : w.heap.size ≤ g_P));have j_W:=a_e.mk ((by rw [hg];exact Nat.ne_of_lt (a_N (bup_ e_D.out)) : g_y ≠ g_P));have j_X:=a_e.mk ((by rw [hg];exact Nat.ne_of_gt (a_N (bup_ e_D.out)) : g_P ≠ g_y));replace e_D:=a_e.mk (a_l (bup_ e_D.out) hb);replace HB:=a_e.mk (a_t (by repeat (first|(with_reducible first|exact HB.out|apply a_g|apply a_f|apply a_h|refine a_d ?_ g_O.out)|exact HB.out)) hb);clear hb hbox hg)|((with_reducible refine a_U (N:=4) rfl ?_);refine a_H ?hg (N:=4) ?hd (cs:=#[.int .i64 0,.int .i64 0,.int .i64 0,.int .i64 0,.int .i64 0,.bool false,.bool false,.int .u32 0,.int .i64 0,.int .i64 0,.int .i64 0]) (t:=65) ?hr ?_;(case hd => rfl);(case hg => rfl);(case hr => first|(go_simp;done)|(go_simp;rfl));intro e_k hg w18 hbox hb;have c_6:=a_e.mk (hbox);have H_Y:=a_e.mk ((by rw [hg];exact (a_p (by repeat (first|(with_reducible first|exact HB.out|apply a_g|apply a_f|apply a_h|refine a_d ?_ g_O.out|refine a_d ?_ j_V.out)|exact HB.out))) : w.heap.size ≤ e_k));have q_B:=a_e.mk ((by rw [hg];exact (a_p (by repeat (first|(with_reducible first|exact HB.out|apply a_g|apply a_f|apply a_h|refine a_d ?_ g_O.out|refine a_d ?_ j_V.out)|exact HB.out))) : w.heap.size ≤ e_k));have j_Y:=a_e.mk ((by rw [hg];exact Nat.ne_of_lt (a_N (bup_ e_D.out)) : g_y ≠ e_k));have j_Z:=a_e.mk ((by rw [hg];exact Nat.ne_of_gt (a_N (bup_ e_D.out)) : e_k ≠ g_y));have j_0:=a_e.mk ((by rw [hg];exact Nat.ne_of_lt (a_N (bup_ h_C.out)) : g_P ≠ e_k));have j_1:=a_e.mk ((by rw [hg];exact Nat.ne_of_gt (a_N (bup_ h_C.out)) : e_k ≠ g_P));replace e_D:=a_e.mk (a_l (bup_ e_D.out) hb);replace h_C:=a_e.mk (a_l (bup_ h_C.out) hb);replace HB:=a_e.mk (a_t (by repeat (first|(with_reducible first|exact HB.out|apply a_g|apply a_f|apply a_h|refine a_d ?_ g_O.out|refine a_d ?_ j_V.out)|exact HB.out)) hb);clear hb hbox hg;have w_l:=j_W.out;have w_m:=j_X.out;have u_A:=j_Y.out;have u_B:=j_Z.out;have i_w : w18.cell? ⟨g_y,0,none⟩ = some (.int .i64 a0_0):=(a_a e_D.out 0).trans rfl;have i_x : w18.cell? ⟨g_y,1,none⟩ = some (.slice A0_1 l0_1.length c0_1):=(a_a e_D.out 1).trans rfl;have i_y:=a_b e_D.out 0;have i_z:=a_b e_D.out 1)|((with_reducible refine a_P (f:=36) rfl ?_);refine b_v (some 10) rfl rfl Try.func36 (by kernel_rfl) rfl #[.slice A0_1 l0_1.length c0_1,.func (.func 56) #[] #[.pointer (some ⟨g_P,0,none⟩)]] rfl (by (try simp only [List.map_toArray,List.map_cons,List.map_nil]);first|done|rfl|(simp only [List.length_drop,List.length_take];rfl)) ?_;(with_reducible refine (b_u.calls _ _ l0_1 g_P a1 t156 _ ?side1 ?side2 ?side3 A3.out).mono ?_);(case side1 => repeat (first|exact (Kd.b_f e_o.out HB.out)|(with_reducible refine Kd.a_9 ?_ _)|(with_reducible refine Kd.a_8 ?_ _)|(with_reducible refine Kd.b_i ?_)));(case side2 => exact g_I.out);(case side3 => exact (bup_ h_C.out));rintro e w22 ⟨rfl,hb⟩;refine ⟨_,rfl,?_⟩;replace e_D:=a_e.mk (a_l (bup_ e_D.out) hb);replace h_C:=a_e.mk (a_l (bup_ h_C.out) hb);replace c_6:=a_e.mk (a_l (bup_ c_6.out) hb);replace HB:=a_e.mk (a_t (by repeat (first|(with_reducible first|exact HB.out|apply a_g|apply a_f|apply a_h|refine a_d ?_ g_O.out|refine a_d ?_ j_V.out|refine a_d ?_ q_B.out)|exact HB.out)) hb);(try clear hb);(try clear hb2);(try clear hk);(try clear hi);have q_j : w22.cell? ⟨g_y,0,none⟩ = some (.int .i64 a0_0):=(a_a e_D.out 0).trans rfl;have q_k : w22.cell? ⟨g_y,1,none⟩ = some (.slice A0_1 l0_1.length c0_1):=(a_a e_D.out 1).trans rfl;have q_l:=a_b e_D.out 0;have q_m:=a_b e_D.out 1;have p157 : 0 ≤ (t156 : Int):=of_decide_eq_true (by first|(with_reducible assumption)|assumption);have q157 : t156 < (l0_1.length : Int):=of_decide_eq_true (by first|(with_reducible assumption)|assumption);obtain ⟨ad157,e157,n_h,n_i,n_j,n_k,n_l,n_m,n_n,n_o,n_p,n_q,l_k⟩:=e_h e_o.out t156 p157 q157;cases e157;replace n_h:=(HB.out.cell (World.block_lt_of_cell? w _ n_h)).trans n_h;replace n_i:=(HB.out.cell (World.block_lt_of_cell? w _ n_i)).trans n_i;replace n_j:=(HB.out.cell (World.block_lt_of_cell? w _ n_j)).trans n_j;replace n_k:=(HB.out.cell (World.block_lt_of_cell? w _ n_k)).trans n_k;replace n_l:=(HB.out.cell (World.block_lt_of_cell? w _ n_l)).trans n_l;replace n_m:=(HB.out.cell (World.block_lt_of_cell? w _ n_m)).trans n_m;replace n_n:=(HB.out.cell (World.block_lt_of_cell? w _ n_n)).trans n_n;replace n_o:=(HB.out.cell (World.block_lt_of_cell? w _ n_o)).trans n_o;replace n_p:=(HB.out.cell (World.block_lt_of_cell? w _ n_p)).trans n_p;replace n_q:=(HB.out.cell (World.block_lt_of_cell? w _ n_q)).trans n_q;replace l_k:=(HB.out.cell (World.block_lt_of_cell? w _ l_k)).trans l_k;replace p157:=eq_true p157;replace q157:=eq_true q157;have O_U:=j_1.out;have O_V:=j_0.out;have m_n : w22.cell? ⟨e_k,0,none⟩ = some (.int .i64 0):=(a_a c_6.out 0).trans rfl;have m_o : w22.cell? ⟨e_k,1,none⟩ = some (.int .i64 0):=(a_a c_6.out 1).trans rfl;have p_L : w22.cell? ⟨e_k,2,none⟩ = some (.int .i64 0):=(a_a c_6.out 2).trans rfl;have p_M : w22.cell? ⟨e_k,3,none⟩ = some (.int .i64 0):=(a_a c_6.out 3).trans rfl;have p_N : w22.cell? ⟨e_k,4,none⟩ = some (.int .i64 0):=(a_a c_6.out 4).trans rfl;have p_O : w22.cell? ⟨e_k,5,none⟩ = some (.bool false):=(a_a c_6.out 5).trans rfl;have p_P : w22.cell? ⟨e_k,6,none⟩ = some (.bool false):=(a_a c_6.out 6).trans rfl;have p_Q : w22.cell? ⟨e_k,7,none⟩ = some (.int .u32 0):=(a_a c_6.out 7).trans rfl;have p_R : w22.cell? ⟨e_k,8,none⟩ = some (.int .i64 0):=(a_a c_6.out 8).trans rfl;have p_S : w22.cell? ⟨e_k,9,none⟩ = some (.int .i64 0):=(a_a c_6.out 9).trans rfl;have n_P : w22.cell? ⟨e_k,10,none⟩ = some (.int .i64 0):=(a_a c_6.out 10).trans rfl;have m_p:=a_b c_6.out 0;have m_q:=a_b c_6.out 1;have p_T:=a_b c_6.out 2;have p_U:=a_b c_6.out 3;have p_V:=a_b c_6.out 4;have p_W:=a_b c_6.out 5;have p_X:=a_b c_6.out 6;have p_Y:=a_b c_6.out 7;have p_Z:=a_b c_6.out 8;have p_0:=a_b c_6.out 9;have n_Q:=a_b c_6.out 10))
 refine bodyPost_ret (c_o rfl _ _ e_k 65 #[.int .i64 ((a_c l0_1 t156).f0),.int .i64 ((a_c l0_1 t156).f1),.int .i64 ((a_c l0_1 t156).f2),.int .i64 ((a_c l0_1 t156).f3),.int .i64 ((a_c l0_1 t156).f4),.bool ((a_c l0_1 t156).f5),.bool ((a_c l0_1 t156).f6),.int .u32 ((a_c l0_1 t156).f7),.int .i64 ((a_c l0_1 t156).f8),.int .i64 ((a_c l0_1 t156).f9),.int .i64 ((a_c l0_1 t156).f10)] (0,0) _ rfl (by (with_reducible repeat (first|refine a_j ?_ _|refine a_k ?_|refine a_i ?_ _));refine a_J (cs:=#[.int .i64 ((a_c l0_1 t156).f0),.int .i64 ((a_c l0_1 t156).f1),.int .i64 ((a_c l0_1 t156).f2),.int .i64 ((a_c l0_1 t156).f3),.int .i64 ((a_c l0_1 t156).f4),.bool ((a_c l0_1 t156).f5),.bool ((a_c l0_1 t156).f6),.int .u32 ((a_c l0_1 t156).f7),.int .i64 ((a_c l0_1 t156).f8),.int .i64 ((a_c l0_1 t156).f9),.int .i64 0]) ?_ 10 _ rfl;(with_reducible repeat (first|refine a_j ?_ _|refine a_k ?_|refine a_i ?_ _));refine a_J (cs:=#[.int .i64 ((a_c l0_1 t156).f0),.int .i64 ((a_c l0_1 t156).f1),.int .i64 ((a_c l0_1 t156).f2),.int .i64 ((a_c l0_1 t156).f3),.int .i64 ((a_c l0_1 t156).f4),.bool ((a_c l0_1 t156).f5),.bool ((a_c l0_1 t156).f6),.int .u32 ((a_c l0_1 t156).f7),.int .i64 ((a_c l0_1 t156).f8),.int .i64 0,.int .i64 0]) ?_ 9 _ rfl;(with_reducible repeat (first|refine a_j ?_ _|refine a_k ?_|refine a_i ?_ _));refine a_J (cs:=#[.int .i64 ((a_c l0_1 t156).f0),.int .i64 ((a_c l0_1 t156).f1),.int .i64 ((a_c l0_1 t156).f2),.int .i64 ((a_c l0_1 t156).f3),.int .i64 ((a_c l0_1 t156).f4),.bool ((a_c l0_1 t156).f5),.bool ((a_c l0_1 t156).f6),.int .u32 ((a_c l0_1 t156).f7),.int .i64 0,.int .i64 0,.int .i64 0]) ?_ 8 _ rfl;(with_reducible repeat (first|refine a_j ?_ _|refine a_k ?_|refine a_i ?_ _));refine a_J (cs:=#[.int .i64 ((a_c l0_1 t156).f0),.int .i64 ((a_c l0_1 t156).f1),.int .i64 ((a_c l0_1 t156).f2),.int .i64 ((a_c l0_1 t156).f3),.int .i64 ((a_c l0_1 t156).f4),.bool ((a_c l0_1 t156).f5),.bool ((a_c l0_1 t156).f6),.int .u32 0,.int .i64 0,.int .i64 0,.int .i64 0]) ?_ 7 _ rfl;(with_reducible repeat (first|refine a_j ?_ _|refine a_k ?_|refine a_i ?_ _));refine a_J (cs:=#[.int .i64 ((a_c l0_1 t156).f0),.int .i64 ((a_c l0_1 t156).f1),.int .i64 ((a_c l0_1 t156).f2),.int .i64 ((a_c l0_1 t156).f3),.int .i64 ((a_c l0_1 t156).f4),.bool ((a_c l0_1 t156).f5),.bool false,.int .u32 0,.int .i64 0,.int .i64 0,.int .i64 0]) ?_ 6 _ rfl;(with_reducible repeat (first|refine a_j ?_ _|refine a_k ?_|refine a_i ?_ _));refine a_J (cs:=#[.int .i64 ((a_c l0_1 t156).f0),.int .i64 ((a_c l0_1 t156).f1),.int .i64 ((a_c l0_1 t156).f2),.int .i64 ((a_c l0_1 t156).f3),.int .i64 ((a_c l0_1 t156).f4),.bool false,.bool false,.int .u32 0,.int .i64 0,.int .i64 0,.int .i64 0]) ?_ 5 _ rfl;(with_reducible repeat (first|refine a_j ?_ _|refine a_k ?_|refine a_i ?_ _));refine a_J (cs:=#[.int .i64 ((a_c l0_1 t156).f0),.int .i64 ((a_c l0_1 t156).f1),.int .i64 ((a_c l0_1 t156).f2),.int .i64 ((a_c l0_1 t156).f3),.int .i64 0,.bool false,.bool false,.int .u32 0,.int .i64 0,.int .i64 0,.int .i64 0]) ?_ 4 _ rfl;(with_reducible repeat (first|refine a_j ?_ _|refine a_k ?_|refine a_i ?_ _));refine a_J (cs:=#[.int .i64 ((a_c l0_1 t156).f0),.int .i64 ((a_c l0_1 t156).f1),.int .i64 ((a_c l0_1 t156).f2),.int .i64 0,.int .i64 0,.bool false,.bool false,.int .u32 0,.int .i64 0,.int .i64 0,.int .i64 0]) ?_ 3 _ rfl;(with_reducible repeat (first|refine a_j ?_ _|refine a_k ?_|refine a_i ?_ _));refine a_J (cs:=#[.int .i64 ((a_c l0_1 t156).f0),.int .i64 ((a_c l0_1 t156).f1),.int .i64 0,.int .i64 0,.int .i64 0,.bool false,.bool false,.int .u32 0,.int .i64 0,.int .i64 0,.int .i64 0]) ?_ 2 _ rfl;(with_reducible repeat (first|refine a_j ?_ _|refine a_k ?_|refine a_i ?_ _));refine a_J (cs:=#[.int .i64 ((a_c l0_1 t156).f0),.int .i64 0,.int .i64 0,.int .i64 0,.int .i64 0,.bool false,.bool false,.int .u32 0,.int .i64 0,.int .i64 0,.int .i64 0]) ?_ 1 _ rfl;(with_reducible repeat (first|refine a_j ?_ _|refine a_k ?_|refine a_i ?_ _));refine a_J (cs:=#[.int .i64 0,.int .i64 0,.int .i64 0,.int .i64 0,.int .i64 0,.bool false,.bool false,.int .u32 0,.int .i64 0,.int .i64 0,.int .i64 0]) ?_ 0 _ rfl;(with_reducible repeat (first|refine a_j ?_ _|refine a_k ?_|refine a_i ?_ _));exact c_6.out) Try.underlying65 rfl (by kernel_rfl)) rfl ?_
 exact ⟨by first|rfl|(simp [a_w,a_x] <;> rfl)|(simp [*, a_w,a_x] <;> rfl),by repeat (first|(with_reducible first|exact HB.out|apply a_g|apply a_f|apply a_h|refine a_d ?_ g_O.out|refine a_d ?_ j_V.out|refine a_d ?_ q_B.out)|exact HB.out)⟩
end Go.Proofs.Ytgglkfilkagblaa.Q
end
section
namespace Go.Proofs.Ytgglkfilkagblaa.Q
open Go.RowKit Go.Proofs.YtgglkfilkagblaaW.PrintWords Go.Proofs.YtgglkfilkagblaaW.PrintLast Go.Proofs.YtgglkfilkagblaaW.PrintMore
set_option linter.unusedVariables false
set_option linter.unusedSimpArgs false
section
attribute [local go_sem] Oper.semAt_some
def a_7 (l : List S65) (v : Int) : S65 × Bool:=if idxOf (fun s => s.f0 == v) l < 0 then (z65,false) else (a_c l (idxOf (fun s => s.f0 == v) l),true)
theorem r_d {α : Type} (p : α → Bool) (xs : List α) : idxOf p xs < (xs.length : Int):=by
 unfold idxOf
 cases h : xs.findIdx? p with
 | none => simp only [];omega
 | some i =>
  rw [List.findIdx?_eq_some_iff_getElem] at h
  obtain ⟨hi,_⟩:=h
  simp only [];omega
theorem o_z (a : Int) (l : List S65) (v : Int) (hl : l.length ≤ 1099511627776) : d_S.f a l v = some ((a_7 l v).1.f0,(a_7 l v).1.f1,(a_7 l v).1.f2,(a_7 l v).1.f3,(a_7 l v).1.f4,(a_7 l v).1.f5,(a_7 l v).1.f6,(a_7 l v).1.f7,(a_7 l v).1.f8,(a_7 l v).1.f9,(a_7 l v).1.f10,(a_7 l v).2):=by
 have hlt:=r_d (fun s : S65 => s.f0 == v) l
 unfold d_S.f b_u.f a_7
 rw [if_pos hl,Option.bind_some]
 by_cases h : idxOf (fun s : S65 => s.f0 == v) l < 0
 ·rw [if_pos h,if_pos h];rfl
 rw [if_neg h,if_neg h,if_pos (by omega),if_pos hlt]
def ranB (xs : List S27) (en v frm tt : Int) (n : Int) (j : Nat) : Int:=if (a_7 (a_o xs (j : Int)).f1 v).2 = true ∧ -1 < (a_7 (a_o xs (j : Int)).f1 v).1.f4 then wrap64 (n + mx (wrap64 (mn (c_U xs en j) tt - mx (a_o xs (j : Int)).f0 frm)) 0) else n
def c_p.f (k : Nat) (l0_0 : List S27) (a0_1 a1 a2 a3 : Int) : Option (Int × Int):=(a_A.f k l0_0 a0_1).bind fun e => if e = 0 then (if a2 < 0 then some (0,2) else if 1125899906842624 < a3 then some (0,2) else if a3 < a2 then some (0,2) else if l0_0.length ≤ 4398046511104 ∧ ∀ m ∈ l0_0,m.f1.length ≤ 1099511627776 then some ((List.range l0_0.length).foldl (ranB l0_0 a0_1 a1 a2 a3) 0,0) else none) else some (0,390)
theorem f_B {W W' : World} {row : Option Nat} {B g t : Nat} {cs : Array Value} {fr : Nat × Nat} (h : W.heap[g]? = some (.cells cs t fr)) (hg : W.grownBy W' row) (hr : ∀ r,row = some r → B ≤ r ∧ ∃ o : Obj,W.heap[r]? = some o ∧ o.isCells = false) : W'.heap[g]? = some (.cells cs t fr) :=
 (hg.block g (a_N h) (fun e => by
  obtain ⟨_,o,ho,hc⟩:=hr g e.symm
  rw [h] at ho
  cases ho
  cases hc)).trans h
theorem c_a {B : Nat} {W W' : World} (h : Below W.heap.size W W') : KeepsFrom B W W':=⟨h.size,fun k o _ hk _ => (h.block k (a_N hk)).trans hk⟩
theorem c_p.mono : ∀ a0 a1 a2 a3 a4 k,LeO (c_p.f k a0 a1 a2 a3 a4) (c_p.f (k + 1) a0 a1 a2 a3 a4):=fun a0 a1 a2 a3 a4 k => LeO.bind (a_A.mono _ _ _) (fun _ => LeO.refl _)
theorem v_z {a b : Int} (h : b < a) : mn a b = b:=by unfold mn;split <;> omega
theorem v_M {a b : Int} (h : a ≤ b) : mn a b = a:=by unfold mn;split <;> omega
theorem r_I {a b : Int} (h : a < b) : mx a b = b:=by unfold mx;split <;> omega
theorem r_J {a b : Int} (h : b ≤ a) : mx a b = a:=by unfold mx;split <;> omega
structure RanI (w w1 : World) (a1 a2 a3 v : Int) (W : World) : Prop where
 b0 : W.heap[w1.heap.size]? = some (.cells #[.int .i64 v] 2 (0,0))
 b1 : W.heap[w.heap.size + 1]? = some (.cells #[.int .i64 a1] 3 (0,0))
 b2 : W.heap[w.heap.size + 1 + 1]? = some (.cells #[.int .i64 a2] 2 (0,0))
 b3 : W.heap[w.heap.size + 1 + 1 + 1]? = some (.cells #[.int .i64 a3] 2 (0,0))
 b4 : w1.heap.size + 1 < W.heap.size
 below : Below w.heap.size w W
set_option maxRecDepth 100000 in
set_option maxHeartbeats 4000000 in
theorem c_p.sums (k : Nat) (A0_0 : Option Addr) (c0_0 : Nat) (l0_0 : List S27) (a0_1 a1 a2 a3 : Int) (w : World) (hr0_0 : Kd.C k27 w A0_0 l0_0.length l0_0) (hc0_0 : l0_0.length ≤ c0_0) (he : a_A.f k l0_0 a0_1 = some 0) (h1 : ¬ a2 < 0) (h2 : ¬ 1125899906842624 < a3) (h3 : ¬ a3 < a2) (hl : l0_0.length ≤ 4398046511104) (hm : ∀ m ∈ l0_0,m.f1.length ≤ 1099511627776) :
 Calls Try.prog 16 #[.agg #[.slice A0_0 l0_0.length c0_0,.int .i64 a0_1],.int .i64 a1,.int .i64 a2,.int .i64 a3] w fun e w' => e = .returned (.tuple #[.int .i64 ((List.range l0_0.length).foldl (ranB l0_0 a0_1 a1 a2 a3) 0),.int .i64 0]) ∧ Below w.heap.size w w':=by
 have HR:=a_e.mk hr0_0
 have HE:=a_e.mk he
 have HM:=a_e.mk hm
 clear hr0_0 he hm
 have g1 : decide (a2 < 0) = false:=decide_eq_false h1
 have g2 : decide (1125899906842624 < a3) = false:=decide_eq_false h2
 have g3 : decide (a3 < a2) = false:=decide_eq_false h3
 clear h1 h2 h3
 have q0:=a_e.mk (a_i (a_i (a_i (d_P w (.cells #[.slice A0_0 l0_0.length c0_0,.int .i64 a0_1] 24)) (.cells #[.int .i64 a1] 3)) (.cells #[.int .i64 a2] 2)) (.cells #[.int .i64 a3] 2))
 have q1:=a_e.mk (a_i (a_i (d_P (w.alloc (.cells #[.slice A0_0 l0_0.length c0_0,.int .i64 a0_1] 24)) (.cells #[.int .i64 a1] 3)) (.cells #[.int .i64 a2] 2)) (.cells #[.int .i64 a3] 2))
 have q2:=a_e.mk (a_i (d_P ((w.alloc (.cells #[.slice A0_0 l0_0.length c0_0,.int .i64 a0_1] 24)).alloc (.cells #[.int .i64 a1] 3)) (.cells #[.int .i64 a2] 2)) (.cells #[.int .i64 a3] 2))
 have q3:=a_e.mk (d_P (((w.alloc (.cells #[.slice A0_0 l0_0.length c0_0,.int .i64 a0_1] 24)).alloc (.cells #[.int .i64 a1] 3)).alloc (.cells #[.int .i64 a2] 2)) (.cells #[.int .i64 a3] 2))
 have qB:=a_e.mk (a_g (a_g (a_g (a_g (Below.refl w.heap.size w) (.cells #[.slice A0_0 l0_0.length c0_0,.int .i64 a0_1] 24)) (.cells #[.int .i64 a1] 3)) (.cells #[.int .i64 a2] 2)) (.cells #[.int .i64 a3] 2))
 simp only [World.size_alloc] at q0 q1 q2 q3
 refine (callsIn_wide (n:=9)).1 ?_
 refine callsIn_of_wp_marks Try.func16 rfl trivial ?_ rfl
 simp only [Try.ntmps16,List.size_toArray,List.length_cons,List.length_nil,Nat.reduceAdd,Nat.reduceSub,Array.replicate_succ,Array.replicate_zero,List.push_toArray,List.append_toArray,List.nil_append,List.cons_append]
 gi_wp2_with (first
  | (refine ⟨trivial,?_⟩;gi_at_call 14;refine (callsIn_wide.2 (a_A.calls k _ _ l0_0 a0_1 0 _ ?s1 hc0_0 HE.out)).mono ?_;(case s1 => exact Kd.b_f HR.out qB.out);rintro e w1 ⟨rfl,hb⟩;have HB:=a_e.mk (a_t qB.out hb);have p0:=a_e.mk (a_l q0.out hb);have p1:=a_e.mk (a_l q1.out hb);have p2:=a_e.mk (a_l q2.out hb);have p3:=a_e.mk (a_l q3.out hb);clear hb;have r0 : w1.cell? ⟨w.heap.size,0,none⟩ = some (.slice A0_0 l0_0.length c0_0):=(a_a p0.out 0).trans rfl;have r1 : w1.cell? ⟨w.heap.size,1,none⟩ = some (.int .i64 a0_1):=(a_a p0.out 1).trans rfl;have r2 : w1.cell? ⟨w.heap.size + 1 + 1,0,none⟩ = some (.int .i64 a2):=(a_a p2.out 0).trans rfl;have r3 : w1.cell? ⟨w.heap.size + 1 + 1 + 1,0,none⟩ = some (.int .i64 a3):=(a_a p3.out 0).trans rfl;have z0:=a_N p0.out;have z2:=a_N p2.out;have z3:=a_N p3.out)
  | (refine ⟨trivial,?_⟩;gi_at_call 28;refine (callsIn_wide.2 (l_G.calls _ _ _ _ _)).mono ?_;rintro e w' ⟨rfl,rfl⟩))
 have n0:=a_e.mk (a_i (d_P w1 (.cells #[.int .i64 0] 2)) (.cells #[.slice A0_0 l0_0.length c0_0,.int .i64 a0_1] 24))
 have n1:=a_e.mk (d_P (w1.alloc (.cells #[.int .i64 0] 2)) (.cells #[.slice A0_0 l0_0.length c0_0,.int .i64 a0_1] 24))
 have n2:=a_e.mk (a_i (a_i p1.out (.cells #[.int .i64 0] 2)) (.cells #[.slice A0_0 l0_0.length c0_0,.int .i64 a0_1] 24))
 have n3:=a_e.mk (a_i (a_i p2.out (.cells #[.int .i64 0] 2)) (.cells #[.slice A0_0 l0_0.length c0_0,.int .i64 a0_1] 24))
 have n4:=a_e.mk (a_i (a_i p3.out (.cells #[.int .i64 0] 2)) (.cells #[.slice A0_0 l0_0.length c0_0,.int .i64 a0_1] 24))
 have nB:=a_e.mk (a_g (a_g HB.out (.cells #[.int .i64 0] 2)) (.cells #[.slice A0_0 l0_0.length c0_0,.int .i64 a0_1] 24))
 have hsz : ((w1.alloc (.cells #[.int .i64 0] 2)).alloc (.cells #[.slice A0_0 l0_0.length c0_0,.int .i64 a0_1] 24)).heap.size = w1.heap.size + 1 + 1:=by simp
 simp only [World.size_alloc] at n0 n1 n2 n3 n4
 have hws:=HB.out.size
 clear q0 q1 q2 q3 p0 p1 p2 p3 r0 r1 r2 r3 qB HB
 obtain ⟨W2,hW2⟩ : ∃ W2,(w1.alloc (.cells #[.int .i64 0] 2)).alloc (.cells #[.slice A0_0 l0_0.length c0_0,.int .i64 a0_1] 24) = W2:=⟨_,rfl⟩
 rw [hW2] at n0 n1 n2 n3 n4 nB hsz ⊢
 clear hW2
 obtain ⟨ad,am,cm,hA,hMs⟩ : ∃ ad am cm,(0 < l0_0.length → A0_0 = some ad) ∧ i_H l0_0 ad am cm w:=by
  by_cases h : 0 < l0_0.length
  ·obtain ⟨ad,am,cm,e,hm⟩:=l_x HR.out h
   exact ⟨ad,am,cm,fun _ => e,hm⟩
  exact ⟨⟨0,0,none⟩,fun _ => none,fun _ => 0,fun h' => absurd h' h,fun j hj => absurd (Nat.lt_of_le_of_lt (Nat.zero_le _) hj) h⟩
 have HMS:=a_e.mk hMs
 have hAA:=a_e.mk hA
 clear hMs hA
 refine wpIn_rangeFunc_ownH rfl (by omega) (gf:=55) (lb:=#[.pointer (some ⟨w1.heap.size + 1,0,none⟩)]) rfl trivial (enters_of Try.func55 (by kernel_rfl) rfl)
  (encs:=fun x : Fin l0_0.length => #[momV l0_0 am cm x.val,.agg #[.int .i64 (a_o l0_0 (x.val : Int)).f0,.int .i64 (c_U l0_0 a0_1 x.val)]]) (Kp:=KpB w.heap.size (w1.heap.size + 1)) (S:=fun ys => ys = List.finRange l0_0.length) (Sp:=fun _ => True) (N:=l0_0.length) (w0:=W2)
  (fun l J Jx W hW hJ hJx hY h0 => h_M 8 (by omega) l (w1.heap.size + 1) w.heap.size A0_0 ad c0_0 l0_0 a0_1 hl am cm J Jx hY w W hJ rfl (nB.out.trans (hW.mono nB.out.size)) hAA.out ((hW.block _ (a_N n1.out)).trans n1.out) HMS.out hc0_0 HR.out h0)
  (fun h k => ⟨h.1.trans k.1,k.2.trans h.2⟩) (fun W l o o' hl' hh hc hk => ⟨belowK_b (w:=W2) nB.out.size W l o o' hl' hh hc hk,(grownBy_putObj' W l o').block _ (by have:=a_N hh;omega) (by intro e;cases e;omega)⟩) (Below.refl _ _) (fun _ => rfl)
  (fun pre W => RanI w w1 a1 a2 a3 ((pre.map (·.val)).foldl (ranB l0_0 a0_1 a1 a2 a3) 0) W)
  (fun _ _ _ => False)
  (fun s A B row hs hg hr => ⟨f_B hs.b0 hg hr,f_B hs.b1 hg hr,f_B hs.b2 hg hr,f_B hs.b3 hg hr,Nat.lt_of_lt_of_le hs.b4 hg.size,hs.below.grown hg hs.below.size (fun k e => Nat.le_trans nB.out.size (hr k e).1)⟩)
  (fun _ _ _ _ _ hs _ _ => hs)
  ⟨n0.out,n2.out,n3.out,n4.out,by omega,nB.out⟩
  (fun x a' W => ∃ Bm Bs : Nat,W.heap[Bm]? = some (.cells #[.int .i64 (a_o l0_0 (x.val : Int)).f0,.slice (am x.val) (a_o l0_0 (x.val : Int)).f1.length (cm x.val)] 27 (0,0)) ∧ W.heap[Bs]? = some (.cells #[.int .i64 (a_o l0_0 (x.val : Int)).f0,.int .i64 (c_U l0_0 a0_1 x.val)] 46 (0,0)) ∧ a' = { tmps:=#[.agg #[.slice A0_0 l0_0.length c0_0,.int .i64 a0_1],.int .i64 a1,.int .i64 a2,.int .i64 a3,.pointer (some ⟨w.heap.size,0,none⟩),.pointer (some ⟨w.heap.size + 1,0,none⟩),.pointer (some ⟨w.heap.size + 1 + 1,0,none⟩),.pointer (some ⟨w.heap.size + 1 + 1 + 1,0,none⟩),.int .i64 0,.int .i64 0,.pointer (some ⟨w1.heap.size,0,none⟩),.pointer (some ⟨Bm,0,none⟩),.pointer (some ⟨Bs,0,none⟩),undef,undef,.bool false,.agg #[.slice A0_0 l0_0.length c0_0,.int .i64 a0_1],.int .i64 0,.bool false,.bool false,.int .i64 a2,.bool false,.bool false,.int .i64 a3,.bool false,.bool false,.bool false,.int .i64 a2,.int .i64 a3,.bool false,.bool false,.agg #[.slice A0_0 l0_0.length c0_0,.int .i64 a0_1],.func (.func 55) #[] #[.pointer (some ⟨w1.heap.size + 1,0,none⟩)],momV l0_0 am cm x.val,.agg #[.int .i64 (a_o l0_0 (x.val : Int)).f0,.int .i64 (c_U l0_0 a0_1 x.val)],undef,undef,undef,undef,undef,undef,undef,undef,undef,undef,undef,undef,undef,undef,undef,undef,undef,undef,undef,undef,undef,undef,undef,undef,undef],defers:=[] })
  (fun x a' s A B row hs hg hr => by obtain ⟨Bm,Bs,h1,h2,h3⟩:=hs;exact ⟨Bm,Bs,f_B h1 hg hr,f_B h2 hg hr,h3⟩) ?assign ?body ?done ?stop
 case assign =>
  rintro l pre x W K ⟨b0,b1,b2,b3,b4,hB⟩ hK
  simp only [momV]
  have i0:=a_e.mk b0
  have i1:=a_e.mk b1
  have i2:=a_e.mk b2
  have i3:=a_e.mk b3
  have iB:=a_e.mk hB
  have iK:=a_e.mk hK
  clear b0 b1 b2 b3 hB hK
  gi_wp2
  have u:=a_g (a_g (Below.refl W.heap.size W) (.cells #[.int .i64 (a_o l0_0 (x.val : Int)).f0,.slice (am x.val) (a_o l0_0 (x.val : Int)).f1.length (cm x.val)] 27)) (.cells #[.int .i64 (a_o l0_0 (x.val : Int)).f0,.int .i64 (c_U l0_0 a0_1 x.val)] 46)
  exact iK.out _ _ (c_a u) ⟨u.mono iB.out.size,u.block _ b4⟩ ⟨a_l i0.out u,a_l i1.out u,a_l i2.out u,a_l i3.out u,Nat.lt_of_lt_of_le b4 u.size,iB.out.trans (u.mono iB.out.size)⟩ ⟨_,_,a_i (d_P W _) _,by have:=d_P (W.alloc (.cells #[.int .i64 (a_o l0_0 (x.val : Int)).f0,.slice (am x.val) (a_o l0_0 (x.val : Int)).f1.length (cm x.val)] 27)) (.cells #[.int .i64 (a_o l0_0 (x.val : Int)).f0,.int .i64 (c_U l0_0 a0_1 x.val)] 46);rwa [World.size_alloc] at this,rfl⟩
 case body =>
  rintro l pre x a' W hl' _ ⟨b0,b1,b2,b3,b4,hB⟩ ⟨Bm,Bs,bm,bs,rfl⟩ hlt
  simp only [momV]
  have hmx:=HMS.out x.val x.isLt
  have hsm : (a_o l0_0 (x.val : Int)).f1.length ≤ 1099511627776:=HM.out _ (by unfold a_o;simp)
  have IF:=a_e.mk (o_z (a_o l0_0 (x.val : Int)).f0 (a_o l0_0 (x.val : Int)).f1 a1 hsm)
  have iC:=a_e.mk (Kd.b_f hmx.2.2.2 hB)
  have iL:=hmx.2.2.1
  clear hmx hsm
  have c0:=(a_a bm 0).trans rfl
  have c1:=(a_a bm 1).trans rfl
  have c2:=(a_a b1 0).trans rfl
  have iN : ((pre ++ [x]).map (·.val)).foldl (ranB l0_0 a0_1 a1 a2 a3) 0 = ranB l0_0 a0_1 a1 a2 a3 ((pre.map (·.val)).foldl (ranB l0_0 a0_1 a1 a2 a3) 0) x.val:=by simp
  generalize hn : (pre.map (·.val)).foldl (ranB l0_0 a0_1 a1 a2 a3) 0 = nn at b0 iN
  clear hn
  have IN:=a_e.mk iN
  have i0:=a_e.mk b0
  have i1:=a_e.mk b1
  have i2:=a_e.mk b2
  have i3:=a_e.mk b3
  have is:=a_e.mk bs
  have iB:=a_e.mk hB
  clear b0 b1 b2 b3 hB bm bs iN
  cases hb : (a_7 (a_o l0_0 (x.val : Int)).f1 a1).2 with
  | false =>
   rw [hb] at IF
   have IH:=a_e.mk hb
   clear hb
   gi_wp2_with (refine ⟨trivial,?_⟩;gi_at_call 29;refine (CallsIn.inRound l (callsIn_wide.2 (d_S.calls _ _ _ _ _ _ _ _ _ _ _ _ _ _ _ _ _ _ iC.out iL IF.out))).mono ?_;rintro e w' ⟨rfl,hb⟩;have IB2:=a_e.mk hb;clear hb)
   have u:=a_g IB2.out (.cells #[.int .i64 (a_7 (a_o l0_0 (x.val : Int)).f1 a1).1.f0,.int .i64 (a_7 (a_o l0_0 (x.val : Int)).f1 a1).1.f1,.int .i64 (a_7 (a_o l0_0 (x.val : Int)).f1 a1).1.f2,.int .i64 (a_7 (a_o l0_0 (x.val : Int)).f1 a1).1.f3,.int .i64 (a_7 (a_o l0_0 (x.val : Int)).f1 a1).1.f4,.bool (a_7 (a_o l0_0 (x.val : Int)).f1 a1).1.f5,.bool (a_7 (a_o l0_0 (x.val : Int)).f1 a1).1.f6,.int .u32 (a_7 (a_o l0_0 (x.val : Int)).f1 a1).1.f7,.int .i64 (a_7 (a_o l0_0 (x.val : Int)).f1 a1).1.f8,.int .i64 (a_7 (a_o l0_0 (x.val : Int)).f1 a1).1.f9,.int .i64 (a_7 (a_o l0_0 (x.val : Int)).f1 a1).1.f10] 65)
   have e : ranB l0_0 a0_1 a1 a2 a3 nn x.val = nn:=by unfold ranB;rw [IH.out];simp
   exact ⟨c_a u,⟨u.mono iB.out.size,u.block _ b4⟩,⟨by rw [IN.out,e];exact a_l i0.out u,a_l i1.out u,a_l i2.out u,a_l i3.out u,Nat.lt_of_lt_of_le b4 u.size,iB.out.trans (u.mono iB.out.size)⟩⟩
  | true =>
   rw [hb] at IF
   have IH:=a_e.mk hb
   clear hb
   cases hd : decide (-1 < (a_7 (a_o l0_0 (x.val : Int)).f1 a1).1.f4) with
   | false =>
    gi_wp2_with (refine ⟨trivial,?_⟩;gi_at_call 29;refine (CallsIn.inRound l (callsIn_wide.2 (d_S.calls _ _ _ _ _ _ _ _ _ _ _ _ _ _ _ _ _ _ iC.out iL IF.out))).mono ?_;rintro e w' ⟨rfl,hb⟩;have IB2:=a_e.mk hb;clear hb)
    have u:=a_g IB2.out (.cells #[.int .i64 (a_7 (a_o l0_0 (x.val : Int)).f1 a1).1.f0,.int .i64 (a_7 (a_o l0_0 (x.val : Int)).f1 a1).1.f1,.int .i64 (a_7 (a_o l0_0 (x.val : Int)).f1 a1).1.f2,.int .i64 (a_7 (a_o l0_0 (x.val : Int)).f1 a1).1.f3,.int .i64 (a_7 (a_o l0_0 (x.val : Int)).f1 a1).1.f4,.bool (a_7 (a_o l0_0 (x.val : Int)).f1 a1).1.f5,.bool (a_7 (a_o l0_0 (x.val : Int)).f1 a1).1.f6,.int .u32 (a_7 (a_o l0_0 (x.val : Int)).f1 a1).1.f7,.int .i64 (a_7 (a_o l0_0 (x.val : Int)).f1 a1).1.f8,.int .i64 (a_7 (a_o l0_0 (x.val : Int)).f1 a1).1.f9,.int .i64 (a_7 (a_o l0_0 (x.val : Int)).f1 a1).1.f10] 65)
    have e : ranB l0_0 a0_1 a1 a2 a3 nn x.val = nn:=by unfold ranB;rw [if_neg (fun h => of_decide_eq_false hd h.2)]
    exact ⟨c_a u,⟨u.mono iB.out.size,u.block _ b4⟩,⟨by rw [IN.out,e];exact a_l i0.out u,a_l i1.out u,a_l i2.out u,a_l i3.out u,Nat.lt_of_lt_of_le b4 u.size,iB.out.trans (u.mono iB.out.size)⟩⟩
   | true =>
    gi_wp2_with (refine ⟨trivial,?_⟩;gi_at_call 29;refine (CallsIn.inRound l (callsIn_wide.2 (d_S.calls _ _ _ _ _ _ _ _ _ _ _ _ _ _ _ _ _ _ iC.out iL IF.out))).mono ?_;rintro e w' ⟨rfl,hb⟩;have s0 : w'.cell? ⟨Bs,0,none⟩ = some (.int .i64 (a_o l0_0 (x.val : Int)).f0):=(a_a (a_l is.out hb) 0).trans rfl;have s1 : w'.cell? ⟨Bs,1,none⟩ = some (.int .i64 (c_U l0_0 a0_1 x.val)):=(a_a (a_l is.out hb) 1).trans rfl;have s2 : w'.cell? ⟨w1.heap.size,0,none⟩ = some (.int .i64 nn):=(a_a (a_l i0.out hb) 0).trans rfl;have s3 : w'.cell? ⟨w.heap.size + 1 + 1,0,none⟩ = some (.int .i64 a2):=(a_a (a_l i2.out hb) 0).trans rfl;have s4 : w'.cell? ⟨w.heap.size + 1 + 1 + 1,0,none⟩ = some (.int .i64 a3):=(a_a (a_l i3.out hb) 0).trans rfl;have sf:=a_b (a_l i0.out hb) 0;have y0:=a_N (a_l is.out hb);have y1:=a_N (a_l i0.out hb);have y2:=a_N (a_l i2.out hb);have y3:=a_N (a_l i3.out hb);have IB2:=a_e.mk hb;clear hb)
    all_goals
     have key : ∀ (B : Nat) (v : Int),ranB l0_0 a0_1 a1 a2 a3 nn x.val = v → KeepsFrom B W ((w'.setCell ⟨w1.heap.size,0,none⟩ (.int .i64 v)).alloc (.cells #[.int .i64 (a_7 (a_o l0_0 (x.val : Int)).f1 a1).1.f0,.int .i64 (a_7 (a_o l0_0 (x.val : Int)).f1 a1).1.f1,.int .i64 (a_7 (a_o l0_0 (x.val : Int)).f1 a1).1.f2,.int .i64 (a_7 (a_o l0_0 (x.val : Int)).f1 a1).1.f3,.int .i64 (a_7 (a_o l0_0 (x.val : Int)).f1 a1).1.f4,.bool (a_7 (a_o l0_0 (x.val : Int)).f1 a1).1.f5,.bool (a_7 (a_o l0_0 (x.val : Int)).f1 a1).1.f6,.int .u32 (a_7 (a_o l0_0 (x.val : Int)).f1 a1).1.f7,.int .i64 (a_7 (a_o l0_0 (x.val : Int)).f1 a1).1.f8,.int .i64 (a_7 (a_o l0_0 (x.val : Int)).f1 a1).1.f9,.int .i64 (a_7 (a_o l0_0 (x.val : Int)).f1 a1).1.f10] 65)) ∧ KpB w.heap.size (w1.heap.size + 1) W ((w'.setCell ⟨w1.heap.size,0,none⟩ (.int .i64 v)).alloc (.cells #[.int .i64 (a_7 (a_o l0_0 (x.val : Int)).f1 a1).1.f0,.int .i64 (a_7 (a_o l0_0 (x.val : Int)).f1 a1).1.f1,.int .i64 (a_7 (a_o l0_0 (x.val : Int)).f1 a1).1.f2,.int .i64 (a_7 (a_o l0_0 (x.val : Int)).f1 a1).1.f3,.int .i64 (a_7 (a_o l0_0 (x.val : Int)).f1 a1).1.f4,.bool (a_7 (a_o l0_0 (x.val : Int)).f1 a1).1.f5,.bool (a_7 (a_o l0_0 (x.val : Int)).f1 a1).1.f6,.int .u32 (a_7 (a_o l0_0 (x.val : Int)).f1 a1).1.f7,.int .i64 (a_7 (a_o l0_0 (x.val : Int)).f1 a1).1.f8,.int .i64 (a_7 (a_o l0_0 (x.val : Int)).f1 a1).1.f9,.int .i64 (a_7 (a_o l0_0 (x.val : Int)).f1 a1).1.f10] 65)) ∧ RanI w w1 a1 a2 a3 (((pre ++ [x]).map (·.val)).foldl (ranB l0_0 a0_1 a1 a2 a3) 0) ((w'.setCell ⟨w1.heap.size,0,none⟩ (.int .i64 v)).alloc (.cells #[.int .i64 (a_7 (a_o l0_0 (x.val : Int)).f1 a1).1.f0,.int .i64 (a_7 (a_o l0_0 (x.val : Int)).f1 a1).1.f1,.int .i64 (a_7 (a_o l0_0 (x.val : Int)).f1 a1).1.f2,.int .i64 (a_7 (a_o l0_0 (x.val : Int)).f1 a1).1.f3,.int .i64 (a_7 (a_o l0_0 (x.val : Int)).f1 a1).1.f4,.bool (a_7 (a_o l0_0 (x.val : Int)).f1 a1).1.f5,.bool (a_7 (a_o l0_0 (x.val : Int)).f1 a1).1.f6,.int .u32 (a_7 (a_o l0_0 (x.val : Int)).f1 a1).1.f7,.int .i64 (a_7 (a_o l0_0 (x.val : Int)).f1 a1).1.f8,.int .i64 (a_7 (a_o l0_0 (x.val : Int)).f1 a1).1.f9,.int .i64 (a_7 (a_o l0_0 (x.val : Int)).f1 a1).1.f10] 65))   := fun B v e => by
      have u0:=IB2.out
      have h1 : Below w.heap.size W (w'.setCell ⟨w1.heap.size,0,none⟩ (.int .i64 v)):=(u0.mono iB.out.size).setCell (p:=⟨w1.heap.size,0,none⟩) hws _
      have h2:=h1.alloc (Nat.le_trans iB.out.size h1.size) (.cells #[.int .i64 (a_7 (a_o l0_0 (x.val : Int)).f1 a1).1.f0,.int .i64 (a_7 (a_o l0_0 (x.val : Int)).f1 a1).1.f1,.int .i64 (a_7 (a_o l0_0 (x.val : Int)).f1 a1).1.f2,.int .i64 (a_7 (a_o l0_0 (x.val : Int)).f1 a1).1.f3,.int .i64 (a_7 (a_o l0_0 (x.val : Int)).f1 a1).1.f4,.bool (a_7 (a_o l0_0 (x.val : Int)).f1 a1).1.f5,.bool (a_7 (a_o l0_0 (x.val : Int)).f1 a1).1.f6,.int .u32 (a_7 (a_o l0_0 (x.val : Int)).f1 a1).1.f7,.int .i64 (a_7 (a_o l0_0 (x.val : Int)).f1 a1).1.f8,.int .i64 (a_7 (a_o l0_0 (x.val : Int)).f1 a1).1.f9,.int .i64 (a_7 (a_o l0_0 (x.val : Int)).f1 a1).1.f10] 65)
      refine ⟨((c_a u0).trans ((KeepsOthers.setCell w' ⟨w1.heap.size,0,none⟩ (.int .i64 v)).from _)).trans ((KeepsOthers.alloc _ _).from _),⟨h2,?_⟩,⟨a_i (by rw [IN.out,e];exact a_J (a_l i0.out u0) 0 _ rfl) _,a_i (a_B (a_l i1.out u0) (by show w.heap.size + 1 ≠ w1.heap.size;omega) _) _,a_i (a_B (a_l i2.out u0) (by show w.heap.size + 1 + 1 ≠ w1.heap.size;omega) _) _,a_i (a_B (a_l i3.out u0) (by show w.heap.size + 1 + 1 + 1 ≠ w1.heap.size;omega) _) _,Nat.lt_of_lt_of_le b4 h2.size,iB.out.trans h2⟩⟩
      rw [Below.heap_alloc _ _ _ (by have:=u0.size;simp only [World.setCell,Array.size_modify];omega),Below.heap_setCell _ _ _ _ (by show w1.heap.size + 1 ≠ w1.heap.size;omega)]
      exact u0.block _ b4
     refine key _ _ ?_
     unfold ranB
     rw [if_pos ⟨IH.out,of_decide_eq_true hd⟩]
     (first|rw [v_z (by assumption)]|rw [v_M (by assumption)])
     (first|rw [r_I (a:=(a_o l0_0 (x.val : Int)).f0) (by assumption)]|rw [r_J (a:=(a_o l0_0 (x.val : Int)).f0) (by assumption)])
     (first|rw [r_I (by assumption),Int.add_zero]|rw [r_J (by assumption)])
 case done =>
  rintro D ys W hD rfl ⟨b0,b1,b2,b3,b4,hB⟩ hK
  have hv : ((List.finRange l0_0.length).map (·.val)).foldl (ranB l0_0 a0_1 a1 a2 a3) 0 = (List.range l0_0.length).foldl (ranB l0_0 a0_1 a1 a2 a3) 0:=by
   congr 1
   apply List.ext_getElem
   ·simp
   intro i h1 h2;simp
  rw [hv] at b0
  have c0 : W.cell? ⟨w1.heap.size,0,none⟩ = some (.int .i64 ((List.range l0_0.length).foldl (ranB l0_0 a0_1 a1 a2 a3) 0)):=(a_a b0 0).trans rfl
  clear b0 b1 b2 b3 hv
  gi_wp2
  refine ⟨by simp,.inl ⟨_,_,rfl,run_takeDeferred hK,?_⟩⟩
  exact ⟨.tuple #[.int .i64 ((List.range l0_0.length).foldl (ranB l0_0 a0_1 a1 a2 a3) 0),.int .i64 0],by simp [results,Try.results16,go_sem],rfl,hB.trans (belowK_b (w:=w) (Nat.le_refl _) W D _ _ (by have:=nB.out.size;omega) hK rfl rfl)⟩
 case stop =>
  rintro D c pre W _ _ h _
  exact h.elim
set_option maxHeartbeats 2000000 in
theorem c_p.errs (k : Nat) (A0_0 : Option Addr) (c0_0 : Nat) (l0_0 : List S27) (a0_1 a1 a2 a3 : Int) (e r : Int) (w : World) (hr0_0 : Kd.C k27 w A0_0 l0_0.length l0_0) (hc0_0 : l0_0.length ≤ c0_0) (he : a_A.f k l0_0 a0_1 = some e) (hr : (e ≠ 0 ∧ r = 390) ∨ (e = 0 ∧ (a2 < 0 ∨ 1125899906842624 < a3 ∨ a3 < a2) ∧ r = 2)) :
 Calls Try.prog 16 #[.agg #[.slice A0_0 l0_0.length c0_0,.int .i64 a0_1],.int .i64 a1,.int .i64 a2,.int .i64 a3] w fun e w' => e = .returned (.tuple #[.int .i64 0,.int .i64 r]) ∧ Below w.heap.size w w':=by
 have HR:=a_e.mk hr0_0
 have HE:=a_e.mk he
 clear hr0_0 he
 have q2:=a_e.mk (a_i (d_P ((w.alloc (.cells #[.slice A0_0 l0_0.length c0_0,.int .i64 a0_1] 24)).alloc (.cells #[.int .i64 a1] 3)) (.cells #[.int .i64 a2] 2)) (.cells #[.int .i64 a3] 2))
 have q3:=a_e.mk (d_P (((w.alloc (.cells #[.slice A0_0 l0_0.length c0_0,.int .i64 a0_1] 24)).alloc (.cells #[.int .i64 a1] 3)).alloc (.cells #[.int .i64 a2] 2)) (.cells #[.int .i64 a3] 2))
 have qB:=a_e.mk (a_g (a_g (a_g (a_g (Below.refl w.heap.size w) (.cells #[.slice A0_0 l0_0.length c0_0,.int .i64 a0_1] 24)) (.cells #[.int .i64 a1] 3)) (.cells #[.int .i64 a2] 2)) (.cells #[.int .i64 a3] 2))
 simp only [World.size_alloc] at q2 q3
 rcases hr with ⟨h1,rfl⟩ | ⟨rfl,h2,rfl⟩
 ·have g0 : (e != 0) = true:=bne_iff_ne.mpr h1
  clear h1
  go_enter Try.func16,Try.ntmps16
  go_wp2_with (go_at_call 14;refine (a_A.calls k _ _ l0_0 a0_1 e _ ?s1 hc0_0 HE.out).mono ?_;(case s1 => exact Kd.b_f HR.out qB.out);rintro e w1 ⟨rfl,hb⟩;have HB:=a_e.mk (a_t qB.out hb);clear hb)
  go_ret2
  exact ⟨rfl,HB.out⟩
 have key : ∀ b1 b2 b3 : Bool,decide (a2 < 0) = b1 → decide (1125899906842624 < a3) = b2 → decide (a3 < a2) = b3 → (b1 || b2 || b3) = true → Calls Try.prog 16 #[.agg #[.slice A0_0 l0_0.length c0_0,.int .i64 a0_1],.int .i64 a1,.int .i64 a2,.int .i64 a3] w fun e w' => e = .returned (.tuple #[.int .i64 0,.int .i64 2]) ∧ Below w.heap.size w w':=by
  intro b1 b2 b3 g1 g2 g3 hor
  cases b1 <;> cases b2 <;> cases b3 <;> first|(exact absurd hor (by decide))|skip
  all_goals
   clear hor
   go_enter Try.func16,Try.ntmps16
   go_wp2_with (go_at_call 14;refine (a_A.calls k _ _ l0_0 a0_1 0 _ ?s1 hc0_0 HE.out).mono ?_;(case s1 => exact Kd.b_f HR.out qB.out);rintro e w1 ⟨rfl,hb⟩;have HB:=a_e.mk (a_t qB.out hb);have p2:=a_e.mk (a_l q2.out hb);have p3:=a_e.mk (a_l q3.out hb);clear hb;have r2 : w1.cell? ⟨w.heap.size + 1 + 1,0,none⟩ = some (.int .i64 a2):=(a_a p2.out 0).trans rfl;have r3 : w1.cell? ⟨w.heap.size + 1 + 1 + 1,0,none⟩ = some (.int .i64 a3):=(a_a p3.out 0).trans rfl)
   go_ret2
   exact ⟨rfl,HB.out⟩
 refine key _ _ _ rfl rfl rfl ?_
 simp only [Bool.or_eq_true,decide_eq_true_eq]
 omega
theorem c_p.calls (k : Nat) (A0_0 : Option Addr) (c0_0 : Nat) (l0_0 : List S27) (a0_1 a1 a2 a3 : Int) (r1 r2 : Int) (w : World) (hr0_0 : Kd.C k27 w A0_0 l0_0.length l0_0) (hc0_0 : l0_0.length ≤ c0_0) (h : c_p.f k l0_0 a0_1 a1 a2 a3 = some (r1,r2)) :
 Calls Try.prog 16 #[.agg #[.slice A0_0 l0_0.length c0_0,.int .i64 a0_1],.int .i64 a1,.int .i64 a2,.int .i64 a3] w fun e w' => e = .returned (.tuple #[.int .i64 r1,.int .i64 r2]) ∧ Below w.heap.size w w':=by
 obtain ⟨e,he,h⟩:=Option.bind_eq_some_iff.mp h
 by_cases h0 : e = 0
 rotate_left
 ·rw [if_neg h0] at h;cases h
  exact c_p.errs k A0_0 c0_0 l0_0 a0_1 a1 a2 a3 e 390 w hr0_0 hc0_0 he (.inl ⟨h0,rfl⟩)
 rw [if_pos h0] at h
 subst h0
 by_cases h1 : a2 < 0
 ·rw [if_pos h1] at h;cases h
  exact c_p.errs k A0_0 c0_0 l0_0 a0_1 a1 a2 a3 0 2 w hr0_0 hc0_0 he (.inr ⟨rfl,.inl h1,rfl⟩)
 rw [if_neg h1] at h
 by_cases h2 : 1125899906842624 < a3
 ·rw [if_pos h2] at h;cases h
  exact c_p.errs k A0_0 c0_0 l0_0 a0_1 a1 a2 a3 0 2 w hr0_0 hc0_0 he (.inr ⟨rfl,.inr (.inl h2),rfl⟩)
 rw [if_neg h2] at h
 by_cases h3 : a3 < a2
 ·rw [if_pos h3] at h;cases h
  exact c_p.errs k A0_0 c0_0 l0_0 a0_1 a1 a2 a3 0 2 w hr0_0 hc0_0 he (.inr ⟨rfl,.inr (.inr h3),rfl⟩)
 rw [if_neg h3] at h
 by_cases h4 : l0_0.length ≤ 4398046511104 ∧ ∀ m ∈ l0_0,m.f1.length ≤ 1099511627776
 ·rw [if_pos h4] at h;cases h
  exact c_p.sums k A0_0 c0_0 l0_0 a0_1 a1 a2 a3 w hr0_0 hc0_0 he h1 h2 h3 h4.1 h4.2
 rw [if_neg h4] at h;cases h
end
end Go.Proofs.Ytgglkfilkagblaa.Q
end
section
namespace Go.Proofs.Ytgglkfilkagblaa.Q
open Go.RowKit Go.Proofs.YtgglkfilkagblaaW.PrintWords Go.Proofs.YtgglkfilkagblaaW.PrintLast Go.Proofs.YtgglkfilkagblaaW.PrintMore
set_option linter.unusedVariables false
set_option linter.unusedSimpArgs false
def e_J.f (a0_0 : Int) (a0_1 : Int) (a0_2 : Int) (a0_3 : Int) (a0_4 : Int) (a0_5 : Bool) (a0_6 : Bool) (a0_7 : Int) (a0_8 : Int) (a0_9 : Int) (a0_10 : Int) : Option (Bool):=if a0_5 = true then (if a0_6 = true then (some false) else (if a0_2 = 0 then (some (a0_4 == (-1))) else (some false))) else (some false)
set_option maxHeartbeats 8000000 in
set_option maxRecDepth 100000 in
theorem e_J.calls (a0_0 : Int) (a0_1 : Int) (a0_2 : Int) (a0_3 : Int) (a0_4 : Int) (a0_5 : Bool) (a0_6 : Bool) (a0_7 : Int) (a0_8 : Int) (a0_9 : Int) (a0_10 : Int) (r : Bool) (w : World) (h : e_J.f a0_0 a0_1 a0_2 a0_3 a0_4 a0_5 a0_6 a0_7 a0_8 a0_9 a0_10 = some r) :
 Calls Try.prog 30 #[.agg #[.int .i64 a0_0,.int .i64 a0_1,.int .i64 a0_2,.int .i64 a0_3,.int .i64 a0_4,.bool a0_5,.bool a0_6,.int .u32 a0_7,.int .i64 a0_8,.int .i64 a0_9,.int .i64 a0_10]] w fun e w' => e = .returned (.bool r) ∧ Below w.heap.size w w':=by
 have hu65:=Try.underlying65
 have HB:=a_e.mk (Below.refl w.heap.size w)
 have H : (if a0_5 = true then (if a0_6 = true then (some false) else (if a0_2 = 0 then (some (a0_4 == (-1))) else (some false))) else (some false)) = some r:=h
 clear h
 by_cases c2 : a0_5 = true
 rotate_left
 ·replace c2:=Bool.eq_false_iff.mpr c2
  subst c2
  have H1 : (some false) = some r:=by rw [if_neg (show ¬ (false = true) by decide)] at H;exact H
  clear H
  have H:=H1
  clear H1
  obtain rfl:=Option.some.inj H
  go_enter Try.func30,Try.ntmps30
  go_wp2_with (first|((with_reducible refine a_U (N:=1) rfl ?_);refine a_H ?hg (N:=1) ?hd (cs:=#[.int .i64 a0_0,.int .i64 a0_1,.int .i64 a0_2,.int .i64 a0_3,.int .i64 a0_4,.bool false,.bool a0_6,.int .u32 a0_7,.int .i64 a0_8,.int .i64 a0_9,.int .i64 a0_10]) (t:=65) ?hr ?_;(case hd => rfl);(case hg => rfl);(case hr => first|(go_simp;done)|(go_simp;rfl));intro c_R hg w11 hbox hb;have b_N:=a_e.mk (hbox);have u_Y:=a_e.mk ((by rw [hg];exact (a_p (lup_ HB.out)) : w.heap.size ≤ c_R));have n_r:=a_e.mk ((by rw [hg];exact (a_p (lup_ HB.out)) : w.heap.size ≤ c_R));replace HB:=a_e.mk (a_t (lup_ HB.out) hb);clear hb hbox hg;have i_k : w11.cell? ⟨c_R,0,none⟩ = some (.int .i64 a0_0):=(a_a b_N.out 0).trans rfl;have i_l : w11.cell? ⟨c_R,1,none⟩ = some (.int .i64 a0_1):=(a_a b_N.out 1).trans rfl;have p_b : w11.cell? ⟨c_R,2,none⟩ = some (.int .i64 a0_2):=(a_a b_N.out 2).trans rfl;have p_c : w11.cell? ⟨c_R,3,none⟩ = some (.int .i64 a0_3):=(a_a b_N.out 3).trans rfl;have p_d : w11.cell? ⟨c_R,4,none⟩ = some (.int .i64 a0_4):=(a_a b_N.out 4).trans rfl;have p_e : w11.cell? ⟨c_R,5,none⟩ = some (.bool false):=(a_a b_N.out 5).trans rfl;have p_f : w11.cell? ⟨c_R,6,none⟩ = some (.bool a0_6):=(a_a b_N.out 6).trans rfl;have p_g : w11.cell? ⟨c_R,7,none⟩ = some (.int .u32 a0_7):=(a_a b_N.out 7).trans rfl;have p_h : w11.cell? ⟨c_R,8,none⟩ = some (.int .i64 a0_8):=(a_a b_N.out 8).trans rfl;have p_i : w11.cell? ⟨c_R,9,none⟩ = some (.int .i64 a0_9):=(a_a b_N.out 9).trans rfl;have n_L : w11.cell? ⟨c_R,10,none⟩ = some (.int .i64 a0_10):=(a_a b_N.out 10).trans rfl;have i_m:=a_b b_N.out 0;have i_n:=a_b b_N.out 1;have p_j:=a_b b_N.out 2;have p_k:=a_b b_N.out 3;have p_l:=a_b b_N.out 4;have p_m:=a_b b_N.out 5;have p_n:=a_b b_N.out 6;have p_o:=a_b b_N.out 7;have p_p:=a_b b_N.out 8;have p_q:=a_b b_N.out 9;have n_M:=a_b b_N.out 10))
  go_ret
  exact ⟨by first|rfl|(simp [a_w,a_x] <;> rfl)|(simp [*, a_w,a_x] <;> rfl),by repeat (first|(with_reducible first|exact HB.out|apply a_g|apply a_f|apply a_h|refine a_d ?_ n_r.out)|exact HB.out)⟩
 subst c2
 have H1 : (if a0_6 = true then (some false) else (if a0_2 = 0 then (some (a0_4 == (-1))) else (some false))) = some r:=by rw [if_pos rfl] at H;exact H
 clear H
 have H:=H1
 clear H1
 by_cases c3 : a0_6 = true
 ·subst c3
  have H1 : (some false) = some r:=by rw [if_pos rfl] at H;exact H
  clear H
  have H:=H1
  clear H1
  obtain rfl:=Option.some.inj H
  go_enter Try.func30,Try.ntmps30
  go_wp2_with (first|((with_reducible refine a_U (N:=1) rfl ?_);refine a_H ?hg (N:=1) ?hd (cs:=#[.int .i64 a0_0,.int .i64 a0_1,.int .i64 a0_2,.int .i64 a0_3,.int .i64 a0_4,.bool true,.bool true,.int .u32 a0_7,.int .i64 a0_8,.int .i64 a0_9,.int .i64 a0_10]) (t:=65) ?hr ?_;(case hd => rfl);(case hg => rfl);(case hr => first|(go_simp;done)|(go_simp;rfl));intro c_R hg w4 hbox hb;have b_N:=a_e.mk (hbox);have u_Y:=a_e.mk ((by rw [hg];exact (a_p (lup_ HB.out)) : w.heap.size ≤ c_R));have n_r:=a_e.mk ((by rw [hg];exact (a_p (lup_ HB.out)) : w.heap.size ≤ c_R));replace HB:=a_e.mk (a_t (lup_ HB.out) hb);clear hb hbox hg;have f_Z : w4.cell? ⟨c_R,0,none⟩ = some (.int .i64 a0_0):=(a_a b_N.out 0).trans rfl;have f_0 : w4.cell? ⟨c_R,1,none⟩ = some (.int .i64 a0_1):=(a_a b_N.out 1).trans rfl;have J_P : w4.cell? ⟨c_R,2,none⟩ = some (.int .i64 a0_2):=(a_a b_N.out 2).trans rfl;have J_Q : w4.cell? ⟨c_R,3,none⟩ = some (.int .i64 a0_3):=(a_a b_N.out 3).trans rfl;have J_R : w4.cell? ⟨c_R,4,none⟩ = some (.int .i64 a0_4):=(a_a b_N.out 4).trans rfl;have J_S : w4.cell? ⟨c_R,5,none⟩ = some (.bool true):=(a_a b_N.out 5).trans rfl;have J_T : w4.cell? ⟨c_R,6,none⟩ = some (.bool true):=(a_a b_N.out 6).trans rfl;have J_U : w4.cell? ⟨c_R,7,none⟩ = some (.int .u32 a0_7):=(a_a b_N.out 7).trans rfl;have J_V : w4.cell? ⟨c_R,8,none⟩ = some (.int .i64 a0_8):=(a_a b_N.out 8).trans rfl;have J_W : w4.cell? ⟨c_R,9,none⟩ = some (.int .i64 a0_9):=(a_a b_N.out 9).trans rfl;have H_Z : w4.cell? ⟨c_R,10,none⟩ = some (.int .i64 a0_10):=(a_a b_N.out 10).trans rfl;have f_1:=a_b b_N.out 0;have f_2:=a_b b_N.out 1;have J_X:=a_b b_N.out 2;have J_Y:=a_b b_N.out 3;have J_Z:=a_b b_N.out 4;have J_0:=a_b b_N.out 5;have J_1:=a_b b_N.out 6;have J_2:=a_b b_N.out 7;have J_3:=a_b b_N.out 8;have J_4:=a_b b_N.out 9;have H_0:=a_b b_N.out 10))
  go_ret
  exact ⟨by first|rfl|(simp [a_w,a_x] <;> rfl)|(simp [*, a_w,a_x] <;> rfl),by repeat (first|(with_reducible first|exact HB.out|apply a_g|apply a_f|apply a_h|refine a_d ?_ n_r.out)|exact HB.out)⟩
 replace c3:=Bool.eq_false_iff.mpr c3
 subst c3
 have H1 : (if a0_2 = 0 then (some (a0_4 == (-1))) else (some false)) = some r:=by rw [if_neg (show ¬ (false = true) by decide)] at H;exact H
 clear H
 have H:=H1
 clear H1
 by_cases c6 : a0_2 = 0
 ·rw [if_pos c6] at H
  have c6b0 : (a0_2 == 0) = true:=beq_iff_eq.mpr c6
  have c6b1 : (a0_2 != 0) = false:=bne_eq_false_iff_eq.mpr c6
  clear c6
  obtain rfl:=Option.some.inj H
  go_enter Try.func30,Try.ntmps30
  go_wp2_with (first|((with_reducible refine a_U (N:=1) rfl ?_);refine a_H ?hg (N:=1) ?hd (cs:=#[.int .i64 a0_0,.int .i64 a0_1,.int .i64 a0_2,.int .i64 a0_3,.int .i64 a0_4,.bool true,.bool false,.int .u32 a0_7,.int .i64 a0_8,.int .i64 a0_9,.int .i64 a0_10]) (t:=65) ?hr ?_;(case hd => rfl);(case hg => rfl);(case hr => first|(go_simp;done)|(go_simp;rfl));intro c_R hg w7 hbox hb;have b_N:=a_e.mk (hbox);have u_Y:=a_e.mk ((by rw [hg];exact (a_p (lup_ HB.out)) : w.heap.size ≤ c_R));have n_r:=a_e.mk ((by rw [hg];exact (a_p (lup_ HB.out)) : w.heap.size ≤ c_R));replace HB:=a_e.mk (a_t (lup_ HB.out) hb);clear hb hbox hg;have h_V : w7.cell? ⟨c_R,0,none⟩ = some (.int .i64 a0_0):=(a_a b_N.out 0).trans rfl;have h_W : w7.cell? ⟨c_R,1,none⟩ = some (.int .i64 a0_1):=(a_a b_N.out 1).trans rfl;have J_5 : w7.cell? ⟨c_R,2,none⟩ = some (.int .i64 a0_2):=(a_a b_N.out 2).trans rfl;have J_6 : w7.cell? ⟨c_R,3,none⟩ = some (.int .i64 a0_3):=(a_a b_N.out 3).trans rfl;have J_7 : w7.cell? ⟨c_R,4,none⟩ = some (.int .i64 a0_4):=(a_a b_N.out 4).trans rfl;have J_8 : w7.cell? ⟨c_R,5,none⟩ = some (.bool true):=(a_a b_N.out 5).trans rfl;have J_9 : w7.cell? ⟨c_R,6,none⟩ = some (.bool false):=(a_a b_N.out 6).trans rfl;have K_a : w7.cell? ⟨c_R,7,none⟩ = some (.int .u32 a0_7):=(a_a b_N.out 7).trans rfl;have K_b : w7.cell? ⟨c_R,8,none⟩ = some (.int .i64 a0_8):=(a_a b_N.out 8).trans rfl;have K_c : w7.cell? ⟨c_R,9,none⟩ = some (.int .i64 a0_9):=(a_a b_N.out 9).trans rfl;have H_1 : w7.cell? ⟨c_R,10,none⟩ = some (.int .i64 a0_10):=(a_a b_N.out 10).trans rfl;have h_X:=a_b b_N.out 0;have h_Y:=a_b b_N.out 1;have K_d:=a_b b_N.out 2;have K_e:=a_b b_N.out 3;have K_f:=a_b b_N.out 4;have K_g:=a_b b_N.out 5;have K_h:=a_b b_N.out 6;have K_i:=a_b b_N.out 7;have K_j:=a_b b_N.out 8;have K_k:=a_b b_N.out 9;have H_2:=a_b b_N.out 10))
  go_ret
  exact ⟨by first|rfl|(simp [a_w,a_x] <;> rfl)|(simp [*, a_w,a_x] <;> rfl),by repeat (first|(with_reducible first|exact HB.out|apply a_g|apply a_f|apply a_h|refine a_d ?_ n_r.out)|exact HB.out)⟩
 rw [if_neg c6] at H
 have c6b0 : (a0_2 == 0) = false:=beq_eq_false_iff_ne.mpr c6
 have c6b1 : (a0_2 != 0) = true:=bne_iff_ne.mpr c6
 obtain rfl:=Option.some.inj H
 go_enter Try.func30,Try.ntmps30
 go_wp2_with (first|((with_reducible refine a_U (N:=1) rfl ?_);refine a_H ?hg (N:=1) ?hd (cs:=#[.int .i64 a0_0,.int .i64 a0_1,.int .i64 a0_2,.int .i64 a0_3,.int .i64 a0_4,.bool true,.bool false,.int .u32 a0_7,.int .i64 a0_8,.int .i64 a0_9,.int .i64 a0_10]) (t:=65) ?hr ?_;(case hd => rfl);(case hg => rfl);(case hr => first|(go_simp;done)|(go_simp;rfl));intro c_R hg w9 hbox hb;have b_N:=a_e.mk (hbox);have u_Y:=a_e.mk ((by rw [hg];exact (a_p (lup_ HB.out)) : w.heap.size ≤ c_R));have n_r:=a_e.mk ((by rw [hg];exact (a_p (lup_ HB.out)) : w.heap.size ≤ c_R));replace HB:=a_e.mk (a_t (lup_ HB.out) hb);clear hb hbox hg;have i_s : w9.cell? ⟨c_R,0,none⟩ = some (.int .i64 a0_0):=(a_a b_N.out 0).trans rfl;have i_t : w9.cell? ⟨c_R,1,none⟩ = some (.int .i64 a0_1):=(a_a b_N.out 1).trans rfl;have t_z : w9.cell? ⟨c_R,2,none⟩ = some (.int .i64 a0_2):=(a_a b_N.out 2).trans rfl;have t_A : w9.cell? ⟨c_R,3,none⟩ = some (.int .i64 a0_3):=(a_a b_N.out 3).trans rfl;have t_B : w9.cell? ⟨c_R,4,none⟩ = some (.int .i64 a0_4):=(a_a b_N.out 4).trans rfl;have t_C : w9.cell? ⟨c_R,5,none⟩ = some (.bool true):=(a_a b_N.out 5).trans rfl;have t_D : w9.cell? ⟨c_R,6,none⟩ = some (.bool false):=(a_a b_N.out 6).trans rfl;have t_E : w9.cell? ⟨c_R,7,none⟩ = some (.int .u32 a0_7):=(a_a b_N.out 7).trans rfl;have t_F : w9.cell? ⟨c_R,8,none⟩ = some (.int .i64 a0_8):=(a_a b_N.out 8).trans rfl;have t_G : w9.cell? ⟨c_R,9,none⟩ = some (.int .i64 a0_9):=(a_a b_N.out 9).trans rfl;have r_u : w9.cell? ⟨c_R,10,none⟩ = some (.int .i64 a0_10):=(a_a b_N.out 10).trans rfl;have i_u:=a_b b_N.out 0;have i_v:=a_b b_N.out 1;have t_H:=a_b b_N.out 2;have t_I:=a_b b_N.out 3;have t_J:=a_b b_N.out 4;have t_K:=a_b b_N.out 5;have t_L:=a_b b_N.out 6;have t_M:=a_b b_N.out 7;have t_N:=a_b b_N.out 8;have t_O:=a_b b_N.out 9;have r_v:=a_b b_N.out 10))
 go_ret
 exact ⟨by first|rfl|(simp [a_w,a_x] <;> rfl)|(simp [*, a_w,a_x] <;> rfl),by repeat (first|(with_reducible first|exact HB.out|apply a_g|apply a_f|apply a_h|refine a_d ?_ n_r.out)|exact HB.out)⟩
end Go.Proofs.Ytgglkfilkagblaa.Q
end
section
namespace Go.Proofs.Ytgglkfilkagblaa.Q
open Go.RowKit Go.Proofs.YtgglkfilkagblaaW.PrintWords Go.Proofs.YtgglkfilkagblaaW.PrintLast Go.Proofs.YtgglkfilkagblaaW.PrintMore
set_option linter.unusedVariables false
set_option linter.unusedSimpArgs false
section
attribute [local go_sem] Oper.semAt_some
def n_I (x : S65) : Bool:=x.f5 && !x.f6 && x.f2 == 0 && x.f4 == -1
theorem q_7 (x : S65) : e_J.f x.f0 x.f1 x.f2 x.f3 x.f4 x.f5 x.f6 x.f7 x.f8 x.f9 x.f10 = some (n_I x):=by
 unfold e_J.f n_I
 cases x.f5 <;> cases x.f6 <;> simp
 by_cases h : x.f2 = 0 <;> simp [h]
def f_c (xs : List S27) (en v : Int) (acc : List S46) (j : Nat) : List S46 :=
 if (a_7 (a_o xs (j : Int)).f1 v).2 = true ∧ n_I (a_7 (a_o xs (j : Int)).f1 v).1 = true ∧ (a_o xs (j : Int)).f0 ≠ c_U xs en j then
  (if 0 < acc.length ∧ (acc.getD (acc.length - 1) z46).f1 = (a_o xs (j : Int)).f0 then acc.set (acc.length - 1) ⟨(acc.getD (acc.length - 1) z46).f0,c_U xs en j⟩
  else acc ++ [⟨(a_o xs (j : Int)).f0,c_U xs en j⟩]) else acc
theorem o_O (xs : List S27) (en v : Int) (js : List Nat) (acc : List S46) : (js.foldl (f_c xs en v) acc).length ≤ acc.length + js.length:=by
 induction js generalizing acc with
 | nil => simp
 | cons j js ih =>
  have:=ih (f_c xs en v acc j)
  have h : (f_c xs en v acc j).length ≤ acc.length + 1:=by unfold f_c;split <;> (try split) <;> simp
  simp only [List.foldl_cons,List.length_cons];omega
def b_6.f (k : Nat) (l0_0 : List S27) (a0_1 a1 : Int) : Option (List S46 × Int):=(a_A.f k l0_0 a0_1).bind fun e => if e = 0 then (if l0_0.length ≤ 4398046511104 ∧ ∀ m ∈ l0_0,m.f1.length ≤ 1099511627776 then some ((List.range l0_0.length).foldl (f_c l0_0 a0_1 a1) [],0) else none) else some ([],e)
theorem b_6.mono : ∀ a0 a1 a2 k,LeO (b_6.f k a0 a1 a2) (b_6.f (k + 1) a0 a1 a2):=fun a0 a1 a2 k => LeO.bind (a_A.mono _ _ _) (fun _ => LeO.refl _)
def f_u (l : List S46) : List Value:=l.flatMap fun s => [.int .i64 s.f0,.int .i64 s.f1]
theorem l_J (l : List S46) : (f_u l).length = l.length * 2:=by
 induction l with
 | nil => rfl
 | cons s l ih => simp only [f_u,List.flatMap_cons,List.length_append,List.length_cons,List.length_nil] at ih ⊢; omega
theorem l_y (a b : List S46) : f_u (a ++ b) = f_u a ++ f_u b:=List.flatMap_append
theorem l_D (l : List S46) (i : Nat) (h : i < l.length) : (f_u l)[i * 2]? = some (.int .i64 (l.getD i z46).f0) ∧ (f_u l)[i * 2 + 1]? = some (.int .i64 (l.getD i z46).f1):=by
 induction l generalizing i with
 | nil => simp at h
 | cons s l ih =>
  cases i with
  | zero => exact ⟨rfl,rfl⟩
  | succ i =>
   have:=ih i (by simpa using h)
   have e : f_u (s :: l) = [.int .i64 s.f0,.int .i64 s.f1] ++ f_u l:=rfl
   rw [e,List.getElem?_append_right (by simp;omega),List.getElem?_append_right (by simp;omega),List.getD_cons_succ]
   simp only [List.length_cons,List.length_nil]
   rw [show (i + 1) * 2 - (0 + 1 + 1) = i * 2 by omega,show (i + 1) * 2 + 1 - (0 + 1 + 1) = i * 2 + 1 by omega]
   exact this
theorem o_q (l : List S46) (i : Nat) (h : i < l.length) (u : Int) : (f_u l).set (i * 2 + 1) (.int .i64 u) = f_u (l.set i ⟨(l.getD i z46).f0,u⟩):=by
 induction l generalizing i with
 | nil => simp at h
 | cons s l ih =>
  cases i with
  | zero => rfl
  | succ i =>
   have:=ih i (by simpa using h)
   have e : f_u (s :: l) = .int .i64 s.f0 :: .int .i64 s.f1 :: f_u l:=rfl
   rw [e,show (i + 1) * 2 + 1 = (i * 2 + 1) + 1 + 1 by omega,List.set_cons_succ,List.set_cons_succ,this]
   rfl
theorem i_i {W W' : World} {base n : Nat} {e : TypeId} {size : Nat} {v : Value} {xs : List Value} (h : W.ownsRow base e size v n xs) (hb : Below W.heap.size W W') : W'.ownsRow base e size v n xs :=
 h.kept (row:=none) ⟨hb.os,hb.tape,hb.output,hb.size,fun k hk _ => hb.block k hk⟩ (by rcases h.2 with ⟨rfl,_⟩ | ⟨g,cap,cur,rfl,_⟩;exact .inl rfl;exact .inr (by simp [Value.ownBlock]))
theorem r_X {W : World} {base n g cap : Nat} {e : TypeId} {size : Nat} {xs : List Value} (h : W.ownsRow base e size (.slice (some ⟨g,0,none⟩) n cap) n xs) (i : Nat) (hi : i < n * size) (u : Value) : (W.setCell ⟨g,i,none⟩ u).ownsRow base e size (.slice (some ⟨g,0,none⟩) n cap) n (xs.set i u):=by
 obtain ⟨h1,h2⟩:=h
 rcases h2 with ⟨h2,_⟩ | ⟨g',cap',cur,h2,h3,h4,h5,h6,h7,h8⟩
 ·cases h2
 cases h2
 refine ⟨by simpa using h1,.inr ⟨g,cap,cur.setIfInBounds i u,rfl,h3,o_4 h4 i u,h5,h6,by simpa using h7,?_⟩⟩
 rw [Array.toList_setIfInBounds,List.take_set,h8]
theorem n_K {W : World} {base n g cap : Nat} {e : TypeId} {size : Nat} {xs : List Value} (h : W.ownsRow base e size (.slice (some ⟨g,0,none⟩) n cap) n xs) (i : Nat) (hi : i < n * size) : W.cell? ⟨g,i,none⟩ = xs[i]? ∧ W.frozen? ⟨g,i,none⟩ = false ∧ base ≤ g ∧ n ≤ cap:=by
 obtain ⟨h1,h2⟩:=h
 rcases h2 with ⟨h2,_⟩ | ⟨g',cap',cur,h2,h3,h4,h5,h6,h7,h8⟩
 ·cases h2
 cases h2
 refine ⟨(a_a h4 i).trans ?_,a_b h4 i,h3,h5⟩
 rw [← h8,List.getElem?_take_of_lt hi]
 simp
theorem o_v {W : World} {B t : Nat} {cs : Array Value} (h : W.heap[B]? = some (.cells cs t (0,0))) {e : TypeId} (hte : t ≠ e) {base size k : Nat} {v : Value} {xs : List Value} (hr : W.ownsRow base e size v k xs) : some B ≠ v.ownBlock:=by
 rcases hr.2 with ⟨rfl,_⟩ | ⟨g,cap,cur,rfl,_,hgb,_⟩
 ·simp [Value.ownBlock]
 intro e'
 obtain rfl : B = g:=by simpa [Value.ownBlock] using e'
 have:=h.symm.trans hgb
 simp at this
 exact hte this.2
theorem w_d {W : World} {base : Nat} {v : Value} {xs : List S46} (h : W.ownsRow base 46 2 v xs.length (f_u xs)) : Kd.R k46 46 W base (fun _ => True) v xs :=
 ⟨fun _ _ => trivial,f_u xs,h,(l_J xs).trans rfl,fun j p hj => by
  obtain ⟨hj',rfl⟩:=List.getElem?_eq_some_iff.mp hj
  have h2:=l_D xs j hj'
  have e : ((f_u xs).drop (j * 2)).take 2 = [.int .i64 xs[j].f0,.int .i64 xs[j].f1]:=by
   have g : xs.getD j z46 = xs[j]:=by simp [List.getD,hj']
   rw [g] at h2
   apply List.ext_getElem?
   intro i
   rcases i with _|_|i
   ·simpa [List.getElem?_take,List.getElem?_drop] using h2.1
   ·simpa [List.getElem?_take,List.getElem?_drop] using h2.2
   ·simp;omega
  show k46.M W base _ _ (((f_u xs).drop (j * 2)).take 2)
  rw [e];exact r_7 _ _ _ _⟩
structure g_6 (w w1 : World) (a1 : Int) (acc : List S46) (W : World) : Prop where
 v : ∃ v,W.heap[w1.heap.size]? = some (.cells #[v] 41 (0,0)) ∧ W.ownsRow w.heap.size 46 2 v acc.length (f_u acc)
 b1 : W.heap[w.heap.size + 1]? = some (.cells #[.int .i64 a1] 3 (0,0))
 b4 : w1.heap.size + 1 < W.heap.size
 ga : ∃ cs,W.heap[w1.heap.size + 1]? = some (.cells cs 24 (0,0))
 below : Below w.heap.size w W
theorem g_6.bel {w w1 W W' : World} {a1 : Int} {acc : List S46} (h : g_6 w w1 a1 acc W) (u : Below W.heap.size W W') : g_6 w w1 a1 acc W':=by
 obtain ⟨⟨v,h1,h2⟩,h3,h4,⟨cs,h5⟩,h6⟩:=h
 exact ⟨⟨v,a_l h1 u,i_i h2 u⟩,a_l h3 u,Nat.lt_of_lt_of_le h4 u.size,⟨cs,a_l h5 u⟩,h6.trans (u.mono h6.size)⟩
theorem o_f (W : World) (a b : Value) (t : TypeId) : ∀ j u,[a,b][j]? = some u → (W.alloc (.cells #[a,b] t)).cell? ((⟨W.heap.size,0,none⟩ : Addr).add j) = some u:=by
 intro j u hj
 rcases j with _|_|j
 ·cases hj;exact (a_a (d_P W (.cells #[a,b] t)) 0).trans rfl
 ·cases hj;exact (a_a (d_P W (.cells #[a,b] t)) 1).trans rfl
 simp at hj
structure A_c (A : Act) (W' : World) (e : Exit) (a : Act) (w : World) : Prop where
 e : e = .normal
 a : a = A
 w : w = W'
theorem n_w {F : Fence} {n : Nat} {P : Program} {c : Code} {Q : Exit → Act → World → Prop} {a : Act} {w : World} (h : ∃ A W',c.wpIn F n P (A_c A W') a w ∧ Q .normal A W') : c.wpIn F n P Q a w:=by
 obtain ⟨A,W',h1,h2⟩:=h
 exact wpIn_mono h1 (by rintro e a w ⟨rfl,rfl,rfl⟩;exact h2)
theorem o_a (l : List S46) (f t : Int) : f_u (l ++ [⟨f,t⟩]) = f_u l ++ [.int .i64 f,.int .i64 t]:=l_y l [⟨f,t⟩]
theorem n_G {w w1 W w4 w5 : World} {a1 : Int} {acc : List S46} (iI : g_6 w w1 a1 acc W) (hw : w.heap.size ≤ w1.heap.size) (u : Below W.heap.size W w4) {v v' : Value} (bv : W.heap[w1.heap.size]? = some (.cells #[v] 41 (0,0))) {n : Nat} (hn : acc.length = n) (hr : W.ownsRow w.heap.size 46 2 v n (f_u acc)) {f t : Int} {tmp : Obj}
 (hown' : w5.ownsRow w.heap.size 46 2 v' (n + 1) (f_u acc ++ [.int .i64 f,.int .i64 t])) (hgrow : (w4.alloc tmp).grownBy w5 v.ownBlock) :
 (w5.cell? ⟨w1.heap.size,0,none⟩ = some v ∧ w5.frozen? ⟨w1.heap.size,0,none⟩ = false) ∧ (∀ B,KeepsFrom B W (w5.setCell ⟨w1.heap.size,0,none⟩ v')) ∧ KpB w.heap.size (w1.heap.size + 1) W (w5.setCell ⟨w1.heap.size,0,none⟩ v') ∧ g_6 w w1 a1 (acc ++ [⟨f,t⟩]) (w5.setCell ⟨w1.heap.size,0,none⟩ v'):=by
 subst hn
 obtain ⟨_,b1,b4,⟨cs,ga⟩,hB⟩:=iI
 have hb4 : Boxed w4 w1.heap.size 41 v:=a_l bv u
 have hr4:=i_i hr u
 obtain ⟨h1,h2,h3,h4,h5⟩:=hb4.appended (n₀:=w.heap.size) (by decide) hr4 (Nat.le_trans hB.size u.size) hw hown' hgrow
 have hB5 : Below w.heap.size W (w5.setCell ⟨w1.heap.size,0,none⟩ v'):=(u.mono hB.size).trans h5
 have far : ∀ {k : Nat} {cs : Array Value} {t : TypeId}, W.heap[k]? = some (.cells cs t (0,0)) → t ≠ 46 → k ≠ w1.heap.size → (w5.setCell ⟨w1.heap.size,0,none⟩ v').heap[k]? = some (.cells cs t (0,0)):=fun {k cs t} hk ht hne => by
  have k4:=a_l hk u
  rw [Below.heap_setCell _ _ _ _ hne,hgrow.block _ (by have:=a_N k4;simp only [World.size_alloc];omega) (o_v k4 ht hr4)]
  exact a_i k4 _
 refine ⟨⟨h1.cell,h1.frozen⟩,fun B => (c_a u).trans (h4.from B),⟨hB5,(far ga (by decide) (by omega)).trans ga.symm⟩,⟨⟨v',h2,by rw [o_a,List.length_append];exact h3⟩,far b1 (by decide) ?_,Nat.lt_of_lt_of_le b4 hB5.size,⟨cs,far ga (by decide) (by omega)⟩,hB.trans hB5⟩⟩
 intro e
 rw [e] at b1
 rw [bv] at b1
 simp at b1
theorem q_U {w w1 W w4 : World} {a1 : Int} {acc : List S46} (iI : g_6 w w1 a1 acc W) (hw : w.heap.size ≤ w1.heap.size) (u : Below W.heap.size W w4) {g cap m : Nat} (bv : W.heap[w1.heap.size]? = some (.cells #[.slice (some ⟨g,0,none⟩) (m + 1) cap] 41 (0,0))) (hr : W.ownsRow w.heap.size 46 2 (.slice (some ⟨g,0,none⟩) (m + 1) cap) (m + 1) (f_u acc)) (hm : acc.length = m + 1) (t : Int) :
 (∀ B,KeepsFrom B W (w4.setCell ⟨g,m * 2 + 1,none⟩ (.int .i64 t))) ∧ KpB w.heap.size (w1.heap.size + 1) W (w4.setCell ⟨g,m * 2 + 1,none⟩ (.int .i64 t)) ∧ g_6 w w1 a1 (acc.set m ⟨(acc.getD m z46).f0,t⟩) (w4.setCell ⟨g,m * 2 + 1,none⟩ (.int .i64 t)):=by
 obtain ⟨_,b1,b4,⟨cs,ga⟩,hB⟩:=iI
 have hr4:=i_i hr u
 obtain ⟨_,_,hg,_⟩:=n_K hr (m * 2 + 1) (by omega)
 have hB5 : Below w.heap.size W (w4.setCell ⟨g,m * 2 + 1,none⟩ (.int .i64 t)):=(u.mono hB.size).setCell (p:=⟨g,_,none⟩) hg _
 have far : ∀ {k : Nat} {cs : Array Value} {ty : TypeId}, W.heap[k]? = some (.cells cs ty (0,0)) → ty ≠ 46 → (w4.setCell ⟨g,m * 2 + 1,none⟩ (.int .i64 t)).heap[k]? = some (.cells cs ty (0,0)):=fun {k cs ty} hk ht => by
  have k4:=a_l hk u
  rw [Below.heap_setCell _ _ _ _ (fun e => o_v k4 ht hr4 (by rw [e];rfl))]
  exact k4
 refine ⟨fun B => (c_a u).trans ((KeepsOthers.setCell _ _ _).from B),⟨hB5,(far ga (by decide)).trans ga.symm⟩,⟨⟨_,far bv (by decide),?_⟩,far b1 (by decide),Nat.lt_of_lt_of_le b4 hB5.size,⟨cs,far ga (by decide)⟩,hB.trans hB5⟩⟩
 rw [← o_q acc m (by omega) t,List.length_set,hm]
 exact r_X hr4 _ (by omega) _
set_option maxRecDepth 100000 in
set_option maxHeartbeats 12000000 in
theorem b_6.sums (k : Nat) (A0_0 : Option Addr) (c0_0 : Nat) (l0_0 : List S27) (a0_1 a1 : Int) (w : World) (hr0_0 : Kd.C k27 w A0_0 l0_0.length l0_0) (hc0_0 : l0_0.length ≤ c0_0) (he : a_A.f k l0_0 a0_1 = some 0) (hl : l0_0.length ≤ 4398046511104) (hm : ∀ m ∈ l0_0,m.f1.length ≤ 1099511627776) :
 Calls Try.prog 17 #[.agg #[.slice A0_0 l0_0.length c0_0,.int .i64 a0_1],.int .i64 a1] w fun e w' => ∃ v0_ : Value,e = .returned (.tuple #[v0_,.int .i64 0]) ∧ Kd.R k46 46 w' w.heap.size (fun _ => True) v0_ ((List.range l0_0.length).foldl (f_c l0_0 a0_1 a1) []) ∧ Below w.heap.size w w':=by
 have HR:=a_e.mk hr0_0
 have HE:=a_e.mk he
 have HM:=a_e.mk hm
 clear hr0_0 he hm
 have q0:=a_e.mk (a_i (d_P w (.cells #[.slice A0_0 l0_0.length c0_0,.int .i64 a0_1] 24)) (.cells #[.int .i64 a1] 3))
 have q1:=a_e.mk (d_P (w.alloc (.cells #[.slice A0_0 l0_0.length c0_0,.int .i64 a0_1] 24)) (.cells #[.int .i64 a1] 3))
 have qB:=a_e.mk (a_g (a_g (Below.refl w.heap.size w) (.cells #[.slice A0_0 l0_0.length c0_0,.int .i64 a0_1] 24)) (.cells #[.int .i64 a1] 3))
 simp only [World.size_alloc] at q0 q1
 refine (callsIn_wide (n:=9)).1 ?_
 refine callsIn_of_wp_marks Try.func17 rfl trivial ?_ rfl
 simp only [Try.ntmps17,List.size_toArray,List.length_cons,List.length_nil,Nat.reduceAdd,Nat.reduceSub,Array.replicate_succ,Array.replicate_zero,List.push_toArray,List.append_toArray,List.nil_append,List.cons_append]
 gi_wp2_with (first
  | (refine ⟨trivial,?_⟩;gi_at_call 14;refine (callsIn_wide.2 (a_A.calls k _ _ l0_0 a0_1 0 _ ?s1 hc0_0 HE.out)).mono ?_;(case s1 => exact Kd.b_f HR.out qB.out);rintro e w1 ⟨rfl,hb⟩;have HB:=a_e.mk (a_t qB.out hb);have p0:=a_e.mk (a_l q0.out hb);have p1:=a_e.mk (a_l q1.out hb);clear hb;have r0 : w1.cell? ⟨w.heap.size,0,none⟩ = some (.slice A0_0 l0_0.length c0_0):=(a_a p0.out 0).trans rfl;have r1 : w1.cell? ⟨w.heap.size,1,none⟩ = some (.int .i64 a0_1):=(a_a p0.out 1).trans rfl;have z0:=a_N p0.out;have z1:=a_N p1.out)
  | (refine ⟨trivial,?_⟩;gi_at_call 28;refine (callsIn_wide.2 (l_G.calls _ _ _ _ _)).mono ?_;rintro e w' ⟨rfl,rfl⟩))
 have n0:=a_e.mk (a_i (d_P w1 (.cells #[.slice none 0 0] 41)) (.cells #[.slice A0_0 l0_0.length c0_0,.int .i64 a0_1] 24))
 have n1:=a_e.mk (d_P (w1.alloc (.cells #[.slice none 0 0] 41)) (.cells #[.slice A0_0 l0_0.length c0_0,.int .i64 a0_1] 24))
 have n2:=a_e.mk (a_i (a_i p1.out (.cells #[.slice none 0 0] 41)) (.cells #[.slice A0_0 l0_0.length c0_0,.int .i64 a0_1] 24))
 have nB:=a_e.mk (a_g (a_g HB.out (.cells #[.slice none 0 0] 41)) (.cells #[.slice A0_0 l0_0.length c0_0,.int .i64 a0_1] 24))
 have hsz:=a_e.mk (show ((w1.alloc (.cells #[.slice none 0 0] 41)).alloc (.cells #[.slice A0_0 l0_0.length c0_0,.int .i64 a0_1] 24)).heap.size = w1.heap.size + 1 + 1 by simp)
 simp only [World.size_alloc] at n0 n1 n2
 have hws:=HB.out.size
 clear q0 q1 p0 p1 r0 r1 qB HB
 obtain ⟨W2,hW2⟩ : ∃ W2,(w1.alloc (.cells #[.slice none 0 0] 41)).alloc (.cells #[.slice A0_0 l0_0.length c0_0,.int .i64 a0_1] 24) = W2:=⟨_,rfl⟩
 rw [hW2] at n0 n1 n2 nB hsz ⊢
 clear hW2
 obtain ⟨ad,am,cm,hA,hMs⟩ : ∃ ad am cm,(0 < l0_0.length → A0_0 = some ad) ∧ i_H l0_0 ad am cm w:=by
  by_cases h : 0 < l0_0.length
  ·obtain ⟨ad,am,cm,e,hm⟩:=l_x HR.out h
   exact ⟨ad,am,cm,fun _ => e,hm⟩
  exact ⟨⟨0,0,none⟩,fun _ => none,fun _ => 0,fun h' => absurd h' h,fun j hj => absurd (Nat.lt_of_le_of_lt (Nat.zero_le _) hj) h⟩
 have HMS:=a_e.mk hMs
 have hAA:=a_e.mk hA
 clear hMs hA
 refine wpIn_rangeFunc_ownH rfl (by omega) (gf:=55) (lb:=#[.pointer (some ⟨w1.heap.size + 1,0,none⟩)]) rfl trivial (enters_of Try.func55 (by kernel_rfl) rfl)
  (encs:=fun x : Fin l0_0.length => #[momV l0_0 am cm x.val,.agg #[.int .i64 (a_o l0_0 (x.val : Int)).f0,.int .i64 (c_U l0_0 a0_1 x.val)]]) (Kp:=KpB w.heap.size (w1.heap.size + 1)) (S:=fun ys => ys = List.finRange l0_0.length) (Sp:=fun _ => True) (N:=l0_0.length) (w0:=W2)
  (fun l J Jx W hW hJ hJx hY h0 => h_M 8 (by omega) l (w1.heap.size + 1) w.heap.size A0_0 ad c0_0 l0_0 a0_1 hl am cm J Jx hY w W hJ rfl (nB.out.trans (hW.mono nB.out.size)) hAA.out ((hW.block _ (a_N n1.out)).trans n1.out) HMS.out hc0_0 HR.out h0)
  (fun h k => ⟨h.1.trans k.1,k.2.trans h.2⟩) (fun W l o o' hl' hh hc hk => ⟨belowK_b (w:=W2) nB.out.size W l o o' hl' hh hc hk,(grownBy_putObj' W l o').block _ (by have:=a_N hh;have:=hsz.out;omega) (by intro e;cases e;have:=hsz.out;omega)⟩) (Below.refl _ _) (fun _ => rfl)
  (fun pre W => g_6 w w1 a1 ((pre.map (·.val)).foldl (f_c l0_0 a0_1 a1) []) W)
  (fun _ _ _ => False)
  (fun s A B row hs hg hr => by
   obtain ⟨⟨v,h1,h2⟩,h3,h4,⟨cs,h5⟩,h6⟩:=hs
   exact ⟨⟨v,f_B h1 hg hr,h2.kept hg (by
    rcases h2.2 with ⟨rfl,_⟩ | ⟨g,cap,cur,rfl,_,hgb,_⟩
    ·exact .inl rfl
    ·refine .inr fun e' => ?_
     obtain ⟨_,o,ho,hc⟩:=hr g (by simpa [Value.ownBlock] using e'.symm)
     rw [hgb] at ho;cases ho;cases hc)⟩,f_B h3 hg hr,Nat.lt_of_lt_of_le h4 hg.size,⟨cs,f_B h5 hg hr⟩,h6.grown hg h6.size (fun k e => Nat.le_trans nB.out.size (hr k e).1)⟩)
  (fun _ _ _ _ _ hs _ _ => hs)
  ⟨⟨_,n0.out,l_U _ _ _ _⟩,n2.out,by have:=hsz.out;omega,⟨_,n1.out⟩,nB.out⟩
  (fun x a' W => ∃ Bm Bs : Nat,W.heap[Bm]? = some (.cells #[.int .i64 (a_o l0_0 (x.val : Int)).f0,.slice (am x.val) (a_o l0_0 (x.val : Int)).f1.length (cm x.val)] 27 (0,0)) ∧ W.heap[Bs]? = some (.cells #[.int .i64 (a_o l0_0 (x.val : Int)).f0,.int .i64 (c_U l0_0 a0_1 x.val)] 46 (0,0)) ∧ a' = { tmps:=#[.agg #[.slice A0_0 l0_0.length c0_0,.int .i64 a0_1],.int .i64 a1,.pointer (some ⟨w.heap.size,0,none⟩),.pointer (some ⟨w.heap.size + 1,0,none⟩),.slice none 0 0,.int .i64 0,.int .i64 0,.pointer (some ⟨w1.heap.size,0,none⟩),.pointer (some ⟨Bm,0,none⟩),.pointer (some ⟨Bs,0,none⟩),undef,undef,undef,.agg #[.slice A0_0 l0_0.length c0_0,.int .i64 a0_1],.int .i64 0,.int .i64 0,.bool false,undef,.agg #[.slice A0_0 l0_0.length c0_0,.int .i64 a0_1],.func (.func 55) #[] #[.pointer (some ⟨w1.heap.size + 1,0,none⟩)],momV l0_0 am cm x.val,.agg #[.int .i64 (a_o l0_0 (x.val : Int)).f0,.int .i64 (c_U l0_0 a0_1 x.val)],undef,undef,undef,undef,undef,undef,undef,undef,undef,undef,undef,undef,undef,undef,undef,undef,undef,undef,undef,undef,undef,undef,undef,undef,undef,undef,undef,undef,undef,undef,undef,undef,undef,undef,undef,undef,undef,undef,undef,undef,undef,undef,undef,undef,undef,undef,undef],defers:=[] })
  (fun x a' s A B row hs hg hr => by obtain ⟨Bm,Bs,h1,h2,h3⟩:=hs;exact ⟨Bm,Bs,f_B h1 hg hr,f_B h2 hg hr,h3⟩) ?assign ?body ?done ?stop
 case assign =>
  rintro l pre x W K hI hK
  simp only [momV]
  have iI:=a_e.mk hI
  have iK:=a_e.mk hK
  clear hI hK
  gi_wp2
  have u:=a_g (a_g (Below.refl W.heap.size W) (.cells #[.int .i64 (a_o l0_0 (x.val : Int)).f0,.slice (am x.val) (a_o l0_0 (x.val : Int)).f1.length (cm x.val)] 27)) (.cells #[.int .i64 (a_o l0_0 (x.val : Int)).f0,.int .i64 (c_U l0_0 a0_1 x.val)] 46)
  exact iK.out _ _ (c_a u) ⟨u.mono iI.out.below.size,u.block _ iI.out.b4⟩ (iI.out.bel u) ⟨_,_,a_i (d_P W _) _,by have:=d_P (W.alloc (.cells #[.int .i64 (a_o l0_0 (x.val : Int)).f0,.slice (am x.val) (a_o l0_0 (x.val : Int)).f1.length (cm x.val)] 27)) (.cells #[.int .i64 (a_o l0_0 (x.val : Int)).f0,.int .i64 (c_U l0_0 a0_1 x.val)] 46);rwa [World.size_alloc] at this,rfl⟩
 case body =>
  rintro l pre x a' W hl' _ hI ⟨Bm,Bs,bm,bs,rfl⟩ hlt
  have iI:=a_e.mk hI
  obtain ⟨⟨v,bv,hrow⟩,b1,b4,⟨gcs,ga⟩,hB⟩:=hI
  simp only [momV]
  have hmx:=HMS.out x.val x.isLt
  have hsm : (a_o l0_0 (x.val : Int)).f1.length ≤ 1099511627776:=HM.out _ (by unfold a_o;simp)
  have IF:=a_e.mk (o_z (a_o l0_0 (x.val : Int)).f0 (a_o l0_0 (x.val : Int)).f1 a1 hsm)
  have IW:=a_e.mk (q_7 (a_7 (a_o l0_0 (x.val : Int)).f1 a1).1)
  have iC:=a_e.mk (Kd.b_f hmx.2.2.2 hB)
  have iL:=hmx.2.2.1
  clear hmx hsm
  have c0:=(a_a bm 0).trans rfl
  have c1:=(a_a bm 1).trans rfl
  have c2:=(a_a b1 0).trans rfl
  have iN : ((pre ++ [x]).map (·.val)).foldl (f_c l0_0 a0_1 a1) [] = f_c l0_0 a0_1 a1 ((pre.map (·.val)).foldl (f_c l0_0 a0_1 a1) []) x.val:=by simp
  have hln : ((pre.map (·.val)).foldl (f_c l0_0 a0_1 a1) []).length ≤ pre.length:=by simpa using o_O l0_0 a0_1 a1 (pre.map (·.val)) []
  have hlq : ((pre.map (·.val)).foldl (f_c l0_0 a0_1 a1) []).length ≤ 4398046511104:=by omega
  clear hln
  generalize hn : (pre.map (·.val)).foldl (f_c l0_0 a0_1 a1) [] = acc at hrow iN hlq iI
  clear hn
  have IN:=a_e.mk iN
  have IQ:=a_e.mk hlq
  have iv:=a_e.mk bv
  have i1:=a_e.mk b1
  have ig:=a_e.mk ga
  have is:=a_e.mk bs
  have iB:=a_e.mk hB
  have iR:=a_e.mk hrow
  have i4:=a_e.mk b4
  clear b1 hB bm bs iN hlq hrow bv ga b4
  cases hb : (a_7 (a_o l0_0 (x.val : Int)).f1 a1).2 with
  | false =>
   rw [hb] at IF
   have IH:=a_e.mk hb
   clear hb
   gi_wp2_with (first|(refine ⟨trivial,?_⟩;gi_at_call 29;refine (CallsIn.inRound l (callsIn_wide.2 (d_S.calls _ _ _ _ _ _ _ _ _ _ _ _ _ _ _ _ _ _ iC.out iL IF.out))).mono ?_;rintro e w3 ⟨rfl,hb⟩;have IB3:=a_e.mk hb;skip;clear hb)|(refine ⟨trivial,?_⟩))
   have u:=a_g IB3.out (.cells #[.int .i64 (a_7 (a_o l0_0 (x.val : Int)).f1 a1).1.f0,.int .i64 (a_7 (a_o l0_0 (x.val : Int)).f1 a1).1.f1,.int .i64 (a_7 (a_o l0_0 (x.val : Int)).f1 a1).1.f2,.int .i64 (a_7 (a_o l0_0 (x.val : Int)).f1 a1).1.f3,.int .i64 (a_7 (a_o l0_0 (x.val : Int)).f1 a1).1.f4,.bool (a_7 (a_o l0_0 (x.val : Int)).f1 a1).1.f5,.bool (a_7 (a_o l0_0 (x.val : Int)).f1 a1).1.f6,.int .u32 (a_7 (a_o l0_0 (x.val : Int)).f1 a1).1.f7,.int .i64 (a_7 (a_o l0_0 (x.val : Int)).f1 a1).1.f8,.int .i64 (a_7 (a_o l0_0 (x.val : Int)).f1 a1).1.f9,.int .i64 (a_7 (a_o l0_0 (x.val : Int)).f1 a1).1.f10] 65)
   have e : f_c l0_0 a0_1 a1 acc x.val = acc:=by unfold f_c;rw [IH.out];simp
   exact ⟨c_a u,⟨u.mono iB.out.size,u.block _ i4.out⟩,by show g_6 w w1 a1 _ _;rw [IN.out,e];exact iI.out.bel u⟩
  | true =>
   rw [hb] at IF
   have IH:=a_e.mk hb
   clear hb
   cases hd : n_I (a_7 (a_o l0_0 (x.val : Int)).f1 a1).1 with
   | false =>
    rw [hd] at IW
    have IG:=a_e.mk hd
    clear hd
    gi_wp2_with (first|(refine ⟨trivial,?_⟩;gi_at_call 29;refine (CallsIn.inRound l (callsIn_wide.2 (d_S.calls _ _ _ _ _ _ _ _ _ _ _ _ _ _ _ _ _ _ iC.out iL IF.out))).mono ?_;rintro e w3 ⟨rfl,hb⟩;have IB3:=a_e.mk hb;skip;clear hb)|(refine ⟨trivial,?_⟩;gi_at_call 30;refine (CallsIn.inRound l (callsIn_wide.2 (e_J.calls _ _ _ _ _ _ _ _ _ _ _ _ _ IW.out))).mono ?_;rintro e w4 ⟨rfl,hb⟩;have IB4:=a_e.mk (Below.trans (a_g IB3.out (.cells #[.int .i64 (a_7 (a_o l0_0 (x.val : Int)).f1 a1).1.f0,.int .i64 (a_7 (a_o l0_0 (x.val : Int)).f1 a1).1.f1,.int .i64 (a_7 (a_o l0_0 (x.val : Int)).f1 a1).1.f2,.int .i64 (a_7 (a_o l0_0 (x.val : Int)).f1 a1).1.f3,.int .i64 (a_7 (a_o l0_0 (x.val : Int)).f1 a1).1.f4,.bool (a_7 (a_o l0_0 (x.val : Int)).f1 a1).1.f5,.bool (a_7 (a_o l0_0 (x.val : Int)).f1 a1).1.f6,.int .u32 (a_7 (a_o l0_0 (x.val : Int)).f1 a1).1.f7,.int .i64 (a_7 (a_o l0_0 (x.val : Int)).f1 a1).1.f8,.int .i64 (a_7 (a_o l0_0 (x.val : Int)).f1 a1).1.f9,.int .i64 (a_7 (a_o l0_0 (x.val : Int)).f1 a1).1.f10] 65)) (hb.mono (a_g IB3.out (.cells #[.int .i64 (a_7 (a_o l0_0 (x.val : Int)).f1 a1).1.f0,.int .i64 (a_7 (a_o l0_0 (x.val : Int)).f1 a1).1.f1,.int .i64 (a_7 (a_o l0_0 (x.val : Int)).f1 a1).1.f2,.int .i64 (a_7 (a_o l0_0 (x.val : Int)).f1 a1).1.f3,.int .i64 (a_7 (a_o l0_0 (x.val : Int)).f1 a1).1.f4,.bool (a_7 (a_o l0_0 (x.val : Int)).f1 a1).1.f5,.bool (a_7 (a_o l0_0 (x.val : Int)).f1 a1).1.f6,.int .u32 (a_7 (a_o l0_0 (x.val : Int)).f1 a1).1.f7,.int .i64 (a_7 (a_o l0_0 (x.val : Int)).f1 a1).1.f8,.int .i64 (a_7 (a_o l0_0 (x.val : Int)).f1 a1).1.f9,.int .i64 (a_7 (a_o l0_0 (x.val : Int)).f1 a1).1.f10] 65)).size));clear hb;skip))
    have u:=IB4.out
    have e : f_c l0_0 a0_1 a1 acc x.val = acc:=by unfold f_c;rw [IG.out];simp
    exact ⟨c_a u,⟨u.mono iB.out.size,u.block _ i4.out⟩,by show g_6 w w1 a1 _ _;rw [IN.out,e];exact iI.out.bel u⟩
   | true =>
    rw [hd] at IW
    have IG:=a_e.mk hd
    clear hd
    obtain ⟨i46,hi46,hz46⟩:=Option.map_eq_some_iff.mp v_4
    have H46:=a_e.mk hi46
    have H46z : a_e (i46.zero = some (.agg #[.int .i64 0,.int .i64 0])):=a_e.mk (Prod.mk.inj hz46).1
    have H46s : a_e (i46.size = 2):=a_e.mk (Prod.mk.inj (Prod.mk.inj hz46).2).1
    have H46b : a_e (i46.bytes = 16):=a_e.mk (Prod.mk.inj (Prod.mk.inj hz46).2).2
    clear hi46 hz46
    have hrow:=iR.out
    obtain ⟨A,cap,rfl⟩ : ∃ A cap,v = .slice A acc.length cap:=by
     rcases hrow.2 with ⟨rfl,hz⟩ | ⟨g,cap,cur,rfl,_⟩
     ·exact ⟨_,0,by rw [hz]⟩
     exact ⟨_,cap,rfl⟩
    by_cases hz : acc.length = 0
    ·have hacc : acc = []:=List.eq_nil_of_length_eq_zero hz
     have IA:=a_e.mk hacc
     have AHN:=a_e.mk hz
     rw [hz] at iv iR
     clear hz hacc hrow
     gi_wp2_with (first|(refine ⟨trivial,?_⟩;gi_at_call 29;refine (CallsIn.inRound l (callsIn_wide.2 (d_S.calls _ _ _ _ _ _ _ _ _ _ _ _ _ _ _ _ _ _ iC.out iL IF.out))).mono ?_;rintro e w3 ⟨rfl,hb⟩;have IB3:=a_e.mk hb;skip;clear hb)|(refine ⟨trivial,?_⟩;gi_at_call 30;refine (CallsIn.inRound l (callsIn_wide.2 (e_J.calls _ _ _ _ _ _ _ _ _ _ _ _ _ IW.out))).mono ?_;rintro e w4 ⟨rfl,hb⟩;have IB4:=a_e.mk (Below.trans (a_g IB3.out (.cells #[.int .i64 (a_7 (a_o l0_0 (x.val : Int)).f1 a1).1.f0,.int .i64 (a_7 (a_o l0_0 (x.val : Int)).f1 a1).1.f1,.int .i64 (a_7 (a_o l0_0 (x.val : Int)).f1 a1).1.f2,.int .i64 (a_7 (a_o l0_0 (x.val : Int)).f1 a1).1.f3,.int .i64 (a_7 (a_o l0_0 (x.val : Int)).f1 a1).1.f4,.bool (a_7 (a_o l0_0 (x.val : Int)).f1 a1).1.f5,.bool (a_7 (a_o l0_0 (x.val : Int)).f1 a1).1.f6,.int .u32 (a_7 (a_o l0_0 (x.val : Int)).f1 a1).1.f7,.int .i64 (a_7 (a_o l0_0 (x.val : Int)).f1 a1).1.f8,.int .i64 (a_7 (a_o l0_0 (x.val : Int)).f1 a1).1.f9,.int .i64 (a_7 (a_o l0_0 (x.val : Int)).f1 a1).1.f10] 65)) (hb.mono (a_g IB3.out (.cells #[.int .i64 (a_7 (a_o l0_0 (x.val : Int)).f1 a1).1.f0,.int .i64 (a_7 (a_o l0_0 (x.val : Int)).f1 a1).1.f1,.int .i64 (a_7 (a_o l0_0 (x.val : Int)).f1 a1).1.f2,.int .i64 (a_7 (a_o l0_0 (x.val : Int)).f1 a1).1.f3,.int .i64 (a_7 (a_o l0_0 (x.val : Int)).f1 a1).1.f4,.bool (a_7 (a_o l0_0 (x.val : Int)).f1 a1).1.f5,.bool (a_7 (a_o l0_0 (x.val : Int)).f1 a1).1.f6,.int .u32 (a_7 (a_o l0_0 (x.val : Int)).f1 a1).1.f7,.int .i64 (a_7 (a_o l0_0 (x.val : Int)).f1 a1).1.f8,.int .i64 (a_7 (a_o l0_0 (x.val : Int)).f1 a1).1.f9,.int .i64 (a_7 (a_o l0_0 (x.val : Int)).f1 a1).1.f10] 65)).size));clear hb;have s2:=(a_a (a_l iv.out IB4.out) 0).trans rfl;have y2:=a_N (a_l iv.out IB4.out);have s0 : w4.cell? ⟨Bs,0,none⟩ = some (.int .i64 (a_o l0_0 (x.val : Int)).f0):=(a_a (a_l is.out IB4.out) 0).trans rfl;have s1 : w4.cell? ⟨Bs,1,none⟩ = some (.int .i64 (c_U l0_0 a0_1 x.val)):=(a_a (a_l is.out IB4.out) 1).trans rfl;have y0:=a_N (a_l is.out IB4.out)))
     ·have u:=IB4.out;have e : f_c l0_0 a0_1 a1 acc x.val = acc:=if_neg (fun h => h.2.2 (eq_of_beq (by assumption)));exact ⟨c_a u,⟨u.mono iB.out.size,u.block _ i4.out⟩,by show g_6 w w1 a1 _ _;rw [IN.out,e];exact iI.out.bel u⟩
     generalize (Value.agg #[.int .i64 (a_7 (a_o l0_0 (x.val : Int)).f1 a1).1.f0,.int .i64 (a_7 (a_o l0_0 (x.val : Int)).f1 a1).1.f1,.int .i64 (a_7 (a_o l0_0 (x.val : Int)).f1 a1).1.f2,.int .i64 (a_7 (a_o l0_0 (x.val : Int)).f1 a1).1.f3,.int .i64 (a_7 (a_o l0_0 (x.val : Int)).f1 a1).1.f4,.bool (a_7 (a_o l0_0 (x.val : Int)).f1 a1).1.f5,.bool (a_7 (a_o l0_0 (x.val : Int)).f1 a1).1.f6,.int .u32 (a_7 (a_o l0_0 (x.val : Int)).f1 a1).1.f7,.int .i64 (a_7 (a_o l0_0 (x.val : Int)).f1 a1).1.f8,.int .i64 (a_7 (a_o l0_0 (x.val : Int)).f1 a1).1.f9,.int .i64 (a_7 (a_o l0_0 (x.val : Int)).f1 a1).1.f10]) = X1;have d0 : w4.drew.cell? ⟨Bs,0,none⟩ = some (.int .i64 (a_o l0_0 (x.val : Int)).f0):=s0;have d1 : w4.drew.cell? ⟨Bs,1,none⟩ = some (.int .i64 (c_U l0_0 a0_1 x.val)):=s1;have d2:=(show w4.drew.cell? _ = _ from s2);have y3 : Bs < w4.drew.heap.size:=y0;have y4 : w1.heap.size < w4.drew.heap.size:=y2;have mx : Try.prog.follows .mixedOrders = true:=by kernel_rfl
     refine n_w ?_;apply Exists.intro;apply Exists.intro;refine And.intro ?ra ?ka;(case ra => (gi_region_with_o (fail));all_goals exact ⟨rfl,rfl,rfl⟩)
     gi_wp2_with (gi_at_builtin;refine wpListIn_append_own _ rfl _ _ 41 rfl w.heap.size 46 _ (.agg #[.int .i64 0,.int .i64 0]) 2 16 Try.underlying41 H46.out H46z.out H46s.out H46b.out rfl (by decide) _ _ (f_u acc) rfl ((i_i iR.out (Below.drew IB4.out)).alloc (.cells #[.int .i64 (a_o l0_0 (x.val : Int)).f0,.int .i64 (c_U l0_0 a0_1 x.val)] 46)) ⟨w4.heap.size,0,none⟩ 1 1 [.int .i64 (a_o l0_0 (x.val : Int)).f0,.int .i64 (c_U l0_0 a0_1 x.val)] rfl rfl (o_f w4 _ _ _) (by simp [Value.oneCell']) (by have:=IQ.out;have:=AHN.out;simp only [maxLen];omega) (by have:=IQ.out;have:=AHN.out;omega) (by have h1:=iB.out.size;have h2:=IB4.out.size;exact Nat.le_trans h1 (Nat.le_trans h2 (by show w4.heap.size ≤ (w4.heap.push _).size;simp))) ?_;intro v' w5 hown' hgrow _;obtain ⟨g',cap',rfl⟩:=ownsRow_succ hown';obtain ⟨⟨e1,e2⟩,e3,e4,e5⟩:=n_G (hn:=AHN.out) (tmp:=.cells #[.int .i64 (a_o l0_0 (x.val : Int)).f0,.int .i64 (c_U l0_0 a0_1 x.val)] 46) iI.out hws (Below.drew IB4.out) iv.out iR.out hown' hgrow;have E3:=a_e.mk e3;have E4:=a_e.mk e4;have E5:=a_e.mk e5;clear e3 e4 e5 hown' hgrow)
     have e : f_c l0_0 a0_1 a1 acc x.val = acc ++ [⟨(a_o l0_0 (x.val : Int)).f0,c_U l0_0 a0_1 x.val⟩]:=by unfold f_c;rw [if_pos ⟨IH.out,IG.out,ne_of_beq_false (by assumption)⟩,if_neg (fun h => by have:=h.1;have:=AHN.out;omega)]
     exact ⟨E3.out _,E4.out,by show g_6 w w1 a1 _ _;rw [IN.out,e];exact E5.out⟩
    obtain ⟨m,hm⟩ : ∃ m,acc.length = m + 1:=⟨acc.length - 1,by omega⟩
    obtain ⟨g,rfl⟩ : ∃ g,A = some ⟨g,0,none⟩:=by
     rcases hrow.2 with ⟨_,hz'⟩ | ⟨g,cap,cur,e,_⟩
     ·exact absurd hz' hz
     cases e;exact ⟨_,rfl⟩
    have AHN:=a_e.mk hm
    rw [hm] at iv
    rw [hm] at iR
    clear hz hrow hm
    gi_wp2_with (first|(refine ⟨trivial,?_⟩;gi_at_call 29;refine (CallsIn.inRound l (callsIn_wide.2 (d_S.calls _ _ _ _ _ _ _ _ _ _ _ _ _ _ _ _ _ _ iC.out iL IF.out))).mono ?_;rintro e w3 ⟨rfl,hb⟩;have IB3:=a_e.mk hb;skip;clear hb)|(refine ⟨trivial,?_⟩;gi_at_call 30;refine (CallsIn.inRound l (callsIn_wide.2 (e_J.calls _ _ _ _ _ _ _ _ _ _ _ _ _ IW.out))).mono ?_;rintro e w4 ⟨rfl,hb⟩;have IB4:=a_e.mk (Below.trans (a_g IB3.out (.cells #[.int .i64 (a_7 (a_o l0_0 (x.val : Int)).f1 a1).1.f0,.int .i64 (a_7 (a_o l0_0 (x.val : Int)).f1 a1).1.f1,.int .i64 (a_7 (a_o l0_0 (x.val : Int)).f1 a1).1.f2,.int .i64 (a_7 (a_o l0_0 (x.val : Int)).f1 a1).1.f3,.int .i64 (a_7 (a_o l0_0 (x.val : Int)).f1 a1).1.f4,.bool (a_7 (a_o l0_0 (x.val : Int)).f1 a1).1.f5,.bool (a_7 (a_o l0_0 (x.val : Int)).f1 a1).1.f6,.int .u32 (a_7 (a_o l0_0 (x.val : Int)).f1 a1).1.f7,.int .i64 (a_7 (a_o l0_0 (x.val : Int)).f1 a1).1.f8,.int .i64 (a_7 (a_o l0_0 (x.val : Int)).f1 a1).1.f9,.int .i64 (a_7 (a_o l0_0 (x.val : Int)).f1 a1).1.f10] 65)) (hb.mono (a_g IB3.out (.cells #[.int .i64 (a_7 (a_o l0_0 (x.val : Int)).f1 a1).1.f0,.int .i64 (a_7 (a_o l0_0 (x.val : Int)).f1 a1).1.f1,.int .i64 (a_7 (a_o l0_0 (x.val : Int)).f1 a1).1.f2,.int .i64 (a_7 (a_o l0_0 (x.val : Int)).f1 a1).1.f3,.int .i64 (a_7 (a_o l0_0 (x.val : Int)).f1 a1).1.f4,.bool (a_7 (a_o l0_0 (x.val : Int)).f1 a1).1.f5,.bool (a_7 (a_o l0_0 (x.val : Int)).f1 a1).1.f6,.int .u32 (a_7 (a_o l0_0 (x.val : Int)).f1 a1).1.f7,.int .i64 (a_7 (a_o l0_0 (x.val : Int)).f1 a1).1.f8,.int .i64 (a_7 (a_o l0_0 (x.val : Int)).f1 a1).1.f9,.int .i64 (a_7 (a_o l0_0 (x.val : Int)).f1 a1).1.f10] 65)).size));clear hb;have s2:=(a_a (a_l iv.out IB4.out) 0).trans rfl;have y2:=a_N (a_l iv.out IB4.out);have s0 : w4.cell? ⟨Bs,0,none⟩ = some (.int .i64 (a_o l0_0 (x.val : Int)).f0):=(a_a (a_l is.out IB4.out) 0).trans rfl;have s1 : w4.cell? ⟨Bs,1,none⟩ = some (.int .i64 (c_U l0_0 a0_1 x.val)):=(a_a (a_l is.out IB4.out) 1).trans rfl;have y0:=a_N (a_l is.out IB4.out)))
    ·have u:=IB4.out;have e : f_c l0_0 a0_1 a1 acc x.val = acc:=if_neg (fun h => h.2.2 (eq_of_beq (by assumption)));exact ⟨c_a u,⟨u.mono iB.out.size,u.block _ i4.out⟩,by show g_6 w w1 a1 _ _;rw [IN.out,e];exact iI.out.bel u⟩
    generalize (Value.agg #[.int .i64 (a_7 (a_o l0_0 (x.val : Int)).f1 a1).1.f0,.int .i64 (a_7 (a_o l0_0 (x.val : Int)).f1 a1).1.f1,.int .i64 (a_7 (a_o l0_0 (x.val : Int)).f1 a1).1.f2,.int .i64 (a_7 (a_o l0_0 (x.val : Int)).f1 a1).1.f3,.int .i64 (a_7 (a_o l0_0 (x.val : Int)).f1 a1).1.f4,.bool (a_7 (a_o l0_0 (x.val : Int)).f1 a1).1.f5,.bool (a_7 (a_o l0_0 (x.val : Int)).f1 a1).1.f6,.int .u32 (a_7 (a_o l0_0 (x.val : Int)).f1 a1).1.f7,.int .i64 (a_7 (a_o l0_0 (x.val : Int)).f1 a1).1.f8,.int .i64 (a_7 (a_o l0_0 (x.val : Int)).f1 a1).1.f9,.int .i64 (a_7 (a_o l0_0 (x.val : Int)).f1 a1).1.f10]) = X1;have d0 : w4.drew.cell? ⟨Bs,0,none⟩ = some (.int .i64 (a_o l0_0 (x.val : Int)).f0):=s0;have d1 : w4.drew.cell? ⟨Bs,1,none⟩ = some (.int .i64 (c_U l0_0 a0_1 x.val)):=s1;have d2:=(show w4.drew.cell? _ = _ from s2);have y3 : Bs < w4.drew.heap.size:=y0;have y4 : w1.heap.size < w4.drew.heap.size:=y2;have mx : Try.prog.follows .mixedOrders = true:=by kernel_rfl
    have hoc:=n_K (i_i iR.out (Below.drew IB4.out)) (m * 2 + 1) (by omega)
    rw [(l_D acc m (by rw [AHN.out];omega)).2] at hoc
    have d3:=hoc.1
    have d4:=hoc.2.1
    clear hoc
    have wm : IntKind.i64.wrap (m : Int) = (m : Int):=by have:=IQ.out;have:=AHN.out;rw [IntKind.wrap_i64];omega
    refine n_w ?_;apply Exists.intro;apply Exists.intro;refine And.intro ?rb ?kb;(case rb => (gi_region_with_o (fail));all_goals exact ⟨rfl,rfl,rfl⟩)
    gi_wp2_with (gi_at_builtin;refine wpListIn_append_own _ rfl _ _ 41 rfl w.heap.size 46 _ (.agg #[.int .i64 0,.int .i64 0]) 2 16 Try.underlying41 H46.out H46z.out H46s.out H46b.out rfl (by decide) _ _ (f_u acc) rfl ((i_i iR.out (Below.drew IB4.out)).alloc (.cells #[.int .i64 (a_o l0_0 (x.val : Int)).f0,.int .i64 (c_U l0_0 a0_1 x.val)] 46)) ⟨w4.heap.size,0,none⟩ 1 1 [.int .i64 (a_o l0_0 (x.val : Int)).f0,.int .i64 (c_U l0_0 a0_1 x.val)] rfl rfl (o_f w4 _ _ _) (by simp [Value.oneCell']) (by have:=IQ.out;have:=AHN.out;simp only [maxLen];omega) (by have:=IQ.out;have:=AHN.out;omega) (by have h1:=iB.out.size;have h2:=IB4.out.size;exact Nat.le_trans h1 (Nat.le_trans h2 (by show w4.heap.size ≤ (w4.heap.push _).size;simp))) ?_;intro v' w5 hown' hgrow _;obtain ⟨g',cap',rfl⟩:=ownsRow_succ hown';obtain ⟨⟨e1,e2⟩,e3,e4,e5⟩:=n_G (hn:=AHN.out) (tmp:=.cells #[.int .i64 (a_o l0_0 (x.val : Int)).f0,.int .i64 (c_U l0_0 a0_1 x.val)] 46) iI.out hws (Below.drew IB4.out) iv.out iR.out hown' hgrow;have E3:=a_e.mk e3;have E4:=a_e.mk e4;have E5:=a_e.mk e5;clear e3 e4 e5 hown' hgrow)
    ·have e : f_c l0_0 a0_1 a1 acc x.val = acc.set m ⟨(acc.getD m z46).f0,c_U l0_0 a0_1 x.val⟩:=by unfold f_c;rw [if_pos ⟨IH.out,IG.out,ne_of_beq_false (by assumption)⟩,AHN.out,if_pos ⟨Nat.succ_pos m,eq_of_beq (by assumption)⟩];rfl
     obtain ⟨k1,k2,k3⟩:=q_U iI.out hws (Below.drew IB4.out) iv.out iR.out AHN.out (c_U l0_0 a0_1 x.val)
     exact ⟨k1 _,k2,by show g_6 w w1 a1 _ _;rw [IN.out,e];exact k3⟩
    have e : f_c l0_0 a0_1 a1 acc x.val = acc ++ [⟨(a_o l0_0 (x.val : Int)).f0,c_U l0_0 a0_1 x.val⟩]:=by unfold f_c;rw [if_pos ⟨IH.out,IG.out,ne_of_beq_false (by assumption)⟩,AHN.out,if_neg (fun h => ne_of_beq_false (by assumption) h.2)]
    exact ⟨E3.out _,E4.out,by show g_6 w w1 a1 _ _;rw [IN.out,e];exact E5.out⟩
 case done =>
  rintro D ys W hD rfl hI hK
  obtain ⟨⟨v,bv,hrow⟩,b1,b4,⟨gcs,ga⟩,hB⟩:=hI
  have hv : ((List.finRange l0_0.length).map (·.val)).foldl (f_c l0_0 a0_1 a1) [] = (List.range l0_0.length).foldl (f_c l0_0 a0_1 a1) []:=by
   congr 1
   apply List.ext_getElem
   ·simp
   intro i h1 h2;simp
  rw [hv] at hrow
  have c0 : W.cell? ⟨w1.heap.size,0,none⟩ = some v:=(a_a bv 0).trans rfl
  clear bv b1 b4 ga hv
  gi_wp2
  refine ⟨by simp,.inl ⟨_,_,rfl,run_takeDeferred hK,?_⟩⟩
  exact ⟨.tuple #[v,.int .i64 0],by simp [results,Try.results17,go_sem],v,rfl,w_d (ownsRow_putObj hrow _ hK rfl),hB.trans (belowK_b (w:=w) (Nat.le_refl _) W D _ _ (by have:=nB.out.size;omega) hK rfl rfl)⟩
 case stop =>
  rintro D c pre W _ _ h _
  exact h.elim
set_option maxHeartbeats 2000000 in
theorem b_6.errs (k : Nat) (A0_0 : Option Addr) (c0_0 : Nat) (l0_0 : List S27) (a0_1 a1 : Int) (e : Int) (w : World) (hr0_0 : Kd.C k27 w A0_0 l0_0.length l0_0) (hc0_0 : l0_0.length ≤ c0_0) (he : a_A.f k l0_0 a0_1 = some e) (h1 : e ≠ 0) :
 Calls Try.prog 17 #[.agg #[.slice A0_0 l0_0.length c0_0,.int .i64 a0_1],.int .i64 a1] w fun e' w' => e' = .returned (.tuple #[.slice none 0 0,.int .i64 e]) ∧ Below w.heap.size w w':=by
 have HR:=a_e.mk hr0_0
 have HE:=a_e.mk he
 clear hr0_0 he
 have qB:=a_e.mk (a_g (a_g (Below.refl w.heap.size w) (.cells #[.slice A0_0 l0_0.length c0_0,.int .i64 a0_1] 24)) (.cells #[.int .i64 a1] 3))
 have g0 : (e != 0) = true:=bne_iff_ne.mpr h1
 clear h1
 go_enter Try.func17,Try.ntmps17
 go_wp2_with (go_at_call 14;refine (a_A.calls k _ _ l0_0 a0_1 e _ ?s1 hc0_0 HE.out).mono ?_;(case s1 => exact Kd.b_f HR.out qB.out);rintro e w1 ⟨rfl,hb⟩;have HB:=a_e.mk (a_t qB.out hb);clear hb)
 go_ret2
 exact ⟨rfl,HB.out⟩
theorem b_6.calls (k : Nat) (A0_0 : Option Addr) (c0_0 : Nat) (l0_0 : List S27) (a0_1 a1 : Int) (r1 : List S46) (r2 : Int) (w : World) (hr0_0 : Kd.C k27 w A0_0 l0_0.length l0_0) (hc0_0 : l0_0.length ≤ c0_0) (h : b_6.f k l0_0 a0_1 a1 = some (r1,r2)) :
 Calls Try.prog 17 #[.agg #[.slice A0_0 l0_0.length c0_0,.int .i64 a0_1],.int .i64 a1] w fun e w' => ∃ v0_ : Value,e = .returned (.tuple #[v0_,.int .i64 r2]) ∧ Kd.R k46 46 w' w.heap.size (fun _ => True) v0_ r1 ∧ Below w.heap.size w w':=by
 obtain ⟨e,he,h⟩:=Option.bind_eq_some_iff.mp h
 by_cases h0 : e = 0
 ·rw [if_pos h0] at h
  subst h0
  by_cases h4 : l0_0.length ≤ 4398046511104 ∧ ∀ m ∈ l0_0,m.f1.length ≤ 1099511627776
  ·rw [if_pos h4] at h;cases h
   exact b_6.sums k A0_0 c0_0 l0_0 a0_1 a1 w hr0_0 hc0_0 he h4.1 h4.2
  rw [if_neg h4] at h;cases h
 rw [if_neg h0] at h;cases h
 exact (b_6.errs k A0_0 c0_0 l0_0 a0_1 a1 _ w hr0_0 hc0_0 he h0).mono (by
  rintro e w' ⟨rfl,hb⟩
  exact ⟨_,rfl,w_d (xs:=[]) (l_U _ _ _ _),hb⟩)
end
end Go.Proofs.Ytgglkfilkagblaa.Q
end
section
namespace Go.Proofs.Ytgglkfilkagblaa.Q
open Go.RowKit Go.Proofs.YtgglkfilkagblaaW.PrintWords Go.Proofs.YtgglkfilkagblaaW.PrintLast Go.Proofs.YtgglkfilkagblaaW.PrintMore
set_option linter.unusedVariables false
set_option linter.unusedSimpArgs false
section
def b_w.f  : Option (Int × (List (S65))):=some (0,(([(⟨1,1,0,0,0,true,false,3,256,2,50⟩ : S65),(⟨2,1,0,0,(-1),true,false,3,256,2,50⟩ : S65)] : List (S65))))
theorem r_0 {W : World} {base g : Nat} (x y : S65) {cs : List Value} (hc : cs = [.int .i64 x.f0,.int .i64 x.f1,.int .i64 x.f2,.int .i64 x.f3,.int .i64 x.f4,.bool x.f5,.bool x.f6,.int .u32 x.f7,.int .i64 x.f8,.int .i64 x.f9,.int .i64 x.f10] ++ [.int .i64 y.f0,.int .i64 y.f1,.int .i64 y.f2,.int .i64 y.f3,.int .i64 y.f4,.bool y.f5,.bool y.f6,.int .u32 y.f7,.int .i64 y.f8,.int .i64 y.f9,.int .i64 y.f10])
 (h : W.heap[g]? = some (.cells cs.toArray 65 (0,0))) (hb : base ≤ g) : Kd.R k65 65 W base (fun _ => True) (.slice (some ⟨g,0,none⟩) 2 2) [x,y]:=by
 subst hc
 refine ⟨fun _ _ => trivial,_,⟨rfl,.inr ⟨g,2,_,rfl,hb,h,Nat.le_refl _,by decide,rfl,rfl⟩⟩,?_⟩
 exact ((Reps.none (k65.M W base (fun _ => True)) 11).snoc (p:=x) (o_p _ _ _ x) rfl).snoc (p:=y) (o_p _ _ _ y) rfl
set_option maxHeartbeats 1000000 in
set_option maxRecDepth 100000 in
theorem b_w.calls (r1 : Int) (r2 : List (S65)) (w : World) (h : b_w.f  = some (r1,r2)) :
 Calls Try.prog 22 #[] w fun e w' => ∃ v1_ : Value,e = .returned (.agg #[.int .i64 r1,v1_]) ∧ Kd.R k65 65 w' w.heap.size (fun _ => True) v1_ r2 ∧ Below w.heap.size w w':=by
 cases h
 have hu27_:=Try.underlying27
 have hu65_:=Try.underlying65
 go_enter Try.func22,Try.ntmps22
 go_wp2
 refine bodyPost_ret (results_cell_row rfl _ _ w.heap.size 27 #[.int .i64 0,.slice (some ⟨w.heap.size + 1 + 1 + 1,0,none⟩) 2 2] (0,0) _ rfl (a_i (a_i (a_i (d_P w _) _) _) _) Try.underlying27 rfl (by kernel_rfl)) rfl ?_
 refine ⟨_,rfl,r_0 _ _ rfl (by
  have:=d_P (((w.alloc (.cells #[.int .i64 0,.slice (some ⟨w.heap.size + 1 + 1 + 1,0,none⟩) 2 2] 27)).alloc (.cells #[.int .i64 1,.int .i64 1,.int .i64 0,.int .i64 0,.int .i64 0,.bool true,.bool false,.int .u32 3,.int .i64 256,.int .i64 2,.int .i64 50] 65)).alloc (.cells #[.int .i64 2,.int .i64 1,.int .i64 0,.int .i64 0,.int .i64 (-1),.bool true,.bool false,.int .u32 3,.int .i64 256,.int .i64 2,.int .i64 50] 65)) (.cells #[.int .i64 1,.int .i64 1,.int .i64 0,.int .i64 0,.int .i64 0,.bool true,.bool false,.int .u32 3,.int .i64 256,.int .i64 2,.int .i64 50,.int .i64 2,.int .i64 1,.int .i64 0,.int .i64 0,.int .i64 (-1),.bool true,.bool false,.int .u32 3,.int .i64 256,.int .i64 2,.int .i64 50] 65)
  simp only [World.size_alloc] at this
  exact this) (by omega),a_g (a_g (a_g (a_g (Below.refl _ _) _) _) _) _⟩
end
end Go.Proofs.Ytgglkfilkagblaa.Q
end
section
namespace Go.Proofs.Ytgglkfilkagblaa.Q
open Go.RowKit Go.Proofs.YtgglkfilkagblaaW.PrintWords Go.Proofs.YtgglkfilkagblaaW.PrintLast Go.Proofs.YtgglkfilkagblaaW.PrintMore
set_option linter.unusedVariables false
set_option linter.unusedSimpArgs false
def f_Y.f (a0 : Int) : Option (Int):=if a0 < 0 then (some 0) else (if a0 ≥ 8 then (some 0) else (if 0 ≤ a0 then (some (shl .u32 1 a0)) else (none)))
set_option maxHeartbeats 8000000 in
set_option maxRecDepth 100000 in
theorem f_Y.calls (a0 : Int) (r : Int) (w : World) (h : f_Y.f a0 = some r) :
 Calls Try.prog 79 #[.int .i64 a0] w fun e w' => e = .returned (.int .u32 r) ∧ c_g w w':=by
 have H : (if a0 < 0 then (some 0) else (if a0 ≥ 8 then (some 0) else (if 0 ≤ a0 then (some (shl .u32 1 a0)) else (none)))) = some r:=h
 clear h
 by_cases c2 : a0 < 0
 ·rw [if_pos c2] at H
  have c2b0 : decide (a0 < 0) = true:=decide_eq_true c2
  clear c2
  obtain rfl:=Option.some.inj H
  go_enter Try.func79,Try.ntmps79
  go_wp2
  go_ret
  exact ⟨by first|rfl|(simp;done)|(simp [*];done),by repeat (first|exact c_g.refl _|apply c_g.step)⟩
 rw [if_neg c2] at H
 have c2b0 : decide (a0 < 0) = false:=decide_eq_false c2
 clear c2
 by_cases c3 : a0 ≥ 8
 ·rw [if_pos c3] at H
  have c3b0 : decide (8 ≤ a0) = true:=decide_eq_true c3
  clear c3
  obtain rfl:=Option.some.inj H
  go_enter Try.func79,Try.ntmps79
  go_wp2
  go_ret
  exact ⟨by first|rfl|(simp;done)|(simp [*];done),by repeat (first|exact c_g.refl _|apply c_g.step)⟩
 rw [if_neg c3] at H
 have c3b0 : decide (8 ≤ a0) = false:=decide_eq_false c3
 clear c3
 by_cases c4 : 0 ≤ a0
 rotate_left
 ·rw [if_neg c4] at H
  exact absurd H (by simp)
 rw [if_pos c4] at H
 have c4b0:=eq_true c4
 have c4b1 : decide (0 ≤ a0) = true:=decide_eq_true c4
 clear c4
 obtain ⟨ji5,hji5⟩ : ∃ j_ : Int,(shl .u32 1 a0) = j_:=⟨_,rfl⟩
 replace H : (some ji5) = some r:=by first|(rw [hji5] at H;exact H)|(simp only [hji5] at H ⊢; exact H)
 have hji5_ : (IntKind.u32.wrap (1 * 2 ^ min a0.toNat 32)) = ji5:=hji5
 have hji5z : a0 ≤ 32 → (IntKind.u32.wrap (1 * 2 ^ a0.toNat)) = ji5:=l_L hji5
 have hji5u : (IntKind.u32.wrap (2 ^ min a0.toNat 32)) = ji5:=by have h_:=hji5_;rw [Int.one_mul] at h_;exact h_
 have hji5v : a0 ≤ 32 → (IntKind.u32.wrap (2 ^ a0.toNat)) = ji5:=fun hle_ => by have h_:=hji5z hle_;rw [Int.one_mul] at h_;exact h_
 obtain rfl:=Option.some.inj H
 go_enter Try.func79,Try.ntmps79
 go_wp2
 go_ret
 exact ⟨by first|rfl|(simp;done)|(simp only [← hji5] <;> (first|rfl|simp))|(simp [*];done),by repeat (first|exact c_g.refl _|apply c_g.step)⟩
end Go.Proofs.Ytgglkfilkagblaa.Q
end
section
namespace Go.Proofs.Ytgglkfilkagblaa.Q
open Go.RowKit Go.Proofs.YtgglkfilkagblaaW.PrintWords Go.Proofs.YtgglkfilkagblaaW.PrintLast Go.Proofs.YtgglkfilkagblaaW.PrintMore
set_option linter.unusedVariables false
set_option linter.unusedSimpArgs false
def c_d.f (a0 : Int) (a1 : Int) : Option (Bool):=(f_Y.f a1).bind fun t159 => (some ((Go.bits .and .u32 a0 t159) != 0))
set_option maxHeartbeats 8000000 in
set_option maxRecDepth 100000 in
theorem c_d.calls (a0 : Int) (a1 : Int) (r : Bool) (w : World) (h : c_d.f a0 a1 = some r) :
 Calls Try.prog 50 #[.int .u32 a0,.int .i64 a1] w fun e w' => e = .returned (.bool r) ∧ c_g w w':=by
 have H : ((f_Y.f a1).bind fun t159 => (some ((Go.bits .and .u32 a0 t159) != 0))) = some r:=h
 clear h
 replace H:=Option.bind_eq_some_iff.mp H
 obtain ⟨t159,A30,H⟩:=H
 replace H : (some ((Go.bits .and .u32 a0 t159) != 0)) = some r:=H
 have A3:=a_e.mk A30
 clear A30
 obtain rfl:=Option.some.inj H
 go_enter Try.func50,Try.ntmps50
 go_wp2_with (first|((with_reducible refine a_P (f:=79) rfl ?_);refine b_v (some 7) rfl rfl Try.func79 (by kernel_rfl) rfl #[.int .i64 a1] rfl (by (try simp only [List.map_toArray,List.map_cons,List.map_nil]);first|done|rfl|(simp only [List.length_drop,List.length_take];rfl)) ?_;(with_reducible refine (f_Y.calls a1 t159 _ A3.out).mono ?_);rintro e w' ⟨rfl,⟨nd,rfl⟩⟩;refine ⟨_,rfl,?_⟩))
 go_ret
 exact ⟨by first|rfl|(simp;done)|(simp [*];done),by repeat (first|exact c_g.refl _|apply c_g.step)⟩
end Go.Proofs.Ytgglkfilkagblaa.Q
end
