/- Part 7 of 14 of what the row of AuditAdds stands on: contracts over the given program's functions, the plain law, the row; no condition beyond those that each theorem states. -/
import Derived.Test.YtgglkfilkagblaaXAuditAdds5
section
namespace Go.Proofs.Ytgglkfilkagblaa.Q
open Go.RowKit Go.Proofs.YtgglkfilkagblaaW.PrintWords Go.Proofs.YtgglkfilkagblaaW.PrintLast Go.Proofs.YtgglkfilkagblaaW.PrintMore
set_option linter.unusedVariables false
set_option linter.unusedSimpArgs false
def b_I.f (a0_0 : Int) (a0_1 : Int) (a0_2 : Int) (a0_3 : Int) (a0_4 : Int) (a0_5 : Bool) (a0_6 : Bool) (a0_7 : Int) (a0_8 : Int) (a0_9 : Int) (a0_10 : Int) : Option (Bool):=if a0_0 < 1 then (some false) else (if a0_0 > 16 then (some false) else (if a0_1 < 1 then (some false) else (if a0_1 > 8 then (some false) else (if a0_2 < 0 then (some false) else (if a0_2 > 8 then (some false) else (if a0_3 < 0 then (some false) else (if a0_3 > 3 then (some false) else (if a0_4 < (-1) then (some false) else (if a0_4 > 7 then (some false) else ((b_t.f a0_7).bind fun t211 => (if t211 = true then (if a0_8 ≥ 1 then (if a0_8 ≤ 65535 then (if a0_9 ≥ 1 then (if a0_9 ≤ 8 then (if a0_10 ≥ 0 then (some (decide (a0_10 ≤ 800))) else (some false)) else (some false)) else (some false)) else (some false)) else (some false)) else (some false))))))))))))
set_option maxHeartbeats 8000000 in
set_option maxRecDepth 100000 in
theorem b_I.calls (a0_0 : Int) (a0_1 : Int) (a0_2 : Int) (a0_3 : Int) (a0_4 : Int) (a0_5 : Bool) (a0_6 : Bool) (a0_7 : Int) (a0_8 : Int) (a0_9 : Int) (a0_10 : Int) (r : Bool) (w : World) (h : b_I.f a0_0 a0_1 a0_2 a0_3 a0_4 a0_5 a0_6 a0_7 a0_8 a0_9 a0_10 = some r) :
 Calls Try.prog 54 #[.agg #[.int .i64 a0_0,.int .i64 a0_1,.int .i64 a0_2,.int .i64 a0_3,.int .i64 a0_4,.bool a0_5,.bool a0_6,.int .u32 a0_7,.int .i64 a0_8,.int .i64 a0_9,.int .i64 a0_10]] w fun e w' => e = .returned (.bool r) ∧ Below w.heap.size w w':=by
 have hu65:=Try.underlying65
 have HB:=a_e.mk (Below.refl w.heap.size w)
 have H : (if a0_0 < 1 then (some false) else (if a0_0 > 16 then (some false) else (if a0_1 < 1 then (some false) else (if a0_1 > 8 then (some false) else (if a0_2 < 0 then (some false) else (if a0_2 > 8 then (some false) else (if a0_3 < 0 then (some false) else (if a0_3 > 3 then (some false) else (if a0_4 < (-1) then (some false) else (if a0_4 > 7 then (some false) else ((b_t.f a0_7).bind fun t211 => (if t211 = true then (if a0_8 ≥ 1 then (if a0_8 ≤ 65535 then (if a0_9 ≥ 1 then (if a0_9 ≤ 8 then (if a0_10 ≥ 0 then (some (decide (a0_10 ≤ 800))) else (some false)) else (some false)) else (some false)) else (some false)) else (some false)) else (some false))))))))))))) = some r:=h
 clear h
 by_cases c2 : a0_0 < 1
 ·rw [if_pos c2] at H
  have c2b0 : decide (a0_0 < 1) = true:=decide_eq_true c2
  clear c2
  obtain rfl:=Option.some.inj H
  go_enter Try.func54,Try.ntmps54
  go_wp2_with (first|((with_reducible refine a_U (N:=1) rfl ?_);refine a_H ?hg (N:=1) ?hd (cs:=#[.int .i64 a0_0,.int .i64 a0_1,.int .i64 a0_2,.int .i64 a0_3,.int .i64 a0_4,.bool a0_5,.bool a0_6,.int .u32 a0_7,.int .i64 a0_8,.int .i64 a0_9,.int .i64 a0_10]) (t:=65) ?hr ?_;(case hd => rfl);(case hg => rfl);(case hr => first|(go_simp;done)|(go_simp;rfl));intro a_V hg w3 hbox hb;have a_E:=a_e.mk (hbox);have g_Y:=a_e.mk ((by rw [hg];exact (a_p (lup_ HB.out)) : w.heap.size ≤ a_V));have e_B:=a_e.mk ((by rw [hg];exact (a_p (lup_ HB.out)) : w.heap.size ≤ a_V));replace HB:=a_e.mk (a_t (lup_ HB.out) hb);clear hb hbox hg;have r_S : w3.cell? ⟨a_V,0,none⟩ = some (.int .i64 a0_0):=(a_a a_E.out 0).trans rfl;have r_T : w3.cell? ⟨a_V,1,none⟩ = some (.int .i64 a0_1):=(a_a a_E.out 1).trans rfl;have J_j : w3.cell? ⟨a_V,2,none⟩ = some (.int .i64 a0_2):=(a_a a_E.out 2).trans rfl;have J_k : w3.cell? ⟨a_V,3,none⟩ = some (.int .i64 a0_3):=(a_a a_E.out 3).trans rfl;have J_l : w3.cell? ⟨a_V,4,none⟩ = some (.int .i64 a0_4):=(a_a a_E.out 4).trans rfl;have J_m : w3.cell? ⟨a_V,5,none⟩ = some (.bool a0_5):=(a_a a_E.out 5).trans rfl;have J_n : w3.cell? ⟨a_V,6,none⟩ = some (.bool a0_6):=(a_a a_E.out 6).trans rfl;have J_o : w3.cell? ⟨a_V,7,none⟩ = some (.int .u32 a0_7):=(a_a a_E.out 7).trans rfl;have J_p : w3.cell? ⟨a_V,8,none⟩ = some (.int .i64 a0_8):=(a_a a_E.out 8).trans rfl;have J_q : w3.cell? ⟨a_V,9,none⟩ = some (.int .i64 a0_9):=(a_a a_E.out 9).trans rfl;have B_D : w3.cell? ⟨a_V,10,none⟩ = some (.int .i64 a0_10):=(a_a a_E.out 10).trans rfl;have r_U:=a_b a_E.out 0;have r_V:=a_b a_E.out 1;have J_r:=a_b a_E.out 2;have J_s:=a_b a_E.out 3;have J_t:=a_b a_E.out 4;have J_u:=a_b a_E.out 5;have J_v:=a_b a_E.out 6;have J_w:=a_b a_E.out 7;have J_x:=a_b a_E.out 8;have J_y:=a_b a_E.out 9;have B_E:=a_b a_E.out 10))
  go_ret
  exact ⟨by first|rfl|(simp [a_w,a_x] <;> rfl)|(simp [*, a_w,a_x] <;> rfl),by repeat (first|(with_reducible first|exact HB.out|apply a_g|apply a_f|apply a_h|refine a_d ?_ e_B.out)|exact HB.out)⟩
 rw [if_neg c2] at H
 have c2b0 : decide (a0_0 < 1) = false:=decide_eq_false c2
 clear c2
 by_cases c5 : a0_0 > 16
 ·rw [if_pos c5] at H
  have c5b0 : decide (16 < a0_0) = true:=decide_eq_true c5
  clear c5
  obtain rfl:=Option.some.inj H
  go_enter Try.func54,Try.ntmps54
  go_wp2_with (first|((with_reducible refine a_U (N:=1) rfl ?_);refine a_H ?hg (N:=1) ?hd (cs:=#[.int .i64 a0_0,.int .i64 a0_1,.int .i64 a0_2,.int .i64 a0_3,.int .i64 a0_4,.bool a0_5,.bool a0_6,.int .u32 a0_7,.int .i64 a0_8,.int .i64 a0_9,.int .i64 a0_10]) (t:=65) ?hr ?_;(case hd => rfl);(case hg => rfl);(case hr => first|(go_simp;done)|(go_simp;rfl));intro a_V hg w6 hbox hb;have a_E:=a_e.mk (hbox);have g_Y:=a_e.mk ((by rw [hg];exact (a_p (lup_ HB.out)) : w.heap.size ≤ a_V));have e_B:=a_e.mk ((by rw [hg];exact (a_p (lup_ HB.out)) : w.heap.size ≤ a_V));replace HB:=a_e.mk (a_t (lup_ HB.out) hb);clear hb hbox hg;have h_R : w6.cell? ⟨a_V,0,none⟩ = some (.int .i64 a0_0):=(a_a a_E.out 0).trans rfl;have h_S : w6.cell? ⟨a_V,1,none⟩ = some (.int .i64 a0_1):=(a_a a_E.out 1).trans rfl;have J_z : w6.cell? ⟨a_V,2,none⟩ = some (.int .i64 a0_2):=(a_a a_E.out 2).trans rfl;have J_A : w6.cell? ⟨a_V,3,none⟩ = some (.int .i64 a0_3):=(a_a a_E.out 3).trans rfl;have J_B : w6.cell? ⟨a_V,4,none⟩ = some (.int .i64 a0_4):=(a_a a_E.out 4).trans rfl;have J_C : w6.cell? ⟨a_V,5,none⟩ = some (.bool a0_5):=(a_a a_E.out 5).trans rfl;have J_D : w6.cell? ⟨a_V,6,none⟩ = some (.bool a0_6):=(a_a a_E.out 6).trans rfl;have J_E : w6.cell? ⟨a_V,7,none⟩ = some (.int .u32 a0_7):=(a_a a_E.out 7).trans rfl;have J_F : w6.cell? ⟨a_V,8,none⟩ = some (.int .i64 a0_8):=(a_a a_E.out 8).trans rfl;have J_G : w6.cell? ⟨a_V,9,none⟩ = some (.int .i64 a0_9):=(a_a a_E.out 9).trans rfl;have B_F : w6.cell? ⟨a_V,10,none⟩ = some (.int .i64 a0_10):=(a_a a_E.out 10).trans rfl;have h_T:=a_b a_E.out 0;have h_U:=a_b a_E.out 1;have J_H:=a_b a_E.out 2;have J_I:=a_b a_E.out 3;have J_J:=a_b a_E.out 4;have J_K:=a_b a_E.out 5;have J_L:=a_b a_E.out 6;have J_M:=a_b a_E.out 7;have J_N:=a_b a_E.out 8;have J_O:=a_b a_E.out 9;have B_G:=a_b a_E.out 10))
  go_ret
  exact ⟨by first|rfl|(simp [a_w,a_x] <;> rfl)|(simp [*, a_w,a_x] <;> rfl),by repeat (first|(with_reducible first|exact HB.out|apply a_g|apply a_f|apply a_h|refine a_d ?_ e_B.out)|exact HB.out)⟩
 rw [if_neg c5] at H
 have c5b0 : decide (16 < a0_0) = false:=decide_eq_false c5
 clear c5
 by_cases c8 : a0_1 < 1
 ·rw [if_pos c8] at H
  have c8b0 : decide (a0_1 < 1) = true:=decide_eq_true c8
  clear c8
  obtain rfl:=Option.some.inj H
  go_enter Try.func54,Try.ntmps54
  go_wp2_with (first|((with_reducible refine a_U (N:=1) rfl ?_);refine a_H ?hg (N:=1) ?hd (cs:=#[.int .i64 a0_0,.int .i64 a0_1,.int .i64 a0_2,.int .i64 a0_3,.int .i64 a0_4,.bool a0_5,.bool a0_6,.int .u32 a0_7,.int .i64 a0_8,.int .i64 a0_9,.int .i64 a0_10]) (t:=65) ?hr ?_;(case hd => rfl);(case hg => rfl);(case hr => first|(go_simp;done)|(go_simp;rfl));intro a_V hg w9 hbox hb;have a_E:=a_e.mk (hbox);have g_Y:=a_e.mk ((by rw [hg];exact (a_p (lup_ HB.out)) : w.heap.size ≤ a_V));have e_B:=a_e.mk ((by rw [hg];exact (a_p (lup_ HB.out)) : w.heap.size ≤ a_V));replace HB:=a_e.mk (a_t (lup_ HB.out) hb);clear hb hbox hg;have i_s : w9.cell? ⟨a_V,0,none⟩ = some (.int .i64 a0_0):=(a_a a_E.out 0).trans rfl;have i_t : w9.cell? ⟨a_V,1,none⟩ = some (.int .i64 a0_1):=(a_a a_E.out 1).trans rfl;have t_z : w9.cell? ⟨a_V,2,none⟩ = some (.int .i64 a0_2):=(a_a a_E.out 2).trans rfl;have t_A : w9.cell? ⟨a_V,3,none⟩ = some (.int .i64 a0_3):=(a_a a_E.out 3).trans rfl;have t_B : w9.cell? ⟨a_V,4,none⟩ = some (.int .i64 a0_4):=(a_a a_E.out 4).trans rfl;have t_C : w9.cell? ⟨a_V,5,none⟩ = some (.bool a0_5):=(a_a a_E.out 5).trans rfl;have t_D : w9.cell? ⟨a_V,6,none⟩ = some (.bool a0_6):=(a_a a_E.out 6).trans rfl;have t_E : w9.cell? ⟨a_V,7,none⟩ = some (.int .u32 a0_7):=(a_a a_E.out 7).trans rfl;have t_F : w9.cell? ⟨a_V,8,none⟩ = some (.int .i64 a0_8):=(a_a a_E.out 8).trans rfl;have t_G : w9.cell? ⟨a_V,9,none⟩ = some (.int .i64 a0_9):=(a_a a_E.out 9).trans rfl;have r_u : w9.cell? ⟨a_V,10,none⟩ = some (.int .i64 a0_10):=(a_a a_E.out 10).trans rfl;have i_u:=a_b a_E.out 0;have i_v:=a_b a_E.out 1;have t_H:=a_b a_E.out 2;have t_I:=a_b a_E.out 3;have t_J:=a_b a_E.out 4;have t_K:=a_b a_E.out 5;have t_L:=a_b a_E.out 6;have t_M:=a_b a_E.out 7;have t_N:=a_b a_E.out 8;have t_O:=a_b a_E.out 9;have r_v:=a_b a_E.out 10))
  go_ret
  exact ⟨by first|rfl|(simp [a_w,a_x] <;> rfl)|(simp [*, a_w,a_x] <;> rfl),by repeat (first|(with_reducible first|exact HB.out|apply a_g|apply a_f|apply a_h|refine a_d ?_ e_B.out)|exact HB.out)⟩
 rw [if_neg c8] at H
 have c8b0 : decide (a0_1 < 1) = false:=decide_eq_false c8
 clear c8
 by_cases c11 : a0_1 > 8
 ·rw [if_pos c11] at H
  have c11b0 : decide (8 < a0_1) = true:=decide_eq_true c11
  clear c11
  obtain rfl:=Option.some.inj H
  go_enter Try.func54,Try.ntmps54
  go_wp2_with (first|((with_reducible refine a_U (N:=1) rfl ?_);refine a_H ?hg (N:=1) ?hd (cs:=#[.int .i64 a0_0,.int .i64 a0_1,.int .i64 a0_2,.int .i64 a0_3,.int .i64 a0_4,.bool a0_5,.bool a0_6,.int .u32 a0_7,.int .i64 a0_8,.int .i64 a0_9,.int .i64 a0_10]) (t:=65) ?hr ?_;(case hd => rfl);(case hg => rfl);(case hr => first|(go_simp;done)|(go_simp;rfl));intro a_V hg w12 hbox hb;have a_E:=a_e.mk (hbox);have g_Y:=a_e.mk ((by rw [hg];exact (a_p (lup_ HB.out)) : w.heap.size ≤ a_V));have e_B:=a_e.mk ((by rw [hg];exact (a_p (lup_ HB.out)) : w.heap.size ≤ a_V));replace HB:=a_e.mk (a_t (lup_ HB.out) hb);clear hb hbox hg;have g_d : w12.cell? ⟨a_V,0,none⟩ = some (.int .i64 a0_0):=(a_a a_E.out 0).trans rfl;have g_e : w12.cell? ⟨a_V,1,none⟩ = some (.int .i64 a0_1):=(a_a a_E.out 1).trans rfl;have l_3 : w12.cell? ⟨a_V,2,none⟩ = some (.int .i64 a0_2):=(a_a a_E.out 2).trans rfl;have l_4 : w12.cell? ⟨a_V,3,none⟩ = some (.int .i64 a0_3):=(a_a a_E.out 3).trans rfl;have l_5 : w12.cell? ⟨a_V,4,none⟩ = some (.int .i64 a0_4):=(a_a a_E.out 4).trans rfl;have l_6 : w12.cell? ⟨a_V,5,none⟩ = some (.bool a0_5):=(a_a a_E.out 5).trans rfl;have l_7 : w12.cell? ⟨a_V,6,none⟩ = some (.bool a0_6):=(a_a a_E.out 6).trans rfl;have l_8 : w12.cell? ⟨a_V,7,none⟩ = some (.int .u32 a0_7):=(a_a a_E.out 7).trans rfl;have l_9 : w12.cell? ⟨a_V,8,none⟩ = some (.int .i64 a0_8):=(a_a a_E.out 8).trans rfl;have m_a : w12.cell? ⟨a_V,9,none⟩ = some (.int .i64 a0_9):=(a_a a_E.out 9).trans rfl;have k_N : w12.cell? ⟨a_V,10,none⟩ = some (.int .i64 a0_10):=(a_a a_E.out 10).trans rfl;have g_f:=a_b a_E.out 0;have g_g:=a_b a_E.out 1;have m_b:=a_b a_E.out 2;have m_c:=a_b a_E.out 3;have m_d:=a_b a_E.out 4;have m_e:=a_b a_E.out 5;have m_f:=a_b a_E.out 6;have m_g:=a_b a_E.out 7;have m_h:=a_b a_E.out 8;have m_i:=a_b a_E.out 9;have k_O:=a_b a_E.out 10))
  go_ret
  exact ⟨by first|rfl|(simp [a_w,a_x] <;> rfl)|(simp [*, a_w,a_x] <;> rfl),by repeat (first|(with_reducible first|exact HB.out|apply a_g|apply a_f|apply a_h|refine a_d ?_ e_B.out)|exact HB.out)⟩
 rw [if_neg c11] at H
 have c11b0 : decide (8 < a0_1) = false:=decide_eq_false c11
 clear c11
 by_cases c14 : a0_2 < 0
 ·rw [if_pos c14] at H
  have c14b0 : decide (a0_2 < 0) = true:=decide_eq_true c14
  clear c14
  obtain rfl:=Option.some.inj H
  go_enter Try.func54,Try.ntmps54
  go_wp2_with (first|((with_reducible refine a_U (N:=1) rfl ?_);refine a_H ?hg (N:=1) ?hd (cs:=#[.int .i64 a0_0,.int .i64 a0_1,.int .i64 a0_2,.int .i64 a0_3,.int .i64 a0_4,.bool a0_5,.bool a0_6,.int .u32 a0_7,.int .i64 a0_8,.int .i64 a0_9,.int .i64 a0_10]) (t:=65) ?hr ?_;(case hd => rfl);(case hg => rfl);(case hr => first|(go_simp;done)|(go_simp;rfl));intro a_V hg w15 hbox hb;have a_E:=a_e.mk (hbox);have g_Y:=a_e.mk ((by rw [hg];exact (a_p (lup_ HB.out)) : w.heap.size ≤ a_V));have e_B:=a_e.mk ((by rw [hg];exact (a_p (lup_ HB.out)) : w.heap.size ≤ a_V));replace HB:=a_e.mk (a_t (lup_ HB.out) hb);clear hb hbox hg;have h_d : w15.cell? ⟨a_V,0,none⟩ = some (.int .i64 a0_0):=(a_a a_E.out 0).trans rfl;have h_e : w15.cell? ⟨a_V,1,none⟩ = some (.int .i64 a0_1):=(a_a a_E.out 1).trans rfl;have s_S : w15.cell? ⟨a_V,2,none⟩ = some (.int .i64 a0_2):=(a_a a_E.out 2).trans rfl;have s_T : w15.cell? ⟨a_V,3,none⟩ = some (.int .i64 a0_3):=(a_a a_E.out 3).trans rfl;have s_U : w15.cell? ⟨a_V,4,none⟩ = some (.int .i64 a0_4):=(a_a a_E.out 4).trans rfl;have s_V : w15.cell? ⟨a_V,5,none⟩ = some (.bool a0_5):=(a_a a_E.out 5).trans rfl;have s_W : w15.cell? ⟨a_V,6,none⟩ = some (.bool a0_6):=(a_a a_E.out 6).trans rfl;have s_X : w15.cell? ⟨a_V,7,none⟩ = some (.int .u32 a0_7):=(a_a a_E.out 7).trans rfl;have s_Y : w15.cell? ⟨a_V,8,none⟩ = some (.int .i64 a0_8):=(a_a a_E.out 8).trans rfl;have s_Z : w15.cell? ⟨a_V,9,none⟩ = some (.int .i64 a0_9):=(a_a a_E.out 9).trans rfl;have r_r : w15.cell? ⟨a_V,10,none⟩ = some (.int .i64 a0_10):=(a_a a_E.out 10).trans rfl;have h_f:=a_b a_E.out 0;have h_g:=a_b a_E.out 1;have s_0:=a_b a_E.out 2;have s_1:=a_b a_E.out 3;have s_2:=a_b a_E.out 4;have s_3:=a_b a_E.out 5;have s_4:=a_b a_E.out 6;have s_5:=a_b a_E.out 7;have s_6:=a_b a_E.out 8;have s_7:=a_b a_E.out 9;have r_s:=a_b a_E.out 10))
  go_ret
  exact ⟨by first|rfl|(simp [a_w,a_x] <;> rfl)|(simp [*, a_w,a_x] <;> rfl),by repeat (first|(with_reducible first|exact HB.out|apply a_g|apply a_f|apply a_h|refine a_d ?_ e_B.out)|exact HB.out)⟩
 rw [if_neg c14] at H
 have c14b0 : decide (a0_2 < 0) = false:=decide_eq_false c14
 clear c14
 by_cases c17 : a0_2 > 8
 ·rw [if_pos c17] at H
  have c17b0 : decide (8 < a0_2) = true:=decide_eq_true c17
  clear c17
  obtain rfl:=Option.some.inj H
  go_enter Try.func54,Try.ntmps54
  go_wp2_with (first|((with_reducible refine a_U (N:=1) rfl ?_);refine a_H ?hg (N:=1) ?hd (cs:=#[.int .i64 a0_0,.int .i64 a0_1,.int .i64 a0_2,.int .i64 a0_3,.int .i64 a0_4,.bool a0_5,.bool a0_6,.int .u32 a0_7,.int .i64 a0_8,.int .i64 a0_9,.int .i64 a0_10]) (t:=65) ?hr ?_;(case hd => rfl);(case hg => rfl);(case hr => first|(go_simp;done)|(go_simp;rfl));intro a_V hg w18 hbox hb;have a_E:=a_e.mk (hbox);have g_Y:=a_e.mk ((by rw [hg];exact (a_p (lup_ HB.out)) : w.heap.size ≤ a_V));have e_B:=a_e.mk ((by rw [hg];exact (a_p (lup_ HB.out)) : w.heap.size ≤ a_V));replace HB:=a_e.mk (a_t (lup_ HB.out) hb);clear hb hbox hg;have h_h : w18.cell? ⟨a_V,0,none⟩ = some (.int .i64 a0_0):=(a_a a_E.out 0).trans rfl;have h_i : w18.cell? ⟨a_V,1,none⟩ = some (.int .i64 a0_1):=(a_a a_E.out 1).trans rfl;have B_H : w18.cell? ⟨a_V,2,none⟩ = some (.int .i64 a0_2):=(a_a a_E.out 2).trans rfl;have B_I : w18.cell? ⟨a_V,3,none⟩ = some (.int .i64 a0_3):=(a_a a_E.out 3).trans rfl;have B_J : w18.cell? ⟨a_V,4,none⟩ = some (.int .i64 a0_4):=(a_a a_E.out 4).trans rfl;have B_K : w18.cell? ⟨a_V,5,none⟩ = some (.bool a0_5):=(a_a a_E.out 5).trans rfl;have B_L : w18.cell? ⟨a_V,6,none⟩ = some (.bool a0_6):=(a_a a_E.out 6).trans rfl;have B_M : w18.cell? ⟨a_V,7,none⟩ = some (.int .u32 a0_7):=(a_a a_E.out 7).trans rfl;have B_N : w18.cell? ⟨a_V,8,none⟩ = some (.int .i64 a0_8):=(a_a a_E.out 8).trans rfl;have B_O : w18.cell? ⟨a_V,9,none⟩ = some (.int .i64 a0_9):=(a_a a_E.out 9).trans rfl;have w_Y : w18.cell? ⟨a_V,10,none⟩ = some (.int .i64 a0_10):=(a_a a_E.out 10).trans rfl;have h_j:=a_b a_E.out 0;have h_k:=a_b a_E.out 1;have B_P:=a_b a_E.out 2;have B_Q:=a_b a_E.out 3;have B_R:=a_b a_E.out 4;have B_S:=a_b a_E.out 5;have B_T:=a_b a_E.out 6;have B_U:=a_b a_E.out 7;have B_V:=a_b a_E.out 8;have B_W:=a_b a_E.out 9;have w_Z:=a_b a_E.out 10))
  go_ret
  exact ⟨by first|rfl|(simp [a_w,a_x] <;> rfl)|(simp [*, a_w,a_x] <;> rfl),by repeat (first|(with_reducible first|exact HB.out|apply a_g|apply a_f|apply a_h|refine a_d ?_ e_B.out)|exact HB.out)⟩
 rw [if_neg c17] at H
 have c17b0 : decide (8 < a0_2) = false:=decide_eq_false c17
 clear c17
 by_cases c20 : a0_3 < 0
 ·rw [if_pos c20] at H
  have c20b0 : decide (a0_3 < 0) = true:=decide_eq_true c20
  clear c20
  obtain rfl:=Option.some.inj H
  go_enter Try.func54,Try.ntmps54
  go_wp2_with (first|((with_reducible refine a_U (N:=1) rfl ?_);refine a_H ?hg (N:=1) ?hd (cs:=#[.int .i64 a0_0,.int .i64 a0_1,.int .i64 a0_2,.int .i64 a0_3,.int .i64 a0_4,.bool a0_5,.bool a0_6,.int .u32 a0_7,.int .i64 a0_8,.int .i64 a0_9,.int .i64 a0_10]) (t:=65) ?hr ?_;(case hd => rfl);(case hg => rfl);(case hr => first|(go_simp;done)|(go_simp;rfl));intro a_V hg w21 hbox hb;have a_E:=a_e.mk (hbox);have g_Y:=a_e.mk ((by rw [hg];exact (a_p (lup_ HB.out)) : w.heap.size ≤ a_V));have e_B:=a_e.mk ((by rw [hg];exact (a_p (lup_ HB.out)) : w.heap.size ≤ a_V));replace HB:=a_e.mk (a_t (lup_ HB.out) hb);clear hb hbox hg;have t_P : w21.cell? ⟨a_V,0,none⟩ = some (.int .i64 a0_0):=(a_a a_E.out 0).trans rfl;have t_Q : w21.cell? ⟨a_V,1,none⟩ = some (.int .i64 a0_1):=(a_a a_E.out 1).trans rfl;have B_X : w21.cell? ⟨a_V,2,none⟩ = some (.int .i64 a0_2):=(a_a a_E.out 2).trans rfl;have B_Y : w21.cell? ⟨a_V,3,none⟩ = some (.int .i64 a0_3):=(a_a a_E.out 3).trans rfl;have B_Z : w21.cell? ⟨a_V,4,none⟩ = some (.int .i64 a0_4):=(a_a a_E.out 4).trans rfl;have B_0 : w21.cell? ⟨a_V,5,none⟩ = some (.bool a0_5):=(a_a a_E.out 5).trans rfl;have B_1 : w21.cell? ⟨a_V,6,none⟩ = some (.bool a0_6):=(a_a a_E.out 6).trans rfl;have B_2 : w21.cell? ⟨a_V,7,none⟩ = some (.int .u32 a0_7):=(a_a a_E.out 7).trans rfl;have B_3 : w21.cell? ⟨a_V,8,none⟩ = some (.int .i64 a0_8):=(a_a a_E.out 8).trans rfl;have B_4 : w21.cell? ⟨a_V,9,none⟩ = some (.int .i64 a0_9):=(a_a a_E.out 9).trans rfl;have w_0 : w21.cell? ⟨a_V,10,none⟩ = some (.int .i64 a0_10):=(a_a a_E.out 10).trans rfl;have t_R:=a_b a_E.out 0;have t_S:=a_b a_E.out 1;have B_5:=a_b a_E.out 2;have B_6:=a_b a_E.out 3;have B_7:=a_b a_E.out 4;have B_8:=a_b a_E.out 5;have B_9:=a_b a_E.out 6;have C_a:=a_b a_E.out 7;have C_b:=a_b a_E.out 8;have C_c:=a_b a_E.out 9;have w_1:=a_b a_E.out 10))
  go_ret
  exact ⟨by first|rfl|(simp [a_w,a_x] <;> rfl)|(simp [*, a_w,a_x] <;> rfl),by repeat (first|(with_reducible first|exact HB.out|apply a_g|apply a_f|apply a_h|refine a_d ?_ e_B.out)|exact HB.out)⟩
 rw [if_neg c20] at H
 have c20b0 : decide (a0_3 < 0) = false:=decide_eq_false c20
 clear c20
 by_cases c23 : a0_3 > 3
 ·rw [if_pos c23] at H
  have c23b0 : decide (3 < a0_3) = true:=decide_eq_true c23
  clear c23
  obtain rfl:=Option.some.inj H
  go_enter Try.func54,Try.ntmps54
  go_wp2_with (first|((with_reducible refine a_U (N:=1) rfl ?_);refine a_H ?hg (N:=1) ?hd (cs:=#[.int .i64 a0_0,.int .i64 a0_1,.int .i64 a0_2,.int .i64 a0_3,.int .i64 a0_4,.bool a0_5,.bool a0_6,.int .u32 a0_7,.int .i64 a0_8,.int .i64 a0_9,.int .i64 a0_10]) (t:=65) ?hr ?_;(case hd => rfl);(case hg => rfl);(case hr => first|(go_simp;done)|(go_simp;rfl));intro a_V hg w24 hbox hb;have a_E:=a_e.mk (hbox);have g_Y:=a_e.mk ((by rw [hg];exact (a_p (lup_ HB.out)) : w.heap.size ≤ a_V));have e_B:=a_e.mk ((by rw [hg];exact (a_p (lup_ HB.out)) : w.heap.size ≤ a_V));replace HB:=a_e.mk (a_t (lup_ HB.out) hb);clear hb hbox hg;have m_n : w24.cell? ⟨a_V,0,none⟩ = some (.int .i64 a0_0):=(a_a a_E.out 0).trans rfl;have m_o : w24.cell? ⟨a_V,1,none⟩ = some (.int .i64 a0_1):=(a_a a_E.out 1).trans rfl;have p_L : w24.cell? ⟨a_V,2,none⟩ = some (.int .i64 a0_2):=(a_a a_E.out 2).trans rfl;have p_M : w24.cell? ⟨a_V,3,none⟩ = some (.int .i64 a0_3):=(a_a a_E.out 3).trans rfl;have p_N : w24.cell? ⟨a_V,4,none⟩ = some (.int .i64 a0_4):=(a_a a_E.out 4).trans rfl;have p_O : w24.cell? ⟨a_V,5,none⟩ = some (.bool a0_5):=(a_a a_E.out 5).trans rfl;have p_P : w24.cell? ⟨a_V,6,none⟩ = some (.bool a0_6):=(a_a a_E.out 6).trans rfl;have p_Q : w24.cell? ⟨a_V,7,none⟩ = some (.int .u32 a0_7):=(a_a a_E.out 7).trans rfl;have p_R : w24.cell? ⟨a_V,8,none⟩ = some (.int .i64 a0_8):=(a_a a_E.out 8).trans rfl;have p_S : w24.cell? ⟨a_V,9,none⟩ = some (.int .i64 a0_9):=(a_a a_E.out 9).trans rfl;have n_P : w24.cell? ⟨a_V,10,none⟩ = some (.int .i64 a0_10):=(a_a a_E.out 10).trans rfl;have m_p:=a_b a_E.out 0;have m_q:=a_b a_E.out 1;have p_T:=a_b a_E.out 2;have p_U:=a_b a_E.out 3;have p_V:=a_b a_E.out 4;have p_W:=a_b a_E.out 5;have p_X:=a_b a_E.out 6;have p_Y:=a_b a_E.out 7;have p_Z:=a_b a_E.out 8;have p_0:=a_b a_E.out 9;have n_Q:=a_b a_E.out 10))
  go_ret
  exact ⟨by first|rfl|(simp [a_w,a_x] <;> rfl)|(simp [*, a_w,a_x] <;> rfl),by repeat (first|(with_reducible first|exact HB.out|apply a_g|apply a_f|apply a_h|refine a_d ?_ e_B.out)|exact HB.out)⟩
 rw [if_neg c23] at H
 have c23b0 : decide (3 < a0_3) = false:=decide_eq_false c23
 clear c23
 by_cases c26 : a0_4 < (-1)
 ·rw [if_pos c26] at H
  have c26b0 : decide (a0_4 < (-1)) = true:=decide_eq_true c26
  clear c26
  obtain rfl:=Option.some.inj H
  go_enter Try.func54,Try.ntmps54
  go_wp2_with (first|((with_reducible refine a_U (N:=1) rfl ?_);refine a_H ?hg (N:=1) ?hd (cs:=#[.int .i64 a0_0,.int .i64 a0_1,.int .i64 a0_2,.int .i64 a0_3,.int .i64 a0_4,.bool a0_5,.bool a0_6,.int .u32 a0_7,.int .i64 a0_8,.int .i64 a0_9,.int .i64 a0_10]) (t:=65) ?hr ?_;(case hd => rfl);(case hg => rfl);(case hr => first|(go_simp;done)|(go_simp;rfl));intro a_V hg w27 hbox hb;have a_E:=a_e.mk (hbox);have g_Y:=a_e.mk ((by rw [hg];exact (a_p (lup_ HB.out)) : w.heap.size ≤ a_V));have e_B:=a_e.mk ((by rw [hg];exact (a_p (lup_ HB.out)) : w.heap.size ≤ a_V));replace HB:=a_e.mk (a_t (lup_ HB.out) hb);clear hb hbox hg;have i_o : w27.cell? ⟨a_V,0,none⟩ = some (.int .i64 a0_0):=(a_a a_E.out 0).trans rfl;have i_p : w27.cell? ⟨a_V,1,none⟩ = some (.int .i64 a0_1):=(a_a a_E.out 1).trans rfl;have p_r : w27.cell? ⟨a_V,2,none⟩ = some (.int .i64 a0_2):=(a_a a_E.out 2).trans rfl;have p_s : w27.cell? ⟨a_V,3,none⟩ = some (.int .i64 a0_3):=(a_a a_E.out 3).trans rfl;have p_t : w27.cell? ⟨a_V,4,none⟩ = some (.int .i64 a0_4):=(a_a a_E.out 4).trans rfl;have p_u : w27.cell? ⟨a_V,5,none⟩ = some (.bool a0_5):=(a_a a_E.out 5).trans rfl;have p_v : w27.cell? ⟨a_V,6,none⟩ = some (.bool a0_6):=(a_a a_E.out 6).trans rfl;have p_w : w27.cell? ⟨a_V,7,none⟩ = some (.int .u32 a0_7):=(a_a a_E.out 7).trans rfl;have p_x : w27.cell? ⟨a_V,8,none⟩ = some (.int .i64 a0_8):=(a_a a_E.out 8).trans rfl;have p_y : w27.cell? ⟨a_V,9,none⟩ = some (.int .i64 a0_9):=(a_a a_E.out 9).trans rfl;have n_N : w27.cell? ⟨a_V,10,none⟩ = some (.int .i64 a0_10):=(a_a a_E.out 10).trans rfl;have i_q:=a_b a_E.out 0;have i_r:=a_b a_E.out 1;have p_z:=a_b a_E.out 2;have p_A:=a_b a_E.out 3;have p_B:=a_b a_E.out 4;have p_C:=a_b a_E.out 5;have p_D:=a_b a_E.out 6;have p_E:=a_b a_E.out 7;have p_F:=a_b a_E.out 8;have p_G:=a_b a_E.out 9;have n_O:=a_b a_E.out 10))
  go_ret
  exact ⟨by first|rfl|(simp [a_w,a_x] <;> rfl)|(simp [*, a_w,a_x] <;> rfl),by repeat (first|(with_reducible first|exact HB.out|apply a_g|apply a_f|apply a_h|refine a_d ?_ e_B.out)|exact HB.out)⟩
 rw [if_neg c26] at H
 have c26b0 : decide (a0_4 < (-1)) = false:=decide_eq_false c26
 clear c26
 by_cases c29 : a0_4 > 7
 ·rw [if_pos c29] at H
  have c29b0 : decide (7 < a0_4) = true:=decide_eq_true c29
  clear c29
  obtain rfl:=Option.some.inj H
  go_enter Try.func54,Try.ntmps54
  go_wp2_with (first|((with_reducible refine a_U (N:=1) rfl ?_);refine a_H ?hg (N:=1) ?hd (cs:=#[.int .i64 a0_0,.int .i64 a0_1,.int .i64 a0_2,.int .i64 a0_3,.int .i64 a0_4,.bool a0_5,.bool a0_6,.int .u32 a0_7,.int .i64 a0_8,.int .i64 a0_9,.int .i64 a0_10]) (t:=65) ?hr ?_;(case hd => rfl);(case hg => rfl);(case hr => first|(go_simp;done)|(go_simp;rfl));intro a_V hg w30 hbox hb;have a_E:=a_e.mk (hbox);have g_Y:=a_e.mk ((by rw [hg];exact (a_p (lup_ HB.out)) : w.heap.size ≤ a_V));have e_B:=a_e.mk ((by rw [hg];exact (a_p (lup_ HB.out)) : w.heap.size ≤ a_V));replace HB:=a_e.mk (a_t (lup_ HB.out) hb);clear hb hbox hg;have m_M : w30.cell? ⟨a_V,0,none⟩ = some (.int .i64 a0_0):=(a_a a_E.out 0).trans rfl;have m_N : w30.cell? ⟨a_V,1,none⟩ = some (.int .i64 a0_1):=(a_a a_E.out 1).trans rfl;have C_d : w30.cell? ⟨a_V,2,none⟩ = some (.int .i64 a0_2):=(a_a a_E.out 2).trans rfl;have C_e : w30.cell? ⟨a_V,3,none⟩ = some (.int .i64 a0_3):=(a_a a_E.out 3).trans rfl;have C_f : w30.cell? ⟨a_V,4,none⟩ = some (.int .i64 a0_4):=(a_a a_E.out 4).trans rfl;have C_g : w30.cell? ⟨a_V,5,none⟩ = some (.bool a0_5):=(a_a a_E.out 5).trans rfl;have C_h : w30.cell? ⟨a_V,6,none⟩ = some (.bool a0_6):=(a_a a_E.out 6).trans rfl;have C_i : w30.cell? ⟨a_V,7,none⟩ = some (.int .u32 a0_7):=(a_a a_E.out 7).trans rfl;have C_j : w30.cell? ⟨a_V,8,none⟩ = some (.int .i64 a0_8):=(a_a a_E.out 8).trans rfl;have C_k : w30.cell? ⟨a_V,9,none⟩ = some (.int .i64 a0_9):=(a_a a_E.out 9).trans rfl;have w_2 : w30.cell? ⟨a_V,10,none⟩ = some (.int .i64 a0_10):=(a_a a_E.out 10).trans rfl;have m_O:=a_b a_E.out 0;have m_P:=a_b a_E.out 1;have C_l:=a_b a_E.out 2;have C_m:=a_b a_E.out 3;have C_n:=a_b a_E.out 4;have C_o:=a_b a_E.out 5;have C_p:=a_b a_E.out 6;have C_q:=a_b a_E.out 7;have C_r:=a_b a_E.out 8;have C_s:=a_b a_E.out 9;have w_3:=a_b a_E.out 10))
  go_ret
  exact ⟨by first|rfl|(simp [a_w,a_x] <;> rfl)|(simp [*, a_w,a_x] <;> rfl),by repeat (first|(with_reducible first|exact HB.out|apply a_g|apply a_f|apply a_h|refine a_d ?_ e_B.out)|exact HB.out)⟩
 rw [if_neg c29] at H
 have c29b0 : decide (7 < a0_4) = false:=decide_eq_false c29
 clear c29
 replace H:=Option.bind_eq_some_iff.mp H
 obtain ⟨t211,A320,H⟩:=H
 replace H : (if t211 = true then (if a0_8 ≥ 1 then (if a0_8 ≤ 65535 then (if a0_9 ≥ 1 then (if a0_9 ≤ 8 then (if a0_10 ≥ 0 then (some (decide (a0_10 ≤ 800))) else (some false)) else (some false)) else (some false)) else (some false)) else (some false)) else (some false)) = some r:=H
 have A32:=a_e.mk A320
 clear A320
 by_cases c33 : t211 = true
 rotate_left
 ·replace c33:=Bool.eq_false_iff.mpr c33
  subst c33
  have H1 : (some false) = some r:=by rw [if_neg (show ¬ (false = true) by decide)] at H;exact H
  clear H
  have H:=H1
  clear H1
  obtain rfl:=Option.some.inj H
  go_enter Try.func54,Try.ntmps54
  go_wp2_with (first|((with_reducible refine a_U (N:=1) rfl ?_);refine a_H ?hg (N:=1) ?hd (cs:=#[.int .i64 a0_0,.int .i64 a0_1,.int .i64 a0_2,.int .i64 a0_3,.int .i64 a0_4,.bool a0_5,.bool a0_6,.int .u32 a0_7,.int .i64 a0_8,.int .i64 a0_9,.int .i64 a0_10]) (t:=65) ?hr ?_;(case hd => rfl);(case hg => rfl);(case hr => first|(go_simp;done)|(go_simp;rfl));intro a_V hg w51 hbox hb;have a_E:=a_e.mk (hbox);have g_Y:=a_e.mk ((by rw [hg];exact (a_p (lup_ HB.out)) : w.heap.size ≤ a_V));have e_B:=a_e.mk ((by rw [hg];exact (a_p (lup_ HB.out)) : w.heap.size ≤ a_V));replace HB:=a_e.mk (a_t (lup_ HB.out) hb);clear hb hbox hg;have m_3 : w51.cell? ⟨a_V,0,none⟩ = some (.int .i64 a0_0):=(a_a a_E.out 0).trans rfl;have m_4 : w51.cell? ⟨a_V,1,none⟩ = some (.int .i64 a0_1):=(a_a a_E.out 1).trans rfl;have C_t : w51.cell? ⟨a_V,2,none⟩ = some (.int .i64 a0_2):=(a_a a_E.out 2).trans rfl;have C_u : w51.cell? ⟨a_V,3,none⟩ = some (.int .i64 a0_3):=(a_a a_E.out 3).trans rfl;have C_v : w51.cell? ⟨a_V,4,none⟩ = some (.int .i64 a0_4):=(a_a a_E.out 4).trans rfl;have C_w : w51.cell? ⟨a_V,5,none⟩ = some (.bool a0_5):=(a_a a_E.out 5).trans rfl;have C_x : w51.cell? ⟨a_V,6,none⟩ = some (.bool a0_6):=(a_a a_E.out 6).trans rfl;have C_y : w51.cell? ⟨a_V,7,none⟩ = some (.int .u32 a0_7):=(a_a a_E.out 7).trans rfl;have C_z : w51.cell? ⟨a_V,8,none⟩ = some (.int .i64 a0_8):=(a_a a_E.out 8).trans rfl;have C_A : w51.cell? ⟨a_V,9,none⟩ = some (.int .i64 a0_9):=(a_a a_E.out 9).trans rfl;have w_4 : w51.cell? ⟨a_V,10,none⟩ = some (.int .i64 a0_10):=(a_a a_E.out 10).trans rfl;have m_5:=a_b a_E.out 0;have m_6:=a_b a_E.out 1;have C_B:=a_b a_E.out 2;have C_C:=a_b a_E.out 3;have C_D:=a_b a_E.out 4;have C_E:=a_b a_E.out 5;have C_G:=a_b a_E.out 6;have C_H:=a_b a_E.out 7;have C_I:=a_b a_E.out 8;have C_J:=a_b a_E.out 9;have w_5:=a_b a_E.out 10)|((with_reducible refine a_P (f:=82) rfl ?_);refine b_v (some 53) rfl rfl Try.func82 (by kernel_rfl) rfl #[.int .u32 a0_7] rfl (by (try simp only [List.map_toArray,List.map_cons,List.map_nil]);first|done|rfl|(simp only [List.length_drop,List.length_take];rfl)) ?_;(with_reducible refine (b_t.calls a0_7 false _ A32.out).mono ?_);rintro e w' ⟨rfl,⟨nd,rfl⟩⟩;refine ⟨_,rfl,?_⟩))
  go_ret
  exact ⟨by first|rfl|(simp [a_w,a_x] <;> rfl)|(simp [*, a_w,a_x] <;> rfl),by repeat (first|(with_reducible first|exact HB.out|apply a_g|apply a_f|apply a_h|refine a_d ?_ e_B.out)|exact HB.out)⟩
 subst c33
 have H1 : (if a0_8 ≥ 1 then (if a0_8 ≤ 65535 then (if a0_9 ≥ 1 then (if a0_9 ≤ 8 then (if a0_10 ≥ 0 then (some (decide (a0_10 ≤ 800))) else (some false)) else (some false)) else (some false)) else (some false)) else (some false)) = some r:=by rw [if_pos rfl] at H;exact H
 clear H
 have H:=H1
 clear H1
 by_cases c34 : a0_8 ≥ 1
 rotate_left
 ·rw [if_neg c34] at H
  have c34b0 : decide (1 ≤ a0_8) = false:=decide_eq_false c34
  clear c34
  obtain rfl:=Option.some.inj H
  go_enter Try.func54,Try.ntmps54
  go_wp2_with (first|((with_reducible refine a_U (N:=1) rfl ?_);refine a_H ?hg (N:=1) ?hd (cs:=#[.int .i64 a0_0,.int .i64 a0_1,.int .i64 a0_2,.int .i64 a0_3,.int .i64 a0_4,.bool a0_5,.bool a0_6,.int .u32 a0_7,.int .i64 a0_8,.int .i64 a0_9,.int .i64 a0_10]) (t:=65) ?hr ?_;(case hd => rfl);(case hg => rfl);(case hr => first|(go_simp;done)|(go_simp;rfl));intro a_V hg w49 hbox hb;have a_E:=a_e.mk (hbox);have g_Y:=a_e.mk ((by rw [hg];exact (a_p (lup_ HB.out)) : w.heap.size ≤ a_V));have e_B:=a_e.mk ((by rw [hg];exact (a_p (lup_ HB.out)) : w.heap.size ≤ a_V));replace HB:=a_e.mk (a_t (lup_ HB.out) hb);clear hb hbox hg;have p_6 : w49.cell? ⟨a_V,0,none⟩ = some (.int .i64 a0_0):=(a_a a_E.out 0).trans rfl;have p_7 : w49.cell? ⟨a_V,1,none⟩ = some (.int .i64 a0_1):=(a_a a_E.out 1).trans rfl;have t_T : w49.cell? ⟨a_V,2,none⟩ = some (.int .i64 a0_2):=(a_a a_E.out 2).trans rfl;have t_U : w49.cell? ⟨a_V,3,none⟩ = some (.int .i64 a0_3):=(a_a a_E.out 3).trans rfl;have t_V : w49.cell? ⟨a_V,4,none⟩ = some (.int .i64 a0_4):=(a_a a_E.out 4).trans rfl;have t_W : w49.cell? ⟨a_V,5,none⟩ = some (.bool a0_5):=(a_a a_E.out 5).trans rfl;have t_X : w49.cell? ⟨a_V,6,none⟩ = some (.bool a0_6):=(a_a a_E.out 6).trans rfl;have t_Y : w49.cell? ⟨a_V,7,none⟩ = some (.int .u32 a0_7):=(a_a a_E.out 7).trans rfl;have t_Z : w49.cell? ⟨a_V,8,none⟩ = some (.int .i64 a0_8):=(a_a a_E.out 8).trans rfl;have t_0 : w49.cell? ⟨a_V,9,none⟩ = some (.int .i64 a0_9):=(a_a a_E.out 9).trans rfl;have r_w : w49.cell? ⟨a_V,10,none⟩ = some (.int .i64 a0_10):=(a_a a_E.out 10).trans rfl;have p_8:=a_b a_E.out 0;have p_9:=a_b a_E.out 1;have t_1:=a_b a_E.out 2;have t_2:=a_b a_E.out 3;have t_3:=a_b a_E.out 4;have t_4:=a_b a_E.out 5;have t_5:=a_b a_E.out 6;have t_6:=a_b a_E.out 7;have t_7:=a_b a_E.out 8;have t_8:=a_b a_E.out 9;have r_x:=a_b a_E.out 10)|((with_reducible refine a_P (f:=82) rfl ?_);refine b_v (some 53) rfl rfl Try.func82 (by kernel_rfl) rfl #[.int .u32 a0_7] rfl (by (try simp only [List.map_toArray,List.map_cons,List.map_nil]);first|done|rfl|(simp only [List.length_drop,List.length_take];rfl)) ?_;(with_reducible refine (b_t.calls a0_7 true _ A32.out).mono ?_);rintro e w' ⟨rfl,⟨nd,rfl⟩⟩;refine ⟨_,rfl,?_⟩))
  go_ret
  exact ⟨by first|rfl|(simp [a_w,a_x] <;> rfl)|(simp [*, a_w,a_x] <;> rfl),by repeat (first|(with_reducible first|exact HB.out|apply a_g|apply a_f|apply a_h|refine a_d ?_ e_B.out)|exact HB.out)⟩
 rw [if_pos c34] at H
 have c34b0 : decide (1 ≤ a0_8) = true:=decide_eq_true c34
 clear c34
 by_cases c35 : a0_8 ≤ 65535
 rotate_left
 ·rw [if_neg c35] at H
  have c35b0 : decide (a0_8 ≤ 65535) = false:=decide_eq_false c35
  clear c35
  obtain rfl:=Option.some.inj H
  go_enter Try.func54,Try.ntmps54
  go_wp2_with (first|((with_reducible refine a_U (N:=1) rfl ?_);refine a_H ?hg (N:=1) ?hd (cs:=#[.int .i64 a0_0,.int .i64 a0_1,.int .i64 a0_2,.int .i64 a0_3,.int .i64 a0_4,.bool a0_5,.bool a0_6,.int .u32 a0_7,.int .i64 a0_8,.int .i64 a0_9,.int .i64 a0_10]) (t:=65) ?hr ?_;(case hd => rfl);(case hg => rfl);(case hr => first|(go_simp;done)|(go_simp;rfl));intro a_V hg w47 hbox hb;have a_E:=a_e.mk (hbox);have g_Y:=a_e.mk ((by rw [hg];exact (a_p (lup_ HB.out)) : w.heap.size ≤ a_V));have e_B:=a_e.mk ((by rw [hg];exact (a_p (lup_ HB.out)) : w.heap.size ≤ a_V));replace HB:=a_e.mk (a_t (lup_ HB.out) hb);clear hb hbox hg;have s_8 : w47.cell? ⟨a_V,0,none⟩ = some (.int .i64 a0_0):=(a_a a_E.out 0).trans rfl;have s_9 : w47.cell? ⟨a_V,1,none⟩ = some (.int .i64 a0_1):=(a_a a_E.out 1).trans rfl;have C_K : w47.cell? ⟨a_V,2,none⟩ = some (.int .i64 a0_2):=(a_a a_E.out 2).trans rfl;have C_L : w47.cell? ⟨a_V,3,none⟩ = some (.int .i64 a0_3):=(a_a a_E.out 3).trans rfl;have C_M : w47.cell? ⟨a_V,4,none⟩ = some (.int .i64 a0_4):=(a_a a_E.out 4).trans rfl;have C_N : w47.cell? ⟨a_V,5,none⟩ = some (.bool a0_5):=(a_a a_E.out 5).trans rfl;have C_O : w47.cell? ⟨a_V,6,none⟩ = some (.bool a0_6):=(a_a a_E.out 6).trans rfl;have C_P : w47.cell? ⟨a_V,7,none⟩ = some (.int .u32 a0_7):=(a_a a_E.out 7).trans rfl;have C_Q : w47.cell? ⟨a_V,8,none⟩ = some (.int .i64 a0_8):=(a_a a_E.out 8).trans rfl;have C_R : w47.cell? ⟨a_V,9,none⟩ = some (.int .i64 a0_9):=(a_a a_E.out 9).trans rfl;have w_6 : w47.cell? ⟨a_V,10,none⟩ = some (.int .i64 a0_10):=(a_a a_E.out 10).trans rfl;have t_a:=a_b a_E.out 0;have t_b:=a_b a_E.out 1;have C_S:=a_b a_E.out 2;have C_T:=a_b a_E.out 3;have C_U:=a_b a_E.out 4;have C_V:=a_b a_E.out 5;have C_W:=a_b a_E.out 6;have C_X:=a_b a_E.out 7;have C_Y:=a_b a_E.out 8;have C_Z:=a_b a_E.out 9;have w_7:=a_b a_E.out 10)|((with_reducible refine a_P (f:=82) rfl ?_);refine b_v (some 53) rfl rfl Try.func82 (by kernel_rfl) rfl #[.int .u32 a0_7] rfl (by (try simp only [List.map_toArray,List.map_cons,List.map_nil]);first|done|rfl|(simp only [List.length_drop,List.length_take];rfl)) ?_;(with_reducible refine (b_t.calls a0_7 true _ A32.out).mono ?_);rintro e w' ⟨rfl,⟨nd,rfl⟩⟩;refine ⟨_,rfl,?_⟩))
  go_ret
  exact ⟨by first|rfl|(simp [a_w,a_x] <;> rfl)|(simp [*, a_w,a_x] <;> rfl),by repeat (first|(with_reducible first|exact HB.out|apply a_g|apply a_f|apply a_h|refine a_d ?_ e_B.out)|exact HB.out)⟩
 rw [if_pos c35] at H
 have c35b0 : decide (a0_8 ≤ 65535) = true:=decide_eq_true c35
 clear c35
 by_cases c36 : a0_9 ≥ 1
 rotate_left
 ·rw [if_neg c36] at H
  have c36b0 : decide (1 ≤ a0_9) = false:=decide_eq_false c36
  clear c36
  obtain rfl:=Option.some.inj H
  go_enter Try.func54,Try.ntmps54
  go_wp2_with (first|((with_reducible refine a_U (N:=1) rfl ?_);refine a_H ?hg (N:=1) ?hd (cs:=#[.int .i64 a0_0,.int .i64 a0_1,.int .i64 a0_2,.int .i64 a0_3,.int .i64 a0_4,.bool a0_5,.bool a0_6,.int .u32 a0_7,.int .i64 a0_8,.int .i64 a0_9,.int .i64 a0_10]) (t:=65) ?hr ?_;(case hd => rfl);(case hg => rfl);(case hr => first|(go_simp;done)|(go_simp;rfl));intro a_V hg w45 hbox hb;have a_E:=a_e.mk (hbox);have g_Y:=a_e.mk ((by rw [hg];exact (a_p (lup_ HB.out)) : w.heap.size ≤ a_V));have e_B:=a_e.mk ((by rw [hg];exact (a_p (lup_ HB.out)) : w.heap.size ≤ a_V));replace HB:=a_e.mk (a_t (lup_ HB.out) hb);clear hb hbox hg;have C_0 : w45.cell? ⟨a_V,0,none⟩ = some (.int .i64 a0_0):=(a_a a_E.out 0).trans rfl;have C_1 : w45.cell? ⟨a_V,1,none⟩ = some (.int .i64 a0_1):=(a_a a_E.out 1).trans rfl;have C_2 : w45.cell? ⟨a_V,2,none⟩ = some (.int .i64 a0_2):=(a_a a_E.out 2).trans rfl;have C_3 : w45.cell? ⟨a_V,3,none⟩ = some (.int .i64 a0_3):=(a_a a_E.out 3).trans rfl;have C_4 : w45.cell? ⟨a_V,4,none⟩ = some (.int .i64 a0_4):=(a_a a_E.out 4).trans rfl;have C_5 : w45.cell? ⟨a_V,5,none⟩ = some (.bool a0_5):=(a_a a_E.out 5).trans rfl;have C_6 : w45.cell? ⟨a_V,6,none⟩ = some (.bool a0_6):=(a_a a_E.out 6).trans rfl;have C_7 : w45.cell? ⟨a_V,7,none⟩ = some (.int .u32 a0_7):=(a_a a_E.out 7).trans rfl;have C_8 : w45.cell? ⟨a_V,8,none⟩ = some (.int .i64 a0_8):=(a_a a_E.out 8).trans rfl;have C_9 : w45.cell? ⟨a_V,9,none⟩ = some (.int .i64 a0_9):=(a_a a_E.out 9).trans rfl;have w_8 : w45.cell? ⟨a_V,10,none⟩ = some (.int .i64 a0_10):=(a_a a_E.out 10).trans rfl;have D_a:=a_b a_E.out 0;have D_b:=a_b a_E.out 1;have D_c:=a_b a_E.out 2;have D_d:=a_b a_E.out 3;have D_e:=a_b a_E.out 4;have D_f:=a_b a_E.out 5;have D_g:=a_b a_E.out 6;have D_h:=a_b a_E.out 7;have D_i:=a_b a_E.out 8;have D_j:=a_b a_E.out 9;have w_9:=a_b a_E.out 10)|((with_reducible refine a_P (f:=82) rfl ?_);refine b_v (some 53) rfl rfl Try.func82 (by kernel_rfl) rfl #[.int .u32 a0_7] rfl (by (try simp only [List.map_toArray,List.map_cons,List.map_nil]);first|done|rfl|(simp only [List.length_drop,List.length_take];rfl)) ?_;(with_reducible refine (b_t.calls a0_7 true _ A32.out).mono ?_);rintro e w' ⟨rfl,⟨nd,rfl⟩⟩;refine ⟨_,rfl,?_⟩))
  go_ret
  exact ⟨by first|rfl|(simp [a_w,a_x] <;> rfl)|(simp [*, a_w,a_x] <;> rfl),by repeat (first|(with_reducible first|exact HB.out|apply a_g|apply a_f|apply a_h|refine a_d ?_ e_B.out)|exact HB.out)⟩
 rw [if_pos c36] at H
 have c36b0 : decide (1 ≤ a0_9) = true:=decide_eq_true c36
 clear c36
 by_cases c37 : a0_9 ≤ 8
 rotate_left
 ·rw [if_neg c37] at H
  have c37b0 : decide (a0_9 ≤ 8) = false:=decide_eq_false c37
  clear c37
  obtain rfl:=Option.some.inj H
  go_enter Try.func54,Try.ntmps54
  go_wp2_with (first|((with_reducible refine a_U (N:=1) rfl ?_);refine a_H ?hg (N:=1) ?hd (cs:=#[.int .i64 a0_0,.int .i64 a0_1,.int .i64 a0_2,.int .i64 a0_3,.int .i64 a0_4,.bool a0_5,.bool a0_6,.int .u32 a0_7,.int .i64 a0_8,.int .i64 a0_9,.int .i64 a0_10]) (t:=65) ?hr ?_;(case hd => rfl);(case hg => rfl);(case hr => first|(go_simp;done)|(go_simp;rfl));intro a_V hg w43 hbox hb;have a_E:=a_e.mk (hbox);have g_Y:=a_e.mk ((by rw [hg];exact (a_p (lup_ HB.out)) : w.heap.size ≤ a_V));have e_B:=a_e.mk ((by rw [hg];exact (a_p (lup_ HB.out)) : w.heap.size ≤ a_V));replace HB:=a_e.mk (a_t (lup_ HB.out) hb);clear hb hbox hg;have q_a : w43.cell? ⟨a_V,0,none⟩ = some (.int .i64 a0_0):=(a_a a_E.out 0).trans rfl;have q_b : w43.cell? ⟨a_V,1,none⟩ = some (.int .i64 a0_1):=(a_a a_E.out 1).trans rfl;have D_k : w43.cell? ⟨a_V,2,none⟩ = some (.int .i64 a0_2):=(a_a a_E.out 2).trans rfl;have D_l : w43.cell? ⟨a_V,3,none⟩ = some (.int .i64 a0_3):=(a_a a_E.out 3).trans rfl;have D_m : w43.cell? ⟨a_V,4,none⟩ = some (.int .i64 a0_4):=(a_a a_E.out 4).trans rfl;have D_n : w43.cell? ⟨a_V,5,none⟩ = some (.bool a0_5):=(a_a a_E.out 5).trans rfl;have D_o : w43.cell? ⟨a_V,6,none⟩ = some (.bool a0_6):=(a_a a_E.out 6).trans rfl;have D_p : w43.cell? ⟨a_V,7,none⟩ = some (.int .u32 a0_7):=(a_a a_E.out 7).trans rfl;have D_q : w43.cell? ⟨a_V,8,none⟩ = some (.int .i64 a0_8):=(a_a a_E.out 8).trans rfl;have D_r : w43.cell? ⟨a_V,9,none⟩ = some (.int .i64 a0_9):=(a_a a_E.out 9).trans rfl;have x_a : w43.cell? ⟨a_V,10,none⟩ = some (.int .i64 a0_10):=(a_a a_E.out 10).trans rfl;have q_d:=a_b a_E.out 0;have q_e:=a_b a_E.out 1;have D_s:=a_b a_E.out 2;have D_t:=a_b a_E.out 3;have D_u:=a_b a_E.out 4;have D_v:=a_b a_E.out 5;have D_w:=a_b a_E.out 6;have D_x:=a_b a_E.out 7;have D_y:=a_b a_E.out 8;have D_z:=a_b a_E.out 9;have x_b:=a_b a_E.out 10)|((with_reducible refine a_P (f:=82) rfl ?_);refine b_v (some 53) rfl rfl Try.func82 (by kernel_rfl) rfl #[.int .u32 a0_7] rfl (by (try simp only [List.map_toArray,List.map_cons,List.map_nil]);first|done|rfl|(simp only [List.length_drop,List.length_take];rfl)) ?_;(with_reducible refine (b_t.calls a0_7 true _ A32.out).mono ?_);rintro e w' ⟨rfl,⟨nd,rfl⟩⟩;refine ⟨_,rfl,?_⟩))
  go_ret
  exact ⟨by first|rfl|(simp [a_w,a_x] <;> rfl)|(simp [*, a_w,a_x] <;> rfl),by repeat (first|(with_reducible first|exact HB.out|apply a_g|apply a_f|apply a_h|refine a_d ?_ e_B.out)|exact HB.out)⟩
 rw [if_pos c37] at H
 have c37b0 : decide (a0_9 ≤ 8) = true:=decide_eq_true c37
 clear c37
 by_cases c38 : a0_10 ≥ 0
 ·rw [if_pos c38] at H
  have c38b0 : decide (0 ≤ a0_10) = true:=decide_eq_true c38
  clear c38
  obtain rfl:=Option.some.inj H
  go_enter Try.func54,Try.ntmps54
  go_wp2_with (first|((with_reducible refine a_U (N:=1) rfl ?_);refine a_H ?hg (N:=1) ?hd (cs:=#[.int .i64 a0_0,.int .i64 a0_1,.int .i64 a0_2,.int .i64 a0_3,.int .i64 a0_4,.bool a0_5,.bool a0_6,.int .u32 a0_7,.int .i64 a0_8,.int .i64 a0_9,.int .i64 a0_10]) (t:=65) ?hr ?_;(case hd => rfl);(case hg => rfl);(case hr => first|(go_simp;done)|(go_simp;rfl));intro a_V hg w39 hbox hb;have a_E:=a_e.mk (hbox);have g_Y:=a_e.mk ((by rw [hg];exact (a_p (lup_ HB.out)) : w.heap.size ≤ a_V));have e_B:=a_e.mk ((by rw [hg];exact (a_p (lup_ HB.out)) : w.heap.size ≤ a_V));replace HB:=a_e.mk (a_t (lup_ HB.out) hb);clear hb hbox hg;have t_9 : w39.cell? ⟨a_V,0,none⟩ = some (.int .i64 a0_0):=(a_a a_E.out 0).trans rfl;have u_a : w39.cell? ⟨a_V,1,none⟩ = some (.int .i64 a0_1):=(a_a a_E.out 1).trans rfl;have D_A : w39.cell? ⟨a_V,2,none⟩ = some (.int .i64 a0_2):=(a_a a_E.out 2).trans rfl;have D_B : w39.cell? ⟨a_V,3,none⟩ = some (.int .i64 a0_3):=(a_a a_E.out 3).trans rfl;have D_C : w39.cell? ⟨a_V,4,none⟩ = some (.int .i64 a0_4):=(a_a a_E.out 4).trans rfl;have D_D : w39.cell? ⟨a_V,5,none⟩ = some (.bool a0_5):=(a_a a_E.out 5).trans rfl;have D_E : w39.cell? ⟨a_V,6,none⟩ = some (.bool a0_6):=(a_a a_E.out 6).trans rfl;have D_F : w39.cell? ⟨a_V,7,none⟩ = some (.int .u32 a0_7):=(a_a a_E.out 7).trans rfl;have D_G : w39.cell? ⟨a_V,8,none⟩ = some (.int .i64 a0_8):=(a_a a_E.out 8).trans rfl;have D_H : w39.cell? ⟨a_V,9,none⟩ = some (.int .i64 a0_9):=(a_a a_E.out 9).trans rfl;have x_c : w39.cell? ⟨a_V,10,none⟩ = some (.int .i64 a0_10):=(a_a a_E.out 10).trans rfl;have u_b:=a_b a_E.out 0;have u_d:=a_b a_E.out 1;have D_I:=a_b a_E.out 2;have D_J:=a_b a_E.out 3;have D_K:=a_b a_E.out 4;have D_L:=a_b a_E.out 5;have D_M:=a_b a_E.out 6;have D_N:=a_b a_E.out 7;have D_O:=a_b a_E.out 8;have D_P:=a_b a_E.out 9;have x_d:=a_b a_E.out 10)|((with_reducible refine a_P (f:=82) rfl ?_);refine b_v (some 53) rfl rfl Try.func82 (by kernel_rfl) rfl #[.int .u32 a0_7] rfl (by (try simp only [List.map_toArray,List.map_cons,List.map_nil]);first|done|rfl|(simp only [List.length_drop,List.length_take];rfl)) ?_;(with_reducible refine (b_t.calls a0_7 true _ A32.out).mono ?_);rintro e w' ⟨rfl,⟨nd,rfl⟩⟩;refine ⟨_,rfl,?_⟩))
  go_ret
  exact ⟨by first|rfl|(simp [a_w,a_x] <;> rfl)|(simp [*, a_w,a_x] <;> rfl),by repeat (first|(with_reducible first|exact HB.out|apply a_g|apply a_f|apply a_h|refine a_d ?_ e_B.out)|exact HB.out)⟩
 rw [if_neg c38] at H
 have c38b0 : decide (0 ≤ a0_10) = false:=decide_eq_false c38
 clear c38
 obtain rfl:=Option.some.inj H
 go_enter Try.func54,Try.ntmps54
 go_wp2_with (first|((with_reducible refine a_U (N:=1) rfl ?_);refine a_H ?hg (N:=1) ?hd (cs:=#[.int .i64 a0_0,.int .i64 a0_1,.int .i64 a0_2,.int .i64 a0_3,.int .i64 a0_4,.bool a0_5,.bool a0_6,.int .u32 a0_7,.int .i64 a0_8,.int .i64 a0_9,.int .i64 a0_10]) (t:=65) ?hr ?_;(case hd => rfl);(case hg => rfl);(case hr => first|(go_simp;done)|(go_simp;rfl));intro a_V hg w41 hbox hb;have a_E:=a_e.mk (hbox);have g_Y:=a_e.mk ((by rw [hg];exact (a_p (lup_ HB.out)) : w.heap.size ≤ a_V));have e_B:=a_e.mk ((by rw [hg];exact (a_p (lup_ HB.out)) : w.heap.size ≤ a_V));replace HB:=a_e.mk (a_t (lup_ HB.out) hb);clear hb hbox hg;have j_t : w41.cell? ⟨a_V,0,none⟩ = some (.int .i64 a0_0):=(a_a a_E.out 0).trans rfl;have j_u : w41.cell? ⟨a_V,1,none⟩ = some (.int .i64 a0_1):=(a_a a_E.out 1).trans rfl;have u_e : w41.cell? ⟨a_V,2,none⟩ = some (.int .i64 a0_2):=(a_a a_E.out 2).trans rfl;have u_f : w41.cell? ⟨a_V,3,none⟩ = some (.int .i64 a0_3):=(a_a a_E.out 3).trans rfl;have u_g : w41.cell? ⟨a_V,4,none⟩ = some (.int .i64 a0_4):=(a_a a_E.out 4).trans rfl;have u_h : w41.cell? ⟨a_V,5,none⟩ = some (.bool a0_5):=(a_a a_E.out 5).trans rfl;have u_i : w41.cell? ⟨a_V,6,none⟩ = some (.bool a0_6):=(a_a a_E.out 6).trans rfl;have u_j : w41.cell? ⟨a_V,7,none⟩ = some (.int .u32 a0_7):=(a_a a_E.out 7).trans rfl;have u_k : w41.cell? ⟨a_V,8,none⟩ = some (.int .i64 a0_8):=(a_a a_E.out 8).trans rfl;have u_l : w41.cell? ⟨a_V,9,none⟩ = some (.int .i64 a0_9):=(a_a a_E.out 9).trans rfl;have r_y : w41.cell? ⟨a_V,10,none⟩ = some (.int .i64 a0_10):=(a_a a_E.out 10).trans rfl;have j_v:=a_b a_E.out 0;have j_w:=a_b a_E.out 1;have u_m:=a_b a_E.out 2;have u_n:=a_b a_E.out 3;have u_o:=a_b a_E.out 4;have u_p:=a_b a_E.out 5;have u_q:=a_b a_E.out 6;have u_r:=a_b a_E.out 7;have u_s:=a_b a_E.out 8;have u_t:=a_b a_E.out 9;have r_z:=a_b a_E.out 10)|((with_reducible refine a_P (f:=82) rfl ?_);refine b_v (some 53) rfl rfl Try.func82 (by kernel_rfl) rfl #[.int .u32 a0_7] rfl (by (try simp only [List.map_toArray,List.map_cons,List.map_nil]);first|done|rfl|(simp only [List.length_drop,List.length_take];rfl)) ?_;(with_reducible refine (b_t.calls a0_7 true _ A32.out).mono ?_);rintro e w' ⟨rfl,⟨nd,rfl⟩⟩;refine ⟨_,rfl,?_⟩))
 go_ret
 exact ⟨by first|rfl|(simp [a_w,a_x] <;> rfl)|(simp [*, a_w,a_x] <;> rfl),by repeat (first|(with_reducible first|exact HB.out|apply a_g|apply a_f|apply a_h|refine a_d ?_ e_B.out)|exact HB.out)⟩
end Go.Proofs.Ytgglkfilkagblaa.Q
end
