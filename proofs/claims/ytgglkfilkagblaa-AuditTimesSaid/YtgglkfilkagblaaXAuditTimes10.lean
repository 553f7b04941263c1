/- Part 11 of 13 of what the row of AuditTimes stands on: contracts over the given program's functions, the plain law, the row; no condition beyond those that each theorem states. -/
import Derived.Test.YtgglkfilkagblaaXAuditTimes9
section
namespace Go.Proofs.Ytgglkfilkagblaa.Q
open Go.RowKit Go.Proofs.YtgglkfilkagblaaW.PrintWords Go.Proofs.YtgglkfilkagblaaW.PrintLast Go.Proofs.YtgglkfilkagblaaW.PrintMore
set_option linter.unusedVariables false
set_option linter.unusedSimpArgs false
def c_G.f (k : Nat) (l0_0 : List (S27)) (a0_1 : Int) (a1 : Int) : Option ((List (S27)) × Int × Int):=(a_E.f k l0_0 a0_1).bind fun t152 => (if t152 = 0 then (if a1 < a0_1 then (some (([] : List (S27)),0,2)) else (if a1 > 1125899906842624 then (some (([] : List (S27)),0,2)) else (some (l0_0,a1,0)))) else (some (([] : List (S27)),0,390)))
theorem c_G.mono : ∀ a0 a1 a2 k,LeO (c_G.f k a0 a1 a2) (c_G.f (k + 1) a0 a1 a2):=by
 intro a0 a1 a2 k
 unfold c_G.f
 repeat' first
  | (with_reducible exact a_E.mono _ _ _)
  | (with_reducible exact LeO.refl _)
  | (with_reducible exact LeO.none _)
  | (with_reducible refine LeO.ite ?_ ?_)
  | (with_reducible refine LeO.bind ?_ (fun _ => ?_))
  | exact a_E.mono _ _ _
  | exact LeO.none _
  | refine LeO.ite ?_ ?_
  | refine LeO.bind ?_ (fun _ => ?_)
set_option maxHeartbeats 8000000 in
set_option maxRecDepth 100000 in
theorem c_G.calls (k : Nat) (P0_0_ : Nat → Prop) (A0_0 : Option Addr) (c0_0 : Nat) (l0_0 : List (S27)) (a0_1 : Int) (a1 : Int) (r1 : List (S27)) (r2 : Int) (r3 : Int) (w : World) (hs0_0 : Kd.V k27 27 w w.heap.size (fun k_ => P0_0_ k_) (.slice A0_0 l0_0.length c0_0) l0_0) (h : c_G.f k l0_0 a0_1 a1 = some (r1,r2,r3)) :
 Calls Try.prog 11 #[.agg #[.slice A0_0 l0_0.length c0_0,.int .i64 a0_1],.int .i64 a1] w fun e w' => ∃ v0_ : Value,e = .returned (.tuple #[.agg #[v0_,.int .i64 r2],.int .i64 r3]) ∧ Kd.V k27 27 w' w.heap.size (fun k_ => (P0_0_ k_ ∨ w.heap.size ≤ k_)) v0_ r1 ∧ Below w.heap.size w w':=by
 have hu24:=Try.underlying24
 have b_I:=a_d.mk (show Kd.V k27 27 w w.heap.size (fun k_ => (P0_0_ k_ ∨ w.heap.size ≤ k_)) (.slice A0_0 l0_0.length c0_0) l0_0 from Kd.d_y hs0_0 (fun k_ hk => .inl hk))
 have HB:=a_d.mk (Below.refl w.heap.size w)
 have H : ((a_E.f k l0_0 a0_1).bind fun t152 => (if t152 = 0 then (if a1 < a0_1 then (some (([] : List (S27)),0,2)) else (if a1 > 1125899906842624 then (some (([] : List (S27)),0,2)) else (some (l0_0,a1,0)))) else (some (([] : List (S27)),0,390)))) = some (r1,r2,r3):=h
 clear h
 replace H:=Option.bind_eq_some_iff.mp H
 obtain ⟨t152,A30,H⟩:=H
 replace H : (if t152 = 0 then (if a1 < a0_1 then (some (([] : List (S27)),0,2)) else (if a1 > 1125899906842624 then (some (([] : List (S27)),0,2)) else (some (l0_0,a1,0)))) else (some (([] : List (S27)),0,390))) = some (r1,r2,r3):=H
 have A3:=a_d.mk A30
 clear A30
 by_cases c4 : t152 = 0
 rotate_left
 ·rw [if_neg c4] at H
  have c4b0 : (t152 == 0) = false:=beq_eq_false_iff_ne.mpr c4
  have c4b1 : (t152 != 0) = true:=bne_iff_ne.mpr c4
  simp only [Option.some.injEq,Prod.mk.injEq] at H
  obtain ⟨rfl,rfl,rfl⟩:=H
  go_enter Try.func11,Try.ntmps11
  go_wp2_with (first|((with_reducible refine a_J (N:=2) rfl ?_);refine a_C ?hg (N:=2) ?hd (cs:=#[.slice A0_0 l0_0.length c0_0,.int .i64 a0_1]) (t:=24) ?hr ?_;(case hd => rfl);(case hg => rfl);(case hr => first|(go_simp;done)|(go_simp;rfl));intro d_x hg w28 hbox hb;have c_t:=a_d.mk (hbox);have u_v:=a_d.mk ((by rw [hg];exact (a_n (lup_ HB.out)) : w.heap.size ≤ d_x));have e_G:=a_d.mk ((by rw [hg];exact (a_n (lup_ HB.out)) : w.heap.size ≤ d_x));replace b_I:=a_d.mk (Kd.b_s (Kd.b_R (by (with_reducible repeat (first|apply Kd.b_d|apply Kd.b_e|apply Kd.b_m));exact b_I.out) d_x (Nat.le_of_eq hg.symm)) hb);replace HB:=a_d.mk (a_o (lup_ HB.out) hb);clear hb hbox hg)|((with_reducible refine a_J (N:=4) rfl ?_);refine a_C ?hg (N:=4) ?hd (cs:=#[.slice none 0 0,.int .i64 0]) (t:=24) ?hr ?_;(case hd => rfl);(case hg => rfl);(case hr => first|(go_simp;done)|(go_simp;rfl));intro d_z hg w29 hbox hb;have d_0:=a_d.mk (hbox);have u_w:=a_d.mk ((by rw [hg];exact (a_n (by repeat (first|(with_reducible first|exact HB.out|apply a_g|apply a_e|apply a_h|refine a_f ?_ e_G.out)|exact HB.out))) : w.heap.size ≤ d_z));have i_1:=a_d.mk ((by rw [hg];exact (a_n (by repeat (first|(with_reducible first|exact HB.out|apply a_g|apply a_e|apply a_h|refine a_f ?_ e_G.out)|exact HB.out))) : w.heap.size ≤ d_z));have e_H:=a_d.mk ((by rw [hg];exact Nat.ne_of_lt (a_Q (bup_ c_t.out)) : d_x ≠ d_z));have e_p:=a_d.mk ((by rw [hg];exact Nat.ne_of_gt (a_Q (bup_ c_t.out)) : d_z ≠ d_x));replace b_I:=a_d.mk (Kd.b_s (Kd.b_R (by (with_reducible repeat (first|apply Kd.b_d|apply Kd.b_e|apply Kd.b_m));exact b_I.out) d_z (Nat.le_of_eq hg.symm)) hb);replace c_t:=a_d.mk (a_i (bup_ c_t.out) hb);replace HB:=a_d.mk (a_o (by repeat (first|(with_reducible first|exact HB.out|apply a_g|apply a_e|apply a_h|refine a_f ?_ e_G.out)|exact HB.out)) hb);clear hb hbox hg;have E_D:=e_H.out;have E_E:=e_p.out;have f_x : w29.cell? ⟨d_x,0,none⟩ = some (.slice A0_0 l0_0.length c0_0):=(a_a c_t.out 0).trans rfl;have f_y : w29.cell? ⟨d_x,1,none⟩ = some (.int .i64 a0_1):=(a_a c_t.out 1).trans rfl;have f_z:=a_b c_t.out 0;have f_A:=a_b c_t.out 1)|((with_reducible refine b_a (f:=14) rfl ?_);refine c_v (some 8) rfl rfl Try.func14 (by kernel_rfl) rfl #[.agg #[.slice A0_0 l0_0.length c0_0,.int .i64 a0_1]] rfl (by (try simp only [List.map_toArray,List.map_cons,List.map_nil]);first|done|rfl|(simp only [List.length_drop,List.length_take];rfl)) ?_;(with_reducible refine (a_E.calls k _ _ l0_0 a0_1 t152 _ ?side1 ?side2 A3.out).mono ?_);(case side1 => repeat (first|exact (Kd.b_W b_I.out).2.2|(with_reducible refine Kd.a_V ?_ _)|(with_reducible refine Kd.a_W ?_ _)|(with_reducible refine Kd.a_5 ?_)));(case side2 => exact (Kd.b_W b_I.out).2.1);rintro e w32 ⟨rfl,hb⟩;refine ⟨_,rfl,?_⟩;replace b_I:=a_d.mk (Kd.b_s (by (with_reducible repeat (first|apply Kd.b_d|apply Kd.b_e|apply Kd.b_m));exact b_I.out) hb);replace c_t:=a_d.mk (a_i (bup_ c_t.out) hb);replace d_0:=a_d.mk (a_i (bup_ d_0.out) hb);replace HB:=a_d.mk (a_o (by repeat (first|(with_reducible first|exact HB.out|apply a_g|apply a_e|apply a_h|refine a_f ?_ e_G.out|refine a_f ?_ i_1.out)|exact HB.out)) hb);(try clear hb);(try clear hb2);(try clear hk);(try clear hi);have f_U : w32.cell? ⟨d_z,0,none⟩ = some (.slice none 0 0):=(a_a d_0.out 0).trans rfl;have f_V : w32.cell? ⟨d_z,1,none⟩ = some (.int .i64 0):=(a_a d_0.out 1).trans rfl;have f_W:=a_b d_0.out 0;have f_X:=a_b d_0.out 1))
  refine bodyPost_ret (c_H rfl _ _ d_z 24 #[.slice none 0 0,.int .i64 0] (0,0) _ rfl (by (with_reducible repeat (first|refine a_l ?_ _|refine a_m ?_|refine a_j ?_ _));refine a_R (cs:=#[.slice none 0 0,.int .i64 0]) ?_ 1 _ rfl;(with_reducible repeat (first|refine a_l ?_ _|refine a_m ?_|refine a_j ?_ _));refine a_R (cs:=#[.slice none 0 0,.int .i64 0]) ?_ 0 _ rfl;(with_reducible repeat (first|refine a_l ?_ _|refine a_m ?_|refine a_j ?_ _));exact d_0.out) Try.underlying24 rfl (by kernel_rfl)) rfl ?_
  exact ⟨_,by first|rfl|(simp [a_w,a_x] <;> rfl)|(simp [*, a_w,a_x] <;> rfl),(Kd.j_e _ _ _ _ _),by repeat (first|(with_reducible first|exact HB.out|apply a_g|apply a_e|apply a_h|refine a_f ?_ e_G.out|refine a_f ?_ i_1.out)|exact HB.out)⟩
 rw [if_pos c4] at H
 have c4b0 : (t152 == 0) = true:=beq_iff_eq.mpr c4
 have c4b1 : (t152 != 0) = false:=bne_eq_false_iff_eq.mpr c4
 clear c4
 by_cases c5 : a1 < a0_1
 ·rw [if_pos c5] at H
  have c5b0 : decide (a1 < a0_1) = true:=decide_eq_true c5
  clear c5
  simp only [Option.some.injEq,Prod.mk.injEq] at H
  obtain ⟨rfl,rfl,rfl⟩:=H
  go_enter Try.func11,Try.ntmps11
  go_wp2_with (first|((with_reducible refine a_J (N:=2) rfl ?_);refine a_C ?hg (N:=2) ?hd (cs:=#[.slice A0_0 l0_0.length c0_0,.int .i64 a0_1]) (t:=24) ?hr ?_;(case hd => rfl);(case hg => rfl);(case hr => first|(go_simp;done)|(go_simp;rfl));intro d_x hg w6 hbox hb;have c_t:=a_d.mk (hbox);have u_v:=a_d.mk ((by rw [hg];exact (a_n (lup_ HB.out)) : w.heap.size ≤ d_x));have e_G:=a_d.mk ((by rw [hg];exact (a_n (lup_ HB.out)) : w.heap.size ≤ d_x));replace b_I:=a_d.mk (Kd.b_s (Kd.b_R (by (with_reducible repeat (first|apply Kd.b_d|apply Kd.b_e|apply Kd.b_m));exact b_I.out) d_x (Nat.le_of_eq hg.symm)) hb);replace HB:=a_d.mk (a_o (lup_ HB.out) hb);clear hb hbox hg)|((with_reducible refine a_J (N:=4) rfl ?_);refine a_C ?hg (N:=4) ?hd (cs:=#[.slice none 0 0,.int .i64 0]) (t:=24) ?hr ?_;(case hd => rfl);(case hg => rfl);(case hr => first|(go_simp;done)|(go_simp;rfl));intro d_z hg w7 hbox hb;have d_0:=a_d.mk (hbox);have u_w:=a_d.mk ((by rw [hg];exact (a_n (by repeat (first|(with_reducible first|exact HB.out|apply a_g|apply a_e|apply a_h|refine a_f ?_ e_G.out)|exact HB.out))) : w.heap.size ≤ d_z));have i_1:=a_d.mk ((by rw [hg];exact (a_n (by repeat (first|(with_reducible first|exact HB.out|apply a_g|apply a_e|apply a_h|refine a_f ?_ e_G.out)|exact HB.out))) : w.heap.size ≤ d_z));have e_H:=a_d.mk ((by rw [hg];exact Nat.ne_of_lt (a_Q (bup_ c_t.out)) : d_x ≠ d_z));have e_p:=a_d.mk ((by rw [hg];exact Nat.ne_of_gt (a_Q (bup_ c_t.out)) : d_z ≠ d_x));replace b_I:=a_d.mk (Kd.b_s (Kd.b_R (by (with_reducible repeat (first|apply Kd.b_d|apply Kd.b_e|apply Kd.b_m));exact b_I.out) d_z (Nat.le_of_eq hg.symm)) hb);replace c_t:=a_d.mk (a_i (bup_ c_t.out) hb);replace HB:=a_d.mk (a_o (by repeat (first|(with_reducible first|exact HB.out|apply a_g|apply a_e|apply a_h|refine a_f ?_ e_G.out)|exact HB.out)) hb);clear hb hbox hg;have hnb8:=e_H.out;have hnc8:=e_p.out;have k_P : w7.cell? ⟨d_x,0,none⟩ = some (.slice A0_0 l0_0.length c0_0):=(a_a c_t.out 0).trans rfl;have k_Q : w7.cell? ⟨d_x,1,none⟩ = some (.int .i64 a0_1):=(a_a c_t.out 1).trans rfl;have k_R:=a_b c_t.out 0;have k_S:=a_b c_t.out 1)|((with_reducible refine b_a (f:=14) rfl ?_);refine c_v (some 8) rfl rfl Try.func14 (by kernel_rfl) rfl #[.agg #[.slice A0_0 l0_0.length c0_0,.int .i64 a0_1]] rfl (by (try simp only [List.map_toArray,List.map_cons,List.map_nil]);first|done|rfl|(simp only [List.length_drop,List.length_take];rfl)) ?_;(with_reducible refine (a_E.calls k _ _ l0_0 a0_1 t152 _ ?side1 ?side2 A3.out).mono ?_);(case side1 => repeat (first|exact (Kd.b_W b_I.out).2.2|(with_reducible refine Kd.a_V ?_ _)|(with_reducible refine Kd.a_W ?_ _)|(with_reducible refine Kd.a_5 ?_)));(case side2 => exact (Kd.b_W b_I.out).2.1);rintro e w10 ⟨rfl,hb⟩;refine ⟨_,rfl,?_⟩;replace b_I:=a_d.mk (Kd.b_s (by (with_reducible repeat (first|apply Kd.b_d|apply Kd.b_e|apply Kd.b_m));exact b_I.out) hb);replace c_t:=a_d.mk (a_i (bup_ c_t.out) hb);replace d_0:=a_d.mk (a_i (bup_ d_0.out) hb);replace HB:=a_d.mk (a_o (by repeat (first|(with_reducible first|exact HB.out|apply a_g|apply a_e|apply a_h|refine a_f ?_ e_G.out|refine a_f ?_ i_1.out)|exact HB.out)) hb);(try clear hb);(try clear hb2);(try clear hk);(try clear hi);have l_p : w10.cell? ⟨d_x,0,none⟩ = some (.slice A0_0 l0_0.length c0_0):=(a_a c_t.out 0).trans rfl;have l_q : w10.cell? ⟨d_x,1,none⟩ = some (.int .i64 a0_1):=(a_a c_t.out 1).trans rfl;have l_r:=a_b c_t.out 0;have h_Q:=a_b c_t.out 1;have e_0 : w10.cell? ⟨d_z,0,none⟩ = some (.slice none 0 0):=(a_a d_0.out 0).trans rfl;have e_1 : w10.cell? ⟨d_z,1,none⟩ = some (.int .i64 0):=(a_a d_0.out 1).trans rfl;have e_2:=a_b d_0.out 0;have e_3:=a_b d_0.out 1))
  refine bodyPost_ret (c_H rfl _ _ d_z 24 #[.slice none 0 0,.int .i64 0] (0,0) _ rfl (by (with_reducible repeat (first|refine a_l ?_ _|refine a_m ?_|refine a_j ?_ _));refine a_R (cs:=#[.slice none 0 0,.int .i64 0]) ?_ 1 _ rfl;(with_reducible repeat (first|refine a_l ?_ _|refine a_m ?_|refine a_j ?_ _));refine a_R (cs:=#[.slice none 0 0,.int .i64 0]) ?_ 0 _ rfl;(with_reducible repeat (first|refine a_l ?_ _|refine a_m ?_|refine a_j ?_ _));exact d_0.out) Try.underlying24 rfl (by kernel_rfl)) rfl ?_
  exact ⟨_,by first|rfl|(simp [a_w,a_x] <;> rfl)|(simp [*, a_w,a_x] <;> rfl),(Kd.j_e _ _ _ _ _),by repeat (first|(with_reducible first|exact HB.out|apply a_g|apply a_e|apply a_h|refine a_f ?_ e_G.out|refine a_f ?_ i_1.out)|exact HB.out)⟩
 rw [if_neg c5] at H
 have c5b0 : decide (a1 < a0_1) = false:=decide_eq_false c5
 clear c5
 by_cases c13 : a1 > 1125899906842624
 ·rw [if_pos c13] at H
  have c13b0 : decide (1125899906842624 < a1) = true:=decide_eq_true c13
  clear c13
  simp only [Option.some.injEq,Prod.mk.injEq] at H
  obtain ⟨rfl,rfl,rfl⟩:=H
  go_enter Try.func11,Try.ntmps11
  go_wp2_with (first|((with_reducible refine a_J (N:=2) rfl ?_);refine a_C ?hg (N:=2) ?hd (cs:=#[.slice A0_0 l0_0.length c0_0,.int .i64 a0_1]) (t:=24) ?hr ?_;(case hd => rfl);(case hg => rfl);(case hr => first|(go_simp;done)|(go_simp;rfl));intro d_x hg w14 hbox hb;have c_t:=a_d.mk (hbox);have u_v:=a_d.mk ((by rw [hg];exact (a_n (lup_ HB.out)) : w.heap.size ≤ d_x));have e_G:=a_d.mk ((by rw [hg];exact (a_n (lup_ HB.out)) : w.heap.size ≤ d_x));replace b_I:=a_d.mk (Kd.b_s (Kd.b_R (by (with_reducible repeat (first|apply Kd.b_d|apply Kd.b_e|apply Kd.b_m));exact b_I.out) d_x (Nat.le_of_eq hg.symm)) hb);replace HB:=a_d.mk (a_o (lup_ HB.out) hb);clear hb hbox hg)|((with_reducible refine a_J (N:=4) rfl ?_);refine a_C ?hg (N:=4) ?hd (cs:=#[.slice none 0 0,.int .i64 0]) (t:=24) ?hr ?_;(case hd => rfl);(case hg => rfl);(case hr => first|(go_simp;done)|(go_simp;rfl));intro d_z hg w15 hbox hb;have d_0:=a_d.mk (hbox);have u_w:=a_d.mk ((by rw [hg];exact (a_n (by repeat (first|(with_reducible first|exact HB.out|apply a_g|apply a_e|apply a_h|refine a_f ?_ e_G.out)|exact HB.out))) : w.heap.size ≤ d_z));have i_1:=a_d.mk ((by rw [hg];exact (a_n (by repeat (first|(with_reducible first|exact HB.out|apply a_g|apply a_e|apply a_h|refine a_f ?_ e_G.out)|exact HB.out))) : w.heap.size ≤ d_z));have e_H:=a_d.mk ((by rw [hg];exact Nat.ne_of_lt (a_Q (bup_ c_t.out)) : d_x ≠ d_z));have e_p:=a_d.mk ((by rw [hg];exact Nat.ne_of_gt (a_Q (bup_ c_t.out)) : d_z ≠ d_x));replace b_I:=a_d.mk (Kd.b_s (Kd.b_R (by (with_reducible repeat (first|apply Kd.b_d|apply Kd.b_e|apply Kd.b_m));exact b_I.out) d_z (Nat.le_of_eq hg.symm)) hb);replace c_t:=a_d.mk (a_i (bup_ c_t.out) hb);replace HB:=a_d.mk (a_o (by repeat (first|(with_reducible first|exact HB.out|apply a_g|apply a_e|apply a_h|refine a_f ?_ e_G.out)|exact HB.out)) hb);clear hb hbox hg;have H_E:=e_H.out;have H_F:=e_p.out;have E_M : w15.cell? ⟨d_x,0,none⟩ = some (.slice A0_0 l0_0.length c0_0):=(a_a c_t.out 0).trans rfl;have E_N : w15.cell? ⟨d_x,1,none⟩ = some (.int .i64 a0_1):=(a_a c_t.out 1).trans rfl;have E_O:=a_b c_t.out 0;have E_P:=a_b c_t.out 1)|((with_reducible refine b_a (f:=14) rfl ?_);refine c_v (some 8) rfl rfl Try.func14 (by kernel_rfl) rfl #[.agg #[.slice A0_0 l0_0.length c0_0,.int .i64 a0_1]] rfl (by (try simp only [List.map_toArray,List.map_cons,List.map_nil]);first|done|rfl|(simp only [List.length_drop,List.length_take];rfl)) ?_;(with_reducible refine (a_E.calls k _ _ l0_0 a0_1 t152 _ ?side1 ?side2 A3.out).mono ?_);(case side1 => repeat (first|exact (Kd.b_W b_I.out).2.2|(with_reducible refine Kd.a_V ?_ _)|(with_reducible refine Kd.a_W ?_ _)|(with_reducible refine Kd.a_5 ?_)));(case side2 => exact (Kd.b_W b_I.out).2.1);rintro e w18 ⟨rfl,hb⟩;refine ⟨_,rfl,?_⟩;replace b_I:=a_d.mk (Kd.b_s (by (with_reducible repeat (first|apply Kd.b_d|apply Kd.b_e|apply Kd.b_m));exact b_I.out) hb);replace c_t:=a_d.mk (a_i (bup_ c_t.out) hb);replace d_0:=a_d.mk (a_i (bup_ d_0.out) hb);replace HB:=a_d.mk (a_o (by repeat (first|(with_reducible first|exact HB.out|apply a_g|apply a_e|apply a_h|refine a_f ?_ e_G.out|refine a_f ?_ i_1.out)|exact HB.out)) hb);(try clear hb);(try clear hb2);(try clear hk);(try clear hi);have j_I : w18.cell? ⟨d_x,0,none⟩ = some (.slice A0_0 l0_0.length c0_0):=(a_a c_t.out 0).trans rfl;have j_J : w18.cell? ⟨d_x,1,none⟩ = some (.int .i64 a0_1):=(a_a c_t.out 1).trans rfl;have j_K:=a_b c_t.out 0;have j_L:=a_b c_t.out 1;have i_z : w18.cell? ⟨d_z,0,none⟩ = some (.slice none 0 0):=(a_a d_0.out 0).trans rfl;have k_e : w18.cell? ⟨d_z,1,none⟩ = some (.int .i64 0):=(a_a d_0.out 1).trans rfl;have i_A:=a_b d_0.out 0;have k_f:=a_b d_0.out 1))
  refine bodyPost_ret (c_H rfl _ _ d_z 24 #[.slice none 0 0,.int .i64 0] (0,0) _ rfl (by (with_reducible repeat (first|refine a_l ?_ _|refine a_m ?_|refine a_j ?_ _));refine a_R (cs:=#[.slice none 0 0,.int .i64 0]) ?_ 1 _ rfl;(with_reducible repeat (first|refine a_l ?_ _|refine a_m ?_|refine a_j ?_ _));refine a_R (cs:=#[.slice none 0 0,.int .i64 0]) ?_ 0 _ rfl;(with_reducible repeat (first|refine a_l ?_ _|refine a_m ?_|refine a_j ?_ _));exact d_0.out) Try.underlying24 rfl (by kernel_rfl)) rfl ?_
  exact ⟨_,by first|rfl|(simp [a_w,a_x] <;> rfl)|(simp [*, a_w,a_x] <;> rfl),(Kd.j_e _ _ _ _ _),by repeat (first|(with_reducible first|exact HB.out|apply a_g|apply a_e|apply a_h|refine a_f ?_ e_G.out|refine a_f ?_ i_1.out)|exact HB.out)⟩
 rw [if_neg c13] at H
 have c13b0 : decide (1125899906842624 < a1) = false:=decide_eq_false c13
 clear c13
 simp only [Option.some.injEq,Prod.mk.injEq] at H
 obtain ⟨rfl,rfl,rfl⟩:=H
 go_enter Try.func11,Try.ntmps11
 go_wp2_with (first|((with_reducible refine a_J (N:=2) rfl ?_);refine a_C ?hg (N:=2) ?hd (cs:=#[.slice A0_0 l0_0.length c0_0,.int .i64 a0_1]) (t:=24) ?hr ?_;(case hd => rfl);(case hg => rfl);(case hr => first|(go_simp;done)|(go_simp;rfl));intro d_x hg w21 hbox hb;have c_t:=a_d.mk (hbox);have u_v:=a_d.mk ((by rw [hg];exact (a_n (lup_ HB.out)) : w.heap.size ≤ d_x));have e_G:=a_d.mk ((by rw [hg];exact (a_n (lup_ HB.out)) : w.heap.size ≤ d_x));replace b_I:=a_d.mk (Kd.b_s (Kd.b_R (by (with_reducible repeat (first|apply Kd.b_d|apply Kd.b_e|apply Kd.b_m));exact b_I.out) d_x (Nat.le_of_eq hg.symm)) hb);replace HB:=a_d.mk (a_o (lup_ HB.out) hb);clear hb hbox hg)|((with_reducible refine a_J (N:=4) rfl ?_);refine a_C ?hg (N:=4) ?hd (cs:=#[.slice none 0 0,.int .i64 0]) (t:=24) ?hr ?_;(case hd => rfl);(case hg => rfl);(case hr => first|(go_simp;done)|(go_simp;rfl));intro d_z hg w22 hbox hb;have d_0:=a_d.mk (hbox);have u_w:=a_d.mk ((by rw [hg];exact (a_n (by repeat (first|(with_reducible first|exact HB.out|apply a_g|apply a_e|apply a_h|refine a_f ?_ e_G.out)|exact HB.out))) : w.heap.size ≤ d_z));have i_1:=a_d.mk ((by rw [hg];exact (a_n (by repeat (first|(with_reducible first|exact HB.out|apply a_g|apply a_e|apply a_h|refine a_f ?_ e_G.out)|exact HB.out))) : w.heap.size ≤ d_z));have e_H:=a_d.mk ((by rw [hg];exact Nat.ne_of_lt (a_Q (bup_ c_t.out)) : d_x ≠ d_z));have e_p:=a_d.mk ((by rw [hg];exact Nat.ne_of_gt (a_Q (bup_ c_t.out)) : d_z ≠ d_x));replace b_I:=a_d.mk (Kd.b_s (Kd.b_R (by (with_reducible repeat (first|apply Kd.b_d|apply Kd.b_e|apply Kd.b_m));exact b_I.out) d_z (Nat.le_of_eq hg.symm)) hb);replace c_t:=a_d.mk (a_i (bup_ c_t.out) hb);replace HB:=a_d.mk (a_o (by repeat (first|(with_reducible first|exact HB.out|apply a_g|apply a_e|apply a_h|refine a_f ?_ e_G.out)|exact HB.out)) hb);clear hb hbox hg;have u_x:=e_H.out;have u_y:=e_p.out;have i_2 : w22.cell? ⟨d_x,0,none⟩ = some (.slice A0_0 l0_0.length c0_0):=(a_a c_t.out 0).trans rfl;have i_3 : w22.cell? ⟨d_x,1,none⟩ = some (.int .i64 a0_1):=(a_a c_t.out 1).trans rfl;have i_4:=a_b c_t.out 0;have i_5:=a_b c_t.out 1)|((with_reducible refine b_a (f:=14) rfl ?_);refine c_v (some 8) rfl rfl Try.func14 (by kernel_rfl) rfl #[.agg #[.slice A0_0 l0_0.length c0_0,.int .i64 a0_1]] rfl (by (try simp only [List.map_toArray,List.map_cons,List.map_nil]);first|done|rfl|(simp only [List.length_drop,List.length_take];rfl)) ?_;(with_reducible refine (a_E.calls k _ _ l0_0 a0_1 t152 _ ?side1 ?side2 A3.out).mono ?_);(case side1 => repeat (first|exact (Kd.b_W b_I.out).2.2|(with_reducible refine Kd.a_V ?_ _)|(with_reducible refine Kd.a_W ?_ _)|(with_reducible refine Kd.a_5 ?_)));(case side2 => exact (Kd.b_W b_I.out).2.1);rintro e w25 ⟨rfl,hb⟩;refine ⟨_,rfl,?_⟩;replace b_I:=a_d.mk (Kd.b_s (by (with_reducible repeat (first|apply Kd.b_d|apply Kd.b_e|apply Kd.b_m));exact b_I.out) hb);replace c_t:=a_d.mk (a_i (bup_ c_t.out) hb);replace d_0:=a_d.mk (a_i (bup_ d_0.out) hb);replace HB:=a_d.mk (a_o (by repeat (first|(with_reducible first|exact HB.out|apply a_g|apply a_e|apply a_h|refine a_f ?_ e_G.out|refine a_f ?_ i_1.out)|exact HB.out)) hb);(try clear hb);(try clear hb2);(try clear hk);(try clear hi);have f_B : w25.cell? ⟨d_x,0,none⟩ = some (.slice A0_0 l0_0.length c0_0):=(a_a c_t.out 0).trans rfl;have f_C : w25.cell? ⟨d_x,1,none⟩ = some (.int .i64 a0_1):=(a_a c_t.out 1).trans rfl;have f_D:=a_b c_t.out 0;have f_E:=a_b c_t.out 1;have g_i : w25.cell? ⟨d_z,0,none⟩ = some (.slice none 0 0):=(a_a d_0.out 0).trans rfl;have g_j : w25.cell? ⟨d_z,1,none⟩ = some (.int .i64 0):=(a_a d_0.out 1).trans rfl;have g_k:=a_b d_0.out 0;have g_l:=a_b d_0.out 1))
 refine bodyPost_ret (c_H rfl _ _ d_z 24 #[.slice A0_0 l0_0.length c0_0,.int .i64 a1] (0,0) _ rfl (by (with_reducible repeat (first|refine a_l ?_ _|refine a_m ?_|refine a_j ?_ _));refine a_R (cs:=#[.slice A0_0 l0_0.length c0_0,.int .i64 0]) ?_ 1 _ rfl;(with_reducible repeat (first|refine a_l ?_ _|refine a_m ?_|refine a_j ?_ _));refine a_R (cs:=#[.slice none 0 0,.int .i64 0]) ?_ 0 _ rfl;(with_reducible repeat (first|refine a_l ?_ _|refine a_m ?_|refine a_j ?_ _));refine a_L ?_ e_p.out _;(with_reducible repeat (first|refine a_l ?_ _|refine a_m ?_|refine a_j ?_ _));exact d_0.out) Try.underlying24 rfl (by kernel_rfl)) rfl ?_
 exact ⟨_,by first|rfl|(simp [a_w,a_x] <;> rfl)|(simp [*, a_w,a_x] <;> rfl),by (with_reducible repeat (first|apply Kd.b_d|apply Kd.b_e|apply Kd.b_m));exact Kd.d_y (Kd.k_7 (p:=⟨d_z,1,none⟩) (Kd.k_7 (p:=⟨d_z,0,none⟩) (Kd.k_7 (p:=⟨d_x,1,none⟩) (Kd.d_y (Kd.d_y b_I.out (fun k_ hk => (⟨hk,hk.1.2⟩ : _ ∧ k_ ≠ d_x))) (fun k_ hk => (⟨hk,hk.1.2⟩ : _ ∧ k_ ≠ d_z))) (fun _ hk => hk.1.2) (.int .i64 a1)) (fun _ hk => hk.2) (.slice A0_0 l0_0.length c0_0)) (fun _ hk => hk.2) (.int .i64 a1)) (fun _ hk => hk.1.1.1.1),by repeat (first|(with_reducible first|exact HB.out|apply a_g|apply a_e|apply a_h|refine a_f ?_ e_G.out|refine a_f ?_ i_1.out)|exact HB.out)⟩
end Go.Proofs.Ytgglkfilkagblaa.Q
end
section
namespace Go.Proofs.Ytgglkfilkagblaa.Q
open Go.RowKit Go.Proofs.YtgglkfilkagblaaW.PrintWords Go.Proofs.YtgglkfilkagblaaW.PrintLast Go.Proofs.YtgglkfilkagblaaW.PrintMore
set_option linter.unusedVariables false
set_option linter.unusedSimpArgs false
section
def b_t.f  : Option (Int × (List (S65))):=some (0,(([(⟨1,1,0,0,0,true,false,3,256,2,50⟩ : S65),(⟨2,1,0,0,(-1),true,false,3,256,2,50⟩ : S65)] : List (S65))))
theorem s_d {W : World} {base g : Nat} (x y : S65) {cs : List Value} (hc : cs = [.int .i64 x.f0,.int .i64 x.f1,.int .i64 x.f2,.int .i64 x.f3,.int .i64 x.f4,.bool x.f5,.bool x.f6,.int .u32 x.f7,.int .i64 x.f8,.int .i64 x.f9,.int .i64 x.f10] ++ [.int .i64 y.f0,.int .i64 y.f1,.int .i64 y.f2,.int .i64 y.f3,.int .i64 y.f4,.bool y.f5,.bool y.f6,.int .u32 y.f7,.int .i64 y.f8,.int .i64 y.f9,.int .i64 y.f10])
 (h : W.heap[g]? = some (.cells cs.toArray 65 (0,0))) (hb : base ≤ g) : Kd.R k65 65 W base (fun _ => True) (.slice (some ⟨g,0,none⟩) 2 2) [x,y]:=by
 subst hc
 refine ⟨fun _ _ => trivial,_,⟨rfl,.inr ⟨g,2,_,rfl,hb,h,Nat.le_refl _,by decide,rfl,rfl⟩⟩,?_⟩
 exact ((Reps.none (k65.M W base (fun _ => True)) 11).snoc (p:=x) (o_m _ _ _ x) rfl).snoc (p:=y) (o_m _ _ _ y) rfl
set_option maxHeartbeats 1000000 in
set_option maxRecDepth 100000 in
theorem b_t.calls (r1 : Int) (r2 : List (S65)) (w : World) (h : b_t.f  = some (r1,r2)) :
 Calls Try.prog 22 #[] w fun e w' => ∃ v1_ : Value,e = .returned (.agg #[.int .i64 r1,v1_]) ∧ Kd.R k65 65 w' w.heap.size (fun _ => True) v1_ r2 ∧ Below w.heap.size w w':=by
 cases h
 have hu27_:=Try.underlying27
 have hu65_:=Try.underlying65
 go_enter Try.func22,Try.ntmps22
 go_wp2
 refine bodyPost_ret (results_cell_row rfl _ _ w.heap.size 27 #[.int .i64 0,.slice (some ⟨w.heap.size + 1 + 1 + 1,0,none⟩) 2 2] (0,0) _ rfl (a_j (a_j (a_j (c_7 w _) _) _) _) Try.underlying27 rfl (by kernel_rfl)) rfl ?_
 refine ⟨_,rfl,s_d _ _ rfl (by
  have:=c_7 (((w.alloc (.cells #[.int .i64 0,.slice (some ⟨w.heap.size + 1 + 1 + 1,0,none⟩) 2 2] 27)).alloc (.cells #[.int .i64 1,.int .i64 1,.int .i64 0,.int .i64 0,.int .i64 0,.bool true,.bool false,.int .u32 3,.int .i64 256,.int .i64 2,.int .i64 50] 65)).alloc (.cells #[.int .i64 2,.int .i64 1,.int .i64 0,.int .i64 0,.int .i64 (-1),.bool true,.bool false,.int .u32 3,.int .i64 256,.int .i64 2,.int .i64 50] 65)) (.cells #[.int .i64 1,.int .i64 1,.int .i64 0,.int .i64 0,.int .i64 0,.bool true,.bool false,.int .u32 3,.int .i64 256,.int .i64 2,.int .i64 50,.int .i64 2,.int .i64 1,.int .i64 0,.int .i64 0,.int .i64 (-1),.bool true,.bool false,.int .u32 3,.int .i64 256,.int .i64 2,.int .i64 50] 65)
  simp only [World.size_alloc] at this
  exact this) (by omega),a_g (a_g (a_g (a_g (Below.refl _ _) _) _) _) _⟩
end
end Go.Proofs.Ytgglkfilkagblaa.Q
end
section
namespace Go.Proofs.Ytgglkfilkagblaa.Q
open Go.RowKit Go.Proofs.YtgglkfilkagblaaW.PrintWords Go.Proofs.YtgglkfilkagblaaW.PrintLast Go.Proofs.YtgglkfilkagblaaW.PrintMore
set_option linter.unusedVariables false
set_option linter.unusedSimpArgs false
def e_M.f (a0 : Int) : Option (Int):=if a0 < 0 then (some 0) else (if a0 ≥ 8 then (some 0) else (if 0 ≤ a0 then (some (shl .u32 1 a0)) else (none)))
set_option maxHeartbeats 8000000 in
set_option maxRecDepth 100000 in
theorem e_M.calls (a0 : Int) (r : Int) (w : World) (h : e_M.f a0 = some r) :
 Calls Try.prog 79 #[.int .i64 a0] w fun e w' => e = .returned (.int .u32 r) ∧ c_F w w':=by
 have H : (if a0 < 0 then (some 0) else (if a0 ≥ 8 then (some 0) else (if 0 ≤ a0 then (some (shl .u32 1 a0)) else (none)))) = some r:=h
 clear h
 by_cases c2 : a0 < 0
 ·rw [if_pos c2] at H
  have c2b0 : decide (a0 < 0) = true:=decide_eq_true c2
  clear c2
  obtain rfl:=Option.some.inj H
  go_enter Try.func79,Try.ntmps79
  go_wp2
  go_ret
  exact ⟨by first|rfl|(simp;done)|(simp [*];done),by repeat (first|exact c_F.refl _|apply c_F.step)⟩
 rw [if_neg c2] at H
 have c2b0 : decide (a0 < 0) = false:=decide_eq_false c2
 clear c2
 by_cases c3 : a0 ≥ 8
 ·rw [if_pos c3] at H
  have c3b0 : decide (8 ≤ a0) = true:=decide_eq_true c3
  clear c3
  obtain rfl:=Option.some.inj H
  go_enter Try.func79,Try.ntmps79
  go_wp2
  go_ret
  exact ⟨by first|rfl|(simp;done)|(simp [*];done),by repeat (first|exact c_F.refl _|apply c_F.step)⟩
 rw [if_neg c3] at H
 have c3b0 : decide (8 ≤ a0) = false:=decide_eq_false c3
 clear c3
 by_cases c4 : 0 ≤ a0
 rotate_left
 ·rw [if_neg c4] at H
  exact absurd H (by simp)
 rw [if_pos c4] at H
 have c4b0:=eq_true c4
 have c4b1 : decide (0 ≤ a0) = true:=decide_eq_true c4
 clear c4
 obtain ⟨ji5,hji5⟩ : ∃ j_ : Int,(shl .u32 1 a0) = j_:=⟨_,rfl⟩
 replace H : (some ji5) = some r:=by first|(rw [hji5] at H;exact H)|(simp only [hji5] at H ⊢; exact H)
 have hji5_ : (IntKind.u32.wrap (1 * 2 ^ min a0.toNat 32)) = ji5:=hji5
 have hji5z : a0 ≤ 32 → (IntKind.u32.wrap (1 * 2 ^ a0.toNat)) = ji5:=k_o hji5
 have hji5u : (IntKind.u32.wrap (2 ^ min a0.toNat 32)) = ji5:=by have h_:=hji5_;rw [Int.one_mul] at h_;exact h_
 have hji5v : a0 ≤ 32 → (IntKind.u32.wrap (2 ^ a0.toNat)) = ji5:=fun hle_ => by have h_:=hji5z hle_;rw [Int.one_mul] at h_;exact h_
 obtain rfl:=Option.some.inj H
 go_enter Try.func79,Try.ntmps79
 go_wp2
 go_ret
 exact ⟨by first|rfl|(simp;done)|(simp only [← hji5] <;> (first|rfl|simp))|(simp [*];done),by repeat (first|exact c_F.refl _|apply c_F.step)⟩
end Go.Proofs.Ytgglkfilkagblaa.Q
end
section
namespace Go.Proofs.Ytgglkfilkagblaa.Q
open Go.RowKit Go.Proofs.YtgglkfilkagblaaW.PrintWords Go.Proofs.YtgglkfilkagblaaW.PrintLast Go.Proofs.YtgglkfilkagblaaW.PrintMore
set_option linter.unusedVariables false
set_option linter.unusedSimpArgs false
def b_2.f (a0 : Int) (a1 : Int) : Option (Bool):=(e_M.f a1).bind fun t159 => (some ((Go.bits .and .u32 a0 t159) != 0))
set_option maxHeartbeats 8000000 in
set_option maxRecDepth 100000 in
theorem b_2.calls (a0 : Int) (a1 : Int) (r : Bool) (w : World) (h : b_2.f a0 a1 = some r) :
 Calls Try.prog 50 #[.int .u32 a0,.int .i64 a1] w fun e w' => e = .returned (.bool r) ∧ c_F w w':=by
 have H : ((e_M.f a1).bind fun t159 => (some ((Go.bits .and .u32 a0 t159) != 0))) = some r:=h
 clear h
 replace H:=Option.bind_eq_some_iff.mp H
 obtain ⟨t159,A30,H⟩:=H
 replace H : (some ((Go.bits .and .u32 a0 t159) != 0)) = some r:=H
 have A3:=a_d.mk A30
 clear A30
 obtain rfl:=Option.some.inj H
 go_enter Try.func50,Try.ntmps50
 go_wp2_with (first|((with_reducible refine b_a (f:=79) rfl ?_);refine c_v (some 7) rfl rfl Try.func79 (by kernel_rfl) rfl #[.int .i64 a1] rfl (by (try simp only [List.map_toArray,List.map_cons,List.map_nil]);first|done|rfl|(simp only [List.length_drop,List.length_take];rfl)) ?_;(with_reducible refine (e_M.calls a1 t159 _ A3.out).mono ?_);rintro e w' ⟨rfl,⟨nd,rfl⟩⟩;refine ⟨_,rfl,?_⟩))
 go_ret
 exact ⟨by first|rfl|(simp;done)|(simp [*];done),by repeat (first|exact c_F.refl _|apply c_F.step)⟩
end Go.Proofs.Ytgglkfilkagblaa.Q
end
section
namespace Go.Proofs.Ytgglkfilkagblaa.Q
open Go.RowKit Go.Proofs.YtgglkfilkagblaaW.PrintWords Go.Proofs.YtgglkfilkagblaaW.PrintLast Go.Proofs.YtgglkfilkagblaaW.PrintMore
set_option linter.unusedVariables false
set_option linter.unusedSimpArgs false
def a_2.l0 : Nat → Int → List (S65) → Int → Int → Option (Bool)
 | 0,_,_,_,_ => none
 | k + 1,x3,x10,x11,x12 => if x12 < x11 then (if 0 ≤ x12 then (if x12 < (x10.length : Int) then (if ((a_c x10 x12).f4) = (-1) then (a_2.l0 k x3 x10 x11 (wrap64 (x12 + 1))) else (if ((a_c x10 x12).f5 = true) then (if (a_c x10 x12).f6 = true then (some false) else ((b_2.f ((a_c x10 x12).f7) ((a_c x10 x12).f4)).bind fun t164 => (if t164 = true then ((b_2.f x3 ((a_c x10 x12).f4)).bind fun t165 => (if t165 = true then (some false) else (if 0 ≤ ((a_c x10 x12).f4) then (a_2.l0 k (Go.bits .or .u32 x3 (shl .u32 1 ((a_c x10 x12).f4))) x10 x11 (wrap64 (x12 + 1))) else (none)))) else (some false)))) else (some false))) else (none)) else (none)) else (some true)
def a_2.f (k : Nat) (a0_0 : Int) (l0_1 : List (S65)) : Option (Bool):=(a_H.f k a0_0 l0_1).bind fun t161 => (if t161 = true then (a_2.l0 k 0 l0_1 (l0_1.length : Int) 0) else (some false))
theorem a_2.c_w : ∀ k,(∀ y0 y1 y2 y3,LeO (a_2.l0 k y0 y1 y2 y3) (a_2.l0 (k + 1) y0 y1 y2 y3))
 | 0 => fun _ _ _ _ r h => by simp [a_2.l0] at h
 | k + 1 => by
  have ih0:=a_2.c_w k
  ·intro y0 y1 y2 y3
   unfold a_2.l0
   repeat' first
   | (with_reducible exact ih0 _ _ _ _)
   | (with_reducible exact a_H.mono _ _ _)
   | (with_reducible exact LeO.refl _)
   | (with_reducible exact LeO.none _)
   | (with_reducible refine LeO.ite ?_ ?_)
   | (with_reducible refine LeO.bind ?_ (fun _ => ?_))
   | exact ih0 _ _ _ _
   | exact a_H.mono _ _ _
   | exact LeO.none _
   | refine LeO.ite ?_ ?_
   | refine LeO.bind ?_ (fun _ => ?_)
theorem a_2.mono : ∀ a0 a1 k,LeO (a_2.f k a0 a1) (a_2.f (k + 1) a0 a1):=by
 intro a0 a1 k
 have ih0:=a_2.c_w k
 unfold a_2.f
 repeat' first
  | (with_reducible exact ih0 _ _ _ _)
  | (with_reducible exact a_H.mono _ _ _)
  | (with_reducible exact LeO.refl _)
  | (with_reducible exact LeO.none _)
  | (with_reducible refine LeO.ite ?_ ?_)
  | (with_reducible refine LeO.bind ?_ (fun _ => ?_))
  | exact ih0 _ _ _ _
  | exact a_H.mono _ _ _
  | exact LeO.none _
  | refine LeO.ite ?_ ?_
  | refine LeO.bind ?_ (fun _ => ?_)
set_option maxHeartbeats 8000000 in
set_option maxRecDepth 100000 in
theorem a_2.calls (k : Nat) (a0_0 : Int) (A0_1 : Option Addr) (c0_1 : Nat) (l0_1 : List (S65)) (r : Bool) (w : World) (hr0_1 : Kd.C k65 w A0_1 l0_1.length l0_1) (hc0_1 : l0_1.length ≤ c0_1) (h : a_2.f k a0_0 l0_1 = some r) :
 Calls Try.prog 23 #[.agg #[.int .i64 a0_0,.slice A0_1 l0_1.length c0_1]] w fun e w' => e = .returned (.bool r) ∧ Below w.heap.size w w':=by
 have hu27:=Try.underlying27
 have hu65:=Try.underlying65
 have d_i:=a_d.mk hr0_1
 have f_j:=a_d.mk hc0_1
 clear hr0_1 hc0_1
 have HB:=a_d.mk (Below.refl w.heap.size w)
 have H : ((a_H.f k a0_0 l0_1).bind fun t161 => (if t161 = true then (a_2.l0 k 0 l0_1 (l0_1.length : Int) 0) else (some false))) = some r:=h
 clear h
 replace H:=Option.bind_eq_some_iff.mp H
 obtain ⟨t161,A20,H⟩:=H
 replace H : (if t161 = true then (a_2.l0 k 0 l0_1 (l0_1.length : Int) 0) else (some false)) = some r:=H
 have A2:=a_d.mk A20
 clear A20
 by_cases c3 : t161 = true
 rotate_left
 ·replace c3:=Bool.eq_false_iff.mpr c3
  subst c3
  have H1 : (some false) = some r:=by rw [if_neg (show ¬ (false = true) by decide)] at H;exact H
  clear H
  have H:=H1
  clear H1
  obtain rfl:=Option.some.inj H
  go_enter Try.func23,Try.ntmps23
  go_wp2_with (first|((with_reducible refine a_J (N:=1) rfl ?_);refine a_C ?hg (N:=1) ?hd (cs:=#[.int .i64 a0_0,.slice A0_1 l0_1.length c0_1]) (t:=27) ?hr ?_;(case hd => rfl);(case hg => rfl);(case hr => first|(go_simp;done)|(go_simp;rfl));intro e_u hg w40 hbox hb;have c_4:=a_d.mk (hbox);have E_Q:=a_d.mk ((by rw [hg];exact (a_n (lup_ HB.out)) : w.heap.size ≤ e_u));have d_4:=a_d.mk ((by rw [hg];exact (a_n (lup_ HB.out)) : w.heap.size ≤ e_u));replace HB:=a_d.mk (a_o (lup_ HB.out) hb);clear hb hbox hg;have E_R : w40.cell? ⟨e_u,0,none⟩ = some (.int .i64 a0_0):=(a_a c_4.out 0).trans rfl;have E_S : w40.cell? ⟨e_u,1,none⟩ = some (.slice A0_1 l0_1.length c0_1):=(a_a c_4.out 1).trans rfl;have E_T:=a_b c_4.out 0;have E_U:=a_b c_4.out 1)|((with_reducible refine b_a (f:=24) rfl ?_);refine c_v (some 7) rfl rfl Try.func24 (by kernel_rfl) rfl #[.agg #[.int .i64 a0_0,.slice A0_1 l0_1.length c0_1]] rfl (by (try simp only [List.map_toArray,List.map_cons,List.map_nil]);first|done|rfl|(simp only [List.length_drop,List.length_take];rfl)) ?_;(with_reducible refine (a_H.calls k a0_0 _ _ l0_1 false _ ?side1 ?side2 A2.out).mono ?_);(case side1 => repeat (first|exact (Kd.a_U d_i.out HB.out)|(with_reducible refine Kd.a_V ?_ _)|(with_reducible refine Kd.a_W ?_ _)|(with_reducible refine Kd.a_5 ?_)));(case side2 => exact f_j.out);rintro e w42 ⟨rfl,hb⟩;refine ⟨_,rfl,?_⟩;replace c_4:=a_d.mk (a_i (bup_ c_4.out) hb);replace HB:=a_d.mk (a_o (by repeat (first|(with_reducible first|exact HB.out|apply a_g|apply a_e|apply a_h|refine a_f ?_ d_4.out)|exact HB.out)) hb);(try clear hb);(try clear hb2);(try clear hk);(try clear hi)))
  go_ret
  exact ⟨by first|rfl|(simp [a_w,a_x] <;> rfl)|(simp [*, a_w,a_x] <;> rfl),by repeat (first|(with_reducible first|exact HB.out|apply a_g|apply a_e|apply a_h|refine a_f ?_ d_4.out)|exact HB.out)⟩
 subst c3
 have H1 : (a_2.l0 k 0 l0_1 (l0_1.length : Int) 0) = some r:=by rw [if_pos rfl] at H;exact H
 clear H
 have H:=H1
 clear H1
 have H':=a_d.mk H
 clear H
 go_enter Try.func23,Try.ntmps23
 go_wp2_with (first|((with_reducible refine a_J (N:=1) rfl ?_);refine a_C ?hg (N:=1) ?hd (cs:=#[.int .i64 a0_0,.slice A0_1 l0_1.length c0_1]) (t:=27) ?hr ?_;(case hd => rfl);(case hg => rfl);(case hr => first|(go_simp;done)|(go_simp;rfl));intro e_u hg w4 hbox hb;have c_4:=a_d.mk (hbox);have E_Q:=a_d.mk ((by rw [hg];exact (a_n (lup_ HB.out)) : w.heap.size ≤ e_u));have d_4:=a_d.mk ((by rw [hg];exact (a_n (lup_ HB.out)) : w.heap.size ≤ e_u));replace HB:=a_d.mk (a_o (lup_ HB.out) hb);clear hb hbox hg;have f_f : w4.cell? ⟨e_u,0,none⟩ = some (.int .i64 a0_0):=(a_a c_4.out 0).trans rfl;have f_g : w4.cell? ⟨e_u,1,none⟩ = some (.slice A0_1 l0_1.length c0_1):=(a_a c_4.out 1).trans rfl;have f_h:=a_b c_4.out 0;have f_i:=a_b c_4.out 1)|((with_reducible refine b_a (f:=24) rfl ?_);refine c_v (some 7) rfl rfl Try.func24 (by kernel_rfl) rfl #[.agg #[.int .i64 a0_0,.slice A0_1 l0_1.length c0_1]] rfl (by (try simp only [List.map_toArray,List.map_cons,List.map_nil]);first|done|rfl|(simp only [List.length_drop,List.length_take];rfl)) ?_;(with_reducible refine (a_H.calls k a0_0 _ _ l0_1 true _ ?side1 ?side2 A2.out).mono ?_);(case side1 => repeat (first|exact (Kd.a_U d_i.out HB.out)|(with_reducible refine Kd.a_V ?_ _)|(with_reducible refine Kd.a_W ?_ _)|(with_reducible refine Kd.a_5 ?_)));(case side2 => exact f_j.out);rintro e w6 ⟨rfl,hb⟩;refine ⟨_,rfl,?_⟩;replace c_4:=a_d.mk (a_i (bup_ c_4.out) hb);replace HB:=a_d.mk (a_o (by repeat (first|(with_reducible first|exact HB.out|apply a_g|apply a_e|apply a_h|refine a_f ?_ d_4.out)|exact HB.out)) hb);(try clear hb);(try clear hb2);(try clear hk);(try clear hi);have f_p : w6.cell? ⟨e_u,0,none⟩ = some (.int .i64 a0_0):=(a_a c_4.out 0).trans rfl;have f_q : w6.cell? ⟨e_u,1,none⟩ = some (.slice A0_1 l0_1.length c0_1):=(a_a c_4.out 1).trans rfl;have f_r:=a_b c_4.out 0;have f_s:=a_b c_4.out 1))
 go_loopg [3,12] k (fun kq v3 v12 w' => ∃ (x3_1 : Int) (x12_1 : Int),v3 = .int .u32 x3_1 ∧ v12 = .int .i64 x12_1 ∧ a_d (a_2.l0 kq x3_1 l0_1 (l0_1.length : Int) x12_1 = some r) ∧ a_d (kq ≤ k) ∧ a_d (w'.heap[e_u]? = some (.cells #[.int .i64 a0_0,(.slice A0_1 l0_1.length c0_1)] 27 (0,0))) ∧ a_d (Below w.heap.size w w'))
 case atStart => exact ⟨(0),(0),(by first|rfl|(simp;done)|(simp [*];done)),(by first|rfl|(simp;done)|(simp [*];done)),H',⟨Nat.le_refl _⟩,⟨by (with_reducible repeat (first|refine a_l ?_ _|refine a_m ?_|refine a_j ?_ _));exact c_4.out⟩,⟨by repeat (first|(with_reducible first|exact HB.out|apply a_g|apply a_e|apply a_h|refine a_f ?_ d_4.out)|exact HB.out)⟩⟩
 case round =>
  clear H'
  try clear c2
  try clear p2
  try clear c3
  try clear f_f
  try clear f_g
  try clear f_p
  try clear f_q
  try clear f_h
  try clear f_i
  try clear f_r
  try clear f_s
  obtain ⟨x3_1,x12_1,rfl,rfl,HA,HK1,c_4,HB⟩:=hrel
  cases gk with
  | zero => exact absurd HA.out (by simp [a_2.l0])
  | succ k1 =>
   have H:=HA.out
   clear HA
   simp only [a_2.l0] at H
   by_cases c8 : x12_1 < (l0_1.length : Int)
   rotate_left
   ·rw [if_neg c8] at H
    have c8b0 : decide (x12_1 < (l0_1.length : Int)) = false:=decide_eq_false c8
    clear c8
    obtain rfl:=Option.some.inj H
    go_wp2
    go_ret
    exact ⟨by first|rfl|(simp [a_w,a_x] <;> rfl)|(simp [*, a_w,a_x] <;> rfl),by repeat (first|(with_reducible first|exact HB.out|apply a_g|apply a_e|apply a_h|refine a_f ?_ d_4.out)|exact HB.out)⟩
   rw [if_pos c8] at H
   have c8b0 : decide (x12_1 < (l0_1.length : Int)) = true:=decide_eq_true c8
   clear c8
   by_cases c9 : 0 ≤ x12_1
   rotate_left
   ·rw [if_neg c9] at H
    exact absurd H (by simp)
   rw [if_pos c9] at H
   have c9b0 : decide (0 ≤ x12_1) = true:=decide_eq_true c9
   clear c9
   by_cases c10 : x12_1 < (l0_1.length : Int)
   rotate_left
   ·rw [if_neg c10] at H
    exact absurd H (by simp)
   rw [if_pos c10] at H
   have c10b0 : decide (x12_1 < (l0_1.length : Int)) = true:=decide_eq_true c10
   clear c10
   by_cases c11 : ((a_c l0_1 x12_1).f4) = (-1)
   ·rw [if_pos c11] at H
    have c11b0 : (((a_c l0_1 x12_1).f4) == (-1)) = true:=beq_iff_eq.mpr c11
    have c11b1 : (((a_c l0_1 x12_1).f4) != (-1)) = false:=bne_eq_false_iff_eq.mpr c11
    clear c11
    have H':=a_d.mk H
    clear H
    have p162 : 0 ≤ (x12_1 : Int):=of_decide_eq_true (by first|(with_reducible assumption)|assumption)
    have q162 : x12_1 < (l0_1.length : Int):=of_decide_eq_true (by first|(with_reducible assumption)|assumption)
    obtain ⟨ad162,e162,c_U,c_V,c_W,c_X,c_Y,b_4,b_5,c_Z,c_0,c_1,c_n⟩:=d_g d_i.out x12_1 p162 q162
    cases e162
    replace c_U:=(HB.out.cell (World.block_lt_of_cell? w _ c_U)).trans c_U
    replace c_V:=(HB.out.cell (World.block_lt_of_cell? w _ c_V)).trans c_V
    replace c_W:=(HB.out.cell (World.block_lt_of_cell? w _ c_W)).trans c_W
    replace c_X:=(HB.out.cell (World.block_lt_of_cell? w _ c_X)).trans c_X
    replace c_Y:=(HB.out.cell (World.block_lt_of_cell? w _ c_Y)).trans c_Y
    replace b_4:=(HB.out.cell (World.block_lt_of_cell? w _ b_4)).trans b_4
    replace b_5:=(HB.out.cell (World.block_lt_of_cell? w _ b_5)).trans b_5
    replace c_Z:=(HB.out.cell (World.block_lt_of_cell? w _ c_Z)).trans c_Z
    replace c_0:=(HB.out.cell (World.block_lt_of_cell? w _ c_0)).trans c_0
    replace c_1:=(HB.out.cell (World.block_lt_of_cell? w _ c_1)).trans c_1
    replace c_n:=(HB.out.cell (World.block_lt_of_cell? w _ c_n)).trans c_n
    replace p162:=eq_true p162
    replace q162:=eq_true q162
    go_wp2_with (first|((with_reducible refine a_J (N:=5) rfl ?_);refine a_C ?hg (N:=5) ?hd (cs:=#[.int .i64 0,.int .i64 0,.int .i64 0,.int .i64 0,.int .i64 0,.bool false,.bool false,.int .u32 0,.int .i64 0,.int .i64 0,.int .i64 0]) (t:=65) ?hr ?_;(case hd => rfl);(case hg => rfl);(case hr => first|(go_simp;done)|(go_simp;rfl));intro b_B hg w12 hbox hb;have b_f:=a_d.mk (hbox);have p_6:=a_d.mk ((by rw [hg];exact (a_n (by repeat (first|(with_reducible first|exact HB.out|apply a_g|apply a_e|apply a_h|refine a_f ?_ d_4.out)|exact HB.out))) : w.heap.size ≤ b_B));have i_6:=a_d.mk ((by rw [hg];exact (a_n (by repeat (first|(with_reducible first|exact HB.out|apply a_g|apply a_e|apply a_h|refine a_f ?_ d_4.out)|exact HB.out))) : w.heap.size ≤ b_B));have b_w:=a_d.mk ((by rw [hg];exact Nat.ne_of_lt (a_Q (bup_ c_4.out)) : e_u ≠ b_B));have d_K:=a_d.mk ((by rw [hg];exact Nat.ne_of_gt (a_Q (bup_ c_4.out)) : b_B ≠ e_u));replace c_4:=a_d.mk (a_i (bup_ c_4.out) hb);replace HB:=a_d.mk (a_o (by repeat (first|(with_reducible first|exact HB.out|apply a_g|apply a_e|apply a_h|refine a_f ?_ d_4.out)|exact HB.out)) hb);clear hb hbox hg;have z_G:=d_K.out;have z_H:=b_w.out;have i_a : w12.cell? ⟨b_B,0,none⟩ = some (.int .i64 0):=(a_a b_f.out 0).trans rfl;have i_b : w12.cell? ⟨b_B,1,none⟩ = some (.int .i64 0):=(a_a b_f.out 1).trans rfl;have i_d : w12.cell? ⟨b_B,2,none⟩ = some (.int .i64 0):=(a_a b_f.out 2).trans rfl;have i_e : w12.cell? ⟨b_B,3,none⟩ = some (.int .i64 0):=(a_a b_f.out 3).trans rfl;have i_f : w12.cell? ⟨b_B,4,none⟩ = some (.int .i64 0):=(a_a b_f.out 4).trans rfl;have i_g : w12.cell? ⟨b_B,5,none⟩ = some (.bool false):=(a_a b_f.out 5).trans rfl;have i_h : w12.cell? ⟨b_B,6,none⟩ = some (.bool false):=(a_a b_f.out 6).trans rfl;have i_i : w12.cell? ⟨b_B,7,none⟩ = some (.int .u32 0):=(a_a b_f.out 7).trans rfl;have i_j : w12.cell? ⟨b_B,8,none⟩ = some (.int .i64 0):=(a_a b_f.out 8).trans rfl;have i_k : w12.cell? ⟨b_B,9,none⟩ = some (.int .i64 0):=(a_a b_f.out 9).trans rfl;have g_O : w12.cell? ⟨b_B,10,none⟩ = some (.int .i64 0):=(a_a b_f.out 10).trans rfl;have i_l:=a_b b_f.out 0;have i_m:=a_b b_f.out 1;have i_n:=a_b b_f.out 2;have i_o:=a_b b_f.out 3;have i_p:=a_b b_f.out 4;have i_q:=a_b b_f.out 5;have i_r:=a_b b_f.out 6;have i_s:=a_b b_f.out 7;have i_t:=a_b b_f.out 8;have i_u:=a_b b_f.out 9;have g_P:=a_b b_f.out 10))
    go_roundg k1
    case measure => have:=HK1.out;omega
    case rel => exact ⟨(x3_1),(wrap64 (x12_1 + 1)),(by first|rfl|(simp;done)|(simp [*];done)),(by first|rfl|(simp;done)|(simp [*];done)),H',⟨by have:=HK1.out;omega⟩,⟨by (with_reducible repeat (first|refine a_l ?_ _|refine a_m ?_|refine a_j ?_ _));refine a_L ?_ b_w.out _;(with_reducible repeat (first|refine a_l ?_ _|refine a_m ?_|refine a_j ?_ _));refine a_L ?_ b_w.out _;(with_reducible repeat (first|refine a_l ?_ _|refine a_m ?_|refine a_j ?_ _));refine a_L ?_ b_w.out _;(with_reducible repeat (first|refine a_l ?_ _|refine a_m ?_|refine a_j ?_ _));refine a_L ?_ b_w.out _;(with_reducible repeat (first|refine a_l ?_ _|refine a_m ?_|refine a_j ?_ _));refine a_L ?_ b_w.out _;(with_reducible repeat (first|refine a_l ?_ _|refine a_m ?_|refine a_j ?_ _));refine a_L ?_ b_w.out _;(with_reducible repeat (first|refine a_l ?_ _|refine a_m ?_|refine a_j ?_ _));refine a_L ?_ b_w.out _;(with_reducible repeat (first|refine a_l ?_ _|refine a_m ?_|refine a_j ?_ _));refine a_L ?_ b_w.out _;(with_reducible repeat (first|refine a_l ?_ _|refine a_m ?_|refine a_j ?_ _));refine a_L ?_ b_w.out _;(with_reducible repeat (first|refine a_l ?_ _|refine a_m ?_|refine a_j ?_ _));refine a_L ?_ b_w.out _;(with_reducible repeat (first|refine a_l ?_ _|refine a_m ?_|refine a_j ?_ _));refine a_L ?_ b_w.out _;(with_reducible repeat (first|refine a_l ?_ _|refine a_m ?_|refine a_j ?_ _));exact c_4.out⟩,⟨by repeat (first|(with_reducible first|exact HB.out|apply a_g|apply a_e|apply a_h|refine a_f ?_ d_4.out|refine a_f ?_ i_6.out)|exact HB.out)⟩⟩
   rw [if_neg c11] at H
   have c11b0 : (((a_c l0_1 x12_1).f4) == (-1)) = false:=beq_eq_false_iff_ne.mpr c11
   have c11b1 : (((a_c l0_1 x12_1).f4) != (-1)) = true:=bne_iff_ne.mpr c11
   obtain ⟨bq15,hbq15⟩ : ∃ b_ : Bool,b_ = ((a_c l0_1 x12_1).f5):=⟨_,rfl⟩
   replace H : (if (bq15 = true) then (if (a_c l0_1 x12_1).f6 = true then (some false) else ((b_2.f ((a_c l0_1 x12_1).f7) ((a_c l0_1 x12_1).f4)).bind fun t164 => (if t164 = true then ((b_2.f x3_1 ((a_c l0_1 x12_1).f4)).bind fun t165 => (if t165 = true then (some false) else (if 0 ≤ ((a_c l0_1 x12_1).f4) then (a_2.l0 k1 (Go.bits .or .u32 x3_1 (shl .u32 1 ((a_c l0_1 x12_1).f4))) l0_1 (l0_1.length : Int) (wrap64 (x12_1 + 1))) else (none)))) else (some false)))) else (some false)) = some r:=by rw [← hbq15] at H;exact H
   have Nbq15:=a_d.mk hbq15
   clear hbq15
   by_cases c16 : (bq15 = true)
   rotate_left
   ·replace c16:=Bool.eq_false_iff.mpr c16
    subst c16
    have H1 : (some false) = some r:=by rw [if_neg (show ¬ (false = true) by decide)] at H;exact H
    clear H
    have H:=H1
    clear H1
    obtain rfl:=Option.some.inj H
    have p162 : 0 ≤ (x12_1 : Int):=of_decide_eq_true (by first|(with_reducible assumption)|assumption)
    have q162 : x12_1 < (l0_1.length : Int):=of_decide_eq_true (by first|(with_reducible assumption)|assumption)
    obtain ⟨ad162,e162,c_U,c_V,c_W,c_X,c_Y,b_4,b_5,c_Z,c_0,c_1,c_n⟩:=d_g d_i.out x12_1 p162 q162
    (try rw [← Nbq15.out] at b_4)
    (try rw [← Nbq15.out] at b_5)
    cases e162
    replace c_U:=(HB.out.cell (World.block_lt_of_cell? w _ c_U)).trans c_U
    replace c_V:=(HB.out.cell (World.block_lt_of_cell? w _ c_V)).trans c_V
    replace c_W:=(HB.out.cell (World.block_lt_of_cell? w _ c_W)).trans c_W
    replace c_X:=(HB.out.cell (World.block_lt_of_cell? w _ c_X)).trans c_X
    replace c_Y:=(HB.out.cell (World.block_lt_of_cell? w _ c_Y)).trans c_Y
    replace b_4:=(HB.out.cell (World.block_lt_of_cell? w _ b_4)).trans b_4
    replace b_5:=(HB.out.cell (World.block_lt_of_cell? w _ b_5)).trans b_5
    replace c_Z:=(HB.out.cell (World.block_lt_of_cell? w _ c_Z)).trans c_Z
    replace c_0:=(HB.out.cell (World.block_lt_of_cell? w _ c_0)).trans c_0
    replace c_1:=(HB.out.cell (World.block_lt_of_cell? w _ c_1)).trans c_1
    replace c_n:=(HB.out.cell (World.block_lt_of_cell? w _ c_n)).trans c_n
    replace p162:=eq_true p162
    replace q162:=eq_true q162
    go_wp2_with (first|((with_reducible refine a_J (N:=5) rfl ?_);refine a_C ?hg (N:=5) ?hd (cs:=#[.int .i64 0,.int .i64 0,.int .i64 0,.int .i64 0,.int .i64 0,.bool false,.bool false,.int .u32 0,.int .i64 0,.int .i64 0,.int .i64 0]) (t:=65) ?hr ?_;(case hd => rfl);(case hg => rfl);(case hr => first|(go_simp;done)|(go_simp;rfl));intro b_B hg w37 hbox hb;have b_f:=a_d.mk (hbox);have p_6:=a_d.mk ((by rw [hg];exact (a_n (by repeat (first|(with_reducible first|exact HB.out|apply a_g|apply a_e|apply a_h|refine a_f ?_ d_4.out)|exact HB.out))) : w.heap.size ≤ b_B));have i_6:=a_d.mk ((by rw [hg];exact (a_n (by repeat (first|(with_reducible first|exact HB.out|apply a_g|apply a_e|apply a_h|refine a_f ?_ d_4.out)|exact HB.out))) : w.heap.size ≤ b_B));have b_w:=a_d.mk ((by rw [hg];exact Nat.ne_of_lt (a_Q (bup_ c_4.out)) : e_u ≠ b_B));have d_K:=a_d.mk ((by rw [hg];exact Nat.ne_of_gt (a_Q (bup_ c_4.out)) : b_B ≠ e_u));replace c_4:=a_d.mk (a_i (bup_ c_4.out) hb);replace HB:=a_d.mk (a_o (by repeat (first|(with_reducible first|exact HB.out|apply a_g|apply a_e|apply a_h|refine a_f ?_ d_4.out)|exact HB.out)) hb);clear hb hbox hg;have H_G:=d_K.out;have H_H:=b_w.out;have E_V : w37.cell? ⟨b_B,0,none⟩ = some (.int .i64 0):=(a_a b_f.out 0).trans rfl;have E_W : w37.cell? ⟨b_B,1,none⟩ = some (.int .i64 0):=(a_a b_f.out 1).trans rfl;have E_X : w37.cell? ⟨b_B,2,none⟩ = some (.int .i64 0):=(a_a b_f.out 2).trans rfl;have E_Y : w37.cell? ⟨b_B,3,none⟩ = some (.int .i64 0):=(a_a b_f.out 3).trans rfl;have E_Z : w37.cell? ⟨b_B,4,none⟩ = some (.int .i64 0):=(a_a b_f.out 4).trans rfl;have E_0 : w37.cell? ⟨b_B,5,none⟩ = some (.bool false):=(a_a b_f.out 5).trans rfl;have E_1 : w37.cell? ⟨b_B,6,none⟩ = some (.bool false):=(a_a b_f.out 6).trans rfl;have E_2 : w37.cell? ⟨b_B,7,none⟩ = some (.int .u32 0):=(a_a b_f.out 7).trans rfl;have E_3 : w37.cell? ⟨b_B,8,none⟩ = some (.int .i64 0):=(a_a b_f.out 8).trans rfl;have E_4 : w37.cell? ⟨b_B,9,none⟩ = some (.int .i64 0):=(a_a b_f.out 9).trans rfl;have w_Y : w37.cell? ⟨b_B,10,none⟩ = some (.int .i64 0):=(a_a b_f.out 10).trans rfl;have E_5:=a_b b_f.out 0;have E_6:=a_b b_f.out 1;have E_7:=a_b b_f.out 2;have E_8:=a_b b_f.out 3;have E_9:=a_b b_f.out 4;have F_a:=a_b b_f.out 5;have F_b:=a_b b_f.out 6;have F_c:=a_b b_f.out 7;have F_d:=a_b b_f.out 8;have F_e:=a_b b_f.out 9;have w_Z:=a_b b_f.out 10))
    go_ret
    exact ⟨by first|rfl|(simp [a_w,a_x] <;> rfl)|(simp [*, a_w,a_x] <;> rfl),by repeat (first|(with_reducible first|exact HB.out|apply a_g|apply a_e|apply a_h|refine a_f ?_ d_4.out|refine a_f ?_ i_6.out)|exact HB.out)⟩
   subst c16
   have H1 : (if (a_c l0_1 x12_1).f6 = true then (some false) else ((b_2.f ((a_c l0_1 x12_1).f7) ((a_c l0_1 x12_1).f4)).bind fun t164 => (if t164 = true then ((b_2.f x3_1 ((a_c l0_1 x12_1).f4)).bind fun t165 => (if t165 = true then (some false) else (if 0 ≤ ((a_c l0_1 x12_1).f4) then (a_2.l0 k1 (Go.bits .or .u32 x3_1 (shl .u32 1 ((a_c l0_1 x12_1).f4))) l0_1 (l0_1.length : Int) (wrap64 (x12_1 + 1))) else (none)))) else (some false)))) = some r:=by rw [if_pos rfl] at H;exact H
   clear H
   have H:=H1
   clear H1
   obtain ⟨bq17,hbq17⟩ : ∃ b_ : Bool,b_ = ((a_c l0_1 x12_1).f6):=⟨_,rfl⟩
   replace H : (if bq17 = true then (some false) else ((b_2.f ((a_c l0_1 x12_1).f7) ((a_c l0_1 x12_1).f4)).bind fun t164 => (if t164 = true then ((b_2.f x3_1 ((a_c l0_1 x12_1).f4)).bind fun t165 => (if t165 = true then (some false) else (if 0 ≤ ((a_c l0_1 x12_1).f4) then (a_2.l0 k1 (Go.bits .or .u32 x3_1 (shl .u32 1 ((a_c l0_1 x12_1).f4))) l0_1 (l0_1.length : Int) (wrap64 (x12_1 + 1))) else (none)))) else (some false)))) = some r:=by rw [← hbq17] at H;exact H
   have Nbq17:=a_d.mk hbq17
   clear hbq17
   by_cases c18 : bq17 = true
   ·subst c18
    have H1 : (some false) = some r:=by rw [if_pos rfl] at H;exact H
    clear H
    have H:=H1
    clear H1
    obtain rfl:=Option.some.inj H
    have p162 : 0 ≤ (x12_1 : Int):=of_decide_eq_true (by first|(with_reducible assumption)|assumption)
    have q162 : x12_1 < (l0_1.length : Int):=of_decide_eq_true (by first|(with_reducible assumption)|assumption)
    obtain ⟨ad162,e162,c_U,c_V,c_W,c_X,c_Y,b_4,b_5,c_Z,c_0,c_1,c_n⟩:=d_g d_i.out x12_1 p162 q162
    (try rw [← Nbq15.out] at b_4)
    (try rw [← Nbq17.out] at b_4)
    (try rw [← Nbq15.out] at b_5)
    (try rw [← Nbq17.out] at b_5)
    cases e162
    replace c_U:=(HB.out.cell (World.block_lt_of_cell? w _ c_U)).trans c_U
    replace c_V:=(HB.out.cell (World.block_lt_of_cell? w _ c_V)).trans c_V
    replace c_W:=(HB.out.cell (World.block_lt_of_cell? w _ c_W)).trans c_W
    replace c_X:=(HB.out.cell (World.block_lt_of_cell? w _ c_X)).trans c_X
    replace c_Y:=(HB.out.cell (World.block_lt_of_cell? w _ c_Y)).trans c_Y
    replace b_4:=(HB.out.cell (World.block_lt_of_cell? w _ b_4)).trans b_4
    replace b_5:=(HB.out.cell (World.block_lt_of_cell? w _ b_5)).trans b_5
    replace c_Z:=(HB.out.cell (World.block_lt_of_cell? w _ c_Z)).trans c_Z
    replace c_0:=(HB.out.cell (World.block_lt_of_cell? w _ c_0)).trans c_0
    replace c_1:=(HB.out.cell (World.block_lt_of_cell? w _ c_1)).trans c_1
    replace c_n:=(HB.out.cell (World.block_lt_of_cell? w _ c_n)).trans c_n
    replace p162:=eq_true p162
    replace q162:=eq_true q162
    go_wp2_with (first|((with_reducible refine a_J (N:=5) rfl ?_);refine a_C ?hg (N:=5) ?hd (cs:=#[.int .i64 0,.int .i64 0,.int .i64 0,.int .i64 0,.int .i64 0,.bool false,.bool false,.int .u32 0,.int .i64 0,.int .i64 0,.int .i64 0]) (t:=65) ?hr ?_;(case hd => rfl);(case hg => rfl);(case hr => first|(go_simp;done)|(go_simp;rfl));intro b_B hg w19 hbox hb;have b_f:=a_d.mk (hbox);have p_6:=a_d.mk ((by rw [hg];exact (a_n (by repeat (first|(with_reducible first|exact HB.out|apply a_g|apply a_e|apply a_h|refine a_f ?_ d_4.out)|exact HB.out))) : w.heap.size ≤ b_B));have i_6:=a_d.mk ((by rw [hg];exact (a_n (by repeat (first|(with_reducible first|exact HB.out|apply a_g|apply a_e|apply a_h|refine a_f ?_ d_4.out)|exact HB.out))) : w.heap.size ≤ b_B));have b_w:=a_d.mk ((by rw [hg];exact Nat.ne_of_lt (a_Q (bup_ c_4.out)) : e_u ≠ b_B));have d_K:=a_d.mk ((by rw [hg];exact Nat.ne_of_gt (a_Q (bup_ c_4.out)) : b_B ≠ e_u));replace c_4:=a_d.mk (a_i (bup_ c_4.out) hb);replace HB:=a_d.mk (a_o (by repeat (first|(with_reducible first|exact HB.out|apply a_g|apply a_e|apply a_h|refine a_f ?_ d_4.out)|exact HB.out)) hb);clear hb hbox hg;have E_m:=d_K.out;have E_n:=b_w.out;have p_M : w19.cell? ⟨b_B,0,none⟩ = some (.int .i64 0):=(a_a b_f.out 0).trans rfl;have p_N : w19.cell? ⟨b_B,1,none⟩ = some (.int .i64 0):=(a_a b_f.out 1).trans rfl;have F_f : w19.cell? ⟨b_B,2,none⟩ = some (.int .i64 0):=(a_a b_f.out 2).trans rfl;have F_g : w19.cell? ⟨b_B,3,none⟩ = some (.int .i64 0):=(a_a b_f.out 3).trans rfl;have F_h : w19.cell? ⟨b_B,4,none⟩ = some (.int .i64 0):=(a_a b_f.out 4).trans rfl;have F_i : w19.cell? ⟨b_B,5,none⟩ = some (.bool false):=(a_a b_f.out 5).trans rfl;have F_j : w19.cell? ⟨b_B,6,none⟩ = some (.bool false):=(a_a b_f.out 6).trans rfl;have F_k : w19.cell? ⟨b_B,7,none⟩ = some (.int .u32 0):=(a_a b_f.out 7).trans rfl;have F_l : w19.cell? ⟨b_B,8,none⟩ = some (.int .i64 0):=(a_a b_f.out 8).trans rfl;have F_m : w19.cell? ⟨b_B,9,none⟩ = some (.int .i64 0):=(a_a b_f.out 9).trans rfl;have w_0 : w19.cell? ⟨b_B,10,none⟩ = some (.int .i64 0):=(a_a b_f.out 10).trans rfl;have p_O:=a_b b_f.out 0;have p_P:=a_b b_f.out 1;have F_n:=a_b b_f.out 2;have F_o:=a_b b_f.out 3;have F_p:=a_b b_f.out 4;have F_q:=a_b b_f.out 5;have F_r:=a_b b_f.out 6;have F_s:=a_b b_f.out 7;have F_t:=a_b b_f.out 8;have F_u:=a_b b_f.out 9;have w_1:=a_b b_f.out 10))
    go_ret
    exact ⟨by first|rfl|(simp [a_w,a_x] <;> rfl)|(simp [*, a_w,a_x] <;> rfl),by repeat (first|(with_reducible first|exact HB.out|apply a_g|apply a_e|apply a_h|refine a_f ?_ d_4.out|refine a_f ?_ i_6.out)|exact HB.out)⟩
   replace c18:=Bool.eq_false_iff.mpr c18
   subst c18
   have H1 : ((b_2.f ((a_c l0_1 x12_1).f7) ((a_c l0_1 x12_1).f4)).bind fun t164 => (if t164 = true then ((b_2.f x3_1 ((a_c l0_1 x12_1).f4)).bind fun t165 => (if t165 = true then (some false) else (if 0 ≤ ((a_c l0_1 x12_1).f4) then (a_2.l0 k1 (Go.bits .or .u32 x3_1 (shl .u32 1 ((a_c l0_1 x12_1).f4))) l0_1 (l0_1.length : Int) (wrap64 (x12_1 + 1))) else (none)))) else (some false))) = some r:=by rw [if_neg (show ¬ (false = true) by decide)] at H;exact H
   clear H
   have H:=H1
   clear H1
   replace H:=Option.bind_eq_some_iff.mp H
   obtain ⟨t164,A220,H⟩:=H
   replace H : (if t164 = true then ((b_2.f x3_1 ((a_c l0_1 x12_1).f4)).bind fun t165 => (if t165 = true then (some false) else (if 0 ≤ ((a_c l0_1 x12_1).f4) then (a_2.l0 k1 (Go.bits .or .u32 x3_1 (shl .u32 1 ((a_c l0_1 x12_1).f4))) l0_1 (l0_1.length : Int) (wrap64 (x12_1 + 1))) else (none)))) else (some false)) = some r:=H
   have A22:=a_d.mk A220
   clear A220
   by_cases c23 : t164 = true
   rotate_left
   ·replace c23:=Bool.eq_false_iff.mpr c23
    subst c23
    have H1 : (some false) = some r:=by rw [if_neg (show ¬ (false = true) by decide)] at H;exact H
    clear H
    have H:=H1
    clear H1
    obtain rfl:=Option.some.inj H
    have p162 : 0 ≤ (x12_1 : Int):=of_decide_eq_true (by first|(with_reducible assumption)|assumption)
    have q162 : x12_1 < (l0_1.length : Int):=of_decide_eq_true (by first|(with_reducible assumption)|assumption)
    obtain ⟨ad162,e162,c_U,c_V,c_W,c_X,c_Y,b_4,b_5,c_Z,c_0,c_1,c_n⟩:=d_g d_i.out x12_1 p162 q162
    (try rw [← Nbq15.out] at b_4)
    (try rw [← Nbq17.out] at b_4)
    (try rw [← Nbq15.out] at b_5)
    (try rw [← Nbq17.out] at b_5)
    cases e162
    replace c_U:=(HB.out.cell (World.block_lt_of_cell? w _ c_U)).trans c_U
    replace c_V:=(HB.out.cell (World.block_lt_of_cell? w _ c_V)).trans c_V
    replace c_W:=(HB.out.cell (World.block_lt_of_cell? w _ c_W)).trans c_W
    replace c_X:=(HB.out.cell (World.block_lt_of_cell? w _ c_X)).trans c_X
    replace c_Y:=(HB.out.cell (World.block_lt_of_cell? w _ c_Y)).trans c_Y
    replace b_4:=(HB.out.cell (World.block_lt_of_cell? w _ b_4)).trans b_4
    replace b_5:=(HB.out.cell (World.block_lt_of_cell? w _ b_5)).trans b_5
    replace c_Z:=(HB.out.cell (World.block_lt_of_cell? w _ c_Z)).trans c_Z
    replace c_0:=(HB.out.cell (World.block_lt_of_cell? w _ c_0)).trans c_0
    replace c_1:=(HB.out.cell (World.block_lt_of_cell? w _ c_1)).trans c_1
    replace c_n:=(HB.out.cell (World.block_lt_of_cell? w _ c_n)).trans c_n
    replace p162:=eq_true p162
    replace q162:=eq_true q162
    go_wp2_with (first|((with_reducible refine a_J (N:=5) rfl ?_);refine a_C ?hg (N:=5) ?hd (cs:=#[.int .i64 0,.int .i64 0,.int .i64 0,.int .i64 0,.int .i64 0,.bool false,.bool false,.int .u32 0,.int .i64 0,.int .i64 0,.int .i64 0]) (t:=65) ?hr ?_;(case hd => rfl);(case hg => rfl);(case hr => first|(go_simp;done)|(go_simp;rfl));intro b_B hg w34 hbox hb;have b_f:=a_d.mk (hbox);have p_6:=a_d.mk ((by rw [hg];exact (a_n (by repeat (first|(with_reducible first|exact HB.out|apply a_g|apply a_e|apply a_h|refine a_f ?_ d_4.out)|exact HB.out))) : w.heap.size ≤ b_B));have i_6:=a_d.mk ((by rw [hg];exact (a_n (by repeat (first|(with_reducible first|exact HB.out|apply a_g|apply a_e|apply a_h|refine a_f ?_ d_4.out)|exact HB.out))) : w.heap.size ≤ b_B));have b_w:=a_d.mk ((by rw [hg];exact Nat.ne_of_lt (a_Q (bup_ c_4.out)) : e_u ≠ b_B));have d_K:=a_d.mk ((by rw [hg];exact Nat.ne_of_gt (a_Q (bup_ c_4.out)) : b_B ≠ e_u));replace c_4:=a_d.mk (a_i (bup_ c_4.out) hb);replace HB:=a_d.mk (a_o (by repeat (first|(with_reducible first|exact HB.out|apply a_g|apply a_e|apply a_h|refine a_f ?_ d_4.out)|exact HB.out)) hb);clear hb hbox hg;have E_e:=d_K.out;have E_f:=b_w.out;have t_W : w34.cell? ⟨b_B,0,none⟩ = some (.int .i64 0):=(a_a b_f.out 0).trans rfl;have t_X : w34.cell? ⟨b_B,1,none⟩ = some (.int .i64 0):=(a_a b_f.out 1).trans rfl;have F_v : w34.cell? ⟨b_B,2,none⟩ = some (.int .i64 0):=(a_a b_f.out 2).trans rfl;have F_w : w34.cell? ⟨b_B,3,none⟩ = some (.int .i64 0):=(a_a b_f.out 3).trans rfl;have F_x : w34.cell? ⟨b_B,4,none⟩ = some (.int .i64 0):=(a_a b_f.out 4).trans rfl;have F_y : w34.cell? ⟨b_B,5,none⟩ = some (.bool false):=(a_a b_f.out 5).trans rfl;have F_z : w34.cell? ⟨b_B,6,none⟩ = some (.bool false):=(a_a b_f.out 6).trans rfl;have F_A : w34.cell? ⟨b_B,7,none⟩ = some (.int .u32 0):=(a_a b_f.out 7).trans rfl;have F_B : w34.cell? ⟨b_B,8,none⟩ = some (.int .i64 0):=(a_a b_f.out 8).trans rfl;have F_C : w34.cell? ⟨b_B,9,none⟩ = some (.int .i64 0):=(a_a b_f.out 9).trans rfl;have w_2 : w34.cell? ⟨b_B,10,none⟩ = some (.int .i64 0):=(a_a b_f.out 10).trans rfl;have t_Y:=a_b b_f.out 0;have t_Z:=a_b b_f.out 1;have F_D:=a_b b_f.out 2;have F_E:=a_b b_f.out 3;have F_F:=a_b b_f.out 4;have F_G:=a_b b_f.out 5;have F_H:=a_b b_f.out 6;have F_I:=a_b b_f.out 7;have F_J:=a_b b_f.out 8;have F_K:=a_b b_f.out 9;have w_3:=a_b b_f.out 10)|(go_at_call 50;(with_reducible refine (b_2.calls ((a_c l0_1 x12_1).f7) ((a_c l0_1 x12_1).f4) false _ A22.out).mono ?_);rintro e w' ⟨rfl,⟨nd,rfl⟩⟩))
    go_ret
    exact ⟨by first|rfl|(simp [a_w,a_x] <;> rfl)|(simp [*, a_w,a_x] <;> rfl),by repeat (first|(with_reducible first|exact HB.out|apply a_g|apply a_e|apply a_h|refine a_f ?_ d_4.out|refine a_f ?_ i_6.out)|exact HB.out)⟩
   subst c23
   have H1 : ((b_2.f x3_1 ((a_c l0_1 x12_1).f4)).bind fun t165 => (if t165 = true then (some false) else (if 0 ≤ ((a_c l0_1 x12_1).f4) then (a_2.l0 k1 (Go.bits .or .u32 x3_1 (shl .u32 1 ((a_c l0_1 x12_1).f4))) l0_1 (l0_1.length : Int) (wrap64 (x12_1 + 1))) else (none)))) = some r:=by rw [if_pos rfl] at H;exact H
   clear H
   have H:=H1
   clear H1
   replace H:=Option.bind_eq_some_iff.mp H
   obtain ⟨t165,A240,H⟩:=H
   replace H : (if t165 = true then (some false) else (if 0 ≤ ((a_c l0_1 x12_1).f4) then (a_2.l0 k1 (Go.bits .or .u32 x3_1 (shl .u32 1 ((a_c l0_1 x12_1).f4))) l0_1 (l0_1.length : Int) (wrap64 (x12_1 + 1))) else (none))) = some r:=H
   have A24:=a_d.mk A240
   clear A240
   by_cases c25 : t165 = true
   ·subst c25
    have H1 : (some false) = some r:=by rw [if_pos rfl] at H;exact H
    clear H
    have H:=H1
    clear H1
    obtain rfl:=Option.some.inj H
    have p162 : 0 ≤ (x12_1 : Int):=of_decide_eq_true (by first|(with_reducible assumption)|assumption)
    have q162 : x12_1 < (l0_1.length : Int):=of_decide_eq_true (by first|(with_reducible assumption)|assumption)
    obtain ⟨ad162,e162,c_U,c_V,c_W,c_X,c_Y,b_4,b_5,c_Z,c_0,c_1,c_n⟩:=d_g d_i.out x12_1 p162 q162
    (try rw [← Nbq15.out] at b_4)
    (try rw [← Nbq17.out] at b_4)
    (try rw [← Nbq15.out] at b_5)
    (try rw [← Nbq17.out] at b_5)
    cases e162
    replace c_U:=(HB.out.cell (World.block_lt_of_cell? w _ c_U)).trans c_U
    replace c_V:=(HB.out.cell (World.block_lt_of_cell? w _ c_V)).trans c_V
    replace c_W:=(HB.out.cell (World.block_lt_of_cell? w _ c_W)).trans c_W
    replace c_X:=(HB.out.cell (World.block_lt_of_cell? w _ c_X)).trans c_X
    replace c_Y:=(HB.out.cell (World.block_lt_of_cell? w _ c_Y)).trans c_Y
    replace b_4:=(HB.out.cell (World.block_lt_of_cell? w _ b_4)).trans b_4
    replace b_5:=(HB.out.cell (World.block_lt_of_cell? w _ b_5)).trans b_5
    replace c_Z:=(HB.out.cell (World.block_lt_of_cell? w _ c_Z)).trans c_Z
    replace c_0:=(HB.out.cell (World.block_lt_of_cell? w _ c_0)).trans c_0
    replace c_1:=(HB.out.cell (World.block_lt_of_cell? w _ c_1)).trans c_1
    replace c_n:=(HB.out.cell (World.block_lt_of_cell? w _ c_n)).trans c_n
    replace p162:=eq_true p162
    replace q162:=eq_true q162
    go_wp2_with (first|((with_reducible refine a_J (N:=5) rfl ?_);refine a_C ?hg (N:=5) ?hd (cs:=#[.int .i64 0,.int .i64 0,.int .i64 0,.int .i64 0,.int .i64 0,.bool false,.bool false,.int .u32 0,.int .i64 0,.int .i64 0,.int .i64 0]) (t:=65) ?hr ?_;(case hd => rfl);(case hg => rfl);(case hr => first|(go_simp;done)|(go_simp;rfl));intro b_B hg w26 hbox hb;have b_f:=a_d.mk (hbox);have p_6:=a_d.mk ((by rw [hg];exact (a_n (by repeat (first|(with_reducible first|exact HB.out|apply a_g|apply a_e|apply a_h|refine a_f ?_ d_4.out)|exact HB.out))) : w.heap.size ≤ b_B));have i_6:=a_d.mk ((by rw [hg];exact (a_n (by repeat (first|(with_reducible first|exact HB.out|apply a_g|apply a_e|apply a_h|refine a_f ?_ d_4.out)|exact HB.out))) : w.heap.size ≤ b_B));have b_w:=a_d.mk ((by rw [hg];exact Nat.ne_of_lt (a_Q (bup_ c_4.out)) : e_u ≠ b_B));have d_K:=a_d.mk ((by rw [hg];exact Nat.ne_of_gt (a_Q (bup_ c_4.out)) : b_B ≠ e_u));replace c_4:=a_d.mk (a_i (bup_ c_4.out) hb);replace HB:=a_d.mk (a_o (by repeat (first|(with_reducible first|exact HB.out|apply a_g|apply a_e|apply a_h|refine a_f ?_ d_4.out)|exact HB.out)) hb);clear hb hbox hg;have E_B:=d_K.out;have E_C:=b_w.out;have h_M : w26.cell? ⟨b_B,0,none⟩ = some (.int .i64 0):=(a_a b_f.out 0).trans rfl;have h_N : w26.cell? ⟨b_B,1,none⟩ = some (.int .i64 0):=(a_a b_f.out 1).trans rfl;have p_a : w26.cell? ⟨b_B,2,none⟩ = some (.int .i64 0):=(a_a b_f.out 2).trans rfl;have p_b : w26.cell? ⟨b_B,3,none⟩ = some (.int .i64 0):=(a_a b_f.out 3).trans rfl;have p_c : w26.cell? ⟨b_B,4,none⟩ = some (.int .i64 0):=(a_a b_f.out 4).trans rfl;have p_d : w26.cell? ⟨b_B,5,none⟩ = some (.bool false):=(a_a b_f.out 5).trans rfl;have p_e : w26.cell? ⟨b_B,6,none⟩ = some (.bool false):=(a_a b_f.out 6).trans rfl;have p_f : w26.cell? ⟨b_B,7,none⟩ = some (.int .u32 0):=(a_a b_f.out 7).trans rfl;have p_g : w26.cell? ⟨b_B,8,none⟩ = some (.int .i64 0):=(a_a b_f.out 8).trans rfl;have p_h : w26.cell? ⟨b_B,9,none⟩ = some (.int .i64 0):=(a_a b_f.out 9).trans rfl;have m_M : w26.cell? ⟨b_B,10,none⟩ = some (.int .i64 0):=(a_a b_f.out 10).trans rfl;have h_O:=a_b b_f.out 0;have h_P:=a_b b_f.out 1;have p_i:=a_b b_f.out 2;have p_j:=a_b b_f.out 3;have p_k:=a_b b_f.out 4;have p_l:=a_b b_f.out 5;have p_m:=a_b b_f.out 6;have p_n:=a_b b_f.out 7;have p_o:=a_b b_f.out 8;have p_p:=a_b b_f.out 9;have m_N:=a_b b_f.out 10)|(go_at_call 50;(with_reducible refine (b_2.calls ((a_c l0_1 x12_1).f7) ((a_c l0_1 x12_1).f4) true _ A22.out).mono ?_);rintro e w' ⟨rfl,⟨nd,rfl⟩⟩)|(go_at_call 50;(with_reducible refine (b_2.calls x3_1 ((a_c l0_1 x12_1).f4) true _ A24.out).mono ?_);rintro e w' ⟨rfl,⟨nd,rfl⟩⟩))
    go_ret
    exact ⟨by first|rfl|(simp [a_w,a_x] <;> rfl)|(simp [*, a_w,a_x] <;> rfl),by repeat (first|(with_reducible first|exact HB.out|apply a_g|apply a_e|apply a_h|refine a_f ?_ d_4.out|refine a_f ?_ i_6.out)|exact HB.out)⟩
   replace c25:=Bool.eq_false_iff.mpr c25
   subst c25
   have H1 : (if 0 ≤ ((a_c l0_1 x12_1).f4) then (a_2.l0 k1 (Go.bits .or .u32 x3_1 (shl .u32 1 ((a_c l0_1 x12_1).f4))) l0_1 (l0_1.length : Int) (wrap64 (x12_1 + 1))) else (none)) = some r:=by rw [if_neg (show ¬ (false = true) by decide)] at H;exact H
   clear H
   have H:=H1
   clear H1
   by_cases c29 : 0 ≤ ((a_c l0_1 x12_1).f4)
   rotate_left
   ·rw [if_neg c29] at H
    exact absurd H (by simp)
   rw [if_pos c29] at H
   have c29b0:=eq_true c29
   have c29b1 : decide (0 ≤ ((a_c l0_1 x12_1).f4)) = true:=decide_eq_true c29
   clear c29
   obtain ⟨ji30,hji30⟩ : ∃ j_ : Int,(shl .u32 1 ((a_c l0_1 x12_1).f4)) = j_:=⟨_,rfl⟩
   replace H : (a_2.l0 k1 (Go.bits .or .u32 x3_1 (ji30)) l0_1 (l0_1.length : Int) (wrap64 (x12_1 + 1))) = some r:=by first|(rw [hji30] at H;exact H)|(simp only [hji30] at H ⊢; exact H)
   (try rw [hji30] at A22)
   (try rw [hji30] at A24)
   have hji30_ : (IntKind.u32.wrap (1 * 2 ^ min ((a_c l0_1 x12_1).f4).toNat 32)) = ji30:=hji30
   have hji30z : ((a_c l0_1 x12_1).f4) ≤ 32 → (IntKind.u32.wrap (1 * 2 ^ ((a_c l0_1 x12_1).f4).toNat)) = ji30:=k_o hji30
   have hji30u : (IntKind.u32.wrap (2 ^ min ((a_c l0_1 x12_1).f4).toNat 32)) = ji30:=by have h_:=hji30_;rw [Int.one_mul] at h_;exact h_
   have hji30v : ((a_c l0_1 x12_1).f4) ≤ 32 → (IntKind.u32.wrap (2 ^ ((a_c l0_1 x12_1).f4).toNat)) = ji30:=fun hle_ => by have h_:=hji30z hle_;rw [Int.one_mul] at h_;exact h_
   have H':=a_d.mk H
   clear H
   have p162 : 0 ≤ (x12_1 : Int):=of_decide_eq_true (by first|(with_reducible assumption)|assumption)
   have q162 : x12_1 < (l0_1.length : Int):=of_decide_eq_true (by first|(with_reducible assumption)|assumption)
   obtain ⟨ad162,e162,c_U,c_V,c_W,c_X,c_Y,b_4,b_5,c_Z,c_0,c_1,c_n⟩:=d_g d_i.out x12_1 p162 q162
   (try rw [← Nbq15.out] at b_4)
   (try rw [← Nbq17.out] at b_4)
   (try rw [← Nbq15.out] at b_5)
   (try rw [← Nbq17.out] at b_5)
   cases e162
   replace c_U:=(HB.out.cell (World.block_lt_of_cell? w _ c_U)).trans c_U
   replace c_V:=(HB.out.cell (World.block_lt_of_cell? w _ c_V)).trans c_V
   replace c_W:=(HB.out.cell (World.block_lt_of_cell? w _ c_W)).trans c_W
   replace c_X:=(HB.out.cell (World.block_lt_of_cell? w _ c_X)).trans c_X
   replace c_Y:=(HB.out.cell (World.block_lt_of_cell? w _ c_Y)).trans c_Y
   replace b_4:=(HB.out.cell (World.block_lt_of_cell? w _ b_4)).trans b_4
   replace b_5:=(HB.out.cell (World.block_lt_of_cell? w _ b_5)).trans b_5
   replace c_Z:=(HB.out.cell (World.block_lt_of_cell? w _ c_Z)).trans c_Z
   replace c_0:=(HB.out.cell (World.block_lt_of_cell? w _ c_0)).trans c_0
   replace c_1:=(HB.out.cell (World.block_lt_of_cell? w _ c_1)).trans c_1
   replace c_n:=(HB.out.cell (World.block_lt_of_cell? w _ c_n)).trans c_n
   replace p162:=eq_true p162
   replace q162:=eq_true q162
   go_wp2_with (first|((with_reducible refine a_J (N:=5) rfl ?_);refine a_C ?hg (N:=5) ?hd (cs:=#[.int .i64 0,.int .i64 0,.int .i64 0,.int .i64 0,.int .i64 0,.bool false,.bool false,.int .u32 0,.int .i64 0,.int .i64 0,.int .i64 0]) (t:=65) ?hr ?_;(case hd => rfl);(case hg => rfl);(case hr => first|(go_simp;done)|(go_simp;rfl));intro b_B hg w31 hbox hb;have b_f:=a_d.mk (hbox);have p_6:=a_d.mk ((by rw [hg];exact (a_n (by repeat (first|(with_reducible first|exact HB.out|apply a_g|apply a_e|apply a_h|refine a_f ?_ d_4.out)|exact HB.out))) : w.heap.size ≤ b_B));have i_6:=a_d.mk ((by rw [hg];exact (a_n (by repeat (first|(with_reducible first|exact HB.out|apply a_g|apply a_e|apply a_h|refine a_f ?_ d_4.out)|exact HB.out))) : w.heap.size ≤ b_B));have b_w:=a_d.mk ((by rw [hg];exact Nat.ne_of_lt (a_Q (bup_ c_4.out)) : e_u ≠ b_B));have d_K:=a_d.mk ((by rw [hg];exact Nat.ne_of_gt (a_Q (bup_ c_4.out)) : b_B ≠ e_u));replace c_4:=a_d.mk (a_i (bup_ c_4.out) hb);replace HB:=a_d.mk (a_o (by repeat (first|(with_reducible first|exact HB.out|apply a_g|apply a_e|apply a_h|refine a_f ?_ d_4.out)|exact HB.out)) hb);clear hb hbox hg;have H_I:=d_K.out;have H_J:=b_w.out;have f_U : w31.cell? ⟨b_B,0,none⟩ = some (.int .i64 0):=(a_a b_f.out 0).trans rfl;have f_V : w31.cell? ⟨b_B,1,none⟩ = some (.int .i64 0):=(a_a b_f.out 1).trans rfl;have F_L : w31.cell? ⟨b_B,2,none⟩ = some (.int .i64 0):=(a_a b_f.out 2).trans rfl;have F_M : w31.cell? ⟨b_B,3,none⟩ = some (.int .i64 0):=(a_a b_f.out 3).trans rfl;have F_N : w31.cell? ⟨b_B,4,none⟩ = some (.int .i64 0):=(a_a b_f.out 4).trans rfl;have F_O : w31.cell? ⟨b_B,5,none⟩ = some (.bool false):=(a_a b_f.out 5).trans rfl;have F_P : w31.cell? ⟨b_B,6,none⟩ = some (.bool false):=(a_a b_f.out 6).trans rfl;have F_Q : w31.cell? ⟨b_B,7,none⟩ = some (.int .u32 0):=(a_a b_f.out 7).trans rfl;have F_R : w31.cell? ⟨b_B,8,none⟩ = some (.int .i64 0):=(a_a b_f.out 8).trans rfl;have F_S : w31.cell? ⟨b_B,9,none⟩ = some (.int .i64 0):=(a_a b_f.out 9).trans rfl;have w_4 : w31.cell? ⟨b_B,10,none⟩ = some (.int .i64 0):=(a_a b_f.out 10).trans rfl;have f_W:=a_b b_f.out 0;have f_X:=a_b b_f.out 1;have F_T:=a_b b_f.out 2;have F_U:=a_b b_f.out 3;have F_V:=a_b b_f.out 4;have F_W:=a_b b_f.out 5;have F_X:=a_b b_f.out 6;have F_Y:=a_b b_f.out 7;have F_Z:=a_b b_f.out 8;have F_0:=a_b b_f.out 9;have w_5:=a_b b_f.out 10)|(go_at_call 50;(with_reducible refine (b_2.calls ((a_c l0_1 x12_1).f7) ((a_c l0_1 x12_1).f4) true _ A22.out).mono ?_);rintro e w' ⟨rfl,⟨nd,rfl⟩⟩)|(go_at_call 50;(with_reducible refine (b_2.calls x3_1 ((a_c l0_1 x12_1).f4) false _ A24.out).mono ?_);rintro e w' ⟨rfl,⟨nd,rfl⟩⟩))
   go_roundg k1
   case measure => have:=HK1.out;omega
   case rel => exact ⟨(Go.bits .or .u32 x3_1 (ji30)),(wrap64 (x12_1 + 1)),(by first|rfl|(simp;done)|(simp only [← hji30] <;> (first|rfl|simp))|(simp [*];done)),(by first|rfl|(simp;done)|(simp [*];done)),H',⟨by have:=HK1.out;omega⟩,⟨by (with_reducible repeat (first|refine a_l ?_ _|refine a_m ?_|refine a_j ?_ _));refine a_L ?_ b_w.out _;(with_reducible repeat (first|refine a_l ?_ _|refine a_m ?_|refine a_j ?_ _));refine a_L ?_ b_w.out _;(with_reducible repeat (first|refine a_l ?_ _|refine a_m ?_|refine a_j ?_ _));refine a_L ?_ b_w.out _;(with_reducible repeat (first|refine a_l ?_ _|refine a_m ?_|refine a_j ?_ _));refine a_L ?_ b_w.out _;(with_reducible repeat (first|refine a_l ?_ _|refine a_m ?_|refine a_j ?_ _));refine a_L ?_ b_w.out _;(with_reducible repeat (first|refine a_l ?_ _|refine a_m ?_|refine a_j ?_ _));refine a_L ?_ b_w.out _;(with_reducible repeat (first|refine a_l ?_ _|refine a_m ?_|refine a_j ?_ _));refine a_L ?_ b_w.out _;(with_reducible repeat (first|refine a_l ?_ _|refine a_m ?_|refine a_j ?_ _));refine a_L ?_ b_w.out _;(with_reducible repeat (first|refine a_l ?_ _|refine a_m ?_|refine a_j ?_ _));refine a_L ?_ b_w.out _;(with_reducible repeat (first|refine a_l ?_ _|refine a_m ?_|refine a_j ?_ _));refine a_L ?_ b_w.out _;(with_reducible repeat (first|refine a_l ?_ _|refine a_m ?_|refine a_j ?_ _));refine a_L ?_ b_w.out _;(with_reducible repeat (first|refine a_l ?_ _|refine a_m ?_|refine a_j ?_ _));exact c_4.out⟩,⟨by repeat (first|(with_reducible first|exact HB.out|apply a_g|apply a_e|apply a_h|refine a_f ?_ d_4.out|refine a_f ?_ i_6.out)|exact HB.out)⟩⟩
end Go.Proofs.Ytgglkfilkagblaa.Q
end
section
namespace Go.Proofs.Ytgglkfilkagblaa.Q
open Go.RowKit Go.Proofs.YtgglkfilkagblaaW.PrintWords Go.Proofs.YtgglkfilkagblaaW.PrintLast Go.Proofs.YtgglkfilkagblaaW.PrintMore
set_option linter.unusedVariables false
set_option linter.unusedSimpArgs false
attribute [local go_sem high] u_Q
def a_G.f (k : Nat)  : Option (Bool):=(b_t.f).bind fun bt166 => ((a_3.f k ([] : List (S27)) 0 bt166.1 bt166.2).bind fun bt170 => ((c_G.f k bt170.1 bt170.2.1 9).bind fun bt176 => ((a_4.f k bt176.1 bt176.2.1 1 3 9).bind fun bt181 => ((a_Z.f k bt176.1 bt176.2.1 2).bind fun bt183 => (if bt170.2.2 = 0 then (if bt176.2.2 = 0 then (if bt181.2 = 0 then (if bt183.2 = 0 then (if bt181.1 = 6 then (if (bt183.1.length : Int) = 1 then (if 0 < (bt183.1.length : Int) then (if (((b_N bt183.1 0).f0) == 0 && (((b_N bt183.1 0).f1) == 9)) = true then ((b_t.f).bind fun bt188 => ((a_2.f k bt188.1 bt188.2).bind fun t192 => (some t192))) else (some false)) else (none)) else (some false)) else (some false)) else (some false)) else (some false)) else (some false)) else (some false))))))
theorem a_G.mono : ∀ k,LeO (a_G.f k ) (a_G.f (k + 1) ):=by
 intro  k
 unfold a_G.f
 repeat' first
  | (with_reducible exact a_3.mono _ _ _ _ _)
  | (with_reducible exact a_2.mono _ _ _)
  | (with_reducible exact c_G.mono _ _ _ _)
  | (with_reducible exact a_4.mono _ _ _ _ _ _)
  | (with_reducible exact a_Z.mono _ _ _ _)
  | (with_reducible exact LeO.refl _)
  | (with_reducible exact LeO.none _)
  | (with_reducible refine LeO.ite ?_ ?_)
  | (with_reducible refine LeO.bind ?_ (fun _ => ?_))
  | exact a_3.mono _ _ _ _ _
  | exact a_2.mono _ _ _
  | exact c_G.mono _ _ _ _
  | exact a_4.mono _ _ _ _ _ _
  | exact a_Z.mono _ _ _ _
  | exact LeO.none _
  | refine LeO.ite ?_ ?_
  | refine LeO.bind ?_ (fun _ => ?_)
set_option maxHeartbeats 8000000 in
set_option maxRecDepth 100000 in
theorem a_G.calls (k : Nat)  (r : Bool) (w : World) (h : a_G.f k  = some r) :
 Calls Try.prog 7 #[] w fun e w' => e = .returned (.bool r) ∧ Below w.heap.size w w':=by
 have hr : r = true:=Option.some.inj ((h_v (g:=fun k => a_G.f k) a_G.mono (Nat.le_max_left k 200) h).symm.trans (h_v (g:=fun k => a_G.f k) a_G.mono (Nat.le_max_right k 200) (show a_G.f 200 = some true by kernel_rfl)))
 have hu24:=Try.underlying24
 have hu46:=Try.underlying46
 have HB:=a_d.mk (Below.refl w.heap.size w)
 have H : ((b_t.f).bind fun bt166 => ((a_3.f k ([] : List (S27)) 0 bt166.1 bt166.2).bind fun bt170 => ((c_G.f k bt170.1 bt170.2.1 9).bind fun bt176 => ((a_4.f k bt176.1 bt176.2.1 1 3 9).bind fun bt181 => ((a_Z.f k bt176.1 bt176.2.1 2).bind fun bt183 => (if bt170.2.2 = 0 then (if bt176.2.2 = 0 then (if bt181.2 = 0 then (if bt183.2 = 0 then (if bt181.1 = 6 then (if (bt183.1.length : Int) = 1 then (if 0 < (bt183.1.length : Int) then (if (((b_N bt183.1 0).f0) == 0 && (((b_N bt183.1 0).f1) == 9)) = true then ((b_t.f).bind fun bt188 => ((a_2.f k bt188.1 bt188.2).bind fun t192 => (some t192))) else (some false)) else (none)) else (some false)) else (some false)) else (some false)) else (some false)) else (some false)) else (some false))))))) = some r:=h
 clear h
 replace H:=Option.bind_eq_some_iff.mp H
 obtain ⟨⟨t166,t167⟩,A10,H⟩:=H
 replace H : ((a_3.f k ([] : List (S27)) 0 t166 t167).bind fun bt170 => ((c_G.f k bt170.1 bt170.2.1 9).bind fun bt176 => ((a_4.f k bt176.1 bt176.2.1 1 3 9).bind fun bt181 => ((a_Z.f k bt176.1 bt176.2.1 2).bind fun bt183 => (if bt170.2.2 = 0 then (if bt176.2.2 = 0 then (if bt181.2 = 0 then (if bt183.2 = 0 then (if bt181.1 = 6 then (if (bt183.1.length : Int) = 1 then (if 0 < (bt183.1.length : Int) then (if (((b_N bt183.1 0).f0) == 0 && (((b_N bt183.1 0).f1) == 9)) = true then ((b_t.f).bind fun bt188 => ((a_2.f k bt188.1 bt188.2).bind fun t192 => (some t192))) else (some false)) else (none)) else (some false)) else (some false)) else (some false)) else (some false)) else (some false)) else (some false)))))) = some r:=H
 have A1:=a_d.mk A10
 clear A10
 replace H:=Option.bind_eq_some_iff.mp H
 obtain ⟨⟨t170,t173,t174⟩,A20,H⟩:=H
 replace H : ((c_G.f k t170 t173 9).bind fun bt176 => ((a_4.f k bt176.1 bt176.2.1 1 3 9).bind fun bt181 => ((a_Z.f k bt176.1 bt176.2.1 2).bind fun bt183 => (if t174 = 0 then (if bt176.2.2 = 0 then (if bt181.2 = 0 then (if bt183.2 = 0 then (if bt181.1 = 6 then (if (bt183.1.length : Int) = 1 then (if 0 < (bt183.1.length : Int) then (if (((b_N bt183.1 0).f0) == 0 && (((b_N bt183.1 0).f1) == 9)) = true then ((b_t.f).bind fun bt188 => ((a_2.f k bt188.1 bt188.2).bind fun t192 => (some t192))) else (some false)) else (none)) else (some false)) else (some false)) else (some false)) else (some false)) else (some false)) else (some false))))) = some r:=H
 have A2:=a_d.mk A20
 clear A20
 replace H:=Option.bind_eq_some_iff.mp H
 obtain ⟨⟨t176,t179,t180⟩,A30,H⟩:=H
 replace H : ((a_4.f k t176 t179 1 3 9).bind fun bt181 => ((a_Z.f k t176 t179 2).bind fun bt183 => (if t174 = 0 then (if t180 = 0 then (if bt181.2 = 0 then (if bt183.2 = 0 then (if bt181.1 = 6 then (if (bt183.1.length : Int) = 1 then (if 0 < (bt183.1.length : Int) then (if (((b_N bt183.1 0).f0) == 0 && (((b_N bt183.1 0).f1) == 9)) = true then ((b_t.f).bind fun bt188 => ((a_2.f k bt188.1 bt188.2).bind fun t192 => (some t192))) else (some false)) else (none)) else (some false)) else (some false)) else (some false)) else (some false)) else (some false)) else (some false)))) = some r:=H
 have A3:=a_d.mk A30
 clear A30
 replace H:=Option.bind_eq_some_iff.mp H
 obtain ⟨⟨t181,t182⟩,A40,H⟩:=H
 replace H : ((a_Z.f k t176 t179 2).bind fun bt183 => (if t174 = 0 then (if t180 = 0 then (if t182 = 0 then (if bt183.2 = 0 then (if t181 = 6 then (if (bt183.1.length : Int) = 1 then (if 0 < (bt183.1.length : Int) then (if (((b_N bt183.1 0).f0) == 0 && (((b_N bt183.1 0).f1) == 9)) = true then ((b_t.f).bind fun bt188 => ((a_2.f k bt188.1 bt188.2).bind fun t192 => (some t192))) else (some false)) else (none)) else (some false)) else (some false)) else (some false)) else (some false)) else (some false)) else (some false))) = some r:=H
 have A4:=a_d.mk A40
 clear A40
 replace H:=Option.bind_eq_some_iff.mp H
 obtain ⟨⟨t183,t186⟩,A50,H⟩:=H
 replace H : (if t174 = 0 then (if t180 = 0 then (if t182 = 0 then (if t186 = 0 then (if t181 = 6 then (if (t183.length : Int) = 1 then (if 0 < (t183.length : Int) then (if (((b_N t183 0).f0) == 0 && (((b_N t183 0).f1) == 9)) = true then ((b_t.f).bind fun bt188 => ((a_2.f k bt188.1 bt188.2).bind fun t192 => (some t192))) else (some false)) else (none)) else (some false)) else (some false)) else (some false)) else (some false)) else (some false)) else (some false)) = some r:=H
 have A5:=a_d.mk A50
 clear A50
 by_cases c6 : t174 = 0
 rotate_left
 ·rw [if_neg c6] at H
  exact absurd ((Option.some.inj H).trans hr) (by decide)
 rw [if_pos c6] at H
 have c6b0 : (t174 == 0) = true:=beq_iff_eq.mpr c6
 have c6b1 : (t174 != 0) = false:=bne_eq_false_iff_eq.mpr c6
 clear c6
 by_cases c7 : t180 = 0
 rotate_left
 ·rw [if_neg c7] at H
  exact absurd ((Option.some.inj H).trans hr) (by decide)
 rw [if_pos c7] at H
 have c7b0 : (t180 == 0) = true:=beq_iff_eq.mpr c7
 have c7b1 : (t180 != 0) = false:=bne_eq_false_iff_eq.mpr c7
 clear c7
 by_cases c8 : t182 = 0
 rotate_left
 ·rw [if_neg c8] at H
  exact absurd ((Option.some.inj H).trans hr) (by decide)
 rw [if_pos c8] at H
 have c8b0 : (t182 == 0) = true:=beq_iff_eq.mpr c8
 have c8b1 : (t182 != 0) = false:=bne_eq_false_iff_eq.mpr c8
 clear c8
 by_cases c9 : t186 = 0
 rotate_left
 ·rw [if_neg c9] at H
  exact absurd ((Option.some.inj H).trans hr) (by decide)
 rw [if_pos c9] at H
 have c9b0 : (t186 == 0) = true:=beq_iff_eq.mpr c9
 have c9b1 : (t186 != 0) = false:=bne_eq_false_iff_eq.mpr c9
 clear c9
 by_cases c10 : t181 = 6
 rotate_left
 ·rw [if_neg c10] at H
  exact absurd ((Option.some.inj H).trans hr) (by decide)
 rw [if_pos c10] at H
 have c10b0 : (t181 == 6) = true:=beq_iff_eq.mpr c10
 have c10b1 : (t181 != 6) = false:=bne_eq_false_iff_eq.mpr c10
 clear c10
 by_cases c11 : (t183.length : Int) = 1
 rotate_left
 ·rw [if_neg c11] at H
  exact absurd ((Option.some.inj H).trans hr) (by decide)
 rw [if_pos c11] at H
 have c11b0 : ((t183.length : Int) == 1) = true:=beq_iff_eq.mpr c11
 have c11b1 : ((t183.length : Int) != 1) = false:=bne_eq_false_iff_eq.mpr c11
 clear c11
 by_cases c12 : 0 < (t183.length : Int)
 rotate_left
 ·rw [if_neg c12] at H
  exact absurd H (by simp)
 rw [if_pos c12] at H
 have c12b0 : decide (0 < (t183.length : Int)) = true:=decide_eq_true c12
 have c12b1 : decide (0 < t183.length) = true:=decide_eq_true (by omega)
 clear c12
 by_cases c13 : (((b_N t183 0).f0) == 0 && (((b_N t183 0).f1) == 9)) = true
 rotate_left
 ·rw [if_neg c13] at H
  exact absurd ((Option.some.inj H).trans hr) (by decide)
 rw [if_pos c13] at H
 have c13b0 : (((b_N t183 0).f0) == 0 && (((b_N t183 0).f1) == 9)) = true:=c13
 (try (have c13b1 : decide (((b_N t183 0).f0) = 0 && (((b_N t183 0).f1) == 9)) = true:=by simpa using c13))
 (try (have c13b2 : (((b_N t183 0).f0) == 0 && (((b_N t183 0).f1) == 9)) = true:=by simpa using c13))
 clear c13
 replace H:=Option.bind_eq_some_iff.mp H
 obtain ⟨⟨t188,t189⟩,A140,H⟩:=H
 replace H : ((a_2.f k t188 t189).bind fun t192 => (some t192)) = some r:=H
 have A14:=a_d.mk A140
 clear A140
 replace H:=Option.bind_eq_some_iff.mp H
 obtain ⟨t192,A150,H⟩:=H
 replace H : (some t192) = some r:=H
 have A15:=a_d.mk A150
 clear A150
 obtain rfl:=Option.some.inj H
 go_enter Try.func7,Try.ntmps7
 go_wp2_with (first|((with_reducible refine b_a (f:=22) rfl ?_);refine c_v (some 10) rfl rfl Try.func22 (by kernel_rfl) rfl #[] rfl (by (try simp only [List.map_toArray,List.map_cons,List.map_nil]);first|done|rfl|(simp only [List.length_drop,List.length_take];rfl)) ?_;(with_reducible refine (b_t.calls  t166 t167 _ A1.out).mono ?_);rintro e w16 ⟨v168,rfl,ho0,hb⟩;refine ⟨_,rfl,?_⟩;have f_b:=a_d.mk (Kd.c_I ho0 (a_n (lup_ HB.out)));replace HB:=a_d.mk (a_o (lup_ HB.out) hb);(try clear hb);(try clear hb2);(try clear hk);(try clear hi);(try clear ho0);obtain ⟨Ao17,co17,eo17⟩:=Kd.d_h f_b.out;subst eo17)|((with_reducible refine b_a (f:=10) rfl ?_);refine c_v (some 11) rfl rfl Try.func10 (by kernel_rfl) rfl #[.agg #[.slice none 0 0,.int .i64 0],.agg #[.int .i64 t166,.slice Ao17 t167.length co17]] rfl (by (try simp only [List.map_toArray,List.map_cons,List.map_nil]);first|done|rfl|(simp only [List.length_drop,List.length_take];rfl)) ?_;(refine (a_3.calls k (fun k_ => False) _ _ ([] : List (S27)) 0 t166 (fun k_ => some k_ = (.slice Ao17 t167.length co17 : Value).ownBlock) _ _ t167 t170 t173 t174 _ ?side1 ?side2 A2.out).mono ?_);(case side1 => exact Kd.j_e _ _ _ _ _);(case side2 => exact Kd.R_V (Kd.o_e rfl (f_b.out)));rintro e w18 ⟨v171,rfl,ho0,hb⟩;refine ⟨_,rfl,?_⟩;have f_3:=a_d.mk (Kd.k_U (Kd.f_d (ok':=fun k_ => True) ho0 (fun k_ hk_ => trivial)) (a_n (lup_ HB.out)));replace f_b:=a_d.mk (Kd.b_U (rup_ f_b.out) hb);replace HB:=a_d.mk (a_o (lup_ HB.out) hb);(try clear hb);(try clear hb2);(try clear hk);(try clear hi);(try clear ho0))|((with_reducible refine a_J (N:=1) rfl ?_);(try (refine a_6 (by rfl) ?_;dsimp only));refine a_C ?hg (N:=1) ?hd (cs:=#[.slice none 0 0,.int .i64 0]) (t:=24) ?hr ?_;(case hd => rfl);(case hg => rfl);(case hr => first|(go_simp;done)|(go_simp;rfl));intro d_H hg w19 hbox hb;have d_1:=a_d.mk (hbox);have H_K:=a_d.mk ((by rw [hg];exact (a_n (lup_ HB.out)) : w.heap.size ≤ d_H));have j_h:=a_d.mk ((by rw [hg];exact (a_n (lup_ HB.out)) : w.heap.size ≤ d_H));replace f_b:=a_d.mk (Kd.b_U (rup_ f_b.out) hb);replace f_3:=a_d.mk (Kd.f_k (Kd.q_6 (by (with_reducible repeat (first|apply Kd.d_W|apply Kd.d_X|apply Kd.d_5));exact f_3.out) d_H (Nat.le_of_eq hg.symm)) hb);replace HB:=a_d.mk (a_o (lup_ HB.out) hb);clear hb hbox hg;obtain ⟨Ao20,co20,eo20⟩:=Kd.h_K f_3.out;subst eo20;have p_M : w19.cell? ⟨d_H,0,none⟩ = some (.slice none 0 0):=(a_a d_1.out 0).trans rfl;have p_N : w19.cell? ⟨d_H,1,none⟩ = some (.int .i64 0):=(a_a d_1.out 1).trans rfl;have p_O:=a_b d_1.out 0;have p_P:=a_b d_1.out 1)|((with_reducible refine j_i (t:=24) (p:=1) rfl ?_);refine h_L (t:=24) (p:=1) (v:=?vo_w22) (w1:=((w19.setCell ⟨d_H,0,none⟩ (.slice Ao20 t170.length co20)).setCell ⟨d_H,1,none⟩ (.int .i64 t173))) ?hg ?ho ?hn ?hr ?_;(case ho => rfl);(case hg => rfl);(case hn => rfl);(case hr => first|(go_simp;done)|(go_simp;rfl));intro w22 hw;replace f_b : a_d (Kd.R k65 65 w22 w.heap.size (fun _ => True) (.slice Ao17 t167.length co17) t167):=⟨(by rw [hw];exact (by (with_reducible repeat (first|apply Kd.d_C|apply Kd.d_B|apply Kd.d_7));exact Kd.f_c (Kd.q_4 (p:=⟨d_H,1,none⟩) (Kd.q_4 (p:=⟨d_H,0,none⟩) (Kd.o_b f_b.out d_1.out (by decide)) (fun _ hk => hk.2) (.slice Ao20 t170.length co20)) (fun _ hk => hk.2) (.int .i64 t173)) (fun _ hk => trivial)))⟩;replace f_3 : a_d (Kd.N k27 27 w22 w.heap.size (fun k_ => k_ ≠ d_H) (.slice Ao20 t170.length co20) t170):=⟨(by rw [hw];exact (by (with_reducible repeat (first|apply Kd.d_W|apply Kd.d_X|apply Kd.d_5));exact Kd.f_d (Kd.k_J (p:=⟨d_H,1,none⟩) (Kd.k_J (p:=⟨d_H,0,none⟩) (Kd.f_d f_3.out (fun k_ hk => (⟨hk,hk.2⟩ : _ ∧ k_ ≠ d_H))) (fun _ hk => hk.2) (.slice Ao20 t170.length co20)) (fun _ hk => hk.2) (.int .i64 t173)) (fun _ hk => hk.1.2)))⟩;replace d_1 : a_d (w22.heap[d_H]? = some (.cells #[.slice Ao20 t170.length co20,.int .i64 t173] 24 (0,0))):=⟨(by rw [hw];exact (by (with_reducible repeat (first|refine a_l ?_ _|refine a_m ?_|refine a_j ?_ _));refine a_R (cs:=#[.slice Ao20 t170.length co20,.int .i64 0]) ?_ 1 _ rfl;(with_reducible repeat (first|refine a_l ?_ _|refine a_m ?_|refine a_j ?_ _));refine a_R (cs:=#[.slice none 0 0,.int .i64 0]) ?_ 0 _ rfl;(with_reducible repeat (first|refine a_l ?_ _|refine a_m ?_|refine a_j ?_ _));exact d_1.out))⟩;replace HB : a_d (Below w.heap.size w w22):=⟨(by rw [hw];exact (by repeat (first|(with_reducible first|exact HB.out|apply a_g|apply a_e|apply a_h|refine a_f ?_ j_h.out)|exact HB.out)))⟩;clear hw;have p_C : w22.cell? ⟨d_H,0,none⟩ = some (.slice Ao20 t170.length co20):=(a_a d_1.out 0).trans rfl;have p_D : w22.cell? ⟨d_H,1,none⟩ = some (.int .i64 t173):=(a_a d_1.out 1).trans rfl;have p_E:=a_b d_1.out 0;have p_F:=a_b d_1.out 1)|((with_reducible refine b_a (f:=11) rfl ?_);refine c_v (some 16) rfl rfl Try.func11 (by kernel_rfl) rfl #[.agg #[.slice Ao20 t170.length co20,.int .i64 t173],.int .i64 9] rfl (by (try simp only [List.map_toArray,List.map_cons,List.map_nil]);first|done|rfl|(simp only [List.length_drop,List.length_take];rfl)) ?_;(with_reducible refine (c_G.calls k (fun k_ => k_ ≠ d_H) _ _ t170 t173 9 t176 t179 t180 _ ?side1 A3.out).mono ?_);(case side1 => exact Kd.N_V (f_3.out));rintro e w24 ⟨v177,rfl,ho0,hb⟩;refine ⟨_,rfl,?_⟩;have g_9:=a_d.mk (Kd.r_Z (Kd.d_y (ok':=fun k_ => k_ ≠ d_H) ho0 (fun k_ hk_ => Or.elim hk_ (fun hs_ => hs_) (fun hn_ => (Kd.f_4 (g:=d_H) (o:=.cells #[.slice Ao20 t170.length co20,.int .i64 t173] 24 (0,0)) (bup_ d_1.out) k_ hn_)))) (a_n (by repeat (first|(with_reducible first|exact HB.out|apply a_g|apply a_e|apply a_h|refine a_f ?_ j_h.out)|exact HB.out))));replace f_b:=a_d.mk (Kd.b_U (rup_ f_b.out) hb);replace f_3:=a_d.mk (Kd.f_k (by (with_reducible repeat (first|apply Kd.d_W|apply Kd.d_X|apply Kd.d_5));exact f_3.out) hb);replace d_1:=a_d.mk (a_i (bup_ d_1.out) hb);replace HB:=a_d.mk (a_o (by repeat (first|(with_reducible first|exact HB.out|apply a_g|apply a_e|apply a_h|refine a_f ?_ j_h.out)|exact HB.out)) hb);(try clear hb);(try clear hb2);(try clear hk);(try clear hi);(try clear ho0);obtain ⟨Ao25,co25,eo25⟩:=Kd.r_U g_9.out;subst eo25;have f_B : w24.cell? ⟨d_H,0,none⟩ = some (.slice Ao20 t170.length co20):=(a_a d_1.out 0).trans rfl;have f_C : w24.cell? ⟨d_H,1,none⟩ = some (.int .i64 t173):=(a_a d_1.out 1).trans rfl;have f_D:=a_b d_1.out 0;have f_E:=a_b d_1.out 1)|((with_reducible refine b_a (f:=16) rfl ?_);refine c_v (some 21) rfl rfl Try.func16 (by kernel_rfl) rfl #[.agg #[.slice Ao25 t176.length co25,.int .i64 t179],.int .i64 1,.int .i64 3,.int .i64 9] rfl (by (try simp only [List.map_toArray,List.map_cons,List.map_nil]);first|done|rfl|(simp only [List.length_drop,List.length_take];rfl)) ?_;(with_reducible refine (a_4.calls k _ _ t176 t179 1 3 9 t181 t182 _ ?side1 ?side2 A4.out).mono ?_);(case side1 => refine (Kd.b_W (e:=27) (base:=w.heap.size) (ok:=fun k_ => k_ ≠ d_H) (n:=t176.length) (c:=co25) ?_).2.2;exact (by (with_reducible repeat (first|apply Kd.b_d|apply Kd.b_e|apply Kd.b_m));exact (Kd.d_y (Kd.k_7 (p:=⟨d_H,1,none⟩) (Kd.k_7 (p:=⟨d_H,0,none⟩) (Kd.d_y g_9.out (fun k_ hk => (⟨hk,hk⟩ : _ ∧ k_ ≠ d_H))) (fun _ hk => hk.2) (.slice Ao25 t176.length co25)) (fun _ hk => hk.2) (.int .i64 t179)) (fun _ h_ => h_.1))));(case side2 => exact (Kd.b_W g_9.out).2.1);rintro e w27 ⟨rfl,hb⟩;refine ⟨_,rfl,?_⟩;replace f_b:=a_d.mk (Kd.b_U (by (with_reducible repeat (first|apply Kd.d_C|apply Kd.d_B|apply Kd.d_7));exact (Kd.f_c (Kd.q_4 (p:=⟨d_H,1,none⟩) (Kd.q_4 (p:=⟨d_H,0,none⟩) (Kd.o_b f_b.out d_1.out (by decide)) (fun _ hk => hk.2) (.slice Ao25 t176.length co25)) (fun _ hk => hk.2) (.int .i64 t179)) (fun _ h_ => h_.1))) hb);replace f_3:=a_d.mk (Kd.f_k (by (with_reducible repeat (first|apply Kd.d_W|apply Kd.d_X|apply Kd.d_5));exact (Kd.f_d (Kd.k_J (p:=⟨d_H,1,none⟩) (Kd.k_J (p:=⟨d_H,0,none⟩) (Kd.f_d f_3.out (fun k_ hk => (⟨hk,hk⟩ : _ ∧ k_ ≠ d_H))) (fun _ hk => hk.2) (.slice Ao25 t176.length co25)) (fun _ hk => hk.2) (.int .i64 t179)) (fun _ h_ => h_.1))) hb);replace g_9:=a_d.mk (Kd.b_s (by (with_reducible repeat (first|apply Kd.b_d|apply Kd.b_e|apply Kd.b_m));exact (Kd.d_y (Kd.k_7 (p:=⟨d_H,1,none⟩) (Kd.k_7 (p:=⟨d_H,0,none⟩) (Kd.d_y g_9.out (fun k_ hk => (⟨hk,hk⟩ : _ ∧ k_ ≠ d_H))) (fun _ hk => hk.2) (.slice Ao25 t176.length co25)) (fun _ hk => hk.2) (.int .i64 t179)) (fun _ h_ => h_.1))) hb);replace d_1:=a_d.mk (a_i (g:=d_H) (o:=.cells #[.slice Ao25 t176.length co25,.int .i64 t179] 24 (0,0)) (by (with_reducible repeat (first|refine a_l ?_ _|refine a_m ?_|refine a_j ?_ _));refine a_R (cs:=#[.slice Ao25 t176.length co25,.int .i64 t173]) ?_ 1 _ rfl;(with_reducible repeat (first|refine a_l ?_ _|refine a_m ?_|refine a_j ?_ _));refine a_R (cs:=#[.slice Ao20 t170.length co20,.int .i64 t173]) ?_ 0 _ rfl;(with_reducible repeat (first|refine a_l ?_ _|refine a_m ?_|refine a_j ?_ _));exact d_1.out) hb);replace HB:=a_d.mk (a_o (by repeat (first|(with_reducible first|exact HB.out|apply a_g|apply a_e|apply a_h|refine a_f ?_ j_h.out)|exact HB.out)) hb);(try clear hb);(try clear hb2);(try clear hk);(try clear hi);have h_M : w27.cell? ⟨d_H,0,none⟩ = some (.slice Ao25 t176.length co25):=(a_a d_1.out 0).trans rfl;have h_N : w27.cell? ⟨d_H,1,none⟩ = some (.int .i64 t179):=(a_a d_1.out 1).trans rfl;have h_O:=a_b d_1.out 0;have h_P:=a_b d_1.out 1)|((with_reducible refine b_a (f:=17) rfl ?_);refine c_v (some 26) rfl rfl Try.func17 (by kernel_rfl) rfl #[.agg #[.slice Ao25 t176.length co25,.int .i64 t179],.int .i64 2] rfl (by (try simp only [List.map_toArray,List.map_cons,List.map_nil]);first|done|rfl|(simp only [List.length_drop,List.length_take];rfl)) ?_;(with_reducible refine (a_Z.calls k _ _ t176 t179 2 t183 t186 _ ?side1 ?side2 A5.out).mono ?_);(case side1 => repeat (first|exact (Kd.b_W g_9.out).2.2|(with_reducible refine Kd.a_V ?_ _)|(with_reducible refine Kd.a_W ?_ _)|(with_reducible refine Kd.a_5 ?_)));(case side2 => exact (Kd.b_W g_9.out).2.1);rintro e w29 ⟨v184,rfl,ho0,hb⟩;refine ⟨_,rfl,?_⟩;have n_N:=a_d.mk (Kd.c_I ho0 (a_n (by repeat (first|(with_reducible first|exact HB.out|apply a_g|apply a_e|apply a_h|refine a_f ?_ j_h.out)|exact HB.out))));replace f_b:=a_d.mk (Kd.b_U (rup_ f_b.out) hb);replace f_3:=a_d.mk (Kd.m_B (by (with_reducible repeat (first|apply Kd.d_W|apply Kd.d_X|apply Kd.d_5));exact f_3.out) (Kd.g_C ho0) hb);replace g_9:=a_d.mk (Kd.g_L (by (with_reducible repeat (first|apply Kd.b_d|apply Kd.b_e|apply Kd.b_m));exact g_9.out) (Kd.g_C ho0) hb);replace d_1:=a_d.mk (a_i (bup_ d_1.out) hb);replace HB:=a_d.mk (a_o (by repeat (first|(with_reducible first|exact HB.out|apply a_g|apply a_e|apply a_h|refine a_f ?_ j_h.out)|exact HB.out)) hb);(try clear hb);(try clear hb2);(try clear hk);(try clear hi);(try clear ho0);obtain ⟨Ao30,co30,eo30⟩:=Kd.d_h n_N.out;subst eo30;have p187 : 0 ≤ (0 : Int):=(by omega);have q187 : 0 < (t183.length : Int):=of_decide_eq_true (by first|(with_reducible assumption)|assumption);obtain ⟨ad187,e187,m_q,m_r⟩:=h_B (Kd.c_5 n_N.out).2.2 0 p187 q187;cases e187;have qi187 : (0 < t183.length) = True:=eq_true (by omega);(try rw [show ((0 : Int)).toNat = 0 from rfl] at m_q);(try rw [show 0 * 2 = 0 from rfl] at m_q);(try rw [Addr.add_zero'] at m_q);(try rw [show ((0 : Int)).toNat = 0 from rfl] at m_r);(try rw [show 0 * 2 = 0 from rfl] at m_r);(try rw [Addr.add_zero'] at m_r);replace p187:=eq_true p187;replace q187:=eq_true q187)|(go_at_call 22;(with_reducible refine (b_t.calls  t188 t189 _ A14.out).mono ?_);rintro e w31 ⟨v190,rfl,ho0,hb⟩;have p_7:=a_d.mk (Kd.c_I (Kd.m_H ho0 (Kd.R_lt (rup_ f_b.out))) (a_n (by repeat (first|(with_reducible first|exact HB.out|apply a_g|apply a_e|apply a_h|refine a_f ?_ j_h.out)|exact HB.out))));replace f_b:=a_d.mk (Kd.h_r (rup_ f_b.out) (Kd.g_C ho0) hb);replace f_3:=a_d.mk (Kd.m_B (by (with_reducible repeat (first|apply Kd.d_W|apply Kd.d_X|apply Kd.d_5));exact f_3.out) (Kd.g_C ho0) hb);replace g_9:=a_d.mk (Kd.g_L (by (with_reducible repeat (first|apply Kd.b_d|apply Kd.b_e|apply Kd.b_m));exact g_9.out) (Kd.g_C ho0) hb);replace n_N:=a_d.mk (Kd.b_U (rup_ n_N.out) hb);replace d_1:=a_d.mk (a_i (bup_ d_1.out) hb);replace HB:=a_d.mk (a_o (by repeat (first|(with_reducible first|exact HB.out|apply a_g|apply a_e|apply a_h|refine a_f ?_ j_h.out)|exact HB.out)) hb);(try clear hb);(try clear hb2);(try clear hk);(try clear hi);(try clear ho0);obtain ⟨Ao32,co32,eo32⟩:=Kd.d_h p_7.out;subst eo32)|(go_at_call 23;(with_reducible refine (a_2.calls k t188 _ _ t189 t192 _ ?side1 ?side2 A15.out).mono ?_);(case side1 => repeat (first|exact (Kd.c_5 p_7.out).2.2|(with_reducible refine Kd.a_V ?_ _)|(with_reducible refine Kd.a_W ?_ _)|(with_reducible refine Kd.a_5 ?_)));(case side2 => exact (Kd.c_5 p_7.out).2.1);rintro e w33 ⟨rfl,hb⟩;replace f_b:=a_d.mk (Kd.b_U (rup_ f_b.out) hb);replace f_3:=a_d.mk (Kd.f_k (by (with_reducible repeat (first|apply Kd.d_W|apply Kd.d_X|apply Kd.d_5));exact f_3.out) hb);replace g_9:=a_d.mk (Kd.b_s (by (with_reducible repeat (first|apply Kd.b_d|apply Kd.b_e|apply Kd.b_m));exact g_9.out) hb);replace n_N:=a_d.mk (Kd.b_U (rup_ n_N.out) hb);replace p_7:=a_d.mk (Kd.b_U (rup_ p_7.out) hb);replace d_1:=a_d.mk (a_i (bup_ d_1.out) hb);replace HB:=a_d.mk (a_o (by repeat (first|(with_reducible first|exact HB.out|apply a_g|apply a_e|apply a_h|refine a_f ?_ j_h.out)|exact HB.out)) hb);(try clear hb);(try clear hb2);(try clear hk);(try clear hi)))
 go_ret
 exact ⟨by first|rfl|(simp [a_w,a_x] <;> rfl)|(simp [*, a_w,a_x] <;> rfl),by repeat (first|(with_reducible first|exact HB.out|apply a_g|apply a_e|apply a_h|refine a_f ?_ j_h.out)|exact HB.out)⟩
end Go.Proofs.Ytgglkfilkagblaa.Q
end
section
namespace Go.Proofs.Ytgglkfilkagblaa.Q
open Go.RowKit Go.Proofs.YtgglkfilkagblaaW.PrintWords Go.Proofs.YtgglkfilkagblaaW.PrintLast Go.Proofs.YtgglkfilkagblaaW.PrintMore
set_option linter.unusedVariables false
set_option linter.unusedSimpArgs false
def a_B.l0 : Nat → List (S27) → Int → Int → Option (Bool)
 | 0,_,_,_ => none
 | k + 1,x10,x11,x12 => if x12 < x11 then (if 0 ≤ x12 then (if x12 < (x10.length : Int) then (if (((a_p x10 x12).f1).length : Int) > 30 then (some true) else (a_B.l0 k x10 x11 (wrap64 (x12 + 1)))) else (none)) else (none)) else (some false)
def a_B.f (k : Nat) (l0_0 : List (S27)) (a0_1 : Int) : Option (Bool):=if (l0_0.length : Int) > 120 then (some true) else (a_B.l0 k l0_0 (l0_0.length : Int) 0)
theorem a_B.c_w : ∀ k,(∀ y0 y1 y2,LeO (a_B.l0 k y0 y1 y2) (a_B.l0 (k + 1) y0 y1 y2))
 | 0 => fun _ _ _ r h => by simp [a_B.l0] at h
 | k + 1 => by
  have ih0:=a_B.c_w k
  ·intro y0 y1 y2
   unfold a_B.l0
   repeat' first
   | (with_reducible exact ih0 _ _ _)
   | (with_reducible exact LeO.refl _)
   | (with_reducible exact LeO.none _)
   | (with_reducible refine LeO.ite ?_ ?_)
   | (with_reducible refine LeO.bind ?_ (fun _ => ?_))
   | exact ih0 _ _ _
   | exact LeO.none _
   | refine LeO.ite ?_ ?_
   | refine LeO.bind ?_ (fun _ => ?_)
theorem a_B.mono : ∀ a0 a1 k,LeO (a_B.f k a0 a1) (a_B.f (k + 1) a0 a1):=by
 intro a0 a1 k
 have ih0:=a_B.c_w k
 unfold a_B.f
 repeat' first
  | (with_reducible exact ih0 _ _ _)
  | (with_reducible exact LeO.refl _)
  | (with_reducible exact LeO.none _)
  | (with_reducible refine LeO.ite ?_ ?_)
  | (with_reducible refine LeO.bind ?_ (fun _ => ?_))
  | exact ih0 _ _ _
  | exact LeO.none _
  | refine LeO.ite ?_ ?_
  | refine LeO.bind ?_ (fun _ => ?_)
set_option maxHeartbeats 8000000 in
set_option maxRecDepth 100000 in
theorem a_B.calls (k : Nat) (A0_0 : Option Addr) (c0_0 : Nat) (l0_0 : List (S27)) (a0_1 : Int) (r : Bool) (w : World) (hr0_0 : Kd.C k27 w A0_0 l0_0.length l0_0) (hc0_0 : l0_0.length ≤ c0_0) (h : a_B.f k l0_0 a0_1 = some r) :
 Calls Try.prog 8 #[.agg #[.slice A0_0 l0_0.length c0_0,.int .i64 a0_1]] w fun e w' => e = .returned (.bool r) ∧ Below w.heap.size w w':=by
 have hu24:=Try.underlying24
 have hu27:=Try.underlying27
 have b_q:=a_d.mk hr0_0
 have b_S:=a_d.mk hc0_0
 clear hr0_0 hc0_0
 have HB:=a_d.mk (Below.refl w.heap.size w)
 have H : (if (l0_0.length : Int) > 120 then (some true) else (a_B.l0 k l0_0 (l0_0.length : Int) 0)) = some r:=h
 clear h
 by_cases c2 : (l0_0.length : Int) > 120
 ·rw [if_pos c2] at H
  have c2b0 : decide (120 < (l0_0.length : Int)) = true:=decide_eq_true c2
  have c2b1 : decide (120 < l0_0.length) = true:=decide_eq_true (by omega)
  clear c2
  obtain rfl:=Option.some.inj H
  go_enter Try.func8,Try.ntmps8
  go_wp2_with (first|((with_reducible refine a_J (N:=1) rfl ?_);refine a_C ?hg (N:=1) ?hd (cs:=#[.slice A0_0 l0_0.length c0_0,.int .i64 a0_1]) (t:=24) ?hr ?_;(case hd => rfl);(case hg => rfl);(case hr => first|(go_simp;done)|(go_simp;rfl));intro g_R hg w3 hbox hb;have e_P:=a_d.mk (hbox);have F_1:=a_d.mk ((by rw [hg];exact (a_n (lup_ HB.out)) : w.heap.size ≤ g_R));have h_p:=a_d.mk ((by rw [hg];exact (a_n (lup_ HB.out)) : w.heap.size ≤ g_R));replace HB:=a_d.mk (a_o (lup_ HB.out) hb);clear hb hbox hg;have r_E : w3.cell? ⟨g_R,0,none⟩ = some (.slice A0_0 l0_0.length c0_0):=(a_a e_P.out 0).trans rfl;have r_F : w3.cell? ⟨g_R,1,none⟩ = some (.int .i64 a0_1):=(a_a e_P.out 1).trans rfl;have r_G:=a_b e_P.out 0;have r_H:=a_b e_P.out 1))
  go_ret
  exact ⟨by first|rfl|(simp [a_w,a_x] <;> rfl)|(simp [*, a_w,a_x] <;> rfl),by repeat (first|(with_reducible first|exact HB.out|apply a_g|apply a_e|apply a_h|refine a_f ?_ h_p.out)|exact HB.out)⟩
 rw [if_neg c2] at H
 have c2b0 : decide (120 < (l0_0.length : Int)) = false:=decide_eq_false c2
 have c2b1 : decide (120 < l0_0.length) = false:=decide_eq_false (by omega)
 clear c2
 have H':=a_d.mk H
 clear H
 go_enter Try.func8,Try.ntmps8
 go_wp2_with (first|((with_reducible refine a_J (N:=1) rfl ?_);refine a_C ?hg (N:=1) ?hd (cs:=#[.slice A0_0 l0_0.length c0_0,.int .i64 a0_1]) (t:=24) ?hr ?_;(case hd => rfl);(case hg => rfl);(case hr => first|(go_simp;done)|(go_simp;rfl));intro g_R hg w5 hbox hb;have e_P:=a_d.mk (hbox);have F_1:=a_d.mk ((by rw [hg];exact (a_n (lup_ HB.out)) : w.heap.size ≤ g_R));have h_p:=a_d.mk ((by rw [hg];exact (a_n (lup_ HB.out)) : w.heap.size ≤ g_R));replace HB:=a_d.mk (a_o (lup_ HB.out) hb);clear hb hbox hg;have m_O : w5.cell? ⟨g_R,0,none⟩ = some (.slice A0_0 l0_0.length c0_0):=(a_a e_P.out 0).trans rfl;have m_P : w5.cell? ⟨g_R,1,none⟩ = some (.int .i64 a0_1):=(a_a e_P.out 1).trans rfl;have m_Q:=a_b e_P.out 0;have m_R:=a_b e_P.out 1))
 go_loopg [12] k (fun kq v12 w' => ∃ (x12_1 : Int),v12 = .int .i64 x12_1 ∧ a_d (a_B.l0 kq l0_0 (l0_0.length : Int) x12_1 = some r) ∧ a_d (kq ≤ k) ∧ a_d (w'.heap[g_R]? = some (.cells #[(.slice A0_0 l0_0.length c0_0),.int .i64 a0_1] 24 (0,0))) ∧ a_d (Below w.heap.size w w'))
 case atStart => exact ⟨(0),(by first|rfl|(simp;done)|(simp [*];done)),H',⟨Nat.le_refl _⟩,⟨by (with_reducible repeat (first|refine a_l ?_ _|refine a_m ?_|refine a_j ?_ _));exact e_P.out⟩,⟨by repeat (first|(with_reducible first|exact HB.out|apply a_g|apply a_e|apply a_h|refine a_f ?_ h_p.out)|exact HB.out)⟩⟩
 case round =>
  clear H'
  try clear c2
  try clear c2b0
  try clear c2b1
  try clear p2
  try clear r_E
  try clear r_F
  try clear m_O
  try clear m_P
  try clear r_G
  try clear r_H
  try clear m_Q
  try clear m_R
  obtain ⟨x12_1,rfl,HA,HK1,e_P,HB⟩:=hrel
  cases gk with
  | zero => exact absurd HA.out (by simp [a_B.l0])
  | succ k1 =>
   have H:=HA.out
   clear HA
   simp only [a_B.l0] at H
   by_cases c7 : x12_1 < (l0_0.length : Int)
   rotate_left
   ·rw [if_neg c7] at H
    have c7b0 : decide (x12_1 < (l0_0.length : Int)) = false:=decide_eq_false c7
    clear c7
    obtain rfl:=Option.some.inj H
    go_wp2
    go_ret
    exact ⟨by first|rfl|(simp [a_w,a_x] <;> rfl)|(simp [*, a_w,a_x] <;> rfl),by repeat (first|(with_reducible first|exact HB.out|apply a_g|apply a_e|apply a_h|refine a_f ?_ h_p.out)|exact HB.out)⟩
   rw [if_pos c7] at H
   have c7b0 : decide (x12_1 < (l0_0.length : Int)) = true:=decide_eq_true c7
   clear c7
   by_cases c8 : 0 ≤ x12_1
   rotate_left
   ·rw [if_neg c8] at H
    exact absurd H (by simp)
   rw [if_pos c8] at H
   have c8b0 : decide (0 ≤ x12_1) = true:=decide_eq_true c8
   clear c8
   by_cases c9 : x12_1 < (l0_0.length : Int)
   rotate_left
   ·rw [if_neg c9] at H
    exact absurd H (by simp)
   rw [if_pos c9] at H
   have c9b0 : decide (x12_1 < (l0_0.length : Int)) = true:=decide_eq_true c9
   clear c9
   by_cases c10 : (((a_p l0_0 x12_1).f1).length : Int) > 30
   ·rw [if_pos c10] at H
    have c10b0 : decide (30 < (((a_p l0_0 x12_1).f1).length : Int)) = true:=decide_eq_true c10
    have c10b1 : decide (30 < ((a_p l0_0 x12_1).f1).length) = true:=decide_eq_true (by omega)
    clear c10
    obtain rfl:=Option.some.inj H
    have p194 : 0 ≤ (x12_1 : Int):=of_decide_eq_true (by first|(with_reducible assumption)|assumption)
    have q194 : x12_1 < (l0_0.length : Int):=of_decide_eq_true (by first|(with_reducible assumption)|assumption)
    obtain ⟨ad194,A194_1,c194_1,e194,g_z,g_A,i_7,i_8⟩:=c_y b_q.out x12_1 p194 q194
    cases e194
    replace g_z:=(HB.out.cell (World.block_lt_of_cell? w _ g_z)).trans g_z
    replace g_A:=(HB.out.cell (World.block_lt_of_cell? w _ g_A)).trans g_A
    have u_z:=a_d.mk i_8
    have u_A:=a_d.mk i_7
    clear i_8 i_7
    replace p194:=eq_true p194
    replace q194:=eq_true q194
    go_wp2_with (first|((with_reducible refine a_J (N:=4) rfl ?_);refine a_C ?hg (N:=4) ?hd (cs:=#[.int .i64 0,.slice none 0 0]) (t:=27) ?hr ?_;(case hd => rfl);(case hg => rfl);(case hr => first|(go_simp;done)|(go_simp;rfl));intro h_a hg w11 hbox hb;have k_k:=a_d.mk (hbox);have F_2:=a_d.mk ((by rw [hg];exact (a_n (by repeat (first|(with_reducible first|exact HB.out|apply a_g|apply a_e|apply a_h|refine a_f ?_ h_p.out)|exact HB.out))) : w.heap.size ≤ h_a));have u_B:=a_d.mk ((by rw [hg];exact (a_n (by repeat (first|(with_reducible first|exact HB.out|apply a_g|apply a_e|apply a_h|refine a_f ?_ h_p.out)|exact HB.out))) : w.heap.size ≤ h_a));have f_Y:=a_d.mk ((by rw [hg];exact Nat.ne_of_lt (a_Q (bup_ e_P.out)) : g_R ≠ h_a));have i_9:=a_d.mk ((by rw [hg];exact Nat.ne_of_gt (a_Q (bup_ e_P.out)) : h_a ≠ g_R));replace e_P:=a_d.mk (a_i (bup_ e_P.out) hb);replace HB:=a_d.mk (a_o (by repeat (first|(with_reducible first|exact HB.out|apply a_g|apply a_e|apply a_h|refine a_f ?_ h_p.out)|exact HB.out)) hb);clear hb hbox hg;have v_u:=i_9.out;have v_v:=f_Y.out;have g_W : w11.cell? ⟨h_a,0,none⟩ = some (.int .i64 0):=(a_a k_k.out 0).trans rfl;have g_X : w11.cell? ⟨h_a,1,none⟩ = some (.slice none 0 0):=(a_a k_k.out 1).trans rfl;have g_Y:=a_b k_k.out 0;have g_Z:=a_b k_k.out 1))
    go_ret
    exact ⟨by first|rfl|(simp [a_w,a_x] <;> rfl)|(simp [*, a_w,a_x] <;> rfl),by repeat (first|(with_reducible first|exact HB.out|apply a_g|apply a_e|apply a_h|refine a_f ?_ h_p.out|refine a_f ?_ u_B.out)|exact HB.out)⟩
   rw [if_neg c10] at H
   have c10b0 : decide (30 < (((a_p l0_0 x12_1).f1).length : Int)) = false:=decide_eq_false c10
   have c10b1 : decide (30 < ((a_p l0_0 x12_1).f1).length) = false:=decide_eq_false (by omega)
   clear c10
   have H':=a_d.mk H
   clear H
   have p194 : 0 ≤ (x12_1 : Int):=of_decide_eq_true (by first|(with_reducible assumption)|assumption)
   have q194 : x12_1 < (l0_0.length : Int):=of_decide_eq_true (by first|(with_reducible assumption)|assumption)
   obtain ⟨ad194,A194_1,c194_1,e194,g_z,g_A,i_7,i_8⟩:=c_y b_q.out x12_1 p194 q194
   cases e194
   replace g_z:=(HB.out.cell (World.block_lt_of_cell? w _ g_z)).trans g_z
   replace g_A:=(HB.out.cell (World.block_lt_of_cell? w _ g_A)).trans g_A
   have u_z:=a_d.mk i_8
   have u_A:=a_d.mk i_7
   clear i_8 i_7
   replace p194:=eq_true p194
   replace q194:=eq_true q194
   go_wp2_with (first|((with_reducible refine a_J (N:=4) rfl ?_);refine a_C ?hg (N:=4) ?hd (cs:=#[.int .i64 0,.slice none 0 0]) (t:=27) ?hr ?_;(case hd => rfl);(case hg => rfl);(case hr => first|(go_simp;done)|(go_simp;rfl));intro h_a hg w14 hbox hb;have k_k:=a_d.mk (hbox);have F_2:=a_d.mk ((by rw [hg];exact (a_n (by repeat (first|(with_reducible first|exact HB.out|apply a_g|apply a_e|apply a_h|refine a_f ?_ h_p.out)|exact HB.out))) : w.heap.size ≤ h_a));have u_B:=a_d.mk ((by rw [hg];exact (a_n (by repeat (first|(with_reducible first|exact HB.out|apply a_g|apply a_e|apply a_h|refine a_f ?_ h_p.out)|exact HB.out))) : w.heap.size ≤ h_a));have f_Y:=a_d.mk ((by rw [hg];exact Nat.ne_of_lt (a_Q (bup_ e_P.out)) : g_R ≠ h_a));have i_9:=a_d.mk ((by rw [hg];exact Nat.ne_of_gt (a_Q (bup_ e_P.out)) : h_a ≠ g_R));replace e_P:=a_d.mk (a_i (bup_ e_P.out) hb);replace HB:=a_d.mk (a_o (by repeat (first|(with_reducible first|exact HB.out|apply a_g|apply a_e|apply a_h|refine a_f ?_ h_p.out)|exact HB.out)) hb);clear hb hbox hg;have v_s:=i_9.out;have v_t:=f_Y.out;have j_E : w14.cell? ⟨h_a,0,none⟩ = some (.int .i64 0):=(a_a k_k.out 0).trans rfl;have j_F : w14.cell? ⟨h_a,1,none⟩ = some (.slice none 0 0):=(a_a k_k.out 1).trans rfl;have j_G:=a_b k_k.out 0;have j_H:=a_b k_k.out 1))
   go_roundg k1
   case measure => have:=HK1.out;omega
   case rel => exact ⟨(wrap64 (x12_1 + 1)),(by first|rfl|(simp;done)|(simp [*];done)),H',⟨by have:=HK1.out;omega⟩,⟨by (with_reducible repeat (first|refine a_l ?_ _|refine a_m ?_|refine a_j ?_ _));refine a_L ?_ f_Y.out _;(with_reducible repeat (first|refine a_l ?_ _|refine a_m ?_|refine a_j ?_ _));refine a_L ?_ f_Y.out _;(with_reducible repeat (first|refine a_l ?_ _|refine a_m ?_|refine a_j ?_ _));exact e_P.out⟩,⟨by repeat (first|(with_reducible first|exact HB.out|apply a_g|apply a_e|apply a_h|refine a_f ?_ h_p.out|refine a_f ?_ u_B.out)|exact HB.out)⟩⟩
end Go.Proofs.Ytgglkfilkagblaa.Q
end
