/- Part 5 of 11 of what the row of AuditOne stands on: contracts over the given program's functions, the plain law, the row; no condition beyond those that each theorem states. -/
import Derived.Test.YtgglkfilkagblaaDoorXAuditOne3
section
namespace Go.Proofs.YtgglkfilkagblaaDoor.Q
open Go.RowKit Go.Proofs.YtgglkfilkagblaaDoorW.PrintWords Go.Proofs.YtgglkfilkagblaaDoorW.PrintLast Go.Proofs.YtgglkfilkagblaaDoorW.PrintMore
set_option linter.unusedVariables false
set_option linter.unusedSimpArgs false
mutual
def a_x.j0 : Nat → Bool → List (S24) → Int → Option (Int)
 | 0,_,_,_ => none
 | k + 1,x18,x129000,x129001 => if x18 = true then (some 390) else (a_x.l0 k x129000 (x129000.length : Int) 0 x129000 x129001)
def a_x.l0 : Nat → List (S24) → Int → Int → List (S24) → Int → Option (Int)
 | 0,_,_,_,_,_ => none
 | k + 1,x20,x21,x22,x129000,x129001 => if x22 < x21 then (if 0 ≤ x22 then (if x22 < (x20.length : Int) then ((a_t.f k ((a_r x20 x22).f0) ((a_r x20 x22).f1)).bind fun t131 => (if t131 = true then (if ((a_r x20 x22).f0) > x129001 then (some 390) else (if x22 > 0 then (if 0 ≤ (wrap64 (x22 - 1)) then (if (wrap64 (x22 - 1)) < (x129000.length : Int) then (if ((a_r x129000 (wrap64 (x22 - 1))).f0) ≥ ((a_r x20 x22).f0) then (some 390) else (a_x.l0 k x20 x21 (wrap64 (x22 + 1)) x129000 x129001)) else (none)) else (none)) else (a_x.l0 k x20 x21 (wrap64 (x22 + 1)) x129000 x129001))) else (some 390))) else (none)) else (none)) else (some 0)
end
def a_x.f (k : Nat) (l0_0 : List (S24)) (a0_1 : Int) : Option (Int):=if (l0_0.length : Int) > 2000 then (a_x.j0 k true l0_0 a0_1) else (if a0_1 < 0 then (a_x.j0 k true l0_0 a0_1) else (a_x.j0 k (decide (a0_1 > 1125899906842624)) l0_0 a0_1))
theorem a_x.c_9 : ∀ k,(∀ y0 y1 y2,LeO (a_x.j0 k y0 y1 y2) (a_x.j0 (k + 1) y0 y1 y2)) ∧ (∀ y0 y1 y2 y3 y4,LeO (a_x.l0 k y0 y1 y2 y3 y4) (a_x.l0 (k + 1) y0 y1 y2 y3 y4))
 | 0 => ⟨fun _ _ _ r h => by simp [a_x.j0] at h,fun _ _ _ _ _ r h => by simp [a_x.l0] at h⟩
 | k + 1 => by
  obtain ⟨ih0,ih1⟩:=a_x.c_9 k
  refine ⟨?_,?_⟩
  ·intro y0 y1 y2
   unfold a_x.j0
   repeat' first
   | (with_reducible exact ih0 _ _ _)
   | (with_reducible exact ih1 _ _ _ _ _)
   | (with_reducible exact a_t.mono _ _ _)
   | (with_reducible exact LeO.refl _)
   | (with_reducible exact LeO.none _)
   | (with_reducible refine LeO.ite ?_ ?_)
   | (with_reducible refine LeO.bind ?_ (fun _ => ?_))
   | exact ih0 _ _ _
   | exact ih1 _ _ _ _ _
   | exact a_t.mono _ _ _
   | exact LeO.none _
   | refine LeO.ite ?_ ?_
   | refine LeO.bind ?_ (fun _ => ?_)
  ·intro y0 y1 y2 y3 y4
   unfold a_x.l0
   repeat' first
   | (with_reducible exact ih0 _ _ _)
   | (with_reducible exact ih1 _ _ _ _ _)
   | (with_reducible exact a_t.mono _ _ _)
   | (with_reducible exact LeO.refl _)
   | (with_reducible exact LeO.none _)
   | (with_reducible refine LeO.ite ?_ ?_)
   | (with_reducible refine LeO.bind ?_ (fun _ => ?_))
   | exact ih0 _ _ _
   | exact ih1 _ _ _ _ _
   | exact a_t.mono _ _ _
   | exact LeO.none _
   | refine LeO.ite ?_ ?_
   | refine LeO.bind ?_ (fun _ => ?_)
theorem a_x.mono : ∀ a0 a1 k,LeO (a_x.f k a0 a1) (a_x.f (k + 1) a0 a1):=by
 intro a0 a1 k
 obtain ⟨ih0,ih1⟩:=a_x.c_9 k
 unfold a_x.f
 repeat' first
  | (with_reducible exact ih0 _ _ _)
  | (with_reducible exact ih1 _ _ _ _ _)
  | (with_reducible exact a_t.mono _ _ _)
  | (with_reducible exact LeO.refl _)
  | (with_reducible exact LeO.none _)
  | (with_reducible refine LeO.ite ?_ ?_)
  | (with_reducible refine LeO.bind ?_ (fun _ => ?_))
  | exact ih0 _ _ _
  | exact ih1 _ _ _ _ _
  | exact a_t.mono _ _ _
  | exact LeO.none _
  | refine LeO.ite ?_ ?_
  | refine LeO.bind ?_ (fun _ => ?_)
def a_x.T6 : Bool × List (List Nat × List Nat):=(true,[([],[]),([0],[0]),([1],[1]),([2,1],[2]),([3],[3]),([4,3],[3,4]),([3],[3]),([6,3],[3,6]),([5,7,3],[3,5,7]),([3,8],[3,8]),([9,3],[9]),([10],[10]),([11,10],[10,11]),([12,10,10],[10,12]),([13],[13]),([14,13],[13,14]),([13],[13]),([16,13],[13,16]),([15,17,13],[13,15,17]),([18,13],[13,18]),([19,13],[13,19]),([13],[13]),([21,13],[13,21]),([20,22,13],[13,20,22]),([13,23,10],[10,13,23]),([10,24],[10,24])])
def a_x.B6 : List Nat:=[0,1,3,7,15,31,15,79,255,511,1023,2047,4095,8191,16383,32767,16383,81919,262143,524287,1048575,16383,2113535,8388607,16777215,33554431]
theorem a_x.tab6 : rtab .any (opsOf Tryd.f29 6) = a_x.T6:=by kernel_rfl
theorem a_x.f_w : e_H a_x.T6.2 a_x.B6 = true:=by kernel_rfl
set_option maxHeartbeats 8000000 in
set_option maxRecDepth 100000 in
theorem a_x.calls (k : Nat) (A0_0 : Option Addr) (c0_0 : Nat) (l0_0 : List (S24)) (a0_1 : Int) (r : Int) (w : World) (hr0_0 : Kd.C k24 w A0_0 l0_0.length l0_0) (hc0_0 : l0_0.length ≤ c0_0) (h : a_x.f k l0_0 a0_1 = some r) :
 Calls Tryd.prog 29 #[.agg #[.slice A0_0 l0_0.length c0_0,.int .i64 a0_1]] w fun e w' => e = .returned (.int .i64 r) ∧ Below w.heap.size w w':=by
 have hu37:=Tryd.underlying37
 have hu24:=Tryd.underlying24
 have g_Z:=a_f.mk hr0_0
 have s_I:=a_f.mk hc0_0
 clear hr0_0 hc0_0
 have HB:=a_f.mk (Below.refl w.heap.size w)
 have H : (if (l0_0.length : Int) > 2000 then (a_x.j0 k true l0_0 a0_1) else (if a0_1 < 0 then (a_x.j0 k true l0_0 a0_1) else (a_x.j0 k (decide (a0_1 > 1125899906842624)) l0_0 a0_1))) = some r:=h
 clear h
 have HC2:=a_f.mk H
 clear H
 go_enter Tryd.func29,Tryd.ntmps29
 go_upto_region 1 with (first|((with_reducible refine a_J (N:=1) rfl ?_);refine a_A ?hg (N:=1) ?hd (cs:=#[.slice A0_0 l0_0.length c0_0,.int .i64 a0_1]) (t:=37) ?hr ?_;(case hd => rfl);(case hg => rfl);(case hr => first|(go_simp;done)|(go_simp;rfl));intro c_8 hg w3 hbox hb;have a_9:=a_f.mk (hbox);have y_2:=a_f.mk ((by rw [hg];exact (a_o (lup_ HB.out)) : w.heap.size ≤ c_8));have c_3:=a_f.mk ((by rw [hg];exact (a_o (lup_ HB.out)) : w.heap.size ≤ c_8));replace HB:=a_f.mk (a_q (lup_ HB.out) hb);clear hb hbox hg))
 (try simp only [Act.put,sa_,sb_,sc_])
 go_cut [18] (fun v18 wc => ∃ (kq : Nat) (x18_1 : Bool),v18 = .bool x18_1 ∧ a_f (a_x.j0 kq x18_1 l0_0 a0_1 = some r) ∧ a_f (kq ≤ k) ∧ a_f (wc.heap[c_8]? = some (.cells #[(.slice A0_0 l0_0.length c0_0),.int .i64 a0_1] 37 (0,0))) ∧ a_f (Below w.heap.size w wc))
 case first =>
  have H:=HC2.out
  clear HC2
  by_cases c4 : (l0_0.length : Int) > 2000
  ·rw [if_pos c4] at H
   have c4b0 : decide (2000 < (l0_0.length : Int)) = true:=decide_eq_true c4
   have c4b1 : decide (2000 < l0_0.length) = true:=decide_eq_true (by omega)
   clear c4
   (first|rw [c4b0]|(simp only [a_Y,a_0];rw [c4b0])|skip)
   have H':=a_f.mk H
   clear H
   have f_x : w3.cell? ⟨c_8,0,none⟩ = some (.slice A0_0 l0_0.length c0_0):=(a_b a_9.out 0).trans rfl
   have f_y : w3.cell? ⟨c_8,1,none⟩ = some (.int .i64 a0_1):=(a_b a_9.out 1).trans rfl
   have f_B:=a_c a_9.out 0
   have f_C:=a_c a_9.out 1
   go_wp2
   go_meet
   case rel => exact ⟨_,(true),(by first|rfl|(simp;done)|(simp [*];done)),H',⟨by first|omega|exact Nat.le_refl _⟩,⟨by (with_reducible repeat (first|refine a_e ?_ _|refine a_g ?_|refine a_d ?_ _));exact a_9.out⟩,⟨by repeat (first|(with_reducible first|exact HB.out|apply a_j|apply a_h|apply a_k|refine a_i ?_ c_3.out)|exact HB.out)⟩⟩
  rw [if_neg c4] at H
  have c4b0 : decide (2000 < (l0_0.length : Int)) = false:=decide_eq_false c4
  have c4b1 : decide (2000 < l0_0.length) = false:=decide_eq_false (by omega)
  clear c4
  (first|rw [c4b0]|(simp only [a_Y,a_0];rw [c4b0])|skip)
  by_cases c6 : a0_1 < 0
  ·rw [if_pos c6] at H
   have c6b0 : decide (a0_1 < 0) = true:=decide_eq_true c6
   clear c6
   have H':=a_f.mk H
   clear H
   have f_z : w3.cell? ⟨c_8,0,none⟩ = some (.slice A0_0 l0_0.length c0_0):=(a_b a_9.out 0).trans rfl
   have f_A : w3.cell? ⟨c_8,1,none⟩ = some (.int .i64 a0_1):=(a_b a_9.out 1).trans rfl
   have f_D:=a_c a_9.out 0
   have f_E:=a_c a_9.out 1
   go_wp2
   go_meet
   case rel => exact ⟨_,(true),(by first|rfl|(simp;done)|(simp [*];done)),H',⟨by first|omega|exact Nat.le_refl _⟩,⟨by (with_reducible repeat (first|refine a_e ?_ _|refine a_g ?_|refine a_d ?_ _));exact a_9.out⟩,⟨by repeat (first|(with_reducible first|exact HB.out|apply a_j|apply a_h|apply a_k|refine a_i ?_ c_3.out)|exact HB.out)⟩⟩
  rw [if_neg c6] at H
  have c6b0 : decide (a0_1 < 0) = false:=decide_eq_false c6
  clear c6
  have H':=a_f.mk H
  clear H
  have g_P : w3.cell? ⟨c_8,0,none⟩ = some (.slice A0_0 l0_0.length c0_0):=(a_b a_9.out 0).trans rfl
  have g_Q : w3.cell? ⟨c_8,1,none⟩ = some (.int .i64 a0_1):=(a_b a_9.out 1).trans rfl
  have g_R:=a_c a_9.out 0
  have g_S:=a_c a_9.out 1
  go_wp2
  go_meet
  case rel => exact ⟨_,(decide (a0_1 > 1125899906842624)),(by first|rfl|(simp;done)|(simp [*];done)),H',⟨by first|omega|exact Nat.le_refl _⟩,⟨by (with_reducible repeat (first|refine a_e ?_ _|refine a_g ?_|refine a_d ?_ _));exact a_9.out⟩,⟨by repeat (first|(with_reducible first|exact HB.out|apply a_j|apply a_h|apply a_k|refine a_i ?_ c_3.out)|exact HB.out)⟩⟩
 case rest =>
  clear HC2
  try clear c2
  try clear p2
  try clear c4
  try clear c4b0
  try clear c4b1
  try clear c6
  try clear c6b0
  try clear f_x
  try clear f_y
  try clear f_z
  try clear f_A
  try clear g_P
  try clear g_Q
  try clear f_B
  try clear f_C
  try clear f_D
  try clear f_E
  try clear g_R
  try clear g_S
  obtain ⟨kq,x18_1,rfl,HA,HJ1,a_9,HB⟩:=hcut
  cases kq with
  | zero => exact absurd HA.out (by simp [a_x.j0])
  | succ kj1 =>
   have H:=HA.out
   clear HA
   simp only [a_x.j0] at H
   by_cases c9 : x18_1 = true
   ·subst c9
    have H1 : (some 390) = some r:=by rw [if_pos rfl] at H;exact H
    clear H
    have H:=H1
    clear H1
    obtain rfl:=Option.some.inj H
    go_wp2
    go_ret
    exact ⟨by first|rfl|(simp [a_u,a_v] <;> rfl)|(simp [*, a_u,a_v] <;> rfl),by repeat (first|(with_reducible first|exact HB.out|apply a_j|apply a_h|apply a_k|refine a_i ?_ c_3.out)|exact HB.out)⟩
   replace c9:=Bool.eq_false_iff.mpr c9
   subst c9
   have H1 : (a_x.l0 kj1 l0_0 (l0_0.length : Int) 0 l0_0 a0_1) = some r:=by rw [if_neg (show ¬ (false = true) by decide)] at H;exact H
   clear H
   have H:=H1
   clear H1
   have H':=a_f.mk H
   clear H
   have i_i : wc.cell? ⟨c_8,0,none⟩ = some (.slice A0_0 l0_0.length c0_0):=(a_b a_9.out 0).trans rfl
   have i_j : wc.cell? ⟨c_8,1,none⟩ = some (.int .i64 a0_1):=(a_b a_9.out 1).trans rfl
   have i_H:=a_c a_9.out 0
   have i_I:=a_c a_9.out 1
   go_wp2
   go_loopg [22] kj1 (fun kq v22 w' => ∃ (x22_2 : Int),v22 = .int .i64 x22_2 ∧ a_f (a_x.l0 kq l0_0 (l0_0.length : Int) x22_2 l0_0 a0_1 = some r) ∧ a_f (kq ≤ kj1) ∧ a_f (w'.heap[c_8]? = some (.cells #[(.slice A0_0 l0_0.length c0_0),.int .i64 a0_1] 37 (0,0))) ∧ a_f (Below w.heap.size w w'))
   case atStart => exact ⟨(0),(by first|rfl|(simp;done)|(simp [*];done)),H',⟨Nat.le_refl _⟩,⟨by (with_reducible repeat (first|refine a_e ?_ _|refine a_g ?_|refine a_d ?_ _));exact a_9.out⟩,⟨by repeat (first|(with_reducible first|exact HB.out|apply a_j|apply a_h|apply a_k|refine a_i ?_ c_3.out)|exact HB.out)⟩⟩
   case round =>
    clear H'
    try clear c2
    try clear p2
    try clear c4
    try clear c4b0
    try clear c4b1
    try clear c6
    try clear c6b0
    try clear c9
    try clear i_i
    try clear i_j
    try clear f_x
    try clear f_y
    try clear f_z
    try clear f_A
    try clear g_P
    try clear g_Q
    try clear i_H
    try clear i_I
    try clear f_B
    try clear f_C
    try clear f_D
    try clear f_E
    try clear g_R
    try clear g_S
    try clear p2
    obtain ⟨x22_2,rfl,HA,HK2,a_9,HB⟩:=hrel
    cases gk with
    | zero => exact absurd HA.out (by simp [a_x.l0])
    | succ k2 =>
     have H:=HA.out
     clear HA
     simp only [a_x.l0] at H
     by_cases c11 : x22_2 < (l0_0.length : Int)
     rotate_left
     ·rw [if_neg c11] at H
      have c11b0 : decide (x22_2 < (l0_0.length : Int)) = false:=decide_eq_false c11
      clear c11
      obtain rfl:=Option.some.inj H
      go_wp2
      go_ret
      exact ⟨by first|rfl|(simp [a_u,a_v] <;> rfl)|(simp [*, a_u,a_v] <;> rfl),by repeat (first|(with_reducible first|exact HB.out|apply a_j|apply a_h|apply a_k|refine a_i ?_ c_3.out)|exact HB.out)⟩
     rw [if_pos c11] at H
     have c11b0 : decide (x22_2 < (l0_0.length : Int)) = true:=decide_eq_true c11
     clear c11
     by_cases c12 : 0 ≤ x22_2
     rotate_left
     ·rw [if_neg c12] at H
      exact absurd H (by simp)
     rw [if_pos c12] at H
     have c12b0 : decide (0 ≤ x22_2) = true:=decide_eq_true c12
     clear c12
     by_cases c13 : x22_2 < (l0_0.length : Int)
     rotate_left
     ·rw [if_neg c13] at H
      exact absurd H (by simp)
     rw [if_pos c13] at H
     have c13b0 : decide (x22_2 < (l0_0.length : Int)) = true:=decide_eq_true c13
     clear c13
     replace H:=Option.bind_eq_some_iff.mp H
     obtain ⟨t131,A140,H⟩:=H
     replace H : (if t131 = true then (if ((a_r l0_0 x22_2).f0) > a0_1 then (some 390) else (if x22_2 > 0 then (if 0 ≤ (wrap64 (x22_2 - 1)) then (if (wrap64 (x22_2 - 1)) < (l0_0.length : Int) then (if ((a_r l0_0 (wrap64 (x22_2 - 1))).f0) ≥ ((a_r l0_0 x22_2).f0) then (some 390) else (a_x.l0 k2 l0_0 (l0_0.length : Int) (wrap64 (x22_2 + 1)) l0_0 a0_1)) else (none)) else (none)) else (a_x.l0 k2 l0_0 (l0_0.length : Int) (wrap64 (x22_2 + 1)) l0_0 a0_1))) else (some 390)) = some r:=H
     have A14:=a_f.mk A140
     clear A140
     by_cases c15 : t131 = true
     rotate_left
     ·replace c15:=Bool.eq_false_iff.mpr c15
      subst c15
      have H1 : (some 390) = some r:=by rw [if_neg (show ¬ (false = true) by decide)] at H;exact H
      clear H
      have H:=H1
      clear H1
      obtain rfl:=Option.some.inj H
      have p129 : 0 ≤ (x22_2 : Int):=of_decide_eq_true (by first|(with_reducible assumption)|assumption)
      have q129 : x22_2 < (l0_0.length : Int):=of_decide_eq_true (by first|(with_reducible assumption)|assumption)
      obtain ⟨ad129,A129_1,c129_1,e129,c_T,c_U,d_O,d_N⟩:=e_P g_Z.out x22_2 p129 q129
      cases e129
      replace c_T:=(HB.out.cell (World.block_lt_of_cell? w _ c_T)).trans c_T
      replace c_U:=(HB.out.cell (World.block_lt_of_cell? w _ c_U)).trans c_U
      have e_y:=a_f.mk d_N
      have e_w:=a_f.mk d_O
      clear d_N d_O
      replace p129:=eq_true p129
      replace q129:=eq_true q129
      try go_wp2_with (first|((with_reducible refine a_J (N:=4) rfl ?_);refine a_A ?hg (N:=4) ?hd (cs:=#[.int .i64 0,.slice none 0 0]) (t:=24) ?hr ?_;(case hd => rfl);(case hg => rfl);(case hr => first|(go_simp;done)|(go_simp;rfl));intro b_n hg w46 hbox hb;have b_p:=a_f.mk (hbox);have m_a:=a_f.mk ((by rw [hg];exact (a_o (by repeat (first|(with_reducible first|exact HB.out|apply a_j|apply a_h|apply a_k|refine a_i ?_ c_3.out)|exact HB.out))) : w.heap.size ≤ b_n));have e_v:=a_f.mk ((by rw [hg];exact (a_o (by repeat (first|(with_reducible first|exact HB.out|apply a_j|apply a_h|apply a_k|refine a_i ?_ c_3.out)|exact HB.out))) : w.heap.size ≤ b_n));have b_O:=a_f.mk ((by rw [hg];exact Nat.ne_of_lt (a_B (bup_ a_9.out)) : c_8 ≠ b_n));have d_J:=a_f.mk ((by rw [hg];exact Nat.ne_of_gt (a_B (bup_ a_9.out)) : b_n ≠ c_8));replace a_9:=a_f.mk (a_l (bup_ a_9.out) hb);replace HB:=a_f.mk (a_q (by repeat (first|(with_reducible first|exact HB.out|apply a_j|apply a_h|apply a_k|refine a_i ?_ c_3.out)|exact HB.out)) hb);clear hb hbox hg;have x_1:=d_J.out;have y_a:=b_O.out;have p_b : w46.cell? ⟨b_n,0,none⟩ = some (.int .i64 0):=(a_b b_p.out 0).trans rfl;have u_q : w46.cell? ⟨b_n,1,none⟩ = some (.slice none 0 0):=(a_b b_p.out 1).trans rfl;have q_M:=a_c b_p.out 0;have w_V:=a_c b_p.out 1))
      have n0_ : a_f (((w46.setCell ⟨b_n,0,none⟩ (.int .i64 ((a_r l0_0 x22_2).f0))).setCell ⟨b_n,1,none⟩ (.slice A129_1 ((a_r l0_0 x22_2).f1).length c129_1)).heap[c_8]? = some (.cells #[.slice (some ad129) l0_0.length c0_0,.int .i64 a0_1] 37 (0,0))):=⟨by (with_reducible repeat (first|refine a_e ?_ _|refine a_g ?_|refine a_d ?_ _));refine a_p ?_ b_O.out _;(with_reducible repeat (first|refine a_e ?_ _|refine a_g ?_|refine a_d ?_ _));refine a_p ?_ b_O.out _;(with_reducible repeat (first|refine a_e ?_ _|refine a_g ?_|refine a_d ?_ _));exact a_9.out⟩
      have n1_ : a_f (((w46.setCell ⟨b_n,0,none⟩ (.int .i64 ((a_r l0_0 x22_2).f0))).setCell ⟨b_n,1,none⟩ (.slice A129_1 ((a_r l0_0 x22_2).f1).length c129_1)).heap[b_n]? = some (.cells #[.int .i64 ((a_r l0_0 x22_2).f0),.slice A129_1 ((a_r l0_0 x22_2).f1).length c129_1] 24 (0,0))):=⟨by (with_reducible repeat (first|refine a_e ?_ _|refine a_g ?_|refine a_d ?_ _));refine a_n (cs:=#[.int .i64 ((a_r l0_0 x22_2).f0),.slice none 0 0]) ?_ 1 _ rfl;(with_reducible repeat (first|refine a_e ?_ _|refine a_g ?_|refine a_d ?_ _));refine a_n (cs:=#[.int .i64 0,.slice none 0 0]) ?_ 0 _ rfl;(with_reducible repeat (first|refine a_e ?_ _|refine a_g ?_|refine a_d ?_ _));exact b_p.out⟩
      have n2_ : a_f (Below w.heap.size w ((w46.setCell ⟨b_n,0,none⟩ (.int .i64 ((a_r l0_0 x22_2).f0))).setCell ⟨b_n,1,none⟩ (.slice A129_1 ((a_r l0_0 x22_2).f1).length c129_1))):=⟨by repeat (first|(with_reducible first|exact HB.out|apply a_j|apply a_h|apply a_k|refine a_i ?_ c_3.out|refine a_i ?_ e_v.out)|exact HB.out)⟩
      (try clear a_9)
      (try clear b_p)
      (try clear HB)
      generalize ((w46.setCell ⟨b_n,0,none⟩ (.int .i64 ((a_r l0_0 x22_2).f0))).setCell ⟨b_n,1,none⟩ (.slice A129_1 ((a_r l0_0 x22_2).f1).length c129_1)) = w49 at n0_ n1_ n2_ ⊢
      have a_9:=n0_
      have b_p:=n1_
      have HB:=n2_
      clear n0_ n1_ n2_
      replace a_9:=a_f.mk (a_g a_9.out)
      replace b_p:=a_f.mk (a_g b_p.out)
      replace HB:=a_f.mk (a_k HB.out)
      refine d_R (n:=26) (S:=fun w' => w'.cell? ⟨b_n,0,none⟩ = some (.int .i64 ((a_r l0_0 x22_2).f0)) ∧ w'.cell? ⟨b_n,1,none⟩ = some (.slice A129_1 ((a_r l0_0 x22_2).f1).length c129_1)) (ds:=[]) Z1_ (by kernel_rfl) rfl rfl ⟨(a_b b_p.out 0).trans rfl,(a_b b_p.out 1).trans rfl⟩ (fun hHeld => ?_);refine b_5 a_x.tab6 a_x.f_w (fun HT_ HW_ => ?_)
      generalize w49.drew = w50 at a_9 b_p HB hHeld ⊢
      refine b_v (i:=0) (N:=some 27) (v:=?_) (a':=?_) Z3_ rfl rfl (a_N HT_.out HW_.out (by kernel_rfl)) (fun _ _ _ h => h) (Or.inl ⟨by rfl,?_⟩) hHeld ?_ ?_
      rotate_left
      ·rintro w' ⟨s0,s1⟩
       go_simp
       with_reducible rfl
      rotate_left
      ·simp only [Act.put,sa_,sb_,sc_,a_Y,a_0]
       rfl
      refine one_ (i:=1) (N:=some 28) Z5_ rfl rfl (c_B HT_.out (by kernel_rfl)) (by decide) (fun K hK => ?_)
      refine e_n Tryd.func19 (by kernel_rfl) rfl #[.agg #[.int .i64 ((a_r l0_0 x22_2).f0),.slice A129_1 ((a_r l0_0 x22_2).f1).length c129_1]] (by rfl) rfl rfl (by (try simp only [List.map_toArray,List.map_cons,List.map_nil]);first|done|rfl|(simp only [List.length_drop,List.length_take];rfl)) ?_
      with_reducible refine (a_t.calls k2 ((a_r l0_0 x22_2).f0) _ _ ((a_r l0_0 x22_2).f1) false _ ?side1 ?side2 A14.out).mono ?_
      (case side1 => repeat (first|exact (Kd.b_i e_y.out HB.out)|(with_reducible refine Kd.b_b ?_ _)|(with_reducible refine Kd.b_c ?_ _)|(with_reducible refine Kd.b_z ?_)))
      (case side2 => exact e_w.out)
      rintro e w51 ⟨rfl,hb⟩
      refine ⟨_,rfl,?_⟩
      replace a_9:=a_f.mk (a_l (bup_ a_9.out) hb)
      replace b_p:=a_f.mk (a_l (bup_ b_p.out) hb)
      replace HB:=a_f.mk (a_q (by repeat (first|(with_reducible first|exact HB.out|apply a_j|apply a_h|apply a_k|refine a_i ?_ c_3.out|refine a_i ?_ e_v.out)|exact HB.out)) hb)
      (try clear hb)
      (try clear hb2)
      (try clear hk)
      (try clear hi)
      refine hK.out _ _ ⟨(a_b b_p.out 0).trans rfl,(a_b b_p.out 1).trans rfl⟩ (fun hHeld => ?_)
      clear hK K
      refine d_Y (a':=?_) ?_ ?_
      rotate_left
      ·show Act.put _ (some 28) _ = _
       simp only [Act.put,sa_,sb_,sc_,a_Y,a_0]
       rfl
      refine pt_ 2 (some 29) Z7_ HT_ ?_
      refine pt_ 3 (some 30) Z9_ HT_ ?_
      refine pk_ 4 (some 31) Z11_ HT_ ?_
      refine pk_ 5 (some 32) #[T_,T_,T_,T_,T_,T_,F_,F_,F_,F_,F_,F_,F_,F_,F_,F_,F_,F_,F_,F_,F_,F_,F_,F_,F_,F_] HT_ ?_
      refine pk_ 6 (some 33) Z15_ HT_ ?_
      refine pk_ 7 (some 34) Z17_ HT_ ?_
      refine pk_ 8 (some 35) Z22_ HT_ ?_
      refine pt_ 9 (some 36) Z24_ HT_ ?_
      refine pt_ 10 (some 37) Z26_ HT_ ?_
      refine pk_ 11 (some 38) Z29_ HT_ ?_
      refine pk_ 12 (some 39) Z32_ HT_ ?_
      refine pk_ 13 (some 40) Z35_ HT_ ?_
      refine pk_ 14 (some 41) Z37_ HT_ ?_
      refine pk_ 15 (some 42) Z42_ HT_ ?_
      refine pk_ 16 (some 43) Z44_ HT_ ?_
      refine pk_ 17 (some 44) Z46_ HT_ ?_
      refine pk_ 18 (some 45) Z49_ HT_ ?_
      refine pk_ 19 (some 46) Z52_ HT_ ?_
      refine pk_ 20 (some 47) Z55_ HT_ ?_
      refine pk_ 21 (some 48) Z58_ HT_ ?_
      refine pk_ 22 (some 49) Z61_ HT_ ?_
      refine pk_ 23 (some 50) Z65_ HT_ ?_
      refine pk_ 24 (some 51) Z67_ HT_ ?_
      refine pt_ 25 (some 52) Z84_ HT_ ?_
      refine e_L (c_Z HT_.out (by kernel_rfl)) ?_
      try go_wp2
      go_ret
      exact ⟨by first|rfl|(simp [a_u,a_v] <;> rfl)|(simp [*, a_u,a_v] <;> rfl),by repeat (first|(with_reducible first|exact HB.out|apply a_j|apply a_h|apply a_k|refine a_i ?_ c_3.out|refine a_i ?_ e_v.out)|exact HB.out)⟩
     subst c15
     have H1 : (if ((a_r l0_0 x22_2).f0) > a0_1 then (some 390) else (if x22_2 > 0 then (if 0 ≤ (wrap64 (x22_2 - 1)) then (if (wrap64 (x22_2 - 1)) < (l0_0.length : Int) then (if ((a_r l0_0 (wrap64 (x22_2 - 1))).f0) ≥ ((a_r l0_0 x22_2).f0) then (some 390) else (a_x.l0 k2 l0_0 (l0_0.length : Int) (wrap64 (x22_2 + 1)) l0_0 a0_1)) else (none)) else (none)) else (a_x.l0 k2 l0_0 (l0_0.length : Int) (wrap64 (x22_2 + 1)) l0_0 a0_1))) = some r:=by rw [if_pos rfl] at H;exact H
     clear H
     have H:=H1
     clear H1
     by_cases c16 : ((a_r l0_0 x22_2).f0) > a0_1
     ·rw [if_pos c16] at H
      have c16b0 : decide (a0_1 < ((a_r l0_0 x22_2).f0)) = true:=decide_eq_true c16
      clear c16
      obtain rfl:=Option.some.inj H
      have p129 : 0 ≤ (x22_2 : Int):=of_decide_eq_true (by first|(with_reducible assumption)|assumption)
      have q129 : x22_2 < (l0_0.length : Int):=of_decide_eq_true (by first|(with_reducible assumption)|assumption)
      obtain ⟨ad129,A129_1,c129_1,e129,c_T,c_U,d_O,d_N⟩:=e_P g_Z.out x22_2 p129 q129
      cases e129
      replace c_T:=(HB.out.cell (World.block_lt_of_cell? w _ c_T)).trans c_T
      replace c_U:=(HB.out.cell (World.block_lt_of_cell? w _ c_U)).trans c_U
      have e_y:=a_f.mk d_N
      have e_w:=a_f.mk d_O
      clear d_N d_O
      replace p129:=eq_true p129
      replace q129:=eq_true q129
      try go_wp2_with (first|((with_reducible refine a_J (N:=4) rfl ?_);refine a_A ?hg (N:=4) ?hd (cs:=#[.int .i64 0,.slice none 0 0]) (t:=24) ?hr ?_;(case hd => rfl);(case hg => rfl);(case hr => first|(go_simp;done)|(go_simp;rfl));intro b_n hg w17 hbox hb;have b_p:=a_f.mk (hbox);have m_a:=a_f.mk ((by rw [hg];exact (a_o (by repeat (first|(with_reducible first|exact HB.out|apply a_j|apply a_h|apply a_k|refine a_i ?_ c_3.out)|exact HB.out))) : w.heap.size ≤ b_n));have e_v:=a_f.mk ((by rw [hg];exact (a_o (by repeat (first|(with_reducible first|exact HB.out|apply a_j|apply a_h|apply a_k|refine a_i ?_ c_3.out)|exact HB.out))) : w.heap.size ≤ b_n));have b_O:=a_f.mk ((by rw [hg];exact Nat.ne_of_lt (a_B (bup_ a_9.out)) : c_8 ≠ b_n));have d_J:=a_f.mk ((by rw [hg];exact Nat.ne_of_gt (a_B (bup_ a_9.out)) : b_n ≠ c_8));replace a_9:=a_f.mk (a_l (bup_ a_9.out) hb);replace HB:=a_f.mk (a_q (by repeat (first|(with_reducible first|exact HB.out|apply a_j|apply a_h|apply a_k|refine a_i ?_ c_3.out)|exact HB.out)) hb);clear hb hbox hg;have x_Y:=d_J.out;have x_7:=b_O.out;have f_O : w17.cell? ⟨b_n,0,none⟩ = some (.int .i64 0):=(a_b b_p.out 0).trans rfl;have f_P : w17.cell? ⟨b_n,1,none⟩ = some (.slice none 0 0):=(a_b b_p.out 1).trans rfl;have f_Q:=a_c b_p.out 0;have f_R:=a_c b_p.out 1))
      have n0_ : a_f (((w17.setCell ⟨b_n,0,none⟩ (.int .i64 ((a_r l0_0 x22_2).f0))).setCell ⟨b_n,1,none⟩ (.slice A129_1 ((a_r l0_0 x22_2).f1).length c129_1)).heap[c_8]? = some (.cells #[.slice (some ad129) l0_0.length c0_0,.int .i64 a0_1] 37 (0,0))):=⟨by (with_reducible repeat (first|refine a_e ?_ _|refine a_g ?_|refine a_d ?_ _));refine a_p ?_ b_O.out _;(with_reducible repeat (first|refine a_e ?_ _|refine a_g ?_|refine a_d ?_ _));refine a_p ?_ b_O.out _;(with_reducible repeat (first|refine a_e ?_ _|refine a_g ?_|refine a_d ?_ _));exact a_9.out⟩
      have n1_ : a_f (((w17.setCell ⟨b_n,0,none⟩ (.int .i64 ((a_r l0_0 x22_2).f0))).setCell ⟨b_n,1,none⟩ (.slice A129_1 ((a_r l0_0 x22_2).f1).length c129_1)).heap[b_n]? = some (.cells #[.int .i64 ((a_r l0_0 x22_2).f0),.slice A129_1 ((a_r l0_0 x22_2).f1).length c129_1] 24 (0,0))):=⟨by (with_reducible repeat (first|refine a_e ?_ _|refine a_g ?_|refine a_d ?_ _));refine a_n (cs:=#[.int .i64 ((a_r l0_0 x22_2).f0),.slice none 0 0]) ?_ 1 _ rfl;(with_reducible repeat (first|refine a_e ?_ _|refine a_g ?_|refine a_d ?_ _));refine a_n (cs:=#[.int .i64 0,.slice none 0 0]) ?_ 0 _ rfl;(with_reducible repeat (first|refine a_e ?_ _|refine a_g ?_|refine a_d ?_ _));exact b_p.out⟩
      have n2_ : a_f (Below w.heap.size w ((w17.setCell ⟨b_n,0,none⟩ (.int .i64 ((a_r l0_0 x22_2).f0))).setCell ⟨b_n,1,none⟩ (.slice A129_1 ((a_r l0_0 x22_2).f1).length c129_1))):=⟨by repeat (first|(with_reducible first|exact HB.out|apply a_j|apply a_h|apply a_k|refine a_i ?_ c_3.out|refine a_i ?_ e_v.out)|exact HB.out)⟩
      (try clear a_9)
      (try clear b_p)
      (try clear HB)
      generalize ((w17.setCell ⟨b_n,0,none⟩ (.int .i64 ((a_r l0_0 x22_2).f0))).setCell ⟨b_n,1,none⟩ (.slice A129_1 ((a_r l0_0 x22_2).f1).length c129_1)) = w20 at n0_ n1_ n2_ ⊢
      have a_9:=n0_
      have b_p:=n1_
      have HB:=n2_
      clear n0_ n1_ n2_
      replace a_9:=a_f.mk (a_g a_9.out)
      replace b_p:=a_f.mk (a_g b_p.out)
      replace HB:=a_f.mk (a_k HB.out)
      refine d_R (n:=26) (S:=fun w' => w'.cell? ⟨b_n,0,none⟩ = some (.int .i64 ((a_r l0_0 x22_2).f0)) ∧ w'.cell? ⟨b_n,1,none⟩ = some (.slice A129_1 ((a_r l0_0 x22_2).f1).length c129_1) ∧ w'.cell? ⟨c_8,0,none⟩ = some (.slice (some ad129) l0_0.length c0_0) ∧ w'.cell? ⟨c_8,1,none⟩ = some (.int .i64 a0_1)) (ds:=[]) Z1_ (by kernel_rfl) rfl rfl ⟨(a_b b_p.out 0).trans rfl,(a_b b_p.out 1).trans rfl,(a_b a_9.out 0).trans rfl,(a_b a_9.out 1).trans rfl⟩ (fun hHeld => ?_);refine b_5 a_x.tab6 a_x.f_w (fun HT_ HW_ => ?_)
      generalize w20.drew = w21 at a_9 b_p HB hHeld ⊢
      refine b_v (i:=0) (N:=some 27) (v:=?_) (a':=?_) Z3_ rfl rfl (a_N HT_.out HW_.out (by kernel_rfl)) (fun _ _ _ h => h) (Or.inl ⟨by rfl,?_⟩) hHeld ?_ ?_
      rotate_left
      ·rintro w' ⟨s0,s1,s2,s3⟩
       go_simp
       with_reducible rfl
      rotate_left
      ·simp only [Act.put,sa_,sb_,sc_,a_Y,a_0]
       rfl
      refine one_ (i:=1) (N:=some 28) Z5_ rfl rfl (c_B HT_.out (by kernel_rfl)) (by decide) (fun K hK => ?_)
      refine e_n Tryd.func19 (by kernel_rfl) rfl #[.agg #[.int .i64 ((a_r l0_0 x22_2).f0),.slice A129_1 ((a_r l0_0 x22_2).f1).length c129_1]] (by rfl) rfl rfl (by (try simp only [List.map_toArray,List.map_cons,List.map_nil]);first|done|rfl|(simp only [List.length_drop,List.length_take];rfl)) ?_
      with_reducible refine (a_t.calls k2 ((a_r l0_0 x22_2).f0) _ _ ((a_r l0_0 x22_2).f1) true _ ?side1 ?side2 A14.out).mono ?_
      (case side1 => repeat (first|exact (Kd.b_i e_y.out HB.out)|(with_reducible refine Kd.b_b ?_ _)|(with_reducible refine Kd.b_c ?_ _)|(with_reducible refine Kd.b_z ?_)))
      (case side2 => exact e_w.out)
      rintro e w22 ⟨rfl,hb⟩
      refine ⟨_,rfl,?_⟩
      replace a_9:=a_f.mk (a_l (bup_ a_9.out) hb)
      replace b_p:=a_f.mk (a_l (bup_ b_p.out) hb)
      replace HB:=a_f.mk (a_q (by repeat (first|(with_reducible first|exact HB.out|apply a_j|apply a_h|apply a_k|refine a_i ?_ c_3.out|refine a_i ?_ e_v.out)|exact HB.out)) hb)
      (try clear hb)
      (try clear hb2)
      (try clear hk)
      (try clear hi)
      refine hK.out _ _ ⟨(a_b b_p.out 0).trans rfl,(a_b b_p.out 1).trans rfl,(a_b a_9.out 0).trans rfl,(a_b a_9.out 1).trans rfl⟩ (fun hHeld => ?_)
      clear hK K
      refine d_Y (a':=?_) ?_ ?_
      rotate_left
      ·show Act.put _ (some 28) _ = _
       simp only [Act.put,sa_,sb_,sc_,a_Y,a_0]
       rfl
      refine pt_ 2 (some 29) Z7_ HT_ ?_
      refine pt_ 3 (some 30) Z9_ HT_ ?_
      refine pt_ 4 (some 31) Z11_ HT_ ?_
      refine pt_ 6 (some 33) Z12_ HT_ ?_
      refine b_v (i:=5) (N:=some 32) (v:=?_) (a':=?_) Z15_ rfl rfl (a_N HT_.out HW_.out (by kernel_rfl)) (fun _ _ _ h => h) (Or.inl ⟨by rfl,?_⟩) hHeld ?_ ?_
      rotate_left
      ·rintro w' ⟨s0,s1,s2,s3⟩
       go_simp
       with_reducible rfl
      rotate_left
      ·simp only [Act.put,sa_,sb_,sc_,a_Y,a_0]
       rfl
      refine b_v (i:=7) (N:=some 34) (v:=?_) (a':=?_) Z17_ rfl rfl (a_N HT_.out HW_.out (by kernel_rfl)) (fun _ _ _ h => h) (Or.inl ⟨by rfl,?_⟩) hHeld ?_ ?_
      rotate_left
      ·rintro w' ⟨s0,s1,s2,s3⟩
       go_simp
       with_reducible rfl
      rotate_left
      ·simp only [Act.put,sa_,sb_,sc_,a_Y,a_0]
       rfl
      refine pt_ 8 (some 35) Z22_ HT_ ?_
      refine pt_ 9 (some 36) Z24_ HT_ ?_
      refine pt_ 10 (some 37) Z26_ HT_ ?_
      refine pk_ 11 (some 38) Z29_ HT_ ?_
      refine pk_ 12 (some 39) Z32_ HT_ ?_
      refine pk_ 13 (some 40) Z35_ HT_ ?_
      refine pk_ 14 (some 41) Z37_ HT_ ?_
      refine pk_ 15 (some 42) Z42_ HT_ ?_
      refine pk_ 16 (some 43) Z44_ HT_ ?_
      refine pk_ 17 (some 44) Z46_ HT_ ?_
      refine pk_ 18 (some 45) Z49_ HT_ ?_
      refine pk_ 19 (some 46) Z52_ HT_ ?_
      refine pk_ 20 (some 47) Z55_ HT_ ?_
      refine pk_ 21 (some 48) Z58_ HT_ ?_
      refine pk_ 22 (some 49) Z61_ HT_ ?_
      refine pk_ 23 (some 50) Z65_ HT_ ?_
      refine pk_ 24 (some 51) Z67_ HT_ ?_
      refine pt_ 25 (some 52) Z84_ HT_ ?_
      refine e_L (c_Z HT_.out (by kernel_rfl)) ?_
      try go_wp2
      go_ret
      exact ⟨by first|rfl|(simp [a_u,a_v] <;> rfl)|(simp [*, a_u,a_v] <;> rfl),by repeat (first|(with_reducible first|exact HB.out|apply a_j|apply a_h|apply a_k|refine a_i ?_ c_3.out|refine a_i ?_ e_v.out)|exact HB.out)⟩
     rw [if_neg c16] at H
     have c16b0 : decide (a0_1 < ((a_r l0_0 x22_2).f0)) = false:=decide_eq_false c16
     clear c16
     by_cases c23 : x22_2 > 0
     rotate_left
     ·rw [if_neg c23] at H
      have c23b0 : decide (0 < x22_2) = false:=decide_eq_false c23
      clear c23
      have H':=a_f.mk H
      clear H
      have p129 : 0 ≤ (x22_2 : Int):=of_decide_eq_true (by first|(with_reducible assumption)|assumption)
      have q129 : x22_2 < (l0_0.length : Int):=of_decide_eq_true (by first|(with_reducible assumption)|assumption)
      obtain ⟨ad129,A129_1,c129_1,e129,c_T,c_U,d_O,d_N⟩:=e_P g_Z.out x22_2 p129 q129
      cases e129
      replace c_T:=(HB.out.cell (World.block_lt_of_cell? w _ c_T)).trans c_T
      replace c_U:=(HB.out.cell (World.block_lt_of_cell? w _ c_U)).trans c_U
      have e_y:=a_f.mk d_N
      have e_w:=a_f.mk d_O
      clear d_N d_O
      replace p129:=eq_true p129
      replace q129:=eq_true q129
      try go_wp2_with (first|((with_reducible refine a_J (N:=4) rfl ?_);refine a_A ?hg (N:=4) ?hd (cs:=#[.int .i64 0,.slice none 0 0]) (t:=24) ?hr ?_;(case hd => rfl);(case hg => rfl);(case hr => first|(go_simp;done)|(go_simp;rfl));intro b_n hg w40 hbox hb;have b_p:=a_f.mk (hbox);have m_a:=a_f.mk ((by rw [hg];exact (a_o (by repeat (first|(with_reducible first|exact HB.out|apply a_j|apply a_h|apply a_k|refine a_i ?_ c_3.out)|exact HB.out))) : w.heap.size ≤ b_n));have e_v:=a_f.mk ((by rw [hg];exact (a_o (by repeat (first|(with_reducible first|exact HB.out|apply a_j|apply a_h|apply a_k|refine a_i ?_ c_3.out)|exact HB.out))) : w.heap.size ≤ b_n));have b_O:=a_f.mk ((by rw [hg];exact Nat.ne_of_lt (a_B (bup_ a_9.out)) : c_8 ≠ b_n));have d_J:=a_f.mk ((by rw [hg];exact Nat.ne_of_gt (a_B (bup_ a_9.out)) : b_n ≠ c_8));replace a_9:=a_f.mk (a_l (bup_ a_9.out) hb);replace HB:=a_f.mk (a_q (by repeat (first|(with_reducible first|exact HB.out|apply a_j|apply a_h|apply a_k|refine a_i ?_ c_3.out)|exact HB.out)) hb);clear hb hbox hg;have z_k:=d_J.out;have z_Q:=b_O.out;have o_Z : w40.cell? ⟨b_n,0,none⟩ = some (.int .i64 0):=(a_b b_p.out 0).trans rfl;have o_0 : w40.cell? ⟨b_n,1,none⟩ = some (.slice none 0 0):=(a_b b_p.out 1).trans rfl;have q_A:=a_c b_p.out 0;have q_B:=a_c b_p.out 1))
      have n0_ : a_f (((w40.setCell ⟨b_n,0,none⟩ (.int .i64 ((a_r l0_0 x22_2).f0))).setCell ⟨b_n,1,none⟩ (.slice A129_1 ((a_r l0_0 x22_2).f1).length c129_1)).heap[c_8]? = some (.cells #[.slice (some ad129) l0_0.length c0_0,.int .i64 a0_1] 37 (0,0))):=⟨by (with_reducible repeat (first|refine a_e ?_ _|refine a_g ?_|refine a_d ?_ _));refine a_p ?_ b_O.out _;(with_reducible repeat (first|refine a_e ?_ _|refine a_g ?_|refine a_d ?_ _));refine a_p ?_ b_O.out _;(with_reducible repeat (first|refine a_e ?_ _|refine a_g ?_|refine a_d ?_ _));exact a_9.out⟩
      have n1_ : a_f (((w40.setCell ⟨b_n,0,none⟩ (.int .i64 ((a_r l0_0 x22_2).f0))).setCell ⟨b_n,1,none⟩ (.slice A129_1 ((a_r l0_0 x22_2).f1).length c129_1)).heap[b_n]? = some (.cells #[.int .i64 ((a_r l0_0 x22_2).f0),.slice A129_1 ((a_r l0_0 x22_2).f1).length c129_1] 24 (0,0))):=⟨by (with_reducible repeat (first|refine a_e ?_ _|refine a_g ?_|refine a_d ?_ _));refine a_n (cs:=#[.int .i64 ((a_r l0_0 x22_2).f0),.slice none 0 0]) ?_ 1 _ rfl;(with_reducible repeat (first|refine a_e ?_ _|refine a_g ?_|refine a_d ?_ _));refine a_n (cs:=#[.int .i64 0,.slice none 0 0]) ?_ 0 _ rfl;(with_reducible repeat (first|refine a_e ?_ _|refine a_g ?_|refine a_d ?_ _));exact b_p.out⟩
      have n2_ : a_f (Below w.heap.size w ((w40.setCell ⟨b_n,0,none⟩ (.int .i64 ((a_r l0_0 x22_2).f0))).setCell ⟨b_n,1,none⟩ (.slice A129_1 ((a_r l0_0 x22_2).f1).length c129_1))):=⟨by repeat (first|(with_reducible first|exact HB.out|apply a_j|apply a_h|apply a_k|refine a_i ?_ c_3.out|refine a_i ?_ e_v.out)|exact HB.out)⟩
      (try clear a_9)
      (try clear b_p)
      (try clear HB)
      generalize ((w40.setCell ⟨b_n,0,none⟩ (.int .i64 ((a_r l0_0 x22_2).f0))).setCell ⟨b_n,1,none⟩ (.slice A129_1 ((a_r l0_0 x22_2).f1).length c129_1)) = w43 at n0_ n1_ n2_ ⊢
      have a_9:=n0_
      have b_p:=n1_
      have HB:=n2_
      clear n0_ n1_ n2_
      replace a_9:=a_f.mk (a_g a_9.out)
      replace b_p:=a_f.mk (a_g b_p.out)
      replace HB:=a_f.mk (a_k HB.out)
      refine d_R (n:=26) (S:=fun w' => w'.cell? ⟨b_n,0,none⟩ = some (.int .i64 ((a_r l0_0 x22_2).f0)) ∧ w'.cell? ⟨b_n,1,none⟩ = some (.slice A129_1 ((a_r l0_0 x22_2).f1).length c129_1) ∧ w'.cell? ⟨c_8,0,none⟩ = some (.slice (some ad129) l0_0.length c0_0) ∧ w'.cell? ⟨c_8,1,none⟩ = some (.int .i64 a0_1)) (ds:=[]) Z1_ (by kernel_rfl) rfl rfl ⟨(a_b b_p.out 0).trans rfl,(a_b b_p.out 1).trans rfl,(a_b a_9.out 0).trans rfl,(a_b a_9.out 1).trans rfl⟩ (fun hHeld => ?_);refine b_5 a_x.tab6 a_x.f_w (fun HT_ HW_ => ?_)
      generalize w43.drew = w44 at a_9 b_p HB hHeld ⊢
      refine b_v (i:=0) (N:=some 27) (v:=?_) (a':=?_) Z3_ rfl rfl (a_N HT_.out HW_.out (by kernel_rfl)) (fun _ _ _ h => h) (Or.inl ⟨by rfl,?_⟩) hHeld ?_ ?_
      rotate_left
      ·rintro w' ⟨s0,s1,s2,s3⟩
       go_simp
       with_reducible rfl
      rotate_left
      ·simp only [Act.put,sa_,sb_,sc_,a_Y,a_0]
       rfl
      refine one_ (i:=1) (N:=some 28) Z5_ rfl rfl (c_B HT_.out (by kernel_rfl)) (by decide) (fun K hK => ?_)
      refine e_n Tryd.func19 (by kernel_rfl) rfl #[.agg #[.int .i64 ((a_r l0_0 x22_2).f0),.slice A129_1 ((a_r l0_0 x22_2).f1).length c129_1]] (by rfl) rfl rfl (by (try simp only [List.map_toArray,List.map_cons,List.map_nil]);first|done|rfl|(simp only [List.length_drop,List.length_take];rfl)) ?_
      with_reducible refine (a_t.calls k2 ((a_r l0_0 x22_2).f0) _ _ ((a_r l0_0 x22_2).f1) true _ ?side1 ?side2 A14.out).mono ?_
      (case side1 => repeat (first|exact (Kd.b_i e_y.out HB.out)|(with_reducible refine Kd.b_b ?_ _)|(with_reducible refine Kd.b_c ?_ _)|(with_reducible refine Kd.b_z ?_)))
      (case side2 => exact e_w.out)
      rintro e w45 ⟨rfl,hb⟩
      refine ⟨_,rfl,?_⟩
      replace a_9:=a_f.mk (a_l (bup_ a_9.out) hb)
      replace b_p:=a_f.mk (a_l (bup_ b_p.out) hb)
      replace HB:=a_f.mk (a_q (by repeat (first|(with_reducible first|exact HB.out|apply a_j|apply a_h|apply a_k|refine a_i ?_ c_3.out|refine a_i ?_ e_v.out)|exact HB.out)) hb)
      (try clear hb)
      (try clear hb2)
      (try clear hk)
      (try clear hi)
      refine hK.out _ _ ⟨(a_b b_p.out 0).trans rfl,(a_b b_p.out 1).trans rfl,(a_b a_9.out 0).trans rfl,(a_b a_9.out 1).trans rfl⟩ (fun hHeld => ?_)
      clear hK K
      refine d_Y (a':=?_) ?_ ?_
      rotate_left
      ·show Act.put _ (some 28) _ = _
       simp only [Act.put,sa_,sb_,sc_,a_Y,a_0]
       rfl
      refine pt_ 2 (some 29) Z7_ HT_ ?_
      refine pt_ 3 (some 30) Z9_ HT_ ?_
      refine pt_ 4 (some 31) Z11_ HT_ ?_
      refine pt_ 6 (some 33) Z12_ HT_ ?_
      refine b_v (i:=5) (N:=some 32) (v:=?_) (a':=?_) Z15_ rfl rfl (a_N HT_.out HW_.out (by kernel_rfl)) (fun _ _ _ h => h) (Or.inl ⟨by rfl,?_⟩) hHeld ?_ ?_
      rotate_left
      ·rintro w' ⟨s0,s1,s2,s3⟩
       go_simp
       with_reducible rfl
      rotate_left
      ·simp only [Act.put,sa_,sb_,sc_,a_Y,a_0]
       rfl
      refine b_v (i:=7) (N:=some 34) (v:=?_) (a':=?_) Z17_ rfl rfl (a_N HT_.out HW_.out (by kernel_rfl)) (fun _ _ _ h => h) (Or.inl ⟨by rfl,?_⟩) hHeld ?_ ?_
      rotate_left
      ·rintro w' ⟨s0,s1,s2,s3⟩
       go_simp
       with_reducible rfl
      rotate_left
      ·simp only [Act.put,sa_,sb_,sc_,a_Y,a_0]
       rfl
      refine pt_ 8 (some 35) Z22_ HT_ ?_
      refine pt_ 9 (some 36) Z24_ HT_ ?_
      refine pt_ 10 (some 37) Z26_ HT_ ?_
      refine pt_ 11 (some 38) Z29_ HT_ ?_
      refine pt_ 12 (some 39) Z32_ HT_ ?_
      refine pt_ 13 (some 40) Z35_ HT_ ?_
      refine pk_ 14 (some 41) Z37_ HT_ ?_
      refine pk_ 15 (some 42) Z42_ HT_ ?_
      refine pk_ 16 (some 43) Z44_ HT_ ?_
      refine pk_ 17 (some 44) Z46_ HT_ ?_
      refine pk_ 18 (some 45) Z49_ HT_ ?_
      refine pk_ 19 (some 46) Z52_ HT_ ?_
      refine pk_ 20 (some 47) Z55_ HT_ ?_
      refine pk_ 21 (some 48) Z58_ HT_ ?_
      refine pk_ 22 (some 49) Z61_ HT_ ?_
      refine pk_ 23 (some 50) Z65_ HT_ ?_
      refine pt_ 24 (some 51) Z67_ HT_ ?_
      refine pt_ 25 (some 52) Z84_ HT_ ?_
      refine e_L (c_Z HT_.out (by kernel_rfl)) ?_
      try go_wp2
      go_roundg k2
      case measure => have:=HJ1.out;have:=HK2.out;omega
      case rel => exact ⟨(wrap64 (x22_2 + 1)),(by first|rfl|(simp;done)|(simp [*];done)),H',⟨by have:=HJ1.out;have:=HK2.out;omega⟩,⟨by (with_reducible repeat (first|refine a_e ?_ _|refine a_g ?_|refine a_d ?_ _));exact a_9.out⟩,⟨by repeat (first|(with_reducible first|exact HB.out|apply a_j|apply a_h|apply a_k|refine a_i ?_ c_3.out|refine a_i ?_ e_v.out)|exact HB.out)⟩⟩
     rw [if_pos c23] at H
     have c23b0 : decide (0 < x22_2) = true:=decide_eq_true c23
     clear c23
     obtain ⟨ji24,hji24⟩ : ∃ j_ : Int,(wrap64 (x22_2 - 1)) = j_:=⟨_,rfl⟩
     replace H : (if 0 ≤ (ji24) then (if (ji24) < (l0_0.length : Int) then (if ((a_r l0_0 (ji24)).f0) ≥ ((a_r l0_0 x22_2).f0) then (some 390) else (a_x.l0 k2 l0_0 (l0_0.length : Int) (wrap64 (x22_2 + 1)) l0_0 a0_1)) else (none)) else (none)) = some r:=by first|(rw [hji24] at H;exact H)|(simp only [hji24] at H ⊢; exact H)
     (try rw [hji24] at A14)
     have hji24w : (IntKind.i64.wrap (x22_2 - 1)) = ji24:=(a_Y _).trans hji24
     by_cases c25 : 0 ≤ (ji24)
     rotate_left
     ·rw [if_neg c25] at H
      exact absurd H (by simp)
     rw [if_pos c25] at H
     have c25b0 : decide (0 ≤ (ji24)) = true:=decide_eq_true c25
     clear c25
     by_cases c26 : (ji24) < (l0_0.length : Int)
     rotate_left
     ·rw [if_neg c26] at H
      exact absurd H (by simp)
     rw [if_pos c26] at H
     have c26b0 : decide ((ji24) < (l0_0.length : Int)) = true:=decide_eq_true c26
     clear c26
     by_cases c27 : ((a_r l0_0 (ji24)).f0) ≥ ((a_r l0_0 x22_2).f0)
     ·rw [if_pos c27] at H
      have c27b0 : decide (((a_r l0_0 x22_2).f0) ≤ ((a_r l0_0 (ji24)).f0)) = true:=decide_eq_true c27
      clear c27
      obtain rfl:=Option.some.inj H
      have p129 : 0 ≤ (x22_2 : Int):=of_decide_eq_true (by first|(with_reducible assumption)|assumption)
      have q129 : x22_2 < (l0_0.length : Int):=of_decide_eq_true (by first|(with_reducible assumption)|assumption)
      obtain ⟨ad129,A129_1,c129_1,e129,c_T,c_U,d_O,d_N⟩:=e_P g_Z.out x22_2 p129 q129
      cases e129
      replace c_T:=(HB.out.cell (World.block_lt_of_cell? w _ c_T)).trans c_T
      replace c_U:=(HB.out.cell (World.block_lt_of_cell? w _ c_U)).trans c_U
      have e_y:=a_f.mk d_N
      have e_w:=a_f.mk d_O
      clear d_N d_O
      replace p129:=eq_true p129
      replace q129:=eq_true q129
      try go_wp2_with (first|((with_reducible refine a_J (N:=4) rfl ?_);refine a_A ?hg (N:=4) ?hd (cs:=#[.int .i64 0,.slice none 0 0]) (t:=24) ?hr ?_;(case hd => rfl);(case hg => rfl);(case hr => first|(go_simp;done)|(go_simp;rfl));intro b_n hg w28 hbox hb;have b_p:=a_f.mk (hbox);have m_a:=a_f.mk ((by rw [hg];exact (a_o (by repeat (first|(with_reducible first|exact HB.out|apply a_j|apply a_h|apply a_k|refine a_i ?_ c_3.out)|exact HB.out))) : w.heap.size ≤ b_n));have e_v:=a_f.mk ((by rw [hg];exact (a_o (by repeat (first|(with_reducible first|exact HB.out|apply a_j|apply a_h|apply a_k|refine a_i ?_ c_3.out)|exact HB.out))) : w.heap.size ≤ b_n));have b_O:=a_f.mk ((by rw [hg];exact Nat.ne_of_lt (a_B (bup_ a_9.out)) : c_8 ≠ b_n));have d_J:=a_f.mk ((by rw [hg];exact Nat.ne_of_gt (a_B (bup_ a_9.out)) : b_n ≠ c_8));replace a_9:=a_f.mk (a_l (bup_ a_9.out) hb);replace HB:=a_f.mk (a_q (by repeat (first|(with_reducible first|exact HB.out|apply a_j|apply a_h|apply a_k|refine a_i ?_ c_3.out)|exact HB.out)) hb);clear hb hbox hg;have z_d:=d_J.out;have z_J:=b_O.out;have t_3 : w28.cell? ⟨b_n,0,none⟩ = some (.int .i64 0):=(a_b b_p.out 0).trans rfl;have t_4 : w28.cell? ⟨b_n,1,none⟩ = some (.slice none 0 0):=(a_b b_p.out 1).trans rfl;have w_z:=a_c b_p.out 0;have w_A:=a_c b_p.out 1))
      have n0_ : a_f (((w28.setCell ⟨b_n,0,none⟩ (.int .i64 ((a_r l0_0 x22_2).f0))).setCell ⟨b_n,1,none⟩ (.slice A129_1 ((a_r l0_0 x22_2).f1).length c129_1)).heap[c_8]? = some (.cells #[.slice (some ad129) l0_0.length c0_0,.int .i64 a0_1] 37 (0,0))):=⟨by (with_reducible repeat (first|refine a_e ?_ _|refine a_g ?_|refine a_d ?_ _));refine a_p ?_ b_O.out _;(with_reducible repeat (first|refine a_e ?_ _|refine a_g ?_|refine a_d ?_ _));refine a_p ?_ b_O.out _;(with_reducible repeat (first|refine a_e ?_ _|refine a_g ?_|refine a_d ?_ _));exact a_9.out⟩
      have n1_ : a_f (((w28.setCell ⟨b_n,0,none⟩ (.int .i64 ((a_r l0_0 x22_2).f0))).setCell ⟨b_n,1,none⟩ (.slice A129_1 ((a_r l0_0 x22_2).f1).length c129_1)).heap[b_n]? = some (.cells #[.int .i64 ((a_r l0_0 x22_2).f0),.slice A129_1 ((a_r l0_0 x22_2).f1).length c129_1] 24 (0,0))):=⟨by (with_reducible repeat (first|refine a_e ?_ _|refine a_g ?_|refine a_d ?_ _));refine a_n (cs:=#[.int .i64 ((a_r l0_0 x22_2).f0),.slice none 0 0]) ?_ 1 _ rfl;(with_reducible repeat (first|refine a_e ?_ _|refine a_g ?_|refine a_d ?_ _));refine a_n (cs:=#[.int .i64 0,.slice none 0 0]) ?_ 0 _ rfl;(with_reducible repeat (first|refine a_e ?_ _|refine a_g ?_|refine a_d ?_ _));exact b_p.out⟩
      have n2_ : a_f (Below w.heap.size w ((w28.setCell ⟨b_n,0,none⟩ (.int .i64 ((a_r l0_0 x22_2).f0))).setCell ⟨b_n,1,none⟩ (.slice A129_1 ((a_r l0_0 x22_2).f1).length c129_1))):=⟨by repeat (first|(with_reducible first|exact HB.out|apply a_j|apply a_h|apply a_k|refine a_i ?_ c_3.out|refine a_i ?_ e_v.out)|exact HB.out)⟩
      (try clear a_9)
      (try clear b_p)
      (try clear HB)
      generalize ((w28.setCell ⟨b_n,0,none⟩ (.int .i64 ((a_r l0_0 x22_2).f0))).setCell ⟨b_n,1,none⟩ (.slice A129_1 ((a_r l0_0 x22_2).f1).length c129_1)) = w31 at n0_ n1_ n2_ ⊢
      have a_9:=n0_
      have b_p:=n1_
      have HB:=n2_
      clear n0_ n1_ n2_
      replace a_9:=a_f.mk (a_g a_9.out)
      replace b_p:=a_f.mk (a_g b_p.out)
      replace HB:=a_f.mk (a_k HB.out)
      have p132 : 0 ≤ ((ji24) : Int):=of_decide_eq_true (by first|(with_reducible assumption)|assumption)
      have q132 : (ji24) < (l0_0.length : Int):=of_decide_eq_true (by first|(with_reducible assumption)|assumption)
      obtain ⟨ad132,A132_1,c132_1,e132,e_o,e_p,g_s,g_r⟩:=e_P g_Z.out (ji24) p132 q132
      have e_C:=e_p
      have e_B:=e_o
      obtain rfl : ad129 = ad132:=(by injection e132)
      replace e_o:=(HB.out.cell (World.block_lt_of_cell? w _ e_o)).trans e_o
      replace e_p:=(HB.out.cell (World.block_lt_of_cell? w _ e_p)).trans e_p
      have h_W:=a_f.mk g_r
      have n_v:=a_f.mk g_s
      clear g_r g_s
      replace p132:=eq_true p132
      replace q132:=eq_true q132
      refine d_R (n:=26) (S:=fun w' => w'.cell? ⟨b_n,0,none⟩ = some (.int .i64 ((a_r l0_0 x22_2).f0)) ∧ w'.cell? ⟨b_n,1,none⟩ = some (.slice A129_1 ((a_r l0_0 x22_2).f1).length c129_1) ∧ w'.cell? ⟨c_8,0,none⟩ = some (.slice (some ad129) l0_0.length c0_0) ∧ w'.cell? ⟨c_8,1,none⟩ = some (.int .i64 a0_1) ∧ w'.cell? (ad129.add (((ji24)).toNat * 2)) = some (.int .i64 ((a_r l0_0 (ji24)).f0)) ∧ w'.cell? ⟨(ad129.add (((ji24)).toNat * 2)).block,(ad129.add (((ji24)).toNat * 2)).off + 1,none⟩ = some (.slice A132_1 ((a_r l0_0 (ji24)).f1).length c132_1)) (ds:=[]) Z1_ (by kernel_rfl) rfl rfl ⟨(a_b b_p.out 0).trans rfl,(a_b b_p.out 1).trans rfl,(a_b a_9.out 0).trans rfl,(a_b a_9.out 1).trans rfl,((HB.out.cell (World.block_lt_of_cell? w _ e_B)).trans e_B),((HB.out.cell (World.block_lt_of_cell? w _ e_C)).trans e_C)⟩ (fun hHeld => ?_);refine b_5 a_x.tab6 a_x.f_w (fun HT_ HW_ => ?_)
      generalize w31.drew = w32 at a_9 b_p HB h_W e_o e_p hHeld ⊢
      refine b_v (i:=0) (N:=some 27) (v:=?_) (a':=?_) Z3_ rfl rfl (a_N HT_.out HW_.out (by kernel_rfl)) (fun _ _ _ h => h) (Or.inl ⟨by rfl,?_⟩) hHeld ?_ ?_
      rotate_left
      ·rintro w' ⟨s0,s1,s2,s3,s4,s5⟩
       go_simp
       with_reducible rfl
      rotate_left
      ·simp only [Act.put,sa_,sb_,sc_,a_Y,a_0]
       rfl
      refine one_ (i:=1) (N:=some 28) Z5_ rfl rfl (c_B HT_.out (by kernel_rfl)) (by decide) (fun K hK => ?_)
      refine e_n Tryd.func19 (by kernel_rfl) rfl #[.agg #[.int .i64 ((a_r l0_0 x22_2).f0),.slice A129_1 ((a_r l0_0 x22_2).f1).length c129_1]] (by rfl) rfl rfl (by (try simp only [List.map_toArray,List.map_cons,List.map_nil]);first|done|rfl|(simp only [List.length_drop,List.length_take];rfl)) ?_
      with_reducible refine (a_t.calls k2 ((a_r l0_0 x22_2).f0) _ _ ((a_r l0_0 x22_2).f1) true _ ?side1 ?side2 A14.out).mono ?_
      (case side1 => repeat (first|exact (Kd.b_i e_y.out HB.out)|(with_reducible refine Kd.b_b ?_ _)|(with_reducible refine Kd.b_c ?_ _)|(with_reducible refine Kd.b_z ?_)))
      (case side2 => exact e_w.out)
      rintro e w33 ⟨rfl,hb⟩
      refine ⟨_,rfl,?_⟩
      replace a_9:=a_f.mk (a_l (bup_ a_9.out) hb)
      replace b_p:=a_f.mk (a_l (bup_ b_p.out) hb)
      replace HB:=a_f.mk (a_q (by repeat (first|(with_reducible first|exact HB.out|apply a_j|apply a_h|apply a_k|refine a_i ?_ c_3.out|refine a_i ?_ e_v.out)|exact HB.out)) hb)
      (try clear hb)
      (try clear hb2)
      (try clear hk)
      (try clear hi)
      refine hK.out _ _ ⟨(a_b b_p.out 0).trans rfl,(a_b b_p.out 1).trans rfl,(a_b a_9.out 0).trans rfl,(a_b a_9.out 1).trans rfl,((HB.out.cell (World.block_lt_of_cell? w _ e_B)).trans e_B),((HB.out.cell (World.block_lt_of_cell? w _ e_C)).trans e_C)⟩ (fun hHeld => ?_)
      clear hK K
      refine d_Y (a':=?_) ?_ ?_
      rotate_left
      ·show Act.put _ (some 28) _ = _
       simp only [Act.put,sa_,sb_,sc_,a_Y,a_0]
       rfl
      refine pt_ 2 (some 29) Z7_ HT_ ?_
      refine pt_ 3 (some 30) Z9_ HT_ ?_
      refine pt_ 4 (some 31) Z11_ HT_ ?_
      refine pt_ 6 (some 33) Z12_ HT_ ?_
      refine b_v (i:=5) (N:=some 32) (v:=?_) (a':=?_) Z15_ rfl rfl (a_N HT_.out HW_.out (by kernel_rfl)) (fun _ _ _ h => h) (Or.inl ⟨by rfl,?_⟩) hHeld ?_ ?_
      rotate_left
      ·rintro w' ⟨s0,s1,s2,s3,s4,s5⟩
       go_simp
       with_reducible rfl
      rotate_left
      ·simp only [Act.put,sa_,sb_,sc_,a_Y,a_0]
       rfl
      refine b_v (i:=7) (N:=some 34) (v:=?_) (a':=?_) Z17_ rfl rfl (a_N HT_.out HW_.out (by kernel_rfl)) (fun _ _ _ h => h) (Or.inl ⟨by rfl,?_⟩) hHeld ?_ ?_
      rotate_left
      ·rintro w' ⟨s0,s1,s2,s3,s4,s5⟩
       go_simp
       with_reducible rfl
      rotate_left
      ·simp only [Act.put,sa_,sb_,sc_,a_Y,a_0]
       rfl
      refine pt_ 8 (some 35) Z22_ HT_ ?_
      refine pt_ 9 (some 36) Z24_ HT_ ?_
      refine pt_ 10 (some 37) Z26_ HT_ ?_
      refine pt_ 11 (some 38) Z29_ HT_ ?_
      refine pt_ 12 (some 39) Z32_ HT_ ?_
      refine pt_ 13 (some 40) Z35_ HT_ ?_
      refine pt_ 14 (some 41) Z37_ HT_ ?_
      refine pt_ 16 (some 43) Z38_ HT_ ?_
      refine pt_ 17 (some 44) Z39_ HT_ ?_
      refine pt_ 21 (some 48) Z40_ HT_ ?_
      refine b_v (i:=15) (N:=some 42) (v:=?_) (a':=?_) Z47_ rfl rfl (a_N HT_.out HW_.out (by kernel_rfl)) (fun _ _ _ h => h) (Or.inl ⟨by rfl,?_⟩) hHeld ?_ ?_
      rotate_left
      ·rintro w' ⟨s0,s1,s2,s3,s4,s5⟩
       go_simp
       with_reducible rfl
      rotate_left
      ·simp only [Act.put,sa_,sb_,sc_,a_Y,a_0]
       rfl
      refine pt_ 18 (some 45) Z50_ HT_ ?_
      refine pt_ 19 (some 46) Z53_ HT_ ?_
      refine b_v (i:=20) (N:=some 47) (v:=?_) (a':=?_) Z58_ rfl rfl (a_N HT_.out HW_.out (by kernel_rfl)) (fun _ _ _ h => h) (Or.inl ⟨by rfl,?_⟩) hHeld ?_ ?_
      rotate_left
      ·rintro w' ⟨s0,s1,s2,s3,s4,s5⟩
       go_simp
       with_reducible rfl
      rotate_left
      ·simp only [Act.put,sa_,sb_,sc_,a_Y,a_0]
       rfl
      refine b_v (i:=22) (N:=some 49) (v:=?_) (a':=?_) Z61_ rfl rfl (a_N HT_.out HW_.out (by kernel_rfl)) (fun _ _ _ h => h) (Or.inl ⟨by rfl,?_⟩) hHeld ?_ ?_
      rotate_left
      ·rintro w' ⟨s0,s1,s2,s3,s4,s5⟩
       go_simp
       with_reducible rfl
      rotate_left
      ·simp only [Act.put,sa_,sb_,sc_,a_Y,a_0]
       rfl
      refine pt_ 23 (some 50) Z65_ HT_ ?_
      refine pt_ 24 (some 51) Z67_ HT_ ?_
      refine pt_ 25 (some 52) Z84_ HT_ ?_
      refine e_L (c_Z HT_.out (by kernel_rfl)) ?_
      try go_wp2
      go_ret
      exact ⟨by first|rfl|(simp [a_u,a_v] <;> rfl)|(simp only [← hji24];first|rfl|(simp [a_u,a_v] <;> rfl))|(simp [*, a_u,a_v] <;> rfl),by repeat (first|(with_reducible first|exact HB.out|apply a_j|apply a_h|apply a_k|refine a_i ?_ c_3.out|refine a_i ?_ e_v.out)|exact HB.out)⟩
     rw [if_neg c27] at H
     have c27b0 : decide (((a_r l0_0 x22_2).f0) ≤ ((a_r l0_0 (ji24)).f0)) = false:=decide_eq_false c27
     clear c27
     have H':=a_f.mk H
     clear H
     have p129 : 0 ≤ (x22_2 : Int):=of_decide_eq_true (by first|(with_reducible assumption)|assumption)
     have q129 : x22_2 < (l0_0.length : Int):=of_decide_eq_true (by first|(with_reducible assumption)|assumption)
     obtain ⟨ad129,A129_1,c129_1,e129,c_T,c_U,d_O,d_N⟩:=e_P g_Z.out x22_2 p129 q129
     cases e129
     replace c_T:=(HB.out.cell (World.block_lt_of_cell? w _ c_T)).trans c_T
     replace c_U:=(HB.out.cell (World.block_lt_of_cell? w _ c_U)).trans c_U
     have e_y:=a_f.mk d_N
     have e_w:=a_f.mk d_O
     clear d_N d_O
     replace p129:=eq_true p129
     replace q129:=eq_true q129
     try go_wp2_with (first|((with_reducible refine a_J (N:=4) rfl ?_);refine a_A ?hg (N:=4) ?hd (cs:=#[.int .i64 0,.slice none 0 0]) (t:=24) ?hr ?_;(case hd => rfl);(case hg => rfl);(case hr => first|(go_simp;done)|(go_simp;rfl));intro b_n hg w34 hbox hb;have b_p:=a_f.mk (hbox);have m_a:=a_f.mk ((by rw [hg];exact (a_o (by repeat (first|(with_reducible first|exact HB.out|apply a_j|apply a_h|apply a_k|refine a_i ?_ c_3.out)|exact HB.out))) : w.heap.size ≤ b_n));have e_v:=a_f.mk ((by rw [hg];exact (a_o (by repeat (first|(with_reducible first|exact HB.out|apply a_j|apply a_h|apply a_k|refine a_i ?_ c_3.out)|exact HB.out))) : w.heap.size ≤ b_n));have b_O:=a_f.mk ((by rw [hg];exact Nat.ne_of_lt (a_B (bup_ a_9.out)) : c_8 ≠ b_n));have d_J:=a_f.mk ((by rw [hg];exact Nat.ne_of_gt (a_B (bup_ a_9.out)) : b_n ≠ c_8));replace a_9:=a_f.mk (a_l (bup_ a_9.out) hb);replace HB:=a_f.mk (a_q (by repeat (first|(with_reducible first|exact HB.out|apply a_j|apply a_h|apply a_k|refine a_i ?_ c_3.out)|exact HB.out)) hb);clear hb hbox hg;have r_F:=d_J.out;have r_H:=b_O.out;have i_F : w34.cell? ⟨b_n,0,none⟩ = some (.int .i64 0):=(a_b b_p.out 0).trans rfl;have i_G : w34.cell? ⟨b_n,1,none⟩ = some (.slice none 0 0):=(a_b b_p.out 1).trans rfl;have i_4:=a_c b_p.out 0;have i_5:=a_c b_p.out 1))
     have n0_ : a_f (((w34.setCell ⟨b_n,0,none⟩ (.int .i64 ((a_r l0_0 x22_2).f0))).setCell ⟨b_n,1,none⟩ (.slice A129_1 ((a_r l0_0 x22_2).f1).length c129_1)).heap[c_8]? = some (.cells #[.slice (some ad129) l0_0.length c0_0,.int .i64 a0_1] 37 (0,0))):=⟨by (with_reducible repeat (first|refine a_e ?_ _|refine a_g ?_|refine a_d ?_ _));refine a_p ?_ b_O.out _;(with_reducible repeat (first|refine a_e ?_ _|refine a_g ?_|refine a_d ?_ _));refine a_p ?_ b_O.out _;(with_reducible repeat (first|refine a_e ?_ _|refine a_g ?_|refine a_d ?_ _));exact a_9.out⟩
     have n1_ : a_f (((w34.setCell ⟨b_n,0,none⟩ (.int .i64 ((a_r l0_0 x22_2).f0))).setCell ⟨b_n,1,none⟩ (.slice A129_1 ((a_r l0_0 x22_2).f1).length c129_1)).heap[b_n]? = some (.cells #[.int .i64 ((a_r l0_0 x22_2).f0),.slice A129_1 ((a_r l0_0 x22_2).f1).length c129_1] 24 (0,0))):=⟨by (with_reducible repeat (first|refine a_e ?_ _|refine a_g ?_|refine a_d ?_ _));refine a_n (cs:=#[.int .i64 ((a_r l0_0 x22_2).f0),.slice none 0 0]) ?_ 1 _ rfl;(with_reducible repeat (first|refine a_e ?_ _|refine a_g ?_|refine a_d ?_ _));refine a_n (cs:=#[.int .i64 0,.slice none 0 0]) ?_ 0 _ rfl;(with_reducible repeat (first|refine a_e ?_ _|refine a_g ?_|refine a_d ?_ _));exact b_p.out⟩
     have n2_ : a_f (Below w.heap.size w ((w34.setCell ⟨b_n,0,none⟩ (.int .i64 ((a_r l0_0 x22_2).f0))).setCell ⟨b_n,1,none⟩ (.slice A129_1 ((a_r l0_0 x22_2).f1).length c129_1))):=⟨by repeat (first|(with_reducible first|exact HB.out|apply a_j|apply a_h|apply a_k|refine a_i ?_ c_3.out|refine a_i ?_ e_v.out)|exact HB.out)⟩
     (try clear a_9)
     (try clear b_p)
     (try clear HB)
     generalize ((w34.setCell ⟨b_n,0,none⟩ (.int .i64 ((a_r l0_0 x22_2).f0))).setCell ⟨b_n,1,none⟩ (.slice A129_1 ((a_r l0_0 x22_2).f1).length c129_1)) = w37 at n0_ n1_ n2_ ⊢
     have a_9:=n0_
     have b_p:=n1_
     have HB:=n2_
     clear n0_ n1_ n2_
     replace a_9:=a_f.mk (a_g a_9.out)
     replace b_p:=a_f.mk (a_g b_p.out)
     replace HB:=a_f.mk (a_k HB.out)
     have p132 : 0 ≤ ((ji24) : Int):=of_decide_eq_true (by first|(with_reducible assumption)|assumption)
     have q132 : (ji24) < (l0_0.length : Int):=of_decide_eq_true (by first|(with_reducible assumption)|assumption)
     obtain ⟨ad132,A132_1,c132_1,e132,e_o,e_p,g_s,g_r⟩:=e_P g_Z.out (ji24) p132 q132
     have e_C:=e_p
     have e_B:=e_o
     obtain rfl : ad129 = ad132:=(by injection e132)
     replace e_o:=(HB.out.cell (World.block_lt_of_cell? w _ e_o)).trans e_o
     replace e_p:=(HB.out.cell (World.block_lt_of_cell? w _ e_p)).trans e_p
     have h_W:=a_f.mk g_r
     have n_v:=a_f.mk g_s
     clear g_r g_s
     replace p132:=eq_true p132
     replace q132:=eq_true q132
     refine d_R (n:=26) (S:=fun w' => w'.cell? ⟨b_n,0,none⟩ = some (.int .i64 ((a_r l0_0 x22_2).f0)) ∧ w'.cell? ⟨b_n,1,none⟩ = some (.slice A129_1 ((a_r l0_0 x22_2).f1).length c129_1) ∧ w'.cell? ⟨c_8,0,none⟩ = some (.slice (some ad129) l0_0.length c0_0) ∧ w'.cell? ⟨c_8,1,none⟩ = some (.int .i64 a0_1) ∧ w'.cell? (ad129.add (((ji24)).toNat * 2)) = some (.int .i64 ((a_r l0_0 (ji24)).f0)) ∧ w'.cell? ⟨(ad129.add (((ji24)).toNat * 2)).block,(ad129.add (((ji24)).toNat * 2)).off + 1,none⟩ = some (.slice A132_1 ((a_r l0_0 (ji24)).f1).length c132_1)) (ds:=[]) Z1_ (by kernel_rfl) rfl rfl ⟨(a_b b_p.out 0).trans rfl,(a_b b_p.out 1).trans rfl,(a_b a_9.out 0).trans rfl,(a_b a_9.out 1).trans rfl,((HB.out.cell (World.block_lt_of_cell? w _ e_B)).trans e_B),((HB.out.cell (World.block_lt_of_cell? w _ e_C)).trans e_C)⟩ (fun hHeld => ?_);refine b_5 a_x.tab6 a_x.f_w (fun HT_ HW_ => ?_)
     generalize w37.drew = w38 at a_9 b_p HB h_W e_o e_p hHeld ⊢
     refine b_v (i:=0) (N:=some 27) (v:=?_) (a':=?_) Z3_ rfl rfl (a_N HT_.out HW_.out (by kernel_rfl)) (fun _ _ _ h => h) (Or.inl ⟨by rfl,?_⟩) hHeld ?_ ?_
     rotate_left
     ·rintro w' ⟨s0,s1,s2,s3,s4,s5⟩
      go_simp
      with_reducible rfl
     rotate_left
     ·simp only [Act.put,sa_,sb_,sc_,a_Y,a_0]
      rfl
     refine one_ (i:=1) (N:=some 28) Z5_ rfl rfl (c_B HT_.out (by kernel_rfl)) (by decide) (fun K hK => ?_)
     refine e_n Tryd.func19 (by kernel_rfl) rfl #[.agg #[.int .i64 ((a_r l0_0 x22_2).f0),.slice A129_1 ((a_r l0_0 x22_2).f1).length c129_1]] (by rfl) rfl rfl (by (try simp only [List.map_toArray,List.map_cons,List.map_nil]);first|done|rfl|(simp only [List.length_drop,List.length_take];rfl)) ?_
     with_reducible refine (a_t.calls k2 ((a_r l0_0 x22_2).f0) _ _ ((a_r l0_0 x22_2).f1) true _ ?side1 ?side2 A14.out).mono ?_
     (case side1 => repeat (first|exact (Kd.b_i e_y.out HB.out)|(with_reducible refine Kd.b_b ?_ _)|(with_reducible refine Kd.b_c ?_ _)|(with_reducible refine Kd.b_z ?_)))
     (case side2 => exact e_w.out)
     rintro e w39 ⟨rfl,hb⟩
     refine ⟨_,rfl,?_⟩
     replace a_9:=a_f.mk (a_l (bup_ a_9.out) hb)
     replace b_p:=a_f.mk (a_l (bup_ b_p.out) hb)
     replace HB:=a_f.mk (a_q (by repeat (first|(with_reducible first|exact HB.out|apply a_j|apply a_h|apply a_k|refine a_i ?_ c_3.out|refine a_i ?_ e_v.out)|exact HB.out)) hb)
     (try clear hb)
     (try clear hb2)
     (try clear hk)
     (try clear hi)
     refine hK.out _ _ ⟨(a_b b_p.out 0).trans rfl,(a_b b_p.out 1).trans rfl,(a_b a_9.out 0).trans rfl,(a_b a_9.out 1).trans rfl,((HB.out.cell (World.block_lt_of_cell? w _ e_B)).trans e_B),((HB.out.cell (World.block_lt_of_cell? w _ e_C)).trans e_C)⟩ (fun hHeld => ?_)
     clear hK K
     refine d_Y (a':=?_) ?_ ?_
     rotate_left
     ·show Act.put _ (some 28) _ = _
      simp only [Act.put,sa_,sb_,sc_,a_Y,a_0]
      rfl
     refine pt_ 2 (some 29) Z7_ HT_ ?_
     refine pt_ 3 (some 30) Z9_ HT_ ?_
     refine pt_ 4 (some 31) Z11_ HT_ ?_
     refine pt_ 6 (some 33) Z12_ HT_ ?_
     refine b_v (i:=5) (N:=some 32) (v:=?_) (a':=?_) Z15_ rfl rfl (a_N HT_.out HW_.out (by kernel_rfl)) (fun _ _ _ h => h) (Or.inl ⟨by rfl,?_⟩) hHeld ?_ ?_
     rotate_left
     ·rintro w' ⟨s0,s1,s2,s3,s4,s5⟩
      go_simp
      with_reducible rfl
     rotate_left
     ·simp only [Act.put,sa_,sb_,sc_,a_Y,a_0]
      rfl
     refine b_v (i:=7) (N:=some 34) (v:=?_) (a':=?_) Z17_ rfl rfl (a_N HT_.out HW_.out (by kernel_rfl)) (fun _ _ _ h => h) (Or.inl ⟨by rfl,?_⟩) hHeld ?_ ?_
     rotate_left
     ·rintro w' ⟨s0,s1,s2,s3,s4,s5⟩
      go_simp
      with_reducible rfl
     rotate_left
     ·simp only [Act.put,sa_,sb_,sc_,a_Y,a_0]
      rfl
     refine pt_ 8 (some 35) Z22_ HT_ ?_
     refine pt_ 9 (some 36) Z24_ HT_ ?_
     refine pt_ 10 (some 37) Z26_ HT_ ?_
     refine pt_ 11 (some 38) Z29_ HT_ ?_
     refine pt_ 12 (some 39) Z32_ HT_ ?_
     refine pt_ 13 (some 40) Z35_ HT_ ?_
     refine pt_ 14 (some 41) Z37_ HT_ ?_
     refine pt_ 16 (some 43) Z38_ HT_ ?_
     refine pt_ 17 (some 44) Z39_ HT_ ?_
     refine pt_ 21 (some 48) Z40_ HT_ ?_
     refine b_v (i:=15) (N:=some 42) (v:=?_) (a':=?_) Z47_ rfl rfl (a_N HT_.out HW_.out (by kernel_rfl)) (fun _ _ _ h => h) (Or.inl ⟨by rfl,?_⟩) hHeld ?_ ?_
     rotate_left
     ·rintro w' ⟨s0,s1,s2,s3,s4,s5⟩
      go_simp
      with_reducible rfl
     rotate_left
     ·simp only [Act.put,sa_,sb_,sc_,a_Y,a_0]
      rfl
     refine pt_ 18 (some 45) Z50_ HT_ ?_
     refine pt_ 19 (some 46) Z53_ HT_ ?_
     refine b_v (i:=20) (N:=some 47) (v:=?_) (a':=?_) Z58_ rfl rfl (a_N HT_.out HW_.out (by kernel_rfl)) (fun _ _ _ h => h) (Or.inl ⟨by rfl,?_⟩) hHeld ?_ ?_
     rotate_left
     ·rintro w' ⟨s0,s1,s2,s3,s4,s5⟩
      go_simp
      with_reducible rfl
     rotate_left
     ·simp only [Act.put,sa_,sb_,sc_,a_Y,a_0]
      rfl
     refine b_v (i:=22) (N:=some 49) (v:=?_) (a':=?_) Z61_ rfl rfl (a_N HT_.out HW_.out (by kernel_rfl)) (fun _ _ _ h => h) (Or.inl ⟨by rfl,?_⟩) hHeld ?_ ?_
     rotate_left
     ·rintro w' ⟨s0,s1,s2,s3,s4,s5⟩
      go_simp
      with_reducible rfl
     rotate_left
     ·simp only [Act.put,sa_,sb_,sc_,a_Y,a_0]
      rfl
     refine pt_ 23 (some 50) Z65_ HT_ ?_
     refine pt_ 24 (some 51) Z67_ HT_ ?_
     refine pt_ 25 (some 52) Z84_ HT_ ?_
     refine e_L (c_Z HT_.out (by kernel_rfl)) ?_
     try go_wp2
     go_roundg k2
     case measure => have:=HJ1.out;have:=HK2.out;omega
     case rel => exact ⟨(wrap64 (x22_2 + 1)),(by first|rfl|(simp;done)|(simp [*];done)),H',⟨by have:=HJ1.out;have:=HK2.out;omega⟩,⟨by (with_reducible repeat (first|refine a_e ?_ _|refine a_g ?_|refine a_d ?_ _));exact a_9.out⟩,⟨by repeat (first|(with_reducible first|exact HB.out|apply a_j|apply a_h|apply a_k|refine a_i ?_ c_3.out|refine a_i ?_ e_v.out)|exact HB.out)⟩⟩
end Go.Proofs.YtgglkfilkagblaaDoor.Q
end
section
namespace Go.Proofs.YtgglkfilkagblaaDoor.Q
open Go.RowKit Go.Proofs.YtgglkfilkagblaaDoorW.PrintWords Go.Proofs.YtgglkfilkagblaaDoorW.PrintLast Go.Proofs.YtgglkfilkagblaaDoorW.PrintMore
set_option linter.unusedVariables false
set_option linter.unusedSimpArgs false
def d_a.f (l0 : List (S24)) : Option ((List (S24))):=(some (([] : List (S24)) : List (S24))).bind fun y133 => (if y133.length + l0.length < 4398046511104 then (some (y133 ++ l0)) else (none))
set_option maxHeartbeats 8000000 in
set_option maxRecDepth 100000 in
theorem Kd.q_3 {α : Type} {d : Kd α} {w : World} {n : Nat} {xs : List α} (h : d.C w none n xs) : xs = []:=by
 cases xs with
 | nil => rfl
 | cons x xs =>
  obtain ⟨e,_,hp⟩:=h
  obtain ⟨a,ha,_⟩:=hp (by rw [← e];simp)
  cases ha
theorem d_a.calls (P0_ : Nat → Prop) (A0 : Option Addr) (c0 : Nat) (l0 : List (S24)) (r : List (S24)) (w : World) (hs0 : Kd.V k24 24 w w.heap.size (fun k_ => P0_ k_) (.slice A0 l0.length c0) l0) (h : d_a.f l0 = some r) :
 Calls Tryd.prog 30 #[.slice A0 l0.length c0] w fun e w' => ∃ v0_ : Value,e = .returned (v0_) ∧ Kd.N k24 24 w' w.heap.size (fun k_ => (P0_ k_ ∨ w.heap.size ≤ k_)) v0_ r ∧ Below w.heap.size w w':=by
 cases A0 with
 | none =>
  have hz_ : l0 = []:=Kd.q_3 (Kd.b_w hs0).2.2
  subst hz_
  obtain rfl : r = []:=by simp only [d_a.f] at h;first|exact (Option.some.inj h).symm|(simp at h;exact h.symm)|(simpa using h.symm)
  have hnil_ := @Lib.run_eql_slice_nil Tryd.prog
  go_enter Tryd.func30,Tryd.ntmps30
  go_wp2
  go_ret
  exact ⟨_,rfl,Kd.h_Y _ _ _ _ _,Below.refl _ _⟩
 | some ad0_ =>
  have hnil_ := @Lib.run_eql_slice_nil Tryd.prog
  have HO0:=a_f.mk (show Kd.V k24 24 w w.heap.size (fun k_ => (P0_ k_ ∨ w.heap.size ≤ k_)) (.slice (some ad0_) l0.length c0) l0 from Kd.c_X hs0 (fun k_ hk => .inl hk))
  have HB:=a_f.mk (Below.refl w.heap.size w)
  have H : ((some (([] : List (S24)) : List (S24))).bind fun y133 => (if y133.length + l0.length < 4398046511104 then (some (y133 ++ l0)) else (none))) = some r:=h
  clear h
  obtain ⟨y133,hy133⟩ : ∃ y_ : List (S24),y_ = (([] : List (S24))):=⟨_,rfl⟩
  replace H : (if y133.length + l0.length < 4398046511104 then (some (y133 ++ l0)) else (none)) = some r:=by first|(rw [hy133];with_reducible exact H)|(have H2_:=(Option.bind_some _ _).symm.trans H;rw [hy133];with_reducible exact H2_)|(have H2_:=(Option.bind_some _ _).symm.trans H;with_reducible exact H2_)|with_reducible exact H|(rw [hy133];exact H)|exact H
  have Ny133:=a_f.mk hy133
  clear hy133
  by_cases c2 : y133.length + l0.length < 4398046511104
  rotate_left
  ·rw [if_neg c2] at H
   exact absurd H (by simp)
  rw [if_pos c2] at H
  have LMc2:=a_f.mk c2
  clear c2
  obtain ⟨y136,hy136⟩ : ∃ y_ : List (S24),y_ = (y133 ++ l0):=⟨_,rfl⟩
  replace H : (some y136) = some r:=by first|(rw [hy136];with_reducible exact H)|(have H2_:=(Option.bind_some _ _).symm.trans H;rw [hy136];with_reducible exact H2_)|(have H2_:=(Option.bind_some _ _).symm.trans H;with_reducible exact H2_)|with_reducible exact H|(rw [hy136];exact H)|exact H
  have Ny136:=a_f.mk hy136
  clear hy136
  obtain rfl:=Option.some.inj H
  go_enter Tryd.func30,Tryd.ntmps30
  go_wp2_with (first|((with_reducible refine a_J (N:=5) rfl ?_);refine Kd.s_Q k24 _ 24 ?hg (N':=5) ?hd (xs:=([] : List (S24))) (inner:=[]) (ok:=(fun k_ => (P0_ k_ ∨ w.heap.size ≤ k_))) (okp:=(fun k_ => (P0_ k_ ∨ w.heap.size ≤ k_))) ?hr ?hp (fun _ hk => hk) ((show ∀ k_,w.heap.size ≤ k_ → (fun k_ => (P0_ k_ ∨ w.heap.size ≤ k_)) k_ from fun k_ hk => (.inr (Nat.le_trans (a_o (lup_ HB.out)) hk))) _ (Nat.le_refl _)) (Below.refl _ _) (Nat.le_refl _) (by simp) ?_;(case hd => rfl);(case hg => rfl);(case hr => first|(go_simp;done)|(go_simp;rfl));(case hp => exact (Reps.none _ _));intro v134 w3 ho4 hb hg_ hnew_;clear hg_ hnew_;(first|rw [← Ny133.out] at ho4|(simp only [Int.reduceToNat] at ho4;rw [← Ny133.out] at ho4));have q_8:=a_f.mk (Kd.h_X ho4 (a_o (lup_ HB.out)));replace HO0:=a_f.mk (Kd.f_u (by (with_reducible repeat (first|apply Kd.a_T|apply Kd.a_U|apply Kd.a_1));exact HO0.out) (Kd.k_o ho4) hb);replace HB:=a_f.mk (a_q (lup_ HB.out) hb);clear hb ho4)|((with_reducible refine f_Y (b:=.append) (xs:=#[.tmp 5,.tmp 6]) rfl ?_);at_builtin;refine Kd.g_0 k24 (w0:=w) w.heap.size rfl (.tmp 5) (.tmp 6) 35 24 (.agg #[(.int .i64 0),(.slice none 0 0)]) 32 rfl Tryd.underlying35 h_K rfl (by decide) (by omega) v134 y133 l0 _ _ _ (fun k_ => (P0_ k_ ∨ w.heap.size ≤ k_)) (fun k_ => ((fun k_ => (P0_ k_ ∨ w.heap.size ≤ k_))) k_ ∧ some k_ ≠ (v134 : Value).ownBlock) rfl rfl ?aO ?aR (fun _ hk => hk) ?aF ?aB ?aS ?aL ?_;(case aR => exact (by skip;exact Kd.V_F (Kd.c_X (ok':=(fun k_ => ((fun k_ => (P0_ k_ ∨ w.heap.size ≤ k_))) k_ ∧ some k_ ≠ (v134 : Value).ownBlock)) (HO0.out) (fun k_ hk => ⟨hk.1,hk.2⟩))));(case aB => exact (lup_ HB.out));(case aF => exact (fun k_ hk => (.inr (Nat.le_trans (a_o (lup_ HB.out)) hk))));(case aO => exact (by (with_reducible repeat (first|apply Kd.d_g|apply Kd.d_h|apply Kd.d_K));exact q_8.out));(case aS => exact (a_o (lup_ HB.out)));(case aL => have:=LMc2.out;omega);intro v137 w5 ho hb hg hat;rw [← Ny136.out] at ho;have s_L:=a_f.mk (ho);replace HO0:=a_f.mk (Kd.f_t (ok:=(fun k_ => (P0_ k_ ∨ w.heap.size ≤ k_))) (by (with_reducible repeat (first|apply Kd.a_T|apply Kd.a_U|apply Kd.a_1));exact HO0.out) hg hat);replace HB:=a_f.mk (hb);clear q_8 ho hb hg hat))
  go_ret
  exact ⟨_,by first|rfl|(simp [a_u,a_v] <;> rfl)|(simp [*, a_u,a_v] <;> rfl),by (with_reducible repeat (first|apply Kd.d_g|apply Kd.d_h|apply Kd.d_K));exact s_L.out,by repeat (first|(with_reducible first|exact HB.out|apply a_j|apply a_h|apply a_k)|exact HB.out)⟩
end Go.Proofs.YtgglkfilkagblaaDoor.Q
end
