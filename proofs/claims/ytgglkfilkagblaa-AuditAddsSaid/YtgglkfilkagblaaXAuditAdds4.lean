/- Part 5 of 14 of what the row of AuditAdds stands on: contracts over the given program's functions, the plain law, the row; no condition beyond those that each theorem states. -/
import Derived.Test.YtgglkfilkagblaaXAuditAdds3
section
namespace Go.Proofs.Ytgglkfilkagblaa.Q
open Go.RowKit Go.Proofs.YtgglkfilkagblaaW.PrintWords Go.Proofs.YtgglkfilkagblaaW.PrintLast Go.Proofs.YtgglkfilkagblaaW.PrintMore
set_option linter.unusedVariables false
set_option linter.unusedSimpArgs false
mutual
def a_A.j0 : Nat → Bool → List (S27) → Int → Option (Int)
 | 0,_,_,_ => none
 | k + 1,x18,x122000,x122001 => if x18 = true then (some 390) else (a_A.l0 k x122000 (x122000.length : Int) 0 x122000 x122001)
def a_A.l0 : Nat → List (S27) → Int → Int → List (S27) → Int → Option (Int)
 | 0,_,_,_,_,_ => none
 | k + 1,x20,x21,x22,x122000,x122001 => if x22 < x21 then (if 0 ≤ x22 then (if x22 < (x20.length : Int) then ((a_G.f k ((a_o x20 x22).f0) ((a_o x20 x22).f1)).bind fun t124 => (if t124 = true then (if ((a_o x20 x22).f0) > x122001 then (some 390) else (if x22 > 0 then (if 0 ≤ (wrap64 (x22 - 1)) then (if (wrap64 (x22 - 1)) < (x122000.length : Int) then (if ((a_o x122000 (wrap64 (x22 - 1))).f0) ≥ ((a_o x20 x22).f0) then (some 390) else (a_A.l0 k x20 x21 (wrap64 (x22 + 1)) x122000 x122001)) else (none)) else (none)) else (a_A.l0 k x20 x21 (wrap64 (x22 + 1)) x122000 x122001))) else (some 390))) else (none)) else (none)) else (some 0)
end
def a_A.f (k : Nat) (l0_0 : List (S27)) (a0_1 : Int) : Option (Int):=if (l0_0.length : Int) > 2000 then (a_A.j0 k true l0_0 a0_1) else (if a0_1 < 0 then (a_A.j0 k true l0_0 a0_1) else (a_A.j0 k (decide (a0_1 > 1125899906842624)) l0_0 a0_1))
theorem a_A.c_N : ∀ k,(∀ y0 y1 y2,LeO (a_A.j0 k y0 y1 y2) (a_A.j0 (k + 1) y0 y1 y2)) ∧ (∀ y0 y1 y2 y3 y4,LeO (a_A.l0 k y0 y1 y2 y3 y4) (a_A.l0 (k + 1) y0 y1 y2 y3 y4))
 | 0 => ⟨fun _ _ _ r h => by simp [a_A.j0] at h,fun _ _ _ _ _ r h => by simp [a_A.l0] at h⟩
 | k + 1 => by
  obtain ⟨ih0,ih1⟩:=a_A.c_N k
  refine ⟨?_,?_⟩
  ·intro y0 y1 y2
   unfold a_A.j0
   repeat' first
   | (with_reducible exact ih0 _ _ _)
   | (with_reducible exact ih1 _ _ _ _ _)
   | (with_reducible exact a_G.mono _ _ _)
   | (with_reducible exact LeO.refl _)
   | (with_reducible exact LeO.none _)
   | (with_reducible refine LeO.ite ?_ ?_)
   | (with_reducible refine LeO.bind ?_ (fun _ => ?_))
   | exact ih0 _ _ _
   | exact ih1 _ _ _ _ _
   | exact a_G.mono _ _ _
   | exact LeO.none _
   | refine LeO.ite ?_ ?_
   | refine LeO.bind ?_ (fun _ => ?_)
  ·intro y0 y1 y2 y3 y4
   unfold a_A.l0
   repeat' first
   | (with_reducible exact ih0 _ _ _)
   | (with_reducible exact ih1 _ _ _ _ _)
   | (with_reducible exact a_G.mono _ _ _)
   | (with_reducible exact LeO.refl _)
   | (with_reducible exact LeO.none _)
   | (with_reducible refine LeO.ite ?_ ?_)
   | (with_reducible refine LeO.bind ?_ (fun _ => ?_))
   | exact ih0 _ _ _
   | exact ih1 _ _ _ _ _
   | exact a_G.mono _ _ _
   | exact LeO.none _
   | refine LeO.ite ?_ ?_
   | refine LeO.bind ?_ (fun _ => ?_)
theorem a_A.mono : ∀ a0 a1 k,LeO (a_A.f k a0 a1) (a_A.f (k + 1) a0 a1):=by
 intro a0 a1 k
 obtain ⟨ih0,ih1⟩:=a_A.c_N k
 unfold a_A.f
 repeat' first
  | (with_reducible exact ih0 _ _ _)
  | (with_reducible exact ih1 _ _ _ _ _)
  | (with_reducible exact a_G.mono _ _ _)
  | (with_reducible exact LeO.refl _)
  | (with_reducible exact LeO.none _)
  | (with_reducible refine LeO.ite ?_ ?_)
  | (with_reducible refine LeO.bind ?_ (fun _ => ?_))
  | exact ih0 _ _ _
  | exact ih1 _ _ _ _ _
  | exact a_G.mono _ _ _
  | exact LeO.none _
  | refine LeO.ite ?_ ?_
  | refine LeO.bind ?_ (fun _ => ?_)
def a_A.T6 : Bool × List (List Nat × List Nat):=(true,[([],[]),([0],[0]),([1],[1]),([2,1],[2]),([3],[3]),([4,3],[3,4]),([3],[3]),([6,3],[3,6]),([5,7,3],[3,5,7]),([3,8],[3,8]),([9,3],[9]),([10],[10]),([11,10],[10,11]),([12,10,10],[10,12]),([13],[13]),([14,13],[13,14]),([13],[13]),([16,13],[13,16]),([15,17,13],[13,15,17]),([18,13],[13,18]),([19,13],[13,19]),([13],[13]),([21,13],[13,21]),([20,22,13],[13,20,22]),([13,23,10],[10,13,23]),([10,24],[10,24])])
def a_A.B6 : List Nat:=[0,1,3,7,15,31,15,79,255,511,1023,2047,4095,8191,16383,32767,16383,81919,262143,524287,1048575,16383,2113535,8388607,16777215,33554431]
theorem a_A.tab6 : rtab .any (opsOf Try.f14 6) = a_A.T6:=by kernel_rfl
theorem a_A.f_W : f_e a_A.T6.2 a_A.B6 = true:=by kernel_rfl
set_option maxHeartbeats 8000000 in
set_option maxRecDepth 100000 in
theorem a_A.calls (k : Nat) (A0_0 : Option Addr) (c0_0 : Nat) (l0_0 : List (S27)) (a0_1 : Int) (r : Int) (w : World) (hr0_0 : Kd.C k27 w A0_0 l0_0.length l0_0) (hc0_0 : l0_0.length ≤ c0_0) (h : a_A.f k l0_0 a0_1 = some r) :
 Calls Try.prog 14 #[.agg #[.slice A0_0 l0_0.length c0_0,.int .i64 a0_1]] w fun e w' => e = .returned (.int .i64 r) ∧ Below w.heap.size w w':=by
 have hu24:=Try.underlying24
 have hu27:=Try.underlying27
 have c_V:=a_e.mk hr0_0
 have f_w:=a_e.mk hc0_0
 clear hr0_0 hc0_0
 have HB:=a_e.mk (Below.refl w.heap.size w)
 have H : (if (l0_0.length : Int) > 2000 then (a_A.j0 k true l0_0 a0_1) else (if a0_1 < 0 then (a_A.j0 k true l0_0 a0_1) else (a_A.j0 k (decide (a0_1 > 1125899906842624)) l0_0 a0_1))) = some r:=h
 clear h
 have HC2:=a_e.mk H
 clear H
 go_enter Try.func14,Try.ntmps14
 go_upto_region 1 with (first|((with_reducible refine a_U (N:=1) rfl ?_);refine a_H ?hg (N:=1) ?hd (cs:=#[.slice A0_0 l0_0.length c0_0,.int .i64 a0_1]) (t:=24) ?hr ?_;(case hd => rfl);(case hg => rfl);(case hr => first|(go_simp;done)|(go_simp;rfl));intro e_u hg w3 hbox hb;have b_C:=a_e.mk (hbox);have O_j:=a_e.mk ((by rw [hg];exact (a_p (lup_ HB.out)) : w.heap.size ≤ e_u));have e_q:=a_e.mk ((by rw [hg];exact (a_p (lup_ HB.out)) : w.heap.size ≤ e_u));replace HB:=a_e.mk (a_t (lup_ HB.out) hb);clear hb hbox hg))
 (try simp only [Act.put,sa_,sb_,sc_])
 go_cut [18] (fun v18 wc => ∃ (kq : Nat) (x18_1 : Bool),v18 = .bool x18_1 ∧ a_e (a_A.j0 kq x18_1 l0_0 a0_1 = some r) ∧ a_e (kq ≤ k) ∧ a_e (wc.heap[e_u]? = some (.cells #[(.slice A0_0 l0_0.length c0_0),.int .i64 a0_1] 24 (0,0))) ∧ a_e (Below w.heap.size w wc))
 case first =>
  have H:=HC2.out
  clear HC2
  by_cases c4 : (l0_0.length : Int) > 2000
  ·rw [if_pos c4] at H
   have c4b0 : decide (2000 < (l0_0.length : Int)) = true:=decide_eq_true c4
   have c4b1 : decide (2000 < l0_0.length) = true:=decide_eq_true (by omega)
   clear c4
   (first|rw [c4b0]|(simp only [a_r,a_s];rw [c4b0])|skip)
   have H':=a_e.mk H
   clear H
   have f_Z : w3.cell? ⟨e_u,0,none⟩ = some (.slice A0_0 l0_0.length c0_0):=(a_a b_C.out 0).trans rfl
   have f_0 : w3.cell? ⟨e_u,1,none⟩ = some (.int .i64 a0_1):=(a_a b_C.out 1).trans rfl
   have f_1:=a_b b_C.out 0
   have f_2:=a_b b_C.out 1
   go_wp2
   go_meet
   case rel => exact ⟨_,(true),(by first|rfl|(simp;done)|(simp [*];done)),H',⟨by first|omega|exact Nat.le_refl _⟩,⟨by (with_reducible repeat (first|refine a_j ?_ _|refine a_k ?_|refine a_i ?_ _));exact b_C.out⟩,⟨by repeat (first|(with_reducible first|exact HB.out|apply a_g|apply a_f|apply a_h|refine a_d ?_ e_q.out)|exact HB.out)⟩⟩
  rw [if_neg c4] at H
  have c4b0 : decide (2000 < (l0_0.length : Int)) = false:=decide_eq_false c4
  have c4b1 : decide (2000 < l0_0.length) = false:=decide_eq_false (by omega)
  clear c4
  (first|rw [c4b0]|(simp only [a_r,a_s];rw [c4b0])|skip)
  by_cases c6 : a0_1 < 0
  ·rw [if_pos c6] at H
   have c6b0 : decide (a0_1 < 0) = true:=decide_eq_true c6
   clear c6
   have H':=a_e.mk H
   clear H
   have h_R : w3.cell? ⟨e_u,0,none⟩ = some (.slice A0_0 l0_0.length c0_0):=(a_a b_C.out 0).trans rfl
   have h_S : w3.cell? ⟨e_u,1,none⟩ = some (.int .i64 a0_1):=(a_a b_C.out 1).trans rfl
   have h_T:=a_b b_C.out 0
   have h_U:=a_b b_C.out 1
   go_wp2
   go_meet
   case rel => exact ⟨_,(true),(by first|rfl|(simp;done)|(simp [*];done)),H',⟨by first|omega|exact Nat.le_refl _⟩,⟨by (with_reducible repeat (first|refine a_j ?_ _|refine a_k ?_|refine a_i ?_ _));exact b_C.out⟩,⟨by repeat (first|(with_reducible first|exact HB.out|apply a_g|apply a_f|apply a_h|refine a_d ?_ e_q.out)|exact HB.out)⟩⟩
  rw [if_neg c6] at H
  have c6b0 : decide (a0_1 < 0) = false:=decide_eq_false c6
  clear c6
  have H':=a_e.mk H
  clear H
  have h_V : w3.cell? ⟨e_u,0,none⟩ = some (.slice A0_0 l0_0.length c0_0):=(a_a b_C.out 0).trans rfl
  have h_W : w3.cell? ⟨e_u,1,none⟩ = some (.int .i64 a0_1):=(a_a b_C.out 1).trans rfl
  have h_X:=a_b b_C.out 0
  have h_Y:=a_b b_C.out 1
  go_wp2
  go_meet
  case rel => exact ⟨_,(decide (a0_1 > 1125899906842624)),(by first|rfl|(simp;done)|(simp [*];done)),H',⟨by first|omega|exact Nat.le_refl _⟩,⟨by (with_reducible repeat (first|refine a_j ?_ _|refine a_k ?_|refine a_i ?_ _));exact b_C.out⟩,⟨by repeat (first|(with_reducible first|exact HB.out|apply a_g|apply a_f|apply a_h|refine a_d ?_ e_q.out)|exact HB.out)⟩⟩
 case rest =>
  clear HC2
  try clear c1
  try clear p2
  try clear c4
  try clear c4b0
  try clear c4b1
  try clear c6
  try clear c6b0
  try clear f_Z
  try clear f_0
  try clear h_R
  try clear h_S
  try clear h_V
  try clear h_W
  try clear f_1
  try clear f_2
  try clear h_T
  try clear h_U
  try clear h_X
  try clear h_Y
  obtain ⟨kq,x18_1,rfl,HA,HJ1,b_C,HB⟩:=hcut
  cases kq with
  | zero => exact absurd HA.out (by simp [a_A.j0])
  | succ kj1 =>
   have H:=HA.out
   clear HA
   simp only [a_A.j0] at H
   by_cases c9 : x18_1 = true
   ·subst c9
    have H1 : (some 390) = some r:=by rw [if_pos rfl] at H;exact H
    clear H
    have H:=H1
    clear H1
    obtain rfl:=Option.some.inj H
    go_wp2
    go_ret
    exact ⟨by first|rfl|(simp [a_w,a_x] <;> rfl)|(simp [*, a_w,a_x] <;> rfl),by repeat (first|(with_reducible first|exact HB.out|apply a_g|apply a_f|apply a_h|refine a_d ?_ e_q.out)|exact HB.out)⟩
   replace c9:=Bool.eq_false_iff.mpr c9
   subst c9
   have H1 : (a_A.l0 kj1 l0_0 (l0_0.length : Int) 0 l0_0 a0_1) = some r:=by rw [if_neg (show ¬ (false = true) by decide)] at H;exact H
   clear H
   have H:=H1
   clear H1
   have H':=a_e.mk H
   clear H
   have i_s : wc.cell? ⟨e_u,0,none⟩ = some (.slice A0_0 l0_0.length c0_0):=(a_a b_C.out 0).trans rfl
   have i_t : wc.cell? ⟨e_u,1,none⟩ = some (.int .i64 a0_1):=(a_a b_C.out 1).trans rfl
   have i_u:=a_b b_C.out 0
   have i_v:=a_b b_C.out 1
   go_wp2
   go_loopg [22] kj1 (fun kq v22 w' => ∃ (x22_2 : Int),v22 = .int .i64 x22_2 ∧ a_e (a_A.l0 kq l0_0 (l0_0.length : Int) x22_2 l0_0 a0_1 = some r) ∧ a_e (kq ≤ kj1) ∧ a_e (w'.heap[e_u]? = some (.cells #[(.slice A0_0 l0_0.length c0_0),.int .i64 a0_1] 24 (0,0))) ∧ a_e (Below w.heap.size w w'))
   case atStart => exact ⟨(0),(by first|rfl|(simp;done)|(simp [*];done)),H',⟨Nat.le_refl _⟩,⟨by (with_reducible repeat (first|refine a_j ?_ _|refine a_k ?_|refine a_i ?_ _));exact b_C.out⟩,⟨by repeat (first|(with_reducible first|exact HB.out|apply a_g|apply a_f|apply a_h|refine a_d ?_ e_q.out)|exact HB.out)⟩⟩
   case round =>
    clear H'
    try clear c1
    try clear p2
    try clear c4
    try clear c4b0
    try clear c4b1
    try clear c6
    try clear c6b0
    try clear c9
    try clear i_s
    try clear i_t
    try clear f_Z
    try clear f_0
    try clear h_R
    try clear h_S
    try clear h_V
    try clear h_W
    try clear i_u
    try clear i_v
    try clear f_1
    try clear f_2
    try clear h_T
    try clear h_U
    try clear h_X
    try clear h_Y
    try clear p2
    obtain ⟨x22_2,rfl,HA,HK2,b_C,HB⟩:=hrel
    cases gk with
    | zero => exact absurd HA.out (by simp [a_A.l0])
    | succ k2 =>
     have H:=HA.out
     clear HA
     simp only [a_A.l0] at H
     by_cases c11 : x22_2 < (l0_0.length : Int)
     rotate_left
     ·rw [if_neg c11] at H
      have c11b0 : decide (x22_2 < (l0_0.length : Int)) = false:=decide_eq_false c11
      clear c11
      obtain rfl:=Option.some.inj H
      go_wp2
      go_ret
      exact ⟨by first|rfl|(simp [a_w,a_x] <;> rfl)|(simp [*, a_w,a_x] <;> rfl),by repeat (first|(with_reducible first|exact HB.out|apply a_g|apply a_f|apply a_h|refine a_d ?_ e_q.out)|exact HB.out)⟩
     rw [if_pos c11] at H
     have c11b0 : decide (x22_2 < (l0_0.length : Int)) = true:=decide_eq_true c11
     clear c11
     by_cases c12 : 0 ≤ x22_2
     rotate_left
     ·rw [if_neg c12] at H
      exact absurd H (by simp)
     rw [if_pos c12] at H
     have c12b0 : decide (0 ≤ x22_2) = true:=decide_eq_true c12
     clear c12
     by_cases c13 : x22_2 < (l0_0.length : Int)
     rotate_left
     ·rw [if_neg c13] at H
      exact absurd H (by simp)
     rw [if_pos c13] at H
     have c13b0 : decide (x22_2 < (l0_0.length : Int)) = true:=decide_eq_true c13
     clear c13
     replace H:=Option.bind_eq_some_iff.mp H
     obtain ⟨t124,A140,H⟩:=H
     replace H : (if t124 = true then (if ((a_o l0_0 x22_2).f0) > a0_1 then (some 390) else (if x22_2 > 0 then (if 0 ≤ (wrap64 (x22_2 - 1)) then (if (wrap64 (x22_2 - 1)) < (l0_0.length : Int) then (if ((a_o l0_0 (wrap64 (x22_2 - 1))).f0) ≥ ((a_o l0_0 x22_2).f0) then (some 390) else (a_A.l0 k2 l0_0 (l0_0.length : Int) (wrap64 (x22_2 + 1)) l0_0 a0_1)) else (none)) else (none)) else (a_A.l0 k2 l0_0 (l0_0.length : Int) (wrap64 (x22_2 + 1)) l0_0 a0_1))) else (some 390)) = some r:=H
     have A14:=a_e.mk A140
     clear A140
     by_cases c15 : t124 = true
     rotate_left
     ·replace c15:=Bool.eq_false_iff.mpr c15
      subst c15
      have H1 : (some 390) = some r:=by rw [if_neg (show ¬ (false = true) by decide)] at H;exact H
      clear H
      have H:=H1
      clear H1
      obtain rfl:=Option.some.inj H
      have p122 : 0 ≤ (x22_2 : Int):=of_decide_eq_true (by first|(with_reducible assumption)|assumption)
      have q122 : x22_2 < (l0_0.length : Int):=of_decide_eq_true (by first|(with_reducible assumption)|assumption)
      obtain ⟨ad122,A122_1,c122_1,e122,d_1,d_2,e_V,e_W⟩:=c_t c_V.out x22_2 p122 q122
      cases e122
      replace d_1:=(HB.out.cell (World.block_lt_of_cell? w _ d_1)).trans d_1
      replace d_2:=(HB.out.cell (World.block_lt_of_cell? w _ d_2)).trans d_2
      have g_k:=a_e.mk e_W
      have g_l:=a_e.mk e_V
      clear e_W e_V
      replace p122:=eq_true p122
      replace q122:=eq_true q122
      try go_wp2_with (first|((with_reducible refine a_U (N:=4) rfl ?_);refine a_H ?hg (N:=4) ?hd (cs:=#[.int .i64 0,.slice none 0 0]) (t:=27) ?hr ?_;(case hd => rfl);(case hg => rfl);(case hr => first|(go_simp;done)|(go_simp;rfl));intro b_R hg w46 hbox hb;have b_Y:=a_e.mk (hbox);have r_t:=a_e.mk ((by rw [hg];exact (a_p (by repeat (first|(with_reducible first|exact HB.out|apply a_g|apply a_f|apply a_h|refine a_d ?_ e_q.out)|exact HB.out))) : w.heap.size ≤ b_R));have g_m:=a_e.mk ((by rw [hg];exact (a_p (by repeat (first|(with_reducible first|exact HB.out|apply a_g|apply a_f|apply a_h|refine a_d ?_ e_q.out)|exact HB.out))) : w.heap.size ≤ b_R));have c_H:=a_e.mk ((by rw [hg];exact Nat.ne_of_lt (a_N (bup_ b_C.out)) : e_u ≠ b_R));have e_X:=a_e.mk ((by rw [hg];exact Nat.ne_of_gt (a_N (bup_ b_C.out)) : b_R ≠ e_u));replace b_C:=a_e.mk (a_l (bup_ b_C.out) hb);replace HB:=a_e.mk (a_t (by repeat (first|(with_reducible first|exact HB.out|apply a_g|apply a_f|apply a_h|refine a_d ?_ e_q.out)|exact HB.out)) hb);clear hb hbox hg;have A_3:=e_X.out;have A_4:=c_H.out;have s_8 : w46.cell? ⟨b_R,0,none⟩ = some (.int .i64 0):=(a_a b_Y.out 0).trans rfl;have s_9 : w46.cell? ⟨b_R,1,none⟩ = some (.slice none 0 0):=(a_a b_Y.out 1).trans rfl;have t_a:=a_b b_Y.out 0;have t_b:=a_b b_Y.out 1))
      have n0_ : a_e (((w46.setCell ⟨b_R,0,none⟩ (.int .i64 ((a_o l0_0 x22_2).f0))).setCell ⟨b_R,1,none⟩ (.slice A122_1 ((a_o l0_0 x22_2).f1).length c122_1)).heap[e_u]? = some (.cells #[.slice (some ad122) l0_0.length c0_0,.int .i64 a0_1] 24 (0,0))):=⟨by (with_reducible repeat (first|refine a_j ?_ _|refine a_k ?_|refine a_i ?_ _));refine a_B ?_ c_H.out _;(with_reducible repeat (first|refine a_j ?_ _|refine a_k ?_|refine a_i ?_ _));refine a_B ?_ c_H.out _;(with_reducible repeat (first|refine a_j ?_ _|refine a_k ?_|refine a_i ?_ _));exact b_C.out⟩
      have n1_ : a_e (((w46.setCell ⟨b_R,0,none⟩ (.int .i64 ((a_o l0_0 x22_2).f0))).setCell ⟨b_R,1,none⟩ (.slice A122_1 ((a_o l0_0 x22_2).f1).length c122_1)).heap[b_R]? = some (.cells #[.int .i64 ((a_o l0_0 x22_2).f0),.slice A122_1 ((a_o l0_0 x22_2).f1).length c122_1] 27 (0,0))):=⟨by (with_reducible repeat (first|refine a_j ?_ _|refine a_k ?_|refine a_i ?_ _));refine a_J (cs:=#[.int .i64 ((a_o l0_0 x22_2).f0),.slice none 0 0]) ?_ 1 _ rfl;(with_reducible repeat (first|refine a_j ?_ _|refine a_k ?_|refine a_i ?_ _));refine a_J (cs:=#[.int .i64 0,.slice none 0 0]) ?_ 0 _ rfl;(with_reducible repeat (first|refine a_j ?_ _|refine a_k ?_|refine a_i ?_ _));exact b_Y.out⟩
      have n2_ : a_e (Below w.heap.size w ((w46.setCell ⟨b_R,0,none⟩ (.int .i64 ((a_o l0_0 x22_2).f0))).setCell ⟨b_R,1,none⟩ (.slice A122_1 ((a_o l0_0 x22_2).f1).length c122_1))):=⟨by repeat (first|(with_reducible first|exact HB.out|apply a_g|apply a_f|apply a_h|refine a_d ?_ e_q.out|refine a_d ?_ g_m.out)|exact HB.out)⟩
      (try clear b_C)
      (try clear b_Y)
      (try clear HB)
      generalize ((w46.setCell ⟨b_R,0,none⟩ (.int .i64 ((a_o l0_0 x22_2).f0))).setCell ⟨b_R,1,none⟩ (.slice A122_1 ((a_o l0_0 x22_2).f1).length c122_1)) = w49 at n0_ n1_ n2_ ⊢
      have b_C:=n0_
      have b_Y:=n1_
      have HB:=n2_
      clear n0_ n1_ n2_
      replace b_C:=a_e.mk (a_k b_C.out)
      replace b_Y:=a_e.mk (a_k b_Y.out)
      replace HB:=a_e.mk (a_h HB.out)
      refine d_H (n:=26) (S:=fun w' => w'.cell? ⟨b_R,0,none⟩ = some (.int .i64 ((a_o l0_0 x22_2).f0)) ∧ w'.cell? ⟨b_R,1,none⟩ = some (.slice A122_1 ((a_o l0_0 x22_2).f1).length c122_1)) (ds:=[]) Z2_ (by kernel_rfl) rfl rfl ⟨(a_a b_Y.out 0).trans rfl,(a_a b_Y.out 1).trans rfl⟩ (fun hHeld => ?_);refine b_Q a_A.tab6 a_A.f_W (fun HT_ HW_ => ?_)
      generalize w49.drew = w50 at b_C b_Y HB hHeld ⊢
      refine b_m (i:=0) (N:=some 27) (v:=?_) (a':=?_) Z8_ rfl rfl (a_L HT_.out HW_.out (by kernel_rfl)) (fun _ _ _ h => h) (Or.inl ⟨by rfl,?_⟩) hHeld ?_ ?_
      rotate_left
      ·rintro w' ⟨s0,s1⟩
       go_simp
       with_reducible rfl
      rotate_left
      ·simp only [Act.put,sa_,sb_,sc_,a_r,a_s]
       rfl
      refine one_ (i:=1) (N:=some 28) Z15_ rfl rfl (c_e HT_.out (by kernel_rfl)) (by decide) (fun K hK => ?_)
      refine e_I Try.func24 (by kernel_rfl) rfl #[.agg #[.int .i64 ((a_o l0_0 x22_2).f0),.slice A122_1 ((a_o l0_0 x22_2).f1).length c122_1]] (by rfl) rfl rfl (by (try simp only [List.map_toArray,List.map_cons,List.map_nil]);first|done|rfl|(simp only [List.length_drop,List.length_take];rfl)) ?_
      with_reducible refine (a_G.calls k2 ((a_o l0_0 x22_2).f0) _ _ ((a_o l0_0 x22_2).f1) false _ ?side1 ?side2 A14.out).mono ?_
      (case side1 => repeat (first|exact (Kd.b_f g_k.out HB.out)|(with_reducible refine Kd.a_9 ?_ _)|(with_reducible refine Kd.a_8 ?_ _)|(with_reducible refine Kd.b_i ?_)))
      (case side2 => exact g_l.out)
      rintro e w51 ⟨rfl,hb⟩
      refine ⟨_,rfl,?_⟩
      replace b_C:=a_e.mk (a_l (bup_ b_C.out) hb)
      replace b_Y:=a_e.mk (a_l (bup_ b_Y.out) hb)
      replace HB:=a_e.mk (a_t (by repeat (first|(with_reducible first|exact HB.out|apply a_g|apply a_f|apply a_h|refine a_d ?_ e_q.out|refine a_d ?_ g_m.out)|exact HB.out)) hb)
      (try clear hb)
      (try clear hb2)
      (try clear hk)
      (try clear hi)
      refine hK.out _ _ ⟨(a_a b_Y.out 0).trans rfl,(a_a b_Y.out 1).trans rfl⟩ (fun hHeld => ?_)
      clear hK K
      refine d_U (a':=?_) ?_ ?_
      rotate_left
      ·show Act.put _ (some 28) _ = _
       simp only [Act.put,sa_,sb_,sc_,a_r,a_s]
       rfl
      refine a_y (i:=2) (N:=some 29) (v:=?_) (a':=?_) Z21_ rfl rfl (a_n HT_.out (by kernel_rfl)) (fun _ _ _ h => h) (Or.inl ⟨by rfl,?_⟩) ?_ ?_
      rotate_left
      ·intro w'
       go_simp
       with_reducible rfl
      rotate_left
      ·simp only [Act.put,sa_,sb_,sc_,a_r,a_s]
       rfl
      refine a_y (i:=3) (N:=some 30) (v:=?_) (a':=?_) Z26_ rfl rfl (a_n HT_.out (by kernel_rfl)) (fun _ _ _ h => h) (Or.inl ⟨by rfl,?_⟩) ?_ ?_
      rotate_left
      ·intro w'
       go_simp
       with_reducible rfl
      rotate_left
      ·simp only [Act.put,sa_,sb_,sc_,a_r,a_s]
       rfl
      refine a_y (i:=4) (N:=some 31) (v:=undef) (a':=?_) Z30_ rfl rfl (a_n HT_.out (by kernel_rfl)) (fun _ _ _ h => h) (Or.inr ⟨by rfl,rfl⟩) ?_ ?_
      rotate_left
      ·simp only [Act.put,sa_,sb_,sc_,a_r,a_s]
       rfl
      refine a_y (i:=5) (N:=some 32) (v:=undef) (a':=?_) #[T_,T_,T_,T_,T_,T_,F_,F_,F_,F_,F_,F_,F_,F_,F_,F_,F_,F_,F_,F_,F_,F_,F_,F_,F_,F_] rfl rfl (a_n HT_.out (by kernel_rfl)) (fun _ _ _ h => h) (Or.inr ⟨by rfl,rfl⟩) ?_ ?_
      rotate_left
      ·simp only [Act.put,sa_,sb_,sc_,a_r,a_s]
       rfl
      refine a_y (i:=6) (N:=some 33) (v:=undef) (a':=?_) Z39_ rfl rfl (a_n HT_.out (by kernel_rfl)) (fun _ _ _ h => h) (Or.inr ⟨by rfl,rfl⟩) ?_ ?_
      rotate_left
      ·simp only [Act.put,sa_,sb_,sc_,a_r,a_s]
       rfl
      refine a_y (i:=7) (N:=some 34) (v:=undef) (a':=?_) Z45_ rfl rfl (a_n HT_.out (by kernel_rfl)) (fun _ _ _ h => h) (Or.inr ⟨by rfl,rfl⟩) ?_ ?_
      rotate_left
      ·simp only [Act.put,sa_,sb_,sc_,a_r,a_s]
       rfl
      refine a_y (i:=8) (N:=some 35) (v:=undef) (a':=?_) Z54_ rfl rfl (a_n HT_.out (by kernel_rfl)) (fun _ _ _ h => h) (Or.inr ⟨by rfl,rfl⟩) ?_ ?_
      rotate_left
      ·simp only [Act.put,sa_,sb_,sc_,a_r,a_s]
       rfl
      refine a_y (i:=9) (N:=some 36) (v:=?_) (a':=?_) Z59_ rfl rfl (a_n HT_.out (by kernel_rfl)) (fun _ _ _ h => h) (Or.inl ⟨by rfl,?_⟩) ?_ ?_
      rotate_left
      ·intro w'
       go_simp
       with_reducible rfl
      rotate_left
      ·simp only [Act.put,sa_,sb_,sc_,a_r,a_s]
       rfl
      refine a_y (i:=10) (N:=some 37) (v:=?_) (a':=?_) Z63_ rfl rfl (a_n HT_.out (by kernel_rfl)) (fun _ _ _ h => h) (Or.inl ⟨by rfl,?_⟩) ?_ ?_
      rotate_left
      ·intro w'
       go_simp
       with_reducible rfl
      rotate_left
      ·simp only [Act.put,sa_,sb_,sc_,a_r,a_s]
       rfl
      refine a_y (i:=11) (N:=some 38) (v:=undef) (a':=?_) Z69_ rfl rfl (a_n HT_.out (by kernel_rfl)) (fun _ _ _ h => h) (Or.inr ⟨by rfl,rfl⟩) ?_ ?_
      rotate_left
      ·simp only [Act.put,sa_,sb_,sc_,a_r,a_s]
       rfl
      refine a_y (i:=12) (N:=some 39) (v:=undef) (a':=?_) Z75_ rfl rfl (a_n HT_.out (by kernel_rfl)) (fun _ _ _ h => h) (Or.inr ⟨by rfl,rfl⟩) ?_ ?_
      rotate_left
      ·simp only [Act.put,sa_,sb_,sc_,a_r,a_s]
       rfl
      refine a_y (i:=13) (N:=some 40) (v:=undef) (a':=?_) Z80_ rfl rfl (a_n HT_.out (by kernel_rfl)) (fun _ _ _ h => h) (Or.inr ⟨by rfl,rfl⟩) ?_ ?_
      rotate_left
      ·simp only [Act.put,sa_,sb_,sc_,a_r,a_s]
       rfl
      refine a_y (i:=14) (N:=some 41) (v:=undef) (a':=?_) Z84_ rfl rfl (a_n HT_.out (by kernel_rfl)) (fun _ _ _ h => h) (Or.inr ⟨by rfl,rfl⟩) ?_ ?_
      rotate_left
      ·simp only [Act.put,sa_,sb_,sc_,a_r,a_s]
       rfl
      refine a_y (i:=15) (N:=some 42) (v:=undef) (a':=?_) Z91_ rfl rfl (a_n HT_.out (by kernel_rfl)) (fun _ _ _ h => h) (Or.inr ⟨by rfl,rfl⟩) ?_ ?_
      rotate_left
      ·simp only [Act.put,sa_,sb_,sc_,a_r,a_s]
       rfl
      refine a_y (i:=16) (N:=some 43) (v:=undef) (a':=?_) Z95_ rfl rfl (a_n HT_.out (by kernel_rfl)) (fun _ _ _ h => h) (Or.inr ⟨by rfl,rfl⟩) ?_ ?_
      rotate_left
      ·simp only [Act.put,sa_,sb_,sc_,a_r,a_s]
       rfl
      refine a_y (i:=17) (N:=some 44) (v:=undef) (a':=?_) Z99_ rfl rfl (a_n HT_.out (by kernel_rfl)) (fun _ _ _ h => h) (Or.inr ⟨by rfl,rfl⟩) ?_ ?_
      rotate_left
      ·simp only [Act.put,sa_,sb_,sc_,a_r,a_s]
       rfl
      refine a_y (i:=18) (N:=some 45) (v:=undef) (a':=?_) s_s rfl rfl (a_n HT_.out (by kernel_rfl)) (fun _ _ _ h => h) (Or.inr ⟨by rfl,rfl⟩) ?_ ?_
      rotate_left
      ·simp only [Act.put,sa_,sb_,sc_,a_r,a_s]
       rfl
      refine a_y (i:=19) (N:=some 46) (v:=undef) (a':=?_) r_3 rfl rfl (a_n HT_.out (by kernel_rfl)) (fun _ _ _ h => h) (Or.inr ⟨by rfl,rfl⟩) ?_ ?_
      rotate_left
      ·simp only [Act.put,sa_,sb_,sc_,a_r,a_s]
       rfl
      refine a_y (i:=20) (N:=some 47) (v:=undef) (a':=?_) r_9 rfl rfl (a_n HT_.out (by kernel_rfl)) (fun _ _ _ h => h) (Or.inr ⟨by rfl,rfl⟩) ?_ ?_
      rotate_left
      ·simp only [Act.put,sa_,sb_,sc_,a_r,a_s]
       rfl
      refine a_y (i:=21) (N:=some 48) (v:=undef) (a':=?_) o_W rfl rfl (a_n HT_.out (by kernel_rfl)) (fun _ _ _ h => h) (Or.inr ⟨by rfl,rfl⟩) ?_ ?_
      rotate_left
      ·simp only [Act.put,sa_,sb_,sc_,a_r,a_s]
       rfl
      refine a_y (i:=22) (N:=some 49) (v:=undef) (a':=?_) o_7 rfl rfl (a_n HT_.out (by kernel_rfl)) (fun _ _ _ h => h) (Or.inr ⟨by rfl,rfl⟩) ?_ ?_
      rotate_left
      ·simp only [Act.put,sa_,sb_,sc_,a_r,a_s]
       rfl
      refine a_y (i:=23) (N:=some 50) (v:=undef) (a':=?_) o_U rfl rfl (a_n HT_.out (by kernel_rfl)) (fun _ _ _ h => h) (Or.inr ⟨by rfl,rfl⟩) ?_ ?_
      rotate_left
      ·simp only [Act.put,sa_,sb_,sc_,a_r,a_s]
       rfl
      refine a_y (i:=24) (N:=some 51) (v:=undef) (a':=?_) o_h rfl rfl (a_n HT_.out (by kernel_rfl)) (fun _ _ _ h => h) (Or.inr ⟨by rfl,rfl⟩) ?_ ?_
      rotate_left
      ·simp only [Act.put,sa_,sb_,sc_,a_r,a_s]
       rfl
      refine a_y (i:=25) (N:=some 52) (v:=?_) (a':=?_) o_X rfl rfl (a_n HT_.out (by kernel_rfl)) (fun _ _ _ h => h) (Or.inl ⟨by rfl,?_⟩) ?_ ?_
      rotate_left
      ·intro w'
       go_simp
       with_reducible rfl
      rotate_left
      ·simp only [Act.put,sa_,sb_,sc_,a_r,a_s]
       rfl
      refine e_T (c_u HT_.out (by kernel_rfl)) ?_
      try go_wp2
      go_ret
      exact ⟨by first|rfl|(simp [a_w,a_x] <;> rfl)|(simp [*, a_w,a_x] <;> rfl),by repeat (first|(with_reducible first|exact HB.out|apply a_g|apply a_f|apply a_h|refine a_d ?_ e_q.out|refine a_d ?_ g_m.out)|exact HB.out)⟩
     subst c15
     have H1 : (if ((a_o l0_0 x22_2).f0) > a0_1 then (some 390) else (if x22_2 > 0 then (if 0 ≤ (wrap64 (x22_2 - 1)) then (if (wrap64 (x22_2 - 1)) < (l0_0.length : Int) then (if ((a_o l0_0 (wrap64 (x22_2 - 1))).f0) ≥ ((a_o l0_0 x22_2).f0) then (some 390) else (a_A.l0 k2 l0_0 (l0_0.length : Int) (wrap64 (x22_2 + 1)) l0_0 a0_1)) else (none)) else (none)) else (a_A.l0 k2 l0_0 (l0_0.length : Int) (wrap64 (x22_2 + 1)) l0_0 a0_1))) = some r:=by rw [if_pos rfl] at H;exact H
     clear H
     have H:=H1
     clear H1
     by_cases c16 : ((a_o l0_0 x22_2).f0) > a0_1
     ·rw [if_pos c16] at H
      have c16b0 : decide (a0_1 < ((a_o l0_0 x22_2).f0)) = true:=decide_eq_true c16
      clear c16
      obtain rfl:=Option.some.inj H
      have p122 : 0 ≤ (x22_2 : Int):=of_decide_eq_true (by first|(with_reducible assumption)|assumption)
      have q122 : x22_2 < (l0_0.length : Int):=of_decide_eq_true (by first|(with_reducible assumption)|assumption)
      obtain ⟨ad122,A122_1,c122_1,e122,d_1,d_2,e_V,e_W⟩:=c_t c_V.out x22_2 p122 q122
      cases e122
      replace d_1:=(HB.out.cell (World.block_lt_of_cell? w _ d_1)).trans d_1
      replace d_2:=(HB.out.cell (World.block_lt_of_cell? w _ d_2)).trans d_2
      have g_k:=a_e.mk e_W
      have g_l:=a_e.mk e_V
      clear e_W e_V
      replace p122:=eq_true p122
      replace q122:=eq_true q122
      try go_wp2_with (first|((with_reducible refine a_U (N:=4) rfl ?_);refine a_H ?hg (N:=4) ?hd (cs:=#[.int .i64 0,.slice none 0 0]) (t:=27) ?hr ?_;(case hd => rfl);(case hg => rfl);(case hr => first|(go_simp;done)|(go_simp;rfl));intro b_R hg w17 hbox hb;have b_Y:=a_e.mk (hbox);have r_t:=a_e.mk ((by rw [hg];exact (a_p (by repeat (first|(with_reducible first|exact HB.out|apply a_g|apply a_f|apply a_h|refine a_d ?_ e_q.out)|exact HB.out))) : w.heap.size ≤ b_R));have g_m:=a_e.mk ((by rw [hg];exact (a_p (by repeat (first|(with_reducible first|exact HB.out|apply a_g|apply a_f|apply a_h|refine a_d ?_ e_q.out)|exact HB.out))) : w.heap.size ≤ b_R));have c_H:=a_e.mk ((by rw [hg];exact Nat.ne_of_lt (a_N (bup_ b_C.out)) : e_u ≠ b_R));have e_X:=a_e.mk ((by rw [hg];exact Nat.ne_of_gt (a_N (bup_ b_C.out)) : b_R ≠ e_u));replace b_C:=a_e.mk (a_l (bup_ b_C.out) hb);replace HB:=a_e.mk (a_t (by repeat (first|(with_reducible first|exact HB.out|apply a_g|apply a_f|apply a_h|refine a_d ?_ e_q.out)|exact HB.out)) hb);clear hb hbox hg;have w_j:=e_X.out;have w_k:=c_H.out;have h_h : w17.cell? ⟨b_R,0,none⟩ = some (.int .i64 0):=(a_a b_Y.out 0).trans rfl;have h_i : w17.cell? ⟨b_R,1,none⟩ = some (.slice none 0 0):=(a_a b_Y.out 1).trans rfl;have h_j:=a_b b_Y.out 0;have h_k:=a_b b_Y.out 1))
      have n0_ : a_e (((w17.setCell ⟨b_R,0,none⟩ (.int .i64 ((a_o l0_0 x22_2).f0))).setCell ⟨b_R,1,none⟩ (.slice A122_1 ((a_o l0_0 x22_2).f1).length c122_1)).heap[e_u]? = some (.cells #[.slice (some ad122) l0_0.length c0_0,.int .i64 a0_1] 24 (0,0))):=⟨by (with_reducible repeat (first|refine a_j ?_ _|refine a_k ?_|refine a_i ?_ _));refine a_B ?_ c_H.out _;(with_reducible repeat (first|refine a_j ?_ _|refine a_k ?_|refine a_i ?_ _));refine a_B ?_ c_H.out _;(with_reducible repeat (first|refine a_j ?_ _|refine a_k ?_|refine a_i ?_ _));exact b_C.out⟩
      have n1_ : a_e (((w17.setCell ⟨b_R,0,none⟩ (.int .i64 ((a_o l0_0 x22_2).f0))).setCell ⟨b_R,1,none⟩ (.slice A122_1 ((a_o l0_0 x22_2).f1).length c122_1)).heap[b_R]? = some (.cells #[.int .i64 ((a_o l0_0 x22_2).f0),.slice A122_1 ((a_o l0_0 x22_2).f1).length c122_1] 27 (0,0))):=⟨by (with_reducible repeat (first|refine a_j ?_ _|refine a_k ?_|refine a_i ?_ _));refine a_J (cs:=#[.int .i64 ((a_o l0_0 x22_2).f0),.slice none 0 0]) ?_ 1 _ rfl;(with_reducible repeat (first|refine a_j ?_ _|refine a_k ?_|refine a_i ?_ _));refine a_J (cs:=#[.int .i64 0,.slice none 0 0]) ?_ 0 _ rfl;(with_reducible repeat (first|refine a_j ?_ _|refine a_k ?_|refine a_i ?_ _));exact b_Y.out⟩
      have n2_ : a_e (Below w.heap.size w ((w17.setCell ⟨b_R,0,none⟩ (.int .i64 ((a_o l0_0 x22_2).f0))).setCell ⟨b_R,1,none⟩ (.slice A122_1 ((a_o l0_0 x22_2).f1).length c122_1))):=⟨by repeat (first|(with_reducible first|exact HB.out|apply a_g|apply a_f|apply a_h|refine a_d ?_ e_q.out|refine a_d ?_ g_m.out)|exact HB.out)⟩
      (try clear b_C)
      (try clear b_Y)
      (try clear HB)
      generalize ((w17.setCell ⟨b_R,0,none⟩ (.int .i64 ((a_o l0_0 x22_2).f0))).setCell ⟨b_R,1,none⟩ (.slice A122_1 ((a_o l0_0 x22_2).f1).length c122_1)) = w20 at n0_ n1_ n2_ ⊢
      have b_C:=n0_
      have b_Y:=n1_
      have HB:=n2_
      clear n0_ n1_ n2_
      replace b_C:=a_e.mk (a_k b_C.out)
      replace b_Y:=a_e.mk (a_k b_Y.out)
      replace HB:=a_e.mk (a_h HB.out)
      refine d_H (n:=26) (S:=fun w' => w'.cell? ⟨b_R,0,none⟩ = some (.int .i64 ((a_o l0_0 x22_2).f0)) ∧ w'.cell? ⟨b_R,1,none⟩ = some (.slice A122_1 ((a_o l0_0 x22_2).f1).length c122_1) ∧ w'.cell? ⟨e_u,0,none⟩ = some (.slice (some ad122) l0_0.length c0_0) ∧ w'.cell? ⟨e_u,1,none⟩ = some (.int .i64 a0_1)) (ds:=[]) Z2_ (by kernel_rfl) rfl rfl ⟨(a_a b_Y.out 0).trans rfl,(a_a b_Y.out 1).trans rfl,(a_a b_C.out 0).trans rfl,(a_a b_C.out 1).trans rfl⟩ (fun hHeld => ?_);refine b_Q a_A.tab6 a_A.f_W (fun HT_ HW_ => ?_)
      generalize w20.drew = w21 at b_C b_Y HB hHeld ⊢
      refine b_m (i:=0) (N:=some 27) (v:=?_) (a':=?_) Z8_ rfl rfl (a_L HT_.out HW_.out (by kernel_rfl)) (fun _ _ _ h => h) (Or.inl ⟨by rfl,?_⟩) hHeld ?_ ?_
      rotate_left
      ·rintro w' ⟨s0,s1,s2,s3⟩
       go_simp
       with_reducible rfl
      rotate_left
      ·simp only [Act.put,sa_,sb_,sc_,a_r,a_s]
       rfl
      refine one_ (i:=1) (N:=some 28) Z15_ rfl rfl (c_e HT_.out (by kernel_rfl)) (by decide) (fun K hK => ?_)
      refine e_I Try.func24 (by kernel_rfl) rfl #[.agg #[.int .i64 ((a_o l0_0 x22_2).f0),.slice A122_1 ((a_o l0_0 x22_2).f1).length c122_1]] (by rfl) rfl rfl (by (try simp only [List.map_toArray,List.map_cons,List.map_nil]);first|done|rfl|(simp only [List.length_drop,List.length_take];rfl)) ?_
      with_reducible refine (a_G.calls k2 ((a_o l0_0 x22_2).f0) _ _ ((a_o l0_0 x22_2).f1) true _ ?side1 ?side2 A14.out).mono ?_
      (case side1 => repeat (first|exact (Kd.b_f g_k.out HB.out)|(with_reducible refine Kd.a_9 ?_ _)|(with_reducible refine Kd.a_8 ?_ _)|(with_reducible refine Kd.b_i ?_)))
      (case side2 => exact g_l.out)
      rintro e w22 ⟨rfl,hb⟩
      refine ⟨_,rfl,?_⟩
      replace b_C:=a_e.mk (a_l (bup_ b_C.out) hb)
      replace b_Y:=a_e.mk (a_l (bup_ b_Y.out) hb)
      replace HB:=a_e.mk (a_t (by repeat (first|(with_reducible first|exact HB.out|apply a_g|apply a_f|apply a_h|refine a_d ?_ e_q.out|refine a_d ?_ g_m.out)|exact HB.out)) hb)
      (try clear hb)
      (try clear hb2)
      (try clear hk)
      (try clear hi)
      refine hK.out _ _ ⟨(a_a b_Y.out 0).trans rfl,(a_a b_Y.out 1).trans rfl,(a_a b_C.out 0).trans rfl,(a_a b_C.out 1).trans rfl⟩ (fun hHeld => ?_)
      clear hK K
      refine d_U (a':=?_) ?_ ?_
      rotate_left
      ·show Act.put _ (some 28) _ = _
       simp only [Act.put,sa_,sb_,sc_,a_r,a_s]
       rfl
      refine a_y (i:=2) (N:=some 29) (v:=?_) (a':=?_) Z21_ rfl rfl (a_n HT_.out (by kernel_rfl)) (fun _ _ _ h => h) (Or.inl ⟨by rfl,?_⟩) ?_ ?_
      rotate_left
      ·intro w'
       go_simp
       with_reducible rfl
      rotate_left
      ·simp only [Act.put,sa_,sb_,sc_,a_r,a_s]
       rfl
      refine a_y (i:=3) (N:=some 30) (v:=?_) (a':=?_) Z26_ rfl rfl (a_n HT_.out (by kernel_rfl)) (fun _ _ _ h => h) (Or.inl ⟨by rfl,?_⟩) ?_ ?_
      rotate_left
      ·intro w'
       go_simp
       with_reducible rfl
      rotate_left
      ·simp only [Act.put,sa_,sb_,sc_,a_r,a_s]
       rfl
      refine a_y (i:=4) (N:=some 31) (v:=?_) (a':=?_) Z30_ rfl rfl (a_n HT_.out (by kernel_rfl)) (fun _ _ _ h => h) (Or.inl ⟨by rfl,?_⟩) ?_ ?_
      rotate_left
      ·intro w'
       go_simp
       with_reducible rfl
      rotate_left
      ·simp only [Act.put,sa_,sb_,sc_,a_r,a_s]
       rfl
      refine a_y (i:=6) (N:=some 33) (v:=?_) (a':=?_) Z32_ rfl rfl (a_n HT_.out (by kernel_rfl)) (fun _ _ _ h => h) (Or.inl ⟨by rfl,?_⟩) ?_ ?_
      rotate_left
      ·intro w'
       go_simp
       with_reducible rfl
      rotate_left
      ·simp only [Act.put,sa_,sb_,sc_,a_r,a_s]
       rfl
      refine b_m (i:=5) (N:=some 32) (v:=?_) (a':=?_) Z39_ rfl rfl (a_L HT_.out HW_.out (by kernel_rfl)) (fun _ _ _ h => h) (Or.inl ⟨by rfl,?_⟩) hHeld ?_ ?_
      rotate_left
      ·rintro w' ⟨s0,s1,s2,s3⟩
       go_simp
       with_reducible rfl
      rotate_left
      ·simp only [Act.put,sa_,sb_,sc_,a_r,a_s]
       rfl
      refine b_m (i:=7) (N:=some 34) (v:=?_) (a':=?_) Z45_ rfl rfl (a_L HT_.out HW_.out (by kernel_rfl)) (fun _ _ _ h => h) (Or.inl ⟨by rfl,?_⟩) hHeld ?_ ?_
      rotate_left
      ·rintro w' ⟨s0,s1,s2,s3⟩
       go_simp
       with_reducible rfl
      rotate_left
      ·simp only [Act.put,sa_,sb_,sc_,a_r,a_s]
       rfl
      refine a_y (i:=8) (N:=some 35) (v:=?_) (a':=?_) Z54_ rfl rfl (a_n HT_.out (by kernel_rfl)) (fun _ _ _ h => h) (Or.inl ⟨by rfl,?_⟩) ?_ ?_
      rotate_left
      ·intro w'
       go_simp
       with_reducible rfl
      rotate_left
      ·simp only [Act.put,sa_,sb_,sc_,a_r,a_s]
       rfl
      refine a_y (i:=9) (N:=some 36) (v:=?_) (a':=?_) Z59_ rfl rfl (a_n HT_.out (by kernel_rfl)) (fun _ _ _ h => h) (Or.inl ⟨by rfl,?_⟩) ?_ ?_
      rotate_left
      ·intro w'
       go_simp
       with_reducible rfl
      rotate_left
      ·simp only [Act.put,sa_,sb_,sc_,a_r,a_s]
       rfl
      refine a_y (i:=10) (N:=some 37) (v:=?_) (a':=?_) Z63_ rfl rfl (a_n HT_.out (by kernel_rfl)) (fun _ _ _ h => h) (Or.inl ⟨by rfl,?_⟩) ?_ ?_
      rotate_left
      ·intro w'
       go_simp
       with_reducible rfl
      rotate_left
      ·simp only [Act.put,sa_,sb_,sc_,a_r,a_s]
       rfl
      refine a_y (i:=11) (N:=some 38) (v:=undef) (a':=?_) Z69_ rfl rfl (a_n HT_.out (by kernel_rfl)) (fun _ _ _ h => h) (Or.inr ⟨by rfl,rfl⟩) ?_ ?_
      rotate_left
      ·simp only [Act.put,sa_,sb_,sc_,a_r,a_s]
       rfl
      refine a_y (i:=12) (N:=some 39) (v:=undef) (a':=?_) Z75_ rfl rfl (a_n HT_.out (by kernel_rfl)) (fun _ _ _ h => h) (Or.inr ⟨by rfl,rfl⟩) ?_ ?_
      rotate_left
      ·simp only [Act.put,sa_,sb_,sc_,a_r,a_s]
       rfl
      refine a_y (i:=13) (N:=some 40) (v:=undef) (a':=?_) Z80_ rfl rfl (a_n HT_.out (by kernel_rfl)) (fun _ _ _ h => h) (Or.inr ⟨by rfl,rfl⟩) ?_ ?_
      rotate_left
      ·simp only [Act.put,sa_,sb_,sc_,a_r,a_s]
       rfl
      refine a_y (i:=14) (N:=some 41) (v:=undef) (a':=?_) Z84_ rfl rfl (a_n HT_.out (by kernel_rfl)) (fun _ _ _ h => h) (Or.inr ⟨by rfl,rfl⟩) ?_ ?_
      rotate_left
      ·simp only [Act.put,sa_,sb_,sc_,a_r,a_s]
       rfl
      refine a_y (i:=15) (N:=some 42) (v:=undef) (a':=?_) Z91_ rfl rfl (a_n HT_.out (by kernel_rfl)) (fun _ _ _ h => h) (Or.inr ⟨by rfl,rfl⟩) ?_ ?_
      rotate_left
      ·simp only [Act.put,sa_,sb_,sc_,a_r,a_s]
       rfl
      refine a_y (i:=16) (N:=some 43) (v:=undef) (a':=?_) Z95_ rfl rfl (a_n HT_.out (by kernel_rfl)) (fun _ _ _ h => h) (Or.inr ⟨by rfl,rfl⟩) ?_ ?_
      rotate_left
      ·simp only [Act.put,sa_,sb_,sc_,a_r,a_s]
       rfl
      refine a_y (i:=17) (N:=some 44) (v:=undef) (a':=?_) Z99_ rfl rfl (a_n HT_.out (by kernel_rfl)) (fun _ _ _ h => h) (Or.inr ⟨by rfl,rfl⟩) ?_ ?_
      rotate_left
      ·simp only [Act.put,sa_,sb_,sc_,a_r,a_s]
       rfl
      refine a_y (i:=18) (N:=some 45) (v:=undef) (a':=?_) s_s rfl rfl (a_n HT_.out (by kernel_rfl)) (fun _ _ _ h => h) (Or.inr ⟨by rfl,rfl⟩) ?_ ?_
      rotate_left
      ·simp only [Act.put,sa_,sb_,sc_,a_r,a_s]
       rfl
      refine a_y (i:=19) (N:=some 46) (v:=undef) (a':=?_) r_3 rfl rfl (a_n HT_.out (by kernel_rfl)) (fun _ _ _ h => h) (Or.inr ⟨by rfl,rfl⟩) ?_ ?_
      rotate_left
      ·simp only [Act.put,sa_,sb_,sc_,a_r,a_s]
       rfl
      refine a_y (i:=20) (N:=some 47) (v:=undef) (a':=?_) r_9 rfl rfl (a_n HT_.out (by kernel_rfl)) (fun _ _ _ h => h) (Or.inr ⟨by rfl,rfl⟩) ?_ ?_
      rotate_left
      ·simp only [Act.put,sa_,sb_,sc_,a_r,a_s]
       rfl
      refine a_y (i:=21) (N:=some 48) (v:=undef) (a':=?_) o_W rfl rfl (a_n HT_.out (by kernel_rfl)) (fun _ _ _ h => h) (Or.inr ⟨by rfl,rfl⟩) ?_ ?_
      rotate_left
      ·simp only [Act.put,sa_,sb_,sc_,a_r,a_s]
       rfl
      refine a_y (i:=22) (N:=some 49) (v:=undef) (a':=?_) o_7 rfl rfl (a_n HT_.out (by kernel_rfl)) (fun _ _ _ h => h) (Or.inr ⟨by rfl,rfl⟩) ?_ ?_
      rotate_left
      ·simp only [Act.put,sa_,sb_,sc_,a_r,a_s]
       rfl
      refine a_y (i:=23) (N:=some 50) (v:=undef) (a':=?_) o_U rfl rfl (a_n HT_.out (by kernel_rfl)) (fun _ _ _ h => h) (Or.inr ⟨by rfl,rfl⟩) ?_ ?_
      rotate_left
      ·simp only [Act.put,sa_,sb_,sc_,a_r,a_s]
       rfl
      refine a_y (i:=24) (N:=some 51) (v:=undef) (a':=?_) o_h rfl rfl (a_n HT_.out (by kernel_rfl)) (fun _ _ _ h => h) (Or.inr ⟨by rfl,rfl⟩) ?_ ?_
      rotate_left
      ·simp only [Act.put,sa_,sb_,sc_,a_r,a_s]
       rfl
      refine a_y (i:=25) (N:=some 52) (v:=?_) (a':=?_) o_X rfl rfl (a_n HT_.out (by kernel_rfl)) (fun _ _ _ h => h) (Or.inl ⟨by rfl,?_⟩) ?_ ?_
      rotate_left
      ·intro w'
       go_simp
       with_reducible rfl
      rotate_left
      ·simp only [Act.put,sa_,sb_,sc_,a_r,a_s]
       rfl
      refine e_T (c_u HT_.out (by kernel_rfl)) ?_
      try go_wp2
      go_ret
      exact ⟨by first|rfl|(simp [a_w,a_x] <;> rfl)|(simp [*, a_w,a_x] <;> rfl),by repeat (first|(with_reducible first|exact HB.out|apply a_g|apply a_f|apply a_h|refine a_d ?_ e_q.out|refine a_d ?_ g_m.out)|exact HB.out)⟩
     rw [if_neg c16] at H
     have c16b0 : decide (a0_1 < ((a_o l0_0 x22_2).f0)) = false:=decide_eq_false c16
     clear c16
     by_cases c23 : x22_2 > 0
     rotate_left
     ·rw [if_neg c23] at H
      have c23b0 : decide (0 < x22_2) = false:=decide_eq_false c23
      clear c23
      have H':=a_e.mk H
      clear H
      have p122 : 0 ≤ (x22_2 : Int):=of_decide_eq_true (by first|(with_reducible assumption)|assumption)
      have q122 : x22_2 < (l0_0.length : Int):=of_decide_eq_true (by first|(with_reducible assumption)|assumption)
      obtain ⟨ad122,A122_1,c122_1,e122,d_1,d_2,e_V,e_W⟩:=c_t c_V.out x22_2 p122 q122
      cases e122
      replace d_1:=(HB.out.cell (World.block_lt_of_cell? w _ d_1)).trans d_1
      replace d_2:=(HB.out.cell (World.block_lt_of_cell? w _ d_2)).trans d_2
      have g_k:=a_e.mk e_W
      have g_l:=a_e.mk e_V
      clear e_W e_V
      replace p122:=eq_true p122
      replace q122:=eq_true q122
      try go_wp2_with (first|((with_reducible refine a_U (N:=4) rfl ?_);refine a_H ?hg (N:=4) ?hd (cs:=#[.int .i64 0,.slice none 0 0]) (t:=27) ?hr ?_;(case hd => rfl);(case hg => rfl);(case hr => first|(go_simp;done)|(go_simp;rfl));intro b_R hg w40 hbox hb;have b_Y:=a_e.mk (hbox);have r_t:=a_e.mk ((by rw [hg];exact (a_p (by repeat (first|(with_reducible first|exact HB.out|apply a_g|apply a_f|apply a_h|refine a_d ?_ e_q.out)|exact HB.out))) : w.heap.size ≤ b_R));have g_m:=a_e.mk ((by rw [hg];exact (a_p (by repeat (first|(with_reducible first|exact HB.out|apply a_g|apply a_f|apply a_h|refine a_d ?_ e_q.out)|exact HB.out))) : w.heap.size ≤ b_R));have c_H:=a_e.mk ((by rw [hg];exact Nat.ne_of_lt (a_N (bup_ b_C.out)) : e_u ≠ b_R));have e_X:=a_e.mk ((by rw [hg];exact Nat.ne_of_gt (a_N (bup_ b_C.out)) : b_R ≠ e_u));replace b_C:=a_e.mk (a_l (bup_ b_C.out) hb);replace HB:=a_e.mk (a_t (by repeat (first|(with_reducible first|exact HB.out|apply a_g|apply a_f|apply a_h|refine a_d ?_ e_q.out)|exact HB.out)) hb);clear hb hbox hg;have w_n:=e_X.out;have w_o:=c_H.out;have j_t : w40.cell? ⟨b_R,0,none⟩ = some (.int .i64 0):=(a_a b_Y.out 0).trans rfl;have j_u : w40.cell? ⟨b_R,1,none⟩ = some (.slice none 0 0):=(a_a b_Y.out 1).trans rfl;have j_v:=a_b b_Y.out 0;have j_w:=a_b b_Y.out 1))
      have n0_ : a_e (((w40.setCell ⟨b_R,0,none⟩ (.int .i64 ((a_o l0_0 x22_2).f0))).setCell ⟨b_R,1,none⟩ (.slice A122_1 ((a_o l0_0 x22_2).f1).length c122_1)).heap[e_u]? = some (.cells #[.slice (some ad122) l0_0.length c0_0,.int .i64 a0_1] 24 (0,0))):=⟨by (with_reducible repeat (first|refine a_j ?_ _|refine a_k ?_|refine a_i ?_ _));refine a_B ?_ c_H.out _;(with_reducible repeat (first|refine a_j ?_ _|refine a_k ?_|refine a_i ?_ _));refine a_B ?_ c_H.out _;(with_reducible repeat (first|refine a_j ?_ _|refine a_k ?_|refine a_i ?_ _));exact b_C.out⟩
      have n1_ : a_e (((w40.setCell ⟨b_R,0,none⟩ (.int .i64 ((a_o l0_0 x22_2).f0))).setCell ⟨b_R,1,none⟩ (.slice A122_1 ((a_o l0_0 x22_2).f1).length c122_1)).heap[b_R]? = some (.cells #[.int .i64 ((a_o l0_0 x22_2).f0),.slice A122_1 ((a_o l0_0 x22_2).f1).length c122_1] 27 (0,0))):=⟨by (with_reducible repeat (first|refine a_j ?_ _|refine a_k ?_|refine a_i ?_ _));refine a_J (cs:=#[.int .i64 ((a_o l0_0 x22_2).f0),.slice none 0 0]) ?_ 1 _ rfl;(with_reducible repeat (first|refine a_j ?_ _|refine a_k ?_|refine a_i ?_ _));refine a_J (cs:=#[.int .i64 0,.slice none 0 0]) ?_ 0 _ rfl;(with_reducible repeat (first|refine a_j ?_ _|refine a_k ?_|refine a_i ?_ _));exact b_Y.out⟩
      have n2_ : a_e (Below w.heap.size w ((w40.setCell ⟨b_R,0,none⟩ (.int .i64 ((a_o l0_0 x22_2).f0))).setCell ⟨b_R,1,none⟩ (.slice A122_1 ((a_o l0_0 x22_2).f1).length c122_1))):=⟨by repeat (first|(with_reducible first|exact HB.out|apply a_g|apply a_f|apply a_h|refine a_d ?_ e_q.out|refine a_d ?_ g_m.out)|exact HB.out)⟩
      (try clear b_C)
      (try clear b_Y)
      (try clear HB)
      generalize ((w40.setCell ⟨b_R,0,none⟩ (.int .i64 ((a_o l0_0 x22_2).f0))).setCell ⟨b_R,1,none⟩ (.slice A122_1 ((a_o l0_0 x22_2).f1).length c122_1)) = w43 at n0_ n1_ n2_ ⊢
      have b_C:=n0_
      have b_Y:=n1_
      have HB:=n2_
      clear n0_ n1_ n2_
      replace b_C:=a_e.mk (a_k b_C.out)
      replace b_Y:=a_e.mk (a_k b_Y.out)
      replace HB:=a_e.mk (a_h HB.out)
      refine d_H (n:=26) (S:=fun w' => w'.cell? ⟨b_R,0,none⟩ = some (.int .i64 ((a_o l0_0 x22_2).f0)) ∧ w'.cell? ⟨b_R,1,none⟩ = some (.slice A122_1 ((a_o l0_0 x22_2).f1).length c122_1) ∧ w'.cell? ⟨e_u,0,none⟩ = some (.slice (some ad122) l0_0.length c0_0) ∧ w'.cell? ⟨e_u,1,none⟩ = some (.int .i64 a0_1)) (ds:=[]) Z2_ (by kernel_rfl) rfl rfl ⟨(a_a b_Y.out 0).trans rfl,(a_a b_Y.out 1).trans rfl,(a_a b_C.out 0).trans rfl,(a_a b_C.out 1).trans rfl⟩ (fun hHeld => ?_);refine b_Q a_A.tab6 a_A.f_W (fun HT_ HW_ => ?_)
      generalize w43.drew = w44 at b_C b_Y HB hHeld ⊢
      refine b_m (i:=0) (N:=some 27) (v:=?_) (a':=?_) Z8_ rfl rfl (a_L HT_.out HW_.out (by kernel_rfl)) (fun _ _ _ h => h) (Or.inl ⟨by rfl,?_⟩) hHeld ?_ ?_
      rotate_left
      ·rintro w' ⟨s0,s1,s2,s3⟩
       go_simp
       with_reducible rfl
      rotate_left
      ·simp only [Act.put,sa_,sb_,sc_,a_r,a_s]
       rfl
      refine one_ (i:=1) (N:=some 28) Z15_ rfl rfl (c_e HT_.out (by kernel_rfl)) (by decide) (fun K hK => ?_)
      refine e_I Try.func24 (by kernel_rfl) rfl #[.agg #[.int .i64 ((a_o l0_0 x22_2).f0),.slice A122_1 ((a_o l0_0 x22_2).f1).length c122_1]] (by rfl) rfl rfl (by (try simp only [List.map_toArray,List.map_cons,List.map_nil]);first|done|rfl|(simp only [List.length_drop,List.length_take];rfl)) ?_
      with_reducible refine (a_G.calls k2 ((a_o l0_0 x22_2).f0) _ _ ((a_o l0_0 x22_2).f1) true _ ?side1 ?side2 A14.out).mono ?_
      (case side1 => repeat (first|exact (Kd.b_f g_k.out HB.out)|(with_reducible refine Kd.a_9 ?_ _)|(with_reducible refine Kd.a_8 ?_ _)|(with_reducible refine Kd.b_i ?_)))
      (case side2 => exact g_l.out)
      rintro e w45 ⟨rfl,hb⟩
      refine ⟨_,rfl,?_⟩
      replace b_C:=a_e.mk (a_l (bup_ b_C.out) hb)
      replace b_Y:=a_e.mk (a_l (bup_ b_Y.out) hb)
      replace HB:=a_e.mk (a_t (by repeat (first|(with_reducible first|exact HB.out|apply a_g|apply a_f|apply a_h|refine a_d ?_ e_q.out|refine a_d ?_ g_m.out)|exact HB.out)) hb)
      (try clear hb)
      (try clear hb2)
      (try clear hk)
      (try clear hi)
      refine hK.out _ _ ⟨(a_a b_Y.out 0).trans rfl,(a_a b_Y.out 1).trans rfl,(a_a b_C.out 0).trans rfl,(a_a b_C.out 1).trans rfl⟩ (fun hHeld => ?_)
      clear hK K
      refine d_U (a':=?_) ?_ ?_
      rotate_left
      ·show Act.put _ (some 28) _ = _
       simp only [Act.put,sa_,sb_,sc_,a_r,a_s]
       rfl
      refine a_y (i:=2) (N:=some 29) (v:=?_) (a':=?_) Z21_ rfl rfl (a_n HT_.out (by kernel_rfl)) (fun _ _ _ h => h) (Or.inl ⟨by rfl,?_⟩) ?_ ?_
      rotate_left
      ·intro w'
       go_simp
       with_reducible rfl
      rotate_left
      ·simp only [Act.put,sa_,sb_,sc_,a_r,a_s]
       rfl
      refine a_y (i:=3) (N:=some 30) (v:=?_) (a':=?_) Z26_ rfl rfl (a_n HT_.out (by kernel_rfl)) (fun _ _ _ h => h) (Or.inl ⟨by rfl,?_⟩) ?_ ?_
      rotate_left
      ·intro w'
       go_simp
       with_reducible rfl
      rotate_left
      ·simp only [Act.put,sa_,sb_,sc_,a_r,a_s]
       rfl
      refine a_y (i:=4) (N:=some 31) (v:=?_) (a':=?_) Z30_ rfl rfl (a_n HT_.out (by kernel_rfl)) (fun _ _ _ h => h) (Or.inl ⟨by rfl,?_⟩) ?_ ?_
      rotate_left
      ·intro w'
       go_simp
       with_reducible rfl
      rotate_left
      ·simp only [Act.put,sa_,sb_,sc_,a_r,a_s]
       rfl
      refine a_y (i:=6) (N:=some 33) (v:=?_) (a':=?_) Z32_ rfl rfl (a_n HT_.out (by kernel_rfl)) (fun _ _ _ h => h) (Or.inl ⟨by rfl,?_⟩) ?_ ?_
      rotate_left
      ·intro w'
       go_simp
       with_reducible rfl
      rotate_left
      ·simp only [Act.put,sa_,sb_,sc_,a_r,a_s]
       rfl
      refine b_m (i:=5) (N:=some 32) (v:=?_) (a':=?_) Z39_ rfl rfl (a_L HT_.out HW_.out (by kernel_rfl)) (fun _ _ _ h => h) (Or.inl ⟨by rfl,?_⟩) hHeld ?_ ?_
      rotate_left
      ·rintro w' ⟨s0,s1,s2,s3⟩
       go_simp
       with_reducible rfl
      rotate_left
      ·simp only [Act.put,sa_,sb_,sc_,a_r,a_s]
       rfl
      refine b_m (i:=7) (N:=some 34) (v:=?_) (a':=?_) Z45_ rfl rfl (a_L HT_.out HW_.out (by kernel_rfl)) (fun _ _ _ h => h) (Or.inl ⟨by rfl,?_⟩) hHeld ?_ ?_
      rotate_left
      ·rintro w' ⟨s0,s1,s2,s3⟩
       go_simp
       with_reducible rfl
      rotate_left
      ·simp only [Act.put,sa_,sb_,sc_,a_r,a_s]
       rfl
      refine a_y (i:=8) (N:=some 35) (v:=?_) (a':=?_) Z54_ rfl rfl (a_n HT_.out (by kernel_rfl)) (fun _ _ _ h => h) (Or.inl ⟨by rfl,?_⟩) ?_ ?_
      rotate_left
      ·intro w'
       go_simp
       with_reducible rfl
      rotate_left
      ·simp only [Act.put,sa_,sb_,sc_,a_r,a_s]
       rfl
      refine a_y (i:=9) (N:=some 36) (v:=?_) (a':=?_) Z59_ rfl rfl (a_n HT_.out (by kernel_rfl)) (fun _ _ _ h => h) (Or.inl ⟨by rfl,?_⟩) ?_ ?_
      rotate_left
      ·intro w'
       go_simp
       with_reducible rfl
      rotate_left
      ·simp only [Act.put,sa_,sb_,sc_,a_r,a_s]
       rfl
      refine a_y (i:=10) (N:=some 37) (v:=?_) (a':=?_) Z63_ rfl rfl (a_n HT_.out (by kernel_rfl)) (fun _ _ _ h => h) (Or.inl ⟨by rfl,?_⟩) ?_ ?_
      rotate_left
      ·intro w'
       go_simp
       with_reducible rfl
      rotate_left
      ·simp only [Act.put,sa_,sb_,sc_,a_r,a_s]
       rfl
      refine a_y (i:=11) (N:=some 38) (v:=?_) (a':=?_) Z69_ rfl rfl (a_n HT_.out (by kernel_rfl)) (fun _ _ _ h => h) (Or.inl ⟨by rfl,?_⟩) ?_ ?_
      rotate_left
      ·intro w'
       go_simp
       with_reducible rfl
      rotate_left
      ·simp only [Act.put,sa_,sb_,sc_,a_r,a_s]
       rfl
      refine a_y (i:=12) (N:=some 39) (v:=?_) (a':=?_) Z75_ rfl rfl (a_n HT_.out (by kernel_rfl)) (fun _ _ _ h => h) (Or.inl ⟨by rfl,?_⟩) ?_ ?_
      rotate_left
      ·intro w'
       go_simp
       with_reducible rfl
      rotate_left
      ·simp only [Act.put,sa_,sb_,sc_,a_r,a_s]
       rfl
      refine a_y (i:=13) (N:=some 40) (v:=?_) (a':=?_) Z80_ rfl rfl (a_n HT_.out (by kernel_rfl)) (fun _ _ _ h => h) (Or.inl ⟨by rfl,?_⟩) ?_ ?_
      rotate_left
      ·intro w'
       go_simp
       with_reducible rfl
      rotate_left
      ·simp only [Act.put,sa_,sb_,sc_,a_r,a_s]
       rfl
      refine a_y (i:=14) (N:=some 41) (v:=undef) (a':=?_) Z84_ rfl rfl (a_n HT_.out (by kernel_rfl)) (fun _ _ _ h => h) (Or.inr ⟨by rfl,rfl⟩) ?_ ?_
      rotate_left
      ·simp only [Act.put,sa_,sb_,sc_,a_r,a_s]
       rfl
      refine a_y (i:=15) (N:=some 42) (v:=undef) (a':=?_) Z91_ rfl rfl (a_n HT_.out (by kernel_rfl)) (fun _ _ _ h => h) (Or.inr ⟨by rfl,rfl⟩) ?_ ?_
      rotate_left
      ·simp only [Act.put,sa_,sb_,sc_,a_r,a_s]
       rfl
      refine a_y (i:=16) (N:=some 43) (v:=undef) (a':=?_) Z95_ rfl rfl (a_n HT_.out (by kernel_rfl)) (fun _ _ _ h => h) (Or.inr ⟨by rfl,rfl⟩) ?_ ?_
      rotate_left
      ·simp only [Act.put,sa_,sb_,sc_,a_r,a_s]
       rfl
      refine a_y (i:=17) (N:=some 44) (v:=undef) (a':=?_) Z99_ rfl rfl (a_n HT_.out (by kernel_rfl)) (fun _ _ _ h => h) (Or.inr ⟨by rfl,rfl⟩) ?_ ?_
      rotate_left
      ·simp only [Act.put,sa_,sb_,sc_,a_r,a_s]
       rfl
      refine a_y (i:=18) (N:=some 45) (v:=undef) (a':=?_) s_s rfl rfl (a_n HT_.out (by kernel_rfl)) (fun _ _ _ h => h) (Or.inr ⟨by rfl,rfl⟩) ?_ ?_
      rotate_left
      ·simp only [Act.put,sa_,sb_,sc_,a_r,a_s]
       rfl
      refine a_y (i:=19) (N:=some 46) (v:=undef) (a':=?_) r_3 rfl rfl (a_n HT_.out (by kernel_rfl)) (fun _ _ _ h => h) (Or.inr ⟨by rfl,rfl⟩) ?_ ?_
      rotate_left
      ·simp only [Act.put,sa_,sb_,sc_,a_r,a_s]
       rfl
      refine a_y (i:=20) (N:=some 47) (v:=undef) (a':=?_) r_9 rfl rfl (a_n HT_.out (by kernel_rfl)) (fun _ _ _ h => h) (Or.inr ⟨by rfl,rfl⟩) ?_ ?_
      rotate_left
      ·simp only [Act.put,sa_,sb_,sc_,a_r,a_s]
       rfl
      refine a_y (i:=21) (N:=some 48) (v:=undef) (a':=?_) o_W rfl rfl (a_n HT_.out (by kernel_rfl)) (fun _ _ _ h => h) (Or.inr ⟨by rfl,rfl⟩) ?_ ?_
      rotate_left
      ·simp only [Act.put,sa_,sb_,sc_,a_r,a_s]
       rfl
      refine a_y (i:=22) (N:=some 49) (v:=undef) (a':=?_) o_7 rfl rfl (a_n HT_.out (by kernel_rfl)) (fun _ _ _ h => h) (Or.inr ⟨by rfl,rfl⟩) ?_ ?_
      rotate_left
      ·simp only [Act.put,sa_,sb_,sc_,a_r,a_s]
       rfl
      refine a_y (i:=23) (N:=some 50) (v:=undef) (a':=?_) o_U rfl rfl (a_n HT_.out (by kernel_rfl)) (fun _ _ _ h => h) (Or.inr ⟨by rfl,rfl⟩) ?_ ?_
      rotate_left
      ·simp only [Act.put,sa_,sb_,sc_,a_r,a_s]
       rfl
      refine a_y (i:=24) (N:=some 51) (v:=?_) (a':=?_) o_h rfl rfl (a_n HT_.out (by kernel_rfl)) (fun _ _ _ h => h) (Or.inl ⟨by rfl,?_⟩) ?_ ?_
      rotate_left
      ·intro w'
       go_simp
       with_reducible rfl
      rotate_left
      ·simp only [Act.put,sa_,sb_,sc_,a_r,a_s]
       rfl
      refine a_y (i:=25) (N:=some 52) (v:=?_) (a':=?_) o_X rfl rfl (a_n HT_.out (by kernel_rfl)) (fun _ _ _ h => h) (Or.inl ⟨by rfl,?_⟩) ?_ ?_
      rotate_left
      ·intro w'
       go_simp
       with_reducible rfl
      rotate_left
      ·simp only [Act.put,sa_,sb_,sc_,a_r,a_s]
       rfl
      refine e_T (c_u HT_.out (by kernel_rfl)) ?_
      try go_wp2
      go_roundg k2
      case measure => have:=HJ1.out;have:=HK2.out;omega
      case rel => exact ⟨(wrap64 (x22_2 + 1)),(by first|rfl|(simp;done)|(simp [*];done)),H',⟨by have:=HJ1.out;have:=HK2.out;omega⟩,⟨by (with_reducible repeat (first|refine a_j ?_ _|refine a_k ?_|refine a_i ?_ _));exact b_C.out⟩,⟨by repeat (first|(with_reducible first|exact HB.out|apply a_g|apply a_f|apply a_h|refine a_d ?_ e_q.out|refine a_d ?_ g_m.out)|exact HB.out)⟩⟩
     rw [if_pos c23] at H
     have c23b0 : decide (0 < x22_2) = true:=decide_eq_true c23
     clear c23
     obtain ⟨ji24,hji24⟩ : ∃ j_ : Int,(wrap64 (x22_2 - 1)) = j_:=⟨_,rfl⟩
     replace H : (if 0 ≤ (ji24) then (if (ji24) < (l0_0.length : Int) then (if ((a_o l0_0 (ji24)).f0) ≥ ((a_o l0_0 x22_2).f0) then (some 390) else (a_A.l0 k2 l0_0 (l0_0.length : Int) (wrap64 (x22_2 + 1)) l0_0 a0_1)) else (none)) else (none)) = some r:=by first|(rw [hji24] at H;exact H)|(simp only [hji24] at H ⊢; exact H)
     (try rw [hji24] at A14)
     have hji24w : (IntKind.i64.wrap (x22_2 - 1)) = ji24:=(a_r _).trans hji24
     by_cases c25 : 0 ≤ (ji24)
     rotate_left
     ·rw [if_neg c25] at H
      exact absurd H (by simp)
     rw [if_pos c25] at H
     have c25b0 : decide (0 ≤ (ji24)) = true:=decide_eq_true c25
     clear c25
     by_cases c26 : (ji24) < (l0_0.length : Int)
     rotate_left
     ·rw [if_neg c26] at H
      exact absurd H (by simp)
     rw [if_pos c26] at H
     have c26b0 : decide ((ji24) < (l0_0.length : Int)) = true:=decide_eq_true c26
     clear c26
     by_cases c27 : ((a_o l0_0 (ji24)).f0) ≥ ((a_o l0_0 x22_2).f0)
     ·rw [if_pos c27] at H
      have c27b0 : decide (((a_o l0_0 x22_2).f0) ≤ ((a_o l0_0 (ji24)).f0)) = true:=decide_eq_true c27
      clear c27
      obtain rfl:=Option.some.inj H
      have p122 : 0 ≤ (x22_2 : Int):=of_decide_eq_true (by first|(with_reducible assumption)|assumption)
      have q122 : x22_2 < (l0_0.length : Int):=of_decide_eq_true (by first|(with_reducible assumption)|assumption)
      obtain ⟨ad122,A122_1,c122_1,e122,d_1,d_2,e_V,e_W⟩:=c_t c_V.out x22_2 p122 q122
      cases e122
      replace d_1:=(HB.out.cell (World.block_lt_of_cell? w _ d_1)).trans d_1
      replace d_2:=(HB.out.cell (World.block_lt_of_cell? w _ d_2)).trans d_2
      have g_k:=a_e.mk e_W
      have g_l:=a_e.mk e_V
      clear e_W e_V
      replace p122:=eq_true p122
      replace q122:=eq_true q122
      try go_wp2_with (first|((with_reducible refine a_U (N:=4) rfl ?_);refine a_H ?hg (N:=4) ?hd (cs:=#[.int .i64 0,.slice none 0 0]) (t:=27) ?hr ?_;(case hd => rfl);(case hg => rfl);(case hr => first|(go_simp;done)|(go_simp;rfl));intro b_R hg w28 hbox hb;have b_Y:=a_e.mk (hbox);have r_t:=a_e.mk ((by rw [hg];exact (a_p (by repeat (first|(with_reducible first|exact HB.out|apply a_g|apply a_f|apply a_h|refine a_d ?_ e_q.out)|exact HB.out))) : w.heap.size ≤ b_R));have g_m:=a_e.mk ((by rw [hg];exact (a_p (by repeat (first|(with_reducible first|exact HB.out|apply a_g|apply a_f|apply a_h|refine a_d ?_ e_q.out)|exact HB.out))) : w.heap.size ≤ b_R));have c_H:=a_e.mk ((by rw [hg];exact Nat.ne_of_lt (a_N (bup_ b_C.out)) : e_u ≠ b_R));have e_X:=a_e.mk ((by rw [hg];exact Nat.ne_of_gt (a_N (bup_ b_C.out)) : b_R ≠ e_u));replace b_C:=a_e.mk (a_l (bup_ b_C.out) hb);replace HB:=a_e.mk (a_t (by repeat (first|(with_reducible first|exact HB.out|apply a_g|apply a_f|apply a_h|refine a_d ?_ e_q.out)|exact HB.out)) hb);clear hb hbox hg;have A_5:=e_X.out;have A_6:=c_H.out;have t_c : w28.cell? ⟨b_R,0,none⟩ = some (.int .i64 0):=(a_a b_Y.out 0).trans rfl;have t_d : w28.cell? ⟨b_R,1,none⟩ = some (.slice none 0 0):=(a_a b_Y.out 1).trans rfl;have t_e:=a_b b_Y.out 0;have t_f:=a_b b_Y.out 1))
      have n0_ : a_e (((w28.setCell ⟨b_R,0,none⟩ (.int .i64 ((a_o l0_0 x22_2).f0))).setCell ⟨b_R,1,none⟩ (.slice A122_1 ((a_o l0_0 x22_2).f1).length c122_1)).heap[e_u]? = some (.cells #[.slice (some ad122) l0_0.length c0_0,.int .i64 a0_1] 24 (0,0))):=⟨by (with_reducible repeat (first|refine a_j ?_ _|refine a_k ?_|refine a_i ?_ _));refine a_B ?_ c_H.out _;(with_reducible repeat (first|refine a_j ?_ _|refine a_k ?_|refine a_i ?_ _));refine a_B ?_ c_H.out _;(with_reducible repeat (first|refine a_j ?_ _|refine a_k ?_|refine a_i ?_ _));exact b_C.out⟩
      have n1_ : a_e (((w28.setCell ⟨b_R,0,none⟩ (.int .i64 ((a_o l0_0 x22_2).f0))).setCell ⟨b_R,1,none⟩ (.slice A122_1 ((a_o l0_0 x22_2).f1).length c122_1)).heap[b_R]? = some (.cells #[.int .i64 ((a_o l0_0 x22_2).f0),.slice A122_1 ((a_o l0_0 x22_2).f1).length c122_1] 27 (0,0))):=⟨by (with_reducible repeat (first|refine a_j ?_ _|refine a_k ?_|refine a_i ?_ _));refine a_J (cs:=#[.int .i64 ((a_o l0_0 x22_2).f0),.slice none 0 0]) ?_ 1 _ rfl;(with_reducible repeat (first|refine a_j ?_ _|refine a_k ?_|refine a_i ?_ _));refine a_J (cs:=#[.int .i64 0,.slice none 0 0]) ?_ 0 _ rfl;(with_reducible repeat (first|refine a_j ?_ _|refine a_k ?_|refine a_i ?_ _));exact b_Y.out⟩
      have n2_ : a_e (Below w.heap.size w ((w28.setCell ⟨b_R,0,none⟩ (.int .i64 ((a_o l0_0 x22_2).f0))).setCell ⟨b_R,1,none⟩ (.slice A122_1 ((a_o l0_0 x22_2).f1).length c122_1))):=⟨by repeat (first|(with_reducible first|exact HB.out|apply a_g|apply a_f|apply a_h|refine a_d ?_ e_q.out|refine a_d ?_ g_m.out)|exact HB.out)⟩
      (try clear b_C)
      (try clear b_Y)
      (try clear HB)
      generalize ((w28.setCell ⟨b_R,0,none⟩ (.int .i64 ((a_o l0_0 x22_2).f0))).setCell ⟨b_R,1,none⟩ (.slice A122_1 ((a_o l0_0 x22_2).f1).length c122_1)) = w31 at n0_ n1_ n2_ ⊢
      have b_C:=n0_
      have b_Y:=n1_
      have HB:=n2_
      clear n0_ n1_ n2_
      replace b_C:=a_e.mk (a_k b_C.out)
      replace b_Y:=a_e.mk (a_k b_Y.out)
      replace HB:=a_e.mk (a_h HB.out)
      have p125 : 0 ≤ ((ji24) : Int):=of_decide_eq_true (by first|(with_reducible assumption)|assumption)
      have q125 : (ji24) < (l0_0.length : Int):=of_decide_eq_true (by first|(with_reducible assumption)|assumption)
      obtain ⟨ad125,A125_1,c125_1,e125,f_E,f_F,j_x,j_y⟩:=c_t c_V.out (ji24) p125 q125
      have g_n:=f_F
      have g_o:=f_E
      obtain rfl : ad122 = ad125:=(by injection e125)
      replace f_E:=(HB.out.cell (World.block_lt_of_cell? w _ f_E)).trans f_E
      replace f_F:=(HB.out.cell (World.block_lt_of_cell? w _ f_F)).trans f_F
      have m_B:=a_e.mk j_y
      have t_g:=a_e.mk j_x
      clear j_y j_x
      replace p125:=eq_true p125
      replace q125:=eq_true q125
      refine d_H (n:=26) (S:=fun w' => w'.cell? ⟨b_R,0,none⟩ = some (.int .i64 ((a_o l0_0 x22_2).f0)) ∧ w'.cell? ⟨b_R,1,none⟩ = some (.slice A122_1 ((a_o l0_0 x22_2).f1).length c122_1) ∧ w'.cell? ⟨e_u,0,none⟩ = some (.slice (some ad122) l0_0.length c0_0) ∧ w'.cell? ⟨e_u,1,none⟩ = some (.int .i64 a0_1) ∧ w'.cell? (ad122.add (((ji24)).toNat * 2)) = some (.int .i64 ((a_o l0_0 (ji24)).f0)) ∧ w'.cell? ⟨(ad122.add (((ji24)).toNat * 2)).block,(ad122.add (((ji24)).toNat * 2)).off + 1,none⟩ = some (.slice A125_1 ((a_o l0_0 (ji24)).f1).length c125_1)) (ds:=[]) Z2_ (by kernel_rfl) rfl rfl ⟨(a_a b_Y.out 0).trans rfl,(a_a b_Y.out 1).trans rfl,(a_a b_C.out 0).trans rfl,(a_a b_C.out 1).trans rfl,((HB.out.cell (World.block_lt_of_cell? w _ g_o)).trans g_o),((HB.out.cell (World.block_lt_of_cell? w _ g_n)).trans g_n)⟩ (fun hHeld => ?_);refine b_Q a_A.tab6 a_A.f_W (fun HT_ HW_ => ?_)
      generalize w31.drew = w32 at b_C b_Y HB m_B f_E f_F hHeld ⊢
      refine b_m (i:=0) (N:=some 27) (v:=?_) (a':=?_) Z8_ rfl rfl (a_L HT_.out HW_.out (by kernel_rfl)) (fun _ _ _ h => h) (Or.inl ⟨by rfl,?_⟩) hHeld ?_ ?_
      rotate_left
      ·rintro w' ⟨s0,s1,s2,s3,s4,s5⟩
       go_simp
       with_reducible rfl
      rotate_left
      ·simp only [Act.put,sa_,sb_,sc_,a_r,a_s]
       rfl
      refine one_ (i:=1) (N:=some 28) Z15_ rfl rfl (c_e HT_.out (by kernel_rfl)) (by decide) (fun K hK => ?_)
      refine e_I Try.func24 (by kernel_rfl) rfl #[.agg #[.int .i64 ((a_o l0_0 x22_2).f0),.slice A122_1 ((a_o l0_0 x22_2).f1).length c122_1]] (by rfl) rfl rfl (by (try simp only [List.map_toArray,List.map_cons,List.map_nil]);first|done|rfl|(simp only [List.length_drop,List.length_take];rfl)) ?_
      with_reducible refine (a_G.calls k2 ((a_o l0_0 x22_2).f0) _ _ ((a_o l0_0 x22_2).f1) true _ ?side1 ?side2 A14.out).mono ?_
      (case side1 => repeat (first|exact (Kd.b_f g_k.out HB.out)|(with_reducible refine Kd.a_9 ?_ _)|(with_reducible refine Kd.a_8 ?_ _)|(with_reducible refine Kd.b_i ?_)))
      (case side2 => exact g_l.out)
      rintro e w33 ⟨rfl,hb⟩
      refine ⟨_,rfl,?_⟩
      replace b_C:=a_e.mk (a_l (bup_ b_C.out) hb)
      replace b_Y:=a_e.mk (a_l (bup_ b_Y.out) hb)
      replace HB:=a_e.mk (a_t (by repeat (first|(with_reducible first|exact HB.out|apply a_g|apply a_f|apply a_h|refine a_d ?_ e_q.out|refine a_d ?_ g_m.out)|exact HB.out)) hb)
      (try clear hb)
      (try clear hb2)
      (try clear hk)
      (try clear hi)
      refine hK.out _ _ ⟨(a_a b_Y.out 0).trans rfl,(a_a b_Y.out 1).trans rfl,(a_a b_C.out 0).trans rfl,(a_a b_C.out 1).trans rfl,((HB.out.cell (World.block_lt_of_cell? w _ g_o)).trans g_o),((HB.out.cell (World.block_lt_of_cell? w _ g_n)).trans g_n)⟩ (fun hHeld => ?_)
      clear hK K
      refine d_U (a':=?_) ?_ ?_
      rotate_left
      ·show Act.put _ (some 28) _ = _
       simp only [Act.put,sa_,sb_,sc_,a_r,a_s]
       rfl
      refine a_y (i:=2) (N:=some 29) (v:=?_) (a':=?_) Z21_ rfl rfl (a_n HT_.out (by kernel_rfl)) (fun _ _ _ h => h) (Or.inl ⟨by rfl,?_⟩) ?_ ?_
      rotate_left
      ·intro w'
       go_simp
       with_reducible rfl
      rotate_left
      ·simp only [Act.put,sa_,sb_,sc_,a_r,a_s]
       rfl
      refine a_y (i:=3) (N:=some 30) (v:=?_) (a':=?_) Z26_ rfl rfl (a_n HT_.out (by kernel_rfl)) (fun _ _ _ h => h) (Or.inl ⟨by rfl,?_⟩) ?_ ?_
      rotate_left
      ·intro w'
       go_simp
       with_reducible rfl
      rotate_left
      ·simp only [Act.put,sa_,sb_,sc_,a_r,a_s]
       rfl
      refine a_y (i:=4) (N:=some 31) (v:=?_) (a':=?_) Z30_ rfl rfl (a_n HT_.out (by kernel_rfl)) (fun _ _ _ h => h) (Or.inl ⟨by rfl,?_⟩) ?_ ?_
      rotate_left
      ·intro w'
       go_simp
       with_reducible rfl
      rotate_left
      ·simp only [Act.put,sa_,sb_,sc_,a_r,a_s]
       rfl
      refine a_y (i:=6) (N:=some 33) (v:=?_) (a':=?_) Z32_ rfl rfl (a_n HT_.out (by kernel_rfl)) (fun _ _ _ h => h) (Or.inl ⟨by rfl,?_⟩) ?_ ?_
      rotate_left
      ·intro w'
       go_simp
       with_reducible rfl
      rotate_left
      ·simp only [Act.put,sa_,sb_,sc_,a_r,a_s]
       rfl
      refine b_m (i:=5) (N:=some 32) (v:=?_) (a':=?_) Z39_ rfl rfl (a_L HT_.out HW_.out (by kernel_rfl)) (fun _ _ _ h => h) (Or.inl ⟨by rfl,?_⟩) hHeld ?_ ?_
      rotate_left
      ·rintro w' ⟨s0,s1,s2,s3,s4,s5⟩
       go_simp
       with_reducible rfl
      rotate_left
      ·simp only [Act.put,sa_,sb_,sc_,a_r,a_s]
       rfl
      refine b_m (i:=7) (N:=some 34) (v:=?_) (a':=?_) Z45_ rfl rfl (a_L HT_.out HW_.out (by kernel_rfl)) (fun _ _ _ h => h) (Or.inl ⟨by rfl,?_⟩) hHeld ?_ ?_
      rotate_left
      ·rintro w' ⟨s0,s1,s2,s3,s4,s5⟩
       go_simp
       with_reducible rfl
      rotate_left
      ·simp only [Act.put,sa_,sb_,sc_,a_r,a_s]
       rfl
      refine a_y (i:=8) (N:=some 35) (v:=?_) (a':=?_) Z54_ rfl rfl (a_n HT_.out (by kernel_rfl)) (fun _ _ _ h => h) (Or.inl ⟨by rfl,?_⟩) ?_ ?_
      rotate_left
      ·intro w'
       go_simp
       with_reducible rfl
      rotate_left
      ·simp only [Act.put,sa_,sb_,sc_,a_r,a_s]
       rfl
      refine a_y (i:=9) (N:=some 36) (v:=?_) (a':=?_) Z59_ rfl rfl (a_n HT_.out (by kernel_rfl)) (fun _ _ _ h => h) (Or.inl ⟨by rfl,?_⟩) ?_ ?_
      rotate_left
      ·intro w'
       go_simp
       with_reducible rfl
      rotate_left
      ·simp only [Act.put,sa_,sb_,sc_,a_r,a_s]
       rfl
      refine a_y (i:=10) (N:=some 37) (v:=?_) (a':=?_) Z63_ rfl rfl (a_n HT_.out (by kernel_rfl)) (fun _ _ _ h => h) (Or.inl ⟨by rfl,?_⟩) ?_ ?_
      rotate_left
      ·intro w'
       go_simp
       with_reducible rfl
      rotate_left
      ·simp only [Act.put,sa_,sb_,sc_,a_r,a_s]
       rfl
      refine a_y (i:=11) (N:=some 38) (v:=?_) (a':=?_) Z69_ rfl rfl (a_n HT_.out (by kernel_rfl)) (fun _ _ _ h => h) (Or.inl ⟨by rfl,?_⟩) ?_ ?_
      rotate_left
      ·intro w'
       go_simp
       with_reducible rfl
      rotate_left
      ·simp only [Act.put,sa_,sb_,sc_,a_r,a_s]
       rfl
      refine a_y (i:=12) (N:=some 39) (v:=?_) (a':=?_) Z75_ rfl rfl (a_n HT_.out (by kernel_rfl)) (fun _ _ _ h => h) (Or.inl ⟨by rfl,?_⟩) ?_ ?_
      rotate_left
      ·intro w'
       go_simp
       with_reducible rfl
      rotate_left
      ·simp only [Act.put,sa_,sb_,sc_,a_r,a_s]
       rfl
      refine a_y (i:=13) (N:=some 40) (v:=?_) (a':=?_) Z80_ rfl rfl (a_n HT_.out (by kernel_rfl)) (fun _ _ _ h => h) (Or.inl ⟨by rfl,?_⟩) ?_ ?_
      rotate_left
      ·intro w'
       go_simp
       with_reducible rfl
      rotate_left
      ·simp only [Act.put,sa_,sb_,sc_,a_r,a_s]
       rfl
      refine a_y (i:=14) (N:=some 41) (v:=?_) (a':=?_) Z84_ rfl rfl (a_n HT_.out (by kernel_rfl)) (fun _ _ _ h => h) (Or.inl ⟨by rfl,?_⟩) ?_ ?_
      rotate_left
      ·intro w'
       go_simp
       with_reducible rfl
      rotate_left
      ·simp only [Act.put,sa_,sb_,sc_,a_r,a_s]
       rfl
      refine a_y (i:=16) (N:=some 43) (v:=?_) (a':=?_) Z86_ rfl rfl (a_n HT_.out (by kernel_rfl)) (fun _ _ _ h => h) (Or.inl ⟨by rfl,?_⟩) ?_ ?_
      rotate_left
      ·intro w'
       go_simp
       with_reducible rfl
      rotate_left
      ·simp only [Act.put,sa_,sb_,sc_,a_r,a_s]
       rfl
      refine a_y (i:=17) (N:=some 44) (v:=?_) (a':=?_) Z87_ rfl rfl (a_n HT_.out (by kernel_rfl)) (fun _ _ _ h => h) (Or.inl ⟨by rfl,?_⟩) ?_ ?_
      rotate_left
      ·intro w'
       go_simp
       with_reducible rfl
      rotate_left
      ·simp only [Act.put,sa_,sb_,sc_,a_r,a_s]
       rfl
      refine a_y (i:=21) (N:=some 48) (v:=?_) (a':=?_) Z88_ rfl rfl (a_n HT_.out (by kernel_rfl)) (fun _ _ _ h => h) (Or.inl ⟨by rfl,?_⟩) ?_ ?_
      rotate_left
      ·intro w'
       go_simp
       with_reducible rfl
      rotate_left
      ·simp only [Act.put,sa_,sb_,sc_,a_r,a_s]
       rfl
      refine b_m (i:=15) (N:=some 42) (v:=?_) (a':=?_) v_u rfl rfl (a_L HT_.out HW_.out (by kernel_rfl)) (fun _ _ _ h => h) (Or.inl ⟨by rfl,?_⟩) hHeld ?_ ?_
      rotate_left
      ·rintro w' ⟨s0,s1,s2,s3,s4,s5⟩
       go_simp
       with_reducible rfl
      rotate_left
      ·simp only [Act.put,sa_,sb_,sc_,a_r,a_s]
       rfl
      refine a_y (i:=18) (N:=some 45) (v:=?_) (a':=?_) v_I rfl rfl (a_n HT_.out (by kernel_rfl)) (fun _ _ _ h => h) (Or.inl ⟨by rfl,?_⟩) ?_ ?_
      rotate_left
      ·intro w'
       go_simp
       with_reducible rfl
      rotate_left
      ·simp only [Act.put,sa_,sb_,sc_,a_r,a_s]
       rfl
      refine a_y (i:=19) (N:=some 46) (v:=?_) (a':=?_) v_X rfl rfl (a_n HT_.out (by kernel_rfl)) (fun _ _ _ h => h) (Or.inl ⟨by rfl,?_⟩) ?_ ?_
      rotate_left
      ·intro w'
       go_simp
       with_reducible rfl
      rotate_left
      ·simp only [Act.put,sa_,sb_,sc_,a_r,a_s]
       rfl
      refine b_m (i:=20) (N:=some 47) (v:=?_) (a':=?_) o_W rfl rfl (a_L HT_.out HW_.out (by kernel_rfl)) (fun _ _ _ h => h) (Or.inl ⟨by rfl,?_⟩) hHeld ?_ ?_
      rotate_left
      ·rintro w' ⟨s0,s1,s2,s3,s4,s5⟩
       go_simp
       with_reducible rfl
      rotate_left
      ·simp only [Act.put,sa_,sb_,sc_,a_r,a_s]
       rfl
      refine b_m (i:=22) (N:=some 49) (v:=?_) (a':=?_) o_7 rfl rfl (a_L HT_.out HW_.out (by kernel_rfl)) (fun _ _ _ h => h) (Or.inl ⟨by rfl,?_⟩) hHeld ?_ ?_
      rotate_left
      ·rintro w' ⟨s0,s1,s2,s3,s4,s5⟩
       go_simp
       with_reducible rfl
      rotate_left
      ·simp only [Act.put,sa_,sb_,sc_,a_r,a_s]
       rfl
      refine a_y (i:=23) (N:=some 50) (v:=?_) (a':=?_) o_U rfl rfl (a_n HT_.out (by kernel_rfl)) (fun _ _ _ h => h) (Or.inl ⟨by rfl,?_⟩) ?_ ?_
      rotate_left
      ·intro w'
       go_simp
       with_reducible rfl
      rotate_left
      ·simp only [Act.put,sa_,sb_,sc_,a_r,a_s]
       rfl
      refine a_y (i:=24) (N:=some 51) (v:=?_) (a':=?_) o_h rfl rfl (a_n HT_.out (by kernel_rfl)) (fun _ _ _ h => h) (Or.inl ⟨by rfl,?_⟩) ?_ ?_
      rotate_left
      ·intro w'
       go_simp
       with_reducible rfl
      rotate_left
      ·simp only [Act.put,sa_,sb_,sc_,a_r,a_s]
       rfl
      refine a_y (i:=25) (N:=some 52) (v:=?_) (a':=?_) o_X rfl rfl (a_n HT_.out (by kernel_rfl)) (fun _ _ _ h => h) (Or.inl ⟨by rfl,?_⟩) ?_ ?_
      rotate_left
      ·intro w'
       go_simp
       with_reducible rfl
      rotate_left
      ·simp only [Act.put,sa_,sb_,sc_,a_r,a_s]
       rfl
      refine e_T (c_u HT_.out (by kernel_rfl)) ?_
      try go_wp2
      go_ret
      exact ⟨by first|rfl|(simp [a_w,a_x] <;> rfl)|(simp only [← hji24];first|rfl|(simp [a_w,a_x] <;> rfl))|(simp [*, a_w,a_x] <;> rfl),by repeat (first|(with_reducible first|exact HB.out|apply a_g|apply a_f|apply a_h|refine a_d ?_ e_q.out|refine a_d ?_ g_m.out)|exact HB.out)⟩
     rw [if_neg c27] at H
     have c27b0 : decide (((a_o l0_0 x22_2).f0) ≤ ((a_o l0_0 (ji24)).f0)) = false:=decide_eq_false c27
     clear c27
     have H':=a_e.mk H
     clear H
     have p122 : 0 ≤ (x22_2 : Int):=of_decide_eq_true (by first|(with_reducible assumption)|assumption)
     have q122 : x22_2 < (l0_0.length : Int):=of_decide_eq_true (by first|(with_reducible assumption)|assumption)
     obtain ⟨ad122,A122_1,c122_1,e122,d_1,d_2,e_V,e_W⟩:=c_t c_V.out x22_2 p122 q122
     cases e122
     replace d_1:=(HB.out.cell (World.block_lt_of_cell? w _ d_1)).trans d_1
     replace d_2:=(HB.out.cell (World.block_lt_of_cell? w _ d_2)).trans d_2
     have g_k:=a_e.mk e_W
     have g_l:=a_e.mk e_V
     clear e_W e_V
     replace p122:=eq_true p122
     replace q122:=eq_true q122
     try go_wp2_with (first|((with_reducible refine a_U (N:=4) rfl ?_);refine a_H ?hg (N:=4) ?hd (cs:=#[.int .i64 0,.slice none 0 0]) (t:=27) ?hr ?_;(case hd => rfl);(case hg => rfl);(case hr => first|(go_simp;done)|(go_simp;rfl));intro b_R hg w34 hbox hb;have b_Y:=a_e.mk (hbox);have r_t:=a_e.mk ((by rw [hg];exact (a_p (by repeat (first|(with_reducible first|exact HB.out|apply a_g|apply a_f|apply a_h|refine a_d ?_ e_q.out)|exact HB.out))) : w.heap.size ≤ b_R));have g_m:=a_e.mk ((by rw [hg];exact (a_p (by repeat (first|(with_reducible first|exact HB.out|apply a_g|apply a_f|apply a_h|refine a_d ?_ e_q.out)|exact HB.out))) : w.heap.size ≤ b_R));have c_H:=a_e.mk ((by rw [hg];exact Nat.ne_of_lt (a_N (bup_ b_C.out)) : e_u ≠ b_R));have e_X:=a_e.mk ((by rw [hg];exact Nat.ne_of_gt (a_N (bup_ b_C.out)) : b_R ≠ e_u));replace b_C:=a_e.mk (a_l (bup_ b_C.out) hb);replace HB:=a_e.mk (a_t (by repeat (first|(with_reducible first|exact HB.out|apply a_g|apply a_f|apply a_h|refine a_d ?_ e_q.out)|exact HB.out)) hb);clear hb hbox hg;have A_7:=e_X.out;have A_8:=c_H.out;have t_h : w34.cell? ⟨b_R,0,none⟩ = some (.int .i64 0):=(a_a b_Y.out 0).trans rfl;have t_i : w34.cell? ⟨b_R,1,none⟩ = some (.slice none 0 0):=(a_a b_Y.out 1).trans rfl;have t_j:=a_b b_Y.out 0;have t_k:=a_b b_Y.out 1))
     have n0_ : a_e (((w34.setCell ⟨b_R,0,none⟩ (.int .i64 ((a_o l0_0 x22_2).f0))).setCell ⟨b_R,1,none⟩ (.slice A122_1 ((a_o l0_0 x22_2).f1).length c122_1)).heap[e_u]? = some (.cells #[.slice (some ad122) l0_0.length c0_0,.int .i64 a0_1] 24 (0,0))):=⟨by (with_reducible repeat (first|refine a_j ?_ _|refine a_k ?_|refine a_i ?_ _));refine a_B ?_ c_H.out _;(with_reducible repeat (first|refine a_j ?_ _|refine a_k ?_|refine a_i ?_ _));refine a_B ?_ c_H.out _;(with_reducible repeat (first|refine a_j ?_ _|refine a_k ?_|refine a_i ?_ _));exact b_C.out⟩
     have n1_ : a_e (((w34.setCell ⟨b_R,0,none⟩ (.int .i64 ((a_o l0_0 x22_2).f0))).setCell ⟨b_R,1,none⟩ (.slice A122_1 ((a_o l0_0 x22_2).f1).length c122_1)).heap[b_R]? = some (.cells #[.int .i64 ((a_o l0_0 x22_2).f0),.slice A122_1 ((a_o l0_0 x22_2).f1).length c122_1] 27 (0,0))):=⟨by (with_reducible repeat (first|refine a_j ?_ _|refine a_k ?_|refine a_i ?_ _));refine a_J (cs:=#[.int .i64 ((a_o l0_0 x22_2).f0),.slice none 0 0]) ?_ 1 _ rfl;(with_reducible repeat (first|refine a_j ?_ _|refine a_k ?_|refine a_i ?_ _));refine a_J (cs:=#[.int .i64 0,.slice none 0 0]) ?_ 0 _ rfl;(with_reducible repeat (first|refine a_j ?_ _|refine a_k ?_|refine a_i ?_ _));exact b_Y.out⟩
     have n2_ : a_e (Below w.heap.size w ((w34.setCell ⟨b_R,0,none⟩ (.int .i64 ((a_o l0_0 x22_2).f0))).setCell ⟨b_R,1,none⟩ (.slice A122_1 ((a_o l0_0 x22_2).f1).length c122_1))):=⟨by repeat (first|(with_reducible first|exact HB.out|apply a_g|apply a_f|apply a_h|refine a_d ?_ e_q.out|refine a_d ?_ g_m.out)|exact HB.out)⟩
     (try clear b_C)
     (try clear b_Y)
     (try clear HB)
     generalize ((w34.setCell ⟨b_R,0,none⟩ (.int .i64 ((a_o l0_0 x22_2).f0))).setCell ⟨b_R,1,none⟩ (.slice A122_1 ((a_o l0_0 x22_2).f1).length c122_1)) = w37 at n0_ n1_ n2_ ⊢
     have b_C:=n0_
     have b_Y:=n1_
     have HB:=n2_
     clear n0_ n1_ n2_
     replace b_C:=a_e.mk (a_k b_C.out)
     replace b_Y:=a_e.mk (a_k b_Y.out)
     replace HB:=a_e.mk (a_h HB.out)
     have p125 : 0 ≤ ((ji24) : Int):=of_decide_eq_true (by first|(with_reducible assumption)|assumption)
     have q125 : (ji24) < (l0_0.length : Int):=of_decide_eq_true (by first|(with_reducible assumption)|assumption)
     obtain ⟨ad125,A125_1,c125_1,e125,f_E,f_F,j_x,j_y⟩:=c_t c_V.out (ji24) p125 q125
     have g_n:=f_F
     have g_o:=f_E
     obtain rfl : ad122 = ad125:=(by injection e125)
     replace f_E:=(HB.out.cell (World.block_lt_of_cell? w _ f_E)).trans f_E
     replace f_F:=(HB.out.cell (World.block_lt_of_cell? w _ f_F)).trans f_F
     have m_B:=a_e.mk j_y
     have t_g:=a_e.mk j_x
     clear j_y j_x
     replace p125:=eq_true p125
     replace q125:=eq_true q125
     refine d_H (n:=26) (S:=fun w' => w'.cell? ⟨b_R,0,none⟩ = some (.int .i64 ((a_o l0_0 x22_2).f0)) ∧ w'.cell? ⟨b_R,1,none⟩ = some (.slice A122_1 ((a_o l0_0 x22_2).f1).length c122_1) ∧ w'.cell? ⟨e_u,0,none⟩ = some (.slice (some ad122) l0_0.length c0_0) ∧ w'.cell? ⟨e_u,1,none⟩ = some (.int .i64 a0_1) ∧ w'.cell? (ad122.add (((ji24)).toNat * 2)) = some (.int .i64 ((a_o l0_0 (ji24)).f0)) ∧ w'.cell? ⟨(ad122.add (((ji24)).toNat * 2)).block,(ad122.add (((ji24)).toNat * 2)).off + 1,none⟩ = some (.slice A125_1 ((a_o l0_0 (ji24)).f1).length c125_1)) (ds:=[]) Z2_ (by kernel_rfl) rfl rfl ⟨(a_a b_Y.out 0).trans rfl,(a_a b_Y.out 1).trans rfl,(a_a b_C.out 0).trans rfl,(a_a b_C.out 1).trans rfl,((HB.out.cell (World.block_lt_of_cell? w _ g_o)).trans g_o),((HB.out.cell (World.block_lt_of_cell? w _ g_n)).trans g_n)⟩ (fun hHeld => ?_);refine b_Q a_A.tab6 a_A.f_W (fun HT_ HW_ => ?_)
     generalize w37.drew = w38 at b_C b_Y HB m_B f_E f_F hHeld ⊢
     refine b_m (i:=0) (N:=some 27) (v:=?_) (a':=?_) Z8_ rfl rfl (a_L HT_.out HW_.out (by kernel_rfl)) (fun _ _ _ h => h) (Or.inl ⟨by rfl,?_⟩) hHeld ?_ ?_
     rotate_left
     ·rintro w' ⟨s0,s1,s2,s3,s4,s5⟩
      go_simp
      with_reducible rfl
     rotate_left
     ·simp only [Act.put,sa_,sb_,sc_,a_r,a_s]
      rfl
     refine one_ (i:=1) (N:=some 28) Z15_ rfl rfl (c_e HT_.out (by kernel_rfl)) (by decide) (fun K hK => ?_)
     refine e_I Try.func24 (by kernel_rfl) rfl #[.agg #[.int .i64 ((a_o l0_0 x22_2).f0),.slice A122_1 ((a_o l0_0 x22_2).f1).length c122_1]] (by rfl) rfl rfl (by (try simp only [List.map_toArray,List.map_cons,List.map_nil]);first|done|rfl|(simp only [List.length_drop,List.length_take];rfl)) ?_
     with_reducible refine (a_G.calls k2 ((a_o l0_0 x22_2).f0) _ _ ((a_o l0_0 x22_2).f1) true _ ?side1 ?side2 A14.out).mono ?_
     (case side1 => repeat (first|exact (Kd.b_f g_k.out HB.out)|(with_reducible refine Kd.a_9 ?_ _)|(with_reducible refine Kd.a_8 ?_ _)|(with_reducible refine Kd.b_i ?_)))
     (case side2 => exact g_l.out)
     rintro e w39 ⟨rfl,hb⟩
     refine ⟨_,rfl,?_⟩
     replace b_C:=a_e.mk (a_l (bup_ b_C.out) hb)
     replace b_Y:=a_e.mk (a_l (bup_ b_Y.out) hb)
     replace HB:=a_e.mk (a_t (by repeat (first|(with_reducible first|exact HB.out|apply a_g|apply a_f|apply a_h|refine a_d ?_ e_q.out|refine a_d ?_ g_m.out)|exact HB.out)) hb)
     (try clear hb)
     (try clear hb2)
     (try clear hk)
     (try clear hi)
     refine hK.out _ _ ⟨(a_a b_Y.out 0).trans rfl,(a_a b_Y.out 1).trans rfl,(a_a b_C.out 0).trans rfl,(a_a b_C.out 1).trans rfl,((HB.out.cell (World.block_lt_of_cell? w _ g_o)).trans g_o),((HB.out.cell (World.block_lt_of_cell? w _ g_n)).trans g_n)⟩ (fun hHeld => ?_)
     clear hK K
     refine d_U (a':=?_) ?_ ?_
     rotate_left
     ·show Act.put _ (some 28) _ = _
      simp only [Act.put,sa_,sb_,sc_,a_r,a_s]
      rfl
     refine a_y (i:=2) (N:=some 29) (v:=?_) (a':=?_) Z21_ rfl rfl (a_n HT_.out (by kernel_rfl)) (fun _ _ _ h => h) (Or.inl ⟨by rfl,?_⟩) ?_ ?_
     rotate_left
     ·intro w'
      go_simp
      with_reducible rfl
     rotate_left
     ·simp only [Act.put,sa_,sb_,sc_,a_r,a_s]
      rfl
     refine a_y (i:=3) (N:=some 30) (v:=?_) (a':=?_) Z26_ rfl rfl (a_n HT_.out (by kernel_rfl)) (fun _ _ _ h => h) (Or.inl ⟨by rfl,?_⟩) ?_ ?_
     rotate_left
     ·intro w'
      go_simp
      with_reducible rfl
     rotate_left
     ·simp only [Act.put,sa_,sb_,sc_,a_r,a_s]
      rfl
     refine a_y (i:=4) (N:=some 31) (v:=?_) (a':=?_) Z30_ rfl rfl (a_n HT_.out (by kernel_rfl)) (fun _ _ _ h => h) (Or.inl ⟨by rfl,?_⟩) ?_ ?_
     rotate_left
     ·intro w'
      go_simp
      with_reducible rfl
     rotate_left
     ·simp only [Act.put,sa_,sb_,sc_,a_r,a_s]
      rfl
     refine a_y (i:=6) (N:=some 33) (v:=?_) (a':=?_) Z32_ rfl rfl (a_n HT_.out (by kernel_rfl)) (fun _ _ _ h => h) (Or.inl ⟨by rfl,?_⟩) ?_ ?_
     rotate_left
     ·intro w'
      go_simp
      with_reducible rfl
     rotate_left
     ·simp only [Act.put,sa_,sb_,sc_,a_r,a_s]
      rfl
     refine b_m (i:=5) (N:=some 32) (v:=?_) (a':=?_) Z39_ rfl rfl (a_L HT_.out HW_.out (by kernel_rfl)) (fun _ _ _ h => h) (Or.inl ⟨by rfl,?_⟩) hHeld ?_ ?_
     rotate_left
     ·rintro w' ⟨s0,s1,s2,s3,s4,s5⟩
      go_simp
      with_reducible rfl
     rotate_left
     ·simp only [Act.put,sa_,sb_,sc_,a_r,a_s]
      rfl
     refine b_m (i:=7) (N:=some 34) (v:=?_) (a':=?_) Z45_ rfl rfl (a_L HT_.out HW_.out (by kernel_rfl)) (fun _ _ _ h => h) (Or.inl ⟨by rfl,?_⟩) hHeld ?_ ?_
     rotate_left
     ·rintro w' ⟨s0,s1,s2,s3,s4,s5⟩
      go_simp
      with_reducible rfl
     rotate_left
     ·simp only [Act.put,sa_,sb_,sc_,a_r,a_s]
      rfl
     refine a_y (i:=8) (N:=some 35) (v:=?_) (a':=?_) Z54_ rfl rfl (a_n HT_.out (by kernel_rfl)) (fun _ _ _ h => h) (Or.inl ⟨by rfl,?_⟩) ?_ ?_
     rotate_left
     ·intro w'
      go_simp
      with_reducible rfl
     rotate_left
     ·simp only [Act.put,sa_,sb_,sc_,a_r,a_s]
      rfl
     refine a_y (i:=9) (N:=some 36) (v:=?_) (a':=?_) Z59_ rfl rfl (a_n HT_.out (by kernel_rfl)) (fun _ _ _ h => h) (Or.inl ⟨by rfl,?_⟩) ?_ ?_
     rotate_left
     ·intro w'
      go_simp
      with_reducible rfl
     rotate_left
     ·simp only [Act.put,sa_,sb_,sc_,a_r,a_s]
      rfl
     refine a_y (i:=10) (N:=some 37) (v:=?_) (a':=?_) Z63_ rfl rfl (a_n HT_.out (by kernel_rfl)) (fun _ _ _ h => h) (Or.inl ⟨by rfl,?_⟩) ?_ ?_
     rotate_left
     ·intro w'
      go_simp
      with_reducible rfl
     rotate_left
     ·simp only [Act.put,sa_,sb_,sc_,a_r,a_s]
      rfl
     refine a_y (i:=11) (N:=some 38) (v:=?_) (a':=?_) Z69_ rfl rfl (a_n HT_.out (by kernel_rfl)) (fun _ _ _ h => h) (Or.inl ⟨by rfl,?_⟩) ?_ ?_
     rotate_left
     ·intro w'
      go_simp
      with_reducible rfl
     rotate_left
     ·simp only [Act.put,sa_,sb_,sc_,a_r,a_s]
      rfl
     refine a_y (i:=12) (N:=some 39) (v:=?_) (a':=?_) Z75_ rfl rfl (a_n HT_.out (by kernel_rfl)) (fun _ _ _ h => h) (Or.inl ⟨by rfl,?_⟩) ?_ ?_
     rotate_left
     ·intro w'
      go_simp
      with_reducible rfl
     rotate_left
     ·simp only [Act.put,sa_,sb_,sc_,a_r,a_s]
      rfl
     refine a_y (i:=13) (N:=some 40) (v:=?_) (a':=?_) Z80_ rfl rfl (a_n HT_.out (by kernel_rfl)) (fun _ _ _ h => h) (Or.inl ⟨by rfl,?_⟩) ?_ ?_
     rotate_left
     ·intro w'
      go_simp
      with_reducible rfl
     rotate_left
     ·simp only [Act.put,sa_,sb_,sc_,a_r,a_s]
      rfl
     refine a_y (i:=14) (N:=some 41) (v:=?_) (a':=?_) Z84_ rfl rfl (a_n HT_.out (by kernel_rfl)) (fun _ _ _ h => h) (Or.inl ⟨by rfl,?_⟩) ?_ ?_
     rotate_left
     ·intro w'
      go_simp
      with_reducible rfl
     rotate_left
     ·simp only [Act.put,sa_,sb_,sc_,a_r,a_s]
      rfl
     refine a_y (i:=16) (N:=some 43) (v:=?_) (a':=?_) Z86_ rfl rfl (a_n HT_.out (by kernel_rfl)) (fun _ _ _ h => h) (Or.inl ⟨by rfl,?_⟩) ?_ ?_
     rotate_left
     ·intro w'
      go_simp
      with_reducible rfl
     rotate_left
     ·simp only [Act.put,sa_,sb_,sc_,a_r,a_s]
      rfl
     refine a_y (i:=17) (N:=some 44) (v:=?_) (a':=?_) Z87_ rfl rfl (a_n HT_.out (by kernel_rfl)) (fun _ _ _ h => h) (Or.inl ⟨by rfl,?_⟩) ?_ ?_
     rotate_left
     ·intro w'
      go_simp
      with_reducible rfl
     rotate_left
     ·simp only [Act.put,sa_,sb_,sc_,a_r,a_s]
      rfl
     refine a_y (i:=21) (N:=some 48) (v:=?_) (a':=?_) Z88_ rfl rfl (a_n HT_.out (by kernel_rfl)) (fun _ _ _ h => h) (Or.inl ⟨by rfl,?_⟩) ?_ ?_
     rotate_left
     ·intro w'
      go_simp
      with_reducible rfl
     rotate_left
     ·simp only [Act.put,sa_,sb_,sc_,a_r,a_s]
      rfl
     refine b_m (i:=15) (N:=some 42) (v:=?_) (a':=?_) v_u rfl rfl (a_L HT_.out HW_.out (by kernel_rfl)) (fun _ _ _ h => h) (Or.inl ⟨by rfl,?_⟩) hHeld ?_ ?_
     rotate_left
     ·rintro w' ⟨s0,s1,s2,s3,s4,s5⟩
      go_simp
      with_reducible rfl
     rotate_left
     ·simp only [Act.put,sa_,sb_,sc_,a_r,a_s]
      rfl
     refine a_y (i:=18) (N:=some 45) (v:=?_) (a':=?_) v_I rfl rfl (a_n HT_.out (by kernel_rfl)) (fun _ _ _ h => h) (Or.inl ⟨by rfl,?_⟩) ?_ ?_
     rotate_left
     ·intro w'
      go_simp
      with_reducible rfl
     rotate_left
     ·simp only [Act.put,sa_,sb_,sc_,a_r,a_s]
      rfl
     refine a_y (i:=19) (N:=some 46) (v:=?_) (a':=?_) v_X rfl rfl (a_n HT_.out (by kernel_rfl)) (fun _ _ _ h => h) (Or.inl ⟨by rfl,?_⟩) ?_ ?_
     rotate_left
     ·intro w'
      go_simp
      with_reducible rfl
     rotate_left
     ·simp only [Act.put,sa_,sb_,sc_,a_r,a_s]
      rfl
     refine b_m (i:=20) (N:=some 47) (v:=?_) (a':=?_) o_W rfl rfl (a_L HT_.out HW_.out (by kernel_rfl)) (fun _ _ _ h => h) (Or.inl ⟨by rfl,?_⟩) hHeld ?_ ?_
     rotate_left
     ·rintro w' ⟨s0,s1,s2,s3,s4,s5⟩
      go_simp
      with_reducible rfl
     rotate_left
     ·simp only [Act.put,sa_,sb_,sc_,a_r,a_s]
      rfl
     refine b_m (i:=22) (N:=some 49) (v:=?_) (a':=?_) o_7 rfl rfl (a_L HT_.out HW_.out (by kernel_rfl)) (fun _ _ _ h => h) (Or.inl ⟨by rfl,?_⟩) hHeld ?_ ?_
     rotate_left
     ·rintro w' ⟨s0,s1,s2,s3,s4,s5⟩
      go_simp
      with_reducible rfl
     rotate_left
     ·simp only [Act.put,sa_,sb_,sc_,a_r,a_s]
      rfl
     refine a_y (i:=23) (N:=some 50) (v:=?_) (a':=?_) o_U rfl rfl (a_n HT_.out (by kernel_rfl)) (fun _ _ _ h => h) (Or.inl ⟨by rfl,?_⟩) ?_ ?_
     rotate_left
     ·intro w'
      go_simp
      with_reducible rfl
     rotate_left
     ·simp only [Act.put,sa_,sb_,sc_,a_r,a_s]
      rfl
     refine a_y (i:=24) (N:=some 51) (v:=?_) (a':=?_) o_h rfl rfl (a_n HT_.out (by kernel_rfl)) (fun _ _ _ h => h) (Or.inl ⟨by rfl,?_⟩) ?_ ?_
     rotate_left
     ·intro w'
      go_simp
      with_reducible rfl
     rotate_left
     ·simp only [Act.put,sa_,sb_,sc_,a_r,a_s]
      rfl
     refine a_y (i:=25) (N:=some 52) (v:=?_) (a':=?_) o_X rfl rfl (a_n HT_.out (by kernel_rfl)) (fun _ _ _ h => h) (Or.inl ⟨by rfl,?_⟩) ?_ ?_
     rotate_left
     ·intro w'
      go_simp
      with_reducible rfl
     rotate_left
     ·simp only [Act.put,sa_,sb_,sc_,a_r,a_s]
      rfl
     refine e_T (c_u HT_.out (by kernel_rfl)) ?_
     try go_wp2
     go_roundg k2
     case measure => have:=HJ1.out;have:=HK2.out;omega
     case rel => exact ⟨(wrap64 (x22_2 + 1)),(by first|rfl|(simp;done)|(simp [*];done)),H',⟨by have:=HJ1.out;have:=HK2.out;omega⟩,⟨by (with_reducible repeat (first|refine a_j ?_ _|refine a_k ?_|refine a_i ?_ _));exact b_C.out⟩,⟨by repeat (first|(with_reducible first|exact HB.out|apply a_g|apply a_f|apply a_h|refine a_d ?_ e_q.out|refine a_d ?_ g_m.out)|exact HB.out)⟩⟩
end Go.Proofs.Ytgglkfilkagblaa.Q
end
section
namespace Go.Proofs.Ytgglkfilkagblaa.Q
open Go.RowKit Go.Proofs.YtgglkfilkagblaaW.PrintWords Go.Proofs.YtgglkfilkagblaaW.PrintLast Go.Proofs.YtgglkfilkagblaaW.PrintMore
set_option linter.unusedVariables false
set_option linter.unusedSimpArgs false
def d_R.f (l0 : List (S27)) : Option ((List (S27))):=(some (([] : List (S27)) : List (S27))).bind fun y126 => (if y126.length + l0.length < 4398046511104 then (some (y126 ++ l0)) else (none))
set_option maxHeartbeats 8000000 in
set_option maxRecDepth 100000 in
theorem Kd.v_L {α : Type} {d : Kd α} {w : World} {n : Nat} {xs : List α} (h : d.C w none n xs) : xs = []:=by
 cases xs with
 | nil => rfl
 | cons x xs =>
  obtain ⟨e,_,hp⟩:=h
  obtain ⟨a,ha,_⟩:=hp (by rw [← e];simp)
  cases ha
theorem d_R.calls (P0_ : Nat → Prop) (A0 : Option Addr) (c0 : Nat) (l0 : List (S27)) (r : List (S27)) (w : World) (hs0 : Kd.V k27 27 w w.heap.size (fun k_ => P0_ k_) (.slice A0 l0.length c0) l0) (h : d_R.f l0 = some r) :
 Calls Try.prog 25 #[.slice A0 l0.length c0] w fun e w' => ∃ v0_ : Value,e = .returned (v0_) ∧ Kd.N k27 27 w' w.heap.size (fun k_ => (P0_ k_ ∨ w.heap.size ≤ k_)) v0_ r ∧ Below w.heap.size w w':=by
 cases A0 with
 | none =>
  have hz_ : l0 = []:=Kd.v_L (Kd.b_n hs0).2.2
  subst hz_
  obtain rfl : r = []:=by simp only [d_R.f] at h;first|exact (Option.some.inj h).symm|(simp at h;exact h.symm)|(simpa using h.symm)
  have hnil_ := @Lib.run_eql_slice_nil Try.prog
  go_enter Try.func25,Try.ntmps25
  go_wp2
  go_ret
  exact ⟨_,rfl,Kd.i_U _ _ _ _ _,Below.refl _ _⟩
 | some ad0_ =>
  have hnil_ := @Lib.run_eql_slice_nil Try.prog
  have HO0:=a_e.mk (show Kd.V k27 27 w w.heap.size (fun k_ => (P0_ k_ ∨ w.heap.size ≤ k_)) (.slice (some ad0_) l0.length c0) l0 from Kd.b_X hs0 (fun k_ hk => .inl hk))
  have HB:=a_e.mk (Below.refl w.heap.size w)
  have H : ((some (([] : List (S27)) : List (S27))).bind fun y126 => (if y126.length + l0.length < 4398046511104 then (some (y126 ++ l0)) else (none))) = some r:=h
  clear h
  obtain ⟨y126,hy126⟩ : ∃ y_ : List (S27),y_ = (([] : List (S27))):=⟨_,rfl⟩
  replace H : (if y126.length + l0.length < 4398046511104 then (some (y126 ++ l0)) else (none)) = some r:=by first|(rw [hy126];with_reducible exact H)|(have H2_:=(Option.bind_some _ _).symm.trans H;rw [hy126];with_reducible exact H2_)|(have H2_:=(Option.bind_some _ _).symm.trans H;with_reducible exact H2_)|with_reducible exact H|(rw [hy126];exact H)|exact H
  have Ny126:=a_e.mk hy126
  clear hy126
  by_cases c2 : y126.length + l0.length < 4398046511104
  rotate_left
  ·rw [if_neg c2] at H
   exact absurd H (by simp)
  rw [if_pos c2] at H
  have LMc2:=a_e.mk c2
  clear c2
  obtain ⟨y129,hy129⟩ : ∃ y_ : List (S27),y_ = (y126 ++ l0):=⟨_,rfl⟩
  replace H : (some y129) = some r:=by first|(rw [hy129];with_reducible exact H)|(have H2_:=(Option.bind_some _ _).symm.trans H;rw [hy129];with_reducible exact H2_)|(have H2_:=(Option.bind_some _ _).symm.trans H;with_reducible exact H2_)|with_reducible exact H|(rw [hy129];exact H)|exact H
  have Ny129:=a_e.mk hy129
  clear hy129
  obtain rfl:=Option.some.inj H
  go_enter Try.func25,Try.ntmps25
  go_wp2_with (first|((with_reducible refine a_U (N:=5) rfl ?_);refine Kd.z_9 k27 _ 27 ?hg (N':=5) ?hd (xs:=([] : List (S27))) (inner:=[]) (ok:=(fun k_ => (P0_ k_ ∨ w.heap.size ≤ k_))) (okp:=(fun k_ => (P0_ k_ ∨ w.heap.size ≤ k_))) ?hr ?hp (fun _ hk => hk) ((show ∀ k_,w.heap.size ≤ k_ → (fun k_ => (P0_ k_ ∨ w.heap.size ≤ k_)) k_ from fun k_ hk => (.inr (Nat.le_trans (a_p (lup_ HB.out)) hk))) _ (Nat.le_refl _)) (Below.refl _ _) (Nat.le_refl _) (by simp) ?_;(case hd => rfl);(case hg => rfl);(case hr => first|(go_simp;done)|(go_simp;rfl));(case hp => exact (Reps.none _ _));intro v127 w3 ho4 hb hg_ hnew_;clear hg_ hnew_;(first|rw [← Ny126.out] at ho4|(simp only [Int.reduceToNat] at ho4;rw [← Ny126.out] at ho4));have w_p:=a_e.mk (Kd.i_e ho4 (a_p (lup_ HB.out)));replace HO0:=a_e.mk (Kd.g_X (by (with_reducible repeat (first|apply Kd.a_Q|apply Kd.a_O|apply Kd.a_W));exact HO0.out) (Kd.g_H ho4) hb);replace HB:=a_e.mk (a_t (lup_ HB.out) hb);clear hb ho4)|((with_reducible refine i_G (b:=.append) (xs:=#[.tmp 5,.tmp 6]) rfl ?_);at_builtin;refine Kd.k_L k27 (w0:=w) w.heap.size rfl (.tmp 5) (.tmp 6) 22 27 (.agg #[(.int .i64 0),(.slice none 0 0)]) 32 rfl Try.underlying22 i_E rfl (by decide) (by omega) v127 y126 l0 _ _ _ (fun k_ => (P0_ k_ ∨ w.heap.size ≤ k_)) (fun k_ => ((fun k_ => (P0_ k_ ∨ w.heap.size ≤ k_))) k_ ∧ some k_ ≠ (v127 : Value).ownBlock) rfl rfl ?aO ?aR (fun _ hk => hk) ?aF ?aB ?aS ?aL ?_;(case aR => exact (by skip;exact Kd.V_F (Kd.b_X (ok':=(fun k_ => ((fun k_ => (P0_ k_ ∨ w.heap.size ≤ k_))) k_ ∧ some k_ ≠ (v127 : Value).ownBlock)) (HO0.out) (fun k_ hk => ⟨hk.1,hk.2⟩))));(case aB => exact (lup_ HB.out));(case aF => exact (fun k_ hk => (.inr (Nat.le_trans (a_p (lup_ HB.out)) hk))));(case aO => exact (by (with_reducible repeat (first|apply Kd.a_R|apply Kd.a_S|apply Kd.a_Z));exact w_p.out));(case aS => exact (a_p (lup_ HB.out)));(case aL => have:=LMc2.out;omega);intro v130 w5 ho hb hg hat;rw [← Ny129.out] at ho;have A_9:=a_e.mk (ho);replace HO0:=a_e.mk (Kd.e_S (ok:=(fun k_ => (P0_ k_ ∨ w.heap.size ≤ k_))) (by (with_reducible repeat (first|apply Kd.a_Q|apply Kd.a_O|apply Kd.a_W));exact HO0.out) hg hat);replace HB:=a_e.mk (hb);clear w_p ho hb hg hat))
  go_ret
  exact ⟨_,by first|rfl|(simp [a_w,a_x] <;> rfl)|(simp [*, a_w,a_x] <;> rfl),by (with_reducible repeat (first|apply Kd.a_R|apply Kd.a_S|apply Kd.a_Z));exact A_9.out,by repeat (first|(with_reducible first|exact HB.out|apply a_g|apply a_f|apply a_h)|exact HB.out)⟩
end Go.Proofs.Ytgglkfilkagblaa.Q
end
