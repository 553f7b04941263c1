/- Part 4 of 9 of what the row of AuditSums stands on: contracts over the given program's functions, the plain law, the row; no condition beyond those that each theorem states. -/
import Derived.Test.YtgglkfilkagblaaXAuditSums2
import Derived.RangeFuncNested
import Derived.RangeFuncBound
import Derived.RangeFuncCalls
import Derived.RangeFuncLeaves
import Derived.Shelf.RegionOpen
import Derived.OwnWalkIn
import Derived.TacticsInMore
import Derived.LoopNIn
import Derived.LoopIn
section
namespace Go.Proofs.Ytgglkfilkagblaa.Q
open Go.RowKit Go.Proofs.YtgglkfilkagblaaW.PrintWords Go.Proofs.YtgglkfilkagblaaW.PrintLast Go.Proofs.YtgglkfilkagblaaW.PrintMore
set_option linter.unusedVariables false
set_option linter.unusedSimpArgs false
mutual
def a_t.j0 : Nat → Bool → List (S27) → Int → Option (Int)
 | 0,_,_,_ => none
 | k + 1,x18,x122000,x122001 => if x18 = true then (some 390) else (a_t.l0 k x122000 (x122000.length : Int) 0 x122000 x122001)
def a_t.l0 : Nat → List (S27) → Int → Int → List (S27) → Int → Option (Int)
 | 0,_,_,_,_,_ => none
 | k + 1,x20,x21,x22,x122000,x122001 => if x22 < x21 then (if 0 ≤ x22 then (if x22 < (x20.length : Int) then ((a_y.f k ((a_p x20 x22).f0) ((a_p x20 x22).f1)).bind fun t124 => (if t124 = true then (if ((a_p x20 x22).f0) > x122001 then (some 390) else (if x22 > 0 then (if 0 ≤ (wrap64 (x22 - 1)) then (if (wrap64 (x22 - 1)) < (x122000.length : Int) then (if ((a_p x122000 (wrap64 (x22 - 1))).f0) ≥ ((a_p x20 x22).f0) then (some 390) else (a_t.l0 k x20 x21 (wrap64 (x22 + 1)) x122000 x122001)) else (none)) else (none)) else (a_t.l0 k x20 x21 (wrap64 (x22 + 1)) x122000 x122001))) else (some 390))) else (none)) else (none)) else (some 0)
end
def a_t.f (k : Nat) (l0_0 : List (S27)) (a0_1 : Int) : Option (Int):=if (l0_0.length : Int) > 2000 then (a_t.j0 k true l0_0 a0_1) else (if a0_1 < 0 then (a_t.j0 k true l0_0 a0_1) else (a_t.j0 k (decide (a0_1 > 1125899906842624)) l0_0 a0_1))
theorem a_t.c_8 : ∀ k,(∀ y0 y1 y2,LeO (a_t.j0 k y0 y1 y2) (a_t.j0 (k + 1) y0 y1 y2)) ∧ (∀ y0 y1 y2 y3 y4,LeO (a_t.l0 k y0 y1 y2 y3 y4) (a_t.l0 (k + 1) y0 y1 y2 y3 y4))
 | 0 => ⟨fun _ _ _ r h => by simp [a_t.j0] at h,fun _ _ _ _ _ r h => by simp [a_t.l0] at h⟩
 | k + 1 => by
  obtain ⟨ih0,ih1⟩:=a_t.c_8 k
  refine ⟨?_,?_⟩
  ·intro y0 y1 y2
   unfold a_t.j0
   repeat' first
   | (with_reducible exact ih0 _ _ _)
   | (with_reducible exact ih1 _ _ _ _ _)
   | (with_reducible exact a_y.mono _ _ _)
   | (with_reducible exact LeO.refl _)
   | (with_reducible exact LeO.none _)
   | (with_reducible refine LeO.ite ?_ ?_)
   | (with_reducible refine LeO.bind ?_ (fun _ => ?_))
   | exact ih0 _ _ _
   | exact ih1 _ _ _ _ _
   | exact a_y.mono _ _ _
   | exact LeO.none _
   | refine LeO.ite ?_ ?_
   | refine LeO.bind ?_ (fun _ => ?_)
  ·intro y0 y1 y2 y3 y4
   unfold a_t.l0
   repeat' first
   | (with_reducible exact ih0 _ _ _)
   | (with_reducible exact ih1 _ _ _ _ _)
   | (with_reducible exact a_y.mono _ _ _)
   | (with_reducible exact LeO.refl _)
   | (with_reducible exact LeO.none _)
   | (with_reducible refine LeO.ite ?_ ?_)
   | (with_reducible refine LeO.bind ?_ (fun _ => ?_))
   | exact ih0 _ _ _
   | exact ih1 _ _ _ _ _
   | exact a_y.mono _ _ _
   | exact LeO.none _
   | refine LeO.ite ?_ ?_
   | refine LeO.bind ?_ (fun _ => ?_)
theorem a_t.mono : ∀ a0 a1 k,LeO (a_t.f k a0 a1) (a_t.f (k + 1) a0 a1):=by
 intro a0 a1 k
 obtain ⟨ih0,ih1⟩:=a_t.c_8 k
 unfold a_t.f
 repeat' first
  | (with_reducible exact ih0 _ _ _)
  | (with_reducible exact ih1 _ _ _ _ _)
  | (with_reducible exact a_y.mono _ _ _)
  | (with_reducible exact LeO.refl _)
  | (with_reducible exact LeO.none _)
  | (with_reducible refine LeO.ite ?_ ?_)
  | (with_reducible refine LeO.bind ?_ (fun _ => ?_))
  | exact ih0 _ _ _
  | exact ih1 _ _ _ _ _
  | exact a_y.mono _ _ _
  | exact LeO.none _
  | refine LeO.ite ?_ ?_
  | refine LeO.bind ?_ (fun _ => ?_)
def a_t.T6 : Bool × List (List Nat × List Nat):=(true,[([],[]),([0],[0]),([1],[1]),([2,1],[2]),([3],[3]),([4,3],[3,4]),([3],[3]),([6,3],[3,6]),([5,7,3],[3,5,7]),([3,8],[3,8]),([9,3],[9]),([10],[10]),([11,10],[10,11]),([12,10,10],[10,12]),([13],[13]),([14,13],[13,14]),([13],[13]),([16,13],[13,16]),([15,17,13],[13,15,17]),([18,13],[13,18]),([19,13],[13,19]),([13],[13]),([21,13],[13,21]),([20,22,13],[13,20,22]),([13,23,10],[10,13,23]),([10,24],[10,24])])
def a_t.B6 : List Nat:=[0,1,3,7,15,31,15,79,255,511,1023,2047,4095,8191,16383,32767,16383,81919,262143,524287,1048575,16383,2113535,8388607,16777215,33554431]
theorem a_t.tab6 : rtab .any (opsOf Try.f14 6) = a_t.T6:=by kernel_rfl
theorem a_t.e_r : d_4 a_t.T6.2 a_t.B6 = true:=by kernel_rfl
set_option maxHeartbeats 8000000 in
set_option maxRecDepth 100000 in
theorem a_t.calls (k : Nat) (A0_0 : Option Addr) (c0_0 : Nat) (l0_0 : List (S27)) (a0_1 : Int) (r : Int) (w : World) (hr0_0 : Kd.C k27 w A0_0 l0_0.length l0_0) (hc0_0 : l0_0.length ≤ c0_0) (h : a_t.f k l0_0 a0_1 = some r) :
 Calls Try.prog 14 #[.agg #[.slice A0_0 l0_0.length c0_0,.int .i64 a0_1]] w fun e w' => e = .returned (.int .i64 r) ∧ Below w.heap.size w w':=by
 have hu24:=Try.underlying24
 have hu27:=Try.underlying27
 have b_5:=a_c.mk hr0_0
 have c_y:=a_c.mk hc0_0
 clear hr0_0 hc0_0
 have HB:=a_c.mk (Below.refl w.heap.size w)
 have H : (if (l0_0.length : Int) > 2000 then (a_t.j0 k true l0_0 a0_1) else (if a0_1 < 0 then (a_t.j0 k true l0_0 a0_1) else (a_t.j0 k (decide (a0_1 > 1125899906842624)) l0_0 a0_1))) = some r:=h
 clear h
 have HC2:=a_c.mk H
 clear H
 go_enter Try.func14,Try.ntmps14
 go_upto_region 1 with (first|((with_reducible refine a_M (N:=1) rfl ?_);refine a_G ?hg (N:=1) ?hd (cs:=#[.slice A0_0 l0_0.length c0_0,.int .i64 a0_1]) (t:=24) ?hr ?_;(case hd => rfl);(case hg => rfl);(case hr => first|(go_simp;done)|(go_simp;rfl));intro c_W hg w3 hbox hb;have b_i:=a_c.mk (hbox);have t_H:=a_c.mk ((by rw [hg];exact (a_n (lup_ HB.out)) : w.heap.size ≤ c_W));have c_S:=a_c.mk ((by rw [hg];exact (a_n (lup_ HB.out)) : w.heap.size ≤ c_W));replace HB:=a_c.mk (a_o (lup_ HB.out) hb);clear hb hbox hg))
 (try simp only [Act.put,sa_,sb_,sc_])
 go_cut [18] (fun v18 wc => ∃ (kq : Nat) (x18_1 : Bool),v18 = .bool x18_1 ∧ a_c (a_t.j0 kq x18_1 l0_0 a0_1 = some r) ∧ a_c (kq ≤ k) ∧ a_c (wc.heap[c_W]? = some (.cells #[(.slice A0_0 l0_0.length c0_0),.int .i64 a0_1] 24 (0,0))) ∧ a_c (Below w.heap.size w wc))
 case first =>
  have H:=HC2.out
  clear HC2
  by_cases c4 : (l0_0.length : Int) > 2000
  ·rw [if_pos c4] at H
   have c4b0 : decide (2000 < (l0_0.length : Int)) = true:=decide_eq_true c4
   have c4b1 : decide (2000 < l0_0.length) = true:=decide_eq_true (by omega)
   clear c4
   (first|rw [c4b0]|(simp only [a_r,a_s];rw [c4b0])|skip)
   have H':=a_c.mk H
   clear H
   have g_F : w3.cell? ⟨c_W,0,none⟩ = some (.slice A0_0 l0_0.length c0_0):=(a_a b_i.out 0).trans rfl
   have g_G : w3.cell? ⟨c_W,1,none⟩ = some (.int .i64 a0_1):=(a_a b_i.out 1).trans rfl
   have g_H:=a_e b_i.out 0
   have g_I:=a_e b_i.out 1
   go_wp2
   go_meet
   case rel => exact ⟨_,(true),(by first|rfl|(simp;done)|(simp [*];done)),H',⟨by first|omega|exact Nat.le_refl _⟩,⟨by (with_reducible repeat (first|refine a_j ?_ _|refine a_l ?_|refine a_i ?_ _));exact b_i.out⟩,⟨by repeat (first|(with_reducible first|exact HB.out|apply a_g|apply a_b|apply a_h|refine a_f ?_ c_S.out)|exact HB.out)⟩⟩
  rw [if_neg c4] at H
  have c4b0 : decide (2000 < (l0_0.length : Int)) = false:=decide_eq_false c4
  have c4b1 : decide (2000 < l0_0.length) = false:=decide_eq_false (by omega)
  clear c4
  (first|rw [c4b0]|(simp only [a_r,a_s];rw [c4b0])|skip)
  by_cases c6 : a0_1 < 0
  ·rw [if_pos c6] at H
   have c6b0 : decide (a0_1 < 0) = true:=decide_eq_true c6
   clear c6
   have H':=a_c.mk H
   clear H
   have g_J : w3.cell? ⟨c_W,0,none⟩ = some (.slice A0_0 l0_0.length c0_0):=(a_a b_i.out 0).trans rfl
   have g_K : w3.cell? ⟨c_W,1,none⟩ = some (.int .i64 a0_1):=(a_a b_i.out 1).trans rfl
   have g_L:=a_e b_i.out 0
   have g_M:=a_e b_i.out 1
   go_wp2
   go_meet
   case rel => exact ⟨_,(true),(by first|rfl|(simp;done)|(simp [*];done)),H',⟨by first|omega|exact Nat.le_refl _⟩,⟨by (with_reducible repeat (first|refine a_j ?_ _|refine a_l ?_|refine a_i ?_ _));exact b_i.out⟩,⟨by repeat (first|(with_reducible first|exact HB.out|apply a_g|apply a_b|apply a_h|refine a_f ?_ c_S.out)|exact HB.out)⟩⟩
  rw [if_neg c6] at H
  have c6b0 : decide (a0_1 < 0) = false:=decide_eq_false c6
  clear c6
  have H':=a_c.mk H
  clear H
  have j_U : w3.cell? ⟨c_W,0,none⟩ = some (.slice A0_0 l0_0.length c0_0):=(a_a b_i.out 0).trans rfl
  have j_V : w3.cell? ⟨c_W,1,none⟩ = some (.int .i64 a0_1):=(a_a b_i.out 1).trans rfl
  have j_W:=a_e b_i.out 0
  have j_X:=a_e b_i.out 1
  go_wp2
  go_meet
  case rel => exact ⟨_,(decide (a0_1 > 1125899906842624)),(by first|rfl|(simp;done)|(simp [*];done)),H',⟨by first|omega|exact Nat.le_refl _⟩,⟨by (with_reducible repeat (first|refine a_j ?_ _|refine a_l ?_|refine a_i ?_ _));exact b_i.out⟩,⟨by repeat (first|(with_reducible first|exact HB.out|apply a_g|apply a_b|apply a_h|refine a_f ?_ c_S.out)|exact HB.out)⟩⟩
 case rest =>
  clear HC2
  try clear c1
  try clear p2
  try clear c4
  try clear c4b0
  try clear c4b1
  try clear c6
  try clear c6b0
  try clear g_F
  try clear g_G
  try clear g_J
  try clear g_K
  try clear j_U
  try clear j_V
  try clear g_H
  try clear g_I
  try clear g_L
  try clear g_M
  try clear j_W
  try clear j_X
  obtain ⟨kq,x18_1,rfl,HA,HJ1,b_i,HB⟩:=hcut
  cases kq with
  | zero => exact absurd HA.out (by simp [a_t.j0])
  | succ kj1 =>
   have H:=HA.out
   clear HA
   simp only [a_t.j0] at H
   by_cases c9 : x18_1 = true
   ·subst c9
    have H1 : (some 390) = some r:=by rw [if_pos rfl] at H;exact H
    clear H
    have H:=H1
    clear H1
    obtain rfl:=Option.some.inj H
    go_wp2
    go_ret
    exact ⟨by first|rfl|(simp [a_v,a_u] <;> rfl)|(simp [*, a_v,a_u] <;> rfl),by repeat (first|(with_reducible first|exact HB.out|apply a_g|apply a_b|apply a_h|refine a_f ?_ c_S.out)|exact HB.out)⟩
   replace c9:=Bool.eq_false_iff.mpr c9
   subst c9
   have H1 : (a_t.l0 kj1 l0_0 (l0_0.length : Int) 0 l0_0 a0_1) = some r:=by rw [if_neg (show ¬ (false = true) by decide)] at H;exact H
   clear H
   have H:=H1
   clear H1
   have H':=a_c.mk H
   clear H
   have h_i : wc.cell? ⟨c_W,0,none⟩ = some (.slice A0_0 l0_0.length c0_0):=(a_a b_i.out 0).trans rfl
   have h_j : wc.cell? ⟨c_W,1,none⟩ = some (.int .i64 a0_1):=(a_a b_i.out 1).trans rfl
   have h_k:=a_e b_i.out 0
   have h_l:=a_e b_i.out 1
   go_wp2
   go_loopg [22] kj1 (fun kq v22 w' => ∃ (x22_2 : Int),v22 = .int .i64 x22_2 ∧ a_c (a_t.l0 kq l0_0 (l0_0.length : Int) x22_2 l0_0 a0_1 = some r) ∧ a_c (kq ≤ kj1) ∧ a_c (w'.heap[c_W]? = some (.cells #[(.slice A0_0 l0_0.length c0_0),.int .i64 a0_1] 24 (0,0))) ∧ a_c (Below w.heap.size w w'))
   case atStart => exact ⟨(0),(by first|rfl|(simp;done)|(simp [*];done)),H',⟨Nat.le_refl _⟩,⟨by (with_reducible repeat (first|refine a_j ?_ _|refine a_l ?_|refine a_i ?_ _));exact b_i.out⟩,⟨by repeat (first|(with_reducible first|exact HB.out|apply a_g|apply a_b|apply a_h|refine a_f ?_ c_S.out)|exact HB.out)⟩⟩
   case round =>
    clear H'
    try clear c1
    try clear p2
    try clear c4
    try clear c4b0
    try clear c4b1
    try clear c6
    try clear c6b0
    try clear c9
    try clear h_i
    try clear h_j
    try clear g_F
    try clear g_G
    try clear g_J
    try clear g_K
    try clear j_U
    try clear j_V
    try clear h_k
    try clear h_l
    try clear g_H
    try clear g_I
    try clear g_L
    try clear g_M
    try clear j_W
    try clear j_X
    try clear p2
    obtain ⟨x22_2,rfl,HA,HK2,b_i,HB⟩:=hrel
    cases gk with
    | zero => exact absurd HA.out (by simp [a_t.l0])
    | succ k2 =>
     have H:=HA.out
     clear HA
     simp only [a_t.l0] at H
     by_cases c11 : x22_2 < (l0_0.length : Int)
     rotate_left
     ·rw [if_neg c11] at H
      have c11b0 : decide (x22_2 < (l0_0.length : Int)) = false:=decide_eq_false c11
      clear c11
      obtain rfl:=Option.some.inj H
      go_wp2
      go_ret
      exact ⟨by first|rfl|(simp [a_v,a_u] <;> rfl)|(simp [*, a_v,a_u] <;> rfl),by repeat (first|(with_reducible first|exact HB.out|apply a_g|apply a_b|apply a_h|refine a_f ?_ c_S.out)|exact HB.out)⟩
     rw [if_pos c11] at H
     have c11b0 : decide (x22_2 < (l0_0.length : Int)) = true:=decide_eq_true c11
     clear c11
     by_cases c12 : 0 ≤ x22_2
     rotate_left
     ·rw [if_neg c12] at H
      exact absurd H (by simp)
     rw [if_pos c12] at H
     have c12b0 : decide (0 ≤ x22_2) = true:=decide_eq_true c12
     clear c12
     by_cases c13 : x22_2 < (l0_0.length : Int)
     rotate_left
     ·rw [if_neg c13] at H
      exact absurd H (by simp)
     rw [if_pos c13] at H
     have c13b0 : decide (x22_2 < (l0_0.length : Int)) = true:=decide_eq_true c13
     clear c13
     replace H:=Option.bind_eq_some_iff.mp H
     obtain ⟨t124,A140,H⟩:=H
     replace H : (if t124 = true then (if ((a_p l0_0 x22_2).f0) > a0_1 then (some 390) else (if x22_2 > 0 then (if 0 ≤ (wrap64 (x22_2 - 1)) then (if (wrap64 (x22_2 - 1)) < (l0_0.length : Int) then (if ((a_p l0_0 (wrap64 (x22_2 - 1))).f0) ≥ ((a_p l0_0 x22_2).f0) then (some 390) else (a_t.l0 k2 l0_0 (l0_0.length : Int) (wrap64 (x22_2 + 1)) l0_0 a0_1)) else (none)) else (none)) else (a_t.l0 k2 l0_0 (l0_0.length : Int) (wrap64 (x22_2 + 1)) l0_0 a0_1))) else (some 390)) = some r:=H
     have A14:=a_c.mk A140
     clear A140
     by_cases c15 : t124 = true
     rotate_left
     ·replace c15:=Bool.eq_false_iff.mpr c15
      subst c15
      have H1 : (some 390) = some r:=by rw [if_neg (show ¬ (false = true) by decide)] at H;exact H
      clear H
      have H:=H1
      clear H1
      obtain rfl:=Option.some.inj H
      have p122 : 0 ≤ (x22_2 : Int):=of_decide_eq_true (by first|(with_reducible assumption)|assumption)
      have q122 : x22_2 < (l0_0.length : Int):=of_decide_eq_true (by first|(with_reducible assumption)|assumption)
      obtain ⟨ad122,A122_1,c122_1,e122,c_L,c_M,d_e,d_f⟩:=d_K b_5.out x22_2 p122 q122
      cases e122
      replace c_L:=(HB.out.cell (World.block_lt_of_cell? w _ c_L)).trans c_L
      replace c_M:=(HB.out.cell (World.block_lt_of_cell? w _ c_M)).trans c_M
      have d_T:=a_c.mk d_f
      have d_U:=a_c.mk d_e
      clear d_f d_e
      replace p122:=eq_true p122
      replace q122:=eq_true q122
      try go_wp2_with (first|((with_reducible refine a_M (N:=4) rfl ?_);refine a_G ?hg (N:=4) ?hd (cs:=#[.int .i64 0,.slice none 0 0]) (t:=27) ?hr ?_;(case hd => rfl);(case hg => rfl);(case hr => first|(go_simp;done)|(go_simp;rfl));intro b_s hg w46 hbox hb;have b_u:=a_c.mk (hbox);have l_O:=a_c.mk ((by rw [hg];exact (a_n (by repeat (first|(with_reducible first|exact HB.out|apply a_g|apply a_b|apply a_h|refine a_f ?_ c_S.out)|exact HB.out))) : w.heap.size ≤ b_s));have d_V:=a_c.mk ((by rw [hg];exact (a_n (by repeat (first|(with_reducible first|exact HB.out|apply a_g|apply a_b|apply a_h|refine a_f ?_ c_S.out)|exact HB.out))) : w.heap.size ≤ b_s));have b_0:=a_c.mk ((by rw [hg];exact Nat.ne_of_lt (a_J (bup_ b_i.out)) : c_W ≠ b_s));have d_g:=a_c.mk ((by rw [hg];exact Nat.ne_of_gt (a_J (bup_ b_i.out)) : b_s ≠ c_W));replace b_i:=a_c.mk (a_m (bup_ b_i.out) hb);replace HB:=a_c.mk (a_o (by repeat (first|(with_reducible first|exact HB.out|apply a_g|apply a_b|apply a_h|refine a_f ?_ c_S.out)|exact HB.out)) hb);clear hb hbox hg;have t_I:=d_g.out;have t_J:=b_0.out;have q_x : w46.cell? ⟨b_s,0,none⟩ = some (.int .i64 0):=(a_a b_u.out 0).trans rfl;have q_y : w46.cell? ⟨b_s,1,none⟩ = some (.slice none 0 0):=(a_a b_u.out 1).trans rfl;have q_z:=a_e b_u.out 0;have q_A:=a_e b_u.out 1))
      have n0_ : a_c (((w46.setCell ⟨b_s,0,none⟩ (.int .i64 ((a_p l0_0 x22_2).f0))).setCell ⟨b_s,1,none⟩ (.slice A122_1 ((a_p l0_0 x22_2).f1).length c122_1)).heap[c_W]? = some (.cells #[.slice (some ad122) l0_0.length c0_0,.int .i64 a0_1] 24 (0,0))):=⟨by (with_reducible repeat (first|refine a_j ?_ _|refine a_l ?_|refine a_i ?_ _));refine a_I ?_ b_0.out _;(with_reducible repeat (first|refine a_j ?_ _|refine a_l ?_|refine a_i ?_ _));refine a_I ?_ b_0.out _;(with_reducible repeat (first|refine a_j ?_ _|refine a_l ?_|refine a_i ?_ _));exact b_i.out⟩
      have n1_ : a_c (((w46.setCell ⟨b_s,0,none⟩ (.int .i64 ((a_p l0_0 x22_2).f0))).setCell ⟨b_s,1,none⟩ (.slice A122_1 ((a_p l0_0 x22_2).f1).length c122_1)).heap[b_s]? = some (.cells #[.int .i64 ((a_p l0_0 x22_2).f0),.slice A122_1 ((a_p l0_0 x22_2).f1).length c122_1] 27 (0,0))):=⟨by (with_reducible repeat (first|refine a_j ?_ _|refine a_l ?_|refine a_i ?_ _));refine a_E (cs:=#[.int .i64 ((a_p l0_0 x22_2).f0),.slice none 0 0]) ?_ 1 _ rfl;(with_reducible repeat (first|refine a_j ?_ _|refine a_l ?_|refine a_i ?_ _));refine a_E (cs:=#[.int .i64 0,.slice none 0 0]) ?_ 0 _ rfl;(with_reducible repeat (first|refine a_j ?_ _|refine a_l ?_|refine a_i ?_ _));exact b_u.out⟩
      have n2_ : a_c (Below w.heap.size w ((w46.setCell ⟨b_s,0,none⟩ (.int .i64 ((a_p l0_0 x22_2).f0))).setCell ⟨b_s,1,none⟩ (.slice A122_1 ((a_p l0_0 x22_2).f1).length c122_1))):=⟨by repeat (first|(with_reducible first|exact HB.out|apply a_g|apply a_b|apply a_h|refine a_f ?_ c_S.out|refine a_f ?_ d_V.out)|exact HB.out)⟩
      (try clear b_i)
      (try clear b_u)
      (try clear HB)
      generalize ((w46.setCell ⟨b_s,0,none⟩ (.int .i64 ((a_p l0_0 x22_2).f0))).setCell ⟨b_s,1,none⟩ (.slice A122_1 ((a_p l0_0 x22_2).f1).length c122_1)) = w49 at n0_ n1_ n2_ ⊢
      have b_i:=n0_
      have b_u:=n1_
      have HB:=n2_
      clear n0_ n1_ n2_
      replace b_i:=a_c.mk (a_l b_i.out)
      replace b_u:=a_c.mk (a_l b_u.out)
      replace HB:=a_c.mk (a_h HB.out)
      refine d_n (n:=26) (S:=fun w' => w'.cell? ⟨b_s,0,none⟩ = some (.int .i64 ((a_p l0_0 x22_2).f0)) ∧ w'.cell? ⟨b_s,1,none⟩ = some (.slice A122_1 ((a_p l0_0 x22_2).f1).length c122_1)) (ds:=[]) Z1_ (by kernel_rfl) rfl rfl ⟨(a_a b_u.out 0).trans rfl,(a_a b_u.out 1).trans rfl⟩ (fun hHeld => ?_);refine b_9 a_t.tab6 a_t.e_r (fun HT_ HW_ => ?_)
      generalize w49.drew = w50 at b_i b_u HB hHeld ⊢
      refine b_F (i:=0) (N:=some 27) (v:=?_) (a':=?_) Z3_ rfl rfl (a_Q HT_.out HW_.out (by kernel_rfl)) (fun _ _ _ h => h) (Or.inl ⟨by rfl,?_⟩) hHeld ?_ ?_
      rotate_left
      ·rintro w' ⟨s0,s1⟩
       go_simp
       with_reducible rfl
      rotate_left
      ·simp only [Act.put,sa_,sb_,sc_,a_r,a_s]
       rfl
      refine one_ (i:=1) (N:=some 28) Z5_ rfl rfl (c_B HT_.out (by kernel_rfl)) (by decide) (fun K hK => ?_)
      refine d_w Try.func24 (by kernel_rfl) rfl #[.agg #[.int .i64 ((a_p l0_0 x22_2).f0),.slice A122_1 ((a_p l0_0 x22_2).f1).length c122_1]] (by rfl) rfl rfl (by (try simp only [List.map_toArray,List.map_cons,List.map_nil]);first|done|rfl|(simp only [List.length_drop,List.length_take];rfl)) ?_
      with_reducible refine (a_y.calls k2 ((a_p l0_0 x22_2).f0) _ _ ((a_p l0_0 x22_2).f1) false _ ?side1 ?side2 A14.out).mono ?_
      (case side1 => repeat (first|exact (Kd.a_U d_T.out HB.out)|(with_reducible refine Kd.a_8 ?_ _)|(with_reducible refine Kd.a_7 ?_ _)|(with_reducible refine Kd.b_t ?_)))
      (case side2 => exact d_U.out)
      rintro e w51 ⟨rfl,hb⟩
      refine ⟨_,rfl,?_⟩
      replace b_i:=a_c.mk (a_m (bup_ b_i.out) hb)
      replace b_u:=a_c.mk (a_m (bup_ b_u.out) hb)
      replace HB:=a_c.mk (a_o (by repeat (first|(with_reducible first|exact HB.out|apply a_g|apply a_b|apply a_h|refine a_f ?_ c_S.out|refine a_f ?_ d_V.out)|exact HB.out)) hb)
      (try clear hb)
      (try clear hb2)
      (try clear hk)
      (try clear hi)
      refine hK.out _ _ ⟨(a_a b_u.out 0).trans rfl,(a_a b_u.out 1).trans rfl⟩ (fun hHeld => ?_)
      clear hK K
      refine d_k (a':=?_) ?_ ?_
      rotate_left
      ·show Act.put _ (some 28) _ = _
       simp only [Act.put,sa_,sb_,sc_,a_r,a_s]
       rfl
      refine a_x (i:=2) (N:=some 29) (v:=?_) (a':=?_) Z7_ rfl rfl (a_q HT_.out (by kernel_rfl)) (fun _ _ _ h => h) (Or.inl ⟨by rfl,?_⟩) ?_ ?_
      rotate_left
      ·intro w'
       go_simp
       with_reducible rfl
      rotate_left
      ·simp only [Act.put,sa_,sb_,sc_,a_r,a_s]
       rfl
      refine a_x (i:=3) (N:=some 30) (v:=?_) (a':=?_) Z9_ rfl rfl (a_q HT_.out (by kernel_rfl)) (fun _ _ _ h => h) (Or.inl ⟨by rfl,?_⟩) ?_ ?_
      rotate_left
      ·intro w'
       go_simp
       with_reducible rfl
      rotate_left
      ·simp only [Act.put,sa_,sb_,sc_,a_r,a_s]
       rfl
      refine a_x (i:=4) (N:=some 31) (v:=undef) (a':=?_) Z11_ rfl rfl (a_q HT_.out (by kernel_rfl)) (fun _ _ _ h => h) (Or.inr ⟨by rfl,rfl⟩) ?_ ?_
      rotate_left
      ·simp only [Act.put,sa_,sb_,sc_,a_r,a_s]
       rfl
      refine a_x (i:=5) (N:=some 32) (v:=undef) (a':=?_) #[T_,T_,T_,T_,T_,T_,F_,F_,F_,F_,F_,F_,F_,F_,F_,F_,F_,F_,F_,F_,F_,F_,F_,F_,F_,F_] rfl rfl (a_q HT_.out (by kernel_rfl)) (fun _ _ _ h => h) (Or.inr ⟨by rfl,rfl⟩) ?_ ?_
      rotate_left
      ·simp only [Act.put,sa_,sb_,sc_,a_r,a_s]
       rfl
      refine a_x (i:=6) (N:=some 33) (v:=undef) (a':=?_) Z15_ rfl rfl (a_q HT_.out (by kernel_rfl)) (fun _ _ _ h => h) (Or.inr ⟨by rfl,rfl⟩) ?_ ?_
      rotate_left
      ·simp only [Act.put,sa_,sb_,sc_,a_r,a_s]
       rfl
      refine a_x (i:=7) (N:=some 34) (v:=undef) (a':=?_) Z17_ rfl rfl (a_q HT_.out (by kernel_rfl)) (fun _ _ _ h => h) (Or.inr ⟨by rfl,rfl⟩) ?_ ?_
      rotate_left
      ·simp only [Act.put,sa_,sb_,sc_,a_r,a_s]
       rfl
      refine a_x (i:=8) (N:=some 35) (v:=undef) (a':=?_) Z22_ rfl rfl (a_q HT_.out (by kernel_rfl)) (fun _ _ _ h => h) (Or.inr ⟨by rfl,rfl⟩) ?_ ?_
      rotate_left
      ·simp only [Act.put,sa_,sb_,sc_,a_r,a_s]
       rfl
      refine a_x (i:=9) (N:=some 36) (v:=?_) (a':=?_) Z24_ rfl rfl (a_q HT_.out (by kernel_rfl)) (fun _ _ _ h => h) (Or.inl ⟨by rfl,?_⟩) ?_ ?_
      rotate_left
      ·intro w'
       go_simp
       with_reducible rfl
      rotate_left
      ·simp only [Act.put,sa_,sb_,sc_,a_r,a_s]
       rfl
      refine a_x (i:=10) (N:=some 37) (v:=?_) (a':=?_) Z26_ rfl rfl (a_q HT_.out (by kernel_rfl)) (fun _ _ _ h => h) (Or.inl ⟨by rfl,?_⟩) ?_ ?_
      rotate_left
      ·intro w'
       go_simp
       with_reducible rfl
      rotate_left
      ·simp only [Act.put,sa_,sb_,sc_,a_r,a_s]
       rfl
      refine a_x (i:=11) (N:=some 38) (v:=undef) (a':=?_) Z29_ rfl rfl (a_q HT_.out (by kernel_rfl)) (fun _ _ _ h => h) (Or.inr ⟨by rfl,rfl⟩) ?_ ?_
      rotate_left
      ·simp only [Act.put,sa_,sb_,sc_,a_r,a_s]
       rfl
      refine a_x (i:=12) (N:=some 39) (v:=undef) (a':=?_) Z32_ rfl rfl (a_q HT_.out (by kernel_rfl)) (fun _ _ _ h => h) (Or.inr ⟨by rfl,rfl⟩) ?_ ?_
      rotate_left
      ·simp only [Act.put,sa_,sb_,sc_,a_r,a_s]
       rfl
      refine a_x (i:=13) (N:=some 40) (v:=undef) (a':=?_) Z35_ rfl rfl (a_q HT_.out (by kernel_rfl)) (fun _ _ _ h => h) (Or.inr ⟨by rfl,rfl⟩) ?_ ?_
      rotate_left
      ·simp only [Act.put,sa_,sb_,sc_,a_r,a_s]
       rfl
      refine a_x (i:=14) (N:=some 41) (v:=undef) (a':=?_) Z37_ rfl rfl (a_q HT_.out (by kernel_rfl)) (fun _ _ _ h => h) (Or.inr ⟨by rfl,rfl⟩) ?_ ?_
      rotate_left
      ·simp only [Act.put,sa_,sb_,sc_,a_r,a_s]
       rfl
      refine a_x (i:=15) (N:=some 42) (v:=undef) (a':=?_) Z42_ rfl rfl (a_q HT_.out (by kernel_rfl)) (fun _ _ _ h => h) (Or.inr ⟨by rfl,rfl⟩) ?_ ?_
      rotate_left
      ·simp only [Act.put,sa_,sb_,sc_,a_r,a_s]
       rfl
      refine a_x (i:=16) (N:=some 43) (v:=undef) (a':=?_) Z44_ rfl rfl (a_q HT_.out (by kernel_rfl)) (fun _ _ _ h => h) (Or.inr ⟨by rfl,rfl⟩) ?_ ?_
      rotate_left
      ·simp only [Act.put,sa_,sb_,sc_,a_r,a_s]
       rfl
      refine a_x (i:=17) (N:=some 44) (v:=undef) (a':=?_) Z46_ rfl rfl (a_q HT_.out (by kernel_rfl)) (fun _ _ _ h => h) (Or.inr ⟨by rfl,rfl⟩) ?_ ?_
      rotate_left
      ·simp only [Act.put,sa_,sb_,sc_,a_r,a_s]
       rfl
      refine a_x (i:=18) (N:=some 45) (v:=undef) (a':=?_) Z49_ rfl rfl (a_q HT_.out (by kernel_rfl)) (fun _ _ _ h => h) (Or.inr ⟨by rfl,rfl⟩) ?_ ?_
      rotate_left
      ·simp only [Act.put,sa_,sb_,sc_,a_r,a_s]
       rfl
      refine a_x (i:=19) (N:=some 46) (v:=undef) (a':=?_) Z52_ rfl rfl (a_q HT_.out (by kernel_rfl)) (fun _ _ _ h => h) (Or.inr ⟨by rfl,rfl⟩) ?_ ?_
      rotate_left
      ·simp only [Act.put,sa_,sb_,sc_,a_r,a_s]
       rfl
      refine a_x (i:=20) (N:=some 47) (v:=undef) (a':=?_) Z55_ rfl rfl (a_q HT_.out (by kernel_rfl)) (fun _ _ _ h => h) (Or.inr ⟨by rfl,rfl⟩) ?_ ?_
      rotate_left
      ·simp only [Act.put,sa_,sb_,sc_,a_r,a_s]
       rfl
      refine a_x (i:=21) (N:=some 48) (v:=undef) (a':=?_) Z58_ rfl rfl (a_q HT_.out (by kernel_rfl)) (fun _ _ _ h => h) (Or.inr ⟨by rfl,rfl⟩) ?_ ?_
      rotate_left
      ·simp only [Act.put,sa_,sb_,sc_,a_r,a_s]
       rfl
      refine a_x (i:=22) (N:=some 49) (v:=undef) (a':=?_) Z61_ rfl rfl (a_q HT_.out (by kernel_rfl)) (fun _ _ _ h => h) (Or.inr ⟨by rfl,rfl⟩) ?_ ?_
      rotate_left
      ·simp only [Act.put,sa_,sb_,sc_,a_r,a_s]
       rfl
      refine a_x (i:=23) (N:=some 50) (v:=undef) (a':=?_) Z65_ rfl rfl (a_q HT_.out (by kernel_rfl)) (fun _ _ _ h => h) (Or.inr ⟨by rfl,rfl⟩) ?_ ?_
      rotate_left
      ·simp only [Act.put,sa_,sb_,sc_,a_r,a_s]
       rfl
      refine a_x (i:=24) (N:=some 51) (v:=undef) (a':=?_) Z67_ rfl rfl (a_q HT_.out (by kernel_rfl)) (fun _ _ _ h => h) (Or.inr ⟨by rfl,rfl⟩) ?_ ?_
      rotate_left
      ·simp only [Act.put,sa_,sb_,sc_,a_r,a_s]
       rfl
      refine a_x (i:=25) (N:=some 52) (v:=?_) (a':=?_) Z84_ rfl rfl (a_q HT_.out (by kernel_rfl)) (fun _ _ _ h => h) (Or.inl ⟨by rfl,?_⟩) ?_ ?_
      rotate_left
      ·intro w'
       go_simp
       with_reducible rfl
      rotate_left
      ·simp only [Act.put,sa_,sb_,sc_,a_r,a_s]
       rfl
      refine d_3 (c_U HT_.out (by kernel_rfl)) ?_
      try go_wp2
      go_ret
      exact ⟨by first|rfl|(simp [a_v,a_u] <;> rfl)|(simp [*, a_v,a_u] <;> rfl),by repeat (first|(with_reducible first|exact HB.out|apply a_g|apply a_b|apply a_h|refine a_f ?_ c_S.out|refine a_f ?_ d_V.out)|exact HB.out)⟩
     subst c15
     have H1 : (if ((a_p l0_0 x22_2).f0) > a0_1 then (some 390) else (if x22_2 > 0 then (if 0 ≤ (wrap64 (x22_2 - 1)) then (if (wrap64 (x22_2 - 1)) < (l0_0.length : Int) then (if ((a_p l0_0 (wrap64 (x22_2 - 1))).f0) ≥ ((a_p l0_0 x22_2).f0) then (some 390) else (a_t.l0 k2 l0_0 (l0_0.length : Int) (wrap64 (x22_2 + 1)) l0_0 a0_1)) else (none)) else (none)) else (a_t.l0 k2 l0_0 (l0_0.length : Int) (wrap64 (x22_2 + 1)) l0_0 a0_1))) = some r:=by rw [if_pos rfl] at H;exact H
     clear H
     have H:=H1
     clear H1
     by_cases c16 : ((a_p l0_0 x22_2).f0) > a0_1
     ·rw [if_pos c16] at H
      have c16b0 : decide (a0_1 < ((a_p l0_0 x22_2).f0)) = true:=decide_eq_true c16
      clear c16
      obtain rfl:=Option.some.inj H
      have p122 : 0 ≤ (x22_2 : Int):=of_decide_eq_true (by first|(with_reducible assumption)|assumption)
      have q122 : x22_2 < (l0_0.length : Int):=of_decide_eq_true (by first|(with_reducible assumption)|assumption)
      obtain ⟨ad122,A122_1,c122_1,e122,c_L,c_M,d_e,d_f⟩:=d_K b_5.out x22_2 p122 q122
      cases e122
      replace c_L:=(HB.out.cell (World.block_lt_of_cell? w _ c_L)).trans c_L
      replace c_M:=(HB.out.cell (World.block_lt_of_cell? w _ c_M)).trans c_M
      have d_T:=a_c.mk d_f
      have d_U:=a_c.mk d_e
      clear d_f d_e
      replace p122:=eq_true p122
      replace q122:=eq_true q122
      try go_wp2_with (first|((with_reducible refine a_M (N:=4) rfl ?_);refine a_G ?hg (N:=4) ?hd (cs:=#[.int .i64 0,.slice none 0 0]) (t:=27) ?hr ?_;(case hd => rfl);(case hg => rfl);(case hr => first|(go_simp;done)|(go_simp;rfl));intro b_s hg w17 hbox hb;have b_u:=a_c.mk (hbox);have l_O:=a_c.mk ((by rw [hg];exact (a_n (by repeat (first|(with_reducible first|exact HB.out|apply a_g|apply a_b|apply a_h|refine a_f ?_ c_S.out)|exact HB.out))) : w.heap.size ≤ b_s));have d_V:=a_c.mk ((by rw [hg];exact (a_n (by repeat (first|(with_reducible first|exact HB.out|apply a_g|apply a_b|apply a_h|refine a_f ?_ c_S.out)|exact HB.out))) : w.heap.size ≤ b_s));have b_0:=a_c.mk ((by rw [hg];exact Nat.ne_of_lt (a_J (bup_ b_i.out)) : c_W ≠ b_s));have d_g:=a_c.mk ((by rw [hg];exact Nat.ne_of_gt (a_J (bup_ b_i.out)) : b_s ≠ c_W));replace b_i:=a_c.mk (a_m (bup_ b_i.out) hb);replace HB:=a_c.mk (a_o (by repeat (first|(with_reducible first|exact HB.out|apply a_g|apply a_b|apply a_h|refine a_f ?_ c_S.out)|exact HB.out)) hb);clear hb hbox hg;have q_t:=d_g.out;have q_u:=b_0.out;have h_m : w17.cell? ⟨b_s,0,none⟩ = some (.int .i64 0):=(a_a b_u.out 0).trans rfl;have h_n : w17.cell? ⟨b_s,1,none⟩ = some (.slice none 0 0):=(a_a b_u.out 1).trans rfl;have h_o:=a_e b_u.out 0;have h_p:=a_e b_u.out 1))
      have n0_ : a_c (((w17.setCell ⟨b_s,0,none⟩ (.int .i64 ((a_p l0_0 x22_2).f0))).setCell ⟨b_s,1,none⟩ (.slice A122_1 ((a_p l0_0 x22_2).f1).length c122_1)).heap[c_W]? = some (.cells #[.slice (some ad122) l0_0.length c0_0,.int .i64 a0_1] 24 (0,0))):=⟨by (with_reducible repeat (first|refine a_j ?_ _|refine a_l ?_|refine a_i ?_ _));refine a_I ?_ b_0.out _;(with_reducible repeat (first|refine a_j ?_ _|refine a_l ?_|refine a_i ?_ _));refine a_I ?_ b_0.out _;(with_reducible repeat (first|refine a_j ?_ _|refine a_l ?_|refine a_i ?_ _));exact b_i.out⟩
      have n1_ : a_c (((w17.setCell ⟨b_s,0,none⟩ (.int .i64 ((a_p l0_0 x22_2).f0))).setCell ⟨b_s,1,none⟩ (.slice A122_1 ((a_p l0_0 x22_2).f1).length c122_1)).heap[b_s]? = some (.cells #[.int .i64 ((a_p l0_0 x22_2).f0),.slice A122_1 ((a_p l0_0 x22_2).f1).length c122_1] 27 (0,0))):=⟨by (with_reducible repeat (first|refine a_j ?_ _|refine a_l ?_|refine a_i ?_ _));refine a_E (cs:=#[.int .i64 ((a_p l0_0 x22_2).f0),.slice none 0 0]) ?_ 1 _ rfl;(with_reducible repeat (first|refine a_j ?_ _|refine a_l ?_|refine a_i ?_ _));refine a_E (cs:=#[.int .i64 0,.slice none 0 0]) ?_ 0 _ rfl;(with_reducible repeat (first|refine a_j ?_ _|refine a_l ?_|refine a_i ?_ _));exact b_u.out⟩
      have n2_ : a_c (Below w.heap.size w ((w17.setCell ⟨b_s,0,none⟩ (.int .i64 ((a_p l0_0 x22_2).f0))).setCell ⟨b_s,1,none⟩ (.slice A122_1 ((a_p l0_0 x22_2).f1).length c122_1))):=⟨by repeat (first|(with_reducible first|exact HB.out|apply a_g|apply a_b|apply a_h|refine a_f ?_ c_S.out|refine a_f ?_ d_V.out)|exact HB.out)⟩
      (try clear b_i)
      (try clear b_u)
      (try clear HB)
      generalize ((w17.setCell ⟨b_s,0,none⟩ (.int .i64 ((a_p l0_0 x22_2).f0))).setCell ⟨b_s,1,none⟩ (.slice A122_1 ((a_p l0_0 x22_2).f1).length c122_1)) = w20 at n0_ n1_ n2_ ⊢
      have b_i:=n0_
      have b_u:=n1_
      have HB:=n2_
      clear n0_ n1_ n2_
      replace b_i:=a_c.mk (a_l b_i.out)
      replace b_u:=a_c.mk (a_l b_u.out)
      replace HB:=a_c.mk (a_h HB.out)
      refine d_n (n:=26) (S:=fun w' => w'.cell? ⟨b_s,0,none⟩ = some (.int .i64 ((a_p l0_0 x22_2).f0)) ∧ w'.cell? ⟨b_s,1,none⟩ = some (.slice A122_1 ((a_p l0_0 x22_2).f1).length c122_1) ∧ w'.cell? ⟨c_W,0,none⟩ = some (.slice (some ad122) l0_0.length c0_0) ∧ w'.cell? ⟨c_W,1,none⟩ = some (.int .i64 a0_1)) (ds:=[]) Z1_ (by kernel_rfl) rfl rfl ⟨(a_a b_u.out 0).trans rfl,(a_a b_u.out 1).trans rfl,(a_a b_i.out 0).trans rfl,(a_a b_i.out 1).trans rfl⟩ (fun hHeld => ?_);refine b_9 a_t.tab6 a_t.e_r (fun HT_ HW_ => ?_)
      generalize w20.drew = w21 at b_i b_u HB hHeld ⊢
      refine b_F (i:=0) (N:=some 27) (v:=?_) (a':=?_) Z3_ rfl rfl (a_Q HT_.out HW_.out (by kernel_rfl)) (fun _ _ _ h => h) (Or.inl ⟨by rfl,?_⟩) hHeld ?_ ?_
      rotate_left
      ·rintro w' ⟨s0,s1,s2,s3⟩
       go_simp
       with_reducible rfl
      rotate_left
      ·simp only [Act.put,sa_,sb_,sc_,a_r,a_s]
       rfl
      refine one_ (i:=1) (N:=some 28) Z5_ rfl rfl (c_B HT_.out (by kernel_rfl)) (by decide) (fun K hK => ?_)
      refine d_w Try.func24 (by kernel_rfl) rfl #[.agg #[.int .i64 ((a_p l0_0 x22_2).f0),.slice A122_1 ((a_p l0_0 x22_2).f1).length c122_1]] (by rfl) rfl rfl (by (try simp only [List.map_toArray,List.map_cons,List.map_nil]);first|done|rfl|(simp only [List.length_drop,List.length_take];rfl)) ?_
      with_reducible refine (a_y.calls k2 ((a_p l0_0 x22_2).f0) _ _ ((a_p l0_0 x22_2).f1) true _ ?side1 ?side2 A14.out).mono ?_
      (case side1 => repeat (first|exact (Kd.a_U d_T.out HB.out)|(with_reducible refine Kd.a_8 ?_ _)|(with_reducible refine Kd.a_7 ?_ _)|(with_reducible refine Kd.b_t ?_)))
      (case side2 => exact d_U.out)
      rintro e w22 ⟨rfl,hb⟩
      refine ⟨_,rfl,?_⟩
      replace b_i:=a_c.mk (a_m (bup_ b_i.out) hb)
      replace b_u:=a_c.mk (a_m (bup_ b_u.out) hb)
      replace HB:=a_c.mk (a_o (by repeat (first|(with_reducible first|exact HB.out|apply a_g|apply a_b|apply a_h|refine a_f ?_ c_S.out|refine a_f ?_ d_V.out)|exact HB.out)) hb)
      (try clear hb)
      (try clear hb2)
      (try clear hk)
      (try clear hi)
      refine hK.out _ _ ⟨(a_a b_u.out 0).trans rfl,(a_a b_u.out 1).trans rfl,(a_a b_i.out 0).trans rfl,(a_a b_i.out 1).trans rfl⟩ (fun hHeld => ?_)
      clear hK K
      refine d_k (a':=?_) ?_ ?_
      rotate_left
      ·show Act.put _ (some 28) _ = _
       simp only [Act.put,sa_,sb_,sc_,a_r,a_s]
       rfl
      refine a_x (i:=2) (N:=some 29) (v:=?_) (a':=?_) Z7_ rfl rfl (a_q HT_.out (by kernel_rfl)) (fun _ _ _ h => h) (Or.inl ⟨by rfl,?_⟩) ?_ ?_
      rotate_left
      ·intro w'
       go_simp
       with_reducible rfl
      rotate_left
      ·simp only [Act.put,sa_,sb_,sc_,a_r,a_s]
       rfl
      refine a_x (i:=3) (N:=some 30) (v:=?_) (a':=?_) Z9_ rfl rfl (a_q HT_.out (by kernel_rfl)) (fun _ _ _ h => h) (Or.inl ⟨by rfl,?_⟩) ?_ ?_
      rotate_left
      ·intro w'
       go_simp
       with_reducible rfl
      rotate_left
      ·simp only [Act.put,sa_,sb_,sc_,a_r,a_s]
       rfl
      refine a_x (i:=4) (N:=some 31) (v:=?_) (a':=?_) Z11_ rfl rfl (a_q HT_.out (by kernel_rfl)) (fun _ _ _ h => h) (Or.inl ⟨by rfl,?_⟩) ?_ ?_
      rotate_left
      ·intro w'
       go_simp
       with_reducible rfl
      rotate_left
      ·simp only [Act.put,sa_,sb_,sc_,a_r,a_s]
       rfl
      refine a_x (i:=6) (N:=some 33) (v:=?_) (a':=?_) Z12_ rfl rfl (a_q HT_.out (by kernel_rfl)) (fun _ _ _ h => h) (Or.inl ⟨by rfl,?_⟩) ?_ ?_
      rotate_left
      ·intro w'
       go_simp
       with_reducible rfl
      rotate_left
      ·simp only [Act.put,sa_,sb_,sc_,a_r,a_s]
       rfl
      refine b_F (i:=5) (N:=some 32) (v:=?_) (a':=?_) Z15_ rfl rfl (a_Q HT_.out HW_.out (by kernel_rfl)) (fun _ _ _ h => h) (Or.inl ⟨by rfl,?_⟩) hHeld ?_ ?_
      rotate_left
      ·rintro w' ⟨s0,s1,s2,s3⟩
       go_simp
       with_reducible rfl
      rotate_left
      ·simp only [Act.put,sa_,sb_,sc_,a_r,a_s]
       rfl
      refine b_F (i:=7) (N:=some 34) (v:=?_) (a':=?_) Z17_ rfl rfl (a_Q HT_.out HW_.out (by kernel_rfl)) (fun _ _ _ h => h) (Or.inl ⟨by rfl,?_⟩) hHeld ?_ ?_
      rotate_left
      ·rintro w' ⟨s0,s1,s2,s3⟩
       go_simp
       with_reducible rfl
      rotate_left
      ·simp only [Act.put,sa_,sb_,sc_,a_r,a_s]
       rfl
      refine a_x (i:=8) (N:=some 35) (v:=?_) (a':=?_) Z22_ rfl rfl (a_q HT_.out (by kernel_rfl)) (fun _ _ _ h => h) (Or.inl ⟨by rfl,?_⟩) ?_ ?_
      rotate_left
      ·intro w'
       go_simp
       with_reducible rfl
      rotate_left
      ·simp only [Act.put,sa_,sb_,sc_,a_r,a_s]
       rfl
      refine a_x (i:=9) (N:=some 36) (v:=?_) (a':=?_) Z24_ rfl rfl (a_q HT_.out (by kernel_rfl)) (fun _ _ _ h => h) (Or.inl ⟨by rfl,?_⟩) ?_ ?_
      rotate_left
      ·intro w'
       go_simp
       with_reducible rfl
      rotate_left
      ·simp only [Act.put,sa_,sb_,sc_,a_r,a_s]
       rfl
      refine a_x (i:=10) (N:=some 37) (v:=?_) (a':=?_) Z26_ rfl rfl (a_q HT_.out (by kernel_rfl)) (fun _ _ _ h => h) (Or.inl ⟨by rfl,?_⟩) ?_ ?_
      rotate_left
      ·intro w'
       go_simp
       with_reducible rfl
      rotate_left
      ·simp only [Act.put,sa_,sb_,sc_,a_r,a_s]
       rfl
      refine a_x (i:=11) (N:=some 38) (v:=undef) (a':=?_) Z29_ rfl rfl (a_q HT_.out (by kernel_rfl)) (fun _ _ _ h => h) (Or.inr ⟨by rfl,rfl⟩) ?_ ?_
      rotate_left
      ·simp only [Act.put,sa_,sb_,sc_,a_r,a_s]
       rfl
      refine a_x (i:=12) (N:=some 39) (v:=undef) (a':=?_) Z32_ rfl rfl (a_q HT_.out (by kernel_rfl)) (fun _ _ _ h => h) (Or.inr ⟨by rfl,rfl⟩) ?_ ?_
      rotate_left
      ·simp only [Act.put,sa_,sb_,sc_,a_r,a_s]
       rfl
      refine a_x (i:=13) (N:=some 40) (v:=undef) (a':=?_) Z35_ rfl rfl (a_q HT_.out (by kernel_rfl)) (fun _ _ _ h => h) (Or.inr ⟨by rfl,rfl⟩) ?_ ?_
      rotate_left
      ·simp only [Act.put,sa_,sb_,sc_,a_r,a_s]
       rfl
      refine a_x (i:=14) (N:=some 41) (v:=undef) (a':=?_) Z37_ rfl rfl (a_q HT_.out (by kernel_rfl)) (fun _ _ _ h => h) (Or.inr ⟨by rfl,rfl⟩) ?_ ?_
      rotate_left
      ·simp only [Act.put,sa_,sb_,sc_,a_r,a_s]
       rfl
      refine a_x (i:=15) (N:=some 42) (v:=undef) (a':=?_) Z42_ rfl rfl (a_q HT_.out (by kernel_rfl)) (fun _ _ _ h => h) (Or.inr ⟨by rfl,rfl⟩) ?_ ?_
      rotate_left
      ·simp only [Act.put,sa_,sb_,sc_,a_r,a_s]
       rfl
      refine a_x (i:=16) (N:=some 43) (v:=undef) (a':=?_) Z44_ rfl rfl (a_q HT_.out (by kernel_rfl)) (fun _ _ _ h => h) (Or.inr ⟨by rfl,rfl⟩) ?_ ?_
      rotate_left
      ·simp only [Act.put,sa_,sb_,sc_,a_r,a_s]
       rfl
      refine a_x (i:=17) (N:=some 44) (v:=undef) (a':=?_) Z46_ rfl rfl (a_q HT_.out (by kernel_rfl)) (fun _ _ _ h => h) (Or.inr ⟨by rfl,rfl⟩) ?_ ?_
      rotate_left
      ·simp only [Act.put,sa_,sb_,sc_,a_r,a_s]
       rfl
      refine a_x (i:=18) (N:=some 45) (v:=undef) (a':=?_) Z49_ rfl rfl (a_q HT_.out (by kernel_rfl)) (fun _ _ _ h => h) (Or.inr ⟨by rfl,rfl⟩) ?_ ?_
      rotate_left
      ·simp only [Act.put,sa_,sb_,sc_,a_r,a_s]
       rfl
      refine a_x (i:=19) (N:=some 46) (v:=undef) (a':=?_) Z52_ rfl rfl (a_q HT_.out (by kernel_rfl)) (fun _ _ _ h => h) (Or.inr ⟨by rfl,rfl⟩) ?_ ?_
      rotate_left
      ·simp only [Act.put,sa_,sb_,sc_,a_r,a_s]
       rfl
      refine a_x (i:=20) (N:=some 47) (v:=undef) (a':=?_) Z55_ rfl rfl (a_q HT_.out (by kernel_rfl)) (fun _ _ _ h => h) (Or.inr ⟨by rfl,rfl⟩) ?_ ?_
      rotate_left
      ·simp only [Act.put,sa_,sb_,sc_,a_r,a_s]
       rfl
      refine a_x (i:=21) (N:=some 48) (v:=undef) (a':=?_) Z58_ rfl rfl (a_q HT_.out (by kernel_rfl)) (fun _ _ _ h => h) (Or.inr ⟨by rfl,rfl⟩) ?_ ?_
      rotate_left
      ·simp only [Act.put,sa_,sb_,sc_,a_r,a_s]
       rfl
      refine a_x (i:=22) (N:=some 49) (v:=undef) (a':=?_) Z61_ rfl rfl (a_q HT_.out (by kernel_rfl)) (fun _ _ _ h => h) (Or.inr ⟨by rfl,rfl⟩) ?_ ?_
      rotate_left
      ·simp only [Act.put,sa_,sb_,sc_,a_r,a_s]
       rfl
      refine a_x (i:=23) (N:=some 50) (v:=undef) (a':=?_) Z65_ rfl rfl (a_q HT_.out (by kernel_rfl)) (fun _ _ _ h => h) (Or.inr ⟨by rfl,rfl⟩) ?_ ?_
      rotate_left
      ·simp only [Act.put,sa_,sb_,sc_,a_r,a_s]
       rfl
      refine a_x (i:=24) (N:=some 51) (v:=undef) (a':=?_) Z67_ rfl rfl (a_q HT_.out (by kernel_rfl)) (fun _ _ _ h => h) (Or.inr ⟨by rfl,rfl⟩) ?_ ?_
      rotate_left
      ·simp only [Act.put,sa_,sb_,sc_,a_r,a_s]
       rfl
      refine a_x (i:=25) (N:=some 52) (v:=?_) (a':=?_) Z84_ rfl rfl (a_q HT_.out (by kernel_rfl)) (fun _ _ _ h => h) (Or.inl ⟨by rfl,?_⟩) ?_ ?_
      rotate_left
      ·intro w'
       go_simp
       with_reducible rfl
      rotate_left
      ·simp only [Act.put,sa_,sb_,sc_,a_r,a_s]
       rfl
      refine d_3 (c_U HT_.out (by kernel_rfl)) ?_
      try go_wp2
      go_ret
      exact ⟨by first|rfl|(simp [a_v,a_u] <;> rfl)|(simp [*, a_v,a_u] <;> rfl),by repeat (first|(with_reducible first|exact HB.out|apply a_g|apply a_b|apply a_h|refine a_f ?_ c_S.out|refine a_f ?_ d_V.out)|exact HB.out)⟩
     rw [if_neg c16] at H
     have c16b0 : decide (a0_1 < ((a_p l0_0 x22_2).f0)) = false:=decide_eq_false c16
     clear c16
     by_cases c23 : x22_2 > 0
     rotate_left
     ·rw [if_neg c23] at H
      have c23b0 : decide (0 < x22_2) = false:=decide_eq_false c23
      clear c23
      have H':=a_c.mk H
      clear H
      have p122 : 0 ≤ (x22_2 : Int):=of_decide_eq_true (by first|(with_reducible assumption)|assumption)
      have q122 : x22_2 < (l0_0.length : Int):=of_decide_eq_true (by first|(with_reducible assumption)|assumption)
      obtain ⟨ad122,A122_1,c122_1,e122,c_L,c_M,d_e,d_f⟩:=d_K b_5.out x22_2 p122 q122
      cases e122
      replace c_L:=(HB.out.cell (World.block_lt_of_cell? w _ c_L)).trans c_L
      replace c_M:=(HB.out.cell (World.block_lt_of_cell? w _ c_M)).trans c_M
      have d_T:=a_c.mk d_f
      have d_U:=a_c.mk d_e
      clear d_f d_e
      replace p122:=eq_true p122
      replace q122:=eq_true q122
      try go_wp2_with (first|((with_reducible refine a_M (N:=4) rfl ?_);refine a_G ?hg (N:=4) ?hd (cs:=#[.int .i64 0,.slice none 0 0]) (t:=27) ?hr ?_;(case hd => rfl);(case hg => rfl);(case hr => first|(go_simp;done)|(go_simp;rfl));intro b_s hg w40 hbox hb;have b_u:=a_c.mk (hbox);have l_O:=a_c.mk ((by rw [hg];exact (a_n (by repeat (first|(with_reducible first|exact HB.out|apply a_g|apply a_b|apply a_h|refine a_f ?_ c_S.out)|exact HB.out))) : w.heap.size ≤ b_s));have d_V:=a_c.mk ((by rw [hg];exact (a_n (by repeat (first|(with_reducible first|exact HB.out|apply a_g|apply a_b|apply a_h|refine a_f ?_ c_S.out)|exact HB.out))) : w.heap.size ≤ b_s));have b_0:=a_c.mk ((by rw [hg];exact Nat.ne_of_lt (a_J (bup_ b_i.out)) : c_W ≠ b_s));have d_g:=a_c.mk ((by rw [hg];exact Nat.ne_of_gt (a_J (bup_ b_i.out)) : b_s ≠ c_W));replace b_i:=a_c.mk (a_m (bup_ b_i.out) hb);replace HB:=a_c.mk (a_o (by repeat (first|(with_reducible first|exact HB.out|apply a_g|apply a_b|apply a_h|refine a_f ?_ c_S.out)|exact HB.out)) hb);clear hb hbox hg;have t_K:=d_g.out;have t_L:=b_0.out;have q_B : w40.cell? ⟨b_s,0,none⟩ = some (.int .i64 0):=(a_a b_u.out 0).trans rfl;have q_C : w40.cell? ⟨b_s,1,none⟩ = some (.slice none 0 0):=(a_a b_u.out 1).trans rfl;have q_D:=a_e b_u.out 0;have q_E:=a_e b_u.out 1))
      have n0_ : a_c (((w40.setCell ⟨b_s,0,none⟩ (.int .i64 ((a_p l0_0 x22_2).f0))).setCell ⟨b_s,1,none⟩ (.slice A122_1 ((a_p l0_0 x22_2).f1).length c122_1)).heap[c_W]? = some (.cells #[.slice (some ad122) l0_0.length c0_0,.int .i64 a0_1] 24 (0,0))):=⟨by (with_reducible repeat (first|refine a_j ?_ _|refine a_l ?_|refine a_i ?_ _));refine a_I ?_ b_0.out _;(with_reducible repeat (first|refine a_j ?_ _|refine a_l ?_|refine a_i ?_ _));refine a_I ?_ b_0.out _;(with_reducible repeat (first|refine a_j ?_ _|refine a_l ?_|refine a_i ?_ _));exact b_i.out⟩
      have n1_ : a_c (((w40.setCell ⟨b_s,0,none⟩ (.int .i64 ((a_p l0_0 x22_2).f0))).setCell ⟨b_s,1,none⟩ (.slice A122_1 ((a_p l0_0 x22_2).f1).length c122_1)).heap[b_s]? = some (.cells #[.int .i64 ((a_p l0_0 x22_2).f0),.slice A122_1 ((a_p l0_0 x22_2).f1).length c122_1] 27 (0,0))):=⟨by (with_reducible repeat (first|refine a_j ?_ _|refine a_l ?_|refine a_i ?_ _));refine a_E (cs:=#[.int .i64 ((a_p l0_0 x22_2).f0),.slice none 0 0]) ?_ 1 _ rfl;(with_reducible repeat (first|refine a_j ?_ _|refine a_l ?_|refine a_i ?_ _));refine a_E (cs:=#[.int .i64 0,.slice none 0 0]) ?_ 0 _ rfl;(with_reducible repeat (first|refine a_j ?_ _|refine a_l ?_|refine a_i ?_ _));exact b_u.out⟩
      have n2_ : a_c (Below w.heap.size w ((w40.setCell ⟨b_s,0,none⟩ (.int .i64 ((a_p l0_0 x22_2).f0))).setCell ⟨b_s,1,none⟩ (.slice A122_1 ((a_p l0_0 x22_2).f1).length c122_1))):=⟨by repeat (first|(with_reducible first|exact HB.out|apply a_g|apply a_b|apply a_h|refine a_f ?_ c_S.out|refine a_f ?_ d_V.out)|exact HB.out)⟩
      (try clear b_i)
      (try clear b_u)
      (try clear HB)
      generalize ((w40.setCell ⟨b_s,0,none⟩ (.int .i64 ((a_p l0_0 x22_2).f0))).setCell ⟨b_s,1,none⟩ (.slice A122_1 ((a_p l0_0 x22_2).f1).length c122_1)) = w43 at n0_ n1_ n2_ ⊢
      have b_i:=n0_
      have b_u:=n1_
      have HB:=n2_
      clear n0_ n1_ n2_
      replace b_i:=a_c.mk (a_l b_i.out)
      replace b_u:=a_c.mk (a_l b_u.out)
      replace HB:=a_c.mk (a_h HB.out)
      refine d_n (n:=26) (S:=fun w' => w'.cell? ⟨b_s,0,none⟩ = some (.int .i64 ((a_p l0_0 x22_2).f0)) ∧ w'.cell? ⟨b_s,1,none⟩ = some (.slice A122_1 ((a_p l0_0 x22_2).f1).length c122_1) ∧ w'.cell? ⟨c_W,0,none⟩ = some (.slice (some ad122) l0_0.length c0_0) ∧ w'.cell? ⟨c_W,1,none⟩ = some (.int .i64 a0_1)) (ds:=[]) Z1_ (by kernel_rfl) rfl rfl ⟨(a_a b_u.out 0).trans rfl,(a_a b_u.out 1).trans rfl,(a_a b_i.out 0).trans rfl,(a_a b_i.out 1).trans rfl⟩ (fun hHeld => ?_);refine b_9 a_t.tab6 a_t.e_r (fun HT_ HW_ => ?_)
      generalize w43.drew = w44 at b_i b_u HB hHeld ⊢
      refine b_F (i:=0) (N:=some 27) (v:=?_) (a':=?_) Z3_ rfl rfl (a_Q HT_.out HW_.out (by kernel_rfl)) (fun _ _ _ h => h) (Or.inl ⟨by rfl,?_⟩) hHeld ?_ ?_
      rotate_left
      ·rintro w' ⟨s0,s1,s2,s3⟩
       go_simp
       with_reducible rfl
      rotate_left
      ·simp only [Act.put,sa_,sb_,sc_,a_r,a_s]
       rfl
      refine one_ (i:=1) (N:=some 28) Z5_ rfl rfl (c_B HT_.out (by kernel_rfl)) (by decide) (fun K hK => ?_)
      refine d_w Try.func24 (by kernel_rfl) rfl #[.agg #[.int .i64 ((a_p l0_0 x22_2).f0),.slice A122_1 ((a_p l0_0 x22_2).f1).length c122_1]] (by rfl) rfl rfl (by (try simp only [List.map_toArray,List.map_cons,List.map_nil]);first|done|rfl|(simp only [List.length_drop,List.length_take];rfl)) ?_
      with_reducible refine (a_y.calls k2 ((a_p l0_0 x22_2).f0) _ _ ((a_p l0_0 x22_2).f1) true _ ?side1 ?side2 A14.out).mono ?_
      (case side1 => repeat (first|exact (Kd.a_U d_T.out HB.out)|(with_reducible refine Kd.a_8 ?_ _)|(with_reducible refine Kd.a_7 ?_ _)|(with_reducible refine Kd.b_t ?_)))
      (case side2 => exact d_U.out)
      rintro e w45 ⟨rfl,hb⟩
      refine ⟨_,rfl,?_⟩
      replace b_i:=a_c.mk (a_m (bup_ b_i.out) hb)
      replace b_u:=a_c.mk (a_m (bup_ b_u.out) hb)
      replace HB:=a_c.mk (a_o (by repeat (first|(with_reducible first|exact HB.out|apply a_g|apply a_b|apply a_h|refine a_f ?_ c_S.out|refine a_f ?_ d_V.out)|exact HB.out)) hb)
      (try clear hb)
      (try clear hb2)
      (try clear hk)
      (try clear hi)
      refine hK.out _ _ ⟨(a_a b_u.out 0).trans rfl,(a_a b_u.out 1).trans rfl,(a_a b_i.out 0).trans rfl,(a_a b_i.out 1).trans rfl⟩ (fun hHeld => ?_)
      clear hK K
      refine d_k (a':=?_) ?_ ?_
      rotate_left
      ·show Act.put _ (some 28) _ = _
       simp only [Act.put,sa_,sb_,sc_,a_r,a_s]
       rfl
      refine a_x (i:=2) (N:=some 29) (v:=?_) (a':=?_) Z7_ rfl rfl (a_q HT_.out (by kernel_rfl)) (fun _ _ _ h => h) (Or.inl ⟨by rfl,?_⟩) ?_ ?_
      rotate_left
      ·intro w'
       go_simp
       with_reducible rfl
      rotate_left
      ·simp only [Act.put,sa_,sb_,sc_,a_r,a_s]
       rfl
      refine a_x (i:=3) (N:=some 30) (v:=?_) (a':=?_) Z9_ rfl rfl (a_q HT_.out (by kernel_rfl)) (fun _ _ _ h => h) (Or.inl ⟨by rfl,?_⟩) ?_ ?_
      rotate_left
      ·intro w'
       go_simp
       with_reducible rfl
      rotate_left
      ·simp only [Act.put,sa_,sb_,sc_,a_r,a_s]
       rfl
      refine a_x (i:=4) (N:=some 31) (v:=?_) (a':=?_) Z11_ rfl rfl (a_q HT_.out (by kernel_rfl)) (fun _ _ _ h => h) (Or.inl ⟨by rfl,?_⟩) ?_ ?_
      rotate_left
      ·intro w'
       go_simp
       with_reducible rfl
      rotate_left
      ·simp only [Act.put,sa_,sb_,sc_,a_r,a_s]
       rfl
      refine a_x (i:=6) (N:=some 33) (v:=?_) (a':=?_) Z12_ rfl rfl (a_q HT_.out (by kernel_rfl)) (fun _ _ _ h => h) (Or.inl ⟨by rfl,?_⟩) ?_ ?_
      rotate_left
      ·intro w'
       go_simp
       with_reducible rfl
      rotate_left
      ·simp only [Act.put,sa_,sb_,sc_,a_r,a_s]
       rfl
      refine b_F (i:=5) (N:=some 32) (v:=?_) (a':=?_) Z15_ rfl rfl (a_Q HT_.out HW_.out (by kernel_rfl)) (fun _ _ _ h => h) (Or.inl ⟨by rfl,?_⟩) hHeld ?_ ?_
      rotate_left
      ·rintro w' ⟨s0,s1,s2,s3⟩
       go_simp
       with_reducible rfl
      rotate_left
      ·simp only [Act.put,sa_,sb_,sc_,a_r,a_s]
       rfl
      refine b_F (i:=7) (N:=some 34) (v:=?_) (a':=?_) Z17_ rfl rfl (a_Q HT_.out HW_.out (by kernel_rfl)) (fun _ _ _ h => h) (Or.inl ⟨by rfl,?_⟩) hHeld ?_ ?_
      rotate_left
      ·rintro w' ⟨s0,s1,s2,s3⟩
       go_simp
       with_reducible rfl
      rotate_left
      ·simp only [Act.put,sa_,sb_,sc_,a_r,a_s]
       rfl
      refine a_x (i:=8) (N:=some 35) (v:=?_) (a':=?_) Z22_ rfl rfl (a_q HT_.out (by kernel_rfl)) (fun _ _ _ h => h) (Or.inl ⟨by rfl,?_⟩) ?_ ?_
      rotate_left
      ·intro w'
       go_simp
       with_reducible rfl
      rotate_left
      ·simp only [Act.put,sa_,sb_,sc_,a_r,a_s]
       rfl
      refine a_x (i:=9) (N:=some 36) (v:=?_) (a':=?_) Z24_ rfl rfl (a_q HT_.out (by kernel_rfl)) (fun _ _ _ h => h) (Or.inl ⟨by rfl,?_⟩) ?_ ?_
      rotate_left
      ·intro w'
       go_simp
       with_reducible rfl
      rotate_left
      ·simp only [Act.put,sa_,sb_,sc_,a_r,a_s]
       rfl
      refine a_x (i:=10) (N:=some 37) (v:=?_) (a':=?_) Z26_ rfl rfl (a_q HT_.out (by kernel_rfl)) (fun _ _ _ h => h) (Or.inl ⟨by rfl,?_⟩) ?_ ?_
      rotate_left
      ·intro w'
       go_simp
       with_reducible rfl
      rotate_left
      ·simp only [Act.put,sa_,sb_,sc_,a_r,a_s]
       rfl
      refine a_x (i:=11) (N:=some 38) (v:=?_) (a':=?_) Z29_ rfl rfl (a_q HT_.out (by kernel_rfl)) (fun _ _ _ h => h) (Or.inl ⟨by rfl,?_⟩) ?_ ?_
      rotate_left
      ·intro w'
       go_simp
       with_reducible rfl
      rotate_left
      ·simp only [Act.put,sa_,sb_,sc_,a_r,a_s]
       rfl
      refine a_x (i:=12) (N:=some 39) (v:=?_) (a':=?_) Z32_ rfl rfl (a_q HT_.out (by kernel_rfl)) (fun _ _ _ h => h) (Or.inl ⟨by rfl,?_⟩) ?_ ?_
      rotate_left
      ·intro w'
       go_simp
       with_reducible rfl
      rotate_left
      ·simp only [Act.put,sa_,sb_,sc_,a_r,a_s]
       rfl
      refine a_x (i:=13) (N:=some 40) (v:=?_) (a':=?_) Z35_ rfl rfl (a_q HT_.out (by kernel_rfl)) (fun _ _ _ h => h) (Or.inl ⟨by rfl,?_⟩) ?_ ?_
      rotate_left
      ·intro w'
       go_simp
       with_reducible rfl
      rotate_left
      ·simp only [Act.put,sa_,sb_,sc_,a_r,a_s]
       rfl
      refine a_x (i:=14) (N:=some 41) (v:=undef) (a':=?_) Z37_ rfl rfl (a_q HT_.out (by kernel_rfl)) (fun _ _ _ h => h) (Or.inr ⟨by rfl,rfl⟩) ?_ ?_
      rotate_left
      ·simp only [Act.put,sa_,sb_,sc_,a_r,a_s]
       rfl
      refine a_x (i:=15) (N:=some 42) (v:=undef) (a':=?_) Z42_ rfl rfl (a_q HT_.out (by kernel_rfl)) (fun _ _ _ h => h) (Or.inr ⟨by rfl,rfl⟩) ?_ ?_
      rotate_left
      ·simp only [Act.put,sa_,sb_,sc_,a_r,a_s]
       rfl
      refine a_x (i:=16) (N:=some 43) (v:=undef) (a':=?_) Z44_ rfl rfl (a_q HT_.out (by kernel_rfl)) (fun _ _ _ h => h) (Or.inr ⟨by rfl,rfl⟩) ?_ ?_
      rotate_left
      ·simp only [Act.put,sa_,sb_,sc_,a_r,a_s]
       rfl
      refine a_x (i:=17) (N:=some 44) (v:=undef) (a':=?_) Z46_ rfl rfl (a_q HT_.out (by kernel_rfl)) (fun _ _ _ h => h) (Or.inr ⟨by rfl,rfl⟩) ?_ ?_
      rotate_left
      ·simp only [Act.put,sa_,sb_,sc_,a_r,a_s]
       rfl
      refine a_x (i:=18) (N:=some 45) (v:=undef) (a':=?_) Z49_ rfl rfl (a_q HT_.out (by kernel_rfl)) (fun _ _ _ h => h) (Or.inr ⟨by rfl,rfl⟩) ?_ ?_
      rotate_left
      ·simp only [Act.put,sa_,sb_,sc_,a_r,a_s]
       rfl
      refine a_x (i:=19) (N:=some 46) (v:=undef) (a':=?_) Z52_ rfl rfl (a_q HT_.out (by kernel_rfl)) (fun _ _ _ h => h) (Or.inr ⟨by rfl,rfl⟩) ?_ ?_
      rotate_left
      ·simp only [Act.put,sa_,sb_,sc_,a_r,a_s]
       rfl
      refine a_x (i:=20) (N:=some 47) (v:=undef) (a':=?_) Z55_ rfl rfl (a_q HT_.out (by kernel_rfl)) (fun _ _ _ h => h) (Or.inr ⟨by rfl,rfl⟩) ?_ ?_
      rotate_left
      ·simp only [Act.put,sa_,sb_,sc_,a_r,a_s]
       rfl
      refine a_x (i:=21) (N:=some 48) (v:=undef) (a':=?_) Z58_ rfl rfl (a_q HT_.out (by kernel_rfl)) (fun _ _ _ h => h) (Or.inr ⟨by rfl,rfl⟩) ?_ ?_
      rotate_left
      ·simp only [Act.put,sa_,sb_,sc_,a_r,a_s]
       rfl
      refine a_x (i:=22) (N:=some 49) (v:=undef) (a':=?_) Z61_ rfl rfl (a_q HT_.out (by kernel_rfl)) (fun _ _ _ h => h) (Or.inr ⟨by rfl,rfl⟩) ?_ ?_
      rotate_left
      ·simp only [Act.put,sa_,sb_,sc_,a_r,a_s]
       rfl
      refine a_x (i:=23) (N:=some 50) (v:=undef) (a':=?_) Z65_ rfl rfl (a_q HT_.out (by kernel_rfl)) (fun _ _ _ h => h) (Or.inr ⟨by rfl,rfl⟩) ?_ ?_
      rotate_left
      ·simp only [Act.put,sa_,sb_,sc_,a_r,a_s]
       rfl
      refine a_x (i:=24) (N:=some 51) (v:=?_) (a':=?_) Z67_ rfl rfl (a_q HT_.out (by kernel_rfl)) (fun _ _ _ h => h) (Or.inl ⟨by rfl,?_⟩) ?_ ?_
      rotate_left
      ·intro w'
       go_simp
       with_reducible rfl
      rotate_left
      ·simp only [Act.put,sa_,sb_,sc_,a_r,a_s]
       rfl
      refine a_x (i:=25) (N:=some 52) (v:=?_) (a':=?_) Z84_ rfl rfl (a_q HT_.out (by kernel_rfl)) (fun _ _ _ h => h) (Or.inl ⟨by rfl,?_⟩) ?_ ?_
      rotate_left
      ·intro w'
       go_simp
       with_reducible rfl
      rotate_left
      ·simp only [Act.put,sa_,sb_,sc_,a_r,a_s]
       rfl
      refine d_3 (c_U HT_.out (by kernel_rfl)) ?_
      try go_wp2
      go_roundg k2
      case measure => have:=HJ1.out;have:=HK2.out;omega
      case rel => exact ⟨(wrap64 (x22_2 + 1)),(by first|rfl|(simp;done)|(simp [*];done)),H',⟨by have:=HJ1.out;have:=HK2.out;omega⟩,⟨by (with_reducible repeat (first|refine a_j ?_ _|refine a_l ?_|refine a_i ?_ _));exact b_i.out⟩,⟨by repeat (first|(with_reducible first|exact HB.out|apply a_g|apply a_b|apply a_h|refine a_f ?_ c_S.out|refine a_f ?_ d_V.out)|exact HB.out)⟩⟩
     rw [if_pos c23] at H
     have c23b0 : decide (0 < x22_2) = true:=decide_eq_true c23
     clear c23
     obtain ⟨ji24,hji24⟩ : ∃ j_ : Int,(wrap64 (x22_2 - 1)) = j_:=⟨_,rfl⟩
     replace H : (if 0 ≤ (ji24) then (if (ji24) < (l0_0.length : Int) then (if ((a_p l0_0 (ji24)).f0) ≥ ((a_p l0_0 x22_2).f0) then (some 390) else (a_t.l0 k2 l0_0 (l0_0.length : Int) (wrap64 (x22_2 + 1)) l0_0 a0_1)) else (none)) else (none)) = some r:=by first|(rw [hji24] at H;exact H)|(simp only [hji24] at H ⊢; exact H)
     (try rw [hji24] at A14)
     have hji24w : (IntKind.i64.wrap (x22_2 - 1)) = ji24:=(a_r _).trans hji24
     by_cases c25 : 0 ≤ (ji24)
     rotate_left
     ·rw [if_neg c25] at H
      exact absurd H (by simp)
     rw [if_pos c25] at H
     have c25b0 : decide (0 ≤ (ji24)) = true:=decide_eq_true c25
     clear c25
     by_cases c26 : (ji24) < (l0_0.length : Int)
     rotate_left
     ·rw [if_neg c26] at H
      exact absurd H (by simp)
     rw [if_pos c26] at H
     have c26b0 : decide ((ji24) < (l0_0.length : Int)) = true:=decide_eq_true c26
     clear c26
     by_cases c27 : ((a_p l0_0 (ji24)).f0) ≥ ((a_p l0_0 x22_2).f0)
     ·rw [if_pos c27] at H
      have c27b0 : decide (((a_p l0_0 x22_2).f0) ≤ ((a_p l0_0 (ji24)).f0)) = true:=decide_eq_true c27
      clear c27
      obtain rfl:=Option.some.inj H
      have p122 : 0 ≤ (x22_2 : Int):=of_decide_eq_true (by first|(with_reducible assumption)|assumption)
      have q122 : x22_2 < (l0_0.length : Int):=of_decide_eq_true (by first|(with_reducible assumption)|assumption)
      obtain ⟨ad122,A122_1,c122_1,e122,c_L,c_M,d_e,d_f⟩:=d_K b_5.out x22_2 p122 q122
      cases e122
      replace c_L:=(HB.out.cell (World.block_lt_of_cell? w _ c_L)).trans c_L
      replace c_M:=(HB.out.cell (World.block_lt_of_cell? w _ c_M)).trans c_M
      have d_T:=a_c.mk d_f
      have d_U:=a_c.mk d_e
      clear d_f d_e
      replace p122:=eq_true p122
      replace q122:=eq_true q122
      try go_wp2_with (first|((with_reducible refine a_M (N:=4) rfl ?_);refine a_G ?hg (N:=4) ?hd (cs:=#[.int .i64 0,.slice none 0 0]) (t:=27) ?hr ?_;(case hd => rfl);(case hg => rfl);(case hr => first|(go_simp;done)|(go_simp;rfl));intro b_s hg w28 hbox hb;have b_u:=a_c.mk (hbox);have l_O:=a_c.mk ((by rw [hg];exact (a_n (by repeat (first|(with_reducible first|exact HB.out|apply a_g|apply a_b|apply a_h|refine a_f ?_ c_S.out)|exact HB.out))) : w.heap.size ≤ b_s));have d_V:=a_c.mk ((by rw [hg];exact (a_n (by repeat (first|(with_reducible first|exact HB.out|apply a_g|apply a_b|apply a_h|refine a_f ?_ c_S.out)|exact HB.out))) : w.heap.size ≤ b_s));have b_0:=a_c.mk ((by rw [hg];exact Nat.ne_of_lt (a_J (bup_ b_i.out)) : c_W ≠ b_s));have d_g:=a_c.mk ((by rw [hg];exact Nat.ne_of_gt (a_J (bup_ b_i.out)) : b_s ≠ c_W));replace b_i:=a_c.mk (a_m (bup_ b_i.out) hb);replace HB:=a_c.mk (a_o (by repeat (first|(with_reducible first|exact HB.out|apply a_g|apply a_b|apply a_h|refine a_f ?_ c_S.out)|exact HB.out)) hb);clear hb hbox hg;have t_M:=d_g.out;have t_N:=b_0.out;have q_F : w28.cell? ⟨b_s,0,none⟩ = some (.int .i64 0):=(a_a b_u.out 0).trans rfl;have q_G : w28.cell? ⟨b_s,1,none⟩ = some (.slice none 0 0):=(a_a b_u.out 1).trans rfl;have q_H:=a_e b_u.out 0;have q_I:=a_e b_u.out 1))
      have n0_ : a_c (((w28.setCell ⟨b_s,0,none⟩ (.int .i64 ((a_p l0_0 x22_2).f0))).setCell ⟨b_s,1,none⟩ (.slice A122_1 ((a_p l0_0 x22_2).f1).length c122_1)).heap[c_W]? = some (.cells #[.slice (some ad122) l0_0.length c0_0,.int .i64 a0_1] 24 (0,0))):=⟨by (with_reducible repeat (first|refine a_j ?_ _|refine a_l ?_|refine a_i ?_ _));refine a_I ?_ b_0.out _;(with_reducible repeat (first|refine a_j ?_ _|refine a_l ?_|refine a_i ?_ _));refine a_I ?_ b_0.out _;(with_reducible repeat (first|refine a_j ?_ _|refine a_l ?_|refine a_i ?_ _));exact b_i.out⟩
      have n1_ : a_c (((w28.setCell ⟨b_s,0,none⟩ (.int .i64 ((a_p l0_0 x22_2).f0))).setCell ⟨b_s,1,none⟩ (.slice A122_1 ((a_p l0_0 x22_2).f1).length c122_1)).heap[b_s]? = some (.cells #[.int .i64 ((a_p l0_0 x22_2).f0),.slice A122_1 ((a_p l0_0 x22_2).f1).length c122_1] 27 (0,0))):=⟨by (with_reducible repeat (first|refine a_j ?_ _|refine a_l ?_|refine a_i ?_ _));refine a_E (cs:=#[.int .i64 ((a_p l0_0 x22_2).f0),.slice none 0 0]) ?_ 1 _ rfl;(with_reducible repeat (first|refine a_j ?_ _|refine a_l ?_|refine a_i ?_ _));refine a_E (cs:=#[.int .i64 0,.slice none 0 0]) ?_ 0 _ rfl;(with_reducible repeat (first|refine a_j ?_ _|refine a_l ?_|refine a_i ?_ _));exact b_u.out⟩
      have n2_ : a_c (Below w.heap.size w ((w28.setCell ⟨b_s,0,none⟩ (.int .i64 ((a_p l0_0 x22_2).f0))).setCell ⟨b_s,1,none⟩ (.slice A122_1 ((a_p l0_0 x22_2).f1).length c122_1))):=⟨by repeat (first|(with_reducible first|exact HB.out|apply a_g|apply a_b|apply a_h|refine a_f ?_ c_S.out|refine a_f ?_ d_V.out)|exact HB.out)⟩
      (try clear b_i)
      (try clear b_u)
      (try clear HB)
      generalize ((w28.setCell ⟨b_s,0,none⟩ (.int .i64 ((a_p l0_0 x22_2).f0))).setCell ⟨b_s,1,none⟩ (.slice A122_1 ((a_p l0_0 x22_2).f1).length c122_1)) = w31 at n0_ n1_ n2_ ⊢
      have b_i:=n0_
      have b_u:=n1_
      have HB:=n2_
      clear n0_ n1_ n2_
      replace b_i:=a_c.mk (a_l b_i.out)
      replace b_u:=a_c.mk (a_l b_u.out)
      replace HB:=a_c.mk (a_h HB.out)
      have p125 : 0 ≤ ((ji24) : Int):=of_decide_eq_true (by first|(with_reducible assumption)|assumption)
      have q125 : (ji24) < (l0_0.length : Int):=of_decide_eq_true (by first|(with_reducible assumption)|assumption)
      obtain ⟨ad125,A125_1,c125_1,e125,d_z,d_A,f_j,f_k⟩:=d_K b_5.out (ji24) p125 q125
      have d_W:=d_A
      have d_X:=d_z
      obtain rfl : ad122 = ad125:=(by injection e125)
      replace d_z:=(HB.out.cell (World.block_lt_of_cell? w _ d_z)).trans d_z
      replace d_A:=(HB.out.cell (World.block_lt_of_cell? w _ d_A)).trans d_A
      have h_q:=a_c.mk f_k
      have n_e:=a_c.mk f_j
      clear f_k f_j
      replace p125:=eq_true p125
      replace q125:=eq_true q125
      refine d_n (n:=26) (S:=fun w' => w'.cell? ⟨b_s,0,none⟩ = some (.int .i64 ((a_p l0_0 x22_2).f0)) ∧ w'.cell? ⟨b_s,1,none⟩ = some (.slice A122_1 ((a_p l0_0 x22_2).f1).length c122_1) ∧ w'.cell? ⟨c_W,0,none⟩ = some (.slice (some ad122) l0_0.length c0_0) ∧ w'.cell? ⟨c_W,1,none⟩ = some (.int .i64 a0_1) ∧ w'.cell? (ad122.add (((ji24)).toNat * 2)) = some (.int .i64 ((a_p l0_0 (ji24)).f0)) ∧ w'.cell? ⟨(ad122.add (((ji24)).toNat * 2)).block,(ad122.add (((ji24)).toNat * 2)).off + 1,none⟩ = some (.slice A125_1 ((a_p l0_0 (ji24)).f1).length c125_1)) (ds:=[]) Z1_ (by kernel_rfl) rfl rfl ⟨(a_a b_u.out 0).trans rfl,(a_a b_u.out 1).trans rfl,(a_a b_i.out 0).trans rfl,(a_a b_i.out 1).trans rfl,((HB.out.cell (World.block_lt_of_cell? w _ d_X)).trans d_X),((HB.out.cell (World.block_lt_of_cell? w _ d_W)).trans d_W)⟩ (fun hHeld => ?_);refine b_9 a_t.tab6 a_t.e_r (fun HT_ HW_ => ?_)
      generalize w31.drew = w32 at b_i b_u HB h_q d_z d_A hHeld ⊢
      refine b_F (i:=0) (N:=some 27) (v:=?_) (a':=?_) Z3_ rfl rfl (a_Q HT_.out HW_.out (by kernel_rfl)) (fun _ _ _ h => h) (Or.inl ⟨by rfl,?_⟩) hHeld ?_ ?_
      rotate_left
      ·rintro w' ⟨s0,s1,s2,s3,s4,s5⟩
       go_simp
       with_reducible rfl
      rotate_left
      ·simp only [Act.put,sa_,sb_,sc_,a_r,a_s]
       rfl
      refine one_ (i:=1) (N:=some 28) Z5_ rfl rfl (c_B HT_.out (by kernel_rfl)) (by decide) (fun K hK => ?_)
      refine d_w Try.func24 (by kernel_rfl) rfl #[.agg #[.int .i64 ((a_p l0_0 x22_2).f0),.slice A122_1 ((a_p l0_0 x22_2).f1).length c122_1]] (by rfl) rfl rfl (by (try simp only [List.map_toArray,List.map_cons,List.map_nil]);first|done|rfl|(simp only [List.length_drop,List.length_take];rfl)) ?_
      with_reducible refine (a_y.calls k2 ((a_p l0_0 x22_2).f0) _ _ ((a_p l0_0 x22_2).f1) true _ ?side1 ?side2 A14.out).mono ?_
      (case side1 => repeat (first|exact (Kd.a_U d_T.out HB.out)|(with_reducible refine Kd.a_8 ?_ _)|(with_reducible refine Kd.a_7 ?_ _)|(with_reducible refine Kd.b_t ?_)))
      (case side2 => exact d_U.out)
      rintro e w33 ⟨rfl,hb⟩
      refine ⟨_,rfl,?_⟩
      replace b_i:=a_c.mk (a_m (bup_ b_i.out) hb)
      replace b_u:=a_c.mk (a_m (bup_ b_u.out) hb)
      replace HB:=a_c.mk (a_o (by repeat (first|(with_reducible first|exact HB.out|apply a_g|apply a_b|apply a_h|refine a_f ?_ c_S.out|refine a_f ?_ d_V.out)|exact HB.out)) hb)
      (try clear hb)
      (try clear hb2)
      (try clear hk)
      (try clear hi)
      refine hK.out _ _ ⟨(a_a b_u.out 0).trans rfl,(a_a b_u.out 1).trans rfl,(a_a b_i.out 0).trans rfl,(a_a b_i.out 1).trans rfl,((HB.out.cell (World.block_lt_of_cell? w _ d_X)).trans d_X),((HB.out.cell (World.block_lt_of_cell? w _ d_W)).trans d_W)⟩ (fun hHeld => ?_)
      clear hK K
      refine d_k (a':=?_) ?_ ?_
      rotate_left
      ·show Act.put _ (some 28) _ = _
       simp only [Act.put,sa_,sb_,sc_,a_r,a_s]
       rfl
      refine a_x (i:=2) (N:=some 29) (v:=?_) (a':=?_) Z7_ rfl rfl (a_q HT_.out (by kernel_rfl)) (fun _ _ _ h => h) (Or.inl ⟨by rfl,?_⟩) ?_ ?_
      rotate_left
      ·intro w'
       go_simp
       with_reducible rfl
      rotate_left
      ·simp only [Act.put,sa_,sb_,sc_,a_r,a_s]
       rfl
      refine a_x (i:=3) (N:=some 30) (v:=?_) (a':=?_) Z9_ rfl rfl (a_q HT_.out (by kernel_rfl)) (fun _ _ _ h => h) (Or.inl ⟨by rfl,?_⟩) ?_ ?_
      rotate_left
      ·intro w'
       go_simp
       with_reducible rfl
      rotate_left
      ·simp only [Act.put,sa_,sb_,sc_,a_r,a_s]
       rfl
      refine a_x (i:=4) (N:=some 31) (v:=?_) (a':=?_) Z11_ rfl rfl (a_q HT_.out (by kernel_rfl)) (fun _ _ _ h => h) (Or.inl ⟨by rfl,?_⟩) ?_ ?_
      rotate_left
      ·intro w'
       go_simp
       with_reducible rfl
      rotate_left
      ·simp only [Act.put,sa_,sb_,sc_,a_r,a_s]
       rfl
      refine a_x (i:=6) (N:=some 33) (v:=?_) (a':=?_) Z12_ rfl rfl (a_q HT_.out (by kernel_rfl)) (fun _ _ _ h => h) (Or.inl ⟨by rfl,?_⟩) ?_ ?_
      rotate_left
      ·intro w'
       go_simp
       with_reducible rfl
      rotate_left
      ·simp only [Act.put,sa_,sb_,sc_,a_r,a_s]
       rfl
      refine b_F (i:=5) (N:=some 32) (v:=?_) (a':=?_) Z15_ rfl rfl (a_Q HT_.out HW_.out (by kernel_rfl)) (fun _ _ _ h => h) (Or.inl ⟨by rfl,?_⟩) hHeld ?_ ?_
      rotate_left
      ·rintro w' ⟨s0,s1,s2,s3,s4,s5⟩
       go_simp
       with_reducible rfl
      rotate_left
      ·simp only [Act.put,sa_,sb_,sc_,a_r,a_s]
       rfl
      refine b_F (i:=7) (N:=some 34) (v:=?_) (a':=?_) Z17_ rfl rfl (a_Q HT_.out HW_.out (by kernel_rfl)) (fun _ _ _ h => h) (Or.inl ⟨by rfl,?_⟩) hHeld ?_ ?_
      rotate_left
      ·rintro w' ⟨s0,s1,s2,s3,s4,s5⟩
       go_simp
       with_reducible rfl
      rotate_left
      ·simp only [Act.put,sa_,sb_,sc_,a_r,a_s]
       rfl
      refine a_x (i:=8) (N:=some 35) (v:=?_) (a':=?_) Z22_ rfl rfl (a_q HT_.out (by kernel_rfl)) (fun _ _ _ h => h) (Or.inl ⟨by rfl,?_⟩) ?_ ?_
      rotate_left
      ·intro w'
       go_simp
       with_reducible rfl
      rotate_left
      ·simp only [Act.put,sa_,sb_,sc_,a_r,a_s]
       rfl
      refine a_x (i:=9) (N:=some 36) (v:=?_) (a':=?_) Z24_ rfl rfl (a_q HT_.out (by kernel_rfl)) (fun _ _ _ h => h) (Or.inl ⟨by rfl,?_⟩) ?_ ?_
      rotate_left
      ·intro w'
       go_simp
       with_reducible rfl
      rotate_left
      ·simp only [Act.put,sa_,sb_,sc_,a_r,a_s]
       rfl
      refine a_x (i:=10) (N:=some 37) (v:=?_) (a':=?_) Z26_ rfl rfl (a_q HT_.out (by kernel_rfl)) (fun _ _ _ h => h) (Or.inl ⟨by rfl,?_⟩) ?_ ?_
      rotate_left
      ·intro w'
       go_simp
       with_reducible rfl
      rotate_left
      ·simp only [Act.put,sa_,sb_,sc_,a_r,a_s]
       rfl
      refine a_x (i:=11) (N:=some 38) (v:=?_) (a':=?_) Z29_ rfl rfl (a_q HT_.out (by kernel_rfl)) (fun _ _ _ h => h) (Or.inl ⟨by rfl,?_⟩) ?_ ?_
      rotate_left
      ·intro w'
       go_simp
       with_reducible rfl
      rotate_left
      ·simp only [Act.put,sa_,sb_,sc_,a_r,a_s]
       rfl
      refine a_x (i:=12) (N:=some 39) (v:=?_) (a':=?_) Z32_ rfl rfl (a_q HT_.out (by kernel_rfl)) (fun _ _ _ h => h) (Or.inl ⟨by rfl,?_⟩) ?_ ?_
      rotate_left
      ·intro w'
       go_simp
       with_reducible rfl
      rotate_left
      ·simp only [Act.put,sa_,sb_,sc_,a_r,a_s]
       rfl
      refine a_x (i:=13) (N:=some 40) (v:=?_) (a':=?_) Z35_ rfl rfl (a_q HT_.out (by kernel_rfl)) (fun _ _ _ h => h) (Or.inl ⟨by rfl,?_⟩) ?_ ?_
      rotate_left
      ·intro w'
       go_simp
       with_reducible rfl
      rotate_left
      ·simp only [Act.put,sa_,sb_,sc_,a_r,a_s]
       rfl
      refine a_x (i:=14) (N:=some 41) (v:=?_) (a':=?_) Z37_ rfl rfl (a_q HT_.out (by kernel_rfl)) (fun _ _ _ h => h) (Or.inl ⟨by rfl,?_⟩) ?_ ?_
      rotate_left
      ·intro w'
       go_simp
       with_reducible rfl
      rotate_left
      ·simp only [Act.put,sa_,sb_,sc_,a_r,a_s]
       rfl
      refine a_x (i:=16) (N:=some 43) (v:=?_) (a':=?_) Z38_ rfl rfl (a_q HT_.out (by kernel_rfl)) (fun _ _ _ h => h) (Or.inl ⟨by rfl,?_⟩) ?_ ?_
      rotate_left
      ·intro w'
       go_simp
       with_reducible rfl
      rotate_left
      ·simp only [Act.put,sa_,sb_,sc_,a_r,a_s]
       rfl
      refine a_x (i:=17) (N:=some 44) (v:=?_) (a':=?_) Z39_ rfl rfl (a_q HT_.out (by kernel_rfl)) (fun _ _ _ h => h) (Or.inl ⟨by rfl,?_⟩) ?_ ?_
      rotate_left
      ·intro w'
       go_simp
       with_reducible rfl
      rotate_left
      ·simp only [Act.put,sa_,sb_,sc_,a_r,a_s]
       rfl
      refine a_x (i:=21) (N:=some 48) (v:=?_) (a':=?_) Z40_ rfl rfl (a_q HT_.out (by kernel_rfl)) (fun _ _ _ h => h) (Or.inl ⟨by rfl,?_⟩) ?_ ?_
      rotate_left
      ·intro w'
       go_simp
       with_reducible rfl
      rotate_left
      ·simp only [Act.put,sa_,sb_,sc_,a_r,a_s]
       rfl
      refine b_F (i:=15) (N:=some 42) (v:=?_) (a':=?_) Z47_ rfl rfl (a_Q HT_.out HW_.out (by kernel_rfl)) (fun _ _ _ h => h) (Or.inl ⟨by rfl,?_⟩) hHeld ?_ ?_
      rotate_left
      ·rintro w' ⟨s0,s1,s2,s3,s4,s5⟩
       go_simp
       with_reducible rfl
      rotate_left
      ·simp only [Act.put,sa_,sb_,sc_,a_r,a_s]
       rfl
      refine a_x (i:=18) (N:=some 45) (v:=?_) (a':=?_) Z50_ rfl rfl (a_q HT_.out (by kernel_rfl)) (fun _ _ _ h => h) (Or.inl ⟨by rfl,?_⟩) ?_ ?_
      rotate_left
      ·intro w'
       go_simp
       with_reducible rfl
      rotate_left
      ·simp only [Act.put,sa_,sb_,sc_,a_r,a_s]
       rfl
      refine a_x (i:=19) (N:=some 46) (v:=?_) (a':=?_) Z53_ rfl rfl (a_q HT_.out (by kernel_rfl)) (fun _ _ _ h => h) (Or.inl ⟨by rfl,?_⟩) ?_ ?_
      rotate_left
      ·intro w'
       go_simp
       with_reducible rfl
      rotate_left
      ·simp only [Act.put,sa_,sb_,sc_,a_r,a_s]
       rfl
      refine b_F (i:=20) (N:=some 47) (v:=?_) (a':=?_) Z58_ rfl rfl (a_Q HT_.out HW_.out (by kernel_rfl)) (fun _ _ _ h => h) (Or.inl ⟨by rfl,?_⟩) hHeld ?_ ?_
      rotate_left
      ·rintro w' ⟨s0,s1,s2,s3,s4,s5⟩
       go_simp
       with_reducible rfl
      rotate_left
      ·simp only [Act.put,sa_,sb_,sc_,a_r,a_s]
       rfl
      refine b_F (i:=22) (N:=some 49) (v:=?_) (a':=?_) Z61_ rfl rfl (a_Q HT_.out HW_.out (by kernel_rfl)) (fun _ _ _ h => h) (Or.inl ⟨by rfl,?_⟩) hHeld ?_ ?_
      rotate_left
      ·rintro w' ⟨s0,s1,s2,s3,s4,s5⟩
       go_simp
       with_reducible rfl
      rotate_left
      ·simp only [Act.put,sa_,sb_,sc_,a_r,a_s]
       rfl
      refine a_x (i:=23) (N:=some 50) (v:=?_) (a':=?_) Z65_ rfl rfl (a_q HT_.out (by kernel_rfl)) (fun _ _ _ h => h) (Or.inl ⟨by rfl,?_⟩) ?_ ?_
      rotate_left
      ·intro w'
       go_simp
       with_reducible rfl
      rotate_left
      ·simp only [Act.put,sa_,sb_,sc_,a_r,a_s]
       rfl
      refine a_x (i:=24) (N:=some 51) (v:=?_) (a':=?_) Z67_ rfl rfl (a_q HT_.out (by kernel_rfl)) (fun _ _ _ h => h) (Or.inl ⟨by rfl,?_⟩) ?_ ?_
      rotate_left
      ·intro w'
       go_simp
       with_reducible rfl
      rotate_left
      ·simp only [Act.put,sa_,sb_,sc_,a_r,a_s]
       rfl
      refine a_x (i:=25) (N:=some 52) (v:=?_) (a':=?_) Z84_ rfl rfl (a_q HT_.out (by kernel_rfl)) (fun _ _ _ h => h) (Or.inl ⟨by rfl,?_⟩) ?_ ?_
      rotate_left
      ·intro w'
       go_simp
       with_reducible rfl
      rotate_left
      ·simp only [Act.put,sa_,sb_,sc_,a_r,a_s]
       rfl
      refine d_3 (c_U HT_.out (by kernel_rfl)) ?_
      try go_wp2
      go_ret
      exact ⟨by first|rfl|(simp [a_v,a_u] <;> rfl)|(simp only [← hji24];first|rfl|(simp [a_v,a_u] <;> rfl))|(simp [*, a_v,a_u] <;> rfl),by repeat (first|(with_reducible first|exact HB.out|apply a_g|apply a_b|apply a_h|refine a_f ?_ c_S.out|refine a_f ?_ d_V.out)|exact HB.out)⟩
     rw [if_neg c27] at H
     have c27b0 : decide (((a_p l0_0 x22_2).f0) ≤ ((a_p l0_0 (ji24)).f0)) = false:=decide_eq_false c27
     clear c27
     have H':=a_c.mk H
     clear H
     have p122 : 0 ≤ (x22_2 : Int):=of_decide_eq_true (by first|(with_reducible assumption)|assumption)
     have q122 : x22_2 < (l0_0.length : Int):=of_decide_eq_true (by first|(with_reducible assumption)|assumption)
     obtain ⟨ad122,A122_1,c122_1,e122,c_L,c_M,d_e,d_f⟩:=d_K b_5.out x22_2 p122 q122
     cases e122
     replace c_L:=(HB.out.cell (World.block_lt_of_cell? w _ c_L)).trans c_L
     replace c_M:=(HB.out.cell (World.block_lt_of_cell? w _ c_M)).trans c_M
     have d_T:=a_c.mk d_f
     have d_U:=a_c.mk d_e
     clear d_f d_e
     replace p122:=eq_true p122
     replace q122:=eq_true q122
     try go_wp2_with (first|((with_reducible refine a_M (N:=4) rfl ?_);refine a_G ?hg (N:=4) ?hd (cs:=#[.int .i64 0,.slice none 0 0]) (t:=27) ?hr ?_;(case hd => rfl);(case hg => rfl);(case hr => first|(go_simp;done)|(go_simp;rfl));intro b_s hg w34 hbox hb;have b_u:=a_c.mk (hbox);have l_O:=a_c.mk ((by rw [hg];exact (a_n (by repeat (first|(with_reducible first|exact HB.out|apply a_g|apply a_b|apply a_h|refine a_f ?_ c_S.out)|exact HB.out))) : w.heap.size ≤ b_s));have d_V:=a_c.mk ((by rw [hg];exact (a_n (by repeat (first|(with_reducible first|exact HB.out|apply a_g|apply a_b|apply a_h|refine a_f ?_ c_S.out)|exact HB.out))) : w.heap.size ≤ b_s));have b_0:=a_c.mk ((by rw [hg];exact Nat.ne_of_lt (a_J (bup_ b_i.out)) : c_W ≠ b_s));have d_g:=a_c.mk ((by rw [hg];exact Nat.ne_of_gt (a_J (bup_ b_i.out)) : b_s ≠ c_W));replace b_i:=a_c.mk (a_m (bup_ b_i.out) hb);replace HB:=a_c.mk (a_o (by repeat (first|(with_reducible first|exact HB.out|apply a_g|apply a_b|apply a_h|refine a_f ?_ c_S.out)|exact HB.out)) hb);clear hb hbox hg;have q_J:=d_g.out;have q_K:=b_0.out;have n_f : w34.cell? ⟨b_s,0,none⟩ = some (.int .i64 0):=(a_a b_u.out 0).trans rfl;have n_g : w34.cell? ⟨b_s,1,none⟩ = some (.slice none 0 0):=(a_a b_u.out 1).trans rfl;have n_h:=a_e b_u.out 0;have n_i:=a_e b_u.out 1))
     have n0_ : a_c (((w34.setCell ⟨b_s,0,none⟩ (.int .i64 ((a_p l0_0 x22_2).f0))).setCell ⟨b_s,1,none⟩ (.slice A122_1 ((a_p l0_0 x22_2).f1).length c122_1)).heap[c_W]? = some (.cells #[.slice (some ad122) l0_0.length c0_0,.int .i64 a0_1] 24 (0,0))):=⟨by (with_reducible repeat (first|refine a_j ?_ _|refine a_l ?_|refine a_i ?_ _));refine a_I ?_ b_0.out _;(with_reducible repeat (first|refine a_j ?_ _|refine a_l ?_|refine a_i ?_ _));refine a_I ?_ b_0.out _;(with_reducible repeat (first|refine a_j ?_ _|refine a_l ?_|refine a_i ?_ _));exact b_i.out⟩
     have n1_ : a_c (((w34.setCell ⟨b_s,0,none⟩ (.int .i64 ((a_p l0_0 x22_2).f0))).setCell ⟨b_s,1,none⟩ (.slice A122_1 ((a_p l0_0 x22_2).f1).length c122_1)).heap[b_s]? = some (.cells #[.int .i64 ((a_p l0_0 x22_2).f0),.slice A122_1 ((a_p l0_0 x22_2).f1).length c122_1] 27 (0,0))):=⟨by (with_reducible repeat (first|refine a_j ?_ _|refine a_l ?_|refine a_i ?_ _));refine a_E (cs:=#[.int .i64 ((a_p l0_0 x22_2).f0),.slice none 0 0]) ?_ 1 _ rfl;(with_reducible repeat (first|refine a_j ?_ _|refine a_l ?_|refine a_i ?_ _));refine a_E (cs:=#[.int .i64 0,.slice none 0 0]) ?_ 0 _ rfl;(with_reducible repeat (first|refine a_j ?_ _|refine a_l ?_|refine a_i ?_ _));exact b_u.out⟩
     have n2_ : a_c (Below w.heap.size w ((w34.setCell ⟨b_s,0,none⟩ (.int .i64 ((a_p l0_0 x22_2).f0))).setCell ⟨b_s,1,none⟩ (.slice A122_1 ((a_p l0_0 x22_2).f1).length c122_1))):=⟨by repeat (first|(with_reducible first|exact HB.out|apply a_g|apply a_b|apply a_h|refine a_f ?_ c_S.out|refine a_f ?_ d_V.out)|exact HB.out)⟩
     (try clear b_i)
     (try clear b_u)
     (try clear HB)
     generalize ((w34.setCell ⟨b_s,0,none⟩ (.int .i64 ((a_p l0_0 x22_2).f0))).setCell ⟨b_s,1,none⟩ (.slice A122_1 ((a_p l0_0 x22_2).f1).length c122_1)) = w37 at n0_ n1_ n2_ ⊢
     have b_i:=n0_
     have b_u:=n1_
     have HB:=n2_
     clear n0_ n1_ n2_
     replace b_i:=a_c.mk (a_l b_i.out)
     replace b_u:=a_c.mk (a_l b_u.out)
     replace HB:=a_c.mk (a_h HB.out)
     have p125 : 0 ≤ ((ji24) : Int):=of_decide_eq_true (by first|(with_reducible assumption)|assumption)
     have q125 : (ji24) < (l0_0.length : Int):=of_decide_eq_true (by first|(with_reducible assumption)|assumption)
     obtain ⟨ad125,A125_1,c125_1,e125,d_z,d_A,f_j,f_k⟩:=d_K b_5.out (ji24) p125 q125
     have d_W:=d_A
     have d_X:=d_z
     obtain rfl : ad122 = ad125:=(by injection e125)
     replace d_z:=(HB.out.cell (World.block_lt_of_cell? w _ d_z)).trans d_z
     replace d_A:=(HB.out.cell (World.block_lt_of_cell? w _ d_A)).trans d_A
     have h_q:=a_c.mk f_k
     have n_e:=a_c.mk f_j
     clear f_k f_j
     replace p125:=eq_true p125
     replace q125:=eq_true q125
     refine d_n (n:=26) (S:=fun w' => w'.cell? ⟨b_s,0,none⟩ = some (.int .i64 ((a_p l0_0 x22_2).f0)) ∧ w'.cell? ⟨b_s,1,none⟩ = some (.slice A122_1 ((a_p l0_0 x22_2).f1).length c122_1) ∧ w'.cell? ⟨c_W,0,none⟩ = some (.slice (some ad122) l0_0.length c0_0) ∧ w'.cell? ⟨c_W,1,none⟩ = some (.int .i64 a0_1) ∧ w'.cell? (ad122.add (((ji24)).toNat * 2)) = some (.int .i64 ((a_p l0_0 (ji24)).f0)) ∧ w'.cell? ⟨(ad122.add (((ji24)).toNat * 2)).block,(ad122.add (((ji24)).toNat * 2)).off + 1,none⟩ = some (.slice A125_1 ((a_p l0_0 (ji24)).f1).length c125_1)) (ds:=[]) Z1_ (by kernel_rfl) rfl rfl ⟨(a_a b_u.out 0).trans rfl,(a_a b_u.out 1).trans rfl,(a_a b_i.out 0).trans rfl,(a_a b_i.out 1).trans rfl,((HB.out.cell (World.block_lt_of_cell? w _ d_X)).trans d_X),((HB.out.cell (World.block_lt_of_cell? w _ d_W)).trans d_W)⟩ (fun hHeld => ?_);refine b_9 a_t.tab6 a_t.e_r (fun HT_ HW_ => ?_)
     generalize w37.drew = w38 at b_i b_u HB h_q d_z d_A hHeld ⊢
     refine b_F (i:=0) (N:=some 27) (v:=?_) (a':=?_) Z3_ rfl rfl (a_Q HT_.out HW_.out (by kernel_rfl)) (fun _ _ _ h => h) (Or.inl ⟨by rfl,?_⟩) hHeld ?_ ?_
     rotate_left
     ·rintro w' ⟨s0,s1,s2,s3,s4,s5⟩
      go_simp
      with_reducible rfl
     rotate_left
     ·simp only [Act.put,sa_,sb_,sc_,a_r,a_s]
      rfl
     refine one_ (i:=1) (N:=some 28) Z5_ rfl rfl (c_B HT_.out (by kernel_rfl)) (by decide) (fun K hK => ?_)
     refine d_w Try.func24 (by kernel_rfl) rfl #[.agg #[.int .i64 ((a_p l0_0 x22_2).f0),.slice A122_1 ((a_p l0_0 x22_2).f1).length c122_1]] (by rfl) rfl rfl (by (try simp only [List.map_toArray,List.map_cons,List.map_nil]);first|done|rfl|(simp only [List.length_drop,List.length_take];rfl)) ?_
     with_reducible refine (a_y.calls k2 ((a_p l0_0 x22_2).f0) _ _ ((a_p l0_0 x22_2).f1) true _ ?side1 ?side2 A14.out).mono ?_
     (case side1 => repeat (first|exact (Kd.a_U d_T.out HB.out)|(with_reducible refine Kd.a_8 ?_ _)|(with_reducible refine Kd.a_7 ?_ _)|(with_reducible refine Kd.b_t ?_)))
     (case side2 => exact d_U.out)
     rintro e w39 ⟨rfl,hb⟩
     refine ⟨_,rfl,?_⟩
     replace b_i:=a_c.mk (a_m (bup_ b_i.out) hb)
     replace b_u:=a_c.mk (a_m (bup_ b_u.out) hb)
     replace HB:=a_c.mk (a_o (by repeat (first|(with_reducible first|exact HB.out|apply a_g|apply a_b|apply a_h|refine a_f ?_ c_S.out|refine a_f ?_ d_V.out)|exact HB.out)) hb)
     (try clear hb)
     (try clear hb2)
     (try clear hk)
     (try clear hi)
     refine hK.out _ _ ⟨(a_a b_u.out 0).trans rfl,(a_a b_u.out 1).trans rfl,(a_a b_i.out 0).trans rfl,(a_a b_i.out 1).trans rfl,((HB.out.cell (World.block_lt_of_cell? w _ d_X)).trans d_X),((HB.out.cell (World.block_lt_of_cell? w _ d_W)).trans d_W)⟩ (fun hHeld => ?_)
     clear hK K
     refine d_k (a':=?_) ?_ ?_
     rotate_left
     ·show Act.put _ (some 28) _ = _
      simp only [Act.put,sa_,sb_,sc_,a_r,a_s]
      rfl
     refine a_x (i:=2) (N:=some 29) (v:=?_) (a':=?_) Z7_ rfl rfl (a_q HT_.out (by kernel_rfl)) (fun _ _ _ h => h) (Or.inl ⟨by rfl,?_⟩) ?_ ?_
     rotate_left
     ·intro w'
      go_simp
      with_reducible rfl
     rotate_left
     ·simp only [Act.put,sa_,sb_,sc_,a_r,a_s]
      rfl
     refine a_x (i:=3) (N:=some 30) (v:=?_) (a':=?_) Z9_ rfl rfl (a_q HT_.out (by kernel_rfl)) (fun _ _ _ h => h) (Or.inl ⟨by rfl,?_⟩) ?_ ?_
     rotate_left
     ·intro w'
      go_simp
      with_reducible rfl
     rotate_left
     ·simp only [Act.put,sa_,sb_,sc_,a_r,a_s]
      rfl
     refine a_x (i:=4) (N:=some 31) (v:=?_) (a':=?_) Z11_ rfl rfl (a_q HT_.out (by kernel_rfl)) (fun _ _ _ h => h) (Or.inl ⟨by rfl,?_⟩) ?_ ?_
     rotate_left
     ·intro w'
      go_simp
      with_reducible rfl
     rotate_left
     ·simp only [Act.put,sa_,sb_,sc_,a_r,a_s]
      rfl
     refine a_x (i:=6) (N:=some 33) (v:=?_) (a':=?_) Z12_ rfl rfl (a_q HT_.out (by kernel_rfl)) (fun _ _ _ h => h) (Or.inl ⟨by rfl,?_⟩) ?_ ?_
     rotate_left
     ·intro w'
      go_simp
      with_reducible rfl
     rotate_left
     ·simp only [Act.put,sa_,sb_,sc_,a_r,a_s]
      rfl
     refine b_F (i:=5) (N:=some 32) (v:=?_) (a':=?_) Z15_ rfl rfl (a_Q HT_.out HW_.out (by kernel_rfl)) (fun _ _ _ h => h) (Or.inl ⟨by rfl,?_⟩) hHeld ?_ ?_
     rotate_left
     ·rintro w' ⟨s0,s1,s2,s3,s4,s5⟩
      go_simp
      with_reducible rfl
     rotate_left
     ·simp only [Act.put,sa_,sb_,sc_,a_r,a_s]
      rfl
     refine b_F (i:=7) (N:=some 34) (v:=?_) (a':=?_) Z17_ rfl rfl (a_Q HT_.out HW_.out (by kernel_rfl)) (fun _ _ _ h => h) (Or.inl ⟨by rfl,?_⟩) hHeld ?_ ?_
     rotate_left
     ·rintro w' ⟨s0,s1,s2,s3,s4,s5⟩
      go_simp
      with_reducible rfl
     rotate_left
     ·simp only [Act.put,sa_,sb_,sc_,a_r,a_s]
      rfl
     refine a_x (i:=8) (N:=some 35) (v:=?_) (a':=?_) Z22_ rfl rfl (a_q HT_.out (by kernel_rfl)) (fun _ _ _ h => h) (Or.inl ⟨by rfl,?_⟩) ?_ ?_
     rotate_left
     ·intro w'
      go_simp
      with_reducible rfl
     rotate_left
     ·simp only [Act.put,sa_,sb_,sc_,a_r,a_s]
      rfl
     refine a_x (i:=9) (N:=some 36) (v:=?_) (a':=?_) Z24_ rfl rfl (a_q HT_.out (by kernel_rfl)) (fun _ _ _ h => h) (Or.inl ⟨by rfl,?_⟩) ?_ ?_
     rotate_left
     ·intro w'
      go_simp
      with_reducible rfl
     rotate_left
     ·simp only [Act.put,sa_,sb_,sc_,a_r,a_s]
      rfl
     refine a_x (i:=10) (N:=some 37) (v:=?_) (a':=?_) Z26_ rfl rfl (a_q HT_.out (by kernel_rfl)) (fun _ _ _ h => h) (Or.inl ⟨by rfl,?_⟩) ?_ ?_
     rotate_left
     ·intro w'
      go_simp
      with_reducible rfl
     rotate_left
     ·simp only [Act.put,sa_,sb_,sc_,a_r,a_s]
      rfl
     refine a_x (i:=11) (N:=some 38) (v:=?_) (a':=?_) Z29_ rfl rfl (a_q HT_.out (by kernel_rfl)) (fun _ _ _ h => h) (Or.inl ⟨by rfl,?_⟩) ?_ ?_
     rotate_left
     ·intro w'
      go_simp
      with_reducible rfl
     rotate_left
     ·simp only [Act.put,sa_,sb_,sc_,a_r,a_s]
      rfl
     refine a_x (i:=12) (N:=some 39) (v:=?_) (a':=?_) Z32_ rfl rfl (a_q HT_.out (by kernel_rfl)) (fun _ _ _ h => h) (Or.inl ⟨by rfl,?_⟩) ?_ ?_
     rotate_left
     ·intro w'
      go_simp
      with_reducible rfl
     rotate_left
     ·simp only [Act.put,sa_,sb_,sc_,a_r,a_s]
      rfl
     refine a_x (i:=13) (N:=some 40) (v:=?_) (a':=?_) Z35_ rfl rfl (a_q HT_.out (by kernel_rfl)) (fun _ _ _ h => h) (Or.inl ⟨by rfl,?_⟩) ?_ ?_
     rotate_left
     ·intro w'
      go_simp
      with_reducible rfl
     rotate_left
     ·simp only [Act.put,sa_,sb_,sc_,a_r,a_s]
      rfl
     refine a_x (i:=14) (N:=some 41) (v:=?_) (a':=?_) Z37_ rfl rfl (a_q HT_.out (by kernel_rfl)) (fun _ _ _ h => h) (Or.inl ⟨by rfl,?_⟩) ?_ ?_
     rotate_left
     ·intro w'
      go_simp
      with_reducible rfl
     rotate_left
     ·simp only [Act.put,sa_,sb_,sc_,a_r,a_s]
      rfl
     refine a_x (i:=16) (N:=some 43) (v:=?_) (a':=?_) Z38_ rfl rfl (a_q HT_.out (by kernel_rfl)) (fun _ _ _ h => h) (Or.inl ⟨by rfl,?_⟩) ?_ ?_
     rotate_left
     ·intro w'
      go_simp
      with_reducible rfl
     rotate_left
     ·simp only [Act.put,sa_,sb_,sc_,a_r,a_s]
      rfl
     refine a_x (i:=17) (N:=some 44) (v:=?_) (a':=?_) Z39_ rfl rfl (a_q HT_.out (by kernel_rfl)) (fun _ _ _ h => h) (Or.inl ⟨by rfl,?_⟩) ?_ ?_
     rotate_left
     ·intro w'
      go_simp
      with_reducible rfl
     rotate_left
     ·simp only [Act.put,sa_,sb_,sc_,a_r,a_s]
      rfl
     refine a_x (i:=21) (N:=some 48) (v:=?_) (a':=?_) Z40_ rfl rfl (a_q HT_.out (by kernel_rfl)) (fun _ _ _ h => h) (Or.inl ⟨by rfl,?_⟩) ?_ ?_
     rotate_left
     ·intro w'
      go_simp
      with_reducible rfl
     rotate_left
     ·simp only [Act.put,sa_,sb_,sc_,a_r,a_s]
      rfl
     refine b_F (i:=15) (N:=some 42) (v:=?_) (a':=?_) Z47_ rfl rfl (a_Q HT_.out HW_.out (by kernel_rfl)) (fun _ _ _ h => h) (Or.inl ⟨by rfl,?_⟩) hHeld ?_ ?_
     rotate_left
     ·rintro w' ⟨s0,s1,s2,s3,s4,s5⟩
      go_simp
      with_reducible rfl
     rotate_left
     ·simp only [Act.put,sa_,sb_,sc_,a_r,a_s]
      rfl
     refine a_x (i:=18) (N:=some 45) (v:=?_) (a':=?_) Z50_ rfl rfl (a_q HT_.out (by kernel_rfl)) (fun _ _ _ h => h) (Or.inl ⟨by rfl,?_⟩) ?_ ?_
     rotate_left
     ·intro w'
      go_simp
      with_reducible rfl
     rotate_left
     ·simp only [Act.put,sa_,sb_,sc_,a_r,a_s]
      rfl
     refine a_x (i:=19) (N:=some 46) (v:=?_) (a':=?_) Z53_ rfl rfl (a_q HT_.out (by kernel_rfl)) (fun _ _ _ h => h) (Or.inl ⟨by rfl,?_⟩) ?_ ?_
     rotate_left
     ·intro w'
      go_simp
      with_reducible rfl
     rotate_left
     ·simp only [Act.put,sa_,sb_,sc_,a_r,a_s]
      rfl
     refine b_F (i:=20) (N:=some 47) (v:=?_) (a':=?_) Z58_ rfl rfl (a_Q HT_.out HW_.out (by kernel_rfl)) (fun _ _ _ h => h) (Or.inl ⟨by rfl,?_⟩) hHeld ?_ ?_
     rotate_left
     ·rintro w' ⟨s0,s1,s2,s3,s4,s5⟩
      go_simp
      with_reducible rfl
     rotate_left
     ·simp only [Act.put,sa_,sb_,sc_,a_r,a_s]
      rfl
     refine b_F (i:=22) (N:=some 49) (v:=?_) (a':=?_) Z61_ rfl rfl (a_Q HT_.out HW_.out (by kernel_rfl)) (fun _ _ _ h => h) (Or.inl ⟨by rfl,?_⟩) hHeld ?_ ?_
     rotate_left
     ·rintro w' ⟨s0,s1,s2,s3,s4,s5⟩
      go_simp
      with_reducible rfl
     rotate_left
     ·simp only [Act.put,sa_,sb_,sc_,a_r,a_s]
      rfl
     refine a_x (i:=23) (N:=some 50) (v:=?_) (a':=?_) Z65_ rfl rfl (a_q HT_.out (by kernel_rfl)) (fun _ _ _ h => h) (Or.inl ⟨by rfl,?_⟩) ?_ ?_
     rotate_left
     ·intro w'
      go_simp
      with_reducible rfl
     rotate_left
     ·simp only [Act.put,sa_,sb_,sc_,a_r,a_s]
      rfl
     refine a_x (i:=24) (N:=some 51) (v:=?_) (a':=?_) Z67_ rfl rfl (a_q HT_.out (by kernel_rfl)) (fun _ _ _ h => h) (Or.inl ⟨by rfl,?_⟩) ?_ ?_
     rotate_left
     ·intro w'
      go_simp
      with_reducible rfl
     rotate_left
     ·simp only [Act.put,sa_,sb_,sc_,a_r,a_s]
      rfl
     refine a_x (i:=25) (N:=some 52) (v:=?_) (a':=?_) Z84_ rfl rfl (a_q HT_.out (by kernel_rfl)) (fun _ _ _ h => h) (Or.inl ⟨by rfl,?_⟩) ?_ ?_
     rotate_left
     ·intro w'
      go_simp
      with_reducible rfl
     rotate_left
     ·simp only [Act.put,sa_,sb_,sc_,a_r,a_s]
      rfl
     refine d_3 (c_U HT_.out (by kernel_rfl)) ?_
     try go_wp2
     go_roundg k2
     case measure => have:=HJ1.out;have:=HK2.out;omega
     case rel => exact ⟨(wrap64 (x22_2 + 1)),(by first|rfl|(simp;done)|(simp [*];done)),H',⟨by have:=HJ1.out;have:=HK2.out;omega⟩,⟨by (with_reducible repeat (first|refine a_j ?_ _|refine a_l ?_|refine a_i ?_ _));exact b_i.out⟩,⟨by repeat (first|(with_reducible first|exact HB.out|apply a_g|apply a_b|apply a_h|refine a_f ?_ c_S.out|refine a_f ?_ d_V.out)|exact HB.out)⟩⟩
end Go.Proofs.Ytgglkfilkagblaa.Q
end
section
namespace Go.Proofs.Ytgglkfilkagblaa.Q
open Go.RowKit Go.Proofs.YtgglkfilkagblaaW.PrintWords Go.Proofs.YtgglkfilkagblaaW.PrintLast Go.Proofs.YtgglkfilkagblaaW.PrintMore
set_option linter.unusedVariables false
set_option linter.unusedSimpArgs false
def d_y.f (l0_0 : List (S27)) (a0_1 : Int) (a1 : Int) : Option (Int):=if (wrap64 (a1 + 1)) < (l0_0.length : Int) then (if 0 ≤ (wrap64 (a1 + 1)) then (some ((a_p l0_0 (wrap64 (a1 + 1))).f0)) else (none)) else (some a0_1)
set_option maxHeartbeats 8000000 in
set_option maxRecDepth 100000 in
theorem d_y.calls (A0_0 : Option Addr) (c0_0 : Nat) (l0_0 : List (S27)) (a0_1 : Int) (a1 : Int) (r : Int) (w : World) (hr0_0 : Kd.C k27 w A0_0 l0_0.length l0_0) (hc0_0 : l0_0.length ≤ c0_0) (h : d_y.f l0_0 a0_1 a1 = some r) :
 Calls Try.prog 37 #[.agg #[.slice A0_0 l0_0.length c0_0,.int .i64 a0_1],.int .i64 a1] w fun e w' => e = .returned (.int .i64 r) ∧ Below w.heap.size w w':=by
 have hu24:=Try.underlying24
 have b_5:=a_c.mk hr0_0
 have c_y:=a_c.mk hc0_0
 clear hr0_0 hc0_0
 have HB:=a_c.mk (Below.refl w.heap.size w)
 have H : (if (wrap64 (a1 + 1)) < (l0_0.length : Int) then (if 0 ≤ (wrap64 (a1 + 1)) then (some ((a_p l0_0 (wrap64 (a1 + 1))).f0)) else (none)) else (some a0_1)) = some r:=h
 clear h
 by_cases c3 : (wrap64 (a1 + 1)) < (l0_0.length : Int)
 rotate_left
 ·rw [if_neg c3] at H
  have c3b0 : decide ((wrap64 (a1 + 1)) < (l0_0.length : Int)) = false:=decide_eq_false c3
  clear c3
  obtain rfl:=Option.some.inj H
  go_enter Try.func37,Try.ntmps37
  go_wp2_with (first|((with_reducible refine a_M (N:=2) rfl ?_);refine a_G ?hg (N:=2) ?hd (cs:=#[.slice A0_0 l0_0.length c0_0,.int .i64 a0_1]) (t:=24) ?hr ?_;(case hd => rfl);(case hg => rfl);(case hr => first|(go_simp;done)|(go_simp;rfl));intro g_c hg w8 hbox hb;have g_d:=a_c.mk (hbox);have q_L:=a_c.mk ((by rw [hg];exact (a_n (lup_ HB.out)) : w.heap.size ≤ g_c));have n_j:=a_c.mk ((by rw [hg];exact (a_n (lup_ HB.out)) : w.heap.size ≤ g_c));replace HB:=a_c.mk (a_o (lup_ HB.out) hb);clear hb hbox hg;have o_k : w8.cell? ⟨g_c,0,none⟩ = some (.slice A0_0 l0_0.length c0_0):=(a_a g_d.out 0).trans rfl;have o_l : w8.cell? ⟨g_c,1,none⟩ = some (.int .i64 a0_1):=(a_a g_d.out 1).trans rfl;have o_m:=a_e g_d.out 0;have o_n:=a_e g_d.out 1))
  go_ret
  exact ⟨by first|rfl|(simp [a_v,a_u] <;> rfl)|(simp [*, a_v,a_u] <;> rfl),by repeat (first|(with_reducible first|exact HB.out|apply a_g|apply a_b|apply a_h|refine a_f ?_ n_j.out)|exact HB.out)⟩
 rw [if_pos c3] at H
 have c3b0 : decide ((wrap64 (a1 + 1)) < (l0_0.length : Int)) = true:=decide_eq_true c3
 clear c3
 obtain ⟨ji4,hji4⟩ : ∃ j_ : Int,(wrap64 (a1 + 1)) = j_:=⟨_,rfl⟩
 replace H : (if 0 ≤ (ji4) then (some ((a_p l0_0 (ji4)).f0)) else (none)) = some r:=by first|(rw [hji4] at H;exact H)|(simp only [hji4] at H ⊢; exact H)
 (try rw [hji4] at c3b0)
 have hji4w : (IntKind.i64.wrap (a1 + 1)) = ji4:=(a_r _).trans hji4
 by_cases c5 : 0 ≤ (ji4)
 rotate_left
 ·rw [if_neg c5] at H
  exact absurd H (by simp)
 rw [if_pos c5] at H
 have c5b0 : decide (0 ≤ (ji4)) = true:=decide_eq_true c5
 clear c5
 obtain rfl:=Option.some.inj H
 go_enter Try.func37,Try.ntmps37
 go_wp2_with (first|((with_reducible refine a_M (N:=2) rfl ?_);refine a_G ?hg (N:=2) ?hd (cs:=#[.slice A0_0 l0_0.length c0_0,.int .i64 a0_1]) (t:=24) ?hr ?_;(case hd => rfl);(case hg => rfl);(case hr => first|(go_simp;done)|(go_simp;rfl));intro g_c hg w6 hbox hb;have g_d:=a_c.mk (hbox);have q_L:=a_c.mk ((by rw [hg];exact (a_n (lup_ HB.out)) : w.heap.size ≤ g_c));have n_j:=a_c.mk ((by rw [hg];exact (a_n (lup_ HB.out)) : w.heap.size ≤ g_c));replace HB:=a_c.mk (a_o (lup_ HB.out) hb);clear hb hbox hg;have g_J : w6.cell? ⟨g_c,0,none⟩ = some (.slice A0_0 l0_0.length c0_0):=(a_a g_d.out 0).trans rfl;have g_K : w6.cell? ⟨g_c,1,none⟩ = some (.int .i64 a0_1):=(a_a g_d.out 1).trans rfl;have g_L:=a_e g_d.out 0;have g_M:=a_e g_d.out 1;have p344 : 0 ≤ ((ji4) : Int):=of_decide_eq_true (by first|(with_reducible assumption)|assumption);have q344 : (ji4) < (l0_0.length : Int):=of_decide_eq_true (by first|(with_reducible assumption)|assumption);obtain ⟨ad344,A344_1,c344_1,e344,h_r,h_s,j_Y,j_Z⟩:=d_K b_5.out (ji4) p344 q344;cases e344;replace h_r:=(HB.out.cell (World.block_lt_of_cell? w _ h_r)).trans h_r;replace h_s:=(HB.out.cell (World.block_lt_of_cell? w _ h_s)).trans h_s;have q_M:=a_c.mk j_Z;have q_N:=a_c.mk j_Y;clear j_Z j_Y;replace p344:=eq_true p344;replace q344:=eq_true q344))
 go_ret
 exact ⟨by first|rfl|(simp [a_v,a_u] <;> rfl)|(simp only [← hji4];first|rfl|(simp [a_v,a_u] <;> rfl))|(simp [*, a_v,a_u] <;> rfl),by repeat (first|(with_reducible first|exact HB.out|apply a_g|apply a_b|apply a_h|refine a_f ?_ n_j.out)|exact HB.out)⟩
end Go.Proofs.Ytgglkfilkagblaa.Q
end
section
namespace Go.Proofs.Ytgglkfilkagblaa.Q
open Go.RowKit Go.Proofs.YtgglkfilkagblaaW.PrintWords Go.Proofs.YtgglkfilkagblaaW.PrintLast Go.Proofs.YtgglkfilkagblaaW.PrintMore
set_option linter.unusedVariables false
set_option linter.unusedSimpArgs false
section
attribute [local go_sem] Oper.semAt_some
def b_4 (xs : List S27) (en : Int) (j : Nat) : Int:=if j + 1 < xs.length then (a_p xs ((j + 1 : Nat) : Int)).f0 else en
theorem l_s (xs : List S27) (en : Int) (j : Nat) (hj : j < xs.length) (hl : xs.length ≤ 4398046511104) : d_y.f xs en (j : Int) = some (b_4 xs en j):=by
 have h1 : wrap64 ((j : Int) + 1) = ((j + 1 : Nat) : Int):=by unfold wrap64;omega
 unfold d_y.f b_4
 rw [h1]
 by_cases h : j + 1 < xs.length
 ·rw [if_pos (show ((j + 1 : Nat) : Int) < (xs.length : Int) by omega),if_pos h,if_pos (by omega)]
 rw [if_neg (show ¬ ((j + 1 : Nat) : Int) < (xs.length : Int) by omega),if_neg h]
theorem p_k {W w1 : World} (hb : Below W.heap.size W w1) : (∀ b o,b < W.heap.size → w1.cell? ⟨b,o,none⟩ = W.cell? ⟨b,o,none⟩) ∧ (∀ b o,b < W.heap.size → w1.frozen? ⟨b,o,none⟩ = W.frozen? ⟨b,o,none⟩) :=
 ⟨fun b o h => hb.cell (p:=⟨b,o,none⟩) h,fun b o h => hb.frozen (p:=⟨b,o,none⟩) h⟩
theorem i_X {P : Program} {m l : Nat} {fn : FuncId} {tmps : Array Value} {assign body : Code} {W : World} {A B : World → Prop} (h : RoundIn Fence.wide m P l fn tmps assign body W fun e W' => (e = .returned (.bool true) ∧ A W') ∨ (e = .returned (.bool false) ∧ B W')) :
 RoundIn Fence.wide m P l fn tmps assign body W fun e W' => ∃ b : Bool,e = .returned (.bool b) ∧ a_c ((b = true → A W') ∧ (b = false → B W')) :=
 h.mono fun e W' h => by
  rcases h with ⟨rfl,h⟩ | ⟨rfl,h⟩
  ·exact ⟨true,rfl,⟨⟨fun _ => h,(fun h => by cases h)⟩⟩⟩
  ·exact ⟨false,rfl,⟨⟨(fun h => by cases h),fun _ => h⟩⟩⟩
theorem AbidesFrom.below {β : Type} {B : Nat} {J : β → World → Prop} (h : AbidesFrom B J) {s : β} {A C : World} (hs : J s A) (hb : Below A.heap.size A C) : J s C :=
 h s A C none hs ⟨hb.os,hb.tape,hb.output,hb.size,fun k hk _ => hb.block k hk⟩ (fun r e => by cases e)
def KpB (n₀ g : Nat) (A C : World) : Prop:=Below n₀ A C ∧ C.heap[g]? = A.heap[g]?
def momV (xs : List S27) (am : Nat → Option Addr) (cm : Nat → Nat) (j : Nat) : Value:=.agg #[.int .i64 (a_p xs (j : Int)).f0,.slice (am j) (a_p xs (j : Int)).f1.length (cm j)]
def e_P (xs : List S27) (ad : Addr) (am : Nat → Option Addr) (cm : Nat → Nat) (W : World) : Prop := ∀ j,j < xs.length → W.cell? (ad.add (j * 2)) = some (.int .i64 (a_p xs (j : Int)).f0) ∧ W.cell? ⟨(ad.add (j * 2)).block,(ad.add (j * 2)).off + 1,none⟩ = some (.slice (am j) (a_p xs (j : Int)).f1.length (cm j)) ∧ (a_p xs (j : Int)).f1.length ≤ cm j ∧ Kd.C k65 W (am j) (a_p xs (j : Int)).f1.length (a_p xs (j : Int)).f1
theorem g_t {A : Option Addr} {xs : List S27} {w : World} (h : Kd.C k27 w A xs.length xs) (hp : 0 < xs.length) : ∃ ad am cm,A = some ad ∧ e_P xs ad am cm w:=by
 obtain ⟨ad,A1,c1,e,_⟩:=d_K h 0 (Int.le_refl _) (by omega)
 have key : ∀ j, ∃ p : Option Addr × Nat,j < xs.length → w.cell? (ad.add (j * 2)) = some (.int .i64 (a_p xs (j : Int)).f0) ∧ w.cell? ⟨(ad.add (j * 2)).block,(ad.add (j * 2)).off + 1,none⟩ = some (.slice p.1 (a_p xs (j : Int)).f1.length p.2) ∧ (a_p xs (j : Int)).f1.length ≤ p.2 ∧ Kd.C k65 w p.1 (a_p xs (j : Int)).f1.length (a_p xs (j : Int)).f1:=fun j => by
  by_cases hj : j < xs.length
  ·obtain ⟨ad',A1,c1,e',h0,h1,h2,h3⟩:=d_K h (j : Int) (by omega) (by omega)
   obtain rfl : ad = ad':=by rw [e] at e';injection e'
   exact ⟨(A1,c1),fun _ => ⟨h0,h1,h2,h3⟩⟩
  exact ⟨(none,0),fun h => absurd h hj⟩
 exact ⟨ad,fun j => (key j).choose.1,fun j => (key j).choose.2,e,fun j hj => (key j).choose_spec hj⟩
theorem e_P.below {xs : List S27} {ad : Addr} {am : Nat → Option Addr} {cm : Nat → Nat} {n₀ : Nat} {w W : World} (hw : e_P xs ad am cm w) (hn : n₀ = w.heap.size) (hb : Below n₀ w W) : e_P xs ad am cm W:=fun j hj => by
 obtain ⟨h0,h1,h2,h3⟩:=hw j hj
 subst hn
 exact ⟨(hb.cell (World.block_lt_of_cell? w _ h0)).trans h0,(hb.cell (World.block_lt_of_cell? w _ h1)).trans h1,h2,Kd.a_U h3 hb⟩
set_option maxHeartbeats 1000000 in
theorem g_k.calls (A : Option Addr) (n c : Nat) (en : Int) (w : World) :
 Calls Try.prog 28 #[.agg #[.slice A n c,.int .i64 en]] w fun e w' => e = .returned (.func (.func 55) #[] #[.pointer (some ⟨w.heap.size,0,none⟩)]) ∧ w' = w.alloc (.cells #[.slice A n c,.int .i64 en] 24):=by
 go_enter Try.func28,Try.ntmps28
 go_wp2
 go_ret
 exact ⟨rfl,rfl⟩
set_option maxRecDepth 100000 in
set_option maxHeartbeats 4000000 in
theorem e_n (n : Nat) (hn : 2 ≤ n) (l g n₀ : Nat) (A : Option Addr) (ad : Addr) (c : Nat) (xs : List S27) (en : Int) (hl : xs.length ≤ 4398046511104) (am : Nat → Option Addr) (cm : Nat → Nat) (J Jx : List (Fin xs.length) → World → Prop)
 (hY : ∀ pre (x : Fin xs.length) W,J pre W → pre.length < xs.length → YieldAt Fence.wide (n - 1) Try.prog l #[momV xs am cm x.val,.agg #[.int .i64 (a_p xs (x.val : Int)).f0,.int .i64 (b_4 xs en x.val)]] W fun e W' =>
  (e = .returned (.bool true) ∧ J (pre ++ [x]) W' ∧ KpB n₀ g W W') ∨ (e = .returned (.bool false) ∧ Jx (pre ++ [x]) W'))
 (w W : World) (hJ : AbidesFrom W.heap.size J) (hn₀ : n₀ = w.heap.size) (hW : Below n₀ w W) (hA : 0 < xs.length → A = some ad) (hg : W.heap[g]? = some (.cells #[.slice A xs.length c,.int .i64 en] 24 (0,0))) (hM : e_P xs ad am cm w) (hc : xs.length ≤ c) (hC : Kd.C k27 w A xs.length xs) (h0 : J [] W) :
 CallsIn Fence.wide n Try.prog 55 #[.func (.yield l) #[] #[],.pointer (some ⟨g,0,none⟩)] W fun e W' => (∃ v,e = .returned v) ∧
  ((∃ ys,ys = List.finRange xs.length ∧ J ys W') ∨ (∃ pre,True ∧ Jx pre W')):=by
 subst hn₀
 have hd : 1 ≤ n - 1:=by omega
 have hmx : Try.prog.follows .mixedOrders = true:=by kernel_rfl
 refine callsIn_of_wp Try.func55 rfl trivial ?_ rfl
 simp only [Try.ntmps55,List.size_toArray,List.length_cons,List.length_nil,Nat.reduceAdd,Nat.reduceSub,Array.replicate_succ,Array.replicate_zero,List.push_toArray,List.append_toArray,List.nil_append,List.cons_append]
 have hg0 : W.cell? ⟨g,0,none⟩ = some (.slice A xs.length c):=(a_a hg 0).trans rfl
 have HY:=a_c.mk hY
 have HJ:=a_c.mk hJ
 have HM:=a_c.mk hM
 have HC:=a_c.mk hC
 have HG:=a_c.mk hg
 have HW:=a_c.mk hW
 have H0:=a_c.mk h0
 have HA:=a_c.mk hA
 clear hY hJ hM hC hg hW h0 hA
 gi_wp2
 gi_loopw [8] (fun i wr => ∃ k : Nat,k ≤ xs.length ∧ i = .int .i64 k ∧ a_c (J ((List.finRange xs.length).take k) wr) ∧ a_c (Below w.heap.size w wr) ∧ a_c (wr.heap[g]? = some (.cells #[.slice A xs.length c,.int .i64 en] 24 (0,0))) ∧ a_c (W.heap.size ≤ wr.heap.size))
  (fun i _ => xs.length - (intOf i).toNat)
 case atStart => exact ⟨0,Nat.zero_le _,rfl,⟨H0.out⟩,⟨HW.out⟩,⟨HG.out⟩,⟨Nat.le_refl _⟩⟩
 case round =>
  obtain ⟨k,hk,rfl,HJs,HB,HG2,HS⟩:=hrel
  by_cases hlt : k < xs.length
  rotate_left
  ·obtain rfl : k = xs.length:=by omega
   gi_wp2
   go_end0
   exact ⟨⟨_,rfl⟩,.inl ⟨_,rfl,by have:=HJs.out;rwa [List.take_of_length_le (by simp)] at this⟩⟩
  have hAe:=HA.out (by omega)
  subst hAe
  have hkc:=HM.out k hlt
  have hmom:=e_P.below HM.out rfl HB.out k hlt
  obtain ⟨e0,e1,_,_⟩:=hmom
  have hfr : (List.finRange xs.length)[k]'(by simpa using hlt) = ⟨k,hlt⟩:=by simp
  have htk : (List.finRange xs.length).take (k + 1) = (List.finRange xs.length).take k ++ [⟨k,hlt⟩]:=by rw [List.take_succ_eq_append_getElem (by simpa using hlt),hfr]
  have HT:=a_c.mk htk
  have hltz : (k : Int) < (xs.length : Int):=by omega
  have hgl:=a_J HG2.out
  have hgc0 : wr.cell? ⟨g,0,none⟩ = some (.slice (some ad) xs.length c):=(a_a HG2.out 0).trans rfl
  have hgc1 : wr.cell? ⟨g,1,none⟩ = some (.int .i64 en):=(a_a HG2.out 1).trans rfl
  clear hkc htk hfr
  gi_wp2
  have hf37 : Fence.wide.fn 37:=trivial
  have hn1 : 1 ≤ n:=by omega
  have hU:=l_s xs en k hlt hl
  have HU:=a_c.mk hU
  clear hU
  gi_region_with_o (first|(gi_at_call 37;refine (callsIn_wide.2 (d_y.calls _ _ xs en _ _ _ ?s1 hc HU.out)).mono ?_;(case s1 => exact Kd.a_U HC.out (HB.out.trans (Below.mono (by repeat (with_reducible first|exact Below.refl _ _|apply a_g|apply a_h|refine a_f ?_ (Nat.le_refl _))) HB.out.size)));rintro e w' ⟨rfl,hb⟩;have hx : Below wr.heap.size wr w':=Below.trans (by repeat (with_reducible first|exact Below.refl _ _|apply a_g|apply a_h|refine a_f ?_ (Nat.le_refl _))) (hb.mono (a_n (by repeat (with_reducible first|exact Below.refl _ _|apply a_g|apply a_h|refine a_f ?_ (Nat.le_refl _)))));have HX:=a_c.mk hx;clear hx;obtain ⟨hb1,hb2⟩:=p_k hb;have hbz:=hb.size;clear hb;obtain ⟨fn,tmps,assign,body,hy,hR⟩:=HY.out _ ⟨k,hlt⟩ w' (AbidesFrom.below HJ.out HJs.out HX.out) (by rw [List.length_take,List.length_finRange];omega);have HR:=a_c.mk (i_X hR);clear hR;simp only [momV] at hy)|(refine HR.out.mono ?_;rintro e W3 ⟨bb,rfl,HBB⟩))
  all_goals
   cases bb with
   | true =>
    have HK3:=a_c.mk (HBB.out.1 rfl)
    clear HBB
    gi_wp2
    (try go_bits)
    go_roundw
    case rel => exact ⟨k + 1,by omega,by go_num,⟨by rw [HT.out];exact HK3.out.1⟩,⟨(HB.out.trans (HX.out.mono HB.out.size)).trans HK3.out.2.1⟩,⟨HK3.out.2.2.trans (a_m HG2.out HX.out)⟩,⟨Nat.le_trans HS.out (Nat.le_trans HX.out.size HK3.out.2.1.size)⟩⟩
    case measure => simp [intOf];omega
   | false =>
    have HK3:=a_c.mk (HBB.out.2 rfl)
    clear HBB
    gi_wp2
    (try go_bits)
    refine bodyPost_ret (results_none rfl _ _ _) rfl ?_
    exact ⟨⟨_,rfl⟩,.inr ⟨_,trivial,HK3.out⟩⟩
end
end Go.Proofs.Ytgglkfilkagblaa.Q
end
section
namespace Go.Proofs.Ytgglkfilkagblaa.Q
open Go.RowKit Go.Proofs.YtgglkfilkagblaaW.PrintWords Go.Proofs.YtgglkfilkagblaaW.PrintLast Go.Proofs.YtgglkfilkagblaaW.PrintMore
set_option linter.unusedVariables false
set_option linter.unusedSimpArgs false
set_option maxHeartbeats 2000000 in
theorem d_5.any (g : Nat) (lb : Array Value) (eg : ∀ args w,(callFunc g args).run Try.prog w = .ok (.enter g args) w) (p : S65 → Bool) (A : Option Addr) (c : Nat) (xs : List S65) (w : World)
 (hr : Kd.C k65 w A xs.length xs) (hlen : xs.length ≤ 1099511627776)
 (hp : ∀ W,Below w.heap.size w W → ∀ x ∈ xs,Calls Try.prog g (#[.agg #[.int .i64 x.f0,.int .i64 x.f1,.int .i64 x.f2,.int .i64 x.f3,.int .i64 x.f4,.bool x.f5,.bool x.f6,.int .u32 x.f7,.int .i64 x.f8,.int .i64 x.f9,.int .i64 x.f10]] ++ lb) W fun e W' => e = .returned (.bool (p x)) ∧ Below W.heap.size W W') :
 Calls Try.prog 36 #[.slice A xs.length c,.func (.func g) #[] lb] w fun e w' => e = .returned (.int .i64 (idxOf p xs)) ∧ Below w.heap.size w w':=by
 have HP:=a_c.mk hp
 have HR:=a_c.mk hr
 clear hp hr
 go_enter Try.func36,Try.ntmps36
 go_wp2
 go_loopg [5,8] xs.length (fun gg _ s8 wr => ∃ kk : Nat,s8 = .int .i64 kk ∧ kk ≤ xs.length ∧ xs.length - kk ≤ gg ∧ a_c (Below w.heap.size w wr) ∧ a_c (∀ j (hj : j < kk) (hj2 : j < xs.length),p xs[j] = false))
 case atStart => exact ⟨0,rfl,Nat.zero_le _,by omega,⟨Below.refl _ _⟩,⟨fun j hj => absurd hj (Nat.not_lt_zero _)⟩⟩
 case round =>
  obtain ⟨kk,rfl,hkk,hg,HB,HN⟩:=hrel
  by_cases hlt : kk < xs.length
  rotate_left
  ·have hltz : ¬ (kk : Int) < (xs.length : Int):=by omega
   have : kk = xs.length:=by omega
   go_wp2
   go_ret
   refine ⟨?_,HB.out⟩
   rw [idxOf_miss (fun j hj => HN.out j (by omega) hj)];rfl
  have hltz : (kk : Int) < (xs.length : Int):=by omega
  obtain ⟨ad,rfl,e0,e1,e2,e3,e4,e5,e6,e7,e8,e9,e10⟩:=d_F (Kd.a_U HR.out HB.out) (kk : Int) (by omega) (by omega)
  have hx:=List.getElem_mem hlt
  have hrd : a_d xs (kk : Int) = xs[kk]:=by unfold a_d;simp [hlt]
  rw [hrd] at e0 e1 e2 e3 e4 e5 e6 e7 e8 e9 e10
  simp only [Int.toNat_natCast] at e0 e1 e2 e3 e4 e5 e6 e7 e8 e9 e10
  have hcall:=HP.out _ HB.out _ hx
  generalize hy : xs[kk] = y at e0 e1 e2 e3 e4 e5 e6 e7 e8 e9 e10 hcall hx
  have HY:=a_c.mk hy
  clear hy hx hrd
  cases hq : p y with
  | true =>
   rw [hq] at hcall
   go_wp2_with (go_at_fn g;refine hcall.mono ?_;rintro e w' ⟨rfl,hb'⟩)
   go_ret
   refine ⟨?_,HB.out.trans (hb'.mono (a_n HB.out))⟩
   rw [idxOf_hit hlt (by rw [HY.out];exact hq) (fun j hj => HN.out j hj (by omega))];rfl
  | false =>
   rw [hq] at hcall
   go_wp2_with (go_at_fn g;refine hcall.mono ?_;rintro e w' ⟨rfl,hb'⟩)
   go_roundg (xs.length - (kk + 1))
   case measure => omega
   case rel =>
    exact ⟨kk + 1,by go_num,by omega,by omega,⟨HB.out.trans (hb'.mono (a_n HB.out))⟩,⟨fun j hj hj2 => by
     by_cases e : j = kk
     ·subst e;rw [HY.out];exact hq
     exact HN.out j (by omega) hj2⟩⟩
set_option maxHeartbeats 2000000 in
theorem g_0.calls (g : Nat) (x : S65) (a1 : Int) (w : World) (hb : w.heap[g]? = some (.cells #[.int .i64 a1] 3 (0,0))) :
 Calls Try.prog 56 (#[.agg #[.int .i64 x.f0,.int .i64 x.f1,.int .i64 x.f2,.int .i64 x.f3,.int .i64 x.f4,.bool x.f5,.bool x.f6,.int .u32 x.f7,.int .i64 x.f8,.int .i64 x.f9,.int .i64 x.f10]] ++ #[.pointer (some ⟨g,0,none⟩)]) w fun e w' => e = .returned (.bool (x.f0 == a1)) ∧ Below w.heap.size w w':=by
 have hc:=(a_a hb 0).trans rfl
 have hf:=a_e hb 0
 have hlt:=a_J hb
 clear hb
 go_enter Try.func56,Try.ntmps56
 go_wp2
 go_ret
 exact ⟨rfl,(Below.refl _ _).alloc (Nat.le_refl _) _⟩
def a_9.f (l0 : List S65) (a : Int) : Option Int:=if l0.length ≤ 1099511627776 then some (idxOf (fun s => s.f0 == a) l0) else none
theorem a_9.calls (A0 : Option Addr) (c0 : Nat) (l0 : List S65) (g : Nat) (a : Int) (r : Int) (w : World) (hr0 : Kd.C k65 w A0 l0.length l0) (hc0 : l0.length ≤ c0) (hb : w.heap[g]? = some (.cells #[.int .i64 a] 3 (0,0))) (h : a_9.f l0 a = some r) :
 Calls Try.prog 36 #[.slice A0 l0.length c0,.func (.func 56) #[] #[.pointer (some ⟨g,0,none⟩)]] w fun e w' => e = .returned (.int .i64 r) ∧ Below w.heap.size w w':=by
 unfold a_9.f at h
 split at h
 case isFalse => cases h
 case isTrue hl =>
 obtain rfl:=Option.some.inj h
 exact d_5.any 56 _ (e_5 Try.func56 (by kernel_rfl) rfl) _ A0 c0 l0 w hr0 hl (fun W hW x _ => g_0.calls g x a W ((hW.block _ (a_J hb)).trans hb))
end Go.Proofs.Ytgglkfilkagblaa.Q
end
section
namespace Go.Proofs.Ytgglkfilkagblaa.Q
open Go.RowKit Go.Proofs.YtgglkfilkagblaaW.PrintWords Go.Proofs.YtgglkfilkagblaaW.PrintLast Go.Proofs.YtgglkfilkagblaaW.PrintMore
set_option linter.unusedVariables false
set_option linter.unusedSimpArgs false
def c_E.f (a0_0 : Int) (l0_1 : List (S65)) (a1 : Int) : Option (Int × Int × Int × Int × Int × Bool × Bool × Int × Int × Int × Int × Bool):=(a_9.f l0_1 a1).bind fun t156 => (if t156 < 0 then (some (0,0,0,0,0,false,false,0,0,0,0,false)) else (if 0 ≤ t156 then (if t156 < (l0_1.length : Int) then (some ((a_d l0_1 t156).f0,(a_d l0_1 t156).f1,(a_d l0_1 t156).f2,(a_d l0_1 t156).f3,(a_d l0_1 t156).f4,(a_d l0_1 t156).f5,(a_d l0_1 t156).f6,(a_d l0_1 t156).f7,(a_d l0_1 t156).f8,(a_d l0_1 t156).f9,(a_d l0_1 t156).f10,true)) else (none)) else (none)))
set_option maxHeartbeats 8000000 in
set_option maxRecDepth 100000 in
theorem c_E.calls (a0_0 : Int) (A0_1 : Option Addr) (c0_1 : Nat) (l0_1 : List (S65)) (a1 : Int) (r1 : Int) (r2 : Int) (r3 : Int) (r4 : Int) (r5 : Int) (r6 : Bool) (r7 : Bool) (r8 : Int) (r9 : Int) (r10 : Int) (r11 : Int) (r12 : Bool) (w : World) (hr0_1 : Kd.C k65 w A0_1 l0_1.length l0_1) (hc0_1 : l0_1.length ≤ c0_1) (h : c_E.f a0_0 l0_1 a1 = some (r1,r2,r3,r4,r5,r6,r7,r8,r9,r10,r11,r12)) :
 Calls Try.prog 29 #[.agg #[.int .i64 a0_0,.slice A0_1 l0_1.length c0_1],.int .i64 a1] w fun e w' => e = .returned (.tuple #[.agg #[.int .i64 r1,.int .i64 r2,.int .i64 r3,.int .i64 r4,.int .i64 r5,.bool r6,.bool r7,.int .u32 r8,.int .i64 r9,.int .i64 r10,.int .i64 r11],.bool r12]) ∧ Below w.heap.size w w':=by
 have hu27:=Try.underlying27
 have hu65:=Try.underlying65
 have hu68:=Try.underlying68
 have d_h:=a_c.mk hr0_1
 have e_e:=a_c.mk hc0_1
 clear hr0_1 hc0_1
 have HB:=a_c.mk (Below.refl w.heap.size w)
 have H : ((a_9.f l0_1 a1).bind fun t156 => (if t156 < 0 then (some (0,0,0,0,0,false,false,0,0,0,0,false)) else (if 0 ≤ t156 then (if t156 < (l0_1.length : Int) then (some ((a_d l0_1 t156).f0,(a_d l0_1 t156).f1,(a_d l0_1 t156).f2,(a_d l0_1 t156).f3,(a_d l0_1 t156).f4,(a_d l0_1 t156).f5,(a_d l0_1 t156).f6,(a_d l0_1 t156).f7,(a_d l0_1 t156).f8,(a_d l0_1 t156).f9,(a_d l0_1 t156).f10,true)) else (none)) else (none)))) = some (r1,r2,r3,r4,r5,r6,r7,r8,r9,r10,r11,r12):=h
 clear h
 replace H:=Option.bind_eq_some_iff.mp H
 obtain ⟨t156,A30,H⟩:=H
 replace H : (if t156 < 0 then (some (0,0,0,0,0,false,false,0,0,0,0,false)) else (if 0 ≤ t156 then (if t156 < (l0_1.length : Int) then (some ((a_d l0_1 t156).f0,(a_d l0_1 t156).f1,(a_d l0_1 t156).f2,(a_d l0_1 t156).f3,(a_d l0_1 t156).f4,(a_d l0_1 t156).f5,(a_d l0_1 t156).f6,(a_d l0_1 t156).f7,(a_d l0_1 t156).f8,(a_d l0_1 t156).f9,(a_d l0_1 t156).f10,true)) else (none)) else (none))) = some (r1,r2,r3,r4,r5,r6,r7,r8,r9,r10,r11,r12):=H
 have A3:=a_c.mk A30
 clear A30
 by_cases c4 : t156 < 0
 ·rw [if_pos c4] at H
  have c4b0 : decide (t156 < 0) = true:=decide_eq_true c4
  clear c4
  simp only [Option.some.injEq,Prod.mk.injEq] at H
  obtain ⟨rfl,rfl,rfl,rfl,rfl,rfl,rfl,rfl,rfl,rfl,rfl,rfl⟩:=H
  go_enter Try.func29,Try.ntmps29
  go_wp2_with (first|((with_reducible refine a_M (N:=2) rfl ?_);refine a_G ?hg (N:=2) ?hd (cs:=#[.int .i64 a0_0,.slice A0_1 l0_1.length c0_1]) (t:=27) ?hr ?_;(case hd => rfl);(case hg => rfl);(case hr => first|(go_simp;done)|(go_simp;rfl));intro d_Y hg w5 hbox hb;have c_0:=a_c.mk (hbox);have q_O:=a_c.mk ((by rw [hg];exact (a_n (lup_ HB.out)) : w.heap.size ≤ d_Y));have d_9:=a_c.mk ((by rw [hg];exact (a_n (lup_ HB.out)) : w.heap.size ≤ d_Y));replace HB:=a_c.mk (a_o (lup_ HB.out) hb);clear hb hbox hg)|((with_reducible refine a_M (N:=3) rfl ?_);refine a_G ?hg (N:=3) ?hd (cs:=#[.int .i64 a1]) (t:=3) ?hr ?_;(case hd => rfl);(case hg => rfl);(case hr => first|(go_simp;done)|(go_simp;rfl));intro e_a hg w6 hbox hb;have e_i:=a_c.mk (hbox);have q_P:=a_c.mk ((by rw [hg];exact (a_n (by repeat (first|(with_reducible first|exact HB.out|apply a_g|apply a_b|apply a_h|refine a_f ?_ d_9.out)|exact HB.out))) : w.heap.size ≤ e_a));have f_l:=a_c.mk ((by rw [hg];exact (a_n (by repeat (first|(with_reducible first|exact HB.out|apply a_g|apply a_b|apply a_h|refine a_f ?_ d_9.out)|exact HB.out))) : w.heap.size ≤ e_a));have f_m:=a_c.mk ((by rw [hg];exact Nat.ne_of_lt (a_J (bup_ c_0.out)) : d_Y ≠ e_a));have f_n:=a_c.mk ((by rw [hg];exact Nat.ne_of_gt (a_J (bup_ c_0.out)) : e_a ≠ d_Y));replace c_0:=a_c.mk (a_m (bup_ c_0.out) hb);replace HB:=a_c.mk (a_o (by repeat (first|(with_reducible first|exact HB.out|apply a_g|apply a_b|apply a_h|refine a_f ?_ d_9.out)|exact HB.out)) hb);clear hb hbox hg)|((with_reducible refine a_M (N:=4) rfl ?_);refine a_G ?hg (N:=4) ?hd (cs:=#[.int .i64 0,.int .i64 0,.int .i64 0,.int .i64 0,.int .i64 0,.bool false,.bool false,.int .u32 0,.int .i64 0,.int .i64 0,.int .i64 0]) (t:=65) ?hr ?_;(case hd => rfl);(case hg => rfl);(case hr => first|(go_simp;done)|(go_simp;rfl));intro c_Q hg w7 hbox hb;have c_c:=a_c.mk (hbox);have q_Q:=a_c.mk ((by rw [hg];exact (a_n (by repeat (first|(with_reducible first|exact HB.out|apply a_g|apply a_b|apply a_h|refine a_f ?_ d_9.out|refine a_f ?_ f_l.out)|exact HB.out))) : w.heap.size ≤ c_Q));have j_0:=a_c.mk ((by rw [hg];exact (a_n (by repeat (first|(with_reducible first|exact HB.out|apply a_g|apply a_b|apply a_h|refine a_f ?_ d_9.out|refine a_f ?_ f_l.out)|exact HB.out))) : w.heap.size ≤ c_Q));have f_o:=a_c.mk ((by rw [hg];exact Nat.ne_of_lt (a_J (bup_ c_0.out)) : d_Y ≠ c_Q));have f_p:=a_c.mk ((by rw [hg];exact Nat.ne_of_gt (a_J (bup_ c_0.out)) : c_Q ≠ d_Y));have f_q:=a_c.mk ((by rw [hg];exact Nat.ne_of_lt (a_J (bup_ e_i.out)) : e_a ≠ c_Q));have f_r:=a_c.mk ((by rw [hg];exact Nat.ne_of_gt (a_J (bup_ e_i.out)) : c_Q ≠ e_a));replace c_0:=a_c.mk (a_m (bup_ c_0.out) hb);replace e_i:=a_c.mk (a_m (bup_ e_i.out) hb);replace HB:=a_c.mk (a_o (by repeat (first|(with_reducible first|exact HB.out|apply a_g|apply a_b|apply a_h|refine a_f ?_ d_9.out|refine a_f ?_ f_l.out)|exact HB.out)) hb);clear hb hbox hg;have hnb8:=f_m.out;have hnc8:=f_n.out;have hnb9:=f_o.out;have hnc9:=f_p.out;have h_i : w7.cell? ⟨d_Y,0,none⟩ = some (.int .i64 a0_0):=(a_a c_0.out 0).trans rfl;have h_j : w7.cell? ⟨d_Y,1,none⟩ = some (.slice A0_1 l0_1.length c0_1):=(a_a c_0.out 1).trans rfl;have h_k:=a_e c_0.out 0;have h_l:=a_e c_0.out 1)|((with_reducible refine b_a (f:=36) rfl ?_);refine c_K (some 10) rfl rfl Try.func36 (by kernel_rfl) rfl #[.slice A0_1 l0_1.length c0_1,.func (.func 56) #[] #[.pointer (some ⟨e_a,0,none⟩)]] rfl (by (try simp only [List.map_toArray,List.map_cons,List.map_nil]);first|done|rfl|(simp only [List.length_drop,List.length_take];rfl)) ?_;(with_reducible refine (a_9.calls _ _ l0_1 e_a a1 t156 _ ?side1 ?side2 ?side3 A3.out).mono ?_);(case side1 => repeat (first|exact (Kd.a_U d_h.out HB.out)|(with_reducible refine Kd.a_8 ?_ _)|(with_reducible refine Kd.a_7 ?_ _)|(with_reducible refine Kd.b_t ?_)));(case side2 => exact e_e.out);(case side3 => exact (bup_ e_i.out));rintro e w11 ⟨rfl,hb⟩;refine ⟨_,rfl,?_⟩;replace c_0:=a_c.mk (a_m (bup_ c_0.out) hb);replace e_i:=a_c.mk (a_m (bup_ e_i.out) hb);replace c_c:=a_c.mk (a_m (bup_ c_c.out) hb);replace HB:=a_c.mk (a_o (by repeat (first|(with_reducible first|exact HB.out|apply a_g|apply a_b|apply a_h|refine a_f ?_ d_9.out|refine a_f ?_ f_l.out|refine a_f ?_ j_0.out)|exact HB.out)) hb);(try clear hb);(try clear hb2);(try clear hk);(try clear hi);have o_o:=f_r.out;have o_p:=f_q.out;have f_b : w11.cell? ⟨c_Q,0,none⟩ = some (.int .i64 0):=(a_a c_c.out 0).trans rfl;have f_c : w11.cell? ⟨c_Q,1,none⟩ = some (.int .i64 0):=(a_a c_c.out 1).trans rfl;have j_h : w11.cell? ⟨c_Q,2,none⟩ = some (.int .i64 0):=(a_a c_c.out 2).trans rfl;have j_i : w11.cell? ⟨c_Q,3,none⟩ = some (.int .i64 0):=(a_a c_c.out 3).trans rfl;have j_j : w11.cell? ⟨c_Q,4,none⟩ = some (.int .i64 0):=(a_a c_c.out 4).trans rfl;have j_k : w11.cell? ⟨c_Q,5,none⟩ = some (.bool false):=(a_a c_c.out 5).trans rfl;have j_l : w11.cell? ⟨c_Q,6,none⟩ = some (.bool false):=(a_a c_c.out 6).trans rfl;have j_m : w11.cell? ⟨c_Q,7,none⟩ = some (.int .u32 0):=(a_a c_c.out 7).trans rfl;have j_n : w11.cell? ⟨c_Q,8,none⟩ = some (.int .i64 0):=(a_a c_c.out 8).trans rfl;have j_o : w11.cell? ⟨c_Q,9,none⟩ = some (.int .i64 0):=(a_a c_c.out 9).trans rfl;have i_a : w11.cell? ⟨c_Q,10,none⟩ = some (.int .i64 0):=(a_a c_c.out 10).trans rfl;have f_d:=a_e c_c.out 0;have f_e:=a_e c_c.out 1;have j_p:=a_e c_c.out 2;have j_q:=a_e c_c.out 3;have j_r:=a_e c_c.out 4;have j_s:=a_e c_c.out 5;have j_t:=a_e c_c.out 6;have j_u:=a_e c_c.out 7;have j_v:=a_e c_c.out 8;have j_w:=a_e c_c.out 9;have i_b:=a_e c_c.out 10))
  refine bodyPost_ret (c_d rfl _ _ c_Q 65 #[.int .i64 0,.int .i64 0,.int .i64 0,.int .i64 0,.int .i64 0,.bool false,.bool false,.int .u32 0,.int .i64 0,.int .i64 0,.int .i64 0] (0,0) _ rfl (by (with_reducible repeat (first|refine a_j ?_ _|refine a_l ?_|refine a_i ?_ _));refine a_E (cs:=#[.int .i64 0,.int .i64 0,.int .i64 0,.int .i64 0,.int .i64 0,.bool false,.bool false,.int .u32 0,.int .i64 0,.int .i64 0,.int .i64 0]) ?_ 10 _ rfl;(with_reducible repeat (first|refine a_j ?_ _|refine a_l ?_|refine a_i ?_ _));refine a_E (cs:=#[.int .i64 0,.int .i64 0,.int .i64 0,.int .i64 0,.int .i64 0,.bool false,.bool false,.int .u32 0,.int .i64 0,.int .i64 0,.int .i64 0]) ?_ 9 _ rfl;(with_reducible repeat (first|refine a_j ?_ _|refine a_l ?_|refine a_i ?_ _));refine a_E (cs:=#[.int .i64 0,.int .i64 0,.int .i64 0,.int .i64 0,.int .i64 0,.bool false,.bool false,.int .u32 0,.int .i64 0,.int .i64 0,.int .i64 0]) ?_ 8 _ rfl;(with_reducible repeat (first|refine a_j ?_ _|refine a_l ?_|refine a_i ?_ _));refine a_E (cs:=#[.int .i64 0,.int .i64 0,.int .i64 0,.int .i64 0,.int .i64 0,.bool false,.bool false,.int .u32 0,.int .i64 0,.int .i64 0,.int .i64 0]) ?_ 7 _ rfl;(with_reducible repeat (first|refine a_j ?_ _|refine a_l ?_|refine a_i ?_ _));refine a_E (cs:=#[.int .i64 0,.int .i64 0,.int .i64 0,.int .i64 0,.int .i64 0,.bool false,.bool false,.int .u32 0,.int .i64 0,.int .i64 0,.int .i64 0]) ?_ 6 _ rfl;(with_reducible repeat (first|refine a_j ?_ _|refine a_l ?_|refine a_i ?_ _));refine a_E (cs:=#[.int .i64 0,.int .i64 0,.int .i64 0,.int .i64 0,.int .i64 0,.bool false,.bool false,.int .u32 0,.int .i64 0,.int .i64 0,.int .i64 0]) ?_ 5 _ rfl;(with_reducible repeat (first|refine a_j ?_ _|refine a_l ?_|refine a_i ?_ _));refine a_E (cs:=#[.int .i64 0,.int .i64 0,.int .i64 0,.int .i64 0,.int .i64 0,.bool false,.bool false,.int .u32 0,.int .i64 0,.int .i64 0,.int .i64 0]) ?_ 4 _ rfl;(with_reducible repeat (first|refine a_j ?_ _|refine a_l ?_|refine a_i ?_ _));refine a_E (cs:=#[.int .i64 0,.int .i64 0,.int .i64 0,.int .i64 0,.int .i64 0,.bool false,.bool false,.int .u32 0,.int .i64 0,.int .i64 0,.int .i64 0]) ?_ 3 _ rfl;(with_reducible repeat (first|refine a_j ?_ _|refine a_l ?_|refine a_i ?_ _));refine a_E (cs:=#[.int .i64 0,.int .i64 0,.int .i64 0,.int .i64 0,.int .i64 0,.bool false,.bool false,.int .u32 0,.int .i64 0,.int .i64 0,.int .i64 0]) ?_ 2 _ rfl;(with_reducible repeat (first|refine a_j ?_ _|refine a_l ?_|refine a_i ?_ _));refine a_E (cs:=#[.int .i64 0,.int .i64 0,.int .i64 0,.int .i64 0,.int .i64 0,.bool false,.bool false,.int .u32 0,.int .i64 0,.int .i64 0,.int .i64 0]) ?_ 1 _ rfl;(with_reducible repeat (first|refine a_j ?_ _|refine a_l ?_|refine a_i ?_ _));refine a_E (cs:=#[.int .i64 0,.int .i64 0,.int .i64 0,.int .i64 0,.int .i64 0,.bool false,.bool false,.int .u32 0,.int .i64 0,.int .i64 0,.int .i64 0]) ?_ 0 _ rfl;(with_reducible repeat (first|refine a_j ?_ _|refine a_l ?_|refine a_i ?_ _));exact c_c.out) Try.underlying65 rfl (by kernel_rfl)) rfl ?_
  exact ⟨by first|rfl|(simp [a_v,a_u] <;> rfl)|(simp [*, a_v,a_u] <;> rfl),by repeat (first|(with_reducible first|exact HB.out|apply a_g|apply a_b|apply a_h|refine a_f ?_ d_9.out|refine a_f ?_ f_l.out|refine a_f ?_ j_0.out)|exact HB.out)⟩
 rw [if_neg c4] at H
 have c4b0 : decide (t156 < 0) = false:=decide_eq_false c4
 clear c4
 by_cases c14 : 0 ≤ t156
 rotate_left
 ·rw [if_neg c14] at H
  exact absurd H (by simp)
 rw [if_pos c14] at H
 have c14b0 : decide (0 ≤ t156) = true:=decide_eq_true c14
 clear c14
 by_cases c15 : t156 < (l0_1.length : Int)
 rotate_left
 ·rw [if_neg c15] at H
  exact absurd H (by simp)
 rw [if_pos c15] at H
 have c15b0 : decide (t156 < (l0_1.length : Int)) = true:=decide_eq_true c15
 clear c15
 simp only [Option.some.injEq,Prod.mk.injEq] at H
 obtain ⟨rfl,rfl,rfl,rfl,rfl,rfl,rfl,rfl,rfl,rfl,rfl,rfl⟩:=H
 go_enter Try.func29,Try.ntmps29
 go_wp2_with (first|((with_reducible refine a_M (N:=2) rfl ?_);refine a_G ?hg (N:=2) ?hd (cs:=#[.int .i64 a0_0,.slice A0_1 l0_1.length c0_1]) (t:=27) ?hr ?_;(case hd => rfl);(case hg => rfl);(case hr => first|(go_simp;done)|(go_simp;rfl));intro d_Y hg w16 hbox hb;have c_0:=a_c.mk (hbox);have q_O:=a_c.mk ((by rw [hg];exact (a_n (lup_ HB.out)) : w.heap.size ≤ d_Y));have d_9:=a_c.mk ((by rw [hg];exact (a_n (lup_ HB.out)) : w.heap.size ≤ d_Y));replace HB:=a_c.mk (a_o (lup_ HB.out) hb);clear hb hbox hg)|((with_reducible refine a_M (N:=3) rfl ?_);refine a_G ?hg (N:=3) ?hd (cs:=#[.int .i64 a1]) (t:=3) ?hr ?_;(case hd => rfl);(case hg => rfl);(case hr => first|(go_simp;done)|(go_simp;rfl));intro e_a hg w17 hbox hb;have e_i:=a_c.mk (hbox);have q_P:=a_c.mk ((by rw [hg];exact (a_n (by repeat (first|(with_reducible first|exact HB.out|apply a_g|apply a_b|apply a_h|refine a_f ?_ d_9.out)|exact HB.out))) : w.heap.size ≤ e_a));have f_l:=a_c.mk ((by rw [hg];exact (a_n (by repeat (first|(with_reducible first|exact HB.out|apply a_g|apply a_b|apply a_h|refine a_f ?_ d_9.out)|exact HB.out))) : w.heap.size ≤ e_a));have f_m:=a_c.mk ((by rw [hg];exact Nat.ne_of_lt (a_J (bup_ c_0.out)) : d_Y ≠ e_a));have f_n:=a_c.mk ((by rw [hg];exact Nat.ne_of_gt (a_J (bup_ c_0.out)) : e_a ≠ d_Y));replace c_0:=a_c.mk (a_m (bup_ c_0.out) hb);replace HB:=a_c.mk (a_o (by repeat (first|(with_reducible first|exact HB.out|apply a_g|apply a_b|apply a_h|refine a_f ?_ d_9.out)|exact HB.out)) hb);clear hb hbox hg)|((with_reducible refine a_M (N:=4) rfl ?_);refine a_G ?hg (N:=4) ?hd (cs:=#[.int .i64 0,.int .i64 0,.int .i64 0,.int .i64 0,.int .i64 0,.bool false,.bool false,.int .u32 0,.int .i64 0,.int .i64 0,.int .i64 0]) (t:=65) ?hr ?_;(case hd => rfl);(case hg => rfl);(case hr => first|(go_simp;done)|(go_simp;rfl));intro c_Q hg w18 hbox hb;have c_c:=a_c.mk (hbox);have q_Q:=a_c.mk ((by rw [hg];exact (a_n (by repeat (first|(with_reducible first|exact HB.out|apply a_g|apply a_b|apply a_h|refine a_f ?_ d_9.out|refine a_f ?_ f_l.out)|exact HB.out))) : w.heap.size ≤ c_Q));have j_0:=a_c.mk ((by rw [hg];exact (a_n (by repeat (first|(with_reducible first|exact HB.out|apply a_g|apply a_b|apply a_h|refine a_f ?_ d_9.out|refine a_f ?_ f_l.out)|exact HB.out))) : w.heap.size ≤ c_Q));have f_o:=a_c.mk ((by rw [hg];exact Nat.ne_of_lt (a_J (bup_ c_0.out)) : d_Y ≠ c_Q));have f_p:=a_c.mk ((by rw [hg];exact Nat.ne_of_gt (a_J (bup_ c_0.out)) : c_Q ≠ d_Y));have f_q:=a_c.mk ((by rw [hg];exact Nat.ne_of_lt (a_J (bup_ e_i.out)) : e_a ≠ c_Q));have f_r:=a_c.mk ((by rw [hg];exact Nat.ne_of_gt (a_J (bup_ e_i.out)) : c_Q ≠ e_a));replace c_0:=a_c.mk (a_m (bup_ c_0.out) hb);replace e_i:=a_c.mk (a_m (bup_ e_i.out) hb);replace HB:=a_c.mk (a_o (by repeat (first|(with_reducible first|exact HB.out|apply a_g|apply a_b|apply a_h|refine a_f ?_ d_9.out|refine a_f ?_ f_l.out)|exact HB.out)) hb);clear hb hbox hg;have q_v:=f_m.out;have q_w:=f_n.out;have q_R:=f_o.out;have q_S:=f_p.out;have j_1 : w18.cell? ⟨d_Y,0,none⟩ = some (.int .i64 a0_0):=(a_a c_0.out 0).trans rfl;have j_2 : w18.cell? ⟨d_Y,1,none⟩ = some (.slice A0_1 l0_1.length c0_1):=(a_a c_0.out 1).trans rfl;have j_3:=a_e c_0.out 0;have j_4:=a_e c_0.out 1)|((with_reducible refine b_a (f:=36) rfl ?_);refine c_K (some 10) rfl rfl Try.func36 (by kernel_rfl) rfl #[.slice A0_1 l0_1.length c0_1,.func (.func 56) #[] #[.pointer (some ⟨e_a,0,none⟩)]] rfl (by (try simp only [List.map_toArray,List.map_cons,List.map_nil]);first|done|rfl|(simp only [List.length_drop,List.length_take];rfl)) ?_;(with_reducible refine (a_9.calls _ _ l0_1 e_a a1 t156 _ ?side1 ?side2 ?side3 A3.out).mono ?_);(case side1 => repeat (first|exact (Kd.a_U d_h.out HB.out)|(with_reducible refine Kd.a_8 ?_ _)|(with_reducible refine Kd.a_7 ?_ _)|(with_reducible refine Kd.b_t ?_)));(case side2 => exact e_e.out);(case side3 => exact (bup_ e_i.out));rintro e w22 ⟨rfl,hb⟩;refine ⟨_,rfl,?_⟩;replace c_0:=a_c.mk (a_m (bup_ c_0.out) hb);replace e_i:=a_c.mk (a_m (bup_ e_i.out) hb);replace c_c:=a_c.mk (a_m (bup_ c_c.out) hb);replace HB:=a_c.mk (a_o (by repeat (first|(with_reducible first|exact HB.out|apply a_g|apply a_b|apply a_h|refine a_f ?_ d_9.out|refine a_f ?_ f_l.out|refine a_f ?_ j_0.out)|exact HB.out)) hb);(try clear hb);(try clear hb2);(try clear hk);(try clear hi);have n_k : w22.cell? ⟨d_Y,0,none⟩ = some (.int .i64 a0_0):=(a_a c_0.out 0).trans rfl;have n_l : w22.cell? ⟨d_Y,1,none⟩ = some (.slice A0_1 l0_1.length c0_1):=(a_a c_0.out 1).trans rfl;have n_m:=a_e c_0.out 0;have n_n:=a_e c_0.out 1;have p157 : 0 ≤ (t156 : Int):=of_decide_eq_true (by first|(with_reducible assumption)|assumption);have q157 : t156 < (l0_1.length : Int):=of_decide_eq_true (by first|(with_reducible assumption)|assumption);obtain ⟨ad157,e157,h_t,h_u,h_v,h_w,h_x,h_y,h_z,h_A,h_B,h_C,g_e⟩:=d_F d_h.out t156 p157 q157;cases e157;replace h_t:=(HB.out.cell (World.block_lt_of_cell? w _ h_t)).trans h_t;replace h_u:=(HB.out.cell (World.block_lt_of_cell? w _ h_u)).trans h_u;replace h_v:=(HB.out.cell (World.block_lt_of_cell? w _ h_v)).trans h_v;replace h_w:=(HB.out.cell (World.block_lt_of_cell? w _ h_w)).trans h_w;replace h_x:=(HB.out.cell (World.block_lt_of_cell? w _ h_x)).trans h_x;replace h_y:=(HB.out.cell (World.block_lt_of_cell? w _ h_y)).trans h_y;replace h_z:=(HB.out.cell (World.block_lt_of_cell? w _ h_z)).trans h_z;replace h_A:=(HB.out.cell (World.block_lt_of_cell? w _ h_A)).trans h_A;replace h_B:=(HB.out.cell (World.block_lt_of_cell? w _ h_B)).trans h_B;replace h_C:=(HB.out.cell (World.block_lt_of_cell? w _ h_C)).trans h_C;replace g_e:=(HB.out.cell (World.block_lt_of_cell? w _ g_e)).trans g_e;replace p157:=eq_true p157;replace q157:=eq_true q157;have t_O:=f_r.out;have t_P:=f_q.out;have f_7 : w22.cell? ⟨c_Q,0,none⟩ = some (.int .i64 0):=(a_a c_c.out 0).trans rfl;have f_8 : w22.cell? ⟨c_Q,1,none⟩ = some (.int .i64 0):=(a_a c_c.out 1).trans rfl;have m_Y : w22.cell? ⟨c_Q,2,none⟩ = some (.int .i64 0):=(a_a c_c.out 2).trans rfl;have m_Z : w22.cell? ⟨c_Q,3,none⟩ = some (.int .i64 0):=(a_a c_c.out 3).trans rfl;have m_0 : w22.cell? ⟨c_Q,4,none⟩ = some (.int .i64 0):=(a_a c_c.out 4).trans rfl;have m_1 : w22.cell? ⟨c_Q,5,none⟩ = some (.bool false):=(a_a c_c.out 5).trans rfl;have m_2 : w22.cell? ⟨c_Q,6,none⟩ = some (.bool false):=(a_a c_c.out 6).trans rfl;have m_3 : w22.cell? ⟨c_Q,7,none⟩ = some (.int .u32 0):=(a_a c_c.out 7).trans rfl;have m_4 : w22.cell? ⟨c_Q,8,none⟩ = some (.int .i64 0):=(a_a c_c.out 8).trans rfl;have m_5 : w22.cell? ⟨c_Q,9,none⟩ = some (.int .i64 0):=(a_a c_c.out 9).trans rfl;have l_M : w22.cell? ⟨c_Q,10,none⟩ = some (.int .i64 0):=(a_a c_c.out 10).trans rfl;have f_9:=a_e c_c.out 0;have g_a:=a_e c_c.out 1;have m_6:=a_e c_c.out 2;have m_7:=a_e c_c.out 3;have m_8:=a_e c_c.out 4;have m_9:=a_e c_c.out 5;have n_a:=a_e c_c.out 6;have n_b:=a_e c_c.out 7;have n_c:=a_e c_c.out 8;have n_d:=a_e c_c.out 9;have l_N:=a_e c_c.out 10))
 refine bodyPost_ret (c_d rfl _ _ c_Q 65 #[.int .i64 ((a_d l0_1 t156).f0),.int .i64 ((a_d l0_1 t156).f1),.int .i64 ((a_d l0_1 t156).f2),.int .i64 ((a_d l0_1 t156).f3),.int .i64 ((a_d l0_1 t156).f4),.bool ((a_d l0_1 t156).f5),.bool ((a_d l0_1 t156).f6),.int .u32 ((a_d l0_1 t156).f7),.int .i64 ((a_d l0_1 t156).f8),.int .i64 ((a_d l0_1 t156).f9),.int .i64 ((a_d l0_1 t156).f10)] (0,0) _ rfl (by (with_reducible repeat (first|refine a_j ?_ _|refine a_l ?_|refine a_i ?_ _));refine a_E (cs:=#[.int .i64 ((a_d l0_1 t156).f0),.int .i64 ((a_d l0_1 t156).f1),.int .i64 ((a_d l0_1 t156).f2),.int .i64 ((a_d l0_1 t156).f3),.int .i64 ((a_d l0_1 t156).f4),.bool ((a_d l0_1 t156).f5),.bool ((a_d l0_1 t156).f6),.int .u32 ((a_d l0_1 t156).f7),.int .i64 ((a_d l0_1 t156).f8),.int .i64 ((a_d l0_1 t156).f9),.int .i64 0]) ?_ 10 _ rfl;(with_reducible repeat (first|refine a_j ?_ _|refine a_l ?_|refine a_i ?_ _));refine a_E (cs:=#[.int .i64 ((a_d l0_1 t156).f0),.int .i64 ((a_d l0_1 t156).f1),.int .i64 ((a_d l0_1 t156).f2),.int .i64 ((a_d l0_1 t156).f3),.int .i64 ((a_d l0_1 t156).f4),.bool ((a_d l0_1 t156).f5),.bool ((a_d l0_1 t156).f6),.int .u32 ((a_d l0_1 t156).f7),.int .i64 ((a_d l0_1 t156).f8),.int .i64 0,.int .i64 0]) ?_ 9 _ rfl;(with_reducible repeat (first|refine a_j ?_ _|refine a_l ?_|refine a_i ?_ _));refine a_E (cs:=#[.int .i64 ((a_d l0_1 t156).f0),.int .i64 ((a_d l0_1 t156).f1),.int .i64 ((a_d l0_1 t156).f2),.int .i64 ((a_d l0_1 t156).f3),.int .i64 ((a_d l0_1 t156).f4),.bool ((a_d l0_1 t156).f5),.bool ((a_d l0_1 t156).f6),.int .u32 ((a_d l0_1 t156).f7),.int .i64 0,.int .i64 0,.int .i64 0]) ?_ 8 _ rfl;(with_reducible repeat (first|refine a_j ?_ _|refine a_l ?_|refine a_i ?_ _));refine a_E (cs:=#[.int .i64 ((a_d l0_1 t156).f0),.int .i64 ((a_d l0_1 t156).f1),.int .i64 ((a_d l0_1 t156).f2),.int .i64 ((a_d l0_1 t156).f3),.int .i64 ((a_d l0_1 t156).f4),.bool ((a_d l0_1 t156).f5),.bool ((a_d l0_1 t156).f6),.int .u32 0,.int .i64 0,.int .i64 0,.int .i64 0]) ?_ 7 _ rfl;(with_reducible repeat (first|refine a_j ?_ _|refine a_l ?_|refine a_i ?_ _));refine a_E (cs:=#[.int .i64 ((a_d l0_1 t156).f0),.int .i64 ((a_d l0_1 t156).f1),.int .i64 ((a_d l0_1 t156).f2),.int .i64 ((a_d l0_1 t156).f3),.int .i64 ((a_d l0_1 t156).f4),.bool ((a_d l0_1 t156).f5),.bool false,.int .u32 0,.int .i64 0,.int .i64 0,.int .i64 0]) ?_ 6 _ rfl;(with_reducible repeat (first|refine a_j ?_ _|refine a_l ?_|refine a_i ?_ _));refine a_E (cs:=#[.int .i64 ((a_d l0_1 t156).f0),.int .i64 ((a_d l0_1 t156).f1),.int .i64 ((a_d l0_1 t156).f2),.int .i64 ((a_d l0_1 t156).f3),.int .i64 ((a_d l0_1 t156).f4),.bool false,.bool false,.int .u32 0,.int .i64 0,.int .i64 0,.int .i64 0]) ?_ 5 _ rfl;(with_reducible repeat (first|refine a_j ?_ _|refine a_l ?_|refine a_i ?_ _));refine a_E (cs:=#[.int .i64 ((a_d l0_1 t156).f0),.int .i64 ((a_d l0_1 t156).f1),.int .i64 ((a_d l0_1 t156).f2),.int .i64 ((a_d l0_1 t156).f3),.int .i64 0,.bool false,.bool false,.int .u32 0,.int .i64 0,.int .i64 0,.int .i64 0]) ?_ 4 _ rfl;(with_reducible repeat (first|refine a_j ?_ _|refine a_l ?_|refine a_i ?_ _));refine a_E (cs:=#[.int .i64 ((a_d l0_1 t156).f0),.int .i64 ((a_d l0_1 t156).f1),.int .i64 ((a_d l0_1 t156).f2),.int .i64 0,.int .i64 0,.bool false,.bool false,.int .u32 0,.int .i64 0,.int .i64 0,.int .i64 0]) ?_ 3 _ rfl;(with_reducible repeat (first|refine a_j ?_ _|refine a_l ?_|refine a_i ?_ _));refine a_E (cs:=#[.int .i64 ((a_d l0_1 t156).f0),.int .i64 ((a_d l0_1 t156).f1),.int .i64 0,.int .i64 0,.int .i64 0,.bool false,.bool false,.int .u32 0,.int .i64 0,.int .i64 0,.int .i64 0]) ?_ 2 _ rfl;(with_reducible repeat (first|refine a_j ?_ _|refine a_l ?_|refine a_i ?_ _));refine a_E (cs:=#[.int .i64 ((a_d l0_1 t156).f0),.int .i64 0,.int .i64 0,.int .i64 0,.int .i64 0,.bool false,.bool false,.int .u32 0,.int .i64 0,.int .i64 0,.int .i64 0]) ?_ 1 _ rfl;(with_reducible repeat (first|refine a_j ?_ _|refine a_l ?_|refine a_i ?_ _));refine a_E (cs:=#[.int .i64 0,.int .i64 0,.int .i64 0,.int .i64 0,.int .i64 0,.bool false,.bool false,.int .u32 0,.int .i64 0,.int .i64 0,.int .i64 0]) ?_ 0 _ rfl;(with_reducible repeat (first|refine a_j ?_ _|refine a_l ?_|refine a_i ?_ _));exact c_c.out) Try.underlying65 rfl (by kernel_rfl)) rfl ?_
 exact ⟨by first|rfl|(simp [a_v,a_u] <;> rfl)|(simp [*, a_v,a_u] <;> rfl),by repeat (first|(with_reducible first|exact HB.out|apply a_g|apply a_b|apply a_h|refine a_f ?_ d_9.out|refine a_f ?_ f_l.out|refine a_f ?_ j_0.out)|exact HB.out)⟩
end Go.Proofs.Ytgglkfilkagblaa.Q
end
