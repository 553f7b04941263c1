/- Part 9 of 14 of what the row of AuditAdds stands on: contracts over the given program's functions, the plain law, the row; no condition beyond those that each theorem states. -/
import Derived.Test.YtgglkfilkagblaaXAuditAdds7
section
namespace Go.Proofs.Ytgglkfilkagblaa.Q
open Go.RowKit Go.Proofs.YtgglkfilkagblaaW.PrintWords Go.Proofs.YtgglkfilkagblaaW.PrintLast Go.Proofs.YtgglkfilkagblaaW.PrintMore
set_option linter.unusedVariables false
set_option linter.unusedSimpArgs false
mutual
def a_q.j0 : Nat → Bool → List (S27) → Int → Option (Bool)
 | 0,_,_,_ => none
 | k + 1,x17,x220000,x220001 => if x17 = true then (some false) else (a_q.l0 k 0 x220000 x220001)
def a_q.l0 : Nat → Int → List (S27) → Int → Option (Bool)
 | 0,_,_,_ => none
 | k + 1,x3,x220000,x220001 => if x3 < (x220000.length : Int) then (if 0 ≤ x3 then ((a_m.f k ((a_o x220000 x3).f0) ((a_o x220000 x3).f1)).bind fun t221 => (if t221 = true then (if ((a_o x220000 x3).f0) > x220001 then (some false) else (if x3 > 0 then (if 0 ≤ (wrap64 (x3 - 1)) then (if (wrap64 (x3 - 1)) < (x220000.length : Int) then (if ((a_o x220000 (wrap64 (x3 - 1))).f0) ≥ ((a_o x220000 x3).f0) then (some false) else (a_q.l0 k (wrap64 (x3 + 1)) x220000 x220001)) else (none)) else (none)) else (a_q.l0 k (wrap64 (x3 + 1)) x220000 x220001))) else (some false))) else (none)) else (some true)
end
def a_q.f (k : Nat) (l0_0 : List (S27)) (a0_1 : Int) : Option (Bool):=if (l0_0.length : Int) > 2000 then (a_q.j0 k true l0_0 a0_1) else (if a0_1 < 0 then (a_q.j0 k true l0_0 a0_1) else (a_q.j0 k (decide (a0_1 > 1125899906842624)) l0_0 a0_1))
theorem a_q.c_N : ∀ k,(∀ y0 y1 y2,LeO (a_q.j0 k y0 y1 y2) (a_q.j0 (k + 1) y0 y1 y2)) ∧ (∀ y0 y1 y2,LeO (a_q.l0 k y0 y1 y2) (a_q.l0 (k + 1) y0 y1 y2))
 | 0 => ⟨fun _ _ _ r h => by simp [a_q.j0] at h,fun _ _ _ r h => by simp [a_q.l0] at h⟩
 | k + 1 => by
  obtain ⟨ih0,ih1⟩:=a_q.c_N k
  refine ⟨?_,?_⟩
  ·intro y0 y1 y2
   unfold a_q.j0
   repeat' first
   | (with_reducible exact ih0 _ _ _)
   | (with_reducible exact ih1 _ _ _)
   | (with_reducible exact a_m.mono _ _ _)
   | (with_reducible exact LeO.refl _)
   | (with_reducible exact LeO.none _)
   | (with_reducible refine LeO.ite ?_ ?_)
   | (with_reducible refine LeO.bind ?_ (fun _ => ?_))
   | exact ih0 _ _ _
   | exact ih1 _ _ _
   | exact a_m.mono _ _ _
   | exact LeO.none _
   | refine LeO.ite ?_ ?_
   | refine LeO.bind ?_ (fun _ => ?_)
  ·intro y0 y1 y2
   unfold a_q.l0
   repeat' first
   | (with_reducible exact ih0 _ _ _)
   | (with_reducible exact ih1 _ _ _)
   | (with_reducible exact a_m.mono _ _ _)
   | (with_reducible exact LeO.refl _)
   | (with_reducible exact LeO.none _)
   | (with_reducible refine LeO.ite ?_ ?_)
   | (with_reducible refine LeO.bind ?_ (fun _ => ?_))
   | exact ih0 _ _ _
   | exact ih1 _ _ _
   | exact a_m.mono _ _ _
   | exact LeO.none _
   | refine LeO.ite ?_ ?_
   | refine LeO.bind ?_ (fun _ => ?_)
theorem a_q.mono : ∀ a0 a1 k,LeO (a_q.f k a0 a1) (a_q.f (k + 1) a0 a1):=by
 intro a0 a1 k
 obtain ⟨ih0,ih1⟩:=a_q.c_N k
 unfold a_q.f
 repeat' first
  | (with_reducible exact ih0 _ _ _)
  | (with_reducible exact ih1 _ _ _)
  | (with_reducible exact a_m.mono _ _ _)
  | (with_reducible exact LeO.refl _)
  | (with_reducible exact LeO.none _)
  | (with_reducible refine LeO.ite ?_ ?_)
  | (with_reducible refine LeO.bind ?_ (fun _ => ?_))
  | exact ih0 _ _ _
  | exact ih1 _ _ _
  | exact a_m.mono _ _ _
  | exact LeO.none _
  | refine LeO.ite ?_ ?_
  | refine LeO.bind ?_ (fun _ => ?_)
def a_q.T6 : Bool × List (List Nat × List Nat):=(true,[([],[]),([0],[0]),([],[]),([1,2],[1,2]),([3],[3]),([4],[4]),([5],[5]),([6,5],[6]),([7],[7]),([8,7],[7,8]),([7],[7]),([9,10,7],[7,9,10]),([11,7],[7,11]),([12,7],[7,12]),([7],[7]),([14,7],[7,14]),([13,15,7],[7,13,15]),([7,16],[7,16]),([17,7],[17]),([18],[18]),([19,18],[18,19]),([20,18,18],[18,20]),([21],[21]),([22,21],[21,22]),([21],[21]),([24,21],[21,24]),([23,25,21],[21,23,25]),([26,21],[21,26]),([27,21],[21,27]),([21],[21]),([29,21],[21,29]),([21],[21]),([30,31,21],[21,30,31]),([32,21],[21,32]),([33,21],[21,33]),([28,34,21],[21,28,34]),([21,35,18],[18,21,35]),([18,36],[18,36])])
def a_q.B6 : List Nat:=[0,1,0,7,15,31,63,127,255,511,255,2047,4095,8191,255,16639,65535,131071,262143,524287,1048575,2097151,4194303,8388607,4194303,20971519,67108863,134217727,268435455,4194303,541065215,4194303,3762290687,8057257983,16647192575,34359738367,68719476735,137438953471]
theorem a_q.tab6 : rtab .any (opsOf Try.f15 6) = a_q.T6:=by kernel_rfl
theorem a_q.f_W : f_e a_q.T6.2 a_q.B6 = true:=by kernel_rfl
set_option maxHeartbeats 8000000 in
set_option maxRecDepth 100000 in
theorem a_q.calls (k : Nat) (A0_0 : Option Addr) (c0_0 : Nat) (l0_0 : List (S27)) (a0_1 : Int) (r : Bool) (w : World) (hr0_0 : Kd.C k27 w A0_0 l0_0.length l0_0) (hc0_0 : l0_0.length ≤ c0_0) (h : a_q.f k l0_0 a0_1 = some r) :
 Calls Try.prog 15 #[.agg #[.slice A0_0 l0_0.length c0_0,.int .i64 a0_1]] w fun e w' => e = .returned (.bool r) ∧ Below w.heap.size w w':=by
 have hu24:=Try.underlying24
 have hu27:=Try.underlying27
 have c_V:=a_e.mk hr0_0
 have f_w:=a_e.mk hc0_0
 clear hr0_0 hc0_0
 have HB:=a_e.mk (Below.refl w.heap.size w)
 have H : (if (l0_0.length : Int) > 2000 then (a_q.j0 k true l0_0 a0_1) else (if a0_1 < 0 then (a_q.j0 k true l0_0 a0_1) else (a_q.j0 k (decide (a0_1 > 1125899906842624)) l0_0 a0_1))) = some r:=h
 clear h
 have HC2:=a_e.mk H
 clear H
 go_enter Try.func15,Try.ntmps15
 go_upto_region 1 with (first|((with_reducible refine a_U (N:=1) rfl ?_);refine a_H ?hg (N:=1) ?hd (cs:=#[.slice A0_0 l0_0.length c0_0,.int .i64 a0_1]) (t:=24) ?hr ?_;(case hd => rfl);(case hg => rfl);(case hr => first|(go_simp;done)|(go_simp;rfl));intro e_F hg w3 hbox hb;have b_T:=a_e.mk (hbox);have O_C:=a_e.mk ((by rw [hg];exact (a_p (lup_ HB.out)) : w.heap.size ≤ e_F));have g_Z:=a_e.mk ((by rw [hg];exact (a_p (lup_ HB.out)) : w.heap.size ≤ e_F));replace HB:=a_e.mk (a_t (lup_ HB.out) hb);clear hb hbox hg))
 (try simp only [Act.put,sa_,sb_,sc_])
 go_cut [17] (fun v17 wc => ∃ (kq : Nat) (x17_1 : Bool),v17 = .bool x17_1 ∧ a_e (a_q.j0 kq x17_1 l0_0 a0_1 = some r) ∧ a_e (kq ≤ k) ∧ a_e (wc.heap[e_F]? = some (.cells #[(.slice A0_0 l0_0.length c0_0),.int .i64 a0_1] 24 (0,0))) ∧ a_e (Below w.heap.size w wc))
 case first =>
  have H:=HC2.out
  clear HC2
  by_cases c4 : (l0_0.length : Int) > 2000
  ·rw [if_pos c4] at H
   have c4b0 : decide (2000 < (l0_0.length : Int)) = true:=decide_eq_true c4
   have c4b1 : decide (2000 < l0_0.length) = true:=decide_eq_true (by omega)
   clear c4
   (first|rw [c4b0]|(simp only [a_r,a_s];rw [c4b0])|skip)
   have H':=a_e.mk H
   clear H
   have f_Z : w3.cell? ⟨e_F,0,none⟩ = some (.slice A0_0 l0_0.length c0_0):=(a_a b_T.out 0).trans rfl
   have f_0 : w3.cell? ⟨e_F,1,none⟩ = some (.int .i64 a0_1):=(a_a b_T.out 1).trans rfl
   have f_1:=a_b b_T.out 0
   have f_2:=a_b b_T.out 1
   go_wp2
   go_meet
   case rel => exact ⟨_,(true),(by first|rfl|(simp;done)|(simp [*];done)),H',⟨by first|omega|exact Nat.le_refl _⟩,⟨by (with_reducible repeat (first|refine a_j ?_ _|refine a_k ?_|refine a_i ?_ _));exact b_T.out⟩,⟨by repeat (first|(with_reducible first|exact HB.out|apply a_g|apply a_f|apply a_h|refine a_d ?_ g_Z.out)|exact HB.out)⟩⟩
  rw [if_neg c4] at H
  have c4b0 : decide (2000 < (l0_0.length : Int)) = false:=decide_eq_false c4
  have c4b1 : decide (2000 < l0_0.length) = false:=decide_eq_false (by omega)
  clear c4
  (first|rw [c4b0]|(simp only [a_r,a_s];rw [c4b0])|skip)
  by_cases c6 : a0_1 < 0
  ·rw [if_pos c6] at H
   have c6b0 : decide (a0_1 < 0) = true:=decide_eq_true c6
   clear c6
   have H':=a_e.mk H
   clear H
   have h_R : w3.cell? ⟨e_F,0,none⟩ = some (.slice A0_0 l0_0.length c0_0):=(a_a b_T.out 0).trans rfl
   have h_S : w3.cell? ⟨e_F,1,none⟩ = some (.int .i64 a0_1):=(a_a b_T.out 1).trans rfl
   have h_T:=a_b b_T.out 0
   have h_U:=a_b b_T.out 1
   go_wp2
   go_meet
   case rel => exact ⟨_,(true),(by first|rfl|(simp;done)|(simp [*];done)),H',⟨by first|omega|exact Nat.le_refl _⟩,⟨by (with_reducible repeat (first|refine a_j ?_ _|refine a_k ?_|refine a_i ?_ _));exact b_T.out⟩,⟨by repeat (first|(with_reducible first|exact HB.out|apply a_g|apply a_f|apply a_h|refine a_d ?_ g_Z.out)|exact HB.out)⟩⟩
  rw [if_neg c6] at H
  have c6b0 : decide (a0_1 < 0) = false:=decide_eq_false c6
  clear c6
  have H':=a_e.mk H
  clear H
  have h_V : w3.cell? ⟨e_F,0,none⟩ = some (.slice A0_0 l0_0.length c0_0):=(a_a b_T.out 0).trans rfl
  have h_W : w3.cell? ⟨e_F,1,none⟩ = some (.int .i64 a0_1):=(a_a b_T.out 1).trans rfl
  have h_X:=a_b b_T.out 0
  have h_Y:=a_b b_T.out 1
  go_wp2
  go_meet
  case rel => exact ⟨_,(decide (a0_1 > 1125899906842624)),(by first|rfl|(simp;done)|(simp [*];done)),H',⟨by first|omega|exact Nat.le_refl _⟩,⟨by (with_reducible repeat (first|refine a_j ?_ _|refine a_k ?_|refine a_i ?_ _));exact b_T.out⟩,⟨by repeat (first|(with_reducible first|exact HB.out|apply a_g|apply a_f|apply a_h|refine a_d ?_ g_Z.out)|exact HB.out)⟩⟩
 case rest =>
  clear HC2
  try clear c1
  try clear p2
  try clear c4
  try clear c4b0
  try clear c4b1
  try clear c6
  try clear c6b0
  try clear f_Z
  try clear f_0
  try clear h_R
  try clear h_S
  try clear h_V
  try clear h_W
  try clear f_1
  try clear f_2
  try clear h_T
  try clear h_U
  try clear h_X
  try clear h_Y
  obtain ⟨kq,x17_1,rfl,HA,HJ1,b_T,HB⟩:=hcut
  cases kq with
  | zero => exact absurd HA.out (by simp [a_q.j0])
  | succ kj1 =>
   have H:=HA.out
   clear HA
   simp only [a_q.j0] at H
   by_cases c9 : x17_1 = true
   ·subst c9
    have H1 : (some false) = some r:=by rw [if_pos rfl] at H;exact H
    clear H
    have H:=H1
    clear H1
    obtain rfl:=Option.some.inj H
    go_wp2
    go_ret
    exact ⟨by first|rfl|(simp [a_w,a_x] <;> rfl)|(simp [*, a_w,a_x] <;> rfl),by repeat (first|(with_reducible first|exact HB.out|apply a_g|apply a_f|apply a_h|refine a_d ?_ g_Z.out)|exact HB.out)⟩
   replace c9:=Bool.eq_false_iff.mpr c9
   subst c9
   have H1 : (a_q.l0 kj1 0 l0_0 a0_1) = some r:=by rw [if_neg (show ¬ (false = true) by decide)] at H;exact H
   clear H
   have H:=H1
   clear H1
   have H':=a_e.mk H
   clear H
   go_wp2
   go_loopg [3] kj1 (fun kq v3 w' => ∃ (x3_2 : Int),v3 = .int .i64 x3_2 ∧ a_e (a_q.l0 kq x3_2 l0_0 a0_1 = some r) ∧ a_e (kq ≤ kj1) ∧ a_e (w'.heap[e_F]? = some (.cells #[(.slice A0_0 l0_0.length c0_0),.int .i64 a0_1] 24 (0,0))) ∧ a_e (Below w.heap.size w w'))
   case atStart => exact ⟨(0),(by first|rfl|(simp;done)|(simp [*];done)),H',⟨Nat.le_refl _⟩,⟨by (with_reducible repeat (first|refine a_j ?_ _|refine a_k ?_|refine a_i ?_ _));exact b_T.out⟩,⟨by repeat (first|(with_reducible first|exact HB.out|apply a_g|apply a_f|apply a_h|refine a_d ?_ g_Z.out)|exact HB.out)⟩⟩
   case round =>
    clear H'
    try clear c1
    try clear p2
    try clear c4
    try clear c4b0
    try clear c4b1
    try clear c6
    try clear c6b0
    try clear c9
    try clear f_Z
    try clear f_0
    try clear h_R
    try clear h_S
    try clear h_V
    try clear h_W
    try clear f_1
    try clear f_2
    try clear h_T
    try clear h_U
    try clear h_X
    try clear h_Y
    try clear p2
    obtain ⟨x3_2,rfl,HA,HK2,b_T,HB⟩:=hrel
    cases gk with
    | zero => exact absurd HA.out (by simp [a_q.l0])
    | succ k2 =>
     have H:=HA.out
     clear HA
     simp only [a_q.l0] at H
     by_cases c10 : x3_2 < (l0_0.length : Int)
     rotate_left
     ·rw [if_neg c10] at H
      have c10b0 : decide (x3_2 < (l0_0.length : Int)) = false:=decide_eq_false c10
      clear c10
      obtain rfl:=Option.some.inj H
      have l_e : wr.cell? ⟨e_F,0,none⟩ = some (.slice A0_0 l0_0.length c0_0):=(a_a b_T.out 0).trans rfl
      have l_f : wr.cell? ⟨e_F,1,none⟩ = some (.int .i64 a0_1):=(a_a b_T.out 1).trans rfl
      have l_g:=a_b b_T.out 0
      have l_h:=a_b b_T.out 1
      go_wp2
      go_ret
      exact ⟨by first|rfl|(simp [a_w,a_x] <;> rfl)|(simp [*, a_w,a_x] <;> rfl),by repeat (first|(with_reducible first|exact HB.out|apply a_g|apply a_f|apply a_h|refine a_d ?_ g_Z.out)|exact HB.out)⟩
     rw [if_pos c10] at H
     have c10b0 : decide (x3_2 < (l0_0.length : Int)) = true:=decide_eq_true c10
     clear c10
     by_cases c11 : 0 ≤ x3_2
     rotate_left
     ·rw [if_neg c11] at H
      exact absurd H (by simp)
     rw [if_pos c11] at H
     have c11b0 : decide (0 ≤ x3_2) = true:=decide_eq_true c11
     clear c11
     replace H:=Option.bind_eq_some_iff.mp H
     obtain ⟨t221,A120,H⟩:=H
     replace H : (if t221 = true then (if ((a_o l0_0 x3_2).f0) > a0_1 then (some false) else (if x3_2 > 0 then (if 0 ≤ (wrap64 (x3_2 - 1)) then (if (wrap64 (x3_2 - 1)) < (l0_0.length : Int) then (if ((a_o l0_0 (wrap64 (x3_2 - 1))).f0) ≥ ((a_o l0_0 x3_2).f0) then (some false) else (a_q.l0 k2 (wrap64 (x3_2 + 1)) l0_0 a0_1)) else (none)) else (none)) else (a_q.l0 k2 (wrap64 (x3_2 + 1)) l0_0 a0_1))) else (some false)) = some r:=H
     have A12:=a_e.mk A120
     clear A120
     by_cases c13 : t221 = true
     rotate_left
     ·replace c13:=Bool.eq_false_iff.mpr c13
      subst c13
      have H1 : (some false) = some r:=by rw [if_neg (show ¬ (false = true) by decide)] at H;exact H
      clear H
      have H:=H1
      clear H1
      obtain rfl:=Option.some.inj H
      have m_7 : wr.cell? ⟨e_F,0,none⟩ = some (.slice A0_0 l0_0.length c0_0):=(a_a b_T.out 0).trans rfl
      have m_8 : wr.cell? ⟨e_F,1,none⟩ = some (.int .i64 a0_1):=(a_a b_T.out 1).trans rfl
      have m_9:=a_b b_T.out 0
      have n_a:=a_b b_T.out 1
      try go_wp2
      replace b_T:=a_e.mk (a_k b_T.out)
      replace HB:=a_e.mk (a_h HB.out)
      have p220 : 0 ≤ (x3_2 : Int):=of_decide_eq_true (by first|(with_reducible assumption)|assumption)
      have q220 : x3_2 < (l0_0.length : Int):=of_decide_eq_true (by first|(with_reducible assumption)|assumption)
      obtain ⟨ad220,A220_1,c220_1,e220,c_I,c_J,e_0,e_1⟩:=c_t c_V.out x3_2 p220 q220
      have d_e:=c_J
      have d_f:=c_I
      cases e220
      replace c_I:=(HB.out.cell (World.block_lt_of_cell? w _ c_I)).trans c_I
      replace c_J:=(HB.out.cell (World.block_lt_of_cell? w _ c_J)).trans c_J
      have e_2:=a_e.mk e_1
      have g_q:=a_e.mk e_0
      clear e_1 e_0
      replace p220:=eq_true p220
      replace q220:=eq_true q220
      refine d_H (n:=38) (S:=fun w' => w'.cell? ⟨e_F,0,none⟩ = some (.slice (some ad220) l0_0.length c0_0) ∧ w'.cell? ⟨e_F,1,none⟩ = some (.int .i64 a0_1) ∧ w'.cell? (ad220.add ((x3_2).toNat * 2)) = some (.int .i64 ((a_o l0_0 x3_2).f0)) ∧ w'.cell? ⟨(ad220.add ((x3_2).toNat * 2)).block,(ad220.add ((x3_2).toNat * 2)).off + 1,none⟩ = some (.slice A220_1 ((a_o l0_0 x3_2).f1).length c220_1)) (ds:=[]) Z0_ (by kernel_rfl) rfl rfl ⟨(a_a b_T.out 0).trans rfl,(a_a b_T.out 1).trans rfl,((HB.out.cell (World.block_lt_of_cell? w _ d_f)).trans d_f),((HB.out.cell (World.block_lt_of_cell? w _ d_e)).trans d_e)⟩ (fun hHeld => ?_);refine b_Q a_q.tab6 a_q.f_W (fun HT_ HW_ => ?_)
      generalize wr.drew = w33 at b_T HB e_2 c_I c_J hHeld ⊢
      refine a_y (i:=0) (N:=some 25) (v:=?_) (a':=?_) Z6_ rfl rfl (a_n HT_.out (by kernel_rfl)) (fun _ _ _ h => h) (Or.inl ⟨by rfl,?_⟩) ?_ ?_
      rotate_left
      ·intro w'
       go_simp
       with_reducible rfl
      rotate_left
      ·simp only [Act.put,sa_,sb_,sc_,a_r,a_s]
       rfl
      refine a_y (i:=2) (N:=some 27) (v:=?_) (a':=?_) Z13_ rfl rfl (a_n HT_.out (by kernel_rfl)) (fun _ _ _ h => h) (Or.inl ⟨by rfl,?_⟩) ?_ ?_
      rotate_left
      ·intro w'
       go_simp
       with_reducible rfl
      rotate_left
      ·simp only [Act.put,sa_,sb_,sc_,a_r,a_s]
       rfl
      refine b_m (i:=1) (N:=some 26) (v:=?_) (a':=?_) Z19_ rfl rfl (a_L HT_.out HW_.out (by kernel_rfl)) (fun _ _ _ h => h) (Or.inl ⟨by rfl,?_⟩) hHeld ?_ ?_
      rotate_left
      ·rintro w' ⟨s0,s1,s2,s3⟩
       go_simp
       with_reducible rfl
      rotate_left
      ·simp only [Act.put,sa_,sb_,sc_,a_r,a_s]
       rfl
      refine a_y (i:=3) (N:=some 28) (v:=?_) (a':=?_) Z24_ rfl rfl (a_n HT_.out (by kernel_rfl)) (fun _ _ _ h => h) (Or.inl ⟨by rfl,?_⟩) ?_ ?_
      rotate_left
      ·intro w'
       go_simp
       with_reducible rfl
      rotate_left
      ·simp only [Act.put,sa_,sb_,sc_,a_r,a_s]
       rfl
      refine b_m (i:=4) (N:=some 29) (v:=?_) (a':=?_) Z28_ rfl rfl (a_L HT_.out HW_.out (by kernel_rfl)) (fun _ _ _ h => h) (Or.inl ⟨by rfl,?_⟩) hHeld ?_ ?_
      rotate_left
      ·rintro w' ⟨s0,s1,s2,s3⟩
       go_simp
       with_reducible rfl
      rotate_left
      ·simp only [Act.put,sa_,sb_,sc_,a_r,a_s]
       rfl
      refine one_ (i:=5) (N:=some 30) Z33_ rfl rfl (c_e HT_.out (by kernel_rfl)) (by decide) (fun K hK => ?_)
      refine e_I Try.func26 (by kernel_rfl) rfl #[.agg #[.int .i64 ((a_o l0_0 x3_2).f0),.slice A220_1 ((a_o l0_0 x3_2).f1).length c220_1]] (by rfl) rfl rfl (by (try simp only [List.map_toArray,List.map_cons,List.map_nil]);first|done|rfl|(simp only [List.length_drop,List.length_take];rfl)) ?_
      with_reducible refine (a_m.calls k2 ((a_o l0_0 x3_2).f0) _ _ ((a_o l0_0 x3_2).f1) false _ ?side1 ?side2 A12.out).mono ?_
      (case side1 => repeat (first|exact (Kd.b_f e_2.out HB.out)|(with_reducible refine Kd.a_9 ?_ _)|(with_reducible refine Kd.a_8 ?_ _)|(with_reducible refine Kd.b_i ?_)))
      (case side2 => exact g_q.out)
      rintro e w34 ⟨rfl,hb⟩
      refine ⟨_,rfl,?_⟩
      replace b_T:=a_e.mk (a_l (bup_ b_T.out) hb)
      replace HB:=a_e.mk (a_t (by repeat (first|(with_reducible first|exact HB.out|apply a_g|apply a_f|apply a_h|refine a_d ?_ g_Z.out)|exact HB.out)) hb)
      (try clear hb)
      (try clear hb2)
      (try clear hk)
      (try clear hi)
      refine hK.out _ _ ⟨(a_a b_T.out 0).trans rfl,(a_a b_T.out 1).trans rfl,((HB.out.cell (World.block_lt_of_cell? w _ d_f)).trans d_f),((HB.out.cell (World.block_lt_of_cell? w _ d_e)).trans d_e)⟩ (fun hHeld => ?_)
      clear hK K
      refine d_U (a':=?_) ?_ ?_
      rotate_left
      ·show Act.put _ (some 30) _ = _
       simp only [Act.put,sa_,sb_,sc_,a_r,a_s]
       rfl
      refine a_y (i:=6) (N:=some 31) (v:=?_) (a':=?_) Z37_ rfl rfl (a_n HT_.out (by kernel_rfl)) (fun _ _ _ h => h) (Or.inl ⟨by rfl,?_⟩) ?_ ?_
      rotate_left
      ·intro w'
       go_simp
       with_reducible rfl
      rotate_left
      ·simp only [Act.put,sa_,sb_,sc_,a_r,a_s]
       rfl
      refine a_y (i:=7) (N:=some 32) (v:=?_) (a':=?_) Z43_ rfl rfl (a_n HT_.out (by kernel_rfl)) (fun _ _ _ h => h) (Or.inl ⟨by rfl,?_⟩) ?_ ?_
      rotate_left
      ·intro w'
       go_simp
       with_reducible rfl
      rotate_left
      ·simp only [Act.put,sa_,sb_,sc_,a_r,a_s]
       rfl
      refine a_y (i:=8) (N:=some 33) (v:=undef) (a':=?_) Z52_ rfl rfl (a_n HT_.out (by kernel_rfl)) (fun _ _ _ h => h) (Or.inr ⟨by rfl,rfl⟩) ?_ ?_
      rotate_left
      ·simp only [Act.put,sa_,sb_,sc_,a_r,a_s]
       rfl
      refine a_y (i:=9) (N:=some 34) (v:=undef) (a':=?_) #[T_,T_,T_,T_,T_,T_,T_,T_,T_,T_,F_,F_,F_,F_,F_,F_,F_,F_,F_,F_,F_,F_,F_,F_,F_,F_,F_,F_,F_,F_,F_,F_,F_,F_,F_,F_,F_,F_] rfl rfl (a_n HT_.out (by kernel_rfl)) (fun _ _ _ h => h) (Or.inr ⟨by rfl,rfl⟩) ?_ ?_
      rotate_left
      ·simp only [Act.put,sa_,sb_,sc_,a_r,a_s]
       rfl
      refine a_y (i:=10) (N:=some 35) (v:=undef) (a':=?_) #[T_,T_,T_,T_,T_,T_,T_,T_,T_,T_,T_,F_,F_,F_,F_,F_,F_,F_,F_,F_,F_,F_,F_,F_,F_,F_,F_,F_,F_,F_,F_,F_,F_,F_,F_,F_,F_,F_] rfl rfl (a_n HT_.out (by kernel_rfl)) (fun _ _ _ h => h) (Or.inr ⟨by rfl,rfl⟩) ?_ ?_
      rotate_left
      ·simp only [Act.put,sa_,sb_,sc_,a_r,a_s]
       rfl
      refine a_y (i:=11) (N:=some 36) (v:=undef) (a':=?_) #[T_,T_,T_,T_,T_,T_,T_,T_,T_,T_,T_,T_,F_,F_,F_,F_,F_,F_,F_,F_,F_,F_,F_,F_,F_,F_,F_,F_,F_,F_,F_,F_,F_,F_,F_,F_,F_,F_] rfl rfl (a_n HT_.out (by kernel_rfl)) (fun _ _ _ h => h) (Or.inr ⟨by rfl,rfl⟩) ?_ ?_
      rotate_left
      ·simp only [Act.put,sa_,sb_,sc_,a_r,a_s]
       rfl
      refine a_y (i:=12) (N:=some 37) (v:=undef) (a':=?_) #[T_,T_,T_,T_,T_,T_,T_,T_,T_,T_,T_,T_,T_,F_,F_,F_,F_,F_,F_,F_,F_,F_,F_,F_,F_,F_,F_,F_,F_,F_,F_,F_,F_,F_,F_,F_,F_,F_] rfl rfl (a_n HT_.out (by kernel_rfl)) (fun _ _ _ h => h) (Or.inr ⟨by rfl,rfl⟩) ?_ ?_
      rotate_left
      ·simp only [Act.put,sa_,sb_,sc_,a_r,a_s]
       rfl
      refine a_y (i:=13) (N:=some 38) (v:=undef) (a':=?_) #[T_,T_,T_,T_,T_,T_,T_,T_,T_,T_,T_,T_,T_,T_,F_,F_,F_,F_,F_,F_,F_,F_,F_,F_,F_,F_,F_,F_,F_,F_,F_,F_,F_,F_,F_,F_,F_,F_] rfl rfl (a_n HT_.out (by kernel_rfl)) (fun _ _ _ h => h) (Or.inr ⟨by rfl,rfl⟩) ?_ ?_
      rotate_left
      ·simp only [Act.put,sa_,sb_,sc_,a_r,a_s]
       rfl
      refine a_y (i:=14) (N:=some 39) (v:=undef) (a':=?_) Z82_ rfl rfl (a_n HT_.out (by kernel_rfl)) (fun _ _ _ h => h) (Or.inr ⟨by rfl,rfl⟩) ?_ ?_
      rotate_left
      ·simp only [Act.put,sa_,sb_,sc_,a_r,a_s]
       rfl
      refine a_y (i:=15) (N:=some 40) (v:=undef) (a':=?_) Z89_ rfl rfl (a_n HT_.out (by kernel_rfl)) (fun _ _ _ h => h) (Or.inr ⟨by rfl,rfl⟩) ?_ ?_
      rotate_left
      ·simp only [Act.put,sa_,sb_,sc_,a_r,a_s]
       rfl
      refine a_y (i:=16) (N:=some 41) (v:=undef) (a':=?_) Z93_ rfl rfl (a_n HT_.out (by kernel_rfl)) (fun _ _ _ h => h) (Or.inr ⟨by rfl,rfl⟩) ?_ ?_
      rotate_left
      ·simp only [Act.put,sa_,sb_,sc_,a_r,a_s]
       rfl
      refine a_y (i:=17) (N:=some 42) (v:=?_) (a':=?_) Z97_ rfl rfl (a_n HT_.out (by kernel_rfl)) (fun _ _ _ h => h) (Or.inl ⟨by rfl,?_⟩) ?_ ?_
      rotate_left
      ·intro w'
       go_simp
       with_reducible rfl
      rotate_left
      ·simp only [Act.put,sa_,sb_,sc_,a_r,a_s]
       rfl
      refine a_y (i:=18) (N:=some 43) (v:=?_) (a':=?_) o_Y rfl rfl (a_n HT_.out (by kernel_rfl)) (fun _ _ _ h => h) (Or.inl ⟨by rfl,?_⟩) ?_ ?_
      rotate_left
      ·intro w'
       go_simp
       with_reducible rfl
      rotate_left
      ·simp only [Act.put,sa_,sb_,sc_,a_r,a_s]
       rfl
      refine a_y (i:=19) (N:=some 44) (v:=undef) (a':=?_) o_u rfl rfl (a_n HT_.out (by kernel_rfl)) (fun _ _ _ h => h) (Or.inr ⟨by rfl,rfl⟩) ?_ ?_
      rotate_left
      ·simp only [Act.put,sa_,sb_,sc_,a_r,a_s]
       rfl
      refine a_y (i:=20) (N:=some 45) (v:=undef) (a':=?_) o_w rfl rfl (a_n HT_.out (by kernel_rfl)) (fun _ _ _ h => h) (Or.inr ⟨by rfl,rfl⟩) ?_ ?_
      rotate_left
      ·simp only [Act.put,sa_,sb_,sc_,a_r,a_s]
       rfl
      refine a_y (i:=21) (N:=some 46) (v:=undef) (a':=?_) o_F rfl rfl (a_n HT_.out (by kernel_rfl)) (fun _ _ _ h => h) (Or.inr ⟨by rfl,rfl⟩) ?_ ?_
      rotate_left
      ·simp only [Act.put,sa_,sb_,sc_,a_r,a_s]
       rfl
      refine a_y (i:=22) (N:=some 47) (v:=undef) (a':=?_) o_m rfl rfl (a_n HT_.out (by kernel_rfl)) (fun _ _ _ h => h) (Or.inr ⟨by rfl,rfl⟩) ?_ ?_
      rotate_left
      ·simp only [Act.put,sa_,sb_,sc_,a_r,a_s]
       rfl
      refine a_y (i:=23) (N:=some 48) (v:=undef) (a':=?_) s_l rfl rfl (a_n HT_.out (by kernel_rfl)) (fun _ _ _ h => h) (Or.inr ⟨by rfl,rfl⟩) ?_ ?_
      rotate_left
      ·simp only [Act.put,sa_,sb_,sc_,a_r,a_s]
       rfl
      refine a_y (i:=24) (N:=some 49) (v:=undef) (a':=?_) s_a rfl rfl (a_n HT_.out (by kernel_rfl)) (fun _ _ _ h => h) (Or.inr ⟨by rfl,rfl⟩) ?_ ?_
      rotate_left
      ·simp only [Act.put,sa_,sb_,sc_,a_r,a_s]
       rfl
      refine a_y (i:=25) (N:=some 50) (v:=undef) (a':=?_) s_t rfl rfl (a_n HT_.out (by kernel_rfl)) (fun _ _ _ h => h) (Or.inr ⟨by rfl,rfl⟩) ?_ ?_
      rotate_left
      ·simp only [Act.put,sa_,sb_,sc_,a_r,a_s]
       rfl
      refine a_y (i:=26) (N:=some 51) (v:=undef) (a':=?_) s_n rfl rfl (a_n HT_.out (by kernel_rfl)) (fun _ _ _ h => h) (Or.inr ⟨by rfl,rfl⟩) ?_ ?_
      rotate_left
      ·simp only [Act.put,sa_,sb_,sc_,a_r,a_s]
       rfl
      refine a_y (i:=27) (N:=some 52) (v:=undef) (a':=?_) s_v rfl rfl (a_n HT_.out (by kernel_rfl)) (fun _ _ _ h => h) (Or.inr ⟨by rfl,rfl⟩) ?_ ?_
      rotate_left
      ·simp only [Act.put,sa_,sb_,sc_,a_r,a_s]
       rfl
      refine a_y (i:=28) (N:=some 53) (v:=undef) (a':=?_) s_o rfl rfl (a_n HT_.out (by kernel_rfl)) (fun _ _ _ h => h) (Or.inr ⟨by rfl,rfl⟩) ?_ ?_
      rotate_left
      ·simp only [Act.put,sa_,sb_,sc_,a_r,a_s]
       rfl
      refine a_y (i:=29) (N:=some 54) (v:=undef) (a':=?_) s_x rfl rfl (a_n HT_.out (by kernel_rfl)) (fun _ _ _ h => h) (Or.inr ⟨by rfl,rfl⟩) ?_ ?_
      rotate_left
      ·simp only [Act.put,sa_,sb_,sc_,a_r,a_s]
       rfl
      refine a_y (i:=30) (N:=some 55) (v:=undef) (a':=?_) s_h rfl rfl (a_n HT_.out (by kernel_rfl)) (fun _ _ _ h => h) (Or.inr ⟨by rfl,rfl⟩) ?_ ?_
      rotate_left
      ·simp only [Act.put,sa_,sb_,sc_,a_r,a_s]
       rfl
      refine a_y (i:=31) (N:=some 56) (v:=undef) (a':=?_) o_Q rfl rfl (a_n HT_.out (by kernel_rfl)) (fun _ _ _ h => h) (Or.inr ⟨by rfl,rfl⟩) ?_ ?_
      rotate_left
      ·simp only [Act.put,sa_,sb_,sc_,a_r,a_s]
       rfl
      refine a_y (i:=32) (N:=some 57) (v:=undef) (a':=?_) o_0 rfl rfl (a_n HT_.out (by kernel_rfl)) (fun _ _ _ h => h) (Or.inr ⟨by rfl,rfl⟩) ?_ ?_
      rotate_left
      ·simp only [Act.put,sa_,sb_,sc_,a_r,a_s]
       rfl
      refine a_y (i:=33) (N:=some 58) (v:=undef) (a':=?_) o_S rfl rfl (a_n HT_.out (by kernel_rfl)) (fun _ _ _ h => h) (Or.inr ⟨by rfl,rfl⟩) ?_ ?_
      rotate_left
      ·simp only [Act.put,sa_,sb_,sc_,a_r,a_s]
       rfl
      refine a_y (i:=34) (N:=some 59) (v:=undef) (a':=?_) p_a rfl rfl (a_n HT_.out (by kernel_rfl)) (fun _ _ _ h => h) (Or.inr ⟨by rfl,rfl⟩) ?_ ?_
      rotate_left
      ·simp only [Act.put,sa_,sb_,sc_,a_r,a_s]
       rfl
      refine a_y (i:=35) (N:=some 60) (v:=undef) (a':=?_) o_3 rfl rfl (a_n HT_.out (by kernel_rfl)) (fun _ _ _ h => h) (Or.inr ⟨by rfl,rfl⟩) ?_ ?_
      rotate_left
      ·simp only [Act.put,sa_,sb_,sc_,a_r,a_s]
       rfl
      refine a_y (i:=36) (N:=some 61) (v:=undef) (a':=?_) o_D rfl rfl (a_n HT_.out (by kernel_rfl)) (fun _ _ _ h => h) (Or.inr ⟨by rfl,rfl⟩) ?_ ?_
      rotate_left
      ·simp only [Act.put,sa_,sb_,sc_,a_r,a_s]
       rfl
      refine a_y (i:=37) (N:=some 62) (v:=?_) (a':=?_) o_l rfl rfl (a_n HT_.out (by kernel_rfl)) (fun _ _ _ h => h) (Or.inl ⟨by rfl,?_⟩) ?_ ?_
      rotate_left
      ·intro w'
       go_simp
       with_reducible rfl
      rotate_left
      ·simp only [Act.put,sa_,sb_,sc_,a_r,a_s]
       rfl
      refine e_T (c_u HT_.out (by kernel_rfl)) ?_
      try go_wp2
      go_ret
      exact ⟨by first|rfl|(simp [a_w,a_x] <;> rfl)|(simp [*, a_w,a_x] <;> rfl),by repeat (first|(with_reducible first|exact HB.out|apply a_g|apply a_f|apply a_h|refine a_d ?_ g_Z.out)|exact HB.out)⟩
     subst c13
     have H1 : (if ((a_o l0_0 x3_2).f0) > a0_1 then (some false) else (if x3_2 > 0 then (if 0 ≤ (wrap64 (x3_2 - 1)) then (if (wrap64 (x3_2 - 1)) < (l0_0.length : Int) then (if ((a_o l0_0 (wrap64 (x3_2 - 1))).f0) ≥ ((a_o l0_0 x3_2).f0) then (some false) else (a_q.l0 k2 (wrap64 (x3_2 + 1)) l0_0 a0_1)) else (none)) else (none)) else (a_q.l0 k2 (wrap64 (x3_2 + 1)) l0_0 a0_1))) = some r:=by rw [if_pos rfl] at H;exact H
     clear H
     have H:=H1
     clear H1
     by_cases c14 : ((a_o l0_0 x3_2).f0) > a0_1
     ·rw [if_pos c14] at H
      have c14b0 : decide (a0_1 < ((a_o l0_0 x3_2).f0)) = true:=decide_eq_true c14
      clear c14
      obtain rfl:=Option.some.inj H
      have H_s : wr.cell? ⟨e_F,0,none⟩ = some (.slice A0_0 l0_0.length c0_0):=(a_a b_T.out 0).trans rfl
      have H_t : wr.cell? ⟨e_F,1,none⟩ = some (.int .i64 a0_1):=(a_a b_T.out 1).trans rfl
      have H_u:=a_b b_T.out 0
      have H_v:=a_b b_T.out 1
      try go_wp2
      replace b_T:=a_e.mk (a_k b_T.out)
      replace HB:=a_e.mk (a_h HB.out)
      have p220 : 0 ≤ (x3_2 : Int):=of_decide_eq_true (by first|(with_reducible assumption)|assumption)
      have q220 : x3_2 < (l0_0.length : Int):=of_decide_eq_true (by first|(with_reducible assumption)|assumption)
      obtain ⟨ad220,A220_1,c220_1,e220,c_I,c_J,e_0,e_1⟩:=c_t c_V.out x3_2 p220 q220
      have d_e:=c_J
      have d_f:=c_I
      cases e220
      replace c_I:=(HB.out.cell (World.block_lt_of_cell? w _ c_I)).trans c_I
      replace c_J:=(HB.out.cell (World.block_lt_of_cell? w _ c_J)).trans c_J
      have e_2:=a_e.mk e_1
      have g_q:=a_e.mk e_0
      clear e_1 e_0
      replace p220:=eq_true p220
      replace q220:=eq_true q220
      have p222 : 0 ≤ (x3_2 : Int):=of_decide_eq_true (by first|(with_reducible assumption)|assumption)
      have q222 : x3_2 < (l0_0.length : Int):=of_decide_eq_true (by first|(with_reducible assumption)|assumption)
      obtain ⟨ad222,A222_1,c222_1,e222,d_r,c_5,f_K,f_L⟩:=c_t c_V.out x3_2 p222 q222
      have e_e:=c_5
      have e_f:=d_r
      obtain rfl : ad220 = ad222:=(by injection e222)
      replace d_r:=(HB.out.cell (World.block_lt_of_cell? w _ d_r)).trans d_r
      replace c_5:=(HB.out.cell (World.block_lt_of_cell? w _ c_5)).trans c_5
      have h_v:=a_e.mk f_L
      have n_b:=a_e.mk f_K
      clear f_L f_K
      replace p222:=eq_true p222
      replace q222:=eq_true q222
      refine d_H (n:=38) (S:=fun w' => w'.cell? ⟨e_F,0,none⟩ = some (.slice (some ad220) l0_0.length c0_0) ∧ w'.cell? ⟨e_F,1,none⟩ = some (.int .i64 a0_1) ∧ w'.cell? (ad220.add ((x3_2).toNat * 2)) = some (.int .i64 ((a_o l0_0 x3_2).f0)) ∧ w'.cell? ⟨(ad220.add ((x3_2).toNat * 2)).block,(ad220.add ((x3_2).toNat * 2)).off + 1,none⟩ = some (.slice A220_1 ((a_o l0_0 x3_2).f1).length c220_1) ∧ w'.cell? (ad220.add ((x3_2).toNat * 2)) = some (.int .i64 ((a_o l0_0 x3_2).f0)) ∧ w'.cell? ⟨(ad220.add ((x3_2).toNat * 2)).block,(ad220.add ((x3_2).toNat * 2)).off + 1,none⟩ = some (.slice A222_1 ((a_o l0_0 x3_2).f1).length c222_1)) (ds:=[]) Z0_ (by kernel_rfl) rfl rfl ⟨(a_a b_T.out 0).trans rfl,(a_a b_T.out 1).trans rfl,((HB.out.cell (World.block_lt_of_cell? w _ d_f)).trans d_f),((HB.out.cell (World.block_lt_of_cell? w _ d_e)).trans d_e),((HB.out.cell (World.block_lt_of_cell? w _ e_f)).trans e_f),((HB.out.cell (World.block_lt_of_cell? w _ e_e)).trans e_e)⟩ (fun hHeld => ?_);refine b_Q a_q.tab6 a_q.f_W (fun HT_ HW_ => ?_)
      generalize wr.drew = w16 at b_T HB e_2 h_v c_I c_J d_r c_5 hHeld ⊢
      refine a_y (i:=0) (N:=some 25) (v:=?_) (a':=?_) Z6_ rfl rfl (a_n HT_.out (by kernel_rfl)) (fun _ _ _ h => h) (Or.inl ⟨by rfl,?_⟩) ?_ ?_
      rotate_left
      ·intro w'
       go_simp
       with_reducible rfl
      rotate_left
      ·simp only [Act.put,sa_,sb_,sc_,a_r,a_s]
       rfl
      refine a_y (i:=2) (N:=some 27) (v:=?_) (a':=?_) Z13_ rfl rfl (a_n HT_.out (by kernel_rfl)) (fun _ _ _ h => h) (Or.inl ⟨by rfl,?_⟩) ?_ ?_
      rotate_left
      ·intro w'
       go_simp
       with_reducible rfl
      rotate_left
      ·simp only [Act.put,sa_,sb_,sc_,a_r,a_s]
       rfl
      refine b_m (i:=1) (N:=some 26) (v:=?_) (a':=?_) Z19_ rfl rfl (a_L HT_.out HW_.out (by kernel_rfl)) (fun _ _ _ h => h) (Or.inl ⟨by rfl,?_⟩) hHeld ?_ ?_
      rotate_left
      ·rintro w' ⟨s0,s1,s2,s3,s4,s5⟩
       go_simp
       with_reducible rfl
      rotate_left
      ·simp only [Act.put,sa_,sb_,sc_,a_r,a_s]
       rfl
      refine a_y (i:=3) (N:=some 28) (v:=?_) (a':=?_) Z24_ rfl rfl (a_n HT_.out (by kernel_rfl)) (fun _ _ _ h => h) (Or.inl ⟨by rfl,?_⟩) ?_ ?_
      rotate_left
      ·intro w'
       go_simp
       with_reducible rfl
      rotate_left
      ·simp only [Act.put,sa_,sb_,sc_,a_r,a_s]
       rfl
      refine b_m (i:=4) (N:=some 29) (v:=?_) (a':=?_) Z28_ rfl rfl (a_L HT_.out HW_.out (by kernel_rfl)) (fun _ _ _ h => h) (Or.inl ⟨by rfl,?_⟩) hHeld ?_ ?_
      rotate_left
      ·rintro w' ⟨s0,s1,s2,s3,s4,s5⟩
       go_simp
       with_reducible rfl
      rotate_left
      ·simp only [Act.put,sa_,sb_,sc_,a_r,a_s]
       rfl
      refine one_ (i:=5) (N:=some 30) Z33_ rfl rfl (c_e HT_.out (by kernel_rfl)) (by decide) (fun K hK => ?_)
      refine e_I Try.func26 (by kernel_rfl) rfl #[.agg #[.int .i64 ((a_o l0_0 x3_2).f0),.slice A220_1 ((a_o l0_0 x3_2).f1).length c220_1]] (by rfl) rfl rfl (by (try simp only [List.map_toArray,List.map_cons,List.map_nil]);first|done|rfl|(simp only [List.length_drop,List.length_take];rfl)) ?_
      with_reducible refine (a_m.calls k2 ((a_o l0_0 x3_2).f0) _ _ ((a_o l0_0 x3_2).f1) true _ ?side1 ?side2 A12.out).mono ?_
      (case side1 => repeat (first|exact (Kd.b_f e_2.out HB.out)|(with_reducible refine Kd.a_9 ?_ _)|(with_reducible refine Kd.a_8 ?_ _)|(with_reducible refine Kd.b_i ?_)))
      (case side2 => exact g_q.out)
      rintro e w17 ⟨rfl,hb⟩
      refine ⟨_,rfl,?_⟩
      replace b_T:=a_e.mk (a_l (bup_ b_T.out) hb)
      replace HB:=a_e.mk (a_t (by repeat (first|(with_reducible first|exact HB.out|apply a_g|apply a_f|apply a_h|refine a_d ?_ g_Z.out)|exact HB.out)) hb)
      (try clear hb)
      (try clear hb2)
      (try clear hk)
      (try clear hi)
      refine hK.out _ _ ⟨(a_a b_T.out 0).trans rfl,(a_a b_T.out 1).trans rfl,((HB.out.cell (World.block_lt_of_cell? w _ d_f)).trans d_f),((HB.out.cell (World.block_lt_of_cell? w _ d_e)).trans d_e),((HB.out.cell (World.block_lt_of_cell? w _ e_f)).trans e_f),((HB.out.cell (World.block_lt_of_cell? w _ e_e)).trans e_e)⟩ (fun hHeld => ?_)
      clear hK K
      refine d_U (a':=?_) ?_ ?_
      rotate_left
      ·show Act.put _ (some 30) _ = _
       simp only [Act.put,sa_,sb_,sc_,a_r,a_s]
       rfl
      refine a_y (i:=6) (N:=some 31) (v:=?_) (a':=?_) Z37_ rfl rfl (a_n HT_.out (by kernel_rfl)) (fun _ _ _ h => h) (Or.inl ⟨by rfl,?_⟩) ?_ ?_
      rotate_left
      ·intro w'
       go_simp
       with_reducible rfl
      rotate_left
      ·simp only [Act.put,sa_,sb_,sc_,a_r,a_s]
       rfl
      refine a_y (i:=7) (N:=some 32) (v:=?_) (a':=?_) Z43_ rfl rfl (a_n HT_.out (by kernel_rfl)) (fun _ _ _ h => h) (Or.inl ⟨by rfl,?_⟩) ?_ ?_
      rotate_left
      ·intro w'
       go_simp
       with_reducible rfl
      rotate_left
      ·simp only [Act.put,sa_,sb_,sc_,a_r,a_s]
       rfl
      refine a_y (i:=8) (N:=some 33) (v:=?_) (a':=?_) Z52_ rfl rfl (a_n HT_.out (by kernel_rfl)) (fun _ _ _ h => h) (Or.inl ⟨by rfl,?_⟩) ?_ ?_
      rotate_left
      ·intro w'
       go_simp
       with_reducible rfl
      rotate_left
      ·simp only [Act.put,sa_,sb_,sc_,a_r,a_s]
       rfl
      refine a_y (i:=10) (N:=some 35) (v:=?_) (a':=?_) Z56_ rfl rfl (a_n HT_.out (by kernel_rfl)) (fun _ _ _ h => h) (Or.inl ⟨by rfl,?_⟩) ?_ ?_
      rotate_left
      ·intro w'
       go_simp
       with_reducible rfl
      rotate_left
      ·simp only [Act.put,sa_,sb_,sc_,a_r,a_s]
       rfl
      refine a_y (i:=14) (N:=some 39) (v:=?_) (a':=?_) Z57_ rfl rfl (a_n HT_.out (by kernel_rfl)) (fun _ _ _ h => h) (Or.inl ⟨by rfl,?_⟩) ?_ ?_
      rotate_left
      ·intro w'
       go_simp
       with_reducible rfl
      rotate_left
      ·simp only [Act.put,sa_,sb_,sc_,a_r,a_s]
       rfl
      refine b_m (i:=9) (N:=some 34) (v:=?_) (a':=?_) Z65_ rfl rfl (a_L HT_.out HW_.out (by kernel_rfl)) (fun _ _ _ h => h) (Or.inl ⟨by rfl,?_⟩) hHeld ?_ ?_
      rotate_left
      ·rintro w' ⟨s0,s1,s2,s3,s4,s5⟩
       go_simp
       with_reducible rfl
      rotate_left
      ·simp only [Act.put,sa_,sb_,sc_,a_r,a_s]
       rfl
      refine a_y (i:=11) (N:=some 36) (v:=?_) (a':=?_) Z71_ rfl rfl (a_n HT_.out (by kernel_rfl)) (fun _ _ _ h => h) (Or.inl ⟨by rfl,?_⟩) ?_ ?_
      rotate_left
      ·intro w'
       go_simp
       with_reducible rfl
      rotate_left
      ·simp only [Act.put,sa_,sb_,sc_,a_r,a_s]
       rfl
      refine a_y (i:=12) (N:=some 37) (v:=?_) (a':=?_) Z77_ rfl rfl (a_n HT_.out (by kernel_rfl)) (fun _ _ _ h => h) (Or.inl ⟨by rfl,?_⟩) ?_ ?_
      rotate_left
      ·intro w'
       go_simp
       with_reducible rfl
      rotate_left
      ·simp only [Act.put,sa_,sb_,sc_,a_r,a_s]
       rfl
      refine b_m (i:=13) (N:=some 38) (v:=?_) (a':=?_) Z82_ rfl rfl (a_L HT_.out HW_.out (by kernel_rfl)) (fun _ _ _ h => h) (Or.inl ⟨by rfl,?_⟩) hHeld ?_ ?_
      rotate_left
      ·rintro w' ⟨s0,s1,s2,s3,s4,s5⟩
       go_simp
       with_reducible rfl
      rotate_left
      ·simp only [Act.put,sa_,sb_,sc_,a_r,a_s]
       rfl
      refine b_m (i:=15) (N:=some 40) (v:=?_) (a':=?_) Z89_ rfl rfl (a_L HT_.out HW_.out (by kernel_rfl)) (fun _ _ _ h => h) (Or.inl ⟨by rfl,?_⟩) hHeld ?_ ?_
      rotate_left
      ·rintro w' ⟨s0,s1,s2,s3,s4,s5⟩
       go_simp
       with_reducible rfl
      rotate_left
      ·simp only [Act.put,sa_,sb_,sc_,a_r,a_s]
       rfl
      refine a_y (i:=16) (N:=some 41) (v:=?_) (a':=?_) Z93_ rfl rfl (a_n HT_.out (by kernel_rfl)) (fun _ _ _ h => h) (Or.inl ⟨by rfl,?_⟩) ?_ ?_
      rotate_left
      ·intro w'
       go_simp
       with_reducible rfl
      rotate_left
      ·simp only [Act.put,sa_,sb_,sc_,a_r,a_s]
       rfl
      refine a_y (i:=17) (N:=some 42) (v:=?_) (a':=?_) Z97_ rfl rfl (a_n HT_.out (by kernel_rfl)) (fun _ _ _ h => h) (Or.inl ⟨by rfl,?_⟩) ?_ ?_
      rotate_left
      ·intro w'
       go_simp
       with_reducible rfl
      rotate_left
      ·simp only [Act.put,sa_,sb_,sc_,a_r,a_s]
       rfl
      refine a_y (i:=18) (N:=some 43) (v:=?_) (a':=?_) o_Y rfl rfl (a_n HT_.out (by kernel_rfl)) (fun _ _ _ h => h) (Or.inl ⟨by rfl,?_⟩) ?_ ?_
      rotate_left
      ·intro w'
       go_simp
       with_reducible rfl
      rotate_left
      ·simp only [Act.put,sa_,sb_,sc_,a_r,a_s]
       rfl
      refine a_y (i:=19) (N:=some 44) (v:=undef) (a':=?_) o_u rfl rfl (a_n HT_.out (by kernel_rfl)) (fun _ _ _ h => h) (Or.inr ⟨by rfl,rfl⟩) ?_ ?_
      rotate_left
      ·simp only [Act.put,sa_,sb_,sc_,a_r,a_s]
       rfl
      refine a_y (i:=20) (N:=some 45) (v:=undef) (a':=?_) o_w rfl rfl (a_n HT_.out (by kernel_rfl)) (fun _ _ _ h => h) (Or.inr ⟨by rfl,rfl⟩) ?_ ?_
      rotate_left
      ·simp only [Act.put,sa_,sb_,sc_,a_r,a_s]
       rfl
      refine a_y (i:=21) (N:=some 46) (v:=undef) (a':=?_) o_F rfl rfl (a_n HT_.out (by kernel_rfl)) (fun _ _ _ h => h) (Or.inr ⟨by rfl,rfl⟩) ?_ ?_
      rotate_left
      ·simp only [Act.put,sa_,sb_,sc_,a_r,a_s]
       rfl
      refine a_y (i:=22) (N:=some 47) (v:=undef) (a':=?_) o_m rfl rfl (a_n HT_.out (by kernel_rfl)) (fun _ _ _ h => h) (Or.inr ⟨by rfl,rfl⟩) ?_ ?_
      rotate_left
      ·simp only [Act.put,sa_,sb_,sc_,a_r,a_s]
       rfl
      refine a_y (i:=23) (N:=some 48) (v:=undef) (a':=?_) s_l rfl rfl (a_n HT_.out (by kernel_rfl)) (fun _ _ _ h => h) (Or.inr ⟨by rfl,rfl⟩) ?_ ?_
      rotate_left
      ·simp only [Act.put,sa_,sb_,sc_,a_r,a_s]
       rfl
      refine a_y (i:=24) (N:=some 49) (v:=undef) (a':=?_) s_a rfl rfl (a_n HT_.out (by kernel_rfl)) (fun _ _ _ h => h) (Or.inr ⟨by rfl,rfl⟩) ?_ ?_
      rotate_left
      ·simp only [Act.put,sa_,sb_,sc_,a_r,a_s]
       rfl
      refine a_y (i:=25) (N:=some 50) (v:=undef) (a':=?_) s_t rfl rfl (a_n HT_.out (by kernel_rfl)) (fun _ _ _ h => h) (Or.inr ⟨by rfl,rfl⟩) ?_ ?_
      rotate_left
      ·simp only [Act.put,sa_,sb_,sc_,a_r,a_s]
       rfl
      refine a_y (i:=26) (N:=some 51) (v:=undef) (a':=?_) s_n rfl rfl (a_n HT_.out (by kernel_rfl)) (fun _ _ _ h => h) (Or.inr ⟨by rfl,rfl⟩) ?_ ?_
      rotate_left
      ·simp only [Act.put,sa_,sb_,sc_,a_r,a_s]
       rfl
      refine a_y (i:=27) (N:=some 52) (v:=undef) (a':=?_) s_v rfl rfl (a_n HT_.out (by kernel_rfl)) (fun _ _ _ h => h) (Or.inr ⟨by rfl,rfl⟩) ?_ ?_
      rotate_left
      ·simp only [Act.put,sa_,sb_,sc_,a_r,a_s]
       rfl
      refine a_y (i:=28) (N:=some 53) (v:=undef) (a':=?_) s_o rfl rfl (a_n HT_.out (by kernel_rfl)) (fun _ _ _ h => h) (Or.inr ⟨by rfl,rfl⟩) ?_ ?_
      rotate_left
      ·simp only [Act.put,sa_,sb_,sc_,a_r,a_s]
       rfl
      refine a_y (i:=29) (N:=some 54) (v:=undef) (a':=?_) s_x rfl rfl (a_n HT_.out (by kernel_rfl)) (fun _ _ _ h => h) (Or.inr ⟨by rfl,rfl⟩) ?_ ?_
      rotate_left
      ·simp only [Act.put,sa_,sb_,sc_,a_r,a_s]
       rfl
      refine a_y (i:=30) (N:=some 55) (v:=undef) (a':=?_) s_h rfl rfl (a_n HT_.out (by kernel_rfl)) (fun _ _ _ h => h) (Or.inr ⟨by rfl,rfl⟩) ?_ ?_
      rotate_left
      ·simp only [Act.put,sa_,sb_,sc_,a_r,a_s]
       rfl
      refine a_y (i:=31) (N:=some 56) (v:=undef) (a':=?_) o_Q rfl rfl (a_n HT_.out (by kernel_rfl)) (fun _ _ _ h => h) (Or.inr ⟨by rfl,rfl⟩) ?_ ?_
      rotate_left
      ·simp only [Act.put,sa_,sb_,sc_,a_r,a_s]
       rfl
      refine a_y (i:=32) (N:=some 57) (v:=undef) (a':=?_) o_0 rfl rfl (a_n HT_.out (by kernel_rfl)) (fun _ _ _ h => h) (Or.inr ⟨by rfl,rfl⟩) ?_ ?_
      rotate_left
      ·simp only [Act.put,sa_,sb_,sc_,a_r,a_s]
       rfl
      refine a_y (i:=33) (N:=some 58) (v:=undef) (a':=?_) o_S rfl rfl (a_n HT_.out (by kernel_rfl)) (fun _ _ _ h => h) (Or.inr ⟨by rfl,rfl⟩) ?_ ?_
      rotate_left
      ·simp only [Act.put,sa_,sb_,sc_,a_r,a_s]
       rfl
      refine a_y (i:=34) (N:=some 59) (v:=undef) (a':=?_) p_a rfl rfl (a_n HT_.out (by kernel_rfl)) (fun _ _ _ h => h) (Or.inr ⟨by rfl,rfl⟩) ?_ ?_
      rotate_left
      ·simp only [Act.put,sa_,sb_,sc_,a_r,a_s]
       rfl
      refine a_y (i:=35) (N:=some 60) (v:=undef) (a':=?_) o_3 rfl rfl (a_n HT_.out (by kernel_rfl)) (fun _ _ _ h => h) (Or.inr ⟨by rfl,rfl⟩) ?_ ?_
      rotate_left
      ·simp only [Act.put,sa_,sb_,sc_,a_r,a_s]
       rfl
      refine a_y (i:=36) (N:=some 61) (v:=undef) (a':=?_) o_D rfl rfl (a_n HT_.out (by kernel_rfl)) (fun _ _ _ h => h) (Or.inr ⟨by rfl,rfl⟩) ?_ ?_
      rotate_left
      ·simp only [Act.put,sa_,sb_,sc_,a_r,a_s]
       rfl
      refine a_y (i:=37) (N:=some 62) (v:=?_) (a':=?_) o_l rfl rfl (a_n HT_.out (by kernel_rfl)) (fun _ _ _ h => h) (Or.inl ⟨by rfl,?_⟩) ?_ ?_
      rotate_left
      ·intro w'
       go_simp
       with_reducible rfl
      rotate_left
      ·simp only [Act.put,sa_,sb_,sc_,a_r,a_s]
       rfl
      refine e_T (c_u HT_.out (by kernel_rfl)) ?_
      try go_wp2
      go_ret
      exact ⟨by first|rfl|(simp [a_w,a_x] <;> rfl)|(simp [*, a_w,a_x] <;> rfl),by repeat (first|(with_reducible first|exact HB.out|apply a_g|apply a_f|apply a_h|refine a_d ?_ g_Z.out)|exact HB.out)⟩
     rw [if_neg c14] at H
     have c14b0 : decide (a0_1 < ((a_o l0_0 x3_2).f0)) = false:=decide_eq_false c14
     clear c14
     by_cases c18 : x3_2 > 0
     rotate_left
     ·rw [if_neg c18] at H
      have c18b0 : decide (0 < x3_2) = false:=decide_eq_false c18
      clear c18
      have H':=a_e.mk H
      clear H
      have m_j : wr.cell? ⟨e_F,0,none⟩ = some (.slice A0_0 l0_0.length c0_0):=(a_a b_T.out 0).trans rfl
      have m_k : wr.cell? ⟨e_F,1,none⟩ = some (.int .i64 a0_1):=(a_a b_T.out 1).trans rfl
      have m_l:=a_b b_T.out 0
      have m_m:=a_b b_T.out 1
      try go_wp2
      replace b_T:=a_e.mk (a_k b_T.out)
      replace HB:=a_e.mk (a_h HB.out)
      have p220 : 0 ≤ (x3_2 : Int):=of_decide_eq_true (by first|(with_reducible assumption)|assumption)
      have q220 : x3_2 < (l0_0.length : Int):=of_decide_eq_true (by first|(with_reducible assumption)|assumption)
      obtain ⟨ad220,A220_1,c220_1,e220,c_I,c_J,e_0,e_1⟩:=c_t c_V.out x3_2 p220 q220
      have d_e:=c_J
      have d_f:=c_I
      cases e220
      replace c_I:=(HB.out.cell (World.block_lt_of_cell? w _ c_I)).trans c_I
      replace c_J:=(HB.out.cell (World.block_lt_of_cell? w _ c_J)).trans c_J
      have e_2:=a_e.mk e_1
      have g_q:=a_e.mk e_0
      clear e_1 e_0
      replace p220:=eq_true p220
      replace q220:=eq_true q220
      have p222 : 0 ≤ (x3_2 : Int):=of_decide_eq_true (by first|(with_reducible assumption)|assumption)
      have q222 : x3_2 < (l0_0.length : Int):=of_decide_eq_true (by first|(with_reducible assumption)|assumption)
      obtain ⟨ad222,A222_1,c222_1,e222,d_r,c_5,f_K,f_L⟩:=c_t c_V.out x3_2 p222 q222
      have e_e:=c_5
      have e_f:=d_r
      obtain rfl : ad220 = ad222:=(by injection e222)
      replace d_r:=(HB.out.cell (World.block_lt_of_cell? w _ d_r)).trans d_r
      replace c_5:=(HB.out.cell (World.block_lt_of_cell? w _ c_5)).trans c_5
      have h_v:=a_e.mk f_L
      have n_b:=a_e.mk f_K
      clear f_L f_K
      replace p222:=eq_true p222
      replace q222:=eq_true q222
      refine d_H (n:=38) (S:=fun w' => w'.cell? ⟨e_F,0,none⟩ = some (.slice (some ad220) l0_0.length c0_0) ∧ w'.cell? ⟨e_F,1,none⟩ = some (.int .i64 a0_1) ∧ w'.cell? (ad220.add ((x3_2).toNat * 2)) = some (.int .i64 ((a_o l0_0 x3_2).f0)) ∧ w'.cell? ⟨(ad220.add ((x3_2).toNat * 2)).block,(ad220.add ((x3_2).toNat * 2)).off + 1,none⟩ = some (.slice A220_1 ((a_o l0_0 x3_2).f1).length c220_1) ∧ w'.cell? (ad220.add ((x3_2).toNat * 2)) = some (.int .i64 ((a_o l0_0 x3_2).f0)) ∧ w'.cell? ⟨(ad220.add ((x3_2).toNat * 2)).block,(ad220.add ((x3_2).toNat * 2)).off + 1,none⟩ = some (.slice A222_1 ((a_o l0_0 x3_2).f1).length c222_1)) (ds:=[]) Z0_ (by kernel_rfl) rfl rfl ⟨(a_a b_T.out 0).trans rfl,(a_a b_T.out 1).trans rfl,((HB.out.cell (World.block_lt_of_cell? w _ d_f)).trans d_f),((HB.out.cell (World.block_lt_of_cell? w _ d_e)).trans d_e),((HB.out.cell (World.block_lt_of_cell? w _ e_f)).trans e_f),((HB.out.cell (World.block_lt_of_cell? w _ e_e)).trans e_e)⟩ (fun hHeld => ?_);refine b_Q a_q.tab6 a_q.f_W (fun HT_ HW_ => ?_)
      generalize wr.drew = w30 at b_T HB e_2 h_v c_I c_J d_r c_5 hHeld ⊢
      refine a_y (i:=0) (N:=some 25) (v:=?_) (a':=?_) Z6_ rfl rfl (a_n HT_.out (by kernel_rfl)) (fun _ _ _ h => h) (Or.inl ⟨by rfl,?_⟩) ?_ ?_
      rotate_left
      ·intro w'
       go_simp
       with_reducible rfl
      rotate_left
      ·simp only [Act.put,sa_,sb_,sc_,a_r,a_s]
       rfl
      refine a_y (i:=2) (N:=some 27) (v:=?_) (a':=?_) Z13_ rfl rfl (a_n HT_.out (by kernel_rfl)) (fun _ _ _ h => h) (Or.inl ⟨by rfl,?_⟩) ?_ ?_
      rotate_left
      ·intro w'
       go_simp
       with_reducible rfl
      rotate_left
      ·simp only [Act.put,sa_,sb_,sc_,a_r,a_s]
       rfl
      refine b_m (i:=1) (N:=some 26) (v:=?_) (a':=?_) Z19_ rfl rfl (a_L HT_.out HW_.out (by kernel_rfl)) (fun _ _ _ h => h) (Or.inl ⟨by rfl,?_⟩) hHeld ?_ ?_
      rotate_left
      ·rintro w' ⟨s0,s1,s2,s3,s4,s5⟩
       go_simp
       with_reducible rfl
      rotate_left
      ·simp only [Act.put,sa_,sb_,sc_,a_r,a_s]
       rfl
      refine a_y (i:=3) (N:=some 28) (v:=?_) (a':=?_) Z24_ rfl rfl (a_n HT_.out (by kernel_rfl)) (fun _ _ _ h => h) (Or.inl ⟨by rfl,?_⟩) ?_ ?_
      rotate_left
      ·intro w'
       go_simp
       with_reducible rfl
      rotate_left
      ·simp only [Act.put,sa_,sb_,sc_,a_r,a_s]
       rfl
      refine b_m (i:=4) (N:=some 29) (v:=?_) (a':=?_) Z28_ rfl rfl (a_L HT_.out HW_.out (by kernel_rfl)) (fun _ _ _ h => h) (Or.inl ⟨by rfl,?_⟩) hHeld ?_ ?_
      rotate_left
      ·rintro w' ⟨s0,s1,s2,s3,s4,s5⟩
       go_simp
       with_reducible rfl
      rotate_left
      ·simp only [Act.put,sa_,sb_,sc_,a_r,a_s]
       rfl
      refine one_ (i:=5) (N:=some 30) Z33_ rfl rfl (c_e HT_.out (by kernel_rfl)) (by decide) (fun K hK => ?_)
      refine e_I Try.func26 (by kernel_rfl) rfl #[.agg #[.int .i64 ((a_o l0_0 x3_2).f0),.slice A220_1 ((a_o l0_0 x3_2).f1).length c220_1]] (by rfl) rfl rfl (by (try simp only [List.map_toArray,List.map_cons,List.map_nil]);first|done|rfl|(simp only [List.length_drop,List.length_take];rfl)) ?_
      with_reducible refine (a_m.calls k2 ((a_o l0_0 x3_2).f0) _ _ ((a_o l0_0 x3_2).f1) true _ ?side1 ?side2 A12.out).mono ?_
      (case side1 => repeat (first|exact (Kd.b_f e_2.out HB.out)|(with_reducible refine Kd.a_9 ?_ _)|(with_reducible refine Kd.a_8 ?_ _)|(with_reducible refine Kd.b_i ?_)))
      (case side2 => exact g_q.out)
      rintro e w31 ⟨rfl,hb⟩
      refine ⟨_,rfl,?_⟩
      replace b_T:=a_e.mk (a_l (bup_ b_T.out) hb)
      replace HB:=a_e.mk (a_t (by repeat (first|(with_reducible first|exact HB.out|apply a_g|apply a_f|apply a_h|refine a_d ?_ g_Z.out)|exact HB.out)) hb)
      (try clear hb)
      (try clear hb2)
      (try clear hk)
      (try clear hi)
      refine hK.out _ _ ⟨(a_a b_T.out 0).trans rfl,(a_a b_T.out 1).trans rfl,((HB.out.cell (World.block_lt_of_cell? w _ d_f)).trans d_f),((HB.out.cell (World.block_lt_of_cell? w _ d_e)).trans d_e),((HB.out.cell (World.block_lt_of_cell? w _ e_f)).trans e_f),((HB.out.cell (World.block_lt_of_cell? w _ e_e)).trans e_e)⟩ (fun hHeld => ?_)
      clear hK K
      refine d_U (a':=?_) ?_ ?_
      rotate_left
      ·show Act.put _ (some 30) _ = _
       simp only [Act.put,sa_,sb_,sc_,a_r,a_s]
       rfl
      refine a_y (i:=6) (N:=some 31) (v:=?_) (a':=?_) Z37_ rfl rfl (a_n HT_.out (by kernel_rfl)) (fun _ _ _ h => h) (Or.inl ⟨by rfl,?_⟩) ?_ ?_
      rotate_left
      ·intro w'
       go_simp
       with_reducible rfl
      rotate_left
      ·simp only [Act.put,sa_,sb_,sc_,a_r,a_s]
       rfl
      refine a_y (i:=7) (N:=some 32) (v:=?_) (a':=?_) Z43_ rfl rfl (a_n HT_.out (by kernel_rfl)) (fun _ _ _ h => h) (Or.inl ⟨by rfl,?_⟩) ?_ ?_
      rotate_left
      ·intro w'
       go_simp
       with_reducible rfl
      rotate_left
      ·simp only [Act.put,sa_,sb_,sc_,a_r,a_s]
       rfl
      refine a_y (i:=8) (N:=some 33) (v:=?_) (a':=?_) Z52_ rfl rfl (a_n HT_.out (by kernel_rfl)) (fun _ _ _ h => h) (Or.inl ⟨by rfl,?_⟩) ?_ ?_
      rotate_left
      ·intro w'
       go_simp
       with_reducible rfl
      rotate_left
      ·simp only [Act.put,sa_,sb_,sc_,a_r,a_s]
       rfl
      refine a_y (i:=10) (N:=some 35) (v:=?_) (a':=?_) Z56_ rfl rfl (a_n HT_.out (by kernel_rfl)) (fun _ _ _ h => h) (Or.inl ⟨by rfl,?_⟩) ?_ ?_
      rotate_left
      ·intro w'
       go_simp
       with_reducible rfl
      rotate_left
      ·simp only [Act.put,sa_,sb_,sc_,a_r,a_s]
       rfl
      refine a_y (i:=14) (N:=some 39) (v:=?_) (a':=?_) Z57_ rfl rfl (a_n HT_.out (by kernel_rfl)) (fun _ _ _ h => h) (Or.inl ⟨by rfl,?_⟩) ?_ ?_
      rotate_left
      ·intro w'
       go_simp
       with_reducible rfl
      rotate_left
      ·simp only [Act.put,sa_,sb_,sc_,a_r,a_s]
       rfl
      refine b_m (i:=9) (N:=some 34) (v:=?_) (a':=?_) Z65_ rfl rfl (a_L HT_.out HW_.out (by kernel_rfl)) (fun _ _ _ h => h) (Or.inl ⟨by rfl,?_⟩) hHeld ?_ ?_
      rotate_left
      ·rintro w' ⟨s0,s1,s2,s3,s4,s5⟩
       go_simp
       with_reducible rfl
      rotate_left
      ·simp only [Act.put,sa_,sb_,sc_,a_r,a_s]
       rfl
      refine a_y (i:=11) (N:=some 36) (v:=?_) (a':=?_) Z71_ rfl rfl (a_n HT_.out (by kernel_rfl)) (fun _ _ _ h => h) (Or.inl ⟨by rfl,?_⟩) ?_ ?_
      rotate_left
      ·intro w'
       go_simp
       with_reducible rfl
      rotate_left
      ·simp only [Act.put,sa_,sb_,sc_,a_r,a_s]
       rfl
      refine a_y (i:=12) (N:=some 37) (v:=?_) (a':=?_) Z77_ rfl rfl (a_n HT_.out (by kernel_rfl)) (fun _ _ _ h => h) (Or.inl ⟨by rfl,?_⟩) ?_ ?_
      rotate_left
      ·intro w'
       go_simp
       with_reducible rfl
      rotate_left
      ·simp only [Act.put,sa_,sb_,sc_,a_r,a_s]
       rfl
      refine b_m (i:=13) (N:=some 38) (v:=?_) (a':=?_) Z82_ rfl rfl (a_L HT_.out HW_.out (by kernel_rfl)) (fun _ _ _ h => h) (Or.inl ⟨by rfl,?_⟩) hHeld ?_ ?_
      rotate_left
      ·rintro w' ⟨s0,s1,s2,s3,s4,s5⟩
       go_simp
       with_reducible rfl
      rotate_left
      ·simp only [Act.put,sa_,sb_,sc_,a_r,a_s]
       rfl
      refine b_m (i:=15) (N:=some 40) (v:=?_) (a':=?_) Z89_ rfl rfl (a_L HT_.out HW_.out (by kernel_rfl)) (fun _ _ _ h => h) (Or.inl ⟨by rfl,?_⟩) hHeld ?_ ?_
      rotate_left
      ·rintro w' ⟨s0,s1,s2,s3,s4,s5⟩
       go_simp
       with_reducible rfl
      rotate_left
      ·simp only [Act.put,sa_,sb_,sc_,a_r,a_s]
       rfl
      refine a_y (i:=16) (N:=some 41) (v:=?_) (a':=?_) Z93_ rfl rfl (a_n HT_.out (by kernel_rfl)) (fun _ _ _ h => h) (Or.inl ⟨by rfl,?_⟩) ?_ ?_
      rotate_left
      ·intro w'
       go_simp
       with_reducible rfl
      rotate_left
      ·simp only [Act.put,sa_,sb_,sc_,a_r,a_s]
       rfl
      refine a_y (i:=17) (N:=some 42) (v:=?_) (a':=?_) Z97_ rfl rfl (a_n HT_.out (by kernel_rfl)) (fun _ _ _ h => h) (Or.inl ⟨by rfl,?_⟩) ?_ ?_
      rotate_left
      ·intro w'
       go_simp
       with_reducible rfl
      rotate_left
      ·simp only [Act.put,sa_,sb_,sc_,a_r,a_s]
       rfl
      refine a_y (i:=18) (N:=some 43) (v:=?_) (a':=?_) o_Y rfl rfl (a_n HT_.out (by kernel_rfl)) (fun _ _ _ h => h) (Or.inl ⟨by rfl,?_⟩) ?_ ?_
      rotate_left
      ·intro w'
       go_simp
       with_reducible rfl
      rotate_left
      ·simp only [Act.put,sa_,sb_,sc_,a_r,a_s]
       rfl
      refine a_y (i:=19) (N:=some 44) (v:=?_) (a':=?_) o_u rfl rfl (a_n HT_.out (by kernel_rfl)) (fun _ _ _ h => h) (Or.inl ⟨by rfl,?_⟩) ?_ ?_
      rotate_left
      ·intro w'
       go_simp
       with_reducible rfl
      rotate_left
      ·simp only [Act.put,sa_,sb_,sc_,a_r,a_s]
       rfl
      refine a_y (i:=20) (N:=some 45) (v:=?_) (a':=?_) o_w rfl rfl (a_n HT_.out (by kernel_rfl)) (fun _ _ _ h => h) (Or.inl ⟨by rfl,?_⟩) ?_ ?_
      rotate_left
      ·intro w'
       go_simp
       with_reducible rfl
      rotate_left
      ·simp only [Act.put,sa_,sb_,sc_,a_r,a_s]
       rfl
      refine a_y (i:=21) (N:=some 46) (v:=?_) (a':=?_) o_F rfl rfl (a_n HT_.out (by kernel_rfl)) (fun _ _ _ h => h) (Or.inl ⟨by rfl,?_⟩) ?_ ?_
      rotate_left
      ·intro w'
       go_simp
       with_reducible rfl
      rotate_left
      ·simp only [Act.put,sa_,sb_,sc_,a_r,a_s]
       rfl
      refine a_y (i:=22) (N:=some 47) (v:=undef) (a':=?_) o_m rfl rfl (a_n HT_.out (by kernel_rfl)) (fun _ _ _ h => h) (Or.inr ⟨by rfl,rfl⟩) ?_ ?_
      rotate_left
      ·simp only [Act.put,sa_,sb_,sc_,a_r,a_s]
       rfl
      refine a_y (i:=23) (N:=some 48) (v:=undef) (a':=?_) s_l rfl rfl (a_n HT_.out (by kernel_rfl)) (fun _ _ _ h => h) (Or.inr ⟨by rfl,rfl⟩) ?_ ?_
      rotate_left
      ·simp only [Act.put,sa_,sb_,sc_,a_r,a_s]
       rfl
      refine a_y (i:=24) (N:=some 49) (v:=undef) (a':=?_) s_a rfl rfl (a_n HT_.out (by kernel_rfl)) (fun _ _ _ h => h) (Or.inr ⟨by rfl,rfl⟩) ?_ ?_
      rotate_left
      ·simp only [Act.put,sa_,sb_,sc_,a_r,a_s]
       rfl
      refine a_y (i:=25) (N:=some 50) (v:=undef) (a':=?_) s_t rfl rfl (a_n HT_.out (by kernel_rfl)) (fun _ _ _ h => h) (Or.inr ⟨by rfl,rfl⟩) ?_ ?_
      rotate_left
      ·simp only [Act.put,sa_,sb_,sc_,a_r,a_s]
       rfl
      refine a_y (i:=26) (N:=some 51) (v:=undef) (a':=?_) s_n rfl rfl (a_n HT_.out (by kernel_rfl)) (fun _ _ _ h => h) (Or.inr ⟨by rfl,rfl⟩) ?_ ?_
      rotate_left
      ·simp only [Act.put,sa_,sb_,sc_,a_r,a_s]
       rfl
      refine a_y (i:=27) (N:=some 52) (v:=undef) (a':=?_) s_v rfl rfl (a_n HT_.out (by kernel_rfl)) (fun _ _ _ h => h) (Or.inr ⟨by rfl,rfl⟩) ?_ ?_
      rotate_left
      ·simp only [Act.put,sa_,sb_,sc_,a_r,a_s]
       rfl
      refine a_y (i:=28) (N:=some 53) (v:=undef) (a':=?_) s_o rfl rfl (a_n HT_.out (by kernel_rfl)) (fun _ _ _ h => h) (Or.inr ⟨by rfl,rfl⟩) ?_ ?_
      rotate_left
      ·simp only [Act.put,sa_,sb_,sc_,a_r,a_s]
       rfl
      refine a_y (i:=29) (N:=some 54) (v:=undef) (a':=?_) s_x rfl rfl (a_n HT_.out (by kernel_rfl)) (fun _ _ _ h => h) (Or.inr ⟨by rfl,rfl⟩) ?_ ?_
      rotate_left
      ·simp only [Act.put,sa_,sb_,sc_,a_r,a_s]
       rfl
      refine a_y (i:=30) (N:=some 55) (v:=undef) (a':=?_) s_h rfl rfl (a_n HT_.out (by kernel_rfl)) (fun _ _ _ h => h) (Or.inr ⟨by rfl,rfl⟩) ?_ ?_
      rotate_left
      ·simp only [Act.put,sa_,sb_,sc_,a_r,a_s]
       rfl
      refine a_y (i:=31) (N:=some 56) (v:=undef) (a':=?_) o_Q rfl rfl (a_n HT_.out (by kernel_rfl)) (fun _ _ _ h => h) (Or.inr ⟨by rfl,rfl⟩) ?_ ?_
      rotate_left
      ·simp only [Act.put,sa_,sb_,sc_,a_r,a_s]
       rfl
      refine a_y (i:=32) (N:=some 57) (v:=undef) (a':=?_) o_0 rfl rfl (a_n HT_.out (by kernel_rfl)) (fun _ _ _ h => h) (Or.inr ⟨by rfl,rfl⟩) ?_ ?_
      rotate_left
      ·simp only [Act.put,sa_,sb_,sc_,a_r,a_s]
       rfl
      refine a_y (i:=33) (N:=some 58) (v:=undef) (a':=?_) o_S rfl rfl (a_n HT_.out (by kernel_rfl)) (fun _ _ _ h => h) (Or.inr ⟨by rfl,rfl⟩) ?_ ?_
      rotate_left
      ·simp only [Act.put,sa_,sb_,sc_,a_r,a_s]
       rfl
      refine a_y (i:=34) (N:=some 59) (v:=undef) (a':=?_) p_a rfl rfl (a_n HT_.out (by kernel_rfl)) (fun _ _ _ h => h) (Or.inr ⟨by rfl,rfl⟩) ?_ ?_
      rotate_left
      ·simp only [Act.put,sa_,sb_,sc_,a_r,a_s]
       rfl
      refine a_y (i:=35) (N:=some 60) (v:=undef) (a':=?_) o_3 rfl rfl (a_n HT_.out (by kernel_rfl)) (fun _ _ _ h => h) (Or.inr ⟨by rfl,rfl⟩) ?_ ?_
      rotate_left
      ·simp only [Act.put,sa_,sb_,sc_,a_r,a_s]
       rfl
      refine a_y (i:=36) (N:=some 61) (v:=?_) (a':=?_) o_D rfl rfl (a_n HT_.out (by kernel_rfl)) (fun _ _ _ h => h) (Or.inl ⟨by rfl,?_⟩) ?_ ?_
      rotate_left
      ·intro w'
       go_simp
       with_reducible rfl
      rotate_left
      ·simp only [Act.put,sa_,sb_,sc_,a_r,a_s]
       rfl
      refine a_y (i:=37) (N:=some 62) (v:=?_) (a':=?_) o_l rfl rfl (a_n HT_.out (by kernel_rfl)) (fun _ _ _ h => h) (Or.inl ⟨by rfl,?_⟩) ?_ ?_
      rotate_left
      ·intro w'
       go_simp
       with_reducible rfl
      rotate_left
      ·simp only [Act.put,sa_,sb_,sc_,a_r,a_s]
       rfl
      refine e_T (c_u HT_.out (by kernel_rfl)) ?_
      try go_wp2
      go_roundg k2
      case measure => have:=HJ1.out;have:=HK2.out;omega
      case rel => exact ⟨(wrap64 (x3_2 + 1)),(by first|rfl|(simp;done)|(simp [*];done)),H',⟨by have:=HJ1.out;have:=HK2.out;omega⟩,⟨by (with_reducible repeat (first|refine a_j ?_ _|refine a_k ?_|refine a_i ?_ _));exact b_T.out⟩,⟨by repeat (first|(with_reducible first|exact HB.out|apply a_g|apply a_f|apply a_h|refine a_d ?_ g_Z.out)|exact HB.out)⟩⟩
     rw [if_pos c18] at H
     have c18b0 : decide (0 < x3_2) = true:=decide_eq_true c18
     clear c18
     obtain ⟨ji19,hji19⟩ : ∃ j_ : Int,(wrap64 (x3_2 - 1)) = j_:=⟨_,rfl⟩
     replace H : (if 0 ≤ (ji19) then (if (ji19) < (l0_0.length : Int) then (if ((a_o l0_0 (ji19)).f0) ≥ ((a_o l0_0 x3_2).f0) then (some false) else (a_q.l0 k2 (wrap64 (x3_2 + 1)) l0_0 a0_1)) else (none)) else (none)) = some r:=by first|(rw [hji19] at H;exact H)|(simp only [hji19] at H ⊢; exact H)
     (try rw [hji19] at A12)
     have hji19w : (IntKind.i64.wrap (x3_2 - 1)) = ji19:=(a_r _).trans hji19
     by_cases c20 : 0 ≤ (ji19)
     rotate_left
     ·rw [if_neg c20] at H
      exact absurd H (by simp)
     rw [if_pos c20] at H
     have c20b0 : decide (0 ≤ (ji19)) = true:=decide_eq_true c20
     clear c20
     by_cases c21 : (ji19) < (l0_0.length : Int)
     rotate_left
     ·rw [if_neg c21] at H
      exact absurd H (by simp)
     rw [if_pos c21] at H
     have c21b0 : decide ((ji19) < (l0_0.length : Int)) = true:=decide_eq_true c21
     clear c21
     by_cases c22 : ((a_o l0_0 (ji19)).f0) ≥ ((a_o l0_0 x3_2).f0)
     ·rw [if_pos c22] at H
      have c22b0 : decide (((a_o l0_0 x3_2).f0) ≤ ((a_o l0_0 (ji19)).f0)) = true:=decide_eq_true c22
      clear c22
      obtain rfl:=Option.some.inj H
      have q_j : wr.cell? ⟨e_F,0,none⟩ = some (.slice A0_0 l0_0.length c0_0):=(a_a b_T.out 0).trans rfl
      have q_k : wr.cell? ⟨e_F,1,none⟩ = some (.int .i64 a0_1):=(a_a b_T.out 1).trans rfl
      have q_l:=a_b b_T.out 0
      have q_m:=a_b b_T.out 1
      try go_wp2
      replace b_T:=a_e.mk (a_k b_T.out)
      replace HB:=a_e.mk (a_h HB.out)
      have p220 : 0 ≤ (x3_2 : Int):=of_decide_eq_true (by first|(with_reducible assumption)|assumption)
      have q220 : x3_2 < (l0_0.length : Int):=of_decide_eq_true (by first|(with_reducible assumption)|assumption)
      obtain ⟨ad220,A220_1,c220_1,e220,c_I,c_J,e_0,e_1⟩:=c_t c_V.out x3_2 p220 q220
      have d_e:=c_J
      have d_f:=c_I
      cases e220
      replace c_I:=(HB.out.cell (World.block_lt_of_cell? w _ c_I)).trans c_I
      replace c_J:=(HB.out.cell (World.block_lt_of_cell? w _ c_J)).trans c_J
      have e_2:=a_e.mk e_1
      have g_q:=a_e.mk e_0
      clear e_1 e_0
      replace p220:=eq_true p220
      replace q220:=eq_true q220
      have p222 : 0 ≤ (x3_2 : Int):=of_decide_eq_true (by first|(with_reducible assumption)|assumption)
      have q222 : x3_2 < (l0_0.length : Int):=of_decide_eq_true (by first|(with_reducible assumption)|assumption)
      obtain ⟨ad222,A222_1,c222_1,e222,d_r,c_5,f_K,f_L⟩:=c_t c_V.out x3_2 p222 q222
      have e_e:=c_5
      have e_f:=d_r
      obtain rfl : ad220 = ad222:=(by injection e222)
      replace d_r:=(HB.out.cell (World.block_lt_of_cell? w _ d_r)).trans d_r
      replace c_5:=(HB.out.cell (World.block_lt_of_cell? w _ c_5)).trans c_5
      have h_v:=a_e.mk f_L
      have n_b:=a_e.mk f_K
      clear f_L f_K
      replace p222:=eq_true p222
      replace q222:=eq_true q222
      have p223 : 0 ≤ ((ji19) : Int):=of_decide_eq_true (by first|(with_reducible assumption)|assumption)
      have q223 : (ji19) < (l0_0.length : Int):=of_decide_eq_true (by first|(with_reducible assumption)|assumption)
      obtain ⟨ad223,A223_1,c223_1,e223,f_M,f_N,j_K,j_L⟩:=c_t c_V.out (ji19) p223 q223
      have g_r:=f_N
      have g_s:=f_M
      obtain rfl : ad220 = ad223:=(by injection e223)
      replace f_M:=(HB.out.cell (World.block_lt_of_cell? w _ f_M)).trans f_M
      replace f_N:=(HB.out.cell (World.block_lt_of_cell? w _ f_N)).trans f_N
      have n_c:=a_e.mk j_L
      have u_y:=a_e.mk j_K
      clear j_L j_K
      replace p223:=eq_true p223
      replace q223:=eq_true q223
      have p224 : 0 ≤ (x3_2 : Int):=of_decide_eq_true (by first|(with_reducible assumption)|assumption)
      have q224 : x3_2 < (l0_0.length : Int):=of_decide_eq_true (by first|(with_reducible assumption)|assumption)
      obtain ⟨ad224,A224_1,c224_1,e224,f_O,f_h,j_M,j_N⟩:=c_t c_V.out x3_2 p224 q224
      have g_t:=f_h
      have g_u:=f_O
      obtain rfl : ad220 = ad224:=(by injection e224)
      replace f_O:=(HB.out.cell (World.block_lt_of_cell? w _ f_O)).trans f_O
      replace f_h:=(HB.out.cell (World.block_lt_of_cell? w _ f_h)).trans f_h
      have n_d:=a_e.mk j_N
      have u_z:=a_e.mk j_M
      clear j_N j_M
      replace p224:=eq_true p224
      replace q224:=eq_true q224
      have ea_:=Option.some.inj (c_5.symm.trans f_h)
      injection ea_ with ea_ en_ ec_
      subst ea_
      subst ec_
      clear en_
      refine d_H (n:=38) (S:=fun w' => w'.cell? ⟨e_F,0,none⟩ = some (.slice (some ad220) l0_0.length c0_0) ∧ w'.cell? ⟨e_F,1,none⟩ = some (.int .i64 a0_1) ∧ w'.cell? (ad220.add ((x3_2).toNat * 2)) = some (.int .i64 ((a_o l0_0 x3_2).f0)) ∧ w'.cell? ⟨(ad220.add ((x3_2).toNat * 2)).block,(ad220.add ((x3_2).toNat * 2)).off + 1,none⟩ = some (.slice A220_1 ((a_o l0_0 x3_2).f1).length c220_1) ∧ w'.cell? (ad220.add ((x3_2).toNat * 2)) = some (.int .i64 ((a_o l0_0 x3_2).f0)) ∧ w'.cell? ⟨(ad220.add ((x3_2).toNat * 2)).block,(ad220.add ((x3_2).toNat * 2)).off + 1,none⟩ = some (.slice A222_1 ((a_o l0_0 x3_2).f1).length c222_1) ∧ w'.cell? (ad220.add (((ji19)).toNat * 2)) = some (.int .i64 ((a_o l0_0 (ji19)).f0)) ∧ w'.cell? ⟨(ad220.add (((ji19)).toNat * 2)).block,(ad220.add (((ji19)).toNat * 2)).off + 1,none⟩ = some (.slice A223_1 ((a_o l0_0 (ji19)).f1).length c223_1) ∧ w'.cell? (ad220.add ((x3_2).toNat * 2)) = some (.int .i64 ((a_o l0_0 x3_2).f0)) ∧ w'.cell? ⟨(ad220.add ((x3_2).toNat * 2)).block,(ad220.add ((x3_2).toNat * 2)).off + 1,none⟩ = some (.slice A222_1 ((a_o l0_0 x3_2).f1).length c222_1)) (ds:=[]) Z0_ (by kernel_rfl) rfl rfl ⟨(a_a b_T.out 0).trans rfl,(a_a b_T.out 1).trans rfl,((HB.out.cell (World.block_lt_of_cell? w _ d_f)).trans d_f),((HB.out.cell (World.block_lt_of_cell? w _ d_e)).trans d_e),((HB.out.cell (World.block_lt_of_cell? w _ e_f)).trans e_f),((HB.out.cell (World.block_lt_of_cell? w _ e_e)).trans e_e),((HB.out.cell (World.block_lt_of_cell? w _ g_s)).trans g_s),((HB.out.cell (World.block_lt_of_cell? w _ g_r)).trans g_r),((HB.out.cell (World.block_lt_of_cell? w _ g_u)).trans g_u),((HB.out.cell (World.block_lt_of_cell? w _ g_t)).trans g_t)⟩ (fun hHeld => ?_);refine b_Q a_q.tab6 a_q.f_W (fun HT_ HW_ => ?_)
      generalize wr.drew = w24 at b_T HB e_2 h_v n_c n_d c_I c_J d_r c_5 f_M f_N f_O f_h hHeld ⊢
      refine a_y (i:=0) (N:=some 25) (v:=?_) (a':=?_) Z6_ rfl rfl (a_n HT_.out (by kernel_rfl)) (fun _ _ _ h => h) (Or.inl ⟨by rfl,?_⟩) ?_ ?_
      rotate_left
      ·intro w'
       go_simp
       with_reducible rfl
      rotate_left
      ·simp only [Act.put,sa_,sb_,sc_,a_r,a_s]
       rfl
      refine a_y (i:=2) (N:=some 27) (v:=?_) (a':=?_) Z13_ rfl rfl (a_n HT_.out (by kernel_rfl)) (fun _ _ _ h => h) (Or.inl ⟨by rfl,?_⟩) ?_ ?_
      rotate_left
      ·intro w'
       go_simp
       with_reducible rfl
      rotate_left
      ·simp only [Act.put,sa_,sb_,sc_,a_r,a_s]
       rfl
      refine b_m (i:=1) (N:=some 26) (v:=?_) (a':=?_) Z19_ rfl rfl (a_L HT_.out HW_.out (by kernel_rfl)) (fun _ _ _ h => h) (Or.inl ⟨by rfl,?_⟩) hHeld ?_ ?_
      rotate_left
      ·rintro w' ⟨s0,s1,s2,s3,s4,s5,s6,s7,s8,s9⟩
       go_simp
       with_reducible rfl
      rotate_left
      ·simp only [Act.put,sa_,sb_,sc_,a_r,a_s]
       rfl
      refine a_y (i:=3) (N:=some 28) (v:=?_) (a':=?_) Z24_ rfl rfl (a_n HT_.out (by kernel_rfl)) (fun _ _ _ h => h) (Or.inl ⟨by rfl,?_⟩) ?_ ?_
      rotate_left
      ·intro w'
       go_simp
       with_reducible rfl
      rotate_left
      ·simp only [Act.put,sa_,sb_,sc_,a_r,a_s]
       rfl
      refine b_m (i:=4) (N:=some 29) (v:=?_) (a':=?_) Z28_ rfl rfl (a_L HT_.out HW_.out (by kernel_rfl)) (fun _ _ _ h => h) (Or.inl ⟨by rfl,?_⟩) hHeld ?_ ?_
      rotate_left
      ·rintro w' ⟨s0,s1,s2,s3,s4,s5,s6,s7,s8,s9⟩
       go_simp
       with_reducible rfl
      rotate_left
      ·simp only [Act.put,sa_,sb_,sc_,a_r,a_s]
       rfl
      refine one_ (i:=5) (N:=some 30) Z33_ rfl rfl (c_e HT_.out (by kernel_rfl)) (by decide) (fun K hK => ?_)
      refine e_I Try.func26 (by kernel_rfl) rfl #[.agg #[.int .i64 ((a_o l0_0 x3_2).f0),.slice A220_1 ((a_o l0_0 x3_2).f1).length c220_1]] (by rfl) rfl rfl (by (try simp only [List.map_toArray,List.map_cons,List.map_nil]);first|done|rfl|(simp only [List.length_drop,List.length_take];rfl)) ?_
      with_reducible refine (a_m.calls k2 ((a_o l0_0 x3_2).f0) _ _ ((a_o l0_0 x3_2).f1) true _ ?side1 ?side2 A12.out).mono ?_
      (case side1 => repeat (first|exact (Kd.b_f e_2.out HB.out)|(with_reducible refine Kd.a_9 ?_ _)|(with_reducible refine Kd.a_8 ?_ _)|(with_reducible refine Kd.b_i ?_)))
      (case side2 => exact g_q.out)
      rintro e w25 ⟨rfl,hb⟩
      refine ⟨_,rfl,?_⟩
      replace b_T:=a_e.mk (a_l (bup_ b_T.out) hb)
      replace HB:=a_e.mk (a_t (by repeat (first|(with_reducible first|exact HB.out|apply a_g|apply a_f|apply a_h|refine a_d ?_ g_Z.out)|exact HB.out)) hb)
      (try clear hb)
      (try clear hb2)
      (try clear hk)
      (try clear hi)
      refine hK.out _ _ ⟨(a_a b_T.out 0).trans rfl,(a_a b_T.out 1).trans rfl,((HB.out.cell (World.block_lt_of_cell? w _ d_f)).trans d_f),((HB.out.cell (World.block_lt_of_cell? w _ d_e)).trans d_e),((HB.out.cell (World.block_lt_of_cell? w _ e_f)).trans e_f),((HB.out.cell (World.block_lt_of_cell? w _ e_e)).trans e_e),((HB.out.cell (World.block_lt_of_cell? w _ g_s)).trans g_s),((HB.out.cell (World.block_lt_of_cell? w _ g_r)).trans g_r),((HB.out.cell (World.block_lt_of_cell? w _ g_u)).trans g_u),((HB.out.cell (World.block_lt_of_cell? w _ g_t)).trans g_t)⟩ (fun hHeld => ?_)
      clear hK K
      refine d_U (a':=?_) ?_ ?_
      rotate_left
      ·show Act.put _ (some 30) _ = _
       simp only [Act.put,sa_,sb_,sc_,a_r,a_s]
       rfl
      refine a_y (i:=6) (N:=some 31) (v:=?_) (a':=?_) Z37_ rfl rfl (a_n HT_.out (by kernel_rfl)) (fun _ _ _ h => h) (Or.inl ⟨by rfl,?_⟩) ?_ ?_
      rotate_left
      ·intro w'
       go_simp
       with_reducible rfl
      rotate_left
      ·simp only [Act.put,sa_,sb_,sc_,a_r,a_s]
       rfl
      refine a_y (i:=7) (N:=some 32) (v:=?_) (a':=?_) Z43_ rfl rfl (a_n HT_.out (by kernel_rfl)) (fun _ _ _ h => h) (Or.inl ⟨by rfl,?_⟩) ?_ ?_
      rotate_left
      ·intro w'
       go_simp
       with_reducible rfl
      rotate_left
      ·simp only [Act.put,sa_,sb_,sc_,a_r,a_s]
       rfl
      refine a_y (i:=8) (N:=some 33) (v:=?_) (a':=?_) Z52_ rfl rfl (a_n HT_.out (by kernel_rfl)) (fun _ _ _ h => h) (Or.inl ⟨by rfl,?_⟩) ?_ ?_
      rotate_left
      ·intro w'
       go_simp
       with_reducible rfl
      rotate_left
      ·simp only [Act.put,sa_,sb_,sc_,a_r,a_s]
       rfl
      refine a_y (i:=10) (N:=some 35) (v:=?_) (a':=?_) Z56_ rfl rfl (a_n HT_.out (by kernel_rfl)) (fun _ _ _ h => h) (Or.inl ⟨by rfl,?_⟩) ?_ ?_
      rotate_left
      ·intro w'
       go_simp
       with_reducible rfl
      rotate_left
      ·simp only [Act.put,sa_,sb_,sc_,a_r,a_s]
       rfl
      refine a_y (i:=14) (N:=some 39) (v:=?_) (a':=?_) Z57_ rfl rfl (a_n HT_.out (by kernel_rfl)) (fun _ _ _ h => h) (Or.inl ⟨by rfl,?_⟩) ?_ ?_
      rotate_left
      ·intro w'
       go_simp
       with_reducible rfl
      rotate_left
      ·simp only [Act.put,sa_,sb_,sc_,a_r,a_s]
       rfl
      refine b_m (i:=9) (N:=some 34) (v:=?_) (a':=?_) Z65_ rfl rfl (a_L HT_.out HW_.out (by kernel_rfl)) (fun _ _ _ h => h) (Or.inl ⟨by rfl,?_⟩) hHeld ?_ ?_
      rotate_left
      ·rintro w' ⟨s0,s1,s2,s3,s4,s5,s6,s7,s8,s9⟩
       go_simp
       with_reducible rfl
      rotate_left
      ·simp only [Act.put,sa_,sb_,sc_,a_r,a_s]
       rfl
      refine a_y (i:=11) (N:=some 36) (v:=?_) (a':=?_) Z71_ rfl rfl (a_n HT_.out (by kernel_rfl)) (fun _ _ _ h => h) (Or.inl ⟨by rfl,?_⟩) ?_ ?_
      rotate_left
      ·intro w'
       go_simp
       with_reducible rfl
      rotate_left
      ·simp only [Act.put,sa_,sb_,sc_,a_r,a_s]
       rfl
      refine a_y (i:=12) (N:=some 37) (v:=?_) (a':=?_) Z77_ rfl rfl (a_n HT_.out (by kernel_rfl)) (fun _ _ _ h => h) (Or.inl ⟨by rfl,?_⟩) ?_ ?_
      rotate_left
      ·intro w'
       go_simp
       with_reducible rfl
      rotate_left
      ·simp only [Act.put,sa_,sb_,sc_,a_r,a_s]
       rfl
      refine b_m (i:=13) (N:=some 38) (v:=?_) (a':=?_) Z82_ rfl rfl (a_L HT_.out HW_.out (by kernel_rfl)) (fun _ _ _ h => h) (Or.inl ⟨by rfl,?_⟩) hHeld ?_ ?_
      rotate_left
      ·rintro w' ⟨s0,s1,s2,s3,s4,s5,s6,s7,s8,s9⟩
       go_simp
       with_reducible rfl
      rotate_left
      ·simp only [Act.put,sa_,sb_,sc_,a_r,a_s]
       rfl
      refine b_m (i:=15) (N:=some 40) (v:=?_) (a':=?_) Z89_ rfl rfl (a_L HT_.out HW_.out (by kernel_rfl)) (fun _ _ _ h => h) (Or.inl ⟨by rfl,?_⟩) hHeld ?_ ?_
      rotate_left
      ·rintro w' ⟨s0,s1,s2,s3,s4,s5,s6,s7,s8,s9⟩
       go_simp
       with_reducible rfl
      rotate_left
      ·simp only [Act.put,sa_,sb_,sc_,a_r,a_s]
       rfl
      refine a_y (i:=16) (N:=some 41) (v:=?_) (a':=?_) Z93_ rfl rfl (a_n HT_.out (by kernel_rfl)) (fun _ _ _ h => h) (Or.inl ⟨by rfl,?_⟩) ?_ ?_
      rotate_left
      ·intro w'
       go_simp
       with_reducible rfl
      rotate_left
      ·simp only [Act.put,sa_,sb_,sc_,a_r,a_s]
       rfl
      refine a_y (i:=17) (N:=some 42) (v:=?_) (a':=?_) Z97_ rfl rfl (a_n HT_.out (by kernel_rfl)) (fun _ _ _ h => h) (Or.inl ⟨by rfl,?_⟩) ?_ ?_
      rotate_left
      ·intro w'
       go_simp
       with_reducible rfl
      rotate_left
      ·simp only [Act.put,sa_,sb_,sc_,a_r,a_s]
       rfl
      refine a_y (i:=18) (N:=some 43) (v:=?_) (a':=?_) o_Y rfl rfl (a_n HT_.out (by kernel_rfl)) (fun _ _ _ h => h) (Or.inl ⟨by rfl,?_⟩) ?_ ?_
      rotate_left
      ·intro w'
       go_simp
       with_reducible rfl
      rotate_left
      ·simp only [Act.put,sa_,sb_,sc_,a_r,a_s]
       rfl
      refine a_y (i:=19) (N:=some 44) (v:=?_) (a':=?_) o_u rfl rfl (a_n HT_.out (by kernel_rfl)) (fun _ _ _ h => h) (Or.inl ⟨by rfl,?_⟩) ?_ ?_
      rotate_left
      ·intro w'
       go_simp
       with_reducible rfl
      rotate_left
      ·simp only [Act.put,sa_,sb_,sc_,a_r,a_s]
       rfl
      refine a_y (i:=20) (N:=some 45) (v:=?_) (a':=?_) o_w rfl rfl (a_n HT_.out (by kernel_rfl)) (fun _ _ _ h => h) (Or.inl ⟨by rfl,?_⟩) ?_ ?_
      rotate_left
      ·intro w'
       go_simp
       with_reducible rfl
      rotate_left
      ·simp only [Act.put,sa_,sb_,sc_,a_r,a_s]
       rfl
      refine a_y (i:=21) (N:=some 46) (v:=?_) (a':=?_) o_F rfl rfl (a_n HT_.out (by kernel_rfl)) (fun _ _ _ h => h) (Or.inl ⟨by rfl,?_⟩) ?_ ?_
      rotate_left
      ·intro w'
       go_simp
       with_reducible rfl
      rotate_left
      ·simp only [Act.put,sa_,sb_,sc_,a_r,a_s]
       rfl
      refine a_y (i:=22) (N:=some 47) (v:=?_) (a':=?_) o_m rfl rfl (a_n HT_.out (by kernel_rfl)) (fun _ _ _ h => h) (Or.inl ⟨by rfl,?_⟩) ?_ ?_
      rotate_left
      ·intro w'
       go_simp
       with_reducible rfl
      rotate_left
      ·simp only [Act.put,sa_,sb_,sc_,a_r,a_s]
       rfl
      refine a_y (i:=24) (N:=some 49) (v:=?_) (a':=?_) v_Z rfl rfl (a_n HT_.out (by kernel_rfl)) (fun _ _ _ h => h) (Or.inl ⟨by rfl,?_⟩) ?_ ?_
      rotate_left
      ·intro w'
       go_simp
       with_reducible rfl
      rotate_left
      ·simp only [Act.put,sa_,sb_,sc_,a_r,a_s]
       rfl
      refine a_y (i:=25) (N:=some 50) (v:=?_) (a':=?_) v_O rfl rfl (a_n HT_.out (by kernel_rfl)) (fun _ _ _ h => h) (Or.inl ⟨by rfl,?_⟩) ?_ ?_
      rotate_left
      ·intro w'
       go_simp
       with_reducible rfl
      rotate_left
      ·simp only [Act.put,sa_,sb_,sc_,a_r,a_s]
       rfl
      refine a_y (i:=29) (N:=some 54) (v:=?_) (a':=?_) v_Y rfl rfl (a_n HT_.out (by kernel_rfl)) (fun _ _ _ h => h) (Or.inl ⟨by rfl,?_⟩) ?_ ?_
      rotate_left
      ·intro w'
       go_simp
       with_reducible rfl
      rotate_left
      ·simp only [Act.put,sa_,sb_,sc_,a_r,a_s]
       rfl
      refine a_y (i:=31) (N:=some 56) (v:=?_) (a':=?_) v_C rfl rfl (a_n HT_.out (by kernel_rfl)) (fun _ _ _ h => h) (Or.inl ⟨by rfl,?_⟩) ?_ ?_
      rotate_left
      ·intro w'
       go_simp
       with_reducible rfl
      rotate_left
      ·simp only [Act.put,sa_,sb_,sc_,a_r,a_s]
       rfl
      refine b_m (i:=23) (N:=some 48) (v:=?_) (a':=?_) v_5 rfl rfl (a_L HT_.out HW_.out (by kernel_rfl)) (fun _ _ _ h => h) (Or.inl ⟨by rfl,?_⟩) hHeld ?_ ?_
      rotate_left
      ·rintro w' ⟨s0,s1,s2,s3,s4,s5,s6,s7,s8,s9⟩
       go_simp
       with_reducible rfl
      rotate_left
      ·simp only [Act.put,sa_,sb_,sc_,a_r,a_s]
       rfl
      refine a_y (i:=26) (N:=some 51) (v:=?_) (a':=?_) v_K rfl rfl (a_n HT_.out (by kernel_rfl)) (fun _ _ _ h => h) (Or.inl ⟨by rfl,?_⟩) ?_ ?_
      rotate_left
      ·intro w'
       go_simp
       with_reducible rfl
      rotate_left
      ·simp only [Act.put,sa_,sb_,sc_,a_r,a_s]
       rfl
      refine a_y (i:=27) (N:=some 52) (v:=?_) (a':=?_) v_9 rfl rfl (a_n HT_.out (by kernel_rfl)) (fun _ _ _ h => h) (Or.inl ⟨by rfl,?_⟩) ?_ ?_
      rotate_left
      ·intro w'
       go_simp
       with_reducible rfl
      rotate_left
      ·simp only [Act.put,sa_,sb_,sc_,a_r,a_s]
       rfl
      refine b_m (i:=28) (N:=some 53) (v:=?_) (a':=?_) v_S rfl rfl (a_L HT_.out HW_.out (by kernel_rfl)) (fun _ _ _ h => h) (Or.inl ⟨by rfl,?_⟩) hHeld ?_ ?_
      rotate_left
      ·rintro w' ⟨s0,s1,s2,s3,s4,s5,s6,s7,s8,s9⟩
       go_simp
       with_reducible rfl
      rotate_left
      ·simp only [Act.put,sa_,sb_,sc_,a_r,a_s]
       rfl
      refine b_m (i:=30) (N:=some 55) (v:=?_) (a':=?_) o_Q rfl rfl (a_L HT_.out HW_.out (by kernel_rfl)) (fun _ _ _ h => h) (Or.inl ⟨by rfl,?_⟩) hHeld ?_ ?_
      rotate_left
      ·rintro w' ⟨s0,s1,s2,s3,s4,s5,s6,s7,s8,s9⟩
       go_simp
       with_reducible rfl
      rotate_left
      ·simp only [Act.put,sa_,sb_,sc_,a_r,a_s]
       rfl
      refine a_y (i:=32) (N:=some 57) (v:=?_) (a':=?_) o_0 rfl rfl (a_n HT_.out (by kernel_rfl)) (fun _ _ _ h => h) (Or.inl ⟨by rfl,?_⟩) ?_ ?_
      rotate_left
      ·intro w'
       go_simp
       with_reducible rfl
      rotate_left
      ·simp only [Act.put,sa_,sb_,sc_,a_r,a_s]
       rfl
      refine a_y (i:=33) (N:=some 58) (v:=?_) (a':=?_) o_S rfl rfl (a_n HT_.out (by kernel_rfl)) (fun _ _ _ h => h) (Or.inl ⟨by rfl,?_⟩) ?_ ?_
      rotate_left
      ·intro w'
       go_simp
       with_reducible rfl
      rotate_left
      ·simp only [Act.put,sa_,sb_,sc_,a_r,a_s]
       rfl
      refine b_m (i:=34) (N:=some 59) (v:=?_) (a':=?_) p_a rfl rfl (a_L HT_.out HW_.out (by kernel_rfl)) (fun _ _ _ h => h) (Or.inl ⟨by rfl,?_⟩) hHeld ?_ ?_
      rotate_left
      ·rintro w' ⟨s0,s1,s2,s3,s4,s5,s6,s7,s8,s9⟩
       go_simp
       with_reducible rfl
      rotate_left
      ·simp only [Act.put,sa_,sb_,sc_,a_r,a_s]
       rfl
      refine a_y (i:=35) (N:=some 60) (v:=?_) (a':=?_) o_3 rfl rfl (a_n HT_.out (by kernel_rfl)) (fun _ _ _ h => h) (Or.inl ⟨by rfl,?_⟩) ?_ ?_
      rotate_left
      ·intro w'
       go_simp
       with_reducible rfl
      rotate_left
      ·simp only [Act.put,sa_,sb_,sc_,a_r,a_s]
       rfl
      refine a_y (i:=36) (N:=some 61) (v:=?_) (a':=?_) o_D rfl rfl (a_n HT_.out (by kernel_rfl)) (fun _ _ _ h => h) (Or.inl ⟨by rfl,?_⟩) ?_ ?_
      rotate_left
      ·intro w'
       go_simp
       with_reducible rfl
      rotate_left
      ·simp only [Act.put,sa_,sb_,sc_,a_r,a_s]
       rfl
      refine a_y (i:=37) (N:=some 62) (v:=?_) (a':=?_) o_l rfl rfl (a_n HT_.out (by kernel_rfl)) (fun _ _ _ h => h) (Or.inl ⟨by rfl,?_⟩) ?_ ?_
      rotate_left
      ·intro w'
       go_simp
       with_reducible rfl
      rotate_left
      ·simp only [Act.put,sa_,sb_,sc_,a_r,a_s]
       rfl
      refine e_T (c_u HT_.out (by kernel_rfl)) ?_
      try go_wp2
      go_ret
      exact ⟨by first|rfl|(simp [a_w,a_x] <;> rfl)|(simp only [← hji19];first|rfl|(simp [a_w,a_x] <;> rfl))|(simp [*, a_w,a_x] <;> rfl),by repeat (first|(with_reducible first|exact HB.out|apply a_g|apply a_f|apply a_h|refine a_d ?_ g_Z.out)|exact HB.out)⟩
     rw [if_neg c22] at H
     have c22b0 : decide (((a_o l0_0 x3_2).f0) ≤ ((a_o l0_0 (ji19)).f0)) = false:=decide_eq_false c22
     clear c22
     have H':=a_e.mk H
     clear H
     have j_p : wr.cell? ⟨e_F,0,none⟩ = some (.slice A0_0 l0_0.length c0_0):=(a_a b_T.out 0).trans rfl
     have j_q : wr.cell? ⟨e_F,1,none⟩ = some (.int .i64 a0_1):=(a_a b_T.out 1).trans rfl
     have j_r:=a_b b_T.out 0
     have j_s:=a_b b_T.out 1
     try go_wp2
     replace b_T:=a_e.mk (a_k b_T.out)
     replace HB:=a_e.mk (a_h HB.out)
     have p220 : 0 ≤ (x3_2 : Int):=of_decide_eq_true (by first|(with_reducible assumption)|assumption)
     have q220 : x3_2 < (l0_0.length : Int):=of_decide_eq_true (by first|(with_reducible assumption)|assumption)
     obtain ⟨ad220,A220_1,c220_1,e220,c_I,c_J,e_0,e_1⟩:=c_t c_V.out x3_2 p220 q220
     have d_e:=c_J
     have d_f:=c_I
     cases e220
     replace c_I:=(HB.out.cell (World.block_lt_of_cell? w _ c_I)).trans c_I
     replace c_J:=(HB.out.cell (World.block_lt_of_cell? w _ c_J)).trans c_J
     have e_2:=a_e.mk e_1
     have g_q:=a_e.mk e_0
     clear e_1 e_0
     replace p220:=eq_true p220
     replace q220:=eq_true q220
     have p222 : 0 ≤ (x3_2 : Int):=of_decide_eq_true (by first|(with_reducible assumption)|assumption)
     have q222 : x3_2 < (l0_0.length : Int):=of_decide_eq_true (by first|(with_reducible assumption)|assumption)
     obtain ⟨ad222,A222_1,c222_1,e222,d_r,c_5,f_K,f_L⟩:=c_t c_V.out x3_2 p222 q222
     have e_e:=c_5
     have e_f:=d_r
     obtain rfl : ad220 = ad222:=(by injection e222)
     replace d_r:=(HB.out.cell (World.block_lt_of_cell? w _ d_r)).trans d_r
     replace c_5:=(HB.out.cell (World.block_lt_of_cell? w _ c_5)).trans c_5
     have h_v:=a_e.mk f_L
     have n_b:=a_e.mk f_K
     clear f_L f_K
     replace p222:=eq_true p222
     replace q222:=eq_true q222
     have p223 : 0 ≤ ((ji19) : Int):=of_decide_eq_true (by first|(with_reducible assumption)|assumption)
     have q223 : (ji19) < (l0_0.length : Int):=of_decide_eq_true (by first|(with_reducible assumption)|assumption)
     obtain ⟨ad223,A223_1,c223_1,e223,f_M,f_N,j_K,j_L⟩:=c_t c_V.out (ji19) p223 q223
     have g_r:=f_N
     have g_s:=f_M
     obtain rfl : ad220 = ad223:=(by injection e223)
     replace f_M:=(HB.out.cell (World.block_lt_of_cell? w _ f_M)).trans f_M
     replace f_N:=(HB.out.cell (World.block_lt_of_cell? w _ f_N)).trans f_N
     have n_c:=a_e.mk j_L
     have u_y:=a_e.mk j_K
     clear j_L j_K
     replace p223:=eq_true p223
     replace q223:=eq_true q223
     have p224 : 0 ≤ (x3_2 : Int):=of_decide_eq_true (by first|(with_reducible assumption)|assumption)
     have q224 : x3_2 < (l0_0.length : Int):=of_decide_eq_true (by first|(with_reducible assumption)|assumption)
     obtain ⟨ad224,A224_1,c224_1,e224,f_O,f_h,j_M,j_N⟩:=c_t c_V.out x3_2 p224 q224
     have g_t:=f_h
     have g_u:=f_O
     obtain rfl : ad220 = ad224:=(by injection e224)
     replace f_O:=(HB.out.cell (World.block_lt_of_cell? w _ f_O)).trans f_O
     replace f_h:=(HB.out.cell (World.block_lt_of_cell? w _ f_h)).trans f_h
     have n_d:=a_e.mk j_N
     have u_z:=a_e.mk j_M
     clear j_N j_M
     replace p224:=eq_true p224
     replace q224:=eq_true q224
     have ea_:=Option.some.inj (c_5.symm.trans f_h)
     injection ea_ with ea_ en_ ec_
     subst ea_
     subst ec_
     clear en_
     refine d_H (n:=38) (S:=fun w' => w'.cell? ⟨e_F,0,none⟩ = some (.slice (some ad220) l0_0.length c0_0) ∧ w'.cell? ⟨e_F,1,none⟩ = some (.int .i64 a0_1) ∧ w'.cell? (ad220.add ((x3_2).toNat * 2)) = some (.int .i64 ((a_o l0_0 x3_2).f0)) ∧ w'.cell? ⟨(ad220.add ((x3_2).toNat * 2)).block,(ad220.add ((x3_2).toNat * 2)).off + 1,none⟩ = some (.slice A220_1 ((a_o l0_0 x3_2).f1).length c220_1) ∧ w'.cell? (ad220.add ((x3_2).toNat * 2)) = some (.int .i64 ((a_o l0_0 x3_2).f0)) ∧ w'.cell? ⟨(ad220.add ((x3_2).toNat * 2)).block,(ad220.add ((x3_2).toNat * 2)).off + 1,none⟩ = some (.slice A222_1 ((a_o l0_0 x3_2).f1).length c222_1) ∧ w'.cell? (ad220.add (((ji19)).toNat * 2)) = some (.int .i64 ((a_o l0_0 (ji19)).f0)) ∧ w'.cell? ⟨(ad220.add (((ji19)).toNat * 2)).block,(ad220.add (((ji19)).toNat * 2)).off + 1,none⟩ = some (.slice A223_1 ((a_o l0_0 (ji19)).f1).length c223_1) ∧ w'.cell? (ad220.add ((x3_2).toNat * 2)) = some (.int .i64 ((a_o l0_0 x3_2).f0)) ∧ w'.cell? ⟨(ad220.add ((x3_2).toNat * 2)).block,(ad220.add ((x3_2).toNat * 2)).off + 1,none⟩ = some (.slice A222_1 ((a_o l0_0 x3_2).f1).length c222_1)) (ds:=[]) Z0_ (by kernel_rfl) rfl rfl ⟨(a_a b_T.out 0).trans rfl,(a_a b_T.out 1).trans rfl,((HB.out.cell (World.block_lt_of_cell? w _ d_f)).trans d_f),((HB.out.cell (World.block_lt_of_cell? w _ d_e)).trans d_e),((HB.out.cell (World.block_lt_of_cell? w _ e_f)).trans e_f),((HB.out.cell (World.block_lt_of_cell? w _ e_e)).trans e_e),((HB.out.cell (World.block_lt_of_cell? w _ g_s)).trans g_s),((HB.out.cell (World.block_lt_of_cell? w _ g_r)).trans g_r),((HB.out.cell (World.block_lt_of_cell? w _ g_u)).trans g_u),((HB.out.cell (World.block_lt_of_cell? w _ g_t)).trans g_t)⟩ (fun hHeld => ?_);refine b_Q a_q.tab6 a_q.f_W (fun HT_ HW_ => ?_)
     generalize wr.drew = w27 at b_T HB e_2 h_v n_c n_d c_I c_J d_r c_5 f_M f_N f_O f_h hHeld ⊢
     refine a_y (i:=0) (N:=some 25) (v:=?_) (a':=?_) Z6_ rfl rfl (a_n HT_.out (by kernel_rfl)) (fun _ _ _ h => h) (Or.inl ⟨by rfl,?_⟩) ?_ ?_
     rotate_left
     ·intro w'
      go_simp
      with_reducible rfl
     rotate_left
     ·simp only [Act.put,sa_,sb_,sc_,a_r,a_s]
      rfl
     refine a_y (i:=2) (N:=some 27) (v:=?_) (a':=?_) Z13_ rfl rfl (a_n HT_.out (by kernel_rfl)) (fun _ _ _ h => h) (Or.inl ⟨by rfl,?_⟩) ?_ ?_
     rotate_left
     ·intro w'
      go_simp
      with_reducible rfl
     rotate_left
     ·simp only [Act.put,sa_,sb_,sc_,a_r,a_s]
      rfl
     refine b_m (i:=1) (N:=some 26) (v:=?_) (a':=?_) Z19_ rfl rfl (a_L HT_.out HW_.out (by kernel_rfl)) (fun _ _ _ h => h) (Or.inl ⟨by rfl,?_⟩) hHeld ?_ ?_
     rotate_left
     ·rintro w' ⟨s0,s1,s2,s3,s4,s5,s6,s7,s8,s9⟩
      go_simp
      with_reducible rfl
     rotate_left
     ·simp only [Act.put,sa_,sb_,sc_,a_r,a_s]
      rfl
     refine a_y (i:=3) (N:=some 28) (v:=?_) (a':=?_) Z24_ rfl rfl (a_n HT_.out (by kernel_rfl)) (fun _ _ _ h => h) (Or.inl ⟨by rfl,?_⟩) ?_ ?_
     rotate_left
     ·intro w'
      go_simp
      with_reducible rfl
     rotate_left
     ·simp only [Act.put,sa_,sb_,sc_,a_r,a_s]
      rfl
     refine b_m (i:=4) (N:=some 29) (v:=?_) (a':=?_) Z28_ rfl rfl (a_L HT_.out HW_.out (by kernel_rfl)) (fun _ _ _ h => h) (Or.inl ⟨by rfl,?_⟩) hHeld ?_ ?_
     rotate_left
     ·rintro w' ⟨s0,s1,s2,s3,s4,s5,s6,s7,s8,s9⟩
      go_simp
      with_reducible rfl
     rotate_left
     ·simp only [Act.put,sa_,sb_,sc_,a_r,a_s]
      rfl
     refine one_ (i:=5) (N:=some 30) Z33_ rfl rfl (c_e HT_.out (by kernel_rfl)) (by decide) (fun K hK => ?_)
     refine e_I Try.func26 (by kernel_rfl) rfl #[.agg #[.int .i64 ((a_o l0_0 x3_2).f0),.slice A220_1 ((a_o l0_0 x3_2).f1).length c220_1]] (by rfl) rfl rfl (by (try simp only [List.map_toArray,List.map_cons,List.map_nil]);first|done|rfl|(simp only [List.length_drop,List.length_take];rfl)) ?_
     with_reducible refine (a_m.calls k2 ((a_o l0_0 x3_2).f0) _ _ ((a_o l0_0 x3_2).f1) true _ ?side1 ?side2 A12.out).mono ?_
     (case side1 => repeat (first|exact (Kd.b_f e_2.out HB.out)|(with_reducible refine Kd.a_9 ?_ _)|(with_reducible refine Kd.a_8 ?_ _)|(with_reducible refine Kd.b_i ?_)))
     (case side2 => exact g_q.out)
     rintro e w28 ⟨rfl,hb⟩
     refine ⟨_,rfl,?_⟩
     replace b_T:=a_e.mk (a_l (bup_ b_T.out) hb)
     replace HB:=a_e.mk (a_t (by repeat (first|(with_reducible first|exact HB.out|apply a_g|apply a_f|apply a_h|refine a_d ?_ g_Z.out)|exact HB.out)) hb)
     (try clear hb)
     (try clear hb2)
     (try clear hk)
     (try clear hi)
     refine hK.out _ _ ⟨(a_a b_T.out 0).trans rfl,(a_a b_T.out 1).trans rfl,((HB.out.cell (World.block_lt_of_cell? w _ d_f)).trans d_f),((HB.out.cell (World.block_lt_of_cell? w _ d_e)).trans d_e),((HB.out.cell (World.block_lt_of_cell? w _ e_f)).trans e_f),((HB.out.cell (World.block_lt_of_cell? w _ e_e)).trans e_e),((HB.out.cell (World.block_lt_of_cell? w _ g_s)).trans g_s),((HB.out.cell (World.block_lt_of_cell? w _ g_r)).trans g_r),((HB.out.cell (World.block_lt_of_cell? w _ g_u)).trans g_u),((HB.out.cell (World.block_lt_of_cell? w _ g_t)).trans g_t)⟩ (fun hHeld => ?_)
     clear hK K
     refine d_U (a':=?_) ?_ ?_
     rotate_left
     ·show Act.put _ (some 30) _ = _
      simp only [Act.put,sa_,sb_,sc_,a_r,a_s]
      rfl
     refine a_y (i:=6) (N:=some 31) (v:=?_) (a':=?_) Z37_ rfl rfl (a_n HT_.out (by kernel_rfl)) (fun _ _ _ h => h) (Or.inl ⟨by rfl,?_⟩) ?_ ?_
     rotate_left
     ·intro w'
      go_simp
      with_reducible rfl
     rotate_left
     ·simp only [Act.put,sa_,sb_,sc_,a_r,a_s]
      rfl
     refine a_y (i:=7) (N:=some 32) (v:=?_) (a':=?_) Z43_ rfl rfl (a_n HT_.out (by kernel_rfl)) (fun _ _ _ h => h) (Or.inl ⟨by rfl,?_⟩) ?_ ?_
     rotate_left
     ·intro w'
      go_simp
      with_reducible rfl
     rotate_left
     ·simp only [Act.put,sa_,sb_,sc_,a_r,a_s]
      rfl
     refine a_y (i:=8) (N:=some 33) (v:=?_) (a':=?_) Z52_ rfl rfl (a_n HT_.out (by kernel_rfl)) (fun _ _ _ h => h) (Or.inl ⟨by rfl,?_⟩) ?_ ?_
     rotate_left
     ·intro w'
      go_simp
      with_reducible rfl
     rotate_left
     ·simp only [Act.put,sa_,sb_,sc_,a_r,a_s]
      rfl
     refine a_y (i:=10) (N:=some 35) (v:=?_) (a':=?_) Z56_ rfl rfl (a_n HT_.out (by kernel_rfl)) (fun _ _ _ h => h) (Or.inl ⟨by rfl,?_⟩) ?_ ?_
     rotate_left
     ·intro w'
      go_simp
      with_reducible rfl
     rotate_left
     ·simp only [Act.put,sa_,sb_,sc_,a_r,a_s]
      rfl
     refine a_y (i:=14) (N:=some 39) (v:=?_) (a':=?_) Z57_ rfl rfl (a_n HT_.out (by kernel_rfl)) (fun _ _ _ h => h) (Or.inl ⟨by rfl,?_⟩) ?_ ?_
     rotate_left
     ·intro w'
      go_simp
      with_reducible rfl
     rotate_left
     ·simp only [Act.put,sa_,sb_,sc_,a_r,a_s]
      rfl
     refine b_m (i:=9) (N:=some 34) (v:=?_) (a':=?_) Z65_ rfl rfl (a_L HT_.out HW_.out (by kernel_rfl)) (fun _ _ _ h => h) (Or.inl ⟨by rfl,?_⟩) hHeld ?_ ?_
     rotate_left
     ·rintro w' ⟨s0,s1,s2,s3,s4,s5,s6,s7,s8,s9⟩
      go_simp
      with_reducible rfl
     rotate_left
     ·simp only [Act.put,sa_,sb_,sc_,a_r,a_s]
      rfl
     refine a_y (i:=11) (N:=some 36) (v:=?_) (a':=?_) Z71_ rfl rfl (a_n HT_.out (by kernel_rfl)) (fun _ _ _ h => h) (Or.inl ⟨by rfl,?_⟩) ?_ ?_
     rotate_left
     ·intro w'
      go_simp
      with_reducible rfl
     rotate_left
     ·simp only [Act.put,sa_,sb_,sc_,a_r,a_s]
      rfl
     refine a_y (i:=12) (N:=some 37) (v:=?_) (a':=?_) Z77_ rfl rfl (a_n HT_.out (by kernel_rfl)) (fun _ _ _ h => h) (Or.inl ⟨by rfl,?_⟩) ?_ ?_
     rotate_left
     ·intro w'
      go_simp
      with_reducible rfl
     rotate_left
     ·simp only [Act.put,sa_,sb_,sc_,a_r,a_s]
      rfl
     refine b_m (i:=13) (N:=some 38) (v:=?_) (a':=?_) Z82_ rfl rfl (a_L HT_.out HW_.out (by kernel_rfl)) (fun _ _ _ h => h) (Or.inl ⟨by rfl,?_⟩) hHeld ?_ ?_
     rotate_left
     ·rintro w' ⟨s0,s1,s2,s3,s4,s5,s6,s7,s8,s9⟩
      go_simp
      with_reducible rfl
     rotate_left
     ·simp only [Act.put,sa_,sb_,sc_,a_r,a_s]
      rfl
     refine b_m (i:=15) (N:=some 40) (v:=?_) (a':=?_) Z89_ rfl rfl (a_L HT_.out HW_.out (by kernel_rfl)) (fun _ _ _ h => h) (Or.inl ⟨by rfl,?_⟩) hHeld ?_ ?_
     rotate_left
     ·rintro w' ⟨s0,s1,s2,s3,s4,s5,s6,s7,s8,s9⟩
      go_simp
      with_reducible rfl
     rotate_left
     ·simp only [Act.put,sa_,sb_,sc_,a_r,a_s]
      rfl
     refine a_y (i:=16) (N:=some 41) (v:=?_) (a':=?_) Z93_ rfl rfl (a_n HT_.out (by kernel_rfl)) (fun _ _ _ h => h) (Or.inl ⟨by rfl,?_⟩) ?_ ?_
     rotate_left
     ·intro w'
      go_simp
      with_reducible rfl
     rotate_left
     ·simp only [Act.put,sa_,sb_,sc_,a_r,a_s]
      rfl
     refine a_y (i:=17) (N:=some 42) (v:=?_) (a':=?_) Z97_ rfl rfl (a_n HT_.out (by kernel_rfl)) (fun _ _ _ h => h) (Or.inl ⟨by rfl,?_⟩) ?_ ?_
     rotate_left
     ·intro w'
      go_simp
      with_reducible rfl
     rotate_left
     ·simp only [Act.put,sa_,sb_,sc_,a_r,a_s]
      rfl
     refine a_y (i:=18) (N:=some 43) (v:=?_) (a':=?_) o_Y rfl rfl (a_n HT_.out (by kernel_rfl)) (fun _ _ _ h => h) (Or.inl ⟨by rfl,?_⟩) ?_ ?_
     rotate_left
     ·intro w'
      go_simp
      with_reducible rfl
     rotate_left
     ·simp only [Act.put,sa_,sb_,sc_,a_r,a_s]
      rfl
     refine a_y (i:=19) (N:=some 44) (v:=?_) (a':=?_) o_u rfl rfl (a_n HT_.out (by kernel_rfl)) (fun _ _ _ h => h) (Or.inl ⟨by rfl,?_⟩) ?_ ?_
     rotate_left
     ·intro w'
      go_simp
      with_reducible rfl
     rotate_left
     ·simp only [Act.put,sa_,sb_,sc_,a_r,a_s]
      rfl
     refine a_y (i:=20) (N:=some 45) (v:=?_) (a':=?_) o_w rfl rfl (a_n HT_.out (by kernel_rfl)) (fun _ _ _ h => h) (Or.inl ⟨by rfl,?_⟩) ?_ ?_
     rotate_left
     ·intro w'
      go_simp
      with_reducible rfl
     rotate_left
     ·simp only [Act.put,sa_,sb_,sc_,a_r,a_s]
      rfl
     refine a_y (i:=21) (N:=some 46) (v:=?_) (a':=?_) o_F rfl rfl (a_n HT_.out (by kernel_rfl)) (fun _ _ _ h => h) (Or.inl ⟨by rfl,?_⟩) ?_ ?_
     rotate_left
     ·intro w'
      go_simp
      with_reducible rfl
     rotate_left
     ·simp only [Act.put,sa_,sb_,sc_,a_r,a_s]
      rfl
     refine a_y (i:=22) (N:=some 47) (v:=?_) (a':=?_) o_m rfl rfl (a_n HT_.out (by kernel_rfl)) (fun _ _ _ h => h) (Or.inl ⟨by rfl,?_⟩) ?_ ?_
     rotate_left
     ·intro w'
      go_simp
      with_reducible rfl
     rotate_left
     ·simp only [Act.put,sa_,sb_,sc_,a_r,a_s]
      rfl
     refine a_y (i:=24) (N:=some 49) (v:=?_) (a':=?_) v_Z rfl rfl (a_n HT_.out (by kernel_rfl)) (fun _ _ _ h => h) (Or.inl ⟨by rfl,?_⟩) ?_ ?_
     rotate_left
     ·intro w'
      go_simp
      with_reducible rfl
     rotate_left
     ·simp only [Act.put,sa_,sb_,sc_,a_r,a_s]
      rfl
     refine a_y (i:=25) (N:=some 50) (v:=?_) (a':=?_) v_O rfl rfl (a_n HT_.out (by kernel_rfl)) (fun _ _ _ h => h) (Or.inl ⟨by rfl,?_⟩) ?_ ?_
     rotate_left
     ·intro w'
      go_simp
      with_reducible rfl
     rotate_left
     ·simp only [Act.put,sa_,sb_,sc_,a_r,a_s]
      rfl
     refine a_y (i:=29) (N:=some 54) (v:=?_) (a':=?_) v_Y rfl rfl (a_n HT_.out (by kernel_rfl)) (fun _ _ _ h => h) (Or.inl ⟨by rfl,?_⟩) ?_ ?_
     rotate_left
     ·intro w'
      go_simp
      with_reducible rfl
     rotate_left
     ·simp only [Act.put,sa_,sb_,sc_,a_r,a_s]
      rfl
     refine a_y (i:=31) (N:=some 56) (v:=?_) (a':=?_) v_C rfl rfl (a_n HT_.out (by kernel_rfl)) (fun _ _ _ h => h) (Or.inl ⟨by rfl,?_⟩) ?_ ?_
     rotate_left
     ·intro w'
      go_simp
      with_reducible rfl
     rotate_left
     ·simp only [Act.put,sa_,sb_,sc_,a_r,a_s]
      rfl
     refine b_m (i:=23) (N:=some 48) (v:=?_) (a':=?_) v_5 rfl rfl (a_L HT_.out HW_.out (by kernel_rfl)) (fun _ _ _ h => h) (Or.inl ⟨by rfl,?_⟩) hHeld ?_ ?_
     rotate_left
     ·rintro w' ⟨s0,s1,s2,s3,s4,s5,s6,s7,s8,s9⟩
      go_simp
      with_reducible rfl
     rotate_left
     ·simp only [Act.put,sa_,sb_,sc_,a_r,a_s]
      rfl
     refine a_y (i:=26) (N:=some 51) (v:=?_) (a':=?_) v_K rfl rfl (a_n HT_.out (by kernel_rfl)) (fun _ _ _ h => h) (Or.inl ⟨by rfl,?_⟩) ?_ ?_
     rotate_left
     ·intro w'
      go_simp
      with_reducible rfl
     rotate_left
     ·simp only [Act.put,sa_,sb_,sc_,a_r,a_s]
      rfl
     refine a_y (i:=27) (N:=some 52) (v:=?_) (a':=?_) v_9 rfl rfl (a_n HT_.out (by kernel_rfl)) (fun _ _ _ h => h) (Or.inl ⟨by rfl,?_⟩) ?_ ?_
     rotate_left
     ·intro w'
      go_simp
      with_reducible rfl
     rotate_left
     ·simp only [Act.put,sa_,sb_,sc_,a_r,a_s]
      rfl
     refine b_m (i:=28) (N:=some 53) (v:=?_) (a':=?_) v_S rfl rfl (a_L HT_.out HW_.out (by kernel_rfl)) (fun _ _ _ h => h) (Or.inl ⟨by rfl,?_⟩) hHeld ?_ ?_
     rotate_left
     ·rintro w' ⟨s0,s1,s2,s3,s4,s5,s6,s7,s8,s9⟩
      go_simp
      with_reducible rfl
     rotate_left
     ·simp only [Act.put,sa_,sb_,sc_,a_r,a_s]
      rfl
     refine b_m (i:=30) (N:=some 55) (v:=?_) (a':=?_) o_Q rfl rfl (a_L HT_.out HW_.out (by kernel_rfl)) (fun _ _ _ h => h) (Or.inl ⟨by rfl,?_⟩) hHeld ?_ ?_
     rotate_left
     ·rintro w' ⟨s0,s1,s2,s3,s4,s5,s6,s7,s8,s9⟩
      go_simp
      with_reducible rfl
     rotate_left
     ·simp only [Act.put,sa_,sb_,sc_,a_r,a_s]
      rfl
     refine a_y (i:=32) (N:=some 57) (v:=?_) (a':=?_) o_0 rfl rfl (a_n HT_.out (by kernel_rfl)) (fun _ _ _ h => h) (Or.inl ⟨by rfl,?_⟩) ?_ ?_
     rotate_left
     ·intro w'
      go_simp
      with_reducible rfl
     rotate_left
     ·simp only [Act.put,sa_,sb_,sc_,a_r,a_s]
      rfl
     refine a_y (i:=33) (N:=some 58) (v:=?_) (a':=?_) o_S rfl rfl (a_n HT_.out (by kernel_rfl)) (fun _ _ _ h => h) (Or.inl ⟨by rfl,?_⟩) ?_ ?_
     rotate_left
     ·intro w'
      go_simp
      with_reducible rfl
     rotate_left
     ·simp only [Act.put,sa_,sb_,sc_,a_r,a_s]
      rfl
     refine b_m (i:=34) (N:=some 59) (v:=?_) (a':=?_) p_a rfl rfl (a_L HT_.out HW_.out (by kernel_rfl)) (fun _ _ _ h => h) (Or.inl ⟨by rfl,?_⟩) hHeld ?_ ?_
     rotate_left
     ·rintro w' ⟨s0,s1,s2,s3,s4,s5,s6,s7,s8,s9⟩
      go_simp
      with_reducible rfl
     rotate_left
     ·simp only [Act.put,sa_,sb_,sc_,a_r,a_s]
      rfl
     refine a_y (i:=35) (N:=some 60) (v:=?_) (a':=?_) o_3 rfl rfl (a_n HT_.out (by kernel_rfl)) (fun _ _ _ h => h) (Or.inl ⟨by rfl,?_⟩) ?_ ?_
     rotate_left
     ·intro w'
      go_simp
      with_reducible rfl
     rotate_left
     ·simp only [Act.put,sa_,sb_,sc_,a_r,a_s]
      rfl
     refine a_y (i:=36) (N:=some 61) (v:=?_) (a':=?_) o_D rfl rfl (a_n HT_.out (by kernel_rfl)) (fun _ _ _ h => h) (Or.inl ⟨by rfl,?_⟩) ?_ ?_
     rotate_left
     ·intro w'
      go_simp
      with_reducible rfl
     rotate_left
     ·simp only [Act.put,sa_,sb_,sc_,a_r,a_s]
      rfl
     refine a_y (i:=37) (N:=some 62) (v:=?_) (a':=?_) o_l rfl rfl (a_n HT_.out (by kernel_rfl)) (fun _ _ _ h => h) (Or.inl ⟨by rfl,?_⟩) ?_ ?_
     rotate_left
     ·intro w'
      go_simp
      with_reducible rfl
     rotate_left
     ·simp only [Act.put,sa_,sb_,sc_,a_r,a_s]
      rfl
     refine e_T (c_u HT_.out (by kernel_rfl)) ?_
     try go_wp2
     go_roundg k2
     case measure => have:=HJ1.out;have:=HK2.out;omega
     case rel => exact ⟨(wrap64 (x3_2 + 1)),(by first|rfl|(simp;done)|(simp [*];done)),H',⟨by have:=HJ1.out;have:=HK2.out;omega⟩,⟨by (with_reducible repeat (first|refine a_j ?_ _|refine a_k ?_|refine a_i ?_ _));exact b_T.out⟩,⟨by repeat (first|(with_reducible first|exact HB.out|apply a_g|apply a_f|apply a_h|refine a_d ?_ g_Z.out)|exact HB.out)⟩⟩
end Go.Proofs.Ytgglkfilkagblaa.Q
end
