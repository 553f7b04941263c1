/- Part 5 of 13 of what the row of AuditTimes stands on: contracts over the given program's functions, the plain law, the row; no condition beyond those that each theorem states. -/
import Derived.Test.YtgglkfilkagblaaXAuditTimes3
section
namespace Go.Proofs.Ytgglkfilkagblaa.Q
open Go.RowKit Go.Proofs.YtgglkfilkagblaaW.PrintWords Go.Proofs.YtgglkfilkagblaaW.PrintLast Go.Proofs.YtgglkfilkagblaaW.PrintMore
set_option linter.unusedVariables false
set_option linter.unusedSimpArgs false
mutual
def a_r.j0 : Nat → Bool → List (S27) → Int → Option (Bool)
 | 0,_,_,_ => none
 | k + 1,x17,x220000,x220001 => if x17 = true then (some false) else (a_r.l0 k 0 x220000 x220001)
def a_r.l0 : Nat → Int → List (S27) → Int → Option (Bool)
 | 0,_,_,_ => none
 | k + 1,x3,x220000,x220001 => if x3 < (x220000.length : Int) then (if 0 ≤ x3 then ((a_k.f k ((a_p x220000 x3).f0) ((a_p x220000 x3).f1)).bind fun t221 => (if t221 = true then (if ((a_p x220000 x3).f0) > x220001 then (some false) else (if x3 > 0 then (if 0 ≤ (wrap64 (x3 - 1)) then (if (wrap64 (x3 - 1)) < (x220000.length : Int) then (if ((a_p x220000 (wrap64 (x3 - 1))).f0) ≥ ((a_p x220000 x3).f0) then (some false) else (a_r.l0 k (wrap64 (x3 + 1)) x220000 x220001)) else (none)) else (none)) else (a_r.l0 k (wrap64 (x3 + 1)) x220000 x220001))) else (some false))) else (none)) else (some true)
end
def a_r.f (k : Nat) (l0_0 : List (S27)) (a0_1 : Int) : Option (Bool):=if (l0_0.length : Int) > 2000 then (a_r.j0 k true l0_0 a0_1) else (if a0_1 < 0 then (a_r.j0 k true l0_0 a0_1) else (a_r.j0 k (decide (a0_1 > 1125899906842624)) l0_0 a0_1))
theorem a_r.c_w : ∀ k,(∀ y0 y1 y2,LeO (a_r.j0 k y0 y1 y2) (a_r.j0 (k + 1) y0 y1 y2)) ∧ (∀ y0 y1 y2,LeO (a_r.l0 k y0 y1 y2) (a_r.l0 (k + 1) y0 y1 y2))
 | 0 => ⟨fun _ _ _ r h => by simp [a_r.j0] at h,fun _ _ _ r h => by simp [a_r.l0] at h⟩
 | k + 1 => by
  obtain ⟨ih0,ih1⟩:=a_r.c_w k
  refine ⟨?_,?_⟩
  ·intro y0 y1 y2
   unfold a_r.j0
   repeat' first
   | (with_reducible exact ih0 _ _ _)
   | (with_reducible exact ih1 _ _ _)
   | (with_reducible exact a_k.mono _ _ _)
   | (with_reducible exact LeO.refl _)
   | (with_reducible exact LeO.none _)
   | (with_reducible refine LeO.ite ?_ ?_)
   | (with_reducible refine LeO.bind ?_ (fun _ => ?_))
   | exact ih0 _ _ _
   | exact ih1 _ _ _
   | exact a_k.mono _ _ _
   | exact LeO.none _
   | refine LeO.ite ?_ ?_
   | refine LeO.bind ?_ (fun _ => ?_)
  ·intro y0 y1 y2
   unfold a_r.l0
   repeat' first
   | (with_reducible exact ih0 _ _ _)
   | (with_reducible exact ih1 _ _ _)
   | (with_reducible exact a_k.mono _ _ _)
   | (with_reducible exact LeO.refl _)
   | (with_reducible exact LeO.none _)
   | (with_reducible refine LeO.ite ?_ ?_)
   | (with_reducible refine LeO.bind ?_ (fun _ => ?_))
   | exact ih0 _ _ _
   | exact ih1 _ _ _
   | exact a_k.mono _ _ _
   | exact LeO.none _
   | refine LeO.ite ?_ ?_
   | refine LeO.bind ?_ (fun _ => ?_)
theorem a_r.mono : ∀ a0 a1 k,LeO (a_r.f k a0 a1) (a_r.f (k + 1) a0 a1):=by
 intro a0 a1 k
 obtain ⟨ih0,ih1⟩:=a_r.c_w k
 unfold a_r.f
 repeat' first
  | (with_reducible exact ih0 _ _ _)
  | (with_reducible exact ih1 _ _ _)
  | (with_reducible exact a_k.mono _ _ _)
  | (with_reducible exact LeO.refl _)
  | (with_reducible exact LeO.none _)
  | (with_reducible refine LeO.ite ?_ ?_)
  | (with_reducible refine LeO.bind ?_ (fun _ => ?_))
  | exact ih0 _ _ _
  | exact ih1 _ _ _
  | exact a_k.mono _ _ _
  | exact LeO.none _
  | refine LeO.ite ?_ ?_
  | refine LeO.bind ?_ (fun _ => ?_)
def a_r.T6 : Bool × List (List Nat × List Nat):=(true,[([],[]),([0],[0]),([],[]),([1,2],[1,2]),([3],[3]),([4],[4]),([5],[5]),([6,5],[6]),([7],[7]),([8,7],[7,8]),([7],[7]),([9,10,7],[7,9,10]),([11,7],[7,11]),([12,7],[7,12]),([7],[7]),([14,7],[7,14]),([13,15,7],[7,13,15]),([7,16],[7,16]),([17,7],[17]),([18],[18]),([19,18],[18,19]),([20,18,18],[18,20]),([21],[21]),([22,21],[21,22]),([21],[21]),([24,21],[21,24]),([23,25,21],[21,23,25]),([26,21],[21,26]),([27,21],[21,27]),([21],[21]),([29,21],[21,29]),([21],[21]),([30,31,21],[21,30,31]),([32,21],[21,32]),([33,21],[21,33]),([28,34,21],[21,28,34]),([21,35,18],[18,21,35]),([18,36],[18,36])])
def a_r.B6 : List Nat:=[0,1,0,7,15,31,63,127,255,511,255,2047,4095,8191,255,16639,65535,131071,262143,524287,1048575,2097151,4194303,8388607,4194303,20971519,67108863,134217727,268435455,4194303,541065215,4194303,3762290687,8057257983,16647192575,34359738367,68719476735,137438953471]
theorem a_r.tab6 : rtab .any (opsOf Try.f15 6) = a_r.T6:=by kernel_rfl
theorem a_r.e_I : e_s a_r.T6.2 a_r.B6 = true:=by kernel_rfl
set_option maxHeartbeats 8000000 in
set_option maxRecDepth 100000 in
theorem a_r.calls (k : Nat) (A0_0 : Option Addr) (c0_0 : Nat) (l0_0 : List (S27)) (a0_1 : Int) (r : Bool) (w : World) (hr0_0 : Kd.C k27 w A0_0 l0_0.length l0_0) (hc0_0 : l0_0.length ≤ c0_0) (h : a_r.f k l0_0 a0_1 = some r) :
 Calls Try.prog 15 #[.agg #[.slice A0_0 l0_0.length c0_0,.int .i64 a0_1]] w fun e w' => e = .returned (.bool r) ∧ Below w.heap.size w w':=by
 have hu24:=Try.underlying24
 have hu27:=Try.underlying27
 have b_q:=a_d.mk hr0_0
 have b_S:=a_d.mk hc0_0
 clear hr0_0 hc0_0
 have HB:=a_d.mk (Below.refl w.heap.size w)
 have H : (if (l0_0.length : Int) > 2000 then (a_r.j0 k true l0_0 a0_1) else (if a0_1 < 0 then (a_r.j0 k true l0_0 a0_1) else (a_r.j0 k (decide (a0_1 > 1125899906842624)) l0_0 a0_1))) = some r:=h
 clear h
 have HC2:=a_d.mk H
 clear H
 go_enter Try.func15,Try.ntmps15
 go_upto_region 1 with (first|((with_reducible refine a_J (N:=1) rfl ?_);refine a_C ?hg (N:=1) ?hd (cs:=#[.slice A0_0 l0_0.length c0_0,.int .i64 a0_1]) (t:=24) ?hr ?_;(case hd => rfl);(case hg => rfl);(case hr => first|(go_simp;done)|(go_simp;rfl));intro d_T hg w3 hbox hb;have b_L:=a_d.mk (hbox);have H_d:=a_d.mk ((by rw [hg];exact (a_n (lup_ HB.out)) : w.heap.size ≤ d_T));have f_2:=a_d.mk ((by rw [hg];exact (a_n (lup_ HB.out)) : w.heap.size ≤ d_T));replace HB:=a_d.mk (a_o (lup_ HB.out) hb);clear hb hbox hg))
 (try simp only [Act.put,sa_,sb_,sc_])
 go_cut [17] (fun v17 wc => ∃ (kq : Nat) (x17_1 : Bool),v17 = .bool x17_1 ∧ a_d (a_r.j0 kq x17_1 l0_0 a0_1 = some r) ∧ a_d (kq ≤ k) ∧ a_d (wc.heap[d_T]? = some (.cells #[(.slice A0_0 l0_0.length c0_0),.int .i64 a0_1] 24 (0,0))) ∧ a_d (Below w.heap.size w wc))
 case first =>
  have H:=HC2.out
  clear HC2
  by_cases c4 : (l0_0.length : Int) > 2000
  ·rw [if_pos c4] at H
   have c4b0 : decide (2000 < (l0_0.length : Int)) = true:=decide_eq_true c4
   have c4b1 : decide (2000 < l0_0.length) = true:=decide_eq_true (by omega)
   clear c4
   (first|rw [c4b0]|(simp only [a_t,a_u];rw [c4b0])|skip)
   have H':=a_d.mk H
   clear H
   have f_f : w3.cell? ⟨d_T,0,none⟩ = some (.slice A0_0 l0_0.length c0_0):=(a_a b_L.out 0).trans rfl
   have f_g : w3.cell? ⟨d_T,1,none⟩ = some (.int .i64 a0_1):=(a_a b_L.out 1).trans rfl
   have f_h:=a_b b_L.out 0
   have f_i:=a_b b_L.out 1
   go_wp2
   go_meet
   case rel => exact ⟨_,(true),(by first|rfl|(simp;done)|(simp [*];done)),H',⟨by first|omega|exact Nat.le_refl _⟩,⟨by (with_reducible repeat (first|refine a_l ?_ _|refine a_m ?_|refine a_j ?_ _));exact b_L.out⟩,⟨by repeat (first|(with_reducible first|exact HB.out|apply a_g|apply a_e|apply a_h|refine a_f ?_ f_2.out)|exact HB.out)⟩⟩
  rw [if_neg c4] at H
  have c4b0 : decide (2000 < (l0_0.length : Int)) = false:=decide_eq_false c4
  have c4b1 : decide (2000 < l0_0.length) = false:=decide_eq_false (by omega)
  clear c4
  (first|rw [c4b0]|(simp only [a_t,a_u];rw [c4b0])|skip)
  by_cases c6 : a0_1 < 0
  ·rw [if_pos c6] at H
   have c6b0 : decide (a0_1 < 0) = true:=decide_eq_true c6
   clear c6
   have H':=a_d.mk H
   clear H
   have f_p : w3.cell? ⟨d_T,0,none⟩ = some (.slice A0_0 l0_0.length c0_0):=(a_a b_L.out 0).trans rfl
   have f_q : w3.cell? ⟨d_T,1,none⟩ = some (.int .i64 a0_1):=(a_a b_L.out 1).trans rfl
   have f_r:=a_b b_L.out 0
   have f_s:=a_b b_L.out 1
   go_wp2
   go_meet
   case rel => exact ⟨_,(true),(by first|rfl|(simp;done)|(simp [*];done)),H',⟨by first|omega|exact Nat.le_refl _⟩,⟨by (with_reducible repeat (first|refine a_l ?_ _|refine a_m ?_|refine a_j ?_ _));exact b_L.out⟩,⟨by repeat (first|(with_reducible first|exact HB.out|apply a_g|apply a_e|apply a_h|refine a_f ?_ f_2.out)|exact HB.out)⟩⟩
  rw [if_neg c6] at H
  have c6b0 : decide (a0_1 < 0) = false:=decide_eq_false c6
  clear c6
  have H':=a_d.mk H
  clear H
  have h_i : w3.cell? ⟨d_T,0,none⟩ = some (.slice A0_0 l0_0.length c0_0):=(a_a b_L.out 0).trans rfl
  have h_j : w3.cell? ⟨d_T,1,none⟩ = some (.int .i64 a0_1):=(a_a b_L.out 1).trans rfl
  have h_k:=a_b b_L.out 0
  have h_l:=a_b b_L.out 1
  go_wp2
  go_meet
  case rel => exact ⟨_,(decide (a0_1 > 1125899906842624)),(by first|rfl|(simp;done)|(simp [*];done)),H',⟨by first|omega|exact Nat.le_refl _⟩,⟨by (with_reducible repeat (first|refine a_l ?_ _|refine a_m ?_|refine a_j ?_ _));exact b_L.out⟩,⟨by repeat (first|(with_reducible first|exact HB.out|apply a_g|apply a_e|apply a_h|refine a_f ?_ f_2.out)|exact HB.out)⟩⟩
 case rest =>
  clear HC2
  try clear c1
  try clear p2
  try clear c4
  try clear c4b0
  try clear c4b1
  try clear c6
  try clear c6b0
  try clear f_f
  try clear f_g
  try clear f_p
  try clear f_q
  try clear h_i
  try clear h_j
  try clear f_h
  try clear f_i
  try clear f_r
  try clear f_s
  try clear h_k
  try clear h_l
  obtain ⟨kq,x17_1,rfl,HA,HJ1,b_L,HB⟩:=hcut
  cases kq with
  | zero => exact absurd HA.out (by simp [a_r.j0])
  | succ kj1 =>
   have H:=HA.out
   clear HA
   simp only [a_r.j0] at H
   by_cases c9 : x17_1 = true
   ·subst c9
    have H1 : (some false) = some r:=by rw [if_pos rfl] at H;exact H
    clear H
    have H:=H1
    clear H1
    obtain rfl:=Option.some.inj H
    go_wp2
    go_ret
    exact ⟨by first|rfl|(simp [a_w,a_x] <;> rfl)|(simp [*, a_w,a_x] <;> rfl),by repeat (first|(with_reducible first|exact HB.out|apply a_g|apply a_e|apply a_h|refine a_f ?_ f_2.out)|exact HB.out)⟩
   replace c9:=Bool.eq_false_iff.mpr c9
   subst c9
   have H1 : (a_r.l0 kj1 0 l0_0 a0_1) = some r:=by rw [if_neg (show ¬ (false = true) by decide)] at H;exact H
   clear H
   have H:=H1
   clear H1
   have H':=a_d.mk H
   clear H
   go_wp2
   go_loopg [3] kj1 (fun kq v3 w' => ∃ (x3_2 : Int),v3 = .int .i64 x3_2 ∧ a_d (a_r.l0 kq x3_2 l0_0 a0_1 = some r) ∧ a_d (kq ≤ kj1) ∧ a_d (w'.heap[d_T]? = some (.cells #[(.slice A0_0 l0_0.length c0_0),.int .i64 a0_1] 24 (0,0))) ∧ a_d (Below w.heap.size w w'))
   case atStart => exact ⟨(0),(by first|rfl|(simp;done)|(simp [*];done)),H',⟨Nat.le_refl _⟩,⟨by (with_reducible repeat (first|refine a_l ?_ _|refine a_m ?_|refine a_j ?_ _));exact b_L.out⟩,⟨by repeat (first|(with_reducible first|exact HB.out|apply a_g|apply a_e|apply a_h|refine a_f ?_ f_2.out)|exact HB.out)⟩⟩
   case round =>
    clear H'
    try clear c1
    try clear p2
    try clear c4
    try clear c4b0
    try clear c4b1
    try clear c6
    try clear c6b0
    try clear c9
    try clear f_f
    try clear f_g
    try clear f_p
    try clear f_q
    try clear h_i
    try clear h_j
    try clear f_h
    try clear f_i
    try clear f_r
    try clear f_s
    try clear h_k
    try clear h_l
    try clear p2
    obtain ⟨x3_2,rfl,HA,HK2,b_L,HB⟩:=hrel
    cases gk with
    | zero => exact absurd HA.out (by simp [a_r.l0])
    | succ k2 =>
     have H:=HA.out
     clear HA
     simp only [a_r.l0] at H
     by_cases c10 : x3_2 < (l0_0.length : Int)
     rotate_left
     ·rw [if_neg c10] at H
      have c10b0 : decide (x3_2 < (l0_0.length : Int)) = false:=decide_eq_false c10
      clear c10
      obtain rfl:=Option.some.inj H
      have D_c : wr.cell? ⟨d_T,0,none⟩ = some (.slice A0_0 l0_0.length c0_0):=(a_a b_L.out 0).trans rfl
      have D_d : wr.cell? ⟨d_T,1,none⟩ = some (.int .i64 a0_1):=(a_a b_L.out 1).trans rfl
      have D_e:=a_b b_L.out 0
      have D_f:=a_b b_L.out 1
      go_wp2
      go_ret
      exact ⟨by first|rfl|(simp [a_w,a_x] <;> rfl)|(simp [*, a_w,a_x] <;> rfl),by repeat (first|(with_reducible first|exact HB.out|apply a_g|apply a_e|apply a_h|refine a_f ?_ f_2.out)|exact HB.out)⟩
     rw [if_pos c10] at H
     have c10b0 : decide (x3_2 < (l0_0.length : Int)) = true:=decide_eq_true c10
     clear c10
     by_cases c11 : 0 ≤ x3_2
     rotate_left
     ·rw [if_neg c11] at H
      exact absurd H (by simp)
     rw [if_pos c11] at H
     have c11b0 : decide (0 ≤ x3_2) = true:=decide_eq_true c11
     clear c11
     replace H:=Option.bind_eq_some_iff.mp H
     obtain ⟨t221,A120,H⟩:=H
     replace H : (if t221 = true then (if ((a_p l0_0 x3_2).f0) > a0_1 then (some false) else (if x3_2 > 0 then (if 0 ≤ (wrap64 (x3_2 - 1)) then (if (wrap64 (x3_2 - 1)) < (l0_0.length : Int) then (if ((a_p l0_0 (wrap64 (x3_2 - 1))).f0) ≥ ((a_p l0_0 x3_2).f0) then (some false) else (a_r.l0 k2 (wrap64 (x3_2 + 1)) l0_0 a0_1)) else (none)) else (none)) else (a_r.l0 k2 (wrap64 (x3_2 + 1)) l0_0 a0_1))) else (some false)) = some r:=H
     have A12:=a_d.mk A120
     clear A120
     by_cases c13 : t221 = true
     rotate_left
     ·replace c13:=Bool.eq_false_iff.mpr c13
      subst c13
      have H1 : (some false) = some r:=by rw [if_neg (show ¬ (false = true) by decide)] at H;exact H
      clear H
      have H:=H1
      clear H1
      obtain rfl:=Option.some.inj H
      have D_g : wr.cell? ⟨d_T,0,none⟩ = some (.slice A0_0 l0_0.length c0_0):=(a_a b_L.out 0).trans rfl
      have D_h : wr.cell? ⟨d_T,1,none⟩ = some (.int .i64 a0_1):=(a_a b_L.out 1).trans rfl
      have D_i:=a_b b_L.out 0
      have D_j:=a_b b_L.out 1
      try go_wp2
      replace b_L:=a_d.mk (a_m b_L.out)
      replace HB:=a_d.mk (a_h HB.out)
      have p220 : 0 ≤ (x3_2 : Int):=of_decide_eq_true (by first|(with_reducible assumption)|assumption)
      have q220 : x3_2 < (l0_0.length : Int):=of_decide_eq_true (by first|(with_reducible assumption)|assumption)
      obtain ⟨ad220,A220_1,c220_1,e220,b_9,c_a,e_b,e_c⟩:=c_y b_q.out x3_2 p220 q220
      have c_D:=c_a
      have c_E:=b_9
      cases e220
      replace b_9:=(HB.out.cell (World.block_lt_of_cell? w _ b_9)).trans b_9
      replace c_a:=(HB.out.cell (World.block_lt_of_cell? w _ c_a)).trans c_a
      have e_d:=a_d.mk e_c
      have e_V:=a_d.mk e_b
      clear e_c e_b
      replace p220:=eq_true p220
      replace q220:=eq_true q220
      refine c_9 (n:=38) (S:=fun w' => w'.cell? ⟨d_T,0,none⟩ = some (.slice (some ad220) l0_0.length c0_0) ∧ w'.cell? ⟨d_T,1,none⟩ = some (.int .i64 a0_1) ∧ w'.cell? (ad220.add ((x3_2).toNat * 2)) = some (.int .i64 ((a_p l0_0 x3_2).f0)) ∧ w'.cell? ⟨(ad220.add ((x3_2).toNat * 2)).block,(ad220.add ((x3_2).toNat * 2)).off + 1,none⟩ = some (.slice A220_1 ((a_p l0_0 x3_2).f1).length c220_1)) (ds:=[]) Z0_ (by kernel_rfl) rfl rfl ⟨(a_a b_L.out 0).trans rfl,(a_a b_L.out 1).trans rfl,((HB.out.cell (World.block_lt_of_cell? w _ c_E)).trans c_E),((HB.out.cell (World.block_lt_of_cell? w _ c_D)).trans c_D)⟩ (fun hHeld => ?_);refine b_P a_r.tab6 a_r.e_I (fun HT_ HW_ => ?_)
      generalize wr.drew = w33 at b_L HB e_d b_9 c_a hHeld ⊢
      refine a_z (i:=0) (N:=some 25) (v:=?_) (a':=?_) Z4_ rfl rfl (a_q HT_.out (by kernel_rfl)) (fun _ _ _ h => h) (Or.inl ⟨by rfl,?_⟩) ?_ ?_
      rotate_left
      ·intro w'
       go_simp
       with_reducible rfl
      rotate_left
      ·simp only [Act.put,sa_,sb_,sc_,a_t,a_u]
       rfl
      refine a_z (i:=2) (N:=some 27) (v:=?_) (a':=?_) Z8_ rfl rfl (a_q HT_.out (by kernel_rfl)) (fun _ _ _ h => h) (Or.inl ⟨by rfl,?_⟩) ?_ ?_
      rotate_left
      ·intro w'
       go_simp
       with_reducible rfl
      rotate_left
      ·simp only [Act.put,sa_,sb_,sc_,a_t,a_u]
       rfl
      refine b_l (i:=1) (N:=some 26) (v:=?_) (a':=?_) Z12_ rfl rfl (a_O HT_.out HW_.out (by kernel_rfl)) (fun _ _ _ h => h) (Or.inl ⟨by rfl,?_⟩) hHeld ?_ ?_
      rotate_left
      ·rintro w' ⟨s0,s1,s2,s3⟩
       go_simp
       with_reducible rfl
      rotate_left
      ·simp only [Act.put,sa_,sb_,sc_,a_t,a_u]
       rfl
      refine a_z (i:=3) (N:=some 28) (v:=?_) (a':=?_) Z16_ rfl rfl (a_q HT_.out (by kernel_rfl)) (fun _ _ _ h => h) (Or.inl ⟨by rfl,?_⟩) ?_ ?_
      rotate_left
      ·intro w'
       go_simp
       with_reducible rfl
      rotate_left
      ·simp only [Act.put,sa_,sb_,sc_,a_t,a_u]
       rfl
      refine b_l (i:=4) (N:=some 29) (v:=?_) (a':=?_) Z20_ rfl rfl (a_O HT_.out HW_.out (by kernel_rfl)) (fun _ _ _ h => h) (Or.inl ⟨by rfl,?_⟩) hHeld ?_ ?_
      rotate_left
      ·rintro w' ⟨s0,s1,s2,s3⟩
       go_simp
       with_reducible rfl
      rotate_left
      ·simp only [Act.put,sa_,sb_,sc_,a_t,a_u]
       rfl
      refine one_ (i:=5) (N:=some 30) Z25_ rfl rfl (b_7 HT_.out (by kernel_rfl)) (by decide) (fun K hK => ?_)
      refine d_O Try.func26 (by kernel_rfl) rfl #[.agg #[.int .i64 ((a_p l0_0 x3_2).f0),.slice A220_1 ((a_p l0_0 x3_2).f1).length c220_1]] (by rfl) rfl rfl (by (try simp only [List.map_toArray,List.map_cons,List.map_nil]);first|done|rfl|(simp only [List.length_drop,List.length_take];rfl)) ?_
      with_reducible refine (a_k.calls k2 ((a_p l0_0 x3_2).f0) _ _ ((a_p l0_0 x3_2).f1) false _ ?side1 ?side2 A12.out).mono ?_
      (case side1 => repeat (first|exact (Kd.a_U e_d.out HB.out)|(with_reducible refine Kd.a_V ?_ _)|(with_reducible refine Kd.a_W ?_ _)|(with_reducible refine Kd.a_5 ?_)))
      (case side2 => exact e_V.out)
      rintro e w34 ⟨rfl,hb⟩
      refine ⟨_,rfl,?_⟩
      replace b_L:=a_d.mk (a_i (bup_ b_L.out) hb)
      replace HB:=a_d.mk (a_o (by repeat (first|(with_reducible first|exact HB.out|apply a_g|apply a_e|apply a_h|refine a_f ?_ f_2.out)|exact HB.out)) hb)
      (try clear hb)
      (try clear hb2)
      (try clear hk)
      (try clear hi)
      refine hK.out _ _ ⟨(a_a b_L.out 0).trans rfl,(a_a b_L.out 1).trans rfl,((HB.out.cell (World.block_lt_of_cell? w _ c_E)).trans c_E),((HB.out.cell (World.block_lt_of_cell? w _ c_D)).trans c_D)⟩ (fun hHeld => ?_)
      clear hK K
      refine d_A (a':=?_) ?_ ?_
      rotate_left
      ·show Act.put _ (some 30) _ = _
       simp only [Act.put,sa_,sb_,sc_,a_t,a_u]
       rfl
      refine a_z (i:=6) (N:=some 31) (v:=?_) (a':=?_) Z28_ rfl rfl (a_q HT_.out (by kernel_rfl)) (fun _ _ _ h => h) (Or.inl ⟨by rfl,?_⟩) ?_ ?_
      rotate_left
      ·intro w'
       go_simp
       with_reducible rfl
      rotate_left
      ·simp only [Act.put,sa_,sb_,sc_,a_t,a_u]
       rfl
      refine a_z (i:=7) (N:=some 32) (v:=?_) (a':=?_) Z32_ rfl rfl (a_q HT_.out (by kernel_rfl)) (fun _ _ _ h => h) (Or.inl ⟨by rfl,?_⟩) ?_ ?_
      rotate_left
      ·intro w'
       go_simp
       with_reducible rfl
      rotate_left
      ·simp only [Act.put,sa_,sb_,sc_,a_t,a_u]
       rfl
      refine a_z (i:=8) (N:=some 33) (v:=undef) (a':=?_) Z39_ rfl rfl (a_q HT_.out (by kernel_rfl)) (fun _ _ _ h => h) (Or.inr ⟨by rfl,rfl⟩) ?_ ?_
      rotate_left
      ·simp only [Act.put,sa_,sb_,sc_,a_t,a_u]
       rfl
      refine a_z (i:=9) (N:=some 34) (v:=undef) (a':=?_) #[T_,T_,T_,T_,T_,T_,T_,T_,T_,T_,F_,F_,F_,F_,F_,F_,F_,F_,F_,F_,F_,F_,F_,F_,F_,F_,F_,F_,F_,F_,F_,F_,F_,F_,F_,F_,F_,F_] rfl rfl (a_q HT_.out (by kernel_rfl)) (fun _ _ _ h => h) (Or.inr ⟨by rfl,rfl⟩) ?_ ?_
      rotate_left
      ·simp only [Act.put,sa_,sb_,sc_,a_t,a_u]
       rfl
      refine a_z (i:=10) (N:=some 35) (v:=undef) (a':=?_) #[T_,T_,T_,T_,T_,T_,T_,T_,T_,T_,T_,F_,F_,F_,F_,F_,F_,F_,F_,F_,F_,F_,F_,F_,F_,F_,F_,F_,F_,F_,F_,F_,F_,F_,F_,F_,F_,F_] rfl rfl (a_q HT_.out (by kernel_rfl)) (fun _ _ _ h => h) (Or.inr ⟨by rfl,rfl⟩) ?_ ?_
      rotate_left
      ·simp only [Act.put,sa_,sb_,sc_,a_t,a_u]
       rfl
      refine a_z (i:=11) (N:=some 36) (v:=undef) (a':=?_) #[T_,T_,T_,T_,T_,T_,T_,T_,T_,T_,T_,T_,F_,F_,F_,F_,F_,F_,F_,F_,F_,F_,F_,F_,F_,F_,F_,F_,F_,F_,F_,F_,F_,F_,F_,F_,F_,F_] rfl rfl (a_q HT_.out (by kernel_rfl)) (fun _ _ _ h => h) (Or.inr ⟨by rfl,rfl⟩) ?_ ?_
      rotate_left
      ·simp only [Act.put,sa_,sb_,sc_,a_t,a_u]
       rfl
      refine a_z (i:=12) (N:=some 37) (v:=undef) (a':=?_) #[T_,T_,T_,T_,T_,T_,T_,T_,T_,T_,T_,T_,T_,F_,F_,F_,F_,F_,F_,F_,F_,F_,F_,F_,F_,F_,F_,F_,F_,F_,F_,F_,F_,F_,F_,F_,F_,F_] rfl rfl (a_q HT_.out (by kernel_rfl)) (fun _ _ _ h => h) (Or.inr ⟨by rfl,rfl⟩) ?_ ?_
      rotate_left
      ·simp only [Act.put,sa_,sb_,sc_,a_t,a_u]
       rfl
      refine a_z (i:=13) (N:=some 38) (v:=undef) (a':=?_) #[T_,T_,T_,T_,T_,T_,T_,T_,T_,T_,T_,T_,T_,T_,F_,F_,F_,F_,F_,F_,F_,F_,F_,F_,F_,F_,F_,F_,F_,F_,F_,F_,F_,F_,F_,F_,F_,F_] rfl rfl (a_q HT_.out (by kernel_rfl)) (fun _ _ _ h => h) (Or.inr ⟨by rfl,rfl⟩) ?_ ?_
      rotate_left
      ·simp only [Act.put,sa_,sb_,sc_,a_t,a_u]
       rfl
      refine a_z (i:=14) (N:=some 39) (v:=undef) (a':=?_) Z66_ rfl rfl (a_q HT_.out (by kernel_rfl)) (fun _ _ _ h => h) (Or.inr ⟨by rfl,rfl⟩) ?_ ?_
      rotate_left
      ·simp only [Act.put,sa_,sb_,sc_,a_t,a_u]
       rfl
      refine a_z (i:=15) (N:=some 40) (v:=undef) (a':=?_) Z73_ rfl rfl (a_q HT_.out (by kernel_rfl)) (fun _ _ _ h => h) (Or.inr ⟨by rfl,rfl⟩) ?_ ?_
      rotate_left
      ·simp only [Act.put,sa_,sb_,sc_,a_t,a_u]
       rfl
      refine a_z (i:=16) (N:=some 41) (v:=undef) (a':=?_) Z77_ rfl rfl (a_q HT_.out (by kernel_rfl)) (fun _ _ _ h => h) (Or.inr ⟨by rfl,rfl⟩) ?_ ?_
      rotate_left
      ·simp only [Act.put,sa_,sb_,sc_,a_t,a_u]
       rfl
      refine a_z (i:=17) (N:=some 42) (v:=?_) (a':=?_) Z81_ rfl rfl (a_q HT_.out (by kernel_rfl)) (fun _ _ _ h => h) (Or.inl ⟨by rfl,?_⟩) ?_ ?_
      rotate_left
      ·intro w'
       go_simp
       with_reducible rfl
      rotate_left
      ·simp only [Act.put,sa_,sb_,sc_,a_t,a_u]
       rfl
      refine a_z (i:=18) (N:=some 43) (v:=?_) (a':=?_) Z86_ rfl rfl (a_q HT_.out (by kernel_rfl)) (fun _ _ _ h => h) (Or.inl ⟨by rfl,?_⟩) ?_ ?_
      rotate_left
      ·intro w'
       go_simp
       with_reducible rfl
      rotate_left
      ·simp only [Act.put,sa_,sb_,sc_,a_t,a_u]
       rfl
      refine a_z (i:=19) (N:=some 44) (v:=undef) (a':=?_) Z90_ rfl rfl (a_q HT_.out (by kernel_rfl)) (fun _ _ _ h => h) (Or.inr ⟨by rfl,rfl⟩) ?_ ?_
      rotate_left
      ·simp only [Act.put,sa_,sb_,sc_,a_t,a_u]
       rfl
      refine a_z (i:=20) (N:=some 45) (v:=undef) (a':=?_) Z94_ rfl rfl (a_q HT_.out (by kernel_rfl)) (fun _ _ _ h => h) (Or.inr ⟨by rfl,rfl⟩) ?_ ?_
      rotate_left
      ·simp only [Act.put,sa_,sb_,sc_,a_t,a_u]
       rfl
      refine a_z (i:=21) (N:=some 46) (v:=undef) (a':=?_) Z98_ rfl rfl (a_q HT_.out (by kernel_rfl)) (fun _ _ _ h => h) (Or.inr ⟨by rfl,rfl⟩) ?_ ?_
      rotate_left
      ·simp only [Act.put,sa_,sb_,sc_,a_t,a_u]
       rfl
      refine a_z (i:=22) (N:=some 47) (v:=undef) (a':=?_) o_u rfl rfl (a_q HT_.out (by kernel_rfl)) (fun _ _ _ h => h) (Or.inr ⟨by rfl,rfl⟩) ?_ ?_
      rotate_left
      ·simp only [Act.put,sa_,sb_,sc_,a_t,a_u]
       rfl
      refine a_z (i:=23) (N:=some 48) (v:=undef) (a':=?_) s_j rfl rfl (a_q HT_.out (by kernel_rfl)) (fun _ _ _ h => h) (Or.inr ⟨by rfl,rfl⟩) ?_ ?_
      rotate_left
      ·simp only [Act.put,sa_,sb_,sc_,a_t,a_u]
       rfl
      refine a_z (i:=24) (N:=some 49) (v:=undef) (a':=?_) s_e rfl rfl (a_q HT_.out (by kernel_rfl)) (fun _ _ _ h => h) (Or.inr ⟨by rfl,rfl⟩) ?_ ?_
      rotate_left
      ·simp only [Act.put,sa_,sb_,sc_,a_t,a_u]
       rfl
      refine a_z (i:=25) (N:=some 50) (v:=undef) (a':=?_) r_S rfl rfl (a_q HT_.out (by kernel_rfl)) (fun _ _ _ h => h) (Or.inr ⟨by rfl,rfl⟩) ?_ ?_
      rotate_left
      ·simp only [Act.put,sa_,sb_,sc_,a_t,a_u]
       rfl
      refine a_z (i:=26) (N:=some 51) (v:=undef) (a':=?_) s_i rfl rfl (a_q HT_.out (by kernel_rfl)) (fun _ _ _ h => h) (Or.inr ⟨by rfl,rfl⟩) ?_ ?_
      rotate_left
      ·simp only [Act.put,sa_,sb_,sc_,a_t,a_u]
       rfl
      refine a_z (i:=27) (N:=some 52) (v:=undef) (a':=?_) r_9 rfl rfl (a_q HT_.out (by kernel_rfl)) (fun _ _ _ h => h) (Or.inr ⟨by rfl,rfl⟩) ?_ ?_
      rotate_left
      ·simp only [Act.put,sa_,sb_,sc_,a_t,a_u]
       rfl
      refine a_z (i:=28) (N:=some 53) (v:=undef) (a':=?_) r_P rfl rfl (a_q HT_.out (by kernel_rfl)) (fun _ _ _ h => h) (Or.inr ⟨by rfl,rfl⟩) ?_ ?_
      rotate_left
      ·simp only [Act.put,sa_,sb_,sc_,a_t,a_u]
       rfl
      refine a_z (i:=29) (N:=some 54) (v:=undef) (a':=?_) r_2 rfl rfl (a_q HT_.out (by kernel_rfl)) (fun _ _ _ h => h) (Or.inr ⟨by rfl,rfl⟩) ?_ ?_
      rotate_left
      ·simp only [Act.put,sa_,sb_,sc_,a_t,a_u]
       rfl
      refine a_z (i:=30) (N:=some 55) (v:=undef) (a':=?_) r_Y rfl rfl (a_q HT_.out (by kernel_rfl)) (fun _ _ _ h => h) (Or.inr ⟨by rfl,rfl⟩) ?_ ?_
      rotate_left
      ·simp only [Act.put,sa_,sb_,sc_,a_t,a_u]
       rfl
      refine a_z (i:=31) (N:=some 56) (v:=undef) (a':=?_) n_9 rfl rfl (a_q HT_.out (by kernel_rfl)) (fun _ _ _ h => h) (Or.inr ⟨by rfl,rfl⟩) ?_ ?_
      rotate_left
      ·simp only [Act.put,sa_,sb_,sc_,a_t,a_u]
       rfl
      refine a_z (i:=32) (N:=some 57) (v:=undef) (a':=?_) o_j rfl rfl (a_q HT_.out (by kernel_rfl)) (fun _ _ _ h => h) (Or.inr ⟨by rfl,rfl⟩) ?_ ?_
      rotate_left
      ·simp only [Act.put,sa_,sb_,sc_,a_t,a_u]
       rfl
      refine a_z (i:=33) (N:=some 58) (v:=undef) (a':=?_) n_X rfl rfl (a_q HT_.out (by kernel_rfl)) (fun _ _ _ h => h) (Or.inr ⟨by rfl,rfl⟩) ?_ ?_
      rotate_left
      ·simp only [Act.put,sa_,sb_,sc_,a_t,a_u]
       rfl
      refine a_z (i:=34) (N:=some 59) (v:=undef) (a':=?_) o_i rfl rfl (a_q HT_.out (by kernel_rfl)) (fun _ _ _ h => h) (Or.inr ⟨by rfl,rfl⟩) ?_ ?_
      rotate_left
      ·simp only [Act.put,sa_,sb_,sc_,a_t,a_u]
       rfl
      refine a_z (i:=35) (N:=some 60) (v:=undef) (a':=?_) n_6 rfl rfl (a_q HT_.out (by kernel_rfl)) (fun _ _ _ h => h) (Or.inr ⟨by rfl,rfl⟩) ?_ ?_
      rotate_left
      ·simp only [Act.put,sa_,sb_,sc_,a_t,a_u]
       rfl
      refine a_z (i:=36) (N:=some 61) (v:=undef) (a':=?_) n_7 rfl rfl (a_q HT_.out (by kernel_rfl)) (fun _ _ _ h => h) (Or.inr ⟨by rfl,rfl⟩) ?_ ?_
      rotate_left
      ·simp only [Act.put,sa_,sb_,sc_,a_t,a_u]
       rfl
      refine a_z (i:=37) (N:=some 62) (v:=?_) (a':=?_) o_c rfl rfl (a_q HT_.out (by kernel_rfl)) (fun _ _ _ h => h) (Or.inl ⟨by rfl,?_⟩) ?_ ?_
      rotate_left
      ·intro w'
       go_simp
       with_reducible rfl
      rotate_left
      ·simp only [Act.put,sa_,sb_,sc_,a_t,a_u]
       rfl
      refine e_j (c_q HT_.out (by kernel_rfl)) ?_
      try go_wp2
      go_ret
      exact ⟨by first|rfl|(simp [a_w,a_x] <;> rfl)|(simp [*, a_w,a_x] <;> rfl),by repeat (first|(with_reducible first|exact HB.out|apply a_g|apply a_e|apply a_h|refine a_f ?_ f_2.out)|exact HB.out)⟩
     subst c13
     have H1 : (if ((a_p l0_0 x3_2).f0) > a0_1 then (some false) else (if x3_2 > 0 then (if 0 ≤ (wrap64 (x3_2 - 1)) then (if (wrap64 (x3_2 - 1)) < (l0_0.length : Int) then (if ((a_p l0_0 (wrap64 (x3_2 - 1))).f0) ≥ ((a_p l0_0 x3_2).f0) then (some false) else (a_r.l0 k2 (wrap64 (x3_2 + 1)) l0_0 a0_1)) else (none)) else (none)) else (a_r.l0 k2 (wrap64 (x3_2 + 1)) l0_0 a0_1))) = some r:=by rw [if_pos rfl] at H;exact H
     clear H
     have H:=H1
     clear H1
     by_cases c14 : ((a_p l0_0 x3_2).f0) > a0_1
     ·rw [if_pos c14] at H
      have c14b0 : decide (a0_1 < ((a_p l0_0 x3_2).f0)) = true:=decide_eq_true c14
      clear c14
      obtain rfl:=Option.some.inj H
      have l_s : wr.cell? ⟨d_T,0,none⟩ = some (.slice A0_0 l0_0.length c0_0):=(a_a b_L.out 0).trans rfl
      have l_t : wr.cell? ⟨d_T,1,none⟩ = some (.int .i64 a0_1):=(a_a b_L.out 1).trans rfl
      have l_u:=a_b b_L.out 0
      have l_v:=a_b b_L.out 1
      try go_wp2
      replace b_L:=a_d.mk (a_m b_L.out)
      replace HB:=a_d.mk (a_h HB.out)
      have p220 : 0 ≤ (x3_2 : Int):=of_decide_eq_true (by first|(with_reducible assumption)|assumption)
      have q220 : x3_2 < (l0_0.length : Int):=of_decide_eq_true (by first|(with_reducible assumption)|assumption)
      obtain ⟨ad220,A220_1,c220_1,e220,b_9,c_a,e_b,e_c⟩:=c_y b_q.out x3_2 p220 q220
      have c_D:=c_a
      have c_E:=b_9
      cases e220
      replace b_9:=(HB.out.cell (World.block_lt_of_cell? w _ b_9)).trans b_9
      replace c_a:=(HB.out.cell (World.block_lt_of_cell? w _ c_a)).trans c_a
      have e_d:=a_d.mk e_c
      have e_V:=a_d.mk e_b
      clear e_c e_b
      replace p220:=eq_true p220
      replace q220:=eq_true q220
      have p222 : 0 ≤ (x3_2 : Int):=of_decide_eq_true (by first|(with_reducible assumption)|assumption)
      have q222 : x3_2 < (l0_0.length : Int):=of_decide_eq_true (by first|(with_reducible assumption)|assumption)
      obtain ⟨ad222,A222_1,c222_1,e222,c_J,c_z,e_x,e_y⟩:=c_y b_q.out x3_2 p222 q222
      have d_t:=c_z
      have d_u:=c_J
      obtain rfl : ad220 = ad222:=(by injection e222)
      replace c_J:=(HB.out.cell (World.block_lt_of_cell? w _ c_J)).trans c_J
      replace c_z:=(HB.out.cell (World.block_lt_of_cell? w _ c_z)).trans c_z
      have g_h:=a_d.mk e_y
      have l_w:=a_d.mk e_x
      clear e_y e_x
      replace p222:=eq_true p222
      replace q222:=eq_true q222
      refine c_9 (n:=38) (S:=fun w' => w'.cell? ⟨d_T,0,none⟩ = some (.slice (some ad220) l0_0.length c0_0) ∧ w'.cell? ⟨d_T,1,none⟩ = some (.int .i64 a0_1) ∧ w'.cell? (ad220.add ((x3_2).toNat * 2)) = some (.int .i64 ((a_p l0_0 x3_2).f0)) ∧ w'.cell? ⟨(ad220.add ((x3_2).toNat * 2)).block,(ad220.add ((x3_2).toNat * 2)).off + 1,none⟩ = some (.slice A220_1 ((a_p l0_0 x3_2).f1).length c220_1) ∧ w'.cell? (ad220.add ((x3_2).toNat * 2)) = some (.int .i64 ((a_p l0_0 x3_2).f0)) ∧ w'.cell? ⟨(ad220.add ((x3_2).toNat * 2)).block,(ad220.add ((x3_2).toNat * 2)).off + 1,none⟩ = some (.slice A222_1 ((a_p l0_0 x3_2).f1).length c222_1)) (ds:=[]) Z0_ (by kernel_rfl) rfl rfl ⟨(a_a b_L.out 0).trans rfl,(a_a b_L.out 1).trans rfl,((HB.out.cell (World.block_lt_of_cell? w _ c_E)).trans c_E),((HB.out.cell (World.block_lt_of_cell? w _ c_D)).trans c_D),((HB.out.cell (World.block_lt_of_cell? w _ d_u)).trans d_u),((HB.out.cell (World.block_lt_of_cell? w _ d_t)).trans d_t)⟩ (fun hHeld => ?_);refine b_P a_r.tab6 a_r.e_I (fun HT_ HW_ => ?_)
      generalize wr.drew = w16 at b_L HB e_d g_h b_9 c_a c_J c_z hHeld ⊢
      refine a_z (i:=0) (N:=some 25) (v:=?_) (a':=?_) Z4_ rfl rfl (a_q HT_.out (by kernel_rfl)) (fun _ _ _ h => h) (Or.inl ⟨by rfl,?_⟩) ?_ ?_
      rotate_left
      ·intro w'
       go_simp
       with_reducible rfl
      rotate_left
      ·simp only [Act.put,sa_,sb_,sc_,a_t,a_u]
       rfl
      refine a_z (i:=2) (N:=some 27) (v:=?_) (a':=?_) Z8_ rfl rfl (a_q HT_.out (by kernel_rfl)) (fun _ _ _ h => h) (Or.inl ⟨by rfl,?_⟩) ?_ ?_
      rotate_left
      ·intro w'
       go_simp
       with_reducible rfl
      rotate_left
      ·simp only [Act.put,sa_,sb_,sc_,a_t,a_u]
       rfl
      refine b_l (i:=1) (N:=some 26) (v:=?_) (a':=?_) Z12_ rfl rfl (a_O HT_.out HW_.out (by kernel_rfl)) (fun _ _ _ h => h) (Or.inl ⟨by rfl,?_⟩) hHeld ?_ ?_
      rotate_left
      ·rintro w' ⟨s0,s1,s2,s3,s4,s5⟩
       go_simp
       with_reducible rfl
      rotate_left
      ·simp only [Act.put,sa_,sb_,sc_,a_t,a_u]
       rfl
      refine a_z (i:=3) (N:=some 28) (v:=?_) (a':=?_) Z16_ rfl rfl (a_q HT_.out (by kernel_rfl)) (fun _ _ _ h => h) (Or.inl ⟨by rfl,?_⟩) ?_ ?_
      rotate_left
      ·intro w'
       go_simp
       with_reducible rfl
      rotate_left
      ·simp only [Act.put,sa_,sb_,sc_,a_t,a_u]
       rfl
      refine b_l (i:=4) (N:=some 29) (v:=?_) (a':=?_) Z20_ rfl rfl (a_O HT_.out HW_.out (by kernel_rfl)) (fun _ _ _ h => h) (Or.inl ⟨by rfl,?_⟩) hHeld ?_ ?_
      rotate_left
      ·rintro w' ⟨s0,s1,s2,s3,s4,s5⟩
       go_simp
       with_reducible rfl
      rotate_left
      ·simp only [Act.put,sa_,sb_,sc_,a_t,a_u]
       rfl
      refine one_ (i:=5) (N:=some 30) Z25_ rfl rfl (b_7 HT_.out (by kernel_rfl)) (by decide) (fun K hK => ?_)
      refine d_O Try.func26 (by kernel_rfl) rfl #[.agg #[.int .i64 ((a_p l0_0 x3_2).f0),.slice A220_1 ((a_p l0_0 x3_2).f1).length c220_1]] (by rfl) rfl rfl (by (try simp only [List.map_toArray,List.map_cons,List.map_nil]);first|done|rfl|(simp only [List.length_drop,List.length_take];rfl)) ?_
      with_reducible refine (a_k.calls k2 ((a_p l0_0 x3_2).f0) _ _ ((a_p l0_0 x3_2).f1) true _ ?side1 ?side2 A12.out).mono ?_
      (case side1 => repeat (first|exact (Kd.a_U e_d.out HB.out)|(with_reducible refine Kd.a_V ?_ _)|(with_reducible refine Kd.a_W ?_ _)|(with_reducible refine Kd.a_5 ?_)))
      (case side2 => exact e_V.out)
      rintro e w17 ⟨rfl,hb⟩
      refine ⟨_,rfl,?_⟩
      replace b_L:=a_d.mk (a_i (bup_ b_L.out) hb)
      replace HB:=a_d.mk (a_o (by repeat (first|(with_reducible first|exact HB.out|apply a_g|apply a_e|apply a_h|refine a_f ?_ f_2.out)|exact HB.out)) hb)
      (try clear hb)
      (try clear hb2)
      (try clear hk)
      (try clear hi)
      refine hK.out _ _ ⟨(a_a b_L.out 0).trans rfl,(a_a b_L.out 1).trans rfl,((HB.out.cell (World.block_lt_of_cell? w _ c_E)).trans c_E),((HB.out.cell (World.block_lt_of_cell? w _ c_D)).trans c_D),((HB.out.cell (World.block_lt_of_cell? w _ d_u)).trans d_u),((HB.out.cell (World.block_lt_of_cell? w _ d_t)).trans d_t)⟩ (fun hHeld => ?_)
      clear hK K
      refine d_A (a':=?_) ?_ ?_
      rotate_left
      ·show Act.put _ (some 30) _ = _
       simp only [Act.put,sa_,sb_,sc_,a_t,a_u]
       rfl
      refine a_z (i:=6) (N:=some 31) (v:=?_) (a':=?_) Z28_ rfl rfl (a_q HT_.out (by kernel_rfl)) (fun _ _ _ h => h) (Or.inl ⟨by rfl,?_⟩) ?_ ?_
      rotate_left
      ·intro w'
       go_simp
       with_reducible rfl
      rotate_left
      ·simp only [Act.put,sa_,sb_,sc_,a_t,a_u]
       rfl
      refine a_z (i:=7) (N:=some 32) (v:=?_) (a':=?_) Z32_ rfl rfl (a_q HT_.out (by kernel_rfl)) (fun _ _ _ h => h) (Or.inl ⟨by rfl,?_⟩) ?_ ?_
      rotate_left
      ·intro w'
       go_simp
       with_reducible rfl
      rotate_left
      ·simp only [Act.put,sa_,sb_,sc_,a_t,a_u]
       rfl
      refine a_z (i:=8) (N:=some 33) (v:=?_) (a':=?_) Z39_ rfl rfl (a_q HT_.out (by kernel_rfl)) (fun _ _ _ h => h) (Or.inl ⟨by rfl,?_⟩) ?_ ?_
      rotate_left
      ·intro w'
       go_simp
       with_reducible rfl
      rotate_left
      ·simp only [Act.put,sa_,sb_,sc_,a_t,a_u]
       rfl
      refine a_z (i:=10) (N:=some 35) (v:=?_) (a':=?_) Z43_ rfl rfl (a_q HT_.out (by kernel_rfl)) (fun _ _ _ h => h) (Or.inl ⟨by rfl,?_⟩) ?_ ?_
      rotate_left
      ·intro w'
       go_simp
       with_reducible rfl
      rotate_left
      ·simp only [Act.put,sa_,sb_,sc_,a_t,a_u]
       rfl
      refine a_z (i:=14) (N:=some 39) (v:=?_) (a':=?_) Z44_ rfl rfl (a_q HT_.out (by kernel_rfl)) (fun _ _ _ h => h) (Or.inl ⟨by rfl,?_⟩) ?_ ?_
      rotate_left
      ·intro w'
       go_simp
       with_reducible rfl
      rotate_left
      ·simp only [Act.put,sa_,sb_,sc_,a_t,a_u]
       rfl
      refine b_l (i:=9) (N:=some 34) (v:=?_) (a':=?_) Z51_ rfl rfl (a_O HT_.out HW_.out (by kernel_rfl)) (fun _ _ _ h => h) (Or.inl ⟨by rfl,?_⟩) hHeld ?_ ?_
      rotate_left
      ·rintro w' ⟨s0,s1,s2,s3,s4,s5⟩
       go_simp
       with_reducible rfl
      rotate_left
      ·simp only [Act.put,sa_,sb_,sc_,a_t,a_u]
       rfl
      refine a_z (i:=11) (N:=some 36) (v:=?_) (a':=?_) Z56_ rfl rfl (a_q HT_.out (by kernel_rfl)) (fun _ _ _ h => h) (Or.inl ⟨by rfl,?_⟩) ?_ ?_
      rotate_left
      ·intro w'
       go_simp
       with_reducible rfl
      rotate_left
      ·simp only [Act.put,sa_,sb_,sc_,a_t,a_u]
       rfl
      refine a_z (i:=12) (N:=some 37) (v:=?_) (a':=?_) Z61_ rfl rfl (a_q HT_.out (by kernel_rfl)) (fun _ _ _ h => h) (Or.inl ⟨by rfl,?_⟩) ?_ ?_
      rotate_left
      ·intro w'
       go_simp
       with_reducible rfl
      rotate_left
      ·simp only [Act.put,sa_,sb_,sc_,a_t,a_u]
       rfl
      refine b_l (i:=13) (N:=some 38) (v:=?_) (a':=?_) Z66_ rfl rfl (a_O HT_.out HW_.out (by kernel_rfl)) (fun _ _ _ h => h) (Or.inl ⟨by rfl,?_⟩) hHeld ?_ ?_
      rotate_left
      ·rintro w' ⟨s0,s1,s2,s3,s4,s5⟩
       go_simp
       with_reducible rfl
      rotate_left
      ·simp only [Act.put,sa_,sb_,sc_,a_t,a_u]
       rfl
      refine b_l (i:=15) (N:=some 40) (v:=?_) (a':=?_) Z73_ rfl rfl (a_O HT_.out HW_.out (by kernel_rfl)) (fun _ _ _ h => h) (Or.inl ⟨by rfl,?_⟩) hHeld ?_ ?_
      rotate_left
      ·rintro w' ⟨s0,s1,s2,s3,s4,s5⟩
       go_simp
       with_reducible rfl
      rotate_left
      ·simp only [Act.put,sa_,sb_,sc_,a_t,a_u]
       rfl
      refine a_z (i:=16) (N:=some 41) (v:=?_) (a':=?_) Z77_ rfl rfl (a_q HT_.out (by kernel_rfl)) (fun _ _ _ h => h) (Or.inl ⟨by rfl,?_⟩) ?_ ?_
      rotate_left
      ·intro w'
       go_simp
       with_reducible rfl
      rotate_left
      ·simp only [Act.put,sa_,sb_,sc_,a_t,a_u]
       rfl
      refine a_z (i:=17) (N:=some 42) (v:=?_) (a':=?_) Z81_ rfl rfl (a_q HT_.out (by kernel_rfl)) (fun _ _ _ h => h) (Or.inl ⟨by rfl,?_⟩) ?_ ?_
      rotate_left
      ·intro w'
       go_simp
       with_reducible rfl
      rotate_left
      ·simp only [Act.put,sa_,sb_,sc_,a_t,a_u]
       rfl
      refine a_z (i:=18) (N:=some 43) (v:=?_) (a':=?_) Z86_ rfl rfl (a_q HT_.out (by kernel_rfl)) (fun _ _ _ h => h) (Or.inl ⟨by rfl,?_⟩) ?_ ?_
      rotate_left
      ·intro w'
       go_simp
       with_reducible rfl
      rotate_left
      ·simp only [Act.put,sa_,sb_,sc_,a_t,a_u]
       rfl
      refine a_z (i:=19) (N:=some 44) (v:=undef) (a':=?_) Z90_ rfl rfl (a_q HT_.out (by kernel_rfl)) (fun _ _ _ h => h) (Or.inr ⟨by rfl,rfl⟩) ?_ ?_
      rotate_left
      ·simp only [Act.put,sa_,sb_,sc_,a_t,a_u]
       rfl
      refine a_z (i:=20) (N:=some 45) (v:=undef) (a':=?_) Z94_ rfl rfl (a_q HT_.out (by kernel_rfl)) (fun _ _ _ h => h) (Or.inr ⟨by rfl,rfl⟩) ?_ ?_
      rotate_left
      ·simp only [Act.put,sa_,sb_,sc_,a_t,a_u]
       rfl
      refine a_z (i:=21) (N:=some 46) (v:=undef) (a':=?_) Z98_ rfl rfl (a_q HT_.out (by kernel_rfl)) (fun _ _ _ h => h) (Or.inr ⟨by rfl,rfl⟩) ?_ ?_
      rotate_left
      ·simp only [Act.put,sa_,sb_,sc_,a_t,a_u]
       rfl
      refine a_z (i:=22) (N:=some 47) (v:=undef) (a':=?_) o_u rfl rfl (a_q HT_.out (by kernel_rfl)) (fun _ _ _ h => h) (Or.inr ⟨by rfl,rfl⟩) ?_ ?_
      rotate_left
      ·simp only [Act.put,sa_,sb_,sc_,a_t,a_u]
       rfl
      refine a_z (i:=23) (N:=some 48) (v:=undef) (a':=?_) s_j rfl rfl (a_q HT_.out (by kernel_rfl)) (fun _ _ _ h => h) (Or.inr ⟨by rfl,rfl⟩) ?_ ?_
      rotate_left
      ·simp only [Act.put,sa_,sb_,sc_,a_t,a_u]
       rfl
      refine a_z (i:=24) (N:=some 49) (v:=undef) (a':=?_) s_e rfl rfl (a_q HT_.out (by kernel_rfl)) (fun _ _ _ h => h) (Or.inr ⟨by rfl,rfl⟩) ?_ ?_
      rotate_left
      ·simp only [Act.put,sa_,sb_,sc_,a_t,a_u]
       rfl
      refine a_z (i:=25) (N:=some 50) (v:=undef) (a':=?_) r_S rfl rfl (a_q HT_.out (by kernel_rfl)) (fun _ _ _ h => h) (Or.inr ⟨by rfl,rfl⟩) ?_ ?_
      rotate_left
      ·simp only [Act.put,sa_,sb_,sc_,a_t,a_u]
       rfl
      refine a_z (i:=26) (N:=some 51) (v:=undef) (a':=?_) s_i rfl rfl (a_q HT_.out (by kernel_rfl)) (fun _ _ _ h => h) (Or.inr ⟨by rfl,rfl⟩) ?_ ?_
      rotate_left
      ·simp only [Act.put,sa_,sb_,sc_,a_t,a_u]
       rfl
      refine a_z (i:=27) (N:=some 52) (v:=undef) (a':=?_) r_9 rfl rfl (a_q HT_.out (by kernel_rfl)) (fun _ _ _ h => h) (Or.inr ⟨by rfl,rfl⟩) ?_ ?_
      rotate_left
      ·simp only [Act.put,sa_,sb_,sc_,a_t,a_u]
       rfl
      refine a_z (i:=28) (N:=some 53) (v:=undef) (a':=?_) r_P rfl rfl (a_q HT_.out (by kernel_rfl)) (fun _ _ _ h => h) (Or.inr ⟨by rfl,rfl⟩) ?_ ?_
      rotate_left
      ·simp only [Act.put,sa_,sb_,sc_,a_t,a_u]
       rfl
      refine a_z (i:=29) (N:=some 54) (v:=undef) (a':=?_) r_2 rfl rfl (a_q HT_.out (by kernel_rfl)) (fun _ _ _ h => h) (Or.inr ⟨by rfl,rfl⟩) ?_ ?_
      rotate_left
      ·simp only [Act.put,sa_,sb_,sc_,a_t,a_u]
       rfl
      refine a_z (i:=30) (N:=some 55) (v:=undef) (a':=?_) r_Y rfl rfl (a_q HT_.out (by kernel_rfl)) (fun _ _ _ h => h) (Or.inr ⟨by rfl,rfl⟩) ?_ ?_
      rotate_left
      ·simp only [Act.put,sa_,sb_,sc_,a_t,a_u]
       rfl
      refine a_z (i:=31) (N:=some 56) (v:=undef) (a':=?_) n_9 rfl rfl (a_q HT_.out (by kernel_rfl)) (fun _ _ _ h => h) (Or.inr ⟨by rfl,rfl⟩) ?_ ?_
      rotate_left
      ·simp only [Act.put,sa_,sb_,sc_,a_t,a_u]
       rfl
      refine a_z (i:=32) (N:=some 57) (v:=undef) (a':=?_) o_j rfl rfl (a_q HT_.out (by kernel_rfl)) (fun _ _ _ h => h) (Or.inr ⟨by rfl,rfl⟩) ?_ ?_
      rotate_left
      ·simp only [Act.put,sa_,sb_,sc_,a_t,a_u]
       rfl
      refine a_z (i:=33) (N:=some 58) (v:=undef) (a':=?_) n_X rfl rfl (a_q HT_.out (by kernel_rfl)) (fun _ _ _ h => h) (Or.inr ⟨by rfl,rfl⟩) ?_ ?_
      rotate_left
      ·simp only [Act.put,sa_,sb_,sc_,a_t,a_u]
       rfl
      refine a_z (i:=34) (N:=some 59) (v:=undef) (a':=?_) o_i rfl rfl (a_q HT_.out (by kernel_rfl)) (fun _ _ _ h => h) (Or.inr ⟨by rfl,rfl⟩) ?_ ?_
      rotate_left
      ·simp only [Act.put,sa_,sb_,sc_,a_t,a_u]
       rfl
      refine a_z (i:=35) (N:=some 60) (v:=undef) (a':=?_) n_6 rfl rfl (a_q HT_.out (by kernel_rfl)) (fun _ _ _ h => h) (Or.inr ⟨by rfl,rfl⟩) ?_ ?_
      rotate_left
      ·simp only [Act.put,sa_,sb_,sc_,a_t,a_u]
       rfl
      refine a_z (i:=36) (N:=some 61) (v:=undef) (a':=?_) n_7 rfl rfl (a_q HT_.out (by kernel_rfl)) (fun _ _ _ h => h) (Or.inr ⟨by rfl,rfl⟩) ?_ ?_
      rotate_left
      ·simp only [Act.put,sa_,sb_,sc_,a_t,a_u]
       rfl
      refine a_z (i:=37) (N:=some 62) (v:=?_) (a':=?_) o_c rfl rfl (a_q HT_.out (by kernel_rfl)) (fun _ _ _ h => h) (Or.inl ⟨by rfl,?_⟩) ?_ ?_
      rotate_left
      ·intro w'
       go_simp
       with_reducible rfl
      rotate_left
      ·simp only [Act.put,sa_,sb_,sc_,a_t,a_u]
       rfl
      refine e_j (c_q HT_.out (by kernel_rfl)) ?_
      try go_wp2
      go_ret
      exact ⟨by first|rfl|(simp [a_w,a_x] <;> rfl)|(simp [*, a_w,a_x] <;> rfl),by repeat (first|(with_reducible first|exact HB.out|apply a_g|apply a_e|apply a_h|refine a_f ?_ f_2.out)|exact HB.out)⟩
     rw [if_neg c14] at H
     have c14b0 : decide (a0_1 < ((a_p l0_0 x3_2).f0)) = false:=decide_eq_false c14
     clear c14
     by_cases c18 : x3_2 > 0
     rotate_left
     ·rw [if_neg c18] at H
      have c18b0 : decide (0 < x3_2) = false:=decide_eq_false c18
      clear c18
      have H':=a_d.mk H
      clear H
      have g_0 : wr.cell? ⟨d_T,0,none⟩ = some (.slice A0_0 l0_0.length c0_0):=(a_a b_L.out 0).trans rfl
      have g_1 : wr.cell? ⟨d_T,1,none⟩ = some (.int .i64 a0_1):=(a_a b_L.out 1).trans rfl
      have g_2:=a_b b_L.out 0
      have g_3:=a_b b_L.out 1
      try go_wp2
      replace b_L:=a_d.mk (a_m b_L.out)
      replace HB:=a_d.mk (a_h HB.out)
      have p220 : 0 ≤ (x3_2 : Int):=of_decide_eq_true (by first|(with_reducible assumption)|assumption)
      have q220 : x3_2 < (l0_0.length : Int):=of_decide_eq_true (by first|(with_reducible assumption)|assumption)
      obtain ⟨ad220,A220_1,c220_1,e220,b_9,c_a,e_b,e_c⟩:=c_y b_q.out x3_2 p220 q220
      have c_D:=c_a
      have c_E:=b_9
      cases e220
      replace b_9:=(HB.out.cell (World.block_lt_of_cell? w _ b_9)).trans b_9
      replace c_a:=(HB.out.cell (World.block_lt_of_cell? w _ c_a)).trans c_a
      have e_d:=a_d.mk e_c
      have e_V:=a_d.mk e_b
      clear e_c e_b
      replace p220:=eq_true p220
      replace q220:=eq_true q220
      have p222 : 0 ≤ (x3_2 : Int):=of_decide_eq_true (by first|(with_reducible assumption)|assumption)
      have q222 : x3_2 < (l0_0.length : Int):=of_decide_eq_true (by first|(with_reducible assumption)|assumption)
      obtain ⟨ad222,A222_1,c222_1,e222,c_J,c_z,e_x,e_y⟩:=c_y b_q.out x3_2 p222 q222
      have d_t:=c_z
      have d_u:=c_J
      obtain rfl : ad220 = ad222:=(by injection e222)
      replace c_J:=(HB.out.cell (World.block_lt_of_cell? w _ c_J)).trans c_J
      replace c_z:=(HB.out.cell (World.block_lt_of_cell? w _ c_z)).trans c_z
      have g_h:=a_d.mk e_y
      have l_w:=a_d.mk e_x
      clear e_y e_x
      replace p222:=eq_true p222
      replace q222:=eq_true q222
      refine c_9 (n:=38) (S:=fun w' => w'.cell? ⟨d_T,0,none⟩ = some (.slice (some ad220) l0_0.length c0_0) ∧ w'.cell? ⟨d_T,1,none⟩ = some (.int .i64 a0_1) ∧ w'.cell? (ad220.add ((x3_2).toNat * 2)) = some (.int .i64 ((a_p l0_0 x3_2).f0)) ∧ w'.cell? ⟨(ad220.add ((x3_2).toNat * 2)).block,(ad220.add ((x3_2).toNat * 2)).off + 1,none⟩ = some (.slice A220_1 ((a_p l0_0 x3_2).f1).length c220_1) ∧ w'.cell? (ad220.add ((x3_2).toNat * 2)) = some (.int .i64 ((a_p l0_0 x3_2).f0)) ∧ w'.cell? ⟨(ad220.add ((x3_2).toNat * 2)).block,(ad220.add ((x3_2).toNat * 2)).off + 1,none⟩ = some (.slice A222_1 ((a_p l0_0 x3_2).f1).length c222_1)) (ds:=[]) Z0_ (by kernel_rfl) rfl rfl ⟨(a_a b_L.out 0).trans rfl,(a_a b_L.out 1).trans rfl,((HB.out.cell (World.block_lt_of_cell? w _ c_E)).trans c_E),((HB.out.cell (World.block_lt_of_cell? w _ c_D)).trans c_D),((HB.out.cell (World.block_lt_of_cell? w _ d_u)).trans d_u),((HB.out.cell (World.block_lt_of_cell? w _ d_t)).trans d_t)⟩ (fun hHeld => ?_);refine b_P a_r.tab6 a_r.e_I (fun HT_ HW_ => ?_)
      generalize wr.drew = w30 at b_L HB e_d g_h b_9 c_a c_J c_z hHeld ⊢
      refine a_z (i:=0) (N:=some 25) (v:=?_) (a':=?_) Z4_ rfl rfl (a_q HT_.out (by kernel_rfl)) (fun _ _ _ h => h) (Or.inl ⟨by rfl,?_⟩) ?_ ?_
      rotate_left
      ·intro w'
       go_simp
       with_reducible rfl
      rotate_left
      ·simp only [Act.put,sa_,sb_,sc_,a_t,a_u]
       rfl
      refine a_z (i:=2) (N:=some 27) (v:=?_) (a':=?_) Z8_ rfl rfl (a_q HT_.out (by kernel_rfl)) (fun _ _ _ h => h) (Or.inl ⟨by rfl,?_⟩) ?_ ?_
      rotate_left
      ·intro w'
       go_simp
       with_reducible rfl
      rotate_left
      ·simp only [Act.put,sa_,sb_,sc_,a_t,a_u]
       rfl
      refine b_l (i:=1) (N:=some 26) (v:=?_) (a':=?_) Z12_ rfl rfl (a_O HT_.out HW_.out (by kernel_rfl)) (fun _ _ _ h => h) (Or.inl ⟨by rfl,?_⟩) hHeld ?_ ?_
      rotate_left
      ·rintro w' ⟨s0,s1,s2,s3,s4,s5⟩
       go_simp
       with_reducible rfl
      rotate_left
      ·simp only [Act.put,sa_,sb_,sc_,a_t,a_u]
       rfl
      refine a_z (i:=3) (N:=some 28) (v:=?_) (a':=?_) Z16_ rfl rfl (a_q HT_.out (by kernel_rfl)) (fun _ _ _ h => h) (Or.inl ⟨by rfl,?_⟩) ?_ ?_
      rotate_left
      ·intro w'
       go_simp
       with_reducible rfl
      rotate_left
      ·simp only [Act.put,sa_,sb_,sc_,a_t,a_u]
       rfl
      refine b_l (i:=4) (N:=some 29) (v:=?_) (a':=?_) Z20_ rfl rfl (a_O HT_.out HW_.out (by kernel_rfl)) (fun _ _ _ h => h) (Or.inl ⟨by rfl,?_⟩) hHeld ?_ ?_
      rotate_left
      ·rintro w' ⟨s0,s1,s2,s3,s4,s5⟩
       go_simp
       with_reducible rfl
      rotate_left
      ·simp only [Act.put,sa_,sb_,sc_,a_t,a_u]
       rfl
      refine one_ (i:=5) (N:=some 30) Z25_ rfl rfl (b_7 HT_.out (by kernel_rfl)) (by decide) (fun K hK => ?_)
      refine d_O Try.func26 (by kernel_rfl) rfl #[.agg #[.int .i64 ((a_p l0_0 x3_2).f0),.slice A220_1 ((a_p l0_0 x3_2).f1).length c220_1]] (by rfl) rfl rfl (by (try simp only [List.map_toArray,List.map_cons,List.map_nil]);first|done|rfl|(simp only [List.length_drop,List.length_take];rfl)) ?_
      with_reducible refine (a_k.calls k2 ((a_p l0_0 x3_2).f0) _ _ ((a_p l0_0 x3_2).f1) true _ ?side1 ?side2 A12.out).mono ?_
      (case side1 => repeat (first|exact (Kd.a_U e_d.out HB.out)|(with_reducible refine Kd.a_V ?_ _)|(with_reducible refine Kd.a_W ?_ _)|(with_reducible refine Kd.a_5 ?_)))
      (case side2 => exact e_V.out)
      rintro e w31 ⟨rfl,hb⟩
      refine ⟨_,rfl,?_⟩
      replace b_L:=a_d.mk (a_i (bup_ b_L.out) hb)
      replace HB:=a_d.mk (a_o (by repeat (first|(with_reducible first|exact HB.out|apply a_g|apply a_e|apply a_h|refine a_f ?_ f_2.out)|exact HB.out)) hb)
      (try clear hb)
      (try clear hb2)
      (try clear hk)
      (try clear hi)
      refine hK.out _ _ ⟨(a_a b_L.out 0).trans rfl,(a_a b_L.out 1).trans rfl,((HB.out.cell (World.block_lt_of_cell? w _ c_E)).trans c_E),((HB.out.cell (World.block_lt_of_cell? w _ c_D)).trans c_D),((HB.out.cell (World.block_lt_of_cell? w _ d_u)).trans d_u),((HB.out.cell (World.block_lt_of_cell? w _ d_t)).trans d_t)⟩ (fun hHeld => ?_)
      clear hK K
      refine d_A (a':=?_) ?_ ?_
      rotate_left
      ·show Act.put _ (some 30) _ = _
       simp only [Act.put,sa_,sb_,sc_,a_t,a_u]
       rfl
      refine a_z (i:=6) (N:=some 31) (v:=?_) (a':=?_) Z28_ rfl rfl (a_q HT_.out (by kernel_rfl)) (fun _ _ _ h => h) (Or.inl ⟨by rfl,?_⟩) ?_ ?_
      rotate_left
      ·intro w'
       go_simp
       with_reducible rfl
      rotate_left
      ·simp only [Act.put,sa_,sb_,sc_,a_t,a_u]
       rfl
      refine a_z (i:=7) (N:=some 32) (v:=?_) (a':=?_) Z32_ rfl rfl (a_q HT_.out (by kernel_rfl)) (fun _ _ _ h => h) (Or.inl ⟨by rfl,?_⟩) ?_ ?_
      rotate_left
      ·intro w'
       go_simp
       with_reducible rfl
      rotate_left
      ·simp only [Act.put,sa_,sb_,sc_,a_t,a_u]
       rfl
      refine a_z (i:=8) (N:=some 33) (v:=?_) (a':=?_) Z39_ rfl rfl (a_q HT_.out (by kernel_rfl)) (fun _ _ _ h => h) (Or.inl ⟨by rfl,?_⟩) ?_ ?_
      rotate_left
      ·intro w'
       go_simp
       with_reducible rfl
      rotate_left
      ·simp only [Act.put,sa_,sb_,sc_,a_t,a_u]
       rfl
      refine a_z (i:=10) (N:=some 35) (v:=?_) (a':=?_) Z43_ rfl rfl (a_q HT_.out (by kernel_rfl)) (fun _ _ _ h => h) (Or.inl ⟨by rfl,?_⟩) ?_ ?_
      rotate_left
      ·intro w'
       go_simp
       with_reducible rfl
      rotate_left
      ·simp only [Act.put,sa_,sb_,sc_,a_t,a_u]
       rfl
      refine a_z (i:=14) (N:=some 39) (v:=?_) (a':=?_) Z44_ rfl rfl (a_q HT_.out (by kernel_rfl)) (fun _ _ _ h => h) (Or.inl ⟨by rfl,?_⟩) ?_ ?_
      rotate_left
      ·intro w'
       go_simp
       with_reducible rfl
      rotate_left
      ·simp only [Act.put,sa_,sb_,sc_,a_t,a_u]
       rfl
      refine b_l (i:=9) (N:=some 34) (v:=?_) (a':=?_) Z51_ rfl rfl (a_O HT_.out HW_.out (by kernel_rfl)) (fun _ _ _ h => h) (Or.inl ⟨by rfl,?_⟩) hHeld ?_ ?_
      rotate_left
      ·rintro w' ⟨s0,s1,s2,s3,s4,s5⟩
       go_simp
       with_reducible rfl
      rotate_left
      ·simp only [Act.put,sa_,sb_,sc_,a_t,a_u]
       rfl
      refine a_z (i:=11) (N:=some 36) (v:=?_) (a':=?_) Z56_ rfl rfl (a_q HT_.out (by kernel_rfl)) (fun _ _ _ h => h) (Or.inl ⟨by rfl,?_⟩) ?_ ?_
      rotate_left
      ·intro w'
       go_simp
       with_reducible rfl
      rotate_left
      ·simp only [Act.put,sa_,sb_,sc_,a_t,a_u]
       rfl
      refine a_z (i:=12) (N:=some 37) (v:=?_) (a':=?_) Z61_ rfl rfl (a_q HT_.out (by kernel_rfl)) (fun _ _ _ h => h) (Or.inl ⟨by rfl,?_⟩) ?_ ?_
      rotate_left
      ·intro w'
       go_simp
       with_reducible rfl
      rotate_left
      ·simp only [Act.put,sa_,sb_,sc_,a_t,a_u]
       rfl
      refine b_l (i:=13) (N:=some 38) (v:=?_) (a':=?_) Z66_ rfl rfl (a_O HT_.out HW_.out (by kernel_rfl)) (fun _ _ _ h => h) (Or.inl ⟨by rfl,?_⟩) hHeld ?_ ?_
      rotate_left
      ·rintro w' ⟨s0,s1,s2,s3,s4,s5⟩
       go_simp
       with_reducible rfl
      rotate_left
      ·simp only [Act.put,sa_,sb_,sc_,a_t,a_u]
       rfl
      refine b_l (i:=15) (N:=some 40) (v:=?_) (a':=?_) Z73_ rfl rfl (a_O HT_.out HW_.out (by kernel_rfl)) (fun _ _ _ h => h) (Or.inl ⟨by rfl,?_⟩) hHeld ?_ ?_
      rotate_left
      ·rintro w' ⟨s0,s1,s2,s3,s4,s5⟩
       go_simp
       with_reducible rfl
      rotate_left
      ·simp only [Act.put,sa_,sb_,sc_,a_t,a_u]
       rfl
      refine a_z (i:=16) (N:=some 41) (v:=?_) (a':=?_) Z77_ rfl rfl (a_q HT_.out (by kernel_rfl)) (fun _ _ _ h => h) (Or.inl ⟨by rfl,?_⟩) ?_ ?_
      rotate_left
      ·intro w'
       go_simp
       with_reducible rfl
      rotate_left
      ·simp only [Act.put,sa_,sb_,sc_,a_t,a_u]
       rfl
      refine a_z (i:=17) (N:=some 42) (v:=?_) (a':=?_) Z81_ rfl rfl (a_q HT_.out (by kernel_rfl)) (fun _ _ _ h => h) (Or.inl ⟨by rfl,?_⟩) ?_ ?_
      rotate_left
      ·intro w'
       go_simp
       with_reducible rfl
      rotate_left
      ·simp only [Act.put,sa_,sb_,sc_,a_t,a_u]
       rfl
      refine a_z (i:=18) (N:=some 43) (v:=?_) (a':=?_) Z86_ rfl rfl (a_q HT_.out (by kernel_rfl)) (fun _ _ _ h => h) (Or.inl ⟨by rfl,?_⟩) ?_ ?_
      rotate_left
      ·intro w'
       go_simp
       with_reducible rfl
      rotate_left
      ·simp only [Act.put,sa_,sb_,sc_,a_t,a_u]
       rfl
      refine a_z (i:=19) (N:=some 44) (v:=?_) (a':=?_) Z90_ rfl rfl (a_q HT_.out (by kernel_rfl)) (fun _ _ _ h => h) (Or.inl ⟨by rfl,?_⟩) ?_ ?_
      rotate_left
      ·intro w'
       go_simp
       with_reducible rfl
      rotate_left
      ·simp only [Act.put,sa_,sb_,sc_,a_t,a_u]
       rfl
      refine a_z (i:=20) (N:=some 45) (v:=?_) (a':=?_) Z94_ rfl rfl (a_q HT_.out (by kernel_rfl)) (fun _ _ _ h => h) (Or.inl ⟨by rfl,?_⟩) ?_ ?_
      rotate_left
      ·intro w'
       go_simp
       with_reducible rfl
      rotate_left
      ·simp only [Act.put,sa_,sb_,sc_,a_t,a_u]
       rfl
      refine a_z (i:=21) (N:=some 46) (v:=?_) (a':=?_) Z98_ rfl rfl (a_q HT_.out (by kernel_rfl)) (fun _ _ _ h => h) (Or.inl ⟨by rfl,?_⟩) ?_ ?_
      rotate_left
      ·intro w'
       go_simp
       with_reducible rfl
      rotate_left
      ·simp only [Act.put,sa_,sb_,sc_,a_t,a_u]
       rfl
      refine a_z (i:=22) (N:=some 47) (v:=undef) (a':=?_) o_u rfl rfl (a_q HT_.out (by kernel_rfl)) (fun _ _ _ h => h) (Or.inr ⟨by rfl,rfl⟩) ?_ ?_
      rotate_left
      ·simp only [Act.put,sa_,sb_,sc_,a_t,a_u]
       rfl
      refine a_z (i:=23) (N:=some 48) (v:=undef) (a':=?_) s_j rfl rfl (a_q HT_.out (by kernel_rfl)) (fun _ _ _ h => h) (Or.inr ⟨by rfl,rfl⟩) ?_ ?_
      rotate_left
      ·simp only [Act.put,sa_,sb_,sc_,a_t,a_u]
       rfl
      refine a_z (i:=24) (N:=some 49) (v:=undef) (a':=?_) s_e rfl rfl (a_q HT_.out (by kernel_rfl)) (fun _ _ _ h => h) (Or.inr ⟨by rfl,rfl⟩) ?_ ?_
      rotate_left
      ·simp only [Act.put,sa_,sb_,sc_,a_t,a_u]
       rfl
      refine a_z (i:=25) (N:=some 50) (v:=undef) (a':=?_) r_S rfl rfl (a_q HT_.out (by kernel_rfl)) (fun _ _ _ h => h) (Or.inr ⟨by rfl,rfl⟩) ?_ ?_
      rotate_left
      ·simp only [Act.put,sa_,sb_,sc_,a_t,a_u]
       rfl
      refine a_z (i:=26) (N:=some 51) (v:=undef) (a':=?_) s_i rfl rfl (a_q HT_.out (by kernel_rfl)) (fun _ _ _ h => h) (Or.inr ⟨by rfl,rfl⟩) ?_ ?_
      rotate_left
      ·simp only [Act.put,sa_,sb_,sc_,a_t,a_u]
       rfl
      refine a_z (i:=27) (N:=some 52) (v:=undef) (a':=?_) r_9 rfl rfl (a_q HT_.out (by kernel_rfl)) (fun _ _ _ h => h) (Or.inr ⟨by rfl,rfl⟩) ?_ ?_
      rotate_left
      ·simp only [Act.put,sa_,sb_,sc_,a_t,a_u]
       rfl
      refine a_z (i:=28) (N:=some 53) (v:=undef) (a':=?_) r_P rfl rfl (a_q HT_.out (by kernel_rfl)) (fun _ _ _ h => h) (Or.inr ⟨by rfl,rfl⟩) ?_ ?_
      rotate_left
      ·simp only [Act.put,sa_,sb_,sc_,a_t,a_u]
       rfl
      refine a_z (i:=29) (N:=some 54) (v:=undef) (a':=?_) r_2 rfl rfl (a_q HT_.out (by kernel_rfl)) (fun _ _ _ h => h) (Or.inr ⟨by rfl,rfl⟩) ?_ ?_
      rotate_left
      ·simp only [Act.put,sa_,sb_,sc_,a_t,a_u]
       rfl
      refine a_z (i:=30) (N:=some 55) (v:=undef) (a':=?_) r_Y rfl rfl (a_q HT_.out (by kernel_rfl)) (fun _ _ _ h => h) (Or.inr ⟨by rfl,rfl⟩) ?_ ?_
      rotate_left
      ·simp only [Act.put,sa_,sb_,sc_,a_t,a_u]
       rfl
      refine a_z (i:=31) (N:=some 56) (v:=undef) (a':=?_) n_9 rfl rfl (a_q HT_.out (by kernel_rfl)) (fun _ _ _ h => h) (Or.inr ⟨by rfl,rfl⟩) ?_ ?_
      rotate_left
      ·simp only [Act.put,sa_,sb_,sc_,a_t,a_u]
       rfl
      refine a_z (i:=32) (N:=some 57) (v:=undef) (a':=?_) o_j rfl rfl (a_q HT_.out (by kernel_rfl)) (fun _ _ _ h => h) (Or.inr ⟨by rfl,rfl⟩) ?_ ?_
      rotate_left
      ·simp only [Act.put,sa_,sb_,sc_,a_t,a_u]
       rfl
      refine a_z (i:=33) (N:=some 58) (v:=undef) (a':=?_) n_X rfl rfl (a_q HT_.out (by kernel_rfl)) (fun _ _ _ h => h) (Or.inr ⟨by rfl,rfl⟩) ?_ ?_
      rotate_left
      ·simp only [Act.put,sa_,sb_,sc_,a_t,a_u]
       rfl
      refine a_z (i:=34) (N:=some 59) (v:=undef) (a':=?_) o_i rfl rfl (a_q HT_.out (by kernel_rfl)) (fun _ _ _ h => h) (Or.inr ⟨by rfl,rfl⟩) ?_ ?_
      rotate_left
      ·simp only [Act.put,sa_,sb_,sc_,a_t,a_u]
       rfl
      refine a_z (i:=35) (N:=some 60) (v:=undef) (a':=?_) n_6 rfl rfl (a_q HT_.out (by kernel_rfl)) (fun _ _ _ h => h) (Or.inr ⟨by rfl,rfl⟩) ?_ ?_
      rotate_left
      ·simp only [Act.put,sa_,sb_,sc_,a_t,a_u]
       rfl
      refine a_z (i:=36) (N:=some 61) (v:=?_) (a':=?_) n_7 rfl rfl (a_q HT_.out (by kernel_rfl)) (fun _ _ _ h => h) (Or.inl ⟨by rfl,?_⟩) ?_ ?_
      rotate_left
      ·intro w'
       go_simp
       with_reducible rfl
      rotate_left
      ·simp only [Act.put,sa_,sb_,sc_,a_t,a_u]
       rfl
      refine a_z (i:=37) (N:=some 62) (v:=?_) (a':=?_) o_c rfl rfl (a_q HT_.out (by kernel_rfl)) (fun _ _ _ h => h) (Or.inl ⟨by rfl,?_⟩) ?_ ?_
      rotate_left
      ·intro w'
       go_simp
       with_reducible rfl
      rotate_left
      ·simp only [Act.put,sa_,sb_,sc_,a_t,a_u]
       rfl
      refine e_j (c_q HT_.out (by kernel_rfl)) ?_
      try go_wp2
      go_roundg k2
      case measure => have:=HJ1.out;have:=HK2.out;omega
      case rel => exact ⟨(wrap64 (x3_2 + 1)),(by first|rfl|(simp;done)|(simp [*];done)),H',⟨by have:=HJ1.out;have:=HK2.out;omega⟩,⟨by (with_reducible repeat (first|refine a_l ?_ _|refine a_m ?_|refine a_j ?_ _));exact b_L.out⟩,⟨by repeat (first|(with_reducible first|exact HB.out|apply a_g|apply a_e|apply a_h|refine a_f ?_ f_2.out)|exact HB.out)⟩⟩
     rw [if_pos c18] at H
     have c18b0 : decide (0 < x3_2) = true:=decide_eq_true c18
     clear c18
     obtain ⟨ji19,hji19⟩ : ∃ j_ : Int,(wrap64 (x3_2 - 1)) = j_:=⟨_,rfl⟩
     replace H : (if 0 ≤ (ji19) then (if (ji19) < (l0_0.length : Int) then (if ((a_p l0_0 (ji19)).f0) ≥ ((a_p l0_0 x3_2).f0) then (some false) else (a_r.l0 k2 (wrap64 (x3_2 + 1)) l0_0 a0_1)) else (none)) else (none)) = some r:=by first|(rw [hji19] at H;exact H)|(simp only [hji19] at H ⊢; exact H)
     (try rw [hji19] at A12)
     have hji19w : (IntKind.i64.wrap (x3_2 - 1)) = ji19:=(a_t _).trans hji19
     by_cases c20 : 0 ≤ (ji19)
     rotate_left
     ·rw [if_neg c20] at H
      exact absurd H (by simp)
     rw [if_pos c20] at H
     have c20b0 : decide (0 ≤ (ji19)) = true:=decide_eq_true c20
     clear c20
     by_cases c21 : (ji19) < (l0_0.length : Int)
     rotate_left
     ·rw [if_neg c21] at H
      exact absurd H (by simp)
     rw [if_pos c21] at H
     have c21b0 : decide ((ji19) < (l0_0.length : Int)) = true:=decide_eq_true c21
     clear c21
     by_cases c22 : ((a_p l0_0 (ji19)).f0) ≥ ((a_p l0_0 x3_2).f0)
     ·rw [if_pos c22] at H
      have c22b0 : decide (((a_p l0_0 x3_2).f0) ≤ ((a_p l0_0 (ji19)).f0)) = true:=decide_eq_true c22
      clear c22
      obtain rfl:=Option.some.inj H
      have p_C : wr.cell? ⟨d_T,0,none⟩ = some (.slice A0_0 l0_0.length c0_0):=(a_a b_L.out 0).trans rfl
      have p_D : wr.cell? ⟨d_T,1,none⟩ = some (.int .i64 a0_1):=(a_a b_L.out 1).trans rfl
      have p_E:=a_b b_L.out 0
      have p_F:=a_b b_L.out 1
      try go_wp2
      replace b_L:=a_d.mk (a_m b_L.out)
      replace HB:=a_d.mk (a_h HB.out)
      have p220 : 0 ≤ (x3_2 : Int):=of_decide_eq_true (by first|(with_reducible assumption)|assumption)
      have q220 : x3_2 < (l0_0.length : Int):=of_decide_eq_true (by first|(with_reducible assumption)|assumption)
      obtain ⟨ad220,A220_1,c220_1,e220,b_9,c_a,e_b,e_c⟩:=c_y b_q.out x3_2 p220 q220
      have c_D:=c_a
      have c_E:=b_9
      cases e220
      replace b_9:=(HB.out.cell (World.block_lt_of_cell? w _ b_9)).trans b_9
      replace c_a:=(HB.out.cell (World.block_lt_of_cell? w _ c_a)).trans c_a
      have e_d:=a_d.mk e_c
      have e_V:=a_d.mk e_b
      clear e_c e_b
      replace p220:=eq_true p220
      replace q220:=eq_true q220
      have p222 : 0 ≤ (x3_2 : Int):=of_decide_eq_true (by first|(with_reducible assumption)|assumption)
      have q222 : x3_2 < (l0_0.length : Int):=of_decide_eq_true (by first|(with_reducible assumption)|assumption)
      obtain ⟨ad222,A222_1,c222_1,e222,c_J,c_z,e_x,e_y⟩:=c_y b_q.out x3_2 p222 q222
      have d_t:=c_z
      have d_u:=c_J
      obtain rfl : ad220 = ad222:=(by injection e222)
      replace c_J:=(HB.out.cell (World.block_lt_of_cell? w _ c_J)).trans c_J
      replace c_z:=(HB.out.cell (World.block_lt_of_cell? w _ c_z)).trans c_z
      have g_h:=a_d.mk e_y
      have l_w:=a_d.mk e_x
      clear e_y e_x
      replace p222:=eq_true p222
      replace q222:=eq_true q222
      have p223 : 0 ≤ ((ji19) : Int):=of_decide_eq_true (by first|(with_reducible assumption)|assumption)
      have q223 : (ji19) < (l0_0.length : Int):=of_decide_eq_true (by first|(with_reducible assumption)|assumption)
      obtain ⟨ad223,A223_1,c223_1,e223,e_z,e_A,i_v,i_w⟩:=c_y b_q.out (ji19) p223 q223
      have e_W:=e_A
      have e_X:=e_z
      obtain rfl : ad220 = ad223:=(by injection e223)
      replace e_z:=(HB.out.cell (World.block_lt_of_cell? w _ e_z)).trans e_z
      replace e_A:=(HB.out.cell (World.block_lt_of_cell? w _ e_A)).trans e_A
      have l_x:=a_d.mk i_w
      have t_D:=a_d.mk i_v
      clear i_w i_v
      replace p223:=eq_true p223
      replace q223:=eq_true q223
      have p224 : 0 ≤ (x3_2 : Int):=of_decide_eq_true (by first|(with_reducible assumption)|assumption)
      have q224 : x3_2 < (l0_0.length : Int):=of_decide_eq_true (by first|(with_reducible assumption)|assumption)
      obtain ⟨ad224,A224_1,c224_1,e224,e_B,e_k,i_x,i_y⟩:=c_y b_q.out x3_2 p224 q224
      have e_Y:=e_k
      have e_Z:=e_B
      obtain rfl : ad220 = ad224:=(by injection e224)
      replace e_B:=(HB.out.cell (World.block_lt_of_cell? w _ e_B)).trans e_B
      replace e_k:=(HB.out.cell (World.block_lt_of_cell? w _ e_k)).trans e_k
      have l_y:=a_d.mk i_y
      have t_E:=a_d.mk i_x
      clear i_y i_x
      replace p224:=eq_true p224
      replace q224:=eq_true q224
      have ea_:=Option.some.inj (c_z.symm.trans e_k)
      injection ea_ with ea_ en_ ec_
      subst ea_
      subst ec_
      clear en_
      refine c_9 (n:=38) (S:=fun w' => w'.cell? ⟨d_T,0,none⟩ = some (.slice (some ad220) l0_0.length c0_0) ∧ w'.cell? ⟨d_T,1,none⟩ = some (.int .i64 a0_1) ∧ w'.cell? (ad220.add ((x3_2).toNat * 2)) = some (.int .i64 ((a_p l0_0 x3_2).f0)) ∧ w'.cell? ⟨(ad220.add ((x3_2).toNat * 2)).block,(ad220.add ((x3_2).toNat * 2)).off + 1,none⟩ = some (.slice A220_1 ((a_p l0_0 x3_2).f1).length c220_1) ∧ w'.cell? (ad220.add ((x3_2).toNat * 2)) = some (.int .i64 ((a_p l0_0 x3_2).f0)) ∧ w'.cell? ⟨(ad220.add ((x3_2).toNat * 2)).block,(ad220.add ((x3_2).toNat * 2)).off + 1,none⟩ = some (.slice A222_1 ((a_p l0_0 x3_2).f1).length c222_1) ∧ w'.cell? (ad220.add (((ji19)).toNat * 2)) = some (.int .i64 ((a_p l0_0 (ji19)).f0)) ∧ w'.cell? ⟨(ad220.add (((ji19)).toNat * 2)).block,(ad220.add (((ji19)).toNat * 2)).off + 1,none⟩ = some (.slice A223_1 ((a_p l0_0 (ji19)).f1).length c223_1) ∧ w'.cell? (ad220.add ((x3_2).toNat * 2)) = some (.int .i64 ((a_p l0_0 x3_2).f0)) ∧ w'.cell? ⟨(ad220.add ((x3_2).toNat * 2)).block,(ad220.add ((x3_2).toNat * 2)).off + 1,none⟩ = some (.slice A222_1 ((a_p l0_0 x3_2).f1).length c222_1)) (ds:=[]) Z0_ (by kernel_rfl) rfl rfl ⟨(a_a b_L.out 0).trans rfl,(a_a b_L.out 1).trans rfl,((HB.out.cell (World.block_lt_of_cell? w _ c_E)).trans c_E),((HB.out.cell (World.block_lt_of_cell? w _ c_D)).trans c_D),((HB.out.cell (World.block_lt_of_cell? w _ d_u)).trans d_u),((HB.out.cell (World.block_lt_of_cell? w _ d_t)).trans d_t),((HB.out.cell (World.block_lt_of_cell? w _ e_X)).trans e_X),((HB.out.cell (World.block_lt_of_cell? w _ e_W)).trans e_W),((HB.out.cell (World.block_lt_of_cell? w _ e_Z)).trans e_Z),((HB.out.cell (World.block_lt_of_cell? w _ e_Y)).trans e_Y)⟩ (fun hHeld => ?_);refine b_P a_r.tab6 a_r.e_I (fun HT_ HW_ => ?_)
      generalize wr.drew = w24 at b_L HB e_d g_h l_x l_y b_9 c_a c_J c_z e_z e_A e_B e_k hHeld ⊢
      refine a_z (i:=0) (N:=some 25) (v:=?_) (a':=?_) Z4_ rfl rfl (a_q HT_.out (by kernel_rfl)) (fun _ _ _ h => h) (Or.inl ⟨by rfl,?_⟩) ?_ ?_
      rotate_left
      ·intro w'
       go_simp
       with_reducible rfl
      rotate_left
      ·simp only [Act.put,sa_,sb_,sc_,a_t,a_u]
       rfl
      refine a_z (i:=2) (N:=some 27) (v:=?_) (a':=?_) Z8_ rfl rfl (a_q HT_.out (by kernel_rfl)) (fun _ _ _ h => h) (Or.inl ⟨by rfl,?_⟩) ?_ ?_
      rotate_left
      ·intro w'
       go_simp
       with_reducible rfl
      rotate_left
      ·simp only [Act.put,sa_,sb_,sc_,a_t,a_u]
       rfl
      refine b_l (i:=1) (N:=some 26) (v:=?_) (a':=?_) Z12_ rfl rfl (a_O HT_.out HW_.out (by kernel_rfl)) (fun _ _ _ h => h) (Or.inl ⟨by rfl,?_⟩) hHeld ?_ ?_
      rotate_left
      ·rintro w' ⟨s0,s1,s2,s3,s4,s5,s6,s7,s8,s9⟩
       go_simp
       with_reducible rfl
      rotate_left
      ·simp only [Act.put,sa_,sb_,sc_,a_t,a_u]
       rfl
      refine a_z (i:=3) (N:=some 28) (v:=?_) (a':=?_) Z16_ rfl rfl (a_q HT_.out (by kernel_rfl)) (fun _ _ _ h => h) (Or.inl ⟨by rfl,?_⟩) ?_ ?_
      rotate_left
      ·intro w'
       go_simp
       with_reducible rfl
      rotate_left
      ·simp only [Act.put,sa_,sb_,sc_,a_t,a_u]
       rfl
      refine b_l (i:=4) (N:=some 29) (v:=?_) (a':=?_) Z20_ rfl rfl (a_O HT_.out HW_.out (by kernel_rfl)) (fun _ _ _ h => h) (Or.inl ⟨by rfl,?_⟩) hHeld ?_ ?_
      rotate_left
      ·rintro w' ⟨s0,s1,s2,s3,s4,s5,s6,s7,s8,s9⟩
       go_simp
       with_reducible rfl
      rotate_left
      ·simp only [Act.put,sa_,sb_,sc_,a_t,a_u]
       rfl
      refine one_ (i:=5) (N:=some 30) Z25_ rfl rfl (b_7 HT_.out (by kernel_rfl)) (by decide) (fun K hK => ?_)
      refine d_O Try.func26 (by kernel_rfl) rfl #[.agg #[.int .i64 ((a_p l0_0 x3_2).f0),.slice A220_1 ((a_p l0_0 x3_2).f1).length c220_1]] (by rfl) rfl rfl (by (try simp only [List.map_toArray,List.map_cons,List.map_nil]);first|done|rfl|(simp only [List.length_drop,List.length_take];rfl)) ?_
      with_reducible refine (a_k.calls k2 ((a_p l0_0 x3_2).f0) _ _ ((a_p l0_0 x3_2).f1) true _ ?side1 ?side2 A12.out).mono ?_
      (case side1 => repeat (first|exact (Kd.a_U e_d.out HB.out)|(with_reducible refine Kd.a_V ?_ _)|(with_reducible refine Kd.a_W ?_ _)|(with_reducible refine Kd.a_5 ?_)))
      (case side2 => exact e_V.out)
      rintro e w25 ⟨rfl,hb⟩
      refine ⟨_,rfl,?_⟩
      replace b_L:=a_d.mk (a_i (bup_ b_L.out) hb)
      replace HB:=a_d.mk (a_o (by repeat (first|(with_reducible first|exact HB.out|apply a_g|apply a_e|apply a_h|refine a_f ?_ f_2.out)|exact HB.out)) hb)
      (try clear hb)
      (try clear hb2)
      (try clear hk)
      (try clear hi)
      refine hK.out _ _ ⟨(a_a b_L.out 0).trans rfl,(a_a b_L.out 1).trans rfl,((HB.out.cell (World.block_lt_of_cell? w _ c_E)).trans c_E),((HB.out.cell (World.block_lt_of_cell? w _ c_D)).trans c_D),((HB.out.cell (World.block_lt_of_cell? w _ d_u)).trans d_u),((HB.out.cell (World.block_lt_of_cell? w _ d_t)).trans d_t),((HB.out.cell (World.block_lt_of_cell? w _ e_X)).trans e_X),((HB.out.cell (World.block_lt_of_cell? w _ e_W)).trans e_W),((HB.out.cell (World.block_lt_of_cell? w _ e_Z)).trans e_Z),((HB.out.cell (World.block_lt_of_cell? w _ e_Y)).trans e_Y)⟩ (fun hHeld => ?_)
      clear hK K
      refine d_A (a':=?_) ?_ ?_
      rotate_left
      ·show Act.put _ (some 30) _ = _
       simp only [Act.put,sa_,sb_,sc_,a_t,a_u]
       rfl
      refine a_z (i:=6) (N:=some 31) (v:=?_) (a':=?_) Z28_ rfl rfl (a_q HT_.out (by kernel_rfl)) (fun _ _ _ h => h) (Or.inl ⟨by rfl,?_⟩) ?_ ?_
      rotate_left
      ·intro w'
       go_simp
       with_reducible rfl
      rotate_left
      ·simp only [Act.put,sa_,sb_,sc_,a_t,a_u]
       rfl
      refine a_z (i:=7) (N:=some 32) (v:=?_) (a':=?_) Z32_ rfl rfl (a_q HT_.out (by kernel_rfl)) (fun _ _ _ h => h) (Or.inl ⟨by rfl,?_⟩) ?_ ?_
      rotate_left
      ·intro w'
       go_simp
       with_reducible rfl
      rotate_left
      ·simp only [Act.put,sa_,sb_,sc_,a_t,a_u]
       rfl
      refine a_z (i:=8) (N:=some 33) (v:=?_) (a':=?_) Z39_ rfl rfl (a_q HT_.out (by kernel_rfl)) (fun _ _ _ h => h) (Or.inl ⟨by rfl,?_⟩) ?_ ?_
      rotate_left
      ·intro w'
       go_simp
       with_reducible rfl
      rotate_left
      ·simp only [Act.put,sa_,sb_,sc_,a_t,a_u]
       rfl
      refine a_z (i:=10) (N:=some 35) (v:=?_) (a':=?_) Z43_ rfl rfl (a_q HT_.out (by kernel_rfl)) (fun _ _ _ h => h) (Or.inl ⟨by rfl,?_⟩) ?_ ?_
      rotate_left
      ·intro w'
       go_simp
       with_reducible rfl
      rotate_left
      ·simp only [Act.put,sa_,sb_,sc_,a_t,a_u]
       rfl
      refine a_z (i:=14) (N:=some 39) (v:=?_) (a':=?_) Z44_ rfl rfl (a_q HT_.out (by kernel_rfl)) (fun _ _ _ h => h) (Or.inl ⟨by rfl,?_⟩) ?_ ?_
      rotate_left
      ·intro w'
       go_simp
       with_reducible rfl
      rotate_left
      ·simp only [Act.put,sa_,sb_,sc_,a_t,a_u]
       rfl
      refine b_l (i:=9) (N:=some 34) (v:=?_) (a':=?_) Z51_ rfl rfl (a_O HT_.out HW_.out (by kernel_rfl)) (fun _ _ _ h => h) (Or.inl ⟨by rfl,?_⟩) hHeld ?_ ?_
      rotate_left
      ·rintro w' ⟨s0,s1,s2,s3,s4,s5,s6,s7,s8,s9⟩
       go_simp
       with_reducible rfl
      rotate_left
      ·simp only [Act.put,sa_,sb_,sc_,a_t,a_u]
       rfl
      refine a_z (i:=11) (N:=some 36) (v:=?_) (a':=?_) Z56_ rfl rfl (a_q HT_.out (by kernel_rfl)) (fun _ _ _ h => h) (Or.inl ⟨by rfl,?_⟩) ?_ ?_
      rotate_left
      ·intro w'
       go_simp
       with_reducible rfl
      rotate_left
      ·simp only [Act.put,sa_,sb_,sc_,a_t,a_u]
       rfl
      refine a_z (i:=12) (N:=some 37) (v:=?_) (a':=?_) Z61_ rfl rfl (a_q HT_.out (by kernel_rfl)) (fun _ _ _ h => h) (Or.inl ⟨by rfl,?_⟩) ?_ ?_
      rotate_left
      ·intro w'
       go_simp
       with_reducible rfl
      rotate_left
      ·simp only [Act.put,sa_,sb_,sc_,a_t,a_u]
       rfl
      refine b_l (i:=13) (N:=some 38) (v:=?_) (a':=?_) Z66_ rfl rfl (a_O HT_.out HW_.out (by kernel_rfl)) (fun _ _ _ h => h) (Or.inl ⟨by rfl,?_⟩) hHeld ?_ ?_
      rotate_left
      ·rintro w' ⟨s0,s1,s2,s3,s4,s5,s6,s7,s8,s9⟩
       go_simp
       with_reducible rfl
      rotate_left
      ·simp only [Act.put,sa_,sb_,sc_,a_t,a_u]
       rfl
      refine b_l (i:=15) (N:=some 40) (v:=?_) (a':=?_) Z73_ rfl rfl (a_O HT_.out HW_.out (by kernel_rfl)) (fun _ _ _ h => h) (Or.inl ⟨by rfl,?_⟩) hHeld ?_ ?_
      rotate_left
      ·rintro w' ⟨s0,s1,s2,s3,s4,s5,s6,s7,s8,s9⟩
       go_simp
       with_reducible rfl
      rotate_left
      ·simp only [Act.put,sa_,sb_,sc_,a_t,a_u]
       rfl
      refine a_z (i:=16) (N:=some 41) (v:=?_) (a':=?_) Z77_ rfl rfl (a_q HT_.out (by kernel_rfl)) (fun _ _ _ h => h) (Or.inl ⟨by rfl,?_⟩) ?_ ?_
      rotate_left
      ·intro w'
       go_simp
       with_reducible rfl
      rotate_left
      ·simp only [Act.put,sa_,sb_,sc_,a_t,a_u]
       rfl
      refine a_z (i:=17) (N:=some 42) (v:=?_) (a':=?_) Z81_ rfl rfl (a_q HT_.out (by kernel_rfl)) (fun _ _ _ h => h) (Or.inl ⟨by rfl,?_⟩) ?_ ?_
      rotate_left
      ·intro w'
       go_simp
       with_reducible rfl
      rotate_left
      ·simp only [Act.put,sa_,sb_,sc_,a_t,a_u]
       rfl
      refine a_z (i:=18) (N:=some 43) (v:=?_) (a':=?_) Z86_ rfl rfl (a_q HT_.out (by kernel_rfl)) (fun _ _ _ h => h) (Or.inl ⟨by rfl,?_⟩) ?_ ?_
      rotate_left
      ·intro w'
       go_simp
       with_reducible rfl
      rotate_left
      ·simp only [Act.put,sa_,sb_,sc_,a_t,a_u]
       rfl
      refine a_z (i:=19) (N:=some 44) (v:=?_) (a':=?_) Z90_ rfl rfl (a_q HT_.out (by kernel_rfl)) (fun _ _ _ h => h) (Or.inl ⟨by rfl,?_⟩) ?_ ?_
      rotate_left
      ·intro w'
       go_simp
       with_reducible rfl
      rotate_left
      ·simp only [Act.put,sa_,sb_,sc_,a_t,a_u]
       rfl
      refine a_z (i:=20) (N:=some 45) (v:=?_) (a':=?_) Z94_ rfl rfl (a_q HT_.out (by kernel_rfl)) (fun _ _ _ h => h) (Or.inl ⟨by rfl,?_⟩) ?_ ?_
      rotate_left
      ·intro w'
       go_simp
       with_reducible rfl
      rotate_left
      ·simp only [Act.put,sa_,sb_,sc_,a_t,a_u]
       rfl
      refine a_z (i:=21) (N:=some 46) (v:=?_) (a':=?_) Z98_ rfl rfl (a_q HT_.out (by kernel_rfl)) (fun _ _ _ h => h) (Or.inl ⟨by rfl,?_⟩) ?_ ?_
      rotate_left
      ·intro w'
       go_simp
       with_reducible rfl
      rotate_left
      ·simp only [Act.put,sa_,sb_,sc_,a_t,a_u]
       rfl
      refine a_z (i:=22) (N:=some 47) (v:=?_) (a':=?_) o_u rfl rfl (a_q HT_.out (by kernel_rfl)) (fun _ _ _ h => h) (Or.inl ⟨by rfl,?_⟩) ?_ ?_
      rotate_left
      ·intro w'
       go_simp
       with_reducible rfl
      rotate_left
      ·simp only [Act.put,sa_,sb_,sc_,a_t,a_u]
       rfl
      refine a_z (i:=24) (N:=some 49) (v:=?_) (a':=?_) v_g rfl rfl (a_q HT_.out (by kernel_rfl)) (fun _ _ _ h => h) (Or.inl ⟨by rfl,?_⟩) ?_ ?_
      rotate_left
      ·intro w'
       go_simp
       with_reducible rfl
      rotate_left
      ·simp only [Act.put,sa_,sb_,sc_,a_t,a_u]
       rfl
      refine a_z (i:=25) (N:=some 50) (v:=?_) (a':=?_) v_k rfl rfl (a_q HT_.out (by kernel_rfl)) (fun _ _ _ h => h) (Or.inl ⟨by rfl,?_⟩) ?_ ?_
      rotate_left
      ·intro w'
       go_simp
       with_reducible rfl
      rotate_left
      ·simp only [Act.put,sa_,sb_,sc_,a_t,a_u]
       rfl
      refine a_z (i:=29) (N:=some 54) (v:=?_) (a':=?_) v_d rfl rfl (a_q HT_.out (by kernel_rfl)) (fun _ _ _ h => h) (Or.inl ⟨by rfl,?_⟩) ?_ ?_
      rotate_left
      ·intro w'
       go_simp
       with_reducible rfl
      rotate_left
      ·simp only [Act.put,sa_,sb_,sc_,a_t,a_u]
       rfl
      refine a_z (i:=31) (N:=some 56) (v:=?_) (a':=?_) u_1 rfl rfl (a_q HT_.out (by kernel_rfl)) (fun _ _ _ h => h) (Or.inl ⟨by rfl,?_⟩) ?_ ?_
      rotate_left
      ·intro w'
       go_simp
       with_reducible rfl
      rotate_left
      ·simp only [Act.put,sa_,sb_,sc_,a_t,a_u]
       rfl
      refine b_l (i:=23) (N:=some 48) (v:=?_) (a':=?_) u_L rfl rfl (a_O HT_.out HW_.out (by kernel_rfl)) (fun _ _ _ h => h) (Or.inl ⟨by rfl,?_⟩) hHeld ?_ ?_
      rotate_left
      ·rintro w' ⟨s0,s1,s2,s3,s4,s5,s6,s7,s8,s9⟩
       go_simp
       with_reducible rfl
      rotate_left
      ·simp only [Act.put,sa_,sb_,sc_,a_t,a_u]
       rfl
      refine a_z (i:=26) (N:=some 51) (v:=?_) (a':=?_) v_c rfl rfl (a_q HT_.out (by kernel_rfl)) (fun _ _ _ h => h) (Or.inl ⟨by rfl,?_⟩) ?_ ?_
      rotate_left
      ·intro w'
       go_simp
       with_reducible rfl
      rotate_left
      ·simp only [Act.put,sa_,sb_,sc_,a_t,a_u]
       rfl
      refine a_z (i:=27) (N:=some 52) (v:=?_) (a':=?_) u_O rfl rfl (a_q HT_.out (by kernel_rfl)) (fun _ _ _ h => h) (Or.inl ⟨by rfl,?_⟩) ?_ ?_
      rotate_left
      ·intro w'
       go_simp
       with_reducible rfl
      rotate_left
      ·simp only [Act.put,sa_,sb_,sc_,a_t,a_u]
       rfl
      refine b_l (i:=28) (N:=some 53) (v:=?_) (a':=?_) v_a rfl rfl (a_O HT_.out HW_.out (by kernel_rfl)) (fun _ _ _ h => h) (Or.inl ⟨by rfl,?_⟩) hHeld ?_ ?_
      rotate_left
      ·rintro w' ⟨s0,s1,s2,s3,s4,s5,s6,s7,s8,s9⟩
       go_simp
       with_reducible rfl
      rotate_left
      ·simp only [Act.put,sa_,sb_,sc_,a_t,a_u]
       rfl
      refine b_l (i:=30) (N:=some 55) (v:=?_) (a':=?_) n_9 rfl rfl (a_O HT_.out HW_.out (by kernel_rfl)) (fun _ _ _ h => h) (Or.inl ⟨by rfl,?_⟩) hHeld ?_ ?_
      rotate_left
      ·rintro w' ⟨s0,s1,s2,s3,s4,s5,s6,s7,s8,s9⟩
       go_simp
       with_reducible rfl
      rotate_left
      ·simp only [Act.put,sa_,sb_,sc_,a_t,a_u]
       rfl
      refine a_z (i:=32) (N:=some 57) (v:=?_) (a':=?_) o_j rfl rfl (a_q HT_.out (by kernel_rfl)) (fun _ _ _ h => h) (Or.inl ⟨by rfl,?_⟩) ?_ ?_
      rotate_left
      ·intro w'
       go_simp
       with_reducible rfl
      rotate_left
      ·simp only [Act.put,sa_,sb_,sc_,a_t,a_u]
       rfl
      refine a_z (i:=33) (N:=some 58) (v:=?_) (a':=?_) n_X rfl rfl (a_q HT_.out (by kernel_rfl)) (fun _ _ _ h => h) (Or.inl ⟨by rfl,?_⟩) ?_ ?_
      rotate_left
      ·intro w'
       go_simp
       with_reducible rfl
      rotate_left
      ·simp only [Act.put,sa_,sb_,sc_,a_t,a_u]
       rfl
      refine b_l (i:=34) (N:=some 59) (v:=?_) (a':=?_) o_i rfl rfl (a_O HT_.out HW_.out (by kernel_rfl)) (fun _ _ _ h => h) (Or.inl ⟨by rfl,?_⟩) hHeld ?_ ?_
      rotate_left
      ·rintro w' ⟨s0,s1,s2,s3,s4,s5,s6,s7,s8,s9⟩
       go_simp
       with_reducible rfl
      rotate_left
      ·simp only [Act.put,sa_,sb_,sc_,a_t,a_u]
       rfl
      refine a_z (i:=35) (N:=some 60) (v:=?_) (a':=?_) n_6 rfl rfl (a_q HT_.out (by kernel_rfl)) (fun _ _ _ h => h) (Or.inl ⟨by rfl,?_⟩) ?_ ?_
      rotate_left
      ·intro w'
       go_simp
       with_reducible rfl
      rotate_left
      ·simp only [Act.put,sa_,sb_,sc_,a_t,a_u]
       rfl
      refine a_z (i:=36) (N:=some 61) (v:=?_) (a':=?_) n_7 rfl rfl (a_q HT_.out (by kernel_rfl)) (fun _ _ _ h => h) (Or.inl ⟨by rfl,?_⟩) ?_ ?_
      rotate_left
      ·intro w'
       go_simp
       with_reducible rfl
      rotate_left
      ·simp only [Act.put,sa_,sb_,sc_,a_t,a_u]
       rfl
      refine a_z (i:=37) (N:=some 62) (v:=?_) (a':=?_) o_c rfl rfl (a_q HT_.out (by kernel_rfl)) (fun _ _ _ h => h) (Or.inl ⟨by rfl,?_⟩) ?_ ?_
      rotate_left
      ·intro w'
       go_simp
       with_reducible rfl
      rotate_left
      ·simp only [Act.put,sa_,sb_,sc_,a_t,a_u]
       rfl
      refine e_j (c_q HT_.out (by kernel_rfl)) ?_
      try go_wp2
      go_ret
      exact ⟨by first|rfl|(simp [a_w,a_x] <;> rfl)|(simp only [← hji19];first|rfl|(simp [a_w,a_x] <;> rfl))|(simp [*, a_w,a_x] <;> rfl),by repeat (first|(with_reducible first|exact HB.out|apply a_g|apply a_e|apply a_h|refine a_f ?_ f_2.out)|exact HB.out)⟩
     rw [if_neg c22] at H
     have c22b0 : decide (((a_p l0_0 x3_2).f0) ≤ ((a_p l0_0 (ji19)).f0)) = false:=decide_eq_false c22
     clear c22
     have H':=a_d.mk H
     clear H
     have f_B : wr.cell? ⟨d_T,0,none⟩ = some (.slice A0_0 l0_0.length c0_0):=(a_a b_L.out 0).trans rfl
     have f_C : wr.cell? ⟨d_T,1,none⟩ = some (.int .i64 a0_1):=(a_a b_L.out 1).trans rfl
     have f_D:=a_b b_L.out 0
     have f_E:=a_b b_L.out 1
     try go_wp2
     replace b_L:=a_d.mk (a_m b_L.out)
     replace HB:=a_d.mk (a_h HB.out)
     have p220 : 0 ≤ (x3_2 : Int):=of_decide_eq_true (by first|(with_reducible assumption)|assumption)
     have q220 : x3_2 < (l0_0.length : Int):=of_decide_eq_true (by first|(with_reducible assumption)|assumption)
     obtain ⟨ad220,A220_1,c220_1,e220,b_9,c_a,e_b,e_c⟩:=c_y b_q.out x3_2 p220 q220
     have c_D:=c_a
     have c_E:=b_9
     cases e220
     replace b_9:=(HB.out.cell (World.block_lt_of_cell? w _ b_9)).trans b_9
     replace c_a:=(HB.out.cell (World.block_lt_of_cell? w _ c_a)).trans c_a
     have e_d:=a_d.mk e_c
     have e_V:=a_d.mk e_b
     clear e_c e_b
     replace p220:=eq_true p220
     replace q220:=eq_true q220
     have p222 : 0 ≤ (x3_2 : Int):=of_decide_eq_true (by first|(with_reducible assumption)|assumption)
     have q222 : x3_2 < (l0_0.length : Int):=of_decide_eq_true (by first|(with_reducible assumption)|assumption)
     obtain ⟨ad222,A222_1,c222_1,e222,c_J,c_z,e_x,e_y⟩:=c_y b_q.out x3_2 p222 q222
     have d_t:=c_z
     have d_u:=c_J
     obtain rfl : ad220 = ad222:=(by injection e222)
     replace c_J:=(HB.out.cell (World.block_lt_of_cell? w _ c_J)).trans c_J
     replace c_z:=(HB.out.cell (World.block_lt_of_cell? w _ c_z)).trans c_z
     have g_h:=a_d.mk e_y
     have l_w:=a_d.mk e_x
     clear e_y e_x
     replace p222:=eq_true p222
     replace q222:=eq_true q222
     have p223 : 0 ≤ ((ji19) : Int):=of_decide_eq_true (by first|(with_reducible assumption)|assumption)
     have q223 : (ji19) < (l0_0.length : Int):=of_decide_eq_true (by first|(with_reducible assumption)|assumption)
     obtain ⟨ad223,A223_1,c223_1,e223,e_z,e_A,i_v,i_w⟩:=c_y b_q.out (ji19) p223 q223
     have e_W:=e_A
     have e_X:=e_z
     obtain rfl : ad220 = ad223:=(by injection e223)
     replace e_z:=(HB.out.cell (World.block_lt_of_cell? w _ e_z)).trans e_z
     replace e_A:=(HB.out.cell (World.block_lt_of_cell? w _ e_A)).trans e_A
     have l_x:=a_d.mk i_w
     have t_D:=a_d.mk i_v
     clear i_w i_v
     replace p223:=eq_true p223
     replace q223:=eq_true q223
     have p224 : 0 ≤ (x3_2 : Int):=of_decide_eq_true (by first|(with_reducible assumption)|assumption)
     have q224 : x3_2 < (l0_0.length : Int):=of_decide_eq_true (by first|(with_reducible assumption)|assumption)
     obtain ⟨ad224,A224_1,c224_1,e224,e_B,e_k,i_x,i_y⟩:=c_y b_q.out x3_2 p224 q224
     have e_Y:=e_k
     have e_Z:=e_B
     obtain rfl : ad220 = ad224:=(by injection e224)
     replace e_B:=(HB.out.cell (World.block_lt_of_cell? w _ e_B)).trans e_B
     replace e_k:=(HB.out.cell (World.block_lt_of_cell? w _ e_k)).trans e_k
     have l_y:=a_d.mk i_y
     have t_E:=a_d.mk i_x
     clear i_y i_x
     replace p224:=eq_true p224
     replace q224:=eq_true q224
     have ea_:=Option.some.inj (c_z.symm.trans e_k)
     injection ea_ with ea_ en_ ec_
     subst ea_
     subst ec_
     clear en_
     refine c_9 (n:=38) (S:=fun w' => w'.cell? ⟨d_T,0,none⟩ = some (.slice (some ad220) l0_0.length c0_0) ∧ w'.cell? ⟨d_T,1,none⟩ = some (.int .i64 a0_1) ∧ w'.cell? (ad220.add ((x3_2).toNat * 2)) = some (.int .i64 ((a_p l0_0 x3_2).f0)) ∧ w'.cell? ⟨(ad220.add ((x3_2).toNat * 2)).block,(ad220.add ((x3_2).toNat * 2)).off + 1,none⟩ = some (.slice A220_1 ((a_p l0_0 x3_2).f1).length c220_1) ∧ w'.cell? (ad220.add ((x3_2).toNat * 2)) = some (.int .i64 ((a_p l0_0 x3_2).f0)) ∧ w'.cell? ⟨(ad220.add ((x3_2).toNat * 2)).block,(ad220.add ((x3_2).toNat * 2)).off + 1,none⟩ = some (.slice A222_1 ((a_p l0_0 x3_2).f1).length c222_1) ∧ w'.cell? (ad220.add (((ji19)).toNat * 2)) = some (.int .i64 ((a_p l0_0 (ji19)).f0)) ∧ w'.cell? ⟨(ad220.add (((ji19)).toNat * 2)).block,(ad220.add (((ji19)).toNat * 2)).off + 1,none⟩ = some (.slice A223_1 ((a_p l0_0 (ji19)).f1).length c223_1) ∧ w'.cell? (ad220.add ((x3_2).toNat * 2)) = some (.int .i64 ((a_p l0_0 x3_2).f0)) ∧ w'.cell? ⟨(ad220.add ((x3_2).toNat * 2)).block,(ad220.add ((x3_2).toNat * 2)).off + 1,none⟩ = some (.slice A222_1 ((a_p l0_0 x3_2).f1).length c222_1)) (ds:=[]) Z0_ (by kernel_rfl) rfl rfl ⟨(a_a b_L.out 0).trans rfl,(a_a b_L.out 1).trans rfl,((HB.out.cell (World.block_lt_of_cell? w _ c_E)).trans c_E),((HB.out.cell (World.block_lt_of_cell? w _ c_D)).trans c_D),((HB.out.cell (World.block_lt_of_cell? w _ d_u)).trans d_u),((HB.out.cell (World.block_lt_of_cell? w _ d_t)).trans d_t),((HB.out.cell (World.block_lt_of_cell? w _ e_X)).trans e_X),((HB.out.cell (World.block_lt_of_cell? w _ e_W)).trans e_W),((HB.out.cell (World.block_lt_of_cell? w _ e_Z)).trans e_Z),((HB.out.cell (World.block_lt_of_cell? w _ e_Y)).trans e_Y)⟩ (fun hHeld => ?_);refine b_P a_r.tab6 a_r.e_I (fun HT_ HW_ => ?_)
     generalize wr.drew = w27 at b_L HB e_d g_h l_x l_y b_9 c_a c_J c_z e_z e_A e_B e_k hHeld ⊢
     refine a_z (i:=0) (N:=some 25) (v:=?_) (a':=?_) Z4_ rfl rfl (a_q HT_.out (by kernel_rfl)) (fun _ _ _ h => h) (Or.inl ⟨by rfl,?_⟩) ?_ ?_
     rotate_left
     ·intro w'
      go_simp
      with_reducible rfl
     rotate_left
     ·simp only [Act.put,sa_,sb_,sc_,a_t,a_u]
      rfl
     refine a_z (i:=2) (N:=some 27) (v:=?_) (a':=?_) Z8_ rfl rfl (a_q HT_.out (by kernel_rfl)) (fun _ _ _ h => h) (Or.inl ⟨by rfl,?_⟩) ?_ ?_
     rotate_left
     ·intro w'
      go_simp
      with_reducible rfl
     rotate_left
     ·simp only [Act.put,sa_,sb_,sc_,a_t,a_u]
      rfl
     refine b_l (i:=1) (N:=some 26) (v:=?_) (a':=?_) Z12_ rfl rfl (a_O HT_.out HW_.out (by kernel_rfl)) (fun _ _ _ h => h) (Or.inl ⟨by rfl,?_⟩) hHeld ?_ ?_
     rotate_left
     ·rintro w' ⟨s0,s1,s2,s3,s4,s5,s6,s7,s8,s9⟩
      go_simp
      with_reducible rfl
     rotate_left
     ·simp only [Act.put,sa_,sb_,sc_,a_t,a_u]
      rfl
     refine a_z (i:=3) (N:=some 28) (v:=?_) (a':=?_) Z16_ rfl rfl (a_q HT_.out (by kernel_rfl)) (fun _ _ _ h => h) (Or.inl ⟨by rfl,?_⟩) ?_ ?_
     rotate_left
     ·intro w'
      go_simp
      with_reducible rfl
     rotate_left
     ·simp only [Act.put,sa_,sb_,sc_,a_t,a_u]
      rfl
     refine b_l (i:=4) (N:=some 29) (v:=?_) (a':=?_) Z20_ rfl rfl (a_O HT_.out HW_.out (by kernel_rfl)) (fun _ _ _ h => h) (Or.inl ⟨by rfl,?_⟩) hHeld ?_ ?_
     rotate_left
     ·rintro w' ⟨s0,s1,s2,s3,s4,s5,s6,s7,s8,s9⟩
      go_simp
      with_reducible rfl
     rotate_left
     ·simp only [Act.put,sa_,sb_,sc_,a_t,a_u]
      rfl
     refine one_ (i:=5) (N:=some 30) Z25_ rfl rfl (b_7 HT_.out (by kernel_rfl)) (by decide) (fun K hK => ?_)
     refine d_O Try.func26 (by kernel_rfl) rfl #[.agg #[.int .i64 ((a_p l0_0 x3_2).f0),.slice A220_1 ((a_p l0_0 x3_2).f1).length c220_1]] (by rfl) rfl rfl (by (try simp only [List.map_toArray,List.map_cons,List.map_nil]);first|done|rfl|(simp only [List.length_drop,List.length_take];rfl)) ?_
     with_reducible refine (a_k.calls k2 ((a_p l0_0 x3_2).f0) _ _ ((a_p l0_0 x3_2).f1) true _ ?side1 ?side2 A12.out).mono ?_
     (case side1 => repeat (first|exact (Kd.a_U e_d.out HB.out)|(with_reducible refine Kd.a_V ?_ _)|(with_reducible refine Kd.a_W ?_ _)|(with_reducible refine Kd.a_5 ?_)))
     (case side2 => exact e_V.out)
     rintro e w28 ⟨rfl,hb⟩
     refine ⟨_,rfl,?_⟩
     replace b_L:=a_d.mk (a_i (bup_ b_L.out) hb)
     replace HB:=a_d.mk (a_o (by repeat (first|(with_reducible first|exact HB.out|apply a_g|apply a_e|apply a_h|refine a_f ?_ f_2.out)|exact HB.out)) hb)
     (try clear hb)
     (try clear hb2)
     (try clear hk)
     (try clear hi)
     refine hK.out _ _ ⟨(a_a b_L.out 0).trans rfl,(a_a b_L.out 1).trans rfl,((HB.out.cell (World.block_lt_of_cell? w _ c_E)).trans c_E),((HB.out.cell (World.block_lt_of_cell? w _ c_D)).trans c_D),((HB.out.cell (World.block_lt_of_cell? w _ d_u)).trans d_u),((HB.out.cell (World.block_lt_of_cell? w _ d_t)).trans d_t),((HB.out.cell (World.block_lt_of_cell? w _ e_X)).trans e_X),((HB.out.cell (World.block_lt_of_cell? w _ e_W)).trans e_W),((HB.out.cell (World.block_lt_of_cell? w _ e_Z)).trans e_Z),((HB.out.cell (World.block_lt_of_cell? w _ e_Y)).trans e_Y)⟩ (fun hHeld => ?_)
     clear hK K
     refine d_A (a':=?_) ?_ ?_
     rotate_left
     ·show Act.put _ (some 30) _ = _
      simp only [Act.put,sa_,sb_,sc_,a_t,a_u]
      rfl
     refine a_z (i:=6) (N:=some 31) (v:=?_) (a':=?_) Z28_ rfl rfl (a_q HT_.out (by kernel_rfl)) (fun _ _ _ h => h) (Or.inl ⟨by rfl,?_⟩) ?_ ?_
     rotate_left
     ·intro w'
      go_simp
      with_reducible rfl
     rotate_left
     ·simp only [Act.put,sa_,sb_,sc_,a_t,a_u]
      rfl
     refine a_z (i:=7) (N:=some 32) (v:=?_) (a':=?_) Z32_ rfl rfl (a_q HT_.out (by kernel_rfl)) (fun _ _ _ h => h) (Or.inl ⟨by rfl,?_⟩) ?_ ?_
     rotate_left
     ·intro w'
      go_simp
      with_reducible rfl
     rotate_left
     ·simp only [Act.put,sa_,sb_,sc_,a_t,a_u]
      rfl
     refine a_z (i:=8) (N:=some 33) (v:=?_) (a':=?_) Z39_ rfl rfl (a_q HT_.out (by kernel_rfl)) (fun _ _ _ h => h) (Or.inl ⟨by rfl,?_⟩) ?_ ?_
     rotate_left
     ·intro w'
      go_simp
      with_reducible rfl
     rotate_left
     ·simp only [Act.put,sa_,sb_,sc_,a_t,a_u]
      rfl
     refine a_z (i:=10) (N:=some 35) (v:=?_) (a':=?_) Z43_ rfl rfl (a_q HT_.out (by kernel_rfl)) (fun _ _ _ h => h) (Or.inl ⟨by rfl,?_⟩) ?_ ?_
     rotate_left
     ·intro w'
      go_simp
      with_reducible rfl
     rotate_left
     ·simp only [Act.put,sa_,sb_,sc_,a_t,a_u]
      rfl
     refine a_z (i:=14) (N:=some 39) (v:=?_) (a':=?_) Z44_ rfl rfl (a_q HT_.out (by kernel_rfl)) (fun _ _ _ h => h) (Or.inl ⟨by rfl,?_⟩) ?_ ?_
     rotate_left
     ·intro w'
      go_simp
      with_reducible rfl
     rotate_left
     ·simp only [Act.put,sa_,sb_,sc_,a_t,a_u]
      rfl
     refine b_l (i:=9) (N:=some 34) (v:=?_) (a':=?_) Z51_ rfl rfl (a_O HT_.out HW_.out (by kernel_rfl)) (fun _ _ _ h => h) (Or.inl ⟨by rfl,?_⟩) hHeld ?_ ?_
     rotate_left
     ·rintro w' ⟨s0,s1,s2,s3,s4,s5,s6,s7,s8,s9⟩
      go_simp
      with_reducible rfl
     rotate_left
     ·simp only [Act.put,sa_,sb_,sc_,a_t,a_u]
      rfl
     refine a_z (i:=11) (N:=some 36) (v:=?_) (a':=?_) Z56_ rfl rfl (a_q HT_.out (by kernel_rfl)) (fun _ _ _ h => h) (Or.inl ⟨by rfl,?_⟩) ?_ ?_
     rotate_left
     ·intro w'
      go_simp
      with_reducible rfl
     rotate_left
     ·simp only [Act.put,sa_,sb_,sc_,a_t,a_u]
      rfl
     refine a_z (i:=12) (N:=some 37) (v:=?_) (a':=?_) Z61_ rfl rfl (a_q HT_.out (by kernel_rfl)) (fun _ _ _ h => h) (Or.inl ⟨by rfl,?_⟩) ?_ ?_
     rotate_left
     ·intro w'
      go_simp
      with_reducible rfl
     rotate_left
     ·simp only [Act.put,sa_,sb_,sc_,a_t,a_u]
      rfl
     refine b_l (i:=13) (N:=some 38) (v:=?_) (a':=?_) Z66_ rfl rfl (a_O HT_.out HW_.out (by kernel_rfl)) (fun _ _ _ h => h) (Or.inl ⟨by rfl,?_⟩) hHeld ?_ ?_
     rotate_left
     ·rintro w' ⟨s0,s1,s2,s3,s4,s5,s6,s7,s8,s9⟩
      go_simp
      with_reducible rfl
     rotate_left
     ·simp only [Act.put,sa_,sb_,sc_,a_t,a_u]
      rfl
     refine b_l (i:=15) (N:=some 40) (v:=?_) (a':=?_) Z73_ rfl rfl (a_O HT_.out HW_.out (by kernel_rfl)) (fun _ _ _ h => h) (Or.inl ⟨by rfl,?_⟩) hHeld ?_ ?_
     rotate_left
     ·rintro w' ⟨s0,s1,s2,s3,s4,s5,s6,s7,s8,s9⟩
      go_simp
      with_reducible rfl
     rotate_left
     ·simp only [Act.put,sa_,sb_,sc_,a_t,a_u]
      rfl
     refine a_z (i:=16) (N:=some 41) (v:=?_) (a':=?_) Z77_ rfl rfl (a_q HT_.out (by kernel_rfl)) (fun _ _ _ h => h) (Or.inl ⟨by rfl,?_⟩) ?_ ?_
     rotate_left
     ·intro w'
      go_simp
      with_reducible rfl
     rotate_left
     ·simp only [Act.put,sa_,sb_,sc_,a_t,a_u]
      rfl
     refine a_z (i:=17) (N:=some 42) (v:=?_) (a':=?_) Z81_ rfl rfl (a_q HT_.out (by kernel_rfl)) (fun _ _ _ h => h) (Or.inl ⟨by rfl,?_⟩) ?_ ?_
     rotate_left
     ·intro w'
      go_simp
      with_reducible rfl
     rotate_left
     ·simp only [Act.put,sa_,sb_,sc_,a_t,a_u]
      rfl
     refine a_z (i:=18) (N:=some 43) (v:=?_) (a':=?_) Z86_ rfl rfl (a_q HT_.out (by kernel_rfl)) (fun _ _ _ h => h) (Or.inl ⟨by rfl,?_⟩) ?_ ?_
     rotate_left
     ·intro w'
      go_simp
      with_reducible rfl
     rotate_left
     ·simp only [Act.put,sa_,sb_,sc_,a_t,a_u]
      rfl
     refine a_z (i:=19) (N:=some 44) (v:=?_) (a':=?_) Z90_ rfl rfl (a_q HT_.out (by kernel_rfl)) (fun _ _ _ h => h) (Or.inl ⟨by rfl,?_⟩) ?_ ?_
     rotate_left
     ·intro w'
      go_simp
      with_reducible rfl
     rotate_left
     ·simp only [Act.put,sa_,sb_,sc_,a_t,a_u]
      rfl
     refine a_z (i:=20) (N:=some 45) (v:=?_) (a':=?_) Z94_ rfl rfl (a_q HT_.out (by kernel_rfl)) (fun _ _ _ h => h) (Or.inl ⟨by rfl,?_⟩) ?_ ?_
     rotate_left
     ·intro w'
      go_simp
      with_reducible rfl
     rotate_left
     ·simp only [Act.put,sa_,sb_,sc_,a_t,a_u]
      rfl
     refine a_z (i:=21) (N:=some 46) (v:=?_) (a':=?_) Z98_ rfl rfl (a_q HT_.out (by kernel_rfl)) (fun _ _ _ h => h) (Or.inl ⟨by rfl,?_⟩) ?_ ?_
     rotate_left
     ·intro w'
      go_simp
      with_reducible rfl
     rotate_left
     ·simp only [Act.put,sa_,sb_,sc_,a_t,a_u]
      rfl
     refine a_z (i:=22) (N:=some 47) (v:=?_) (a':=?_) o_u rfl rfl (a_q HT_.out (by kernel_rfl)) (fun _ _ _ h => h) (Or.inl ⟨by rfl,?_⟩) ?_ ?_
     rotate_left
     ·intro w'
      go_simp
      with_reducible rfl
     rotate_left
     ·simp only [Act.put,sa_,sb_,sc_,a_t,a_u]
      rfl
     refine a_z (i:=24) (N:=some 49) (v:=?_) (a':=?_) v_g rfl rfl (a_q HT_.out (by kernel_rfl)) (fun _ _ _ h => h) (Or.inl ⟨by rfl,?_⟩) ?_ ?_
     rotate_left
     ·intro w'
      go_simp
      with_reducible rfl
     rotate_left
     ·simp only [Act.put,sa_,sb_,sc_,a_t,a_u]
      rfl
     refine a_z (i:=25) (N:=some 50) (v:=?_) (a':=?_) v_k rfl rfl (a_q HT_.out (by kernel_rfl)) (fun _ _ _ h => h) (Or.inl ⟨by rfl,?_⟩) ?_ ?_
     rotate_left
     ·intro w'
      go_simp
      with_reducible rfl
     rotate_left
     ·simp only [Act.put,sa_,sb_,sc_,a_t,a_u]
      rfl
     refine a_z (i:=29) (N:=some 54) (v:=?_) (a':=?_) v_d rfl rfl (a_q HT_.out (by kernel_rfl)) (fun _ _ _ h => h) (Or.inl ⟨by rfl,?_⟩) ?_ ?_
     rotate_left
     ·intro w'
      go_simp
      with_reducible rfl
     rotate_left
     ·simp only [Act.put,sa_,sb_,sc_,a_t,a_u]
      rfl
     refine a_z (i:=31) (N:=some 56) (v:=?_) (a':=?_) u_1 rfl rfl (a_q HT_.out (by kernel_rfl)) (fun _ _ _ h => h) (Or.inl ⟨by rfl,?_⟩) ?_ ?_
     rotate_left
     ·intro w'
      go_simp
      with_reducible rfl
     rotate_left
     ·simp only [Act.put,sa_,sb_,sc_,a_t,a_u]
      rfl
     refine b_l (i:=23) (N:=some 48) (v:=?_) (a':=?_) u_L rfl rfl (a_O HT_.out HW_.out (by kernel_rfl)) (fun _ _ _ h => h) (Or.inl ⟨by rfl,?_⟩) hHeld ?_ ?_
     rotate_left
     ·rintro w' ⟨s0,s1,s2,s3,s4,s5,s6,s7,s8,s9⟩
      go_simp
      with_reducible rfl
     rotate_left
     ·simp only [Act.put,sa_,sb_,sc_,a_t,a_u]
      rfl
     refine a_z (i:=26) (N:=some 51) (v:=?_) (a':=?_) v_c rfl rfl (a_q HT_.out (by kernel_rfl)) (fun _ _ _ h => h) (Or.inl ⟨by rfl,?_⟩) ?_ ?_
     rotate_left
     ·intro w'
      go_simp
      with_reducible rfl
     rotate_left
     ·simp only [Act.put,sa_,sb_,sc_,a_t,a_u]
      rfl
     refine a_z (i:=27) (N:=some 52) (v:=?_) (a':=?_) u_O rfl rfl (a_q HT_.out (by kernel_rfl)) (fun _ _ _ h => h) (Or.inl ⟨by rfl,?_⟩) ?_ ?_
     rotate_left
     ·intro w'
      go_simp
      with_reducible rfl
     rotate_left
     ·simp only [Act.put,sa_,sb_,sc_,a_t,a_u]
      rfl
     refine b_l (i:=28) (N:=some 53) (v:=?_) (a':=?_) v_a rfl rfl (a_O HT_.out HW_.out (by kernel_rfl)) (fun _ _ _ h => h) (Or.inl ⟨by rfl,?_⟩) hHeld ?_ ?_
     rotate_left
     ·rintro w' ⟨s0,s1,s2,s3,s4,s5,s6,s7,s8,s9⟩
      go_simp
      with_reducible rfl
     rotate_left
     ·simp only [Act.put,sa_,sb_,sc_,a_t,a_u]
      rfl
     refine b_l (i:=30) (N:=some 55) (v:=?_) (a':=?_) n_9 rfl rfl (a_O HT_.out HW_.out (by kernel_rfl)) (fun _ _ _ h => h) (Or.inl ⟨by rfl,?_⟩) hHeld ?_ ?_
     rotate_left
     ·rintro w' ⟨s0,s1,s2,s3,s4,s5,s6,s7,s8,s9⟩
      go_simp
      with_reducible rfl
     rotate_left
     ·simp only [Act.put,sa_,sb_,sc_,a_t,a_u]
      rfl
     refine a_z (i:=32) (N:=some 57) (v:=?_) (a':=?_) o_j rfl rfl (a_q HT_.out (by kernel_rfl)) (fun _ _ _ h => h) (Or.inl ⟨by rfl,?_⟩) ?_ ?_
     rotate_left
     ·intro w'
      go_simp
      with_reducible rfl
     rotate_left
     ·simp only [Act.put,sa_,sb_,sc_,a_t,a_u]
      rfl
     refine a_z (i:=33) (N:=some 58) (v:=?_) (a':=?_) n_X rfl rfl (a_q HT_.out (by kernel_rfl)) (fun _ _ _ h => h) (Or.inl ⟨by rfl,?_⟩) ?_ ?_
     rotate_left
     ·intro w'
      go_simp
      with_reducible rfl
     rotate_left
     ·simp only [Act.put,sa_,sb_,sc_,a_t,a_u]
      rfl
     refine b_l (i:=34) (N:=some 59) (v:=?_) (a':=?_) o_i rfl rfl (a_O HT_.out HW_.out (by kernel_rfl)) (fun _ _ _ h => h) (Or.inl ⟨by rfl,?_⟩) hHeld ?_ ?_
     rotate_left
     ·rintro w' ⟨s0,s1,s2,s3,s4,s5,s6,s7,s8,s9⟩
      go_simp
      with_reducible rfl
     rotate_left
     ·simp only [Act.put,sa_,sb_,sc_,a_t,a_u]
      rfl
     refine a_z (i:=35) (N:=some 60) (v:=?_) (a':=?_) n_6 rfl rfl (a_q HT_.out (by kernel_rfl)) (fun _ _ _ h => h) (Or.inl ⟨by rfl,?_⟩) ?_ ?_
     rotate_left
     ·intro w'
      go_simp
      with_reducible rfl
     rotate_left
     ·simp only [Act.put,sa_,sb_,sc_,a_t,a_u]
      rfl
     refine a_z (i:=36) (N:=some 61) (v:=?_) (a':=?_) n_7 rfl rfl (a_q HT_.out (by kernel_rfl)) (fun _ _ _ h => h) (Or.inl ⟨by rfl,?_⟩) ?_ ?_
     rotate_left
     ·intro w'
      go_simp
      with_reducible rfl
     rotate_left
     ·simp only [Act.put,sa_,sb_,sc_,a_t,a_u]
      rfl
     refine a_z (i:=37) (N:=some 62) (v:=?_) (a':=?_) o_c rfl rfl (a_q HT_.out (by kernel_rfl)) (fun _ _ _ h => h) (Or.inl ⟨by rfl,?_⟩) ?_ ?_
     rotate_left
     ·intro w'
      go_simp
      with_reducible rfl
     rotate_left
     ·simp only [Act.put,sa_,sb_,sc_,a_t,a_u]
      rfl
     refine e_j (c_q HT_.out (by kernel_rfl)) ?_
     try go_wp2
     go_roundg k2
     case measure => have:=HJ1.out;have:=HK2.out;omega
     case rel => exact ⟨(wrap64 (x3_2 + 1)),(by first|rfl|(simp;done)|(simp [*];done)),H',⟨by have:=HJ1.out;have:=HK2.out;omega⟩,⟨by (with_reducible repeat (first|refine a_l ?_ _|refine a_m ?_|refine a_j ?_ _));exact b_L.out⟩,⟨by repeat (first|(with_reducible first|exact HB.out|apply a_g|apply a_e|apply a_h|refine a_f ?_ f_2.out)|exact HB.out)⟩⟩
end Go.Proofs.Ytgglkfilkagblaa.Q
end
section
namespace Go.Proofs.Ytgglkfilkagblaa.Q
open Go.RowKit Go.Proofs.YtgglkfilkagblaaW.PrintWords Go.Proofs.YtgglkfilkagblaaW.PrintLast Go.Proofs.YtgglkfilkagblaaW.PrintMore
set_option linter.unusedVariables false
set_option linter.unusedSimpArgs false
theorem h_m {α : Type} (p : α → Bool) (xs : List α) (k : Nat) (h : k < xs.length) : (xs.take (k + 1)).countP p = (xs.take k).countP p + (if p xs[k] then 1 else 0):=by
 rw [List.take_succ_eq_append_getElem h,List.countP_append,List.countP_singleton]
set_option maxHeartbeats 2000000 in
theorem h_E.any (g : Nat) (lb : Array Value) (eg : ∀ args w,(callFunc g args).run Try.prog w = .ok (.enter g args) w) (p : S65 → Bool) (A : Option Addr) (c : Nat) (xs : List S65) (w : World)
 (hr : Kd.C k65 w A xs.length xs) (hlen : xs.length ≤ 1099511627776)
 (hp : ∀ W,Below w.heap.size w W → ∀ x ∈ xs,Calls Try.prog g (#[.agg #[.int .i64 x.f0,.int .i64 x.f1,.int .i64 x.f2,.int .i64 x.f3,.int .i64 x.f4,.bool x.f5,.bool x.f6,.int .u32 x.f7,.int .i64 x.f8,.int .i64 x.f9,.int .i64 x.f10]] ++ lb) W fun e W' => e = .returned (.bool (p x)) ∧ Below W.heap.size W W') :
 Calls Try.prog 38 #[.slice A xs.length c,.func (.func g) #[] lb] w fun e w' => e = .returned (.int .i64 ((xs.countP p : Nat) : Int)) ∧ Below w.heap.size w w':=by
 have HP:=a_d.mk hp
 have HR:=a_d.mk hr
 clear hp hr
 go_enter Try.func38,Try.ntmps38
 go_wp2
 go_loopg [5,10] xs.length (fun gg s5 s10 wr => ∃ kk cc : Nat,s5 = .int .i64 cc ∧ s10 = .int .i64 kk ∧ cc ≤ kk ∧ kk ≤ xs.length ∧ xs.length - kk ≤ gg ∧ a_d (cc = (xs.take kk).countP p) ∧ a_d (Below w.heap.size w wr))
 case atStart => exact ⟨0,0,rfl,rfl,Nat.le_refl _,Nat.zero_le _,by omega,⟨by simp⟩,⟨Below.refl _ _⟩⟩
 case round =>
  obtain ⟨kk,cc,rfl,rfl,hck,hkk,hg,HCC,HB⟩:=hrel
  by_cases hlt : kk < xs.length
  rotate_left
  ·have hltz : ¬ (kk : Int) < (xs.length : Int):=by omega
   have : kk = xs.length:=by omega
   subst this
   go_wp2
   go_ret
   refine ⟨?_,HB.out⟩
   rw [HCC.out,List.take_length];rfl
  have hltz : (kk : Int) < (xs.length : Int):=by omega
  obtain ⟨ad,rfl,e0,e1,e2,e3,e4,e5,e6,e7,e8,e9,e10⟩:=d_g (Kd.a_U HR.out HB.out) (kk : Int) (by omega) (by omega)
  have hx:=List.getElem_mem hlt
  have hrd : a_c xs (kk : Int) = xs[kk]:=by unfold a_c;simp [hlt]
  rw [hrd] at e0 e1 e2 e3 e4 e5 e6 e7 e8 e9 e10
  simp only [Int.toNat_natCast] at e0 e1 e2 e3 e4 e5 e6 e7 e8 e9 e10
  have hsucc:=a_d.mk (h_m p xs kk hlt)
  have HP2:=a_d.mk (fun W hW => HP.out W hW _ hx)
  generalize hy : xs[kk] = y at e0 e1 e2 e3 e4 e5 e6 e7 e8 e9 e10 HP2 hsucc hx
  clear hy hx hrd
  cases hq : p y with
  | true =>
   rw [hq] at HP2 hsucc
   go_wp2_with (first
    | ((with_reducible refine a_J (N:=7) rfl ?_);refine a_C ?hg (N:=7) ?hd (cs:=#[.int .i64 0,.int .i64 0,.int .i64 0,.int .i64 0,.int .i64 0,.bool false,.bool false,.int .u32 0,.int .i64 0,.int .i64 0,.int .i64 0]) (t:=65) ?hr ?_;(case hd => rfl);(case hg => rfl);(case hr => first|(go_simp;done)|(go_simp;rfl));intro gb hgb wb hbox hb;have m0_:=a_d.mk (a_o HB.out hb);have m2_:=a_d.mk ((by rw [hgb];exact HB.out.size : w.heap.size ≤ gb));have BK:=a_d.mk hbox;clear HB hb hbox hgb;have HB:=m0_;have GE:=m2_;clear m0_ m2_;have hz0 : wb.cell? ⟨gb,0,none⟩ = some (.int .i64 0):=(a_a BK.out 0).trans rfl;have hf0:=a_b BK.out 0;have hz1 : wb.cell? ⟨gb,1,none⟩ = some (.int .i64 0):=(a_a BK.out 1).trans rfl;have hf1:=a_b BK.out 1;have hz2 : wb.cell? ⟨gb,2,none⟩ = some (.int .i64 0):=(a_a BK.out 2).trans rfl;have hf2:=a_b BK.out 2;have hz3 : wb.cell? ⟨gb,3,none⟩ = some (.int .i64 0):=(a_a BK.out 3).trans rfl;have hf3:=a_b BK.out 3;have hz4 : wb.cell? ⟨gb,4,none⟩ = some (.int .i64 0):=(a_a BK.out 4).trans rfl;have hf4:=a_b BK.out 4;have hz5 : wb.cell? ⟨gb,5,none⟩ = some (.bool false):=(a_a BK.out 5).trans rfl;have hf5:=a_b BK.out 5;have hz6 : wb.cell? ⟨gb,6,none⟩ = some (.bool false):=(a_a BK.out 6).trans rfl;have hf6:=a_b BK.out 6;have hz7 : wb.cell? ⟨gb,7,none⟩ = some (.int .u32 0):=(a_a BK.out 7).trans rfl;have hf7:=a_b BK.out 7;have hz8 : wb.cell? ⟨gb,8,none⟩ = some (.int .i64 0):=(a_a BK.out 8).trans rfl;have hf8:=a_b BK.out 8;have hz9 : wb.cell? ⟨gb,9,none⟩ = some (.int .i64 0):=(a_a BK.out 9).trans rfl;have hf9:=a_b BK.out 9;have hz10 : wb.cell? ⟨gb,10,none⟩ = some (.int .i64 0):=(a_a BK.out 10).trans rfl;have hf10:=a_b BK.out 10)
    | (go_at_fn g;refine (HP2.out _ ?hW).mono ?_;(case hW => exact (by repeat (with_reducible first|exact HB.out|refine a_f ?_ GE.out)));rintro e w' ⟨rfl,hb'⟩;have m0_:=a_d.mk (Below.trans (by repeat (with_reducible first|exact HB.out|refine a_f ?_ GE.out)) (hb'.mono (a_n (by repeat (with_reducible first|exact HB.out|refine a_f ?_ GE.out)))));clear hz0 hf0 hz1 hf1 hz2 hf2 hz3 hf3 hz4 hf4 hz5 hf5 hz6 hf6 hz7 hf7 hz8 hf8 hz9 hf9 hz10 hf10 hb' HB;have HB:=m0_;clear m0_))
   go_roundg (xs.length - (kk + 1))
   case measure => omega
   case rel => exact ⟨kk + 1,cc + 1,by go_num,by go_num,by omega,by omega,by omega,⟨by rw [hsucc.out, ← HCC.out];rfl⟩,⟨HB.out⟩⟩
  | false =>
   rw [hq] at HP2 hsucc
   go_wp2_with (first
    | ((with_reducible refine a_J (N:=7) rfl ?_);refine a_C ?hg (N:=7) ?hd (cs:=#[.int .i64 0,.int .i64 0,.int .i64 0,.int .i64 0,.int .i64 0,.bool false,.bool false,.int .u32 0,.int .i64 0,.int .i64 0,.int .i64 0]) (t:=65) ?hr ?_;(case hd => rfl);(case hg => rfl);(case hr => first|(go_simp;done)|(go_simp;rfl));intro gb hgb wb hbox hb;have m0_:=a_d.mk (a_o HB.out hb);have m2_:=a_d.mk ((by rw [hgb];exact HB.out.size : w.heap.size ≤ gb));have BK:=a_d.mk hbox;clear HB hb hbox hgb;have HB:=m0_;have GE:=m2_;clear m0_ m2_;have hz0 : wb.cell? ⟨gb,0,none⟩ = some (.int .i64 0):=(a_a BK.out 0).trans rfl;have hf0:=a_b BK.out 0;have hz1 : wb.cell? ⟨gb,1,none⟩ = some (.int .i64 0):=(a_a BK.out 1).trans rfl;have hf1:=a_b BK.out 1;have hz2 : wb.cell? ⟨gb,2,none⟩ = some (.int .i64 0):=(a_a BK.out 2).trans rfl;have hf2:=a_b BK.out 2;have hz3 : wb.cell? ⟨gb,3,none⟩ = some (.int .i64 0):=(a_a BK.out 3).trans rfl;have hf3:=a_b BK.out 3;have hz4 : wb.cell? ⟨gb,4,none⟩ = some (.int .i64 0):=(a_a BK.out 4).trans rfl;have hf4:=a_b BK.out 4;have hz5 : wb.cell? ⟨gb,5,none⟩ = some (.bool false):=(a_a BK.out 5).trans rfl;have hf5:=a_b BK.out 5;have hz6 : wb.cell? ⟨gb,6,none⟩ = some (.bool false):=(a_a BK.out 6).trans rfl;have hf6:=a_b BK.out 6;have hz7 : wb.cell? ⟨gb,7,none⟩ = some (.int .u32 0):=(a_a BK.out 7).trans rfl;have hf7:=a_b BK.out 7;have hz8 : wb.cell? ⟨gb,8,none⟩ = some (.int .i64 0):=(a_a BK.out 8).trans rfl;have hf8:=a_b BK.out 8;have hz9 : wb.cell? ⟨gb,9,none⟩ = some (.int .i64 0):=(a_a BK.out 9).trans rfl;have hf9:=a_b BK.out 9;have hz10 : wb.cell? ⟨gb,10,none⟩ = some (.int .i64 0):=(a_a BK.out 10).trans rfl;have hf10:=a_b BK.out 10)
    | (go_at_fn g;refine (HP2.out _ ?hW).mono ?_;(case hW => exact (by repeat (with_reducible first|exact HB.out|refine a_f ?_ GE.out)));rintro e w' ⟨rfl,hb'⟩;have m0_:=a_d.mk (Below.trans (by repeat (with_reducible first|exact HB.out|refine a_f ?_ GE.out)) (hb'.mono (a_n (by repeat (with_reducible first|exact HB.out|refine a_f ?_ GE.out)))));clear hz0 hf0 hz1 hf1 hz2 hf2 hz3 hf3 hz4 hf4 hz5 hf5 hz6 hf6 hz7 hf7 hz8 hf8 hz9 hf9 hz10 hf10 hb' HB;have HB:=m0_;clear m0_))
   go_roundg (xs.length - (kk + 1))
   case measure => omega
   case rel => exact ⟨kk + 1,cc,by go_num,by go_num,by omega,by omega,by omega,⟨by rw [hsucc.out, ← HCC.out];rfl⟩,⟨HB.out⟩⟩
set_option maxHeartbeats 2000000 in
theorem j_n.calls (g : Nat) (x : S65) (a0 : Int) (a1 : Int) (a2 : Int) (a3 : Int) (a4 : Int) (a5 : Bool) (a6 : Bool) (a7 : Int) (a8 : Int) (a9 : Int) (a10 : Int) (w : World) (hb : w.heap[g]? = some (.cells #[.int .i64 a0,.int .i64 a1,.int .i64 a2,.int .i64 a3,.int .i64 a4,.bool a5,.bool a6,.int .u32 a7,.int .i64 a8,.int .i64 a9,.int .i64 a10] 65 (0,0))) :
 Calls Try.prog 51 (#[.agg #[.int .i64 x.f0,.int .i64 x.f1,.int .i64 x.f2,.int .i64 x.f3,.int .i64 x.f4,.bool x.f5,.bool x.f6,.int .u32 x.f7,.int .i64 x.f8,.int .i64 x.f9,.int .i64 x.f10]] ++ #[.pointer (some ⟨g,0,none⟩)]) w fun e w' => e = .returned (.bool (x.f1 == a1)) ∧ Below w.heap.size w w':=by
 have hc:=(a_a hb 1).trans rfl
 have hf:=a_b hb 1
 have hlt:=a_Q hb
 clear hb
 go_enter Try.func51,Try.ntmps51
 go_wp2
 go_ret
 exact ⟨rfl,(Below.refl _ _).alloc (Nat.le_refl _) _⟩
def b_i.f (l0 : List S65) (a0 : Int) (a1 : Int) (a2 : Int) (a3 : Int) (a4 : Int) (a5 : Bool) (a6 : Bool) (a7 : Int) (a8 : Int) (a9 : Int) (a10 : Int) : Option Int:=if l0.length ≤ 1099511627776 then some ((l0.countP (fun s => s.f1 == a1) : Nat) : Int) else none
theorem b_i.calls (A0 : Option Addr) (c0 : Nat) (l0 : List S65) (g : Nat) (a0 : Int) (a1 : Int) (a2 : Int) (a3 : Int) (a4 : Int) (a5 : Bool) (a6 : Bool) (a7 : Int) (a8 : Int) (a9 : Int) (a10 : Int) (r : Int) (w : World) (hr0 : Kd.C k65 w A0 l0.length l0) (hc0 : l0.length ≤ c0) (hb : w.heap[g]? = some (.cells #[.int .i64 a0,.int .i64 a1,.int .i64 a2,.int .i64 a3,.int .i64 a4,.bool a5,.bool a6,.int .u32 a7,.int .i64 a8,.int .i64 a9,.int .i64 a10] 65 (0,0))) (h : b_i.f l0 a0 a1 a2 a3 a4 a5 a6 a7 a8 a9 a10 = some r) :
 Calls Try.prog 38 #[.slice A0 l0.length c0,.func (.func 51) #[] #[.pointer (some ⟨g,0,none⟩)]] w fun e w' => e = .returned (.int .i64 r) ∧ Below w.heap.size w w':=by
 unfold b_i.f at h
 split at h
 case isFalse => cases h
 case isTrue hl =>
 obtain rfl:=Option.some.inj h
 exact h_E.any 51 _ (h_w Try.func51 (by kernel_rfl) rfl) _ A0 c0 l0 w hr0 hl (fun W hW x _ => j_n.calls g x a0 a1 a2 a3 a4 a5 a6 a7 a8 a9 a10 W ((hW.block _ (a_Q hb)).trans hb))
def d_N (x : S65) (a1 b8 b9 b10 : Int) : Bool:=x.f1 == a1 && x.f8 == b8 && x.f9 == b9 && x.f10 == b10
set_option maxHeartbeats 2000000 in
theorem k_X.calls (gs g g2 : Nat) (x : S65) (a0 : Int) (a1 : Int) (a2 : Int) (a3 : Int) (a4 : Int) (a5 : Bool) (a6 : Bool) (a7 : Int) (a8 : Int) (a9 : Int) (a10 : Int) (b0 : Int) (b1 : Int) (b2 : Int) (b3 : Int) (b4 : Int) (b5 : Bool) (b6 : Bool) (b7 : Int) (b8 : Int) (b9 : Int) (b10 : Int) (w : World) (hs : w.heap[gs]? = some (.cells #[.func (.func 51) #[] #[.pointer (some ⟨g,0,none⟩)]] 68 (0,0))) (hb : w.heap[g]? = some (.cells #[.int .i64 a0,.int .i64 a1,.int .i64 a2,.int .i64 a3,.int .i64 a4,.bool a5,.bool a6,.int .u32 a7,.int .i64 a8,.int .i64 a9,.int .i64 a10] 65 (0,0))) (hb2 : w.heap[g2]? = some (.cells #[.int .i64 b0,.int .i64 b1,.int .i64 b2,.int .i64 b3,.int .i64 b4,.bool b5,.bool b6,.int .u32 b7,.int .i64 b8,.int .i64 b9,.int .i64 b10] 65 (0,0))) :
 Calls Try.prog 52 (#[.agg #[.int .i64 x.f0,.int .i64 x.f1,.int .i64 x.f2,.int .i64 x.f3,.int .i64 x.f4,.bool x.f5,.bool x.f6,.int .u32 x.f7,.int .i64 x.f8,.int .i64 x.f9,.int .i64 x.f10]] ++ #[.pointer (some ⟨gs,0,none⟩),.pointer (some ⟨g2,0,none⟩)]) w fun e w' => e = .returned (.bool (d_N x a1 b8 b9 b10)) ∧ Below w.heap.size w w':=by
 have HS:=a_d.mk hs
 have HG:=a_d.mk hb
 have H2:=a_d.mk hb2
 have HB:=a_d.mk (Below.refl w.heap.size w)
 clear hs hb hb2
 have key : ∀ b1 b2 b3 b4 : Bool,(x.f1 == a1) = b1 → (x.f8 == b8) = b2 → (x.f9 == b9) = b3 → (x.f10 == b10) = b4 → Calls Try.prog 52 (#[.agg #[.int .i64 x.f0,.int .i64 x.f1,.int .i64 x.f2,.int .i64 x.f3,.int .i64 x.f4,.bool x.f5,.bool x.f6,.int .u32 x.f7,.int .i64 x.f8,.int .i64 x.f9,.int .i64 x.f10]] ++ #[.pointer (some ⟨gs,0,none⟩),.pointer (some ⟨g2,0,none⟩)]) w fun e w' => e = .returned (.bool (b1 && b2 && b3 && b4)) ∧ Below w.heap.size w w':=by
  intro b1 b2 b3 b4 h1 h2 h3 h4
  have H1:=a_d.mk h1
  clear h1
  cases b1 <;> cases b2 <;> cases b3 <;> cases b4
  all_goals
   go_enter Try.func52,Try.ntmps52
   go_wp2_with (first
    | ((with_reducible refine a_J (N:=3) rfl ?_);refine a_C ?hg (N:=3) ?hd (cs:=#[.int .i64 x.f0,.int .i64 x.f1,.int .i64 x.f2,.int .i64 x.f3,.int .i64 x.f4,.bool x.f5,.bool x.f6,.int .u32 x.f7,.int .i64 x.f8,.int .i64 x.f9,.int .i64 x.f10]) (t:=65) ?hr ?_;(case hd => rfl);(case hg => rfl);(case hr => first|(go_simp;done)|(go_simp;rfl));intro gb hgb wb hbox hb;have m0_:=a_d.mk (a_o HB.out hb);have m1_:=a_d.mk (a_i HS.out hb);have m2_:=a_d.mk (a_i HG.out hb);have m3_:=a_d.mk (a_i H2.out hb);have BK:=a_d.mk hbox;clear HB HS HG H2 hb hbox hgb;have HB:=m0_;have HS:=m1_;have HG:=m2_;have H2:=m3_;clear m0_ m1_ m2_ m3_;have hz0 : wb.cell? ⟨gs,0,none⟩ = some (.func (.func 51) #[] #[.pointer (some ⟨g,0,none⟩)]):=(a_a HS.out 0).trans rfl;have hx0 : wb.cell? ⟨gb,0,none⟩ = some (.int .i64 x.f0):=(a_a BK.out 0).trans rfl;have hx1 : wb.cell? ⟨gb,1,none⟩ = some (.int .i64 x.f1):=(a_a BK.out 1).trans rfl;have hx2 : wb.cell? ⟨gb,2,none⟩ = some (.int .i64 x.f2):=(a_a BK.out 2).trans rfl;have hx3 : wb.cell? ⟨gb,3,none⟩ = some (.int .i64 x.f3):=(a_a BK.out 3).trans rfl;have hx4 : wb.cell? ⟨gb,4,none⟩ = some (.int .i64 x.f4):=(a_a BK.out 4).trans rfl;have hx5 : wb.cell? ⟨gb,5,none⟩ = some (.bool x.f5):=(a_a BK.out 5).trans rfl;have hx6 : wb.cell? ⟨gb,6,none⟩ = some (.bool x.f6):=(a_a BK.out 6).trans rfl;have hx7 : wb.cell? ⟨gb,7,none⟩ = some (.int .u32 x.f7):=(a_a BK.out 7).trans rfl;have hx8 : wb.cell? ⟨gb,8,none⟩ = some (.int .i64 x.f8):=(a_a BK.out 8).trans rfl;have hx9 : wb.cell? ⟨gb,9,none⟩ = some (.int .i64 x.f9):=(a_a BK.out 9).trans rfl;have hx10 : wb.cell? ⟨gb,10,none⟩ = some (.int .i64 x.f10):=(a_a BK.out 10).trans rfl)
    | (go_at_call 51;refine (j_n.calls g x a0 a1 a2 a3 a4 a5 a6 a7 a8 a9 a10 _ HG.out).mono ?_;rintro e w' ⟨rfl,hb⟩;rw [H1.out];clear hz0 hx0 hx1 hx2 hx3 hx4 hx5 hx6 hx7 hx8 hx9 hx10;have m0_:=a_d.mk (a_o HB.out hb);have m3_:=a_d.mk (a_i H2.out hb);have m4_:=a_d.mk (a_i BK.out hb);clear HB HS HG H2 BK hb;have HB:=m0_;have H2:=m3_;have BK:=m4_;clear m0_ m3_ m4_;have hx8 : World.cell? _ ⟨gb,8,none⟩ = some (.int .i64 x.f8):=(a_a BK.out 8).trans rfl;have hx9 : World.cell? _ ⟨gb,9,none⟩ = some (.int .i64 x.f9):=(a_a BK.out 9).trans rfl;have hx10 : World.cell? _ ⟨gb,10,none⟩ = some (.int .i64 x.f10):=(a_a BK.out 10).trans rfl;have hy8 : World.cell? _ ⟨g2,8,none⟩ = some (.int .i64 b8):=(a_a H2.out 8).trans rfl;have hy9 : World.cell? _ ⟨g2,9,none⟩ = some (.int .i64 b9):=(a_a H2.out 9).trans rfl;have hy10 : World.cell? _ ⟨g2,10,none⟩ = some (.int .i64 b10):=(a_a H2.out 10).trans rfl))
   go_ret
   exact ⟨by first|rfl|simp [h2,h3,h4]|simp [*],HB.out⟩
 have:=key _ _ _ _ rfl rfl rfl rfl
 exact this
def b_g.f (l0 : List S65) (a0 : Int) (a1 : Int) (a2 : Int) (a3 : Int) (a4 : Int) (a5 : Bool) (a6 : Bool) (a7 : Int) (a8 : Int) (a9 : Int) (a10 : Int) (b0 : Int) (b1 : Int) (b2 : Int) (b3 : Int) (b4 : Int) (b5 : Bool) (b6 : Bool) (b7 : Int) (b8 : Int) (b9 : Int) (b10 : Int) : Option Int:=if l0.length ≤ 1099511627776 then some ((l0.countP (fun s => d_N s a1 b8 b9 b10) : Nat) : Int) else none
theorem b_g.calls (A0 : Option Addr) (c0 : Nat) (l0 : List S65) (gs g g2 : Nat) (a0 : Int) (a1 : Int) (a2 : Int) (a3 : Int) (a4 : Int) (a5 : Bool) (a6 : Bool) (a7 : Int) (a8 : Int) (a9 : Int) (a10 : Int) (b0 : Int) (b1 : Int) (b2 : Int) (b3 : Int) (b4 : Int) (b5 : Bool) (b6 : Bool) (b7 : Int) (b8 : Int) (b9 : Int) (b10 : Int) (r : Int) (w : World) (hr0 : Kd.C k65 w A0 l0.length l0) (hc0 : l0.length ≤ c0) (hs : w.heap[gs]? = some (.cells #[.func (.func 51) #[] #[.pointer (some ⟨g,0,none⟩)]] 68 (0,0))) (hb : w.heap[g]? = some (.cells #[.int .i64 a0,.int .i64 a1,.int .i64 a2,.int .i64 a3,.int .i64 a4,.bool a5,.bool a6,.int .u32 a7,.int .i64 a8,.int .i64 a9,.int .i64 a10] 65 (0,0))) (hb2 : w.heap[g2]? = some (.cells #[.int .i64 b0,.int .i64 b1,.int .i64 b2,.int .i64 b3,.int .i64 b4,.bool b5,.bool b6,.int .u32 b7,.int .i64 b8,.int .i64 b9,.int .i64 b10] 65 (0,0))) (h : b_g.f l0 a0 a1 a2 a3 a4 a5 a6 a7 a8 a9 a10 b0 b1 b2 b3 b4 b5 b6 b7 b8 b9 b10 = some r) :
 Calls Try.prog 38 #[.slice A0 l0.length c0,.func (.func 52) #[] #[.pointer (some ⟨gs,0,none⟩),.pointer (some ⟨g2,0,none⟩)]] w fun e w' => e = .returned (.int .i64 r) ∧ Below w.heap.size w w':=by
 unfold b_g.f at h
 split at h
 case isFalse => cases h
 case isTrue hl =>
 obtain rfl:=Option.some.inj h
 exact h_E.any 52 _ (h_w Try.func52 (by kernel_rfl) rfl) _ A0 c0 l0 w hr0 hl (fun W hW x _ => k_X.calls gs g g2 x a0 a1 a2 a3 a4 a5 a6 a7 a8 a9 a10 b0 b1 b2 b3 b4 b5 b6 b7 b8 b9 b10 W ((hW.block _ (a_Q hs)).trans hs) ((hW.block _ (a_Q hb)).trans hb) ((hW.block _ (a_Q hb2)).trans hb2))
end Go.Proofs.Ytgglkfilkagblaa.Q
end
section
namespace Go.Proofs.Ytgglkfilkagblaa.Q
open Go.RowKit Go.Proofs.YtgglkfilkagblaaW.PrintWords Go.Proofs.YtgglkfilkagblaaW.PrintLast Go.Proofs.YtgglkfilkagblaaW.PrintMore
set_option linter.unusedVariables false
set_option linter.unusedSimpArgs false
def a_K.f (a0 : Int) (a1 : Int) (a2 : Int) : Option (Bool):=if a0 ≥ a1 then (some (decide (a0 ≤ a2))) else (some false)
set_option maxHeartbeats 8000000 in
set_option maxRecDepth 100000 in
theorem a_K.calls (a0 : Int) (a1 : Int) (a2 : Int) (r : Bool) (w : World) (h : a_K.f a0 a1 a2 = some r) :
 Calls Try.prog 80 #[.int .i64 a0,.int .i64 a1,.int .i64 a2] w fun e w' => e = .returned (.bool r) ∧ c_F w w':=by
 have H : (if a0 ≥ a1 then (some (decide (a0 ≤ a2))) else (some false)) = some r:=h
 clear h
 by_cases c4 : a0 ≥ a1
 ·rw [if_pos c4] at H
  have c4b0 : decide (a1 ≤ a0) = true:=decide_eq_true c4
  clear c4
  obtain rfl:=Option.some.inj H
  go_enter Try.func80,Try.ntmps80
  go_wp2
  go_ret
  exact ⟨by first|rfl|(simp;done)|(simp [*];done),by repeat (first|exact c_F.refl _|apply c_F.step)⟩
 rw [if_neg c4] at H
 have c4b0 : decide (a1 ≤ a0) = false:=decide_eq_false c4
 clear c4
 obtain rfl:=Option.some.inj H
 go_enter Try.func80,Try.ntmps80
 go_wp2
 go_ret
 exact ⟨by first|rfl|(simp;done)|(simp [*];done),by repeat (first|exact c_F.refl _|apply c_F.step)⟩
end Go.Proofs.Ytgglkfilkagblaa.Q
end
section
namespace Go.Proofs.Ytgglkfilkagblaa.Q
open Go.RowKit Go.Proofs.YtgglkfilkagblaaW.PrintWords Go.Proofs.YtgglkfilkagblaaW.PrintLast Go.Proofs.YtgglkfilkagblaaW.PrintMore
set_option linter.unusedVariables false
set_option linter.unusedSimpArgs false
def c_o.f (a0 : Int) : Option (Int):=if (Go.bits .andNot .u32 a0 255) = 0 then (some 0) else (some 140)
set_option maxHeartbeats 8000000 in
set_option maxRecDepth 100000 in
theorem c_o.calls (a0 : Int) (r : Int) (w : World) (h : c_o.f a0 = some r) :
 Calls Try.prog 81 #[.int .u32 a0] w fun e w' => e = .returned (.int .i64 r) ∧ c_F w w':=by
 have H : (if (Go.bits .andNot .u32 a0 255) = 0 then (some 0) else (some 140)) = some r:=h
 clear h
 by_cases c2 : (Go.bits .andNot .u32 a0 255) = 0
 ·rw [if_pos c2] at H
  have c2b0 : ((Go.bits .andNot .u32 a0 255) == 0) = true:=beq_iff_eq.mpr c2
  have c2b1 : ((Go.bits .andNot .u32 a0 255) != 0) = false:=bne_eq_false_iff_eq.mpr c2
  clear c2
  obtain rfl:=Option.some.inj H
  go_enter Try.func81,Try.ntmps81
  go_wp2
  go_ret
  exact ⟨by first|rfl|(simp;done)|(simp [*];done),by repeat (first|exact c_F.refl _|apply c_F.step)⟩
 rw [if_neg c2] at H
 have c2b0 : ((Go.bits .andNot .u32 a0 255) == 0) = false:=beq_eq_false_iff_ne.mpr c2
 have c2b1 : ((Go.bits .andNot .u32 a0 255) != 0) = true:=bne_iff_ne.mpr c2
 obtain rfl:=Option.some.inj H
 go_enter Try.func81,Try.ntmps81
 go_wp2
 go_ret
 exact ⟨by first|rfl|(simp;done)|(simp [*];done),by repeat (first|exact c_F.refl _|apply c_F.step)⟩
end Go.Proofs.Ytgglkfilkagblaa.Q
end
