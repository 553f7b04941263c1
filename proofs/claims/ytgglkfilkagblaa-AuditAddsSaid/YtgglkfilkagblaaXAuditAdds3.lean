/- Part 4 of 14 of what the row of AuditAdds stands on: contracts over the given program's functions, the plain law, the row; no condition beyond those that each theorem states. -/
import Derived.Test.YtgglkfilkagblaaXAuditAdds2
section
namespace Go.Proofs.Ytgglkfilkagblaa.Q
open Go.RowKit Go.Proofs.YtgglkfilkagblaaW.PrintWords Go.Proofs.YtgglkfilkagblaaW.PrintLast Go.Proofs.YtgglkfilkagblaaW.PrintMore
set_option linter.unusedVariables false
set_option linter.unusedSimpArgs false
def a_G.l0 : Nat → List (S65) → Int → Int → Int → List (S65) → Option (Bool)
 | 0,_,_,_,_,_ => none
 | k + 1,x8,x9,x10,x112000,x112001 => if x10 < x9 then (if 0 ≤ x10 then (if x10 < (x8.length : Int) then ((a_1.f k ((a_c x8 x10).f0) ((a_c x8 x10).f1) ((a_c x8 x10).f2) ((a_c x8 x10).f3) ((a_c x8 x10).f4) ((a_c x8 x10).f5) ((a_c x8 x10).f6) ((a_c x8 x10).f7) ((a_c x8 x10).f8) ((a_c x8 x10).f9) ((a_c x8 x10).f10)).bind fun t115 => (if t115 = true then (if x10 > 0 then (if 0 ≤ (wrap64 (x10 - 1)) then (if (wrap64 (x10 - 1)) < (x112001.length : Int) then (if ((a_c x112001 (wrap64 (x10 - 1))).f0) ≥ ((a_c x8 x10).f0) then (some false) else ((b_k.f x112001 ((a_c x8 x10).f0) ((a_c x8 x10).f1) ((a_c x8 x10).f2) ((a_c x8 x10).f3) ((a_c x8 x10).f4) ((a_c x8 x10).f5) ((a_c x8 x10).f6) ((a_c x8 x10).f7) ((a_c x8 x10).f8) ((a_c x8 x10).f9) ((a_c x8 x10).f10)).bind fun t117 => (if t117 = ((a_c x8 x10).f9) then ((b_h.f x112001 ((a_c x8 x10).f0) ((a_c x8 x10).f1) ((a_c x8 x10).f2) ((a_c x8 x10).f3) ((a_c x8 x10).f4) ((a_c x8 x10).f5) ((a_c x8 x10).f6) ((a_c x8 x10).f7) ((a_c x8 x10).f8) ((a_c x8 x10).f9) ((a_c x8 x10).f10) ((a_c x8 x10).f0) ((a_c x8 x10).f1) ((a_c x8 x10).f2) ((a_c x8 x10).f3) ((a_c x8 x10).f4) ((a_c x8 x10).f5) ((a_c x8 x10).f6) ((a_c x8 x10).f7) ((a_c x8 x10).f8) ((a_c x8 x10).f9) ((a_c x8 x10).f10)).bind fun t118 => (if t118 = ((a_c x8 x10).f9) then (a_G.l0 k x8 x9 (wrap64 (x10 + 1)) x112000 x112001) else (some false))) else (some false)))) else (none)) else (none)) else ((b_k.f x112001 ((a_c x8 x10).f0) ((a_c x8 x10).f1) ((a_c x8 x10).f2) ((a_c x8 x10).f3) ((a_c x8 x10).f4) ((a_c x8 x10).f5) ((a_c x8 x10).f6) ((a_c x8 x10).f7) ((a_c x8 x10).f8) ((a_c x8 x10).f9) ((a_c x8 x10).f10)).bind fun t119 => (if t119 = ((a_c x8 x10).f9) then ((b_h.f x112001 ((a_c x8 x10).f0) ((a_c x8 x10).f1) ((a_c x8 x10).f2) ((a_c x8 x10).f3) ((a_c x8 x10).f4) ((a_c x8 x10).f5) ((a_c x8 x10).f6) ((a_c x8 x10).f7) ((a_c x8 x10).f8) ((a_c x8 x10).f9) ((a_c x8 x10).f10) ((a_c x8 x10).f0) ((a_c x8 x10).f1) ((a_c x8 x10).f2) ((a_c x8 x10).f3) ((a_c x8 x10).f4) ((a_c x8 x10).f5) ((a_c x8 x10).f6) ((a_c x8 x10).f7) ((a_c x8 x10).f8) ((a_c x8 x10).f9) ((a_c x8 x10).f10)).bind fun t120 => (if t120 = ((a_c x8 x10).f9) then (a_G.l0 k x8 x9 (wrap64 (x10 + 1)) x112000 x112001) else (some false))) else (some false)))) else (some false))) else (none)) else (none)) else (if x112000 ≥ 0 then (some (decide (x112000 ≤ 1125899906842624))) else (some false))
def a_G.f (k : Nat) (a0_0 : Int) (l0_1 : List (S65)) : Option (Bool):=a_G.l0 k l0_1 (l0_1.length : Int) 0 a0_0 l0_1
theorem a_G.c_N : ∀ k,(∀ y0 y1 y2 y3 y4,LeO (a_G.l0 k y0 y1 y2 y3 y4) (a_G.l0 (k + 1) y0 y1 y2 y3 y4))
 | 0 => fun _ _ _ _ _ r h => by simp [a_G.l0] at h
 | k + 1 => by
  have ih0:=a_G.c_N k
  ·intro y0 y1 y2 y3 y4
   unfold a_G.l0
   repeat' first
   | (with_reducible exact ih0 _ _ _ _ _)
   | (with_reducible exact a_1.mono _ _ _ _ _ _ _ _ _ _ _ _)
   | (with_reducible exact LeO.refl _)
   | (with_reducible exact LeO.none _)
   | (with_reducible refine LeO.ite ?_ ?_)
   | (with_reducible refine LeO.bind ?_ (fun _ => ?_))
   | exact ih0 _ _ _ _ _
   | exact a_1.mono _ _ _ _ _ _ _ _ _ _ _ _
   | exact LeO.none _
   | refine LeO.ite ?_ ?_
   | refine LeO.bind ?_ (fun _ => ?_)
theorem a_G.mono : ∀ a0 a1 k,LeO (a_G.f k a0 a1) (a_G.f (k + 1) a0 a1):=by
 intro a0 a1 k
 have ih0:=a_G.c_N k
 unfold a_G.f
 repeat' first
  | (with_reducible exact ih0 _ _ _ _ _)
  | (with_reducible exact a_1.mono _ _ _ _ _ _ _ _ _ _ _ _)
  | (with_reducible exact LeO.refl _)
  | (with_reducible exact LeO.none _)
  | (with_reducible refine LeO.ite ?_ ?_)
  | (with_reducible refine LeO.bind ?_ (fun _ => ?_))
  | exact ih0 _ _ _ _ _
  | exact a_1.mono _ _ _ _ _ _ _ _ _ _ _ _
  | exact LeO.none _
  | refine LeO.ite ?_ ?_
  | refine LeO.bind ?_ (fun _ => ?_)
def a_G.T6 : Bool × List (List Nat × List Nat):=(true,[([],[]),([0],[0]),([1],[1]),([2,1],[2]),([3],[3]),([4,3],[3,4]),([5,3,3],[3,5]),([6],[6]),([7,6],[6,7]),([6],[6]),([9,6],[6,9]),([8,10,6],[6,8,10]),([11,6],[6,11]),([12,6],[6,12]),([6],[6]),([14,6],[6,14]),([13,15,6],[6,13,15]),([6,16,3],[3,6,16]),([3,17],[3,17]),([18,6],[18]),([19],[19]),([20,19],[19,20]),([19],[19]),([21,22,19,19],[19,21,22]),([19],[19]),([24,19],[19,24]),([23,25,19],[19,23,25]),([19,26],[19,26]),([27,23],[27]),([28],[28]),([29,28],[28,29]),([28],[28]),([30,31,28,28],[28,30,31]),([28],[28]),([33,28],[28,33]),([32,34,28],[28,32,34]),([28,35],[28,35])])
def a_G.B6 : List Nat:=[0,1,3,7,15,31,63,127,255,127,639,2047,4095,8191,127,16511,65535,131071,262143,524287,1048575,2097151,1048575,8388607,1048575,17825791,67108863,134217727,268435455,536870911,1073741823,536870911,4294967295,536870911,9126805503,34359738367,68719476735]
theorem a_G.tab6 : rtab .any (opsOf Try.f24 6) = a_G.T6:=by kernel_rfl
theorem a_G.f_W : f_e a_G.T6.2 a_G.B6 = true:=by kernel_rfl
set_option maxHeartbeats 8000000 in
set_option maxRecDepth 100000 in
theorem a_G.calls (k : Nat) (a0_0 : Int) (A0_1 : Option Addr) (c0_1 : Nat) (l0_1 : List (S65)) (r : Bool) (w : World) (hr0_1 : Kd.C k65 w A0_1 l0_1.length l0_1) (hc0_1 : l0_1.length ≤ c0_1) (h : a_G.f k a0_0 l0_1 = some r) :
 Calls Try.prog 24 #[.agg #[.int .i64 a0_0,.slice A0_1 l0_1.length c0_1]] w fun e w' => e = .returned (.bool r) ∧ Below w.heap.size w w':=by
 have hu27:=Try.underlying27
 have hu65:=Try.underlying65
 have hu68:=Try.underlying68
 have e_o:=a_e.mk hr0_1
 have g_I:=a_e.mk hc0_1
 clear hr0_1 hc0_1
 have HB:=a_e.mk (Below.refl w.heap.size w)
 have H : (a_G.l0 k l0_1 (l0_1.length : Int) 0 a0_0 l0_1) = some r:=h
 clear h
 have H':=a_e.mk H
 clear H
 go_enter Try.func24,Try.ntmps24
 go_wp2_with (first|((with_reducible refine a_U (N:=1) rfl ?_);refine a_H ?hg (N:=1) ?hd (cs:=#[.int .i64 a0_0,.slice A0_1 l0_1.length c0_1]) (t:=27) ?hr ?_;(case hd => rfl);(case hg => rfl);(case hr => first|(go_simp;done)|(go_simp;rfl));intro e_K hg w2 hbox hb;have b_l:=a_e.mk (hbox);have O_g:=a_e.mk ((by rw [hg];exact (a_p (lup_ HB.out)) : w.heap.size ≤ e_K));have e_p:=a_e.mk ((by rw [hg];exact (a_p (lup_ HB.out)) : w.heap.size ≤ e_K));replace HB:=a_e.mk (a_t (lup_ HB.out) hb);clear hb hbox hg;have w_f : w2.cell? ⟨e_K,0,none⟩ = some (.int .i64 a0_0):=(a_a b_l.out 0).trans rfl;have w_g : w2.cell? ⟨e_K,1,none⟩ = some (.slice A0_1 l0_1.length c0_1):=(a_a b_l.out 1).trans rfl;have w_h:=a_b b_l.out 0;have w_i:=a_b b_l.out 1))
 go_loopg [10] k (fun kq v10 w' => ∃ (x10_1 : Int),v10 = .int .i64 x10_1 ∧ a_e (a_G.l0 kq l0_1 (l0_1.length : Int) x10_1 a0_0 l0_1 = some r) ∧ a_e (kq ≤ k) ∧ a_e (w'.heap[e_K]? = some (.cells #[.int .i64 a0_0,(.slice A0_1 l0_1.length c0_1)] 27 (0,0))) ∧ a_e (Below w.heap.size w w'))
 case atStart => exact ⟨(0),(by first|rfl|(simp;done)|(simp [*];done)),H',⟨Nat.le_refl _⟩,⟨by (with_reducible repeat (first|refine a_j ?_ _|refine a_k ?_|refine a_i ?_ _));exact b_l.out⟩,⟨by repeat (first|(with_reducible first|exact HB.out|apply a_g|apply a_f|apply a_h|refine a_d ?_ e_p.out)|exact HB.out)⟩⟩
 case round =>
  clear H'
  try clear c2
  try clear p2
  try clear w_f
  try clear w_g
  try clear w_h
  try clear w_i
  obtain ⟨x10_1,rfl,HA,HK1,b_l,HB⟩:=hrel
  cases gk with
  | zero => exact absurd HA.out (by simp [a_G.l0])
  | succ k1 =>
   have H:=HA.out
   clear HA
   simp only [a_G.l0] at H
   by_cases c4 : x10_1 < (l0_1.length : Int)
   rotate_left
   ·rw [if_neg c4] at H
    have c4b0 : decide (x10_1 < (l0_1.length : Int)) = false:=decide_eq_false c4
    clear c4
    by_cases c112 : a0_0 ≥ 0
    ·rw [if_pos c112] at H
     have c112b0 : decide (0 ≤ a0_0) = true:=decide_eq_true c112
     clear c112
     obtain rfl:=Option.some.inj H
     have r_l : wr.cell? ⟨e_K,0,none⟩ = some (.int .i64 a0_0):=(a_a b_l.out 0).trans rfl
     have r_m : wr.cell? ⟨e_K,1,none⟩ = some (.slice A0_1 l0_1.length c0_1):=(a_a b_l.out 1).trans rfl
     have r_n:=a_b b_l.out 0
     have r_o:=a_b b_l.out 1
     go_wp2
     go_ret
     exact ⟨by first|rfl|(simp [a_w,a_x] <;> rfl)|(simp [*, a_w,a_x] <;> rfl),by repeat (first|(with_reducible first|exact HB.out|apply a_g|apply a_f|apply a_h|refine a_d ?_ e_p.out)|exact HB.out)⟩
    rw [if_neg c112] at H
    have c112b0 : decide (0 ≤ a0_0) = false:=decide_eq_false c112
    clear c112
    obtain rfl:=Option.some.inj H
    have w_U : wr.cell? ⟨e_K,0,none⟩ = some (.int .i64 a0_0):=(a_a b_l.out 0).trans rfl
    have w_V : wr.cell? ⟨e_K,1,none⟩ = some (.slice A0_1 l0_1.length c0_1):=(a_a b_l.out 1).trans rfl
    have w_W:=a_b b_l.out 0
    have w_X:=a_b b_l.out 1
    go_wp2
    go_ret
    exact ⟨by first|rfl|(simp [a_w,a_x] <;> rfl)|(simp [*, a_w,a_x] <;> rfl),by repeat (first|(with_reducible first|exact HB.out|apply a_g|apply a_f|apply a_h|refine a_d ?_ e_p.out)|exact HB.out)⟩
   rw [if_pos c4] at H
   have c4b0 : decide (x10_1 < (l0_1.length : Int)) = true:=decide_eq_true c4
   clear c4
   by_cases c5 : 0 ≤ x10_1
   rotate_left
   ·rw [if_neg c5] at H
    exact absurd H (by simp)
   rw [if_pos c5] at H
   have c5b0 : decide (0 ≤ x10_1) = true:=decide_eq_true c5
   clear c5
   by_cases c6 : x10_1 < (l0_1.length : Int)
   rotate_left
   ·rw [if_neg c6] at H
    exact absurd H (by simp)
   rw [if_pos c6] at H
   have c6b0 : decide (x10_1 < (l0_1.length : Int)) = true:=decide_eq_true c6
   clear c6
   have p112 : 0 ≤ (x10_1 : Int):=of_decide_eq_true (by first|(with_reducible assumption)|assumption)
   have q112 : x10_1 < (l0_1.length : Int):=of_decide_eq_true (by first|(with_reducible assumption)|assumption)
   obtain ⟨ad112,e112,m_r,m_s,m_t,m_u,m_v,m_w,m_x,m_y,m_z,m_A,k_P⟩:=e_h e_o.out x10_1 p112 q112
   cases e112
   replace m_r:=(HB.out.cell (World.block_lt_of_cell? w _ m_r)).trans m_r
   replace m_s:=(HB.out.cell (World.block_lt_of_cell? w _ m_s)).trans m_s
   replace m_t:=(HB.out.cell (World.block_lt_of_cell? w _ m_t)).trans m_t
   replace m_u:=(HB.out.cell (World.block_lt_of_cell? w _ m_u)).trans m_u
   replace m_v:=(HB.out.cell (World.block_lt_of_cell? w _ m_v)).trans m_v
   replace m_w:=(HB.out.cell (World.block_lt_of_cell? w _ m_w)).trans m_w
   replace m_x:=(HB.out.cell (World.block_lt_of_cell? w _ m_x)).trans m_x
   replace m_y:=(HB.out.cell (World.block_lt_of_cell? w _ m_y)).trans m_y
   replace m_z:=(HB.out.cell (World.block_lt_of_cell? w _ m_z)).trans m_z
   replace m_A:=(HB.out.cell (World.block_lt_of_cell? w _ m_A)).trans m_A
   replace k_P:=(HB.out.cell (World.block_lt_of_cell? w _ k_P)).trans k_P
   replace p112:=eq_true p112
   replace q112:=eq_true q112
   try go_wp2_with (first|((with_reducible refine a_U (N:=4) rfl ?_);refine a_H ?hg (N:=4) ?hd (cs:=#[.int .i64 0,.int .i64 0,.int .i64 0,.int .i64 0,.int .i64 0,.bool false,.bool false,.int .u32 0,.int .i64 0,.int .i64 0,.int .i64 0]) (t:=65) ?hr ?_;(case hd => rfl);(case hg => rfl);(case hr => first|(go_simp;done)|(go_simp;rfl));intro b_e hg w14 hbox hb;have a_F:=a_e.mk (hbox);have O_h:=a_e.mk ((by rw [hg];exact (a_p (by repeat (first|(with_reducible first|exact HB.out|apply a_g|apply a_f|apply a_h|refine a_d ?_ e_p.out)|exact HB.out))) : w.heap.size ≤ b_e));have e_O:=a_e.mk ((by rw [hg];exact (a_p (by repeat (first|(with_reducible first|exact HB.out|apply a_g|apply a_f|apply a_h|refine a_d ?_ e_p.out)|exact HB.out))) : w.heap.size ≤ b_e));have b_x:=a_e.mk ((by rw [hg];exact Nat.ne_of_lt (a_N (bup_ b_l.out)) : e_K ≠ b_e));have p_1:=a_e.mk ((by rw [hg];exact Nat.ne_of_gt (a_N (bup_ b_l.out)) : b_e ≠ e_K));replace b_l:=a_e.mk (a_l (bup_ b_l.out) hb);replace HB:=a_e.mk (a_t (by repeat (first|(with_reducible first|exact HB.out|apply a_g|apply a_f|apply a_h|refine a_d ?_ e_p.out)|exact HB.out)) hb);clear hb hbox hg;have r_p:=p_1.out;have r_q:=b_x.out;have h_d : w14.cell? ⟨b_e,0,none⟩ = some (.int .i64 0):=(a_a a_F.out 0).trans rfl;have h_e : w14.cell? ⟨b_e,1,none⟩ = some (.int .i64 0):=(a_a a_F.out 1).trans rfl;have s_S : w14.cell? ⟨b_e,2,none⟩ = some (.int .i64 0):=(a_a a_F.out 2).trans rfl;have s_T : w14.cell? ⟨b_e,3,none⟩ = some (.int .i64 0):=(a_a a_F.out 3).trans rfl;have s_U : w14.cell? ⟨b_e,4,none⟩ = some (.int .i64 0):=(a_a a_F.out 4).trans rfl;have s_V : w14.cell? ⟨b_e,5,none⟩ = some (.bool false):=(a_a a_F.out 5).trans rfl;have s_W : w14.cell? ⟨b_e,6,none⟩ = some (.bool false):=(a_a a_F.out 6).trans rfl;have s_X : w14.cell? ⟨b_e,7,none⟩ = some (.int .u32 0):=(a_a a_F.out 7).trans rfl;have s_Y : w14.cell? ⟨b_e,8,none⟩ = some (.int .i64 0):=(a_a a_F.out 8).trans rfl;have s_Z : w14.cell? ⟨b_e,9,none⟩ = some (.int .i64 0):=(a_a a_F.out 9).trans rfl;have r_r : w14.cell? ⟨b_e,10,none⟩ = some (.int .i64 0):=(a_a a_F.out 10).trans rfl;have h_f:=a_b a_F.out 0;have h_g:=a_b a_F.out 1;have s_0:=a_b a_F.out 2;have s_1:=a_b a_F.out 3;have s_2:=a_b a_F.out 4;have s_3:=a_b a_F.out 5;have s_4:=a_b a_F.out 6;have s_5:=a_b a_F.out 7;have s_6:=a_b a_F.out 8;have s_7:=a_b a_F.out 9;have r_s:=a_b a_F.out 10)|((with_reducible refine a_U (N:=5) rfl ?_);refine a_H ?hg (N:=5) ?hd (cs:=#[.nilFunc]) (t:=68) ?hr ?_;(case hd => rfl);(case hg => rfl);(case hr => first|(go_simp;done)|(go_simp;rfl));intro f_f hg w17 hbox hb;have b_5:=a_e.mk (hbox);have O_i:=a_e.mk ((by rw [hg];exact (a_p (by repeat (first|(with_reducible first|exact HB.out|apply a_g|apply a_f|apply a_h|refine a_d ?_ e_p.out|refine a_d ?_ e_O.out)|exact HB.out))) : w.heap.size ≤ f_f));have f_g:=a_e.mk ((by rw [hg];exact (a_p (by repeat (first|(with_reducible first|exact HB.out|apply a_g|apply a_f|apply a_h|refine a_d ?_ e_p.out|refine a_d ?_ e_O.out)|exact HB.out))) : w.heap.size ≤ f_f));have l_M:=a_e.mk ((by rw [hg];exact Nat.ne_of_lt (a_N (g:=e_K) (o:=.cells #[.int .i64 a0_0,.slice (some ad112) l0_1.length c0_1] 27 (0,0)) (by (with_reducible repeat (first|refine a_j ?_ _|refine a_k ?_|refine a_i ?_ _));refine a_B ?_ b_x.out _;(with_reducible repeat (first|refine a_j ?_ _|refine a_k ?_|refine a_i ?_ _));refine a_B ?_ b_x.out _;(with_reducible repeat (first|refine a_j ?_ _|refine a_k ?_|refine a_i ?_ _));refine a_B ?_ b_x.out _;(with_reducible repeat (first|refine a_j ?_ _|refine a_k ?_|refine a_i ?_ _));refine a_B ?_ b_x.out _;(with_reducible repeat (first|refine a_j ?_ _|refine a_k ?_|refine a_i ?_ _));refine a_B ?_ b_x.out _;(with_reducible repeat (first|refine a_j ?_ _|refine a_k ?_|refine a_i ?_ _));refine a_B ?_ b_x.out _;(with_reducible repeat (first|refine a_j ?_ _|refine a_k ?_|refine a_i ?_ _));refine a_B ?_ b_x.out _;(with_reducible repeat (first|refine a_j ?_ _|refine a_k ?_|refine a_i ?_ _));refine a_B ?_ b_x.out _;(with_reducible repeat (first|refine a_j ?_ _|refine a_k ?_|refine a_i ?_ _));refine a_B ?_ b_x.out _;(with_reducible repeat (first|refine a_j ?_ _|refine a_k ?_|refine a_i ?_ _));refine a_B ?_ b_x.out _;(with_reducible repeat (first|refine a_j ?_ _|refine a_k ?_|refine a_i ?_ _));refine a_B ?_ b_x.out _;(with_reducible repeat (first|refine a_j ?_ _|refine a_k ?_|refine a_i ?_ _));exact b_l.out)) : e_K ≠ f_f));have p_2:=a_e.mk ((by rw [hg];exact Nat.ne_of_gt (a_N (g:=e_K) (o:=.cells #[.int .i64 a0_0,.slice (some ad112) l0_1.length c0_1] 27 (0,0)) (by (with_reducible repeat (first|refine a_j ?_ _|refine a_k ?_|refine a_i ?_ _));refine a_B ?_ b_x.out _;(with_reducible repeat (first|refine a_j ?_ _|refine a_k ?_|refine a_i ?_ _));refine a_B ?_ b_x.out _;(with_reducible repeat (first|refine a_j ?_ _|refine a_k ?_|refine a_i ?_ _));refine a_B ?_ b_x.out _;(with_reducible repeat (first|refine a_j ?_ _|refine a_k ?_|refine a_i ?_ _));refine a_B ?_ b_x.out _;(with_reducible repeat (first|refine a_j ?_ _|refine a_k ?_|refine a_i ?_ _));refine a_B ?_ b_x.out _;(with_reducible repeat (first|refine a_j ?_ _|refine a_k ?_|refine a_i ?_ _));refine a_B ?_ b_x.out _;(with_reducible repeat (first|refine a_j ?_ _|refine a_k ?_|refine a_i ?_ _));refine a_B ?_ b_x.out _;(with_reducible repeat (first|refine a_j ?_ _|refine a_k ?_|refine a_i ?_ _));refine a_B ?_ b_x.out _;(with_reducible repeat (first|refine a_j ?_ _|refine a_k ?_|refine a_i ?_ _));refine a_B ?_ b_x.out _;(with_reducible repeat (first|refine a_j ?_ _|refine a_k ?_|refine a_i ?_ _));refine a_B ?_ b_x.out _;(with_reducible repeat (first|refine a_j ?_ _|refine a_k ?_|refine a_i ?_ _));refine a_B ?_ b_x.out _;(with_reducible repeat (first|refine a_j ?_ _|refine a_k ?_|refine a_i ?_ _));exact b_l.out)) : f_f ≠ e_K));have l_N:=a_e.mk ((by rw [hg];exact Nat.ne_of_lt (a_N (g:=b_e) (o:=.cells #[.int .i64 ((a_c l0_1 x10_1).f0),.int .i64 ((a_c l0_1 x10_1).f1),.int .i64 ((a_c l0_1 x10_1).f2),.int .i64 ((a_c l0_1 x10_1).f3),.int .i64 ((a_c l0_1 x10_1).f4),.bool ((a_c l0_1 x10_1).f5),.bool ((a_c l0_1 x10_1).f6),.int .u32 ((a_c l0_1 x10_1).f7),.int .i64 ((a_c l0_1 x10_1).f8),.int .i64 ((a_c l0_1 x10_1).f9),.int .i64 ((a_c l0_1 x10_1).f10)] 65 (0,0)) (by (with_reducible repeat (first|refine a_j ?_ _|refine a_k ?_|refine a_i ?_ _));refine a_J (cs:=#[.int .i64 ((a_c l0_1 x10_1).f0),.int .i64 ((a_c l0_1 x10_1).f1),.int .i64 ((a_c l0_1 x10_1).f2),.int .i64 ((a_c l0_1 x10_1).f3),.int .i64 ((a_c l0_1 x10_1).f4),.bool ((a_c l0_1 x10_1).f5),.bool ((a_c l0_1 x10_1).f6),.int .u32 ((a_c l0_1 x10_1).f7),.int .i64 ((a_c l0_1 x10_1).f8),.int .i64 ((a_c l0_1 x10_1).f9),.int .i64 0]) ?_ 10 _ rfl;(with_reducible repeat (first|refine a_j ?_ _|refine a_k ?_|refine a_i ?_ _));refine a_J (cs:=#[.int .i64 ((a_c l0_1 x10_1).f0),.int .i64 ((a_c l0_1 x10_1).f1),.int .i64 ((a_c l0_1 x10_1).f2),.int .i64 ((a_c l0_1 x10_1).f3),.int .i64 ((a_c l0_1 x10_1).f4),.bool ((a_c l0_1 x10_1).f5),.bool ((a_c l0_1 x10_1).f6),.int .u32 ((a_c l0_1 x10_1).f7),.int .i64 ((a_c l0_1 x10_1).f8),.int .i64 0,.int .i64 0]) ?_ 9 _ rfl;(with_reducible repeat (first|refine a_j ?_ _|refine a_k ?_|refine a_i ?_ _));refine a_J (cs:=#[.int .i64 ((a_c l0_1 x10_1).f0),.int .i64 ((a_c l0_1 x10_1).f1),.int .i64 ((a_c l0_1 x10_1).f2),.int .i64 ((a_c l0_1 x10_1).f3),.int .i64 ((a_c l0_1 x10_1).f4),.bool ((a_c l0_1 x10_1).f5),.bool ((a_c l0_1 x10_1).f6),.int .u32 ((a_c l0_1 x10_1).f7),.int .i64 0,.int .i64 0,.int .i64 0]) ?_ 8 _ rfl;(with_reducible repeat (first|refine a_j ?_ _|refine a_k ?_|refine a_i ?_ _));refine a_J (cs:=#[.int .i64 ((a_c l0_1 x10_1).f0),.int .i64 ((a_c l0_1 x10_1).f1),.int .i64 ((a_c l0_1 x10_1).f2),.int .i64 ((a_c l0_1 x10_1).f3),.int .i64 ((a_c l0_1 x10_1).f4),.bool ((a_c l0_1 x10_1).f5),.bool ((a_c l0_1 x10_1).f6),.int .u32 0,.int .i64 0,.int .i64 0,.int .i64 0]) ?_ 7 _ rfl;(with_reducible repeat (first|refine a_j ?_ _|refine a_k ?_|refine a_i ?_ _));refine a_J (cs:=#[.int .i64 ((a_c l0_1 x10_1).f0),.int .i64 ((a_c l0_1 x10_1).f1),.int .i64 ((a_c l0_1 x10_1).f2),.int .i64 ((a_c l0_1 x10_1).f3),.int .i64 ((a_c l0_1 x10_1).f4),.bool ((a_c l0_1 x10_1).f5),.bool false,.int .u32 0,.int .i64 0,.int .i64 0,.int .i64 0]) ?_ 6 _ rfl;(with_reducible repeat (first|refine a_j ?_ _|refine a_k ?_|refine a_i ?_ _));refine a_J (cs:=#[.int .i64 ((a_c l0_1 x10_1).f0),.int .i64 ((a_c l0_1 x10_1).f1),.int .i64 ((a_c l0_1 x10_1).f2),.int .i64 ((a_c l0_1 x10_1).f3),.int .i64 ((a_c l0_1 x10_1).f4),.bool false,.bool false,.int .u32 0,.int .i64 0,.int .i64 0,.int .i64 0]) ?_ 5 _ rfl;(with_reducible repeat (first|refine a_j ?_ _|refine a_k ?_|refine a_i ?_ _));refine a_J (cs:=#[.int .i64 ((a_c l0_1 x10_1).f0),.int .i64 ((a_c l0_1 x10_1).f1),.int .i64 ((a_c l0_1 x10_1).f2),.int .i64 ((a_c l0_1 x10_1).f3),.int .i64 0,.bool false,.bool false,.int .u32 0,.int .i64 0,.int .i64 0,.int .i64 0]) ?_ 4 _ rfl;(with_reducible repeat (first|refine a_j ?_ _|refine a_k ?_|refine a_i ?_ _));refine a_J (cs:=#[.int .i64 ((a_c l0_1 x10_1).f0),.int .i64 ((a_c l0_1 x10_1).f1),.int .i64 ((a_c l0_1 x10_1).f2),.int .i64 0,.int .i64 0,.bool false,.bool false,.int .u32 0,.int .i64 0,.int .i64 0,.int .i64 0]) ?_ 3 _ rfl;(with_reducible repeat (first|refine a_j ?_ _|refine a_k ?_|refine a_i ?_ _));refine a_J (cs:=#[.int .i64 ((a_c l0_1 x10_1).f0),.int .i64 ((a_c l0_1 x10_1).f1),.int .i64 0,.int .i64 0,.int .i64 0,.bool false,.bool false,.int .u32 0,.int .i64 0,.int .i64 0,.int .i64 0]) ?_ 2 _ rfl;(with_reducible repeat (first|refine a_j ?_ _|refine a_k ?_|refine a_i ?_ _));refine a_J (cs:=#[.int .i64 ((a_c l0_1 x10_1).f0),.int .i64 0,.int .i64 0,.int .i64 0,.int .i64 0,.bool false,.bool false,.int .u32 0,.int .i64 0,.int .i64 0,.int .i64 0]) ?_ 1 _ rfl;(with_reducible repeat (first|refine a_j ?_ _|refine a_k ?_|refine a_i ?_ _));refine a_J (cs:=#[.int .i64 0,.int .i64 0,.int .i64 0,.int .i64 0,.int .i64 0,.bool false,.bool false,.int .u32 0,.int .i64 0,.int .i64 0,.int .i64 0]) ?_ 0 _ rfl;(with_reducible repeat (first|refine a_j ?_ _|refine a_k ?_|refine a_i ?_ _));exact a_F.out)) : b_e ≠ f_f));have p_3:=a_e.mk ((by rw [hg];exact Nat.ne_of_gt (a_N (g:=b_e) (o:=.cells #[.int .i64 ((a_c l0_1 x10_1).f0),.int .i64 ((a_c l0_1 x10_1).f1),.int .i64 ((a_c l0_1 x10_1).f2),.int .i64 ((a_c l0_1 x10_1).f3),.int .i64 ((a_c l0_1 x10_1).f4),.bool ((a_c l0_1 x10_1).f5),.bool ((a_c l0_1 x10_1).f6),.int .u32 ((a_c l0_1 x10_1).f7),.int .i64 ((a_c l0_1 x10_1).f8),.int .i64 ((a_c l0_1 x10_1).f9),.int .i64 ((a_c l0_1 x10_1).f10)] 65 (0,0)) (by (with_reducible repeat (first|refine a_j ?_ _|refine a_k ?_|refine a_i ?_ _));refine a_J (cs:=#[.int .i64 ((a_c l0_1 x10_1).f0),.int .i64 ((a_c l0_1 x10_1).f1),.int .i64 ((a_c l0_1 x10_1).f2),.int .i64 ((a_c l0_1 x10_1).f3),.int .i64 ((a_c l0_1 x10_1).f4),.bool ((a_c l0_1 x10_1).f5),.bool ((a_c l0_1 x10_1).f6),.int .u32 ((a_c l0_1 x10_1).f7),.int .i64 ((a_c l0_1 x10_1).f8),.int .i64 ((a_c l0_1 x10_1).f9),.int .i64 0]) ?_ 10 _ rfl;(with_reducible repeat (first|refine a_j ?_ _|refine a_k ?_|refine a_i ?_ _));refine a_J (cs:=#[.int .i64 ((a_c l0_1 x10_1).f0),.int .i64 ((a_c l0_1 x10_1).f1),.int .i64 ((a_c l0_1 x10_1).f2),.int .i64 ((a_c l0_1 x10_1).f3),.int .i64 ((a_c l0_1 x10_1).f4),.bool ((a_c l0_1 x10_1).f5),.bool ((a_c l0_1 x10_1).f6),.int .u32 ((a_c l0_1 x10_1).f7),.int .i64 ((a_c l0_1 x10_1).f8),.int .i64 0,.int .i64 0]) ?_ 9 _ rfl;(with_reducible repeat (first|refine a_j ?_ _|refine a_k ?_|refine a_i ?_ _));refine a_J (cs:=#[.int .i64 ((a_c l0_1 x10_1).f0),.int .i64 ((a_c l0_1 x10_1).f1),.int .i64 ((a_c l0_1 x10_1).f2),.int .i64 ((a_c l0_1 x10_1).f3),.int .i64 ((a_c l0_1 x10_1).f4),.bool ((a_c l0_1 x10_1).f5),.bool ((a_c l0_1 x10_1).f6),.int .u32 ((a_c l0_1 x10_1).f7),.int .i64 0,.int .i64 0,.int .i64 0]) ?_ 8 _ rfl;(with_reducible repeat (first|refine a_j ?_ _|refine a_k ?_|refine a_i ?_ _));refine a_J (cs:=#[.int .i64 ((a_c l0_1 x10_1).f0),.int .i64 ((a_c l0_1 x10_1).f1),.int .i64 ((a_c l0_1 x10_1).f2),.int .i64 ((a_c l0_1 x10_1).f3),.int .i64 ((a_c l0_1 x10_1).f4),.bool ((a_c l0_1 x10_1).f5),.bool ((a_c l0_1 x10_1).f6),.int .u32 0,.int .i64 0,.int .i64 0,.int .i64 0]) ?_ 7 _ rfl;(with_reducible repeat (first|refine a_j ?_ _|refine a_k ?_|refine a_i ?_ _));refine a_J (cs:=#[.int .i64 ((a_c l0_1 x10_1).f0),.int .i64 ((a_c l0_1 x10_1).f1),.int .i64 ((a_c l0_1 x10_1).f2),.int .i64 ((a_c l0_1 x10_1).f3),.int .i64 ((a_c l0_1 x10_1).f4),.bool ((a_c l0_1 x10_1).f5),.bool false,.int .u32 0,.int .i64 0,.int .i64 0,.int .i64 0]) ?_ 6 _ rfl;(with_reducible repeat (first|refine a_j ?_ _|refine a_k ?_|refine a_i ?_ _));refine a_J (cs:=#[.int .i64 ((a_c l0_1 x10_1).f0),.int .i64 ((a_c l0_1 x10_1).f1),.int .i64 ((a_c l0_1 x10_1).f2),.int .i64 ((a_c l0_1 x10_1).f3),.int .i64 ((a_c l0_1 x10_1).f4),.bool false,.bool false,.int .u32 0,.int .i64 0,.int .i64 0,.int .i64 0]) ?_ 5 _ rfl;(with_reducible repeat (first|refine a_j ?_ _|refine a_k ?_|refine a_i ?_ _));refine a_J (cs:=#[.int .i64 ((a_c l0_1 x10_1).f0),.int .i64 ((a_c l0_1 x10_1).f1),.int .i64 ((a_c l0_1 x10_1).f2),.int .i64 ((a_c l0_1 x10_1).f3),.int .i64 0,.bool false,.bool false,.int .u32 0,.int .i64 0,.int .i64 0,.int .i64 0]) ?_ 4 _ rfl;(with_reducible repeat (first|refine a_j ?_ _|refine a_k ?_|refine a_i ?_ _));refine a_J (cs:=#[.int .i64 ((a_c l0_1 x10_1).f0),.int .i64 ((a_c l0_1 x10_1).f1),.int .i64 ((a_c l0_1 x10_1).f2),.int .i64 0,.int .i64 0,.bool false,.bool false,.int .u32 0,.int .i64 0,.int .i64 0,.int .i64 0]) ?_ 3 _ rfl;(with_reducible repeat (first|refine a_j ?_ _|refine a_k ?_|refine a_i ?_ _));refine a_J (cs:=#[.int .i64 ((a_c l0_1 x10_1).f0),.int .i64 ((a_c l0_1 x10_1).f1),.int .i64 0,.int .i64 0,.int .i64 0,.bool false,.bool false,.int .u32 0,.int .i64 0,.int .i64 0,.int .i64 0]) ?_ 2 _ rfl;(with_reducible repeat (first|refine a_j ?_ _|refine a_k ?_|refine a_i ?_ _));refine a_J (cs:=#[.int .i64 ((a_c l0_1 x10_1).f0),.int .i64 0,.int .i64 0,.int .i64 0,.int .i64 0,.bool false,.bool false,.int .u32 0,.int .i64 0,.int .i64 0,.int .i64 0]) ?_ 1 _ rfl;(with_reducible repeat (first|refine a_j ?_ _|refine a_k ?_|refine a_i ?_ _));refine a_J (cs:=#[.int .i64 0,.int .i64 0,.int .i64 0,.int .i64 0,.int .i64 0,.bool false,.bool false,.int .u32 0,.int .i64 0,.int .i64 0,.int .i64 0]) ?_ 0 _ rfl;(with_reducible repeat (first|refine a_j ?_ _|refine a_k ?_|refine a_i ?_ _));exact a_F.out)) : f_f ≠ b_e));replace b_l:=a_e.mk (a_l (g:=e_K) (o:=.cells #[.int .i64 a0_0,.slice (some ad112) l0_1.length c0_1] 27 (0,0)) (by (with_reducible repeat (first|refine a_j ?_ _|refine a_k ?_|refine a_i ?_ _));refine a_B ?_ b_x.out _;(with_reducible repeat (first|refine a_j ?_ _|refine a_k ?_|refine a_i ?_ _));refine a_B ?_ b_x.out _;(with_reducible repeat (first|refine a_j ?_ _|refine a_k ?_|refine a_i ?_ _));refine a_B ?_ b_x.out _;(with_reducible repeat (first|refine a_j ?_ _|refine a_k ?_|refine a_i ?_ _));refine a_B ?_ b_x.out _;(with_reducible repeat (first|refine a_j ?_ _|refine a_k ?_|refine a_i ?_ _));refine a_B ?_ b_x.out _;(with_reducible repeat (first|refine a_j ?_ _|refine a_k ?_|refine a_i ?_ _));refine a_B ?_ b_x.out _;(with_reducible repeat (first|refine a_j ?_ _|refine a_k ?_|refine a_i ?_ _));refine a_B ?_ b_x.out _;(with_reducible repeat (first|refine a_j ?_ _|refine a_k ?_|refine a_i ?_ _));refine a_B ?_ b_x.out _;(with_reducible repeat (first|refine a_j ?_ _|refine a_k ?_|refine a_i ?_ _));refine a_B ?_ b_x.out _;(with_reducible repeat (first|refine a_j ?_ _|refine a_k ?_|refine a_i ?_ _));refine a_B ?_ b_x.out _;(with_reducible repeat (first|refine a_j ?_ _|refine a_k ?_|refine a_i ?_ _));refine a_B ?_ b_x.out _;(with_reducible repeat (first|refine a_j ?_ _|refine a_k ?_|refine a_i ?_ _));exact b_l.out) hb);replace a_F:=a_e.mk (a_l (g:=b_e) (o:=.cells #[.int .i64 ((a_c l0_1 x10_1).f0),.int .i64 ((a_c l0_1 x10_1).f1),.int .i64 ((a_c l0_1 x10_1).f2),.int .i64 ((a_c l0_1 x10_1).f3),.int .i64 ((a_c l0_1 x10_1).f4),.bool ((a_c l0_1 x10_1).f5),.bool ((a_c l0_1 x10_1).f6),.int .u32 ((a_c l0_1 x10_1).f7),.int .i64 ((a_c l0_1 x10_1).f8),.int .i64 ((a_c l0_1 x10_1).f9),.int .i64 ((a_c l0_1 x10_1).f10)] 65 (0,0)) (by (with_reducible repeat (first|refine a_j ?_ _|refine a_k ?_|refine a_i ?_ _));refine a_J (cs:=#[.int .i64 ((a_c l0_1 x10_1).f0),.int .i64 ((a_c l0_1 x10_1).f1),.int .i64 ((a_c l0_1 x10_1).f2),.int .i64 ((a_c l0_1 x10_1).f3),.int .i64 ((a_c l0_1 x10_1).f4),.bool ((a_c l0_1 x10_1).f5),.bool ((a_c l0_1 x10_1).f6),.int .u32 ((a_c l0_1 x10_1).f7),.int .i64 ((a_c l0_1 x10_1).f8),.int .i64 ((a_c l0_1 x10_1).f9),.int .i64 0]) ?_ 10 _ rfl;(with_reducible repeat (first|refine a_j ?_ _|refine a_k ?_|refine a_i ?_ _));refine a_J (cs:=#[.int .i64 ((a_c l0_1 x10_1).f0),.int .i64 ((a_c l0_1 x10_1).f1),.int .i64 ((a_c l0_1 x10_1).f2),.int .i64 ((a_c l0_1 x10_1).f3),.int .i64 ((a_c l0_1 x10_1).f4),.bool ((a_c l0_1 x10_1).f5),.bool ((a_c l0_1 x10_1).f6),.int .u32 ((a_c l0_1 x10_1).f7),.int .i64 ((a_c l0_1 x10_1).f8),.int .i64 0,.int .i64 0]) ?_ 9 _ rfl;(with_reducible repeat (first|refine a_j ?_ _|refine a_k ?_|refine a_i ?_ _));refine a_J (cs:=#[.int .i64 ((a_c l0_1 x10_1).f0),.int .i64 ((a_c l0_1 x10_1).f1),.int .i64 ((a_c l0_1 x10_1).f2),.int .i64 ((a_c l0_1 x10_1).f3),.int .i64 ((a_c l0_1 x10_1).f4),.bool ((a_c l0_1 x10_1).f5),.bool ((a_c l0_1 x10_1).f6),.int .u32 ((a_c l0_1 x10_1).f7),.int .i64 0,.int .i64 0,.int .i64 0]) ?_ 8 _ rfl;(with_reducible repeat (first|refine a_j ?_ _|refine a_k ?_|refine a_i ?_ _));refine a_J (cs:=#[.int .i64 ((a_c l0_1 x10_1).f0),.int .i64 ((a_c l0_1 x10_1).f1),.int .i64 ((a_c l0_1 x10_1).f2),.int .i64 ((a_c l0_1 x10_1).f3),.int .i64 ((a_c l0_1 x10_1).f4),.bool ((a_c l0_1 x10_1).f5),.bool ((a_c l0_1 x10_1).f6),.int .u32 0,.int .i64 0,.int .i64 0,.int .i64 0]) ?_ 7 _ rfl;(with_reducible repeat (first|refine a_j ?_ _|refine a_k ?_|refine a_i ?_ _));refine a_J (cs:=#[.int .i64 ((a_c l0_1 x10_1).f0),.int .i64 ((a_c l0_1 x10_1).f1),.int .i64 ((a_c l0_1 x10_1).f2),.int .i64 ((a_c l0_1 x10_1).f3),.int .i64 ((a_c l0_1 x10_1).f4),.bool ((a_c l0_1 x10_1).f5),.bool false,.int .u32 0,.int .i64 0,.int .i64 0,.int .i64 0]) ?_ 6 _ rfl;(with_reducible repeat (first|refine a_j ?_ _|refine a_k ?_|refine a_i ?_ _));refine a_J (cs:=#[.int .i64 ((a_c l0_1 x10_1).f0),.int .i64 ((a_c l0_1 x10_1).f1),.int .i64 ((a_c l0_1 x10_1).f2),.int .i64 ((a_c l0_1 x10_1).f3),.int .i64 ((a_c l0_1 x10_1).f4),.bool false,.bool false,.int .u32 0,.int .i64 0,.int .i64 0,.int .i64 0]) ?_ 5 _ rfl;(with_reducible repeat (first|refine a_j ?_ _|refine a_k ?_|refine a_i ?_ _));refine a_J (cs:=#[.int .i64 ((a_c l0_1 x10_1).f0),.int .i64 ((a_c l0_1 x10_1).f1),.int .i64 ((a_c l0_1 x10_1).f2),.int .i64 ((a_c l0_1 x10_1).f3),.int .i64 0,.bool false,.bool false,.int .u32 0,.int .i64 0,.int .i64 0,.int .i64 0]) ?_ 4 _ rfl;(with_reducible repeat (first|refine a_j ?_ _|refine a_k ?_|refine a_i ?_ _));refine a_J (cs:=#[.int .i64 ((a_c l0_1 x10_1).f0),.int .i64 ((a_c l0_1 x10_1).f1),.int .i64 ((a_c l0_1 x10_1).f2),.int .i64 0,.int .i64 0,.bool false,.bool false,.int .u32 0,.int .i64 0,.int .i64 0,.int .i64 0]) ?_ 3 _ rfl;(with_reducible repeat (first|refine a_j ?_ _|refine a_k ?_|refine a_i ?_ _));refine a_J (cs:=#[.int .i64 ((a_c l0_1 x10_1).f0),.int .i64 ((a_c l0_1 x10_1).f1),.int .i64 0,.int .i64 0,.int .i64 0,.bool false,.bool false,.int .u32 0,.int .i64 0,.int .i64 0,.int .i64 0]) ?_ 2 _ rfl;(with_reducible repeat (first|refine a_j ?_ _|refine a_k ?_|refine a_i ?_ _));refine a_J (cs:=#[.int .i64 ((a_c l0_1 x10_1).f0),.int .i64 0,.int .i64 0,.int .i64 0,.int .i64 0,.bool false,.bool false,.int .u32 0,.int .i64 0,.int .i64 0,.int .i64 0]) ?_ 1 _ rfl;(with_reducible repeat (first|refine a_j ?_ _|refine a_k ?_|refine a_i ?_ _));refine a_J (cs:=#[.int .i64 0,.int .i64 0,.int .i64 0,.int .i64 0,.int .i64 0,.bool false,.bool false,.int .u32 0,.int .i64 0,.int .i64 0,.int .i64 0]) ?_ 0 _ rfl;(with_reducible repeat (first|refine a_j ?_ _|refine a_k ?_|refine a_i ?_ _));exact a_F.out) hb);replace HB:=a_e.mk (a_t (by repeat (first|(with_reducible first|exact HB.out|apply a_g|apply a_f|apply a_h|refine a_d ?_ e_p.out|refine a_d ?_ e_O.out)|exact HB.out)) hb);clear hb hbox hg;have w_j:=p_2.out;have w_k:=l_M.out;have w_l:=p_3.out;have w_m:=l_N.out;have k_Q : w17.cell? ⟨f_f,0,none⟩ = some (.nilFunc):=(a_a b_5.out 0).trans rfl;have k_R:=a_b b_5.out 0))
   have n0_ : a_e ((w17.setCell ⟨f_f,0,none⟩ (.func (.func 51) #[] #[.pointer (some ⟨b_e,0,none⟩)])).heap[e_K]? = some (.cells #[.int .i64 a0_0,.slice (some ad112) l0_1.length c0_1] 27 (0,0))):=⟨by (with_reducible repeat (first|refine a_j ?_ _|refine a_k ?_|refine a_i ?_ _));refine a_B ?_ l_M.out _;(with_reducible repeat (first|refine a_j ?_ _|refine a_k ?_|refine a_i ?_ _));exact b_l.out⟩
   have n1_ : a_e ((w17.setCell ⟨f_f,0,none⟩ (.func (.func 51) #[] #[.pointer (some ⟨b_e,0,none⟩)])).heap[b_e]? = some (.cells #[.int .i64 ((a_c l0_1 x10_1).f0),.int .i64 ((a_c l0_1 x10_1).f1),.int .i64 ((a_c l0_1 x10_1).f2),.int .i64 ((a_c l0_1 x10_1).f3),.int .i64 ((a_c l0_1 x10_1).f4),.bool ((a_c l0_1 x10_1).f5),.bool ((a_c l0_1 x10_1).f6),.int .u32 ((a_c l0_1 x10_1).f7),.int .i64 ((a_c l0_1 x10_1).f8),.int .i64 ((a_c l0_1 x10_1).f9),.int .i64 ((a_c l0_1 x10_1).f10)] 65 (0,0))):=⟨by (with_reducible repeat (first|refine a_j ?_ _|refine a_k ?_|refine a_i ?_ _));refine a_B ?_ l_N.out _;(with_reducible repeat (first|refine a_j ?_ _|refine a_k ?_|refine a_i ?_ _));exact a_F.out⟩
   have n2_ : a_e ((w17.setCell ⟨f_f,0,none⟩ (.func (.func 51) #[] #[.pointer (some ⟨b_e,0,none⟩)])).heap[f_f]? = some (.cells #[.func (.func 51) #[] #[.pointer (some ⟨b_e,0,none⟩)]] 68 (0,0))):=⟨by (with_reducible repeat (first|refine a_j ?_ _|refine a_k ?_|refine a_i ?_ _));refine a_J (cs:=#[.nilFunc]) ?_ 0 _ rfl;(with_reducible repeat (first|refine a_j ?_ _|refine a_k ?_|refine a_i ?_ _));exact b_5.out⟩
   have n3_ : a_e (Below w.heap.size w (w17.setCell ⟨f_f,0,none⟩ (.func (.func 51) #[] #[.pointer (some ⟨b_e,0,none⟩)]))):=⟨by repeat (first|(with_reducible first|exact HB.out|apply a_g|apply a_f|apply a_h|refine a_d ?_ e_p.out|refine a_d ?_ e_O.out|refine a_d ?_ f_g.out)|exact HB.out)⟩
   (try clear b_l)
   (try clear a_F)
   (try clear b_5)
   (try clear HB)
   generalize (w17.setCell ⟨f_f,0,none⟩ (.func (.func 51) #[] #[.pointer (some ⟨b_e,0,none⟩)])) = w21 at n0_ n1_ n2_ n3_ ⊢
   have b_l:=n0_
   have a_F:=n1_
   have b_5:=n2_
   have HB:=n3_
   clear n0_ n1_ n2_ n3_
   replace b_l:=a_e.mk (a_k b_l.out)
   replace a_F:=a_e.mk (a_k a_F.out)
   replace b_5:=a_e.mk (a_k b_5.out)
   replace HB:=a_e.mk (a_h HB.out)
   replace H:=Option.bind_eq_some_iff.mp H
   obtain ⟨t115,A70,H⟩:=H
   replace H : (if t115 = true then (if x10_1 > 0 then (if 0 ≤ (wrap64 (x10_1 - 1)) then (if (wrap64 (x10_1 - 1)) < (l0_1.length : Int) then (if ((a_c l0_1 (wrap64 (x10_1 - 1))).f0) ≥ ((a_c l0_1 x10_1).f0) then (some false) else ((b_k.f l0_1 ((a_c l0_1 x10_1).f0) ((a_c l0_1 x10_1).f1) ((a_c l0_1 x10_1).f2) ((a_c l0_1 x10_1).f3) ((a_c l0_1 x10_1).f4) ((a_c l0_1 x10_1).f5) ((a_c l0_1 x10_1).f6) ((a_c l0_1 x10_1).f7) ((a_c l0_1 x10_1).f8) ((a_c l0_1 x10_1).f9) ((a_c l0_1 x10_1).f10)).bind fun t117 => (if t117 = ((a_c l0_1 x10_1).f9) then ((b_h.f l0_1 ((a_c l0_1 x10_1).f0) ((a_c l0_1 x10_1).f1) ((a_c l0_1 x10_1).f2) ((a_c l0_1 x10_1).f3) ((a_c l0_1 x10_1).f4) ((a_c l0_1 x10_1).f5) ((a_c l0_1 x10_1).f6) ((a_c l0_1 x10_1).f7) ((a_c l0_1 x10_1).f8) ((a_c l0_1 x10_1).f9) ((a_c l0_1 x10_1).f10) ((a_c l0_1 x10_1).f0) ((a_c l0_1 x10_1).f1) ((a_c l0_1 x10_1).f2) ((a_c l0_1 x10_1).f3) ((a_c l0_1 x10_1).f4) ((a_c l0_1 x10_1).f5) ((a_c l0_1 x10_1).f6) ((a_c l0_1 x10_1).f7) ((a_c l0_1 x10_1).f8) ((a_c l0_1 x10_1).f9) ((a_c l0_1 x10_1).f10)).bind fun t118 => (if t118 = ((a_c l0_1 x10_1).f9) then (a_G.l0 k1 l0_1 (l0_1.length : Int) (wrap64 (x10_1 + 1)) a0_0 l0_1) else (some false))) else (some false)))) else (none)) else (none)) else ((b_k.f l0_1 ((a_c l0_1 x10_1).f0) ((a_c l0_1 x10_1).f1) ((a_c l0_1 x10_1).f2) ((a_c l0_1 x10_1).f3) ((a_c l0_1 x10_1).f4) ((a_c l0_1 x10_1).f5) ((a_c l0_1 x10_1).f6) ((a_c l0_1 x10_1).f7) ((a_c l0_1 x10_1).f8) ((a_c l0_1 x10_1).f9) ((a_c l0_1 x10_1).f10)).bind fun t119 => (if t119 = ((a_c l0_1 x10_1).f9) then ((b_h.f l0_1 ((a_c l0_1 x10_1).f0) ((a_c l0_1 x10_1).f1) ((a_c l0_1 x10_1).f2) ((a_c l0_1 x10_1).f3) ((a_c l0_1 x10_1).f4) ((a_c l0_1 x10_1).f5) ((a_c l0_1 x10_1).f6) ((a_c l0_1 x10_1).f7) ((a_c l0_1 x10_1).f8) ((a_c l0_1 x10_1).f9) ((a_c l0_1 x10_1).f10) ((a_c l0_1 x10_1).f0) ((a_c l0_1 x10_1).f1) ((a_c l0_1 x10_1).f2) ((a_c l0_1 x10_1).f3) ((a_c l0_1 x10_1).f4) ((a_c l0_1 x10_1).f5) ((a_c l0_1 x10_1).f6) ((a_c l0_1 x10_1).f7) ((a_c l0_1 x10_1).f8) ((a_c l0_1 x10_1).f9) ((a_c l0_1 x10_1).f10)).bind fun t120 => (if t120 = ((a_c l0_1 x10_1).f9) then (a_G.l0 k1 l0_1 (l0_1.length : Int) (wrap64 (x10_1 + 1)) a0_0 l0_1) else (some false))) else (some false)))) else (some false)) = some r:=H
   have A7:=a_e.mk A70
   clear A70
   by_cases c8 : t115 = true
   rotate_left
   ·replace c8:=Bool.eq_false_iff.mpr c8
    subst c8
    have H1 : (some false) = some r:=by rw [if_neg (show ¬ (false = true) by decide)] at H;exact H
    clear H
    have H:=H1
    clear H1
    obtain rfl:=Option.some.inj H
    refine d_H (n:=37) (S:=fun w' => w'.cell? ⟨b_e,0,none⟩ = some (.int .i64 ((a_c l0_1 x10_1).f0)) ∧ w'.cell? ⟨b_e,1,none⟩ = some (.int .i64 ((a_c l0_1 x10_1).f1)) ∧ w'.cell? ⟨b_e,2,none⟩ = some (.int .i64 ((a_c l0_1 x10_1).f2)) ∧ w'.cell? ⟨b_e,3,none⟩ = some (.int .i64 ((a_c l0_1 x10_1).f3)) ∧ w'.cell? ⟨b_e,4,none⟩ = some (.int .i64 ((a_c l0_1 x10_1).f4)) ∧ w'.cell? ⟨b_e,5,none⟩ = some (.bool ((a_c l0_1 x10_1).f5)) ∧ w'.cell? ⟨b_e,6,none⟩ = some (.bool ((a_c l0_1 x10_1).f6)) ∧ w'.cell? ⟨b_e,7,none⟩ = some (.int .u32 ((a_c l0_1 x10_1).f7)) ∧ w'.cell? ⟨b_e,8,none⟩ = some (.int .i64 ((a_c l0_1 x10_1).f8)) ∧ w'.cell? ⟨b_e,9,none⟩ = some (.int .i64 ((a_c l0_1 x10_1).f9)) ∧ w'.cell? ⟨b_e,10,none⟩ = some (.int .i64 ((a_c l0_1 x10_1).f10))) (ds:=[]) Z1_ (by kernel_rfl) rfl rfl ⟨(a_a a_F.out 0).trans rfl,(a_a a_F.out 1).trans rfl,(a_a a_F.out 2).trans rfl,(a_a a_F.out 3).trans rfl,(a_a a_F.out 4).trans rfl,(a_a a_F.out 5).trans rfl,(a_a a_F.out 6).trans rfl,(a_a a_F.out 7).trans rfl,(a_a a_F.out 8).trans rfl,(a_a a_F.out 9).trans rfl,(a_a a_F.out 10).trans rfl⟩ (fun hHeld => ?_);refine b_Q a_G.tab6 a_G.f_W (fun HT_ HW_ => ?_)
    generalize w21.drew = w110 at b_l a_F b_5 HB hHeld ⊢
    refine b_m (i:=0) (N:=some 17) (v:=?_) (a':=?_) Z7_ rfl rfl (a_L HT_.out HW_.out (by kernel_rfl)) (fun _ _ _ h => h) (Or.inl ⟨by rfl,?_⟩) hHeld ?_ ?_
    rotate_left
    ·rintro w' ⟨s0,s1,s2,s3,s4,s5,s6,s7,s8,s9,s10⟩
     go_simp
     with_reducible rfl
    rotate_left
    ·simp only [Act.put,sa_,sb_,sc_,a_r,a_s]
     rfl
    refine one_ (i:=1) (N:=some 18) Z14_ rfl rfl (c_e HT_.out (by kernel_rfl)) (by decide) (fun K hK => ?_)
    refine e_I Try.func53 (by kernel_rfl) rfl #[.agg #[.int .i64 ((a_c l0_1 x10_1).f0),.int .i64 ((a_c l0_1 x10_1).f1),.int .i64 ((a_c l0_1 x10_1).f2),.int .i64 ((a_c l0_1 x10_1).f3),.int .i64 ((a_c l0_1 x10_1).f4),.bool ((a_c l0_1 x10_1).f5),.bool ((a_c l0_1 x10_1).f6),.int .u32 ((a_c l0_1 x10_1).f7),.int .i64 ((a_c l0_1 x10_1).f8),.int .i64 ((a_c l0_1 x10_1).f9),.int .i64 ((a_c l0_1 x10_1).f10)]] (by rfl) rfl rfl (by (try simp only [List.map_toArray,List.map_cons,List.map_nil]);first|done|rfl|(simp only [List.length_drop,List.length_take];rfl)) ?_
    with_reducible refine (a_1.calls k1 ((a_c l0_1 x10_1).f0) ((a_c l0_1 x10_1).f1) ((a_c l0_1 x10_1).f2) ((a_c l0_1 x10_1).f3) ((a_c l0_1 x10_1).f4) ((a_c l0_1 x10_1).f5) ((a_c l0_1 x10_1).f6) ((a_c l0_1 x10_1).f7) ((a_c l0_1 x10_1).f8) ((a_c l0_1 x10_1).f9) ((a_c l0_1 x10_1).f10) false _ A7.out).mono ?_
    rintro e w111 ⟨rfl,hb⟩
    refine ⟨_,rfl,?_⟩
    replace b_l:=a_e.mk (a_l (bup_ b_l.out) hb)
    replace a_F:=a_e.mk (a_l (bup_ a_F.out) hb)
    replace b_5:=a_e.mk (a_l (bup_ b_5.out) hb)
    replace HB:=a_e.mk (a_t (by repeat (first|(with_reducible first|exact HB.out|apply a_g|apply a_f|apply a_h|refine a_d ?_ e_p.out|refine a_d ?_ e_O.out|refine a_d ?_ f_g.out)|exact HB.out)) hb)
    (try clear hb)
    (try clear hb2)
    (try clear hk)
    (try clear hi)
    refine hK.out _ _ ⟨(a_a a_F.out 0).trans rfl,(a_a a_F.out 1).trans rfl,(a_a a_F.out 2).trans rfl,(a_a a_F.out 3).trans rfl,(a_a a_F.out 4).trans rfl,(a_a a_F.out 5).trans rfl,(a_a a_F.out 6).trans rfl,(a_a a_F.out 7).trans rfl,(a_a a_F.out 8).trans rfl,(a_a a_F.out 9).trans rfl,(a_a a_F.out 10).trans rfl⟩ (fun hHeld => ?_)
    clear hK K
    refine d_U (a':=?_) ?_ ?_
    rotate_left
    ·show Act.put _ (some 18) _ = _
     simp only [Act.put,sa_,sb_,sc_,a_r,a_s]
     rfl
    refine a_y (i:=2) (N:=some 19) (v:=?_) (a':=?_) Z20_ rfl rfl (a_n HT_.out (by kernel_rfl)) (fun _ _ _ h => h) (Or.inl ⟨by rfl,?_⟩) ?_ ?_
    rotate_left
    ·intro w'
     go_simp
     with_reducible rfl
    rotate_left
    ·simp only [Act.put,sa_,sb_,sc_,a_r,a_s]
     rfl
    refine a_y (i:=3) (N:=some 20) (v:=?_) (a':=?_) Z25_ rfl rfl (a_n HT_.out (by kernel_rfl)) (fun _ _ _ h => h) (Or.inl ⟨by rfl,?_⟩) ?_ ?_
    rotate_left
    ·intro w'
     go_simp
     with_reducible rfl
    rotate_left
    ·simp only [Act.put,sa_,sb_,sc_,a_r,a_s]
     rfl
    refine a_y (i:=4) (N:=some 21) (v:=undef) (a':=?_) Z29_ rfl rfl (a_n HT_.out (by kernel_rfl)) (fun _ _ _ h => h) (Or.inr ⟨by rfl,rfl⟩) ?_ ?_
    rotate_left
    ·simp only [Act.put,sa_,sb_,sc_,a_r,a_s]
     rfl
    refine a_y (i:=5) (N:=some 22) (v:=undef) (a':=?_) Z34_ rfl rfl (a_n HT_.out (by kernel_rfl)) (fun _ _ _ h => h) (Or.inr ⟨by rfl,rfl⟩) ?_ ?_
    rotate_left
    ·simp only [Act.put,sa_,sb_,sc_,a_r,a_s]
     rfl
    refine a_y (i:=6) (N:=some 23) (v:=undef) (a':=?_) Z38_ rfl rfl (a_n HT_.out (by kernel_rfl)) (fun _ _ _ h => h) (Or.inr ⟨by rfl,rfl⟩) ?_ ?_
    rotate_left
    ·simp only [Act.put,sa_,sb_,sc_,a_r,a_s]
     rfl
    refine a_y (i:=7) (N:=some 24) (v:=undef) (a':=?_) Z44_ rfl rfl (a_n HT_.out (by kernel_rfl)) (fun _ _ _ h => h) (Or.inr ⟨by rfl,rfl⟩) ?_ ?_
    rotate_left
    ·simp only [Act.put,sa_,sb_,sc_,a_r,a_s]
     rfl
    refine a_y (i:=8) (N:=some 25) (v:=undef) (a':=?_) Z53_ rfl rfl (a_n HT_.out (by kernel_rfl)) (fun _ _ _ h => h) (Or.inr ⟨by rfl,rfl⟩) ?_ ?_
    rotate_left
    ·simp only [Act.put,sa_,sb_,sc_,a_r,a_s]
     rfl
    refine a_y (i:=9) (N:=some 26) (v:=undef) (a':=?_) Z58_ rfl rfl (a_n HT_.out (by kernel_rfl)) (fun _ _ _ h => h) (Or.inr ⟨by rfl,rfl⟩) ?_ ?_
    rotate_left
    ·simp only [Act.put,sa_,sb_,sc_,a_r,a_s]
     rfl
    refine a_y (i:=10) (N:=some 27) (v:=undef) (a':=?_) Z62_ rfl rfl (a_n HT_.out (by kernel_rfl)) (fun _ _ _ h => h) (Or.inr ⟨by rfl,rfl⟩) ?_ ?_
    rotate_left
    ·simp only [Act.put,sa_,sb_,sc_,a_r,a_s]
     rfl
    refine a_y (i:=11) (N:=some 28) (v:=undef) (a':=?_) Z68_ rfl rfl (a_n HT_.out (by kernel_rfl)) (fun _ _ _ h => h) (Or.inr ⟨by rfl,rfl⟩) ?_ ?_
    rotate_left
    ·simp only [Act.put,sa_,sb_,sc_,a_r,a_s]
     rfl
    refine a_y (i:=12) (N:=some 29) (v:=undef) (a':=?_) Z74_ rfl rfl (a_n HT_.out (by kernel_rfl)) (fun _ _ _ h => h) (Or.inr ⟨by rfl,rfl⟩) ?_ ?_
    rotate_left
    ·simp only [Act.put,sa_,sb_,sc_,a_r,a_s]
     rfl
    refine a_y (i:=13) (N:=some 30) (v:=undef) (a':=?_) Z79_ rfl rfl (a_n HT_.out (by kernel_rfl)) (fun _ _ _ h => h) (Or.inr ⟨by rfl,rfl⟩) ?_ ?_
    rotate_left
    ·simp only [Act.put,sa_,sb_,sc_,a_r,a_s]
     rfl
    refine a_y (i:=14) (N:=some 31) (v:=undef) (a':=?_) Z83_ rfl rfl (a_n HT_.out (by kernel_rfl)) (fun _ _ _ h => h) (Or.inr ⟨by rfl,rfl⟩) ?_ ?_
    rotate_left
    ·simp only [Act.put,sa_,sb_,sc_,a_r,a_s]
     rfl
    refine a_y (i:=15) (N:=some 32) (v:=undef) (a':=?_) Z90_ rfl rfl (a_n HT_.out (by kernel_rfl)) (fun _ _ _ h => h) (Or.inr ⟨by rfl,rfl⟩) ?_ ?_
    rotate_left
    ·simp only [Act.put,sa_,sb_,sc_,a_r,a_s]
     rfl
    refine a_y (i:=16) (N:=some 33) (v:=undef) (a':=?_) Z94_ rfl rfl (a_n HT_.out (by kernel_rfl)) (fun _ _ _ h => h) (Or.inr ⟨by rfl,rfl⟩) ?_ ?_
    rotate_left
    ·simp only [Act.put,sa_,sb_,sc_,a_r,a_s]
     rfl
    refine a_y (i:=17) (N:=some 34) (v:=undef) (a':=?_) Z98_ rfl rfl (a_n HT_.out (by kernel_rfl)) (fun _ _ _ h => h) (Or.inr ⟨by rfl,rfl⟩) ?_ ?_
    rotate_left
    ·simp only [Act.put,sa_,sb_,sc_,a_r,a_s]
     rfl
    refine a_y (i:=18) (N:=some 35) (v:=?_) (a':=?_) l_z rfl rfl (a_n HT_.out (by kernel_rfl)) (fun _ _ _ h => h) (Or.inl ⟨by rfl,?_⟩) ?_ ?_
    rotate_left
    ·intro w'
     go_simp
     with_reducible rfl
    rotate_left
    ·simp only [Act.put,sa_,sb_,sc_,a_r,a_s]
     rfl
    refine a_y (i:=19) (N:=some 36) (v:=?_) (a':=?_) l_w rfl rfl (a_n HT_.out (by kernel_rfl)) (fun _ _ _ h => h) (Or.inl ⟨by rfl,?_⟩) ?_ ?_
    rotate_left
    ·intro w'
     go_simp
     with_reducible rfl
    rotate_left
    ·simp only [Act.put,sa_,sb_,sc_,a_r,a_s]
     rfl
    refine a_y (i:=20) (N:=some 37) (v:=undef) (a':=?_) l_E rfl rfl (a_n HT_.out (by kernel_rfl)) (fun _ _ _ h => h) (Or.inr ⟨by rfl,rfl⟩) ?_ ?_
    rotate_left
    ·simp only [Act.put,sa_,sb_,sc_,a_r,a_s]
     rfl
    refine a_y (i:=21) (N:=some 38) (v:=undef) (a':=?_) v_D rfl rfl (a_n HT_.out (by kernel_rfl)) (fun _ _ _ h => h) (Or.inr ⟨by rfl,rfl⟩) ?_ ?_
    rotate_left
    ·simp only [Act.put,sa_,sb_,sc_,a_r,a_s]
     rfl
    refine a_y (i:=22) (N:=some 39) (v:=undef) (a':=?_) v_w rfl rfl (a_n HT_.out (by kernel_rfl)) (fun _ _ _ h => h) (Or.inr ⟨by rfl,rfl⟩) ?_ ?_
    rotate_left
    ·simp only [Act.put,sa_,sb_,sc_,a_r,a_s]
     rfl
    refine a_y (i:=23) (N:=some 40) (v:=undef) (a':=?_) w_c rfl rfl (a_n HT_.out (by kernel_rfl)) (fun _ _ _ h => h) (Or.inr ⟨by rfl,rfl⟩) ?_ ?_
    rotate_left
    ·simp only [Act.put,sa_,sb_,sc_,a_r,a_s]
     rfl
    refine a_y (i:=24) (N:=some 41) (v:=undef) (a':=?_) v_U rfl rfl (a_n HT_.out (by kernel_rfl)) (fun _ _ _ h => h) (Or.inr ⟨by rfl,rfl⟩) ?_ ?_
    rotate_left
    ·simp only [Act.put,sa_,sb_,sc_,a_r,a_s]
     rfl
    refine a_y (i:=25) (N:=some 42) (v:=undef) (a':=?_) l_I rfl rfl (a_n HT_.out (by kernel_rfl)) (fun _ _ _ h => h) (Or.inr ⟨by rfl,rfl⟩) ?_ ?_
    rotate_left
    ·simp only [Act.put,sa_,sb_,sc_,a_r,a_s]
     rfl
    refine a_y (i:=26) (N:=some 43) (v:=undef) (a':=?_) l_p rfl rfl (a_n HT_.out (by kernel_rfl)) (fun _ _ _ h => h) (Or.inr ⟨by rfl,rfl⟩) ?_ ?_
    rotate_left
    ·simp only [Act.put,sa_,sb_,sc_,a_r,a_s]
     rfl
    refine a_y (i:=27) (N:=some 44) (v:=?_) (a':=?_) l_H rfl rfl (a_n HT_.out (by kernel_rfl)) (fun _ _ _ h => h) (Or.inl ⟨by rfl,?_⟩) ?_ ?_
    rotate_left
    ·intro w'
     go_simp
     with_reducible rfl
    rotate_left
    ·simp only [Act.put,sa_,sb_,sc_,a_r,a_s]
     rfl
    refine a_y (i:=28) (N:=some 45) (v:=?_) (a':=?_) l_F rfl rfl (a_n HT_.out (by kernel_rfl)) (fun _ _ _ h => h) (Or.inl ⟨by rfl,?_⟩) ?_ ?_
    rotate_left
    ·intro w'
     go_simp
     with_reducible rfl
    rotate_left
    ·simp only [Act.put,sa_,sb_,sc_,a_r,a_s]
     rfl
    refine a_y (i:=29) (N:=some 46) (v:=undef) (a':=?_) l_o rfl rfl (a_n HT_.out (by kernel_rfl)) (fun _ _ _ h => h) (Or.inr ⟨by rfl,rfl⟩) ?_ ?_
    rotate_left
    ·simp only [Act.put,sa_,sb_,sc_,a_r,a_s]
     rfl
    refine a_y (i:=30) (N:=some 47) (v:=undef) (a':=?_) q_L rfl rfl (a_n HT_.out (by kernel_rfl)) (fun _ _ _ h => h) (Or.inr ⟨by rfl,rfl⟩) ?_ ?_
    rotate_left
    ·simp only [Act.put,sa_,sb_,sc_,a_r,a_s]
     rfl
    refine a_y (i:=31) (N:=some 48) (v:=undef) (a':=?_) q_Z rfl rfl (a_n HT_.out (by kernel_rfl)) (fun _ _ _ h => h) (Or.inr ⟨by rfl,rfl⟩) ?_ ?_
    rotate_left
    ·simp only [Act.put,sa_,sb_,sc_,a_r,a_s]
     rfl
    refine a_y (i:=32) (N:=some 49) (v:=undef) (a':=?_) q_9 rfl rfl (a_n HT_.out (by kernel_rfl)) (fun _ _ _ h => h) (Or.inr ⟨by rfl,rfl⟩) ?_ ?_
    rotate_left
    ·simp only [Act.put,sa_,sb_,sc_,a_r,a_s]
     rfl
    refine a_y (i:=33) (N:=some 50) (v:=undef) (a':=?_) r_g rfl rfl (a_n HT_.out (by kernel_rfl)) (fun _ _ _ h => h) (Or.inr ⟨by rfl,rfl⟩) ?_ ?_
    rotate_left
    ·simp only [Act.put,sa_,sb_,sc_,a_r,a_s]
     rfl
    refine a_y (i:=34) (N:=some 51) (v:=undef) (a':=?_) l_q rfl rfl (a_n HT_.out (by kernel_rfl)) (fun _ _ _ h => h) (Or.inr ⟨by rfl,rfl⟩) ?_ ?_
    rotate_left
    ·simp only [Act.put,sa_,sb_,sc_,a_r,a_s]
     rfl
    refine a_y (i:=35) (N:=some 52) (v:=undef) (a':=?_) l_t rfl rfl (a_n HT_.out (by kernel_rfl)) (fun _ _ _ h => h) (Or.inr ⟨by rfl,rfl⟩) ?_ ?_
    rotate_left
    ·simp only [Act.put,sa_,sb_,sc_,a_r,a_s]
     rfl
    refine a_y (i:=36) (N:=some 53) (v:=?_) (a':=?_) l_B rfl rfl (a_n HT_.out (by kernel_rfl)) (fun _ _ _ h => h) (Or.inl ⟨by rfl,?_⟩) ?_ ?_
    rotate_left
    ·intro w'
     go_simp
     with_reducible rfl
    rotate_left
    ·simp only [Act.put,sa_,sb_,sc_,a_r,a_s]
     rfl
    refine e_T (c_u HT_.out (by kernel_rfl)) ?_
    try go_wp2
    go_ret
    exact ⟨by first|rfl|(simp [a_w,a_x] <;> rfl)|(simp [*, a_w,a_x] <;> rfl),by repeat (first|(with_reducible first|exact HB.out|apply a_g|apply a_f|apply a_h|refine a_d ?_ e_p.out|refine a_d ?_ e_O.out|refine a_d ?_ f_g.out)|exact HB.out)⟩
   subst c8
   have H1 : (if x10_1 > 0 then (if 0 ≤ (wrap64 (x10_1 - 1)) then (if (wrap64 (x10_1 - 1)) < (l0_1.length : Int) then (if ((a_c l0_1 (wrap64 (x10_1 - 1))).f0) ≥ ((a_c l0_1 x10_1).f0) then (some false) else ((b_k.f l0_1 ((a_c l0_1 x10_1).f0) ((a_c l0_1 x10_1).f1) ((a_c l0_1 x10_1).f2) ((a_c l0_1 x10_1).f3) ((a_c l0_1 x10_1).f4) ((a_c l0_1 x10_1).f5) ((a_c l0_1 x10_1).f6) ((a_c l0_1 x10_1).f7) ((a_c l0_1 x10_1).f8) ((a_c l0_1 x10_1).f9) ((a_c l0_1 x10_1).f10)).bind fun t117 => (if t117 = ((a_c l0_1 x10_1).f9) then ((b_h.f l0_1 ((a_c l0_1 x10_1).f0) ((a_c l0_1 x10_1).f1) ((a_c l0_1 x10_1).f2) ((a_c l0_1 x10_1).f3) ((a_c l0_1 x10_1).f4) ((a_c l0_1 x10_1).f5) ((a_c l0_1 x10_1).f6) ((a_c l0_1 x10_1).f7) ((a_c l0_1 x10_1).f8) ((a_c l0_1 x10_1).f9) ((a_c l0_1 x10_1).f10) ((a_c l0_1 x10_1).f0) ((a_c l0_1 x10_1).f1) ((a_c l0_1 x10_1).f2) ((a_c l0_1 x10_1).f3) ((a_c l0_1 x10_1).f4) ((a_c l0_1 x10_1).f5) ((a_c l0_1 x10_1).f6) ((a_c l0_1 x10_1).f7) ((a_c l0_1 x10_1).f8) ((a_c l0_1 x10_1).f9) ((a_c l0_1 x10_1).f10)).bind fun t118 => (if t118 = ((a_c l0_1 x10_1).f9) then (a_G.l0 k1 l0_1 (l0_1.length : Int) (wrap64 (x10_1 + 1)) a0_0 l0_1) else (some false))) else (some false)))) else (none)) else (none)) else ((b_k.f l0_1 ((a_c l0_1 x10_1).f0) ((a_c l0_1 x10_1).f1) ((a_c l0_1 x10_1).f2) ((a_c l0_1 x10_1).f3) ((a_c l0_1 x10_1).f4) ((a_c l0_1 x10_1).f5) ((a_c l0_1 x10_1).f6) ((a_c l0_1 x10_1).f7) ((a_c l0_1 x10_1).f8) ((a_c l0_1 x10_1).f9) ((a_c l0_1 x10_1).f10)).bind fun t119 => (if t119 = ((a_c l0_1 x10_1).f9) then ((b_h.f l0_1 ((a_c l0_1 x10_1).f0) ((a_c l0_1 x10_1).f1) ((a_c l0_1 x10_1).f2) ((a_c l0_1 x10_1).f3) ((a_c l0_1 x10_1).f4) ((a_c l0_1 x10_1).f5) ((a_c l0_1 x10_1).f6) ((a_c l0_1 x10_1).f7) ((a_c l0_1 x10_1).f8) ((a_c l0_1 x10_1).f9) ((a_c l0_1 x10_1).f10) ((a_c l0_1 x10_1).f0) ((a_c l0_1 x10_1).f1) ((a_c l0_1 x10_1).f2) ((a_c l0_1 x10_1).f3) ((a_c l0_1 x10_1).f4) ((a_c l0_1 x10_1).f5) ((a_c l0_1 x10_1).f6) ((a_c l0_1 x10_1).f7) ((a_c l0_1 x10_1).f8) ((a_c l0_1 x10_1).f9) ((a_c l0_1 x10_1).f10)).bind fun t120 => (if t120 = ((a_c l0_1 x10_1).f9) then (a_G.l0 k1 l0_1 (l0_1.length : Int) (wrap64 (x10_1 + 1)) a0_0 l0_1) else (some false))) else (some false)))) = some r:=by rw [if_pos rfl] at H;exact H
   clear H
   have H:=H1
   clear H1
   by_cases c9 : x10_1 > 0
   rotate_left
   ·rw [if_neg c9] at H
    have c9b0 : decide (0 < x10_1) = false:=decide_eq_false c9
    clear c9
    replace H:=Option.bind_eq_some_iff.mp H
    obtain ⟨t119,A630,H⟩:=H
    replace H : (if t119 = ((a_c l0_1 x10_1).f9) then ((b_h.f l0_1 ((a_c l0_1 x10_1).f0) ((a_c l0_1 x10_1).f1) ((a_c l0_1 x10_1).f2) ((a_c l0_1 x10_1).f3) ((a_c l0_1 x10_1).f4) ((a_c l0_1 x10_1).f5) ((a_c l0_1 x10_1).f6) ((a_c l0_1 x10_1).f7) ((a_c l0_1 x10_1).f8) ((a_c l0_1 x10_1).f9) ((a_c l0_1 x10_1).f10) ((a_c l0_1 x10_1).f0) ((a_c l0_1 x10_1).f1) ((a_c l0_1 x10_1).f2) ((a_c l0_1 x10_1).f3) ((a_c l0_1 x10_1).f4) ((a_c l0_1 x10_1).f5) ((a_c l0_1 x10_1).f6) ((a_c l0_1 x10_1).f7) ((a_c l0_1 x10_1).f8) ((a_c l0_1 x10_1).f9) ((a_c l0_1 x10_1).f10)).bind fun t120 => (if t120 = ((a_c l0_1 x10_1).f9) then (a_G.l0 k1 l0_1 (l0_1.length : Int) (wrap64 (x10_1 + 1)) a0_0 l0_1) else (some false))) else (some false)) = some r:=H
    have A63:=a_e.mk A630
    clear A630
    by_cases c64 : t119 = ((a_c l0_1 x10_1).f9)
    rotate_left
    ·rw [if_neg c64] at H
     have c64b0 : (t119 == ((a_c l0_1 x10_1).f9)) = false:=beq_eq_false_iff_ne.mpr c64
     have c64b1 : (t119 != ((a_c l0_1 x10_1).f9)) = true:=bne_iff_ne.mpr c64
     obtain rfl:=Option.some.inj H
     refine d_H (n:=37) (S:=fun w' => w'.cell? ⟨b_e,0,none⟩ = some (.int .i64 ((a_c l0_1 x10_1).f0)) ∧ w'.cell? ⟨b_e,1,none⟩ = some (.int .i64 ((a_c l0_1 x10_1).f1)) ∧ w'.cell? ⟨b_e,2,none⟩ = some (.int .i64 ((a_c l0_1 x10_1).f2)) ∧ w'.cell? ⟨b_e,3,none⟩ = some (.int .i64 ((a_c l0_1 x10_1).f3)) ∧ w'.cell? ⟨b_e,4,none⟩ = some (.int .i64 ((a_c l0_1 x10_1).f4)) ∧ w'.cell? ⟨b_e,5,none⟩ = some (.bool ((a_c l0_1 x10_1).f5)) ∧ w'.cell? ⟨b_e,6,none⟩ = some (.bool ((a_c l0_1 x10_1).f6)) ∧ w'.cell? ⟨b_e,7,none⟩ = some (.int .u32 ((a_c l0_1 x10_1).f7)) ∧ w'.cell? ⟨b_e,8,none⟩ = some (.int .i64 ((a_c l0_1 x10_1).f8)) ∧ w'.cell? ⟨b_e,9,none⟩ = some (.int .i64 ((a_c l0_1 x10_1).f9)) ∧ w'.cell? ⟨b_e,10,none⟩ = some (.int .i64 ((a_c l0_1 x10_1).f10)) ∧ w'.cell? ⟨e_K,0,none⟩ = some (.int .i64 a0_0) ∧ w'.cell? ⟨e_K,1,none⟩ = some (.slice (some ad112) l0_1.length c0_1) ∧ w'.cell? ⟨f_f,0,none⟩ = some (.func (.func 51) #[] #[.pointer (some ⟨b_e,0,none⟩)])) (ds:=[]) Z1_ (by kernel_rfl) rfl rfl ⟨(a_a a_F.out 0).trans rfl,(a_a a_F.out 1).trans rfl,(a_a a_F.out 2).trans rfl,(a_a a_F.out 3).trans rfl,(a_a a_F.out 4).trans rfl,(a_a a_F.out 5).trans rfl,(a_a a_F.out 6).trans rfl,(a_a a_F.out 7).trans rfl,(a_a a_F.out 8).trans rfl,(a_a a_F.out 9).trans rfl,(a_a a_F.out 10).trans rfl,(a_a b_l.out 0).trans rfl,(a_a b_l.out 1).trans rfl,(a_a b_5.out 0).trans rfl⟩ (fun hHeld => ?_);refine b_Q a_G.tab6 a_G.f_W (fun HT_ HW_ => ?_)
     generalize w21.drew = w99 at b_l a_F b_5 HB hHeld ⊢
     refine b_m (i:=0) (N:=some 17) (v:=?_) (a':=?_) Z7_ rfl rfl (a_L HT_.out HW_.out (by kernel_rfl)) (fun _ _ _ h => h) (Or.inl ⟨by rfl,?_⟩) hHeld ?_ ?_
     rotate_left
     ·rintro w' ⟨s0,s1,s2,s3,s4,s5,s6,s7,s8,s9,s10,s11,s12,s13⟩
      go_simp
      with_reducible rfl
     rotate_left
     ·simp only [Act.put,sa_,sb_,sc_,a_r,a_s]
      rfl
     refine one_ (i:=1) (N:=some 18) Z14_ rfl rfl (c_e HT_.out (by kernel_rfl)) (by decide) (fun K hK => ?_)
     refine e_I Try.func53 (by kernel_rfl) rfl #[.agg #[.int .i64 ((a_c l0_1 x10_1).f0),.int .i64 ((a_c l0_1 x10_1).f1),.int .i64 ((a_c l0_1 x10_1).f2),.int .i64 ((a_c l0_1 x10_1).f3),.int .i64 ((a_c l0_1 x10_1).f4),.bool ((a_c l0_1 x10_1).f5),.bool ((a_c l0_1 x10_1).f6),.int .u32 ((a_c l0_1 x10_1).f7),.int .i64 ((a_c l0_1 x10_1).f8),.int .i64 ((a_c l0_1 x10_1).f9),.int .i64 ((a_c l0_1 x10_1).f10)]] (by rfl) rfl rfl (by (try simp only [List.map_toArray,List.map_cons,List.map_nil]);first|done|rfl|(simp only [List.length_drop,List.length_take];rfl)) ?_
     with_reducible refine (a_1.calls k1 ((a_c l0_1 x10_1).f0) ((a_c l0_1 x10_1).f1) ((a_c l0_1 x10_1).f2) ((a_c l0_1 x10_1).f3) ((a_c l0_1 x10_1).f4) ((a_c l0_1 x10_1).f5) ((a_c l0_1 x10_1).f6) ((a_c l0_1 x10_1).f7) ((a_c l0_1 x10_1).f8) ((a_c l0_1 x10_1).f9) ((a_c l0_1 x10_1).f10) true _ A7.out).mono ?_
     rintro e w100 ⟨rfl,hb⟩
     refine ⟨_,rfl,?_⟩
     replace b_l:=a_e.mk (a_l (bup_ b_l.out) hb)
     replace a_F:=a_e.mk (a_l (bup_ a_F.out) hb)
     replace b_5:=a_e.mk (a_l (bup_ b_5.out) hb)
     replace HB:=a_e.mk (a_t (by repeat (first|(with_reducible first|exact HB.out|apply a_g|apply a_f|apply a_h|refine a_d ?_ e_p.out|refine a_d ?_ e_O.out|refine a_d ?_ f_g.out)|exact HB.out)) hb)
     (try clear hb)
     (try clear hb2)
     (try clear hk)
     (try clear hi)
     refine hK.out _ _ ⟨(a_a a_F.out 0).trans rfl,(a_a a_F.out 1).trans rfl,(a_a a_F.out 2).trans rfl,(a_a a_F.out 3).trans rfl,(a_a a_F.out 4).trans rfl,(a_a a_F.out 5).trans rfl,(a_a a_F.out 6).trans rfl,(a_a a_F.out 7).trans rfl,(a_a a_F.out 8).trans rfl,(a_a a_F.out 9).trans rfl,(a_a a_F.out 10).trans rfl,(a_a b_l.out 0).trans rfl,(a_a b_l.out 1).trans rfl,(a_a b_5.out 0).trans rfl⟩ (fun hHeld => ?_)
     clear hK K
     refine d_U (a':=?_) ?_ ?_
     rotate_left
     ·show Act.put _ (some 18) _ = _
      simp only [Act.put,sa_,sb_,sc_,a_r,a_s]
      rfl
     refine a_y (i:=2) (N:=some 19) (v:=?_) (a':=?_) Z20_ rfl rfl (a_n HT_.out (by kernel_rfl)) (fun _ _ _ h => h) (Or.inl ⟨by rfl,?_⟩) ?_ ?_
     rotate_left
     ·intro w'
      go_simp
      with_reducible rfl
     rotate_left
     ·simp only [Act.put,sa_,sb_,sc_,a_r,a_s]
      rfl
     refine a_y (i:=3) (N:=some 20) (v:=?_) (a':=?_) Z25_ rfl rfl (a_n HT_.out (by kernel_rfl)) (fun _ _ _ h => h) (Or.inl ⟨by rfl,?_⟩) ?_ ?_
     rotate_left
     ·intro w'
      go_simp
      with_reducible rfl
     rotate_left
     ·simp only [Act.put,sa_,sb_,sc_,a_r,a_s]
      rfl
     refine a_y (i:=4) (N:=some 21) (v:=?_) (a':=?_) Z29_ rfl rfl (a_n HT_.out (by kernel_rfl)) (fun _ _ _ h => h) (Or.inl ⟨by rfl,?_⟩) ?_ ?_
     rotate_left
     ·intro w'
      go_simp
      with_reducible rfl
     rotate_left
     ·simp only [Act.put,sa_,sb_,sc_,a_r,a_s]
      rfl
     refine a_y (i:=5) (N:=some 22) (v:=?_) (a':=?_) Z34_ rfl rfl (a_n HT_.out (by kernel_rfl)) (fun _ _ _ h => h) (Or.inl ⟨by rfl,?_⟩) ?_ ?_
     rotate_left
     ·intro w'
      go_simp
      with_reducible rfl
     rotate_left
     ·simp only [Act.put,sa_,sb_,sc_,a_r,a_s]
      rfl
     refine a_y (i:=6) (N:=some 23) (v:=?_) (a':=?_) Z38_ rfl rfl (a_n HT_.out (by kernel_rfl)) (fun _ _ _ h => h) (Or.inl ⟨by rfl,?_⟩) ?_ ?_
     rotate_left
     ·intro w'
      go_simp
      with_reducible rfl
     rotate_left
     ·simp only [Act.put,sa_,sb_,sc_,a_r,a_s]
      rfl
     refine a_y (i:=7) (N:=some 24) (v:=undef) (a':=?_) Z44_ rfl rfl (a_n HT_.out (by kernel_rfl)) (fun _ _ _ h => h) (Or.inr ⟨by rfl,rfl⟩) ?_ ?_
     rotate_left
     ·simp only [Act.put,sa_,sb_,sc_,a_r,a_s]
      rfl
     refine a_y (i:=8) (N:=some 25) (v:=undef) (a':=?_) Z53_ rfl rfl (a_n HT_.out (by kernel_rfl)) (fun _ _ _ h => h) (Or.inr ⟨by rfl,rfl⟩) ?_ ?_
     rotate_left
     ·simp only [Act.put,sa_,sb_,sc_,a_r,a_s]
      rfl
     refine a_y (i:=9) (N:=some 26) (v:=undef) (a':=?_) Z58_ rfl rfl (a_n HT_.out (by kernel_rfl)) (fun _ _ _ h => h) (Or.inr ⟨by rfl,rfl⟩) ?_ ?_
     rotate_left
     ·simp only [Act.put,sa_,sb_,sc_,a_r,a_s]
      rfl
     refine a_y (i:=10) (N:=some 27) (v:=undef) (a':=?_) Z62_ rfl rfl (a_n HT_.out (by kernel_rfl)) (fun _ _ _ h => h) (Or.inr ⟨by rfl,rfl⟩) ?_ ?_
     rotate_left
     ·simp only [Act.put,sa_,sb_,sc_,a_r,a_s]
      rfl
     refine a_y (i:=11) (N:=some 28) (v:=undef) (a':=?_) Z68_ rfl rfl (a_n HT_.out (by kernel_rfl)) (fun _ _ _ h => h) (Or.inr ⟨by rfl,rfl⟩) ?_ ?_
     rotate_left
     ·simp only [Act.put,sa_,sb_,sc_,a_r,a_s]
      rfl
     refine a_y (i:=12) (N:=some 29) (v:=undef) (a':=?_) Z74_ rfl rfl (a_n HT_.out (by kernel_rfl)) (fun _ _ _ h => h) (Or.inr ⟨by rfl,rfl⟩) ?_ ?_
     rotate_left
     ·simp only [Act.put,sa_,sb_,sc_,a_r,a_s]
      rfl
     refine a_y (i:=13) (N:=some 30) (v:=undef) (a':=?_) Z79_ rfl rfl (a_n HT_.out (by kernel_rfl)) (fun _ _ _ h => h) (Or.inr ⟨by rfl,rfl⟩) ?_ ?_
     rotate_left
     ·simp only [Act.put,sa_,sb_,sc_,a_r,a_s]
      rfl
     refine a_y (i:=14) (N:=some 31) (v:=undef) (a':=?_) Z83_ rfl rfl (a_n HT_.out (by kernel_rfl)) (fun _ _ _ h => h) (Or.inr ⟨by rfl,rfl⟩) ?_ ?_
     rotate_left
     ·simp only [Act.put,sa_,sb_,sc_,a_r,a_s]
      rfl
     refine a_y (i:=15) (N:=some 32) (v:=undef) (a':=?_) Z90_ rfl rfl (a_n HT_.out (by kernel_rfl)) (fun _ _ _ h => h) (Or.inr ⟨by rfl,rfl⟩) ?_ ?_
     rotate_left
     ·simp only [Act.put,sa_,sb_,sc_,a_r,a_s]
      rfl
     refine a_y (i:=16) (N:=some 33) (v:=undef) (a':=?_) Z94_ rfl rfl (a_n HT_.out (by kernel_rfl)) (fun _ _ _ h => h) (Or.inr ⟨by rfl,rfl⟩) ?_ ?_
     rotate_left
     ·simp only [Act.put,sa_,sb_,sc_,a_r,a_s]
      rfl
     refine a_y (i:=17) (N:=some 34) (v:=?_) (a':=?_) Z98_ rfl rfl (a_n HT_.out (by kernel_rfl)) (fun _ _ _ h => h) (Or.inl ⟨by rfl,?_⟩) ?_ ?_
     rotate_left
     ·intro w'
      go_simp
      with_reducible rfl
     rotate_left
     ·simp only [Act.put,sa_,sb_,sc_,a_r,a_s]
      rfl
     refine a_y (i:=18) (N:=some 35) (v:=?_) (a':=?_) l_z rfl rfl (a_n HT_.out (by kernel_rfl)) (fun _ _ _ h => h) (Or.inl ⟨by rfl,?_⟩) ?_ ?_
     rotate_left
     ·intro w'
      go_simp
      with_reducible rfl
     rotate_left
     ·simp only [Act.put,sa_,sb_,sc_,a_r,a_s]
      rfl
     refine a_y (i:=19) (N:=some 36) (v:=?_) (a':=?_) l_w rfl rfl (a_n HT_.out (by kernel_rfl)) (fun _ _ _ h => h) (Or.inl ⟨by rfl,?_⟩) ?_ ?_
     rotate_left
     ·intro w'
      go_simp
      with_reducible rfl
     rotate_left
     ·simp only [Act.put,sa_,sb_,sc_,a_r,a_s]
      rfl
     refine a_y (i:=20) (N:=some 37) (v:=?_) (a':=?_) l_E rfl rfl (a_n HT_.out (by kernel_rfl)) (fun _ _ _ h => h) (Or.inl ⟨by rfl,?_⟩) ?_ ?_
     rotate_left
     ·intro w'
      go_simp
      with_reducible rfl
     rotate_left
     ·simp only [Act.put,sa_,sb_,sc_,a_r,a_s]
      rfl
     refine a_y (i:=24) (N:=some 41) (v:=?_) (a':=?_) o_b rfl rfl (a_n HT_.out (by kernel_rfl)) (fun _ _ _ h => h) (Or.inl ⟨by rfl,?_⟩) ?_ ?_
     rotate_left
     ·intro w'
      go_simp
      with_reducible rfl
     rotate_left
     ·simp only [Act.put,sa_,sb_,sc_,a_r,a_s]
      rfl
     refine b_m (i:=21) (N:=some 38) (v:=?_) (a':=?_) n_6 rfl rfl (a_L HT_.out HW_.out (by kernel_rfl)) (fun _ _ _ h => h) (Or.inl ⟨by rfl,?_⟩) hHeld ?_ ?_
     rotate_left
     ·rintro w' ⟨s0,s1,s2,s3,s4,s5,s6,s7,s8,s9,s10,s11,s12,s13⟩
      go_simp
      with_reducible rfl
     rotate_left
     ·simp only [Act.put,sa_,sb_,sc_,a_r,a_s]
      rfl
     refine b_m (i:=22) (N:=some 39) (v:=?_) (a':=?_) n_4 rfl rfl (a_L HT_.out HW_.out (by kernel_rfl)) (fun _ _ _ h => h) (Or.inl ⟨by rfl,?_⟩) hHeld ?_ ?_
     rotate_left
     ·rintro w' ⟨s0,s1,s2,s3,s4,s5,s6,s7,s8,s9,s10,s11,s12,s13⟩
      go_simp
      with_reducible rfl
     rotate_left
     ·simp only [Act.put,sa_,sb_,sc_,a_r,a_s]
      rfl
     refine b_m (i:=25) (N:=some 42) (v:=?_) (a':=?_) n_Y rfl rfl (a_L HT_.out HW_.out (by kernel_rfl)) (fun _ _ _ h => h) (Or.inl ⟨by rfl,?_⟩) hHeld ?_ ?_
     rotate_left
     ·rintro w' ⟨s0,s1,s2,s3,s4,s5,s6,s7,s8,s9,s10,s11,s12,s13⟩
      go_simp
      with_reducible rfl
     rotate_left
     ·simp only [Act.put,sa_,sb_,sc_,a_r,a_s]
      rfl
     refine one_ (i:=23) (N:=some 40) l_I rfl rfl (c_e HT_.out (by kernel_rfl)) (by decide) (fun K hK => ?_)
     refine e_I Try.func38 (by kernel_rfl) rfl #[.slice (some ad112) l0_1.length c0_1,.func (.func 51) #[] #[.pointer (some ⟨b_e,0,none⟩)]] (by rfl) rfl rfl (by (try simp only [List.map_toArray,List.map_cons,List.map_nil]);first|done|rfl|(simp only [List.length_drop,List.length_take];rfl)) ?_
     with_reducible refine (b_k.calls _ _ l0_1 b_e ((a_c l0_1 x10_1).f0) ((a_c l0_1 x10_1).f1) ((a_c l0_1 x10_1).f2) ((a_c l0_1 x10_1).f3) ((a_c l0_1 x10_1).f4) ((a_c l0_1 x10_1).f5) ((a_c l0_1 x10_1).f6) ((a_c l0_1 x10_1).f7) ((a_c l0_1 x10_1).f8) ((a_c l0_1 x10_1).f9) ((a_c l0_1 x10_1).f10) t119 _ ?side1 ?side2 ?side3 A63.out).mono ?_
     (case side1 => repeat (first|exact (Kd.b_f e_o.out HB.out)|(with_reducible refine Kd.a_9 ?_ _)|(with_reducible refine Kd.a_8 ?_ _)|(with_reducible refine Kd.b_i ?_)))
     (case side2 => exact g_I.out)
     (case side3 => exact (bup_ a_F.out))
     rintro e w101 ⟨rfl,hb⟩
     refine ⟨_,rfl,?_⟩
     replace b_l:=a_e.mk (a_l (bup_ b_l.out) hb)
     replace a_F:=a_e.mk (a_l (bup_ a_F.out) hb)
     replace b_5:=a_e.mk (a_l (bup_ b_5.out) hb)
     replace HB:=a_e.mk (a_t (by repeat (first|(with_reducible first|exact HB.out|apply a_g|apply a_f|apply a_h|refine a_d ?_ e_p.out|refine a_d ?_ e_O.out|refine a_d ?_ f_g.out)|exact HB.out)) hb)
     (try clear hb)
     (try clear hb2)
     (try clear hk)
     (try clear hi)
     refine hK.out _ _ ⟨(a_a a_F.out 0).trans rfl,(a_a a_F.out 1).trans rfl,(a_a a_F.out 2).trans rfl,(a_a a_F.out 3).trans rfl,(a_a a_F.out 4).trans rfl,(a_a a_F.out 5).trans rfl,(a_a a_F.out 6).trans rfl,(a_a a_F.out 7).trans rfl,(a_a a_F.out 8).trans rfl,(a_a a_F.out 9).trans rfl,(a_a a_F.out 10).trans rfl,(a_a b_l.out 0).trans rfl,(a_a b_l.out 1).trans rfl,(a_a b_5.out 0).trans rfl⟩ (fun hHeld => ?_)
     clear hK K
     refine d_U (a':=?_) ?_ ?_
     rotate_left
     ·show Act.put _ (some 40) _ = _
      simp only [Act.put,sa_,sb_,sc_,a_r,a_s]
      rfl
     refine a_y (i:=26) (N:=some 43) (v:=?_) (a':=?_) l_p rfl rfl (a_n HT_.out (by kernel_rfl)) (fun _ _ _ h => h) (Or.inl ⟨by rfl,?_⟩) ?_ ?_
     rotate_left
     ·intro w'
      go_simp
      with_reducible rfl
     rotate_left
     ·simp only [Act.put,sa_,sb_,sc_,a_r,a_s]
      rfl
     refine a_y (i:=27) (N:=some 44) (v:=?_) (a':=?_) l_H rfl rfl (a_n HT_.out (by kernel_rfl)) (fun _ _ _ h => h) (Or.inl ⟨by rfl,?_⟩) ?_ ?_
     rotate_left
     ·intro w'
      go_simp
      with_reducible rfl
     rotate_left
     ·simp only [Act.put,sa_,sb_,sc_,a_r,a_s]
      rfl
     refine a_y (i:=28) (N:=some 45) (v:=?_) (a':=?_) l_F rfl rfl (a_n HT_.out (by kernel_rfl)) (fun _ _ _ h => h) (Or.inl ⟨by rfl,?_⟩) ?_ ?_
     rotate_left
     ·intro w'
      go_simp
      with_reducible rfl
     rotate_left
     ·simp only [Act.put,sa_,sb_,sc_,a_r,a_s]
      rfl
     refine a_y (i:=29) (N:=some 46) (v:=undef) (a':=?_) l_o rfl rfl (a_n HT_.out (by kernel_rfl)) (fun _ _ _ h => h) (Or.inr ⟨by rfl,rfl⟩) ?_ ?_
     rotate_left
     ·simp only [Act.put,sa_,sb_,sc_,a_r,a_s]
      rfl
     refine a_y (i:=30) (N:=some 47) (v:=undef) (a':=?_) q_L rfl rfl (a_n HT_.out (by kernel_rfl)) (fun _ _ _ h => h) (Or.inr ⟨by rfl,rfl⟩) ?_ ?_
     rotate_left
     ·simp only [Act.put,sa_,sb_,sc_,a_r,a_s]
      rfl
     refine a_y (i:=31) (N:=some 48) (v:=undef) (a':=?_) q_Z rfl rfl (a_n HT_.out (by kernel_rfl)) (fun _ _ _ h => h) (Or.inr ⟨by rfl,rfl⟩) ?_ ?_
     rotate_left
     ·simp only [Act.put,sa_,sb_,sc_,a_r,a_s]
      rfl
     refine a_y (i:=32) (N:=some 49) (v:=undef) (a':=?_) q_9 rfl rfl (a_n HT_.out (by kernel_rfl)) (fun _ _ _ h => h) (Or.inr ⟨by rfl,rfl⟩) ?_ ?_
     rotate_left
     ·simp only [Act.put,sa_,sb_,sc_,a_r,a_s]
      rfl
     refine a_y (i:=33) (N:=some 50) (v:=undef) (a':=?_) r_g rfl rfl (a_n HT_.out (by kernel_rfl)) (fun _ _ _ h => h) (Or.inr ⟨by rfl,rfl⟩) ?_ ?_
     rotate_left
     ·simp only [Act.put,sa_,sb_,sc_,a_r,a_s]
      rfl
     refine a_y (i:=34) (N:=some 51) (v:=undef) (a':=?_) l_q rfl rfl (a_n HT_.out (by kernel_rfl)) (fun _ _ _ h => h) (Or.inr ⟨by rfl,rfl⟩) ?_ ?_
     rotate_left
     ·simp only [Act.put,sa_,sb_,sc_,a_r,a_s]
      rfl
     refine a_y (i:=35) (N:=some 52) (v:=undef) (a':=?_) l_t rfl rfl (a_n HT_.out (by kernel_rfl)) (fun _ _ _ h => h) (Or.inr ⟨by rfl,rfl⟩) ?_ ?_
     rotate_left
     ·simp only [Act.put,sa_,sb_,sc_,a_r,a_s]
      rfl
     refine a_y (i:=36) (N:=some 53) (v:=?_) (a':=?_) l_B rfl rfl (a_n HT_.out (by kernel_rfl)) (fun _ _ _ h => h) (Or.inl ⟨by rfl,?_⟩) ?_ ?_
     rotate_left
     ·intro w'
      go_simp
      with_reducible rfl
     rotate_left
     ·simp only [Act.put,sa_,sb_,sc_,a_r,a_s]
      rfl
     refine e_T (c_u HT_.out (by kernel_rfl)) ?_
     try go_wp2
     go_ret
     exact ⟨by first|rfl|(simp [a_w,a_x] <;> rfl)|(simp [*, a_w,a_x] <;> rfl),by repeat (first|(with_reducible first|exact HB.out|apply a_g|apply a_f|apply a_h|refine a_d ?_ e_p.out|refine a_d ?_ e_O.out|refine a_d ?_ f_g.out)|exact HB.out)⟩
    rw [if_pos c64] at H
    have c64b0 : (t119 == ((a_c l0_1 x10_1).f9)) = true:=beq_iff_eq.mpr c64
    have c64b1 : (t119 != ((a_c l0_1 x10_1).f9)) = false:=bne_eq_false_iff_eq.mpr c64
    clear c64
    replace H:=Option.bind_eq_some_iff.mp H
    obtain ⟨t120,A650,H⟩:=H
    replace H : (if t120 = ((a_c l0_1 x10_1).f9) then (a_G.l0 k1 l0_1 (l0_1.length : Int) (wrap64 (x10_1 + 1)) a0_0 l0_1) else (some false)) = some r:=H
    have A65:=a_e.mk A650
    clear A650
    by_cases c66 : t120 = ((a_c l0_1 x10_1).f9)
    rotate_left
    ·rw [if_neg c66] at H
     have c66b0 : (t120 == ((a_c l0_1 x10_1).f9)) = false:=beq_eq_false_iff_ne.mpr c66
     have c66b1 : (t120 != ((a_c l0_1 x10_1).f9)) = true:=bne_iff_ne.mpr c66
     obtain rfl:=Option.some.inj H
     refine d_H (n:=37) (S:=fun w' => w'.cell? ⟨b_e,0,none⟩ = some (.int .i64 ((a_c l0_1 x10_1).f0)) ∧ w'.cell? ⟨b_e,1,none⟩ = some (.int .i64 ((a_c l0_1 x10_1).f1)) ∧ w'.cell? ⟨b_e,2,none⟩ = some (.int .i64 ((a_c l0_1 x10_1).f2)) ∧ w'.cell? ⟨b_e,3,none⟩ = some (.int .i64 ((a_c l0_1 x10_1).f3)) ∧ w'.cell? ⟨b_e,4,none⟩ = some (.int .i64 ((a_c l0_1 x10_1).f4)) ∧ w'.cell? ⟨b_e,5,none⟩ = some (.bool ((a_c l0_1 x10_1).f5)) ∧ w'.cell? ⟨b_e,6,none⟩ = some (.bool ((a_c l0_1 x10_1).f6)) ∧ w'.cell? ⟨b_e,7,none⟩ = some (.int .u32 ((a_c l0_1 x10_1).f7)) ∧ w'.cell? ⟨b_e,8,none⟩ = some (.int .i64 ((a_c l0_1 x10_1).f8)) ∧ w'.cell? ⟨b_e,9,none⟩ = some (.int .i64 ((a_c l0_1 x10_1).f9)) ∧ w'.cell? ⟨b_e,10,none⟩ = some (.int .i64 ((a_c l0_1 x10_1).f10)) ∧ w'.cell? ⟨e_K,0,none⟩ = some (.int .i64 a0_0) ∧ w'.cell? ⟨e_K,1,none⟩ = some (.slice (some ad112) l0_1.length c0_1) ∧ w'.cell? ⟨f_f,0,none⟩ = some (.func (.func 51) #[] #[.pointer (some ⟨b_e,0,none⟩)])) (ds:=[]) Z1_ (by kernel_rfl) rfl rfl ⟨(a_a a_F.out 0).trans rfl,(a_a a_F.out 1).trans rfl,(a_a a_F.out 2).trans rfl,(a_a a_F.out 3).trans rfl,(a_a a_F.out 4).trans rfl,(a_a a_F.out 5).trans rfl,(a_a a_F.out 6).trans rfl,(a_a a_F.out 7).trans rfl,(a_a a_F.out 8).trans rfl,(a_a a_F.out 9).trans rfl,(a_a a_F.out 10).trans rfl,(a_a b_l.out 0).trans rfl,(a_a b_l.out 1).trans rfl,(a_a b_5.out 0).trans rfl⟩ (fun hHeld => ?_);refine b_Q a_G.tab6 a_G.f_W (fun HT_ HW_ => ?_)
     generalize w21.drew = w87 at b_l a_F b_5 HB hHeld ⊢
     refine b_m (i:=0) (N:=some 17) (v:=?_) (a':=?_) Z7_ rfl rfl (a_L HT_.out HW_.out (by kernel_rfl)) (fun _ _ _ h => h) (Or.inl ⟨by rfl,?_⟩) hHeld ?_ ?_
     rotate_left
     ·rintro w' ⟨s0,s1,s2,s3,s4,s5,s6,s7,s8,s9,s10,s11,s12,s13⟩
      go_simp
      with_reducible rfl
     rotate_left
     ·simp only [Act.put,sa_,sb_,sc_,a_r,a_s]
      rfl
     refine one_ (i:=1) (N:=some 18) Z14_ rfl rfl (c_e HT_.out (by kernel_rfl)) (by decide) (fun K hK => ?_)
     refine e_I Try.func53 (by kernel_rfl) rfl #[.agg #[.int .i64 ((a_c l0_1 x10_1).f0),.int .i64 ((a_c l0_1 x10_1).f1),.int .i64 ((a_c l0_1 x10_1).f2),.int .i64 ((a_c l0_1 x10_1).f3),.int .i64 ((a_c l0_1 x10_1).f4),.bool ((a_c l0_1 x10_1).f5),.bool ((a_c l0_1 x10_1).f6),.int .u32 ((a_c l0_1 x10_1).f7),.int .i64 ((a_c l0_1 x10_1).f8),.int .i64 ((a_c l0_1 x10_1).f9),.int .i64 ((a_c l0_1 x10_1).f10)]] (by rfl) rfl rfl (by (try simp only [List.map_toArray,List.map_cons,List.map_nil]);first|done|rfl|(simp only [List.length_drop,List.length_take];rfl)) ?_
     with_reducible refine (a_1.calls k1 ((a_c l0_1 x10_1).f0) ((a_c l0_1 x10_1).f1) ((a_c l0_1 x10_1).f2) ((a_c l0_1 x10_1).f3) ((a_c l0_1 x10_1).f4) ((a_c l0_1 x10_1).f5) ((a_c l0_1 x10_1).f6) ((a_c l0_1 x10_1).f7) ((a_c l0_1 x10_1).f8) ((a_c l0_1 x10_1).f9) ((a_c l0_1 x10_1).f10) true _ A7.out).mono ?_
     rintro e w88 ⟨rfl,hb⟩
     refine ⟨_,rfl,?_⟩
     replace b_l:=a_e.mk (a_l (bup_ b_l.out) hb)
     replace a_F:=a_e.mk (a_l (bup_ a_F.out) hb)
     replace b_5:=a_e.mk (a_l (bup_ b_5.out) hb)
     replace HB:=a_e.mk (a_t (by repeat (first|(with_reducible first|exact HB.out|apply a_g|apply a_f|apply a_h|refine a_d ?_ e_p.out|refine a_d ?_ e_O.out|refine a_d ?_ f_g.out)|exact HB.out)) hb)
     (try clear hb)
     (try clear hb2)
     (try clear hk)
     (try clear hi)
     refine hK.out _ _ ⟨(a_a a_F.out 0).trans rfl,(a_a a_F.out 1).trans rfl,(a_a a_F.out 2).trans rfl,(a_a a_F.out 3).trans rfl,(a_a a_F.out 4).trans rfl,(a_a a_F.out 5).trans rfl,(a_a a_F.out 6).trans rfl,(a_a a_F.out 7).trans rfl,(a_a a_F.out 8).trans rfl,(a_a a_F.out 9).trans rfl,(a_a a_F.out 10).trans rfl,(a_a b_l.out 0).trans rfl,(a_a b_l.out 1).trans rfl,(a_a b_5.out 0).trans rfl⟩ (fun hHeld => ?_)
     clear hK K
     refine d_U (a':=?_) ?_ ?_
     rotate_left
     ·show Act.put _ (some 18) _ = _
      simp only [Act.put,sa_,sb_,sc_,a_r,a_s]
      rfl
     refine a_y (i:=2) (N:=some 19) (v:=?_) (a':=?_) Z20_ rfl rfl (a_n HT_.out (by kernel_rfl)) (fun _ _ _ h => h) (Or.inl ⟨by rfl,?_⟩) ?_ ?_
     rotate_left
     ·intro w'
      go_simp
      with_reducible rfl
     rotate_left
     ·simp only [Act.put,sa_,sb_,sc_,a_r,a_s]
      rfl
     refine a_y (i:=3) (N:=some 20) (v:=?_) (a':=?_) Z25_ rfl rfl (a_n HT_.out (by kernel_rfl)) (fun _ _ _ h => h) (Or.inl ⟨by rfl,?_⟩) ?_ ?_
     rotate_left
     ·intro w'
      go_simp
      with_reducible rfl
     rotate_left
     ·simp only [Act.put,sa_,sb_,sc_,a_r,a_s]
      rfl
     refine a_y (i:=4) (N:=some 21) (v:=?_) (a':=?_) Z29_ rfl rfl (a_n HT_.out (by kernel_rfl)) (fun _ _ _ h => h) (Or.inl ⟨by rfl,?_⟩) ?_ ?_
     rotate_left
     ·intro w'
      go_simp
      with_reducible rfl
     rotate_left
     ·simp only [Act.put,sa_,sb_,sc_,a_r,a_s]
      rfl
     refine a_y (i:=5) (N:=some 22) (v:=?_) (a':=?_) Z34_ rfl rfl (a_n HT_.out (by kernel_rfl)) (fun _ _ _ h => h) (Or.inl ⟨by rfl,?_⟩) ?_ ?_
     rotate_left
     ·intro w'
      go_simp
      with_reducible rfl
     rotate_left
     ·simp only [Act.put,sa_,sb_,sc_,a_r,a_s]
      rfl
     refine a_y (i:=6) (N:=some 23) (v:=?_) (a':=?_) Z38_ rfl rfl (a_n HT_.out (by kernel_rfl)) (fun _ _ _ h => h) (Or.inl ⟨by rfl,?_⟩) ?_ ?_
     rotate_left
     ·intro w'
      go_simp
      with_reducible rfl
     rotate_left
     ·simp only [Act.put,sa_,sb_,sc_,a_r,a_s]
      rfl
     refine a_y (i:=7) (N:=some 24) (v:=undef) (a':=?_) Z44_ rfl rfl (a_n HT_.out (by kernel_rfl)) (fun _ _ _ h => h) (Or.inr ⟨by rfl,rfl⟩) ?_ ?_
     rotate_left
     ·simp only [Act.put,sa_,sb_,sc_,a_r,a_s]
      rfl
     refine a_y (i:=8) (N:=some 25) (v:=undef) (a':=?_) Z53_ rfl rfl (a_n HT_.out (by kernel_rfl)) (fun _ _ _ h => h) (Or.inr ⟨by rfl,rfl⟩) ?_ ?_
     rotate_left
     ·simp only [Act.put,sa_,sb_,sc_,a_r,a_s]
      rfl
     refine a_y (i:=9) (N:=some 26) (v:=undef) (a':=?_) Z58_ rfl rfl (a_n HT_.out (by kernel_rfl)) (fun _ _ _ h => h) (Or.inr ⟨by rfl,rfl⟩) ?_ ?_
     rotate_left
     ·simp only [Act.put,sa_,sb_,sc_,a_r,a_s]
      rfl
     refine a_y (i:=10) (N:=some 27) (v:=undef) (a':=?_) Z62_ rfl rfl (a_n HT_.out (by kernel_rfl)) (fun _ _ _ h => h) (Or.inr ⟨by rfl,rfl⟩) ?_ ?_
     rotate_left
     ·simp only [Act.put,sa_,sb_,sc_,a_r,a_s]
      rfl
     refine a_y (i:=11) (N:=some 28) (v:=undef) (a':=?_) Z68_ rfl rfl (a_n HT_.out (by kernel_rfl)) (fun _ _ _ h => h) (Or.inr ⟨by rfl,rfl⟩) ?_ ?_
     rotate_left
     ·simp only [Act.put,sa_,sb_,sc_,a_r,a_s]
      rfl
     refine a_y (i:=12) (N:=some 29) (v:=undef) (a':=?_) Z74_ rfl rfl (a_n HT_.out (by kernel_rfl)) (fun _ _ _ h => h) (Or.inr ⟨by rfl,rfl⟩) ?_ ?_
     rotate_left
     ·simp only [Act.put,sa_,sb_,sc_,a_r,a_s]
      rfl
     refine a_y (i:=13) (N:=some 30) (v:=undef) (a':=?_) Z79_ rfl rfl (a_n HT_.out (by kernel_rfl)) (fun _ _ _ h => h) (Or.inr ⟨by rfl,rfl⟩) ?_ ?_
     rotate_left
     ·simp only [Act.put,sa_,sb_,sc_,a_r,a_s]
      rfl
     refine a_y (i:=14) (N:=some 31) (v:=undef) (a':=?_) Z83_ rfl rfl (a_n HT_.out (by kernel_rfl)) (fun _ _ _ h => h) (Or.inr ⟨by rfl,rfl⟩) ?_ ?_
     rotate_left
     ·simp only [Act.put,sa_,sb_,sc_,a_r,a_s]
      rfl
     refine a_y (i:=15) (N:=some 32) (v:=undef) (a':=?_) Z90_ rfl rfl (a_n HT_.out (by kernel_rfl)) (fun _ _ _ h => h) (Or.inr ⟨by rfl,rfl⟩) ?_ ?_
     rotate_left
     ·simp only [Act.put,sa_,sb_,sc_,a_r,a_s]
      rfl
     refine a_y (i:=16) (N:=some 33) (v:=undef) (a':=?_) Z94_ rfl rfl (a_n HT_.out (by kernel_rfl)) (fun _ _ _ h => h) (Or.inr ⟨by rfl,rfl⟩) ?_ ?_
     rotate_left
     ·simp only [Act.put,sa_,sb_,sc_,a_r,a_s]
      rfl
     refine a_y (i:=17) (N:=some 34) (v:=?_) (a':=?_) Z98_ rfl rfl (a_n HT_.out (by kernel_rfl)) (fun _ _ _ h => h) (Or.inl ⟨by rfl,?_⟩) ?_ ?_
     rotate_left
     ·intro w'
      go_simp
      with_reducible rfl
     rotate_left
     ·simp only [Act.put,sa_,sb_,sc_,a_r,a_s]
      rfl
     refine a_y (i:=18) (N:=some 35) (v:=?_) (a':=?_) l_z rfl rfl (a_n HT_.out (by kernel_rfl)) (fun _ _ _ h => h) (Or.inl ⟨by rfl,?_⟩) ?_ ?_
     rotate_left
     ·intro w'
      go_simp
      with_reducible rfl
     rotate_left
     ·simp only [Act.put,sa_,sb_,sc_,a_r,a_s]
      rfl
     refine a_y (i:=19) (N:=some 36) (v:=?_) (a':=?_) l_w rfl rfl (a_n HT_.out (by kernel_rfl)) (fun _ _ _ h => h) (Or.inl ⟨by rfl,?_⟩) ?_ ?_
     rotate_left
     ·intro w'
      go_simp
      with_reducible rfl
     rotate_left
     ·simp only [Act.put,sa_,sb_,sc_,a_r,a_s]
      rfl
     refine a_y (i:=20) (N:=some 37) (v:=?_) (a':=?_) l_E rfl rfl (a_n HT_.out (by kernel_rfl)) (fun _ _ _ h => h) (Or.inl ⟨by rfl,?_⟩) ?_ ?_
     rotate_left
     ·intro w'
      go_simp
      with_reducible rfl
     rotate_left
     ·simp only [Act.put,sa_,sb_,sc_,a_r,a_s]
      rfl
     refine a_y (i:=24) (N:=some 41) (v:=?_) (a':=?_) o_b rfl rfl (a_n HT_.out (by kernel_rfl)) (fun _ _ _ h => h) (Or.inl ⟨by rfl,?_⟩) ?_ ?_
     rotate_left
     ·intro w'
      go_simp
      with_reducible rfl
     rotate_left
     ·simp only [Act.put,sa_,sb_,sc_,a_r,a_s]
      rfl
     refine b_m (i:=21) (N:=some 38) (v:=?_) (a':=?_) n_6 rfl rfl (a_L HT_.out HW_.out (by kernel_rfl)) (fun _ _ _ h => h) (Or.inl ⟨by rfl,?_⟩) hHeld ?_ ?_
     rotate_left
     ·rintro w' ⟨s0,s1,s2,s3,s4,s5,s6,s7,s8,s9,s10,s11,s12,s13⟩
      go_simp
      with_reducible rfl
     rotate_left
     ·simp only [Act.put,sa_,sb_,sc_,a_r,a_s]
      rfl
     refine b_m (i:=22) (N:=some 39) (v:=?_) (a':=?_) n_4 rfl rfl (a_L HT_.out HW_.out (by kernel_rfl)) (fun _ _ _ h => h) (Or.inl ⟨by rfl,?_⟩) hHeld ?_ ?_
     rotate_left
     ·rintro w' ⟨s0,s1,s2,s3,s4,s5,s6,s7,s8,s9,s10,s11,s12,s13⟩
      go_simp
      with_reducible rfl
     rotate_left
     ·simp only [Act.put,sa_,sb_,sc_,a_r,a_s]
      rfl
     refine b_m (i:=25) (N:=some 42) (v:=?_) (a':=?_) n_Y rfl rfl (a_L HT_.out HW_.out (by kernel_rfl)) (fun _ _ _ h => h) (Or.inl ⟨by rfl,?_⟩) hHeld ?_ ?_
     rotate_left
     ·rintro w' ⟨s0,s1,s2,s3,s4,s5,s6,s7,s8,s9,s10,s11,s12,s13⟩
      go_simp
      with_reducible rfl
     rotate_left
     ·simp only [Act.put,sa_,sb_,sc_,a_r,a_s]
      rfl
     refine one_ (i:=23) (N:=some 40) l_I rfl rfl (c_e HT_.out (by kernel_rfl)) (by decide) (fun K hK => ?_)
     refine e_I Try.func38 (by kernel_rfl) rfl #[.slice (some ad112) l0_1.length c0_1,.func (.func 51) #[] #[.pointer (some ⟨b_e,0,none⟩)]] (by rfl) rfl rfl (by (try simp only [List.map_toArray,List.map_cons,List.map_nil]);first|done|rfl|(simp only [List.length_drop,List.length_take];rfl)) ?_
     with_reducible refine (b_k.calls _ _ l0_1 b_e ((a_c l0_1 x10_1).f0) ((a_c l0_1 x10_1).f1) ((a_c l0_1 x10_1).f2) ((a_c l0_1 x10_1).f3) ((a_c l0_1 x10_1).f4) ((a_c l0_1 x10_1).f5) ((a_c l0_1 x10_1).f6) ((a_c l0_1 x10_1).f7) ((a_c l0_1 x10_1).f8) ((a_c l0_1 x10_1).f9) ((a_c l0_1 x10_1).f10) t119 _ ?side1 ?side2 ?side3 A63.out).mono ?_
     (case side1 => repeat (first|exact (Kd.b_f e_o.out HB.out)|(with_reducible refine Kd.a_9 ?_ _)|(with_reducible refine Kd.a_8 ?_ _)|(with_reducible refine Kd.b_i ?_)))
     (case side2 => exact g_I.out)
     (case side3 => exact (bup_ a_F.out))
     rintro e w89 ⟨rfl,hb⟩
     refine ⟨_,rfl,?_⟩
     replace b_l:=a_e.mk (a_l (bup_ b_l.out) hb)
     replace a_F:=a_e.mk (a_l (bup_ a_F.out) hb)
     replace b_5:=a_e.mk (a_l (bup_ b_5.out) hb)
     replace HB:=a_e.mk (a_t (by repeat (first|(with_reducible first|exact HB.out|apply a_g|apply a_f|apply a_h|refine a_d ?_ e_p.out|refine a_d ?_ e_O.out|refine a_d ?_ f_g.out)|exact HB.out)) hb)
     (try clear hb)
     (try clear hb2)
     (try clear hk)
     (try clear hi)
     refine hK.out _ _ ⟨(a_a a_F.out 0).trans rfl,(a_a a_F.out 1).trans rfl,(a_a a_F.out 2).trans rfl,(a_a a_F.out 3).trans rfl,(a_a a_F.out 4).trans rfl,(a_a a_F.out 5).trans rfl,(a_a a_F.out 6).trans rfl,(a_a a_F.out 7).trans rfl,(a_a a_F.out 8).trans rfl,(a_a a_F.out 9).trans rfl,(a_a a_F.out 10).trans rfl,(a_a b_l.out 0).trans rfl,(a_a b_l.out 1).trans rfl,(a_a b_5.out 0).trans rfl⟩ (fun hHeld => ?_)
     clear hK K
     refine d_U (a':=?_) ?_ ?_
     rotate_left
     ·show Act.put _ (some 40) _ = _
      simp only [Act.put,sa_,sb_,sc_,a_r,a_s]
      rfl
     refine a_y (i:=26) (N:=some 43) (v:=?_) (a':=?_) l_p rfl rfl (a_n HT_.out (by kernel_rfl)) (fun _ _ _ h => h) (Or.inl ⟨by rfl,?_⟩) ?_ ?_
     rotate_left
     ·intro w'
      go_simp
      with_reducible rfl
     rotate_left
     ·simp only [Act.put,sa_,sb_,sc_,a_r,a_s]
      rfl
     refine a_y (i:=27) (N:=some 44) (v:=?_) (a':=?_) l_H rfl rfl (a_n HT_.out (by kernel_rfl)) (fun _ _ _ h => h) (Or.inl ⟨by rfl,?_⟩) ?_ ?_
     rotate_left
     ·intro w'
      go_simp
      with_reducible rfl
     rotate_left
     ·simp only [Act.put,sa_,sb_,sc_,a_r,a_s]
      rfl
     refine a_y (i:=28) (N:=some 45) (v:=?_) (a':=?_) l_F rfl rfl (a_n HT_.out (by kernel_rfl)) (fun _ _ _ h => h) (Or.inl ⟨by rfl,?_⟩) ?_ ?_
     rotate_left
     ·intro w'
      go_simp
      with_reducible rfl
     rotate_left
     ·simp only [Act.put,sa_,sb_,sc_,a_r,a_s]
      rfl
     refine a_y (i:=29) (N:=some 46) (v:=?_) (a':=?_) l_o rfl rfl (a_n HT_.out (by kernel_rfl)) (fun _ _ _ h => h) (Or.inl ⟨by rfl,?_⟩) ?_ ?_
     rotate_left
     ·intro w'
      go_simp
      with_reducible rfl
     rotate_left
     ·simp only [Act.put,sa_,sb_,sc_,a_r,a_s]
      rfl
     refine a_y (i:=31) (N:=some 48) (v:=?_) (a':=?_) q_4 rfl rfl (a_n HT_.out (by kernel_rfl)) (fun _ _ _ h => h) (Or.inl ⟨by rfl,?_⟩) ?_ ?_
     rotate_left
     ·intro w'
      go_simp
      with_reducible rfl
     rotate_left
     ·simp only [Act.put,sa_,sb_,sc_,a_r,a_s]
      rfl
     refine a_y (i:=33) (N:=some 50) (v:=?_) (a':=?_) q_O rfl rfl (a_n HT_.out (by kernel_rfl)) (fun _ _ _ h => h) (Or.inl ⟨by rfl,?_⟩) ?_ ?_
     rotate_left
     ·intro w'
      go_simp
      with_reducible rfl
     rotate_left
     ·simp only [Act.put,sa_,sb_,sc_,a_r,a_s]
      rfl
     refine b_m (i:=30) (N:=some 47) (v:=?_) (a':=?_) r_h rfl rfl (a_L HT_.out HW_.out (by kernel_rfl)) (fun _ _ _ h => h) (Or.inl ⟨by rfl,?_⟩) hHeld ?_ ?_
     rotate_left
     ·rintro w' ⟨s0,s1,s2,s3,s4,s5,s6,s7,s8,s9,s10,s11,s12,s13⟩
      go_simp
      with_reducible rfl
     rotate_left
     ·simp only [Act.put,sa_,sb_,sc_,a_r,a_s]
      rfl
     refine b_m (i:=34) (N:=some 51) (v:=?_) (a':=?_) r_e rfl rfl (a_L HT_.out HW_.out (by kernel_rfl)) (fun _ _ _ h => h) (Or.inl ⟨by rfl,?_⟩) hHeld ?_ ?_
     rotate_left
     ·rintro w' ⟨s0,s1,s2,s3,s4,s5,s6,s7,s8,s9,s10,s11,s12,s13⟩
      go_simp
      with_reducible rfl
     rotate_left
     ·simp only [Act.put,sa_,sb_,sc_,a_r,a_s]
      rfl
     refine one_ (i:=32) (N:=some 49) l_q rfl rfl (c_e HT_.out (by kernel_rfl)) (by decide) (fun K hK => ?_)
     refine e_I Try.func38 (by kernel_rfl) rfl #[.slice (some ad112) l0_1.length c0_1,.func (.func 52) #[] #[.pointer (some ⟨f_f,0,none⟩),.pointer (some ⟨b_e,0,none⟩)]] (by rfl) rfl rfl (by (try simp only [List.map_toArray,List.map_cons,List.map_nil]);first|done|rfl|(simp only [List.length_drop,List.length_take];rfl)) ?_
     with_reducible refine (b_h.calls _ _ l0_1 f_f b_e b_e ((a_c l0_1 x10_1).f0) ((a_c l0_1 x10_1).f1) ((a_c l0_1 x10_1).f2) ((a_c l0_1 x10_1).f3) ((a_c l0_1 x10_1).f4) ((a_c l0_1 x10_1).f5) ((a_c l0_1 x10_1).f6) ((a_c l0_1 x10_1).f7) ((a_c l0_1 x10_1).f8) ((a_c l0_1 x10_1).f9) ((a_c l0_1 x10_1).f10) ((a_c l0_1 x10_1).f0) ((a_c l0_1 x10_1).f1) ((a_c l0_1 x10_1).f2) ((a_c l0_1 x10_1).f3) ((a_c l0_1 x10_1).f4) ((a_c l0_1 x10_1).f5) ((a_c l0_1 x10_1).f6) ((a_c l0_1 x10_1).f7) ((a_c l0_1 x10_1).f8) ((a_c l0_1 x10_1).f9) ((a_c l0_1 x10_1).f10) t120 _ ?side1 ?side2 ?side3 ?side4 ?side5 A65.out).mono ?_
     (case side1 => repeat (first|exact (Kd.b_f e_o.out HB.out)|(with_reducible refine Kd.a_9 ?_ _)|(with_reducible refine Kd.a_8 ?_ _)|(with_reducible refine Kd.b_i ?_)))
     (case side2 => exact g_I.out)
     (case side3 => exact (bup_ b_5.out))
     (case side4 => exact (bup_ a_F.out))
     (case side5 => exact (bup_ a_F.out))
     rintro e w90 ⟨rfl,hb⟩
     refine ⟨_,rfl,?_⟩
     replace b_l:=a_e.mk (a_l (bup_ b_l.out) hb)
     replace a_F:=a_e.mk (a_l (bup_ a_F.out) hb)
     replace b_5:=a_e.mk (a_l (bup_ b_5.out) hb)
     replace HB:=a_e.mk (a_t (by repeat (first|(with_reducible first|exact HB.out|apply a_g|apply a_f|apply a_h|refine a_d ?_ e_p.out|refine a_d ?_ e_O.out|refine a_d ?_ f_g.out)|exact HB.out)) hb)
     (try clear hb)
     (try clear hb2)
     (try clear hk)
     (try clear hi)
     refine hK.out _ _ ⟨(a_a a_F.out 0).trans rfl,(a_a a_F.out 1).trans rfl,(a_a a_F.out 2).trans rfl,(a_a a_F.out 3).trans rfl,(a_a a_F.out 4).trans rfl,(a_a a_F.out 5).trans rfl,(a_a a_F.out 6).trans rfl,(a_a a_F.out 7).trans rfl,(a_a a_F.out 8).trans rfl,(a_a a_F.out 9).trans rfl,(a_a a_F.out 10).trans rfl,(a_a b_l.out 0).trans rfl,(a_a b_l.out 1).trans rfl,(a_a b_5.out 0).trans rfl⟩ (fun hHeld => ?_)
     clear hK K
     refine d_U (a':=?_) ?_ ?_
     rotate_left
     ·show Act.put _ (some 49) _ = _
      simp only [Act.put,sa_,sb_,sc_,a_r,a_s]
      rfl
     refine a_y (i:=35) (N:=some 52) (v:=?_) (a':=?_) l_t rfl rfl (a_n HT_.out (by kernel_rfl)) (fun _ _ _ h => h) (Or.inl ⟨by rfl,?_⟩) ?_ ?_
     rotate_left
     ·intro w'
      go_simp
      with_reducible rfl
     rotate_left
     ·simp only [Act.put,sa_,sb_,sc_,a_r,a_s]
      rfl
     refine a_y (i:=36) (N:=some 53) (v:=?_) (a':=?_) l_B rfl rfl (a_n HT_.out (by kernel_rfl)) (fun _ _ _ h => h) (Or.inl ⟨by rfl,?_⟩) ?_ ?_
     rotate_left
     ·intro w'
      go_simp
      with_reducible rfl
     rotate_left
     ·simp only [Act.put,sa_,sb_,sc_,a_r,a_s]
      rfl
     refine e_T (c_u HT_.out (by kernel_rfl)) ?_
     try go_wp2
     go_ret
     exact ⟨by first|rfl|(simp [a_w,a_x] <;> rfl)|(simp [*, a_w,a_x] <;> rfl),by repeat (first|(with_reducible first|exact HB.out|apply a_g|apply a_f|apply a_h|refine a_d ?_ e_p.out|refine a_d ?_ e_O.out|refine a_d ?_ f_g.out)|exact HB.out)⟩
    rw [if_pos c66] at H
    have c66b0 : (t120 == ((a_c l0_1 x10_1).f9)) = true:=beq_iff_eq.mpr c66
    have c66b1 : (t120 != ((a_c l0_1 x10_1).f9)) = false:=bne_eq_false_iff_eq.mpr c66
    clear c66
    have H':=a_e.mk H
    clear H
    refine d_H (n:=37) (S:=fun w' => w'.cell? ⟨b_e,0,none⟩ = some (.int .i64 ((a_c l0_1 x10_1).f0)) ∧ w'.cell? ⟨b_e,1,none⟩ = some (.int .i64 ((a_c l0_1 x10_1).f1)) ∧ w'.cell? ⟨b_e,2,none⟩ = some (.int .i64 ((a_c l0_1 x10_1).f2)) ∧ w'.cell? ⟨b_e,3,none⟩ = some (.int .i64 ((a_c l0_1 x10_1).f3)) ∧ w'.cell? ⟨b_e,4,none⟩ = some (.int .i64 ((a_c l0_1 x10_1).f4)) ∧ w'.cell? ⟨b_e,5,none⟩ = some (.bool ((a_c l0_1 x10_1).f5)) ∧ w'.cell? ⟨b_e,6,none⟩ = some (.bool ((a_c l0_1 x10_1).f6)) ∧ w'.cell? ⟨b_e,7,none⟩ = some (.int .u32 ((a_c l0_1 x10_1).f7)) ∧ w'.cell? ⟨b_e,8,none⟩ = some (.int .i64 ((a_c l0_1 x10_1).f8)) ∧ w'.cell? ⟨b_e,9,none⟩ = some (.int .i64 ((a_c l0_1 x10_1).f9)) ∧ w'.cell? ⟨b_e,10,none⟩ = some (.int .i64 ((a_c l0_1 x10_1).f10)) ∧ w'.cell? ⟨e_K,0,none⟩ = some (.int .i64 a0_0) ∧ w'.cell? ⟨e_K,1,none⟩ = some (.slice (some ad112) l0_1.length c0_1) ∧ w'.cell? ⟨f_f,0,none⟩ = some (.func (.func 51) #[] #[.pointer (some ⟨b_e,0,none⟩)])) (ds:=[]) Z1_ (by kernel_rfl) rfl rfl ⟨(a_a a_F.out 0).trans rfl,(a_a a_F.out 1).trans rfl,(a_a a_F.out 2).trans rfl,(a_a a_F.out 3).trans rfl,(a_a a_F.out 4).trans rfl,(a_a a_F.out 5).trans rfl,(a_a a_F.out 6).trans rfl,(a_a a_F.out 7).trans rfl,(a_a a_F.out 8).trans rfl,(a_a a_F.out 9).trans rfl,(a_a a_F.out 10).trans rfl,(a_a b_l.out 0).trans rfl,(a_a b_l.out 1).trans rfl,(a_a b_5.out 0).trans rfl⟩ (fun hHeld => ?_);refine b_Q a_G.tab6 a_G.f_W (fun HT_ HW_ => ?_)
    generalize w21.drew = w75 at b_l a_F b_5 HB hHeld ⊢
    refine b_m (i:=0) (N:=some 17) (v:=?_) (a':=?_) Z7_ rfl rfl (a_L HT_.out HW_.out (by kernel_rfl)) (fun _ _ _ h => h) (Or.inl ⟨by rfl,?_⟩) hHeld ?_ ?_
    rotate_left
    ·rintro w' ⟨s0,s1,s2,s3,s4,s5,s6,s7,s8,s9,s10,s11,s12,s13⟩
     go_simp
     with_reducible rfl
    rotate_left
    ·simp only [Act.put,sa_,sb_,sc_,a_r,a_s]
     rfl
    refine one_ (i:=1) (N:=some 18) Z14_ rfl rfl (c_e HT_.out (by kernel_rfl)) (by decide) (fun K hK => ?_)
    refine e_I Try.func53 (by kernel_rfl) rfl #[.agg #[.int .i64 ((a_c l0_1 x10_1).f0),.int .i64 ((a_c l0_1 x10_1).f1),.int .i64 ((a_c l0_1 x10_1).f2),.int .i64 ((a_c l0_1 x10_1).f3),.int .i64 ((a_c l0_1 x10_1).f4),.bool ((a_c l0_1 x10_1).f5),.bool ((a_c l0_1 x10_1).f6),.int .u32 ((a_c l0_1 x10_1).f7),.int .i64 ((a_c l0_1 x10_1).f8),.int .i64 ((a_c l0_1 x10_1).f9),.int .i64 ((a_c l0_1 x10_1).f10)]] (by rfl) rfl rfl (by (try simp only [List.map_toArray,List.map_cons,List.map_nil]);first|done|rfl|(simp only [List.length_drop,List.length_take];rfl)) ?_
    with_reducible refine (a_1.calls k1 ((a_c l0_1 x10_1).f0) ((a_c l0_1 x10_1).f1) ((a_c l0_1 x10_1).f2) ((a_c l0_1 x10_1).f3) ((a_c l0_1 x10_1).f4) ((a_c l0_1 x10_1).f5) ((a_c l0_1 x10_1).f6) ((a_c l0_1 x10_1).f7) ((a_c l0_1 x10_1).f8) ((a_c l0_1 x10_1).f9) ((a_c l0_1 x10_1).f10) true _ A7.out).mono ?_
    rintro e w76 ⟨rfl,hb⟩
    refine ⟨_,rfl,?_⟩
    replace b_l:=a_e.mk (a_l (bup_ b_l.out) hb)
    replace a_F:=a_e.mk (a_l (bup_ a_F.out) hb)
    replace b_5:=a_e.mk (a_l (bup_ b_5.out) hb)
    replace HB:=a_e.mk (a_t (by repeat (first|(with_reducible first|exact HB.out|apply a_g|apply a_f|apply a_h|refine a_d ?_ e_p.out|refine a_d ?_ e_O.out|refine a_d ?_ f_g.out)|exact HB.out)) hb)
    (try clear hb)
    (try clear hb2)
    (try clear hk)
    (try clear hi)
    refine hK.out _ _ ⟨(a_a a_F.out 0).trans rfl,(a_a a_F.out 1).trans rfl,(a_a a_F.out 2).trans rfl,(a_a a_F.out 3).trans rfl,(a_a a_F.out 4).trans rfl,(a_a a_F.out 5).trans rfl,(a_a a_F.out 6).trans rfl,(a_a a_F.out 7).trans rfl,(a_a a_F.out 8).trans rfl,(a_a a_F.out 9).trans rfl,(a_a a_F.out 10).trans rfl,(a_a b_l.out 0).trans rfl,(a_a b_l.out 1).trans rfl,(a_a b_5.out 0).trans rfl⟩ (fun hHeld => ?_)
    clear hK K
    refine d_U (a':=?_) ?_ ?_
    rotate_left
    ·show Act.put _ (some 18) _ = _
     simp only [Act.put,sa_,sb_,sc_,a_r,a_s]
     rfl
    refine a_y (i:=2) (N:=some 19) (v:=?_) (a':=?_) Z20_ rfl rfl (a_n HT_.out (by kernel_rfl)) (fun _ _ _ h => h) (Or.inl ⟨by rfl,?_⟩) ?_ ?_
    rotate_left
    ·intro w'
     go_simp
     with_reducible rfl
    rotate_left
    ·simp only [Act.put,sa_,sb_,sc_,a_r,a_s]
     rfl
    refine a_y (i:=3) (N:=some 20) (v:=?_) (a':=?_) Z25_ rfl rfl (a_n HT_.out (by kernel_rfl)) (fun _ _ _ h => h) (Or.inl ⟨by rfl,?_⟩) ?_ ?_
    rotate_left
    ·intro w'
     go_simp
     with_reducible rfl
    rotate_left
    ·simp only [Act.put,sa_,sb_,sc_,a_r,a_s]
     rfl
    refine a_y (i:=4) (N:=some 21) (v:=?_) (a':=?_) Z29_ rfl rfl (a_n HT_.out (by kernel_rfl)) (fun _ _ _ h => h) (Or.inl ⟨by rfl,?_⟩) ?_ ?_
    rotate_left
    ·intro w'
     go_simp
     with_reducible rfl
    rotate_left
    ·simp only [Act.put,sa_,sb_,sc_,a_r,a_s]
     rfl
    refine a_y (i:=5) (N:=some 22) (v:=?_) (a':=?_) Z34_ rfl rfl (a_n HT_.out (by kernel_rfl)) (fun _ _ _ h => h) (Or.inl ⟨by rfl,?_⟩) ?_ ?_
    rotate_left
    ·intro w'
     go_simp
     with_reducible rfl
    rotate_left
    ·simp only [Act.put,sa_,sb_,sc_,a_r,a_s]
     rfl
    refine a_y (i:=6) (N:=some 23) (v:=?_) (a':=?_) Z38_ rfl rfl (a_n HT_.out (by kernel_rfl)) (fun _ _ _ h => h) (Or.inl ⟨by rfl,?_⟩) ?_ ?_
    rotate_left
    ·intro w'
     go_simp
     with_reducible rfl
    rotate_left
    ·simp only [Act.put,sa_,sb_,sc_,a_r,a_s]
     rfl
    refine a_y (i:=7) (N:=some 24) (v:=undef) (a':=?_) Z44_ rfl rfl (a_n HT_.out (by kernel_rfl)) (fun _ _ _ h => h) (Or.inr ⟨by rfl,rfl⟩) ?_ ?_
    rotate_left
    ·simp only [Act.put,sa_,sb_,sc_,a_r,a_s]
     rfl
    refine a_y (i:=8) (N:=some 25) (v:=undef) (a':=?_) Z53_ rfl rfl (a_n HT_.out (by kernel_rfl)) (fun _ _ _ h => h) (Or.inr ⟨by rfl,rfl⟩) ?_ ?_
    rotate_left
    ·simp only [Act.put,sa_,sb_,sc_,a_r,a_s]
     rfl
    refine a_y (i:=9) (N:=some 26) (v:=undef) (a':=?_) Z58_ rfl rfl (a_n HT_.out (by kernel_rfl)) (fun _ _ _ h => h) (Or.inr ⟨by rfl,rfl⟩) ?_ ?_
    rotate_left
    ·simp only [Act.put,sa_,sb_,sc_,a_r,a_s]
     rfl
    refine a_y (i:=10) (N:=some 27) (v:=undef) (a':=?_) Z62_ rfl rfl (a_n HT_.out (by kernel_rfl)) (fun _ _ _ h => h) (Or.inr ⟨by rfl,rfl⟩) ?_ ?_
    rotate_left
    ·simp only [Act.put,sa_,sb_,sc_,a_r,a_s]
     rfl
    refine a_y (i:=11) (N:=some 28) (v:=undef) (a':=?_) Z68_ rfl rfl (a_n HT_.out (by kernel_rfl)) (fun _ _ _ h => h) (Or.inr ⟨by rfl,rfl⟩) ?_ ?_
    rotate_left
    ·simp only [Act.put,sa_,sb_,sc_,a_r,a_s]
     rfl
    refine a_y (i:=12) (N:=some 29) (v:=undef) (a':=?_) Z74_ rfl rfl (a_n HT_.out (by kernel_rfl)) (fun _ _ _ h => h) (Or.inr ⟨by rfl,rfl⟩) ?_ ?_
    rotate_left
    ·simp only [Act.put,sa_,sb_,sc_,a_r,a_s]
     rfl
    refine a_y (i:=13) (N:=some 30) (v:=undef) (a':=?_) Z79_ rfl rfl (a_n HT_.out (by kernel_rfl)) (fun _ _ _ h => h) (Or.inr ⟨by rfl,rfl⟩) ?_ ?_
    rotate_left
    ·simp only [Act.put,sa_,sb_,sc_,a_r,a_s]
     rfl
    refine a_y (i:=14) (N:=some 31) (v:=undef) (a':=?_) Z83_ rfl rfl (a_n HT_.out (by kernel_rfl)) (fun _ _ _ h => h) (Or.inr ⟨by rfl,rfl⟩) ?_ ?_
    rotate_left
    ·simp only [Act.put,sa_,sb_,sc_,a_r,a_s]
     rfl
    refine a_y (i:=15) (N:=some 32) (v:=undef) (a':=?_) Z90_ rfl rfl (a_n HT_.out (by kernel_rfl)) (fun _ _ _ h => h) (Or.inr ⟨by rfl,rfl⟩) ?_ ?_
    rotate_left
    ·simp only [Act.put,sa_,sb_,sc_,a_r,a_s]
     rfl
    refine a_y (i:=16) (N:=some 33) (v:=undef) (a':=?_) Z94_ rfl rfl (a_n HT_.out (by kernel_rfl)) (fun _ _ _ h => h) (Or.inr ⟨by rfl,rfl⟩) ?_ ?_
    rotate_left
    ·simp only [Act.put,sa_,sb_,sc_,a_r,a_s]
     rfl
    refine a_y (i:=17) (N:=some 34) (v:=?_) (a':=?_) Z98_ rfl rfl (a_n HT_.out (by kernel_rfl)) (fun _ _ _ h => h) (Or.inl ⟨by rfl,?_⟩) ?_ ?_
    rotate_left
    ·intro w'
     go_simp
     with_reducible rfl
    rotate_left
    ·simp only [Act.put,sa_,sb_,sc_,a_r,a_s]
     rfl
    refine a_y (i:=18) (N:=some 35) (v:=?_) (a':=?_) l_z rfl rfl (a_n HT_.out (by kernel_rfl)) (fun _ _ _ h => h) (Or.inl ⟨by rfl,?_⟩) ?_ ?_
    rotate_left
    ·intro w'
     go_simp
     with_reducible rfl
    rotate_left
    ·simp only [Act.put,sa_,sb_,sc_,a_r,a_s]
     rfl
    refine a_y (i:=19) (N:=some 36) (v:=?_) (a':=?_) l_w rfl rfl (a_n HT_.out (by kernel_rfl)) (fun _ _ _ h => h) (Or.inl ⟨by rfl,?_⟩) ?_ ?_
    rotate_left
    ·intro w'
     go_simp
     with_reducible rfl
    rotate_left
    ·simp only [Act.put,sa_,sb_,sc_,a_r,a_s]
     rfl
    refine a_y (i:=20) (N:=some 37) (v:=?_) (a':=?_) l_E rfl rfl (a_n HT_.out (by kernel_rfl)) (fun _ _ _ h => h) (Or.inl ⟨by rfl,?_⟩) ?_ ?_
    rotate_left
    ·intro w'
     go_simp
     with_reducible rfl
    rotate_left
    ·simp only [Act.put,sa_,sb_,sc_,a_r,a_s]
     rfl
    refine a_y (i:=24) (N:=some 41) (v:=?_) (a':=?_) o_b rfl rfl (a_n HT_.out (by kernel_rfl)) (fun _ _ _ h => h) (Or.inl ⟨by rfl,?_⟩) ?_ ?_
    rotate_left
    ·intro w'
     go_simp
     with_reducible rfl
    rotate_left
    ·simp only [Act.put,sa_,sb_,sc_,a_r,a_s]
     rfl
    refine b_m (i:=21) (N:=some 38) (v:=?_) (a':=?_) n_6 rfl rfl (a_L HT_.out HW_.out (by kernel_rfl)) (fun _ _ _ h => h) (Or.inl ⟨by rfl,?_⟩) hHeld ?_ ?_
    rotate_left
    ·rintro w' ⟨s0,s1,s2,s3,s4,s5,s6,s7,s8,s9,s10,s11,s12,s13⟩
     go_simp
     with_reducible rfl
    rotate_left
    ·simp only [Act.put,sa_,sb_,sc_,a_r,a_s]
     rfl
    refine b_m (i:=22) (N:=some 39) (v:=?_) (a':=?_) n_4 rfl rfl (a_L HT_.out HW_.out (by kernel_rfl)) (fun _ _ _ h => h) (Or.inl ⟨by rfl,?_⟩) hHeld ?_ ?_
    rotate_left
    ·rintro w' ⟨s0,s1,s2,s3,s4,s5,s6,s7,s8,s9,s10,s11,s12,s13⟩
     go_simp
     with_reducible rfl
    rotate_left
    ·simp only [Act.put,sa_,sb_,sc_,a_r,a_s]
     rfl
    refine b_m (i:=25) (N:=some 42) (v:=?_) (a':=?_) n_Y rfl rfl (a_L HT_.out HW_.out (by kernel_rfl)) (fun _ _ _ h => h) (Or.inl ⟨by rfl,?_⟩) hHeld ?_ ?_
    rotate_left
    ·rintro w' ⟨s0,s1,s2,s3,s4,s5,s6,s7,s8,s9,s10,s11,s12,s13⟩
     go_simp
     with_reducible rfl
    rotate_left
    ·simp only [Act.put,sa_,sb_,sc_,a_r,a_s]
     rfl
    refine one_ (i:=23) (N:=some 40) l_I rfl rfl (c_e HT_.out (by kernel_rfl)) (by decide) (fun K hK => ?_)
    refine e_I Try.func38 (by kernel_rfl) rfl #[.slice (some ad112) l0_1.length c0_1,.func (.func 51) #[] #[.pointer (some ⟨b_e,0,none⟩)]] (by rfl) rfl rfl (by (try simp only [List.map_toArray,List.map_cons,List.map_nil]);first|done|rfl|(simp only [List.length_drop,List.length_take];rfl)) ?_
    with_reducible refine (b_k.calls _ _ l0_1 b_e ((a_c l0_1 x10_1).f0) ((a_c l0_1 x10_1).f1) ((a_c l0_1 x10_1).f2) ((a_c l0_1 x10_1).f3) ((a_c l0_1 x10_1).f4) ((a_c l0_1 x10_1).f5) ((a_c l0_1 x10_1).f6) ((a_c l0_1 x10_1).f7) ((a_c l0_1 x10_1).f8) ((a_c l0_1 x10_1).f9) ((a_c l0_1 x10_1).f10) t119 _ ?side1 ?side2 ?side3 A63.out).mono ?_
    (case side1 => repeat (first|exact (Kd.b_f e_o.out HB.out)|(with_reducible refine Kd.a_9 ?_ _)|(with_reducible refine Kd.a_8 ?_ _)|(with_reducible refine Kd.b_i ?_)))
    (case side2 => exact g_I.out)
    (case side3 => exact (bup_ a_F.out))
    rintro e w77 ⟨rfl,hb⟩
    refine ⟨_,rfl,?_⟩
    replace b_l:=a_e.mk (a_l (bup_ b_l.out) hb)
    replace a_F:=a_e.mk (a_l (bup_ a_F.out) hb)
    replace b_5:=a_e.mk (a_l (bup_ b_5.out) hb)
    replace HB:=a_e.mk (a_t (by repeat (first|(with_reducible first|exact HB.out|apply a_g|apply a_f|apply a_h|refine a_d ?_ e_p.out|refine a_d ?_ e_O.out|refine a_d ?_ f_g.out)|exact HB.out)) hb)
    (try clear hb)
    (try clear hb2)
    (try clear hk)
    (try clear hi)
    refine hK.out _ _ ⟨(a_a a_F.out 0).trans rfl,(a_a a_F.out 1).trans rfl,(a_a a_F.out 2).trans rfl,(a_a a_F.out 3).trans rfl,(a_a a_F.out 4).trans rfl,(a_a a_F.out 5).trans rfl,(a_a a_F.out 6).trans rfl,(a_a a_F.out 7).trans rfl,(a_a a_F.out 8).trans rfl,(a_a a_F.out 9).trans rfl,(a_a a_F.out 10).trans rfl,(a_a b_l.out 0).trans rfl,(a_a b_l.out 1).trans rfl,(a_a b_5.out 0).trans rfl⟩ (fun hHeld => ?_)
    clear hK K
    refine d_U (a':=?_) ?_ ?_
    rotate_left
    ·show Act.put _ (some 40) _ = _
     simp only [Act.put,sa_,sb_,sc_,a_r,a_s]
     rfl
    refine a_y (i:=26) (N:=some 43) (v:=?_) (a':=?_) l_p rfl rfl (a_n HT_.out (by kernel_rfl)) (fun _ _ _ h => h) (Or.inl ⟨by rfl,?_⟩) ?_ ?_
    rotate_left
    ·intro w'
     go_simp
     with_reducible rfl
    rotate_left
    ·simp only [Act.put,sa_,sb_,sc_,a_r,a_s]
     rfl
    refine a_y (i:=27) (N:=some 44) (v:=?_) (a':=?_) l_H rfl rfl (a_n HT_.out (by kernel_rfl)) (fun _ _ _ h => h) (Or.inl ⟨by rfl,?_⟩) ?_ ?_
    rotate_left
    ·intro w'
     go_simp
     with_reducible rfl
    rotate_left
    ·simp only [Act.put,sa_,sb_,sc_,a_r,a_s]
     rfl
    refine a_y (i:=28) (N:=some 45) (v:=?_) (a':=?_) l_F rfl rfl (a_n HT_.out (by kernel_rfl)) (fun _ _ _ h => h) (Or.inl ⟨by rfl,?_⟩) ?_ ?_
    rotate_left
    ·intro w'
     go_simp
     with_reducible rfl
    rotate_left
    ·simp only [Act.put,sa_,sb_,sc_,a_r,a_s]
     rfl
    refine a_y (i:=29) (N:=some 46) (v:=?_) (a':=?_) l_o rfl rfl (a_n HT_.out (by kernel_rfl)) (fun _ _ _ h => h) (Or.inl ⟨by rfl,?_⟩) ?_ ?_
    rotate_left
    ·intro w'
     go_simp
     with_reducible rfl
    rotate_left
    ·simp only [Act.put,sa_,sb_,sc_,a_r,a_s]
     rfl
    refine a_y (i:=31) (N:=some 48) (v:=?_) (a':=?_) q_4 rfl rfl (a_n HT_.out (by kernel_rfl)) (fun _ _ _ h => h) (Or.inl ⟨by rfl,?_⟩) ?_ ?_
    rotate_left
    ·intro w'
     go_simp
     with_reducible rfl
    rotate_left
    ·simp only [Act.put,sa_,sb_,sc_,a_r,a_s]
     rfl
    refine a_y (i:=33) (N:=some 50) (v:=?_) (a':=?_) q_O rfl rfl (a_n HT_.out (by kernel_rfl)) (fun _ _ _ h => h) (Or.inl ⟨by rfl,?_⟩) ?_ ?_
    rotate_left
    ·intro w'
     go_simp
     with_reducible rfl
    rotate_left
    ·simp only [Act.put,sa_,sb_,sc_,a_r,a_s]
     rfl
    refine b_m (i:=30) (N:=some 47) (v:=?_) (a':=?_) r_h rfl rfl (a_L HT_.out HW_.out (by kernel_rfl)) (fun _ _ _ h => h) (Or.inl ⟨by rfl,?_⟩) hHeld ?_ ?_
    rotate_left
    ·rintro w' ⟨s0,s1,s2,s3,s4,s5,s6,s7,s8,s9,s10,s11,s12,s13⟩
     go_simp
     with_reducible rfl
    rotate_left
    ·simp only [Act.put,sa_,sb_,sc_,a_r,a_s]
     rfl
    refine b_m (i:=34) (N:=some 51) (v:=?_) (a':=?_) r_e rfl rfl (a_L HT_.out HW_.out (by kernel_rfl)) (fun _ _ _ h => h) (Or.inl ⟨by rfl,?_⟩) hHeld ?_ ?_
    rotate_left
    ·rintro w' ⟨s0,s1,s2,s3,s4,s5,s6,s7,s8,s9,s10,s11,s12,s13⟩
     go_simp
     with_reducible rfl
    rotate_left
    ·simp only [Act.put,sa_,sb_,sc_,a_r,a_s]
     rfl
    refine one_ (i:=32) (N:=some 49) l_q rfl rfl (c_e HT_.out (by kernel_rfl)) (by decide) (fun K hK => ?_)
    refine e_I Try.func38 (by kernel_rfl) rfl #[.slice (some ad112) l0_1.length c0_1,.func (.func 52) #[] #[.pointer (some ⟨f_f,0,none⟩),.pointer (some ⟨b_e,0,none⟩)]] (by rfl) rfl rfl (by (try simp only [List.map_toArray,List.map_cons,List.map_nil]);first|done|rfl|(simp only [List.length_drop,List.length_take];rfl)) ?_
    with_reducible refine (b_h.calls _ _ l0_1 f_f b_e b_e ((a_c l0_1 x10_1).f0) ((a_c l0_1 x10_1).f1) ((a_c l0_1 x10_1).f2) ((a_c l0_1 x10_1).f3) ((a_c l0_1 x10_1).f4) ((a_c l0_1 x10_1).f5) ((a_c l0_1 x10_1).f6) ((a_c l0_1 x10_1).f7) ((a_c l0_1 x10_1).f8) ((a_c l0_1 x10_1).f9) ((a_c l0_1 x10_1).f10) ((a_c l0_1 x10_1).f0) ((a_c l0_1 x10_1).f1) ((a_c l0_1 x10_1).f2) ((a_c l0_1 x10_1).f3) ((a_c l0_1 x10_1).f4) ((a_c l0_1 x10_1).f5) ((a_c l0_1 x10_1).f6) ((a_c l0_1 x10_1).f7) ((a_c l0_1 x10_1).f8) ((a_c l0_1 x10_1).f9) ((a_c l0_1 x10_1).f10) t120 _ ?side1 ?side2 ?side3 ?side4 ?side5 A65.out).mono ?_
    (case side1 => repeat (first|exact (Kd.b_f e_o.out HB.out)|(with_reducible refine Kd.a_9 ?_ _)|(with_reducible refine Kd.a_8 ?_ _)|(with_reducible refine Kd.b_i ?_)))
    (case side2 => exact g_I.out)
    (case side3 => exact (bup_ b_5.out))
    (case side4 => exact (bup_ a_F.out))
    (case side5 => exact (bup_ a_F.out))
    rintro e w78 ⟨rfl,hb⟩
    refine ⟨_,rfl,?_⟩
    replace b_l:=a_e.mk (a_l (bup_ b_l.out) hb)
    replace a_F:=a_e.mk (a_l (bup_ a_F.out) hb)
    replace b_5:=a_e.mk (a_l (bup_ b_5.out) hb)
    replace HB:=a_e.mk (a_t (by repeat (first|(with_reducible first|exact HB.out|apply a_g|apply a_f|apply a_h|refine a_d ?_ e_p.out|refine a_d ?_ e_O.out|refine a_d ?_ f_g.out)|exact HB.out)) hb)
    (try clear hb)
    (try clear hb2)
    (try clear hk)
    (try clear hi)
    refine hK.out _ _ ⟨(a_a a_F.out 0).trans rfl,(a_a a_F.out 1).trans rfl,(a_a a_F.out 2).trans rfl,(a_a a_F.out 3).trans rfl,(a_a a_F.out 4).trans rfl,(a_a a_F.out 5).trans rfl,(a_a a_F.out 6).trans rfl,(a_a a_F.out 7).trans rfl,(a_a a_F.out 8).trans rfl,(a_a a_F.out 9).trans rfl,(a_a a_F.out 10).trans rfl,(a_a b_l.out 0).trans rfl,(a_a b_l.out 1).trans rfl,(a_a b_5.out 0).trans rfl⟩ (fun hHeld => ?_)
    clear hK K
    refine d_U (a':=?_) ?_ ?_
    rotate_left
    ·show Act.put _ (some 49) _ = _
     simp only [Act.put,sa_,sb_,sc_,a_r,a_s]
     rfl
    refine a_y (i:=35) (N:=some 52) (v:=?_) (a':=?_) l_t rfl rfl (a_n HT_.out (by kernel_rfl)) (fun _ _ _ h => h) (Or.inl ⟨by rfl,?_⟩) ?_ ?_
    rotate_left
    ·intro w'
     go_simp
     with_reducible rfl
    rotate_left
    ·simp only [Act.put,sa_,sb_,sc_,a_r,a_s]
     rfl
    refine a_y (i:=36) (N:=some 53) (v:=?_) (a':=?_) l_B rfl rfl (a_n HT_.out (by kernel_rfl)) (fun _ _ _ h => h) (Or.inl ⟨by rfl,?_⟩) ?_ ?_
    rotate_left
    ·intro w'
     go_simp
     with_reducible rfl
    rotate_left
    ·simp only [Act.put,sa_,sb_,sc_,a_r,a_s]
     rfl
    refine e_T (c_u HT_.out (by kernel_rfl)) ?_
    try go_wp2
    go_roundg k1
    case measure => have:=HK1.out;omega
    case rel => exact ⟨(wrap64 (x10_1 + 1)),(by first|rfl|(simp;done)|(simp [*];done)),H',⟨by have:=HK1.out;omega⟩,⟨by (with_reducible repeat (first|refine a_j ?_ _|refine a_k ?_|refine a_i ?_ _));exact b_l.out⟩,⟨by repeat (first|(with_reducible first|exact HB.out|apply a_g|apply a_f|apply a_h|refine a_d ?_ e_p.out|refine a_d ?_ e_O.out|refine a_d ?_ f_g.out)|exact HB.out)⟩⟩
   rw [if_pos c9] at H
   have c9b0 : decide (0 < x10_1) = true:=decide_eq_true c9
   clear c9
   obtain ⟨ji10,hji10⟩ : ∃ j_ : Int,(wrap64 (x10_1 - 1)) = j_:=⟨_,rfl⟩
   replace H : (if 0 ≤ (ji10) then (if (ji10) < (l0_1.length : Int) then (if ((a_c l0_1 (ji10)).f0) ≥ ((a_c l0_1 x10_1).f0) then (some false) else ((b_k.f l0_1 ((a_c l0_1 x10_1).f0) ((a_c l0_1 x10_1).f1) ((a_c l0_1 x10_1).f2) ((a_c l0_1 x10_1).f3) ((a_c l0_1 x10_1).f4) ((a_c l0_1 x10_1).f5) ((a_c l0_1 x10_1).f6) ((a_c l0_1 x10_1).f7) ((a_c l0_1 x10_1).f8) ((a_c l0_1 x10_1).f9) ((a_c l0_1 x10_1).f10)).bind fun t117 => (if t117 = ((a_c l0_1 x10_1).f9) then ((b_h.f l0_1 ((a_c l0_1 x10_1).f0) ((a_c l0_1 x10_1).f1) ((a_c l0_1 x10_1).f2) ((a_c l0_1 x10_1).f3) ((a_c l0_1 x10_1).f4) ((a_c l0_1 x10_1).f5) ((a_c l0_1 x10_1).f6) ((a_c l0_1 x10_1).f7) ((a_c l0_1 x10_1).f8) ((a_c l0_1 x10_1).f9) ((a_c l0_1 x10_1).f10) ((a_c l0_1 x10_1).f0) ((a_c l0_1 x10_1).f1) ((a_c l0_1 x10_1).f2) ((a_c l0_1 x10_1).f3) ((a_c l0_1 x10_1).f4) ((a_c l0_1 x10_1).f5) ((a_c l0_1 x10_1).f6) ((a_c l0_1 x10_1).f7) ((a_c l0_1 x10_1).f8) ((a_c l0_1 x10_1).f9) ((a_c l0_1 x10_1).f10)).bind fun t118 => (if t118 = ((a_c l0_1 x10_1).f9) then (a_G.l0 k1 l0_1 (l0_1.length : Int) (wrap64 (x10_1 + 1)) a0_0 l0_1) else (some false))) else (some false)))) else (none)) else (none)) = some r:=by first|(rw [hji10] at H;exact H)|(simp only [hji10] at H ⊢; exact H)
   (try rw [hji10] at A7)
   have hji10w : (IntKind.i64.wrap (x10_1 - 1)) = ji10:=(a_r _).trans hji10
   by_cases c11 : 0 ≤ (ji10)
   rotate_left
   ·rw [if_neg c11] at H
    exact absurd H (by simp)
   rw [if_pos c11] at H
   have c11b0 : decide (0 ≤ (ji10)) = true:=decide_eq_true c11
   clear c11
   by_cases c12 : (ji10) < (l0_1.length : Int)
   rotate_left
   ·rw [if_neg c12] at H
    exact absurd H (by simp)
   rw [if_pos c12] at H
   have c12b0 : decide ((ji10) < (l0_1.length : Int)) = true:=decide_eq_true c12
   clear c12
   by_cases c13 : ((a_c l0_1 (ji10)).f0) ≥ ((a_c l0_1 x10_1).f0)
   ·rw [if_pos c13] at H
    have c13b0 : decide (((a_c l0_1 x10_1).f0) ≤ ((a_c l0_1 (ji10)).f0)) = true:=decide_eq_true c13
    clear c13
    obtain rfl:=Option.some.inj H
    have p116 : 0 ≤ ((ji10) : Int):=of_decide_eq_true (by first|(with_reducible assumption)|assumption)
    have q116 : (ji10) < (l0_1.length : Int):=of_decide_eq_true (by first|(with_reducible assumption)|assumption)
    obtain ⟨ad116,e116,d_h,d_i,d_j,d_k,d_l,d_m,d_n,d_o,d_p,d_q,c_w⟩:=e_h e_o.out (ji10) p116 q116
    have b_7:=c_w
    have c_x:=d_q
    have c_y:=d_p
    have c_z:=d_o
    have c_A:=d_n
    have c_B:=d_m
    have c_C:=d_l
    have c_D:=d_k
    have c_E:=d_j
    have c_F:=d_i
    have c_G:=d_h
    obtain rfl : ad112 = ad116:=(by injection e116)
    replace d_h:=(HB.out.cell (World.block_lt_of_cell? w _ d_h)).trans d_h
    replace d_i:=(HB.out.cell (World.block_lt_of_cell? w _ d_i)).trans d_i
    replace d_j:=(HB.out.cell (World.block_lt_of_cell? w _ d_j)).trans d_j
    replace d_k:=(HB.out.cell (World.block_lt_of_cell? w _ d_k)).trans d_k
    replace d_l:=(HB.out.cell (World.block_lt_of_cell? w _ d_l)).trans d_l
    replace d_m:=(HB.out.cell (World.block_lt_of_cell? w _ d_m)).trans d_m
    replace d_n:=(HB.out.cell (World.block_lt_of_cell? w _ d_n)).trans d_n
    replace d_o:=(HB.out.cell (World.block_lt_of_cell? w _ d_o)).trans d_o
    replace d_p:=(HB.out.cell (World.block_lt_of_cell? w _ d_p)).trans d_p
    replace d_q:=(HB.out.cell (World.block_lt_of_cell? w _ d_q)).trans d_q
    replace c_w:=(HB.out.cell (World.block_lt_of_cell? w _ c_w)).trans c_w
    replace p116:=eq_true p116
    replace q116:=eq_true q116
    refine d_H (n:=37) (S:=fun w' => w'.cell? ⟨b_e,0,none⟩ = some (.int .i64 ((a_c l0_1 x10_1).f0)) ∧ w'.cell? ⟨b_e,1,none⟩ = some (.int .i64 ((a_c l0_1 x10_1).f1)) ∧ w'.cell? ⟨b_e,2,none⟩ = some (.int .i64 ((a_c l0_1 x10_1).f2)) ∧ w'.cell? ⟨b_e,3,none⟩ = some (.int .i64 ((a_c l0_1 x10_1).f3)) ∧ w'.cell? ⟨b_e,4,none⟩ = some (.int .i64 ((a_c l0_1 x10_1).f4)) ∧ w'.cell? ⟨b_e,5,none⟩ = some (.bool ((a_c l0_1 x10_1).f5)) ∧ w'.cell? ⟨b_e,6,none⟩ = some (.bool ((a_c l0_1 x10_1).f6)) ∧ w'.cell? ⟨b_e,7,none⟩ = some (.int .u32 ((a_c l0_1 x10_1).f7)) ∧ w'.cell? ⟨b_e,8,none⟩ = some (.int .i64 ((a_c l0_1 x10_1).f8)) ∧ w'.cell? ⟨b_e,9,none⟩ = some (.int .i64 ((a_c l0_1 x10_1).f9)) ∧ w'.cell? ⟨b_e,10,none⟩ = some (.int .i64 ((a_c l0_1 x10_1).f10)) ∧ w'.cell? ⟨e_K,0,none⟩ = some (.int .i64 a0_0) ∧ w'.cell? ⟨e_K,1,none⟩ = some (.slice (some ad112) l0_1.length c0_1) ∧ w'.cell? (ad112.add (((ji10)).toNat * 11)) = some (.int .i64 ((a_c l0_1 (ji10)).f0)) ∧ w'.cell? ⟨(ad112.add (((ji10)).toNat * 11)).block,(ad112.add (((ji10)).toNat * 11)).off + 1,none⟩ = some (.int .i64 ((a_c l0_1 (ji10)).f1)) ∧ w'.cell? ⟨(ad112.add (((ji10)).toNat * 11)).block,(ad112.add (((ji10)).toNat * 11)).off + 2,none⟩ = some (.int .i64 ((a_c l0_1 (ji10)).f2)) ∧ w'.cell? ⟨(ad112.add (((ji10)).toNat * 11)).block,(ad112.add (((ji10)).toNat * 11)).off + 3,none⟩ = some (.int .i64 ((a_c l0_1 (ji10)).f3)) ∧ w'.cell? ⟨(ad112.add (((ji10)).toNat * 11)).block,(ad112.add (((ji10)).toNat * 11)).off + 4,none⟩ = some (.int .i64 ((a_c l0_1 (ji10)).f4)) ∧ w'.cell? ⟨(ad112.add (((ji10)).toNat * 11)).block,(ad112.add (((ji10)).toNat * 11)).off + 5,none⟩ = some (.bool ((a_c l0_1 (ji10)).f5)) ∧ w'.cell? ⟨(ad112.add (((ji10)).toNat * 11)).block,(ad112.add (((ji10)).toNat * 11)).off + 6,none⟩ = some (.bool ((a_c l0_1 (ji10)).f6)) ∧ w'.cell? ⟨(ad112.add (((ji10)).toNat * 11)).block,(ad112.add (((ji10)).toNat * 11)).off + 7,none⟩ = some (.int .u32 ((a_c l0_1 (ji10)).f7)) ∧ w'.cell? ⟨(ad112.add (((ji10)).toNat * 11)).block,(ad112.add (((ji10)).toNat * 11)).off + 8,none⟩ = some (.int .i64 ((a_c l0_1 (ji10)).f8)) ∧ w'.cell? ⟨(ad112.add (((ji10)).toNat * 11)).block,(ad112.add (((ji10)).toNat * 11)).off + 9,none⟩ = some (.int .i64 ((a_c l0_1 (ji10)).f9)) ∧ w'.cell? ⟨(ad112.add (((ji10)).toNat * 11)).block,(ad112.add (((ji10)).toNat * 11)).off + 10,none⟩ = some (.int .i64 ((a_c l0_1 (ji10)).f10))) (ds:=[]) Z1_ (by kernel_rfl) rfl rfl ⟨(a_a a_F.out 0).trans rfl,(a_a a_F.out 1).trans rfl,(a_a a_F.out 2).trans rfl,(a_a a_F.out 3).trans rfl,(a_a a_F.out 4).trans rfl,(a_a a_F.out 5).trans rfl,(a_a a_F.out 6).trans rfl,(a_a a_F.out 7).trans rfl,(a_a a_F.out 8).trans rfl,(a_a a_F.out 9).trans rfl,(a_a a_F.out 10).trans rfl,(a_a b_l.out 0).trans rfl,(a_a b_l.out 1).trans rfl,((HB.out.cell (World.block_lt_of_cell? w _ c_G)).trans c_G),((HB.out.cell (World.block_lt_of_cell? w _ c_F)).trans c_F),((HB.out.cell (World.block_lt_of_cell? w _ c_E)).trans c_E),((HB.out.cell (World.block_lt_of_cell? w _ c_D)).trans c_D),((HB.out.cell (World.block_lt_of_cell? w _ c_C)).trans c_C),((HB.out.cell (World.block_lt_of_cell? w _ c_B)).trans c_B),((HB.out.cell (World.block_lt_of_cell? w _ c_A)).trans c_A),((HB.out.cell (World.block_lt_of_cell? w _ c_z)).trans c_z),((HB.out.cell (World.block_lt_of_cell? w _ c_y)).trans c_y),((HB.out.cell (World.block_lt_of_cell? w _ c_x)).trans c_x),((HB.out.cell (World.block_lt_of_cell? w _ b_7)).trans b_7)⟩ (fun hHeld => ?_);refine b_Q a_G.tab6 a_G.f_W (fun HT_ HW_ => ?_)
    generalize w21.drew = w22 at b_l a_F b_5 HB d_h d_i c_w d_j d_k d_l d_m d_n d_o d_p d_q hHeld ⊢
    refine b_m (i:=0) (N:=some 17) (v:=?_) (a':=?_) Z7_ rfl rfl (a_L HT_.out HW_.out (by kernel_rfl)) (fun _ _ _ h => h) (Or.inl ⟨by rfl,?_⟩) hHeld ?_ ?_
    rotate_left
    ·rintro w' ⟨s0,s1,s2,s3,s4,s5,s6,s7,s8,s9,s10,s11,s12,s13,s14,s15,s16,s17,s18,s19,s20,s21,s22,s23⟩
     go_simp
     with_reducible rfl
    rotate_left
    ·simp only [Act.put,sa_,sb_,sc_,a_r,a_s]
     rfl
    refine one_ (i:=1) (N:=some 18) Z14_ rfl rfl (c_e HT_.out (by kernel_rfl)) (by decide) (fun K hK => ?_)
    refine e_I Try.func53 (by kernel_rfl) rfl #[.agg #[.int .i64 ((a_c l0_1 x10_1).f0),.int .i64 ((a_c l0_1 x10_1).f1),.int .i64 ((a_c l0_1 x10_1).f2),.int .i64 ((a_c l0_1 x10_1).f3),.int .i64 ((a_c l0_1 x10_1).f4),.bool ((a_c l0_1 x10_1).f5),.bool ((a_c l0_1 x10_1).f6),.int .u32 ((a_c l0_1 x10_1).f7),.int .i64 ((a_c l0_1 x10_1).f8),.int .i64 ((a_c l0_1 x10_1).f9),.int .i64 ((a_c l0_1 x10_1).f10)]] (by rfl) rfl rfl (by (try simp only [List.map_toArray,List.map_cons,List.map_nil]);first|done|rfl|(simp only [List.length_drop,List.length_take];rfl)) ?_
    with_reducible refine (a_1.calls k1 ((a_c l0_1 x10_1).f0) ((a_c l0_1 x10_1).f1) ((a_c l0_1 x10_1).f2) ((a_c l0_1 x10_1).f3) ((a_c l0_1 x10_1).f4) ((a_c l0_1 x10_1).f5) ((a_c l0_1 x10_1).f6) ((a_c l0_1 x10_1).f7) ((a_c l0_1 x10_1).f8) ((a_c l0_1 x10_1).f9) ((a_c l0_1 x10_1).f10) true _ A7.out).mono ?_
    rintro e w23 ⟨rfl,hb⟩
    refine ⟨_,rfl,?_⟩
    replace b_l:=a_e.mk (a_l (bup_ b_l.out) hb)
    replace a_F:=a_e.mk (a_l (bup_ a_F.out) hb)
    replace b_5:=a_e.mk (a_l (bup_ b_5.out) hb)
    replace HB:=a_e.mk (a_t (by repeat (first|(with_reducible first|exact HB.out|apply a_g|apply a_f|apply a_h|refine a_d ?_ e_p.out|refine a_d ?_ e_O.out|refine a_d ?_ f_g.out)|exact HB.out)) hb)
    (try clear hb)
    (try clear hb2)
    (try clear hk)
    (try clear hi)
    refine hK.out _ _ ⟨(a_a a_F.out 0).trans rfl,(a_a a_F.out 1).trans rfl,(a_a a_F.out 2).trans rfl,(a_a a_F.out 3).trans rfl,(a_a a_F.out 4).trans rfl,(a_a a_F.out 5).trans rfl,(a_a a_F.out 6).trans rfl,(a_a a_F.out 7).trans rfl,(a_a a_F.out 8).trans rfl,(a_a a_F.out 9).trans rfl,(a_a a_F.out 10).trans rfl,(a_a b_l.out 0).trans rfl,(a_a b_l.out 1).trans rfl,((HB.out.cell (World.block_lt_of_cell? w _ c_G)).trans c_G),((HB.out.cell (World.block_lt_of_cell? w _ c_F)).trans c_F),((HB.out.cell (World.block_lt_of_cell? w _ c_E)).trans c_E),((HB.out.cell (World.block_lt_of_cell? w _ c_D)).trans c_D),((HB.out.cell (World.block_lt_of_cell? w _ c_C)).trans c_C),((HB.out.cell (World.block_lt_of_cell? w _ c_B)).trans c_B),((HB.out.cell (World.block_lt_of_cell? w _ c_A)).trans c_A),((HB.out.cell (World.block_lt_of_cell? w _ c_z)).trans c_z),((HB.out.cell (World.block_lt_of_cell? w _ c_y)).trans c_y),((HB.out.cell (World.block_lt_of_cell? w _ c_x)).trans c_x),((HB.out.cell (World.block_lt_of_cell? w _ b_7)).trans b_7)⟩ (fun hHeld => ?_)
    clear hK K
    refine d_U (a':=?_) ?_ ?_
    rotate_left
    ·show Act.put _ (some 18) _ = _
     simp only [Act.put,sa_,sb_,sc_,a_r,a_s]
     rfl
    refine a_y (i:=2) (N:=some 19) (v:=?_) (a':=?_) Z20_ rfl rfl (a_n HT_.out (by kernel_rfl)) (fun _ _ _ h => h) (Or.inl ⟨by rfl,?_⟩) ?_ ?_
    rotate_left
    ·intro w'
     go_simp
     with_reducible rfl
    rotate_left
    ·simp only [Act.put,sa_,sb_,sc_,a_r,a_s]
     rfl
    refine a_y (i:=3) (N:=some 20) (v:=?_) (a':=?_) Z25_ rfl rfl (a_n HT_.out (by kernel_rfl)) (fun _ _ _ h => h) (Or.inl ⟨by rfl,?_⟩) ?_ ?_
    rotate_left
    ·intro w'
     go_simp
     with_reducible rfl
    rotate_left
    ·simp only [Act.put,sa_,sb_,sc_,a_r,a_s]
     rfl
    refine a_y (i:=4) (N:=some 21) (v:=?_) (a':=?_) Z29_ rfl rfl (a_n HT_.out (by kernel_rfl)) (fun _ _ _ h => h) (Or.inl ⟨by rfl,?_⟩) ?_ ?_
    rotate_left
    ·intro w'
     go_simp
     with_reducible rfl
    rotate_left
    ·simp only [Act.put,sa_,sb_,sc_,a_r,a_s]
     rfl
    refine a_y (i:=5) (N:=some 22) (v:=?_) (a':=?_) Z34_ rfl rfl (a_n HT_.out (by kernel_rfl)) (fun _ _ _ h => h) (Or.inl ⟨by rfl,?_⟩) ?_ ?_
    rotate_left
    ·intro w'
     go_simp
     with_reducible rfl
    rotate_left
    ·simp only [Act.put,sa_,sb_,sc_,a_r,a_s]
     rfl
    refine a_y (i:=6) (N:=some 23) (v:=?_) (a':=?_) Z38_ rfl rfl (a_n HT_.out (by kernel_rfl)) (fun _ _ _ h => h) (Or.inl ⟨by rfl,?_⟩) ?_ ?_
    rotate_left
    ·intro w'
     go_simp
     with_reducible rfl
    rotate_left
    ·simp only [Act.put,sa_,sb_,sc_,a_r,a_s]
     rfl
    refine a_y (i:=7) (N:=some 24) (v:=?_) (a':=?_) Z44_ rfl rfl (a_n HT_.out (by kernel_rfl)) (fun _ _ _ h => h) (Or.inl ⟨by rfl,?_⟩) ?_ ?_
    rotate_left
    ·intro w'
     go_simp
     with_reducible rfl
    rotate_left
    ·simp only [Act.put,sa_,sb_,sc_,a_r,a_s]
     rfl
    refine a_y (i:=9) (N:=some 26) (v:=?_) (a':=?_) Z48_ rfl rfl (a_n HT_.out (by kernel_rfl)) (fun _ _ _ h => h) (Or.inl ⟨by rfl,?_⟩) ?_ ?_
    rotate_left
    ·intro w'
     go_simp
     with_reducible rfl
    rotate_left
    ·simp only [Act.put,sa_,sb_,sc_,a_r,a_s]
     rfl
    refine a_y (i:=10) (N:=some 27) (v:=?_) (a':=?_) Z49_ rfl rfl (a_n HT_.out (by kernel_rfl)) (fun _ _ _ h => h) (Or.inl ⟨by rfl,?_⟩) ?_ ?_
    rotate_left
    ·intro w'
     go_simp
     with_reducible rfl
    rotate_left
    ·simp only [Act.put,sa_,sb_,sc_,a_r,a_s]
     rfl
    refine a_y (i:=14) (N:=some 31) (v:=?_) (a':=?_) Z50_ rfl rfl (a_n HT_.out (by kernel_rfl)) (fun _ _ _ h => h) (Or.inl ⟨by rfl,?_⟩) ?_ ?_
    rotate_left
    ·intro w'
     go_simp
     with_reducible rfl
    rotate_left
    ·simp only [Act.put,sa_,sb_,sc_,a_r,a_s]
     rfl
    refine b_m (i:=8) (N:=some 25) (v:=?_) (a':=?_) Z66_ rfl rfl (a_L HT_.out HW_.out (by kernel_rfl)) (fun _ _ _ h => h) (Or.inl ⟨by rfl,?_⟩) hHeld ?_ ?_
    rotate_left
    ·rintro w' ⟨s0,s1,s2,s3,s4,s5,s6,s7,s8,s9,s10,s11,s12,s13,s14,s15,s16,s17,s18,s19,s20,s21,s22,s23⟩
     go_simp
     with_reducible rfl
    rotate_left
    ·simp only [Act.put,sa_,sb_,sc_,a_r,a_s]
     rfl
    refine a_y (i:=11) (N:=some 28) (v:=?_) (a':=?_) Z72_ rfl rfl (a_n HT_.out (by kernel_rfl)) (fun _ _ _ h => h) (Or.inl ⟨by rfl,?_⟩) ?_ ?_
    rotate_left
    ·intro w'
     go_simp
     with_reducible rfl
    rotate_left
    ·simp only [Act.put,sa_,sb_,sc_,a_r,a_s]
     rfl
    refine a_y (i:=12) (N:=some 29) (v:=?_) (a':=?_) Z78_ rfl rfl (a_n HT_.out (by kernel_rfl)) (fun _ _ _ h => h) (Or.inl ⟨by rfl,?_⟩) ?_ ?_
    rotate_left
    ·intro w'
     go_simp
     with_reducible rfl
    rotate_left
    ·simp only [Act.put,sa_,sb_,sc_,a_r,a_s]
     rfl
    refine b_m (i:=13) (N:=some 30) (v:=?_) (a':=?_) Z83_ rfl rfl (a_L HT_.out HW_.out (by kernel_rfl)) (fun _ _ _ h => h) (Or.inl ⟨by rfl,?_⟩) hHeld ?_ ?_
    rotate_left
    ·rintro w' ⟨s0,s1,s2,s3,s4,s5,s6,s7,s8,s9,s10,s11,s12,s13,s14,s15,s16,s17,s18,s19,s20,s21,s22,s23⟩
     go_simp
     with_reducible rfl
    rotate_left
    ·simp only [Act.put,sa_,sb_,sc_,a_r,a_s]
     rfl
    refine b_m (i:=15) (N:=some 32) (v:=?_) (a':=?_) Z90_ rfl rfl (a_L HT_.out HW_.out (by kernel_rfl)) (fun _ _ _ h => h) (Or.inl ⟨by rfl,?_⟩) hHeld ?_ ?_
    rotate_left
    ·rintro w' ⟨s0,s1,s2,s3,s4,s5,s6,s7,s8,s9,s10,s11,s12,s13,s14,s15,s16,s17,s18,s19,s20,s21,s22,s23⟩
     go_simp
     with_reducible rfl
    rotate_left
    ·simp only [Act.put,sa_,sb_,sc_,a_r,a_s]
     rfl
    refine a_y (i:=16) (N:=some 33) (v:=?_) (a':=?_) Z94_ rfl rfl (a_n HT_.out (by kernel_rfl)) (fun _ _ _ h => h) (Or.inl ⟨by rfl,?_⟩) ?_ ?_
    rotate_left
    ·intro w'
     go_simp
     with_reducible rfl
    rotate_left
    ·simp only [Act.put,sa_,sb_,sc_,a_r,a_s]
     rfl
    refine a_y (i:=17) (N:=some 34) (v:=?_) (a':=?_) Z98_ rfl rfl (a_n HT_.out (by kernel_rfl)) (fun _ _ _ h => h) (Or.inl ⟨by rfl,?_⟩) ?_ ?_
    rotate_left
    ·intro w'
     go_simp
     with_reducible rfl
    rotate_left
    ·simp only [Act.put,sa_,sb_,sc_,a_r,a_s]
     rfl
    refine a_y (i:=18) (N:=some 35) (v:=?_) (a':=?_) l_z rfl rfl (a_n HT_.out (by kernel_rfl)) (fun _ _ _ h => h) (Or.inl ⟨by rfl,?_⟩) ?_ ?_
    rotate_left
    ·intro w'
     go_simp
     with_reducible rfl
    rotate_left
    ·simp only [Act.put,sa_,sb_,sc_,a_r,a_s]
     rfl
    refine a_y (i:=19) (N:=some 36) (v:=?_) (a':=?_) l_w rfl rfl (a_n HT_.out (by kernel_rfl)) (fun _ _ _ h => h) (Or.inl ⟨by rfl,?_⟩) ?_ ?_
    rotate_left
    ·intro w'
     go_simp
     with_reducible rfl
    rotate_left
    ·simp only [Act.put,sa_,sb_,sc_,a_r,a_s]
     rfl
    refine a_y (i:=20) (N:=some 37) (v:=undef) (a':=?_) l_E rfl rfl (a_n HT_.out (by kernel_rfl)) (fun _ _ _ h => h) (Or.inr ⟨by rfl,rfl⟩) ?_ ?_
    rotate_left
    ·simp only [Act.put,sa_,sb_,sc_,a_r,a_s]
     rfl
    refine a_y (i:=21) (N:=some 38) (v:=undef) (a':=?_) v_D rfl rfl (a_n HT_.out (by kernel_rfl)) (fun _ _ _ h => h) (Or.inr ⟨by rfl,rfl⟩) ?_ ?_
    rotate_left
    ·simp only [Act.put,sa_,sb_,sc_,a_r,a_s]
     rfl
    refine a_y (i:=22) (N:=some 39) (v:=undef) (a':=?_) v_w rfl rfl (a_n HT_.out (by kernel_rfl)) (fun _ _ _ h => h) (Or.inr ⟨by rfl,rfl⟩) ?_ ?_
    rotate_left
    ·simp only [Act.put,sa_,sb_,sc_,a_r,a_s]
     rfl
    refine a_y (i:=23) (N:=some 40) (v:=undef) (a':=?_) w_c rfl rfl (a_n HT_.out (by kernel_rfl)) (fun _ _ _ h => h) (Or.inr ⟨by rfl,rfl⟩) ?_ ?_
    rotate_left
    ·simp only [Act.put,sa_,sb_,sc_,a_r,a_s]
     rfl
    refine a_y (i:=24) (N:=some 41) (v:=undef) (a':=?_) v_U rfl rfl (a_n HT_.out (by kernel_rfl)) (fun _ _ _ h => h) (Or.inr ⟨by rfl,rfl⟩) ?_ ?_
    rotate_left
    ·simp only [Act.put,sa_,sb_,sc_,a_r,a_s]
     rfl
    refine a_y (i:=25) (N:=some 42) (v:=undef) (a':=?_) l_I rfl rfl (a_n HT_.out (by kernel_rfl)) (fun _ _ _ h => h) (Or.inr ⟨by rfl,rfl⟩) ?_ ?_
    rotate_left
    ·simp only [Act.put,sa_,sb_,sc_,a_r,a_s]
     rfl
    refine a_y (i:=26) (N:=some 43) (v:=undef) (a':=?_) l_p rfl rfl (a_n HT_.out (by kernel_rfl)) (fun _ _ _ h => h) (Or.inr ⟨by rfl,rfl⟩) ?_ ?_
    rotate_left
    ·simp only [Act.put,sa_,sb_,sc_,a_r,a_s]
     rfl
    refine a_y (i:=27) (N:=some 44) (v:=?_) (a':=?_) l_H rfl rfl (a_n HT_.out (by kernel_rfl)) (fun _ _ _ h => h) (Or.inl ⟨by rfl,?_⟩) ?_ ?_
    rotate_left
    ·intro w'
     go_simp
     with_reducible rfl
    rotate_left
    ·simp only [Act.put,sa_,sb_,sc_,a_r,a_s]
     rfl
    refine a_y (i:=28) (N:=some 45) (v:=?_) (a':=?_) l_F rfl rfl (a_n HT_.out (by kernel_rfl)) (fun _ _ _ h => h) (Or.inl ⟨by rfl,?_⟩) ?_ ?_
    rotate_left
    ·intro w'
     go_simp
     with_reducible rfl
    rotate_left
    ·simp only [Act.put,sa_,sb_,sc_,a_r,a_s]
     rfl
    refine a_y (i:=29) (N:=some 46) (v:=undef) (a':=?_) l_o rfl rfl (a_n HT_.out (by kernel_rfl)) (fun _ _ _ h => h) (Or.inr ⟨by rfl,rfl⟩) ?_ ?_
    rotate_left
    ·simp only [Act.put,sa_,sb_,sc_,a_r,a_s]
     rfl
    refine a_y (i:=30) (N:=some 47) (v:=undef) (a':=?_) q_L rfl rfl (a_n HT_.out (by kernel_rfl)) (fun _ _ _ h => h) (Or.inr ⟨by rfl,rfl⟩) ?_ ?_
    rotate_left
    ·simp only [Act.put,sa_,sb_,sc_,a_r,a_s]
     rfl
    refine a_y (i:=31) (N:=some 48) (v:=undef) (a':=?_) q_Z rfl rfl (a_n HT_.out (by kernel_rfl)) (fun _ _ _ h => h) (Or.inr ⟨by rfl,rfl⟩) ?_ ?_
    rotate_left
    ·simp only [Act.put,sa_,sb_,sc_,a_r,a_s]
     rfl
    refine a_y (i:=32) (N:=some 49) (v:=undef) (a':=?_) q_9 rfl rfl (a_n HT_.out (by kernel_rfl)) (fun _ _ _ h => h) (Or.inr ⟨by rfl,rfl⟩) ?_ ?_
    rotate_left
    ·simp only [Act.put,sa_,sb_,sc_,a_r,a_s]
     rfl
    refine a_y (i:=33) (N:=some 50) (v:=undef) (a':=?_) r_g rfl rfl (a_n HT_.out (by kernel_rfl)) (fun _ _ _ h => h) (Or.inr ⟨by rfl,rfl⟩) ?_ ?_
    rotate_left
    ·simp only [Act.put,sa_,sb_,sc_,a_r,a_s]
     rfl
    refine a_y (i:=34) (N:=some 51) (v:=undef) (a':=?_) l_q rfl rfl (a_n HT_.out (by kernel_rfl)) (fun _ _ _ h => h) (Or.inr ⟨by rfl,rfl⟩) ?_ ?_
    rotate_left
    ·simp only [Act.put,sa_,sb_,sc_,a_r,a_s]
     rfl
    refine a_y (i:=35) (N:=some 52) (v:=undef) (a':=?_) l_t rfl rfl (a_n HT_.out (by kernel_rfl)) (fun _ _ _ h => h) (Or.inr ⟨by rfl,rfl⟩) ?_ ?_
    rotate_left
    ·simp only [Act.put,sa_,sb_,sc_,a_r,a_s]
     rfl
    refine a_y (i:=36) (N:=some 53) (v:=?_) (a':=?_) l_B rfl rfl (a_n HT_.out (by kernel_rfl)) (fun _ _ _ h => h) (Or.inl ⟨by rfl,?_⟩) ?_ ?_
    rotate_left
    ·intro w'
     go_simp
     with_reducible rfl
    rotate_left
    ·simp only [Act.put,sa_,sb_,sc_,a_r,a_s]
     rfl
    refine e_T (c_u HT_.out (by kernel_rfl)) ?_
    try go_wp2
    go_ret
    exact ⟨by first|rfl|(simp [a_w,a_x] <;> rfl)|(simp only [← hji10];first|rfl|(simp [a_w,a_x] <;> rfl))|(simp [*, a_w,a_x] <;> rfl),by repeat (first|(with_reducible first|exact HB.out|apply a_g|apply a_f|apply a_h|refine a_d ?_ e_p.out|refine a_d ?_ e_O.out|refine a_d ?_ f_g.out)|exact HB.out)⟩
   rw [if_neg c13] at H
   have c13b0 : decide (((a_c l0_1 x10_1).f0) ≤ ((a_c l0_1 (ji10)).f0)) = false:=decide_eq_false c13
   clear c13
   replace H:=Option.bind_eq_some_iff.mp H
   obtain ⟨t117,A240,H⟩:=H
   replace H : (if t117 = ((a_c l0_1 x10_1).f9) then ((b_h.f l0_1 ((a_c l0_1 x10_1).f0) ((a_c l0_1 x10_1).f1) ((a_c l0_1 x10_1).f2) ((a_c l0_1 x10_1).f3) ((a_c l0_1 x10_1).f4) ((a_c l0_1 x10_1).f5) ((a_c l0_1 x10_1).f6) ((a_c l0_1 x10_1).f7) ((a_c l0_1 x10_1).f8) ((a_c l0_1 x10_1).f9) ((a_c l0_1 x10_1).f10) ((a_c l0_1 x10_1).f0) ((a_c l0_1 x10_1).f1) ((a_c l0_1 x10_1).f2) ((a_c l0_1 x10_1).f3) ((a_c l0_1 x10_1).f4) ((a_c l0_1 x10_1).f5) ((a_c l0_1 x10_1).f6) ((a_c l0_1 x10_1).f7) ((a_c l0_1 x10_1).f8) ((a_c l0_1 x10_1).f9) ((a_c l0_1 x10_1).f10)).bind fun t118 => (if t118 = ((a_c l0_1 x10_1).f9) then (a_G.l0 k1 l0_1 (l0_1.length : Int) (wrap64 (x10_1 + 1)) a0_0 l0_1) else (some false))) else (some false)) = some r:=H
   have A24:=a_e.mk A240
   clear A240
   by_cases c25 : t117 = ((a_c l0_1 x10_1).f9)
   rotate_left
   ·rw [if_neg c25] at H
    have c25b0 : (t117 == ((a_c l0_1 x10_1).f9)) = false:=beq_eq_false_iff_ne.mpr c25
    have c25b1 : (t117 != ((a_c l0_1 x10_1).f9)) = true:=bne_iff_ne.mpr c25
    obtain rfl:=Option.some.inj H
    have p116 : 0 ≤ ((ji10) : Int):=of_decide_eq_true (by first|(with_reducible assumption)|assumption)
    have q116 : (ji10) < (l0_1.length : Int):=of_decide_eq_true (by first|(with_reducible assumption)|assumption)
    obtain ⟨ad116,e116,d_h,d_i,d_j,d_k,d_l,d_m,d_n,d_o,d_p,d_q,c_w⟩:=e_h e_o.out (ji10) p116 q116
    have b_7:=c_w
    have c_x:=d_q
    have c_y:=d_p
    have c_z:=d_o
    have c_A:=d_n
    have c_B:=d_m
    have c_C:=d_l
    have c_D:=d_k
    have c_E:=d_j
    have c_F:=d_i
    have c_G:=d_h
    obtain rfl : ad112 = ad116:=(by injection e116)
    replace d_h:=(HB.out.cell (World.block_lt_of_cell? w _ d_h)).trans d_h
    replace d_i:=(HB.out.cell (World.block_lt_of_cell? w _ d_i)).trans d_i
    replace d_j:=(HB.out.cell (World.block_lt_of_cell? w _ d_j)).trans d_j
    replace d_k:=(HB.out.cell (World.block_lt_of_cell? w _ d_k)).trans d_k
    replace d_l:=(HB.out.cell (World.block_lt_of_cell? w _ d_l)).trans d_l
    replace d_m:=(HB.out.cell (World.block_lt_of_cell? w _ d_m)).trans d_m
    replace d_n:=(HB.out.cell (World.block_lt_of_cell? w _ d_n)).trans d_n
    replace d_o:=(HB.out.cell (World.block_lt_of_cell? w _ d_o)).trans d_o
    replace d_p:=(HB.out.cell (World.block_lt_of_cell? w _ d_p)).trans d_p
    replace d_q:=(HB.out.cell (World.block_lt_of_cell? w _ d_q)).trans d_q
    replace c_w:=(HB.out.cell (World.block_lt_of_cell? w _ c_w)).trans c_w
    replace p116:=eq_true p116
    replace q116:=eq_true q116
    refine d_H (n:=37) (S:=fun w' => w'.cell? ⟨b_e,0,none⟩ = some (.int .i64 ((a_c l0_1 x10_1).f0)) ∧ w'.cell? ⟨b_e,1,none⟩ = some (.int .i64 ((a_c l0_1 x10_1).f1)) ∧ w'.cell? ⟨b_e,2,none⟩ = some (.int .i64 ((a_c l0_1 x10_1).f2)) ∧ w'.cell? ⟨b_e,3,none⟩ = some (.int .i64 ((a_c l0_1 x10_1).f3)) ∧ w'.cell? ⟨b_e,4,none⟩ = some (.int .i64 ((a_c l0_1 x10_1).f4)) ∧ w'.cell? ⟨b_e,5,none⟩ = some (.bool ((a_c l0_1 x10_1).f5)) ∧ w'.cell? ⟨b_e,6,none⟩ = some (.bool ((a_c l0_1 x10_1).f6)) ∧ w'.cell? ⟨b_e,7,none⟩ = some (.int .u32 ((a_c l0_1 x10_1).f7)) ∧ w'.cell? ⟨b_e,8,none⟩ = some (.int .i64 ((a_c l0_1 x10_1).f8)) ∧ w'.cell? ⟨b_e,9,none⟩ = some (.int .i64 ((a_c l0_1 x10_1).f9)) ∧ w'.cell? ⟨b_e,10,none⟩ = some (.int .i64 ((a_c l0_1 x10_1).f10)) ∧ w'.cell? ⟨e_K,0,none⟩ = some (.int .i64 a0_0) ∧ w'.cell? ⟨e_K,1,none⟩ = some (.slice (some ad112) l0_1.length c0_1) ∧ w'.cell? ⟨f_f,0,none⟩ = some (.func (.func 51) #[] #[.pointer (some ⟨b_e,0,none⟩)]) ∧ w'.cell? (ad112.add (((ji10)).toNat * 11)) = some (.int .i64 ((a_c l0_1 (ji10)).f0)) ∧ w'.cell? ⟨(ad112.add (((ji10)).toNat * 11)).block,(ad112.add (((ji10)).toNat * 11)).off + 1,none⟩ = some (.int .i64 ((a_c l0_1 (ji10)).f1)) ∧ w'.cell? ⟨(ad112.add (((ji10)).toNat * 11)).block,(ad112.add (((ji10)).toNat * 11)).off + 2,none⟩ = some (.int .i64 ((a_c l0_1 (ji10)).f2)) ∧ w'.cell? ⟨(ad112.add (((ji10)).toNat * 11)).block,(ad112.add (((ji10)).toNat * 11)).off + 3,none⟩ = some (.int .i64 ((a_c l0_1 (ji10)).f3)) ∧ w'.cell? ⟨(ad112.add (((ji10)).toNat * 11)).block,(ad112.add (((ji10)).toNat * 11)).off + 4,none⟩ = some (.int .i64 ((a_c l0_1 (ji10)).f4)) ∧ w'.cell? ⟨(ad112.add (((ji10)).toNat * 11)).block,(ad112.add (((ji10)).toNat * 11)).off + 5,none⟩ = some (.bool ((a_c l0_1 (ji10)).f5)) ∧ w'.cell? ⟨(ad112.add (((ji10)).toNat * 11)).block,(ad112.add (((ji10)).toNat * 11)).off + 6,none⟩ = some (.bool ((a_c l0_1 (ji10)).f6)) ∧ w'.cell? ⟨(ad112.add (((ji10)).toNat * 11)).block,(ad112.add (((ji10)).toNat * 11)).off + 7,none⟩ = some (.int .u32 ((a_c l0_1 (ji10)).f7)) ∧ w'.cell? ⟨(ad112.add (((ji10)).toNat * 11)).block,(ad112.add (((ji10)).toNat * 11)).off + 8,none⟩ = some (.int .i64 ((a_c l0_1 (ji10)).f8)) ∧ w'.cell? ⟨(ad112.add (((ji10)).toNat * 11)).block,(ad112.add (((ji10)).toNat * 11)).off + 9,none⟩ = some (.int .i64 ((a_c l0_1 (ji10)).f9)) ∧ w'.cell? ⟨(ad112.add (((ji10)).toNat * 11)).block,(ad112.add (((ji10)).toNat * 11)).off + 10,none⟩ = some (.int .i64 ((a_c l0_1 (ji10)).f10))) (ds:=[]) Z1_ (by kernel_rfl) rfl rfl ⟨(a_a a_F.out 0).trans rfl,(a_a a_F.out 1).trans rfl,(a_a a_F.out 2).trans rfl,(a_a a_F.out 3).trans rfl,(a_a a_F.out 4).trans rfl,(a_a a_F.out 5).trans rfl,(a_a a_F.out 6).trans rfl,(a_a a_F.out 7).trans rfl,(a_a a_F.out 8).trans rfl,(a_a a_F.out 9).trans rfl,(a_a a_F.out 10).trans rfl,(a_a b_l.out 0).trans rfl,(a_a b_l.out 1).trans rfl,(a_a b_5.out 0).trans rfl,((HB.out.cell (World.block_lt_of_cell? w _ c_G)).trans c_G),((HB.out.cell (World.block_lt_of_cell? w _ c_F)).trans c_F),((HB.out.cell (World.block_lt_of_cell? w _ c_E)).trans c_E),((HB.out.cell (World.block_lt_of_cell? w _ c_D)).trans c_D),((HB.out.cell (World.block_lt_of_cell? w _ c_C)).trans c_C),((HB.out.cell (World.block_lt_of_cell? w _ c_B)).trans c_B),((HB.out.cell (World.block_lt_of_cell? w _ c_A)).trans c_A),((HB.out.cell (World.block_lt_of_cell? w _ c_z)).trans c_z),((HB.out.cell (World.block_lt_of_cell? w _ c_y)).trans c_y),((HB.out.cell (World.block_lt_of_cell? w _ c_x)).trans c_x),((HB.out.cell (World.block_lt_of_cell? w _ b_7)).trans b_7)⟩ (fun hHeld => ?_);refine b_Q a_G.tab6 a_G.f_W (fun HT_ HW_ => ?_)
    generalize w21.drew = w60 at b_l a_F b_5 HB d_h d_i c_w d_j d_k d_l d_m d_n d_o d_p d_q hHeld ⊢
    refine b_m (i:=0) (N:=some 17) (v:=?_) (a':=?_) Z7_ rfl rfl (a_L HT_.out HW_.out (by kernel_rfl)) (fun _ _ _ h => h) (Or.inl ⟨by rfl,?_⟩) hHeld ?_ ?_
    rotate_left
    ·rintro w' ⟨s0,s1,s2,s3,s4,s5,s6,s7,s8,s9,s10,s11,s12,s13,s14,s15,s16,s17,s18,s19,s20,s21,s22,s23,s24⟩
     go_simp
     with_reducible rfl
    rotate_left
    ·simp only [Act.put,sa_,sb_,sc_,a_r,a_s]
     rfl
    refine one_ (i:=1) (N:=some 18) Z14_ rfl rfl (c_e HT_.out (by kernel_rfl)) (by decide) (fun K hK => ?_)
    refine e_I Try.func53 (by kernel_rfl) rfl #[.agg #[.int .i64 ((a_c l0_1 x10_1).f0),.int .i64 ((a_c l0_1 x10_1).f1),.int .i64 ((a_c l0_1 x10_1).f2),.int .i64 ((a_c l0_1 x10_1).f3),.int .i64 ((a_c l0_1 x10_1).f4),.bool ((a_c l0_1 x10_1).f5),.bool ((a_c l0_1 x10_1).f6),.int .u32 ((a_c l0_1 x10_1).f7),.int .i64 ((a_c l0_1 x10_1).f8),.int .i64 ((a_c l0_1 x10_1).f9),.int .i64 ((a_c l0_1 x10_1).f10)]] (by rfl) rfl rfl (by (try simp only [List.map_toArray,List.map_cons,List.map_nil]);first|done|rfl|(simp only [List.length_drop,List.length_take];rfl)) ?_
    with_reducible refine (a_1.calls k1 ((a_c l0_1 x10_1).f0) ((a_c l0_1 x10_1).f1) ((a_c l0_1 x10_1).f2) ((a_c l0_1 x10_1).f3) ((a_c l0_1 x10_1).f4) ((a_c l0_1 x10_1).f5) ((a_c l0_1 x10_1).f6) ((a_c l0_1 x10_1).f7) ((a_c l0_1 x10_1).f8) ((a_c l0_1 x10_1).f9) ((a_c l0_1 x10_1).f10) true _ A7.out).mono ?_
    rintro e w61 ⟨rfl,hb⟩
    refine ⟨_,rfl,?_⟩
    replace b_l:=a_e.mk (a_l (bup_ b_l.out) hb)
    replace a_F:=a_e.mk (a_l (bup_ a_F.out) hb)
    replace b_5:=a_e.mk (a_l (bup_ b_5.out) hb)
    replace HB:=a_e.mk (a_t (by repeat (first|(with_reducible first|exact HB.out|apply a_g|apply a_f|apply a_h|refine a_d ?_ e_p.out|refine a_d ?_ e_O.out|refine a_d ?_ f_g.out)|exact HB.out)) hb)
    (try clear hb)
    (try clear hb2)
    (try clear hk)
    (try clear hi)
    refine hK.out _ _ ⟨(a_a a_F.out 0).trans rfl,(a_a a_F.out 1).trans rfl,(a_a a_F.out 2).trans rfl,(a_a a_F.out 3).trans rfl,(a_a a_F.out 4).trans rfl,(a_a a_F.out 5).trans rfl,(a_a a_F.out 6).trans rfl,(a_a a_F.out 7).trans rfl,(a_a a_F.out 8).trans rfl,(a_a a_F.out 9).trans rfl,(a_a a_F.out 10).trans rfl,(a_a b_l.out 0).trans rfl,(a_a b_l.out 1).trans rfl,(a_a b_5.out 0).trans rfl,((HB.out.cell (World.block_lt_of_cell? w _ c_G)).trans c_G),((HB.out.cell (World.block_lt_of_cell? w _ c_F)).trans c_F),((HB.out.cell (World.block_lt_of_cell? w _ c_E)).trans c_E),((HB.out.cell (World.block_lt_of_cell? w _ c_D)).trans c_D),((HB.out.cell (World.block_lt_of_cell? w _ c_C)).trans c_C),((HB.out.cell (World.block_lt_of_cell? w _ c_B)).trans c_B),((HB.out.cell (World.block_lt_of_cell? w _ c_A)).trans c_A),((HB.out.cell (World.block_lt_of_cell? w _ c_z)).trans c_z),((HB.out.cell (World.block_lt_of_cell? w _ c_y)).trans c_y),((HB.out.cell (World.block_lt_of_cell? w _ c_x)).trans c_x),((HB.out.cell (World.block_lt_of_cell? w _ b_7)).trans b_7)⟩ (fun hHeld => ?_)
    clear hK K
    refine d_U (a':=?_) ?_ ?_
    rotate_left
    ·show Act.put _ (some 18) _ = _
     simp only [Act.put,sa_,sb_,sc_,a_r,a_s]
     rfl
    refine a_y (i:=2) (N:=some 19) (v:=?_) (a':=?_) Z20_ rfl rfl (a_n HT_.out (by kernel_rfl)) (fun _ _ _ h => h) (Or.inl ⟨by rfl,?_⟩) ?_ ?_
    rotate_left
    ·intro w'
     go_simp
     with_reducible rfl
    rotate_left
    ·simp only [Act.put,sa_,sb_,sc_,a_r,a_s]
     rfl
    refine a_y (i:=3) (N:=some 20) (v:=?_) (a':=?_) Z25_ rfl rfl (a_n HT_.out (by kernel_rfl)) (fun _ _ _ h => h) (Or.inl ⟨by rfl,?_⟩) ?_ ?_
    rotate_left
    ·intro w'
     go_simp
     with_reducible rfl
    rotate_left
    ·simp only [Act.put,sa_,sb_,sc_,a_r,a_s]
     rfl
    refine a_y (i:=4) (N:=some 21) (v:=?_) (a':=?_) Z29_ rfl rfl (a_n HT_.out (by kernel_rfl)) (fun _ _ _ h => h) (Or.inl ⟨by rfl,?_⟩) ?_ ?_
    rotate_left
    ·intro w'
     go_simp
     with_reducible rfl
    rotate_left
    ·simp only [Act.put,sa_,sb_,sc_,a_r,a_s]
     rfl
    refine a_y (i:=5) (N:=some 22) (v:=?_) (a':=?_) Z34_ rfl rfl (a_n HT_.out (by kernel_rfl)) (fun _ _ _ h => h) (Or.inl ⟨by rfl,?_⟩) ?_ ?_
    rotate_left
    ·intro w'
     go_simp
     with_reducible rfl
    rotate_left
    ·simp only [Act.put,sa_,sb_,sc_,a_r,a_s]
     rfl
    refine a_y (i:=6) (N:=some 23) (v:=?_) (a':=?_) Z38_ rfl rfl (a_n HT_.out (by kernel_rfl)) (fun _ _ _ h => h) (Or.inl ⟨by rfl,?_⟩) ?_ ?_
    rotate_left
    ·intro w'
     go_simp
     with_reducible rfl
    rotate_left
    ·simp only [Act.put,sa_,sb_,sc_,a_r,a_s]
     rfl
    refine a_y (i:=7) (N:=some 24) (v:=?_) (a':=?_) Z44_ rfl rfl (a_n HT_.out (by kernel_rfl)) (fun _ _ _ h => h) (Or.inl ⟨by rfl,?_⟩) ?_ ?_
    rotate_left
    ·intro w'
     go_simp
     with_reducible rfl
    rotate_left
    ·simp only [Act.put,sa_,sb_,sc_,a_r,a_s]
     rfl
    refine a_y (i:=9) (N:=some 26) (v:=?_) (a':=?_) Z48_ rfl rfl (a_n HT_.out (by kernel_rfl)) (fun _ _ _ h => h) (Or.inl ⟨by rfl,?_⟩) ?_ ?_
    rotate_left
    ·intro w'
     go_simp
     with_reducible rfl
    rotate_left
    ·simp only [Act.put,sa_,sb_,sc_,a_r,a_s]
     rfl
    refine a_y (i:=10) (N:=some 27) (v:=?_) (a':=?_) Z49_ rfl rfl (a_n HT_.out (by kernel_rfl)) (fun _ _ _ h => h) (Or.inl ⟨by rfl,?_⟩) ?_ ?_
    rotate_left
    ·intro w'
     go_simp
     with_reducible rfl
    rotate_left
    ·simp only [Act.put,sa_,sb_,sc_,a_r,a_s]
     rfl
    refine a_y (i:=14) (N:=some 31) (v:=?_) (a':=?_) Z50_ rfl rfl (a_n HT_.out (by kernel_rfl)) (fun _ _ _ h => h) (Or.inl ⟨by rfl,?_⟩) ?_ ?_
    rotate_left
    ·intro w'
     go_simp
     with_reducible rfl
    rotate_left
    ·simp only [Act.put,sa_,sb_,sc_,a_r,a_s]
     rfl
    refine b_m (i:=8) (N:=some 25) (v:=?_) (a':=?_) Z66_ rfl rfl (a_L HT_.out HW_.out (by kernel_rfl)) (fun _ _ _ h => h) (Or.inl ⟨by rfl,?_⟩) hHeld ?_ ?_
    rotate_left
    ·rintro w' ⟨s0,s1,s2,s3,s4,s5,s6,s7,s8,s9,s10,s11,s12,s13,s14,s15,s16,s17,s18,s19,s20,s21,s22,s23,s24⟩
     go_simp
     with_reducible rfl
    rotate_left
    ·simp only [Act.put,sa_,sb_,sc_,a_r,a_s]
     rfl
    refine a_y (i:=11) (N:=some 28) (v:=?_) (a':=?_) Z72_ rfl rfl (a_n HT_.out (by kernel_rfl)) (fun _ _ _ h => h) (Or.inl ⟨by rfl,?_⟩) ?_ ?_
    rotate_left
    ·intro w'
     go_simp
     with_reducible rfl
    rotate_left
    ·simp only [Act.put,sa_,sb_,sc_,a_r,a_s]
     rfl
    refine a_y (i:=12) (N:=some 29) (v:=?_) (a':=?_) Z78_ rfl rfl (a_n HT_.out (by kernel_rfl)) (fun _ _ _ h => h) (Or.inl ⟨by rfl,?_⟩) ?_ ?_
    rotate_left
    ·intro w'
     go_simp
     with_reducible rfl
    rotate_left
    ·simp only [Act.put,sa_,sb_,sc_,a_r,a_s]
     rfl
    refine b_m (i:=13) (N:=some 30) (v:=?_) (a':=?_) Z83_ rfl rfl (a_L HT_.out HW_.out (by kernel_rfl)) (fun _ _ _ h => h) (Or.inl ⟨by rfl,?_⟩) hHeld ?_ ?_
    rotate_left
    ·rintro w' ⟨s0,s1,s2,s3,s4,s5,s6,s7,s8,s9,s10,s11,s12,s13,s14,s15,s16,s17,s18,s19,s20,s21,s22,s23,s24⟩
     go_simp
     with_reducible rfl
    rotate_left
    ·simp only [Act.put,sa_,sb_,sc_,a_r,a_s]
     rfl
    refine b_m (i:=15) (N:=some 32) (v:=?_) (a':=?_) Z90_ rfl rfl (a_L HT_.out HW_.out (by kernel_rfl)) (fun _ _ _ h => h) (Or.inl ⟨by rfl,?_⟩) hHeld ?_ ?_
    rotate_left
    ·rintro w' ⟨s0,s1,s2,s3,s4,s5,s6,s7,s8,s9,s10,s11,s12,s13,s14,s15,s16,s17,s18,s19,s20,s21,s22,s23,s24⟩
     go_simp
     with_reducible rfl
    rotate_left
    ·simp only [Act.put,sa_,sb_,sc_,a_r,a_s]
     rfl
    refine a_y (i:=16) (N:=some 33) (v:=?_) (a':=?_) Z94_ rfl rfl (a_n HT_.out (by kernel_rfl)) (fun _ _ _ h => h) (Or.inl ⟨by rfl,?_⟩) ?_ ?_
    rotate_left
    ·intro w'
     go_simp
     with_reducible rfl
    rotate_left
    ·simp only [Act.put,sa_,sb_,sc_,a_r,a_s]
     rfl
    refine a_y (i:=17) (N:=some 34) (v:=?_) (a':=?_) Z98_ rfl rfl (a_n HT_.out (by kernel_rfl)) (fun _ _ _ h => h) (Or.inl ⟨by rfl,?_⟩) ?_ ?_
    rotate_left
    ·intro w'
     go_simp
     with_reducible rfl
    rotate_left
    ·simp only [Act.put,sa_,sb_,sc_,a_r,a_s]
     rfl
    refine a_y (i:=18) (N:=some 35) (v:=?_) (a':=?_) l_z rfl rfl (a_n HT_.out (by kernel_rfl)) (fun _ _ _ h => h) (Or.inl ⟨by rfl,?_⟩) ?_ ?_
    rotate_left
    ·intro w'
     go_simp
     with_reducible rfl
    rotate_left
    ·simp only [Act.put,sa_,sb_,sc_,a_r,a_s]
     rfl
    refine a_y (i:=19) (N:=some 36) (v:=?_) (a':=?_) l_w rfl rfl (a_n HT_.out (by kernel_rfl)) (fun _ _ _ h => h) (Or.inl ⟨by rfl,?_⟩) ?_ ?_
    rotate_left
    ·intro w'
     go_simp
     with_reducible rfl
    rotate_left
    ·simp only [Act.put,sa_,sb_,sc_,a_r,a_s]
     rfl
    refine a_y (i:=20) (N:=some 37) (v:=?_) (a':=?_) l_E rfl rfl (a_n HT_.out (by kernel_rfl)) (fun _ _ _ h => h) (Or.inl ⟨by rfl,?_⟩) ?_ ?_
    rotate_left
    ·intro w'
     go_simp
     with_reducible rfl
    rotate_left
    ·simp only [Act.put,sa_,sb_,sc_,a_r,a_s]
     rfl
    refine a_y (i:=24) (N:=some 41) (v:=?_) (a':=?_) o_b rfl rfl (a_n HT_.out (by kernel_rfl)) (fun _ _ _ h => h) (Or.inl ⟨by rfl,?_⟩) ?_ ?_
    rotate_left
    ·intro w'
     go_simp
     with_reducible rfl
    rotate_left
    ·simp only [Act.put,sa_,sb_,sc_,a_r,a_s]
     rfl
    refine b_m (i:=21) (N:=some 38) (v:=?_) (a':=?_) n_6 rfl rfl (a_L HT_.out HW_.out (by kernel_rfl)) (fun _ _ _ h => h) (Or.inl ⟨by rfl,?_⟩) hHeld ?_ ?_
    rotate_left
    ·rintro w' ⟨s0,s1,s2,s3,s4,s5,s6,s7,s8,s9,s10,s11,s12,s13,s14,s15,s16,s17,s18,s19,s20,s21,s22,s23,s24⟩
     go_simp
     with_reducible rfl
    rotate_left
    ·simp only [Act.put,sa_,sb_,sc_,a_r,a_s]
     rfl
    refine b_m (i:=22) (N:=some 39) (v:=?_) (a':=?_) n_4 rfl rfl (a_L HT_.out HW_.out (by kernel_rfl)) (fun _ _ _ h => h) (Or.inl ⟨by rfl,?_⟩) hHeld ?_ ?_
    rotate_left
    ·rintro w' ⟨s0,s1,s2,s3,s4,s5,s6,s7,s8,s9,s10,s11,s12,s13,s14,s15,s16,s17,s18,s19,s20,s21,s22,s23,s24⟩
     go_simp
     with_reducible rfl
    rotate_left
    ·simp only [Act.put,sa_,sb_,sc_,a_r,a_s]
     rfl
    refine b_m (i:=25) (N:=some 42) (v:=?_) (a':=?_) n_Y rfl rfl (a_L HT_.out HW_.out (by kernel_rfl)) (fun _ _ _ h => h) (Or.inl ⟨by rfl,?_⟩) hHeld ?_ ?_
    rotate_left
    ·rintro w' ⟨s0,s1,s2,s3,s4,s5,s6,s7,s8,s9,s10,s11,s12,s13,s14,s15,s16,s17,s18,s19,s20,s21,s22,s23,s24⟩
     go_simp
     with_reducible rfl
    rotate_left
    ·simp only [Act.put,sa_,sb_,sc_,a_r,a_s]
     rfl
    refine one_ (i:=23) (N:=some 40) l_I rfl rfl (c_e HT_.out (by kernel_rfl)) (by decide) (fun K hK => ?_)
    refine e_I Try.func38 (by kernel_rfl) rfl #[.slice (some ad112) l0_1.length c0_1,.func (.func 51) #[] #[.pointer (some ⟨b_e,0,none⟩)]] (by rfl) rfl rfl (by (try simp only [List.map_toArray,List.map_cons,List.map_nil]);first|done|rfl|(simp only [List.length_drop,List.length_take];rfl)) ?_
    with_reducible refine (b_k.calls _ _ l0_1 b_e ((a_c l0_1 x10_1).f0) ((a_c l0_1 x10_1).f1) ((a_c l0_1 x10_1).f2) ((a_c l0_1 x10_1).f3) ((a_c l0_1 x10_1).f4) ((a_c l0_1 x10_1).f5) ((a_c l0_1 x10_1).f6) ((a_c l0_1 x10_1).f7) ((a_c l0_1 x10_1).f8) ((a_c l0_1 x10_1).f9) ((a_c l0_1 x10_1).f10) t117 _ ?side1 ?side2 ?side3 A24.out).mono ?_
    (case side1 => repeat (first|exact (Kd.b_f e_o.out HB.out)|(with_reducible refine Kd.a_9 ?_ _)|(with_reducible refine Kd.a_8 ?_ _)|(with_reducible refine Kd.b_i ?_)))
    (case side2 => exact g_I.out)
    (case side3 => exact (bup_ a_F.out))
    rintro e w62 ⟨rfl,hb⟩
    refine ⟨_,rfl,?_⟩
    replace b_l:=a_e.mk (a_l (bup_ b_l.out) hb)
    replace a_F:=a_e.mk (a_l (bup_ a_F.out) hb)
    replace b_5:=a_e.mk (a_l (bup_ b_5.out) hb)
    replace HB:=a_e.mk (a_t (by repeat (first|(with_reducible first|exact HB.out|apply a_g|apply a_f|apply a_h|refine a_d ?_ e_p.out|refine a_d ?_ e_O.out|refine a_d ?_ f_g.out)|exact HB.out)) hb)
    (try clear hb)
    (try clear hb2)
    (try clear hk)
    (try clear hi)
    refine hK.out _ _ ⟨(a_a a_F.out 0).trans rfl,(a_a a_F.out 1).trans rfl,(a_a a_F.out 2).trans rfl,(a_a a_F.out 3).trans rfl,(a_a a_F.out 4).trans rfl,(a_a a_F.out 5).trans rfl,(a_a a_F.out 6).trans rfl,(a_a a_F.out 7).trans rfl,(a_a a_F.out 8).trans rfl,(a_a a_F.out 9).trans rfl,(a_a a_F.out 10).trans rfl,(a_a b_l.out 0).trans rfl,(a_a b_l.out 1).trans rfl,(a_a b_5.out 0).trans rfl,((HB.out.cell (World.block_lt_of_cell? w _ c_G)).trans c_G),((HB.out.cell (World.block_lt_of_cell? w _ c_F)).trans c_F),((HB.out.cell (World.block_lt_of_cell? w _ c_E)).trans c_E),((HB.out.cell (World.block_lt_of_cell? w _ c_D)).trans c_D),((HB.out.cell (World.block_lt_of_cell? w _ c_C)).trans c_C),((HB.out.cell (World.block_lt_of_cell? w _ c_B)).trans c_B),((HB.out.cell (World.block_lt_of_cell? w _ c_A)).trans c_A),((HB.out.cell (World.block_lt_of_cell? w _ c_z)).trans c_z),((HB.out.cell (World.block_lt_of_cell? w _ c_y)).trans c_y),((HB.out.cell (World.block_lt_of_cell? w _ c_x)).trans c_x),((HB.out.cell (World.block_lt_of_cell? w _ b_7)).trans b_7)⟩ (fun hHeld => ?_)
    clear hK K
    refine d_U (a':=?_) ?_ ?_
    rotate_left
    ·show Act.put _ (some 40) _ = _
     simp only [Act.put,sa_,sb_,sc_,a_r,a_s]
     rfl
    refine a_y (i:=26) (N:=some 43) (v:=?_) (a':=?_) l_p rfl rfl (a_n HT_.out (by kernel_rfl)) (fun _ _ _ h => h) (Or.inl ⟨by rfl,?_⟩) ?_ ?_
    rotate_left
    ·intro w'
     go_simp
     with_reducible rfl
    rotate_left
    ·simp only [Act.put,sa_,sb_,sc_,a_r,a_s]
     rfl
    refine a_y (i:=27) (N:=some 44) (v:=?_) (a':=?_) l_H rfl rfl (a_n HT_.out (by kernel_rfl)) (fun _ _ _ h => h) (Or.inl ⟨by rfl,?_⟩) ?_ ?_
    rotate_left
    ·intro w'
     go_simp
     with_reducible rfl
    rotate_left
    ·simp only [Act.put,sa_,sb_,sc_,a_r,a_s]
     rfl
    refine a_y (i:=28) (N:=some 45) (v:=?_) (a':=?_) l_F rfl rfl (a_n HT_.out (by kernel_rfl)) (fun _ _ _ h => h) (Or.inl ⟨by rfl,?_⟩) ?_ ?_
    rotate_left
    ·intro w'
     go_simp
     with_reducible rfl
    rotate_left
    ·simp only [Act.put,sa_,sb_,sc_,a_r,a_s]
     rfl
    refine a_y (i:=29) (N:=some 46) (v:=undef) (a':=?_) l_o rfl rfl (a_n HT_.out (by kernel_rfl)) (fun _ _ _ h => h) (Or.inr ⟨by rfl,rfl⟩) ?_ ?_
    rotate_left
    ·simp only [Act.put,sa_,sb_,sc_,a_r,a_s]
     rfl
    refine a_y (i:=30) (N:=some 47) (v:=undef) (a':=?_) q_L rfl rfl (a_n HT_.out (by kernel_rfl)) (fun _ _ _ h => h) (Or.inr ⟨by rfl,rfl⟩) ?_ ?_
    rotate_left
    ·simp only [Act.put,sa_,sb_,sc_,a_r,a_s]
     rfl
    refine a_y (i:=31) (N:=some 48) (v:=undef) (a':=?_) q_Z rfl rfl (a_n HT_.out (by kernel_rfl)) (fun _ _ _ h => h) (Or.inr ⟨by rfl,rfl⟩) ?_ ?_
    rotate_left
    ·simp only [Act.put,sa_,sb_,sc_,a_r,a_s]
     rfl
    refine a_y (i:=32) (N:=some 49) (v:=undef) (a':=?_) q_9 rfl rfl (a_n HT_.out (by kernel_rfl)) (fun _ _ _ h => h) (Or.inr ⟨by rfl,rfl⟩) ?_ ?_
    rotate_left
    ·simp only [Act.put,sa_,sb_,sc_,a_r,a_s]
     rfl
    refine a_y (i:=33) (N:=some 50) (v:=undef) (a':=?_) r_g rfl rfl (a_n HT_.out (by kernel_rfl)) (fun _ _ _ h => h) (Or.inr ⟨by rfl,rfl⟩) ?_ ?_
    rotate_left
    ·simp only [Act.put,sa_,sb_,sc_,a_r,a_s]
     rfl
    refine a_y (i:=34) (N:=some 51) (v:=undef) (a':=?_) l_q rfl rfl (a_n HT_.out (by kernel_rfl)) (fun _ _ _ h => h) (Or.inr ⟨by rfl,rfl⟩) ?_ ?_
    rotate_left
    ·simp only [Act.put,sa_,sb_,sc_,a_r,a_s]
     rfl
    refine a_y (i:=35) (N:=some 52) (v:=undef) (a':=?_) l_t rfl rfl (a_n HT_.out (by kernel_rfl)) (fun _ _ _ h => h) (Or.inr ⟨by rfl,rfl⟩) ?_ ?_
    rotate_left
    ·simp only [Act.put,sa_,sb_,sc_,a_r,a_s]
     rfl
    refine a_y (i:=36) (N:=some 53) (v:=?_) (a':=?_) l_B rfl rfl (a_n HT_.out (by kernel_rfl)) (fun _ _ _ h => h) (Or.inl ⟨by rfl,?_⟩) ?_ ?_
    rotate_left
    ·intro w'
     go_simp
     with_reducible rfl
    rotate_left
    ·simp only [Act.put,sa_,sb_,sc_,a_r,a_s]
     rfl
    refine e_T (c_u HT_.out (by kernel_rfl)) ?_
    try go_wp2
    go_ret
    exact ⟨by first|rfl|(simp [a_w,a_x] <;> rfl)|(simp only [← hji10];first|rfl|(simp [a_w,a_x] <;> rfl))|(simp [*, a_w,a_x] <;> rfl),by repeat (first|(with_reducible first|exact HB.out|apply a_g|apply a_f|apply a_h|refine a_d ?_ e_p.out|refine a_d ?_ e_O.out|refine a_d ?_ f_g.out)|exact HB.out)⟩
   rw [if_pos c25] at H
   have c25b0 : (t117 == ((a_c l0_1 x10_1).f9)) = true:=beq_iff_eq.mpr c25
   have c25b1 : (t117 != ((a_c l0_1 x10_1).f9)) = false:=bne_eq_false_iff_eq.mpr c25
   clear c25
   replace H:=Option.bind_eq_some_iff.mp H
   obtain ⟨t118,A260,H⟩:=H
   replace H : (if t118 = ((a_c l0_1 x10_1).f9) then (a_G.l0 k1 l0_1 (l0_1.length : Int) (wrap64 (x10_1 + 1)) a0_0 l0_1) else (some false)) = some r:=H
   have A26:=a_e.mk A260
   clear A260
   by_cases c27 : t118 = ((a_c l0_1 x10_1).f9)
   rotate_left
   ·rw [if_neg c27] at H
    have c27b0 : (t118 == ((a_c l0_1 x10_1).f9)) = false:=beq_eq_false_iff_ne.mpr c27
    have c27b1 : (t118 != ((a_c l0_1 x10_1).f9)) = true:=bne_iff_ne.mpr c27
    obtain rfl:=Option.some.inj H
    have p116 : 0 ≤ ((ji10) : Int):=of_decide_eq_true (by first|(with_reducible assumption)|assumption)
    have q116 : (ji10) < (l0_1.length : Int):=of_decide_eq_true (by first|(with_reducible assumption)|assumption)
    obtain ⟨ad116,e116,d_h,d_i,d_j,d_k,d_l,d_m,d_n,d_o,d_p,d_q,c_w⟩:=e_h e_o.out (ji10) p116 q116
    have b_7:=c_w
    have c_x:=d_q
    have c_y:=d_p
    have c_z:=d_o
    have c_A:=d_n
    have c_B:=d_m
    have c_C:=d_l
    have c_D:=d_k
    have c_E:=d_j
    have c_F:=d_i
    have c_G:=d_h
    obtain rfl : ad112 = ad116:=(by injection e116)
    replace d_h:=(HB.out.cell (World.block_lt_of_cell? w _ d_h)).trans d_h
    replace d_i:=(HB.out.cell (World.block_lt_of_cell? w _ d_i)).trans d_i
    replace d_j:=(HB.out.cell (World.block_lt_of_cell? w _ d_j)).trans d_j
    replace d_k:=(HB.out.cell (World.block_lt_of_cell? w _ d_k)).trans d_k
    replace d_l:=(HB.out.cell (World.block_lt_of_cell? w _ d_l)).trans d_l
    replace d_m:=(HB.out.cell (World.block_lt_of_cell? w _ d_m)).trans d_m
    replace d_n:=(HB.out.cell (World.block_lt_of_cell? w _ d_n)).trans d_n
    replace d_o:=(HB.out.cell (World.block_lt_of_cell? w _ d_o)).trans d_o
    replace d_p:=(HB.out.cell (World.block_lt_of_cell? w _ d_p)).trans d_p
    replace d_q:=(HB.out.cell (World.block_lt_of_cell? w _ d_q)).trans d_q
    replace c_w:=(HB.out.cell (World.block_lt_of_cell? w _ c_w)).trans c_w
    replace p116:=eq_true p116
    replace q116:=eq_true q116
    refine d_H (n:=37) (S:=fun w' => w'.cell? ⟨b_e,0,none⟩ = some (.int .i64 ((a_c l0_1 x10_1).f0)) ∧ w'.cell? ⟨b_e,1,none⟩ = some (.int .i64 ((a_c l0_1 x10_1).f1)) ∧ w'.cell? ⟨b_e,2,none⟩ = some (.int .i64 ((a_c l0_1 x10_1).f2)) ∧ w'.cell? ⟨b_e,3,none⟩ = some (.int .i64 ((a_c l0_1 x10_1).f3)) ∧ w'.cell? ⟨b_e,4,none⟩ = some (.int .i64 ((a_c l0_1 x10_1).f4)) ∧ w'.cell? ⟨b_e,5,none⟩ = some (.bool ((a_c l0_1 x10_1).f5)) ∧ w'.cell? ⟨b_e,6,none⟩ = some (.bool ((a_c l0_1 x10_1).f6)) ∧ w'.cell? ⟨b_e,7,none⟩ = some (.int .u32 ((a_c l0_1 x10_1).f7)) ∧ w'.cell? ⟨b_e,8,none⟩ = some (.int .i64 ((a_c l0_1 x10_1).f8)) ∧ w'.cell? ⟨b_e,9,none⟩ = some (.int .i64 ((a_c l0_1 x10_1).f9)) ∧ w'.cell? ⟨b_e,10,none⟩ = some (.int .i64 ((a_c l0_1 x10_1).f10)) ∧ w'.cell? ⟨e_K,0,none⟩ = some (.int .i64 a0_0) ∧ w'.cell? ⟨e_K,1,none⟩ = some (.slice (some ad112) l0_1.length c0_1) ∧ w'.cell? ⟨f_f,0,none⟩ = some (.func (.func 51) #[] #[.pointer (some ⟨b_e,0,none⟩)]) ∧ w'.cell? (ad112.add (((ji10)).toNat * 11)) = some (.int .i64 ((a_c l0_1 (ji10)).f0)) ∧ w'.cell? ⟨(ad112.add (((ji10)).toNat * 11)).block,(ad112.add (((ji10)).toNat * 11)).off + 1,none⟩ = some (.int .i64 ((a_c l0_1 (ji10)).f1)) ∧ w'.cell? ⟨(ad112.add (((ji10)).toNat * 11)).block,(ad112.add (((ji10)).toNat * 11)).off + 2,none⟩ = some (.int .i64 ((a_c l0_1 (ji10)).f2)) ∧ w'.cell? ⟨(ad112.add (((ji10)).toNat * 11)).block,(ad112.add (((ji10)).toNat * 11)).off + 3,none⟩ = some (.int .i64 ((a_c l0_1 (ji10)).f3)) ∧ w'.cell? ⟨(ad112.add (((ji10)).toNat * 11)).block,(ad112.add (((ji10)).toNat * 11)).off + 4,none⟩ = some (.int .i64 ((a_c l0_1 (ji10)).f4)) ∧ w'.cell? ⟨(ad112.add (((ji10)).toNat * 11)).block,(ad112.add (((ji10)).toNat * 11)).off + 5,none⟩ = some (.bool ((a_c l0_1 (ji10)).f5)) ∧ w'.cell? ⟨(ad112.add (((ji10)).toNat * 11)).block,(ad112.add (((ji10)).toNat * 11)).off + 6,none⟩ = some (.bool ((a_c l0_1 (ji10)).f6)) ∧ w'.cell? ⟨(ad112.add (((ji10)).toNat * 11)).block,(ad112.add (((ji10)).toNat * 11)).off + 7,none⟩ = some (.int .u32 ((a_c l0_1 (ji10)).f7)) ∧ w'.cell? ⟨(ad112.add (((ji10)).toNat * 11)).block,(ad112.add (((ji10)).toNat * 11)).off + 8,none⟩ = some (.int .i64 ((a_c l0_1 (ji10)).f8)) ∧ w'.cell? ⟨(ad112.add (((ji10)).toNat * 11)).block,(ad112.add (((ji10)).toNat * 11)).off + 9,none⟩ = some (.int .i64 ((a_c l0_1 (ji10)).f9)) ∧ w'.cell? ⟨(ad112.add (((ji10)).toNat * 11)).block,(ad112.add (((ji10)).toNat * 11)).off + 10,none⟩ = some (.int .i64 ((a_c l0_1 (ji10)).f10))) (ds:=[]) Z1_ (by kernel_rfl) rfl rfl ⟨(a_a a_F.out 0).trans rfl,(a_a a_F.out 1).trans rfl,(a_a a_F.out 2).trans rfl,(a_a a_F.out 3).trans rfl,(a_a a_F.out 4).trans rfl,(a_a a_F.out 5).trans rfl,(a_a a_F.out 6).trans rfl,(a_a a_F.out 7).trans rfl,(a_a a_F.out 8).trans rfl,(a_a a_F.out 9).trans rfl,(a_a a_F.out 10).trans rfl,(a_a b_l.out 0).trans rfl,(a_a b_l.out 1).trans rfl,(a_a b_5.out 0).trans rfl,((HB.out.cell (World.block_lt_of_cell? w _ c_G)).trans c_G),((HB.out.cell (World.block_lt_of_cell? w _ c_F)).trans c_F),((HB.out.cell (World.block_lt_of_cell? w _ c_E)).trans c_E),((HB.out.cell (World.block_lt_of_cell? w _ c_D)).trans c_D),((HB.out.cell (World.block_lt_of_cell? w _ c_C)).trans c_C),((HB.out.cell (World.block_lt_of_cell? w _ c_B)).trans c_B),((HB.out.cell (World.block_lt_of_cell? w _ c_A)).trans c_A),((HB.out.cell (World.block_lt_of_cell? w _ c_z)).trans c_z),((HB.out.cell (World.block_lt_of_cell? w _ c_y)).trans c_y),((HB.out.cell (World.block_lt_of_cell? w _ c_x)).trans c_x),((HB.out.cell (World.block_lt_of_cell? w _ b_7)).trans b_7)⟩ (fun hHeld => ?_);refine b_Q a_G.tab6 a_G.f_W (fun HT_ HW_ => ?_)
    generalize w21.drew = w48 at b_l a_F b_5 HB d_h d_i c_w d_j d_k d_l d_m d_n d_o d_p d_q hHeld ⊢
    refine b_m (i:=0) (N:=some 17) (v:=?_) (a':=?_) Z7_ rfl rfl (a_L HT_.out HW_.out (by kernel_rfl)) (fun _ _ _ h => h) (Or.inl ⟨by rfl,?_⟩) hHeld ?_ ?_
    rotate_left
    ·rintro w' ⟨s0,s1,s2,s3,s4,s5,s6,s7,s8,s9,s10,s11,s12,s13,s14,s15,s16,s17,s18,s19,s20,s21,s22,s23,s24⟩
     go_simp
     with_reducible rfl
    rotate_left
    ·simp only [Act.put,sa_,sb_,sc_,a_r,a_s]
     rfl
    refine one_ (i:=1) (N:=some 18) Z14_ rfl rfl (c_e HT_.out (by kernel_rfl)) (by decide) (fun K hK => ?_)
    refine e_I Try.func53 (by kernel_rfl) rfl #[.agg #[.int .i64 ((a_c l0_1 x10_1).f0),.int .i64 ((a_c l0_1 x10_1).f1),.int .i64 ((a_c l0_1 x10_1).f2),.int .i64 ((a_c l0_1 x10_1).f3),.int .i64 ((a_c l0_1 x10_1).f4),.bool ((a_c l0_1 x10_1).f5),.bool ((a_c l0_1 x10_1).f6),.int .u32 ((a_c l0_1 x10_1).f7),.int .i64 ((a_c l0_1 x10_1).f8),.int .i64 ((a_c l0_1 x10_1).f9),.int .i64 ((a_c l0_1 x10_1).f10)]] (by rfl) rfl rfl (by (try simp only [List.map_toArray,List.map_cons,List.map_nil]);first|done|rfl|(simp only [List.length_drop,List.length_take];rfl)) ?_
    with_reducible refine (a_1.calls k1 ((a_c l0_1 x10_1).f0) ((a_c l0_1 x10_1).f1) ((a_c l0_1 x10_1).f2) ((a_c l0_1 x10_1).f3) ((a_c l0_1 x10_1).f4) ((a_c l0_1 x10_1).f5) ((a_c l0_1 x10_1).f6) ((a_c l0_1 x10_1).f7) ((a_c l0_1 x10_1).f8) ((a_c l0_1 x10_1).f9) ((a_c l0_1 x10_1).f10) true _ A7.out).mono ?_
    rintro e w49 ⟨rfl,hb⟩
    refine ⟨_,rfl,?_⟩
    replace b_l:=a_e.mk (a_l (bup_ b_l.out) hb)
    replace a_F:=a_e.mk (a_l (bup_ a_F.out) hb)
    replace b_5:=a_e.mk (a_l (bup_ b_5.out) hb)
    replace HB:=a_e.mk (a_t (by repeat (first|(with_reducible first|exact HB.out|apply a_g|apply a_f|apply a_h|refine a_d ?_ e_p.out|refine a_d ?_ e_O.out|refine a_d ?_ f_g.out)|exact HB.out)) hb)
    (try clear hb)
    (try clear hb2)
    (try clear hk)
    (try clear hi)
    refine hK.out _ _ ⟨(a_a a_F.out 0).trans rfl,(a_a a_F.out 1).trans rfl,(a_a a_F.out 2).trans rfl,(a_a a_F.out 3).trans rfl,(a_a a_F.out 4).trans rfl,(a_a a_F.out 5).trans rfl,(a_a a_F.out 6).trans rfl,(a_a a_F.out 7).trans rfl,(a_a a_F.out 8).trans rfl,(a_a a_F.out 9).trans rfl,(a_a a_F.out 10).trans rfl,(a_a b_l.out 0).trans rfl,(a_a b_l.out 1).trans rfl,(a_a b_5.out 0).trans rfl,((HB.out.cell (World.block_lt_of_cell? w _ c_G)).trans c_G),((HB.out.cell (World.block_lt_of_cell? w _ c_F)).trans c_F),((HB.out.cell (World.block_lt_of_cell? w _ c_E)).trans c_E),((HB.out.cell (World.block_lt_of_cell? w _ c_D)).trans c_D),((HB.out.cell (World.block_lt_of_cell? w _ c_C)).trans c_C),((HB.out.cell (World.block_lt_of_cell? w _ c_B)).trans c_B),((HB.out.cell (World.block_lt_of_cell? w _ c_A)).trans c_A),((HB.out.cell (World.block_lt_of_cell? w _ c_z)).trans c_z),((HB.out.cell (World.block_lt_of_cell? w _ c_y)).trans c_y),((HB.out.cell (World.block_lt_of_cell? w _ c_x)).trans c_x),((HB.out.cell (World.block_lt_of_cell? w _ b_7)).trans b_7)⟩ (fun hHeld => ?_)
    clear hK K
    refine d_U (a':=?_) ?_ ?_
    rotate_left
    ·show Act.put _ (some 18) _ = _
     simp only [Act.put,sa_,sb_,sc_,a_r,a_s]
     rfl
    refine a_y (i:=2) (N:=some 19) (v:=?_) (a':=?_) Z20_ rfl rfl (a_n HT_.out (by kernel_rfl)) (fun _ _ _ h => h) (Or.inl ⟨by rfl,?_⟩) ?_ ?_
    rotate_left
    ·intro w'
     go_simp
     with_reducible rfl
    rotate_left
    ·simp only [Act.put,sa_,sb_,sc_,a_r,a_s]
     rfl
    refine a_y (i:=3) (N:=some 20) (v:=?_) (a':=?_) Z25_ rfl rfl (a_n HT_.out (by kernel_rfl)) (fun _ _ _ h => h) (Or.inl ⟨by rfl,?_⟩) ?_ ?_
    rotate_left
    ·intro w'
     go_simp
     with_reducible rfl
    rotate_left
    ·simp only [Act.put,sa_,sb_,sc_,a_r,a_s]
     rfl
    refine a_y (i:=4) (N:=some 21) (v:=?_) (a':=?_) Z29_ rfl rfl (a_n HT_.out (by kernel_rfl)) (fun _ _ _ h => h) (Or.inl ⟨by rfl,?_⟩) ?_ ?_
    rotate_left
    ·intro w'
     go_simp
     with_reducible rfl
    rotate_left
    ·simp only [Act.put,sa_,sb_,sc_,a_r,a_s]
     rfl
    refine a_y (i:=5) (N:=some 22) (v:=?_) (a':=?_) Z34_ rfl rfl (a_n HT_.out (by kernel_rfl)) (fun _ _ _ h => h) (Or.inl ⟨by rfl,?_⟩) ?_ ?_
    rotate_left
    ·intro w'
     go_simp
     with_reducible rfl
    rotate_left
    ·simp only [Act.put,sa_,sb_,sc_,a_r,a_s]
     rfl
    refine a_y (i:=6) (N:=some 23) (v:=?_) (a':=?_) Z38_ rfl rfl (a_n HT_.out (by kernel_rfl)) (fun _ _ _ h => h) (Or.inl ⟨by rfl,?_⟩) ?_ ?_
    rotate_left
    ·intro w'
     go_simp
     with_reducible rfl
    rotate_left
    ·simp only [Act.put,sa_,sb_,sc_,a_r,a_s]
     rfl
    refine a_y (i:=7) (N:=some 24) (v:=?_) (a':=?_) Z44_ rfl rfl (a_n HT_.out (by kernel_rfl)) (fun _ _ _ h => h) (Or.inl ⟨by rfl,?_⟩) ?_ ?_
    rotate_left
    ·intro w'
     go_simp
     with_reducible rfl
    rotate_left
    ·simp only [Act.put,sa_,sb_,sc_,a_r,a_s]
     rfl
    refine a_y (i:=9) (N:=some 26) (v:=?_) (a':=?_) Z48_ rfl rfl (a_n HT_.out (by kernel_rfl)) (fun _ _ _ h => h) (Or.inl ⟨by rfl,?_⟩) ?_ ?_
    rotate_left
    ·intro w'
     go_simp
     with_reducible rfl
    rotate_left
    ·simp only [Act.put,sa_,sb_,sc_,a_r,a_s]
     rfl
    refine a_y (i:=10) (N:=some 27) (v:=?_) (a':=?_) Z49_ rfl rfl (a_n HT_.out (by kernel_rfl)) (fun _ _ _ h => h) (Or.inl ⟨by rfl,?_⟩) ?_ ?_
    rotate_left
    ·intro w'
     go_simp
     with_reducible rfl
    rotate_left
    ·simp only [Act.put,sa_,sb_,sc_,a_r,a_s]
     rfl
    refine a_y (i:=14) (N:=some 31) (v:=?_) (a':=?_) Z50_ rfl rfl (a_n HT_.out (by kernel_rfl)) (fun _ _ _ h => h) (Or.inl ⟨by rfl,?_⟩) ?_ ?_
    rotate_left
    ·intro w'
     go_simp
     with_reducible rfl
    rotate_left
    ·simp only [Act.put,sa_,sb_,sc_,a_r,a_s]
     rfl
    refine b_m (i:=8) (N:=some 25) (v:=?_) (a':=?_) Z66_ rfl rfl (a_L HT_.out HW_.out (by kernel_rfl)) (fun _ _ _ h => h) (Or.inl ⟨by rfl,?_⟩) hHeld ?_ ?_
    rotate_left
    ·rintro w' ⟨s0,s1,s2,s3,s4,s5,s6,s7,s8,s9,s10,s11,s12,s13,s14,s15,s16,s17,s18,s19,s20,s21,s22,s23,s24⟩
     go_simp
     with_reducible rfl
    rotate_left
    ·simp only [Act.put,sa_,sb_,sc_,a_r,a_s]
     rfl
    refine a_y (i:=11) (N:=some 28) (v:=?_) (a':=?_) Z72_ rfl rfl (a_n HT_.out (by kernel_rfl)) (fun _ _ _ h => h) (Or.inl ⟨by rfl,?_⟩) ?_ ?_
    rotate_left
    ·intro w'
     go_simp
     with_reducible rfl
    rotate_left
    ·simp only [Act.put,sa_,sb_,sc_,a_r,a_s]
     rfl
    refine a_y (i:=12) (N:=some 29) (v:=?_) (a':=?_) Z78_ rfl rfl (a_n HT_.out (by kernel_rfl)) (fun _ _ _ h => h) (Or.inl ⟨by rfl,?_⟩) ?_ ?_
    rotate_left
    ·intro w'
     go_simp
     with_reducible rfl
    rotate_left
    ·simp only [Act.put,sa_,sb_,sc_,a_r,a_s]
     rfl
    refine b_m (i:=13) (N:=some 30) (v:=?_) (a':=?_) Z83_ rfl rfl (a_L HT_.out HW_.out (by kernel_rfl)) (fun _ _ _ h => h) (Or.inl ⟨by rfl,?_⟩) hHeld ?_ ?_
    rotate_left
    ·rintro w' ⟨s0,s1,s2,s3,s4,s5,s6,s7,s8,s9,s10,s11,s12,s13,s14,s15,s16,s17,s18,s19,s20,s21,s22,s23,s24⟩
     go_simp
     with_reducible rfl
    rotate_left
    ·simp only [Act.put,sa_,sb_,sc_,a_r,a_s]
     rfl
    refine b_m (i:=15) (N:=some 32) (v:=?_) (a':=?_) Z90_ rfl rfl (a_L HT_.out HW_.out (by kernel_rfl)) (fun _ _ _ h => h) (Or.inl ⟨by rfl,?_⟩) hHeld ?_ ?_
    rotate_left
    ·rintro w' ⟨s0,s1,s2,s3,s4,s5,s6,s7,s8,s9,s10,s11,s12,s13,s14,s15,s16,s17,s18,s19,s20,s21,s22,s23,s24⟩
     go_simp
     with_reducible rfl
    rotate_left
    ·simp only [Act.put,sa_,sb_,sc_,a_r,a_s]
     rfl
    refine a_y (i:=16) (N:=some 33) (v:=?_) (a':=?_) Z94_ rfl rfl (a_n HT_.out (by kernel_rfl)) (fun _ _ _ h => h) (Or.inl ⟨by rfl,?_⟩) ?_ ?_
    rotate_left
    ·intro w'
     go_simp
     with_reducible rfl
    rotate_left
    ·simp only [Act.put,sa_,sb_,sc_,a_r,a_s]
     rfl
    refine a_y (i:=17) (N:=some 34) (v:=?_) (a':=?_) Z98_ rfl rfl (a_n HT_.out (by kernel_rfl)) (fun _ _ _ h => h) (Or.inl ⟨by rfl,?_⟩) ?_ ?_
    rotate_left
    ·intro w'
     go_simp
     with_reducible rfl
    rotate_left
    ·simp only [Act.put,sa_,sb_,sc_,a_r,a_s]
     rfl
    refine a_y (i:=18) (N:=some 35) (v:=?_) (a':=?_) l_z rfl rfl (a_n HT_.out (by kernel_rfl)) (fun _ _ _ h => h) (Or.inl ⟨by rfl,?_⟩) ?_ ?_
    rotate_left
    ·intro w'
     go_simp
     with_reducible rfl
    rotate_left
    ·simp only [Act.put,sa_,sb_,sc_,a_r,a_s]
     rfl
    refine a_y (i:=19) (N:=some 36) (v:=?_) (a':=?_) l_w rfl rfl (a_n HT_.out (by kernel_rfl)) (fun _ _ _ h => h) (Or.inl ⟨by rfl,?_⟩) ?_ ?_
    rotate_left
    ·intro w'
     go_simp
     with_reducible rfl
    rotate_left
    ·simp only [Act.put,sa_,sb_,sc_,a_r,a_s]
     rfl
    refine a_y (i:=20) (N:=some 37) (v:=?_) (a':=?_) l_E rfl rfl (a_n HT_.out (by kernel_rfl)) (fun _ _ _ h => h) (Or.inl ⟨by rfl,?_⟩) ?_ ?_
    rotate_left
    ·intro w'
     go_simp
     with_reducible rfl
    rotate_left
    ·simp only [Act.put,sa_,sb_,sc_,a_r,a_s]
     rfl
    refine a_y (i:=24) (N:=some 41) (v:=?_) (a':=?_) o_b rfl rfl (a_n HT_.out (by kernel_rfl)) (fun _ _ _ h => h) (Or.inl ⟨by rfl,?_⟩) ?_ ?_
    rotate_left
    ·intro w'
     go_simp
     with_reducible rfl
    rotate_left
    ·simp only [Act.put,sa_,sb_,sc_,a_r,a_s]
     rfl
    refine b_m (i:=21) (N:=some 38) (v:=?_) (a':=?_) n_6 rfl rfl (a_L HT_.out HW_.out (by kernel_rfl)) (fun _ _ _ h => h) (Or.inl ⟨by rfl,?_⟩) hHeld ?_ ?_
    rotate_left
    ·rintro w' ⟨s0,s1,s2,s3,s4,s5,s6,s7,s8,s9,s10,s11,s12,s13,s14,s15,s16,s17,s18,s19,s20,s21,s22,s23,s24⟩
     go_simp
     with_reducible rfl
    rotate_left
    ·simp only [Act.put,sa_,sb_,sc_,a_r,a_s]
     rfl
    refine b_m (i:=22) (N:=some 39) (v:=?_) (a':=?_) n_4 rfl rfl (a_L HT_.out HW_.out (by kernel_rfl)) (fun _ _ _ h => h) (Or.inl ⟨by rfl,?_⟩) hHeld ?_ ?_
    rotate_left
    ·rintro w' ⟨s0,s1,s2,s3,s4,s5,s6,s7,s8,s9,s10,s11,s12,s13,s14,s15,s16,s17,s18,s19,s20,s21,s22,s23,s24⟩
     go_simp
     with_reducible rfl
    rotate_left
    ·simp only [Act.put,sa_,sb_,sc_,a_r,a_s]
     rfl
    refine b_m (i:=25) (N:=some 42) (v:=?_) (a':=?_) n_Y rfl rfl (a_L HT_.out HW_.out (by kernel_rfl)) (fun _ _ _ h => h) (Or.inl ⟨by rfl,?_⟩) hHeld ?_ ?_
    rotate_left
    ·rintro w' ⟨s0,s1,s2,s3,s4,s5,s6,s7,s8,s9,s10,s11,s12,s13,s14,s15,s16,s17,s18,s19,s20,s21,s22,s23,s24⟩
     go_simp
     with_reducible rfl
    rotate_left
    ·simp only [Act.put,sa_,sb_,sc_,a_r,a_s]
     rfl
    refine one_ (i:=23) (N:=some 40) l_I rfl rfl (c_e HT_.out (by kernel_rfl)) (by decide) (fun K hK => ?_)
    refine e_I Try.func38 (by kernel_rfl) rfl #[.slice (some ad112) l0_1.length c0_1,.func (.func 51) #[] #[.pointer (some ⟨b_e,0,none⟩)]] (by rfl) rfl rfl (by (try simp only [List.map_toArray,List.map_cons,List.map_nil]);first|done|rfl|(simp only [List.length_drop,List.length_take];rfl)) ?_
    with_reducible refine (b_k.calls _ _ l0_1 b_e ((a_c l0_1 x10_1).f0) ((a_c l0_1 x10_1).f1) ((a_c l0_1 x10_1).f2) ((a_c l0_1 x10_1).f3) ((a_c l0_1 x10_1).f4) ((a_c l0_1 x10_1).f5) ((a_c l0_1 x10_1).f6) ((a_c l0_1 x10_1).f7) ((a_c l0_1 x10_1).f8) ((a_c l0_1 x10_1).f9) ((a_c l0_1 x10_1).f10) t117 _ ?side1 ?side2 ?side3 A24.out).mono ?_
    (case side1 => repeat (first|exact (Kd.b_f e_o.out HB.out)|(with_reducible refine Kd.a_9 ?_ _)|(with_reducible refine Kd.a_8 ?_ _)|(with_reducible refine Kd.b_i ?_)))
    (case side2 => exact g_I.out)
    (case side3 => exact (bup_ a_F.out))
    rintro e w50 ⟨rfl,hb⟩
    refine ⟨_,rfl,?_⟩
    replace b_l:=a_e.mk (a_l (bup_ b_l.out) hb)
    replace a_F:=a_e.mk (a_l (bup_ a_F.out) hb)
    replace b_5:=a_e.mk (a_l (bup_ b_5.out) hb)
    replace HB:=a_e.mk (a_t (by repeat (first|(with_reducible first|exact HB.out|apply a_g|apply a_f|apply a_h|refine a_d ?_ e_p.out|refine a_d ?_ e_O.out|refine a_d ?_ f_g.out)|exact HB.out)) hb)
    (try clear hb)
    (try clear hb2)
    (try clear hk)
    (try clear hi)
    refine hK.out _ _ ⟨(a_a a_F.out 0).trans rfl,(a_a a_F.out 1).trans rfl,(a_a a_F.out 2).trans rfl,(a_a a_F.out 3).trans rfl,(a_a a_F.out 4).trans rfl,(a_a a_F.out 5).trans rfl,(a_a a_F.out 6).trans rfl,(a_a a_F.out 7).trans rfl,(a_a a_F.out 8).trans rfl,(a_a a_F.out 9).trans rfl,(a_a a_F.out 10).trans rfl,(a_a b_l.out 0).trans rfl,(a_a b_l.out 1).trans rfl,(a_a b_5.out 0).trans rfl,((HB.out.cell (World.block_lt_of_cell? w _ c_G)).trans c_G),((HB.out.cell (World.block_lt_of_cell? w _ c_F)).trans c_F),((HB.out.cell (World.block_lt_of_cell? w _ c_E)).trans c_E),((HB.out.cell (World.block_lt_of_cell? w _ c_D)).trans c_D),((HB.out.cell (World.block_lt_of_cell? w _ c_C)).trans c_C),((HB.out.cell (World.block_lt_of_cell? w _ c_B)).trans c_B),((HB.out.cell (World.block_lt_of_cell? w _ c_A)).trans c_A),((HB.out.cell (World.block_lt_of_cell? w _ c_z)).trans c_z),((HB.out.cell (World.block_lt_of_cell? w _ c_y)).trans c_y),((HB.out.cell (World.block_lt_of_cell? w _ c_x)).trans c_x),((HB.out.cell (World.block_lt_of_cell? w _ b_7)).trans b_7)⟩ (fun hHeld => ?_)
    clear hK K
    refine d_U (a':=?_) ?_ ?_
    rotate_left
    ·show Act.put _ (some 40) _ = _
     simp only [Act.put,sa_,sb_,sc_,a_r,a_s]
     rfl
    refine a_y (i:=26) (N:=some 43) (v:=?_) (a':=?_) l_p rfl rfl (a_n HT_.out (by kernel_rfl)) (fun _ _ _ h => h) (Or.inl ⟨by rfl,?_⟩) ?_ ?_
    rotate_left
    ·intro w'
     go_simp
     with_reducible rfl
    rotate_left
    ·simp only [Act.put,sa_,sb_,sc_,a_r,a_s]
     rfl
    refine a_y (i:=27) (N:=some 44) (v:=?_) (a':=?_) l_H rfl rfl (a_n HT_.out (by kernel_rfl)) (fun _ _ _ h => h) (Or.inl ⟨by rfl,?_⟩) ?_ ?_
    rotate_left
    ·intro w'
     go_simp
     with_reducible rfl
    rotate_left
    ·simp only [Act.put,sa_,sb_,sc_,a_r,a_s]
     rfl
    refine a_y (i:=28) (N:=some 45) (v:=?_) (a':=?_) l_F rfl rfl (a_n HT_.out (by kernel_rfl)) (fun _ _ _ h => h) (Or.inl ⟨by rfl,?_⟩) ?_ ?_
    rotate_left
    ·intro w'
     go_simp
     with_reducible rfl
    rotate_left
    ·simp only [Act.put,sa_,sb_,sc_,a_r,a_s]
     rfl
    refine a_y (i:=29) (N:=some 46) (v:=?_) (a':=?_) l_o rfl rfl (a_n HT_.out (by kernel_rfl)) (fun _ _ _ h => h) (Or.inl ⟨by rfl,?_⟩) ?_ ?_
    rotate_left
    ·intro w'
     go_simp
     with_reducible rfl
    rotate_left
    ·simp only [Act.put,sa_,sb_,sc_,a_r,a_s]
     rfl
    refine a_y (i:=31) (N:=some 48) (v:=?_) (a':=?_) q_4 rfl rfl (a_n HT_.out (by kernel_rfl)) (fun _ _ _ h => h) (Or.inl ⟨by rfl,?_⟩) ?_ ?_
    rotate_left
    ·intro w'
     go_simp
     with_reducible rfl
    rotate_left
    ·simp only [Act.put,sa_,sb_,sc_,a_r,a_s]
     rfl
    refine a_y (i:=33) (N:=some 50) (v:=?_) (a':=?_) q_O rfl rfl (a_n HT_.out (by kernel_rfl)) (fun _ _ _ h => h) (Or.inl ⟨by rfl,?_⟩) ?_ ?_
    rotate_left
    ·intro w'
     go_simp
     with_reducible rfl
    rotate_left
    ·simp only [Act.put,sa_,sb_,sc_,a_r,a_s]
     rfl
    refine b_m (i:=30) (N:=some 47) (v:=?_) (a':=?_) r_h rfl rfl (a_L HT_.out HW_.out (by kernel_rfl)) (fun _ _ _ h => h) (Or.inl ⟨by rfl,?_⟩) hHeld ?_ ?_
    rotate_left
    ·rintro w' ⟨s0,s1,s2,s3,s4,s5,s6,s7,s8,s9,s10,s11,s12,s13,s14,s15,s16,s17,s18,s19,s20,s21,s22,s23,s24⟩
     go_simp
     with_reducible rfl
    rotate_left
    ·simp only [Act.put,sa_,sb_,sc_,a_r,a_s]
     rfl
    refine b_m (i:=34) (N:=some 51) (v:=?_) (a':=?_) r_e rfl rfl (a_L HT_.out HW_.out (by kernel_rfl)) (fun _ _ _ h => h) (Or.inl ⟨by rfl,?_⟩) hHeld ?_ ?_
    rotate_left
    ·rintro w' ⟨s0,s1,s2,s3,s4,s5,s6,s7,s8,s9,s10,s11,s12,s13,s14,s15,s16,s17,s18,s19,s20,s21,s22,s23,s24⟩
     go_simp
     with_reducible rfl
    rotate_left
    ·simp only [Act.put,sa_,sb_,sc_,a_r,a_s]
     rfl
    refine one_ (i:=32) (N:=some 49) l_q rfl rfl (c_e HT_.out (by kernel_rfl)) (by decide) (fun K hK => ?_)
    refine e_I Try.func38 (by kernel_rfl) rfl #[.slice (some ad112) l0_1.length c0_1,.func (.func 52) #[] #[.pointer (some ⟨f_f,0,none⟩),.pointer (some ⟨b_e,0,none⟩)]] (by rfl) rfl rfl (by (try simp only [List.map_toArray,List.map_cons,List.map_nil]);first|done|rfl|(simp only [List.length_drop,List.length_take];rfl)) ?_
    with_reducible refine (b_h.calls _ _ l0_1 f_f b_e b_e ((a_c l0_1 x10_1).f0) ((a_c l0_1 x10_1).f1) ((a_c l0_1 x10_1).f2) ((a_c l0_1 x10_1).f3) ((a_c l0_1 x10_1).f4) ((a_c l0_1 x10_1).f5) ((a_c l0_1 x10_1).f6) ((a_c l0_1 x10_1).f7) ((a_c l0_1 x10_1).f8) ((a_c l0_1 x10_1).f9) ((a_c l0_1 x10_1).f10) ((a_c l0_1 x10_1).f0) ((a_c l0_1 x10_1).f1) ((a_c l0_1 x10_1).f2) ((a_c l0_1 x10_1).f3) ((a_c l0_1 x10_1).f4) ((a_c l0_1 x10_1).f5) ((a_c l0_1 x10_1).f6) ((a_c l0_1 x10_1).f7) ((a_c l0_1 x10_1).f8) ((a_c l0_1 x10_1).f9) ((a_c l0_1 x10_1).f10) t118 _ ?side1 ?side2 ?side3 ?side4 ?side5 A26.out).mono ?_
    (case side1 => repeat (first|exact (Kd.b_f e_o.out HB.out)|(with_reducible refine Kd.a_9 ?_ _)|(with_reducible refine Kd.a_8 ?_ _)|(with_reducible refine Kd.b_i ?_)))
    (case side2 => exact g_I.out)
    (case side3 => exact (bup_ b_5.out))
    (case side4 => exact (bup_ a_F.out))
    (case side5 => exact (bup_ a_F.out))
    rintro e w51 ⟨rfl,hb⟩
    refine ⟨_,rfl,?_⟩
    replace b_l:=a_e.mk (a_l (bup_ b_l.out) hb)
    replace a_F:=a_e.mk (a_l (bup_ a_F.out) hb)
    replace b_5:=a_e.mk (a_l (bup_ b_5.out) hb)
    replace HB:=a_e.mk (a_t (by repeat (first|(with_reducible first|exact HB.out|apply a_g|apply a_f|apply a_h|refine a_d ?_ e_p.out|refine a_d ?_ e_O.out|refine a_d ?_ f_g.out)|exact HB.out)) hb)
    (try clear hb)
    (try clear hb2)
    (try clear hk)
    (try clear hi)
    refine hK.out _ _ ⟨(a_a a_F.out 0).trans rfl,(a_a a_F.out 1).trans rfl,(a_a a_F.out 2).trans rfl,(a_a a_F.out 3).trans rfl,(a_a a_F.out 4).trans rfl,(a_a a_F.out 5).trans rfl,(a_a a_F.out 6).trans rfl,(a_a a_F.out 7).trans rfl,(a_a a_F.out 8).trans rfl,(a_a a_F.out 9).trans rfl,(a_a a_F.out 10).trans rfl,(a_a b_l.out 0).trans rfl,(a_a b_l.out 1).trans rfl,(a_a b_5.out 0).trans rfl,((HB.out.cell (World.block_lt_of_cell? w _ c_G)).trans c_G),((HB.out.cell (World.block_lt_of_cell? w _ c_F)).trans c_F),((HB.out.cell (World.block_lt_of_cell? w _ c_E)).trans c_E),((HB.out.cell (World.block_lt_of_cell? w _ c_D)).trans c_D),((HB.out.cell (World.block_lt_of_cell? w _ c_C)).trans c_C),((HB.out.cell (World.block_lt_of_cell? w _ c_B)).trans c_B),((HB.out.cell (World.block_lt_of_cell? w _ c_A)).trans c_A),((HB.out.cell (World.block_lt_of_cell? w _ c_z)).trans c_z),((HB.out.cell (World.block_lt_of_cell? w _ c_y)).trans c_y),((HB.out.cell (World.block_lt_of_cell? w _ c_x)).trans c_x),((HB.out.cell (World.block_lt_of_cell? w _ b_7)).trans b_7)⟩ (fun hHeld => ?_)
    clear hK K
    refine d_U (a':=?_) ?_ ?_
    rotate_left
    ·show Act.put _ (some 49) _ = _
     simp only [Act.put,sa_,sb_,sc_,a_r,a_s]
     rfl
    refine a_y (i:=35) (N:=some 52) (v:=?_) (a':=?_) l_t rfl rfl (a_n HT_.out (by kernel_rfl)) (fun _ _ _ h => h) (Or.inl ⟨by rfl,?_⟩) ?_ ?_
    rotate_left
    ·intro w'
     go_simp
     with_reducible rfl
    rotate_left
    ·simp only [Act.put,sa_,sb_,sc_,a_r,a_s]
     rfl
    refine a_y (i:=36) (N:=some 53) (v:=?_) (a':=?_) l_B rfl rfl (a_n HT_.out (by kernel_rfl)) (fun _ _ _ h => h) (Or.inl ⟨by rfl,?_⟩) ?_ ?_
    rotate_left
    ·intro w'
     go_simp
     with_reducible rfl
    rotate_left
    ·simp only [Act.put,sa_,sb_,sc_,a_r,a_s]
     rfl
    refine e_T (c_u HT_.out (by kernel_rfl)) ?_
    try go_wp2
    go_ret
    exact ⟨by first|rfl|(simp [a_w,a_x] <;> rfl)|(simp only [← hji10];first|rfl|(simp [a_w,a_x] <;> rfl))|(simp [*, a_w,a_x] <;> rfl),by repeat (first|(with_reducible first|exact HB.out|apply a_g|apply a_f|apply a_h|refine a_d ?_ e_p.out|refine a_d ?_ e_O.out|refine a_d ?_ f_g.out)|exact HB.out)⟩
   rw [if_pos c27] at H
   have c27b0 : (t118 == ((a_c l0_1 x10_1).f9)) = true:=beq_iff_eq.mpr c27
   have c27b1 : (t118 != ((a_c l0_1 x10_1).f9)) = false:=bne_eq_false_iff_eq.mpr c27
   clear c27
   have H':=a_e.mk H
   clear H
   have p116 : 0 ≤ ((ji10) : Int):=of_decide_eq_true (by first|(with_reducible assumption)|assumption)
   have q116 : (ji10) < (l0_1.length : Int):=of_decide_eq_true (by first|(with_reducible assumption)|assumption)
   obtain ⟨ad116,e116,d_h,d_i,d_j,d_k,d_l,d_m,d_n,d_o,d_p,d_q,c_w⟩:=e_h e_o.out (ji10) p116 q116
   have b_7:=c_w
   have c_x:=d_q
   have c_y:=d_p
   have c_z:=d_o
   have c_A:=d_n
   have c_B:=d_m
   have c_C:=d_l
   have c_D:=d_k
   have c_E:=d_j
   have c_F:=d_i
   have c_G:=d_h
   obtain rfl : ad112 = ad116:=(by injection e116)
   replace d_h:=(HB.out.cell (World.block_lt_of_cell? w _ d_h)).trans d_h
   replace d_i:=(HB.out.cell (World.block_lt_of_cell? w _ d_i)).trans d_i
   replace d_j:=(HB.out.cell (World.block_lt_of_cell? w _ d_j)).trans d_j
   replace d_k:=(HB.out.cell (World.block_lt_of_cell? w _ d_k)).trans d_k
   replace d_l:=(HB.out.cell (World.block_lt_of_cell? w _ d_l)).trans d_l
   replace d_m:=(HB.out.cell (World.block_lt_of_cell? w _ d_m)).trans d_m
   replace d_n:=(HB.out.cell (World.block_lt_of_cell? w _ d_n)).trans d_n
   replace d_o:=(HB.out.cell (World.block_lt_of_cell? w _ d_o)).trans d_o
   replace d_p:=(HB.out.cell (World.block_lt_of_cell? w _ d_p)).trans d_p
   replace d_q:=(HB.out.cell (World.block_lt_of_cell? w _ d_q)).trans d_q
   replace c_w:=(HB.out.cell (World.block_lt_of_cell? w _ c_w)).trans c_w
   replace p116:=eq_true p116
   replace q116:=eq_true q116
   refine d_H (n:=37) (S:=fun w' => w'.cell? ⟨b_e,0,none⟩ = some (.int .i64 ((a_c l0_1 x10_1).f0)) ∧ w'.cell? ⟨b_e,1,none⟩ = some (.int .i64 ((a_c l0_1 x10_1).f1)) ∧ w'.cell? ⟨b_e,2,none⟩ = some (.int .i64 ((a_c l0_1 x10_1).f2)) ∧ w'.cell? ⟨b_e,3,none⟩ = some (.int .i64 ((a_c l0_1 x10_1).f3)) ∧ w'.cell? ⟨b_e,4,none⟩ = some (.int .i64 ((a_c l0_1 x10_1).f4)) ∧ w'.cell? ⟨b_e,5,none⟩ = some (.bool ((a_c l0_1 x10_1).f5)) ∧ w'.cell? ⟨b_e,6,none⟩ = some (.bool ((a_c l0_1 x10_1).f6)) ∧ w'.cell? ⟨b_e,7,none⟩ = some (.int .u32 ((a_c l0_1 x10_1).f7)) ∧ w'.cell? ⟨b_e,8,none⟩ = some (.int .i64 ((a_c l0_1 x10_1).f8)) ∧ w'.cell? ⟨b_e,9,none⟩ = some (.int .i64 ((a_c l0_1 x10_1).f9)) ∧ w'.cell? ⟨b_e,10,none⟩ = some (.int .i64 ((a_c l0_1 x10_1).f10)) ∧ w'.cell? ⟨e_K,0,none⟩ = some (.int .i64 a0_0) ∧ w'.cell? ⟨e_K,1,none⟩ = some (.slice (some ad112) l0_1.length c0_1) ∧ w'.cell? ⟨f_f,0,none⟩ = some (.func (.func 51) #[] #[.pointer (some ⟨b_e,0,none⟩)]) ∧ w'.cell? (ad112.add (((ji10)).toNat * 11)) = some (.int .i64 ((a_c l0_1 (ji10)).f0)) ∧ w'.cell? ⟨(ad112.add (((ji10)).toNat * 11)).block,(ad112.add (((ji10)).toNat * 11)).off + 1,none⟩ = some (.int .i64 ((a_c l0_1 (ji10)).f1)) ∧ w'.cell? ⟨(ad112.add (((ji10)).toNat * 11)).block,(ad112.add (((ji10)).toNat * 11)).off + 2,none⟩ = some (.int .i64 ((a_c l0_1 (ji10)).f2)) ∧ w'.cell? ⟨(ad112.add (((ji10)).toNat * 11)).block,(ad112.add (((ji10)).toNat * 11)).off + 3,none⟩ = some (.int .i64 ((a_c l0_1 (ji10)).f3)) ∧ w'.cell? ⟨(ad112.add (((ji10)).toNat * 11)).block,(ad112.add (((ji10)).toNat * 11)).off + 4,none⟩ = some (.int .i64 ((a_c l0_1 (ji10)).f4)) ∧ w'.cell? ⟨(ad112.add (((ji10)).toNat * 11)).block,(ad112.add (((ji10)).toNat * 11)).off + 5,none⟩ = some (.bool ((a_c l0_1 (ji10)).f5)) ∧ w'.cell? ⟨(ad112.add (((ji10)).toNat * 11)).block,(ad112.add (((ji10)).toNat * 11)).off + 6,none⟩ = some (.bool ((a_c l0_1 (ji10)).f6)) ∧ w'.cell? ⟨(ad112.add (((ji10)).toNat * 11)).block,(ad112.add (((ji10)).toNat * 11)).off + 7,none⟩ = some (.int .u32 ((a_c l0_1 (ji10)).f7)) ∧ w'.cell? ⟨(ad112.add (((ji10)).toNat * 11)).block,(ad112.add (((ji10)).toNat * 11)).off + 8,none⟩ = some (.int .i64 ((a_c l0_1 (ji10)).f8)) ∧ w'.cell? ⟨(ad112.add (((ji10)).toNat * 11)).block,(ad112.add (((ji10)).toNat * 11)).off + 9,none⟩ = some (.int .i64 ((a_c l0_1 (ji10)).f9)) ∧ w'.cell? ⟨(ad112.add (((ji10)).toNat * 11)).block,(ad112.add (((ji10)).toNat * 11)).off + 10,none⟩ = some (.int .i64 ((a_c l0_1 (ji10)).f10))) (ds:=[]) Z1_ (by kernel_rfl) rfl rfl ⟨(a_a a_F.out 0).trans rfl,(a_a a_F.out 1).trans rfl,(a_a a_F.out 2).trans rfl,(a_a a_F.out 3).trans rfl,(a_a a_F.out 4).trans rfl,(a_a a_F.out 5).trans rfl,(a_a a_F.out 6).trans rfl,(a_a a_F.out 7).trans rfl,(a_a a_F.out 8).trans rfl,(a_a a_F.out 9).trans rfl,(a_a a_F.out 10).trans rfl,(a_a b_l.out 0).trans rfl,(a_a b_l.out 1).trans rfl,(a_a b_5.out 0).trans rfl,((HB.out.cell (World.block_lt_of_cell? w _ c_G)).trans c_G),((HB.out.cell (World.block_lt_of_cell? w _ c_F)).trans c_F),((HB.out.cell (World.block_lt_of_cell? w _ c_E)).trans c_E),((HB.out.cell (World.block_lt_of_cell? w _ c_D)).trans c_D),((HB.out.cell (World.block_lt_of_cell? w _ c_C)).trans c_C),((HB.out.cell (World.block_lt_of_cell? w _ c_B)).trans c_B),((HB.out.cell (World.block_lt_of_cell? w _ c_A)).trans c_A),((HB.out.cell (World.block_lt_of_cell? w _ c_z)).trans c_z),((HB.out.cell (World.block_lt_of_cell? w _ c_y)).trans c_y),((HB.out.cell (World.block_lt_of_cell? w _ c_x)).trans c_x),((HB.out.cell (World.block_lt_of_cell? w _ b_7)).trans b_7)⟩ (fun hHeld => ?_);refine b_Q a_G.tab6 a_G.f_W (fun HT_ HW_ => ?_)
   generalize w21.drew = w36 at b_l a_F b_5 HB d_h d_i c_w d_j d_k d_l d_m d_n d_o d_p d_q hHeld ⊢
   refine b_m (i:=0) (N:=some 17) (v:=?_) (a':=?_) Z7_ rfl rfl (a_L HT_.out HW_.out (by kernel_rfl)) (fun _ _ _ h => h) (Or.inl ⟨by rfl,?_⟩) hHeld ?_ ?_
   rotate_left
   ·rintro w' ⟨s0,s1,s2,s3,s4,s5,s6,s7,s8,s9,s10,s11,s12,s13,s14,s15,s16,s17,s18,s19,s20,s21,s22,s23,s24⟩
    go_simp
    with_reducible rfl
   rotate_left
   ·simp only [Act.put,sa_,sb_,sc_,a_r,a_s]
    rfl
   refine one_ (i:=1) (N:=some 18) Z14_ rfl rfl (c_e HT_.out (by kernel_rfl)) (by decide) (fun K hK => ?_)
   refine e_I Try.func53 (by kernel_rfl) rfl #[.agg #[.int .i64 ((a_c l0_1 x10_1).f0),.int .i64 ((a_c l0_1 x10_1).f1),.int .i64 ((a_c l0_1 x10_1).f2),.int .i64 ((a_c l0_1 x10_1).f3),.int .i64 ((a_c l0_1 x10_1).f4),.bool ((a_c l0_1 x10_1).f5),.bool ((a_c l0_1 x10_1).f6),.int .u32 ((a_c l0_1 x10_1).f7),.int .i64 ((a_c l0_1 x10_1).f8),.int .i64 ((a_c l0_1 x10_1).f9),.int .i64 ((a_c l0_1 x10_1).f10)]] (by rfl) rfl rfl (by (try simp only [List.map_toArray,List.map_cons,List.map_nil]);first|done|rfl|(simp only [List.length_drop,List.length_take];rfl)) ?_
   with_reducible refine (a_1.calls k1 ((a_c l0_1 x10_1).f0) ((a_c l0_1 x10_1).f1) ((a_c l0_1 x10_1).f2) ((a_c l0_1 x10_1).f3) ((a_c l0_1 x10_1).f4) ((a_c l0_1 x10_1).f5) ((a_c l0_1 x10_1).f6) ((a_c l0_1 x10_1).f7) ((a_c l0_1 x10_1).f8) ((a_c l0_1 x10_1).f9) ((a_c l0_1 x10_1).f10) true _ A7.out).mono ?_
   rintro e w37 ⟨rfl,hb⟩
   refine ⟨_,rfl,?_⟩
   replace b_l:=a_e.mk (a_l (bup_ b_l.out) hb)
   replace a_F:=a_e.mk (a_l (bup_ a_F.out) hb)
   replace b_5:=a_e.mk (a_l (bup_ b_5.out) hb)
   replace HB:=a_e.mk (a_t (by repeat (first|(with_reducible first|exact HB.out|apply a_g|apply a_f|apply a_h|refine a_d ?_ e_p.out|refine a_d ?_ e_O.out|refine a_d ?_ f_g.out)|exact HB.out)) hb)
   (try clear hb)
   (try clear hb2)
   (try clear hk)
   (try clear hi)
   refine hK.out _ _ ⟨(a_a a_F.out 0).trans rfl,(a_a a_F.out 1).trans rfl,(a_a a_F.out 2).trans rfl,(a_a a_F.out 3).trans rfl,(a_a a_F.out 4).trans rfl,(a_a a_F.out 5).trans rfl,(a_a a_F.out 6).trans rfl,(a_a a_F.out 7).trans rfl,(a_a a_F.out 8).trans rfl,(a_a a_F.out 9).trans rfl,(a_a a_F.out 10).trans rfl,(a_a b_l.out 0).trans rfl,(a_a b_l.out 1).trans rfl,(a_a b_5.out 0).trans rfl,((HB.out.cell (World.block_lt_of_cell? w _ c_G)).trans c_G),((HB.out.cell (World.block_lt_of_cell? w _ c_F)).trans c_F),((HB.out.cell (World.block_lt_of_cell? w _ c_E)).trans c_E),((HB.out.cell (World.block_lt_of_cell? w _ c_D)).trans c_D),((HB.out.cell (World.block_lt_of_cell? w _ c_C)).trans c_C),((HB.out.cell (World.block_lt_of_cell? w _ c_B)).trans c_B),((HB.out.cell (World.block_lt_of_cell? w _ c_A)).trans c_A),((HB.out.cell (World.block_lt_of_cell? w _ c_z)).trans c_z),((HB.out.cell (World.block_lt_of_cell? w _ c_y)).trans c_y),((HB.out.cell (World.block_lt_of_cell? w _ c_x)).trans c_x),((HB.out.cell (World.block_lt_of_cell? w _ b_7)).trans b_7)⟩ (fun hHeld => ?_)
   clear hK K
   refine d_U (a':=?_) ?_ ?_
   rotate_left
   ·show Act.put _ (some 18) _ = _
    simp only [Act.put,sa_,sb_,sc_,a_r,a_s]
    rfl
   refine a_y (i:=2) (N:=some 19) (v:=?_) (a':=?_) Z20_ rfl rfl (a_n HT_.out (by kernel_rfl)) (fun _ _ _ h => h) (Or.inl ⟨by rfl,?_⟩) ?_ ?_
   rotate_left
   ·intro w'
    go_simp
    with_reducible rfl
   rotate_left
   ·simp only [Act.put,sa_,sb_,sc_,a_r,a_s]
    rfl
   refine a_y (i:=3) (N:=some 20) (v:=?_) (a':=?_) Z25_ rfl rfl (a_n HT_.out (by kernel_rfl)) (fun _ _ _ h => h) (Or.inl ⟨by rfl,?_⟩) ?_ ?_
   rotate_left
   ·intro w'
    go_simp
    with_reducible rfl
   rotate_left
   ·simp only [Act.put,sa_,sb_,sc_,a_r,a_s]
    rfl
   refine a_y (i:=4) (N:=some 21) (v:=?_) (a':=?_) Z29_ rfl rfl (a_n HT_.out (by kernel_rfl)) (fun _ _ _ h => h) (Or.inl ⟨by rfl,?_⟩) ?_ ?_
   rotate_left
   ·intro w'
    go_simp
    with_reducible rfl
   rotate_left
   ·simp only [Act.put,sa_,sb_,sc_,a_r,a_s]
    rfl
   refine a_y (i:=5) (N:=some 22) (v:=?_) (a':=?_) Z34_ rfl rfl (a_n HT_.out (by kernel_rfl)) (fun _ _ _ h => h) (Or.inl ⟨by rfl,?_⟩) ?_ ?_
   rotate_left
   ·intro w'
    go_simp
    with_reducible rfl
   rotate_left
   ·simp only [Act.put,sa_,sb_,sc_,a_r,a_s]
    rfl
   refine a_y (i:=6) (N:=some 23) (v:=?_) (a':=?_) Z38_ rfl rfl (a_n HT_.out (by kernel_rfl)) (fun _ _ _ h => h) (Or.inl ⟨by rfl,?_⟩) ?_ ?_
   rotate_left
   ·intro w'
    go_simp
    with_reducible rfl
   rotate_left
   ·simp only [Act.put,sa_,sb_,sc_,a_r,a_s]
    rfl
   refine a_y (i:=7) (N:=some 24) (v:=?_) (a':=?_) Z44_ rfl rfl (a_n HT_.out (by kernel_rfl)) (fun _ _ _ h => h) (Or.inl ⟨by rfl,?_⟩) ?_ ?_
   rotate_left
   ·intro w'
    go_simp
    with_reducible rfl
   rotate_left
   ·simp only [Act.put,sa_,sb_,sc_,a_r,a_s]
    rfl
   refine a_y (i:=9) (N:=some 26) (v:=?_) (a':=?_) Z48_ rfl rfl (a_n HT_.out (by kernel_rfl)) (fun _ _ _ h => h) (Or.inl ⟨by rfl,?_⟩) ?_ ?_
   rotate_left
   ·intro w'
    go_simp
    with_reducible rfl
   rotate_left
   ·simp only [Act.put,sa_,sb_,sc_,a_r,a_s]
    rfl
   refine a_y (i:=10) (N:=some 27) (v:=?_) (a':=?_) Z49_ rfl rfl (a_n HT_.out (by kernel_rfl)) (fun _ _ _ h => h) (Or.inl ⟨by rfl,?_⟩) ?_ ?_
   rotate_left
   ·intro w'
    go_simp
    with_reducible rfl
   rotate_left
   ·simp only [Act.put,sa_,sb_,sc_,a_r,a_s]
    rfl
   refine a_y (i:=14) (N:=some 31) (v:=?_) (a':=?_) Z50_ rfl rfl (a_n HT_.out (by kernel_rfl)) (fun _ _ _ h => h) (Or.inl ⟨by rfl,?_⟩) ?_ ?_
   rotate_left
   ·intro w'
    go_simp
    with_reducible rfl
   rotate_left
   ·simp only [Act.put,sa_,sb_,sc_,a_r,a_s]
    rfl
   refine b_m (i:=8) (N:=some 25) (v:=?_) (a':=?_) Z66_ rfl rfl (a_L HT_.out HW_.out (by kernel_rfl)) (fun _ _ _ h => h) (Or.inl ⟨by rfl,?_⟩) hHeld ?_ ?_
   rotate_left
   ·rintro w' ⟨s0,s1,s2,s3,s4,s5,s6,s7,s8,s9,s10,s11,s12,s13,s14,s15,s16,s17,s18,s19,s20,s21,s22,s23,s24⟩
    go_simp
    with_reducible rfl
   rotate_left
   ·simp only [Act.put,sa_,sb_,sc_,a_r,a_s]
    rfl
   refine a_y (i:=11) (N:=some 28) (v:=?_) (a':=?_) Z72_ rfl rfl (a_n HT_.out (by kernel_rfl)) (fun _ _ _ h => h) (Or.inl ⟨by rfl,?_⟩) ?_ ?_
   rotate_left
   ·intro w'
    go_simp
    with_reducible rfl
   rotate_left
   ·simp only [Act.put,sa_,sb_,sc_,a_r,a_s]
    rfl
   refine a_y (i:=12) (N:=some 29) (v:=?_) (a':=?_) Z78_ rfl rfl (a_n HT_.out (by kernel_rfl)) (fun _ _ _ h => h) (Or.inl ⟨by rfl,?_⟩) ?_ ?_
   rotate_left
   ·intro w'
    go_simp
    with_reducible rfl
   rotate_left
   ·simp only [Act.put,sa_,sb_,sc_,a_r,a_s]
    rfl
   refine b_m (i:=13) (N:=some 30) (v:=?_) (a':=?_) Z83_ rfl rfl (a_L HT_.out HW_.out (by kernel_rfl)) (fun _ _ _ h => h) (Or.inl ⟨by rfl,?_⟩) hHeld ?_ ?_
   rotate_left
   ·rintro w' ⟨s0,s1,s2,s3,s4,s5,s6,s7,s8,s9,s10,s11,s12,s13,s14,s15,s16,s17,s18,s19,s20,s21,s22,s23,s24⟩
    go_simp
    with_reducible rfl
   rotate_left
   ·simp only [Act.put,sa_,sb_,sc_,a_r,a_s]
    rfl
   refine b_m (i:=15) (N:=some 32) (v:=?_) (a':=?_) Z90_ rfl rfl (a_L HT_.out HW_.out (by kernel_rfl)) (fun _ _ _ h => h) (Or.inl ⟨by rfl,?_⟩) hHeld ?_ ?_
   rotate_left
   ·rintro w' ⟨s0,s1,s2,s3,s4,s5,s6,s7,s8,s9,s10,s11,s12,s13,s14,s15,s16,s17,s18,s19,s20,s21,s22,s23,s24⟩
    go_simp
    with_reducible rfl
   rotate_left
   ·simp only [Act.put,sa_,sb_,sc_,a_r,a_s]
    rfl
   refine a_y (i:=16) (N:=some 33) (v:=?_) (a':=?_) Z94_ rfl rfl (a_n HT_.out (by kernel_rfl)) (fun _ _ _ h => h) (Or.inl ⟨by rfl,?_⟩) ?_ ?_
   rotate_left
   ·intro w'
    go_simp
    with_reducible rfl
   rotate_left
   ·simp only [Act.put,sa_,sb_,sc_,a_r,a_s]
    rfl
   refine a_y (i:=17) (N:=some 34) (v:=?_) (a':=?_) Z98_ rfl rfl (a_n HT_.out (by kernel_rfl)) (fun _ _ _ h => h) (Or.inl ⟨by rfl,?_⟩) ?_ ?_
   rotate_left
   ·intro w'
    go_simp
    with_reducible rfl
   rotate_left
   ·simp only [Act.put,sa_,sb_,sc_,a_r,a_s]
    rfl
   refine a_y (i:=18) (N:=some 35) (v:=?_) (a':=?_) l_z rfl rfl (a_n HT_.out (by kernel_rfl)) (fun _ _ _ h => h) (Or.inl ⟨by rfl,?_⟩) ?_ ?_
   rotate_left
   ·intro w'
    go_simp
    with_reducible rfl
   rotate_left
   ·simp only [Act.put,sa_,sb_,sc_,a_r,a_s]
    rfl
   refine a_y (i:=19) (N:=some 36) (v:=?_) (a':=?_) l_w rfl rfl (a_n HT_.out (by kernel_rfl)) (fun _ _ _ h => h) (Or.inl ⟨by rfl,?_⟩) ?_ ?_
   rotate_left
   ·intro w'
    go_simp
    with_reducible rfl
   rotate_left
   ·simp only [Act.put,sa_,sb_,sc_,a_r,a_s]
    rfl
   refine a_y (i:=20) (N:=some 37) (v:=?_) (a':=?_) l_E rfl rfl (a_n HT_.out (by kernel_rfl)) (fun _ _ _ h => h) (Or.inl ⟨by rfl,?_⟩) ?_ ?_
   rotate_left
   ·intro w'
    go_simp
    with_reducible rfl
   rotate_left
   ·simp only [Act.put,sa_,sb_,sc_,a_r,a_s]
    rfl
   refine a_y (i:=24) (N:=some 41) (v:=?_) (a':=?_) o_b rfl rfl (a_n HT_.out (by kernel_rfl)) (fun _ _ _ h => h) (Or.inl ⟨by rfl,?_⟩) ?_ ?_
   rotate_left
   ·intro w'
    go_simp
    with_reducible rfl
   rotate_left
   ·simp only [Act.put,sa_,sb_,sc_,a_r,a_s]
    rfl
   refine b_m (i:=21) (N:=some 38) (v:=?_) (a':=?_) n_6 rfl rfl (a_L HT_.out HW_.out (by kernel_rfl)) (fun _ _ _ h => h) (Or.inl ⟨by rfl,?_⟩) hHeld ?_ ?_
   rotate_left
   ·rintro w' ⟨s0,s1,s2,s3,s4,s5,s6,s7,s8,s9,s10,s11,s12,s13,s14,s15,s16,s17,s18,s19,s20,s21,s22,s23,s24⟩
    go_simp
    with_reducible rfl
   rotate_left
   ·simp only [Act.put,sa_,sb_,sc_,a_r,a_s]
    rfl
   refine b_m (i:=22) (N:=some 39) (v:=?_) (a':=?_) n_4 rfl rfl (a_L HT_.out HW_.out (by kernel_rfl)) (fun _ _ _ h => h) (Or.inl ⟨by rfl,?_⟩) hHeld ?_ ?_
   rotate_left
   ·rintro w' ⟨s0,s1,s2,s3,s4,s5,s6,s7,s8,s9,s10,s11,s12,s13,s14,s15,s16,s17,s18,s19,s20,s21,s22,s23,s24⟩
    go_simp
    with_reducible rfl
   rotate_left
   ·simp only [Act.put,sa_,sb_,sc_,a_r,a_s]
    rfl
   refine b_m (i:=25) (N:=some 42) (v:=?_) (a':=?_) n_Y rfl rfl (a_L HT_.out HW_.out (by kernel_rfl)) (fun _ _ _ h => h) (Or.inl ⟨by rfl,?_⟩) hHeld ?_ ?_
   rotate_left
   ·rintro w' ⟨s0,s1,s2,s3,s4,s5,s6,s7,s8,s9,s10,s11,s12,s13,s14,s15,s16,s17,s18,s19,s20,s21,s22,s23,s24⟩
    go_simp
    with_reducible rfl
   rotate_left
   ·simp only [Act.put,sa_,sb_,sc_,a_r,a_s]
    rfl
   refine one_ (i:=23) (N:=some 40) l_I rfl rfl (c_e HT_.out (by kernel_rfl)) (by decide) (fun K hK => ?_)
   refine e_I Try.func38 (by kernel_rfl) rfl #[.slice (some ad112) l0_1.length c0_1,.func (.func 51) #[] #[.pointer (some ⟨b_e,0,none⟩)]] (by rfl) rfl rfl (by (try simp only [List.map_toArray,List.map_cons,List.map_nil]);first|done|rfl|(simp only [List.length_drop,List.length_take];rfl)) ?_
   with_reducible refine (b_k.calls _ _ l0_1 b_e ((a_c l0_1 x10_1).f0) ((a_c l0_1 x10_1).f1) ((a_c l0_1 x10_1).f2) ((a_c l0_1 x10_1).f3) ((a_c l0_1 x10_1).f4) ((a_c l0_1 x10_1).f5) ((a_c l0_1 x10_1).f6) ((a_c l0_1 x10_1).f7) ((a_c l0_1 x10_1).f8) ((a_c l0_1 x10_1).f9) ((a_c l0_1 x10_1).f10) t117 _ ?side1 ?side2 ?side3 A24.out).mono ?_
   (case side1 => repeat (first|exact (Kd.b_f e_o.out HB.out)|(with_reducible refine Kd.a_9 ?_ _)|(with_reducible refine Kd.a_8 ?_ _)|(with_reducible refine Kd.b_i ?_)))
   (case side2 => exact g_I.out)
   (case side3 => exact (bup_ a_F.out))
   rintro e w38 ⟨rfl,hb⟩
   refine ⟨_,rfl,?_⟩
   replace b_l:=a_e.mk (a_l (bup_ b_l.out) hb)
   replace a_F:=a_e.mk (a_l (bup_ a_F.out) hb)
   replace b_5:=a_e.mk (a_l (bup_ b_5.out) hb)
   replace HB:=a_e.mk (a_t (by repeat (first|(with_reducible first|exact HB.out|apply a_g|apply a_f|apply a_h|refine a_d ?_ e_p.out|refine a_d ?_ e_O.out|refine a_d ?_ f_g.out)|exact HB.out)) hb)
   (try clear hb)
   (try clear hb2)
   (try clear hk)
   (try clear hi)
   refine hK.out _ _ ⟨(a_a a_F.out 0).trans rfl,(a_a a_F.out 1).trans rfl,(a_a a_F.out 2).trans rfl,(a_a a_F.out 3).trans rfl,(a_a a_F.out 4).trans rfl,(a_a a_F.out 5).trans rfl,(a_a a_F.out 6).trans rfl,(a_a a_F.out 7).trans rfl,(a_a a_F.out 8).trans rfl,(a_a a_F.out 9).trans rfl,(a_a a_F.out 10).trans rfl,(a_a b_l.out 0).trans rfl,(a_a b_l.out 1).trans rfl,(a_a b_5.out 0).trans rfl,((HB.out.cell (World.block_lt_of_cell? w _ c_G)).trans c_G),((HB.out.cell (World.block_lt_of_cell? w _ c_F)).trans c_F),((HB.out.cell (World.block_lt_of_cell? w _ c_E)).trans c_E),((HB.out.cell (World.block_lt_of_cell? w _ c_D)).trans c_D),((HB.out.cell (World.block_lt_of_cell? w _ c_C)).trans c_C),((HB.out.cell (World.block_lt_of_cell? w _ c_B)).trans c_B),((HB.out.cell (World.block_lt_of_cell? w _ c_A)).trans c_A),((HB.out.cell (World.block_lt_of_cell? w _ c_z)).trans c_z),((HB.out.cell (World.block_lt_of_cell? w _ c_y)).trans c_y),((HB.out.cell (World.block_lt_of_cell? w _ c_x)).trans c_x),((HB.out.cell (World.block_lt_of_cell? w _ b_7)).trans b_7)⟩ (fun hHeld => ?_)
   clear hK K
   refine d_U (a':=?_) ?_ ?_
   rotate_left
   ·show Act.put _ (some 40) _ = _
    simp only [Act.put,sa_,sb_,sc_,a_r,a_s]
    rfl
   refine a_y (i:=26) (N:=some 43) (v:=?_) (a':=?_) l_p rfl rfl (a_n HT_.out (by kernel_rfl)) (fun _ _ _ h => h) (Or.inl ⟨by rfl,?_⟩) ?_ ?_
   rotate_left
   ·intro w'
    go_simp
    with_reducible rfl
   rotate_left
   ·simp only [Act.put,sa_,sb_,sc_,a_r,a_s]
    rfl
   refine a_y (i:=27) (N:=some 44) (v:=?_) (a':=?_) l_H rfl rfl (a_n HT_.out (by kernel_rfl)) (fun _ _ _ h => h) (Or.inl ⟨by rfl,?_⟩) ?_ ?_
   rotate_left
   ·intro w'
    go_simp
    with_reducible rfl
   rotate_left
   ·simp only [Act.put,sa_,sb_,sc_,a_r,a_s]
    rfl
   refine a_y (i:=28) (N:=some 45) (v:=?_) (a':=?_) l_F rfl rfl (a_n HT_.out (by kernel_rfl)) (fun _ _ _ h => h) (Or.inl ⟨by rfl,?_⟩) ?_ ?_
   rotate_left
   ·intro w'
    go_simp
    with_reducible rfl
   rotate_left
   ·simp only [Act.put,sa_,sb_,sc_,a_r,a_s]
    rfl
   refine a_y (i:=29) (N:=some 46) (v:=?_) (a':=?_) l_o rfl rfl (a_n HT_.out (by kernel_rfl)) (fun _ _ _ h => h) (Or.inl ⟨by rfl,?_⟩) ?_ ?_
   rotate_left
   ·intro w'
    go_simp
    with_reducible rfl
   rotate_left
   ·simp only [Act.put,sa_,sb_,sc_,a_r,a_s]
    rfl
   refine a_y (i:=31) (N:=some 48) (v:=?_) (a':=?_) q_4 rfl rfl (a_n HT_.out (by kernel_rfl)) (fun _ _ _ h => h) (Or.inl ⟨by rfl,?_⟩) ?_ ?_
   rotate_left
   ·intro w'
    go_simp
    with_reducible rfl
   rotate_left
   ·simp only [Act.put,sa_,sb_,sc_,a_r,a_s]
    rfl
   refine a_y (i:=33) (N:=some 50) (v:=?_) (a':=?_) q_O rfl rfl (a_n HT_.out (by kernel_rfl)) (fun _ _ _ h => h) (Or.inl ⟨by rfl,?_⟩) ?_ ?_
   rotate_left
   ·intro w'
    go_simp
    with_reducible rfl
   rotate_left
   ·simp only [Act.put,sa_,sb_,sc_,a_r,a_s]
    rfl
   refine b_m (i:=30) (N:=some 47) (v:=?_) (a':=?_) r_h rfl rfl (a_L HT_.out HW_.out (by kernel_rfl)) (fun _ _ _ h => h) (Or.inl ⟨by rfl,?_⟩) hHeld ?_ ?_
   rotate_left
   ·rintro w' ⟨s0,s1,s2,s3,s4,s5,s6,s7,s8,s9,s10,s11,s12,s13,s14,s15,s16,s17,s18,s19,s20,s21,s22,s23,s24⟩
    go_simp
    with_reducible rfl
   rotate_left
   ·simp only [Act.put,sa_,sb_,sc_,a_r,a_s]
    rfl
   refine b_m (i:=34) (N:=some 51) (v:=?_) (a':=?_) r_e rfl rfl (a_L HT_.out HW_.out (by kernel_rfl)) (fun _ _ _ h => h) (Or.inl ⟨by rfl,?_⟩) hHeld ?_ ?_
   rotate_left
   ·rintro w' ⟨s0,s1,s2,s3,s4,s5,s6,s7,s8,s9,s10,s11,s12,s13,s14,s15,s16,s17,s18,s19,s20,s21,s22,s23,s24⟩
    go_simp
    with_reducible rfl
   rotate_left
   ·simp only [Act.put,sa_,sb_,sc_,a_r,a_s]
    rfl
   refine one_ (i:=32) (N:=some 49) l_q rfl rfl (c_e HT_.out (by kernel_rfl)) (by decide) (fun K hK => ?_)
   refine e_I Try.func38 (by kernel_rfl) rfl #[.slice (some ad112) l0_1.length c0_1,.func (.func 52) #[] #[.pointer (some ⟨f_f,0,none⟩),.pointer (some ⟨b_e,0,none⟩)]] (by rfl) rfl rfl (by (try simp only [List.map_toArray,List.map_cons,List.map_nil]);first|done|rfl|(simp only [List.length_drop,List.length_take];rfl)) ?_
   with_reducible refine (b_h.calls _ _ l0_1 f_f b_e b_e ((a_c l0_1 x10_1).f0) ((a_c l0_1 x10_1).f1) ((a_c l0_1 x10_1).f2) ((a_c l0_1 x10_1).f3) ((a_c l0_1 x10_1).f4) ((a_c l0_1 x10_1).f5) ((a_c l0_1 x10_1).f6) ((a_c l0_1 x10_1).f7) ((a_c l0_1 x10_1).f8) ((a_c l0_1 x10_1).f9) ((a_c l0_1 x10_1).f10) ((a_c l0_1 x10_1).f0) ((a_c l0_1 x10_1).f1) ((a_c l0_1 x10_1).f2) ((a_c l0_1 x10_1).f3) ((a_c l0_1 x10_1).f4) ((a_c l0_1 x10_1).f5) ((a_c l0_1 x10_1).f6) ((a_c l0_1 x10_1).f7) ((a_c l0_1 x10_1).f8) ((a_c l0_1 x10_1).f9) ((a_c l0_1 x10_1).f10) t118 _ ?side1 ?side2 ?side3 ?side4 ?side5 A26.out).mono ?_
   (case side1 => repeat (first|exact (Kd.b_f e_o.out HB.out)|(with_reducible refine Kd.a_9 ?_ _)|(with_reducible refine Kd.a_8 ?_ _)|(with_reducible refine Kd.b_i ?_)))
   (case side2 => exact g_I.out)
   (case side3 => exact (bup_ b_5.out))
   (case side4 => exact (bup_ a_F.out))
   (case side5 => exact (bup_ a_F.out))
   rintro e w39 ⟨rfl,hb⟩
   refine ⟨_,rfl,?_⟩
   replace b_l:=a_e.mk (a_l (bup_ b_l.out) hb)
   replace a_F:=a_e.mk (a_l (bup_ a_F.out) hb)
   replace b_5:=a_e.mk (a_l (bup_ b_5.out) hb)
   replace HB:=a_e.mk (a_t (by repeat (first|(with_reducible first|exact HB.out|apply a_g|apply a_f|apply a_h|refine a_d ?_ e_p.out|refine a_d ?_ e_O.out|refine a_d ?_ f_g.out)|exact HB.out)) hb)
   (try clear hb)
   (try clear hb2)
   (try clear hk)
   (try clear hi)
   refine hK.out _ _ ⟨(a_a a_F.out 0).trans rfl,(a_a a_F.out 1).trans rfl,(a_a a_F.out 2).trans rfl,(a_a a_F.out 3).trans rfl,(a_a a_F.out 4).trans rfl,(a_a a_F.out 5).trans rfl,(a_a a_F.out 6).trans rfl,(a_a a_F.out 7).trans rfl,(a_a a_F.out 8).trans rfl,(a_a a_F.out 9).trans rfl,(a_a a_F.out 10).trans rfl,(a_a b_l.out 0).trans rfl,(a_a b_l.out 1).trans rfl,(a_a b_5.out 0).trans rfl,((HB.out.cell (World.block_lt_of_cell? w _ c_G)).trans c_G),((HB.out.cell (World.block_lt_of_cell? w _ c_F)).trans c_F),((HB.out.cell (World.block_lt_of_cell? w _ c_E)).trans c_E),((HB.out.cell (World.block_lt_of_cell? w _ c_D)).trans c_D),((HB.out.cell (World.block_lt_of_cell? w _ c_C)).trans c_C),((HB.out.cell (World.block_lt_of_cell? w _ c_B)).trans c_B),((HB.out.cell (World.block_lt_of_cell? w _ c_A)).trans c_A),((HB.out.cell (World.block_lt_of_cell? w _ c_z)).trans c_z),((HB.out.cell (World.block_lt_of_cell? w _ c_y)).trans c_y),((HB.out.cell (World.block_lt_of_cell? w _ c_x)).trans c_x),((HB.out.cell (World.block_lt_of_cell? w _ b_7)).trans b_7)⟩ (fun hHeld => ?_)
   clear hK K
   refine d_U (a':=?_) ?_ ?_
   rotate_left
   ·show Act.put _ (some 49) _ = _
    simp only [Act.put,sa_,sb_,sc_,a_r,a_s]
    rfl
   refine a_y (i:=35) (N:=some 52) (v:=?_) (a':=?_) l_t rfl rfl (a_n HT_.out (by kernel_rfl)) (fun _ _ _ h => h) (Or.inl ⟨by rfl,?_⟩) ?_ ?_
   rotate_left
   ·intro w'
    go_simp
    with_reducible rfl
   rotate_left
   ·simp only [Act.put,sa_,sb_,sc_,a_r,a_s]
    rfl
   refine a_y (i:=36) (N:=some 53) (v:=?_) (a':=?_) l_B rfl rfl (a_n HT_.out (by kernel_rfl)) (fun _ _ _ h => h) (Or.inl ⟨by rfl,?_⟩) ?_ ?_
   rotate_left
   ·intro w'
    go_simp
    with_reducible rfl
   rotate_left
   ·simp only [Act.put,sa_,sb_,sc_,a_r,a_s]
    rfl
   refine e_T (c_u HT_.out (by kernel_rfl)) ?_
   try go_wp2
   go_roundg k1
   case measure => have:=HK1.out;omega
   case rel => exact ⟨(wrap64 (x10_1 + 1)),(by first|rfl|(simp;done)|(simp [*];done)),H',⟨by have:=HK1.out;omega⟩,⟨by (with_reducible repeat (first|refine a_j ?_ _|refine a_k ?_|refine a_i ?_ _));exact b_l.out⟩,⟨by repeat (first|(with_reducible first|exact HB.out|apply a_g|apply a_f|apply a_h|refine a_d ?_ e_p.out|refine a_d ?_ e_O.out|refine a_d ?_ f_g.out)|exact HB.out)⟩⟩
end Go.Proofs.Ytgglkfilkagblaa.Q
end
