/- Part 3 of 13 of what the row of AuditMoments stands on: contracts over the given program's functions, the plain law, the row; no condition beyond those that each theorem states. -/
import Derived.Test.YtgglkfilkagblaaDoorXAuditMoments1
section
namespace Go.Proofs.YtgglkfilkagblaaDoor.Q
open Go.RowKit Go.Proofs.YtgglkfilkagblaaDoorW.PrintWords Go.Proofs.YtgglkfilkagblaaDoorW.PrintLast Go.Proofs.YtgglkfilkagblaaDoorW.PrintMore
set_option linter.unusedVariables false
set_option linter.unusedSimpArgs false
mutual
def a_s.l0 : Nat → Int → Int → List (S33) → Option (Bool)
 | 0,_,_,_ => none
 | k + 1,x3,x224000,x224001 => if x3 ≤ 8 then (a_s.l1 k x3 false true 0 x224000 x224001) else (some true)
def a_s.l1 : Nat → Int → Bool → Bool → Int → Int → List (S33) → Option (Bool)
 | 0,_,_,_,_,_,_ => none
 | k + 1,x3,x4,x5,x6,x224000,x224001 => if x6 < (x224001.length : Int) then (if 0 ≤ x6 then (if ((a_a x224001 x6).f2) = x3 then (if ((a_a x224001 x6).f5 = true) then (a_s.j2 k x3 x4 x5 x6 ((a_a x224001 x6).f6) x224000 x224001 ((a_a x224001 x6).f0) ((a_a x224001 x6).f1) ((a_a x224001 x6).f2) ((a_a x224001 x6).f3) ((a_a x224001 x6).f4) ((a_a x224001 x6).f5) ((a_a x224001 x6).f6) ((a_a x224001 x6).f7) ((a_a x224001 x6).f8) ((a_a x224001 x6).f9) ((a_a x224001 x6).f10)) else (a_s.j2 k x3 x4 x5 x6 true x224000 x224001 ((a_a x224001 x6).f0) ((a_a x224001 x6).f1) ((a_a x224001 x6).f2) ((a_a x224001 x6).f3) ((a_a x224001 x6).f4) ((a_a x224001 x6).f5) ((a_a x224001 x6).f6) ((a_a x224001 x6).f7) ((a_a x224001 x6).f8) ((a_a x224001 x6).f9) ((a_a x224001 x6).f10))) else (a_s.j2 k x3 x4 x5 x6 true x224000 x224001 ((a_a x224001 x6).f0) ((a_a x224001 x6).f1) ((a_a x224001 x6).f2) ((a_a x224001 x6).f3) ((a_a x224001 x6).f4) ((a_a x224001 x6).f5) ((a_a x224001 x6).f6) ((a_a x224001 x6).f7) ((a_a x224001 x6).f8) ((a_a x224001 x6).f9) ((a_a x224001 x6).f10))) else (none)) else (if x4 = true then (if x5 = true then (a_s.l0 k (wrap64 (x3 + 1)) x224000 x224001) else (some false)) else (a_s.l0 k (wrap64 (x3 + 1)) x224000 x224001))
def a_s.j2 : Nat → Int → Bool → Bool → Int → Bool → Int → List (S33) → Int → Int → Int → Int → Int → Bool → Bool → Int → Int → Int → Int → Option (Bool)
 | 0,_,_,_,_,_,_,_,_,_,_,_,_,_,_,_,_,_,_ => none
 | k + 1,x3,x4,x5,x6,x36,x224000,x224001,x226000,x226001,x226002,x226003,x226004,x226005,x226006,x226007,x226008,x226009,x226010 => if x36 = true then (a_s.l1 k x3 x4 x5 (wrap64 (x6 + 1)) x224000 x224001) else (if x226004 ≥ 0 then (a_s.l1 k x3 true x5 (wrap64 (x6 + 1)) x224000 x224001) else (a_s.l1 k x3 x4 false (wrap64 (x6 + 1)) x224000 x224001))
end
def a_s.f (k : Nat) (a0_0 : Int) (l0_1 : List (S33)) : Option (Bool):=a_s.l0 k 1 a0_0 l0_1
theorem a_s.c_F : ∀ k,(∀ y0 y1 y2,LeO (a_s.l0 k y0 y1 y2) (a_s.l0 (k + 1) y0 y1 y2)) ∧ (∀ y0 y1 y2 y3 y4 y5,LeO (a_s.l1 k y0 y1 y2 y3 y4 y5) (a_s.l1 (k + 1) y0 y1 y2 y3 y4 y5)) ∧ (∀ y0 y1 y2 y3 y4 y5 y6 y7 y8 y9 y10 y11 y12 y13 y14 y15 y16 y17,LeO (a_s.j2 k y0 y1 y2 y3 y4 y5 y6 y7 y8 y9 y10 y11 y12 y13 y14 y15 y16 y17) (a_s.j2 (k + 1) y0 y1 y2 y3 y4 y5 y6 y7 y8 y9 y10 y11 y12 y13 y14 y15 y16 y17))
 | 0 => ⟨fun _ _ _ r h => by simp [a_s.l0] at h,fun _ _ _ _ _ _ r h => by simp [a_s.l1] at h,fun _ _ _ _ _ _ _ _ _ _ _ _ _ _ _ _ _ _ r h => by simp [a_s.j2] at h⟩
 | k + 1 => by
  obtain ⟨ih0,ih1,ih2⟩:=a_s.c_F k
  refine ⟨?_,?_,?_⟩
  ·intro y0 y1 y2
   unfold a_s.l0
   repeat' first
   | (with_reducible exact ih0 _ _ _)
   | (with_reducible exact ih1 _ _ _ _ _ _)
   | (with_reducible exact ih2 _ _ _ _ _ _ _ _ _ _ _ _ _ _ _ _ _ _)
   | (with_reducible exact LeO.refl _)
   | (with_reducible exact LeO.none _)
   | (with_reducible refine LeO.ite ?_ ?_)
   | (with_reducible refine LeO.bind ?_ (fun _ => ?_))
   | exact ih0 _ _ _
   | exact ih1 _ _ _ _ _ _
   | exact ih2 _ _ _ _ _ _ _ _ _ _ _ _ _ _ _ _ _ _
   | exact LeO.none _
   | refine LeO.ite ?_ ?_
   | refine LeO.bind ?_ (fun _ => ?_)
  ·intro y0 y1 y2 y3 y4 y5
   unfold a_s.l1
   repeat' first
   | (with_reducible exact ih0 _ _ _)
   | (with_reducible exact ih1 _ _ _ _ _ _)
   | (with_reducible exact ih2 _ _ _ _ _ _ _ _ _ _ _ _ _ _ _ _ _ _)
   | (with_reducible exact LeO.refl _)
   | (with_reducible exact LeO.none _)
   | (with_reducible refine LeO.ite ?_ ?_)
   | (with_reducible refine LeO.bind ?_ (fun _ => ?_))
   | exact ih0 _ _ _
   | exact ih1 _ _ _ _ _ _
   | exact ih2 _ _ _ _ _ _ _ _ _ _ _ _ _ _ _ _ _ _
   | exact LeO.none _
   | refine LeO.ite ?_ ?_
   | refine LeO.bind ?_ (fun _ => ?_)
  ·intro y0 y1 y2 y3 y4 y5 y6 y7 y8 y9 y10 y11 y12 y13 y14 y15 y16 y17
   unfold a_s.j2
   repeat' first
   | (with_reducible exact ih0 _ _ _)
   | (with_reducible exact ih1 _ _ _ _ _ _)
   | (with_reducible exact ih2 _ _ _ _ _ _ _ _ _ _ _ _ _ _ _ _ _ _)
   | (with_reducible exact LeO.refl _)
   | (with_reducible exact LeO.none _)
   | (with_reducible refine LeO.ite ?_ ?_)
   | (with_reducible refine LeO.bind ?_ (fun _ => ?_))
   | exact ih0 _ _ _
   | exact ih1 _ _ _ _ _ _
   | exact ih2 _ _ _ _ _ _ _ _ _ _ _ _ _ _ _ _ _ _
   | exact LeO.none _
   | refine LeO.ite ?_ ?_
   | refine LeO.bind ?_ (fun _ => ?_)
theorem a_s.mono : ∀ a0 a1 k,LeO (a_s.f k a0 a1) (a_s.f (k + 1) a0 a1):=by
 intro a0 a1 k
 obtain ⟨ih0,ih1,ih2⟩:=a_s.c_F k
 unfold a_s.f
 repeat' first
  | (with_reducible exact ih0 _ _ _)
  | (with_reducible exact ih1 _ _ _ _ _ _)
  | (with_reducible exact ih2 _ _ _ _ _ _ _ _ _ _ _ _ _ _ _ _ _ _)
  | (with_reducible exact LeO.refl _)
  | (with_reducible exact LeO.none _)
  | (with_reducible refine LeO.ite ?_ ?_)
  | (with_reducible refine LeO.bind ?_ (fun _ => ?_))
  | exact ih0 _ _ _
  | exact ih1 _ _ _ _ _ _
  | exact ih2 _ _ _ _ _ _ _ _ _ _ _ _ _ _ _ _ _ _
  | exact LeO.none _
  | refine LeO.ite ?_ ?_
  | refine LeO.bind ?_ (fun _ => ?_)
set_option maxHeartbeats 8000000 in
set_option maxRecDepth 100000 in
theorem a_s.calls (k : Nat) (a0_0 : Int) (A0_1 : Option Addr) (c0_1 : Nat) (l0_1 : List (S33)) (r : Bool) (w : World) (hr0_1 : Kd.C k33 w A0_1 l0_1.length l0_1) (hc0_1 : l0_1.length ≤ c0_1) (h : a_s.f k a0_0 l0_1 = some r) :
 Calls Tryd.prog 11 #[.agg #[.int .i64 a0_0,.slice A0_1 l0_1.length c0_1]] w fun e w' => e = .returned (.bool r) ∧ Below w.heap.size w w':=by
 have hu24:=Tryd.underlying24
 have hu33:=Tryd.underlying33
 have b_v:=a_g.mk hr0_1
 have c_b:=a_g.mk hc0_1
 clear hr0_1 hc0_1
 have HB:=a_g.mk (Below.refl w.heap.size w)
 have H : (a_s.l0 k 1 a0_0 l0_1) = some r:=h
 clear h
 have H':=a_g.mk H
 clear H
 go_enter Tryd.func11,Tryd.ntmps11
 go_wp2_with (first|((with_reducible refine a_G (N:=1) rfl ?_);refine a_C ?hg (N:=1) ?hd (cs:=#[.int .i64 a0_0,.slice A0_1 l0_1.length c0_1]) (t:=24) ?hr ?_;(case hd => rfl);(case hg => rfl);(case hr => first|(go_simp;done)|(go_simp;rfl));intro g_7 hg w2 hbox hb;have d_W:=a_g.mk (hbox);have I_o:=a_g.mk ((by rw [hg];exact (a_n (lup_ HB.out)) : w.heap.size ≤ g_7));have g_4:=a_g.mk ((by rw [hg];exact (a_n (lup_ HB.out)) : w.heap.size ≤ g_7));replace HB:=a_g.mk (a_p (lup_ HB.out) hb);clear hb hbox hg))
 go_loopg [3] k (fun kq v3 w' => ∃ (x3_1 : Int),v3 = .int .i64 x3_1 ∧ a_g (a_s.l0 kq x3_1 a0_0 l0_1 = some r) ∧ a_g (kq ≤ k) ∧ a_g (w'.heap[g_7]? = some (.cells #[.int .i64 a0_0,(.slice A0_1 l0_1.length c0_1)] 24 (0,0))) ∧ a_g (Below w.heap.size w w'))
 case atStart => exact ⟨(1),(by first|rfl|(simp;done)|(simp [*];done)),H',⟨Nat.le_refl _⟩,⟨by (with_reducible repeat (first|refine a_e ?_ _|refine a_h ?_|refine a_d ?_ _));exact d_W.out⟩,⟨by repeat (first|(with_reducible first|exact HB.out|apply a_j|apply a_f|apply a_k|refine a_i ?_ g_4.out)|exact HB.out)⟩⟩
 case round =>
  clear H'
  try clear c1
  try clear p2
  obtain ⟨x3_1,rfl,HA,HK1,d_W,HB⟩:=hrel
  cases gk with
  | zero => exact absurd HA.out (by simp [a_s.l0])
  | succ k1 =>
   have H:=HA.out
   clear HA
   simp only [a_s.l0] at H
   by_cases c3 : x3_1 ≤ 8
   rotate_left
   ·rw [if_neg c3] at H
    have c3b0 : decide (x3_1 ≤ 8) = false:=decide_eq_false c3
    clear c3
    obtain rfl:=Option.some.inj H
    go_wp2
    go_ret
    exact ⟨by first|rfl|(simp [a_u,a_v] <;> rfl)|(simp [*, a_u,a_v] <;> rfl),by repeat (first|(with_reducible first|exact HB.out|apply a_j|apply a_f|apply a_k|refine a_i ?_ g_4.out)|exact HB.out)⟩
   rw [if_pos c3] at H
   have c3b0 : decide (x3_1 ≤ 8) = true:=decide_eq_true c3
   clear c3
   have H':=a_g.mk H
   clear H
   go_wp2
   go_loopg [4,5,6] k1 (fun kq v4 v5 v6 w' => ∃ (x4_2 : Bool) (x5_2 : Bool) (x6_2 : Int),v4 = .bool x4_2 ∧ v5 = .bool x5_2 ∧ v6 = .int .i64 x6_2 ∧ a_g (a_s.l1 kq x3_1 x4_2 x5_2 x6_2 a0_0 l0_1 = some r) ∧ a_g (kq ≤ k1) ∧ a_g (w'.heap[g_7]? = some (.cells #[.int .i64 a0_0,(.slice A0_1 l0_1.length c0_1)] 24 (0,0))) ∧ a_g (Below w.heap.size w w'))
   case atStart => exact ⟨(false),(true),(0),(by first|rfl|(simp;done)|(simp [*];done)),(by first|rfl|(simp;done)|(simp [*];done)),(by first|rfl|(simp;done)|(simp [*];done)),H',⟨Nat.le_refl _⟩,⟨by (with_reducible repeat (first|refine a_e ?_ _|refine a_h ?_|refine a_d ?_ _));exact d_W.out⟩,⟨by repeat (first|(with_reducible first|exact HB.out|apply a_j|apply a_f|apply a_k|refine a_i ?_ g_4.out)|exact HB.out)⟩⟩
   case round =>
    clear H'
    try clear c1
    try clear p2
    try clear c3
    try clear c3b0
    try clear p2
    obtain ⟨x4_2,x5_2,x6_2,rfl,rfl,rfl,HA,HK2,d_W,HB⟩:=hrel
    cases gk with
    | zero => exact absurd HA.out (by simp [a_s.l1])
    | succ k2 =>
     have H:=HA.out
     clear HA
     simp only [a_s.l1] at H
     by_cases c4 : x6_2 < (l0_1.length : Int)
     rotate_left
     ·rw [if_neg c4] at H
      have c4b0 : decide (x6_2 < (l0_1.length : Int)) = false:=decide_eq_false c4
      clear c4
      by_cases c26 : x4_2 = true
      rotate_left
      ·replace c26:=Bool.eq_false_iff.mpr c26
       subst c26
       have H1 : (a_s.l0 k2 (wrap64 (x3_1 + 1)) a0_0 l0_1) = some r:=by rw [if_neg (show ¬ (false = true) by decide)] at H;exact H
       clear H
       have H:=H1
       clear H1
       have H':=a_g.mk H
       clear H
       have p_X : wr.cell? ⟨g_7,0,none⟩ = some (.int .i64 a0_0):=(a_b d_W.out 0).trans rfl
       have p_Y : wr.cell? ⟨g_7,1,none⟩ = some (.slice A0_1 l0_1.length c0_1):=(a_b d_W.out 1).trans rfl
       have q_O:=a_c d_W.out 0
       have q_P:=a_c d_W.out 1
       go_wp2
       go_roundg k2
       case measure => have:=HK1.out;have:=HK2.out;omega
       case rel => exact ⟨(wrap64 (x3_1 + 1)),(by first|rfl|(simp;done)|(simp [*];done)),H',⟨by have:=HK1.out;have:=HK2.out;omega⟩,⟨by (with_reducible repeat (first|refine a_e ?_ _|refine a_h ?_|refine a_d ?_ _));exact d_W.out⟩,⟨by repeat (first|(with_reducible first|exact HB.out|apply a_j|apply a_f|apply a_k|refine a_i ?_ g_4.out)|exact HB.out)⟩⟩
      subst c26
      have H1 : (if x5_2 = true then (a_s.l0 k2 (wrap64 (x3_1 + 1)) a0_0 l0_1) else (some false)) = some r:=by rw [if_pos rfl] at H;exact H
      clear H
      have H:=H1
      clear H1
      by_cases c27 : x5_2 = true
      ·subst c27
       have H1 : (a_s.l0 k2 (wrap64 (x3_1 + 1)) a0_0 l0_1) = some r:=by rw [if_pos rfl] at H;exact H
       clear H
       have H:=H1
       clear H1
       have H':=a_g.mk H
       clear H
       have h_e : wr.cell? ⟨g_7,0,none⟩ = some (.int .i64 a0_0):=(a_b d_W.out 0).trans rfl
       have h_f : wr.cell? ⟨g_7,1,none⟩ = some (.slice A0_1 l0_1.length c0_1):=(a_b d_W.out 1).trans rfl
       have h_l:=a_c d_W.out 0
       have h_m:=a_c d_W.out 1
       go_wp2
       go_roundg k2
       case measure => have:=HK1.out;have:=HK2.out;omega
       case rel => exact ⟨(wrap64 (x3_1 + 1)),(by first|rfl|(simp;done)|(simp [*];done)),H',⟨by have:=HK1.out;have:=HK2.out;omega⟩,⟨by (with_reducible repeat (first|refine a_e ?_ _|refine a_h ?_|refine a_d ?_ _));exact d_W.out⟩,⟨by repeat (first|(with_reducible first|exact HB.out|apply a_j|apply a_f|apply a_k|refine a_i ?_ g_4.out)|exact HB.out)⟩⟩
      replace c27:=Bool.eq_false_iff.mpr c27
      subst c27
      have H1 : (some false) = some r:=by rw [if_neg (show ¬ (false = true) by decide)] at H;exact H
      clear H
      have H:=H1
      clear H1
      obtain rfl:=Option.some.inj H
      have p_V : wr.cell? ⟨g_7,0,none⟩ = some (.int .i64 a0_0):=(a_b d_W.out 0).trans rfl
      have p_W : wr.cell? ⟨g_7,1,none⟩ = some (.slice A0_1 l0_1.length c0_1):=(a_b d_W.out 1).trans rfl
      have q_M:=a_c d_W.out 0
      have q_N:=a_c d_W.out 1
      go_wp2
      go_ret
      exact ⟨by first|rfl|(simp [a_u,a_v] <;> rfl)|(simp [*, a_u,a_v] <;> rfl),by repeat (first|(with_reducible first|exact HB.out|apply a_j|apply a_f|apply a_k|refine a_i ?_ g_4.out)|exact HB.out)⟩
     rw [if_pos c4] at H
     have c4b0 : decide (x6_2 < (l0_1.length : Int)) = true:=decide_eq_true c4
     clear c4
     by_cases c5 : 0 ≤ x6_2
     rotate_left
     ·rw [if_neg c5] at H
      exact absurd H (by simp)
     rw [if_pos c5] at H
     have c5b0 : decide (0 ≤ x6_2) = true:=decide_eq_true c5
     clear c5
     have HC6:=a_g.mk H
     clear H
     have f_e : wr.cell? ⟨g_7,0,none⟩ = some (.int .i64 a0_0):=(a_b d_W.out 0).trans rfl
     have f_f : wr.cell? ⟨g_7,1,none⟩ = some (.slice A0_1 l0_1.length c0_1):=(a_b d_W.out 1).trans rfl
     have f_g:=a_c d_W.out 0
     have f_h:=a_c d_W.out 1
     have p224 : 0 ≤ (x6_2 : Int):=of_decide_eq_true (by first|(with_reducible assumption)|assumption)
     have q224 : x6_2 < (l0_1.length : Int):=of_decide_eq_true (by first|(with_reducible assumption)|assumption)
     obtain ⟨ad224,e224,l_f,l_g,l_h,l_i,l_j,l_k,l_l,l_m,l_n,l_o,i_H⟩:=c_e b_v.out x6_2 p224 q224
     cases e224
     replace l_f:=(HB.out.cell (World.block_lt_of_cell? w _ l_f)).trans l_f
     replace l_g:=(HB.out.cell (World.block_lt_of_cell? w _ l_g)).trans l_g
     replace l_h:=(HB.out.cell (World.block_lt_of_cell? w _ l_h)).trans l_h
     replace l_i:=(HB.out.cell (World.block_lt_of_cell? w _ l_i)).trans l_i
     replace l_j:=(HB.out.cell (World.block_lt_of_cell? w _ l_j)).trans l_j
     replace l_k:=(HB.out.cell (World.block_lt_of_cell? w _ l_k)).trans l_k
     replace l_l:=(HB.out.cell (World.block_lt_of_cell? w _ l_l)).trans l_l
     replace l_m:=(HB.out.cell (World.block_lt_of_cell? w _ l_m)).trans l_m
     replace l_n:=(HB.out.cell (World.block_lt_of_cell? w _ l_n)).trans l_n
     replace l_o:=(HB.out.cell (World.block_lt_of_cell? w _ l_o)).trans l_o
     replace i_H:=(HB.out.cell (World.block_lt_of_cell? w _ i_H)).trans i_H
     replace p224:=eq_true p224
     replace q224:=eq_true q224
     go_upto_region 9 with (first|((with_reducible refine a_G (N:=7) rfl ?_);refine a_C ?hg (N:=7) ?hd (cs:=#[.int .i64 0,.int .i64 0,.int .i64 0,.int .i64 0,.int .i64 0,.bool false,.bool false,.int .u32 0,.int .i64 0,.int .i64 0,.int .i64 0]) (t:=33) ?hr ?_;(case hd => rfl);(case hg => rfl);(case hr => first|(go_simp;done)|(go_simp;rfl));intro b_2 hg w8 hbox hb;have b_d:=a_g.mk (hbox);have I_p:=a_g.mk ((by rw [hg];exact (a_n (by repeat (first|(with_reducible first|exact HB.out|apply a_j|apply a_f|apply a_k|refine a_i ?_ g_4.out)|exact HB.out))) : w.heap.size ≤ b_2));have o_R:=a_g.mk ((by rw [hg];exact (a_n (by repeat (first|(with_reducible first|exact HB.out|apply a_j|apply a_f|apply a_k|refine a_i ?_ g_4.out)|exact HB.out))) : w.heap.size ≤ b_2));have b_i:=a_g.mk ((by rw [hg];exact Nat.ne_of_lt (a_L (bup_ d_W.out)) : g_7 ≠ b_2));have f_T:=a_g.mk ((by rw [hg];exact Nat.ne_of_gt (a_L (bup_ d_W.out)) : b_2 ≠ g_7));replace d_W:=a_g.mk (a_m (bup_ d_W.out) hb);replace HB:=a_g.mk (a_p (by repeat (first|(with_reducible first|exact HB.out|apply a_j|apply a_f|apply a_k|refine a_i ?_ g_4.out)|exact HB.out)) hb);clear hb hbox hg;have hnb9:=f_T.out;have hnc9:=b_i.out;have g_8 : w8.cell? ⟨b_2,0,none⟩ = some (.int .i64 0):=(a_b b_d.out 0).trans rfl;have g_9 : w8.cell? ⟨b_2,1,none⟩ = some (.int .i64 0):=(a_b b_d.out 1).trans rfl;have j_2 : w8.cell? ⟨b_2,2,none⟩ = some (.int .i64 0):=(a_b b_d.out 2).trans rfl;have j_3 : w8.cell? ⟨b_2,3,none⟩ = some (.int .i64 0):=(a_b b_d.out 3).trans rfl;have j_4 : w8.cell? ⟨b_2,4,none⟩ = some (.int .i64 0):=(a_b b_d.out 4).trans rfl;have j_5 : w8.cell? ⟨b_2,5,none⟩ = some (.bool false):=(a_b b_d.out 5).trans rfl;have j_6 : w8.cell? ⟨b_2,6,none⟩ = some (.bool false):=(a_b b_d.out 6).trans rfl;have j_7 : w8.cell? ⟨b_2,7,none⟩ = some (.int .u32 0):=(a_b b_d.out 7).trans rfl;have j_8 : w8.cell? ⟨b_2,8,none⟩ = some (.int .i64 0):=(a_b b_d.out 8).trans rfl;have j_9 : w8.cell? ⟨b_2,9,none⟩ = some (.int .i64 0):=(a_b b_d.out 9).trans rfl;have i_C : w8.cell? ⟨b_2,10,none⟩ = some (.int .i64 0):=(a_b b_d.out 10).trans rfl;have h_g:=a_c b_d.out 0;have h_h:=a_c b_d.out 1;have k_x:=a_c b_d.out 2;have k_y:=a_c b_d.out 3;have k_z:=a_c b_d.out 4;have k_A:=a_c b_d.out 5;have k_B:=a_c b_d.out 6;have k_C:=a_c b_d.out 7;have k_D:=a_c b_d.out 8;have k_E:=a_c b_d.out 9;have i_E:=a_c b_d.out 10))
     (try simp only [Act.put,sa_,sb_,sc_])
     go_cut [36] (fun v36 wc => ∃ (kq : Nat) (x36_5 : Bool),v36 = .bool x36_5 ∧ a_g (a_s.j2 kq x3_1 x4_2 x5_2 x6_2 x36_5 a0_0 l0_1 ((a_a l0_1 x6_2).f0) ((a_a l0_1 x6_2).f1) ((a_a l0_1 x6_2).f2) ((a_a l0_1 x6_2).f3) ((a_a l0_1 x6_2).f4) ((a_a l0_1 x6_2).f5) ((a_a l0_1 x6_2).f6) ((a_a l0_1 x6_2).f7) ((a_a l0_1 x6_2).f8) ((a_a l0_1 x6_2).f9) ((a_a l0_1 x6_2).f10) = some r) ∧ a_g (kq ≤ k2) ∧ a_g (wc.heap[g_7]? = some (.cells #[.int .i64 a0_0,(.slice (some ad224) l0_1.length c0_1)] 24 (0,0))) ∧ a_g (wc.heap[b_2]? = some (.cells #[.int .i64 ((a_a l0_1 x6_2).f0),.int .i64 ((a_a l0_1 x6_2).f1),.int .i64 ((a_a l0_1 x6_2).f2),.int .i64 ((a_a l0_1 x6_2).f3),.int .i64 ((a_a l0_1 x6_2).f4),.bool ((a_a l0_1 x6_2).f5),.bool ((a_a l0_1 x6_2).f6),.int .u32 ((a_a l0_1 x6_2).f7),.int .i64 ((a_a l0_1 x6_2).f8),.int .i64 ((a_a l0_1 x6_2).f9),.int .i64 ((a_a l0_1 x6_2).f10)] 33 (0,0))) ∧ a_g (Below w.heap.size w wc))
     case first =>
      have H:=HC6.out
      clear HC6
      by_cases c11 : ((a_a l0_1 x6_2).f2) = x3_1
      rotate_left
      ·rw [if_neg c11] at H
       have c11b0 : (((a_a l0_1 x6_2).f2) == x3_1) = false:=beq_eq_false_iff_ne.mpr c11
       have c11b1 : (((a_a l0_1 x6_2).f2) != x3_1) = true:=bne_iff_ne.mpr c11
       (first|rw [c11b0]|(simp only [a_0,a_1];rw [c11b0])|skip)
       have H':=a_g.mk H
       clear H
       have x_7:=f_T.out
       have y_e:=b_i.out
       have i_i : w8.cell? ⟨b_2,0,none⟩ = some (.int .i64 0):=(a_b b_d.out 0).trans rfl
       have i_j : w8.cell? ⟨b_2,1,none⟩ = some (.int .i64 0):=(a_b b_d.out 1).trans rfl
       have p_E : w8.cell? ⟨b_2,2,none⟩ = some (.int .i64 0):=(a_b b_d.out 2).trans rfl
       have p_F : w8.cell? ⟨b_2,3,none⟩ = some (.int .i64 0):=(a_b b_d.out 3).trans rfl
       have p_G : w8.cell? ⟨b_2,4,none⟩ = some (.int .i64 0):=(a_b b_d.out 4).trans rfl
       have p_H : w8.cell? ⟨b_2,5,none⟩ = some (.bool false):=(a_b b_d.out 5).trans rfl
       have p_I : w8.cell? ⟨b_2,6,none⟩ = some (.bool false):=(a_b b_d.out 6).trans rfl
       have p_J : w8.cell? ⟨b_2,7,none⟩ = some (.int .u32 0):=(a_b b_d.out 7).trans rfl
       have p_K : w8.cell? ⟨b_2,8,none⟩ = some (.int .i64 0):=(a_b b_d.out 8).trans rfl
       have p_L : w8.cell? ⟨b_2,9,none⟩ = some (.int .i64 0):=(a_b b_d.out 9).trans rfl
       have n_8 : w8.cell? ⟨b_2,10,none⟩ = some (.int .i64 0):=(a_b b_d.out 10).trans rfl
       have i_l:=a_c b_d.out 0
       have i_m:=a_c b_d.out 1
       have q_v:=a_c b_d.out 2
       have q_w:=a_c b_d.out 3
       have q_x:=a_c b_d.out 4
       have q_y:=a_c b_d.out 5
       have q_z:=a_c b_d.out 6
       have q_A:=a_c b_d.out 7
       have q_B:=a_c b_d.out 8
       have q_C:=a_c b_d.out 9
       have o_n:=a_c b_d.out 10
       go_wp2
       go_meet
       case rel => exact ⟨_,(true),(by first|rfl|(simp;done)|(simp [*];done)),H',⟨by have:=HK1.out;have:=HK2.out;first|omega|exact Nat.le_refl _⟩,⟨by (with_reducible repeat (first|refine a_e ?_ _|refine a_h ?_|refine a_d ?_ _));refine a_o ?_ b_i.out _;(with_reducible repeat (first|refine a_e ?_ _|refine a_h ?_|refine a_d ?_ _));refine a_o ?_ b_i.out _;(with_reducible repeat (first|refine a_e ?_ _|refine a_h ?_|refine a_d ?_ _));refine a_o ?_ b_i.out _;(with_reducible repeat (first|refine a_e ?_ _|refine a_h ?_|refine a_d ?_ _));refine a_o ?_ b_i.out _;(with_reducible repeat (first|refine a_e ?_ _|refine a_h ?_|refine a_d ?_ _));refine a_o ?_ b_i.out _;(with_reducible repeat (first|refine a_e ?_ _|refine a_h ?_|refine a_d ?_ _));refine a_o ?_ b_i.out _;(with_reducible repeat (first|refine a_e ?_ _|refine a_h ?_|refine a_d ?_ _));refine a_o ?_ b_i.out _;(with_reducible repeat (first|refine a_e ?_ _|refine a_h ?_|refine a_d ?_ _));refine a_o ?_ b_i.out _;(with_reducible repeat (first|refine a_e ?_ _|refine a_h ?_|refine a_d ?_ _));refine a_o ?_ b_i.out _;(with_reducible repeat (first|refine a_e ?_ _|refine a_h ?_|refine a_d ?_ _));refine a_o ?_ b_i.out _;(with_reducible repeat (first|refine a_e ?_ _|refine a_h ?_|refine a_d ?_ _));refine a_o ?_ b_i.out _;(with_reducible repeat (first|refine a_e ?_ _|refine a_h ?_|refine a_d ?_ _));exact d_W.out⟩,⟨by (with_reducible repeat (first|refine a_e ?_ _|refine a_h ?_|refine a_d ?_ _));refine a_r (cs:=#[.int .i64 ((a_a l0_1 x6_2).f0),.int .i64 ((a_a l0_1 x6_2).f1),.int .i64 ((a_a l0_1 x6_2).f2),.int .i64 ((a_a l0_1 x6_2).f3),.int .i64 ((a_a l0_1 x6_2).f4),.bool ((a_a l0_1 x6_2).f5),.bool ((a_a l0_1 x6_2).f6),.int .u32 ((a_a l0_1 x6_2).f7),.int .i64 ((a_a l0_1 x6_2).f8),.int .i64 ((a_a l0_1 x6_2).f9),.int .i64 0]) ?_ 10 _ rfl;(with_reducible repeat (first|refine a_e ?_ _|refine a_h ?_|refine a_d ?_ _));refine a_r (cs:=#[.int .i64 ((a_a l0_1 x6_2).f0),.int .i64 ((a_a l0_1 x6_2).f1),.int .i64 ((a_a l0_1 x6_2).f2),.int .i64 ((a_a l0_1 x6_2).f3),.int .i64 ((a_a l0_1 x6_2).f4),.bool ((a_a l0_1 x6_2).f5),.bool ((a_a l0_1 x6_2).f6),.int .u32 ((a_a l0_1 x6_2).f7),.int .i64 ((a_a l0_1 x6_2).f8),.int .i64 0,.int .i64 0]) ?_ 9 _ rfl;(with_reducible repeat (first|refine a_e ?_ _|refine a_h ?_|refine a_d ?_ _));refine a_r (cs:=#[.int .i64 ((a_a l0_1 x6_2).f0),.int .i64 ((a_a l0_1 x6_2).f1),.int .i64 ((a_a l0_1 x6_2).f2),.int .i64 ((a_a l0_1 x6_2).f3),.int .i64 ((a_a l0_1 x6_2).f4),.bool ((a_a l0_1 x6_2).f5),.bool ((a_a l0_1 x6_2).f6),.int .u32 ((a_a l0_1 x6_2).f7),.int .i64 0,.int .i64 0,.int .i64 0]) ?_ 8 _ rfl;(with_reducible repeat (first|refine a_e ?_ _|refine a_h ?_|refine a_d ?_ _));refine a_r (cs:=#[.int .i64 ((a_a l0_1 x6_2).f0),.int .i64 ((a_a l0_1 x6_2).f1),.int .i64 ((a_a l0_1 x6_2).f2),.int .i64 ((a_a l0_1 x6_2).f3),.int .i64 ((a_a l0_1 x6_2).f4),.bool ((a_a l0_1 x6_2).f5),.bool ((a_a l0_1 x6_2).f6),.int .u32 0,.int .i64 0,.int .i64 0,.int .i64 0]) ?_ 7 _ rfl;(with_reducible repeat (first|refine a_e ?_ _|refine a_h ?_|refine a_d ?_ _));refine a_r (cs:=#[.int .i64 ((a_a l0_1 x6_2).f0),.int .i64 ((a_a l0_1 x6_2).f1),.int .i64 ((a_a l0_1 x6_2).f2),.int .i64 ((a_a l0_1 x6_2).f3),.int .i64 ((a_a l0_1 x6_2).f4),.bool ((a_a l0_1 x6_2).f5),.bool false,.int .u32 0,.int .i64 0,.int .i64 0,.int .i64 0]) ?_ 6 _ rfl;(with_reducible repeat (first|refine a_e ?_ _|refine a_h ?_|refine a_d ?_ _));refine a_r (cs:=#[.int .i64 ((a_a l0_1 x6_2).f0),.int .i64 ((a_a l0_1 x6_2).f1),.int .i64 ((a_a l0_1 x6_2).f2),.int .i64 ((a_a l0_1 x6_2).f3),.int .i64 ((a_a l0_1 x6_2).f4),.bool false,.bool false,.int .u32 0,.int .i64 0,.int .i64 0,.int .i64 0]) ?_ 5 _ rfl;(with_reducible repeat (first|refine a_e ?_ _|refine a_h ?_|refine a_d ?_ _));refine a_r (cs:=#[.int .i64 ((a_a l0_1 x6_2).f0),.int .i64 ((a_a l0_1 x6_2).f1),.int .i64 ((a_a l0_1 x6_2).f2),.int .i64 ((a_a l0_1 x6_2).f3),.int .i64 0,.bool false,.bool false,.int .u32 0,.int .i64 0,.int .i64 0,.int .i64 0]) ?_ 4 _ rfl;(with_reducible repeat (first|refine a_e ?_ _|refine a_h ?_|refine a_d ?_ _));refine a_r (cs:=#[.int .i64 ((a_a l0_1 x6_2).f0),.int .i64 ((a_a l0_1 x6_2).f1),.int .i64 ((a_a l0_1 x6_2).f2),.int .i64 0,.int .i64 0,.bool false,.bool false,.int .u32 0,.int .i64 0,.int .i64 0,.int .i64 0]) ?_ 3 _ rfl;(with_reducible repeat (first|refine a_e ?_ _|refine a_h ?_|refine a_d ?_ _));refine a_r (cs:=#[.int .i64 ((a_a l0_1 x6_2).f0),.int .i64 ((a_a l0_1 x6_2).f1),.int .i64 0,.int .i64 0,.int .i64 0,.bool false,.bool false,.int .u32 0,.int .i64 0,.int .i64 0,.int .i64 0]) ?_ 2 _ rfl;(with_reducible repeat (first|refine a_e ?_ _|refine a_h ?_|refine a_d ?_ _));refine a_r (cs:=#[.int .i64 ((a_a l0_1 x6_2).f0),.int .i64 0,.int .i64 0,.int .i64 0,.int .i64 0,.bool false,.bool false,.int .u32 0,.int .i64 0,.int .i64 0,.int .i64 0]) ?_ 1 _ rfl;(with_reducible repeat (first|refine a_e ?_ _|refine a_h ?_|refine a_d ?_ _));refine a_r (cs:=#[.int .i64 0,.int .i64 0,.int .i64 0,.int .i64 0,.int .i64 0,.bool false,.bool false,.int .u32 0,.int .i64 0,.int .i64 0,.int .i64 0]) ?_ 0 _ rfl;(with_reducible repeat (first|refine a_e ?_ _|refine a_h ?_|refine a_d ?_ _));exact b_d.out⟩,⟨by repeat (first|(with_reducible first|exact HB.out|apply a_j|apply a_f|apply a_k|refine a_i ?_ g_4.out|refine a_i ?_ o_R.out)|exact HB.out)⟩⟩
      rw [if_pos c11] at H
      have c11b0 : (((a_a l0_1 x6_2).f2) == x3_1) = true:=beq_iff_eq.mpr c11
      have c11b1 : (((a_a l0_1 x6_2).f2) != x3_1) = false:=bne_eq_false_iff_eq.mpr c11
      clear c11
      (first|rw [c11b0]|(simp only [a_0,a_1];rw [c11b0])|skip)
      obtain ⟨bq12,hbq12⟩ : ∃ b_ : Bool,b_ = ((a_a l0_1 x6_2).f5):=⟨_,rfl⟩
      replace H : (if (bq12 = true) then (a_s.j2 k2 x3_1 x4_2 x5_2 x6_2 ((a_a l0_1 x6_2).f6) a0_0 l0_1 ((a_a l0_1 x6_2).f0) ((a_a l0_1 x6_2).f1) ((a_a l0_1 x6_2).f2) ((a_a l0_1 x6_2).f3) ((a_a l0_1 x6_2).f4) bq12 ((a_a l0_1 x6_2).f6) ((a_a l0_1 x6_2).f7) ((a_a l0_1 x6_2).f8) ((a_a l0_1 x6_2).f9) ((a_a l0_1 x6_2).f10)) else (a_s.j2 k2 x3_1 x4_2 x5_2 x6_2 true a0_0 l0_1 ((a_a l0_1 x6_2).f0) ((a_a l0_1 x6_2).f1) ((a_a l0_1 x6_2).f2) ((a_a l0_1 x6_2).f3) ((a_a l0_1 x6_2).f4) bq12 ((a_a l0_1 x6_2).f6) ((a_a l0_1 x6_2).f7) ((a_a l0_1 x6_2).f8) ((a_a l0_1 x6_2).f9) ((a_a l0_1 x6_2).f10))) = some r:=by rw [← hbq12] at H;exact H
      have Nbq12:=a_g.mk hbq12
      clear hbq12
      by_cases c13 : (bq12 = true)
      ·subst c13
       have hq184_:=Nbq12.out.symm
       have H1 : (a_s.j2 k2 x3_1 x4_2 x5_2 x6_2 ((a_a l0_1 x6_2).f6) a0_0 l0_1 ((a_a l0_1 x6_2).f0) ((a_a l0_1 x6_2).f1) ((a_a l0_1 x6_2).f2) ((a_a l0_1 x6_2).f3) ((a_a l0_1 x6_2).f4) true ((a_a l0_1 x6_2).f6) ((a_a l0_1 x6_2).f7) ((a_a l0_1 x6_2).f8) ((a_a l0_1 x6_2).f9) ((a_a l0_1 x6_2).f10)) = some r:=by rw [if_pos rfl] at H;exact H
       clear H
       have H:=H1
       clear H1
       have H':=a_g.mk H
       clear H
       have I_s:=f_T.out
       have I_0:=b_i.out
       have p_C : w8.cell? ⟨b_2,0,none⟩ = some (.int .i64 0):=(a_b b_d.out 0).trans rfl
       have p_D : w8.cell? ⟨b_2,1,none⟩ = some (.int .i64 0):=(a_b b_d.out 1).trans rfl
       have t_u : w8.cell? ⟨b_2,2,none⟩ = some (.int .i64 0):=(a_b b_d.out 2).trans rfl
       have t_v : w8.cell? ⟨b_2,3,none⟩ = some (.int .i64 0):=(a_b b_d.out 3).trans rfl
       have t_w : w8.cell? ⟨b_2,4,none⟩ = some (.int .i64 0):=(a_b b_d.out 4).trans rfl
       have t_x : w8.cell? ⟨b_2,5,none⟩ = some (.bool false):=(a_b b_d.out 5).trans rfl
       have t_y : w8.cell? ⟨b_2,6,none⟩ = some (.bool false):=(a_b b_d.out 6).trans rfl
       have t_z : w8.cell? ⟨b_2,7,none⟩ = some (.int .u32 0):=(a_b b_d.out 7).trans rfl
       have t_A : w8.cell? ⟨b_2,8,none⟩ = some (.int .i64 0):=(a_b b_d.out 8).trans rfl
       have t_B : w8.cell? ⟨b_2,9,none⟩ = some (.int .i64 0):=(a_b b_d.out 9).trans rfl
       have r_3 : w8.cell? ⟨b_2,10,none⟩ = some (.int .i64 0):=(a_b b_d.out 10).trans rfl
       have q_t:=a_c b_d.out 0
       have q_u:=a_c b_d.out 1
       have v_h:=a_c b_d.out 2
       have v_i:=a_c b_d.out 3
       have v_j:=a_c b_d.out 4
       have v_k:=a_c b_d.out 5
       have v_l:=a_c b_d.out 6
       have v_m:=a_c b_d.out 7
       have v_n:=a_c b_d.out 8
       have v_o:=a_c b_d.out 9
       have s_d:=a_c b_d.out 10
       go_wp2
       go_meet
       case rel => (try rw [← Nbq12.out]);exact ⟨_,((a_a l0_1 x6_2).f6),(by first|rfl|(simp;done)|(simp [*];done)),H',⟨by have:=HK1.out;have:=HK2.out;first|omega|exact Nat.le_refl _⟩,⟨by (with_reducible repeat (first|refine a_e ?_ _|refine a_h ?_|refine a_d ?_ _));refine a_o ?_ b_i.out _;(with_reducible repeat (first|refine a_e ?_ _|refine a_h ?_|refine a_d ?_ _));refine a_o ?_ b_i.out _;(with_reducible repeat (first|refine a_e ?_ _|refine a_h ?_|refine a_d ?_ _));refine a_o ?_ b_i.out _;(with_reducible repeat (first|refine a_e ?_ _|refine a_h ?_|refine a_d ?_ _));refine a_o ?_ b_i.out _;(with_reducible repeat (first|refine a_e ?_ _|refine a_h ?_|refine a_d ?_ _));refine a_o ?_ b_i.out _;(with_reducible repeat (first|refine a_e ?_ _|refine a_h ?_|refine a_d ?_ _));refine a_o ?_ b_i.out _;(with_reducible repeat (first|refine a_e ?_ _|refine a_h ?_|refine a_d ?_ _));refine a_o ?_ b_i.out _;(with_reducible repeat (first|refine a_e ?_ _|refine a_h ?_|refine a_d ?_ _));refine a_o ?_ b_i.out _;(with_reducible repeat (first|refine a_e ?_ _|refine a_h ?_|refine a_d ?_ _));refine a_o ?_ b_i.out _;(with_reducible repeat (first|refine a_e ?_ _|refine a_h ?_|refine a_d ?_ _));refine a_o ?_ b_i.out _;(with_reducible repeat (first|refine a_e ?_ _|refine a_h ?_|refine a_d ?_ _));refine a_o ?_ b_i.out _;(with_reducible repeat (first|refine a_e ?_ _|refine a_h ?_|refine a_d ?_ _));exact d_W.out⟩,⟨by (with_reducible repeat (first|refine a_e ?_ _|refine a_h ?_|refine a_d ?_ _));refine a_r (cs:=#[.int .i64 ((a_a l0_1 x6_2).f0),.int .i64 ((a_a l0_1 x6_2).f1),.int .i64 ((a_a l0_1 x6_2).f2),.int .i64 ((a_a l0_1 x6_2).f3),.int .i64 ((a_a l0_1 x6_2).f4),.bool (true),.bool ((a_a l0_1 x6_2).f6),.int .u32 ((a_a l0_1 x6_2).f7),.int .i64 ((a_a l0_1 x6_2).f8),.int .i64 ((a_a l0_1 x6_2).f9),.int .i64 0]) ?_ 10 _ rfl;(with_reducible repeat (first|refine a_e ?_ _|refine a_h ?_|refine a_d ?_ _));refine a_r (cs:=#[.int .i64 ((a_a l0_1 x6_2).f0),.int .i64 ((a_a l0_1 x6_2).f1),.int .i64 ((a_a l0_1 x6_2).f2),.int .i64 ((a_a l0_1 x6_2).f3),.int .i64 ((a_a l0_1 x6_2).f4),.bool (true),.bool ((a_a l0_1 x6_2).f6),.int .u32 ((a_a l0_1 x6_2).f7),.int .i64 ((a_a l0_1 x6_2).f8),.int .i64 0,.int .i64 0]) ?_ 9 _ rfl;(with_reducible repeat (first|refine a_e ?_ _|refine a_h ?_|refine a_d ?_ _));refine a_r (cs:=#[.int .i64 ((a_a l0_1 x6_2).f0),.int .i64 ((a_a l0_1 x6_2).f1),.int .i64 ((a_a l0_1 x6_2).f2),.int .i64 ((a_a l0_1 x6_2).f3),.int .i64 ((a_a l0_1 x6_2).f4),.bool (true),.bool ((a_a l0_1 x6_2).f6),.int .u32 ((a_a l0_1 x6_2).f7),.int .i64 0,.int .i64 0,.int .i64 0]) ?_ 8 _ rfl;(with_reducible repeat (first|refine a_e ?_ _|refine a_h ?_|refine a_d ?_ _));refine a_r (cs:=#[.int .i64 ((a_a l0_1 x6_2).f0),.int .i64 ((a_a l0_1 x6_2).f1),.int .i64 ((a_a l0_1 x6_2).f2),.int .i64 ((a_a l0_1 x6_2).f3),.int .i64 ((a_a l0_1 x6_2).f4),.bool (true),.bool ((a_a l0_1 x6_2).f6),.int .u32 0,.int .i64 0,.int .i64 0,.int .i64 0]) ?_ 7 _ rfl;(with_reducible repeat (first|refine a_e ?_ _|refine a_h ?_|refine a_d ?_ _));refine a_r (cs:=#[.int .i64 ((a_a l0_1 x6_2).f0),.int .i64 ((a_a l0_1 x6_2).f1),.int .i64 ((a_a l0_1 x6_2).f2),.int .i64 ((a_a l0_1 x6_2).f3),.int .i64 ((a_a l0_1 x6_2).f4),.bool (true),.bool false,.int .u32 0,.int .i64 0,.int .i64 0,.int .i64 0]) ?_ 6 _ rfl;(with_reducible repeat (first|refine a_e ?_ _|refine a_h ?_|refine a_d ?_ _));refine a_r (cs:=#[.int .i64 ((a_a l0_1 x6_2).f0),.int .i64 ((a_a l0_1 x6_2).f1),.int .i64 ((a_a l0_1 x6_2).f2),.int .i64 ((a_a l0_1 x6_2).f3),.int .i64 ((a_a l0_1 x6_2).f4),.bool false,.bool false,.int .u32 0,.int .i64 0,.int .i64 0,.int .i64 0]) ?_ 5 _ rfl;(with_reducible repeat (first|refine a_e ?_ _|refine a_h ?_|refine a_d ?_ _));refine a_r (cs:=#[.int .i64 ((a_a l0_1 x6_2).f0),.int .i64 ((a_a l0_1 x6_2).f1),.int .i64 ((a_a l0_1 x6_2).f2),.int .i64 ((a_a l0_1 x6_2).f3),.int .i64 0,.bool false,.bool false,.int .u32 0,.int .i64 0,.int .i64 0,.int .i64 0]) ?_ 4 _ rfl;(with_reducible repeat (first|refine a_e ?_ _|refine a_h ?_|refine a_d ?_ _));refine a_r (cs:=#[.int .i64 ((a_a l0_1 x6_2).f0),.int .i64 ((a_a l0_1 x6_2).f1),.int .i64 ((a_a l0_1 x6_2).f2),.int .i64 0,.int .i64 0,.bool false,.bool false,.int .u32 0,.int .i64 0,.int .i64 0,.int .i64 0]) ?_ 3 _ rfl;(with_reducible repeat (first|refine a_e ?_ _|refine a_h ?_|refine a_d ?_ _));refine a_r (cs:=#[.int .i64 ((a_a l0_1 x6_2).f0),.int .i64 ((a_a l0_1 x6_2).f1),.int .i64 0,.int .i64 0,.int .i64 0,.bool false,.bool false,.int .u32 0,.int .i64 0,.int .i64 0,.int .i64 0]) ?_ 2 _ rfl;(with_reducible repeat (first|refine a_e ?_ _|refine a_h ?_|refine a_d ?_ _));refine a_r (cs:=#[.int .i64 ((a_a l0_1 x6_2).f0),.int .i64 0,.int .i64 0,.int .i64 0,.int .i64 0,.bool false,.bool false,.int .u32 0,.int .i64 0,.int .i64 0,.int .i64 0]) ?_ 1 _ rfl;(with_reducible repeat (first|refine a_e ?_ _|refine a_h ?_|refine a_d ?_ _));refine a_r (cs:=#[.int .i64 0,.int .i64 0,.int .i64 0,.int .i64 0,.int .i64 0,.bool false,.bool false,.int .u32 0,.int .i64 0,.int .i64 0,.int .i64 0]) ?_ 0 _ rfl;(with_reducible repeat (first|refine a_e ?_ _|refine a_h ?_|refine a_d ?_ _));exact b_d.out⟩,⟨by repeat (first|(with_reducible first|exact HB.out|apply a_j|apply a_f|apply a_k|refine a_i ?_ g_4.out|refine a_i ?_ o_R.out)|exact HB.out)⟩⟩
      replace c13:=Bool.eq_false_iff.mpr c13
      subst c13
      have hq219_:=Nbq12.out.symm
      have H1 : (a_s.j2 k2 x3_1 x4_2 x5_2 x6_2 true a0_0 l0_1 ((a_a l0_1 x6_2).f0) ((a_a l0_1 x6_2).f1) ((a_a l0_1 x6_2).f2) ((a_a l0_1 x6_2).f3) ((a_a l0_1 x6_2).f4) false ((a_a l0_1 x6_2).f6) ((a_a l0_1 x6_2).f7) ((a_a l0_1 x6_2).f8) ((a_a l0_1 x6_2).f9) ((a_a l0_1 x6_2).f10)) = some r:=by rw [if_neg (show ¬ (false = true) by decide)] at H;exact H
      clear H
      have H:=H1
      clear H1
      have H':=a_g.mk H
      clear H
      have H_m:=f_T.out
      have H_w:=b_i.out
      have m_I : w8.cell? ⟨b_2,0,none⟩ = some (.int .i64 0):=(a_b b_d.out 0).trans rfl
      have m_J : w8.cell? ⟨b_2,1,none⟩ = some (.int .i64 0):=(a_b b_d.out 1).trans rfl
      have t_K : w8.cell? ⟨b_2,2,none⟩ = some (.int .i64 0):=(a_b b_d.out 2).trans rfl
      have t_L : w8.cell? ⟨b_2,3,none⟩ = some (.int .i64 0):=(a_b b_d.out 3).trans rfl
      have t_M : w8.cell? ⟨b_2,4,none⟩ = some (.int .i64 0):=(a_b b_d.out 4).trans rfl
      have t_N : w8.cell? ⟨b_2,5,none⟩ = some (.bool false):=(a_b b_d.out 5).trans rfl
      have t_O : w8.cell? ⟨b_2,6,none⟩ = some (.bool false):=(a_b b_d.out 6).trans rfl
      have t_P : w8.cell? ⟨b_2,7,none⟩ = some (.int .u32 0):=(a_b b_d.out 7).trans rfl
      have t_Q : w8.cell? ⟨b_2,8,none⟩ = some (.int .i64 0):=(a_b b_d.out 8).trans rfl
      have t_R : w8.cell? ⟨b_2,9,none⟩ = some (.int .i64 0):=(a_b b_d.out 9).trans rfl
      have r_5 : w8.cell? ⟨b_2,10,none⟩ = some (.int .i64 0):=(a_b b_d.out 10).trans rfl
      have n_f:=a_c b_d.out 0
      have n_g:=a_c b_d.out 1
      have v_x:=a_c b_d.out 2
      have v_y:=a_c b_d.out 3
      have v_z:=a_c b_d.out 4
      have v_A:=a_c b_d.out 5
      have v_B:=a_c b_d.out 6
      have v_C:=a_c b_d.out 7
      have v_D:=a_c b_d.out 8
      have v_E:=a_c b_d.out 9
      have s_f:=a_c b_d.out 10
      go_wp2
      go_meet
      case rel => (try rw [← Nbq12.out]);exact ⟨_,(true),(by first|rfl|(simp;done)|(simp [*];done)),H',⟨by have:=HK1.out;have:=HK2.out;first|omega|exact Nat.le_refl _⟩,⟨by (with_reducible repeat (first|refine a_e ?_ _|refine a_h ?_|refine a_d ?_ _));refine a_o ?_ b_i.out _;(with_reducible repeat (first|refine a_e ?_ _|refine a_h ?_|refine a_d ?_ _));refine a_o ?_ b_i.out _;(with_reducible repeat (first|refine a_e ?_ _|refine a_h ?_|refine a_d ?_ _));refine a_o ?_ b_i.out _;(with_reducible repeat (first|refine a_e ?_ _|refine a_h ?_|refine a_d ?_ _));refine a_o ?_ b_i.out _;(with_reducible repeat (first|refine a_e ?_ _|refine a_h ?_|refine a_d ?_ _));refine a_o ?_ b_i.out _;(with_reducible repeat (first|refine a_e ?_ _|refine a_h ?_|refine a_d ?_ _));refine a_o ?_ b_i.out _;(with_reducible repeat (first|refine a_e ?_ _|refine a_h ?_|refine a_d ?_ _));refine a_o ?_ b_i.out _;(with_reducible repeat (first|refine a_e ?_ _|refine a_h ?_|refine a_d ?_ _));refine a_o ?_ b_i.out _;(with_reducible repeat (first|refine a_e ?_ _|refine a_h ?_|refine a_d ?_ _));refine a_o ?_ b_i.out _;(with_reducible repeat (first|refine a_e ?_ _|refine a_h ?_|refine a_d ?_ _));refine a_o ?_ b_i.out _;(with_reducible repeat (first|refine a_e ?_ _|refine a_h ?_|refine a_d ?_ _));refine a_o ?_ b_i.out _;(with_reducible repeat (first|refine a_e ?_ _|refine a_h ?_|refine a_d ?_ _));exact d_W.out⟩,⟨by (with_reducible repeat (first|refine a_e ?_ _|refine a_h ?_|refine a_d ?_ _));refine a_r (cs:=#[.int .i64 ((a_a l0_1 x6_2).f0),.int .i64 ((a_a l0_1 x6_2).f1),.int .i64 ((a_a l0_1 x6_2).f2),.int .i64 ((a_a l0_1 x6_2).f3),.int .i64 ((a_a l0_1 x6_2).f4),.bool (false),.bool ((a_a l0_1 x6_2).f6),.int .u32 ((a_a l0_1 x6_2).f7),.int .i64 ((a_a l0_1 x6_2).f8),.int .i64 ((a_a l0_1 x6_2).f9),.int .i64 0]) ?_ 10 _ rfl;(with_reducible repeat (first|refine a_e ?_ _|refine a_h ?_|refine a_d ?_ _));refine a_r (cs:=#[.int .i64 ((a_a l0_1 x6_2).f0),.int .i64 ((a_a l0_1 x6_2).f1),.int .i64 ((a_a l0_1 x6_2).f2),.int .i64 ((a_a l0_1 x6_2).f3),.int .i64 ((a_a l0_1 x6_2).f4),.bool (false),.bool ((a_a l0_1 x6_2).f6),.int .u32 ((a_a l0_1 x6_2).f7),.int .i64 ((a_a l0_1 x6_2).f8),.int .i64 0,.int .i64 0]) ?_ 9 _ rfl;(with_reducible repeat (first|refine a_e ?_ _|refine a_h ?_|refine a_d ?_ _));refine a_r (cs:=#[.int .i64 ((a_a l0_1 x6_2).f0),.int .i64 ((a_a l0_1 x6_2).f1),.int .i64 ((a_a l0_1 x6_2).f2),.int .i64 ((a_a l0_1 x6_2).f3),.int .i64 ((a_a l0_1 x6_2).f4),.bool (false),.bool ((a_a l0_1 x6_2).f6),.int .u32 ((a_a l0_1 x6_2).f7),.int .i64 0,.int .i64 0,.int .i64 0]) ?_ 8 _ rfl;(with_reducible repeat (first|refine a_e ?_ _|refine a_h ?_|refine a_d ?_ _));refine a_r (cs:=#[.int .i64 ((a_a l0_1 x6_2).f0),.int .i64 ((a_a l0_1 x6_2).f1),.int .i64 ((a_a l0_1 x6_2).f2),.int .i64 ((a_a l0_1 x6_2).f3),.int .i64 ((a_a l0_1 x6_2).f4),.bool (false),.bool ((a_a l0_1 x6_2).f6),.int .u32 0,.int .i64 0,.int .i64 0,.int .i64 0]) ?_ 7 _ rfl;(with_reducible repeat (first|refine a_e ?_ _|refine a_h ?_|refine a_d ?_ _));refine a_r (cs:=#[.int .i64 ((a_a l0_1 x6_2).f0),.int .i64 ((a_a l0_1 x6_2).f1),.int .i64 ((a_a l0_1 x6_2).f2),.int .i64 ((a_a l0_1 x6_2).f3),.int .i64 ((a_a l0_1 x6_2).f4),.bool (false),.bool false,.int .u32 0,.int .i64 0,.int .i64 0,.int .i64 0]) ?_ 6 _ rfl;(with_reducible repeat (first|refine a_e ?_ _|refine a_h ?_|refine a_d ?_ _));refine a_r (cs:=#[.int .i64 ((a_a l0_1 x6_2).f0),.int .i64 ((a_a l0_1 x6_2).f1),.int .i64 ((a_a l0_1 x6_2).f2),.int .i64 ((a_a l0_1 x6_2).f3),.int .i64 ((a_a l0_1 x6_2).f4),.bool false,.bool false,.int .u32 0,.int .i64 0,.int .i64 0,.int .i64 0]) ?_ 5 _ rfl;(with_reducible repeat (first|refine a_e ?_ _|refine a_h ?_|refine a_d ?_ _));refine a_r (cs:=#[.int .i64 ((a_a l0_1 x6_2).f0),.int .i64 ((a_a l0_1 x6_2).f1),.int .i64 ((a_a l0_1 x6_2).f2),.int .i64 ((a_a l0_1 x6_2).f3),.int .i64 0,.bool false,.bool false,.int .u32 0,.int .i64 0,.int .i64 0,.int .i64 0]) ?_ 4 _ rfl;(with_reducible repeat (first|refine a_e ?_ _|refine a_h ?_|refine a_d ?_ _));refine a_r (cs:=#[.int .i64 ((a_a l0_1 x6_2).f0),.int .i64 ((a_a l0_1 x6_2).f1),.int .i64 ((a_a l0_1 x6_2).f2),.int .i64 0,.int .i64 0,.bool false,.bool false,.int .u32 0,.int .i64 0,.int .i64 0,.int .i64 0]) ?_ 3 _ rfl;(with_reducible repeat (first|refine a_e ?_ _|refine a_h ?_|refine a_d ?_ _));refine a_r (cs:=#[.int .i64 ((a_a l0_1 x6_2).f0),.int .i64 ((a_a l0_1 x6_2).f1),.int .i64 0,.int .i64 0,.int .i64 0,.bool false,.bool false,.int .u32 0,.int .i64 0,.int .i64 0,.int .i64 0]) ?_ 2 _ rfl;(with_reducible repeat (first|refine a_e ?_ _|refine a_h ?_|refine a_d ?_ _));refine a_r (cs:=#[.int .i64 ((a_a l0_1 x6_2).f0),.int .i64 0,.int .i64 0,.int .i64 0,.int .i64 0,.bool false,.bool false,.int .u32 0,.int .i64 0,.int .i64 0,.int .i64 0]) ?_ 1 _ rfl;(with_reducible repeat (first|refine a_e ?_ _|refine a_h ?_|refine a_d ?_ _));refine a_r (cs:=#[.int .i64 0,.int .i64 0,.int .i64 0,.int .i64 0,.int .i64 0,.bool false,.bool false,.int .u32 0,.int .i64 0,.int .i64 0,.int .i64 0]) ?_ 0 _ rfl;(with_reducible repeat (first|refine a_e ?_ _|refine a_h ?_|refine a_d ?_ _));exact b_d.out⟩,⟨by repeat (first|(with_reducible first|exact HB.out|apply a_j|apply a_f|apply a_k|refine a_i ?_ g_4.out|refine a_i ?_ o_R.out)|exact HB.out)⟩⟩
     case rest =>
      clear HC6
      try clear c1
      try clear q1
      try clear p2
      try clear q2
      try clear hx2
      try clear c3
      try clear c3b0
      try clear c4
      try clear c4b0
      try clear c5
      try clear c5b0
      try clear c9
      try clear c11
      try clear c11b0
      try clear c11b1
      try clear q12
      try clear c13
      try clear c14
      try clear c16
      try clear c18
      try clear g_8
      try clear g_9
      try clear i_C
      try clear j_2
      try clear j_3
      try clear j_4
      try clear j_5
      try clear j_6
      try clear j_7
      try clear j_8
      try clear j_9
      try clear p_C
      try clear p_D
      try clear r_3
      try clear t_u
      try clear t_v
      try clear t_w
      try clear t_x
      try clear t_y
      try clear t_z
      try clear t_A
      try clear t_B
      try clear m_I
      try clear m_J
      try clear r_5
      try clear t_K
      try clear t_L
      try clear t_M
      try clear t_N
      try clear t_O
      try clear t_P
      try clear t_Q
      try clear t_R
      try clear i_i
      try clear i_j
      try clear n_8
      try clear p_E
      try clear p_F
      try clear p_G
      try clear p_H
      try clear p_I
      try clear p_J
      try clear p_K
      try clear p_L
      try clear f_e
      try clear f_f
      try clear h_g
      try clear h_h
      try clear i_E
      try clear k_x
      try clear k_y
      try clear k_z
      try clear k_A
      try clear k_B
      try clear k_C
      try clear k_D
      try clear k_E
      try clear q_t
      try clear q_u
      try clear s_d
      try clear v_h
      try clear v_i
      try clear v_j
      try clear v_k
      try clear v_l
      try clear v_m
      try clear v_n
      try clear v_o
      try clear n_f
      try clear n_g
      try clear s_f
      try clear v_x
      try clear v_y
      try clear v_z
      try clear v_A
      try clear v_B
      try clear v_C
      try clear v_D
      try clear v_E
      try clear i_l
      try clear i_m
      try clear o_n
      try clear q_v
      try clear q_w
      try clear q_x
      try clear q_y
      try clear q_z
      try clear q_A
      try clear q_B
      try clear q_C
      try clear f_g
      try clear f_h
      try clear l_f
      try clear l_g
      try clear i_H
      try clear l_h
      try clear l_i
      try clear l_j
      try clear l_k
      try clear l_l
      try clear l_m
      try clear l_n
      try clear l_o
      try clear p2
      try clear p224
      try clear q224
      obtain ⟨kq,x36_5,rfl,HA,HJ5,d_W,b_d,HB⟩:=hcut
      cases kq with
      | zero => exact absurd HA.out (by simp [a_s.j2])
      | succ kj5 =>
       have H:=HA.out
       clear HA
       simp only [a_s.j2] at H
       by_cases c20 : x36_5 = true
       ·subst c20
        have H1 : (a_s.l1 kj5 x3_1 x4_2 x5_2 (wrap64 (x6_2 + 1)) a0_0 l0_1) = some r:=by rw [if_pos rfl] at H;exact H
        clear H
        have H:=H1
        clear H1
        have H':=a_g.mk H
        clear H
        go_wp2
        go_roundg kj5
        case measure => have:=HK1.out;have:=HK2.out;have:=HJ5.out;omega
        case rel => exact ⟨(x4_2),(x5_2),(wrap64 (x6_2 + 1)),(by first|rfl|(simp;done)|(simp [*];done)),(by first|rfl|(simp;done)|(simp [*];done)),(by first|rfl|(simp;done)|(simp [*];done)),H',⟨by have:=HK1.out;have:=HK2.out;have:=HJ5.out;omega⟩,⟨by (with_reducible repeat (first|refine a_e ?_ _|refine a_h ?_|refine a_d ?_ _));exact d_W.out⟩,⟨by repeat (first|(with_reducible first|exact HB.out|apply a_j|apply a_f|apply a_k|refine a_i ?_ g_4.out|refine a_i ?_ o_R.out)|exact HB.out)⟩⟩
       replace c20:=Bool.eq_false_iff.mpr c20
       subst c20
       have H1 : (if ((a_a l0_1 x6_2).f4) ≥ 0 then (a_s.l1 kj5 x3_1 true x5_2 (wrap64 (x6_2 + 1)) a0_0 l0_1) else (a_s.l1 kj5 x3_1 x4_2 false (wrap64 (x6_2 + 1)) a0_0 l0_1)) = some r:=by rw [if_neg (show ¬ (false = true) by decide)] at H;exact H
       clear H
       have H:=H1
       clear H1
       by_cases c21 : ((a_a l0_1 x6_2).f4) ≥ 0
       ·rw [if_pos c21] at H
        have c21b0 : decide (0 ≤ ((a_a l0_1 x6_2).f4)) = true:=decide_eq_true c21
        clear c21
        have H':=a_g.mk H
        clear H
        have y_a:=f_T.out
        have y_h:=b_i.out
        have h_b : wc.cell? ⟨b_2,0,none⟩ = some (.int .i64 ((a_a l0_1 x6_2).f0)):=(a_b b_d.out 0).trans rfl
        have h_d : wc.cell? ⟨b_2,1,none⟩ = some (.int .i64 ((a_a l0_1 x6_2).f1)):=(a_b b_d.out 1).trans rfl
        have k_k : wc.cell? ⟨b_2,2,none⟩ = some (.int .i64 ((a_a l0_1 x6_2).f2)):=(a_b b_d.out 2).trans rfl
        have k_l : wc.cell? ⟨b_2,3,none⟩ = some (.int .i64 ((a_a l0_1 x6_2).f3)):=(a_b b_d.out 3).trans rfl
        have k_m : wc.cell? ⟨b_2,4,none⟩ = some (.int .i64 ((a_a l0_1 x6_2).f4)):=(a_b b_d.out 4).trans rfl
        have k_n : wc.cell? ⟨b_2,5,none⟩ = some (.bool ((a_a l0_1 x6_2).f5)):=(a_b b_d.out 5).trans rfl
        have k_o : wc.cell? ⟨b_2,6,none⟩ = some (.bool ((a_a l0_1 x6_2).f6)):=(a_b b_d.out 6).trans rfl
        have k_p : wc.cell? ⟨b_2,7,none⟩ = some (.int .u32 ((a_a l0_1 x6_2).f7)):=(a_b b_d.out 7).trans rfl
        have k_q : wc.cell? ⟨b_2,8,none⟩ = some (.int .i64 ((a_a l0_1 x6_2).f8)):=(a_b b_d.out 8).trans rfl
        have k_r : wc.cell? ⟨b_2,9,none⟩ = some (.int .i64 ((a_a l0_1 x6_2).f9)):=(a_b b_d.out 9).trans rfl
        have i_D : wc.cell? ⟨b_2,10,none⟩ = some (.int .i64 ((a_a l0_1 x6_2).f10)):=(a_b b_d.out 10).trans rfl
        have h_j:=a_c b_d.out 0
        have h_k:=a_c b_d.out 1
        have k_O:=a_c b_d.out 2
        have k_P:=a_c b_d.out 3
        have k_Q:=a_c b_d.out 4
        have k_R:=a_c b_d.out 5
        have k_S:=a_c b_d.out 6
        have k_T:=a_c b_d.out 7
        have k_U:=a_c b_d.out 8
        have k_V:=a_c b_d.out 9
        have i_F:=a_c b_d.out 10
        go_wp2
        go_roundg kj5
        case measure => have:=HK1.out;have:=HK2.out;have:=HJ5.out;omega
        case rel => exact ⟨(true),(x5_2),(wrap64 (x6_2 + 1)),(by first|rfl|(simp;done)|(simp [*];done)),(by first|rfl|(simp;done)|(simp [*];done)),(by first|rfl|(simp;done)|(simp [*];done)),H',⟨by have:=HK1.out;have:=HK2.out;have:=HJ5.out;omega⟩,⟨by (with_reducible repeat (first|refine a_e ?_ _|refine a_h ?_|refine a_d ?_ _));exact d_W.out⟩,⟨by repeat (first|(with_reducible first|exact HB.out|apply a_j|apply a_f|apply a_k|refine a_i ?_ g_4.out|refine a_i ?_ o_R.out)|exact HB.out)⟩⟩
       rw [if_neg c21] at H
       have c21b0 : decide (0 ≤ ((a_a l0_1 x6_2).f4)) = false:=decide_eq_false c21
       clear c21
       have H':=a_g.mk H
       clear H
       have y_b:=f_T.out
       have y_i:=b_i.out
       have f_7 : wc.cell? ⟨b_2,0,none⟩ = some (.int .i64 ((a_a l0_1 x6_2).f0)):=(a_b b_d.out 0).trans rfl
       have f_8 : wc.cell? ⟨b_2,1,none⟩ = some (.int .i64 ((a_a l0_1 x6_2).f1)):=(a_b b_d.out 1).trans rfl
       have g_C : wc.cell? ⟨b_2,2,none⟩ = some (.int .i64 ((a_a l0_1 x6_2).f2)):=(a_b b_d.out 2).trans rfl
       have g_D : wc.cell? ⟨b_2,3,none⟩ = some (.int .i64 ((a_a l0_1 x6_2).f3)):=(a_b b_d.out 3).trans rfl
       have g_E : wc.cell? ⟨b_2,4,none⟩ = some (.int .i64 ((a_a l0_1 x6_2).f4)):=(a_b b_d.out 4).trans rfl
       have g_F : wc.cell? ⟨b_2,5,none⟩ = some (.bool ((a_a l0_1 x6_2).f5)):=(a_b b_d.out 5).trans rfl
       have g_G : wc.cell? ⟨b_2,6,none⟩ = some (.bool ((a_a l0_1 x6_2).f6)):=(a_b b_d.out 6).trans rfl
       have g_H : wc.cell? ⟨b_2,7,none⟩ = some (.int .u32 ((a_a l0_1 x6_2).f7)):=(a_b b_d.out 7).trans rfl
       have g_I : wc.cell? ⟨b_2,8,none⟩ = some (.int .i64 ((a_a l0_1 x6_2).f8)):=(a_b b_d.out 8).trans rfl
       have g_J : wc.cell? ⟨b_2,9,none⟩ = some (.int .i64 ((a_a l0_1 x6_2).f9)):=(a_b b_d.out 9).trans rfl
       have f_v : wc.cell? ⟨b_2,10,none⟩ = some (.int .i64 ((a_a l0_1 x6_2).f10)):=(a_b b_d.out 10).trans rfl
       have f_9:=a_c b_d.out 0
       have g_a:=a_c b_d.out 1
       have g_N:=a_c b_d.out 2
       have g_O:=a_c b_d.out 3
       have g_P:=a_c b_d.out 4
       have g_Q:=a_c b_d.out 5
       have g_R:=a_c b_d.out 6
       have g_S:=a_c b_d.out 7
       have g_T:=a_c b_d.out 8
       have g_U:=a_c b_d.out 9
       have f_w:=a_c b_d.out 10
       go_wp2
       go_roundg kj5
       case measure => have:=HK1.out;have:=HK2.out;have:=HJ5.out;omega
       case rel => exact ⟨(x4_2),(false),(wrap64 (x6_2 + 1)),(by first|rfl|(simp;done)|(simp [*];done)),(by first|rfl|(simp;done)|(simp [*];done)),(by first|rfl|(simp;done)|(simp [*];done)),H',⟨by have:=HK1.out;have:=HK2.out;have:=HJ5.out;omega⟩,⟨by (with_reducible repeat (first|refine a_e ?_ _|refine a_h ?_|refine a_d ?_ _));exact d_W.out⟩,⟨by repeat (first|(with_reducible first|exact HB.out|apply a_j|apply a_f|apply a_k|refine a_i ?_ g_4.out|refine a_i ?_ o_R.out)|exact HB.out)⟩⟩
end Go.Proofs.YtgglkfilkagblaaDoor.Q
end
section
namespace Go.Proofs.YtgglkfilkagblaaDoor.Q
open Go.RowKit Go.Proofs.YtgglkfilkagblaaDoorW.PrintWords Go.Proofs.YtgglkfilkagblaaDoorW.PrintLast Go.Proofs.YtgglkfilkagblaaDoorW.PrintMore
set_option linter.unusedVariables false
set_option linter.unusedSimpArgs false
def a_z.l0 : Nat → List Int → List Int → Int → Int → Option (Bool)
 | 0,_,_,_,_ => none
 | k + 1,x0,x1,x12,x13 => if x13 < x12 then (if 0 ≤ x13 then (if x13 < (x0.length : Int) then (if x13 < (x1.length : Int) then (if (rd x0 x13) = (rd x1 x13) then (a_z.l0 k x0 x1 x12 (wrap64 (x13 + 1))) else (some false)) else (none)) else (none)) else (none)) else (some true)
def a_z.f (k : Nat) (l0 : List Int) (l1 : List Int) : Option (Bool):=if (l0.length : Int) = (l1.length : Int) then (a_z.l0 k l0 l1 (l0.length : Int) 0) else (some false)
theorem a_z.c_F : ∀ k,(∀ y0 y1 y2 y3,LeO (a_z.l0 k y0 y1 y2 y3) (a_z.l0 (k + 1) y0 y1 y2 y3))
 | 0 => fun _ _ _ _ r h => by simp [a_z.l0] at h
 | k + 1 => by
  have ih0:=a_z.c_F k
  ·intro y0 y1 y2 y3
   unfold a_z.l0
   repeat' first
   | (with_reducible exact ih0 _ _ _ _)
   | (with_reducible exact LeO.refl _)
   | (with_reducible exact LeO.none _)
   | (with_reducible refine LeO.ite ?_ ?_)
   | (with_reducible refine LeO.bind ?_ (fun _ => ?_))
   | exact ih0 _ _ _ _
   | exact LeO.none _
   | refine LeO.ite ?_ ?_
   | refine LeO.bind ?_ (fun _ => ?_)
theorem a_z.mono : ∀ a0 a1 k,LeO (a_z.f k a0 a1) (a_z.f (k + 1) a0 a1):=by
 intro a0 a1 k
 have ih0:=a_z.c_F k
 unfold a_z.f
 repeat' first
  | (with_reducible exact ih0 _ _ _ _)
  | (with_reducible exact LeO.refl _)
  | (with_reducible exact LeO.none _)
  | (with_reducible refine LeO.ite ?_ ?_)
  | (with_reducible refine LeO.bind ?_ (fun _ => ?_))
  | exact ih0 _ _ _ _
  | exact LeO.none _
  | refine LeO.ite ?_ ?_
  | refine LeO.bind ?_ (fun _ => ?_)
set_option maxHeartbeats 8000000 in
set_option maxRecDepth 100000 in
theorem a_z.calls (k : Nat) (A0 : Option Addr) (c0 : Nat) (l0 : List Int) (A1 : Option Addr) (c1 : Nat) (l1 : List Int) (r : Bool) (w : World) (hr0 : Kd.C (Kd.int .i64) w A0 l0.length l0) (hc0 : l0.length ≤ c0) (hr1 : Kd.C (Kd.int .i64) w A1 l1.length l1) (hc1 : l1.length ≤ c1) (h : a_z.f k l0 l1 = some r) :
 Calls Tryd.prog 12 #[.slice A0 l0.length c0,.slice A1 l1.length c1] w fun e w' => e = .returned (.bool r) ∧ b_R w w':=by
 have HR0:=a_g.mk hr0
 have HC0:=a_g.mk hc0
 clear hr0 hc0
 have HR1:=a_g.mk hr1
 have HC1:=a_g.mk hc1
 clear hr1 hc1
 have H : (if (l0.length : Int) = (l1.length : Int) then (a_z.l0 k l0 l1 (l0.length : Int) 0) else (some false)) = some r:=h
 clear h
 by_cases c3 : (l0.length : Int) = (l1.length : Int)
 rotate_left
 ·rw [if_neg c3] at H
  have c3b0 : ((l0.length : Int) == (l1.length : Int)) = false:=beq_eq_false_iff_ne.mpr c3
  have c3b1 : ((l0.length : Int) != (l1.length : Int)) = true:=bne_iff_ne.mpr c3
  have c3b2 : (l0.length == l1.length) = false:=by first|simpa using c3|(simp at c3 ⊢; omega)
  obtain rfl:=Option.some.inj H
  go_enter Tryd.func12,Tryd.ntmps12
  go_wp2
  repeat (go_quiet (fail);try go_wp2)
  go_ret
  exact ⟨by first|rfl|(simp;done)|(simp [*];done),by repeat (first|exact b_R.refl _|apply b_R.step)⟩
 rw [if_pos c3] at H
 have c3b0 : ((l0.length : Int) == (l1.length : Int)) = true:=beq_iff_eq.mpr c3
 have c3b1 : ((l0.length : Int) != (l1.length : Int)) = false:=bne_eq_false_iff_eq.mpr c3
 have c3b2 : (l0.length == l1.length) = true:=by first|simpa using c3|(simp at c3 ⊢; omega)
 clear c3
 have H':=a_g.mk H
 clear H
 go_enter Tryd.func12,Tryd.ntmps12
 go_wp2
 repeat (go_quiet (fail);try go_wp2)
 go_loopg [13] k (fun kq v13 w' => ∃ (x13_1 : Int),v13 = .int .i64 x13_1 ∧ a_g (a_z.l0 kq l0 l1 (l0.length : Int) x13_1 = some r) ∧ a_g (kq ≤ k) ∧ b_R w w')
 case atStart => exact ⟨(0),(by first|rfl|(simp;done)|(simp [*];done)),H',⟨Nat.le_refl _⟩,by repeat (first|exact b_R.refl _|apply b_R.step)⟩
 case round =>
  clear H'
  try clear c1
  try clear p2
  try clear c3
  try clear c3b0
  try clear c3b1
  try clear c3b2
  obtain ⟨x13_1,rfl,HA,HK1,⟨m1,rfl⟩⟩:=hrel
  cases gk with
  | zero => exact absurd HA.out (by simp [a_z.l0])
  | succ k1 =>
   have H:=HA.out
   clear HA
   simp only [a_z.l0] at H
   by_cases c4 : x13_1 < (l0.length : Int)
   rotate_left
   ·rw [if_neg c4] at H
    have c4b0 : decide (x13_1 < (l0.length : Int)) = false:=decide_eq_false c4
    clear c4
    obtain rfl:=Option.some.inj H
    go_wp2
    repeat (go_quiet (fail);try go_wp2)
    go_ret
    exact ⟨by first|rfl|(simp;done)|(simp [*];done),by repeat (first|exact b_R.refl _|apply b_R.step)⟩
   rw [if_pos c4] at H
   have c4b0 : decide (x13_1 < (l0.length : Int)) = true:=decide_eq_true c4
   clear c4
   by_cases c5 : 0 ≤ x13_1
   rotate_left
   ·rw [if_neg c5] at H
    exact absurd H (by simp)
   rw [if_pos c5] at H
   have c5b0 : decide (0 ≤ x13_1) = true:=decide_eq_true c5
   clear c5
   by_cases c6 : x13_1 < (l0.length : Int)
   rotate_left
   ·rw [if_neg c6] at H
    exact absurd H (by simp)
   rw [if_pos c6] at H
   have c6b0 : decide (x13_1 < (l0.length : Int)) = true:=decide_eq_true c6
   clear c6
   by_cases c7 : x13_1 < (l1.length : Int)
   rotate_left
   ·rw [if_neg c7] at H
    exact absurd H (by simp)
   rw [if_pos c7] at H
   have c7b0 : decide (x13_1 < (l1.length : Int)) = true:=decide_eq_true c7
   clear c7
   by_cases c8 : (rd l0 x13_1) = (rd l1 x13_1)
   rotate_left
   ·rw [if_neg c8] at H
    have c8b0 : ((rd l0 x13_1) == (rd l1 x13_1)) = false:=beq_eq_false_iff_ne.mpr c8
    have c8b1 : ((rd l0 x13_1) != (rd l1 x13_1)) = true:=bne_iff_ne.mpr c8
    obtain rfl:=Option.some.inj H
    have p226 : 0 ≤ (x13_1 : Int):=of_decide_eq_true (by first|(with_reducible assumption)|assumption)
    have q226 : x13_1 < (l0.length : Int):=of_decide_eq_true (by first|(with_reducible assumption)|assumption)
    obtain ⟨ad226,e226,w_W⟩:=Kd.n_7 HR0.out x13_1 p226 q226
    cases e226
    replace p226:=eq_true p226
    replace q226:=eq_true q226
    have p227 : 0 ≤ (x13_1 : Int):=of_decide_eq_true (by first|(with_reducible assumption)|assumption)
    have q227 : x13_1 < (l1.length : Int):=of_decide_eq_true (by first|(with_reducible assumption)|assumption)
    obtain ⟨ad227,e227,w_X⟩:=Kd.n_7 HR1.out x13_1 p227 q227
    cases e227
    replace p227:=eq_true p227
    replace q227:=eq_true q227
    go_wp2
    repeat (go_quiet (fail);try go_wp2)
    go_ret
    exact ⟨by first|rfl|(simp;done)|(simp [*];done),by repeat (first|exact b_R.refl _|apply b_R.step)⟩
   rw [if_pos c8] at H
   have c8b0 : ((rd l0 x13_1) == (rd l1 x13_1)) = true:=beq_iff_eq.mpr c8
   have c8b1 : ((rd l0 x13_1) != (rd l1 x13_1)) = false:=bne_eq_false_iff_eq.mpr c8
   clear c8
   have H':=a_g.mk H
   clear H
   have p226 : 0 ≤ (x13_1 : Int):=of_decide_eq_true (by first|(with_reducible assumption)|assumption)
   have q226 : x13_1 < (l0.length : Int):=of_decide_eq_true (by first|(with_reducible assumption)|assumption)
   obtain ⟨ad226,e226,w_W⟩:=Kd.n_7 HR0.out x13_1 p226 q226
   cases e226
   replace p226:=eq_true p226
   replace q226:=eq_true q226
   have p227 : 0 ≤ (x13_1 : Int):=of_decide_eq_true (by first|(with_reducible assumption)|assumption)
   have q227 : x13_1 < (l1.length : Int):=of_decide_eq_true (by first|(with_reducible assumption)|assumption)
   obtain ⟨ad227,e227,w_X⟩:=Kd.n_7 HR1.out x13_1 p227 q227
   cases e227
   replace p227:=eq_true p227
   replace q227:=eq_true q227
   go_wp2
   repeat (go_quiet (fail);try go_wp2)
   go_roundg k1
   case measure => have:=HK1.out;omega
   case rel => exact ⟨(wrap64 (x13_1 + 1)),(by first|rfl|(simp;done)|(simp [*];done)),H',⟨by have:=HK1.out;omega⟩,by repeat (first|exact b_R.refl _|apply b_R.step)⟩
end Go.Proofs.YtgglkfilkagblaaDoor.Q
end
section
namespace Go.Proofs.YtgglkfilkagblaaDoor.Q
open Go.RowKit Go.Proofs.YtgglkfilkagblaaDoorW.PrintWords Go.Proofs.YtgglkfilkagblaaDoorW.PrintLast Go.Proofs.YtgglkfilkagblaaDoorW.PrintMore
set_option linter.unusedVariables false
set_option linter.unusedSimpArgs false
def b_O.f (a0_0 : Int) (a0_1 : Int) (a0_2 : Int) (a0_3 : Int) (a0_4 : Int) (a0_5 : Bool) (a0_6 : Bool) (a0_7 : Int) (a0_8 : Int) (a0_9 : Int) (a0_10 : Int) : Option (Bool):=if a0_5 = true then (if a0_6 = true then (some false) else (if a0_2 = 0 then (some (decide (a0_4 < 0))) else (some false))) else (some false)
set_option maxHeartbeats 8000000 in
set_option maxRecDepth 100000 in
theorem b_O.calls (a0_0 : Int) (a0_1 : Int) (a0_2 : Int) (a0_3 : Int) (a0_4 : Int) (a0_5 : Bool) (a0_6 : Bool) (a0_7 : Int) (a0_8 : Int) (a0_9 : Int) (a0_10 : Int) (r : Bool) (w : World) (h : b_O.f a0_0 a0_1 a0_2 a0_3 a0_4 a0_5 a0_6 a0_7 a0_8 a0_9 a0_10 = some r) :
 Calls Tryd.prog 28 #[.agg #[.int .i64 a0_0,.int .i64 a0_1,.int .i64 a0_2,.int .i64 a0_3,.int .i64 a0_4,.bool a0_5,.bool a0_6,.int .u32 a0_7,.int .i64 a0_8,.int .i64 a0_9,.int .i64 a0_10]] w fun e w' => e = .returned (.bool r) ∧ Below w.heap.size w w':=by
 have hu33:=Tryd.underlying33
 have HB:=a_g.mk (Below.refl w.heap.size w)
 have H : (if a0_5 = true then (if a0_6 = true then (some false) else (if a0_2 = 0 then (some (decide (a0_4 < 0))) else (some false))) else (some false)) = some r:=h
 clear h
 by_cases c2 : a0_5 = true
 rotate_left
 ·replace c2:=Bool.eq_false_iff.mpr c2
  subst c2
  have H1 : (some false) = some r:=by rw [if_neg (show ¬ (false = true) by decide)] at H;exact H
  clear H
  have H:=H1
  clear H1
  obtain rfl:=Option.some.inj H
  go_enter Tryd.func28,Tryd.ntmps28
  go_wp2_with (first|((with_reducible refine a_G (N:=1) rfl ?_);refine a_C ?hg (N:=1) ?hd (cs:=#[.int .i64 a0_0,.int .i64 a0_1,.int .i64 a0_2,.int .i64 a0_3,.int .i64 a0_4,.bool false,.bool a0_6,.int .u32 a0_7,.int .i64 a0_8,.int .i64 a0_9,.int .i64 a0_10]) (t:=33) ?hr ?_;(case hd => rfl);(case hg => rfl);(case hr => first|(go_simp;done)|(go_simp;rfl));intro c_C hg w11 hbox hb;have b_I:=a_g.mk (hbox);have s_8:=a_g.mk ((by rw [hg];exact (a_n (lup_ HB.out)) : w.heap.size ≤ c_C));have m_d:=a_g.mk ((by rw [hg];exact (a_n (lup_ HB.out)) : w.heap.size ≤ c_C));replace HB:=a_g.mk (a_p (lup_ HB.out) hb);clear hb hbox hg;have k_a : w11.cell? ⟨c_C,0,none⟩ = some (.int .i64 a0_0):=(a_b b_I.out 0).trans rfl;have k_b : w11.cell? ⟨c_C,1,none⟩ = some (.int .i64 a0_1):=(a_b b_I.out 1).trans rfl;have m_q : w11.cell? ⟨c_C,2,none⟩ = some (.int .i64 a0_2):=(a_b b_I.out 2).trans rfl;have m_r : w11.cell? ⟨c_C,3,none⟩ = some (.int .i64 a0_3):=(a_b b_I.out 3).trans rfl;have m_s : w11.cell? ⟨c_C,4,none⟩ = some (.int .i64 a0_4):=(a_b b_I.out 4).trans rfl;have m_t : w11.cell? ⟨c_C,5,none⟩ = some (.bool false):=(a_b b_I.out 5).trans rfl;have m_u : w11.cell? ⟨c_C,6,none⟩ = some (.bool a0_6):=(a_b b_I.out 6).trans rfl;have m_v : w11.cell? ⟨c_C,7,none⟩ = some (.int .u32 a0_7):=(a_b b_I.out 7).trans rfl;have m_w : w11.cell? ⟨c_C,8,none⟩ = some (.int .i64 a0_8):=(a_b b_I.out 8).trans rfl;have m_x : w11.cell? ⟨c_C,9,none⟩ = some (.int .i64 a0_9):=(a_b b_I.out 9).trans rfl;have k_d : w11.cell? ⟨c_C,10,none⟩ = some (.int .i64 a0_10):=(a_b b_I.out 10).trans rfl;have k_F:=a_c b_I.out 0;have k_G:=a_c b_I.out 1;have m_X:=a_c b_I.out 2;have m_Y:=a_c b_I.out 3;have m_Z:=a_c b_I.out 4;have m_0:=a_c b_I.out 5;have m_1:=a_c b_I.out 6;have m_2:=a_c b_I.out 7;have m_3:=a_c b_I.out 8;have m_4:=a_c b_I.out 9;have k_H:=a_c b_I.out 10))
  go_ret
  exact ⟨by first|rfl|(simp [a_u,a_v] <;> rfl)|(simp [*, a_u,a_v] <;> rfl),by repeat (first|(with_reducible first|exact HB.out|apply a_j|apply a_f|apply a_k|refine a_i ?_ m_d.out)|exact HB.out)⟩
 subst c2
 have H1 : (if a0_6 = true then (some false) else (if a0_2 = 0 then (some (decide (a0_4 < 0))) else (some false))) = some r:=by rw [if_pos rfl] at H;exact H
 clear H
 have H:=H1
 clear H1
 by_cases c3 : a0_6 = true
 ·subst c3
  have H1 : (some false) = some r:=by rw [if_pos rfl] at H;exact H
  clear H
  have H:=H1
  clear H1
  obtain rfl:=Option.some.inj H
  go_enter Tryd.func28,Tryd.ntmps28
  go_wp2_with (first|((with_reducible refine a_G (N:=1) rfl ?_);refine a_C ?hg (N:=1) ?hd (cs:=#[.int .i64 a0_0,.int .i64 a0_1,.int .i64 a0_2,.int .i64 a0_3,.int .i64 a0_4,.bool true,.bool true,.int .u32 a0_7,.int .i64 a0_8,.int .i64 a0_9,.int .i64 a0_10]) (t:=33) ?hr ?_;(case hd => rfl);(case hg => rfl);(case hr => first|(go_simp;done)|(go_simp;rfl));intro c_C hg w4 hbox hb;have b_I:=a_g.mk (hbox);have s_8:=a_g.mk ((by rw [hg];exact (a_n (lup_ HB.out)) : w.heap.size ≤ c_C));have m_d:=a_g.mk ((by rw [hg];exact (a_n (lup_ HB.out)) : w.heap.size ≤ c_C));replace HB:=a_g.mk (a_p (lup_ HB.out) hb);clear hb hbox hg;have f_X : w4.cell? ⟨c_C,0,none⟩ = some (.int .i64 a0_0):=(a_b b_I.out 0).trans rfl;have f_Y : w4.cell? ⟨c_C,1,none⟩ = some (.int .i64 a0_1):=(a_b b_I.out 1).trans rfl;have x_x : w4.cell? ⟨c_C,2,none⟩ = some (.int .i64 a0_2):=(a_b b_I.out 2).trans rfl;have x_y : w4.cell? ⟨c_C,3,none⟩ = some (.int .i64 a0_3):=(a_b b_I.out 3).trans rfl;have x_z : w4.cell? ⟨c_C,4,none⟩ = some (.int .i64 a0_4):=(a_b b_I.out 4).trans rfl;have x_A : w4.cell? ⟨c_C,5,none⟩ = some (.bool true):=(a_b b_I.out 5).trans rfl;have x_B : w4.cell? ⟨c_C,6,none⟩ = some (.bool true):=(a_b b_I.out 6).trans rfl;have x_C : w4.cell? ⟨c_C,7,none⟩ = some (.int .u32 a0_7):=(a_b b_I.out 7).trans rfl;have x_D : w4.cell? ⟨c_C,8,none⟩ = some (.int .i64 a0_8):=(a_b b_I.out 8).trans rfl;have x_E : w4.cell? ⟨c_C,9,none⟩ = some (.int .i64 a0_9):=(a_b b_I.out 9).trans rfl;have u_Y : w4.cell? ⟨c_C,10,none⟩ = some (.int .i64 a0_10):=(a_b b_I.out 10).trans rfl;have f_Z:=a_c b_I.out 0;have f_0:=a_c b_I.out 1;have x_P:=a_c b_I.out 2;have x_Q:=a_c b_I.out 3;have x_R:=a_c b_I.out 4;have x_S:=a_c b_I.out 5;have x_T:=a_c b_I.out 6;have x_U:=a_c b_I.out 7;have x_V:=a_c b_I.out 8;have x_W:=a_c b_I.out 9;have w_K:=a_c b_I.out 10))
  go_ret
  exact ⟨by first|rfl|(simp [a_u,a_v] <;> rfl)|(simp [*, a_u,a_v] <;> rfl),by repeat (first|(with_reducible first|exact HB.out|apply a_j|apply a_f|apply a_k|refine a_i ?_ m_d.out)|exact HB.out)⟩
 replace c3:=Bool.eq_false_iff.mpr c3
 subst c3
 have H1 : (if a0_2 = 0 then (some (decide (a0_4 < 0))) else (some false)) = some r:=by rw [if_neg (show ¬ (false = true) by decide)] at H;exact H
 clear H
 have H:=H1
 clear H1
 by_cases c6 : a0_2 = 0
 ·rw [if_pos c6] at H
  have c6b0 : (a0_2 == 0) = true:=beq_iff_eq.mpr c6
  have c6b1 : (a0_2 != 0) = false:=bne_eq_false_iff_eq.mpr c6
  clear c6
  obtain rfl:=Option.some.inj H
  go_enter Tryd.func28,Tryd.ntmps28
  go_wp2_with (first|((with_reducible refine a_G (N:=1) rfl ?_);refine a_C ?hg (N:=1) ?hd (cs:=#[.int .i64 a0_0,.int .i64 a0_1,.int .i64 a0_2,.int .i64 a0_3,.int .i64 a0_4,.bool true,.bool false,.int .u32 a0_7,.int .i64 a0_8,.int .i64 a0_9,.int .i64 a0_10]) (t:=33) ?hr ?_;(case hd => rfl);(case hg => rfl);(case hr => first|(go_simp;done)|(go_simp;rfl));intro c_C hg w7 hbox hb;have b_I:=a_g.mk (hbox);have s_8:=a_g.mk ((by rw [hg];exact (a_n (lup_ HB.out)) : w.heap.size ≤ c_C));have m_d:=a_g.mk ((by rw [hg];exact (a_n (lup_ HB.out)) : w.heap.size ≤ c_C));replace HB:=a_g.mk (a_p (lup_ HB.out) hb);clear hb hbox hg;have o_d : w7.cell? ⟨c_C,0,none⟩ = some (.int .i64 a0_0):=(a_b b_I.out 0).trans rfl;have o_e : w7.cell? ⟨c_C,1,none⟩ = some (.int .i64 a0_1):=(a_b b_I.out 1).trans rfl;have x_F : w7.cell? ⟨c_C,2,none⟩ = some (.int .i64 a0_2):=(a_b b_I.out 2).trans rfl;have x_G : w7.cell? ⟨c_C,3,none⟩ = some (.int .i64 a0_3):=(a_b b_I.out 3).trans rfl;have x_H : w7.cell? ⟨c_C,4,none⟩ = some (.int .i64 a0_4):=(a_b b_I.out 4).trans rfl;have x_I : w7.cell? ⟨c_C,5,none⟩ = some (.bool true):=(a_b b_I.out 5).trans rfl;have x_J : w7.cell? ⟨c_C,6,none⟩ = some (.bool false):=(a_b b_I.out 6).trans rfl;have x_K : w7.cell? ⟨c_C,7,none⟩ = some (.int .u32 a0_7):=(a_b b_I.out 7).trans rfl;have x_L : w7.cell? ⟨c_C,8,none⟩ = some (.int .i64 a0_8):=(a_b b_I.out 8).trans rfl;have x_M : w7.cell? ⟨c_C,9,none⟩ = some (.int .i64 a0_9):=(a_b b_I.out 9).trans rfl;have u_7 : w7.cell? ⟨c_C,10,none⟩ = some (.int .i64 a0_10):=(a_b b_I.out 10).trans rfl;have o_s:=a_c b_I.out 0;have o_t:=a_c b_I.out 1;have x_X:=a_c b_I.out 2;have x_Y:=a_c b_I.out 3;have x_Z:=a_c b_I.out 4;have x_0:=a_c b_I.out 5;have x_1:=a_c b_I.out 6;have x_2:=a_c b_I.out 7;have x_3:=a_c b_I.out 8;have x_4:=a_c b_I.out 9;have w_T:=a_c b_I.out 10))
  go_ret
  exact ⟨by first|rfl|(simp [a_u,a_v] <;> rfl)|(simp [*, a_u,a_v] <;> rfl),by repeat (first|(with_reducible first|exact HB.out|apply a_j|apply a_f|apply a_k|refine a_i ?_ m_d.out)|exact HB.out)⟩
 rw [if_neg c6] at H
 have c6b0 : (a0_2 == 0) = false:=beq_eq_false_iff_ne.mpr c6
 have c6b1 : (a0_2 != 0) = true:=bne_iff_ne.mpr c6
 obtain rfl:=Option.some.inj H
 go_enter Tryd.func28,Tryd.ntmps28
 go_wp2_with (first|((with_reducible refine a_G (N:=1) rfl ?_);refine a_C ?hg (N:=1) ?hd (cs:=#[.int .i64 a0_0,.int .i64 a0_1,.int .i64 a0_2,.int .i64 a0_3,.int .i64 a0_4,.bool true,.bool false,.int .u32 a0_7,.int .i64 a0_8,.int .i64 a0_9,.int .i64 a0_10]) (t:=33) ?hr ?_;(case hd => rfl);(case hg => rfl);(case hr => first|(go_simp;done)|(go_simp;rfl));intro c_C hg w9 hbox hb;have b_I:=a_g.mk (hbox);have s_8:=a_g.mk ((by rw [hg];exact (a_n (lup_ HB.out)) : w.heap.size ≤ c_C));have m_d:=a_g.mk ((by rw [hg];exact (a_n (lup_ HB.out)) : w.heap.size ≤ c_C));replace HB:=a_g.mk (a_p (lup_ HB.out) hb);clear hb hbox hg;have g_8 : w9.cell? ⟨c_C,0,none⟩ = some (.int .i64 a0_0):=(a_b b_I.out 0).trans rfl;have g_9 : w9.cell? ⟨c_C,1,none⟩ = some (.int .i64 a0_1):=(a_b b_I.out 1).trans rfl;have j_2 : w9.cell? ⟨c_C,2,none⟩ = some (.int .i64 a0_2):=(a_b b_I.out 2).trans rfl;have j_3 : w9.cell? ⟨c_C,3,none⟩ = some (.int .i64 a0_3):=(a_b b_I.out 3).trans rfl;have j_4 : w9.cell? ⟨c_C,4,none⟩ = some (.int .i64 a0_4):=(a_b b_I.out 4).trans rfl;have j_5 : w9.cell? ⟨c_C,5,none⟩ = some (.bool true):=(a_b b_I.out 5).trans rfl;have j_6 : w9.cell? ⟨c_C,6,none⟩ = some (.bool false):=(a_b b_I.out 6).trans rfl;have j_7 : w9.cell? ⟨c_C,7,none⟩ = some (.int .u32 a0_7):=(a_b b_I.out 7).trans rfl;have j_8 : w9.cell? ⟨c_C,8,none⟩ = some (.int .i64 a0_8):=(a_b b_I.out 8).trans rfl;have j_9 : w9.cell? ⟨c_C,9,none⟩ = some (.int .i64 a0_9):=(a_b b_I.out 9).trans rfl;have i_C : w9.cell? ⟨c_C,10,none⟩ = some (.int .i64 a0_10):=(a_b b_I.out 10).trans rfl;have h_g:=a_c b_I.out 0;have h_h:=a_c b_I.out 1;have k_x:=a_c b_I.out 2;have k_y:=a_c b_I.out 3;have k_z:=a_c b_I.out 4;have k_A:=a_c b_I.out 5;have k_B:=a_c b_I.out 6;have k_C:=a_c b_I.out 7;have k_D:=a_c b_I.out 8;have k_E:=a_c b_I.out 9;have i_E:=a_c b_I.out 10))
 go_ret
 exact ⟨by first|rfl|(simp [a_u,a_v] <;> rfl)|(simp [*, a_u,a_v] <;> rfl),by repeat (first|(with_reducible first|exact HB.out|apply a_j|apply a_f|apply a_k|refine a_i ?_ m_d.out)|exact HB.out)⟩
end Go.Proofs.YtgglkfilkagblaaDoor.Q
end
section
namespace Go.Proofs.YtgglkfilkagblaaDoor.Q
open Go.RowKit Go.Proofs.YtgglkfilkagblaaDoorW.PrintWords Go.Proofs.YtgglkfilkagblaaDoorW.PrintLast Go.Proofs.YtgglkfilkagblaaDoorW.PrintMore
set_option linter.unusedVariables false
set_option linter.unusedSimpArgs false
mutual
def a_t.l0 : Nat → List Int → Int → Int → List (S33) → Option (List Int)
 | 0,_,_,_,_ => none
 | k + 1,x3,x4,x230000,x230001 => if x4 < 8 then (a_t.l1 k x3 x4 false false 0 x230000 x230001) else (some x3)
def a_t.l1 : Nat → List Int → Int → Bool → Bool → Int → Int → List (S33) → Option (List Int)
 | 0,_,_,_,_,_,_,_ => none
 | k + 1,x3,x4,x5,x6,x7,x230000,x230001 => if x7 < (x230001.length : Int) then (if 0 ≤ x7 then (if ((a_a x230001 x7).f4) = x4 then (a_t.j2 k x3 x4 x5 true x7 x230000 x230001) else (a_t.j2 k x3 x4 x5 x6 x7 x230000 x230001)) else (none)) else (if x5 = true then (if x6 = true then (a_t.l0 k x3 (wrap64 (x4 + 1)) x230000 x230001) else (if x3.length < 17592186044416 then (a_t.l0 k (x3 ++ [x4]) (wrap64 (x4 + 1)) x230000 x230001) else (none))) else (a_t.l0 k x3 (wrap64 (x4 + 1)) x230000 x230001))
def a_t.j2 : Nat → List Int → Int → Bool → Bool → Int → Int → List (S33) → Option (List Int)
 | 0,_,_,_,_,_,_,_ => none
 | k + 1,x3,x4,x5,x6,x7,x230000,x230001 => if 0 ≤ x7 then (if x7 < (x230001.length : Int) then ((b_O.f ((a_a x230001 x7).f0) ((a_a x230001 x7).f1) ((a_a x230001 x7).f2) ((a_a x230001 x7).f3) ((a_a x230001 x7).f4) ((a_a x230001 x7).f5) ((a_a x230001 x7).f6) ((a_a x230001 x7).f7) ((a_a x230001 x7).f8) ((a_a x230001 x7).f9) ((a_a x230001 x7).f10)).bind fun t235 => (if t235 = true then ((a_2.f ((a_a x230001 x7).f7) x4).bind fun t237 => (if t237 = true then (a_t.l1 k x3 x4 true x6 (wrap64 (x7 + 1)) x230000 x230001) else (a_t.l1 k x3 x4 x5 x6 (wrap64 (x7 + 1)) x230000 x230001))) else (a_t.l1 k x3 x4 x5 x6 (wrap64 (x7 + 1)) x230000 x230001))) else (none)) else (none)
end
def a_t.f (k : Nat) (a0_0 : Int) (l0_1 : List (S33)) : Option (List Int):=a_t.l0 k ([] : List Int) 0 a0_0 l0_1
theorem a_t.c_F : ∀ k,(∀ y0 y1 y2 y3,LeO (a_t.l0 k y0 y1 y2 y3) (a_t.l0 (k + 1) y0 y1 y2 y3)) ∧ (∀ y0 y1 y2 y3 y4 y5 y6,LeO (a_t.l1 k y0 y1 y2 y3 y4 y5 y6) (a_t.l1 (k + 1) y0 y1 y2 y3 y4 y5 y6)) ∧ (∀ y0 y1 y2 y3 y4 y5 y6,LeO (a_t.j2 k y0 y1 y2 y3 y4 y5 y6) (a_t.j2 (k + 1) y0 y1 y2 y3 y4 y5 y6))
 | 0 => ⟨fun _ _ _ _ r h => by simp [a_t.l0] at h,fun _ _ _ _ _ _ _ r h => by simp [a_t.l1] at h,fun _ _ _ _ _ _ _ r h => by simp [a_t.j2] at h⟩
 | k + 1 => by
  obtain ⟨ih0,ih1,ih2⟩:=a_t.c_F k
  refine ⟨?_,?_,?_⟩
  ·intro y0 y1 y2 y3
   unfold a_t.l0
   repeat' first
   | (with_reducible exact ih0 _ _ _ _)
   | (with_reducible exact ih1 _ _ _ _ _ _ _)
   | (with_reducible exact ih2 _ _ _ _ _ _ _)
   | (with_reducible exact LeO.refl _)
   | (with_reducible exact LeO.none _)
   | (with_reducible refine LeO.ite ?_ ?_)
   | (with_reducible refine LeO.bind ?_ (fun _ => ?_))
   | exact ih0 _ _ _ _
   | exact ih1 _ _ _ _ _ _ _
   | exact ih2 _ _ _ _ _ _ _
   | exact LeO.none _
   | refine LeO.ite ?_ ?_
   | refine LeO.bind ?_ (fun _ => ?_)
  ·intro y0 y1 y2 y3 y4 y5 y6
   unfold a_t.l1
   repeat' first
   | (with_reducible exact ih0 _ _ _ _)
   | (with_reducible exact ih1 _ _ _ _ _ _ _)
   | (with_reducible exact ih2 _ _ _ _ _ _ _)
   | (with_reducible exact LeO.refl _)
   | (with_reducible exact LeO.none _)
   | (with_reducible refine LeO.ite ?_ ?_)
   | (with_reducible refine LeO.bind ?_ (fun _ => ?_))
   | exact ih0 _ _ _ _
   | exact ih1 _ _ _ _ _ _ _
   | exact ih2 _ _ _ _ _ _ _
   | exact LeO.none _
   | refine LeO.ite ?_ ?_
   | refine LeO.bind ?_ (fun _ => ?_)
  ·intro y0 y1 y2 y3 y4 y5 y6
   unfold a_t.j2
   repeat' first
   | (with_reducible exact ih0 _ _ _ _)
   | (with_reducible exact ih1 _ _ _ _ _ _ _)
   | (with_reducible exact ih2 _ _ _ _ _ _ _)
   | (with_reducible exact LeO.refl _)
   | (with_reducible exact LeO.none _)
   | (with_reducible refine LeO.ite ?_ ?_)
   | (with_reducible refine LeO.bind ?_ (fun _ => ?_))
   | exact ih0 _ _ _ _
   | exact ih1 _ _ _ _ _ _ _
   | exact ih2 _ _ _ _ _ _ _
   | exact LeO.none _
   | refine LeO.ite ?_ ?_
   | refine LeO.bind ?_ (fun _ => ?_)
theorem a_t.mono : ∀ a0 a1 k,LeO (a_t.f k a0 a1) (a_t.f (k + 1) a0 a1):=by
 intro a0 a1 k
 obtain ⟨ih0,ih1,ih2⟩:=a_t.c_F k
 unfold a_t.f
 repeat' first
  | (with_reducible exact ih0 _ _ _ _)
  | (with_reducible exact ih1 _ _ _ _ _ _ _)
  | (with_reducible exact ih2 _ _ _ _ _ _ _)
  | (with_reducible exact LeO.refl _)
  | (with_reducible exact LeO.none _)
  | (with_reducible refine LeO.ite ?_ ?_)
  | (with_reducible refine LeO.bind ?_ (fun _ => ?_))
  | exact ih0 _ _ _ _
  | exact ih1 _ _ _ _ _ _ _
  | exact ih2 _ _ _ _ _ _ _
  | exact LeO.none _
  | refine LeO.ite ?_ ?_
  | refine LeO.bind ?_ (fun _ => ?_)
set_option maxHeartbeats 8000000 in
set_option maxRecDepth 100000 in
theorem a_t.calls (k : Nat) (a0_0 : Int) (A0_1 : Option Addr) (c0_1 : Nat) (l0_1 : List (S33)) (r : List Int) (w : World) (hr0_1 : Kd.C k33 w A0_1 l0_1.length l0_1) (hc0_1 : l0_1.length ≤ c0_1) (h : a_t.f k a0_0 l0_1 = some r) :
 Calls Tryd.prog 13 #[.agg #[.int .i64 a0_0,.slice A0_1 l0_1.length c0_1]] w fun e w' => ∃ v0_ : Value,e = .returned (v0_) ∧ Kd.R (Kd.int .i64) 3 w' w.heap.size (fun _ => True) v0_ r ∧ Below w.heap.size w w':=by
 have hu24:=Tryd.underlying24
 have hu33:=Tryd.underlying33
 have b_v:=a_g.mk hr0_1
 have c_b:=a_g.mk hc0_1
 clear hr0_1 hc0_1
 have HB:=a_g.mk (Below.refl w.heap.size w)
 have H : (a_t.l0 k ([] : List Int) 0 a0_0 l0_1) = some r:=h
 clear h
 have H':=a_g.mk H
 clear H
 go_enter Tryd.func13,Tryd.ntmps13
 go_wp2_with (first|((with_reducible refine a_G (N:=1) rfl ?_);refine a_C ?hg (N:=1) ?hd (cs:=#[.int .i64 a0_0,.slice A0_1 l0_1.length c0_1]) (t:=24) ?hr ?_;(case hd => rfl);(case hg => rfl);(case hr => first|(go_simp;done)|(go_simp;rfl));intro e_Z hg w2 hbox hb;have c_v:=a_g.mk (hbox);have I_q:=a_g.mk ((by rw [hg];exact (a_n (lup_ HB.out)) : w.heap.size ≤ e_Z));have g_Z:=a_g.mk ((by rw [hg];exact (a_n (lup_ HB.out)) : w.heap.size ≤ e_Z));replace HB:=a_g.mk (a_p (lup_ HB.out) hb);clear hb hbox hg))
 go_loopg [3,4] k (fun kq v3 v4 w' => ∃ (x3_1 : List Int) (x4_1 : Int),v4 = .int .i64 x4_1 ∧ a_g (a_t.l0 kq x3_1 x4_1 a0_0 l0_1 = some r) ∧ a_g (kq ≤ k) ∧ a_g (Kd.R (Kd.int .i64) 3 w' w.heap.size (fun _ => True) v3 x3_1) ∧ a_g (w'.heap[e_Z]? = some (.cells #[.int .i64 a0_0,(.slice A0_1 l0_1.length c0_1)] 24 (0,0))) ∧ a_g (Below w.heap.size w w'))
 case atStart => exact ⟨(([] : List Int)),(0),(by first|rfl|(simp;done)|(simp [*];done)),H',⟨Nat.le_refl _⟩,⟨by first|exact Kd.j_x _ _ _ _ _|exact Kd.l_G _ _ _ _ _|exact Kd.i_X _ _ _ _ _|exact Kd.m_h _ _ _ _ _|exact Kd.m_j _ _ _ _ _⟩,⟨by (with_reducible repeat (first|refine a_e ?_ _|refine a_h ?_|refine a_d ?_ _));exact c_v.out⟩,⟨by repeat (first|(with_reducible first|exact HB.out|apply a_j|apply a_f|apply a_k|refine a_i ?_ g_Z.out)|exact HB.out)⟩⟩
 case round =>
  clear H'
  try clear c1
  try clear p2
  obtain ⟨x3_1,x4_1,rfl,HA,HK1,HO_3,c_v,HB⟩:=hrel
  cases gk with
  | zero => exact absurd HA.out (by simp [a_t.l0])
  | succ k1 =>
   have H:=HA.out
   clear HA
   simp only [a_t.l0] at H
   by_cases c3 : x4_1 < 8
   rotate_left
   ·rw [if_neg c3] at H
    have c3b0 : decide (x4_1 < 8) = false:=decide_eq_false c3
    clear c3
    obtain rfl:=Option.some.inj H
    go_wp2
    go_ret
    exact ⟨_,by first|rfl|(simp [a_u,a_v] <;> rfl)|(simp [*, a_u,a_v] <;> rfl),by (with_reducible repeat (first|apply Kd.e_K|apply Kd.e_L|apply Kd.f_U));exact HO_3.out,by repeat (first|(with_reducible first|exact HB.out|apply a_j|apply a_f|apply a_k|refine a_i ?_ g_Z.out)|exact HB.out)⟩
   rw [if_pos c3] at H
   have c3b0 : decide (x4_1 < 8) = true:=decide_eq_true c3
   clear c3
   have H':=a_g.mk H
   clear H
   go_wp2
   go_loopg [5,6,7] k1 (fun kq v5 v6 v7 w' => ∃ (x5_2 : Bool) (x6_2 : Bool) (x7_2 : Int),v5 = .bool x5_2 ∧ v6 = .bool x6_2 ∧ v7 = .int .i64 x7_2 ∧ a_g (a_t.l1 kq x3_1 x4_1 x5_2 x6_2 x7_2 a0_0 l0_1 = some r) ∧ a_g (kq ≤ k1) ∧ a_g (Kd.R (Kd.int .i64) 3 w' w.heap.size (fun _ => True) u3 x3_1) ∧ a_g (w'.heap[e_Z]? = some (.cells #[.int .i64 a0_0,(.slice A0_1 l0_1.length c0_1)] 24 (0,0))) ∧ a_g (Below w.heap.size w w'))
   case atStart => exact ⟨(false),(false),(0),(by first|rfl|(simp;done)|(simp [*];done)),(by first|rfl|(simp;done)|(simp [*];done)),(by first|rfl|(simp;done)|(simp [*];done)),H',⟨Nat.le_refl _⟩,⟨by (with_reducible repeat (first|apply Kd.e_K|apply Kd.e_L|apply Kd.f_U));exact HO_3.out⟩,⟨by (with_reducible repeat (first|refine a_e ?_ _|refine a_h ?_|refine a_d ?_ _));exact c_v.out⟩,⟨by repeat (first|(with_reducible first|exact HB.out|apply a_j|apply a_f|apply a_k|refine a_i ?_ g_Z.out)|exact HB.out)⟩⟩
   case round =>
    clear H'
    try clear c1
    try clear p2
    try clear c3
    try clear c3b0
    try clear p2
    obtain ⟨x5_2,x6_2,x7_2,rfl,rfl,rfl,HA,HK2,HO_3,c_v,HB⟩:=hrel
    cases gk with
    | zero => exact absurd HA.out (by simp [a_t.l1])
    | succ k2 =>
     have H:=HA.out
     clear HA
     simp only [a_t.l1] at H
     by_cases c4 : x7_2 < (l0_1.length : Int)
     rotate_left
     ·rw [if_neg c4] at H
      have c4b0 : decide (x7_2 < (l0_1.length : Int)) = false:=decide_eq_false c4
      clear c4
      by_cases c23 : x5_2 = true
      rotate_left
      ·replace c23:=Bool.eq_false_iff.mpr c23
       subst c23
       have H1 : (a_t.l0 k2 x3_1 (wrap64 (x4_1 + 1)) a0_0 l0_1) = some r:=by rw [if_neg (show ¬ (false = true) by decide)] at H;exact H
       clear H
       have H:=H1
       clear H1
       have H':=a_g.mk H
       clear H
       have p_V : wr.cell? ⟨e_Z,0,none⟩ = some (.int .i64 a0_0):=(a_b c_v.out 0).trans rfl
       have p_W : wr.cell? ⟨e_Z,1,none⟩ = some (.slice A0_1 l0_1.length c0_1):=(a_b c_v.out 1).trans rfl
       have q_M:=a_c c_v.out 0
       have q_N:=a_c c_v.out 1
       go_wp2
       go_roundg k2
       case measure => have:=HK1.out;have:=HK2.out;omega
       case rel => exact ⟨(x3_1),(wrap64 (x4_1 + 1)),(by first|rfl|(simp;done)|(simp [*];done)),H',⟨by have:=HK1.out;have:=HK2.out;omega⟩,⟨by (with_reducible repeat (first|apply Kd.e_K|apply Kd.e_L|apply Kd.f_U));exact HO_3.out⟩,⟨by (with_reducible repeat (first|refine a_e ?_ _|refine a_h ?_|refine a_d ?_ _));exact c_v.out⟩,⟨by repeat (first|(with_reducible first|exact HB.out|apply a_j|apply a_f|apply a_k|refine a_i ?_ g_Z.out)|exact HB.out)⟩⟩
      subst c23
      have H1 : (if x6_2 = true then (a_t.l0 k2 x3_1 (wrap64 (x4_1 + 1)) a0_0 l0_1) else (if x3_1.length < 17592186044416 then (a_t.l0 k2 (x3_1 ++ [x4_1]) (wrap64 (x4_1 + 1)) a0_0 l0_1) else (none))) = some r:=by rw [if_pos rfl] at H;exact H
      clear H
      have H:=H1
      clear H1
      by_cases c24 : x6_2 = true
      ·subst c24
       have H1 : (a_t.l0 k2 x3_1 (wrap64 (x4_1 + 1)) a0_0 l0_1) = some r:=by rw [if_pos rfl] at H;exact H
       clear H
       have H:=H1
       clear H1
       have H':=a_g.mk H
       clear H
       have f_7 : wr.cell? ⟨e_Z,0,none⟩ = some (.int .i64 a0_0):=(a_b c_v.out 0).trans rfl
       have f_8 : wr.cell? ⟨e_Z,1,none⟩ = some (.slice A0_1 l0_1.length c0_1):=(a_b c_v.out 1).trans rfl
       have f_9:=a_c c_v.out 0
       have g_a:=a_c c_v.out 1
       go_wp2
       go_roundg k2
       case measure => have:=HK1.out;have:=HK2.out;omega
       case rel => exact ⟨(x3_1),(wrap64 (x4_1 + 1)),(by first|rfl|(simp;done)|(simp [*];done)),H',⟨by have:=HK1.out;have:=HK2.out;omega⟩,⟨by (with_reducible repeat (first|apply Kd.e_K|apply Kd.e_L|apply Kd.f_U));exact HO_3.out⟩,⟨by (with_reducible repeat (first|refine a_e ?_ _|refine a_h ?_|refine a_d ?_ _));exact c_v.out⟩,⟨by repeat (first|(with_reducible first|exact HB.out|apply a_j|apply a_f|apply a_k|refine a_i ?_ g_Z.out)|exact HB.out)⟩⟩
      replace c24:=Bool.eq_false_iff.mpr c24
      subst c24
      have H1 : (if x3_1.length < 17592186044416 then (a_t.l0 k2 (x3_1 ++ [x4_1]) (wrap64 (x4_1 + 1)) a0_0 l0_1) else (none)) = some r:=by rw [if_neg (show ¬ (false = true) by decide)] at H;exact H
      clear H
      have H:=H1
      clear H1
      by_cases c26 : x3_1.length < 17592186044416
      rotate_left
      ·rw [if_neg c26] at H
       exact absurd H (by simp)
      rw [if_pos c26] at H
      have LMc26:=a_g.mk c26
      clear c26
      obtain ⟨y230,hy230⟩ : ∃ y_ : List Int,y_ = (x3_1 ++ [x4_1]):=⟨_,rfl⟩
      replace H : (a_t.l0 k2 y230 (wrap64 (x4_1 + 1)) a0_0 l0_1) = some r:=by first|(rw [hy230];with_reducible exact H)|(have H2_:=(Option.bind_some _ _).symm.trans H;rw [hy230];with_reducible exact H2_)|(have H2_:=(Option.bind_some _ _).symm.trans H;with_reducible exact H2_)|with_reducible exact H|(rw [hy230];exact H)|exact H
      have Ny230:=a_g.mk hy230
      clear hy230
      have H':=a_g.mk H
      clear H
      have m_S : wr.cell? ⟨e_Z,0,none⟩ = some (.int .i64 a0_0):=(a_b c_v.out 0).trans rfl
      have p_M : wr.cell? ⟨e_Z,1,none⟩ = some (.slice A0_1 l0_1.length c0_1):=(a_b c_v.out 1).trans rfl
      have n_p:=a_c c_v.out 0
      have q_D:=a_c c_v.out 1
      go_wp2_with (first|((with_reducible refine i_v (b:=.append) (xs:=#[.tmp 48,.tmp 50]) rfl ?_);at_builtin;refine Kd.r_O (Kd.int .i64) (w0:=w) w.heap.size rfl (.tmp 48) (.tmp 50) 27 3 (.int .i64 0) 8 rfl Tryd.underlying27 info3 rfl (by decide) (by omega) u3 x3_1 x4_1 [.int .i64 x4_1] (fun _ => True) (fun _ => False) rfl rfl ?aP (fun _ hk => hk.elim) ?aF ?aO ?aB ?aS ?aL ?_;(case aP => exact rfl);(case aB => exact (by repeat (first|(with_reducible first|exact HB.out|apply a_j|apply a_f|apply a_k|refine a_i ?_ g_Z.out)|exact HB.out)));(case aF => exact (fun _ _ => trivial));(case aO => exact (rup_ HO_3.out));(case aS => exact (a_n (by repeat (first|(with_reducible first|exact HB.out|apply a_j|apply a_f|apply a_k|refine a_i ?_ g_Z.out)|exact HB.out))));(case aL => have:=LMc26.out;omega);intro v231 w28 ho hb hg hat;rw [← Ny230.out] at ho;have z_L:=a_g.mk (ho);replace c_v:=a_g.mk (f_c (g:=e_Z) (o:=.cells #[.int .i64 a0_0,.slice A0_1 l0_1.length c0_1] 24 (0,0)) (bup_ c_v.out) hg (Kd.R_ne HO_3.out c_v.out (by decide)));replace HB:=a_g.mk (hb);clear HO_3 ho hb hg hat))
      go_roundg k2
      case measure => have:=HK1.out;have:=HK2.out;omega
      case rel => exact ⟨(y230),(wrap64 (x4_1 + 1)),(by first|rfl|(simp;done)|(simp [*];done)),H',⟨by have:=HK1.out;have:=HK2.out;omega⟩,⟨by (with_reducible repeat (first|apply Kd.e_K|apply Kd.e_L|apply Kd.f_U));exact z_L.out⟩,⟨by (with_reducible repeat (first|refine a_e ?_ _|refine a_h ?_|refine a_d ?_ _));exact c_v.out⟩,⟨by repeat (first|(with_reducible first|exact HB.out|apply a_j|apply a_f|apply a_k|refine a_i ?_ g_Z.out)|exact HB.out)⟩⟩
     rw [if_pos c4] at H
     have c4b0 : decide (x7_2 < (l0_1.length : Int)) = true:=decide_eq_true c4
     clear c4
     by_cases c5 : 0 ≤ x7_2
     rotate_left
     ·rw [if_neg c5] at H
      exact absurd H (by simp)
     rw [if_pos c5] at H
     have c5b0 : decide (0 ≤ x7_2) = true:=decide_eq_true c5
     clear c5
     have HC6:=a_g.mk H
     clear H
     have f_e : wr.cell? ⟨e_Z,0,none⟩ = some (.int .i64 a0_0):=(a_b c_v.out 0).trans rfl
     have f_f : wr.cell? ⟨e_Z,1,none⟩ = some (.slice A0_1 l0_1.length c0_1):=(a_b c_v.out 1).trans rfl
     have f_g:=a_c c_v.out 0
     have f_h:=a_c c_v.out 1
     have p233 : 0 ≤ (x7_2 : Int):=of_decide_eq_true (by first|(with_reducible assumption)|assumption)
     have q233 : x7_2 < (l0_1.length : Int):=of_decide_eq_true (by first|(with_reducible assumption)|assumption)
     obtain ⟨ad233,e233,l_p,l_q,l_r,l_s,l_t,l_u,l_v,l_w,l_x,l_y,i_I⟩:=c_e b_v.out x7_2 p233 q233
     cases e233
     replace l_p:=(HB.out.cell (World.block_lt_of_cell? w _ l_p)).trans l_p
     replace l_q:=(HB.out.cell (World.block_lt_of_cell? w _ l_q)).trans l_q
     replace l_r:=(HB.out.cell (World.block_lt_of_cell? w _ l_r)).trans l_r
     replace l_s:=(HB.out.cell (World.block_lt_of_cell? w _ l_s)).trans l_s
     replace l_t:=(HB.out.cell (World.block_lt_of_cell? w _ l_t)).trans l_t
     replace l_u:=(HB.out.cell (World.block_lt_of_cell? w _ l_u)).trans l_u
     replace l_v:=(HB.out.cell (World.block_lt_of_cell? w _ l_v)).trans l_v
     replace l_w:=(HB.out.cell (World.block_lt_of_cell? w _ l_w)).trans l_w
     replace l_x:=(HB.out.cell (World.block_lt_of_cell? w _ l_x)).trans l_x
     replace l_y:=(HB.out.cell (World.block_lt_of_cell? w _ l_y)).trans l_y
     replace i_I:=(HB.out.cell (World.block_lt_of_cell? w _ i_I)).trans i_I
     replace p233:=eq_true p233
     replace q233:=eq_true q233
     go_upto_if 26 with (fail)
     go_cut [6] (fun v6 wc => ∃ (kq : Nat) (x6_5 : Bool),v6 = .bool x6_5 ∧ a_g (a_t.j2 kq x3_1 x4_1 x5_2 x6_5 x7_2 a0_0 l0_1 = some r) ∧ a_g (kq ≤ k2) ∧ a_g (Kd.R (Kd.int .i64) 3 wc w.heap.size (fun _ => True) u3 x3_1) ∧ a_g (wc.heap[e_Z]? = some (.cells #[.int .i64 a0_0,(.slice (some ad233) l0_1.length c0_1)] 24 (0,0))) ∧ a_g (Below w.heap.size w wc))
     case first =>
      have H:=HC6.out
      clear HC6
      by_cases c8 : ((a_a l0_1 x7_2).f4) = x4_1
      ·rw [if_pos c8] at H
       have c8b0 : (((a_a l0_1 x7_2).f4) == x4_1) = true:=beq_iff_eq.mpr c8
       have c8b1 : (((a_a l0_1 x7_2).f4) != x4_1) = false:=bne_eq_false_iff_eq.mpr c8
       clear c8
       (first|rw [c8b0]|(simp only [a_0,a_1];rw [c8b0])|skip)
       have H':=a_g.mk H
       clear H
       go_wp2
       go_meet
       case rel => exact ⟨_,(true),(by first|rfl|(simp;done)|(simp [*];done)),H',⟨by have:=HK1.out;have:=HK2.out;first|omega|exact Nat.le_refl _⟩,⟨by (with_reducible repeat (first|apply Kd.e_K|apply Kd.e_L|apply Kd.f_U));exact HO_3.out⟩,⟨by (with_reducible repeat (first|refine a_e ?_ _|refine a_h ?_|refine a_d ?_ _));exact c_v.out⟩,⟨by repeat (first|(with_reducible first|exact HB.out|apply a_j|apply a_f|apply a_k|refine a_i ?_ g_Z.out)|exact HB.out)⟩⟩
      rw [if_neg c8] at H
      have c8b0 : (((a_a l0_1 x7_2).f4) == x4_1) = false:=beq_eq_false_iff_ne.mpr c8
      have c8b1 : (((a_a l0_1 x7_2).f4) != x4_1) = true:=bne_iff_ne.mpr c8
      (first|rw [c8b0]|(simp only [a_0,a_1];rw [c8b0])|skip)
      have H':=a_g.mk H
      clear H
      go_wp2
      go_meet
      case rel => exact ⟨_,(x6_2),(by first|rfl|(simp;done)|(simp [*];done)),H',⟨by have:=HK1.out;have:=HK2.out;first|omega|exact Nat.le_refl _⟩,⟨by (with_reducible repeat (first|apply Kd.e_K|apply Kd.e_L|apply Kd.f_U));exact HO_3.out⟩,⟨by (with_reducible repeat (first|refine a_e ?_ _|refine a_h ?_|refine a_d ?_ _));exact c_v.out⟩,⟨by repeat (first|(with_reducible first|exact HB.out|apply a_j|apply a_f|apply a_k|refine a_i ?_ g_Z.out)|exact HB.out)⟩⟩
     case rest =>
      clear HC6
      try clear c1
      try clear p2
      try clear q2
      try clear hx2
      try clear c3
      try clear c3b0
      try clear c4
      try clear c4b0
      try clear c5
      try clear c5b0
      try clear c8
      try clear c8b0
      try clear c8b1
      try clear f_e
      try clear f_f
      try clear f_g
      try clear f_h
      try clear l_p
      try clear l_q
      try clear i_I
      try clear l_r
      try clear l_s
      try clear l_t
      try clear l_u
      try clear l_v
      try clear l_w
      try clear l_x
      try clear l_y
      try clear p2
      try clear p233
      try clear q233
      obtain ⟨kq,x6_5,rfl,HA,HJ5,HO_3,c_v,HB⟩:=hcut
      cases kq with
      | zero => exact absurd HA.out (by simp [a_t.j2])
      | succ kj5 =>
       have H:=HA.out
       clear HA
       simp only [a_t.j2] at H
       by_cases c9 : 0 ≤ x7_2
       rotate_left
       ·rw [if_neg c9] at H
        exact absurd H (by simp)
       rw [if_pos c9] at H
       have c9b0 : decide (0 ≤ x7_2) = true:=decide_eq_true c9
       clear c9
       by_cases c10 : x7_2 < (l0_1.length : Int)
       rotate_left
       ·rw [if_neg c10] at H
        exact absurd H (by simp)
       rw [if_pos c10] at H
       have c10b0 : decide (x7_2 < (l0_1.length : Int)) = true:=decide_eq_true c10
       clear c10
       replace H:=Option.bind_eq_some_iff.mp H
       obtain ⟨t235,A110,H⟩:=H
       replace H : (if t235 = true then ((a_2.f ((a_a l0_1 x7_2).f7) x4_1).bind fun t237 => (if t237 = true then (a_t.l1 kj5 x3_1 x4_1 true x6_5 (wrap64 (x7_2 + 1)) a0_0 l0_1) else (a_t.l1 kj5 x3_1 x4_1 x5_2 x6_5 (wrap64 (x7_2 + 1)) a0_0 l0_1))) else (a_t.l1 kj5 x3_1 x4_1 x5_2 x6_5 (wrap64 (x7_2 + 1)) a0_0 l0_1)) = some r:=H
       have A11:=a_g.mk A110
       clear A110
       by_cases c12 : t235 = true
       rotate_left
       ·replace c12:=Bool.eq_false_iff.mpr c12
        subst c12
        have H1 : (a_t.l1 kj5 x3_1 x4_1 x5_2 x6_5 (wrap64 (x7_2 + 1)) a0_0 l0_1) = some r:=by rw [if_neg (show ¬ (false = true) by decide)] at H;exact H
        clear H
        have H:=H1
        clear H1
        have H':=a_g.mk H
        clear H
        have k_i : wc.cell? ⟨e_Z,0,none⟩ = some (.int .i64 a0_0):=(a_b c_v.out 0).trans rfl
        have k_j : wc.cell? ⟨e_Z,1,none⟩ = some (.slice (some ad233) l0_1.length c0_1):=(a_b c_v.out 1).trans rfl
        have k_M:=a_c c_v.out 0
        have k_N:=a_c c_v.out 1
        have p234 : 0 ≤ (x7_2 : Int):=of_decide_eq_true (by first|(with_reducible assumption)|assumption)
        have q234 : x7_2 < (l0_1.length : Int):=of_decide_eq_true (by first|(with_reducible assumption)|assumption)
        obtain ⟨ad234,e234,f_k,f_l,f_m,f_n,f_o,f_p,f_q,f_r,f_s,f_t,e_H⟩:=c_e b_v.out x7_2 p234 q234
        obtain rfl : ad233 = ad234:=(by injection e234)
        replace f_k:=(HB.out.cell (World.block_lt_of_cell? w _ f_k)).trans f_k
        replace f_l:=(HB.out.cell (World.block_lt_of_cell? w _ f_l)).trans f_l
        replace f_m:=(HB.out.cell (World.block_lt_of_cell? w _ f_m)).trans f_m
        replace f_n:=(HB.out.cell (World.block_lt_of_cell? w _ f_n)).trans f_n
        replace f_o:=(HB.out.cell (World.block_lt_of_cell? w _ f_o)).trans f_o
        replace f_p:=(HB.out.cell (World.block_lt_of_cell? w _ f_p)).trans f_p
        replace f_q:=(HB.out.cell (World.block_lt_of_cell? w _ f_q)).trans f_q
        replace f_r:=(HB.out.cell (World.block_lt_of_cell? w _ f_r)).trans f_r
        replace f_s:=(HB.out.cell (World.block_lt_of_cell? w _ f_s)).trans f_s
        replace f_t:=(HB.out.cell (World.block_lt_of_cell? w _ f_t)).trans f_t
        replace e_H:=(HB.out.cell (World.block_lt_of_cell? w _ e_H)).trans e_H
        replace p234:=eq_true p234
        replace q234:=eq_true q234
        go_wp2_with (first|((with_reducible refine a_J (f:=28) rfl ?_);refine b_t (some 32) rfl rfl Tryd.func28 (by kernel_rfl) rfl #[.agg #[.int .i64 ((a_a l0_1 x7_2).f0),.int .i64 ((a_a l0_1 x7_2).f1),.int .i64 ((a_a l0_1 x7_2).f2),.int .i64 ((a_a l0_1 x7_2).f3),.int .i64 ((a_a l0_1 x7_2).f4),.bool ((a_a l0_1 x7_2).f5),.bool ((a_a l0_1 x7_2).f6),.int .u32 ((a_a l0_1 x7_2).f7),.int .i64 ((a_a l0_1 x7_2).f8),.int .i64 ((a_a l0_1 x7_2).f9),.int .i64 ((a_a l0_1 x7_2).f10)]] rfl (by (try simp only [List.map_toArray,List.map_cons,List.map_nil]);first|done|rfl|(simp only [List.length_drop,List.length_take];rfl)) ?_;(with_reducible refine (b_O.calls ((a_a l0_1 x7_2).f0) ((a_a l0_1 x7_2).f1) ((a_a l0_1 x7_2).f2) ((a_a l0_1 x7_2).f3) ((a_a l0_1 x7_2).f4) ((a_a l0_1 x7_2).f5) ((a_a l0_1 x7_2).f6) ((a_a l0_1 x7_2).f7) ((a_a l0_1 x7_2).f8) ((a_a l0_1 x7_2).f9) ((a_a l0_1 x7_2).f10) false _ A11.out).mono ?_);rintro e w22 ⟨rfl,hb⟩;refine ⟨_,rfl,?_⟩;replace HO_3:=a_g.mk (Kd.c_A (rup_ HO_3.out) hb);replace c_v:=a_g.mk (a_m (bup_ c_v.out) hb);replace HB:=a_g.mk (a_p (by repeat (first|(with_reducible first|exact HB.out|apply a_j|apply a_f|apply a_k|refine a_i ?_ g_Z.out)|exact HB.out)) hb);(try clear hb);(try clear hb2);(try clear hk);(try clear hi)))
        go_roundg kj5
        case measure => have:=HK1.out;have:=HK2.out;have:=HJ5.out;omega
        case rel => exact ⟨(x5_2),(x6_5),(wrap64 (x7_2 + 1)),(by first|rfl|(simp;done)|(simp [*];done)),(by first|rfl|(simp;done)|(simp [*];done)),(by first|rfl|(simp;done)|(simp [*];done)),H',⟨by have:=HK1.out;have:=HK2.out;have:=HJ5.out;omega⟩,⟨by (with_reducible repeat (first|apply Kd.e_K|apply Kd.e_L|apply Kd.f_U));exact HO_3.out⟩,⟨by (with_reducible repeat (first|refine a_e ?_ _|refine a_h ?_|refine a_d ?_ _));exact c_v.out⟩,⟨by repeat (first|(with_reducible first|exact HB.out|apply a_j|apply a_f|apply a_k|refine a_i ?_ g_Z.out)|exact HB.out)⟩⟩
       subst c12
       have H1 : ((a_2.f ((a_a l0_1 x7_2).f7) x4_1).bind fun t237 => (if t237 = true then (a_t.l1 kj5 x3_1 x4_1 true x6_5 (wrap64 (x7_2 + 1)) a0_0 l0_1) else (a_t.l1 kj5 x3_1 x4_1 x5_2 x6_5 (wrap64 (x7_2 + 1)) a0_0 l0_1))) = some r:=by rw [if_pos rfl] at H;exact H
       clear H
       have H:=H1
       clear H1
       replace H:=Option.bind_eq_some_iff.mp H
       obtain ⟨t237,A130,H⟩:=H
       replace H : (if t237 = true then (a_t.l1 kj5 x3_1 x4_1 true x6_5 (wrap64 (x7_2 + 1)) a0_0 l0_1) else (a_t.l1 kj5 x3_1 x4_1 x5_2 x6_5 (wrap64 (x7_2 + 1)) a0_0 l0_1)) = some r:=H
       have A13:=a_g.mk A130
       clear A130
       by_cases c14 : t237 = true
       ·subst c14
        have H1 : (a_t.l1 kj5 x3_1 x4_1 true x6_5 (wrap64 (x7_2 + 1)) a0_0 l0_1) = some r:=by rw [if_pos rfl] at H;exact H
        clear H
        have H:=H1
        clear H1
        have H':=a_g.mk H
        clear H
        have p_C : wc.cell? ⟨e_Z,0,none⟩ = some (.int .i64 a0_0):=(a_b c_v.out 0).trans rfl
        have p_D : wc.cell? ⟨e_Z,1,none⟩ = some (.slice (some ad233) l0_1.length c0_1):=(a_b c_v.out 1).trans rfl
        have q_t:=a_c c_v.out 0
        have q_u:=a_c c_v.out 1
        have p234 : 0 ≤ (x7_2 : Int):=of_decide_eq_true (by first|(with_reducible assumption)|assumption)
        have q234 : x7_2 < (l0_1.length : Int):=of_decide_eq_true (by first|(with_reducible assumption)|assumption)
        obtain ⟨ad234,e234,f_k,f_l,f_m,f_n,f_o,f_p,f_q,f_r,f_s,f_t,e_H⟩:=c_e b_v.out x7_2 p234 q234
        obtain rfl : ad233 = ad234:=(by injection e234)
        replace f_k:=(HB.out.cell (World.block_lt_of_cell? w _ f_k)).trans f_k
        replace f_l:=(HB.out.cell (World.block_lt_of_cell? w _ f_l)).trans f_l
        replace f_m:=(HB.out.cell (World.block_lt_of_cell? w _ f_m)).trans f_m
        replace f_n:=(HB.out.cell (World.block_lt_of_cell? w _ f_n)).trans f_n
        replace f_o:=(HB.out.cell (World.block_lt_of_cell? w _ f_o)).trans f_o
        replace f_p:=(HB.out.cell (World.block_lt_of_cell? w _ f_p)).trans f_p
        replace f_q:=(HB.out.cell (World.block_lt_of_cell? w _ f_q)).trans f_q
        replace f_r:=(HB.out.cell (World.block_lt_of_cell? w _ f_r)).trans f_r
        replace f_s:=(HB.out.cell (World.block_lt_of_cell? w _ f_s)).trans f_s
        replace f_t:=(HB.out.cell (World.block_lt_of_cell? w _ f_t)).trans f_t
        replace e_H:=(HB.out.cell (World.block_lt_of_cell? w _ e_H)).trans e_H
        replace p234:=eq_true p234
        replace q234:=eq_true q234
        go_wp2_with (first|((with_reducible refine a_J (f:=28) rfl ?_);refine b_t (some 32) rfl rfl Tryd.func28 (by kernel_rfl) rfl #[.agg #[.int .i64 ((a_a l0_1 x7_2).f0),.int .i64 ((a_a l0_1 x7_2).f1),.int .i64 ((a_a l0_1 x7_2).f2),.int .i64 ((a_a l0_1 x7_2).f3),.int .i64 ((a_a l0_1 x7_2).f4),.bool ((a_a l0_1 x7_2).f5),.bool ((a_a l0_1 x7_2).f6),.int .u32 ((a_a l0_1 x7_2).f7),.int .i64 ((a_a l0_1 x7_2).f8),.int .i64 ((a_a l0_1 x7_2).f9),.int .i64 ((a_a l0_1 x7_2).f10)]] rfl (by (try simp only [List.map_toArray,List.map_cons,List.map_nil]);first|done|rfl|(simp only [List.length_drop,List.length_take];rfl)) ?_;(with_reducible refine (b_O.calls ((a_a l0_1 x7_2).f0) ((a_a l0_1 x7_2).f1) ((a_a l0_1 x7_2).f2) ((a_a l0_1 x7_2).f3) ((a_a l0_1 x7_2).f4) ((a_a l0_1 x7_2).f5) ((a_a l0_1 x7_2).f6) ((a_a l0_1 x7_2).f7) ((a_a l0_1 x7_2).f8) ((a_a l0_1 x7_2).f9) ((a_a l0_1 x7_2).f10) true _ A11.out).mono ?_);rintro e w16 ⟨rfl,hb⟩;refine ⟨_,rfl,?_⟩;replace HO_3:=a_g.mk (Kd.c_A (rup_ HO_3.out) hb);replace c_v:=a_g.mk (a_m (bup_ c_v.out) hb);replace HB:=a_g.mk (a_p (by repeat (first|(with_reducible first|exact HB.out|apply a_j|apply a_f|apply a_k|refine a_i ?_ g_Z.out)|exact HB.out)) hb);(try clear hb);(try clear hb2);(try clear hk);(try clear hi);have m_I : w16.cell? ⟨e_Z,0,none⟩ = some (.int .i64 a0_0):=(a_b c_v.out 0).trans rfl;have m_J : w16.cell? ⟨e_Z,1,none⟩ = some (.slice (some ad233) l0_1.length c0_1):=(a_b c_v.out 1).trans rfl;have n_f:=a_c c_v.out 0;have n_g:=a_c c_v.out 1;have p236 : 0 ≤ (x7_2 : Int):=of_decide_eq_true (by first|(with_reducible assumption)|assumption);have q236 : x7_2 < (l0_1.length : Int):=of_decide_eq_true (by first|(with_reducible assumption)|assumption);obtain ⟨ad236,e236,h_H,h_I,h_J,h_K,h_L,h_M,h_N,h_O,h_P,h_Q,g_p⟩:=c_e b_v.out x7_2 p236 q236;obtain rfl : ad233 = ad236:=(by injection e236);replace h_H:=(HB.out.cell (World.block_lt_of_cell? w _ h_H)).trans h_H;replace h_I:=(HB.out.cell (World.block_lt_of_cell? w _ h_I)).trans h_I;replace h_J:=(HB.out.cell (World.block_lt_of_cell? w _ h_J)).trans h_J;replace h_K:=(HB.out.cell (World.block_lt_of_cell? w _ h_K)).trans h_K;replace h_L:=(HB.out.cell (World.block_lt_of_cell? w _ h_L)).trans h_L;replace h_M:=(HB.out.cell (World.block_lt_of_cell? w _ h_M)).trans h_M;replace h_N:=(HB.out.cell (World.block_lt_of_cell? w _ h_N)).trans h_N;replace h_O:=(HB.out.cell (World.block_lt_of_cell? w _ h_O)).trans h_O;replace h_P:=(HB.out.cell (World.block_lt_of_cell? w _ h_P)).trans h_P;replace h_Q:=(HB.out.cell (World.block_lt_of_cell? w _ h_Q)).trans h_Q;replace g_p:=(HB.out.cell (World.block_lt_of_cell? w _ g_p)).trans g_p;replace p236:=eq_true p236;replace q236:=eq_true q236)|(go_at_call 27;(with_reducible refine (a_2.calls ((a_a l0_1 x7_2).f7) x4_1 true _ A13.out).mono ?_);rintro e w' ⟨rfl,⟨nd,rfl⟩⟩))
        go_roundg kj5
        case measure => have:=HK1.out;have:=HK2.out;have:=HJ5.out;omega
        case rel => exact ⟨(true),(x6_5),(wrap64 (x7_2 + 1)),(by first|rfl|(simp;done)|(simp [*];done)),(by first|rfl|(simp;done)|(simp [*];done)),(by first|rfl|(simp;done)|(simp [*];done)),H',⟨by have:=HK1.out;have:=HK2.out;have:=HJ5.out;omega⟩,⟨by (with_reducible repeat (first|apply Kd.e_K|apply Kd.e_L|apply Kd.f_U));exact HO_3.out⟩,⟨by (with_reducible repeat (first|refine a_e ?_ _|refine a_h ?_|refine a_d ?_ _));exact c_v.out⟩,⟨by repeat (first|(with_reducible first|exact HB.out|apply a_j|apply a_f|apply a_k|refine a_i ?_ g_Z.out)|exact HB.out)⟩⟩
       replace c14:=Bool.eq_false_iff.mpr c14
       subst c14
       have H1 : (a_t.l1 kj5 x3_1 x4_1 x5_2 x6_5 (wrap64 (x7_2 + 1)) a0_0 l0_1) = some r:=by rw [if_neg (show ¬ (false = true) by decide)] at H;exact H
       clear H
       have H:=H1
       clear H1
       have H':=a_g.mk H
       clear H
       have k_f : wc.cell? ⟨e_Z,0,none⟩ = some (.int .i64 a0_0):=(a_b c_v.out 0).trans rfl
       have k_g : wc.cell? ⟨e_Z,1,none⟩ = some (.slice (some ad233) l0_1.length c0_1):=(a_b c_v.out 1).trans rfl
       have k_J:=a_c c_v.out 0
       have k_K:=a_c c_v.out 1
       have p234 : 0 ≤ (x7_2 : Int):=of_decide_eq_true (by first|(with_reducible assumption)|assumption)
       have q234 : x7_2 < (l0_1.length : Int):=of_decide_eq_true (by first|(with_reducible assumption)|assumption)
       obtain ⟨ad234,e234,f_k,f_l,f_m,f_n,f_o,f_p,f_q,f_r,f_s,f_t,e_H⟩:=c_e b_v.out x7_2 p234 q234
       obtain rfl : ad233 = ad234:=(by injection e234)
       replace f_k:=(HB.out.cell (World.block_lt_of_cell? w _ f_k)).trans f_k
       replace f_l:=(HB.out.cell (World.block_lt_of_cell? w _ f_l)).trans f_l
       replace f_m:=(HB.out.cell (World.block_lt_of_cell? w _ f_m)).trans f_m
       replace f_n:=(HB.out.cell (World.block_lt_of_cell? w _ f_n)).trans f_n
       replace f_o:=(HB.out.cell (World.block_lt_of_cell? w _ f_o)).trans f_o
       replace f_p:=(HB.out.cell (World.block_lt_of_cell? w _ f_p)).trans f_p
       replace f_q:=(HB.out.cell (World.block_lt_of_cell? w _ f_q)).trans f_q
       replace f_r:=(HB.out.cell (World.block_lt_of_cell? w _ f_r)).trans f_r
       replace f_s:=(HB.out.cell (World.block_lt_of_cell? w _ f_s)).trans f_s
       replace f_t:=(HB.out.cell (World.block_lt_of_cell? w _ f_t)).trans f_t
       replace e_H:=(HB.out.cell (World.block_lt_of_cell? w _ e_H)).trans e_H
       replace p234:=eq_true p234
       replace q234:=eq_true q234
       go_wp2_with (first|((with_reducible refine a_J (f:=28) rfl ?_);refine b_t (some 32) rfl rfl Tryd.func28 (by kernel_rfl) rfl #[.agg #[.int .i64 ((a_a l0_1 x7_2).f0),.int .i64 ((a_a l0_1 x7_2).f1),.int .i64 ((a_a l0_1 x7_2).f2),.int .i64 ((a_a l0_1 x7_2).f3),.int .i64 ((a_a l0_1 x7_2).f4),.bool ((a_a l0_1 x7_2).f5),.bool ((a_a l0_1 x7_2).f6),.int .u32 ((a_a l0_1 x7_2).f7),.int .i64 ((a_a l0_1 x7_2).f8),.int .i64 ((a_a l0_1 x7_2).f9),.int .i64 ((a_a l0_1 x7_2).f10)]] rfl (by (try simp only [List.map_toArray,List.map_cons,List.map_nil]);first|done|rfl|(simp only [List.length_drop,List.length_take];rfl)) ?_;(with_reducible refine (b_O.calls ((a_a l0_1 x7_2).f0) ((a_a l0_1 x7_2).f1) ((a_a l0_1 x7_2).f2) ((a_a l0_1 x7_2).f3) ((a_a l0_1 x7_2).f4) ((a_a l0_1 x7_2).f5) ((a_a l0_1 x7_2).f6) ((a_a l0_1 x7_2).f7) ((a_a l0_1 x7_2).f8) ((a_a l0_1 x7_2).f9) ((a_a l0_1 x7_2).f10) true _ A11.out).mono ?_);rintro e w19 ⟨rfl,hb⟩;refine ⟨_,rfl,?_⟩;replace HO_3:=a_g.mk (Kd.c_A (rup_ HO_3.out) hb);replace c_v:=a_g.mk (a_m (bup_ c_v.out) hb);replace HB:=a_g.mk (a_p (by repeat (first|(with_reducible first|exact HB.out|apply a_j|apply a_f|apply a_k|refine a_i ?_ g_Z.out)|exact HB.out)) hb);(try clear hb);(try clear hb2);(try clear hk);(try clear hi);have g_B : w19.cell? ⟨e_Z,0,none⟩ = some (.int .i64 a0_0):=(a_b c_v.out 0).trans rfl;have h_a : w19.cell? ⟨e_Z,1,none⟩ = some (.slice (some ad233) l0_1.length c0_1):=(a_b c_v.out 1).trans rfl;have g_M:=a_c c_v.out 0;have h_i:=a_c c_v.out 1;have p236 : 0 ≤ (x7_2 : Int):=of_decide_eq_true (by first|(with_reducible assumption)|assumption);have q236 : x7_2 < (l0_1.length : Int):=of_decide_eq_true (by first|(with_reducible assumption)|assumption);obtain ⟨ad236,e236,h_H,h_I,h_J,h_K,h_L,h_M,h_N,h_O,h_P,h_Q,g_p⟩:=c_e b_v.out x7_2 p236 q236;obtain rfl : ad233 = ad236:=(by injection e236);replace h_H:=(HB.out.cell (World.block_lt_of_cell? w _ h_H)).trans h_H;replace h_I:=(HB.out.cell (World.block_lt_of_cell? w _ h_I)).trans h_I;replace h_J:=(HB.out.cell (World.block_lt_of_cell? w _ h_J)).trans h_J;replace h_K:=(HB.out.cell (World.block_lt_of_cell? w _ h_K)).trans h_K;replace h_L:=(HB.out.cell (World.block_lt_of_cell? w _ h_L)).trans h_L;replace h_M:=(HB.out.cell (World.block_lt_of_cell? w _ h_M)).trans h_M;replace h_N:=(HB.out.cell (World.block_lt_of_cell? w _ h_N)).trans h_N;replace h_O:=(HB.out.cell (World.block_lt_of_cell? w _ h_O)).trans h_O;replace h_P:=(HB.out.cell (World.block_lt_of_cell? w _ h_P)).trans h_P;replace h_Q:=(HB.out.cell (World.block_lt_of_cell? w _ h_Q)).trans h_Q;replace g_p:=(HB.out.cell (World.block_lt_of_cell? w _ g_p)).trans g_p;replace p236:=eq_true p236;replace q236:=eq_true q236)|(go_at_call 27;(with_reducible refine (a_2.calls ((a_a l0_1 x7_2).f7) x4_1 false _ A13.out).mono ?_);rintro e w' ⟨rfl,⟨nd,rfl⟩⟩))
       go_roundg kj5
       case measure => have:=HK1.out;have:=HK2.out;have:=HJ5.out;omega
       case rel => exact ⟨(x5_2),(x6_5),(wrap64 (x7_2 + 1)),(by first|rfl|(simp;done)|(simp [*];done)),(by first|rfl|(simp;done)|(simp [*];done)),(by first|rfl|(simp;done)|(simp [*];done)),H',⟨by have:=HK1.out;have:=HK2.out;have:=HJ5.out;omega⟩,⟨by (with_reducible repeat (first|apply Kd.e_K|apply Kd.e_L|apply Kd.f_U));exact HO_3.out⟩,⟨by (with_reducible repeat (first|refine a_e ?_ _|refine a_h ?_|refine a_d ?_ _));exact c_v.out⟩,⟨by repeat (first|(with_reducible first|exact HB.out|apply a_j|apply a_f|apply a_k|refine a_i ?_ g_Z.out)|exact HB.out)⟩⟩
end Go.Proofs.YtgglkfilkagblaaDoor.Q
end
section
namespace Go.Proofs.YtgglkfilkagblaaDoor.Q
open Go.RowKit Go.Proofs.YtgglkfilkagblaaDoorW.PrintWords Go.Proofs.YtgglkfilkagblaaDoorW.PrintLast Go.Proofs.YtgglkfilkagblaaDoorW.PrintMore
set_option linter.unusedVariables false
set_option linter.unusedSimpArgs false
theorem z_T (d : Nat) (w : World) (x0 y0 : Int) (x1 y1 : Int) :
 (Op.equalIn (d + 2) 49 (.agg #[.int .i64 x0,.int .i64 x1]) (.agg #[.int .i64 y0,.int .i64 y1])).run Tryd.prog w = .ok (x0 == y0 && (x1 == y1)) w:=by
 refine x_u Tryd.underlying49 (by kernel_rfl) ?_
 refine r_0 (by rfl) (by go_simp;rfl) (by go_simp;rfl) (by go_simp) ?_
 exact r_1 (by rfl) (by go_simp;rfl) (by go_simp;rfl) (by go_simp)
end Go.Proofs.YtgglkfilkagblaaDoor.Q
end
section
namespace Go.Proofs.YtgglkfilkagblaaDoor.Q
open Go.RowKit Go.Proofs.YtgglkfilkagblaaDoorW.PrintWords Go.Proofs.YtgglkfilkagblaaDoorW.PrintLast Go.Proofs.YtgglkfilkagblaaDoorW.PrintMore
set_option linter.unusedVariables false
set_option linter.unusedSimpArgs false
theorem i_z {α : Type} (p : α → Bool) (xs : List α) (k : Nat) (h : k < xs.length) : (xs.take (k + 1)).countP p = (xs.take k).countP p + (if p xs[k] then 1 else 0):=by
 rw [List.take_succ_eq_append_getElem h,List.countP_append,List.countP_singleton]
set_option maxHeartbeats 2000000 in
theorem f_5.any (g : Nat) (lb : Array Value) (eg : ∀ args w,(callFunc g args).run Tryd.prog w = .ok (.enter g args) w) (p : S33 → Bool) (A : Option Addr) (c : Nat) (xs : List S33) (w : World)
 (hr : Kd.C k33 w A xs.length xs) (hlen : xs.length ≤ 1099511627776)
 (hp : ∀ W,Below w.heap.size w W → ∀ x ∈ xs,Calls Tryd.prog g (#[.agg #[.int .i64 x.f0,.int .i64 x.f1,.int .i64 x.f2,.int .i64 x.f3,.int .i64 x.f4,.bool x.f5,.bool x.f6,.int .u32 x.f7,.int .i64 x.f8,.int .i64 x.f9,.int .i64 x.f10]] ++ lb) W fun e W' => e = .returned (.bool (p x)) ∧ Below W.heap.size W W') :
 Calls Tryd.prog 23 #[.slice A xs.length c,.func (.func g) #[] lb] w fun e w' => e = .returned (.int .i64 ((xs.countP p : Nat) : Int)) ∧ Below w.heap.size w w':=by
 have HP:=a_g.mk hp
 have HR:=a_g.mk hr
 clear hp hr
 go_enter Tryd.func23,Tryd.ntmps23
 go_wp2
 go_loopg [5,10] xs.length (fun gg s5 s10 wr => ∃ kk cc : Nat,s5 = .int .i64 cc ∧ s10 = .int .i64 kk ∧ cc ≤ kk ∧ kk ≤ xs.length ∧ xs.length - kk ≤ gg ∧ a_g (cc = (xs.take kk).countP p) ∧ a_g (Below w.heap.size w wr))
 case atStart => exact ⟨0,0,rfl,rfl,Nat.le_refl _,Nat.zero_le _,by omega,⟨by simp⟩,⟨Below.refl _ _⟩⟩
 case round =>
  obtain ⟨kk,cc,rfl,rfl,hck,hkk,hg,HCC,HB⟩:=hrel
  by_cases hlt : kk < xs.length
  rotate_left
  ·have hltz : ¬ (kk : Int) < (xs.length : Int):=by omega
   have : kk = xs.length:=by omega
   subst this
   go_wp2
   go_ret
   refine ⟨?_,HB.out⟩
   rw [HCC.out,List.take_length];rfl
  have hltz : (kk : Int) < (xs.length : Int):=by omega
  obtain ⟨ad,rfl,e0,e1,e2,e3,e4,e5,e6,e7,e8,e9,e10⟩:=c_e (Kd.a_5 HR.out HB.out) (kk : Int) (by omega) (by omega)
  have hx:=List.getElem_mem hlt
  have hrd : a_a xs (kk : Int) = xs[kk]:=by unfold a_a;simp [hlt]
  rw [hrd] at e0 e1 e2 e3 e4 e5 e6 e7 e8 e9 e10
  simp only [Int.toNat_natCast] at e0 e1 e2 e3 e4 e5 e6 e7 e8 e9 e10
  have hsucc:=a_g.mk (i_z p xs kk hlt)
  have HP2:=a_g.mk (fun W hW => HP.out W hW _ hx)
  generalize hy : xs[kk] = y at e0 e1 e2 e3 e4 e5 e6 e7 e8 e9 e10 HP2 hsucc hx
  clear hy hx hrd
  cases hq : p y with
  | true =>
   rw [hq] at HP2 hsucc
   go_wp2_with (first
    | ((with_reducible refine a_G (N:=7) rfl ?_);refine a_C ?hg (N:=7) ?hd (cs:=#[.int .i64 0,.int .i64 0,.int .i64 0,.int .i64 0,.int .i64 0,.bool false,.bool false,.int .u32 0,.int .i64 0,.int .i64 0,.int .i64 0]) (t:=33) ?hr ?_;(case hd => rfl);(case hg => rfl);(case hr => first|(go_simp;done)|(go_simp;rfl));intro gb hgb wb hbox hb;have m0_:=a_g.mk (a_p HB.out hb);have m2_:=a_g.mk ((by rw [hgb];exact HB.out.size : w.heap.size ≤ gb));have BK:=a_g.mk hbox;clear HB hb hbox hgb;have HB:=m0_;have GE:=m2_;clear m0_ m2_;have hz0 : wb.cell? ⟨gb,0,none⟩ = some (.int .i64 0):=(a_b BK.out 0).trans rfl;have hf0:=a_c BK.out 0;have hz1 : wb.cell? ⟨gb,1,none⟩ = some (.int .i64 0):=(a_b BK.out 1).trans rfl;have hf1:=a_c BK.out 1;have hz2 : wb.cell? ⟨gb,2,none⟩ = some (.int .i64 0):=(a_b BK.out 2).trans rfl;have hf2:=a_c BK.out 2;have hz3 : wb.cell? ⟨gb,3,none⟩ = some (.int .i64 0):=(a_b BK.out 3).trans rfl;have hf3:=a_c BK.out 3;have hz4 : wb.cell? ⟨gb,4,none⟩ = some (.int .i64 0):=(a_b BK.out 4).trans rfl;have hf4:=a_c BK.out 4;have hz5 : wb.cell? ⟨gb,5,none⟩ = some (.bool false):=(a_b BK.out 5).trans rfl;have hf5:=a_c BK.out 5;have hz6 : wb.cell? ⟨gb,6,none⟩ = some (.bool false):=(a_b BK.out 6).trans rfl;have hf6:=a_c BK.out 6;have hz7 : wb.cell? ⟨gb,7,none⟩ = some (.int .u32 0):=(a_b BK.out 7).trans rfl;have hf7:=a_c BK.out 7;have hz8 : wb.cell? ⟨gb,8,none⟩ = some (.int .i64 0):=(a_b BK.out 8).trans rfl;have hf8:=a_c BK.out 8;have hz9 : wb.cell? ⟨gb,9,none⟩ = some (.int .i64 0):=(a_b BK.out 9).trans rfl;have hf9:=a_c BK.out 9;have hz10 : wb.cell? ⟨gb,10,none⟩ = some (.int .i64 0):=(a_b BK.out 10).trans rfl;have hf10:=a_c BK.out 10)
    | (go_at_fn g;refine (HP2.out _ ?hW).mono ?_;(case hW => exact (by repeat (with_reducible first|exact HB.out|refine a_i ?_ GE.out)));rintro e w' ⟨rfl,hb'⟩;have m0_:=a_g.mk (Below.trans (by repeat (with_reducible first|exact HB.out|refine a_i ?_ GE.out)) (hb'.mono (a_n (by repeat (with_reducible first|exact HB.out|refine a_i ?_ GE.out)))));clear hz0 hf0 hz1 hf1 hz2 hf2 hz3 hf3 hz4 hf4 hz5 hf5 hz6 hf6 hz7 hf7 hz8 hf8 hz9 hf9 hz10 hf10 hb' HB;have HB:=m0_;clear m0_))
   go_roundg (xs.length - (kk + 1))
   case measure => omega
   case rel => exact ⟨kk + 1,cc + 1,by go_num,by go_num,by omega,by omega,by omega,⟨by rw [hsucc.out, ← HCC.out];rfl⟩,⟨HB.out⟩⟩
  | false =>
   rw [hq] at HP2 hsucc
   go_wp2_with (first
    | ((with_reducible refine a_G (N:=7) rfl ?_);refine a_C ?hg (N:=7) ?hd (cs:=#[.int .i64 0,.int .i64 0,.int .i64 0,.int .i64 0,.int .i64 0,.bool false,.bool false,.int .u32 0,.int .i64 0,.int .i64 0,.int .i64 0]) (t:=33) ?hr ?_;(case hd => rfl);(case hg => rfl);(case hr => first|(go_simp;done)|(go_simp;rfl));intro gb hgb wb hbox hb;have m0_:=a_g.mk (a_p HB.out hb);have m2_:=a_g.mk ((by rw [hgb];exact HB.out.size : w.heap.size ≤ gb));have BK:=a_g.mk hbox;clear HB hb hbox hgb;have HB:=m0_;have GE:=m2_;clear m0_ m2_;have hz0 : wb.cell? ⟨gb,0,none⟩ = some (.int .i64 0):=(a_b BK.out 0).trans rfl;have hf0:=a_c BK.out 0;have hz1 : wb.cell? ⟨gb,1,none⟩ = some (.int .i64 0):=(a_b BK.out 1).trans rfl;have hf1:=a_c BK.out 1;have hz2 : wb.cell? ⟨gb,2,none⟩ = some (.int .i64 0):=(a_b BK.out 2).trans rfl;have hf2:=a_c BK.out 2;have hz3 : wb.cell? ⟨gb,3,none⟩ = some (.int .i64 0):=(a_b BK.out 3).trans rfl;have hf3:=a_c BK.out 3;have hz4 : wb.cell? ⟨gb,4,none⟩ = some (.int .i64 0):=(a_b BK.out 4).trans rfl;have hf4:=a_c BK.out 4;have hz5 : wb.cell? ⟨gb,5,none⟩ = some (.bool false):=(a_b BK.out 5).trans rfl;have hf5:=a_c BK.out 5;have hz6 : wb.cell? ⟨gb,6,none⟩ = some (.bool false):=(a_b BK.out 6).trans rfl;have hf6:=a_c BK.out 6;have hz7 : wb.cell? ⟨gb,7,none⟩ = some (.int .u32 0):=(a_b BK.out 7).trans rfl;have hf7:=a_c BK.out 7;have hz8 : wb.cell? ⟨gb,8,none⟩ = some (.int .i64 0):=(a_b BK.out 8).trans rfl;have hf8:=a_c BK.out 8;have hz9 : wb.cell? ⟨gb,9,none⟩ = some (.int .i64 0):=(a_b BK.out 9).trans rfl;have hf9:=a_c BK.out 9;have hz10 : wb.cell? ⟨gb,10,none⟩ = some (.int .i64 0):=(a_b BK.out 10).trans rfl;have hf10:=a_c BK.out 10)
    | (go_at_fn g;refine (HP2.out _ ?hW).mono ?_;(case hW => exact (by repeat (with_reducible first|exact HB.out|refine a_i ?_ GE.out)));rintro e w' ⟨rfl,hb'⟩;have m0_:=a_g.mk (Below.trans (by repeat (with_reducible first|exact HB.out|refine a_i ?_ GE.out)) (hb'.mono (a_n (by repeat (with_reducible first|exact HB.out|refine a_i ?_ GE.out)))));clear hz0 hf0 hz1 hf1 hz2 hf2 hz3 hf3 hz4 hf4 hz5 hf5 hz6 hf6 hz7 hf7 hz8 hf8 hz9 hf9 hz10 hf10 hb' HB;have HB:=m0_;clear m0_))
   go_roundg (xs.length - (kk + 1))
   case measure => omega
   case rel => exact ⟨kk + 1,cc,by go_num,by go_num,by omega,by omega,by omega,⟨by rw [hsucc.out, ← HCC.out];rfl⟩,⟨HB.out⟩⟩
set_option maxHeartbeats 2000000 in
theorem j_G.calls (g : Nat) (x : S33) (a0 : Int) (a1 : Int) (a2 : Int) (a3 : Int) (a4 : Int) (a5 : Bool) (a6 : Bool) (a7 : Int) (a8 : Int) (a9 : Int) (a10 : Int) (w : World) (hb : w.heap[g]? = some (.cells #[.int .i64 a0,.int .i64 a1,.int .i64 a2,.int .i64 a3,.int .i64 a4,.bool a5,.bool a6,.int .u32 a7,.int .i64 a8,.int .i64 a9,.int .i64 a10] 33 (0,0))) :
 Calls Tryd.prog 33 (#[.agg #[.int .i64 x.f0,.int .i64 x.f1,.int .i64 x.f2,.int .i64 x.f3,.int .i64 x.f4,.bool x.f5,.bool x.f6,.int .u32 x.f7,.int .i64 x.f8,.int .i64 x.f9,.int .i64 x.f10]] ++ #[.pointer (some ⟨g,0,none⟩)]) w fun e w' => e = .returned (.bool (x.f1 == a1)) ∧ Below w.heap.size w w':=by
 have hc:=(a_b hb 1).trans rfl
 have hf:=a_c hb 1
 have hlt:=a_L hb
 clear hb
 go_enter Tryd.func33,Tryd.ntmps33
 go_wp2
 go_ret
 exact ⟨rfl,(Below.refl _ _).alloc (Nat.le_refl _) _⟩
def b_g.f (l0 : List S33) (a0 : Int) (a1 : Int) (a2 : Int) (a3 : Int) (a4 : Int) (a5 : Bool) (a6 : Bool) (a7 : Int) (a8 : Int) (a9 : Int) (a10 : Int) : Option Int:=if l0.length ≤ 1099511627776 then some ((l0.countP (fun s => s.f1 == a1) : Nat) : Int) else none
theorem b_g.calls (A0 : Option Addr) (c0 : Nat) (l0 : List S33) (g : Nat) (a0 : Int) (a1 : Int) (a2 : Int) (a3 : Int) (a4 : Int) (a5 : Bool) (a6 : Bool) (a7 : Int) (a8 : Int) (a9 : Int) (a10 : Int) (r : Int) (w : World) (hr0 : Kd.C k33 w A0 l0.length l0) (hc0 : l0.length ≤ c0) (hb : w.heap[g]? = some (.cells #[.int .i64 a0,.int .i64 a1,.int .i64 a2,.int .i64 a3,.int .i64 a4,.bool a5,.bool a6,.int .u32 a7,.int .i64 a8,.int .i64 a9,.int .i64 a10] 33 (0,0))) (h : b_g.f l0 a0 a1 a2 a3 a4 a5 a6 a7 a8 a9 a10 = some r) :
 Calls Tryd.prog 23 #[.slice A0 l0.length c0,.func (.func 33) #[] #[.pointer (some ⟨g,0,none⟩)]] w fun e w' => e = .returned (.int .i64 r) ∧ Below w.heap.size w w':=by
 unfold b_g.f at h
 split at h
 case isFalse => cases h
 case isTrue hl =>
 obtain rfl:=Option.some.inj h
 exact f_5.any 33 _ (g_6 Tryd.func33 (by kernel_rfl) rfl) _ A0 c0 l0 w hr0 hl (fun W hW x _ => j_G.calls g x a0 a1 a2 a3 a4 a5 a6 a7 a8 a9 a10 W ((hW.block _ (a_L hb)).trans hb))
def d_U (x : S33) (a1 b8 b9 b10 : Int) : Bool:=x.f1 == a1 && x.f8 == b8 && x.f9 == b9 && x.f10 == b10
set_option maxHeartbeats 2000000 in
theorem m_m.calls (gs g g2 : Nat) (x : S33) (a0 : Int) (a1 : Int) (a2 : Int) (a3 : Int) (a4 : Int) (a5 : Bool) (a6 : Bool) (a7 : Int) (a8 : Int) (a9 : Int) (a10 : Int) (b0 : Int) (b1 : Int) (b2 : Int) (b3 : Int) (b4 : Int) (b5 : Bool) (b6 : Bool) (b7 : Int) (b8 : Int) (b9 : Int) (b10 : Int) (w : World) (hs : w.heap[gs]? = some (.cells #[.func (.func 33) #[] #[.pointer (some ⟨g,0,none⟩)]] 51 (0,0))) (hb : w.heap[g]? = some (.cells #[.int .i64 a0,.int .i64 a1,.int .i64 a2,.int .i64 a3,.int .i64 a4,.bool a5,.bool a6,.int .u32 a7,.int .i64 a8,.int .i64 a9,.int .i64 a10] 33 (0,0))) (hb2 : w.heap[g2]? = some (.cells #[.int .i64 b0,.int .i64 b1,.int .i64 b2,.int .i64 b3,.int .i64 b4,.bool b5,.bool b6,.int .u32 b7,.int .i64 b8,.int .i64 b9,.int .i64 b10] 33 (0,0))) :
 Calls Tryd.prog 34 (#[.agg #[.int .i64 x.f0,.int .i64 x.f1,.int .i64 x.f2,.int .i64 x.f3,.int .i64 x.f4,.bool x.f5,.bool x.f6,.int .u32 x.f7,.int .i64 x.f8,.int .i64 x.f9,.int .i64 x.f10]] ++ #[.pointer (some ⟨gs,0,none⟩),.pointer (some ⟨g2,0,none⟩)]) w fun e w' => e = .returned (.bool (d_U x a1 b8 b9 b10)) ∧ Below w.heap.size w w':=by
 have HS:=a_g.mk hs
 have HG:=a_g.mk hb
 have H2:=a_g.mk hb2
 have HB:=a_g.mk (Below.refl w.heap.size w)
 clear hs hb hb2
 have key : ∀ b1 b2 b3 b4 : Bool,(x.f1 == a1) = b1 → (x.f8 == b8) = b2 → (x.f9 == b9) = b3 → (x.f10 == b10) = b4 → Calls Tryd.prog 34 (#[.agg #[.int .i64 x.f0,.int .i64 x.f1,.int .i64 x.f2,.int .i64 x.f3,.int .i64 x.f4,.bool x.f5,.bool x.f6,.int .u32 x.f7,.int .i64 x.f8,.int .i64 x.f9,.int .i64 x.f10]] ++ #[.pointer (some ⟨gs,0,none⟩),.pointer (some ⟨g2,0,none⟩)]) w fun e w' => e = .returned (.bool (b1 && b2 && b3 && b4)) ∧ Below w.heap.size w w':=by
  intro b1 b2 b3 b4 h1 h2 h3 h4
  have H1:=a_g.mk h1
  clear h1
  cases b1 <;> cases b2 <;> cases b3 <;> cases b4
  all_goals
   go_enter Tryd.func34,Tryd.ntmps34
   go_wp2_with (first
    | ((with_reducible refine a_G (N:=3) rfl ?_);refine a_C ?hg (N:=3) ?hd (cs:=#[.int .i64 x.f0,.int .i64 x.f1,.int .i64 x.f2,.int .i64 x.f3,.int .i64 x.f4,.bool x.f5,.bool x.f6,.int .u32 x.f7,.int .i64 x.f8,.int .i64 x.f9,.int .i64 x.f10]) (t:=33) ?hr ?_;(case hd => rfl);(case hg => rfl);(case hr => first|(go_simp;done)|(go_simp;rfl));intro gb hgb wb hbox hb;have m0_:=a_g.mk (a_p HB.out hb);have m1_:=a_g.mk (a_m HS.out hb);have m2_:=a_g.mk (a_m HG.out hb);have m3_:=a_g.mk (a_m H2.out hb);have BK:=a_g.mk hbox;clear HB HS HG H2 hb hbox hgb;have HB:=m0_;have HS:=m1_;have HG:=m2_;have H2:=m3_;clear m0_ m1_ m2_ m3_;have hz0 : wb.cell? ⟨gs,0,none⟩ = some (.func (.func 33) #[] #[.pointer (some ⟨g,0,none⟩)]):=(a_b HS.out 0).trans rfl;have hx0 : wb.cell? ⟨gb,0,none⟩ = some (.int .i64 x.f0):=(a_b BK.out 0).trans rfl;have hx1 : wb.cell? ⟨gb,1,none⟩ = some (.int .i64 x.f1):=(a_b BK.out 1).trans rfl;have hx2 : wb.cell? ⟨gb,2,none⟩ = some (.int .i64 x.f2):=(a_b BK.out 2).trans rfl;have hx3 : wb.cell? ⟨gb,3,none⟩ = some (.int .i64 x.f3):=(a_b BK.out 3).trans rfl;have hx4 : wb.cell? ⟨gb,4,none⟩ = some (.int .i64 x.f4):=(a_b BK.out 4).trans rfl;have hx5 : wb.cell? ⟨gb,5,none⟩ = some (.bool x.f5):=(a_b BK.out 5).trans rfl;have hx6 : wb.cell? ⟨gb,6,none⟩ = some (.bool x.f6):=(a_b BK.out 6).trans rfl;have hx7 : wb.cell? ⟨gb,7,none⟩ = some (.int .u32 x.f7):=(a_b BK.out 7).trans rfl;have hx8 : wb.cell? ⟨gb,8,none⟩ = some (.int .i64 x.f8):=(a_b BK.out 8).trans rfl;have hx9 : wb.cell? ⟨gb,9,none⟩ = some (.int .i64 x.f9):=(a_b BK.out 9).trans rfl;have hx10 : wb.cell? ⟨gb,10,none⟩ = some (.int .i64 x.f10):=(a_b BK.out 10).trans rfl)
    | (go_at_call 33;refine (j_G.calls g x a0 a1 a2 a3 a4 a5 a6 a7 a8 a9 a10 _ HG.out).mono ?_;rintro e w' ⟨rfl,hb⟩;rw [H1.out];clear hz0 hx0 hx1 hx2 hx3 hx4 hx5 hx6 hx7 hx8 hx9 hx10;have m0_:=a_g.mk (a_p HB.out hb);have m3_:=a_g.mk (a_m H2.out hb);have m4_:=a_g.mk (a_m BK.out hb);clear HB HS HG H2 BK hb;have HB:=m0_;have H2:=m3_;have BK:=m4_;clear m0_ m3_ m4_;have hx8 : World.cell? _ ⟨gb,8,none⟩ = some (.int .i64 x.f8):=(a_b BK.out 8).trans rfl;have hx9 : World.cell? _ ⟨gb,9,none⟩ = some (.int .i64 x.f9):=(a_b BK.out 9).trans rfl;have hx10 : World.cell? _ ⟨gb,10,none⟩ = some (.int .i64 x.f10):=(a_b BK.out 10).trans rfl;have hy8 : World.cell? _ ⟨g2,8,none⟩ = some (.int .i64 b8):=(a_b H2.out 8).trans rfl;have hy9 : World.cell? _ ⟨g2,9,none⟩ = some (.int .i64 b9):=(a_b H2.out 9).trans rfl;have hy10 : World.cell? _ ⟨g2,10,none⟩ = some (.int .i64 b10):=(a_b H2.out 10).trans rfl))
   go_ret
   exact ⟨by first|rfl|simp [h2,h3,h4]|simp [*],HB.out⟩
 have:=key _ _ _ _ rfl rfl rfl rfl
 exact this
def b_e.f (l0 : List S33) (a0 : Int) (a1 : Int) (a2 : Int) (a3 : Int) (a4 : Int) (a5 : Bool) (a6 : Bool) (a7 : Int) (a8 : Int) (a9 : Int) (a10 : Int) (b0 : Int) (b1 : Int) (b2 : Int) (b3 : Int) (b4 : Int) (b5 : Bool) (b6 : Bool) (b7 : Int) (b8 : Int) (b9 : Int) (b10 : Int) : Option Int:=if l0.length ≤ 1099511627776 then some ((l0.countP (fun s => d_U s a1 b8 b9 b10) : Nat) : Int) else none
theorem b_e.calls (A0 : Option Addr) (c0 : Nat) (l0 : List S33) (gs g g2 : Nat) (a0 : Int) (a1 : Int) (a2 : Int) (a3 : Int) (a4 : Int) (a5 : Bool) (a6 : Bool) (a7 : Int) (a8 : Int) (a9 : Int) (a10 : Int) (b0 : Int) (b1 : Int) (b2 : Int) (b3 : Int) (b4 : Int) (b5 : Bool) (b6 : Bool) (b7 : Int) (b8 : Int) (b9 : Int) (b10 : Int) (r : Int) (w : World) (hr0 : Kd.C k33 w A0 l0.length l0) (hc0 : l0.length ≤ c0) (hs : w.heap[gs]? = some (.cells #[.func (.func 33) #[] #[.pointer (some ⟨g,0,none⟩)]] 51 (0,0))) (hb : w.heap[g]? = some (.cells #[.int .i64 a0,.int .i64 a1,.int .i64 a2,.int .i64 a3,.int .i64 a4,.bool a5,.bool a6,.int .u32 a7,.int .i64 a8,.int .i64 a9,.int .i64 a10] 33 (0,0))) (hb2 : w.heap[g2]? = some (.cells #[.int .i64 b0,.int .i64 b1,.int .i64 b2,.int .i64 b3,.int .i64 b4,.bool b5,.bool b6,.int .u32 b7,.int .i64 b8,.int .i64 b9,.int .i64 b10] 33 (0,0))) (h : b_e.f l0 a0 a1 a2 a3 a4 a5 a6 a7 a8 a9 a10 b0 b1 b2 b3 b4 b5 b6 b7 b8 b9 b10 = some r) :
 Calls Tryd.prog 23 #[.slice A0 l0.length c0,.func (.func 34) #[] #[.pointer (some ⟨gs,0,none⟩),.pointer (some ⟨g2,0,none⟩)]] w fun e w' => e = .returned (.int .i64 r) ∧ Below w.heap.size w w':=by
 unfold b_e.f at h
 split at h
 case isFalse => cases h
 case isTrue hl =>
 obtain rfl:=Option.some.inj h
 exact f_5.any 34 _ (g_6 Tryd.func34 (by kernel_rfl) rfl) _ A0 c0 l0 w hr0 hl (fun W hW x _ => m_m.calls gs g g2 x a0 a1 a2 a3 a4 a5 a6 a7 a8 a9 a10 b0 b1 b2 b3 b4 b5 b6 b7 b8 b9 b10 W ((hW.block _ (a_L hs)).trans hs) ((hW.block _ (a_L hb)).trans hb) ((hW.block _ (a_L hb2)).trans hb2))
def d_h (x : S33) (a2 : Int) : Bool:=x.f2 == a2 && x.f5 && !x.f6
def areB (x : S33) (a2 : Int) : Bool:=d_h x a2 && decide (-1 < x.f4)
set_option maxHeartbeats 2000000 in
theorem i_Z.calls (g : Nat) (x : S33) (a0 : Int) (a1 : Int) (a2 : Int) (a3 : Int) (a4 : Int) (a5 : Bool) (a6 : Bool) (a7 : Int) (a8 : Int) (a9 : Int) (a10 : Int) (w : World) (hb : w.heap[g]? = some (.cells #[.int .i64 a0,.int .i64 a1,.int .i64 a2,.int .i64 a3,.int .i64 a4,.bool a5,.bool a6,.int .u32 a7,.int .i64 a8,.int .i64 a9,.int .i64 a10] 33 (0,0))) :
 Calls Tryd.prog 21 (#[.agg #[.int .i64 x.f0,.int .i64 x.f1,.int .i64 x.f2,.int .i64 x.f3,.int .i64 x.f4,.bool x.f5,.bool x.f6,.int .u32 x.f7,.int .i64 x.f8,.int .i64 x.f9,.int .i64 x.f10]] ++ #[.pointer (some ⟨g,0,none⟩)]) w fun e w' => e = .returned (.bool (d_h x a2)) ∧ Below w.heap.size w w':=by
 have hc:=(a_b hb 2).trans rfl
 have hlt:=a_L hb
 clear hb
 have key : ∀ b1 b2 b3 : Bool,(x.f2 == a2) = b1 → x.f5 = b2 → x.f6 = b3 → Calls Tryd.prog 21 (#[.agg #[.int .i64 x.f0,.int .i64 x.f1,.int .i64 x.f2,.int .i64 x.f3,.int .i64 x.f4,.bool x.f5,.bool x.f6,.int .u32 x.f7,.int .i64 x.f8,.int .i64 x.f9,.int .i64 x.f10]] ++ #[.pointer (some ⟨g,0,none⟩)]) w fun e w' => e = .returned (.bool (b1 && b2 && !b3)) ∧ Below w.heap.size w w':=by
  intro b1 b2 b3 h1 h2 h3
  rw [h2,h3]
  cases b1 <;> cases b2 <;> cases b3
  all_goals
   go_enter Tryd.func21,Tryd.ntmps21
   go_wp2
   go_ret
   exact ⟨by first|rfl|simp [h1]|simp [*],(Below.refl _ _).alloc (Nat.le_refl _) _⟩
 exact key _ _ _ rfl rfl rfl
def b_5.f (l0 : List S33) (a0 : Int) (a1 : Int) (a2 : Int) (a3 : Int) (a4 : Int) (a5 : Bool) (a6 : Bool) (a7 : Int) (a8 : Int) (a9 : Int) (a10 : Int) : Option Int:=if l0.length ≤ 1099511627776 then some ((l0.countP (fun s => d_h s a2) : Nat) : Int) else none
theorem b_5.calls (A0 : Option Addr) (c0 : Nat) (l0 : List S33) (g : Nat) (a0 : Int) (a1 : Int) (a2 : Int) (a3 : Int) (a4 : Int) (a5 : Bool) (a6 : Bool) (a7 : Int) (a8 : Int) (a9 : Int) (a10 : Int) (r : Int) (w : World) (hr0 : Kd.C k33 w A0 l0.length l0) (hc0 : l0.length ≤ c0) (hb : w.heap[g]? = some (.cells #[.int .i64 a0,.int .i64 a1,.int .i64 a2,.int .i64 a3,.int .i64 a4,.bool a5,.bool a6,.int .u32 a7,.int .i64 a8,.int .i64 a9,.int .i64 a10] 33 (0,0))) (h : b_5.f l0 a0 a1 a2 a3 a4 a5 a6 a7 a8 a9 a10 = some r) :
 Calls Tryd.prog 23 #[.slice A0 l0.length c0,.func (.func 21) #[] #[.pointer (some ⟨g,0,none⟩)]] w fun e w' => e = .returned (.int .i64 r) ∧ Below w.heap.size w w':=by
 unfold b_5.f at h
 split at h
 case isFalse => cases h
 case isTrue hl =>
 obtain rfl:=Option.some.inj h
 exact f_5.any 21 _ (g_6 Tryd.func21 (by kernel_rfl) rfl) _ A0 c0 l0 w hr0 hl (fun W hW x _ => i_Z.calls g x a0 a1 a2 a3 a4 a5 a6 a7 a8 a9 a10 W ((hW.block _ (a_L hb)).trans hb))
set_option maxHeartbeats 2000000 in
theorem p_p.calls (gs g : Nat) (x : S33) (a0 : Int) (a1 : Int) (a2 : Int) (a3 : Int) (a4 : Int) (a5 : Bool) (a6 : Bool) (a7 : Int) (a8 : Int) (a9 : Int) (a10 : Int) (w : World) (hs : w.heap[gs]? = some (.cells #[.func (.func 21) #[] #[.pointer (some ⟨g,0,none⟩)]] 51 (0,0))) (hb : w.heap[g]? = some (.cells #[.int .i64 a0,.int .i64 a1,.int .i64 a2,.int .i64 a3,.int .i64 a4,.bool a5,.bool a6,.int .u32 a7,.int .i64 a8,.int .i64 a9,.int .i64 a10] 33 (0,0))) :
 Calls Tryd.prog 22 (#[.agg #[.int .i64 x.f0,.int .i64 x.f1,.int .i64 x.f2,.int .i64 x.f3,.int .i64 x.f4,.bool x.f5,.bool x.f6,.int .u32 x.f7,.int .i64 x.f8,.int .i64 x.f9,.int .i64 x.f10]] ++ #[.pointer (some ⟨gs,0,none⟩)]) w fun e w' => e = .returned (.bool (areB x a2)) ∧ Below w.heap.size w w':=by
 have HS:=a_g.mk hs
 have HG:=a_g.mk hb
 have HB:=a_g.mk (Below.refl w.heap.size w)
 clear hs hb
 have key : ∀ b1 b2 : Bool,d_h x a2 = b1 → decide (-1 < x.f4) = b2 → Calls Tryd.prog 22 (#[.agg #[.int .i64 x.f0,.int .i64 x.f1,.int .i64 x.f2,.int .i64 x.f3,.int .i64 x.f4,.bool x.f5,.bool x.f6,.int .u32 x.f7,.int .i64 x.f8,.int .i64 x.f9,.int .i64 x.f10]] ++ #[.pointer (some ⟨gs,0,none⟩)]) w fun e w' => e = .returned (.bool (b1 && b2)) ∧ Below w.heap.size w w':=by
  intro b1 b2 h1 h2
  have H1:=a_g.mk h1
  clear h1
  cases b1 <;> cases b2
  all_goals
   go_enter Tryd.func22,Tryd.ntmps22
   go_wp2_with (first
    | ((with_reducible refine a_G (N:=2) rfl ?_);refine a_C ?hg (N:=2) ?hd (cs:=#[.int .i64 x.f0,.int .i64 x.f1,.int .i64 x.f2,.int .i64 x.f3,.int .i64 x.f4,.bool x.f5,.bool x.f6,.int .u32 x.f7,.int .i64 x.f8,.int .i64 x.f9,.int .i64 x.f10]) (t:=33) ?hr ?_;(case hd => rfl);(case hg => rfl);(case hr => first|(go_simp;done)|(go_simp;rfl));intro gb hgb wb hbox hb;have m0_:=a_g.mk (a_p HB.out hb);have m1_:=a_g.mk (a_m HS.out hb);have m2_:=a_g.mk (a_m HG.out hb);have BK:=a_g.mk hbox;clear HB HS HG hb hbox hgb;have HB:=m0_;have HS:=m1_;have HG:=m2_;clear m0_ m1_ m2_;have hz0 : wb.cell? ⟨gs,0,none⟩ = some (.func (.func 21) #[] #[.pointer (some ⟨g,0,none⟩)]):=(a_b HS.out 0).trans rfl;have hx0 : wb.cell? ⟨gb,0,none⟩ = some (.int .i64 x.f0):=(a_b BK.out 0).trans rfl;have hx1 : wb.cell? ⟨gb,1,none⟩ = some (.int .i64 x.f1):=(a_b BK.out 1).trans rfl;have hx2 : wb.cell? ⟨gb,2,none⟩ = some (.int .i64 x.f2):=(a_b BK.out 2).trans rfl;have hx3 : wb.cell? ⟨gb,3,none⟩ = some (.int .i64 x.f3):=(a_b BK.out 3).trans rfl;have hx4 : wb.cell? ⟨gb,4,none⟩ = some (.int .i64 x.f4):=(a_b BK.out 4).trans rfl;have hx5 : wb.cell? ⟨gb,5,none⟩ = some (.bool x.f5):=(a_b BK.out 5).trans rfl;have hx6 : wb.cell? ⟨gb,6,none⟩ = some (.bool x.f6):=(a_b BK.out 6).trans rfl;have hx7 : wb.cell? ⟨gb,7,none⟩ = some (.int .u32 x.f7):=(a_b BK.out 7).trans rfl;have hx8 : wb.cell? ⟨gb,8,none⟩ = some (.int .i64 x.f8):=(a_b BK.out 8).trans rfl;have hx9 : wb.cell? ⟨gb,9,none⟩ = some (.int .i64 x.f9):=(a_b BK.out 9).trans rfl;have hx10 : wb.cell? ⟨gb,10,none⟩ = some (.int .i64 x.f10):=(a_b BK.out 10).trans rfl)
    | (go_at_call 21;refine (i_Z.calls g x a0 a1 a2 a3 a4 a5 a6 a7 a8 a9 a10 _ HG.out).mono ?_;rintro e w' ⟨rfl,hb⟩;rw [H1.out];clear hz0 hx0 hx1 hx2 hx3 hx4 hx5 hx6 hx7 hx8 hx9 hx10;have m0_:=a_g.mk (a_p HB.out hb);have m4_:=a_g.mk (a_m BK.out hb);clear HB HS HG BK hb;have HB:=m0_;have BK:=m4_;clear m0_ m4_;have hx4 : World.cell? _ ⟨gb,4,none⟩ = some (.int .i64 x.f4):=(a_b BK.out 4).trans rfl))
   go_ret
   exact ⟨by first|rfl|simp [h2]|simp [*],HB.out⟩
 exact key _ _ rfl rfl
def b_8.f (l0 : List S33) (a0 : Int) (a1 : Int) (a2 : Int) (a3 : Int) (a4 : Int) (a5 : Bool) (a6 : Bool) (a7 : Int) (a8 : Int) (a9 : Int) (a10 : Int) : Option Int:=if l0.length ≤ 1099511627776 then some ((l0.countP (fun s => areB s a2) : Nat) : Int) else none
theorem b_8.calls (A0 : Option Addr) (c0 : Nat) (l0 : List S33) (gs g : Nat) (a0 : Int) (a1 : Int) (a2 : Int) (a3 : Int) (a4 : Int) (a5 : Bool) (a6 : Bool) (a7 : Int) (a8 : Int) (a9 : Int) (a10 : Int) (r : Int) (w : World) (hr0 : Kd.C k33 w A0 l0.length l0) (hc0 : l0.length ≤ c0) (hs : w.heap[gs]? = some (.cells #[.func (.func 21) #[] #[.pointer (some ⟨g,0,none⟩)]] 51 (0,0))) (hb : w.heap[g]? = some (.cells #[.int .i64 a0,.int .i64 a1,.int .i64 a2,.int .i64 a3,.int .i64 a4,.bool a5,.bool a6,.int .u32 a7,.int .i64 a8,.int .i64 a9,.int .i64 a10] 33 (0,0))) (h : b_8.f l0 a0 a1 a2 a3 a4 a5 a6 a7 a8 a9 a10 = some r) :
 Calls Tryd.prog 23 #[.slice A0 l0.length c0,.func (.func 22) #[] #[.pointer (some ⟨gs,0,none⟩)]] w fun e w' => e = .returned (.int .i64 r) ∧ Below w.heap.size w w':=by
 unfold b_8.f at h
 split at h
 case isFalse => cases h
 case isTrue hl =>
 obtain rfl:=Option.some.inj h
 exact f_5.any 22 _ (g_6 Tryd.func22 (by kernel_rfl) rfl) _ A0 c0 l0 w hr0 hl (fun W hW x _ => p_p.calls gs g x a0 a1 a2 a3 a4 a5 a6 a7 a8 a9 a10 W ((hW.block _ (a_L hs)).trans hs) ((hW.block _ (a_L hb)).trans hb))
end Go.Proofs.YtgglkfilkagblaaDoor.Q
end
section
namespace Go.Proofs.YtgglkfilkagblaaDoor.Q
open Go.RowKit Go.Proofs.YtgglkfilkagblaaDoorW.PrintWords Go.Proofs.YtgglkfilkagblaaDoorW.PrintLast Go.Proofs.YtgglkfilkagblaaDoorW.PrintMore
set_option linter.unusedVariables false
set_option linter.unusedSimpArgs false
def a_F.f (a0 : Int) (a1 : Int) (a2 : Int) : Option (Bool):=if a0 ≥ a1 then (some (decide (a0 ≤ a2))) else (some false)
set_option maxHeartbeats 8000000 in
set_option maxRecDepth 100000 in
theorem a_F.calls (a0 : Int) (a1 : Int) (a2 : Int) (r : Bool) (w : World) (h : a_F.f a0 a1 a2 = some r) :
 Calls Tryd.prog 45 #[.int .i64 a0,.int .i64 a1,.int .i64 a2] w fun e w' => e = .returned (.bool r) ∧ b_R w w':=by
 have H : (if a0 ≥ a1 then (some (decide (a0 ≤ a2))) else (some false)) = some r:=h
 clear h
 by_cases c4 : a0 ≥ a1
 ·rw [if_pos c4] at H
  have c4b0 : decide (a1 ≤ a0) = true:=decide_eq_true c4
  clear c4
  obtain rfl:=Option.some.inj H
  go_enter Tryd.func45,Tryd.ntmps45
  go_wp2
  go_ret
  exact ⟨by first|rfl|(simp;done)|(simp [*];done),by repeat (first|exact b_R.refl _|apply b_R.step)⟩
 rw [if_neg c4] at H
 have c4b0 : decide (a1 ≤ a0) = false:=decide_eq_false c4
 clear c4
 obtain rfl:=Option.some.inj H
 go_enter Tryd.func45,Tryd.ntmps45
 go_wp2
 go_ret
 exact ⟨by first|rfl|(simp;done)|(simp [*];done),by repeat (first|exact b_R.refl _|apply b_R.step)⟩
end Go.Proofs.YtgglkfilkagblaaDoor.Q
end
section
namespace Go.Proofs.YtgglkfilkagblaaDoor.Q
open Go.RowKit Go.Proofs.YtgglkfilkagblaaDoorW.PrintWords Go.Proofs.YtgglkfilkagblaaDoorW.PrintLast Go.Proofs.YtgglkfilkagblaaDoorW.PrintMore
set_option linter.unusedVariables false
set_option linter.unusedSimpArgs false
def c_w.f (a0 : Int) : Option (Int):=if (Go.bits .andNot .u32 a0 255) = 0 then (some 0) else (some 140)
set_option maxHeartbeats 8000000 in
set_option maxRecDepth 100000 in
theorem c_w.calls (a0 : Int) (r : Int) (w : World) (h : c_w.f a0 = some r) :
 Calls Tryd.prog 46 #[.int .u32 a0] w fun e w' => e = .returned (.int .i64 r) ∧ b_R w w':=by
 have H : (if (Go.bits .andNot .u32 a0 255) = 0 then (some 0) else (some 140)) = some r:=h
 clear h
 by_cases c2 : (Go.bits .andNot .u32 a0 255) = 0
 ·rw [if_pos c2] at H
  have c2b0 : ((Go.bits .andNot .u32 a0 255) == 0) = true:=beq_iff_eq.mpr c2
  have c2b1 : ((Go.bits .andNot .u32 a0 255) != 0) = false:=bne_eq_false_iff_eq.mpr c2
  clear c2
  obtain rfl:=Option.some.inj H
  go_enter Tryd.func46,Tryd.ntmps46
  go_wp2
  go_ret
  exact ⟨by first|rfl|(simp;done)|(simp [*];done),by repeat (first|exact b_R.refl _|apply b_R.step)⟩
 rw [if_neg c2] at H
 have c2b0 : ((Go.bits .andNot .u32 a0 255) == 0) = false:=beq_eq_false_iff_ne.mpr c2
 have c2b1 : ((Go.bits .andNot .u32 a0 255) != 0) = true:=bne_iff_ne.mpr c2
 obtain rfl:=Option.some.inj H
 go_enter Tryd.func46,Tryd.ntmps46
 go_wp2
 go_ret
 exact ⟨by first|rfl|(simp;done)|(simp [*];done),by repeat (first|exact b_R.refl _|apply b_R.step)⟩
end Go.Proofs.YtgglkfilkagblaaDoor.Q
end
