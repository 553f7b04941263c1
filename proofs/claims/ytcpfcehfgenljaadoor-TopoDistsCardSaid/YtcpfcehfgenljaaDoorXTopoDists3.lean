/- Part 4 of 6 of what the row of TopoDists stands on: contracts over the given program's functions, the plain law, the row; no condition beyond those that each theorem states. -/
import Derived.Test.YtcpfcehfgenljaaDoorXTopoDists2
section
namespace Go.Proofs.YtcpfcehfgenljaaDoor.Q
open Go.RowKit Go.Proofs.YtcpfcehfgenljaaDoorW.PrintWords Go.Proofs.YtcpfcehfgenljaaDoorW.PrintLast Go.Proofs.YtcpfcehfgenljaaDoorW.PrintMore
set_option linter.unusedVariables false
set_option linter.unusedSimpArgs false
def a_s.l0 : Nat → List (S56) → Int → Int → List (S56) → Option (Bool)
 | 0,_,_,_,_ => none
 | k + 1,x6,x7,x8,x229000 => if x8 < x7 then (if 0 ≤ x8 then (if x8 < (x6.length : Int) then (if ((a_x x6 x8).f0) < 0 then (some false) else (if ((a_x x6 x8).f0) ≥ 4 then (some false) else (if ((a_x x6 x8).f1) < 0 then (some false) else (if ((a_x x6 x8).f1) ≥ 8 then (some false) else (a_s.l0 k x6 x7 (wrap64 (x8 + 1)) x229000))))) else (none)) else (none)) else (if (x229000.length : Int) ≥ 1 then (some (decide ((x229000.length : Int) ≤ 8))) else (some false))
def a_s.f (k : Nat) (l0_0 : List (S56)) : Option (Bool):=a_s.l0 k l0_0 (l0_0.length : Int) 0 l0_0
theorem a_s.c_w : ∀ k,(∀ y0 y1 y2 y3,LeO (a_s.l0 k y0 y1 y2 y3) (a_s.l0 (k + 1) y0 y1 y2 y3))
 | 0 => fun _ _ _ _ r h => by simp [a_s.l0] at h
 | k + 1 => by
  have ih0:=a_s.c_w k
  ·intro y0 y1 y2 y3
   unfold a_s.l0
   repeat' first
   | (with_reducible exact ih0 _ _ _ _)
   | (with_reducible exact LeO.refl _)
   | (with_reducible exact LeO.none _)
   | (with_reducible refine LeO.ite ?_ ?_)
   | (with_reducible refine LeO.bind ?_ (fun _ => ?_))
   | exact ih0 _ _ _ _
   | exact LeO.none _
   | refine LeO.ite ?_ ?_
   | refine LeO.bind ?_ (fun _ => ?_)
theorem a_s.mono : ∀ a0 k,LeO (a_s.f k a0) (a_s.f (k + 1) a0):=by
 intro a0 k
 have ih0:=a_s.c_w k
 unfold a_s.f
 repeat' first
  | (with_reducible exact ih0 _ _ _ _)
  | (with_reducible exact LeO.refl _)
  | (with_reducible exact LeO.none _)
  | (with_reducible refine LeO.ite ?_ ?_)
  | (with_reducible refine LeO.bind ?_ (fun _ => ?_))
  | exact ih0 _ _ _ _
  | exact LeO.none _
  | refine LeO.ite ?_ ?_
  | refine LeO.bind ?_ (fun _ => ?_)
set_option maxHeartbeats 8000000 in
set_option maxRecDepth 100000 in
theorem a_s.calls (k : Nat) (A0_0 : Option Addr) (c0_0 : Nat) (l0_0 : List (S56)) (r : Bool) (w : World) (hr0_0 : Kd.C k56 w A0_0 l0_0.length l0_0) (hc0_0 : l0_0.length ≤ c0_0) (h : a_s.f k l0_0 = some r) :
 Calls Tryd.prog 16 #[.agg #[.slice A0_0 l0_0.length c0_0]] w fun e w' => e = .returned (.bool r) ∧ Below w.heap.size w w':=by
 have hu24:=Tryd.underlying24
 have hu56:=Tryd.underlying56
 have b_l:=a_b.mk hr0_0
 have c_h:=a_b.mk hc0_0
 clear hr0_0 hc0_0
 have HB:=a_b.mk (Below.refl w.heap.size w)
 have H : (a_s.l0 k l0_0 (l0_0.length : Int) 0 l0_0) = some r:=h
 clear h
 have H':=a_b.mk H
 clear H
 go_enter Tryd.func16,Tryd.ntmps16
 go_wp2_with (first|((with_reducible refine a_J (N:=1) rfl ?_);(try (refine b_s (by rfl) ?_;dsimp only));refine a_F ?hg (N:=1) ?hd (cs:=#[.slice A0_0 l0_0.length c0_0]) (t:=24) ?hr ?_;(case hd => rfl);(case hg => rfl);(case hr => first|(go_simp;done)|(go_simp;rfl));intro d_x hg w2 hbox hb;have c_E:=a_b.mk (hbox);have q_5:=a_b.mk ((by rw [hg];exact (a_i (lup_ HB.out)) : w.heap.size ≤ d_x));have c_X:=a_b.mk ((by rw [hg];exact (a_i (lup_ HB.out)) : w.heap.size ≤ d_x));replace HB:=a_b.mk (a_l (lup_ HB.out) hb);clear hb hbox hg;have k_f : w2.cell? ⟨d_x,0,none⟩ = some (.slice A0_0 l0_0.length c0_0):=(a_k c_E.out 0).trans rfl;have k_i:=a_g c_E.out 0))
 go_loopg [8] k (fun kq v8 w' => ∃ (x8_1 : Int),v8 = .int .i64 x8_1 ∧ a_b (a_s.l0 kq l0_0 (l0_0.length : Int) x8_1 l0_0 = some r) ∧ a_b (kq ≤ k) ∧ a_b (w'.heap[d_x]? = some (.cells #[(.slice A0_0 l0_0.length c0_0)] 24 (0,0))) ∧ a_b (Below w.heap.size w w'))
 case atStart => exact ⟨(0),(by first|rfl|(simp;done)|(simp [*];done)),H',⟨Nat.le_refl _⟩,⟨by (with_reducible repeat (first|refine a_o ?_ _|refine a_q ?_|refine a_n ?_ _));exact c_E.out⟩,⟨by repeat (first|(with_reducible first|exact HB.out|apply a_d|apply a_c|apply a_e|refine a_a ?_ c_X.out)|exact HB.out)⟩⟩
 case round =>
  clear H'
  try clear c1
  try clear p2
  try clear k_f
  try clear k_i
  obtain ⟨x8_1,rfl,HA,HK1,c_E,HB⟩:=hrel
  cases gk with
  | zero => exact absurd HA.out (by simp [a_s.l0])
  | succ k1 =>
   have H:=HA.out
   clear HA
   simp only [a_s.l0] at H
   by_cases c4 : x8_1 < (l0_0.length : Int)
   rotate_left
   ·rw [if_neg c4] at H
    have c4b0 : decide (x8_1 < (l0_0.length : Int)) = false:=decide_eq_false c4
    clear c4
    by_cases c26 : (l0_0.length : Int) ≥ 1
    ·rw [if_pos c26] at H
     have c26b0 : decide (1 ≤ (l0_0.length : Int)) = true:=decide_eq_true c26
     have c26b1 : decide (1 ≤ l0_0.length) = true:=decide_eq_true (by omega)
     clear c26
     obtain rfl:=Option.some.inj H
     have j_q : wr.cell? ⟨d_x,0,none⟩ = some (.slice A0_0 l0_0.length c0_0):=(a_k c_E.out 0).trans rfl
     have j_A:=a_g c_E.out 0
     go_wp2
     go_ret
     exact ⟨by first|rfl|(simp [a_t,a_u] <;> rfl)|(simp [*, a_t,a_u] <;> rfl),by repeat (first|(with_reducible first|exact HB.out|apply a_d|apply a_c|apply a_e|refine a_a ?_ c_X.out)|exact HB.out)⟩
    rw [if_neg c26] at H
    have c26b0 : decide (1 ≤ (l0_0.length : Int)) = false:=decide_eq_false c26
    have c26b1 : decide (1 ≤ l0_0.length) = false:=decide_eq_false (by omega)
    clear c26
    obtain rfl:=Option.some.inj H
    have f_T : wr.cell? ⟨d_x,0,none⟩ = some (.slice A0_0 l0_0.length c0_0):=(a_k c_E.out 0).trans rfl
    have g_h:=a_g c_E.out 0
    go_wp2
    go_ret
    exact ⟨by first|rfl|(simp [a_t,a_u] <;> rfl)|(simp [*, a_t,a_u] <;> rfl),by repeat (first|(with_reducible first|exact HB.out|apply a_d|apply a_c|apply a_e|refine a_a ?_ c_X.out)|exact HB.out)⟩
   rw [if_pos c4] at H
   have c4b0 : decide (x8_1 < (l0_0.length : Int)) = true:=decide_eq_true c4
   clear c4
   by_cases c5 : 0 ≤ x8_1
   rotate_left
   ·rw [if_neg c5] at H
    exact absurd H (by simp)
   rw [if_pos c5] at H
   have c5b0 : decide (0 ≤ x8_1) = true:=decide_eq_true c5
   clear c5
   by_cases c6 : x8_1 < (l0_0.length : Int)
   rotate_left
   ·rw [if_neg c6] at H
    exact absurd H (by simp)
   rw [if_pos c6] at H
   have c6b0 : decide (x8_1 < (l0_0.length : Int)) = true:=decide_eq_true c6
   clear c6
   by_cases c7 : ((a_x l0_0 x8_1).f0) < 0
   ·rw [if_pos c7] at H
    have c7b0 : decide (((a_x l0_0 x8_1).f0) < 0) = true:=decide_eq_true c7
    clear c7
    obtain rfl:=Option.some.inj H
    have p229 : 0 ≤ (x8_1 : Int):=of_decide_eq_true (by first|(with_reducible assumption)|assumption)
    have q229 : x8_1 < (l0_0.length : Int):=of_decide_eq_true (by first|(with_reducible assumption)|assumption)
    obtain ⟨ad229,e229,c_f,c_g⟩:=b_r b_l.out x8_1 p229 q229
    cases e229
    replace c_f:=(HB.out.cell (World.block_lt_of_cell? w _ c_f)).trans c_f
    replace c_g:=(HB.out.cell (World.block_lt_of_cell? w _ c_g)).trans c_g
    replace p229:=eq_true p229
    replace q229:=eq_true q229
    go_wp2_with (first|((with_reducible refine a_J (N:=4) rfl ?_);(try (refine b_s (by rfl) ?_;dsimp only));refine a_F ?hg (N:=4) ?hd (cs:=#[.int .i64 0,.int .i64 0]) (t:=56) ?hr ?_;(case hd => rfl);(case hg => rfl);(case hr => first|(go_simp;done)|(go_simp;rfl));intro c_A hg w8 hbox hb;have c_Q:=a_b.mk (hbox);have i_u:=a_b.mk ((by rw [hg];exact (a_i (by repeat (first|(with_reducible first|exact HB.out|apply a_d|apply a_c|apply a_e|refine a_a ?_ c_X.out)|exact HB.out))) : w.heap.size ≤ c_A));have e_V:=a_b.mk ((by rw [hg];exact (a_i (by repeat (first|(with_reducible first|exact HB.out|apply a_d|apply a_c|apply a_e|refine a_a ?_ c_X.out)|exact HB.out))) : w.heap.size ≤ c_A));have c_v:=a_b.mk ((by rw [hg];exact Nat.ne_of_lt (a_M (bup_ c_E.out)) : d_x ≠ c_A));have c_H:=a_b.mk ((by rw [hg];exact Nat.ne_of_gt (a_M (bup_ c_E.out)) : c_A ≠ d_x));replace c_E:=a_b.mk (a_h (bup_ c_E.out) hb);replace HB:=a_b.mk (a_l (by repeat (first|(with_reducible first|exact HB.out|apply a_d|apply a_c|apply a_e|refine a_a ?_ c_X.out)|exact HB.out)) hb);clear hb hbox hg;have hnb9:=c_H.out;have hnc9:=c_v.out;have j_l : w8.cell? ⟨c_A,0,none⟩ = some (.int .i64 0):=(a_k c_Q.out 0).trans rfl;have j_m : w8.cell? ⟨c_A,1,none⟩ = some (.int .i64 0):=(a_k c_Q.out 1).trans rfl;have j_v:=a_g c_Q.out 0;have j_w:=a_g c_Q.out 1))
    go_ret
    exact ⟨by first|rfl|(simp [a_t,a_u] <;> rfl)|(simp [*, a_t,a_u] <;> rfl),by repeat (first|(with_reducible first|exact HB.out|apply a_d|apply a_c|apply a_e|refine a_a ?_ c_X.out|refine a_a ?_ e_V.out)|exact HB.out)⟩
   rw [if_neg c7] at H
   have c7b0 : decide (((a_x l0_0 x8_1).f0) < 0) = false:=decide_eq_false c7
   clear c7
   by_cases c11 : ((a_x l0_0 x8_1).f0) ≥ 4
   ·rw [if_pos c11] at H
    have c11b0 : decide (4 ≤ ((a_x l0_0 x8_1).f0)) = true:=decide_eq_true c11
    clear c11
    obtain rfl:=Option.some.inj H
    have p229 : 0 ≤ (x8_1 : Int):=of_decide_eq_true (by first|(with_reducible assumption)|assumption)
    have q229 : x8_1 < (l0_0.length : Int):=of_decide_eq_true (by first|(with_reducible assumption)|assumption)
    obtain ⟨ad229,e229,c_f,c_g⟩:=b_r b_l.out x8_1 p229 q229
    cases e229
    replace c_f:=(HB.out.cell (World.block_lt_of_cell? w _ c_f)).trans c_f
    replace c_g:=(HB.out.cell (World.block_lt_of_cell? w _ c_g)).trans c_g
    replace p229:=eq_true p229
    replace q229:=eq_true q229
    go_wp2_with (first|((with_reducible refine a_J (N:=4) rfl ?_);(try (refine b_s (by rfl) ?_;dsimp only));refine a_F ?hg (N:=4) ?hd (cs:=#[.int .i64 0,.int .i64 0]) (t:=56) ?hr ?_;(case hd => rfl);(case hg => rfl);(case hr => first|(go_simp;done)|(go_simp;rfl));intro c_A hg w12 hbox hb;have c_Q:=a_b.mk (hbox);have i_u:=a_b.mk ((by rw [hg];exact (a_i (by repeat (first|(with_reducible first|exact HB.out|apply a_d|apply a_c|apply a_e|refine a_a ?_ c_X.out)|exact HB.out))) : w.heap.size ≤ c_A));have e_V:=a_b.mk ((by rw [hg];exact (a_i (by repeat (first|(with_reducible first|exact HB.out|apply a_d|apply a_c|apply a_e|refine a_a ?_ c_X.out)|exact HB.out))) : w.heap.size ≤ c_A));have c_v:=a_b.mk ((by rw [hg];exact Nat.ne_of_lt (a_M (bup_ c_E.out)) : d_x ≠ c_A));have c_H:=a_b.mk ((by rw [hg];exact Nat.ne_of_gt (a_M (bup_ c_E.out)) : c_A ≠ d_x));replace c_E:=a_b.mk (a_h (bup_ c_E.out) hb);replace HB:=a_b.mk (a_l (by repeat (first|(with_reducible first|exact HB.out|apply a_d|apply a_c|apply a_e|refine a_a ?_ c_X.out)|exact HB.out)) hb);clear hb hbox hg;have r_i:=c_H.out;have r_R:=c_v.out;have h_F : w12.cell? ⟨c_A,0,none⟩ = some (.int .i64 0):=(a_k c_Q.out 0).trans rfl;have n_q : w12.cell? ⟨c_A,1,none⟩ = some (.int .i64 0):=(a_k c_Q.out 1).trans rfl;have h_N:=a_g c_Q.out 0;have n_M:=a_g c_Q.out 1))
    go_ret
    exact ⟨by first|rfl|(simp [a_t,a_u] <;> rfl)|(simp [*, a_t,a_u] <;> rfl),by repeat (first|(with_reducible first|exact HB.out|apply a_d|apply a_c|apply a_e|refine a_a ?_ c_X.out|refine a_a ?_ e_V.out)|exact HB.out)⟩
   rw [if_neg c11] at H
   have c11b0 : decide (4 ≤ ((a_x l0_0 x8_1).f0)) = false:=decide_eq_false c11
   clear c11
   by_cases c15 : ((a_x l0_0 x8_1).f1) < 0
   ·rw [if_pos c15] at H
    have c15b0 : decide (((a_x l0_0 x8_1).f1) < 0) = true:=decide_eq_true c15
    clear c15
    obtain rfl:=Option.some.inj H
    have p229 : 0 ≤ (x8_1 : Int):=of_decide_eq_true (by first|(with_reducible assumption)|assumption)
    have q229 : x8_1 < (l0_0.length : Int):=of_decide_eq_true (by first|(with_reducible assumption)|assumption)
    obtain ⟨ad229,e229,c_f,c_g⟩:=b_r b_l.out x8_1 p229 q229
    cases e229
    replace c_f:=(HB.out.cell (World.block_lt_of_cell? w _ c_f)).trans c_f
    replace c_g:=(HB.out.cell (World.block_lt_of_cell? w _ c_g)).trans c_g
    replace p229:=eq_true p229
    replace q229:=eq_true q229
    go_wp2_with (first|((with_reducible refine a_J (N:=4) rfl ?_);(try (refine b_s (by rfl) ?_;dsimp only));refine a_F ?hg (N:=4) ?hd (cs:=#[.int .i64 0,.int .i64 0]) (t:=56) ?hr ?_;(case hd => rfl);(case hg => rfl);(case hr => first|(go_simp;done)|(go_simp;rfl));intro c_A hg w16 hbox hb;have c_Q:=a_b.mk (hbox);have i_u:=a_b.mk ((by rw [hg];exact (a_i (by repeat (first|(with_reducible first|exact HB.out|apply a_d|apply a_c|apply a_e|refine a_a ?_ c_X.out)|exact HB.out))) : w.heap.size ≤ c_A));have e_V:=a_b.mk ((by rw [hg];exact (a_i (by repeat (first|(with_reducible first|exact HB.out|apply a_d|apply a_c|apply a_e|refine a_a ?_ c_X.out)|exact HB.out))) : w.heap.size ≤ c_A));have c_v:=a_b.mk ((by rw [hg];exact Nat.ne_of_lt (a_M (bup_ c_E.out)) : d_x ≠ c_A));have c_H:=a_b.mk ((by rw [hg];exact Nat.ne_of_gt (a_M (bup_ c_E.out)) : c_A ≠ d_x));replace c_E:=a_b.mk (a_h (bup_ c_E.out) hb);replace HB:=a_b.mk (a_l (by repeat (first|(with_reducible first|exact HB.out|apply a_d|apply a_c|apply a_e|refine a_a ?_ c_X.out)|exact HB.out)) hb);clear hb hbox hg;have n_8:=c_H.out;have o_e:=c_v.out;have h_G : w16.cell? ⟨c_A,0,none⟩ = some (.int .i64 0):=(a_k c_Q.out 0).trans rfl;have n_r : w16.cell? ⟨c_A,1,none⟩ = some (.int .i64 0):=(a_k c_Q.out 1).trans rfl;have h_O:=a_g c_Q.out 0;have n_N:=a_g c_Q.out 1))
    go_ret
    exact ⟨by first|rfl|(simp [a_t,a_u] <;> rfl)|(simp [*, a_t,a_u] <;> rfl),by repeat (first|(with_reducible first|exact HB.out|apply a_d|apply a_c|apply a_e|refine a_a ?_ c_X.out|refine a_a ?_ e_V.out)|exact HB.out)⟩
   rw [if_neg c15] at H
   have c15b0 : decide (((a_x l0_0 x8_1).f1) < 0) = false:=decide_eq_false c15
   clear c15
   by_cases c19 : ((a_x l0_0 x8_1).f1) ≥ 8
   ·rw [if_pos c19] at H
    have c19b0 : decide (8 ≤ ((a_x l0_0 x8_1).f1)) = true:=decide_eq_true c19
    clear c19
    obtain rfl:=Option.some.inj H
    have p229 : 0 ≤ (x8_1 : Int):=of_decide_eq_true (by first|(with_reducible assumption)|assumption)
    have q229 : x8_1 < (l0_0.length : Int):=of_decide_eq_true (by first|(with_reducible assumption)|assumption)
    obtain ⟨ad229,e229,c_f,c_g⟩:=b_r b_l.out x8_1 p229 q229
    cases e229
    replace c_f:=(HB.out.cell (World.block_lt_of_cell? w _ c_f)).trans c_f
    replace c_g:=(HB.out.cell (World.block_lt_of_cell? w _ c_g)).trans c_g
    replace p229:=eq_true p229
    replace q229:=eq_true q229
    go_wp2_with (first|((with_reducible refine a_J (N:=4) rfl ?_);(try (refine b_s (by rfl) ?_;dsimp only));refine a_F ?hg (N:=4) ?hd (cs:=#[.int .i64 0,.int .i64 0]) (t:=56) ?hr ?_;(case hd => rfl);(case hg => rfl);(case hr => first|(go_simp;done)|(go_simp;rfl));intro c_A hg w20 hbox hb;have c_Q:=a_b.mk (hbox);have i_u:=a_b.mk ((by rw [hg];exact (a_i (by repeat (first|(with_reducible first|exact HB.out|apply a_d|apply a_c|apply a_e|refine a_a ?_ c_X.out)|exact HB.out))) : w.heap.size ≤ c_A));have e_V:=a_b.mk ((by rw [hg];exact (a_i (by repeat (first|(with_reducible first|exact HB.out|apply a_d|apply a_c|apply a_e|refine a_a ?_ c_X.out)|exact HB.out))) : w.heap.size ≤ c_A));have c_v:=a_b.mk ((by rw [hg];exact Nat.ne_of_lt (a_M (bup_ c_E.out)) : d_x ≠ c_A));have c_H:=a_b.mk ((by rw [hg];exact Nat.ne_of_gt (a_M (bup_ c_E.out)) : c_A ≠ d_x));replace c_E:=a_b.mk (a_h (bup_ c_E.out) hb);replace HB:=a_b.mk (a_l (by repeat (first|(with_reducible first|exact HB.out|apply a_d|apply a_c|apply a_e|refine a_a ?_ c_X.out)|exact HB.out)) hb);clear hb hbox hg;have k_m:=c_H.out;have k_n:=c_v.out;have h_I : w20.cell? ⟨c_A,0,none⟩ = some (.int .i64 0):=(a_k c_Q.out 0).trans rfl;have h_J : w20.cell? ⟨c_A,1,none⟩ = some (.int .i64 0):=(a_k c_Q.out 1).trans rfl;have h_Q:=a_g c_Q.out 0;have h_R:=a_g c_Q.out 1))
    go_ret
    exact ⟨by first|rfl|(simp [a_t,a_u] <;> rfl)|(simp [*, a_t,a_u] <;> rfl),by repeat (first|(with_reducible first|exact HB.out|apply a_d|apply a_c|apply a_e|refine a_a ?_ c_X.out|refine a_a ?_ e_V.out)|exact HB.out)⟩
   rw [if_neg c19] at H
   have c19b0 : decide (8 ≤ ((a_x l0_0 x8_1).f1)) = false:=decide_eq_false c19
   clear c19
   have H':=a_b.mk H
   clear H
   have p229 : 0 ≤ (x8_1 : Int):=of_decide_eq_true (by first|(with_reducible assumption)|assumption)
   have q229 : x8_1 < (l0_0.length : Int):=of_decide_eq_true (by first|(with_reducible assumption)|assumption)
   obtain ⟨ad229,e229,c_f,c_g⟩:=b_r b_l.out x8_1 p229 q229
   cases e229
   replace c_f:=(HB.out.cell (World.block_lt_of_cell? w _ c_f)).trans c_f
   replace c_g:=(HB.out.cell (World.block_lt_of_cell? w _ c_g)).trans c_g
   replace p229:=eq_true p229
   replace q229:=eq_true q229
   go_wp2_with (first|((with_reducible refine a_J (N:=4) rfl ?_);(try (refine b_s (by rfl) ?_;dsimp only));refine a_F ?hg (N:=4) ?hd (cs:=#[.int .i64 0,.int .i64 0]) (t:=56) ?hr ?_;(case hd => rfl);(case hg => rfl);(case hr => first|(go_simp;done)|(go_simp;rfl));intro c_A hg w23 hbox hb;have c_Q:=a_b.mk (hbox);have i_u:=a_b.mk ((by rw [hg];exact (a_i (by repeat (first|(with_reducible first|exact HB.out|apply a_d|apply a_c|apply a_e|refine a_a ?_ c_X.out)|exact HB.out))) : w.heap.size ≤ c_A));have e_V:=a_b.mk ((by rw [hg];exact (a_i (by repeat (first|(with_reducible first|exact HB.out|apply a_d|apply a_c|apply a_e|refine a_a ?_ c_X.out)|exact HB.out))) : w.heap.size ≤ c_A));have c_v:=a_b.mk ((by rw [hg];exact Nat.ne_of_lt (a_M (bup_ c_E.out)) : d_x ≠ c_A));have c_H:=a_b.mk ((by rw [hg];exact Nat.ne_of_gt (a_M (bup_ c_E.out)) : c_A ≠ d_x));replace c_E:=a_b.mk (a_h (bup_ c_E.out) hb);replace HB:=a_b.mk (a_l (by repeat (first|(with_reducible first|exact HB.out|apply a_d|apply a_c|apply a_e|refine a_a ?_ c_X.out)|exact HB.out)) hb);clear hb hbox hg;have r_l:=c_H.out;have r_U:=c_v.out;have h_L : w23.cell? ⟨c_A,0,none⟩ = some (.int .i64 0):=(a_k c_Q.out 0).trans rfl;have n_u : w23.cell? ⟨c_A,1,none⟩ = some (.int .i64 0):=(a_k c_Q.out 1).trans rfl;have h_T:=a_g c_Q.out 0;have n_Q:=a_g c_Q.out 1))
   go_roundg k1
   case measure => have:=HK1.out;omega
   case rel => exact ⟨(wrap64 (x8_1 + 1)),(by first|rfl|(simp;done)|(simp [*];done)),H',⟨by have:=HK1.out;omega⟩,⟨by (with_reducible repeat (first|refine a_o ?_ _|refine a_q ?_|refine a_n ?_ _));refine b_u ?_ c_v.out _;(with_reducible repeat (first|refine a_o ?_ _|refine a_q ?_|refine a_n ?_ _));refine b_u ?_ c_v.out _;(with_reducible repeat (first|refine a_o ?_ _|refine a_q ?_|refine a_n ?_ _));exact c_E.out⟩,⟨by repeat (first|(with_reducible first|exact HB.out|apply a_d|apply a_c|apply a_e|refine a_a ?_ c_X.out|refine a_a ?_ e_V.out)|exact HB.out)⟩⟩
end Go.Proofs.YtcpfcehfgenljaaDoor.Q
end
section
namespace Go.Proofs.YtcpfcehfgenljaaDoor.Q
open Go.RowKit Go.Proofs.YtcpfcehfgenljaaDoorW.PrintWords Go.Proofs.YtcpfcehfgenljaaDoorW.PrintLast Go.Proofs.YtcpfcehfgenljaaDoorW.PrintMore
set_option linter.unusedVariables false
set_option linter.unusedSimpArgs false
def a_C.f (l0_0 : List (S56)) (a1 : Int) : Option (Bool):=if a1 ≥ 0 then (some (decide (a1 < (l0_0.length : Int)))) else (some false)
set_option maxHeartbeats 8000000 in
set_option maxRecDepth 100000 in
theorem a_C.calls (A0_0 : Option Addr) (c0_0 : Nat) (l0_0 : List (S56)) (a1 : Int) (r : Bool) (w : World) (hr0_0 : Kd.C k56 w A0_0 l0_0.length l0_0) (hc0_0 : l0_0.length ≤ c0_0) (h : a_C.f l0_0 a1 = some r) :
 Calls Tryd.prog 18 #[.agg #[.slice A0_0 l0_0.length c0_0],.int .i64 a1] w fun e w' => e = .returned (.bool r) ∧ Below w.heap.size w w':=by
 have hu24:=Tryd.underlying24
 have b_l:=a_b.mk hr0_0
 have c_h:=a_b.mk hc0_0
 clear hr0_0 hc0_0
 have HB:=a_b.mk (Below.refl w.heap.size w)
 have H : (if a1 ≥ 0 then (some (decide (a1 < (l0_0.length : Int)))) else (some false)) = some r:=h
 clear h
 by_cases c3 : a1 ≥ 0
 ·rw [if_pos c3] at H
  have c3b0 : decide (0 ≤ a1) = true:=decide_eq_true c3
  clear c3
  obtain rfl:=Option.some.inj H
  go_enter Tryd.func18,Tryd.ntmps18
  go_wp2_with (first|((with_reducible refine a_J (N:=2) rfl ?_);(try (refine b_s (by rfl) ?_;dsimp only));refine a_F ?hg (N:=2) ?hd (cs:=#[.slice A0_0 l0_0.length c0_0]) (t:=24) ?hr ?_;(case hd => rfl);(case hg => rfl);(case hr => first|(go_simp;done)|(go_simp;rfl));intro g_9 hg w4 hbox hb;have i_1:=a_b.mk (hbox);have m_1:=a_b.mk ((by rw [hg];exact (a_i (lup_ HB.out)) : w.heap.size ≤ g_9));have i_5:=a_b.mk ((by rw [hg];exact (a_i (lup_ HB.out)) : w.heap.size ≤ g_9));replace HB:=a_b.mk (a_l (lup_ HB.out) hb);clear hb hbox hg;have k_g : w4.cell? ⟨g_9,0,none⟩ = some (.slice A0_0 l0_0.length c0_0):=(a_k i_1.out 0).trans rfl;have k_j:=a_g i_1.out 0))
  go_ret
  exact ⟨by first|rfl|(simp [a_t,a_u] <;> rfl)|(simp [*, a_t,a_u] <;> rfl),by repeat (first|(with_reducible first|exact HB.out|apply a_d|apply a_c|apply a_e|refine a_a ?_ i_5.out)|exact HB.out)⟩
 rw [if_neg c3] at H
 have c3b0 : decide (0 ≤ a1) = false:=decide_eq_false c3
 clear c3
 obtain rfl:=Option.some.inj H
 go_enter Tryd.func18,Tryd.ntmps18
 go_wp2_with (first|((with_reducible refine a_J (N:=2) rfl ?_);(try (refine b_s (by rfl) ?_;dsimp only));refine a_F ?hg (N:=2) ?hd (cs:=#[.slice A0_0 l0_0.length c0_0]) (t:=24) ?hr ?_;(case hd => rfl);(case hg => rfl);(case hr => first|(go_simp;done)|(go_simp;rfl));intro g_9 hg w6 hbox hb;have i_1:=a_b.mk (hbox);have m_1:=a_b.mk ((by rw [hg];exact (a_i (lup_ HB.out)) : w.heap.size ≤ g_9));have i_5:=a_b.mk ((by rw [hg];exact (a_i (lup_ HB.out)) : w.heap.size ≤ g_9));replace HB:=a_b.mk (a_l (lup_ HB.out) hb);clear hb hbox hg))
 go_ret
 exact ⟨by first|rfl|(simp [a_t,a_u] <;> rfl)|(simp [*, a_t,a_u] <;> rfl),by repeat (first|(with_reducible first|exact HB.out|apply a_d|apply a_c|apply a_e|refine a_a ?_ i_5.out)|exact HB.out)⟩
end Go.Proofs.YtcpfcehfgenljaaDoor.Q
end
section
namespace Go.Proofs.YtcpfcehfgenljaaDoor.Q
open Go.RowKit Go.Proofs.YtcpfcehfgenljaaDoorW.PrintWords Go.Proofs.YtcpfcehfgenljaaDoorW.PrintLast Go.Proofs.YtcpfcehfgenljaaDoorW.PrintMore
set_option linter.unusedVariables false
set_option linter.unusedSimpArgs false
attribute [local go_sem high] j_h
def a_S.f (l0_0 : List (S56)) (a1 : Int) (a2 : Int) : Option (Int):=if a1 = a2 then (some 0) else (if 0 ≤ a1 then (if a1 < (l0_0.length : Int) then (if 0 ≤ a2 then (if a2 < (l0_0.length : Int) then (if (((a_x l0_0 a1).f0) == ((a_x l0_0 a2).f0) && (((a_x l0_0 a1).f1) == ((a_x l0_0 a2).f1))) = true then (some 1) else (if ((a_x l0_0 a1).f0) = ((a_x l0_0 a2).f0) then (some 2) else (some 3))) else (none)) else (none)) else (none)) else (none))
set_option maxHeartbeats 8000000 in
set_option maxRecDepth 100000 in
theorem a_S.calls (A0_0 : Option Addr) (c0_0 : Nat) (l0_0 : List (S56)) (a1 : Int) (a2 : Int) (r : Int) (w : World) (hr0_0 : Kd.C k56 w A0_0 l0_0.length l0_0) (hc0_0 : l0_0.length ≤ c0_0) (h : a_S.f l0_0 a1 a2 = some r) :
 Calls Tryd.prog 19 #[.agg #[.slice A0_0 l0_0.length c0_0],.int .i64 a1,.int .i64 a2] w fun e w' => e = .returned (.int .i64 r) ∧ Below w.heap.size w w':=by
 have hu24:=Tryd.underlying24
 have hu56:=Tryd.underlying56
 have b_l:=a_b.mk hr0_0
 have c_h:=a_b.mk hc0_0
 clear hr0_0 hc0_0
 have HB:=a_b.mk (Below.refl w.heap.size w)
 have H : (if a1 = a2 then (some 0) else (if 0 ≤ a1 then (if a1 < (l0_0.length : Int) then (if 0 ≤ a2 then (if a2 < (l0_0.length : Int) then (if (((a_x l0_0 a1).f0) == ((a_x l0_0 a2).f0) && (((a_x l0_0 a1).f1) == ((a_x l0_0 a2).f1))) = true then (some 1) else (if ((a_x l0_0 a1).f0) = ((a_x l0_0 a2).f0) then (some 2) else (some 3))) else (none)) else (none)) else (none)) else (none))) = some r:=h
 clear h
 by_cases c4 : a1 = a2
 ·rw [if_pos c4] at H
  have c4b0 : (a1 == a2) = true:=beq_iff_eq.mpr c4
  have c4b1 : (a1 != a2) = false:=bne_eq_false_iff_eq.mpr c4
  clear c4
  obtain rfl:=Option.some.inj H
  go_enter Tryd.func19,Tryd.ntmps19
  go_wp2_with (first|((with_reducible refine a_J (N:=3) rfl ?_);refine a_F ?hg (N:=3) ?hd (cs:=#[.slice A0_0 l0_0.length c0_0]) (t:=24) ?hr ?_;(case hd => rfl);(case hg => rfl);(case hr => first|(go_simp;done)|(go_simp;rfl));intro b_1 hg w5 hbox hb;have c_r:=a_b.mk (hbox);have d_P:=a_b.mk ((by rw [hg];exact (a_i (lup_ HB.out)) : w.heap.size ≤ b_1));have d_i:=a_b.mk ((by rw [hg];exact (a_i (lup_ HB.out)) : w.heap.size ≤ b_1));replace HB:=a_b.mk (a_l (lup_ HB.out) hb);clear hb hbox hg))
  repeat (go_quiet (first|((with_reducible refine a_J (N:=3) rfl ?_);refine a_F ?hg (N:=3) ?hd (cs:=#[.slice A0_0 l0_0.length c0_0]) (t:=24) ?hr ?_;(case hd => rfl);(case hg => rfl);(case hr => first|(go_simp;done)|(go_simp;rfl));intro b_1 hg w5 hbox hb;have c_r:=a_b.mk (hbox);have d_P:=a_b.mk ((by rw [hg];exact (a_i (lup_ HB.out)) : w.heap.size ≤ b_1));have d_i:=a_b.mk ((by rw [hg];exact (a_i (lup_ HB.out)) : w.heap.size ≤ b_1));replace HB:=a_b.mk (a_l (lup_ HB.out) hb);clear hb hbox hg));try go_wp2_with (first|((with_reducible refine a_J (N:=3) rfl ?_);refine a_F ?hg (N:=3) ?hd (cs:=#[.slice A0_0 l0_0.length c0_0]) (t:=24) ?hr ?_;(case hd => rfl);(case hg => rfl);(case hr => first|(go_simp;done)|(go_simp;rfl));intro b_1 hg w5 hbox hb;have c_r:=a_b.mk (hbox);have d_P:=a_b.mk ((by rw [hg];exact (a_i (lup_ HB.out)) : w.heap.size ≤ b_1));have d_i:=a_b.mk ((by rw [hg];exact (a_i (lup_ HB.out)) : w.heap.size ≤ b_1));replace HB:=a_b.mk (a_l (lup_ HB.out) hb);clear hb hbox hg)))
  go_ret
  exact ⟨by first|rfl|(simp [a_t,a_u] <;> rfl)|(simp [*, a_t,a_u] <;> rfl),by repeat (first|(with_reducible first|exact HB.out|apply a_d|apply a_c|apply a_e|refine a_a ?_ d_i.out)|exact HB.out)⟩
 rw [if_neg c4] at H
 have c4b0 : (a1 == a2) = false:=beq_eq_false_iff_ne.mpr c4
 have c4b1 : (a1 != a2) = true:=bne_iff_ne.mpr c4
 by_cases c6 : 0 ≤ a1
 rotate_left
 ·rw [if_neg c6] at H
  exact absurd H (by simp)
 rw [if_pos c6] at H
 have c6b0 : decide (0 ≤ a1) = true:=decide_eq_true c6
 clear c6
 by_cases c7 : a1 < (l0_0.length : Int)
 rotate_left
 ·rw [if_neg c7] at H
  exact absurd H (by simp)
 rw [if_pos c7] at H
 have c7b0 : decide (a1 < (l0_0.length : Int)) = true:=decide_eq_true c7
 clear c7
 by_cases c8 : 0 ≤ a2
 rotate_left
 ·rw [if_neg c8] at H
  exact absurd H (by simp)
 rw [if_pos c8] at H
 have c8b0 : decide (0 ≤ a2) = true:=decide_eq_true c8
 clear c8
 by_cases c9 : a2 < (l0_0.length : Int)
 rotate_left
 ·rw [if_neg c9] at H
  exact absurd H (by simp)
 rw [if_pos c9] at H
 have c9b0 : decide (a2 < (l0_0.length : Int)) = true:=decide_eq_true c9
 clear c9
 by_cases c10 : (((a_x l0_0 a1).f0) == ((a_x l0_0 a2).f0) && (((a_x l0_0 a1).f1) == ((a_x l0_0 a2).f1))) = true
 ·rw [if_pos c10] at H
  have c10b0 : (((a_x l0_0 a1).f0) == ((a_x l0_0 a2).f0) && (((a_x l0_0 a1).f1) == ((a_x l0_0 a2).f1))) = true:=c10
  (try (have c10b1 : decide (((a_x l0_0 a1).f0) = ((a_x l0_0 a2).f0) && (((a_x l0_0 a1).f1) == ((a_x l0_0 a2).f1))) = true:=by simpa using c10))
  (try (have c10b2 : (((a_x l0_0 a1).f0) == ((a_x l0_0 a2).f0) && (((a_x l0_0 a1).f1) == ((a_x l0_0 a2).f1))) = true:=by simpa using c10))
  clear c10
  obtain rfl:=Option.some.inj H
  go_enter Tryd.func19,Tryd.ntmps19
  go_wp2_with (first|((with_reducible refine a_J (N:=3) rfl ?_);refine a_F ?hg (N:=3) ?hd (cs:=#[.slice A0_0 l0_0.length c0_0]) (t:=24) ?hr ?_;(case hd => rfl);(case hg => rfl);(case hr => first|(go_simp;done)|(go_simp;rfl));intro b_1 hg w11 hbox hb;have c_r:=a_b.mk (hbox);have d_P:=a_b.mk ((by rw [hg];exact (a_i (lup_ HB.out)) : w.heap.size ≤ b_1));have d_i:=a_b.mk ((by rw [hg];exact (a_i (lup_ HB.out)) : w.heap.size ≤ b_1));replace HB:=a_b.mk (a_l (lup_ HB.out) hb);clear hb hbox hg;have e_4 : w11.cell? ⟨b_1,0,none⟩ = some (.slice A0_0 l0_0.length c0_0):=(a_k c_r.out 0).trans rfl;have e_9:=a_g c_r.out 0;have p233 : 0 ≤ (a1 : Int):=of_decide_eq_true (by first|(with_reducible assumption)|assumption);have q233 : a1 < (l0_0.length : Int):=of_decide_eq_true (by first|(with_reducible assumption)|assumption);obtain ⟨ad233,e233,b_g,b_h⟩:=b_r b_l.out a1 p233 q233;cases e233;replace b_g:=(HB.out.cell (World.block_lt_of_cell? w _ b_g)).trans b_g;replace b_h:=(HB.out.cell (World.block_lt_of_cell? w _ b_h)).trans b_h;replace p233:=eq_true p233;replace q233:=eq_true q233;have p234 : 0 ≤ (a2 : Int):=of_decide_eq_true (by first|(with_reducible assumption)|assumption);have q234 : a2 < (l0_0.length : Int):=of_decide_eq_true (by first|(with_reducible assumption)|assumption);obtain ⟨ad234,e234,b_i,b_j⟩:=b_r b_l.out a2 p234 q234;obtain rfl : ad233 = ad234:=(by injection e234);replace b_i:=(HB.out.cell (World.block_lt_of_cell? w _ b_i)).trans b_i;replace b_j:=(HB.out.cell (World.block_lt_of_cell? w _ b_j)).trans b_j;replace p234:=eq_true p234;replace q234:=eq_true q234))
  repeat (go_quiet (first|((with_reducible refine a_J (N:=3) rfl ?_);refine a_F ?hg (N:=3) ?hd (cs:=#[.slice A0_0 l0_0.length c0_0]) (t:=24) ?hr ?_;(case hd => rfl);(case hg => rfl);(case hr => first|(go_simp;done)|(go_simp;rfl));intro b_1 hg w11 hbox hb;have c_r:=a_b.mk (hbox);have d_P:=a_b.mk ((by rw [hg];exact (a_i (lup_ HB.out)) : w.heap.size ≤ b_1));have d_i:=a_b.mk ((by rw [hg];exact (a_i (lup_ HB.out)) : w.heap.size ≤ b_1));replace HB:=a_b.mk (a_l (lup_ HB.out) hb);clear hb hbox hg;have e_4 : w11.cell? ⟨b_1,0,none⟩ = some (.slice A0_0 l0_0.length c0_0):=(a_k c_r.out 0).trans rfl;have e_9:=a_g c_r.out 0;have p233 : 0 ≤ (a1 : Int):=of_decide_eq_true (by first|(with_reducible assumption)|assumption);have q233 : a1 < (l0_0.length : Int):=of_decide_eq_true (by first|(with_reducible assumption)|assumption);obtain ⟨ad233,e233,b_g,b_h⟩:=b_r b_l.out a1 p233 q233;cases e233;replace b_g:=(HB.out.cell (World.block_lt_of_cell? w _ b_g)).trans b_g;replace b_h:=(HB.out.cell (World.block_lt_of_cell? w _ b_h)).trans b_h;replace p233:=eq_true p233;replace q233:=eq_true q233;have p234 : 0 ≤ (a2 : Int):=of_decide_eq_true (by first|(with_reducible assumption)|assumption);have q234 : a2 < (l0_0.length : Int):=of_decide_eq_true (by first|(with_reducible assumption)|assumption);obtain ⟨ad234,e234,b_i,b_j⟩:=b_r b_l.out a2 p234 q234;obtain rfl : ad233 = ad234:=(by injection e234);replace b_i:=(HB.out.cell (World.block_lt_of_cell? w _ b_i)).trans b_i;replace b_j:=(HB.out.cell (World.block_lt_of_cell? w _ b_j)).trans b_j;replace p234:=eq_true p234;replace q234:=eq_true q234));try go_wp2_with (first|((with_reducible refine a_J (N:=3) rfl ?_);refine a_F ?hg (N:=3) ?hd (cs:=#[.slice A0_0 l0_0.length c0_0]) (t:=24) ?hr ?_;(case hd => rfl);(case hg => rfl);(case hr => first|(go_simp;done)|(go_simp;rfl));intro b_1 hg w11 hbox hb;have c_r:=a_b.mk (hbox);have d_P:=a_b.mk ((by rw [hg];exact (a_i (lup_ HB.out)) : w.heap.size ≤ b_1));have d_i:=a_b.mk ((by rw [hg];exact (a_i (lup_ HB.out)) : w.heap.size ≤ b_1));replace HB:=a_b.mk (a_l (lup_ HB.out) hb);clear hb hbox hg;have e_4 : w11.cell? ⟨b_1,0,none⟩ = some (.slice A0_0 l0_0.length c0_0):=(a_k c_r.out 0).trans rfl;have e_9:=a_g c_r.out 0;have p233 : 0 ≤ (a1 : Int):=of_decide_eq_true (by first|(with_reducible assumption)|assumption);have q233 : a1 < (l0_0.length : Int):=of_decide_eq_true (by first|(with_reducible assumption)|assumption);obtain ⟨ad233,e233,b_g,b_h⟩:=b_r b_l.out a1 p233 q233;cases e233;replace b_g:=(HB.out.cell (World.block_lt_of_cell? w _ b_g)).trans b_g;replace b_h:=(HB.out.cell (World.block_lt_of_cell? w _ b_h)).trans b_h;replace p233:=eq_true p233;replace q233:=eq_true q233;have p234 : 0 ≤ (a2 : Int):=of_decide_eq_true (by first|(with_reducible assumption)|assumption);have q234 : a2 < (l0_0.length : Int):=of_decide_eq_true (by first|(with_reducible assumption)|assumption);obtain ⟨ad234,e234,b_i,b_j⟩:=b_r b_l.out a2 p234 q234;obtain rfl : ad233 = ad234:=(by injection e234);replace b_i:=(HB.out.cell (World.block_lt_of_cell? w _ b_i)).trans b_i;replace b_j:=(HB.out.cell (World.block_lt_of_cell? w _ b_j)).trans b_j;replace p234:=eq_true p234;replace q234:=eq_true q234)))
  go_ret
  exact ⟨by first|rfl|(simp [a_t,a_u] <;> rfl)|(simp [*, a_t,a_u] <;> rfl),by repeat (first|(with_reducible first|exact HB.out|apply a_d|apply a_c|apply a_e|refine a_a ?_ d_i.out)|exact HB.out)⟩
 rw [if_neg c10] at H
 have c10b0 : (((a_x l0_0 a1).f0) == ((a_x l0_0 a2).f0) && (((a_x l0_0 a1).f1) == ((a_x l0_0 a2).f1))) = false:=by simpa using c10
 (try (have c10b1 : decide (((a_x l0_0 a1).f0) = ((a_x l0_0 a2).f0) && (((a_x l0_0 a1).f1) == ((a_x l0_0 a2).f1))) = false:=by simpa using c10))
 (try (have c10b2 : (((a_x l0_0 a1).f0) == ((a_x l0_0 a2).f0) && (((a_x l0_0 a1).f1) == ((a_x l0_0 a2).f1))) = false:=by simpa using c10))
 (try (have c10b3 : ¬ (((a_x l0_0 a1).f0) = ((a_x l0_0 a2).f0) && (((a_x l0_0 a1).f1) == ((a_x l0_0 a2).f1))):=by simpa using c10))
 clear c10
 by_cases c13 : ((a_x l0_0 a1).f0) = ((a_x l0_0 a2).f0)
 ·rw [if_pos c13] at H
  have c13b0 : (((a_x l0_0 a1).f0) == ((a_x l0_0 a2).f0)) = true:=beq_iff_eq.mpr c13
  have c13b1 : (((a_x l0_0 a1).f0) != ((a_x l0_0 a2).f0)) = false:=bne_eq_false_iff_eq.mpr c13
  clear c13
  obtain rfl:=Option.some.inj H
  go_enter Tryd.func19,Tryd.ntmps19
  go_wp2_with (first|((with_reducible refine a_J (N:=3) rfl ?_);refine a_F ?hg (N:=3) ?hd (cs:=#[.slice A0_0 l0_0.length c0_0]) (t:=24) ?hr ?_;(case hd => rfl);(case hg => rfl);(case hr => first|(go_simp;done)|(go_simp;rfl));intro b_1 hg w14 hbox hb;have c_r:=a_b.mk (hbox);have d_P:=a_b.mk ((by rw [hg];exact (a_i (lup_ HB.out)) : w.heap.size ≤ b_1));have d_i:=a_b.mk ((by rw [hg];exact (a_i (lup_ HB.out)) : w.heap.size ≤ b_1));replace HB:=a_b.mk (a_l (lup_ HB.out) hb);clear hb hbox hg;have d_l : w14.cell? ⟨b_1,0,none⟩ = some (.slice A0_0 l0_0.length c0_0):=(a_k c_r.out 0).trans rfl;have d_o:=a_g c_r.out 0;have p233 : 0 ≤ (a1 : Int):=of_decide_eq_true (by first|(with_reducible assumption)|assumption);have q233 : a1 < (l0_0.length : Int):=of_decide_eq_true (by first|(with_reducible assumption)|assumption);obtain ⟨ad233,e233,b_g,b_h⟩:=b_r b_l.out a1 p233 q233;cases e233;replace b_g:=(HB.out.cell (World.block_lt_of_cell? w _ b_g)).trans b_g;replace b_h:=(HB.out.cell (World.block_lt_of_cell? w _ b_h)).trans b_h;replace p233:=eq_true p233;replace q233:=eq_true q233;have p234 : 0 ≤ (a2 : Int):=of_decide_eq_true (by first|(with_reducible assumption)|assumption);have q234 : a2 < (l0_0.length : Int):=of_decide_eq_true (by first|(with_reducible assumption)|assumption);obtain ⟨ad234,e234,b_i,b_j⟩:=b_r b_l.out a2 p234 q234;obtain rfl : ad233 = ad234:=(by injection e234);replace b_i:=(HB.out.cell (World.block_lt_of_cell? w _ b_i)).trans b_i;replace b_j:=(HB.out.cell (World.block_lt_of_cell? w _ b_j)).trans b_j;replace p234:=eq_true p234;replace q234:=eq_true q234;have p235 : 0 ≤ (a1 : Int):=of_decide_eq_true (by first|(with_reducible assumption)|assumption);have q235 : a1 < (l0_0.length : Int):=of_decide_eq_true (by first|(with_reducible assumption)|assumption);obtain ⟨ad235,e235,b_C,b_D⟩:=b_r b_l.out a1 p235 q235;obtain rfl : ad233 = ad235:=(by injection e235);replace b_C:=(HB.out.cell (World.block_lt_of_cell? w _ b_C)).trans b_C;replace b_D:=(HB.out.cell (World.block_lt_of_cell? w _ b_D)).trans b_D;replace p235:=eq_true p235;replace q235:=eq_true q235;have p236 : 0 ≤ (a2 : Int):=of_decide_eq_true (by first|(with_reducible assumption)|assumption);have q236 : a2 < (l0_0.length : Int):=of_decide_eq_true (by first|(with_reducible assumption)|assumption);obtain ⟨ad236,e236,b_E,b_F⟩:=b_r b_l.out a2 p236 q236;obtain rfl : ad233 = ad236:=(by injection e236);replace b_E:=(HB.out.cell (World.block_lt_of_cell? w _ b_E)).trans b_E;replace b_F:=(HB.out.cell (World.block_lt_of_cell? w _ b_F)).trans b_F;replace p236:=eq_true p236;replace q236:=eq_true q236))
  repeat (go_quiet (first|((with_reducible refine a_J (N:=3) rfl ?_);refine a_F ?hg (N:=3) ?hd (cs:=#[.slice A0_0 l0_0.length c0_0]) (t:=24) ?hr ?_;(case hd => rfl);(case hg => rfl);(case hr => first|(go_simp;done)|(go_simp;rfl));intro b_1 hg w14 hbox hb;have c_r:=a_b.mk (hbox);have d_P:=a_b.mk ((by rw [hg];exact (a_i (lup_ HB.out)) : w.heap.size ≤ b_1));have d_i:=a_b.mk ((by rw [hg];exact (a_i (lup_ HB.out)) : w.heap.size ≤ b_1));replace HB:=a_b.mk (a_l (lup_ HB.out) hb);clear hb hbox hg;have d_l : w14.cell? ⟨b_1,0,none⟩ = some (.slice A0_0 l0_0.length c0_0):=(a_k c_r.out 0).trans rfl;have d_o:=a_g c_r.out 0;have p233 : 0 ≤ (a1 : Int):=of_decide_eq_true (by first|(with_reducible assumption)|assumption);have q233 : a1 < (l0_0.length : Int):=of_decide_eq_true (by first|(with_reducible assumption)|assumption);obtain ⟨ad233,e233,b_g,b_h⟩:=b_r b_l.out a1 p233 q233;cases e233;replace b_g:=(HB.out.cell (World.block_lt_of_cell? w _ b_g)).trans b_g;replace b_h:=(HB.out.cell (World.block_lt_of_cell? w _ b_h)).trans b_h;replace p233:=eq_true p233;replace q233:=eq_true q233;have p234 : 0 ≤ (a2 : Int):=of_decide_eq_true (by first|(with_reducible assumption)|assumption);have q234 : a2 < (l0_0.length : Int):=of_decide_eq_true (by first|(with_reducible assumption)|assumption);obtain ⟨ad234,e234,b_i,b_j⟩:=b_r b_l.out a2 p234 q234;obtain rfl : ad233 = ad234:=(by injection e234);replace b_i:=(HB.out.cell (World.block_lt_of_cell? w _ b_i)).trans b_i;replace b_j:=(HB.out.cell (World.block_lt_of_cell? w _ b_j)).trans b_j;replace p234:=eq_true p234;replace q234:=eq_true q234;have p235 : 0 ≤ (a1 : Int):=of_decide_eq_true (by first|(with_reducible assumption)|assumption);have q235 : a1 < (l0_0.length : Int):=of_decide_eq_true (by first|(with_reducible assumption)|assumption);obtain ⟨ad235,e235,b_C,b_D⟩:=b_r b_l.out a1 p235 q235;obtain rfl : ad233 = ad235:=(by injection e235);replace b_C:=(HB.out.cell (World.block_lt_of_cell? w _ b_C)).trans b_C;replace b_D:=(HB.out.cell (World.block_lt_of_cell? w _ b_D)).trans b_D;replace p235:=eq_true p235;replace q235:=eq_true q235;have p236 : 0 ≤ (a2 : Int):=of_decide_eq_true (by first|(with_reducible assumption)|assumption);have q236 : a2 < (l0_0.length : Int):=of_decide_eq_true (by first|(with_reducible assumption)|assumption);obtain ⟨ad236,e236,b_E,b_F⟩:=b_r b_l.out a2 p236 q236;obtain rfl : ad233 = ad236:=(by injection e236);replace b_E:=(HB.out.cell (World.block_lt_of_cell? w _ b_E)).trans b_E;replace b_F:=(HB.out.cell (World.block_lt_of_cell? w _ b_F)).trans b_F;replace p236:=eq_true p236;replace q236:=eq_true q236));try go_wp2_with (first|((with_reducible refine a_J (N:=3) rfl ?_);refine a_F ?hg (N:=3) ?hd (cs:=#[.slice A0_0 l0_0.length c0_0]) (t:=24) ?hr ?_;(case hd => rfl);(case hg => rfl);(case hr => first|(go_simp;done)|(go_simp;rfl));intro b_1 hg w14 hbox hb;have c_r:=a_b.mk (hbox);have d_P:=a_b.mk ((by rw [hg];exact (a_i (lup_ HB.out)) : w.heap.size ≤ b_1));have d_i:=a_b.mk ((by rw [hg];exact (a_i (lup_ HB.out)) : w.heap.size ≤ b_1));replace HB:=a_b.mk (a_l (lup_ HB.out) hb);clear hb hbox hg;have d_l : w14.cell? ⟨b_1,0,none⟩ = some (.slice A0_0 l0_0.length c0_0):=(a_k c_r.out 0).trans rfl;have d_o:=a_g c_r.out 0;have p233 : 0 ≤ (a1 : Int):=of_decide_eq_true (by first|(with_reducible assumption)|assumption);have q233 : a1 < (l0_0.length : Int):=of_decide_eq_true (by first|(with_reducible assumption)|assumption);obtain ⟨ad233,e233,b_g,b_h⟩:=b_r b_l.out a1 p233 q233;cases e233;replace b_g:=(HB.out.cell (World.block_lt_of_cell? w _ b_g)).trans b_g;replace b_h:=(HB.out.cell (World.block_lt_of_cell? w _ b_h)).trans b_h;replace p233:=eq_true p233;replace q233:=eq_true q233;have p234 : 0 ≤ (a2 : Int):=of_decide_eq_true (by first|(with_reducible assumption)|assumption);have q234 : a2 < (l0_0.length : Int):=of_decide_eq_true (by first|(with_reducible assumption)|assumption);obtain ⟨ad234,e234,b_i,b_j⟩:=b_r b_l.out a2 p234 q234;obtain rfl : ad233 = ad234:=(by injection e234);replace b_i:=(HB.out.cell (World.block_lt_of_cell? w _ b_i)).trans b_i;replace b_j:=(HB.out.cell (World.block_lt_of_cell? w _ b_j)).trans b_j;replace p234:=eq_true p234;replace q234:=eq_true q234;have p235 : 0 ≤ (a1 : Int):=of_decide_eq_true (by first|(with_reducible assumption)|assumption);have q235 : a1 < (l0_0.length : Int):=of_decide_eq_true (by first|(with_reducible assumption)|assumption);obtain ⟨ad235,e235,b_C,b_D⟩:=b_r b_l.out a1 p235 q235;obtain rfl : ad233 = ad235:=(by injection e235);replace b_C:=(HB.out.cell (World.block_lt_of_cell? w _ b_C)).trans b_C;replace b_D:=(HB.out.cell (World.block_lt_of_cell? w _ b_D)).trans b_D;replace p235:=eq_true p235;replace q235:=eq_true q235;have p236 : 0 ≤ (a2 : Int):=of_decide_eq_true (by first|(with_reducible assumption)|assumption);have q236 : a2 < (l0_0.length : Int):=of_decide_eq_true (by first|(with_reducible assumption)|assumption);obtain ⟨ad236,e236,b_E,b_F⟩:=b_r b_l.out a2 p236 q236;obtain rfl : ad233 = ad236:=(by injection e236);replace b_E:=(HB.out.cell (World.block_lt_of_cell? w _ b_E)).trans b_E;replace b_F:=(HB.out.cell (World.block_lt_of_cell? w _ b_F)).trans b_F;replace p236:=eq_true p236;replace q236:=eq_true q236)))
  all_goals first|(exfalso;rename_i hh;rw [c13b0,hh] at c10b0;exact absurd c10b0 (by decide))|(repeat (go_quiet (first|((with_reducible refine a_J (N:=3) rfl ?_);refine a_F ?hg (N:=3) ?hd (cs:=#[.slice A0_0 l0_0.length c0_0]) (t:=24) ?hr ?_;(case hd => rfl);(case hg => rfl);(case hr => first|(go_simp;done)|(go_simp;rfl));intro b_1 hg w14 hbox hb;have c_r:=a_b.mk (hbox);have d_P:=a_b.mk ((by rw [hg];exact (a_i (lup_ HB.out)) : w.heap.size ≤ b_1));have d_i:=a_b.mk ((by rw [hg];exact (a_i (lup_ HB.out)) : w.heap.size ≤ b_1));replace HB:=a_b.mk (a_l (lup_ HB.out) hb);clear hb hbox hg;have d_l : w14.cell? ⟨b_1,0,none⟩ = some (.slice A0_0 l0_0.length c0_0):=(a_k c_r.out 0).trans rfl;have d_o:=a_g c_r.out 0;have p233 : 0 ≤ (a1 : Int):=of_decide_eq_true (by first|(with_reducible assumption)|assumption);have q233 : a1 < (l0_0.length : Int):=of_decide_eq_true (by first|(with_reducible assumption)|assumption);obtain ⟨ad233,e233,b_g,b_h⟩:=b_r b_l.out a1 p233 q233;cases e233;replace b_g:=(HB.out.cell (World.block_lt_of_cell? w _ b_g)).trans b_g;replace b_h:=(HB.out.cell (World.block_lt_of_cell? w _ b_h)).trans b_h;replace p233:=eq_true p233;replace q233:=eq_true q233;have p234 : 0 ≤ (a2 : Int):=of_decide_eq_true (by first|(with_reducible assumption)|assumption);have q234 : a2 < (l0_0.length : Int):=of_decide_eq_true (by first|(with_reducible assumption)|assumption);obtain ⟨ad234,e234,b_i,b_j⟩:=b_r b_l.out a2 p234 q234;obtain rfl : ad233 = ad234:=(by injection e234);replace b_i:=(HB.out.cell (World.block_lt_of_cell? w _ b_i)).trans b_i;replace b_j:=(HB.out.cell (World.block_lt_of_cell? w _ b_j)).trans b_j;replace p234:=eq_true p234;replace q234:=eq_true q234;have p235 : 0 ≤ (a1 : Int):=of_decide_eq_true (by first|(with_reducible assumption)|assumption);have q235 : a1 < (l0_0.length : Int):=of_decide_eq_true (by first|(with_reducible assumption)|assumption);obtain ⟨ad235,e235,b_C,b_D⟩:=b_r b_l.out a1 p235 q235;obtain rfl : ad233 = ad235:=(by injection e235);replace b_C:=(HB.out.cell (World.block_lt_of_cell? w _ b_C)).trans b_C;replace b_D:=(HB.out.cell (World.block_lt_of_cell? w _ b_D)).trans b_D;replace p235:=eq_true p235;replace q235:=eq_true q235;have p236 : 0 ≤ (a2 : Int):=of_decide_eq_true (by first|(with_reducible assumption)|assumption);have q236 : a2 < (l0_0.length : Int):=of_decide_eq_true (by first|(with_reducible assumption)|assumption);obtain ⟨ad236,e236,b_E,b_F⟩:=b_r b_l.out a2 p236 q236;obtain rfl : ad233 = ad236:=(by injection e236);replace b_E:=(HB.out.cell (World.block_lt_of_cell? w _ b_E)).trans b_E;replace b_F:=(HB.out.cell (World.block_lt_of_cell? w _ b_F)).trans b_F;replace p236:=eq_true p236;replace q236:=eq_true q236));try go_wp2_with (first|((with_reducible refine a_J (N:=3) rfl ?_);refine a_F ?hg (N:=3) ?hd (cs:=#[.slice A0_0 l0_0.length c0_0]) (t:=24) ?hr ?_;(case hd => rfl);(case hg => rfl);(case hr => first|(go_simp;done)|(go_simp;rfl));intro b_1 hg w14 hbox hb;have c_r:=a_b.mk (hbox);have d_P:=a_b.mk ((by rw [hg];exact (a_i (lup_ HB.out)) : w.heap.size ≤ b_1));have d_i:=a_b.mk ((by rw [hg];exact (a_i (lup_ HB.out)) : w.heap.size ≤ b_1));replace HB:=a_b.mk (a_l (lup_ HB.out) hb);clear hb hbox hg;have d_l : w14.cell? ⟨b_1,0,none⟩ = some (.slice A0_0 l0_0.length c0_0):=(a_k c_r.out 0).trans rfl;have d_o:=a_g c_r.out 0;have p233 : 0 ≤ (a1 : Int):=of_decide_eq_true (by first|(with_reducible assumption)|assumption);have q233 : a1 < (l0_0.length : Int):=of_decide_eq_true (by first|(with_reducible assumption)|assumption);obtain ⟨ad233,e233,b_g,b_h⟩:=b_r b_l.out a1 p233 q233;cases e233;replace b_g:=(HB.out.cell (World.block_lt_of_cell? w _ b_g)).trans b_g;replace b_h:=(HB.out.cell (World.block_lt_of_cell? w _ b_h)).trans b_h;replace p233:=eq_true p233;replace q233:=eq_true q233;have p234 : 0 ≤ (a2 : Int):=of_decide_eq_true (by first|(with_reducible assumption)|assumption);have q234 : a2 < (l0_0.length : Int):=of_decide_eq_true (by first|(with_reducible assumption)|assumption);obtain ⟨ad234,e234,b_i,b_j⟩:=b_r b_l.out a2 p234 q234;obtain rfl : ad233 = ad234:=(by injection e234);replace b_i:=(HB.out.cell (World.block_lt_of_cell? w _ b_i)).trans b_i;replace b_j:=(HB.out.cell (World.block_lt_of_cell? w _ b_j)).trans b_j;replace p234:=eq_true p234;replace q234:=eq_true q234;have p235 : 0 ≤ (a1 : Int):=of_decide_eq_true (by first|(with_reducible assumption)|assumption);have q235 : a1 < (l0_0.length : Int):=of_decide_eq_true (by first|(with_reducible assumption)|assumption);obtain ⟨ad235,e235,b_C,b_D⟩:=b_r b_l.out a1 p235 q235;obtain rfl : ad233 = ad235:=(by injection e235);replace b_C:=(HB.out.cell (World.block_lt_of_cell? w _ b_C)).trans b_C;replace b_D:=(HB.out.cell (World.block_lt_of_cell? w _ b_D)).trans b_D;replace p235:=eq_true p235;replace q235:=eq_true q235;have p236 : 0 ≤ (a2 : Int):=of_decide_eq_true (by first|(with_reducible assumption)|assumption);have q236 : a2 < (l0_0.length : Int):=of_decide_eq_true (by first|(with_reducible assumption)|assumption);obtain ⟨ad236,e236,b_E,b_F⟩:=b_r b_l.out a2 p236 q236;obtain rfl : ad233 = ad236:=(by injection e236);replace b_E:=(HB.out.cell (World.block_lt_of_cell? w _ b_E)).trans b_E;replace b_F:=(HB.out.cell (World.block_lt_of_cell? w _ b_F)).trans b_F;replace p236:=eq_true p236;replace q236:=eq_true q236)));go_ret;exact ⟨by first|rfl|(simp [a_t,a_u] <;> rfl)|(simp [*, a_t,a_u] <;> rfl),by repeat (first|(with_reducible first|exact HB.out|apply a_d|apply a_c|apply a_e|refine a_a ?_ d_i.out)|exact HB.out)⟩)
 rw [if_neg c13] at H
 have c13b0 : (((a_x l0_0 a1).f0) == ((a_x l0_0 a2).f0)) = false:=beq_eq_false_iff_ne.mpr c13
 have c13b1 : (((a_x l0_0 a1).f0) != ((a_x l0_0 a2).f0)) = true:=bne_iff_ne.mpr c13
 obtain rfl:=Option.some.inj H
 go_enter Tryd.func19,Tryd.ntmps19
 go_wp2_with (first|((with_reducible refine a_J (N:=3) rfl ?_);refine a_F ?hg (N:=3) ?hd (cs:=#[.slice A0_0 l0_0.length c0_0]) (t:=24) ?hr ?_;(case hd => rfl);(case hg => rfl);(case hr => first|(go_simp;done)|(go_simp;rfl));intro b_1 hg w16 hbox hb;have c_r:=a_b.mk (hbox);have d_P:=a_b.mk ((by rw [hg];exact (a_i (lup_ HB.out)) : w.heap.size ≤ b_1));have d_i:=a_b.mk ((by rw [hg];exact (a_i (lup_ HB.out)) : w.heap.size ≤ b_1));replace HB:=a_b.mk (a_l (lup_ HB.out) hb);clear hb hbox hg;have f_S : w16.cell? ⟨b_1,0,none⟩ = some (.slice A0_0 l0_0.length c0_0):=(a_k c_r.out 0).trans rfl;have g_g:=a_g c_r.out 0;have p233 : 0 ≤ (a1 : Int):=of_decide_eq_true (by first|(with_reducible assumption)|assumption);have q233 : a1 < (l0_0.length : Int):=of_decide_eq_true (by first|(with_reducible assumption)|assumption);obtain ⟨ad233,e233,b_g,b_h⟩:=b_r b_l.out a1 p233 q233;cases e233;replace b_g:=(HB.out.cell (World.block_lt_of_cell? w _ b_g)).trans b_g;replace b_h:=(HB.out.cell (World.block_lt_of_cell? w _ b_h)).trans b_h;replace p233:=eq_true p233;replace q233:=eq_true q233;have p234 : 0 ≤ (a2 : Int):=of_decide_eq_true (by first|(with_reducible assumption)|assumption);have q234 : a2 < (l0_0.length : Int):=of_decide_eq_true (by first|(with_reducible assumption)|assumption);obtain ⟨ad234,e234,b_i,b_j⟩:=b_r b_l.out a2 p234 q234;obtain rfl : ad233 = ad234:=(by injection e234);replace b_i:=(HB.out.cell (World.block_lt_of_cell? w _ b_i)).trans b_i;replace b_j:=(HB.out.cell (World.block_lt_of_cell? w _ b_j)).trans b_j;replace p234:=eq_true p234;replace q234:=eq_true q234;have p235 : 0 ≤ (a1 : Int):=of_decide_eq_true (by first|(with_reducible assumption)|assumption);have q235 : a1 < (l0_0.length : Int):=of_decide_eq_true (by first|(with_reducible assumption)|assumption);obtain ⟨ad235,e235,b_C,b_D⟩:=b_r b_l.out a1 p235 q235;obtain rfl : ad233 = ad235:=(by injection e235);replace b_C:=(HB.out.cell (World.block_lt_of_cell? w _ b_C)).trans b_C;replace b_D:=(HB.out.cell (World.block_lt_of_cell? w _ b_D)).trans b_D;replace p235:=eq_true p235;replace q235:=eq_true q235;have p236 : 0 ≤ (a2 : Int):=of_decide_eq_true (by first|(with_reducible assumption)|assumption);have q236 : a2 < (l0_0.length : Int):=of_decide_eq_true (by first|(with_reducible assumption)|assumption);obtain ⟨ad236,e236,b_E,b_F⟩:=b_r b_l.out a2 p236 q236;obtain rfl : ad233 = ad236:=(by injection e236);replace b_E:=(HB.out.cell (World.block_lt_of_cell? w _ b_E)).trans b_E;replace b_F:=(HB.out.cell (World.block_lt_of_cell? w _ b_F)).trans b_F;replace p236:=eq_true p236;replace q236:=eq_true q236))
 repeat (go_quiet (first|((with_reducible refine a_J (N:=3) rfl ?_);refine a_F ?hg (N:=3) ?hd (cs:=#[.slice A0_0 l0_0.length c0_0]) (t:=24) ?hr ?_;(case hd => rfl);(case hg => rfl);(case hr => first|(go_simp;done)|(go_simp;rfl));intro b_1 hg w16 hbox hb;have c_r:=a_b.mk (hbox);have d_P:=a_b.mk ((by rw [hg];exact (a_i (lup_ HB.out)) : w.heap.size ≤ b_1));have d_i:=a_b.mk ((by rw [hg];exact (a_i (lup_ HB.out)) : w.heap.size ≤ b_1));replace HB:=a_b.mk (a_l (lup_ HB.out) hb);clear hb hbox hg;have f_S : w16.cell? ⟨b_1,0,none⟩ = some (.slice A0_0 l0_0.length c0_0):=(a_k c_r.out 0).trans rfl;have g_g:=a_g c_r.out 0;have p233 : 0 ≤ (a1 : Int):=of_decide_eq_true (by first|(with_reducible assumption)|assumption);have q233 : a1 < (l0_0.length : Int):=of_decide_eq_true (by first|(with_reducible assumption)|assumption);obtain ⟨ad233,e233,b_g,b_h⟩:=b_r b_l.out a1 p233 q233;cases e233;replace b_g:=(HB.out.cell (World.block_lt_of_cell? w _ b_g)).trans b_g;replace b_h:=(HB.out.cell (World.block_lt_of_cell? w _ b_h)).trans b_h;replace p233:=eq_true p233;replace q233:=eq_true q233;have p234 : 0 ≤ (a2 : Int):=of_decide_eq_true (by first|(with_reducible assumption)|assumption);have q234 : a2 < (l0_0.length : Int):=of_decide_eq_true (by first|(with_reducible assumption)|assumption);obtain ⟨ad234,e234,b_i,b_j⟩:=b_r b_l.out a2 p234 q234;obtain rfl : ad233 = ad234:=(by injection e234);replace b_i:=(HB.out.cell (World.block_lt_of_cell? w _ b_i)).trans b_i;replace b_j:=(HB.out.cell (World.block_lt_of_cell? w _ b_j)).trans b_j;replace p234:=eq_true p234;replace q234:=eq_true q234;have p235 : 0 ≤ (a1 : Int):=of_decide_eq_true (by first|(with_reducible assumption)|assumption);have q235 : a1 < (l0_0.length : Int):=of_decide_eq_true (by first|(with_reducible assumption)|assumption);obtain ⟨ad235,e235,b_C,b_D⟩:=b_r b_l.out a1 p235 q235;obtain rfl : ad233 = ad235:=(by injection e235);replace b_C:=(HB.out.cell (World.block_lt_of_cell? w _ b_C)).trans b_C;replace b_D:=(HB.out.cell (World.block_lt_of_cell? w _ b_D)).trans b_D;replace p235:=eq_true p235;replace q235:=eq_true q235;have p236 : 0 ≤ (a2 : Int):=of_decide_eq_true (by first|(with_reducible assumption)|assumption);have q236 : a2 < (l0_0.length : Int):=of_decide_eq_true (by first|(with_reducible assumption)|assumption);obtain ⟨ad236,e236,b_E,b_F⟩:=b_r b_l.out a2 p236 q236;obtain rfl : ad233 = ad236:=(by injection e236);replace b_E:=(HB.out.cell (World.block_lt_of_cell? w _ b_E)).trans b_E;replace b_F:=(HB.out.cell (World.block_lt_of_cell? w _ b_F)).trans b_F;replace p236:=eq_true p236;replace q236:=eq_true q236));try go_wp2_with (first|((with_reducible refine a_J (N:=3) rfl ?_);refine a_F ?hg (N:=3) ?hd (cs:=#[.slice A0_0 l0_0.length c0_0]) (t:=24) ?hr ?_;(case hd => rfl);(case hg => rfl);(case hr => first|(go_simp;done)|(go_simp;rfl));intro b_1 hg w16 hbox hb;have c_r:=a_b.mk (hbox);have d_P:=a_b.mk ((by rw [hg];exact (a_i (lup_ HB.out)) : w.heap.size ≤ b_1));have d_i:=a_b.mk ((by rw [hg];exact (a_i (lup_ HB.out)) : w.heap.size ≤ b_1));replace HB:=a_b.mk (a_l (lup_ HB.out) hb);clear hb hbox hg;have f_S : w16.cell? ⟨b_1,0,none⟩ = some (.slice A0_0 l0_0.length c0_0):=(a_k c_r.out 0).trans rfl;have g_g:=a_g c_r.out 0;have p233 : 0 ≤ (a1 : Int):=of_decide_eq_true (by first|(with_reducible assumption)|assumption);have q233 : a1 < (l0_0.length : Int):=of_decide_eq_true (by first|(with_reducible assumption)|assumption);obtain ⟨ad233,e233,b_g,b_h⟩:=b_r b_l.out a1 p233 q233;cases e233;replace b_g:=(HB.out.cell (World.block_lt_of_cell? w _ b_g)).trans b_g;replace b_h:=(HB.out.cell (World.block_lt_of_cell? w _ b_h)).trans b_h;replace p233:=eq_true p233;replace q233:=eq_true q233;have p234 : 0 ≤ (a2 : Int):=of_decide_eq_true (by first|(with_reducible assumption)|assumption);have q234 : a2 < (l0_0.length : Int):=of_decide_eq_true (by first|(with_reducible assumption)|assumption);obtain ⟨ad234,e234,b_i,b_j⟩:=b_r b_l.out a2 p234 q234;obtain rfl : ad233 = ad234:=(by injection e234);replace b_i:=(HB.out.cell (World.block_lt_of_cell? w _ b_i)).trans b_i;replace b_j:=(HB.out.cell (World.block_lt_of_cell? w _ b_j)).trans b_j;replace p234:=eq_true p234;replace q234:=eq_true q234;have p235 : 0 ≤ (a1 : Int):=of_decide_eq_true (by first|(with_reducible assumption)|assumption);have q235 : a1 < (l0_0.length : Int):=of_decide_eq_true (by first|(with_reducible assumption)|assumption);obtain ⟨ad235,e235,b_C,b_D⟩:=b_r b_l.out a1 p235 q235;obtain rfl : ad233 = ad235:=(by injection e235);replace b_C:=(HB.out.cell (World.block_lt_of_cell? w _ b_C)).trans b_C;replace b_D:=(HB.out.cell (World.block_lt_of_cell? w _ b_D)).trans b_D;replace p235:=eq_true p235;replace q235:=eq_true q235;have p236 : 0 ≤ (a2 : Int):=of_decide_eq_true (by first|(with_reducible assumption)|assumption);have q236 : a2 < (l0_0.length : Int):=of_decide_eq_true (by first|(with_reducible assumption)|assumption);obtain ⟨ad236,e236,b_E,b_F⟩:=b_r b_l.out a2 p236 q236;obtain rfl : ad233 = ad236:=(by injection e236);replace b_E:=(HB.out.cell (World.block_lt_of_cell? w _ b_E)).trans b_E;replace b_F:=(HB.out.cell (World.block_lt_of_cell? w _ b_F)).trans b_F;replace p236:=eq_true p236;replace q236:=eq_true q236)))
 go_ret
 exact ⟨by first|rfl|(simp [a_t,a_u] <;> rfl)|(simp [*, a_t,a_u] <;> rfl),by repeat (first|(with_reducible first|exact HB.out|apply a_d|apply a_c|apply a_e|refine a_a ?_ d_i.out)|exact HB.out)⟩
end Go.Proofs.YtcpfcehfgenljaaDoor.Q
end
section
namespace Go.Proofs.YtcpfcehfgenljaaDoor.Q
open Go.RowKit Go.Proofs.YtcpfcehfgenljaaDoorW.PrintWords Go.Proofs.YtcpfcehfgenljaaDoorW.PrintLast Go.Proofs.YtcpfcehfgenljaaDoorW.PrintMore
set_option linter.unusedVariables false
set_option linter.unusedSimpArgs false
def a_1.f (a0 : Int) : Option (Bool):=some (decide (a0 < 256))
set_option maxHeartbeats 8000000 in
set_option maxRecDepth 100000 in
theorem a_1.calls (a0 : Int) (r : Bool) (w : World) (h : a_1.f a0 = some r) :
 Calls Tryd.prog 21 #[.int .u32 a0] w fun e w' => e = .returned (.bool r) ∧ b_k w w':=by
 have H : (some (decide (a0 < 256))) = some r:=h
 clear h
 obtain rfl:=Option.some.inj H
 go_enter Tryd.func21,Tryd.ntmps21
 go_wp2
 go_ret
 exact ⟨by first|rfl|(simp;done)|(simp [*];done),by repeat (first|exact b_k.refl _|apply b_k.step)⟩
end Go.Proofs.YtcpfcehfgenljaaDoor.Q
end
section
namespace Go.Proofs.YtcpfcehfgenljaaDoor.Q
open Go.RowKit Go.Proofs.YtcpfcehfgenljaaDoorW.PrintWords Go.Proofs.YtcpfcehfgenljaaDoorW.PrintLast Go.Proofs.YtcpfcehfgenljaaDoorW.PrintMore
set_option linter.unusedVariables false
set_option linter.unusedSimpArgs false
def b_K.f (a0 : Int) : Option (Bool):=if a0 ≥ 0 then (some (decide (a0 < 8))) else (some false)
set_option maxHeartbeats 8000000 in
set_option maxRecDepth 100000 in
theorem b_K.calls (a0 : Int) (r : Bool) (w : World) (h : b_K.f a0 = some r) :
 Calls Tryd.prog 57 #[.int .i64 a0] w fun e w' => e = .returned (.bool r) ∧ b_k w w':=by
 have H : (if a0 ≥ 0 then (some (decide (a0 < 8))) else (some false)) = some r:=h
 clear h
 by_cases c2 : a0 ≥ 0
 ·rw [if_pos c2] at H
  have c2b0 : decide (0 ≤ a0) = true:=decide_eq_true c2
  clear c2
  obtain rfl:=Option.some.inj H
  go_enter Tryd.func57,Tryd.ntmps57
  go_wp2
  go_ret
  exact ⟨by first|rfl|(simp;done)|(simp [*];done),by repeat (first|exact b_k.refl _|apply b_k.step)⟩
 rw [if_neg c2] at H
 have c2b0 : decide (0 ≤ a0) = false:=decide_eq_false c2
 clear c2
 obtain rfl:=Option.some.inj H
 go_enter Tryd.func57,Tryd.ntmps57
 go_wp2
 go_ret
 exact ⟨by first|rfl|(simp;done)|(simp [*];done),by repeat (first|exact b_k.refl _|apply b_k.step)⟩
end Go.Proofs.YtcpfcehfgenljaaDoor.Q
end
section
namespace Go.Proofs.YtcpfcehfgenljaaDoor.Q
open Go.RowKit Go.Proofs.YtcpfcehfgenljaaDoorW.PrintWords Go.Proofs.YtcpfcehfgenljaaDoorW.PrintLast Go.Proofs.YtcpfcehfgenljaaDoorW.PrintMore
set_option linter.unusedVariables false
set_option linter.unusedSimpArgs false
def b_A.f (a0 : Int) (a1 : Int) : Option (Bool):=(b_K.f a1).bind fun t237 => (if t237 = true then (if 0 ≤ a1 then (some ((Int.tmod (shr .u32 a0 a1) 2) == 1)) else (none)) else (some false))
set_option maxHeartbeats 8000000 in
set_option maxRecDepth 100000 in
theorem b_A.calls (a0 : Int) (a1 : Int) (r : Bool) (w : World) (h : b_A.f a0 a1 = some r) :
 Calls Tryd.prog 45 #[.int .u32 a0,.int .i64 a1] w fun e w' => e = .returned (.bool r) ∧ b_k w w':=by
 have H : ((b_K.f a1).bind fun t237 => (if t237 = true then (if 0 ≤ a1 then (some ((Int.tmod (shr .u32 a0 a1) 2) == 1)) else (none)) else (some false))) = some r:=h
 clear h
 replace H:=Option.bind_eq_some_iff.mp H
 obtain ⟨t237,A30,H⟩:=H
 replace H : (if t237 = true then (if 0 ≤ a1 then (some ((Int.tmod (shr .u32 a0 a1) 2) == 1)) else (none)) else (some false)) = some r:=H
 have A3:=a_b.mk A30
 clear A30
 by_cases c4 : t237 = true
 rotate_left
 ·replace c4:=Bool.eq_false_iff.mpr c4
  subst c4
  have H1 : (some false) = some r:=by rw [if_neg (show ¬ (false = true) by decide)] at H;exact H
  clear H
  have H:=H1
  clear H1
  obtain rfl:=Option.some.inj H
  go_enter Tryd.func45,Tryd.ntmps45
  go_wp2_with (first|((with_reducible refine a_y (f:=57) rfl ?_);refine a_5 (some 6) rfl rfl Tryd.func57 (by kernel_rfl) rfl #[.int .i64 a1] rfl (by (try simp only [List.map_toArray,List.map_cons,List.map_nil]);first|done|rfl|(simp only [List.length_drop,List.length_take];rfl)) ?_;(with_reducible refine (b_K.calls a1 false _ A3.out).mono ?_);rintro e w' ⟨rfl,⟨nd,rfl⟩⟩;refine ⟨_,rfl,?_⟩))
  go_ret
  exact ⟨by first|rfl|(simp;done)|(simp [*];done),by repeat (first|exact b_k.refl _|apply b_k.step)⟩
 subst c4
 have H1 : (if 0 ≤ a1 then (some ((Int.tmod (shr .u32 a0 a1) 2) == 1)) else (none)) = some r:=by rw [if_pos rfl] at H;exact H
 clear H
 have H:=H1
 clear H1
 by_cases c5 : 0 ≤ a1
 rotate_left
 ·rw [if_neg c5] at H
  exact absurd H (by simp)
 rw [if_pos c5] at H
 have c5b0:=eq_true c5
 have c5b1 : decide (0 ≤ a1) = true:=decide_eq_true c5
 clear c5
 obtain ⟨ji6,hji6⟩ : ∃ j_ : Int,(shr .u32 a0 a1) = j_:=⟨_,rfl⟩
 replace H : (some ((Int.tmod (ji6) 2) == 1)) = some r:=by first|(rw [hji6] at H;exact H)|(simp only [hji6] at H ⊢; exact H)
 (try rw [hji6] at A3)
 have hji6_ : (a0 / 2 ^ min a1.toNat 32) = ji6:=hji6
 have hji6z : a1 ≤ 32 → (a0 / 2 ^ a1.toNat) = ji6:=i_i hji6
 obtain rfl:=Option.some.inj H
 go_enter Tryd.func45,Tryd.ntmps45
 go_wp2_with (first|((with_reducible refine a_y (f:=57) rfl ?_);refine a_5 (some 6) rfl rfl Tryd.func57 (by kernel_rfl) rfl #[.int .i64 a1] rfl (by (try simp only [List.map_toArray,List.map_cons,List.map_nil]);first|done|rfl|(simp only [List.length_drop,List.length_take];rfl)) ?_;(with_reducible refine (b_K.calls a1 true _ A3.out).mono ?_);rintro e w' ⟨rfl,⟨nd,rfl⟩⟩;refine ⟨_,rfl,?_⟩))
 go_ret
 exact ⟨by first|rfl|(simp;done)|(simp only [← hji6] <;> (first|rfl|simp))|(simp [*];done),by repeat (first|exact b_k.refl _|apply b_k.step)⟩
end Go.Proofs.YtcpfcehfgenljaaDoor.Q
end
section
namespace Go.Proofs.YtcpfcehfgenljaaDoor.Q
open Go.RowKit Go.Proofs.YtcpfcehfgenljaaDoorW.PrintWords Go.Proofs.YtcpfcehfgenljaaDoorW.PrintLast Go.Proofs.YtcpfcehfgenljaaDoorW.PrintMore
set_option linter.unusedVariables false
set_option linter.unusedSimpArgs false
mutual
def a_m.l0 : Nat → Int → Int → List Int → Int → List (S56) → Option (List Int)
 | 0,_,_,_,_,_ => none
 | k + 1,x1,x2,x7,x8,x239000 => if x8 ≤ 3 then (a_m.l1 k x1 x2 x7 x8 (x239000.length : Int) 0 x239000) else (some x7)
def a_m.l1 : Nat → Int → Int → List Int → Int → Int → Int → List (S56) → Option (List Int)
 | 0,_,_,_,_,_,_,_ => none
 | k + 1,x1,x2,x7,x8,x16,x17,x239000 => if x17 < x16 then ((b_A.f x2 x17).bind fun t239 => (if t239 = true then ((a_S.f x239000 x1 x17).bind fun t240 => (if t240 = x8 then (if x7.length < 17592186044416 then (a_m.l1 k x1 x2 (x7 ++ [x17]) x8 x16 (wrap64 (x17 + 1)) x239000) else (none)) else (a_m.l1 k x1 x2 x7 x8 x16 (wrap64 (x17 + 1)) x239000))) else (a_m.l1 k x1 x2 x7 x8 x16 (wrap64 (x17 + 1)) x239000))) else (a_m.l0 k x1 x2 x7 (wrap64 (x8 + 1)) x239000)
end
def a_m.f (k : Nat) (l0_0 : List (S56)) (a1 : Int) (a2 : Int) : Option (List Int):=a_m.l0 k a1 a2 ([] : List Int) 0 l0_0
theorem a_m.c_w : ∀ k,(∀ y0 y1 y2 y3 y4,LeO (a_m.l0 k y0 y1 y2 y3 y4) (a_m.l0 (k + 1) y0 y1 y2 y3 y4)) ∧ (∀ y0 y1 y2 y3 y4 y5 y6,LeO (a_m.l1 k y0 y1 y2 y3 y4 y5 y6) (a_m.l1 (k + 1) y0 y1 y2 y3 y4 y5 y6))
 | 0 => ⟨fun _ _ _ _ _ r h => by simp [a_m.l0] at h,fun _ _ _ _ _ _ _ r h => by simp [a_m.l1] at h⟩
 | k + 1 => by
  obtain ⟨ih0,ih1⟩:=a_m.c_w k
  refine ⟨?_,?_⟩
  ·intro y0 y1 y2 y3 y4
   unfold a_m.l0
   repeat' first
   | (with_reducible exact ih0 _ _ _ _ _)
   | (with_reducible exact ih1 _ _ _ _ _ _ _)
   | (with_reducible exact LeO.refl _)
   | (with_reducible exact LeO.none _)
   | (with_reducible refine LeO.ite ?_ ?_)
   | (with_reducible refine LeO.bind ?_ (fun _ => ?_))
   | exact ih0 _ _ _ _ _
   | exact ih1 _ _ _ _ _ _ _
   | exact LeO.none _
   | refine LeO.ite ?_ ?_
   | refine LeO.bind ?_ (fun _ => ?_)
  ·intro y0 y1 y2 y3 y4 y5 y6
   unfold a_m.l1
   repeat' first
   | (with_reducible exact ih0 _ _ _ _ _)
   | (with_reducible exact ih1 _ _ _ _ _ _ _)
   | (with_reducible exact LeO.refl _)
   | (with_reducible exact LeO.none _)
   | (with_reducible refine LeO.ite ?_ ?_)
   | (with_reducible refine LeO.bind ?_ (fun _ => ?_))
   | exact ih0 _ _ _ _ _
   | exact ih1 _ _ _ _ _ _ _
   | exact LeO.none _
   | refine LeO.ite ?_ ?_
   | refine LeO.bind ?_ (fun _ => ?_)
theorem a_m.mono : ∀ a0 a1 a2 k,LeO (a_m.f k a0 a1 a2) (a_m.f (k + 1) a0 a1 a2):=by
 intro a0 a1 a2 k
 obtain ⟨ih0,ih1⟩:=a_m.c_w k
 unfold a_m.f
 repeat' first
  | (with_reducible exact ih0 _ _ _ _ _)
  | (with_reducible exact ih1 _ _ _ _ _ _ _)
  | (with_reducible exact LeO.refl _)
  | (with_reducible exact LeO.none _)
  | (with_reducible refine LeO.ite ?_ ?_)
  | (with_reducible refine LeO.bind ?_ (fun _ => ?_))
  | exact ih0 _ _ _ _ _
  | exact ih1 _ _ _ _ _ _ _
  | exact LeO.none _
  | refine LeO.ite ?_ ?_
  | refine LeO.bind ?_ (fun _ => ?_)
set_option maxHeartbeats 8000000 in
set_option maxRecDepth 100000 in
theorem a_m.calls (k : Nat) (A0_0 : Option Addr) (c0_0 : Nat) (l0_0 : List (S56)) (a1 : Int) (a2 : Int) (r : List Int) (w : World) (hr0_0 : Kd.C k56 w A0_0 l0_0.length l0_0) (hc0_0 : l0_0.length ≤ c0_0) (h : a_m.f k l0_0 a1 a2 = some r) :
 Calls Tryd.prog 22 #[.agg #[.slice A0_0 l0_0.length c0_0],.int .i64 a1,.int .u32 a2] w fun e w' => ∃ v0_ : Value,e = .returned (v0_) ∧ Kd.R (Kd.int .i64) 3 w' w.heap.size (fun _ => True) v0_ r ∧ Below w.heap.size w w':=by
 have hu24:=Tryd.underlying24
 have b_l:=a_b.mk hr0_0
 have c_h:=a_b.mk hc0_0
 clear hr0_0 hc0_0
 have HB:=a_b.mk (Below.refl w.heap.size w)
 have H : (a_m.l0 k a1 a2 ([] : List Int) 0 l0_0) = some r:=h
 clear h
 have H':=a_b.mk H
 clear H
 go_enter Tryd.func22,Tryd.ntmps22
 go_wp2_with (first|((with_reducible refine a_J (N:=3) rfl ?_);refine a_F ?hg (N:=3) ?hd (cs:=#[.slice A0_0 l0_0.length c0_0]) (t:=24) ?hr ?_;(case hd => rfl);(case hg => rfl);(case hr => first|(go_simp;done)|(go_simp;rfl));intro f_w hg w4 hbox hb;have c_2:=a_b.mk (hbox);have q_6:=a_b.mk ((by rw [hg];exact (a_i (lup_ HB.out)) : w.heap.size ≤ f_w));have d_O:=a_b.mk ((by rw [hg];exact (a_i (lup_ HB.out)) : w.heap.size ≤ f_w));replace HB:=a_b.mk (a_l (lup_ HB.out) hb);clear hb hbox hg))
 go_loopg [7,8] k (fun kq v7 v8 w' => ∃ (x7_1 : List Int) (x8_1 : Int),v8 = .int .i64 x8_1 ∧ a_b (a_m.l0 kq a1 a2 x7_1 x8_1 l0_0 = some r) ∧ a_b (kq ≤ k) ∧ a_b (Kd.R (Kd.int .i64) 3 w' w.heap.size (fun _ => True) v7 x7_1) ∧ a_b (w'.heap[f_w]? = some (.cells #[(.slice A0_0 l0_0.length c0_0)] 24 (0,0))) ∧ a_b (Below w.heap.size w w'))
 case atStart => exact ⟨(([] : List Int)),(0),(by first|rfl|(simp;done)|(simp [*];done)),H',⟨Nat.le_refl _⟩,⟨by first|exact Kd.e_Z _ _ _ _ _|exact Kd.j_a _ _ _ _ _|exact Kd.j_e _ _ _ _ _|exact Kd.j_b _ _ _ _ _|exact Kd.j_d _ _ _ _ _⟩,⟨by (with_reducible repeat (first|refine a_o ?_ _|refine a_q ?_|refine a_n ?_ _));exact c_2.out⟩,⟨by repeat (first|(with_reducible first|exact HB.out|apply a_d|apply a_c|apply a_e|refine a_a ?_ d_O.out)|exact HB.out)⟩⟩
 case round =>
  clear H'
  try clear c2
  try clear p2
  obtain ⟨x7_1,x8_1,rfl,HA,HK1,HO_7,c_2,HB⟩:=hrel
  cases gk with
  | zero => exact absurd HA.out (by simp [a_m.l0])
  | succ k1 =>
   have H:=HA.out
   clear HA
   simp only [a_m.l0] at H
   by_cases c5 : x8_1 ≤ 3
   rotate_left
   ·rw [if_neg c5] at H
    have c5b0 : decide (x8_1 ≤ 3) = false:=decide_eq_false c5
    clear c5
    obtain rfl:=Option.some.inj H
    go_wp2
    go_ret
    exact ⟨_,by first|rfl|(simp [a_t,a_u] <;> rfl)|(simp [*, a_t,a_u] <;> rfl),by (with_reducible repeat (first|apply Kd.a_T|apply Kd.a_U|apply Kd.a_9));exact HO_7.out,by repeat (first|(with_reducible first|exact HB.out|apply a_d|apply a_c|apply a_e|refine a_a ?_ d_O.out)|exact HB.out)⟩
   rw [if_pos c5] at H
   have c5b0 : decide (x8_1 ≤ 3) = true:=decide_eq_true c5
   clear c5
   have H':=a_b.mk H
   clear H
   have k_h : wr.cell? ⟨f_w,0,none⟩ = some (.slice A0_0 l0_0.length c0_0):=(a_k c_2.out 0).trans rfl
   have k_k:=a_g c_2.out 0
   go_wp2
   go_loopg [7,17] k1 (fun kq v7 v17 w' => ∃ (x7_2 : List Int) (x17_2 : Int),v17 = .int .i64 x17_2 ∧ a_b (a_m.l1 kq a1 a2 x7_2 x8_1 (l0_0.length : Int) x17_2 l0_0 = some r) ∧ a_b (kq ≤ k1) ∧ a_b (Kd.R (Kd.int .i64) 3 w' w.heap.size (fun _ => True) v7 x7_2) ∧ a_b (w'.heap[f_w]? = some (.cells #[(.slice A0_0 l0_0.length c0_0)] 24 (0,0))) ∧ a_b (Below w.heap.size w w'))
   case atStart => exact ⟨(x7_1),(0),(by first|rfl|(simp;done)|(simp [*];done)),H',⟨Nat.le_refl _⟩,⟨by (with_reducible repeat (first|apply Kd.a_T|apply Kd.a_U|apply Kd.a_9));exact HO_7.out⟩,⟨by (with_reducible repeat (first|refine a_o ?_ _|refine a_q ?_|refine a_n ?_ _));exact c_2.out⟩,⟨by repeat (first|(with_reducible first|exact HB.out|apply a_d|apply a_c|apply a_e|refine a_a ?_ d_O.out)|exact HB.out)⟩⟩
   case round =>
    clear H'
    try clear c2
    try clear p2
    try clear c5
    try clear c5b0
    try clear k_h
    try clear k_k
    try clear p2
    obtain ⟨x7_2,x17_2,rfl,HA,HK2,HO_7,c_2,HB⟩:=hrel
    cases gk with
    | zero => exact absurd HA.out (by simp [a_m.l1])
    | succ k2 =>
     have H:=HA.out
     clear HA
     simp only [a_m.l1] at H
     by_cases c7 : x17_2 < (l0_0.length : Int)
     rotate_left
     ·rw [if_neg c7] at H
      have c7b0 : decide (x17_2 < (l0_0.length : Int)) = false:=decide_eq_false c7
      clear c7
      have H':=a_b.mk H
      clear H
      go_wp2
      go_roundg k2
      case measure => have:=HK1.out;have:=HK2.out;omega
      case rel => exact ⟨(x7_2),(wrap64 (x8_1 + 1)),(by first|rfl|(simp;done)|(simp [*];done)),H',⟨by have:=HK1.out;have:=HK2.out;omega⟩,⟨by (with_reducible repeat (first|apply Kd.a_T|apply Kd.a_U|apply Kd.a_9));exact HO_7.out⟩,⟨by (with_reducible repeat (first|refine a_o ?_ _|refine a_q ?_|refine a_n ?_ _));exact c_2.out⟩,⟨by repeat (first|(with_reducible first|exact HB.out|apply a_d|apply a_c|apply a_e|refine a_a ?_ d_O.out)|exact HB.out)⟩⟩
     rw [if_pos c7] at H
     have c7b0 : decide (x17_2 < (l0_0.length : Int)) = true:=decide_eq_true c7
     clear c7
     replace H:=Option.bind_eq_some_iff.mp H
     obtain ⟨t239,A80,H⟩:=H
     replace H : (if t239 = true then ((a_S.f l0_0 a1 x17_2).bind fun t240 => (if t240 = x8_1 then (if x7_2.length < 17592186044416 then (a_m.l1 k2 a1 a2 (x7_2 ++ [x17_2]) x8_1 (l0_0.length : Int) (wrap64 (x17_2 + 1)) l0_0) else (none)) else (a_m.l1 k2 a1 a2 x7_2 x8_1 (l0_0.length : Int) (wrap64 (x17_2 + 1)) l0_0))) else (a_m.l1 k2 a1 a2 x7_2 x8_1 (l0_0.length : Int) (wrap64 (x17_2 + 1)) l0_0)) = some r:=H
     have A8:=a_b.mk A80
     clear A80
     by_cases c9 : t239 = true
     rotate_left
     ·replace c9:=Bool.eq_false_iff.mpr c9
      subst c9
      have H1 : (a_m.l1 k2 a1 a2 x7_2 x8_1 (l0_0.length : Int) (wrap64 (x17_2 + 1)) l0_0) = some r:=by rw [if_neg (show ¬ (false = true) by decide)] at H;exact H
      clear H
      have H:=H1
      clear H1
      have H':=a_b.mk H
      clear H
      go_wp2_with (first|((with_reducible refine a_y (f:=45) rfl ?_);refine a_5 (some 22) rfl rfl Tryd.func45 (by kernel_rfl) rfl #[.int .u32 a2,.int .i64 x17_2] rfl (by (try simp only [List.map_toArray,List.map_cons,List.map_nil]);first|done|rfl|(simp only [List.length_drop,List.length_take];rfl)) ?_;(with_reducible refine (b_A.calls a2 x17_2 false _ A8.out).mono ?_);rintro e w' ⟨rfl,⟨nd,rfl⟩⟩;refine ⟨_,rfl,?_⟩))
      go_roundg k2
      case measure => have:=HK1.out;have:=HK2.out;omega
      case rel => exact ⟨(x7_2),(wrap64 (x17_2 + 1)),(by first|rfl|(simp;done)|(simp [*];done)),H',⟨by have:=HK1.out;have:=HK2.out;omega⟩,⟨by (with_reducible repeat (first|apply Kd.a_T|apply Kd.a_U|apply Kd.a_9));exact HO_7.out⟩,⟨by (with_reducible repeat (first|refine a_o ?_ _|refine a_q ?_|refine a_n ?_ _));exact c_2.out⟩,⟨by repeat (first|(with_reducible first|exact HB.out|apply a_d|apply a_c|apply a_e|refine a_a ?_ d_O.out)|exact HB.out)⟩⟩
     subst c9
     have H1 : ((a_S.f l0_0 a1 x17_2).bind fun t240 => (if t240 = x8_1 then (if x7_2.length < 17592186044416 then (a_m.l1 k2 a1 a2 (x7_2 ++ [x17_2]) x8_1 (l0_0.length : Int) (wrap64 (x17_2 + 1)) l0_0) else (none)) else (a_m.l1 k2 a1 a2 x7_2 x8_1 (l0_0.length : Int) (wrap64 (x17_2 + 1)) l0_0))) = some r:=by rw [if_pos rfl] at H;exact H
     clear H
     have H:=H1
     clear H1
     replace H:=Option.bind_eq_some_iff.mp H
     obtain ⟨t240,A100,H⟩:=H
     replace H : (if t240 = x8_1 then (if x7_2.length < 17592186044416 then (a_m.l1 k2 a1 a2 (x7_2 ++ [x17_2]) x8_1 (l0_0.length : Int) (wrap64 (x17_2 + 1)) l0_0) else (none)) else (a_m.l1 k2 a1 a2 x7_2 x8_1 (l0_0.length : Int) (wrap64 (x17_2 + 1)) l0_0)) = some r:=H
     have A10:=a_b.mk A100
     clear A100
     by_cases c11 : t240 = x8_1
     rotate_left
     ·rw [if_neg c11] at H
      have c11b0 : (t240 == x8_1) = false:=beq_eq_false_iff_ne.mpr c11
      have c11b1 : (t240 != x8_1) = true:=bne_iff_ne.mpr c11
      have H':=a_b.mk H
      clear H
      go_wp2_with (first|((with_reducible refine a_y (f:=45) rfl ?_);refine a_5 (some 22) rfl rfl Tryd.func45 (by kernel_rfl) rfl #[.int .u32 a2,.int .i64 x17_2] rfl (by (try simp only [List.map_toArray,List.map_cons,List.map_nil]);first|done|rfl|(simp only [List.length_drop,List.length_take];rfl)) ?_;(with_reducible refine (b_A.calls a2 x17_2 true _ A8.out).mono ?_);rintro e w' ⟨rfl,⟨nd,rfl⟩⟩;refine ⟨_,rfl,?_⟩;have e_5 : wr.cell? ⟨f_w,0,none⟩ = some (.slice A0_0 l0_0.length c0_0):=(a_k c_2.out 0).trans rfl;have f_a:=a_g c_2.out 0)|(go_at_call 19;(with_reducible refine (a_S.calls _ _ l0_0 a1 x17_2 t240 _ ?side1 ?side2 A10.out).mono ?_);(case side1 => repeat (first|exact (Kd.b_d b_l.out (by repeat (first|(with_reducible first|exact HB.out|apply a_d|apply a_c|apply a_e|refine a_a ?_ d_O.out)|exact HB.out)))|(with_reducible refine Kd.a_N ?_ _)|(with_reducible refine Kd.a_O ?_ _)|(with_reducible refine Kd.a_8 ?_)));(case side2 => exact c_h.out);rintro e w17 ⟨rfl,hb⟩;replace HO_7:=a_b.mk (Kd.a_B (rup_ HO_7.out) hb);replace c_2:=a_b.mk (a_h (bup_ c_2.out) hb);replace HB:=a_b.mk (a_l (by repeat (first|(with_reducible first|exact HB.out|apply a_d|apply a_c|apply a_e|refine a_a ?_ d_O.out)|exact HB.out)) hb);(try clear hb);(try clear hb2);(try clear hk);(try clear hi)))
      go_roundg k2
      case measure => have:=HK1.out;have:=HK2.out;omega
      case rel => exact ⟨(x7_2),(wrap64 (x17_2 + 1)),(by first|rfl|(simp;done)|(simp [*];done)),H',⟨by have:=HK1.out;have:=HK2.out;omega⟩,⟨by (with_reducible repeat (first|apply Kd.a_T|apply Kd.a_U|apply Kd.a_9));exact HO_7.out⟩,⟨by (with_reducible repeat (first|refine a_o ?_ _|refine a_q ?_|refine a_n ?_ _));exact c_2.out⟩,⟨by repeat (first|(with_reducible first|exact HB.out|apply a_d|apply a_c|apply a_e|refine a_a ?_ d_O.out)|exact HB.out)⟩⟩
     rw [if_pos c11] at H
     have c11b0 : (t240 == x8_1) = true:=beq_iff_eq.mpr c11
     have c11b1 : (t240 != x8_1) = false:=bne_eq_false_iff_eq.mpr c11
     clear c11
     by_cases c12 : x7_2.length < 17592186044416
     rotate_left
     ·rw [if_neg c12] at H
      exact absurd H (by simp)
     rw [if_pos c12] at H
     have LMc12:=a_b.mk c12
     clear c12
     obtain ⟨y241,hy241⟩ : ∃ y_ : List Int,y_ = (x7_2 ++ [x17_2]):=⟨_,rfl⟩
     replace H : (a_m.l1 k2 a1 a2 y241 x8_1 (l0_0.length : Int) (wrap64 (x17_2 + 1)) l0_0) = some r:=by first|(rw [hy241];with_reducible exact H)|(have H2_:=(Option.bind_some _ _).symm.trans H;rw [hy241];with_reducible exact H2_)|(have H2_:=(Option.bind_some _ _).symm.trans H;with_reducible exact H2_)|with_reducible exact H|(rw [hy241];exact H)|exact H
     have Ny241:=a_b.mk hy241
     clear hy241
     have H':=a_b.mk H
     clear H
     go_wp2_with (first|((with_reducible refine a_y (f:=45) rfl ?_);refine a_5 (some 22) rfl rfl Tryd.func45 (by kernel_rfl) rfl #[.int .u32 a2,.int .i64 x17_2] rfl (by (try simp only [List.map_toArray,List.map_cons,List.map_nil]);first|done|rfl|(simp only [List.length_drop,List.length_take];rfl)) ?_;(with_reducible refine (b_A.calls a2 x17_2 true _ A8.out).mono ?_);rintro e w' ⟨rfl,⟨nd,rfl⟩⟩;refine ⟨_,rfl,?_⟩;have j_o : wr.cell? ⟨f_w,0,none⟩ = some (.slice A0_0 l0_0.length c0_0):=(a_k c_2.out 0).trans rfl;have j_y:=a_g c_2.out 0)|(go_at_call 19;(with_reducible refine (a_S.calls _ _ l0_0 a1 x17_2 t240 _ ?side1 ?side2 A10.out).mono ?_);(case side1 => repeat (first|exact (Kd.b_d b_l.out (by repeat (first|(with_reducible first|exact HB.out|apply a_d|apply a_c|apply a_e|refine a_a ?_ d_O.out)|exact HB.out)))|(with_reducible refine Kd.a_N ?_ _)|(with_reducible refine Kd.a_O ?_ _)|(with_reducible refine Kd.a_8 ?_)));(case side2 => exact c_h.out);rintro e w14 ⟨rfl,hb⟩;replace HO_7:=a_b.mk (Kd.a_B (rup_ HO_7.out) hb);replace c_2:=a_b.mk (a_h (bup_ c_2.out) hb);replace HB:=a_b.mk (a_l (by repeat (first|(with_reducible first|exact HB.out|apply a_d|apply a_c|apply a_e|refine a_a ?_ d_O.out)|exact HB.out)) hb);(try clear hb);(try clear hb2);(try clear hk);(try clear hi))|((with_reducible refine d_0 (b:=.append) (xs:=#[.tmp 31,.tmp 33]) rfl ?_);at_builtin;refine Kd.i_w (Kd.int .i64) (w0:=w) w.heap.size rfl (.tmp 31) (.tmp 33) 46 3 (.int .i64 0) 8 rfl Tryd.underlying46 info3 rfl (by decide) (by omega) u7 x7_2 x17_2 [.int .i64 x17_2] (fun _ => True) (fun _ => False) rfl rfl ?aP (fun _ hk => hk.elim) ?aF ?aO ?aB ?aS ?aL ?_;(case aP => exact rfl);(case aB => exact (by repeat (first|(with_reducible first|exact HB.out|apply a_d|apply a_c|apply a_e|refine a_a ?_ d_O.out)|exact HB.out)));(case aF => exact (fun _ _ => trivial));(case aO => exact (rup_ HO_7.out));(case aS => exact (a_i (by repeat (first|(with_reducible first|exact HB.out|apply a_d|apply a_c|apply a_e|refine a_a ?_ d_O.out)|exact HB.out))));(case aL => have:=LMc12.out;omega);intro v242 w15 ho hb hg hat;rw [← Ny241.out] at ho;have m_5:=a_b.mk (ho);replace c_2:=a_b.mk (d_j (g:=f_w) (o:=.cells #[.slice A0_0 l0_0.length c0_0] 24 (0,0)) (bup_ c_2.out) hg (Kd.R_ne HO_7.out c_2.out (by decide)));replace HB:=a_b.mk (hb);clear HO_7 ho hb hg hat))
     go_roundg k2
     case measure => have:=HK1.out;have:=HK2.out;omega
     case rel => exact ⟨(y241),(wrap64 (x17_2 + 1)),(by first|rfl|(simp;done)|(simp [*];done)),H',⟨by have:=HK1.out;have:=HK2.out;omega⟩,⟨by (with_reducible repeat (first|apply Kd.a_T|apply Kd.a_U|apply Kd.a_9));exact m_5.out⟩,⟨by (with_reducible repeat (first|refine a_o ?_ _|refine a_q ?_|refine a_n ?_ _));exact c_2.out⟩,⟨by repeat (first|(with_reducible first|exact HB.out|apply a_d|apply a_c|apply a_e|refine a_a ?_ d_O.out)|exact HB.out)⟩⟩
end Go.Proofs.YtcpfcehfgenljaaDoor.Q
end
section
namespace Go.Proofs.YtcpfcehfgenljaaDoor.Q
open Go.RowKit Go.Proofs.YtcpfcehfgenljaaDoorW.PrintWords Go.Proofs.YtcpfcehfgenljaaDoorW.PrintLast Go.Proofs.YtcpfcehfgenljaaDoorW.PrintMore
set_option linter.unusedVariables false
set_option linter.unusedSimpArgs false
def a_j.l0 : Nat → List Int → List Int → Int → Int → Option (Bool)
 | 0,_,_,_,_ => none
 | k + 1,x0,x1,x12,x13 => if x13 < x12 then (if 0 ≤ x13 then (if x13 < (x0.length : Int) then (if x13 < (x1.length : Int) then (if (rd x0 x13) = (rd x1 x13) then (a_j.l0 k x0 x1 x12 (wrap64 (x13 + 1))) else (some false)) else (none)) else (none)) else (none)) else (some true)
def a_j.f (k : Nat) (l0 : List Int) (l1 : List Int) : Option (Bool):=if (l0.length : Int) = (l1.length : Int) then (a_j.l0 k l0 l1 (l0.length : Int) 0) else (some false)
theorem a_j.c_w : ∀ k,(∀ y0 y1 y2 y3,LeO (a_j.l0 k y0 y1 y2 y3) (a_j.l0 (k + 1) y0 y1 y2 y3))
 | 0 => fun _ _ _ _ r h => by simp [a_j.l0] at h
 | k + 1 => by
  have ih0:=a_j.c_w k
  ·intro y0 y1 y2 y3
   unfold a_j.l0
   repeat' first
   | (with_reducible exact ih0 _ _ _ _)
   | (with_reducible exact LeO.refl _)
   | (with_reducible exact LeO.none _)
   | (with_reducible refine LeO.ite ?_ ?_)
   | (with_reducible refine LeO.bind ?_ (fun _ => ?_))
   | exact ih0 _ _ _ _
   | exact LeO.none _
   | refine LeO.ite ?_ ?_
   | refine LeO.bind ?_ (fun _ => ?_)
theorem a_j.mono : ∀ a0 a1 k,LeO (a_j.f k a0 a1) (a_j.f (k + 1) a0 a1):=by
 intro a0 a1 k
 have ih0:=a_j.c_w k
 unfold a_j.f
 repeat' first
  | (with_reducible exact ih0 _ _ _ _)
  | (with_reducible exact LeO.refl _)
  | (with_reducible exact LeO.none _)
  | (with_reducible refine LeO.ite ?_ ?_)
  | (with_reducible refine LeO.bind ?_ (fun _ => ?_))
  | exact ih0 _ _ _ _
  | exact LeO.none _
  | refine LeO.ite ?_ ?_
  | refine LeO.bind ?_ (fun _ => ?_)
set_option maxHeartbeats 8000000 in
set_option maxRecDepth 100000 in
theorem a_j.calls (k : Nat) (A0 : Option Addr) (c0 : Nat) (l0 : List Int) (A1 : Option Addr) (c1 : Nat) (l1 : List Int) (r : Bool) (w : World) (hr0 : Kd.C (Kd.int .i64) w A0 l0.length l0) (hc0 : l0.length ≤ c0) (hr1 : Kd.C (Kd.int .i64) w A1 l1.length l1) (hc1 : l1.length ≤ c1) (h : a_j.f k l0 l1 = some r) :
 Calls Tryd.prog 23 #[.slice A0 l0.length c0,.slice A1 l1.length c1] w fun e w' => e = .returned (.bool r) ∧ b_k w w':=by
 have HR0:=a_b.mk hr0
 have HC0:=a_b.mk hc0
 clear hr0 hc0
 have HR1:=a_b.mk hr1
 have HC1:=a_b.mk hc1
 clear hr1 hc1
 have H : (if (l0.length : Int) = (l1.length : Int) then (a_j.l0 k l0 l1 (l0.length : Int) 0) else (some false)) = some r:=h
 clear h
 by_cases c3 : (l0.length : Int) = (l1.length : Int)
 rotate_left
 ·rw [if_neg c3] at H
  have c3b0 : ((l0.length : Int) == (l1.length : Int)) = false:=beq_eq_false_iff_ne.mpr c3
  have c3b1 : ((l0.length : Int) != (l1.length : Int)) = true:=bne_iff_ne.mpr c3
  have c3b2 : (l0.length == l1.length) = false:=by first|simpa using c3|(simp at c3 ⊢; omega)
  obtain rfl:=Option.some.inj H
  go_enter Tryd.func23,Tryd.ntmps23
  go_wp2
  repeat (go_quiet (fail);try go_wp2)
  go_ret
  exact ⟨by first|rfl|(simp;done)|(simp [*];done),by repeat (first|exact b_k.refl _|apply b_k.step)⟩
 rw [if_pos c3] at H
 have c3b0 : ((l0.length : Int) == (l1.length : Int)) = true:=beq_iff_eq.mpr c3
 have c3b1 : ((l0.length : Int) != (l1.length : Int)) = false:=bne_eq_false_iff_eq.mpr c3
 have c3b2 : (l0.length == l1.length) = true:=by first|simpa using c3|(simp at c3 ⊢; omega)
 clear c3
 have H':=a_b.mk H
 clear H
 go_enter Tryd.func23,Tryd.ntmps23
 go_wp2
 repeat (go_quiet (fail);try go_wp2)
 go_loopg [13] k (fun kq v13 w' => ∃ (x13_1 : Int),v13 = .int .i64 x13_1 ∧ a_b (a_j.l0 kq l0 l1 (l0.length : Int) x13_1 = some r) ∧ a_b (kq ≤ k) ∧ b_k w w')
 case atStart => exact ⟨(0),(by first|rfl|(simp;done)|(simp [*];done)),H',⟨Nat.le_refl _⟩,by repeat (first|exact b_k.refl _|apply b_k.step)⟩
 case round =>
  clear H'
  try clear c1
  try clear c2
  try clear p2
  try clear c3
  try clear c3b0
  try clear c3b1
  try clear c3b2
  obtain ⟨x13_1,rfl,HA,HK1,⟨m1,rfl⟩⟩:=hrel
  cases gk with
  | zero => exact absurd HA.out (by simp [a_j.l0])
  | succ k1 =>
   have H:=HA.out
   clear HA
   simp only [a_j.l0] at H
   by_cases c4 : x13_1 < (l0.length : Int)
   rotate_left
   ·rw [if_neg c4] at H
    have c4b0 : decide (x13_1 < (l0.length : Int)) = false:=decide_eq_false c4
    clear c4
    obtain rfl:=Option.some.inj H
    go_wp2
    repeat (go_quiet (fail);try go_wp2)
    go_ret
    exact ⟨by first|rfl|(simp;done)|(simp [*];done),by repeat (first|exact b_k.refl _|apply b_k.step)⟩
   rw [if_pos c4] at H
   have c4b0 : decide (x13_1 < (l0.length : Int)) = true:=decide_eq_true c4
   clear c4
   by_cases c5 : 0 ≤ x13_1
   rotate_left
   ·rw [if_neg c5] at H
    exact absurd H (by simp)
   rw [if_pos c5] at H
   have c5b0 : decide (0 ≤ x13_1) = true:=decide_eq_true c5
   clear c5
   by_cases c6 : x13_1 < (l0.length : Int)
   rotate_left
   ·rw [if_neg c6] at H
    exact absurd H (by simp)
   rw [if_pos c6] at H
   have c6b0 : decide (x13_1 < (l0.length : Int)) = true:=decide_eq_true c6
   clear c6
   by_cases c7 : x13_1 < (l1.length : Int)
   rotate_left
   ·rw [if_neg c7] at H
    exact absurd H (by simp)
   rw [if_pos c7] at H
   have c7b0 : decide (x13_1 < (l1.length : Int)) = true:=decide_eq_true c7
   clear c7
   by_cases c8 : (rd l0 x13_1) = (rd l1 x13_1)
   rotate_left
   ·rw [if_neg c8] at H
    have c8b0 : ((rd l0 x13_1) == (rd l1 x13_1)) = false:=beq_eq_false_iff_ne.mpr c8
    have c8b1 : ((rd l0 x13_1) != (rd l1 x13_1)) = true:=bne_iff_ne.mpr c8
    obtain rfl:=Option.some.inj H
    have p244 : 0 ≤ (x13_1 : Int):=of_decide_eq_true (by first|(with_reducible assumption)|assumption)
    have q244 : x13_1 < (l0.length : Int):=of_decide_eq_true (by first|(with_reducible assumption)|assumption)
    obtain ⟨ad244,e244,j_H⟩:=Kd.c_B HR0.out x13_1 p244 q244
    cases e244
    replace p244:=eq_true p244
    replace q244:=eq_true q244
    have p245 : 0 ≤ (x13_1 : Int):=of_decide_eq_true (by first|(with_reducible assumption)|assumption)
    have q245 : x13_1 < (l1.length : Int):=of_decide_eq_true (by first|(with_reducible assumption)|assumption)
    obtain ⟨ad245,e245,j_I⟩:=Kd.c_B HR1.out x13_1 p245 q245
    cases e245
    replace p245:=eq_true p245
    replace q245:=eq_true q245
    go_wp2
    repeat (go_quiet (fail);try go_wp2)
    go_ret
    exact ⟨by first|rfl|(simp;done)|(simp [*];done),by repeat (first|exact b_k.refl _|apply b_k.step)⟩
   rw [if_pos c8] at H
   have c8b0 : ((rd l0 x13_1) == (rd l1 x13_1)) = true:=beq_iff_eq.mpr c8
   have c8b1 : ((rd l0 x13_1) != (rd l1 x13_1)) = false:=bne_eq_false_iff_eq.mpr c8
   clear c8
   have H':=a_b.mk H
   clear H
   have p244 : 0 ≤ (x13_1 : Int):=of_decide_eq_true (by first|(with_reducible assumption)|assumption)
   have q244 : x13_1 < (l0.length : Int):=of_decide_eq_true (by first|(with_reducible assumption)|assumption)
   obtain ⟨ad244,e244,j_H⟩:=Kd.c_B HR0.out x13_1 p244 q244
   cases e244
   replace p244:=eq_true p244
   replace q244:=eq_true q244
   have p245 : 0 ≤ (x13_1 : Int):=of_decide_eq_true (by first|(with_reducible assumption)|assumption)
   have q245 : x13_1 < (l1.length : Int):=of_decide_eq_true (by first|(with_reducible assumption)|assumption)
   obtain ⟨ad245,e245,j_I⟩:=Kd.c_B HR1.out x13_1 p245 q245
   cases e245
   replace p245:=eq_true p245
   replace q245:=eq_true q245
   go_wp2
   repeat (go_quiet (fail);try go_wp2)
   go_roundg k1
   case measure => have:=HK1.out;omega
   case rel => exact ⟨(wrap64 (x13_1 + 1)),(by first|rfl|(simp;done)|(simp [*];done)),H',⟨by have:=HK1.out;omega⟩,by repeat (first|exact b_k.refl _|apply b_k.step)⟩
end Go.Proofs.YtcpfcehfgenljaaDoor.Q
end
section
namespace Go.Proofs.YtcpfcehfgenljaaDoor.Q
open Go.RowKit Go.Proofs.YtcpfcehfgenljaaDoorW.PrintWords Go.Proofs.YtcpfcehfgenljaaDoorW.PrintLast Go.Proofs.YtcpfcehfgenljaaDoorW.PrintMore
set_option linter.unusedVariables false
set_option linter.unusedSimpArgs false
attribute [local go_sem high] j_h
def a_w.l0 : Nat → Int → Int → List (S56) → List (S56) → Option (Bool)
 | 0,_,_,_,_ => none
 | k + 1,x15,x16,x247000,x248000 => if x16 < x15 then (if 0 ≤ x16 then (if x16 < (x247000.length : Int) then (if x16 < (x248000.length : Int) then (if (!(((a_x x247000 x16).f0) == ((a_x x248000 x16).f0)) || (!(((a_x x247000 x16).f1) == ((a_x x248000 x16).f1)))) = true then (some false) else (a_w.l0 k x15 (wrap64 (x16 + 1)) x247000 x248000)) else (none)) else (none)) else (none)) else (some true)
def a_w.f (k : Nat) (l0_0 : List (S56)) (l1_0 : List (S56)) : Option (Bool):=if (l0_0.length : Int) = (l1_0.length : Int) then (a_w.l0 k (l0_0.length : Int) 0 l0_0 l1_0) else (some false)
theorem a_w.c_w : ∀ k,(∀ y0 y1 y2 y3,LeO (a_w.l0 k y0 y1 y2 y3) (a_w.l0 (k + 1) y0 y1 y2 y3))
 | 0 => fun _ _ _ _ r h => by simp [a_w.l0] at h
 | k + 1 => by
  have ih0:=a_w.c_w k
  ·intro y0 y1 y2 y3
   unfold a_w.l0
   repeat' first
   | (with_reducible exact ih0 _ _ _ _)
   | (with_reducible exact LeO.refl _)
   | (with_reducible exact LeO.none _)
   | (with_reducible refine LeO.ite ?_ ?_)
   | (with_reducible refine LeO.bind ?_ (fun _ => ?_))
   | exact ih0 _ _ _ _
   | exact LeO.none _
   | refine LeO.ite ?_ ?_
   | refine LeO.bind ?_ (fun _ => ?_)
theorem a_w.mono : ∀ a0 a1 k,LeO (a_w.f k a0 a1) (a_w.f (k + 1) a0 a1):=by
 intro a0 a1 k
 have ih0:=a_w.c_w k
 unfold a_w.f
 repeat' first
  | (with_reducible exact ih0 _ _ _ _)
  | (with_reducible exact LeO.refl _)
  | (with_reducible exact LeO.none _)
  | (with_reducible refine LeO.ite ?_ ?_)
  | (with_reducible refine LeO.bind ?_ (fun _ => ?_))
  | exact ih0 _ _ _ _
  | exact LeO.none _
  | refine LeO.ite ?_ ?_
  | refine LeO.bind ?_ (fun _ => ?_)
set_option maxHeartbeats 8000000 in
set_option maxRecDepth 100000 in
theorem a_w.calls (k : Nat) (A0_0 : Option Addr) (c0_0 : Nat) (l0_0 : List (S56)) (A1_0 : Option Addr) (c1_0 : Nat) (l1_0 : List (S56)) (r : Bool) (w : World) (hr0_0 : Kd.C k56 w A0_0 l0_0.length l0_0) (hc0_0 : l0_0.length ≤ c0_0) (hr1_0 : Kd.C k56 w A1_0 l1_0.length l1_0) (hc1_0 : l1_0.length ≤ c1_0) (h : a_w.f k l0_0 l1_0 = some r) :
 Calls Tryd.prog 24 #[.agg #[.slice A0_0 l0_0.length c0_0],.agg #[.slice A1_0 l1_0.length c1_0]] w fun e w' => e = .returned (.bool r) ∧ Below w.heap.size w w':=by
 have hu24:=Tryd.underlying24
 have hu56:=Tryd.underlying56
 have b_l:=a_b.mk hr0_0
 have c_h:=a_b.mk hc0_0
 clear hr0_0 hc0_0
 have j_4:=a_b.mk hr1_0
 have q_7:=a_b.mk hc1_0
 clear hr1_0 hc1_0
 have HB:=a_b.mk (Below.refl w.heap.size w)
 have H : (if (l0_0.length : Int) = (l1_0.length : Int) then (a_w.l0 k (l0_0.length : Int) 0 l0_0 l1_0) else (some false)) = some r:=h
 clear h
 by_cases c3 : (l0_0.length : Int) = (l1_0.length : Int)
 rotate_left
 ·rw [if_neg c3] at H
  have c3b0 : ((l0_0.length : Int) == (l1_0.length : Int)) = false:=beq_eq_false_iff_ne.mpr c3
  have c3b1 : ((l0_0.length : Int) != (l1_0.length : Int)) = true:=bne_iff_ne.mpr c3
  have c3b2 : (l0_0.length == l1_0.length) = false:=by first|simpa using c3|(simp at c3 ⊢; omega)
  obtain rfl:=Option.some.inj H
  go_enter Tryd.func24,Tryd.ntmps24
  go_wp2_with (first|((with_reducible refine a_J (N:=2) rfl ?_);refine a_F ?hg (N:=2) ?hd (cs:=#[.slice A0_0 l0_0.length c0_0]) (t:=24) ?hr ?_;(case hd => rfl);(case hg => rfl);(case hr => first|(go_simp;done)|(go_simp;rfl));intro c_j hg w20 hbox hb;have b_3:=a_b.mk (hbox);have h_k:=a_b.mk ((by rw [hg];exact (a_i (lup_ HB.out)) : w.heap.size ≤ c_j));have c_L:=a_b.mk ((by rw [hg];exact (a_i (lup_ HB.out)) : w.heap.size ≤ c_j));replace HB:=a_b.mk (a_l (lup_ HB.out) hb);clear hb hbox hg)|((with_reducible refine a_J (N:=3) rfl ?_);refine a_F ?hg (N:=3) ?hd (cs:=#[.slice A1_0 l1_0.length c1_0]) (t:=24) ?hr ?_;(case hd => rfl);(case hg => rfl);(case hr => first|(go_simp;done)|(go_simp;rfl));intro c_k hg w21 hbox hb;have c_R:=a_b.mk (hbox);have h_l:=a_b.mk ((by rw [hg];exact (a_i (by repeat (first|(with_reducible first|exact HB.out|apply a_d|apply a_c|apply a_e|refine a_a ?_ c_L.out)|exact HB.out))) : w.heap.size ≤ c_k));have e_x:=a_b.mk ((by rw [hg];exact (a_i (by repeat (first|(with_reducible first|exact HB.out|apply a_d|apply a_c|apply a_e|refine a_a ?_ c_L.out)|exact HB.out))) : w.heap.size ≤ c_k));have b_9:=a_b.mk ((by rw [hg];exact Nat.ne_of_lt (a_M (bup_ b_3.out)) : c_j ≠ c_k));have c_a:=a_b.mk ((by rw [hg];exact Nat.ne_of_gt (a_M (bup_ b_3.out)) : c_k ≠ c_j));replace b_3:=a_b.mk (a_h (bup_ b_3.out) hb);replace HB:=a_b.mk (a_l (by repeat (first|(with_reducible first|exact HB.out|apply a_d|apply a_c|apply a_e|refine a_a ?_ c_L.out)|exact HB.out)) hb);clear hb hbox hg;have j_E:=b_9.out;have j_F:=c_a.out;have d_m : w21.cell? ⟨c_j,0,none⟩ = some (.slice A0_0 l0_0.length c0_0):=(a_k b_3.out 0).trans rfl;have d_p:=a_g b_3.out 0;have h_K : w21.cell? ⟨c_k,0,none⟩ = some (.slice A1_0 l1_0.length c1_0):=(a_k c_R.out 0).trans rfl;have h_S:=a_g c_R.out 0))
  repeat (go_quiet (first|((with_reducible refine a_J (N:=2) rfl ?_);refine a_F ?hg (N:=2) ?hd (cs:=#[.slice A0_0 l0_0.length c0_0]) (t:=24) ?hr ?_;(case hd => rfl);(case hg => rfl);(case hr => first|(go_simp;done)|(go_simp;rfl));intro c_j hg w20 hbox hb;have b_3:=a_b.mk (hbox);have h_k:=a_b.mk ((by rw [hg];exact (a_i (lup_ HB.out)) : w.heap.size ≤ c_j));have c_L:=a_b.mk ((by rw [hg];exact (a_i (lup_ HB.out)) : w.heap.size ≤ c_j));replace HB:=a_b.mk (a_l (lup_ HB.out) hb);clear hb hbox hg)|((with_reducible refine a_J (N:=3) rfl ?_);refine a_F ?hg (N:=3) ?hd (cs:=#[.slice A1_0 l1_0.length c1_0]) (t:=24) ?hr ?_;(case hd => rfl);(case hg => rfl);(case hr => first|(go_simp;done)|(go_simp;rfl));intro c_k hg w21 hbox hb;have c_R:=a_b.mk (hbox);have h_l:=a_b.mk ((by rw [hg];exact (a_i (by repeat (first|(with_reducible first|exact HB.out|apply a_d|apply a_c|apply a_e|refine a_a ?_ c_L.out)|exact HB.out))) : w.heap.size ≤ c_k));have e_x:=a_b.mk ((by rw [hg];exact (a_i (by repeat (first|(with_reducible first|exact HB.out|apply a_d|apply a_c|apply a_e|refine a_a ?_ c_L.out)|exact HB.out))) : w.heap.size ≤ c_k));have b_9:=a_b.mk ((by rw [hg];exact Nat.ne_of_lt (a_M (bup_ b_3.out)) : c_j ≠ c_k));have c_a:=a_b.mk ((by rw [hg];exact Nat.ne_of_gt (a_M (bup_ b_3.out)) : c_k ≠ c_j));replace b_3:=a_b.mk (a_h (bup_ b_3.out) hb);replace HB:=a_b.mk (a_l (by repeat (first|(with_reducible first|exact HB.out|apply a_d|apply a_c|apply a_e|refine a_a ?_ c_L.out)|exact HB.out)) hb);clear hb hbox hg;have j_E:=b_9.out;have j_F:=c_a.out;have d_m : w21.cell? ⟨c_j,0,none⟩ = some (.slice A0_0 l0_0.length c0_0):=(a_k b_3.out 0).trans rfl;have d_p:=a_g b_3.out 0;have h_K : w21.cell? ⟨c_k,0,none⟩ = some (.slice A1_0 l1_0.length c1_0):=(a_k c_R.out 0).trans rfl;have h_S:=a_g c_R.out 0));try go_wp2_with (first|((with_reducible refine a_J (N:=2) rfl ?_);refine a_F ?hg (N:=2) ?hd (cs:=#[.slice A0_0 l0_0.length c0_0]) (t:=24) ?hr ?_;(case hd => rfl);(case hg => rfl);(case hr => first|(go_simp;done)|(go_simp;rfl));intro c_j hg w20 hbox hb;have b_3:=a_b.mk (hbox);have h_k:=a_b.mk ((by rw [hg];exact (a_i (lup_ HB.out)) : w.heap.size ≤ c_j));have c_L:=a_b.mk ((by rw [hg];exact (a_i (lup_ HB.out)) : w.heap.size ≤ c_j));replace HB:=a_b.mk (a_l (lup_ HB.out) hb);clear hb hbox hg)|((with_reducible refine a_J (N:=3) rfl ?_);refine a_F ?hg (N:=3) ?hd (cs:=#[.slice A1_0 l1_0.length c1_0]) (t:=24) ?hr ?_;(case hd => rfl);(case hg => rfl);(case hr => first|(go_simp;done)|(go_simp;rfl));intro c_k hg w21 hbox hb;have c_R:=a_b.mk (hbox);have h_l:=a_b.mk ((by rw [hg];exact (a_i (by repeat (first|(with_reducible first|exact HB.out|apply a_d|apply a_c|apply a_e|refine a_a ?_ c_L.out)|exact HB.out))) : w.heap.size ≤ c_k));have e_x:=a_b.mk ((by rw [hg];exact (a_i (by repeat (first|(with_reducible first|exact HB.out|apply a_d|apply a_c|apply a_e|refine a_a ?_ c_L.out)|exact HB.out))) : w.heap.size ≤ c_k));have b_9:=a_b.mk ((by rw [hg];exact Nat.ne_of_lt (a_M (bup_ b_3.out)) : c_j ≠ c_k));have c_a:=a_b.mk ((by rw [hg];exact Nat.ne_of_gt (a_M (bup_ b_3.out)) : c_k ≠ c_j));replace b_3:=a_b.mk (a_h (bup_ b_3.out) hb);replace HB:=a_b.mk (a_l (by repeat (first|(with_reducible first|exact HB.out|apply a_d|apply a_c|apply a_e|refine a_a ?_ c_L.out)|exact HB.out)) hb);clear hb hbox hg;have j_E:=b_9.out;have j_F:=c_a.out;have d_m : w21.cell? ⟨c_j,0,none⟩ = some (.slice A0_0 l0_0.length c0_0):=(a_k b_3.out 0).trans rfl;have d_p:=a_g b_3.out 0;have h_K : w21.cell? ⟨c_k,0,none⟩ = some (.slice A1_0 l1_0.length c1_0):=(a_k c_R.out 0).trans rfl;have h_S:=a_g c_R.out 0)))
  go_ret
  exact ⟨by first|rfl|(simp [a_t,a_u] <;> rfl)|(simp [*, a_t,a_u] <;> rfl),by repeat (first|(with_reducible first|exact HB.out|apply a_d|apply a_c|apply a_e|refine a_a ?_ c_L.out|refine a_a ?_ e_x.out)|exact HB.out)⟩
 rw [if_pos c3] at H
 have c3b0 : ((l0_0.length : Int) == (l1_0.length : Int)) = true:=beq_iff_eq.mpr c3
 have c3b1 : ((l0_0.length : Int) != (l1_0.length : Int)) = false:=bne_eq_false_iff_eq.mpr c3
 have c3b2 : (l0_0.length == l1_0.length) = true:=by first|simpa using c3|(simp at c3 ⊢; omega)
 clear c3
 have H':=a_b.mk H
 clear H
 go_enter Tryd.func24,Tryd.ntmps24
 go_wp2_with (first|((with_reducible refine a_J (N:=2) rfl ?_);refine a_F ?hg (N:=2) ?hd (cs:=#[.slice A0_0 l0_0.length c0_0]) (t:=24) ?hr ?_;(case hd => rfl);(case hg => rfl);(case hr => first|(go_simp;done)|(go_simp;rfl));intro c_j hg w4 hbox hb;have b_3:=a_b.mk (hbox);have h_k:=a_b.mk ((by rw [hg];exact (a_i (lup_ HB.out)) : w.heap.size ≤ c_j));have c_L:=a_b.mk ((by rw [hg];exact (a_i (lup_ HB.out)) : w.heap.size ≤ c_j));replace HB:=a_b.mk (a_l (lup_ HB.out) hb);clear hb hbox hg)|((with_reducible refine a_J (N:=3) rfl ?_);refine a_F ?hg (N:=3) ?hd (cs:=#[.slice A1_0 l1_0.length c1_0]) (t:=24) ?hr ?_;(case hd => rfl);(case hg => rfl);(case hr => first|(go_simp;done)|(go_simp;rfl));intro c_k hg w5 hbox hb;have c_R:=a_b.mk (hbox);have h_l:=a_b.mk ((by rw [hg];exact (a_i (by repeat (first|(with_reducible first|exact HB.out|apply a_d|apply a_c|apply a_e|refine a_a ?_ c_L.out)|exact HB.out))) : w.heap.size ≤ c_k));have e_x:=a_b.mk ((by rw [hg];exact (a_i (by repeat (first|(with_reducible first|exact HB.out|apply a_d|apply a_c|apply a_e|refine a_a ?_ c_L.out)|exact HB.out))) : w.heap.size ≤ c_k));have b_9:=a_b.mk ((by rw [hg];exact Nat.ne_of_lt (a_M (bup_ b_3.out)) : c_j ≠ c_k));have c_a:=a_b.mk ((by rw [hg];exact Nat.ne_of_gt (a_M (bup_ b_3.out)) : c_k ≠ c_j));replace b_3:=a_b.mk (a_h (bup_ b_3.out) hb);replace HB:=a_b.mk (a_l (by repeat (first|(with_reducible first|exact HB.out|apply a_d|apply a_c|apply a_e|refine a_a ?_ c_L.out)|exact HB.out)) hb);clear hb hbox hg;have hnb6:=b_9.out;have hnc6:=c_a.out;have e_K : w5.cell? ⟨c_j,0,none⟩ = some (.slice A0_0 l0_0.length c0_0):=(a_k b_3.out 0).trans rfl;have e_L:=a_g b_3.out 0;have g_O : w5.cell? ⟨c_k,0,none⟩ = some (.slice A1_0 l1_0.length c1_0):=(a_k c_R.out 0).trans rfl;have g_P:=a_g c_R.out 0))
 repeat (go_quiet (first|((with_reducible refine a_J (N:=2) rfl ?_);refine a_F ?hg (N:=2) ?hd (cs:=#[.slice A0_0 l0_0.length c0_0]) (t:=24) ?hr ?_;(case hd => rfl);(case hg => rfl);(case hr => first|(go_simp;done)|(go_simp;rfl));intro c_j hg w4 hbox hb;have b_3:=a_b.mk (hbox);have h_k:=a_b.mk ((by rw [hg];exact (a_i (lup_ HB.out)) : w.heap.size ≤ c_j));have c_L:=a_b.mk ((by rw [hg];exact (a_i (lup_ HB.out)) : w.heap.size ≤ c_j));replace HB:=a_b.mk (a_l (lup_ HB.out) hb);clear hb hbox hg)|((with_reducible refine a_J (N:=3) rfl ?_);refine a_F ?hg (N:=3) ?hd (cs:=#[.slice A1_0 l1_0.length c1_0]) (t:=24) ?hr ?_;(case hd => rfl);(case hg => rfl);(case hr => first|(go_simp;done)|(go_simp;rfl));intro c_k hg w5 hbox hb;have c_R:=a_b.mk (hbox);have h_l:=a_b.mk ((by rw [hg];exact (a_i (by repeat (first|(with_reducible first|exact HB.out|apply a_d|apply a_c|apply a_e|refine a_a ?_ c_L.out)|exact HB.out))) : w.heap.size ≤ c_k));have e_x:=a_b.mk ((by rw [hg];exact (a_i (by repeat (first|(with_reducible first|exact HB.out|apply a_d|apply a_c|apply a_e|refine a_a ?_ c_L.out)|exact HB.out))) : w.heap.size ≤ c_k));have b_9:=a_b.mk ((by rw [hg];exact Nat.ne_of_lt (a_M (bup_ b_3.out)) : c_j ≠ c_k));have c_a:=a_b.mk ((by rw [hg];exact Nat.ne_of_gt (a_M (bup_ b_3.out)) : c_k ≠ c_j));replace b_3:=a_b.mk (a_h (bup_ b_3.out) hb);replace HB:=a_b.mk (a_l (by repeat (first|(with_reducible first|exact HB.out|apply a_d|apply a_c|apply a_e|refine a_a ?_ c_L.out)|exact HB.out)) hb);clear hb hbox hg;have hnb6:=b_9.out;have hnc6:=c_a.out;have e_K : w5.cell? ⟨c_j,0,none⟩ = some (.slice A0_0 l0_0.length c0_0):=(a_k b_3.out 0).trans rfl;have e_L:=a_g b_3.out 0;have g_O : w5.cell? ⟨c_k,0,none⟩ = some (.slice A1_0 l1_0.length c1_0):=(a_k c_R.out 0).trans rfl;have g_P:=a_g c_R.out 0));try go_wp2_with (first|((with_reducible refine a_J (N:=2) rfl ?_);refine a_F ?hg (N:=2) ?hd (cs:=#[.slice A0_0 l0_0.length c0_0]) (t:=24) ?hr ?_;(case hd => rfl);(case hg => rfl);(case hr => first|(go_simp;done)|(go_simp;rfl));intro c_j hg w4 hbox hb;have b_3:=a_b.mk (hbox);have h_k:=a_b.mk ((by rw [hg];exact (a_i (lup_ HB.out)) : w.heap.size ≤ c_j));have c_L:=a_b.mk ((by rw [hg];exact (a_i (lup_ HB.out)) : w.heap.size ≤ c_j));replace HB:=a_b.mk (a_l (lup_ HB.out) hb);clear hb hbox hg)|((with_reducible refine a_J (N:=3) rfl ?_);refine a_F ?hg (N:=3) ?hd (cs:=#[.slice A1_0 l1_0.length c1_0]) (t:=24) ?hr ?_;(case hd => rfl);(case hg => rfl);(case hr => first|(go_simp;done)|(go_simp;rfl));intro c_k hg w5 hbox hb;have c_R:=a_b.mk (hbox);have h_l:=a_b.mk ((by rw [hg];exact (a_i (by repeat (first|(with_reducible first|exact HB.out|apply a_d|apply a_c|apply a_e|refine a_a ?_ c_L.out)|exact HB.out))) : w.heap.size ≤ c_k));have e_x:=a_b.mk ((by rw [hg];exact (a_i (by repeat (first|(with_reducible first|exact HB.out|apply a_d|apply a_c|apply a_e|refine a_a ?_ c_L.out)|exact HB.out))) : w.heap.size ≤ c_k));have b_9:=a_b.mk ((by rw [hg];exact Nat.ne_of_lt (a_M (bup_ b_3.out)) : c_j ≠ c_k));have c_a:=a_b.mk ((by rw [hg];exact Nat.ne_of_gt (a_M (bup_ b_3.out)) : c_k ≠ c_j));replace b_3:=a_b.mk (a_h (bup_ b_3.out) hb);replace HB:=a_b.mk (a_l (by repeat (first|(with_reducible first|exact HB.out|apply a_d|apply a_c|apply a_e|refine a_a ?_ c_L.out)|exact HB.out)) hb);clear hb hbox hg;have hnb6:=b_9.out;have hnc6:=c_a.out;have e_K : w5.cell? ⟨c_j,0,none⟩ = some (.slice A0_0 l0_0.length c0_0):=(a_k b_3.out 0).trans rfl;have e_L:=a_g b_3.out 0;have g_O : w5.cell? ⟨c_k,0,none⟩ = some (.slice A1_0 l1_0.length c1_0):=(a_k c_R.out 0).trans rfl;have g_P:=a_g c_R.out 0)))
 go_loopg [16] k (fun kq v16 w' => ∃ (x16_1 : Int),v16 = .int .i64 x16_1 ∧ a_b (a_w.l0 kq (l0_0.length : Int) x16_1 l0_0 l1_0 = some r) ∧ a_b (kq ≤ k) ∧ a_b (w'.heap[c_j]? = some (.cells #[(.slice A0_0 l0_0.length c0_0)] 24 (0,0))) ∧ a_b (w'.heap[c_k]? = some (.cells #[(.slice A1_0 l1_0.length c1_0)] 24 (0,0))) ∧ a_b (Below w.heap.size w w'))
 case atStart => exact ⟨(0),(by first|rfl|(simp;done)|(simp [*];done)),H',⟨Nat.le_refl _⟩,⟨by (with_reducible repeat (first|refine a_o ?_ _|refine a_q ?_|refine a_n ?_ _));exact b_3.out⟩,⟨by (with_reducible repeat (first|refine a_o ?_ _|refine a_q ?_|refine a_n ?_ _));exact c_R.out⟩,⟨by repeat (first|(with_reducible first|exact HB.out|apply a_d|apply a_c|apply a_e|refine a_a ?_ c_L.out|refine a_a ?_ e_x.out)|exact HB.out)⟩⟩
 case round =>
  clear H'
  try clear c1
  try clear c2
  try clear p2
  try clear c3
  try clear c3b0
  try clear c3b1
  try clear c3b2
  try clear c6
  try clear e_K
  try clear g_O
  try clear e_L
  try clear g_P
  obtain ⟨x16_1,rfl,HA,HK1,b_3,c_R,HB⟩:=hrel
  cases gk with
  | zero => exact absurd HA.out (by simp [a_w.l0])
  | succ k1 =>
   have H:=HA.out
   clear HA
   simp only [a_w.l0] at H
   by_cases c9 : x16_1 < (l0_0.length : Int)
   rotate_left
   ·rw [if_neg c9] at H
    have c9b0 : decide (x16_1 < (l0_0.length : Int)) = false:=decide_eq_false c9
    clear c9
    obtain rfl:=Option.some.inj H
    go_wp2
    repeat (go_quiet (fail);try go_wp2)
    go_ret
    exact ⟨by first|rfl|(simp [a_t,a_u] <;> rfl)|(simp [*, a_t,a_u] <;> rfl),by repeat (first|(with_reducible first|exact HB.out|apply a_d|apply a_c|apply a_e|refine a_a ?_ c_L.out|refine a_a ?_ e_x.out)|exact HB.out)⟩
   rw [if_pos c9] at H
   have c9b0 : decide (x16_1 < (l0_0.length : Int)) = true:=decide_eq_true c9
   clear c9
   by_cases c10 : 0 ≤ x16_1
   rotate_left
   ·rw [if_neg c10] at H
    exact absurd H (by simp)
   rw [if_pos c10] at H
   have c10b0 : decide (0 ≤ x16_1) = true:=decide_eq_true c10
   clear c10
   by_cases c11 : x16_1 < (l0_0.length : Int)
   rotate_left
   ·rw [if_neg c11] at H
    exact absurd H (by simp)
   rw [if_pos c11] at H
   have c11b0 : decide (x16_1 < (l0_0.length : Int)) = true:=decide_eq_true c11
   clear c11
   by_cases c12 : x16_1 < (l1_0.length : Int)
   rotate_left
   ·rw [if_neg c12] at H
    exact absurd H (by simp)
   rw [if_pos c12] at H
   have c12b0 : decide (x16_1 < (l1_0.length : Int)) = true:=decide_eq_true c12
   clear c12
   by_cases c13 : (!(((a_x l0_0 x16_1).f0) == ((a_x l1_0 x16_1).f0)) || (!(((a_x l0_0 x16_1).f1) == ((a_x l1_0 x16_1).f1)))) = true
   ·rw [if_pos c13] at H
    have c13b0 : (!(((a_x l0_0 x16_1).f0) == ((a_x l1_0 x16_1).f0)) || (!(((a_x l0_0 x16_1).f1) == ((a_x l1_0 x16_1).f1)))) = true:=c13
    clear c13
    obtain rfl:=Option.some.inj H
    have n_7:=b_9.out
    have o_d:=c_a.out
    have d_l : wr.cell? ⟨c_j,0,none⟩ = some (.slice A0_0 l0_0.length c0_0):=(a_k b_3.out 0).trans rfl
    have d_o:=a_g b_3.out 0
    have p248 : 0 ≤ (x16_1 : Int):=of_decide_eq_true (by first|(with_reducible assumption)|assumption)
    have q248 : x16_1 < (l0_0.length : Int):=of_decide_eq_true (by first|(with_reducible assumption)|assumption)
    obtain ⟨ad248,e248,d_D,d_E⟩:=b_r b_l.out x16_1 p248 q248
    cases e248
    replace d_D:=(HB.out.cell (World.block_lt_of_cell? w _ d_D)).trans d_D
    replace d_E:=(HB.out.cell (World.block_lt_of_cell? w _ d_E)).trans d_E
    replace p248:=eq_true p248
    replace q248:=eq_true q248
    have e_5 : wr.cell? ⟨c_k,0,none⟩ = some (.slice A1_0 l1_0.length c1_0):=(a_k c_R.out 0).trans rfl
    have f_a:=a_g c_R.out 0
    have p249 : 0 ≤ (x16_1 : Int):=of_decide_eq_true (by first|(with_reducible assumption)|assumption)
    have q249 : x16_1 < (l1_0.length : Int):=of_decide_eq_true (by first|(with_reducible assumption)|assumption)
    obtain ⟨ad249,e249,d_F,d_G⟩:=b_r j_4.out x16_1 p249 q249
    cases e249
    replace d_F:=(HB.out.cell (World.block_lt_of_cell? w _ d_F)).trans d_F
    replace d_G:=(HB.out.cell (World.block_lt_of_cell? w _ d_G)).trans d_G
    replace p249:=eq_true p249
    replace q249:=eq_true q249
    go_wp2
    repeat (go_quiet (fail);try go_wp2)
    go_ret
    exact ⟨by first|rfl|(simp [a_t,a_u] <;> rfl)|(simp [*, a_t,a_u] <;> rfl),by repeat (first|(with_reducible first|exact HB.out|apply a_d|apply a_c|apply a_e|refine a_a ?_ c_L.out|refine a_a ?_ e_x.out)|exact HB.out)⟩
   rw [if_neg c13] at H
   have c13b0 : (!(((a_x l0_0 x16_1).f0) == ((a_x l1_0 x16_1).f0)) || (!(((a_x l0_0 x16_1).f1) == ((a_x l1_0 x16_1).f1)))) = false:=by simpa using c13
   clear c13
   have H':=a_b.mk H
   clear H
   have n_8:=b_9.out
   have o_e:=c_a.out
   have h_G : wr.cell? ⟨c_j,0,none⟩ = some (.slice A0_0 l0_0.length c0_0):=(a_k b_3.out 0).trans rfl
   have h_O:=a_g b_3.out 0
   have p248 : 0 ≤ (x16_1 : Int):=of_decide_eq_true (by first|(with_reducible assumption)|assumption)
   have q248 : x16_1 < (l0_0.length : Int):=of_decide_eq_true (by first|(with_reducible assumption)|assumption)
   obtain ⟨ad248,e248,d_D,d_E⟩:=b_r b_l.out x16_1 p248 q248
   cases e248
   replace d_D:=(HB.out.cell (World.block_lt_of_cell? w _ d_D)).trans d_D
   replace d_E:=(HB.out.cell (World.block_lt_of_cell? w _ d_E)).trans d_E
   replace p248:=eq_true p248
   replace q248:=eq_true q248
   have n_s : wr.cell? ⟨c_k,0,none⟩ = some (.slice A1_0 l1_0.length c1_0):=(a_k c_R.out 0).trans rfl
   have n_O:=a_g c_R.out 0
   have p249 : 0 ≤ (x16_1 : Int):=of_decide_eq_true (by first|(with_reducible assumption)|assumption)
   have q249 : x16_1 < (l1_0.length : Int):=of_decide_eq_true (by first|(with_reducible assumption)|assumption)
   obtain ⟨ad249,e249,d_F,d_G⟩:=b_r j_4.out x16_1 p249 q249
   cases e249
   replace d_F:=(HB.out.cell (World.block_lt_of_cell? w _ d_F)).trans d_F
   replace d_G:=(HB.out.cell (World.block_lt_of_cell? w _ d_G)).trans d_G
   replace p249:=eq_true p249
   replace q249:=eq_true q249
   go_wp2
   repeat (go_quiet (fail);try go_wp2)
   go_roundg k1
   case measure => have:=HK1.out;omega
   case rel => exact ⟨(wrap64 (x16_1 + 1)),(by first|rfl|(simp;done)|(simp [*];done)),H',⟨by have:=HK1.out;omega⟩,⟨by (with_reducible repeat (first|refine a_o ?_ _|refine a_q ?_|refine a_n ?_ _));exact b_3.out⟩,⟨by (with_reducible repeat (first|refine a_o ?_ _|refine a_q ?_|refine a_n ?_ _));exact c_R.out⟩,⟨by repeat (first|(with_reducible first|exact HB.out|apply a_d|apply a_c|apply a_e|refine a_a ?_ c_L.out|refine a_a ?_ e_x.out)|exact HB.out)⟩⟩
end Go.Proofs.YtcpfcehfgenljaaDoor.Q
end
