/- Part 4 of 5 of what the row of TopoMakes stands on: contracts over the given program's functions, the plain law, the row; no condition beyond those that each theorem states. -/
import Derived.Test.YtcpfcehfgenljaaDoorXTopoMakes2
section
namespace Go.Proofs.YtcpfcehfgenljaaDoor.Q
open Go.RowKit Go.Proofs.YtcpfcehfgenljaaDoorW.PrintWords Go.Proofs.YtcpfcehfgenljaaDoorW.PrintLast Go.Proofs.YtcpfcehfgenljaaDoorW.PrintMore
set_option linter.unusedVariables false
set_option linter.unusedSimpArgs false
def a_r.l0 : Nat → List (S56) → Int → Int → List (S56) → Option (Bool)
 | 0,_,_,_,_ => none
 | k + 1,x6,x7,x8,x229000 => if x8 < x7 then (if 0 ≤ x8 then (if x8 < (x6.length : Int) then (if ((a_u x6 x8).f0) < 0 then (some false) else (if ((a_u x6 x8).f0) ≥ 4 then (some false) else (if ((a_u x6 x8).f1) < 0 then (some false) else (if ((a_u x6 x8).f1) ≥ 8 then (some false) else (a_r.l0 k x6 x7 (wrap64 (x8 + 1)) x229000))))) else (none)) else (none)) else (if (x229000.length : Int) ≥ 1 then (some (decide ((x229000.length : Int) ≤ 8))) else (some false))
def a_r.f (k : Nat) (l0_0 : List (S56)) : Option (Bool):=a_r.l0 k l0_0 (l0_0.length : Int) 0 l0_0
theorem a_r.b_4 : ∀ k,(∀ y0 y1 y2 y3,LeO (a_r.l0 k y0 y1 y2 y3) (a_r.l0 (k + 1) y0 y1 y2 y3))
 | 0 => fun _ _ _ _ r h => by simp [a_r.l0] at h
 | k + 1 => by
  have ih0:=a_r.b_4 k
  ·intro y0 y1 y2 y3
   unfold a_r.l0
   repeat' first
   | (with_reducible exact ih0 _ _ _ _)
   | (with_reducible exact LeO.refl _)
   | (with_reducible exact LeO.none _)
   | (with_reducible refine LeO.ite ?_ ?_)
   | (with_reducible refine LeO.bind ?_ (fun _ => ?_))
   | exact ih0 _ _ _ _
   | exact LeO.none _
   | refine LeO.ite ?_ ?_
   | refine LeO.bind ?_ (fun _ => ?_)
theorem a_r.mono : ∀ a0 k,LeO (a_r.f k a0) (a_r.f (k + 1) a0):=by
 intro a0 k
 have ih0:=a_r.b_4 k
 unfold a_r.f
 repeat' first
  | (with_reducible exact ih0 _ _ _ _)
  | (with_reducible exact LeO.refl _)
  | (with_reducible exact LeO.none _)
  | (with_reducible refine LeO.ite ?_ ?_)
  | (with_reducible refine LeO.bind ?_ (fun _ => ?_))
  | exact ih0 _ _ _ _
  | exact LeO.none _
  | refine LeO.ite ?_ ?_
  | refine LeO.bind ?_ (fun _ => ?_)
set_option maxHeartbeats 8000000 in
set_option maxRecDepth 100000 in
theorem a_r.calls (k : Nat) (A0_0 : Option Addr) (c0_0 : Nat) (l0_0 : List (S56)) (r : Bool) (w : World) (hr0_0 : Kd.C k56 w A0_0 l0_0.length l0_0) (hc0_0 : l0_0.length ≤ c0_0) (h : a_r.f k l0_0 = some r) :
 Calls Tryd.prog 16 #[.agg #[.slice A0_0 l0_0.length c0_0]] w fun e w' => e = .returned (.bool r) ∧ Below w.heap.size w w':=by
 have hu24:=Tryd.underlying24
 have hu56:=Tryd.underlying56
 have b_6:=a_b.mk hr0_0
 have c_B:=a_b.mk hc0_0
 clear hr0_0 hc0_0
 have HB:=a_b.mk (Below.refl w.heap.size w)
 have H : (a_r.l0 k l0_0 (l0_0.length : Int) 0 l0_0) = some r:=h
 clear h
 have H':=a_b.mk H
 clear H
 go_enter Tryd.func16,Tryd.ntmps16
 go_wp2_with (first|((with_reducible refine a_z (N:=1) rfl ?_);(try (refine a_B (by rfl) ?_;dsimp only));refine a_x ?hg (N:=1) ?hd (cs:=#[.slice A0_0 l0_0.length c0_0]) (t:=24) ?hr ?_;(case hd => rfl);(case hg => rfl);(case hr => first|(go_simp;done)|(go_simp;rfl));intro c_V hg w2 hbox hb;have b_7:=a_b.mk (hbox);have m_u:=a_b.mk ((by rw [hg];exact (a_h (lup_ HB.out)) : w.heap.size ≤ c_V));have c_t:=a_b.mk ((by rw [hg];exact (a_h (lup_ HB.out)) : w.heap.size ≤ c_V));replace HB:=a_b.mk (a_n (lup_ HB.out) hb);clear hb hbox hg;have i_G : w2.cell? ⟨c_V,0,none⟩ = some (.slice A0_0 l0_0.length c0_0):=(a_l b_7.out 0).trans rfl;have i_H:=a_i b_7.out 0))
 go_loopg [8] k (fun kq v8 w' => ∃ (x8_1 : Int),v8 = .int .i64 x8_1 ∧ a_b (a_r.l0 kq l0_0 (l0_0.length : Int) x8_1 l0_0 = some r) ∧ a_b (kq ≤ k) ∧ a_b (w'.heap[c_V]? = some (.cells #[(.slice A0_0 l0_0.length c0_0)] 24 (0,0))) ∧ a_b (Below w.heap.size w w'))
 case atStart => exact ⟨(0),(by first|rfl|(simp;done)|(simp [*];done)),H',⟨Nat.le_refl _⟩,⟨by (with_reducible repeat (first|refine a_k ?_ _|refine a_m ?_|refine a_j ?_ _));exact b_7.out⟩,⟨by repeat (first|(with_reducible first|exact HB.out|apply a_e|apply a_a|apply a_f|refine a_d ?_ c_t.out)|exact HB.out)⟩⟩
 case round =>
  clear H'
  try clear c1
  try clear p2
  try clear i_G
  try clear i_H
  obtain ⟨x8_1,rfl,HA,HK1,b_7,HB⟩:=hrel
  cases gk with
  | zero => exact absurd HA.out (by simp [a_r.l0])
  | succ k1 =>
   have H:=HA.out
   clear HA
   simp only [a_r.l0] at H
   by_cases c4 : x8_1 < (l0_0.length : Int)
   rotate_left
   ·rw [if_neg c4] at H
    have c4b0 : decide (x8_1 < (l0_0.length : Int)) = false:=decide_eq_false c4
    clear c4
    by_cases c26 : (l0_0.length : Int) ≥ 1
    ·rw [if_pos c26] at H
     have c26b0 : decide (1 ≤ (l0_0.length : Int)) = true:=decide_eq_true c26
     have c26b1 : decide (1 ≤ l0_0.length) = true:=decide_eq_true (by omega)
     clear c26
     obtain rfl:=Option.some.inj H
     have d_Z : wr.cell? ⟨c_V,0,none⟩ = some (.slice A0_0 l0_0.length c0_0):=(a_l b_7.out 0).trans rfl
     have d_0:=a_i b_7.out 0
     go_wp2
     go_ret
     exact ⟨by first|rfl|(simp [a_s,a_t] <;> rfl)|(simp [*, a_s,a_t] <;> rfl),by repeat (first|(with_reducible first|exact HB.out|apply a_e|apply a_a|apply a_f|refine a_d ?_ c_t.out)|exact HB.out)⟩
    rw [if_neg c26] at H
    have c26b0 : decide (1 ≤ (l0_0.length : Int)) = false:=decide_eq_false c26
    have c26b1 : decide (1 ≤ l0_0.length) = false:=decide_eq_false (by omega)
    clear c26
    obtain rfl:=Option.some.inj H
    have e_E : wr.cell? ⟨c_V,0,none⟩ = some (.slice A0_0 l0_0.length c0_0):=(a_l b_7.out 0).trans rfl
    have e_F:=a_i b_7.out 0
    go_wp2
    go_ret
    exact ⟨by first|rfl|(simp [a_s,a_t] <;> rfl)|(simp [*, a_s,a_t] <;> rfl),by repeat (first|(with_reducible first|exact HB.out|apply a_e|apply a_a|apply a_f|refine a_d ?_ c_t.out)|exact HB.out)⟩
   rw [if_pos c4] at H
   have c4b0 : decide (x8_1 < (l0_0.length : Int)) = true:=decide_eq_true c4
   clear c4
   by_cases c5 : 0 ≤ x8_1
   rotate_left
   ·rw [if_neg c5] at H
    exact absurd H (by simp)
   rw [if_pos c5] at H
   have c5b0 : decide (0 ≤ x8_1) = true:=decide_eq_true c5
   clear c5
   by_cases c6 : x8_1 < (l0_0.length : Int)
   rotate_left
   ·rw [if_neg c6] at H
    exact absurd H (by simp)
   rw [if_pos c6] at H
   have c6b0 : decide (x8_1 < (l0_0.length : Int)) = true:=decide_eq_true c6
   clear c6
   by_cases c7 : ((a_u l0_0 x8_1).f0) < 0
   ·rw [if_pos c7] at H
    have c7b0 : decide (((a_u l0_0 x8_1).f0) < 0) = true:=decide_eq_true c7
    clear c7
    obtain rfl:=Option.some.inj H
    have p229 : 0 ≤ (x8_1 : Int):=of_decide_eq_true (by first|(with_reducible assumption)|assumption)
    have q229 : x8_1 < (l0_0.length : Int):=of_decide_eq_true (by first|(with_reducible assumption)|assumption)
    obtain ⟨ad229,e229,b_F,b_G⟩:=c_u b_6.out x8_1 p229 q229
    cases e229
    replace b_F:=(HB.out.cell (World.block_lt_of_cell? w _ b_F)).trans b_F
    replace b_G:=(HB.out.cell (World.block_lt_of_cell? w _ b_G)).trans b_G
    replace p229:=eq_true p229
    replace q229:=eq_true q229
    go_wp2_with (first|((with_reducible refine a_z (N:=4) rfl ?_);(try (refine a_B (by rfl) ?_;dsimp only));refine a_x ?hg (N:=4) ?hd (cs:=#[.int .i64 0,.int .i64 0]) (t:=56) ?hr ?_;(case hd => rfl);(case hg => rfl);(case hr => first|(go_simp;done)|(go_simp;rfl));intro b_2 hg w8 hbox hb;have c_n:=a_b.mk (hbox);have g_1:=a_b.mk ((by rw [hg];exact (a_h (by repeat (first|(with_reducible first|exact HB.out|apply a_e|apply a_a|apply a_f|refine a_d ?_ c_t.out)|exact HB.out))) : w.heap.size ≤ b_2));have e_x:=a_b.mk ((by rw [hg];exact (a_h (by repeat (first|(with_reducible first|exact HB.out|apply a_e|apply a_a|apply a_f|refine a_d ?_ c_t.out)|exact HB.out))) : w.heap.size ≤ b_2));have b_U:=a_b.mk ((by rw [hg];exact Nat.ne_of_lt (a_E (bup_ b_7.out)) : c_V ≠ b_2));have c_a:=a_b.mk ((by rw [hg];exact Nat.ne_of_gt (a_E (bup_ b_7.out)) : b_2 ≠ c_V));replace b_7:=a_b.mk (a_q (bup_ b_7.out) hb);replace HB:=a_b.mk (a_n (by repeat (first|(with_reducible first|exact HB.out|apply a_e|apply a_a|apply a_f|refine a_d ?_ c_t.out)|exact HB.out)) hb);clear hb hbox hg;have hnb9:=c_a.out;have hnc9:=b_U.out;have h_P : w8.cell? ⟨b_2,0,none⟩ = some (.int .i64 0):=(a_l c_n.out 0).trans rfl;have h_Q : w8.cell? ⟨b_2,1,none⟩ = some (.int .i64 0):=(a_l c_n.out 1).trans rfl;have h_Z:=a_i c_n.out 0;have h_0:=a_i c_n.out 1))
    go_ret
    exact ⟨by first|rfl|(simp [a_s,a_t] <;> rfl)|(simp [*, a_s,a_t] <;> rfl),by repeat (first|(with_reducible first|exact HB.out|apply a_e|apply a_a|apply a_f|refine a_d ?_ c_t.out|refine a_d ?_ e_x.out)|exact HB.out)⟩
   rw [if_neg c7] at H
   have c7b0 : decide (((a_u l0_0 x8_1).f0) < 0) = false:=decide_eq_false c7
   clear c7
   by_cases c11 : ((a_u l0_0 x8_1).f0) ≥ 4
   ·rw [if_pos c11] at H
    have c11b0 : decide (4 ≤ ((a_u l0_0 x8_1).f0)) = true:=decide_eq_true c11
    clear c11
    obtain rfl:=Option.some.inj H
    have p229 : 0 ≤ (x8_1 : Int):=of_decide_eq_true (by first|(with_reducible assumption)|assumption)
    have q229 : x8_1 < (l0_0.length : Int):=of_decide_eq_true (by first|(with_reducible assumption)|assumption)
    obtain ⟨ad229,e229,b_F,b_G⟩:=c_u b_6.out x8_1 p229 q229
    cases e229
    replace b_F:=(HB.out.cell (World.block_lt_of_cell? w _ b_F)).trans b_F
    replace b_G:=(HB.out.cell (World.block_lt_of_cell? w _ b_G)).trans b_G
    replace p229:=eq_true p229
    replace q229:=eq_true q229
    go_wp2_with (first|((with_reducible refine a_z (N:=4) rfl ?_);(try (refine a_B (by rfl) ?_;dsimp only));refine a_x ?hg (N:=4) ?hd (cs:=#[.int .i64 0,.int .i64 0]) (t:=56) ?hr ?_;(case hd => rfl);(case hg => rfl);(case hr => first|(go_simp;done)|(go_simp;rfl));intro b_2 hg w12 hbox hb;have c_n:=a_b.mk (hbox);have g_1:=a_b.mk ((by rw [hg];exact (a_h (by repeat (first|(with_reducible first|exact HB.out|apply a_e|apply a_a|apply a_f|refine a_d ?_ c_t.out)|exact HB.out))) : w.heap.size ≤ b_2));have e_x:=a_b.mk ((by rw [hg];exact (a_h (by repeat (first|(with_reducible first|exact HB.out|apply a_e|apply a_a|apply a_f|refine a_d ?_ c_t.out)|exact HB.out))) : w.heap.size ≤ b_2));have b_U:=a_b.mk ((by rw [hg];exact Nat.ne_of_lt (a_E (bup_ b_7.out)) : c_V ≠ b_2));have c_a:=a_b.mk ((by rw [hg];exact Nat.ne_of_gt (a_E (bup_ b_7.out)) : b_2 ≠ c_V));replace b_7:=a_b.mk (a_q (bup_ b_7.out) hb);replace HB:=a_b.mk (a_n (by repeat (first|(with_reducible first|exact HB.out|apply a_e|apply a_a|apply a_f|refine a_d ?_ c_t.out)|exact HB.out)) hb);clear hb hbox hg;have l_J:=c_a.out;have l_P:=b_U.out;have d_w : w12.cell? ⟨b_2,0,none⟩ = some (.int .i64 0):=(a_l c_n.out 0).trans rfl;have j_1 : w12.cell? ⟨b_2,1,none⟩ = some (.int .i64 0):=(a_l c_n.out 1).trans rfl;have d_y:=a_i c_n.out 0;have k_T:=a_i c_n.out 1))
    go_ret
    exact ⟨by first|rfl|(simp [a_s,a_t] <;> rfl)|(simp [*, a_s,a_t] <;> rfl),by repeat (first|(with_reducible first|exact HB.out|apply a_e|apply a_a|apply a_f|refine a_d ?_ c_t.out|refine a_d ?_ e_x.out)|exact HB.out)⟩
   rw [if_neg c11] at H
   have c11b0 : decide (4 ≤ ((a_u l0_0 x8_1).f0)) = false:=decide_eq_false c11
   clear c11
   by_cases c15 : ((a_u l0_0 x8_1).f1) < 0
   ·rw [if_pos c15] at H
    have c15b0 : decide (((a_u l0_0 x8_1).f1) < 0) = true:=decide_eq_true c15
    clear c15
    obtain rfl:=Option.some.inj H
    have p229 : 0 ≤ (x8_1 : Int):=of_decide_eq_true (by first|(with_reducible assumption)|assumption)
    have q229 : x8_1 < (l0_0.length : Int):=of_decide_eq_true (by first|(with_reducible assumption)|assumption)
    obtain ⟨ad229,e229,b_F,b_G⟩:=c_u b_6.out x8_1 p229 q229
    cases e229
    replace b_F:=(HB.out.cell (World.block_lt_of_cell? w _ b_F)).trans b_F
    replace b_G:=(HB.out.cell (World.block_lt_of_cell? w _ b_G)).trans b_G
    replace p229:=eq_true p229
    replace q229:=eq_true q229
    go_wp2_with (first|((with_reducible refine a_z (N:=4) rfl ?_);(try (refine a_B (by rfl) ?_;dsimp only));refine a_x ?hg (N:=4) ?hd (cs:=#[.int .i64 0,.int .i64 0]) (t:=56) ?hr ?_;(case hd => rfl);(case hg => rfl);(case hr => first|(go_simp;done)|(go_simp;rfl));intro b_2 hg w16 hbox hb;have c_n:=a_b.mk (hbox);have g_1:=a_b.mk ((by rw [hg];exact (a_h (by repeat (first|(with_reducible first|exact HB.out|apply a_e|apply a_a|apply a_f|refine a_d ?_ c_t.out)|exact HB.out))) : w.heap.size ≤ b_2));have e_x:=a_b.mk ((by rw [hg];exact (a_h (by repeat (first|(with_reducible first|exact HB.out|apply a_e|apply a_a|apply a_f|refine a_d ?_ c_t.out)|exact HB.out))) : w.heap.size ≤ b_2));have b_U:=a_b.mk ((by rw [hg];exact Nat.ne_of_lt (a_E (bup_ b_7.out)) : c_V ≠ b_2));have c_a:=a_b.mk ((by rw [hg];exact Nat.ne_of_gt (a_E (bup_ b_7.out)) : b_2 ≠ c_V));replace b_7:=a_b.mk (a_q (bup_ b_7.out) hb);replace HB:=a_b.mk (a_n (by repeat (first|(with_reducible first|exact HB.out|apply a_e|apply a_a|apply a_f|refine a_d ?_ c_t.out)|exact HB.out)) hb);clear hb hbox hg;have l_L:=c_a.out;have l_R:=b_U.out;have g_q : w16.cell? ⟨b_2,0,none⟩ = some (.int .i64 0):=(a_l c_n.out 0).trans rfl;have j_3 : w16.cell? ⟨b_2,1,none⟩ = some (.int .i64 0):=(a_l c_n.out 1).trans rfl;have g_x:=a_i c_n.out 0;have k_V:=a_i c_n.out 1))
    go_ret
    exact ⟨by first|rfl|(simp [a_s,a_t] <;> rfl)|(simp [*, a_s,a_t] <;> rfl),by repeat (first|(with_reducible first|exact HB.out|apply a_e|apply a_a|apply a_f|refine a_d ?_ c_t.out|refine a_d ?_ e_x.out)|exact HB.out)⟩
   rw [if_neg c15] at H
   have c15b0 : decide (((a_u l0_0 x8_1).f1) < 0) = false:=decide_eq_false c15
   clear c15
   by_cases c19 : ((a_u l0_0 x8_1).f1) ≥ 8
   ·rw [if_pos c19] at H
    have c19b0 : decide (8 ≤ ((a_u l0_0 x8_1).f1)) = true:=decide_eq_true c19
    clear c19
    obtain rfl:=Option.some.inj H
    have p229 : 0 ≤ (x8_1 : Int):=of_decide_eq_true (by first|(with_reducible assumption)|assumption)
    have q229 : x8_1 < (l0_0.length : Int):=of_decide_eq_true (by first|(with_reducible assumption)|assumption)
    obtain ⟨ad229,e229,b_F,b_G⟩:=c_u b_6.out x8_1 p229 q229
    cases e229
    replace b_F:=(HB.out.cell (World.block_lt_of_cell? w _ b_F)).trans b_F
    replace b_G:=(HB.out.cell (World.block_lt_of_cell? w _ b_G)).trans b_G
    replace p229:=eq_true p229
    replace q229:=eq_true q229
    go_wp2_with (first|((with_reducible refine a_z (N:=4) rfl ?_);(try (refine a_B (by rfl) ?_;dsimp only));refine a_x ?hg (N:=4) ?hd (cs:=#[.int .i64 0,.int .i64 0]) (t:=56) ?hr ?_;(case hd => rfl);(case hg => rfl);(case hr => first|(go_simp;done)|(go_simp;rfl));intro b_2 hg w20 hbox hb;have c_n:=a_b.mk (hbox);have g_1:=a_b.mk ((by rw [hg];exact (a_h (by repeat (first|(with_reducible first|exact HB.out|apply a_e|apply a_a|apply a_f|refine a_d ?_ c_t.out)|exact HB.out))) : w.heap.size ≤ b_2));have e_x:=a_b.mk ((by rw [hg];exact (a_h (by repeat (first|(with_reducible first|exact HB.out|apply a_e|apply a_a|apply a_f|refine a_d ?_ c_t.out)|exact HB.out))) : w.heap.size ≤ b_2));have b_U:=a_b.mk ((by rw [hg];exact Nat.ne_of_lt (a_E (bup_ b_7.out)) : c_V ≠ b_2));have c_a:=a_b.mk ((by rw [hg];exact Nat.ne_of_gt (a_E (bup_ b_7.out)) : b_2 ≠ c_V));replace b_7:=a_b.mk (a_q (bup_ b_7.out) hb);replace HB:=a_b.mk (a_n (by repeat (first|(with_reducible first|exact HB.out|apply a_e|apply a_a|apply a_f|refine a_d ?_ c_t.out)|exact HB.out)) hb);clear hb hbox hg;have l_M:=c_a.out;have l_S:=b_U.out;have d_b : w20.cell? ⟨b_2,0,none⟩ = some (.int .i64 0):=(a_l c_n.out 0).trans rfl;have g_s : w20.cell? ⟨b_2,1,none⟩ = some (.int .i64 0):=(a_l c_n.out 1).trans rfl;have d_e:=a_i c_n.out 0;have g_z:=a_i c_n.out 1))
    go_ret
    exact ⟨by first|rfl|(simp [a_s,a_t] <;> rfl)|(simp [*, a_s,a_t] <;> rfl),by repeat (first|(with_reducible first|exact HB.out|apply a_e|apply a_a|apply a_f|refine a_d ?_ c_t.out|refine a_d ?_ e_x.out)|exact HB.out)⟩
   rw [if_neg c19] at H
   have c19b0 : decide (8 ≤ ((a_u l0_0 x8_1).f1)) = false:=decide_eq_false c19
   clear c19
   have H':=a_b.mk H
   clear H
   have p229 : 0 ≤ (x8_1 : Int):=of_decide_eq_true (by first|(with_reducible assumption)|assumption)
   have q229 : x8_1 < (l0_0.length : Int):=of_decide_eq_true (by first|(with_reducible assumption)|assumption)
   obtain ⟨ad229,e229,b_F,b_G⟩:=c_u b_6.out x8_1 p229 q229
   cases e229
   replace b_F:=(HB.out.cell (World.block_lt_of_cell? w _ b_F)).trans b_F
   replace b_G:=(HB.out.cell (World.block_lt_of_cell? w _ b_G)).trans b_G
   replace p229:=eq_true p229
   replace q229:=eq_true q229
   go_wp2_with (first|((with_reducible refine a_z (N:=4) rfl ?_);(try (refine a_B (by rfl) ?_;dsimp only));refine a_x ?hg (N:=4) ?hd (cs:=#[.int .i64 0,.int .i64 0]) (t:=56) ?hr ?_;(case hd => rfl);(case hg => rfl);(case hr => first|(go_simp;done)|(go_simp;rfl));intro b_2 hg w23 hbox hb;have c_n:=a_b.mk (hbox);have g_1:=a_b.mk ((by rw [hg];exact (a_h (by repeat (first|(with_reducible first|exact HB.out|apply a_e|apply a_a|apply a_f|refine a_d ?_ c_t.out)|exact HB.out))) : w.heap.size ≤ b_2));have e_x:=a_b.mk ((by rw [hg];exact (a_h (by repeat (first|(with_reducible first|exact HB.out|apply a_e|apply a_a|apply a_f|refine a_d ?_ c_t.out)|exact HB.out))) : w.heap.size ≤ b_2));have b_U:=a_b.mk ((by rw [hg];exact Nat.ne_of_lt (a_E (bup_ b_7.out)) : c_V ≠ b_2));have c_a:=a_b.mk ((by rw [hg];exact Nat.ne_of_gt (a_E (bup_ b_7.out)) : b_2 ≠ c_V));replace b_7:=a_b.mk (a_q (bup_ b_7.out) hb);replace HB:=a_b.mk (a_n (by repeat (first|(with_reducible first|exact HB.out|apply a_e|apply a_a|apply a_f|refine a_d ?_ c_t.out)|exact HB.out)) hb);clear hb hbox hg;have m_E:=c_a.out;have m_4:=b_U.out;have d_c : w23.cell? ⟨b_2,0,none⟩ = some (.int .i64 0):=(a_l c_n.out 0).trans rfl;have j_5 : w23.cell? ⟨b_2,1,none⟩ = some (.int .i64 0):=(a_l c_n.out 1).trans rfl;have d_f:=a_i c_n.out 0;have k_X:=a_i c_n.out 1))
   go_roundg k1
   case measure => have:=HK1.out;omega
   case rel => exact ⟨(wrap64 (x8_1 + 1)),(by first|rfl|(simp;done)|(simp [*];done)),H',⟨by have:=HK1.out;omega⟩,⟨by (with_reducible repeat (first|refine a_k ?_ _|refine a_m ?_|refine a_j ?_ _));refine a_W ?_ b_U.out _;(with_reducible repeat (first|refine a_k ?_ _|refine a_m ?_|refine a_j ?_ _));refine a_W ?_ b_U.out _;(with_reducible repeat (first|refine a_k ?_ _|refine a_m ?_|refine a_j ?_ _));exact b_7.out⟩,⟨by repeat (first|(with_reducible first|exact HB.out|apply a_e|apply a_a|apply a_f|refine a_d ?_ c_t.out|refine a_d ?_ e_x.out)|exact HB.out)⟩⟩
end Go.Proofs.YtcpfcehfgenljaaDoor.Q
end
section
namespace Go.Proofs.YtcpfcehfgenljaaDoor.Q
open Go.RowKit Go.Proofs.YtcpfcehfgenljaaDoorW.PrintWords Go.Proofs.YtcpfcehfgenljaaDoorW.PrintLast Go.Proofs.YtcpfcehfgenljaaDoorW.PrintMore
set_option linter.unusedVariables false
set_option linter.unusedSimpArgs false
mutual
def a_g.j0 : Nat → Int → Int → Int → Bool → Option ((List (S56)) × Bool)
 | 0,_,_,_,_ => none
 | k + 1,x0,x1,x2,x32 => if x32 = true then (some (([] : List (S56)),false)) else (a_g.l0 k x1 x2 x0 0 ([] : List (S56)))
def a_g.l0 : Nat → Int → Int → Int → Int → List (S56) → Option ((List (S56)) × Bool)
 | 0,_,_,_,_,_ => none
 | k + 1,x1,x2,x34,x35,x291000 => if x35 < x34 then (a_g.l1 k x1 x2 x35 x34 x35 x1 0 x291000) else ((a_r.f k x291000).bind fun t291 => (if t291 = true then (some (x291000,true)) else (some (([] : List (S56)),false))))
def a_g.l1 : Nat → Int → Int → Int → Int → Int → Int → Int → List (S56) → Option ((List (S56)) × Bool)
 | 0,_,_,_,_,_,_,_,_ => none
 | k + 1,x1,x2,x9,x34,x35,x38,x39,x291000 => if x39 < x38 then (a_g.l2 k x1 x2 x9 x39 x34 x35 x38 x39 x2 0 x291000) else (a_g.l0 k x1 x2 x34 (wrap64 (x35 + 1)) x291000)
def a_g.l2 : Nat → Int → Int → Int → Int → Int → Int → Int → Int → Int → Int → List (S56) → Option ((List (S56)) × Bool)
 | 0,_,_,_,_,_,_,_,_,_,_,_ => none
 | k + 1,x1,x2,x9,x10,x34,x35,x38,x39,x42,x43,x291000 => if x43 < x42 then (if x291000.length < 8796093022208 then (a_g.l2 k x1 x2 x9 x10 x34 x35 x38 x39 x42 (wrap64 (x43 + 1)) (x291000 ++ [(⟨x9,x10⟩ : S56)])) else (none)) else (a_g.l1 k x1 x2 x9 x34 x35 x38 (wrap64 (x39 + 1)) x291000)
end
def a_g.f (k : Nat) (a0 : Int) (a1 : Int) (a2 : Int) : Option ((List (S56)) × Bool):=if a0 < 1 then (a_g.j0 k a0 a1 a2 true) else (if a0 > 4 then (a_g.j0 k a0 a1 a2 true) else (if a1 < 1 then (a_g.j0 k a0 a1 a2 true) else (if a1 > 8 then (a_g.j0 k a0 a1 a2 true) else (if a2 < 1 then (a_g.j0 k a0 a1 a2 true) else (a_g.j0 k a0 a1 a2 (decide (a2 > 8)))))))
theorem a_g.b_4 : ∀ k,(∀ y0 y1 y2 y3,LeO (a_g.j0 k y0 y1 y2 y3) (a_g.j0 (k + 1) y0 y1 y2 y3)) ∧ (∀ y0 y1 y2 y3 y4,LeO (a_g.l0 k y0 y1 y2 y3 y4) (a_g.l0 (k + 1) y0 y1 y2 y3 y4)) ∧ (∀ y0 y1 y2 y3 y4 y5 y6 y7,LeO (a_g.l1 k y0 y1 y2 y3 y4 y5 y6 y7) (a_g.l1 (k + 1) y0 y1 y2 y3 y4 y5 y6 y7)) ∧ (∀ y0 y1 y2 y3 y4 y5 y6 y7 y8 y9 y10,LeO (a_g.l2 k y0 y1 y2 y3 y4 y5 y6 y7 y8 y9 y10) (a_g.l2 (k + 1) y0 y1 y2 y3 y4 y5 y6 y7 y8 y9 y10))
 | 0 => ⟨fun _ _ _ _ r h => by simp [a_g.j0] at h,fun _ _ _ _ _ r h => by simp [a_g.l0] at h,fun _ _ _ _ _ _ _ _ r h => by simp [a_g.l1] at h,fun _ _ _ _ _ _ _ _ _ _ _ r h => by simp [a_g.l2] at h⟩
 | k + 1 => by
  obtain ⟨ih0,ih1,ih2,ih3⟩:=a_g.b_4 k
  refine ⟨?_,?_,?_,?_⟩
  ·intro y0 y1 y2 y3
   unfold a_g.j0
   repeat' first
   | (with_reducible exact ih0 _ _ _ _)
   | (with_reducible exact ih1 _ _ _ _ _)
   | (with_reducible exact ih2 _ _ _ _ _ _ _ _)
   | (with_reducible exact ih3 _ _ _ _ _ _ _ _ _ _ _)
   | (with_reducible exact a_r.mono _ _)
   | (with_reducible exact LeO.refl _)
   | (with_reducible exact LeO.none _)
   | (with_reducible refine LeO.ite ?_ ?_)
   | (with_reducible refine LeO.bind ?_ (fun _ => ?_))
   | exact ih0 _ _ _ _
   | exact ih1 _ _ _ _ _
   | exact ih2 _ _ _ _ _ _ _ _
   | exact ih3 _ _ _ _ _ _ _ _ _ _ _
   | exact a_r.mono _ _
   | exact LeO.none _
   | refine LeO.ite ?_ ?_
   | refine LeO.bind ?_ (fun _ => ?_)
  ·intro y0 y1 y2 y3 y4
   unfold a_g.l0
   repeat' first
   | (with_reducible exact ih0 _ _ _ _)
   | (with_reducible exact ih1 _ _ _ _ _)
   | (with_reducible exact ih2 _ _ _ _ _ _ _ _)
   | (with_reducible exact ih3 _ _ _ _ _ _ _ _ _ _ _)
   | (with_reducible exact a_r.mono _ _)
   | (with_reducible exact LeO.refl _)
   | (with_reducible exact LeO.none _)
   | (with_reducible refine LeO.ite ?_ ?_)
   | (with_reducible refine LeO.bind ?_ (fun _ => ?_))
   | exact ih0 _ _ _ _
   | exact ih1 _ _ _ _ _
   | exact ih2 _ _ _ _ _ _ _ _
   | exact ih3 _ _ _ _ _ _ _ _ _ _ _
   | exact a_r.mono _ _
   | exact LeO.none _
   | refine LeO.ite ?_ ?_
   | refine LeO.bind ?_ (fun _ => ?_)
  ·intro y0 y1 y2 y3 y4 y5 y6 y7
   unfold a_g.l1
   repeat' first
   | (with_reducible exact ih0 _ _ _ _)
   | (with_reducible exact ih1 _ _ _ _ _)
   | (with_reducible exact ih2 _ _ _ _ _ _ _ _)
   | (with_reducible exact ih3 _ _ _ _ _ _ _ _ _ _ _)
   | (with_reducible exact a_r.mono _ _)
   | (with_reducible exact LeO.refl _)
   | (with_reducible exact LeO.none _)
   | (with_reducible refine LeO.ite ?_ ?_)
   | (with_reducible refine LeO.bind ?_ (fun _ => ?_))
   | exact ih0 _ _ _ _
   | exact ih1 _ _ _ _ _
   | exact ih2 _ _ _ _ _ _ _ _
   | exact ih3 _ _ _ _ _ _ _ _ _ _ _
   | exact a_r.mono _ _
   | exact LeO.none _
   | refine LeO.ite ?_ ?_
   | refine LeO.bind ?_ (fun _ => ?_)
  ·intro y0 y1 y2 y3 y4 y5 y6 y7 y8 y9 y10
   unfold a_g.l2
   repeat' first
   | (with_reducible exact ih0 _ _ _ _)
   | (with_reducible exact ih1 _ _ _ _ _)
   | (with_reducible exact ih2 _ _ _ _ _ _ _ _)
   | (with_reducible exact ih3 _ _ _ _ _ _ _ _ _ _ _)
   | (with_reducible exact a_r.mono _ _)
   | (with_reducible exact LeO.refl _)
   | (with_reducible exact LeO.none _)
   | (with_reducible refine LeO.ite ?_ ?_)
   | (with_reducible refine LeO.bind ?_ (fun _ => ?_))
   | exact ih0 _ _ _ _
   | exact ih1 _ _ _ _ _
   | exact ih2 _ _ _ _ _ _ _ _
   | exact ih3 _ _ _ _ _ _ _ _ _ _ _
   | exact a_r.mono _ _
   | exact LeO.none _
   | refine LeO.ite ?_ ?_
   | refine LeO.bind ?_ (fun _ => ?_)
theorem a_g.mono : ∀ a0 a1 a2 k,LeO (a_g.f k a0 a1 a2) (a_g.f (k + 1) a0 a1 a2):=by
 intro a0 a1 a2 k
 obtain ⟨ih0,ih1,ih2,ih3⟩:=a_g.b_4 k
 unfold a_g.f
 repeat' first
  | (with_reducible exact ih0 _ _ _ _)
  | (with_reducible exact ih1 _ _ _ _ _)
  | (with_reducible exact ih2 _ _ _ _ _ _ _ _)
  | (with_reducible exact ih3 _ _ _ _ _ _ _ _ _ _ _)
  | (with_reducible exact a_r.mono _ _)
  | (with_reducible exact LeO.refl _)
  | (with_reducible exact LeO.none _)
  | (with_reducible refine LeO.ite ?_ ?_)
  | (with_reducible refine LeO.bind ?_ (fun _ => ?_))
  | exact ih0 _ _ _ _
  | exact ih1 _ _ _ _ _
  | exact ih2 _ _ _ _ _ _ _ _
  | exact ih3 _ _ _ _ _ _ _ _ _ _ _
  | exact a_r.mono _ _
  | exact LeO.none _
  | refine LeO.ite ?_ ?_
  | refine LeO.bind ?_ (fun _ => ?_)
set_option maxHeartbeats 8000000 in
set_option maxRecDepth 100000 in
theorem a_g.calls (k : Nat) (a0 : Int) (a1 : Int) (a2 : Int) (r1 : List (S56)) (r2 : Bool) (w : World) (h : a_g.f k a0 a1 a2 = some (r1,r2)) :
 Calls Tryd.prog 27 #[.int .i64 a0,.int .i64 a1,.int .i64 a2] w fun e w' => ∃ v0_ : Value,e = .returned (.tuple #[.agg #[v0_],.bool r2]) ∧ Kd.R k56 56 w' w.heap.size (fun _ => True) v0_ r1 ∧ Below w.heap.size w w':=by
 have hu24:=Tryd.underlying24
 have hu56:=Tryd.underlying56
 have HB:=a_b.mk (Below.refl w.heap.size w)
 have H : (if a0 < 1 then (a_g.j0 k a0 a1 a2 true) else (if a0 > 4 then (a_g.j0 k a0 a1 a2 true) else (if a1 < 1 then (a_g.j0 k a0 a1 a2 true) else (if a1 > 8 then (a_g.j0 k a0 a1 a2 true) else (if a2 < 1 then (a_g.j0 k a0 a1 a2 true) else (a_g.j0 k a0 a1 a2 (decide (a2 > 8)))))))) = some (r1,r2):=h
 clear h
 have HC4:=a_b.mk H
 clear H
 go_enter Tryd.func27,Tryd.ntmps27
 go_upto_region 2 with (first|((with_reducible refine a_z (N:=6) rfl ?_);refine a_x ?hg (N:=6) ?hd (cs:=#[.slice none 0 0]) (t:=24) ?hr ?_;(case hd => rfl);(case hg => rfl);(case hr => first|(go_simp;done)|(go_simp;rfl));intro c_W hg w5 hbox hb;have b_J:=a_b.mk (hbox);have m_w:=a_b.mk ((by rw [hg];exact (a_h (lup_ HB.out)) : w.heap.size ≤ c_W));have c_y:=a_b.mk ((by rw [hg];exact (a_h (lup_ HB.out)) : w.heap.size ≤ c_W));replace HB:=a_b.mk (a_n (lup_ HB.out) hb);clear hb hbox hg)|((with_reducible refine a_z (N:=8) rfl ?_);refine a_x ?hg (N:=8) ?hd (cs:=#[.slice none 0 0]) (t:=24) ?hr ?_;(case hd => rfl);(case hg => rfl);(case hr => first|(go_simp;done)|(go_simp;rfl));intro c_X hg w6 hbox hb;have b_L:=a_b.mk (hbox);have m_x:=a_b.mk ((by rw [hg];exact (a_h (by repeat (first|(with_reducible first|exact HB.out|apply a_e|apply a_a|apply a_f|refine a_d ?_ c_y.out)|exact HB.out))) : w.heap.size ≤ c_X));have c_F:=a_b.mk ((by rw [hg];exact (a_h (by repeat (first|(with_reducible first|exact HB.out|apply a_e|apply a_a|apply a_f|refine a_d ?_ c_y.out)|exact HB.out))) : w.heap.size ≤ c_X));have c_O:=a_b.mk ((by rw [hg];exact Nat.ne_of_lt (a_E (bup_ b_J.out)) : c_W ≠ c_X));have d_l:=a_b.mk ((by rw [hg];exact Nat.ne_of_gt (a_E (bup_ b_J.out)) : c_X ≠ c_W));replace b_J:=a_b.mk (a_q (bup_ b_J.out) hb);replace HB:=a_b.mk (a_n (by repeat (first|(with_reducible first|exact HB.out|apply a_e|apply a_a|apply a_f|refine a_d ?_ c_y.out)|exact HB.out)) hb);clear hb hbox hg))
 (try simp only [Act.put,sa_,sb_,sc_])
 go_cut [32] (fun v32 wc => ∃ (kq : Nat) (x32_3 : Bool),v32 = .bool x32_3 ∧ a_b (a_g.j0 kq a0 a1 a2 x32_3 = some (r1,r2)) ∧ a_b (kq ≤ k) ∧ a_b (wc.heap[c_W]? = some (.cells #[(.slice none 0 0)] 24 (0,0))) ∧ a_b (wc.heap[c_X]? = some (.cells #[(.slice none 0 0)] 24 (0,0))) ∧ a_b (Below w.heap.size w wc))
 case first =>
  have H:=HC4.out
  clear HC4
  by_cases c7 : a0 < 1
  ·rw [if_pos c7] at H
   have c7b0 : decide (a0 < 1) = true:=decide_eq_true c7
   clear c7
   (first|rw [c7b0]|(simp only [c_l,c_k];rw [c7b0])|skip)
   have H':=a_b.mk H
   clear H
   go_wp2
   go_meet
   case rel => exact ⟨_,(true),(by first|rfl|(simp;done)|(simp [*];done)),H',⟨by first|omega|exact Nat.le_refl _⟩,⟨by (with_reducible repeat (first|refine a_k ?_ _|refine a_m ?_|refine a_j ?_ _));exact b_J.out⟩,⟨by (with_reducible repeat (first|refine a_k ?_ _|refine a_m ?_|refine a_j ?_ _));exact b_L.out⟩,⟨by repeat (first|(with_reducible first|exact HB.out|apply a_e|apply a_a|apply a_f|refine a_d ?_ c_y.out|refine a_d ?_ c_F.out)|exact HB.out)⟩⟩
  rw [if_neg c7] at H
  have c7b0 : decide (a0 < 1) = false:=decide_eq_false c7
  clear c7
  (first|rw [c7b0]|(simp only [c_l,c_k];rw [c7b0])|skip)
  by_cases c8 : a0 > 4
  ·rw [if_pos c8] at H
   have c8b0 : decide (4 < a0) = true:=decide_eq_true c8
   clear c8
   have H':=a_b.mk H
   clear H
   go_wp2
   go_meet
   case rel => exact ⟨_,(true),(by first|rfl|(simp;done)|(simp [*];done)),H',⟨by first|omega|exact Nat.le_refl _⟩,⟨by (with_reducible repeat (first|refine a_k ?_ _|refine a_m ?_|refine a_j ?_ _));exact b_J.out⟩,⟨by (with_reducible repeat (first|refine a_k ?_ _|refine a_m ?_|refine a_j ?_ _));exact b_L.out⟩,⟨by repeat (first|(with_reducible first|exact HB.out|apply a_e|apply a_a|apply a_f|refine a_d ?_ c_y.out|refine a_d ?_ c_F.out)|exact HB.out)⟩⟩
  rw [if_neg c8] at H
  have c8b0 : decide (4 < a0) = false:=decide_eq_false c8
  clear c8
  by_cases c9 : a1 < 1
  ·rw [if_pos c9] at H
   have c9b0 : decide (a1 < 1) = true:=decide_eq_true c9
   clear c9
   have H':=a_b.mk H
   clear H
   go_wp2
   go_meet
   case rel => exact ⟨_,(true),(by first|rfl|(simp;done)|(simp [*];done)),H',⟨by first|omega|exact Nat.le_refl _⟩,⟨by (with_reducible repeat (first|refine a_k ?_ _|refine a_m ?_|refine a_j ?_ _));exact b_J.out⟩,⟨by (with_reducible repeat (first|refine a_k ?_ _|refine a_m ?_|refine a_j ?_ _));exact b_L.out⟩,⟨by repeat (first|(with_reducible first|exact HB.out|apply a_e|apply a_a|apply a_f|refine a_d ?_ c_y.out|refine a_d ?_ c_F.out)|exact HB.out)⟩⟩
  rw [if_neg c9] at H
  have c9b0 : decide (a1 < 1) = false:=decide_eq_false c9
  clear c9
  by_cases c10 : a1 > 8
  ·rw [if_pos c10] at H
   have c10b0 : decide (8 < a1) = true:=decide_eq_true c10
   clear c10
   have H':=a_b.mk H
   clear H
   go_wp2
   go_meet
   case rel => exact ⟨_,(true),(by first|rfl|(simp;done)|(simp [*];done)),H',⟨by first|omega|exact Nat.le_refl _⟩,⟨by (with_reducible repeat (first|refine a_k ?_ _|refine a_m ?_|refine a_j ?_ _));exact b_J.out⟩,⟨by (with_reducible repeat (first|refine a_k ?_ _|refine a_m ?_|refine a_j ?_ _));exact b_L.out⟩,⟨by repeat (first|(with_reducible first|exact HB.out|apply a_e|apply a_a|apply a_f|refine a_d ?_ c_y.out|refine a_d ?_ c_F.out)|exact HB.out)⟩⟩
  rw [if_neg c10] at H
  have c10b0 : decide (8 < a1) = false:=decide_eq_false c10
  clear c10
  by_cases c11 : a2 < 1
  ·rw [if_pos c11] at H
   have c11b0 : decide (a2 < 1) = true:=decide_eq_true c11
   clear c11
   have H':=a_b.mk H
   clear H
   go_wp2
   go_meet
   case rel => exact ⟨_,(true),(by first|rfl|(simp;done)|(simp [*];done)),H',⟨by first|omega|exact Nat.le_refl _⟩,⟨by (with_reducible repeat (first|refine a_k ?_ _|refine a_m ?_|refine a_j ?_ _));exact b_J.out⟩,⟨by (with_reducible repeat (first|refine a_k ?_ _|refine a_m ?_|refine a_j ?_ _));exact b_L.out⟩,⟨by repeat (first|(with_reducible first|exact HB.out|apply a_e|apply a_a|apply a_f|refine a_d ?_ c_y.out|refine a_d ?_ c_F.out)|exact HB.out)⟩⟩
  rw [if_neg c11] at H
  have c11b0 : decide (a2 < 1) = false:=decide_eq_false c11
  clear c11
  have H':=a_b.mk H
  clear H
  go_wp2
  go_meet
  case rel => exact ⟨_,(decide (a2 > 8)),(by first|rfl|(simp;done)|(simp [*];done)),H',⟨by first|omega|exact Nat.le_refl _⟩,⟨by (with_reducible repeat (first|refine a_k ?_ _|refine a_m ?_|refine a_j ?_ _));exact b_J.out⟩,⟨by (with_reducible repeat (first|refine a_k ?_ _|refine a_m ?_|refine a_j ?_ _));exact b_L.out⟩,⟨by repeat (first|(with_reducible first|exact HB.out|apply a_e|apply a_a|apply a_f|refine a_d ?_ c_y.out|refine a_d ?_ c_F.out)|exact HB.out)⟩⟩
 case rest =>
  clear HC4
  try clear c1
  try clear c2
  try clear p2
  try clear c7
  try clear c7b0
  try clear c8
  try clear c8b0
  try clear c9
  try clear c9b0
  try clear c10
  try clear c10b0
  try clear c11
  try clear c11b0
  obtain ⟨kq,x32_3,rfl,HA,HJ3,b_J,b_L,HB⟩:=hcut
  cases kq with
  | zero => exact absurd HA.out (by simp [a_g.j0])
  | succ kj3 =>
   have H:=HA.out
   clear HA
   simp only [a_g.j0] at H
   by_cases c12 : x32_3 = true
   ·subst c12
    have H1 : (some (([] : List (S56)),false)) = some (r1,r2):=by rw [if_pos rfl] at H;exact H
    clear H
    have H:=H1
    clear H1
    simp only [Option.some.injEq,Prod.mk.injEq] at H
    obtain ⟨rfl,rfl⟩:=H
    have l_J:=d_l.out
    have l_P:=c_O.out
    have d_w : wc.cell? ⟨c_X,0,none⟩ = some (.slice none 0 0):=(a_l b_L.out 0).trans rfl
    have d_y:=a_i b_L.out 0
    have d_a : wc.cell? ⟨c_W,0,none⟩ = some (.slice none 0 0):=(a_l b_J.out 0).trans rfl
    have d_d:=a_i b_J.out 0
    go_wp2
    refine bodyPost_ret (c_s rfl _ _ c_W 24 #[.slice none 0 0] (0,0) _ rfl (by (with_reducible repeat (first|refine a_k ?_ _|refine a_m ?_|refine a_j ?_ _));refine a_K (cs:=#[.slice none 0 0]) ?_ 0 _ rfl;(with_reducible repeat (first|refine a_k ?_ _|refine a_m ?_|refine a_j ?_ _));exact b_J.out) Tryd.underlying24 rfl (by kernel_rfl)) rfl ?_
    exact ⟨_,by first|rfl|(simp [a_s,a_t] <;> rfl)|(simp [*, a_s,a_t] <;> rfl),by first|exact Kd.d_S _ _ _ _ _|exact Kd.f_9 _ _ _ _ _|exact Kd.g_d _ _ _ _ _|exact Kd.g_a _ _ _ _ _|exact Kd.g_c _ _ _ _ _,by repeat (first|(with_reducible first|exact HB.out|apply a_e|apply a_a|apply a_f|refine a_d ?_ c_y.out|refine a_d ?_ c_F.out)|exact HB.out)⟩
   replace c12:=Bool.eq_false_iff.mpr c12
   subst c12
   have H1 : (a_g.l0 kj3 a1 a2 a0 0 ([] : List (S56))) = some (r1,r2):=by rw [if_neg (show ¬ (false = true) by decide)] at H;exact H
   clear H
   have H:=H1
   clear H1
   have H':=a_b.mk H
   clear H
   go_wp2
   go_loopg [35] kj3 (fun kq v35 w' => ∃ (x35_2 : Int) (x291000_2 : List (S56)) (u291000 : Value),v35 = .int .i64 x35_2 ∧ a_b (a_g.l0 kq a1 a2 a0 x35_2 x291000_2 = some (r1,r2)) ∧ a_b (kq ≤ kj3) ∧ a_b (Kd.R k56 56 w' w.heap.size (fun _ => True) u291000 x291000_2) ∧ a_b (w'.heap[c_W]? = some (.cells #[(.slice none 0 0)] 24 (0,0))) ∧ a_b (w'.heap[c_X]? = some (.cells #[u291000] 24 (0,0))) ∧ a_b (Below w.heap.size w w'))
   case atStart => exact ⟨(0),(([] : List (S56))),(.slice none 0 0),(by first|rfl|(simp;done)|(simp [*];done)),H',⟨Nat.le_refl _⟩,⟨by first|exact Kd.d_S _ _ _ _ _|exact Kd.f_9 _ _ _ _ _|exact Kd.g_d _ _ _ _ _|exact Kd.g_a _ _ _ _ _|exact Kd.g_c _ _ _ _ _⟩,⟨by (with_reducible repeat (first|refine a_k ?_ _|refine a_m ?_|refine a_j ?_ _));exact b_J.out⟩,⟨by (with_reducible repeat (first|refine a_k ?_ _|refine a_m ?_|refine a_j ?_ _));exact b_L.out⟩,⟨by repeat (first|(with_reducible first|exact HB.out|apply a_e|apply a_a|apply a_f|refine a_d ?_ c_y.out|refine a_d ?_ c_F.out)|exact HB.out)⟩⟩
   case round =>
    clear H'
    try clear c1
    try clear c2
    try clear p2
    try clear c7
    try clear c7b0
    try clear c8
    try clear c8b0
    try clear c9
    try clear c9b0
    try clear c10
    try clear c10b0
    try clear c11
    try clear c11b0
    try clear c12
    try clear c13
    try clear d_w
    try clear d_a
    try clear d_y
    try clear d_d
    try clear p2
    obtain ⟨x35_2,x291000_2,u291000,rfl,HA,HK2,a_2,b_J,b_L,HB⟩:=hrel
    cases gk with
    | zero => exact absurd HA.out (by simp [a_g.l0])
    | succ k2 =>
     have H:=HA.out
     clear HA
     simp only [a_g.l0] at H
     by_cases c16 : x35_2 < a0
     rotate_left
     ·rw [if_neg c16] at H
      have c16b0 : decide (x35_2 < a0) = false:=decide_eq_false c16
      clear c16
      replace H:=Option.bind_eq_some_iff.mp H
      obtain ⟨t291,A250,H⟩:=H
      replace H : (if t291 = true then (some (x291000_2,true)) else (some (([] : List (S56)),false))) = some (r1,r2):=H
      have A25:=a_b.mk A250
      clear A250
      by_cases c26 : t291 = true
      ·subst c26
       have H1 : (some (x291000_2,true)) = some (r1,r2):=by rw [if_pos rfl] at H;exact H
       clear H
       have H:=H1
       clear H1
       simp only [Option.some.injEq,Prod.mk.injEq] at H
       obtain ⟨rfl,rfl⟩:=H
       have l_N:=d_l.out
       have l_T:=c_O.out
       have e_E : wr.cell? ⟨c_X,0,none⟩ = some (u291000):=(a_l b_L.out 0).trans rfl
       have e_F:=a_i b_L.out 0
       obtain ⟨Ao29,co29,eo29⟩:=Kd.a_4 a_2.out
       subst eo29
       go_wp2_with (first|((with_reducible refine a_y (f:=16) rfl ?_);refine a_V (some 57) rfl rfl Tryd.func16 (by kernel_rfl) rfl #[.agg #[.slice Ao29 x291000_2.length co29]] rfl (by (try simp only [List.map_toArray,List.map_cons,List.map_nil]);first|done|rfl|(simp only [List.length_drop,List.length_take];rfl)) ?_;(with_reducible refine (a_r.calls k2 _ _ x291000_2 true _ ?side1 ?side2 A25.out).mono ?_);(case side1 => repeat (first|exact (Kd.a_D a_2.out).2.2|(with_reducible refine Kd.b_n ?_ _)|(with_reducible refine Kd.b_o ?_ _)|(with_reducible refine Kd.b_K ?_)));(case side2 => exact (Kd.a_D a_2.out).2.1);rintro e w30 ⟨rfl,hb⟩;refine ⟨_,rfl,?_⟩;replace a_2:=a_b.mk (Kd.a_F (rup_ a_2.out) hb);replace b_J:=a_b.mk (a_q (bup_ b_J.out) hb);replace b_L:=a_b.mk (a_q (bup_ b_L.out) hb);replace HB:=a_b.mk (a_n (by repeat (first|(with_reducible first|exact HB.out|apply a_e|apply a_a|apply a_f|refine a_d ?_ c_y.out|refine a_d ?_ c_F.out)|exact HB.out)) hb);(try clear hb);(try clear hb2);(try clear hk);(try clear hi);have j_9 : w30.cell? ⟨c_X,0,none⟩ = some (.slice Ao29 x291000_2.length co29):=(a_l b_L.out 0).trans rfl;have k_1:=a_i b_L.out 0;have k_a : w30.cell? ⟨c_W,0,none⟩ = some (.slice none 0 0):=(a_l b_J.out 0).trans rfl;have k_2:=a_i b_J.out 0))
       refine bodyPost_ret (c_s rfl _ _ c_W 24 #[.slice Ao29 x291000_2.length co29] (0,0) _ rfl (by (with_reducible repeat (first|refine a_k ?_ _|refine a_m ?_|refine a_j ?_ _));refine a_K (cs:=#[.slice none 0 0]) ?_ 0 _ rfl;(with_reducible repeat (first|refine a_k ?_ _|refine a_m ?_|refine a_j ?_ _));exact b_J.out) Tryd.underlying24 rfl (by kernel_rfl)) rfl ?_
       exact ⟨_,by first|rfl|(simp [a_s,a_t] <;> rfl)|(simp [*, a_s,a_t] <;> rfl),by (with_reducible repeat (first|apply Kd.a_I|apply Kd.a_J|apply Kd.a_N));exact Kd.a_O (Kd.b_g (p:=⟨c_W,0,none⟩) (Kd.a_L a_2.out b_J.out (by decide)) (fun _ hk => hk.2) (.slice Ao29 x291000_2.length co29)) (fun _ hk => trivial),by repeat (first|(with_reducible first|exact HB.out|apply a_e|apply a_a|apply a_f|refine a_d ?_ c_y.out|refine a_d ?_ c_F.out)|exact HB.out)⟩
      replace c26:=Bool.eq_false_iff.mpr c26
      subst c26
      have H1 : (some (([] : List (S56)),false)) = some (r1,r2):=by rw [if_neg (show ¬ (false = true) by decide)] at H;exact H
      clear H
      have H:=H1
      clear H1
      simp only [Option.some.injEq,Prod.mk.injEq] at H
      obtain ⟨rfl,rfl⟩:=H
      have l_O:=d_l.out
      have l_U:=c_O.out
      have f_j : wr.cell? ⟨c_X,0,none⟩ = some (u291000):=(a_l b_L.out 0).trans rfl
      have f_n:=a_i b_L.out 0
      obtain ⟨Ao35,co35,eo35⟩:=Kd.a_4 a_2.out
      subst eo35
      go_wp2_with (first|((with_reducible refine a_y (f:=16) rfl ?_);refine a_V (some 57) rfl rfl Tryd.func16 (by kernel_rfl) rfl #[.agg #[.slice Ao35 x291000_2.length co35]] rfl (by (try simp only [List.map_toArray,List.map_cons,List.map_nil]);first|done|rfl|(simp only [List.length_drop,List.length_take];rfl)) ?_;(with_reducible refine (a_r.calls k2 _ _ x291000_2 false _ ?side1 ?side2 A25.out).mono ?_);(case side1 => repeat (first|exact (Kd.a_D a_2.out).2.2|(with_reducible refine Kd.b_n ?_ _)|(with_reducible refine Kd.b_o ?_ _)|(with_reducible refine Kd.b_K ?_)));(case side2 => exact (Kd.a_D a_2.out).2.1);rintro e w36 ⟨rfl,hb⟩;refine ⟨_,rfl,?_⟩;replace a_2:=a_b.mk (Kd.a_F (rup_ a_2.out) hb);replace b_J:=a_b.mk (a_q (bup_ b_J.out) hb);replace b_L:=a_b.mk (a_q (bup_ b_L.out) hb);replace HB:=a_b.mk (a_n (by repeat (first|(with_reducible first|exact HB.out|apply a_e|apply a_a|apply a_f|refine a_d ?_ c_y.out|refine a_d ?_ c_F.out)|exact HB.out)) hb);(try clear hb);(try clear hb2);(try clear hk);(try clear hi);have f_k : w36.cell? ⟨c_W,0,none⟩ = some (.slice none 0 0):=(a_l b_J.out 0).trans rfl;have f_o:=a_i b_J.out 0))
      refine bodyPost_ret (c_s rfl _ _ c_W 24 #[.slice none 0 0] (0,0) _ rfl (by (with_reducible repeat (first|refine a_k ?_ _|refine a_m ?_|refine a_j ?_ _));refine a_K (cs:=#[.slice none 0 0]) ?_ 0 _ rfl;(with_reducible repeat (first|refine a_k ?_ _|refine a_m ?_|refine a_j ?_ _));exact b_J.out) Tryd.underlying24 rfl (by kernel_rfl)) rfl ?_
      exact ⟨_,by first|rfl|(simp [a_s,a_t] <;> rfl)|(simp [*, a_s,a_t] <;> rfl),by first|exact Kd.d_S _ _ _ _ _|exact Kd.f_9 _ _ _ _ _|exact Kd.g_d _ _ _ _ _|exact Kd.g_a _ _ _ _ _|exact Kd.g_c _ _ _ _ _,by repeat (first|(with_reducible first|exact HB.out|apply a_e|apply a_a|apply a_f|refine a_d ?_ c_y.out|refine a_d ?_ c_F.out)|exact HB.out)⟩
     rw [if_pos c16] at H
     have c16b0 : decide (x35_2 < a0) = true:=decide_eq_true c16
     clear c16
     have H':=a_b.mk H
     clear H
     go_wp2
     go_loopg [39] k2 (fun kq v39 w' => ∃ (x39_3 : Int) (x291000_3 : List (S56)) (u291000 : Value),v39 = .int .i64 x39_3 ∧ a_b (a_g.l1 kq a1 a2 x35_2 a0 x35_2 a1 x39_3 x291000_3 = some (r1,r2)) ∧ a_b (kq ≤ k2) ∧ a_b (Kd.R k56 56 w' w.heap.size (fun _ => True) u291000 x291000_3) ∧ a_b (w'.heap[c_W]? = some (.cells #[(.slice none 0 0)] 24 (0,0))) ∧ a_b (w'.heap[c_X]? = some (.cells #[u291000] 24 (0,0))) ∧ a_b (Below w.heap.size w w'))
     case atStart => exact ⟨(0),(x291000_2),(u291000),(by first|rfl|(simp;done)|(simp [*];done)),H',⟨Nat.le_refl _⟩,⟨by (with_reducible repeat (first|apply Kd.a_I|apply Kd.a_J|apply Kd.a_N));exact a_2.out⟩,⟨by (with_reducible repeat (first|refine a_k ?_ _|refine a_m ?_|refine a_j ?_ _));exact b_J.out⟩,⟨by (with_reducible repeat (first|refine a_k ?_ _|refine a_m ?_|refine a_j ?_ _));exact b_L.out⟩,⟨by repeat (first|(with_reducible first|exact HB.out|apply a_e|apply a_a|apply a_f|refine a_d ?_ c_y.out|refine a_d ?_ c_F.out)|exact HB.out)⟩⟩
     case round =>
      clear H'
      try clear c1
      try clear c2
      try clear p2
      try clear c7
      try clear c7b0
      try clear c8
      try clear c8b0
      try clear c9
      try clear c9b0
      try clear c10
      try clear c10b0
      try clear c11
      try clear c11b0
      try clear c12
      try clear c13
      try clear c16
      try clear c16b0
      try clear d_w
      try clear d_a
      try clear d_y
      try clear d_d
      try clear p2
      obtain ⟨x39_3,x291000_3,u291000,rfl,HA,HK3,a_2,b_J,b_L,HB⟩:=hrel
      cases gk with
      | zero => exact absurd HA.out (by simp [a_g.l1])
      | succ k3 =>
       have H:=HA.out
       clear HA
       simp only [a_g.l1] at H
       by_cases c17 : x39_3 < a1
       rotate_left
       ·rw [if_neg c17] at H
        have c17b0 : decide (x39_3 < a1) = false:=decide_eq_false c17
        clear c17
        have H':=a_b.mk H
        clear H
        go_wp2
        go_roundg k3
        case measure => have:=HJ3.out;have:=HK2.out;have:=HK3.out;omega
        case rel => exact ⟨(wrap64 (x35_2 + 1)),(x291000_3),(u291000),(by first|rfl|(simp;done)|(simp [*];done)),H',⟨by have:=HJ3.out;have:=HK2.out;have:=HK3.out;omega⟩,⟨by (with_reducible repeat (first|apply Kd.a_I|apply Kd.a_J|apply Kd.a_N));exact a_2.out⟩,⟨by (with_reducible repeat (first|refine a_k ?_ _|refine a_m ?_|refine a_j ?_ _));exact b_J.out⟩,⟨by (with_reducible repeat (first|refine a_k ?_ _|refine a_m ?_|refine a_j ?_ _));exact b_L.out⟩,⟨by repeat (first|(with_reducible first|exact HB.out|apply a_e|apply a_a|apply a_f|refine a_d ?_ c_y.out|refine a_d ?_ c_F.out)|exact HB.out)⟩⟩
       rw [if_pos c17] at H
       have c17b0 : decide (x39_3 < a1) = true:=decide_eq_true c17
       clear c17
       have H':=a_b.mk H
       clear H
       go_wp2
       go_loopg [43] k3 (fun kq v43 w' => ∃ (x43_4 : Int) (x291000_4 : List (S56)) (u291000 : Value),v43 = .int .i64 x43_4 ∧ a_b (a_g.l2 kq a1 a2 x35_2 x39_3 a0 x35_2 a1 x39_3 a2 x43_4 x291000_4 = some (r1,r2)) ∧ a_b (kq ≤ k3) ∧ a_b (Kd.R k56 56 w' w.heap.size (fun _ => True) u291000 x291000_4) ∧ a_b (w'.heap[c_W]? = some (.cells #[(.slice none 0 0)] 24 (0,0))) ∧ a_b (w'.heap[c_X]? = some (.cells #[u291000] 24 (0,0))) ∧ a_b (Below w.heap.size w w'))
       case atStart => exact ⟨(0),(x291000_3),(u291000),(by first|rfl|(simp;done)|(simp [*];done)),H',⟨Nat.le_refl _⟩,⟨by (with_reducible repeat (first|apply Kd.a_I|apply Kd.a_J|apply Kd.a_N));exact a_2.out⟩,⟨by (with_reducible repeat (first|refine a_k ?_ _|refine a_m ?_|refine a_j ?_ _));exact b_J.out⟩,⟨by (with_reducible repeat (first|refine a_k ?_ _|refine a_m ?_|refine a_j ?_ _));exact b_L.out⟩,⟨by repeat (first|(with_reducible first|exact HB.out|apply a_e|apply a_a|apply a_f|refine a_d ?_ c_y.out|refine a_d ?_ c_F.out)|exact HB.out)⟩⟩
       case round =>
        clear H'
        try clear c1
        try clear c2
        try clear p2
        try clear c7
        try clear c7b0
        try clear c8
        try clear c8b0
        try clear c9
        try clear c9b0
        try clear c10
        try clear c10b0
        try clear c11
        try clear c11b0
        try clear c12
        try clear c13
        try clear c16
        try clear c16b0
        try clear c17
        try clear c17b0
        try clear d_w
        try clear d_a
        try clear d_y
        try clear d_d
        try clear p2
        obtain ⟨x43_4,x291000_4,u291000,rfl,HA,HK4,a_2,b_J,b_L,HB⟩:=hrel
        cases gk with
        | zero => exact absurd HA.out (by simp [a_g.l2])
        | succ k4 =>
         have H:=HA.out
         clear HA
         simp only [a_g.l2] at H
         by_cases c18 : x43_4 < a2
         rotate_left
         ·rw [if_neg c18] at H
          have c18b0 : decide (x43_4 < a2) = false:=decide_eq_false c18
          clear c18
          have H':=a_b.mk H
          clear H
          go_wp2
          go_roundg k4
          case measure => have:=HJ3.out;have:=HK2.out;have:=HK3.out;have:=HK4.out;omega
          case rel => exact ⟨(wrap64 (x39_3 + 1)),(x291000_4),(u291000),(by first|rfl|(simp;done)|(simp [*];done)),H',⟨by have:=HJ3.out;have:=HK2.out;have:=HK3.out;have:=HK4.out;omega⟩,⟨by (with_reducible repeat (first|apply Kd.a_I|apply Kd.a_J|apply Kd.a_N));exact a_2.out⟩,⟨by (with_reducible repeat (first|refine a_k ?_ _|refine a_m ?_|refine a_j ?_ _));exact b_J.out⟩,⟨by (with_reducible repeat (first|refine a_k ?_ _|refine a_m ?_|refine a_j ?_ _));exact b_L.out⟩,⟨by repeat (first|(with_reducible first|exact HB.out|apply a_e|apply a_a|apply a_f|refine a_d ?_ c_y.out|refine a_d ?_ c_F.out)|exact HB.out)⟩⟩
         rw [if_pos c18] at H
         have c18b0 : decide (x43_4 < a2) = true:=decide_eq_true c18
         clear c18
         by_cases c19 : x291000_4.length < 8796093022208
         rotate_left
         ·rw [if_neg c19] at H
          exact absurd H (by simp)
         rw [if_pos c19] at H
         have LMc19:=a_b.mk c19
         clear c19
         obtain ⟨y292,hy292⟩ : ∃ y_ : List (S56),y_ = (x291000_4 ++ [(⟨x35_2,x39_3⟩ : S56)]):=⟨_,rfl⟩
         replace H : (a_g.l2 k4 a1 a2 x35_2 x39_3 a0 x35_2 a1 x39_3 a2 (wrap64 (x43_4 + 1)) y292) = some (r1,r2):=by first|(rw [hy292];with_reducible exact H)|(have H2_:=(Option.bind_some _ _).symm.trans H;rw [hy292];with_reducible exact H2_)|(have H2_:=(Option.bind_some _ _).symm.trans H;with_reducible exact H2_)|with_reducible exact H|(rw [hy292];exact H)|exact H
         have Ny292:=a_b.mk hy292
         clear hy292
         have H':=a_b.mk H
         clear H
         have m_D:=d_l.out
         have m_3:=c_O.out
         have d_x : wr.cell? ⟨c_X,0,none⟩ = some (u291000):=(a_l b_L.out 0).trans rfl
         have d_z:=a_i b_L.out 0
         go_wp2_with (first|((with_reducible refine e_T (b:=.append) (xs:=#[.tmp 46,.tmp 50]) rfl ?_);at_builtin;refine Kd.g_2 k56 (w0:=w) w.heap.size rfl (.tmp 46) (.tmp 50) 22 56 (.agg #[(.int .i64 0),(.int .i64 0)]) 16 rfl Tryd.underlying22 h_s rfl (by decide) (by omega) u291000 x291000_4 (⟨x35_2,x39_3⟩ : S56) [.int .i64 x35_2,.int .i64 x39_3] (fun _ => True) (fun _ => False) rfl rfl ?aP (fun _ hk => hk.elim) ?aF ?aO ?aB ?aS ?aL ?_;(case aP => exact g_E _ _ _ (⟨x35_2,x39_3⟩ : S56));(case aB => exact (by repeat (first|(with_reducible first|exact HB.out|apply a_e|apply a_a|apply a_f|refine a_d ?_ c_y.out|refine a_d ?_ c_F.out)|exact HB.out)));(case aF => exact (fun _ _ => trivial));(case aO => exact (rup_ a_2.out));(case aS => exact (a_h (by repeat (first|(with_reducible first|exact HB.out|apply a_e|apply a_a|apply a_f|refine a_d ?_ c_y.out|refine a_d ?_ c_F.out)|exact HB.out))));(case aL => have:=LMc19.out;omega);intro v293 w22 ho hb hg hat;rw [← Ny292.out] at ho;have i_y:=a_b.mk (ho);replace b_J:=a_b.mk (d_m (g:=c_W) (o:=.cells #[.slice none 0 0] 24 (0,0)) (bup_ b_J.out) hg (Kd.R_ne a_2.out b_J.out (by decide)));replace b_L:=a_b.mk (d_m (g:=c_X) (o:=.cells #[u291000] 24 (0,0)) (bup_ b_L.out) hg (Kd.R_ne a_2.out b_L.out (by decide)));replace HB:=a_b.mk (hb);clear a_2 ho hb hg hat;obtain ⟨Ao23,co23,eo23⟩:=Kd.a_4 i_y.out;subst eo23;have f_i : w22.cell? ⟨c_X,0,none⟩ = some (u291000):=(a_l b_L.out 0).trans rfl;have f_m:=a_i b_L.out 0))
         go_roundg k4
         case measure => have:=HJ3.out;have:=HK2.out;have:=HK3.out;have:=HK4.out;omega
         case rel => exact ⟨(wrap64 (x43_4 + 1)),(y292),(.slice Ao23 y292.length co23),(by first|rfl|(simp;done)|(simp [*];done)),H',⟨by have:=HJ3.out;have:=HK2.out;have:=HK3.out;have:=HK4.out;omega⟩,⟨by (with_reducible repeat (first|apply Kd.a_I|apply Kd.a_J|apply Kd.a_N));exact Kd.a_O (Kd.b_g (p:=⟨c_X,0,none⟩) (Kd.a_L i_y.out b_L.out (by decide)) (fun _ hk => hk.2) (.slice Ao23 y292.length co23)) (fun _ hk => trivial)⟩,⟨by (with_reducible repeat (first|refine a_k ?_ _|refine a_m ?_|refine a_j ?_ _));refine a_W ?_ c_O.out _;(with_reducible repeat (first|refine a_k ?_ _|refine a_m ?_|refine a_j ?_ _));exact b_J.out⟩,⟨by (with_reducible repeat (first|refine a_k ?_ _|refine a_m ?_|refine a_j ?_ _));refine a_K (cs:=#[u291000]) ?_ 0 _ rfl;(with_reducible repeat (first|refine a_k ?_ _|refine a_m ?_|refine a_j ?_ _));exact b_L.out⟩,⟨by repeat (first|(with_reducible first|exact HB.out|apply a_e|apply a_a|apply a_f|refine a_d ?_ c_y.out|refine a_d ?_ c_F.out)|exact HB.out)⟩⟩
end Go.Proofs.YtcpfcehfgenljaaDoor.Q
end
