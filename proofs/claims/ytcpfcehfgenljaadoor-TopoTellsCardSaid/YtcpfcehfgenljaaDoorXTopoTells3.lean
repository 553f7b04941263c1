/- Part 4 of 6 of what the row of TopoTells stands on: contracts over the given program's functions, the plain law, the row; no condition beyond those that each theorem states. -/
import Derived.Test.YtcpfcehfgenljaaDoorXTopoTells2
section
namespace Go.Proofs.YtcpfcehfgenljaaDoor.Q
open Go.RowKit Go.Proofs.YtcpfcehfgenljaaDoorW.PrintWords Go.Proofs.YtcpfcehfgenljaaDoorW.PrintLast Go.Proofs.YtcpfcehfgenljaaDoorW.PrintMore
set_option linter.unusedVariables false
set_option linter.unusedSimpArgs false
def a_H.f (k : Nat) (l0_0 : List (S56)) (l1_0 : List (S56)) : Option (Bool):=(a_W.f k l0_0 l1_0).bind fun t187 => (some t187)
theorem a_H.mono : ∀ a0 a1 k,LeO (a_H.f k a0 a1) (a_H.f (k + 1) a0 a1):=by
 intro a0 a1 k
 unfold a_H.f
 repeat' first
  | (with_reducible exact a_W.mono _ _ _)
  | (with_reducible exact LeO.refl _)
  | (with_reducible exact LeO.none _)
  | (with_reducible refine LeO.ite ?_ ?_)
  | (with_reducible refine LeO.bind ?_ (fun _ => ?_))
  | exact a_W.mono _ _ _
  | exact LeO.none _
  | refine LeO.ite ?_ ?_
  | refine LeO.bind ?_ (fun _ => ?_)
set_option maxHeartbeats 8000000 in
set_option maxRecDepth 100000 in
theorem a_H.calls (k : Nat) (A0_0 : Option Addr) (c0_0 : Nat) (l0_0 : List (S56)) (A1_0 : Option Addr) (c1_0 : Nat) (l1_0 : List (S56)) (r : Bool) (w : World) (hr0_0 : Kd.C k56 w A0_0 l0_0.length l0_0) (hc0_0 : l0_0.length ≤ c0_0) (hr1_0 : Kd.C k56 w A1_0 l1_0.length l1_0) (hc1_0 : l1_0.length ≤ c1_0) (h : a_H.f k l0_0 l1_0 = some r) :
 Calls Tryd.prog 14 #[.agg #[.slice A0_0 l0_0.length c0_0],.agg #[.slice A1_0 l1_0.length c1_0]] w fun e w' => e = .returned (.bool r) ∧ Below w.heap.size w w':=by
 have hu24:=Tryd.underlying24
 have b_V:=a_b.mk hr0_0
 have c_l:=a_b.mk hc0_0
 clear hr0_0 hc0_0
 have h_W:=a_b.mk hr1_0
 have j_x:=a_b.mk hc1_0
 clear hr1_0 hc1_0
 have HB:=a_b.mk (Below.refl w.heap.size w)
 have H : ((a_W.f k l0_0 l1_0).bind fun t187 => (some t187)) = some r:=h
 clear h
 replace H:=Option.bind_eq_some_iff.mp H
 obtain ⟨t187,A30,H⟩:=H
 replace H : (some t187) = some r:=H
 have A3:=a_b.mk A30
 clear A30
 obtain rfl:=Option.some.inj H
 go_enter Tryd.func14,Tryd.ntmps14
 go_wp2_with (first|((with_reducible refine a_L (N:=2) rfl ?_);refine a_G ?hg (N:=2) ?hd (cs:=#[.slice A0_0 l0_0.length c0_0]) (t:=24) ?hr ?_;(case hd => rfl);(case hg => rfl);(case hr => first|(go_simp;done)|(go_simp;rfl));intro h_a hg w4 hbox hb;have g_m:=a_b.mk (hbox);have m_c:=a_b.mk ((by rw [hg];exact (a_g (lup_ HB.out)) : w.heap.size ≤ h_a));have h_T:=a_b.mk ((by rw [hg];exact (a_g (lup_ HB.out)) : w.heap.size ≤ h_a));replace HB:=a_b.mk (a_m (lup_ HB.out) hb);clear hb hbox hg)|((with_reducible refine a_L (N:=3) rfl ?_);refine a_G ?hg (N:=3) ?hd (cs:=#[.slice A1_0 l1_0.length c1_0]) (t:=24) ?hr ?_;(case hd => rfl);(case hg => rfl);(case hr => first|(go_simp;done)|(go_simp;rfl));intro h_b hg w5 hbox hb;have j_s:=a_b.mk (hbox);have m_d:=a_b.mk ((by rw [hg];exact (a_g (by repeat (first|(with_reducible first|exact HB.out|apply a_f|apply a_c|apply a_e|refine a_d ?_ h_T.out)|exact HB.out))) : w.heap.size ≤ h_b));have k_n:=a_b.mk ((by rw [hg];exact (a_g (by repeat (first|(with_reducible first|exact HB.out|apply a_f|apply a_c|apply a_e|refine a_d ?_ h_T.out)|exact HB.out))) : w.heap.size ≤ h_b));have g_T:=a_b.mk ((by rw [hg];exact Nat.ne_of_lt (a_K (bup_ g_m.out)) : h_a ≠ h_b));have g_U:=a_b.mk ((by rw [hg];exact Nat.ne_of_gt (a_K (bup_ g_m.out)) : h_b ≠ h_a));replace g_m:=a_b.mk (a_i (bup_ g_m.out) hb);replace HB:=a_b.mk (a_m (by repeat (first|(with_reducible first|exact HB.out|apply a_f|apply a_c|apply a_e|refine a_d ?_ h_T.out)|exact HB.out)) hb);clear hb hbox hg;have hnb6:=g_T.out;have hnc6:=g_U.out;have d_8 : w5.cell? ⟨h_a,0,none⟩ = some (.slice A0_0 l0_0.length c0_0):=(a_h g_m.out 0).trans rfl;have d_9:=a_p g_m.out 0;have f_l : w5.cell? ⟨h_b,0,none⟩ = some (.slice A1_0 l1_0.length c1_0):=(a_h j_s.out 0).trans rfl;have f_m:=a_p j_s.out 0)|((with_reducible refine a_D (f:=38) rfl ?_);refine b_n (some 9) rfl rfl Tryd.func38 (by kernel_rfl) rfl #[.slice A0_0 l0_0.length c0_0,.slice A1_0 l1_0.length c1_0] rfl (by (try simp only [List.map_toArray,List.map_cons,List.map_nil]);first|done|rfl|(simp only [List.length_drop,List.length_take];rfl)) ?_;(with_reducible refine (a_W.calls k _ _ l0_0 _ _ l1_0 t187 _ ?side1 ?side2 ?side3 ?side4 A3.out).mono ?_);(case side1 => repeat (first|exact (Kd.a_5 b_V.out HB.out)|(with_reducible refine Kd.a_M ?_ _)|(with_reducible refine Kd.a_N ?_ _)|(with_reducible refine Kd.a_2 ?_)));(case side2 => exact c_l.out);(case side3 => repeat (first|exact (Kd.a_5 h_W.out HB.out)|(with_reducible refine Kd.a_M ?_ _)|(with_reducible refine Kd.a_N ?_ _)|(with_reducible refine Kd.a_2 ?_)));(case side4 => exact j_x.out);rintro e w' ⟨rfl,⟨nd,rfl⟩⟩;refine ⟨_,rfl,?_⟩))
 go_ret
 exact ⟨by first|rfl|(simp [a_r,a_s] <;> rfl)|(simp [*, a_r,a_s] <;> rfl),by repeat (first|(with_reducible first|exact HB.out|apply a_f|apply a_c|apply a_e|refine a_d ?_ h_T.out|refine a_d ?_ k_n.out)|exact HB.out)⟩
end Go.Proofs.YtcpfcehfgenljaaDoor.Q
end
section
namespace Go.Proofs.YtcpfcehfgenljaaDoor.Q
open Go.RowKit Go.Proofs.YtcpfcehfgenljaaDoorW.PrintWords Go.Proofs.YtcpfcehfgenljaaDoorW.PrintLast Go.Proofs.YtcpfcehfgenljaaDoorW.PrintMore
set_option linter.unusedVariables false
set_option linter.unusedSimpArgs false
def a_q.l0 : Nat → List (S56) → Int → Int → List (S56) → Option (Bool)
 | 0,_,_,_,_ => none
 | k + 1,x6,x7,x8,x229000 => if x8 < x7 then (if 0 ≤ x8 then (if x8 < (x6.length : Int) then (if ((a_n x6 x8).f0) < 0 then (some false) else (if ((a_n x6 x8).f0) ≥ 4 then (some false) else (if ((a_n x6 x8).f1) < 0 then (some false) else (if ((a_n x6 x8).f1) ≥ 8 then (some false) else (a_q.l0 k x6 x7 (wrap64 (x8 + 1)) x229000))))) else (none)) else (none)) else (if (x229000.length : Int) ≥ 1 then (some (decide ((x229000.length : Int) ≤ 8))) else (some false))
def a_q.f (k : Nat) (l0_0 : List (S56)) : Option (Bool):=a_q.l0 k l0_0 (l0_0.length : Int) 0 l0_0
theorem a_q.c_n : ∀ k,(∀ y0 y1 y2 y3,LeO (a_q.l0 k y0 y1 y2 y3) (a_q.l0 (k + 1) y0 y1 y2 y3))
 | 0 => fun _ _ _ _ r h => by simp [a_q.l0] at h
 | k + 1 => by
  have ih0:=a_q.c_n k
  ·intro y0 y1 y2 y3
   unfold a_q.l0
   repeat' first
   | (with_reducible exact ih0 _ _ _ _)
   | (with_reducible exact LeO.refl _)
   | (with_reducible exact LeO.none _)
   | (with_reducible refine LeO.ite ?_ ?_)
   | (with_reducible refine LeO.bind ?_ (fun _ => ?_))
   | exact ih0 _ _ _ _
   | exact LeO.none _
   | refine LeO.ite ?_ ?_
   | refine LeO.bind ?_ (fun _ => ?_)
theorem a_q.mono : ∀ a0 k,LeO (a_q.f k a0) (a_q.f (k + 1) a0):=by
 intro a0 k
 have ih0:=a_q.c_n k
 unfold a_q.f
 repeat' first
  | (with_reducible exact ih0 _ _ _ _)
  | (with_reducible exact LeO.refl _)
  | (with_reducible exact LeO.none _)
  | (with_reducible refine LeO.ite ?_ ?_)
  | (with_reducible refine LeO.bind ?_ (fun _ => ?_))
  | exact ih0 _ _ _ _
  | exact LeO.none _
  | refine LeO.ite ?_ ?_
  | refine LeO.bind ?_ (fun _ => ?_)
set_option maxHeartbeats 8000000 in
set_option maxRecDepth 100000 in
theorem a_q.calls (k : Nat) (A0_0 : Option Addr) (c0_0 : Nat) (l0_0 : List (S56)) (r : Bool) (w : World) (hr0_0 : Kd.C k56 w A0_0 l0_0.length l0_0) (hc0_0 : l0_0.length ≤ c0_0) (h : a_q.f k l0_0 = some r) :
 Calls Tryd.prog 16 #[.agg #[.slice A0_0 l0_0.length c0_0]] w fun e w' => e = .returned (.bool r) ∧ Below w.heap.size w w':=by
 have hu24:=Tryd.underlying24
 have hu56:=Tryd.underlying56
 have b_V:=a_b.mk hr0_0
 have c_l:=a_b.mk hc0_0
 clear hr0_0 hc0_0
 have HB:=a_b.mk (Below.refl w.heap.size w)
 have H : (a_q.l0 k l0_0 (l0_0.length : Int) 0 l0_0) = some r:=h
 clear h
 have H':=a_b.mk H
 clear H
 go_enter Tryd.func16,Tryd.ntmps16
 go_wp2_with (first|((with_reducible refine a_L (N:=1) rfl ?_);(try (refine b_k (by rfl) ?_;dsimp only));refine a_G ?hg (N:=1) ?hd (cs:=#[.slice A0_0 l0_0.length c0_0]) (t:=24) ?hr ?_;(case hd => rfl);(case hg => rfl);(case hr => first|(go_simp;done)|(go_simp;rfl));intro d_f hg w2 hbox hb;have c_p:=a_b.mk (hbox);have m_e:=a_b.mk ((by rw [hg];exact (a_g (lup_ HB.out)) : w.heap.size ≤ d_f));have c_L:=a_b.mk ((by rw [hg];exact (a_g (lup_ HB.out)) : w.heap.size ≤ d_f));replace HB:=a_b.mk (a_m (lup_ HB.out) hb);clear hb hbox hg;have j_N : w2.cell? ⟨d_f,0,none⟩ = some (.slice A0_0 l0_0.length c0_0):=(a_h c_p.out 0).trans rfl;have j_Q:=a_p c_p.out 0))
 go_loopg [8] k (fun kq v8 w' => ∃ (x8_1 : Int),v8 = .int .i64 x8_1 ∧ a_b (a_q.l0 kq l0_0 (l0_0.length : Int) x8_1 l0_0 = some r) ∧ a_b (kq ≤ k) ∧ a_b (w'.heap[d_f]? = some (.cells #[(.slice A0_0 l0_0.length c0_0)] 24 (0,0))) ∧ a_b (Below w.heap.size w w'))
 case atStart => exact ⟨(0),(by first|rfl|(simp;done)|(simp [*];done)),H',⟨Nat.le_refl _⟩,⟨by (with_reducible repeat (first|refine a_l ?_ _|refine a_j ?_|refine a_k ?_ _));exact c_p.out⟩,⟨by repeat (first|(with_reducible first|exact HB.out|apply a_f|apply a_c|apply a_e|refine a_d ?_ c_L.out)|exact HB.out)⟩⟩
 case round =>
  clear H'
  try clear c1
  try clear p2
  try clear j_N
  try clear j_Q
  obtain ⟨x8_1,rfl,HA,HK1,c_p,HB⟩:=hrel
  cases gk with
  | zero => exact absurd HA.out (by simp [a_q.l0])
  | succ k1 =>
   have H:=HA.out
   clear HA
   simp only [a_q.l0] at H
   by_cases c4 : x8_1 < (l0_0.length : Int)
   rotate_left
   ·rw [if_neg c4] at H
    have c4b0 : decide (x8_1 < (l0_0.length : Int)) = false:=decide_eq_false c4
    clear c4
    by_cases c26 : (l0_0.length : Int) ≥ 1
    ·rw [if_pos c26] at H
     have c26b0 : decide (1 ≤ (l0_0.length : Int)) = true:=decide_eq_true c26
     have c26b1 : decide (1 ≤ l0_0.length) = true:=decide_eq_true (by omega)
     clear c26
     obtain rfl:=Option.some.inj H
     have i_W : wr.cell? ⟨d_f,0,none⟩ = some (.slice A0_0 l0_0.length c0_0):=(a_h c_p.out 0).trans rfl
     have i_8:=a_p c_p.out 0
     go_wp2
     go_ret
     exact ⟨by first|rfl|(simp [a_r,a_s] <;> rfl)|(simp [*, a_r,a_s] <;> rfl),by repeat (first|(with_reducible first|exact HB.out|apply a_f|apply a_c|apply a_e|refine a_d ?_ c_L.out)|exact HB.out)⟩
    rw [if_neg c26] at H
    have c26b0 : decide (1 ≤ (l0_0.length : Int)) = false:=decide_eq_false c26
    have c26b1 : decide (1 ≤ l0_0.length) = false:=decide_eq_false (by omega)
    clear c26
    obtain rfl:=Option.some.inj H
    have f_M : wr.cell? ⟨d_f,0,none⟩ = some (.slice A0_0 l0_0.length c0_0):=(a_h c_p.out 0).trans rfl
    have f_U:=a_p c_p.out 0
    go_wp2
    go_ret
    exact ⟨by first|rfl|(simp [a_r,a_s] <;> rfl)|(simp [*, a_r,a_s] <;> rfl),by repeat (first|(with_reducible first|exact HB.out|apply a_f|apply a_c|apply a_e|refine a_d ?_ c_L.out)|exact HB.out)⟩
   rw [if_pos c4] at H
   have c4b0 : decide (x8_1 < (l0_0.length : Int)) = true:=decide_eq_true c4
   clear c4
   by_cases c5 : 0 ≤ x8_1
   rotate_left
   ·rw [if_neg c5] at H
    exact absurd H (by simp)
   rw [if_pos c5] at H
   have c5b0 : decide (0 ≤ x8_1) = true:=decide_eq_true c5
   clear c5
   by_cases c6 : x8_1 < (l0_0.length : Int)
   rotate_left
   ·rw [if_neg c6] at H
    exact absurd H (by simp)
   rw [if_pos c6] at H
   have c6b0 : decide (x8_1 < (l0_0.length : Int)) = true:=decide_eq_true c6
   clear c6
   by_cases c7 : ((a_n l0_0 x8_1).f0) < 0
   ·rw [if_pos c7] at H
    have c7b0 : decide (((a_n l0_0 x8_1).f0) < 0) = true:=decide_eq_true c7
    clear c7
    obtain rfl:=Option.some.inj H
    have p229 : 0 ≤ (x8_1 : Int):=of_decide_eq_true (by first|(with_reducible assumption)|assumption)
    have q229 : x8_1 < (l0_0.length : Int):=of_decide_eq_true (by first|(with_reducible assumption)|assumption)
    obtain ⟨ad229,e229,b_1,b_2⟩:=c_h b_V.out x8_1 p229 q229
    cases e229
    replace b_1:=(HB.out.cell (World.block_lt_of_cell? w _ b_1)).trans b_1
    replace b_2:=(HB.out.cell (World.block_lt_of_cell? w _ b_2)).trans b_2
    replace p229:=eq_true p229
    replace q229:=eq_true q229
    go_wp2_with (first|((with_reducible refine a_L (N:=4) rfl ?_);(try (refine b_k (by rfl) ?_;dsimp only));refine a_G ?hg (N:=4) ?hd (cs:=#[.int .i64 0,.int .i64 0]) (t:=56) ?hr ?_;(case hd => rfl);(case hg => rfl);(case hr => first|(go_simp;done)|(go_simp;rfl));intro c_k hg w8 hbox hb;have c_G:=a_b.mk (hbox);have h_U:=a_b.mk ((by rw [hg];exact (a_g (by repeat (first|(with_reducible first|exact HB.out|apply a_f|apply a_c|apply a_e|refine a_d ?_ c_L.out)|exact HB.out))) : w.heap.size ≤ c_k));have e_L:=a_b.mk ((by rw [hg];exact (a_g (by repeat (first|(with_reducible first|exact HB.out|apply a_f|apply a_c|apply a_e|refine a_d ?_ c_L.out)|exact HB.out))) : w.heap.size ≤ c_k));have c_f:=a_b.mk ((by rw [hg];exact Nat.ne_of_lt (a_K (bup_ c_p.out)) : d_f ≠ c_k));have c_r:=a_b.mk ((by rw [hg];exact Nat.ne_of_gt (a_K (bup_ c_p.out)) : c_k ≠ d_f));replace c_p:=a_b.mk (a_i (bup_ c_p.out) hb);replace HB:=a_b.mk (a_m (by repeat (first|(with_reducible first|exact HB.out|apply a_f|apply a_c|apply a_e|refine a_d ?_ c_L.out)|exact HB.out)) hb);clear hb hbox hg;have hnb9:=c_r.out;have hnc9:=c_f.out;have i_Q : w8.cell? ⟨c_k,0,none⟩ = some (.int .i64 0):=(a_h c_G.out 0).trans rfl;have i_R : w8.cell? ⟨c_k,1,none⟩ = some (.int .i64 0):=(a_h c_G.out 1).trans rfl;have i_2:=a_p c_G.out 0;have i_3:=a_p c_G.out 1))
    go_ret
    exact ⟨by first|rfl|(simp [a_r,a_s] <;> rfl)|(simp [*, a_r,a_s] <;> rfl),by repeat (first|(with_reducible first|exact HB.out|apply a_f|apply a_c|apply a_e|refine a_d ?_ c_L.out|refine a_d ?_ e_L.out)|exact HB.out)⟩
   rw [if_neg c7] at H
   have c7b0 : decide (((a_n l0_0 x8_1).f0) < 0) = false:=decide_eq_false c7
   clear c7
   by_cases c11 : ((a_n l0_0 x8_1).f0) ≥ 4
   ·rw [if_pos c11] at H
    have c11b0 : decide (4 ≤ ((a_n l0_0 x8_1).f0)) = true:=decide_eq_true c11
    clear c11
    obtain rfl:=Option.some.inj H
    have p229 : 0 ≤ (x8_1 : Int):=of_decide_eq_true (by first|(with_reducible assumption)|assumption)
    have q229 : x8_1 < (l0_0.length : Int):=of_decide_eq_true (by first|(with_reducible assumption)|assumption)
    obtain ⟨ad229,e229,b_1,b_2⟩:=c_h b_V.out x8_1 p229 q229
    cases e229
    replace b_1:=(HB.out.cell (World.block_lt_of_cell? w _ b_1)).trans b_1
    replace b_2:=(HB.out.cell (World.block_lt_of_cell? w _ b_2)).trans b_2
    replace p229:=eq_true p229
    replace q229:=eq_true q229
    go_wp2_with (first|((with_reducible refine a_L (N:=4) rfl ?_);(try (refine b_k (by rfl) ?_;dsimp only));refine a_G ?hg (N:=4) ?hd (cs:=#[.int .i64 0,.int .i64 0]) (t:=56) ?hr ?_;(case hd => rfl);(case hg => rfl);(case hr => first|(go_simp;done)|(go_simp;rfl));intro c_k hg w12 hbox hb;have c_G:=a_b.mk (hbox);have h_U:=a_b.mk ((by rw [hg];exact (a_g (by repeat (first|(with_reducible first|exact HB.out|apply a_f|apply a_c|apply a_e|refine a_d ?_ c_L.out)|exact HB.out))) : w.heap.size ≤ c_k));have e_L:=a_b.mk ((by rw [hg];exact (a_g (by repeat (first|(with_reducible first|exact HB.out|apply a_f|apply a_c|apply a_e|refine a_d ?_ c_L.out)|exact HB.out))) : w.heap.size ≤ c_k));have c_f:=a_b.mk ((by rw [hg];exact Nat.ne_of_lt (a_K (bup_ c_p.out)) : d_f ≠ c_k));have c_r:=a_b.mk ((by rw [hg];exact Nat.ne_of_gt (a_K (bup_ c_p.out)) : c_k ≠ d_f));replace c_p:=a_b.mk (a_i (bup_ c_p.out) hb);replace HB:=a_b.mk (a_m (by repeat (first|(with_reducible first|exact HB.out|apply a_f|apply a_c|apply a_e|refine a_d ?_ c_L.out)|exact HB.out)) hb);clear hb hbox hg;have l_p:=c_r.out;have l_v:=c_f.out;have f_I : w12.cell? ⟨c_k,0,none⟩ = some (.int .i64 0):=(a_h c_G.out 0).trans rfl;have i_T : w12.cell? ⟨c_k,1,none⟩ = some (.int .i64 0):=(a_h c_G.out 1).trans rfl;have f_Q:=a_p c_G.out 0;have i_5:=a_p c_G.out 1))
    go_ret
    exact ⟨by first|rfl|(simp [a_r,a_s] <;> rfl)|(simp [*, a_r,a_s] <;> rfl),by repeat (first|(with_reducible first|exact HB.out|apply a_f|apply a_c|apply a_e|refine a_d ?_ c_L.out|refine a_d ?_ e_L.out)|exact HB.out)⟩
   rw [if_neg c11] at H
   have c11b0 : decide (4 ≤ ((a_n l0_0 x8_1).f0)) = false:=decide_eq_false c11
   clear c11
   by_cases c15 : ((a_n l0_0 x8_1).f1) < 0
   ·rw [if_pos c15] at H
    have c15b0 : decide (((a_n l0_0 x8_1).f1) < 0) = true:=decide_eq_true c15
    clear c15
    obtain rfl:=Option.some.inj H
    have p229 : 0 ≤ (x8_1 : Int):=of_decide_eq_true (by first|(with_reducible assumption)|assumption)
    have q229 : x8_1 < (l0_0.length : Int):=of_decide_eq_true (by first|(with_reducible assumption)|assumption)
    obtain ⟨ad229,e229,b_1,b_2⟩:=c_h b_V.out x8_1 p229 q229
    cases e229
    replace b_1:=(HB.out.cell (World.block_lt_of_cell? w _ b_1)).trans b_1
    replace b_2:=(HB.out.cell (World.block_lt_of_cell? w _ b_2)).trans b_2
    replace p229:=eq_true p229
    replace q229:=eq_true q229
    go_wp2_with (first|((with_reducible refine a_L (N:=4) rfl ?_);(try (refine b_k (by rfl) ?_;dsimp only));refine a_G ?hg (N:=4) ?hd (cs:=#[.int .i64 0,.int .i64 0]) (t:=56) ?hr ?_;(case hd => rfl);(case hg => rfl);(case hr => first|(go_simp;done)|(go_simp;rfl));intro c_k hg w16 hbox hb;have c_G:=a_b.mk (hbox);have h_U:=a_b.mk ((by rw [hg];exact (a_g (by repeat (first|(with_reducible first|exact HB.out|apply a_f|apply a_c|apply a_e|refine a_d ?_ c_L.out)|exact HB.out))) : w.heap.size ≤ c_k));have e_L:=a_b.mk ((by rw [hg];exact (a_g (by repeat (first|(with_reducible first|exact HB.out|apply a_f|apply a_c|apply a_e|refine a_d ?_ c_L.out)|exact HB.out))) : w.heap.size ≤ c_k));have c_f:=a_b.mk ((by rw [hg];exact Nat.ne_of_lt (a_K (bup_ c_p.out)) : d_f ≠ c_k));have c_r:=a_b.mk ((by rw [hg];exact Nat.ne_of_gt (a_K (bup_ c_p.out)) : c_k ≠ d_f));replace c_p:=a_b.mk (a_i (bup_ c_p.out) hb);replace HB:=a_b.mk (a_m (by repeat (first|(with_reducible first|exact HB.out|apply a_f|apply a_c|apply a_e|refine a_d ?_ c_L.out)|exact HB.out)) hb);clear hb hbox hg;have l_r:=c_r.out;have l_x:=c_f.out;have f_K : w16.cell? ⟨c_k,0,none⟩ = some (.int .i64 0):=(a_h c_G.out 0).trans rfl;have k_D : w16.cell? ⟨c_k,1,none⟩ = some (.int .i64 0):=(a_h c_G.out 1).trans rfl;have f_S:=a_p c_G.out 0;have k_2:=a_p c_G.out 1))
    go_ret
    exact ⟨by first|rfl|(simp [a_r,a_s] <;> rfl)|(simp [*, a_r,a_s] <;> rfl),by repeat (first|(with_reducible first|exact HB.out|apply a_f|apply a_c|apply a_e|refine a_d ?_ c_L.out|refine a_d ?_ e_L.out)|exact HB.out)⟩
   rw [if_neg c15] at H
   have c15b0 : decide (((a_n l0_0 x8_1).f1) < 0) = false:=decide_eq_false c15
   clear c15
   by_cases c19 : ((a_n l0_0 x8_1).f1) ≥ 8
   ·rw [if_pos c19] at H
    have c19b0 : decide (8 ≤ ((a_n l0_0 x8_1).f1)) = true:=decide_eq_true c19
    clear c19
    obtain rfl:=Option.some.inj H
    have p229 : 0 ≤ (x8_1 : Int):=of_decide_eq_true (by first|(with_reducible assumption)|assumption)
    have q229 : x8_1 < (l0_0.length : Int):=of_decide_eq_true (by first|(with_reducible assumption)|assumption)
    obtain ⟨ad229,e229,b_1,b_2⟩:=c_h b_V.out x8_1 p229 q229
    cases e229
    replace b_1:=(HB.out.cell (World.block_lt_of_cell? w _ b_1)).trans b_1
    replace b_2:=(HB.out.cell (World.block_lt_of_cell? w _ b_2)).trans b_2
    replace p229:=eq_true p229
    replace q229:=eq_true q229
    go_wp2_with (first|((with_reducible refine a_L (N:=4) rfl ?_);(try (refine b_k (by rfl) ?_;dsimp only));refine a_G ?hg (N:=4) ?hd (cs:=#[.int .i64 0,.int .i64 0]) (t:=56) ?hr ?_;(case hd => rfl);(case hg => rfl);(case hr => first|(go_simp;done)|(go_simp;rfl));intro c_k hg w20 hbox hb;have c_G:=a_b.mk (hbox);have h_U:=a_b.mk ((by rw [hg];exact (a_g (by repeat (first|(with_reducible first|exact HB.out|apply a_f|apply a_c|apply a_e|refine a_d ?_ c_L.out)|exact HB.out))) : w.heap.size ≤ c_k));have e_L:=a_b.mk ((by rw [hg];exact (a_g (by repeat (first|(with_reducible first|exact HB.out|apply a_f|apply a_c|apply a_e|refine a_d ?_ c_L.out)|exact HB.out))) : w.heap.size ≤ c_k));have c_f:=a_b.mk ((by rw [hg];exact Nat.ne_of_lt (a_K (bup_ c_p.out)) : d_f ≠ c_k));have c_r:=a_b.mk ((by rw [hg];exact Nat.ne_of_gt (a_K (bup_ c_p.out)) : c_k ≠ d_f));replace c_p:=a_b.mk (a_i (bup_ c_p.out) hb);replace HB:=a_b.mk (a_m (by repeat (first|(with_reducible first|exact HB.out|apply a_f|apply a_c|apply a_e|refine a_d ?_ c_L.out)|exact HB.out)) hb);clear hb hbox hg;have l_s:=c_r.out;have l_y:=c_f.out;have h_g : w20.cell? ⟨c_k,0,none⟩ = some (.int .i64 0):=(a_h c_G.out 0).trans rfl;have h_h : w20.cell? ⟨c_k,1,none⟩ = some (.int .i64 0):=(a_h c_G.out 1).trans rfl;have h_n:=a_p c_G.out 0;have h_o:=a_p c_G.out 1))
    go_ret
    exact ⟨by first|rfl|(simp [a_r,a_s] <;> rfl)|(simp [*, a_r,a_s] <;> rfl),by repeat (first|(with_reducible first|exact HB.out|apply a_f|apply a_c|apply a_e|refine a_d ?_ c_L.out|refine a_d ?_ e_L.out)|exact HB.out)⟩
   rw [if_neg c19] at H
   have c19b0 : decide (8 ≤ ((a_n l0_0 x8_1).f1)) = false:=decide_eq_false c19
   clear c19
   have H':=a_b.mk H
   clear H
   have p229 : 0 ≤ (x8_1 : Int):=of_decide_eq_true (by first|(with_reducible assumption)|assumption)
   have q229 : x8_1 < (l0_0.length : Int):=of_decide_eq_true (by first|(with_reducible assumption)|assumption)
   obtain ⟨ad229,e229,b_1,b_2⟩:=c_h b_V.out x8_1 p229 q229
   cases e229
   replace b_1:=(HB.out.cell (World.block_lt_of_cell? w _ b_1)).trans b_1
   replace b_2:=(HB.out.cell (World.block_lt_of_cell? w _ b_2)).trans b_2
   replace p229:=eq_true p229
   replace q229:=eq_true q229
   go_wp2_with (first|((with_reducible refine a_L (N:=4) rfl ?_);(try (refine b_k (by rfl) ?_;dsimp only));refine a_G ?hg (N:=4) ?hd (cs:=#[.int .i64 0,.int .i64 0]) (t:=56) ?hr ?_;(case hd => rfl);(case hg => rfl);(case hr => first|(go_simp;done)|(go_simp;rfl));intro c_k hg w23 hbox hb;have c_G:=a_b.mk (hbox);have h_U:=a_b.mk ((by rw [hg];exact (a_g (by repeat (first|(with_reducible first|exact HB.out|apply a_f|apply a_c|apply a_e|refine a_d ?_ c_L.out)|exact HB.out))) : w.heap.size ≤ c_k));have e_L:=a_b.mk ((by rw [hg];exact (a_g (by repeat (first|(with_reducible first|exact HB.out|apply a_f|apply a_c|apply a_e|refine a_d ?_ c_L.out)|exact HB.out))) : w.heap.size ≤ c_k));have c_f:=a_b.mk ((by rw [hg];exact Nat.ne_of_lt (a_K (bup_ c_p.out)) : d_f ≠ c_k));have c_r:=a_b.mk ((by rw [hg];exact Nat.ne_of_gt (a_K (bup_ c_p.out)) : c_k ≠ d_f));replace c_p:=a_b.mk (a_i (bup_ c_p.out) hb);replace HB:=a_b.mk (a_m (by repeat (first|(with_reducible first|exact HB.out|apply a_f|apply a_c|apply a_e|refine a_d ?_ c_L.out)|exact HB.out)) hb);clear hb hbox hg;have m_j:=c_r.out;have m_G:=c_f.out;have h_j : w23.cell? ⟨c_k,0,none⟩ = some (.int .i64 0):=(a_h c_G.out 0).trans rfl;have k_F : w23.cell? ⟨c_k,1,none⟩ = some (.int .i64 0):=(a_h c_G.out 1).trans rfl;have h_q:=a_p c_G.out 0;have k_4:=a_p c_G.out 1))
   go_roundg k1
   case measure => have:=HK1.out;omega
   case rel => exact ⟨(wrap64 (x8_1 + 1)),(by first|rfl|(simp;done)|(simp [*];done)),H',⟨by have:=HK1.out;omega⟩,⟨by (with_reducible repeat (first|refine a_l ?_ _|refine a_j ?_|refine a_k ?_ _));refine b_m ?_ c_f.out _;(with_reducible repeat (first|refine a_l ?_ _|refine a_j ?_|refine a_k ?_ _));refine b_m ?_ c_f.out _;(with_reducible repeat (first|refine a_l ?_ _|refine a_j ?_|refine a_k ?_ _));exact c_p.out⟩,⟨by repeat (first|(with_reducible first|exact HB.out|apply a_f|apply a_c|apply a_e|refine a_d ?_ c_L.out|refine a_d ?_ e_L.out)|exact HB.out)⟩⟩
end Go.Proofs.YtcpfcehfgenljaaDoor.Q
end
section
namespace Go.Proofs.YtcpfcehfgenljaaDoor.Q
open Go.RowKit Go.Proofs.YtcpfcehfgenljaaDoorW.PrintWords Go.Proofs.YtcpfcehfgenljaaDoorW.PrintLast Go.Proofs.YtcpfcehfgenljaaDoorW.PrintMore
set_option linter.unusedVariables false
set_option linter.unusedSimpArgs false
def a_T.f (l0_0 : List (S56)) (a1 : Int) : Option (Bool):=if a1 ≥ 0 then (some (decide (a1 < (l0_0.length : Int)))) else (some false)
set_option maxHeartbeats 8000000 in
set_option maxRecDepth 100000 in
theorem a_T.calls (A0_0 : Option Addr) (c0_0 : Nat) (l0_0 : List (S56)) (a1 : Int) (r : Bool) (w : World) (hr0_0 : Kd.C k56 w A0_0 l0_0.length l0_0) (hc0_0 : l0_0.length ≤ c0_0) (h : a_T.f l0_0 a1 = some r) :
 Calls Tryd.prog 18 #[.agg #[.slice A0_0 l0_0.length c0_0],.int .i64 a1] w fun e w' => e = .returned (.bool r) ∧ Below w.heap.size w w':=by
 have hu24:=Tryd.underlying24
 have b_V:=a_b.mk hr0_0
 have c_l:=a_b.mk hc0_0
 clear hr0_0 hc0_0
 have HB:=a_b.mk (Below.refl w.heap.size w)
 have H : (if a1 ≥ 0 then (some (decide (a1 < (l0_0.length : Int)))) else (some false)) = some r:=h
 clear h
 by_cases c3 : a1 ≥ 0
 ·rw [if_pos c3] at H
  have c3b0 : decide (0 ≤ a1) = true:=decide_eq_true c3
  clear c3
  obtain rfl:=Option.some.inj H
  go_enter Tryd.func18,Tryd.ntmps18
  go_wp2_with (first|((with_reducible refine a_L (N:=2) rfl ?_);(try (refine b_k (by rfl) ?_;dsimp only));refine a_G ?hg (N:=2) ?hd (cs:=#[.slice A0_0 l0_0.length c0_0]) (t:=24) ?hr ?_;(case hd => rfl);(case hg => rfl);(case hr => first|(go_simp;done)|(go_simp;rfl));intro g_z hg w4 hbox hb;have i_B:=a_b.mk (hbox);have k_p:=a_b.mk ((by rw [hg];exact (a_g (lup_ HB.out)) : w.heap.size ≤ g_z));have i_F:=a_b.mk ((by rw [hg];exact (a_g (lup_ HB.out)) : w.heap.size ≤ g_z));replace HB:=a_b.mk (a_m (lup_ HB.out) hb);clear hb hbox hg;have j_O : w4.cell? ⟨g_z,0,none⟩ = some (.slice A0_0 l0_0.length c0_0):=(a_h i_B.out 0).trans rfl;have j_R:=a_p i_B.out 0))
  go_ret
  exact ⟨by first|rfl|(simp [a_r,a_s] <;> rfl)|(simp [*, a_r,a_s] <;> rfl),by repeat (first|(with_reducible first|exact HB.out|apply a_f|apply a_c|apply a_e|refine a_d ?_ i_F.out)|exact HB.out)⟩
 rw [if_neg c3] at H
 have c3b0 : decide (0 ≤ a1) = false:=decide_eq_false c3
 clear c3
 obtain rfl:=Option.some.inj H
 go_enter Tryd.func18,Tryd.ntmps18
 go_wp2_with (first|((with_reducible refine a_L (N:=2) rfl ?_);(try (refine b_k (by rfl) ?_;dsimp only));refine a_G ?hg (N:=2) ?hd (cs:=#[.slice A0_0 l0_0.length c0_0]) (t:=24) ?hr ?_;(case hd => rfl);(case hg => rfl);(case hr => first|(go_simp;done)|(go_simp;rfl));intro g_z hg w6 hbox hb;have i_B:=a_b.mk (hbox);have k_p:=a_b.mk ((by rw [hg];exact (a_g (lup_ HB.out)) : w.heap.size ≤ g_z));have i_F:=a_b.mk ((by rw [hg];exact (a_g (lup_ HB.out)) : w.heap.size ≤ g_z));replace HB:=a_b.mk (a_m (lup_ HB.out) hb);clear hb hbox hg))
 go_ret
 exact ⟨by first|rfl|(simp [a_r,a_s] <;> rfl)|(simp [*, a_r,a_s] <;> rfl),by repeat (first|(with_reducible first|exact HB.out|apply a_f|apply a_c|apply a_e|refine a_d ?_ i_F.out)|exact HB.out)⟩
end Go.Proofs.YtcpfcehfgenljaaDoor.Q
end
section
namespace Go.Proofs.YtcpfcehfgenljaaDoor.Q
open Go.RowKit Go.Proofs.YtcpfcehfgenljaaDoorW.PrintWords Go.Proofs.YtcpfcehfgenljaaDoorW.PrintLast Go.Proofs.YtcpfcehfgenljaaDoorW.PrintMore
set_option linter.unusedVariables false
set_option linter.unusedSimpArgs false
attribute [local go_sem high] h_0
def a_o.l0 : Nat → Int → Int → List (S56) → List (S56) → Option (Bool)
 | 0,_,_,_,_ => none
 | k + 1,x15,x16,x247000,x248000 => if x16 < x15 then (if 0 ≤ x16 then (if x16 < (x247000.length : Int) then (if x16 < (x248000.length : Int) then (if (!(((a_n x247000 x16).f0) == ((a_n x248000 x16).f0)) || (!(((a_n x247000 x16).f1) == ((a_n x248000 x16).f1)))) = true then (some false) else (a_o.l0 k x15 (wrap64 (x16 + 1)) x247000 x248000)) else (none)) else (none)) else (none)) else (some true)
def a_o.f (k : Nat) (l0_0 : List (S56)) (l1_0 : List (S56)) : Option (Bool):=if (l0_0.length : Int) = (l1_0.length : Int) then (a_o.l0 k (l0_0.length : Int) 0 l0_0 l1_0) else (some false)
theorem a_o.c_n : ∀ k,(∀ y0 y1 y2 y3,LeO (a_o.l0 k y0 y1 y2 y3) (a_o.l0 (k + 1) y0 y1 y2 y3))
 | 0 => fun _ _ _ _ r h => by simp [a_o.l0] at h
 | k + 1 => by
  have ih0:=a_o.c_n k
  ·intro y0 y1 y2 y3
   unfold a_o.l0
   repeat' first
   | (with_reducible exact ih0 _ _ _ _)
   | (with_reducible exact LeO.refl _)
   | (with_reducible exact LeO.none _)
   | (with_reducible refine LeO.ite ?_ ?_)
   | (with_reducible refine LeO.bind ?_ (fun _ => ?_))
   | exact ih0 _ _ _ _
   | exact LeO.none _
   | refine LeO.ite ?_ ?_
   | refine LeO.bind ?_ (fun _ => ?_)
theorem a_o.mono : ∀ a0 a1 k,LeO (a_o.f k a0 a1) (a_o.f (k + 1) a0 a1):=by
 intro a0 a1 k
 have ih0:=a_o.c_n k
 unfold a_o.f
 repeat' first
  | (with_reducible exact ih0 _ _ _ _)
  | (with_reducible exact LeO.refl _)
  | (with_reducible exact LeO.none _)
  | (with_reducible refine LeO.ite ?_ ?_)
  | (with_reducible refine LeO.bind ?_ (fun _ => ?_))
  | exact ih0 _ _ _ _
  | exact LeO.none _
  | refine LeO.ite ?_ ?_
  | refine LeO.bind ?_ (fun _ => ?_)
set_option maxHeartbeats 8000000 in
set_option maxRecDepth 100000 in
theorem a_o.calls (k : Nat) (A0_0 : Option Addr) (c0_0 : Nat) (l0_0 : List (S56)) (A1_0 : Option Addr) (c1_0 : Nat) (l1_0 : List (S56)) (r : Bool) (w : World) (hr0_0 : Kd.C k56 w A0_0 l0_0.length l0_0) (hc0_0 : l0_0.length ≤ c0_0) (hr1_0 : Kd.C k56 w A1_0 l1_0.length l1_0) (hc1_0 : l1_0.length ≤ c1_0) (h : a_o.f k l0_0 l1_0 = some r) :
 Calls Tryd.prog 24 #[.agg #[.slice A0_0 l0_0.length c0_0],.agg #[.slice A1_0 l1_0.length c1_0]] w fun e w' => e = .returned (.bool r) ∧ Below w.heap.size w w':=by
 have hu24:=Tryd.underlying24
 have hu56:=Tryd.underlying56
 have b_V:=a_b.mk hr0_0
 have c_l:=a_b.mk hc0_0
 clear hr0_0 hc0_0
 have h_W:=a_b.mk hr1_0
 have j_x:=a_b.mk hc1_0
 clear hr1_0 hc1_0
 have HB:=a_b.mk (Below.refl w.heap.size w)
 have H : (if (l0_0.length : Int) = (l1_0.length : Int) then (a_o.l0 k (l0_0.length : Int) 0 l0_0 l1_0) else (some false)) = some r:=h
 clear h
 by_cases c3 : (l0_0.length : Int) = (l1_0.length : Int)
 rotate_left
 ·rw [if_neg c3] at H
  have c3b0 : ((l0_0.length : Int) == (l1_0.length : Int)) = false:=beq_eq_false_iff_ne.mpr c3
  have c3b1 : ((l0_0.length : Int) != (l1_0.length : Int)) = true:=bne_iff_ne.mpr c3
  have c3b2 : (l0_0.length == l1_0.length) = false:=by first|simpa using c3|(simp at c3 ⊢; omega)
  obtain rfl:=Option.some.inj H
  go_enter Tryd.func24,Tryd.ntmps24
  go_wp2_with (first|((with_reducible refine a_L (N:=2) rfl ?_);refine a_G ?hg (N:=2) ?hd (cs:=#[.slice A0_0 l0_0.length c0_0]) (t:=24) ?hr ?_;(case hd => rfl);(case hg => rfl);(case hr => first|(go_simp;done)|(go_simp;rfl));intro b_3 hg w20 hbox hb;have b_J:=a_b.mk (hbox);have g_J:=a_b.mk ((by rw [hg];exact (a_g (lup_ HB.out)) : w.heap.size ≤ b_3));have c_v:=a_b.mk ((by rw [hg];exact (a_g (lup_ HB.out)) : w.heap.size ≤ b_3));replace HB:=a_b.mk (a_m (lup_ HB.out) hb);clear hb hbox hg)|((with_reducible refine a_L (N:=3) rfl ?_);refine a_G ?hg (N:=3) ?hd (cs:=#[.slice A1_0 l1_0.length c1_0]) (t:=24) ?hr ?_;(case hd => rfl);(case hg => rfl);(case hr => first|(go_simp;done)|(go_simp;rfl));intro b_4 hg w21 hbox hb;have c_H:=a_b.mk (hbox);have g_K:=a_b.mk ((by rw [hg];exact (a_g (by repeat (first|(with_reducible first|exact HB.out|apply a_f|apply a_c|apply a_e|refine a_d ?_ c_v.out)|exact HB.out))) : w.heap.size ≤ b_4));have e_q:=a_b.mk ((by rw [hg];exact (a_g (by repeat (first|(with_reducible first|exact HB.out|apply a_f|apply a_c|apply a_e|refine a_d ?_ c_v.out)|exact HB.out))) : w.heap.size ≤ b_4));have b_X:=a_b.mk ((by rw [hg];exact Nat.ne_of_lt (a_K (bup_ b_J.out)) : b_3 ≠ b_4));have b_Y:=a_b.mk ((by rw [hg];exact Nat.ne_of_gt (a_K (bup_ b_J.out)) : b_4 ≠ b_3));replace b_J:=a_b.mk (a_i (bup_ b_J.out) hb);replace HB:=a_b.mk (a_m (by repeat (first|(with_reducible first|exact HB.out|apply a_f|apply a_c|apply a_e|refine a_d ?_ c_v.out)|exact HB.out)) hb);clear hb hbox hg;have j_U:=b_X.out;have j_V:=b_Y.out;have f_L : w21.cell? ⟨b_3,0,none⟩ = some (.slice A0_0 l0_0.length c0_0):=(a_h b_J.out 0).trans rfl;have f_T:=a_p b_J.out 0;have h_i : w21.cell? ⟨b_4,0,none⟩ = some (.slice A1_0 l1_0.length c1_0):=(a_h c_H.out 0).trans rfl;have h_p:=a_p c_H.out 0))
  repeat (go_quiet (first|((with_reducible refine a_L (N:=2) rfl ?_);refine a_G ?hg (N:=2) ?hd (cs:=#[.slice A0_0 l0_0.length c0_0]) (t:=24) ?hr ?_;(case hd => rfl);(case hg => rfl);(case hr => first|(go_simp;done)|(go_simp;rfl));intro b_3 hg w20 hbox hb;have b_J:=a_b.mk (hbox);have g_J:=a_b.mk ((by rw [hg];exact (a_g (lup_ HB.out)) : w.heap.size ≤ b_3));have c_v:=a_b.mk ((by rw [hg];exact (a_g (lup_ HB.out)) : w.heap.size ≤ b_3));replace HB:=a_b.mk (a_m (lup_ HB.out) hb);clear hb hbox hg)|((with_reducible refine a_L (N:=3) rfl ?_);refine a_G ?hg (N:=3) ?hd (cs:=#[.slice A1_0 l1_0.length c1_0]) (t:=24) ?hr ?_;(case hd => rfl);(case hg => rfl);(case hr => first|(go_simp;done)|(go_simp;rfl));intro b_4 hg w21 hbox hb;have c_H:=a_b.mk (hbox);have g_K:=a_b.mk ((by rw [hg];exact (a_g (by repeat (first|(with_reducible first|exact HB.out|apply a_f|apply a_c|apply a_e|refine a_d ?_ c_v.out)|exact HB.out))) : w.heap.size ≤ b_4));have e_q:=a_b.mk ((by rw [hg];exact (a_g (by repeat (first|(with_reducible first|exact HB.out|apply a_f|apply a_c|apply a_e|refine a_d ?_ c_v.out)|exact HB.out))) : w.heap.size ≤ b_4));have b_X:=a_b.mk ((by rw [hg];exact Nat.ne_of_lt (a_K (bup_ b_J.out)) : b_3 ≠ b_4));have b_Y:=a_b.mk ((by rw [hg];exact Nat.ne_of_gt (a_K (bup_ b_J.out)) : b_4 ≠ b_3));replace b_J:=a_b.mk (a_i (bup_ b_J.out) hb);replace HB:=a_b.mk (a_m (by repeat (first|(with_reducible first|exact HB.out|apply a_f|apply a_c|apply a_e|refine a_d ?_ c_v.out)|exact HB.out)) hb);clear hb hbox hg;have j_U:=b_X.out;have j_V:=b_Y.out;have f_L : w21.cell? ⟨b_3,0,none⟩ = some (.slice A0_0 l0_0.length c0_0):=(a_h b_J.out 0).trans rfl;have f_T:=a_p b_J.out 0;have h_i : w21.cell? ⟨b_4,0,none⟩ = some (.slice A1_0 l1_0.length c1_0):=(a_h c_H.out 0).trans rfl;have h_p:=a_p c_H.out 0));try go_wp2_with (first|((with_reducible refine a_L (N:=2) rfl ?_);refine a_G ?hg (N:=2) ?hd (cs:=#[.slice A0_0 l0_0.length c0_0]) (t:=24) ?hr ?_;(case hd => rfl);(case hg => rfl);(case hr => first|(go_simp;done)|(go_simp;rfl));intro b_3 hg w20 hbox hb;have b_J:=a_b.mk (hbox);have g_J:=a_b.mk ((by rw [hg];exact (a_g (lup_ HB.out)) : w.heap.size ≤ b_3));have c_v:=a_b.mk ((by rw [hg];exact (a_g (lup_ HB.out)) : w.heap.size ≤ b_3));replace HB:=a_b.mk (a_m (lup_ HB.out) hb);clear hb hbox hg)|((with_reducible refine a_L (N:=3) rfl ?_);refine a_G ?hg (N:=3) ?hd (cs:=#[.slice A1_0 l1_0.length c1_0]) (t:=24) ?hr ?_;(case hd => rfl);(case hg => rfl);(case hr => first|(go_simp;done)|(go_simp;rfl));intro b_4 hg w21 hbox hb;have c_H:=a_b.mk (hbox);have g_K:=a_b.mk ((by rw [hg];exact (a_g (by repeat (first|(with_reducible first|exact HB.out|apply a_f|apply a_c|apply a_e|refine a_d ?_ c_v.out)|exact HB.out))) : w.heap.size ≤ b_4));have e_q:=a_b.mk ((by rw [hg];exact (a_g (by repeat (first|(with_reducible first|exact HB.out|apply a_f|apply a_c|apply a_e|refine a_d ?_ c_v.out)|exact HB.out))) : w.heap.size ≤ b_4));have b_X:=a_b.mk ((by rw [hg];exact Nat.ne_of_lt (a_K (bup_ b_J.out)) : b_3 ≠ b_4));have b_Y:=a_b.mk ((by rw [hg];exact Nat.ne_of_gt (a_K (bup_ b_J.out)) : b_4 ≠ b_3));replace b_J:=a_b.mk (a_i (bup_ b_J.out) hb);replace HB:=a_b.mk (a_m (by repeat (first|(with_reducible first|exact HB.out|apply a_f|apply a_c|apply a_e|refine a_d ?_ c_v.out)|exact HB.out)) hb);clear hb hbox hg;have j_U:=b_X.out;have j_V:=b_Y.out;have f_L : w21.cell? ⟨b_3,0,none⟩ = some (.slice A0_0 l0_0.length c0_0):=(a_h b_J.out 0).trans rfl;have f_T:=a_p b_J.out 0;have h_i : w21.cell? ⟨b_4,0,none⟩ = some (.slice A1_0 l1_0.length c1_0):=(a_h c_H.out 0).trans rfl;have h_p:=a_p c_H.out 0)))
  go_ret
  exact ⟨by first|rfl|(simp [a_r,a_s] <;> rfl)|(simp [*, a_r,a_s] <;> rfl),by repeat (first|(with_reducible first|exact HB.out|apply a_f|apply a_c|apply a_e|refine a_d ?_ c_v.out|refine a_d ?_ e_q.out)|exact HB.out)⟩
 rw [if_pos c3] at H
 have c3b0 : ((l0_0.length : Int) == (l1_0.length : Int)) = true:=beq_iff_eq.mpr c3
 have c3b1 : ((l0_0.length : Int) != (l1_0.length : Int)) = false:=bne_eq_false_iff_eq.mpr c3
 have c3b2 : (l0_0.length == l1_0.length) = true:=by first|simpa using c3|(simp at c3 ⊢; omega)
 clear c3
 have H':=a_b.mk H
 clear H
 go_enter Tryd.func24,Tryd.ntmps24
 go_wp2_with (first|((with_reducible refine a_L (N:=2) rfl ?_);refine a_G ?hg (N:=2) ?hd (cs:=#[.slice A0_0 l0_0.length c0_0]) (t:=24) ?hr ?_;(case hd => rfl);(case hg => rfl);(case hr => first|(go_simp;done)|(go_simp;rfl));intro b_3 hg w4 hbox hb;have b_J:=a_b.mk (hbox);have g_J:=a_b.mk ((by rw [hg];exact (a_g (lup_ HB.out)) : w.heap.size ≤ b_3));have c_v:=a_b.mk ((by rw [hg];exact (a_g (lup_ HB.out)) : w.heap.size ≤ b_3));replace HB:=a_b.mk (a_m (lup_ HB.out) hb);clear hb hbox hg)|((with_reducible refine a_L (N:=3) rfl ?_);refine a_G ?hg (N:=3) ?hd (cs:=#[.slice A1_0 l1_0.length c1_0]) (t:=24) ?hr ?_;(case hd => rfl);(case hg => rfl);(case hr => first|(go_simp;done)|(go_simp;rfl));intro b_4 hg w5 hbox hb;have c_H:=a_b.mk (hbox);have g_K:=a_b.mk ((by rw [hg];exact (a_g (by repeat (first|(with_reducible first|exact HB.out|apply a_f|apply a_c|apply a_e|refine a_d ?_ c_v.out)|exact HB.out))) : w.heap.size ≤ b_4));have e_q:=a_b.mk ((by rw [hg];exact (a_g (by repeat (first|(with_reducible first|exact HB.out|apply a_f|apply a_c|apply a_e|refine a_d ?_ c_v.out)|exact HB.out))) : w.heap.size ≤ b_4));have b_X:=a_b.mk ((by rw [hg];exact Nat.ne_of_lt (a_K (bup_ b_J.out)) : b_3 ≠ b_4));have b_Y:=a_b.mk ((by rw [hg];exact Nat.ne_of_gt (a_K (bup_ b_J.out)) : b_4 ≠ b_3));replace b_J:=a_b.mk (a_i (bup_ b_J.out) hb);replace HB:=a_b.mk (a_m (by repeat (first|(with_reducible first|exact HB.out|apply a_f|apply a_c|apply a_e|refine a_d ?_ c_v.out)|exact HB.out)) hb);clear hb hbox hg;have hnb6:=b_X.out;have hnc6:=b_Y.out;have d_8 : w5.cell? ⟨b_3,0,none⟩ = some (.slice A0_0 l0_0.length c0_0):=(a_h b_J.out 0).trans rfl;have d_9:=a_p b_J.out 0;have f_l : w5.cell? ⟨b_4,0,none⟩ = some (.slice A1_0 l1_0.length c1_0):=(a_h c_H.out 0).trans rfl;have f_m:=a_p c_H.out 0))
 repeat (go_quiet (first|((with_reducible refine a_L (N:=2) rfl ?_);refine a_G ?hg (N:=2) ?hd (cs:=#[.slice A0_0 l0_0.length c0_0]) (t:=24) ?hr ?_;(case hd => rfl);(case hg => rfl);(case hr => first|(go_simp;done)|(go_simp;rfl));intro b_3 hg w4 hbox hb;have b_J:=a_b.mk (hbox);have g_J:=a_b.mk ((by rw [hg];exact (a_g (lup_ HB.out)) : w.heap.size ≤ b_3));have c_v:=a_b.mk ((by rw [hg];exact (a_g (lup_ HB.out)) : w.heap.size ≤ b_3));replace HB:=a_b.mk (a_m (lup_ HB.out) hb);clear hb hbox hg)|((with_reducible refine a_L (N:=3) rfl ?_);refine a_G ?hg (N:=3) ?hd (cs:=#[.slice A1_0 l1_0.length c1_0]) (t:=24) ?hr ?_;(case hd => rfl);(case hg => rfl);(case hr => first|(go_simp;done)|(go_simp;rfl));intro b_4 hg w5 hbox hb;have c_H:=a_b.mk (hbox);have g_K:=a_b.mk ((by rw [hg];exact (a_g (by repeat (first|(with_reducible first|exact HB.out|apply a_f|apply a_c|apply a_e|refine a_d ?_ c_v.out)|exact HB.out))) : w.heap.size ≤ b_4));have e_q:=a_b.mk ((by rw [hg];exact (a_g (by repeat (first|(with_reducible first|exact HB.out|apply a_f|apply a_c|apply a_e|refine a_d ?_ c_v.out)|exact HB.out))) : w.heap.size ≤ b_4));have b_X:=a_b.mk ((by rw [hg];exact Nat.ne_of_lt (a_K (bup_ b_J.out)) : b_3 ≠ b_4));have b_Y:=a_b.mk ((by rw [hg];exact Nat.ne_of_gt (a_K (bup_ b_J.out)) : b_4 ≠ b_3));replace b_J:=a_b.mk (a_i (bup_ b_J.out) hb);replace HB:=a_b.mk (a_m (by repeat (first|(with_reducible first|exact HB.out|apply a_f|apply a_c|apply a_e|refine a_d ?_ c_v.out)|exact HB.out)) hb);clear hb hbox hg;have hnb6:=b_X.out;have hnc6:=b_Y.out;have d_8 : w5.cell? ⟨b_3,0,none⟩ = some (.slice A0_0 l0_0.length c0_0):=(a_h b_J.out 0).trans rfl;have d_9:=a_p b_J.out 0;have f_l : w5.cell? ⟨b_4,0,none⟩ = some (.slice A1_0 l1_0.length c1_0):=(a_h c_H.out 0).trans rfl;have f_m:=a_p c_H.out 0));try go_wp2_with (first|((with_reducible refine a_L (N:=2) rfl ?_);refine a_G ?hg (N:=2) ?hd (cs:=#[.slice A0_0 l0_0.length c0_0]) (t:=24) ?hr ?_;(case hd => rfl);(case hg => rfl);(case hr => first|(go_simp;done)|(go_simp;rfl));intro b_3 hg w4 hbox hb;have b_J:=a_b.mk (hbox);have g_J:=a_b.mk ((by rw [hg];exact (a_g (lup_ HB.out)) : w.heap.size ≤ b_3));have c_v:=a_b.mk ((by rw [hg];exact (a_g (lup_ HB.out)) : w.heap.size ≤ b_3));replace HB:=a_b.mk (a_m (lup_ HB.out) hb);clear hb hbox hg)|((with_reducible refine a_L (N:=3) rfl ?_);refine a_G ?hg (N:=3) ?hd (cs:=#[.slice A1_0 l1_0.length c1_0]) (t:=24) ?hr ?_;(case hd => rfl);(case hg => rfl);(case hr => first|(go_simp;done)|(go_simp;rfl));intro b_4 hg w5 hbox hb;have c_H:=a_b.mk (hbox);have g_K:=a_b.mk ((by rw [hg];exact (a_g (by repeat (first|(with_reducible first|exact HB.out|apply a_f|apply a_c|apply a_e|refine a_d ?_ c_v.out)|exact HB.out))) : w.heap.size ≤ b_4));have e_q:=a_b.mk ((by rw [hg];exact (a_g (by repeat (first|(with_reducible first|exact HB.out|apply a_f|apply a_c|apply a_e|refine a_d ?_ c_v.out)|exact HB.out))) : w.heap.size ≤ b_4));have b_X:=a_b.mk ((by rw [hg];exact Nat.ne_of_lt (a_K (bup_ b_J.out)) : b_3 ≠ b_4));have b_Y:=a_b.mk ((by rw [hg];exact Nat.ne_of_gt (a_K (bup_ b_J.out)) : b_4 ≠ b_3));replace b_J:=a_b.mk (a_i (bup_ b_J.out) hb);replace HB:=a_b.mk (a_m (by repeat (first|(with_reducible first|exact HB.out|apply a_f|apply a_c|apply a_e|refine a_d ?_ c_v.out)|exact HB.out)) hb);clear hb hbox hg;have hnb6:=b_X.out;have hnc6:=b_Y.out;have d_8 : w5.cell? ⟨b_3,0,none⟩ = some (.slice A0_0 l0_0.length c0_0):=(a_h b_J.out 0).trans rfl;have d_9:=a_p b_J.out 0;have f_l : w5.cell? ⟨b_4,0,none⟩ = some (.slice A1_0 l1_0.length c1_0):=(a_h c_H.out 0).trans rfl;have f_m:=a_p c_H.out 0)))
 go_loopg [16] k (fun kq v16 w' => ∃ (x16_1 : Int),v16 = .int .i64 x16_1 ∧ a_b (a_o.l0 kq (l0_0.length : Int) x16_1 l0_0 l1_0 = some r) ∧ a_b (kq ≤ k) ∧ a_b (w'.heap[b_3]? = some (.cells #[(.slice A0_0 l0_0.length c0_0)] 24 (0,0))) ∧ a_b (w'.heap[b_4]? = some (.cells #[(.slice A1_0 l1_0.length c1_0)] 24 (0,0))) ∧ a_b (Below w.heap.size w w'))
 case atStart => exact ⟨(0),(by first|rfl|(simp;done)|(simp [*];done)),H',⟨Nat.le_refl _⟩,⟨by (with_reducible repeat (first|refine a_l ?_ _|refine a_j ?_|refine a_k ?_ _));exact b_J.out⟩,⟨by (with_reducible repeat (first|refine a_l ?_ _|refine a_j ?_|refine a_k ?_ _));exact c_H.out⟩,⟨by repeat (first|(with_reducible first|exact HB.out|apply a_f|apply a_c|apply a_e|refine a_d ?_ c_v.out|refine a_d ?_ e_q.out)|exact HB.out)⟩⟩
 case round =>
  clear H'
  try clear c1
  try clear c2
  try clear p2
  try clear c3
  try clear c3b0
  try clear c3b1
  try clear c3b2
  try clear c6
  try clear d_8
  try clear f_l
  try clear d_9
  try clear f_m
  obtain ⟨x16_1,rfl,HA,HK1,b_J,c_H,HB⟩:=hrel
  cases gk with
  | zero => exact absurd HA.out (by simp [a_o.l0])
  | succ k1 =>
   have H:=HA.out
   clear HA
   simp only [a_o.l0] at H
   by_cases c9 : x16_1 < (l0_0.length : Int)
   rotate_left
   ·rw [if_neg c9] at H
    have c9b0 : decide (x16_1 < (l0_0.length : Int)) = false:=decide_eq_false c9
    clear c9
    obtain rfl:=Option.some.inj H
    go_wp2
    repeat (go_quiet (fail);try go_wp2)
    go_ret
    exact ⟨by first|rfl|(simp [a_r,a_s] <;> rfl)|(simp [*, a_r,a_s] <;> rfl),by repeat (first|(with_reducible first|exact HB.out|apply a_f|apply a_c|apply a_e|refine a_d ?_ c_v.out|refine a_d ?_ e_q.out)|exact HB.out)⟩
   rw [if_pos c9] at H
   have c9b0 : decide (x16_1 < (l0_0.length : Int)) = true:=decide_eq_true c9
   clear c9
   by_cases c10 : 0 ≤ x16_1
   rotate_left
   ·rw [if_neg c10] at H
    exact absurd H (by simp)
   rw [if_pos c10] at H
   have c10b0 : decide (0 ≤ x16_1) = true:=decide_eq_true c10
   clear c10
   by_cases c11 : x16_1 < (l0_0.length : Int)
   rotate_left
   ·rw [if_neg c11] at H
    exact absurd H (by simp)
   rw [if_pos c11] at H
   have c11b0 : decide (x16_1 < (l0_0.length : Int)) = true:=decide_eq_true c11
   clear c11
   by_cases c12 : x16_1 < (l1_0.length : Int)
   rotate_left
   ·rw [if_neg c12] at H
    exact absurd H (by simp)
   rw [if_pos c12] at H
   have c12b0 : decide (x16_1 < (l1_0.length : Int)) = true:=decide_eq_true c12
   clear c12
   by_cases c13 : (!(((a_n l0_0 x16_1).f0) == ((a_n l1_0 x16_1).f0)) || (!(((a_n l0_0 x16_1).f1) == ((a_n l1_0 x16_1).f1)))) = true
   ·rw [if_pos c13] at H
    have c13b0 : (!(((a_n l0_0 x16_1).f0) == ((a_n l1_0 x16_1).f0)) || (!(((a_n l0_0 x16_1).f1) == ((a_n l1_0 x16_1).f1)))) = true:=c13
    clear c13
    obtain rfl:=Option.some.inj H
    have l_q:=b_X.out
    have l_w:=b_Y.out
    have e_W : wr.cell? ⟨b_3,0,none⟩ = some (.slice A0_0 l0_0.length c0_0):=(a_h b_J.out 0).trans rfl
    have e_Y:=a_p b_J.out 0
    have p248 : 0 ≤ (x16_1 : Int):=of_decide_eq_true (by first|(with_reducible assumption)|assumption)
    have q248 : x16_1 < (l0_0.length : Int):=of_decide_eq_true (by first|(with_reducible assumption)|assumption)
    obtain ⟨ad248,e248,d_q,d_r⟩:=c_h b_V.out x16_1 p248 q248
    cases e248
    replace d_q:=(HB.out.cell (World.block_lt_of_cell? w _ d_q)).trans d_q
    replace d_r:=(HB.out.cell (World.block_lt_of_cell? w _ d_r)).trans d_r
    replace p248:=eq_true p248
    replace q248:=eq_true q248
    have f_J : wr.cell? ⟨b_4,0,none⟩ = some (.slice A1_0 l1_0.length c1_0):=(a_h c_H.out 0).trans rfl
    have f_R:=a_p c_H.out 0
    have p249 : 0 ≤ (x16_1 : Int):=of_decide_eq_true (by first|(with_reducible assumption)|assumption)
    have q249 : x16_1 < (l1_0.length : Int):=of_decide_eq_true (by first|(with_reducible assumption)|assumption)
    obtain ⟨ad249,e249,d_s,d_t⟩:=c_h h_W.out x16_1 p249 q249
    cases e249
    replace d_s:=(HB.out.cell (World.block_lt_of_cell? w _ d_s)).trans d_s
    replace d_t:=(HB.out.cell (World.block_lt_of_cell? w _ d_t)).trans d_t
    replace p249:=eq_true p249
    replace q249:=eq_true q249
    go_wp2
    repeat (go_quiet (fail);try go_wp2)
    go_ret
    exact ⟨by first|rfl|(simp [a_r,a_s] <;> rfl)|(simp [*, a_r,a_s] <;> rfl),by repeat (first|(with_reducible first|exact HB.out|apply a_f|apply a_c|apply a_e|refine a_d ?_ c_v.out|refine a_d ?_ e_q.out)|exact HB.out)⟩
   rw [if_neg c13] at H
   have c13b0 : (!(((a_n l0_0 x16_1).f0) == ((a_n l1_0 x16_1).f0)) || (!(((a_n l0_0 x16_1).f1) == ((a_n l1_0 x16_1).f1)))) = false:=by simpa using c13
   clear c13
   have H':=a_b.mk H
   clear H
   have l_r:=b_X.out
   have l_x:=b_Y.out
   have f_K : wr.cell? ⟨b_3,0,none⟩ = some (.slice A0_0 l0_0.length c0_0):=(a_h b_J.out 0).trans rfl
   have f_S:=a_p b_J.out 0
   have p248 : 0 ≤ (x16_1 : Int):=of_decide_eq_true (by first|(with_reducible assumption)|assumption)
   have q248 : x16_1 < (l0_0.length : Int):=of_decide_eq_true (by first|(with_reducible assumption)|assumption)
   obtain ⟨ad248,e248,d_q,d_r⟩:=c_h b_V.out x16_1 p248 q248
   cases e248
   replace d_q:=(HB.out.cell (World.block_lt_of_cell? w _ d_q)).trans d_q
   replace d_r:=(HB.out.cell (World.block_lt_of_cell? w _ d_r)).trans d_r
   replace p248:=eq_true p248
   replace q248:=eq_true q248
   have i_U : wr.cell? ⟨b_4,0,none⟩ = some (.slice A1_0 l1_0.length c1_0):=(a_h c_H.out 0).trans rfl
   have i_6:=a_p c_H.out 0
   have p249 : 0 ≤ (x16_1 : Int):=of_decide_eq_true (by first|(with_reducible assumption)|assumption)
   have q249 : x16_1 < (l1_0.length : Int):=of_decide_eq_true (by first|(with_reducible assumption)|assumption)
   obtain ⟨ad249,e249,d_s,d_t⟩:=c_h h_W.out x16_1 p249 q249
   cases e249
   replace d_s:=(HB.out.cell (World.block_lt_of_cell? w _ d_s)).trans d_s
   replace d_t:=(HB.out.cell (World.block_lt_of_cell? w _ d_t)).trans d_t
   replace p249:=eq_true p249
   replace q249:=eq_true q249
   go_wp2
   repeat (go_quiet (fail);try go_wp2)
   go_roundg k1
   case measure => have:=HK1.out;omega
   case rel => exact ⟨(wrap64 (x16_1 + 1)),(by first|rfl|(simp;done)|(simp [*];done)),H',⟨by have:=HK1.out;omega⟩,⟨by (with_reducible repeat (first|refine a_l ?_ _|refine a_j ?_|refine a_k ?_ _));exact b_J.out⟩,⟨by (with_reducible repeat (first|refine a_l ?_ _|refine a_j ?_|refine a_k ?_ _));exact c_H.out⟩,⟨by repeat (first|(with_reducible first|exact HB.out|apply a_f|apply a_c|apply a_e|refine a_d ?_ c_v.out|refine a_d ?_ e_q.out)|exact HB.out)⟩⟩
end Go.Proofs.YtcpfcehfgenljaaDoor.Q
end
section
namespace Go.Proofs.YtcpfcehfgenljaaDoor.Q
open Go.RowKit Go.Proofs.YtcpfcehfgenljaaDoorW.PrintWords Go.Proofs.YtcpfcehfgenljaaDoorW.PrintLast Go.Proofs.YtcpfcehfgenljaaDoorW.PrintMore
set_option linter.unusedVariables false
set_option linter.unusedSimpArgs false
def b_R.f (l0_0 : List (S56)) (a1 : Int) : Option (Int):=(b_b.f l0_0 a1).bind fun t344 => (if t344 = true then (if 0 ≤ a1 then (if a1 < (l0_0.length : Int) then ((b_S.f l0_0 ((a_n l0_0 a1).f0) ((a_n l0_0 a1).f1)).bind fun t347 => (some t347)) else (none)) else (none)) else (some 0))
set_option maxHeartbeats 8000000 in
set_option maxRecDepth 100000 in
theorem b_R.calls (A0_0 : Option Addr) (c0_0 : Nat) (l0_0 : List (S56)) (a1 : Int) (r : Int) (w : World) (hr0_0 : Kd.C k56 w A0_0 l0_0.length l0_0) (hc0_0 : l0_0.length ≤ c0_0) (h : b_R.f l0_0 a1 = some r) :
 Calls Tryd.prog 34 #[.agg #[.slice A0_0 l0_0.length c0_0],.int .i64 a1] w fun e w' => e = .returned (.int .u32 r) ∧ Below w.heap.size w w':=by
 have hu24:=Tryd.underlying24
 have hu56:=Tryd.underlying56
 have b_V:=a_b.mk hr0_0
 have c_l:=a_b.mk hc0_0
 clear hr0_0 hc0_0
 have HB:=a_b.mk (Below.refl w.heap.size w)
 have H : ((b_b.f l0_0 a1).bind fun t344 => (if t344 = true then (if 0 ≤ a1 then (if a1 < (l0_0.length : Int) then ((b_S.f l0_0 ((a_n l0_0 a1).f0) ((a_n l0_0 a1).f1)).bind fun t347 => (some t347)) else (none)) else (none)) else (some 0))) = some r:=h
 clear h
 replace H:=Option.bind_eq_some_iff.mp H
 obtain ⟨t344,A30,H⟩:=H
 replace H : (if t344 = true then (if 0 ≤ a1 then (if a1 < (l0_0.length : Int) then ((b_S.f l0_0 ((a_n l0_0 a1).f0) ((a_n l0_0 a1).f1)).bind fun t347 => (some t347)) else (none)) else (none)) else (some 0)) = some r:=H
 have A3:=a_b.mk A30
 clear A30
 by_cases c4 : t344 = true
 rotate_left
 ·replace c4:=Bool.eq_false_iff.mpr c4
  subst c4
  have H1 : (some 0) = some r:=by rw [if_neg (show ¬ (false = true) by decide)] at H;exact H
  clear H
  have H:=H1
  clear H1
  obtain rfl:=Option.some.inj H
  go_enter Tryd.func34,Tryd.ntmps34
  go_wp2_with (first|((with_reducible refine a_L (N:=2) rfl ?_);refine a_G ?hg (N:=2) ?hd (cs:=#[.slice A0_0 l0_0.length c0_0]) (t:=24) ?hr ?_;(case hd => rfl);(case hg => rfl);(case hr => first|(go_simp;done)|(go_simp;rfl));intro d_V hg w17 hbox hb;have c_U:=a_b.mk (hbox);have k_q:=a_b.mk ((by rw [hg];exact (a_g (lup_ HB.out)) : w.heap.size ≤ d_V));have e_r:=a_b.mk ((by rw [hg];exact (a_g (lup_ HB.out)) : w.heap.size ≤ d_V));replace HB:=a_b.mk (a_m (lup_ HB.out) hb);clear hb hbox hg;have f_K : w17.cell? ⟨d_V,0,none⟩ = some (.slice A0_0 l0_0.length c0_0):=(a_h c_U.out 0).trans rfl;have f_S:=a_p c_U.out 0)|((with_reducible refine a_D (f:=39) rfl ?_);refine b_n (some 8) rfl rfl Tryd.func39 (by kernel_rfl) rfl #[.agg #[.slice A0_0 l0_0.length c0_0],.int .i64 a1] rfl (by (try simp only [List.map_toArray,List.map_cons,List.map_nil]);first|done|rfl|(simp only [List.length_drop,List.length_take];rfl)) ?_;(with_reducible refine (b_b.calls _ _ l0_0 a1 false _ ?side1 ?side2 A3.out).mono ?_);(case side1 => repeat (first|exact (Kd.a_5 b_V.out HB.out)|(with_reducible refine Kd.a_M ?_ _)|(with_reducible refine Kd.a_N ?_ _)|(with_reducible refine Kd.a_2 ?_)));(case side2 => exact c_l.out);rintro e w19 ⟨rfl,hb⟩;refine ⟨_,rfl,?_⟩;replace c_U:=a_b.mk (a_i (bup_ c_U.out) hb);replace HB:=a_b.mk (a_m (by repeat (first|(with_reducible first|exact HB.out|apply a_f|apply a_c|apply a_e|refine a_d ?_ e_r.out)|exact HB.out)) hb);(try clear hb);(try clear hb2);(try clear hk);(try clear hi)))
  go_ret
  exact ⟨by first|rfl|(simp [a_r,a_s] <;> rfl)|(simp [*, a_r,a_s] <;> rfl),by repeat (first|(with_reducible first|exact HB.out|apply a_f|apply a_c|apply a_e|refine a_d ?_ e_r.out)|exact HB.out)⟩
 subst c4
 have H1 : (if 0 ≤ a1 then (if a1 < (l0_0.length : Int) then ((b_S.f l0_0 ((a_n l0_0 a1).f0) ((a_n l0_0 a1).f1)).bind fun t347 => (some t347)) else (none)) else (none)) = some r:=by rw [if_pos rfl] at H;exact H
 clear H
 have H:=H1
 clear H1
 by_cases c5 : 0 ≤ a1
 rotate_left
 ·rw [if_neg c5] at H
  exact absurd H (by simp)
 rw [if_pos c5] at H
 have c5b0 : decide (0 ≤ a1) = true:=decide_eq_true c5
 clear c5
 by_cases c6 : a1 < (l0_0.length : Int)
 rotate_left
 ·rw [if_neg c6] at H
  exact absurd H (by simp)
 rw [if_pos c6] at H
 have c6b0 : decide (a1 < (l0_0.length : Int)) = true:=decide_eq_true c6
 clear c6
 replace H:=Option.bind_eq_some_iff.mp H
 obtain ⟨t347,A70,H⟩:=H
 replace H : (some t347) = some r:=H
 have A7:=a_b.mk A70
 clear A70
 obtain rfl:=Option.some.inj H
 go_enter Tryd.func34,Tryd.ntmps34
 go_wp2_with (first|((with_reducible refine a_L (N:=2) rfl ?_);refine a_G ?hg (N:=2) ?hd (cs:=#[.slice A0_0 l0_0.length c0_0]) (t:=24) ?hr ?_;(case hd => rfl);(case hg => rfl);(case hr => first|(go_simp;done)|(go_simp;rfl));intro d_V hg w8 hbox hb;have c_U:=a_b.mk (hbox);have k_q:=a_b.mk ((by rw [hg];exact (a_g (lup_ HB.out)) : w.heap.size ≤ d_V));have e_r:=a_b.mk ((by rw [hg];exact (a_g (lup_ HB.out)) : w.heap.size ≤ d_V));replace HB:=a_b.mk (a_m (lup_ HB.out) hb);clear hb hbox hg;have j_P : w8.cell? ⟨d_V,0,none⟩ = some (.slice A0_0 l0_0.length c0_0):=(a_h c_U.out 0).trans rfl;have j_S:=a_p c_U.out 0)|((with_reducible refine a_D (f:=39) rfl ?_);refine b_n (some 8) rfl rfl Tryd.func39 (by kernel_rfl) rfl #[.agg #[.slice A0_0 l0_0.length c0_0],.int .i64 a1] rfl (by (try simp only [List.map_toArray,List.map_cons,List.map_nil]);first|done|rfl|(simp only [List.length_drop,List.length_take];rfl)) ?_;(with_reducible refine (b_b.calls _ _ l0_0 a1 true _ ?side1 ?side2 A3.out).mono ?_);(case side1 => repeat (first|exact (Kd.a_5 b_V.out HB.out)|(with_reducible refine Kd.a_M ?_ _)|(with_reducible refine Kd.a_N ?_ _)|(with_reducible refine Kd.a_2 ?_)));(case side2 => exact c_l.out);rintro e w10 ⟨rfl,hb⟩;refine ⟨_,rfl,?_⟩;replace c_U:=a_b.mk (a_i (bup_ c_U.out) hb);replace HB:=a_b.mk (a_m (by repeat (first|(with_reducible first|exact HB.out|apply a_f|apply a_c|apply a_e|refine a_d ?_ e_r.out)|exact HB.out)) hb);(try clear hb);(try clear hb2);(try clear hk);(try clear hi);have f_H : w10.cell? ⟨d_V,0,none⟩ = some (.slice A0_0 l0_0.length c0_0):=(a_h c_U.out 0).trans rfl;have f_P:=a_p c_U.out 0;have p345 : 0 ≤ (a1 : Int):=of_decide_eq_true (by first|(with_reducible assumption)|assumption);have q345 : a1 < (l0_0.length : Int):=of_decide_eq_true (by first|(with_reducible assumption)|assumption);obtain ⟨ad345,e345,f_X,f_Y⟩:=c_h b_V.out a1 p345 q345;cases e345;replace f_X:=(HB.out.cell (World.block_lt_of_cell? w _ f_X)).trans f_X;replace f_Y:=(HB.out.cell (World.block_lt_of_cell? w _ f_Y)).trans f_Y;replace p345:=eq_true p345;replace q345:=eq_true q345)|((with_reducible refine a_L (N:=5) rfl ?_);refine a_G ?hg (N:=5) ?hd (cs:=#[.int .i64 0,.int .i64 0]) (t:=56) ?hr ?_;(case hd => rfl);(case hg => rfl);(case hr => first|(go_simp;done)|(go_simp;rfl));intro e_V hg w12 hbox hb;have f_A:=a_b.mk (hbox);have m_f:=a_b.mk ((by rw [hg];exact (a_g (by repeat (first|(with_reducible first|exact HB.out|apply a_f|apply a_c|apply a_e|refine a_d ?_ e_r.out)|exact HB.out))) : w.heap.size ≤ e_V));have i_G:=a_b.mk ((by rw [hg];exact (a_g (by repeat (first|(with_reducible first|exact HB.out|apply a_f|apply a_c|apply a_e|refine a_d ?_ e_r.out)|exact HB.out))) : w.heap.size ≤ e_V));have d_2:=a_b.mk ((by rw [hg];exact Nat.ne_of_lt (a_K (bup_ c_U.out)) : d_V ≠ e_V));have g_V:=a_b.mk ((by rw [hg];exact Nat.ne_of_gt (a_K (bup_ c_U.out)) : e_V ≠ d_V));replace c_U:=a_b.mk (a_i (bup_ c_U.out) hb);replace HB:=a_b.mk (a_m (by repeat (first|(with_reducible first|exact HB.out|apply a_f|apply a_c|apply a_e|refine a_d ?_ e_r.out)|exact HB.out)) hb);clear hb hbox hg;have l_p:=g_V.out;have l_v:=d_2.out;have f_I : w12.cell? ⟨e_V,0,none⟩ = some (.int .i64 0):=(a_h f_A.out 0).trans rfl;have i_T : w12.cell? ⟨e_V,1,none⟩ = some (.int .i64 0):=(a_h f_A.out 1).trans rfl;have f_Q:=a_p f_A.out 0;have i_5:=a_p f_A.out 1;have e_W : w12.cell? ⟨d_V,0,none⟩ = some (.slice (some ad345) l0_0.length c0_0):=(a_h c_U.out 0).trans rfl;have e_Y:=a_p c_U.out 0)|((with_reducible refine a_D (f:=48) rfl ?_);refine b_n (some 17) rfl rfl Tryd.func48 (by kernel_rfl) rfl #[.agg #[.slice (some ad345) l0_0.length c0_0],.func (.func 53) #[] #[.pointer (some ⟨e_V,0,none⟩)]] rfl (by (try simp only [List.map_toArray,List.map_cons,List.map_nil]);first|done|rfl|(simp only [List.length_drop,List.length_take];rfl)) ?_;(with_reducible refine (b_S.calls _ _ l0_0 e_V ((a_n l0_0 a1).f0) ((a_n l0_0 a1).f1) t347 _ ?side1 ?side2 ?side3 A7.out).mono ?_);(case side1 => exact Kd.a_5 b_V.out (by repeat (first|(with_reducible first|exact HB.out|apply a_f|apply a_c|apply a_e|refine a_d ?_ e_r.out|refine a_d ?_ i_G.out)|exact HB.out)));(case side2 => exact c_l.out);(case side3 => exact (by (with_reducible repeat (first|refine a_l ?_ _|refine a_j ?_|refine a_k ?_ _));refine b_p (cs:=#[.int .i64 ((a_n l0_0 a1).f0),.int .i64 0]) ?_ 1 _ rfl;(with_reducible repeat (first|refine a_l ?_ _|refine a_j ?_|refine a_k ?_ _));refine b_p (cs:=#[.int .i64 0,.int .i64 0]) ?_ 0 _ rfl;(with_reducible repeat (first|refine a_l ?_ _|refine a_j ?_|refine a_k ?_ _));exact f_A.out));rintro e w16 ⟨rfl,hb⟩;refine ⟨_,rfl,?_⟩;replace c_U:=a_b.mk (a_i (g:=d_V) (o:=.cells #[.slice (some ad345) l0_0.length c0_0] 24 (0,0)) (by (with_reducible repeat (first|refine a_l ?_ _|refine a_j ?_|refine a_k ?_ _));refine b_m ?_ d_2.out _;(with_reducible repeat (first|refine a_l ?_ _|refine a_j ?_|refine a_k ?_ _));refine b_m ?_ d_2.out _;(with_reducible repeat (first|refine a_l ?_ _|refine a_j ?_|refine a_k ?_ _));exact c_U.out) hb);replace f_A:=a_b.mk (a_i (g:=e_V) (o:=.cells #[.int .i64 ((a_n l0_0 a1).f0),.int .i64 ((a_n l0_0 a1).f1)] 56 (0,0)) (by (with_reducible repeat (first|refine a_l ?_ _|refine a_j ?_|refine a_k ?_ _));refine b_p (cs:=#[.int .i64 ((a_n l0_0 a1).f0),.int .i64 0]) ?_ 1 _ rfl;(with_reducible repeat (first|refine a_l ?_ _|refine a_j ?_|refine a_k ?_ _));refine b_p (cs:=#[.int .i64 0,.int .i64 0]) ?_ 0 _ rfl;(with_reducible repeat (first|refine a_l ?_ _|refine a_j ?_|refine a_k ?_ _));exact f_A.out) hb);replace HB:=a_b.mk (a_m (by repeat (first|(with_reducible first|exact HB.out|apply a_f|apply a_c|apply a_e|refine a_d ?_ e_r.out|refine a_d ?_ i_G.out)|exact HB.out)) hb);(try clear hb);(try clear hb2);(try clear hk);(try clear hi)))
 go_ret
 exact ⟨by first|rfl|(simp [a_r,a_s] <;> rfl)|(simp [*, a_r,a_s] <;> rfl),by repeat (first|(with_reducible first|exact HB.out|apply a_f|apply a_c|apply a_e|refine a_d ?_ e_r.out|refine a_d ?_ i_G.out)|exact HB.out)⟩
end Go.Proofs.YtcpfcehfgenljaaDoor.Q
end
