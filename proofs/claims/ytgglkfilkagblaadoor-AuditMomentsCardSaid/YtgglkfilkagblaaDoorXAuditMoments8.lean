/- Part 9 of 13 of what the row of AuditMoments stands on: contracts over the given program's functions, the plain law, the row; no condition beyond those that each theorem states. -/
import Derived.Test.YtgglkfilkagblaaDoorXAuditMoments7
section
namespace Go.Proofs.YtgglkfilkagblaaDoor.Q
open Go.RowKit Go.Proofs.YtgglkfilkagblaaDoorW.PrintWords Go.Proofs.YtgglkfilkagblaaDoorW.PrintLast Go.Proofs.YtgglkfilkagblaaDoorW.PrintMore
set_option linter.unusedVariables false
set_option linter.unusedSimpArgs false
def a_I.l0 : Nat → Int → List (S33) → Int → Int → Option (Bool)
 | 0,_,_,_,_ => none
 | k + 1,x3,x10,x11,x12 => if x12 < x11 then (if 0 ≤ x12 then (if x12 < (x10.length : Int) then (if ((a_a x10 x12).f4) = (-1) then (a_I.l0 k x3 x10 x11 (wrap64 (x12 + 1))) else (if ((a_a x10 x12).f5 = true) then (if (a_a x10 x12).f6 = true then (some false) else ((b_Q.f ((a_a x10 x12).f7) ((a_a x10 x12).f4)).bind fun t126 => (if t126 = true then ((b_Q.f x3 ((a_a x10 x12).f4)).bind fun t127 => (if t127 = true then (some false) else (if 0 ≤ ((a_a x10 x12).f4) then (a_I.l0 k (Go.bits .or .u32 x3 (shl .u32 1 ((a_a x10 x12).f4))) x10 x11 (wrap64 (x12 + 1))) else (none)))) else (some false)))) else (some false))) else (none)) else (none)) else (some true)
def a_I.f (k : Nat) (a0_0 : Int) (l0_1 : List (S33)) : Option (Bool):=(a_y.f k a0_0 l0_1).bind fun t123 => (if t123 = true then (a_I.l0 k 0 l0_1 (l0_1.length : Int) 0) else (some false))
theorem a_I.c_F : ∀ k,(∀ y0 y1 y2 y3,LeO (a_I.l0 k y0 y1 y2 y3) (a_I.l0 (k + 1) y0 y1 y2 y3))
 | 0 => fun _ _ _ _ r h => by simp [a_I.l0] at h
 | k + 1 => by
  have ih0:=a_I.c_F k
  ·intro y0 y1 y2 y3
   unfold a_I.l0
   repeat' first
   | (with_reducible exact ih0 _ _ _ _)
   | (with_reducible exact a_y.mono _ _ _)
   | (with_reducible exact LeO.refl _)
   | (with_reducible exact LeO.none _)
   | (with_reducible refine LeO.ite ?_ ?_)
   | (with_reducible refine LeO.bind ?_ (fun _ => ?_))
   | exact ih0 _ _ _ _
   | exact a_y.mono _ _ _
   | exact LeO.none _
   | refine LeO.ite ?_ ?_
   | refine LeO.bind ?_ (fun _ => ?_)
theorem a_I.mono : ∀ a0 a1 k,LeO (a_I.f k a0 a1) (a_I.f (k + 1) a0 a1):=by
 intro a0 a1 k
 have ih0:=a_I.c_F k
 unfold a_I.f
 repeat' first
  | (with_reducible exact ih0 _ _ _ _)
  | (with_reducible exact a_y.mono _ _ _)
  | (with_reducible exact LeO.refl _)
  | (with_reducible exact LeO.none _)
  | (with_reducible refine LeO.ite ?_ ?_)
  | (with_reducible refine LeO.bind ?_ (fun _ => ?_))
  | exact ih0 _ _ _ _
  | exact a_y.mono _ _ _
  | exact LeO.none _
  | refine LeO.ite ?_ ?_
  | refine LeO.bind ?_ (fun _ => ?_)
set_option maxHeartbeats 8000000 in
set_option maxRecDepth 100000 in
theorem a_I.calls (k : Nat) (a0_0 : Int) (A0_1 : Option Addr) (c0_1 : Nat) (l0_1 : List (S33)) (r : Bool) (w : World) (hr0_1 : Kd.C k33 w A0_1 l0_1.length l0_1) (hc0_1 : l0_1.length ≤ c0_1) (h : a_I.f k a0_0 l0_1 = some r) :
 Calls Tryd.prog 6 #[.agg #[.int .i64 a0_0,.slice A0_1 l0_1.length c0_1]] w fun e w' => e = .returned (.bool r) ∧ Below w.heap.size w w':=by
 have hu24:=Tryd.underlying24
 have hu33:=Tryd.underlying33
 have b_v:=a_g.mk hr0_1
 have c_b:=a_g.mk hc0_1
 clear hr0_1 hc0_1
 have HB:=a_g.mk (Below.refl w.heap.size w)
 have H : ((a_y.f k a0_0 l0_1).bind fun t123 => (if t123 = true then (a_I.l0 k 0 l0_1 (l0_1.length : Int) 0) else (some false))) = some r:=h
 clear h
 replace H:=Option.bind_eq_some_iff.mp H
 obtain ⟨t123,A20,H⟩:=H
 replace H : (if t123 = true then (a_I.l0 k 0 l0_1 (l0_1.length : Int) 0) else (some false)) = some r:=H
 have A2:=a_g.mk A20
 clear A20
 by_cases c3 : t123 = true
 rotate_left
 ·replace c3:=Bool.eq_false_iff.mpr c3
  subst c3
  have H1 : (some false) = some r:=by rw [if_neg (show ¬ (false = true) by decide)] at H;exact H
  clear H
  have H:=H1
  clear H1
  obtain rfl:=Option.some.inj H
  go_enter Tryd.func6,Tryd.ntmps6
  go_wp2_with (first|((with_reducible refine a_G (N:=1) rfl ?_);refine a_C ?hg (N:=1) ?hd (cs:=#[.int .i64 a0_0,.slice A0_1 l0_1.length c0_1]) (t:=24) ?hr ?_;(case hd => rfl);(case hg => rfl);(case hr => first|(go_simp;done)|(go_simp;rfl));intro e_X hg w40 hbox hb;have c_9:=a_g.mk (hbox);have z_z:=a_g.mk ((by rw [hg];exact (a_n (lup_ HB.out)) : w.heap.size ≤ e_X));have e_x:=a_g.mk ((by rw [hg];exact (a_n (lup_ HB.out)) : w.heap.size ≤ e_X));replace HB:=a_g.mk (a_p (lup_ HB.out) hb);clear hb hbox hg;have A_V : w40.cell? ⟨e_X,0,none⟩ = some (.int .i64 a0_0):=(a_b c_9.out 0).trans rfl;have A_W : w40.cell? ⟨e_X,1,none⟩ = some (.slice A0_1 l0_1.length c0_1):=(a_b c_9.out 1).trans rfl;have E_D:=a_c c_9.out 0;have E_E:=a_c c_9.out 1)|((with_reducible refine a_J (f:=19) rfl ?_);refine b_t (some 7) rfl rfl Tryd.func19 (by kernel_rfl) rfl #[.agg #[.int .i64 a0_0,.slice A0_1 l0_1.length c0_1]] rfl (by (try simp only [List.map_toArray,List.map_cons,List.map_nil]);first|done|rfl|(simp only [List.length_drop,List.length_take];rfl)) ?_;(with_reducible refine (a_y.calls k a0_0 _ _ l0_1 false _ ?side1 ?side2 A2.out).mono ?_);(case side1 => repeat (first|exact (Kd.a_5 b_v.out HB.out)|(with_reducible refine Kd.a_8 ?_ _)|(with_reducible refine Kd.a_9 ?_ _)|(with_reducible refine Kd.b_p ?_)));(case side2 => exact c_b.out);rintro e w42 ⟨rfl,hb⟩;refine ⟨_,rfl,?_⟩;replace c_9:=a_g.mk (a_m (bup_ c_9.out) hb);replace HB:=a_g.mk (a_p (by repeat (first|(with_reducible first|exact HB.out|apply a_j|apply a_f|apply a_k|refine a_i ?_ e_x.out)|exact HB.out)) hb);(try clear hb);(try clear hb2);(try clear hk);(try clear hi)))
  go_ret
  exact ⟨by first|rfl|(simp [a_u,a_v] <;> rfl)|(simp [*, a_u,a_v] <;> rfl),by repeat (first|(with_reducible first|exact HB.out|apply a_j|apply a_f|apply a_k|refine a_i ?_ e_x.out)|exact HB.out)⟩
 subst c3
 have H1 : (a_I.l0 k 0 l0_1 (l0_1.length : Int) 0) = some r:=by rw [if_pos rfl] at H;exact H
 clear H
 have H:=H1
 clear H1
 have H':=a_g.mk H
 clear H
 go_enter Tryd.func6,Tryd.ntmps6
 go_wp2_with (first|((with_reducible refine a_G (N:=1) rfl ?_);refine a_C ?hg (N:=1) ?hd (cs:=#[.int .i64 a0_0,.slice A0_1 l0_1.length c0_1]) (t:=24) ?hr ?_;(case hd => rfl);(case hg => rfl);(case hr => first|(go_simp;done)|(go_simp;rfl));intro e_X hg w4 hbox hb;have c_9:=a_g.mk (hbox);have z_z:=a_g.mk ((by rw [hg];exact (a_n (lup_ HB.out)) : w.heap.size ≤ e_X));have e_x:=a_g.mk ((by rw [hg];exact (a_n (lup_ HB.out)) : w.heap.size ≤ e_X));replace HB:=a_g.mk (a_p (lup_ HB.out) hb);clear hb hbox hg;have f_X : w4.cell? ⟨e_X,0,none⟩ = some (.int .i64 a0_0):=(a_b c_9.out 0).trans rfl;have f_Y : w4.cell? ⟨e_X,1,none⟩ = some (.slice A0_1 l0_1.length c0_1):=(a_b c_9.out 1).trans rfl;have f_Z:=a_c c_9.out 0;have f_0:=a_c c_9.out 1)|((with_reducible refine a_J (f:=19) rfl ?_);refine b_t (some 7) rfl rfl Tryd.func19 (by kernel_rfl) rfl #[.agg #[.int .i64 a0_0,.slice A0_1 l0_1.length c0_1]] rfl (by (try simp only [List.map_toArray,List.map_cons,List.map_nil]);first|done|rfl|(simp only [List.length_drop,List.length_take];rfl)) ?_;(with_reducible refine (a_y.calls k a0_0 _ _ l0_1 true _ ?side1 ?side2 A2.out).mono ?_);(case side1 => repeat (first|exact (Kd.a_5 b_v.out HB.out)|(with_reducible refine Kd.a_8 ?_ _)|(with_reducible refine Kd.a_9 ?_ _)|(with_reducible refine Kd.b_p ?_)));(case side2 => exact c_b.out);rintro e w6 ⟨rfl,hb⟩;refine ⟨_,rfl,?_⟩;replace c_9:=a_g.mk (a_m (bup_ c_9.out) hb);replace HB:=a_g.mk (a_p (by repeat (first|(with_reducible first|exact HB.out|apply a_j|apply a_f|apply a_k|refine a_i ?_ e_x.out)|exact HB.out)) hb);(try clear hb);(try clear hb2);(try clear hk);(try clear hi);have f_e : w6.cell? ⟨e_X,0,none⟩ = some (.int .i64 a0_0):=(a_b c_9.out 0).trans rfl;have f_f : w6.cell? ⟨e_X,1,none⟩ = some (.slice A0_1 l0_1.length c0_1):=(a_b c_9.out 1).trans rfl;have f_g:=a_c c_9.out 0;have f_h:=a_c c_9.out 1))
 go_loopg [3,12] k (fun kq v3 v12 w' => ∃ (x3_1 : Int) (x12_1 : Int),v3 = .int .u32 x3_1 ∧ v12 = .int .i64 x12_1 ∧ a_g (a_I.l0 kq x3_1 l0_1 (l0_1.length : Int) x12_1 = some r) ∧ a_g (kq ≤ k) ∧ a_g (w'.heap[e_X]? = some (.cells #[.int .i64 a0_0,(.slice A0_1 l0_1.length c0_1)] 24 (0,0))) ∧ a_g (Below w.heap.size w w'))
 case atStart => exact ⟨(0),(0),(by first|rfl|(simp;done)|(simp [*];done)),(by first|rfl|(simp;done)|(simp [*];done)),H',⟨Nat.le_refl _⟩,⟨by (with_reducible repeat (first|refine a_e ?_ _|refine a_h ?_|refine a_d ?_ _));exact c_9.out⟩,⟨by repeat (first|(with_reducible first|exact HB.out|apply a_j|apply a_f|apply a_k|refine a_i ?_ e_x.out)|exact HB.out)⟩⟩
 case round =>
  clear H'
  try clear c1
  try clear p2
  try clear c3
  try clear c6
  try clear f_X
  try clear f_Y
  try clear f_e
  try clear f_f
  try clear f_Z
  try clear f_0
  try clear f_g
  try clear f_h
  obtain ⟨x3_1,x12_1,rfl,rfl,HA,HK1,c_9,HB⟩:=hrel
  cases gk with
  | zero => exact absurd HA.out (by simp [a_I.l0])
  | succ k1 =>
   have H:=HA.out
   clear HA
   simp only [a_I.l0] at H
   by_cases c8 : x12_1 < (l0_1.length : Int)
   rotate_left
   ·rw [if_neg c8] at H
    have c8b0 : decide (x12_1 < (l0_1.length : Int)) = false:=decide_eq_false c8
    clear c8
    obtain rfl:=Option.some.inj H
    go_wp2
    go_ret
    exact ⟨by first|rfl|(simp [a_u,a_v] <;> rfl)|(simp [*, a_u,a_v] <;> rfl),by repeat (first|(with_reducible first|exact HB.out|apply a_j|apply a_f|apply a_k|refine a_i ?_ e_x.out)|exact HB.out)⟩
   rw [if_pos c8] at H
   have c8b0 : decide (x12_1 < (l0_1.length : Int)) = true:=decide_eq_true c8
   clear c8
   by_cases c9 : 0 ≤ x12_1
   rotate_left
   ·rw [if_neg c9] at H
    exact absurd H (by simp)
   rw [if_pos c9] at H
   have c9b0 : decide (0 ≤ x12_1) = true:=decide_eq_true c9
   clear c9
   by_cases c10 : x12_1 < (l0_1.length : Int)
   rotate_left
   ·rw [if_neg c10] at H
    exact absurd H (by simp)
   rw [if_pos c10] at H
   have c10b0 : decide (x12_1 < (l0_1.length : Int)) = true:=decide_eq_true c10
   clear c10
   by_cases c11 : ((a_a l0_1 x12_1).f4) = (-1)
   ·rw [if_pos c11] at H
    have c11b0 : (((a_a l0_1 x12_1).f4) == (-1)) = true:=beq_iff_eq.mpr c11
    have c11b1 : (((a_a l0_1 x12_1).f4) != (-1)) = false:=bne_eq_false_iff_eq.mpr c11
    clear c11
    have H':=a_g.mk H
    clear H
    have p124 : 0 ≤ (x12_1 : Int):=of_decide_eq_true (by first|(with_reducible assumption)|assumption)
    have q124 : x12_1 < (l0_1.length : Int):=of_decide_eq_true (by first|(with_reducible assumption)|assumption)
    obtain ⟨ad124,e124,c_0,c_1,c_2,c_3,c_4,b_9,c_a,c_5,c_6,c_7,c_t⟩:=c_e b_v.out x12_1 p124 q124
    cases e124
    replace c_0:=(HB.out.cell (World.block_lt_of_cell? w _ c_0)).trans c_0
    replace c_1:=(HB.out.cell (World.block_lt_of_cell? w _ c_1)).trans c_1
    replace c_2:=(HB.out.cell (World.block_lt_of_cell? w _ c_2)).trans c_2
    replace c_3:=(HB.out.cell (World.block_lt_of_cell? w _ c_3)).trans c_3
    replace c_4:=(HB.out.cell (World.block_lt_of_cell? w _ c_4)).trans c_4
    replace b_9:=(HB.out.cell (World.block_lt_of_cell? w _ b_9)).trans b_9
    replace c_a:=(HB.out.cell (World.block_lt_of_cell? w _ c_a)).trans c_a
    replace c_5:=(HB.out.cell (World.block_lt_of_cell? w _ c_5)).trans c_5
    replace c_6:=(HB.out.cell (World.block_lt_of_cell? w _ c_6)).trans c_6
    replace c_7:=(HB.out.cell (World.block_lt_of_cell? w _ c_7)).trans c_7
    replace c_t:=(HB.out.cell (World.block_lt_of_cell? w _ c_t)).trans c_t
    replace p124:=eq_true p124
    replace q124:=eq_true q124
    go_wp2_with (first|((with_reducible refine a_G (N:=5) rfl ?_);refine a_C ?hg (N:=5) ?hd (cs:=#[.int .i64 0,.int .i64 0,.int .i64 0,.int .i64 0,.int .i64 0,.bool false,.bool false,.int .u32 0,.int .i64 0,.int .i64 0,.int .i64 0]) (t:=33) ?hr ?_;(case hd => rfl);(case hg => rfl);(case hr => first|(go_simp;done)|(go_simp;rfl));intro b_C hg w12 hbox hb;have b_a:=a_g.mk (hbox);have p_c:=a_g.mk ((by rw [hg];exact (a_n (by repeat (first|(with_reducible first|exact HB.out|apply a_j|apply a_f|apply a_k|refine a_i ?_ e_x.out)|exact HB.out))) : w.heap.size ≤ b_C));have i_K:=a_g.mk ((by rw [hg];exact (a_n (by repeat (first|(with_reducible first|exact HB.out|apply a_j|apply a_f|apply a_k|refine a_i ?_ e_x.out)|exact HB.out))) : w.heap.size ≤ b_C));have b_w:=a_g.mk ((by rw [hg];exact Nat.ne_of_lt (a_L (bup_ c_9.out)) : e_X ≠ b_C));have d_N:=a_g.mk ((by rw [hg];exact Nat.ne_of_gt (a_L (bup_ c_9.out)) : b_C ≠ e_X));replace c_9:=a_g.mk (a_m (bup_ c_9.out) hb);replace HB:=a_g.mk (a_p (by repeat (first|(with_reducible first|exact HB.out|apply a_j|apply a_f|apply a_k|refine a_i ?_ e_x.out)|exact HB.out)) hb);clear hb hbox hg;have s_l:=d_N.out;have s_m:=b_w.out;have f_y : w12.cell? ⟨b_C,0,none⟩ = some (.int .i64 0):=(a_b b_a.out 0).trans rfl;have f_z : w12.cell? ⟨b_C,1,none⟩ = some (.int .i64 0):=(a_b b_a.out 1).trans rfl;have f_A : w12.cell? ⟨b_C,2,none⟩ = some (.int .i64 0):=(a_b b_a.out 2).trans rfl;have f_B : w12.cell? ⟨b_C,3,none⟩ = some (.int .i64 0):=(a_b b_a.out 3).trans rfl;have f_C : w12.cell? ⟨b_C,4,none⟩ = some (.int .i64 0):=(a_b b_a.out 4).trans rfl;have f_D : w12.cell? ⟨b_C,5,none⟩ = some (.bool false):=(a_b b_a.out 5).trans rfl;have f_E : w12.cell? ⟨b_C,6,none⟩ = some (.bool false):=(a_b b_a.out 6).trans rfl;have f_F : w12.cell? ⟨b_C,7,none⟩ = some (.int .u32 0):=(a_b b_a.out 7).trans rfl;have f_G : w12.cell? ⟨b_C,8,none⟩ = some (.int .i64 0):=(a_b b_a.out 8).trans rfl;have f_H : w12.cell? ⟨b_C,9,none⟩ = some (.int .i64 0):=(a_b b_a.out 9).trans rfl;have e_P : w12.cell? ⟨b_C,10,none⟩ = some (.int .i64 0):=(a_b b_a.out 10).trans rfl;have f_I:=a_c b_a.out 0;have f_J:=a_c b_a.out 1;have f_K:=a_c b_a.out 2;have f_L:=a_c b_a.out 3;have f_M:=a_c b_a.out 4;have f_N:=a_c b_a.out 5;have f_O:=a_c b_a.out 6;have f_P:=a_c b_a.out 7;have f_Q:=a_c b_a.out 8;have f_R:=a_c b_a.out 9;have e_Q:=a_c b_a.out 10))
    go_roundg k1
    case measure => have:=HK1.out;omega
    case rel => exact ⟨(x3_1),(wrap64 (x12_1 + 1)),(by first|rfl|(simp;done)|(simp [*];done)),(by first|rfl|(simp;done)|(simp [*];done)),H',⟨by have:=HK1.out;omega⟩,⟨by (with_reducible repeat (first|refine a_e ?_ _|refine a_h ?_|refine a_d ?_ _));refine a_o ?_ b_w.out _;(with_reducible repeat (first|refine a_e ?_ _|refine a_h ?_|refine a_d ?_ _));refine a_o ?_ b_w.out _;(with_reducible repeat (first|refine a_e ?_ _|refine a_h ?_|refine a_d ?_ _));refine a_o ?_ b_w.out _;(with_reducible repeat (first|refine a_e ?_ _|refine a_h ?_|refine a_d ?_ _));refine a_o ?_ b_w.out _;(with_reducible repeat (first|refine a_e ?_ _|refine a_h ?_|refine a_d ?_ _));refine a_o ?_ b_w.out _;(with_reducible repeat (first|refine a_e ?_ _|refine a_h ?_|refine a_d ?_ _));refine a_o ?_ b_w.out _;(with_reducible repeat (first|refine a_e ?_ _|refine a_h ?_|refine a_d ?_ _));refine a_o ?_ b_w.out _;(with_reducible repeat (first|refine a_e ?_ _|refine a_h ?_|refine a_d ?_ _));refine a_o ?_ b_w.out _;(with_reducible repeat (first|refine a_e ?_ _|refine a_h ?_|refine a_d ?_ _));refine a_o ?_ b_w.out _;(with_reducible repeat (first|refine a_e ?_ _|refine a_h ?_|refine a_d ?_ _));refine a_o ?_ b_w.out _;(with_reducible repeat (first|refine a_e ?_ _|refine a_h ?_|refine a_d ?_ _));refine a_o ?_ b_w.out _;(with_reducible repeat (first|refine a_e ?_ _|refine a_h ?_|refine a_d ?_ _));exact c_9.out⟩,⟨by repeat (first|(with_reducible first|exact HB.out|apply a_j|apply a_f|apply a_k|refine a_i ?_ e_x.out|refine a_i ?_ i_K.out)|exact HB.out)⟩⟩
   rw [if_neg c11] at H
   have c11b0 : (((a_a l0_1 x12_1).f4) == (-1)) = false:=beq_eq_false_iff_ne.mpr c11
   have c11b1 : (((a_a l0_1 x12_1).f4) != (-1)) = true:=bne_iff_ne.mpr c11
   obtain ⟨bq15,hbq15⟩ : ∃ b_ : Bool,b_ = ((a_a l0_1 x12_1).f5):=⟨_,rfl⟩
   replace H : (if (bq15 = true) then (if (a_a l0_1 x12_1).f6 = true then (some false) else ((b_Q.f ((a_a l0_1 x12_1).f7) ((a_a l0_1 x12_1).f4)).bind fun t126 => (if t126 = true then ((b_Q.f x3_1 ((a_a l0_1 x12_1).f4)).bind fun t127 => (if t127 = true then (some false) else (if 0 ≤ ((a_a l0_1 x12_1).f4) then (a_I.l0 k1 (Go.bits .or .u32 x3_1 (shl .u32 1 ((a_a l0_1 x12_1).f4))) l0_1 (l0_1.length : Int) (wrap64 (x12_1 + 1))) else (none)))) else (some false)))) else (some false)) = some r:=by rw [← hbq15] at H;exact H
   have Nbq15:=a_g.mk hbq15
   clear hbq15
   by_cases c16 : (bq15 = true)
   rotate_left
   ·replace c16:=Bool.eq_false_iff.mpr c16
    subst c16
    have H1 : (some false) = some r:=by rw [if_neg (show ¬ (false = true) by decide)] at H;exact H
    clear H
    have H:=H1
    clear H1
    obtain rfl:=Option.some.inj H
    have p124 : 0 ≤ (x12_1 : Int):=of_decide_eq_true (by first|(with_reducible assumption)|assumption)
    have q124 : x12_1 < (l0_1.length : Int):=of_decide_eq_true (by first|(with_reducible assumption)|assumption)
    obtain ⟨ad124,e124,c_0,c_1,c_2,c_3,c_4,b_9,c_a,c_5,c_6,c_7,c_t⟩:=c_e b_v.out x12_1 p124 q124
    (try rw [← Nbq15.out] at b_9)
    (try rw [← Nbq15.out] at c_a)
    cases e124
    replace c_0:=(HB.out.cell (World.block_lt_of_cell? w _ c_0)).trans c_0
    replace c_1:=(HB.out.cell (World.block_lt_of_cell? w _ c_1)).trans c_1
    replace c_2:=(HB.out.cell (World.block_lt_of_cell? w _ c_2)).trans c_2
    replace c_3:=(HB.out.cell (World.block_lt_of_cell? w _ c_3)).trans c_3
    replace c_4:=(HB.out.cell (World.block_lt_of_cell? w _ c_4)).trans c_4
    replace b_9:=(HB.out.cell (World.block_lt_of_cell? w _ b_9)).trans b_9
    replace c_a:=(HB.out.cell (World.block_lt_of_cell? w _ c_a)).trans c_a
    replace c_5:=(HB.out.cell (World.block_lt_of_cell? w _ c_5)).trans c_5
    replace c_6:=(HB.out.cell (World.block_lt_of_cell? w _ c_6)).trans c_6
    replace c_7:=(HB.out.cell (World.block_lt_of_cell? w _ c_7)).trans c_7
    replace c_t:=(HB.out.cell (World.block_lt_of_cell? w _ c_t)).trans c_t
    replace p124:=eq_true p124
    replace q124:=eq_true q124
    go_wp2_with (first|((with_reducible refine a_G (N:=5) rfl ?_);refine a_C ?hg (N:=5) ?hd (cs:=#[.int .i64 0,.int .i64 0,.int .i64 0,.int .i64 0,.int .i64 0,.bool false,.bool false,.int .u32 0,.int .i64 0,.int .i64 0,.int .i64 0]) (t:=33) ?hr ?_;(case hd => rfl);(case hg => rfl);(case hr => first|(go_simp;done)|(go_simp;rfl));intro b_C hg w37 hbox hb;have b_a:=a_g.mk (hbox);have p_c:=a_g.mk ((by rw [hg];exact (a_n (by repeat (first|(with_reducible first|exact HB.out|apply a_j|apply a_f|apply a_k|refine a_i ?_ e_x.out)|exact HB.out))) : w.heap.size ≤ b_C));have i_K:=a_g.mk ((by rw [hg];exact (a_n (by repeat (first|(with_reducible first|exact HB.out|apply a_j|apply a_f|apply a_k|refine a_i ?_ e_x.out)|exact HB.out))) : w.heap.size ≤ b_C));have b_w:=a_g.mk ((by rw [hg];exact Nat.ne_of_lt (a_L (bup_ c_9.out)) : e_X ≠ b_C));have d_N:=a_g.mk ((by rw [hg];exact Nat.ne_of_gt (a_L (bup_ c_9.out)) : b_C ≠ e_X));replace c_9:=a_g.mk (a_m (bup_ c_9.out) hb);replace HB:=a_g.mk (a_p (by repeat (first|(with_reducible first|exact HB.out|apply a_j|apply a_f|apply a_k|refine a_i ?_ e_x.out)|exact HB.out)) hb);clear hb hbox hg;have I_B:=d_N.out;have I_9:=b_w.out;have u_f : w37.cell? ⟨b_C,0,none⟩ = some (.int .i64 0):=(a_b b_a.out 0).trans rfl;have u_g : w37.cell? ⟨b_C,1,none⟩ = some (.int .i64 0):=(a_b b_a.out 1).trans rfl;have A_E : w37.cell? ⟨b_C,2,none⟩ = some (.int .i64 0):=(a_b b_a.out 2).trans rfl;have A_F : w37.cell? ⟨b_C,3,none⟩ = some (.int .i64 0):=(a_b b_a.out 3).trans rfl;have A_G : w37.cell? ⟨b_C,4,none⟩ = some (.int .i64 0):=(a_b b_a.out 4).trans rfl;have A_H : w37.cell? ⟨b_C,5,none⟩ = some (.bool false):=(a_b b_a.out 5).trans rfl;have A_I : w37.cell? ⟨b_C,6,none⟩ = some (.bool false):=(a_b b_a.out 6).trans rfl;have A_J : w37.cell? ⟨b_C,7,none⟩ = some (.int .u32 0):=(a_b b_a.out 7).trans rfl;have A_K : w37.cell? ⟨b_C,8,none⟩ = some (.int .i64 0):=(a_b b_a.out 8).trans rfl;have A_L : w37.cell? ⟨b_C,9,none⟩ = some (.int .i64 0):=(a_b b_a.out 9).trans rfl;have y_M : w37.cell? ⟨b_C,10,none⟩ = some (.int .i64 0):=(a_b b_a.out 10).trans rfl;have v_1:=a_c b_a.out 0;have v_2:=a_c b_a.out 1;have E_m:=a_c b_a.out 2;have E_n:=a_c b_a.out 3;have E_o:=a_c b_a.out 4;have E_p:=a_c b_a.out 5;have E_q:=a_c b_a.out 6;have E_r:=a_c b_a.out 7;have E_s:=a_c b_a.out 8;have E_t:=a_c b_a.out 9;have z_d:=a_c b_a.out 10))
    go_ret
    exact ⟨by first|rfl|(simp [a_u,a_v] <;> rfl)|(simp [*, a_u,a_v] <;> rfl),by repeat (first|(with_reducible first|exact HB.out|apply a_j|apply a_f|apply a_k|refine a_i ?_ e_x.out|refine a_i ?_ i_K.out)|exact HB.out)⟩
   subst c16
   have H1 : (if (a_a l0_1 x12_1).f6 = true then (some false) else ((b_Q.f ((a_a l0_1 x12_1).f7) ((a_a l0_1 x12_1).f4)).bind fun t126 => (if t126 = true then ((b_Q.f x3_1 ((a_a l0_1 x12_1).f4)).bind fun t127 => (if t127 = true then (some false) else (if 0 ≤ ((a_a l0_1 x12_1).f4) then (a_I.l0 k1 (Go.bits .or .u32 x3_1 (shl .u32 1 ((a_a l0_1 x12_1).f4))) l0_1 (l0_1.length : Int) (wrap64 (x12_1 + 1))) else (none)))) else (some false)))) = some r:=by rw [if_pos rfl] at H;exact H
   clear H
   have H:=H1
   clear H1
   obtain ⟨bq17,hbq17⟩ : ∃ b_ : Bool,b_ = ((a_a l0_1 x12_1).f6):=⟨_,rfl⟩
   replace H : (if bq17 = true then (some false) else ((b_Q.f ((a_a l0_1 x12_1).f7) ((a_a l0_1 x12_1).f4)).bind fun t126 => (if t126 = true then ((b_Q.f x3_1 ((a_a l0_1 x12_1).f4)).bind fun t127 => (if t127 = true then (some false) else (if 0 ≤ ((a_a l0_1 x12_1).f4) then (a_I.l0 k1 (Go.bits .or .u32 x3_1 (shl .u32 1 ((a_a l0_1 x12_1).f4))) l0_1 (l0_1.length : Int) (wrap64 (x12_1 + 1))) else (none)))) else (some false)))) = some r:=by rw [← hbq17] at H;exact H
   have Nbq17:=a_g.mk hbq17
   clear hbq17
   by_cases c18 : bq17 = true
   ·subst c18
    have H1 : (some false) = some r:=by rw [if_pos rfl] at H;exact H
    clear H
    have H:=H1
    clear H1
    obtain rfl:=Option.some.inj H
    have p124 : 0 ≤ (x12_1 : Int):=of_decide_eq_true (by first|(with_reducible assumption)|assumption)
    have q124 : x12_1 < (l0_1.length : Int):=of_decide_eq_true (by first|(with_reducible assumption)|assumption)
    obtain ⟨ad124,e124,c_0,c_1,c_2,c_3,c_4,b_9,c_a,c_5,c_6,c_7,c_t⟩:=c_e b_v.out x12_1 p124 q124
    (try rw [← Nbq15.out] at b_9)
    (try rw [← Nbq17.out] at b_9)
    (try rw [← Nbq15.out] at c_a)
    (try rw [← Nbq17.out] at c_a)
    cases e124
    replace c_0:=(HB.out.cell (World.block_lt_of_cell? w _ c_0)).trans c_0
    replace c_1:=(HB.out.cell (World.block_lt_of_cell? w _ c_1)).trans c_1
    replace c_2:=(HB.out.cell (World.block_lt_of_cell? w _ c_2)).trans c_2
    replace c_3:=(HB.out.cell (World.block_lt_of_cell? w _ c_3)).trans c_3
    replace c_4:=(HB.out.cell (World.block_lt_of_cell? w _ c_4)).trans c_4
    replace b_9:=(HB.out.cell (World.block_lt_of_cell? w _ b_9)).trans b_9
    replace c_a:=(HB.out.cell (World.block_lt_of_cell? w _ c_a)).trans c_a
    replace c_5:=(HB.out.cell (World.block_lt_of_cell? w _ c_5)).trans c_5
    replace c_6:=(HB.out.cell (World.block_lt_of_cell? w _ c_6)).trans c_6
    replace c_7:=(HB.out.cell (World.block_lt_of_cell? w _ c_7)).trans c_7
    replace c_t:=(HB.out.cell (World.block_lt_of_cell? w _ c_t)).trans c_t
    replace p124:=eq_true p124
    replace q124:=eq_true q124
    go_wp2_with (first|((with_reducible refine a_G (N:=5) rfl ?_);refine a_C ?hg (N:=5) ?hd (cs:=#[.int .i64 0,.int .i64 0,.int .i64 0,.int .i64 0,.int .i64 0,.bool false,.bool false,.int .u32 0,.int .i64 0,.int .i64 0,.int .i64 0]) (t:=33) ?hr ?_;(case hd => rfl);(case hg => rfl);(case hr => first|(go_simp;done)|(go_simp;rfl));intro b_C hg w19 hbox hb;have b_a:=a_g.mk (hbox);have p_c:=a_g.mk ((by rw [hg];exact (a_n (by repeat (first|(with_reducible first|exact HB.out|apply a_j|apply a_f|apply a_k|refine a_i ?_ e_x.out)|exact HB.out))) : w.heap.size ≤ b_C));have i_K:=a_g.mk ((by rw [hg];exact (a_n (by repeat (first|(with_reducible first|exact HB.out|apply a_j|apply a_f|apply a_k|refine a_i ?_ e_x.out)|exact HB.out))) : w.heap.size ≤ b_C));have b_w:=a_g.mk ((by rw [hg];exact Nat.ne_of_lt (a_L (bup_ c_9.out)) : e_X ≠ b_C));have d_N:=a_g.mk ((by rw [hg];exact Nat.ne_of_gt (a_L (bup_ c_9.out)) : b_C ≠ e_X));replace c_9:=a_g.mk (a_m (bup_ c_9.out) hb);replace HB:=a_g.mk (a_p (by repeat (first|(with_reducible first|exact HB.out|apply a_j|apply a_f|apply a_k|refine a_i ?_ e_x.out)|exact HB.out)) hb);clear hb hbox hg;have x_9:=d_N.out;have y_g:=b_w.out;have k_i : w19.cell? ⟨b_C,0,none⟩ = some (.int .i64 0):=(a_b b_a.out 0).trans rfl;have k_j : w19.cell? ⟨b_C,1,none⟩ = some (.int .i64 0):=(a_b b_a.out 1).trans rfl;have z_U : w19.cell? ⟨b_C,2,none⟩ = some (.int .i64 0):=(a_b b_a.out 2).trans rfl;have z_V : w19.cell? ⟨b_C,3,none⟩ = some (.int .i64 0):=(a_b b_a.out 3).trans rfl;have z_W : w19.cell? ⟨b_C,4,none⟩ = some (.int .i64 0):=(a_b b_a.out 4).trans rfl;have z_X : w19.cell? ⟨b_C,5,none⟩ = some (.bool false):=(a_b b_a.out 5).trans rfl;have z_Y : w19.cell? ⟨b_C,6,none⟩ = some (.bool false):=(a_b b_a.out 6).trans rfl;have z_Z : w19.cell? ⟨b_C,7,none⟩ = some (.int .u32 0):=(a_b b_a.out 7).trans rfl;have z_0 : w19.cell? ⟨b_C,8,none⟩ = some (.int .i64 0):=(a_b b_a.out 8).trans rfl;have z_1 : w19.cell? ⟨b_C,9,none⟩ = some (.int .i64 0):=(a_b b_a.out 9).trans rfl;have y_H : w19.cell? ⟨b_C,10,none⟩ = some (.int .i64 0):=(a_b b_a.out 10).trans rfl;have k_M:=a_c b_a.out 0;have k_N:=a_c b_a.out 1;have D_C:=a_c b_a.out 2;have D_D:=a_c b_a.out 3;have D_E:=a_c b_a.out 4;have D_F:=a_c b_a.out 5;have D_G:=a_c b_a.out 6;have D_H:=a_c b_a.out 7;have D_I:=a_c b_a.out 8;have D_J:=a_c b_a.out 9;have y_8:=a_c b_a.out 10))
    go_ret
    exact ⟨by first|rfl|(simp [a_u,a_v] <;> rfl)|(simp [*, a_u,a_v] <;> rfl),by repeat (first|(with_reducible first|exact HB.out|apply a_j|apply a_f|apply a_k|refine a_i ?_ e_x.out|refine a_i ?_ i_K.out)|exact HB.out)⟩
   replace c18:=Bool.eq_false_iff.mpr c18
   subst c18
   have H1 : ((b_Q.f ((a_a l0_1 x12_1).f7) ((a_a l0_1 x12_1).f4)).bind fun t126 => (if t126 = true then ((b_Q.f x3_1 ((a_a l0_1 x12_1).f4)).bind fun t127 => (if t127 = true then (some false) else (if 0 ≤ ((a_a l0_1 x12_1).f4) then (a_I.l0 k1 (Go.bits .or .u32 x3_1 (shl .u32 1 ((a_a l0_1 x12_1).f4))) l0_1 (l0_1.length : Int) (wrap64 (x12_1 + 1))) else (none)))) else (some false))) = some r:=by rw [if_neg (show ¬ (false = true) by decide)] at H;exact H
   clear H
   have H:=H1
   clear H1
   replace H:=Option.bind_eq_some_iff.mp H
   obtain ⟨t126,A220,H⟩:=H
   replace H : (if t126 = true then ((b_Q.f x3_1 ((a_a l0_1 x12_1).f4)).bind fun t127 => (if t127 = true then (some false) else (if 0 ≤ ((a_a l0_1 x12_1).f4) then (a_I.l0 k1 (Go.bits .or .u32 x3_1 (shl .u32 1 ((a_a l0_1 x12_1).f4))) l0_1 (l0_1.length : Int) (wrap64 (x12_1 + 1))) else (none)))) else (some false)) = some r:=H
   have A22:=a_g.mk A220
   clear A220
   by_cases c23 : t126 = true
   rotate_left
   ·replace c23:=Bool.eq_false_iff.mpr c23
    subst c23
    have H1 : (some false) = some r:=by rw [if_neg (show ¬ (false = true) by decide)] at H;exact H
    clear H
    have H:=H1
    clear H1
    obtain rfl:=Option.some.inj H
    have p124 : 0 ≤ (x12_1 : Int):=of_decide_eq_true (by first|(with_reducible assumption)|assumption)
    have q124 : x12_1 < (l0_1.length : Int):=of_decide_eq_true (by first|(with_reducible assumption)|assumption)
    obtain ⟨ad124,e124,c_0,c_1,c_2,c_3,c_4,b_9,c_a,c_5,c_6,c_7,c_t⟩:=c_e b_v.out x12_1 p124 q124
    (try rw [← Nbq15.out] at b_9)
    (try rw [← Nbq17.out] at b_9)
    (try rw [← Nbq15.out] at c_a)
    (try rw [← Nbq17.out] at c_a)
    cases e124
    replace c_0:=(HB.out.cell (World.block_lt_of_cell? w _ c_0)).trans c_0
    replace c_1:=(HB.out.cell (World.block_lt_of_cell? w _ c_1)).trans c_1
    replace c_2:=(HB.out.cell (World.block_lt_of_cell? w _ c_2)).trans c_2
    replace c_3:=(HB.out.cell (World.block_lt_of_cell? w _ c_3)).trans c_3
    replace c_4:=(HB.out.cell (World.block_lt_of_cell? w _ c_4)).trans c_4
    replace b_9:=(HB.out.cell (World.block_lt_of_cell? w _ b_9)).trans b_9
    replace c_a:=(HB.out.cell (World.block_lt_of_cell? w _ c_a)).trans c_a
    replace c_5:=(HB.out.cell (World.block_lt_of_cell? w _ c_5)).trans c_5
    replace c_6:=(HB.out.cell (World.block_lt_of_cell? w _ c_6)).trans c_6
    replace c_7:=(HB.out.cell (World.block_lt_of_cell? w _ c_7)).trans c_7
    replace c_t:=(HB.out.cell (World.block_lt_of_cell? w _ c_t)).trans c_t
    replace p124:=eq_true p124
    replace q124:=eq_true q124
    go_wp2_with (first|((with_reducible refine a_G (N:=5) rfl ?_);refine a_C ?hg (N:=5) ?hd (cs:=#[.int .i64 0,.int .i64 0,.int .i64 0,.int .i64 0,.int .i64 0,.bool false,.bool false,.int .u32 0,.int .i64 0,.int .i64 0,.int .i64 0]) (t:=33) ?hr ?_;(case hd => rfl);(case hg => rfl);(case hr => first|(go_simp;done)|(go_simp;rfl));intro b_C hg w34 hbox hb;have b_a:=a_g.mk (hbox);have p_c:=a_g.mk ((by rw [hg];exact (a_n (by repeat (first|(with_reducible first|exact HB.out|apply a_j|apply a_f|apply a_k|refine a_i ?_ e_x.out)|exact HB.out))) : w.heap.size ≤ b_C));have i_K:=a_g.mk ((by rw [hg];exact (a_n (by repeat (first|(with_reducible first|exact HB.out|apply a_j|apply a_f|apply a_k|refine a_i ?_ e_x.out)|exact HB.out))) : w.heap.size ≤ b_C));have b_w:=a_g.mk ((by rw [hg];exact Nat.ne_of_lt (a_L (bup_ c_9.out)) : e_X ≠ b_C));have d_N:=a_g.mk ((by rw [hg];exact Nat.ne_of_gt (a_L (bup_ c_9.out)) : b_C ≠ e_X));replace c_9:=a_g.mk (a_m (bup_ c_9.out) hb);replace HB:=a_g.mk (a_p (by repeat (first|(with_reducible first|exact HB.out|apply a_j|apply a_f|apply a_k|refine a_i ?_ e_x.out)|exact HB.out)) hb);clear hb hbox hg;have y_c:=d_N.out;have y_j:=b_w.out;have k_u : w34.cell? ⟨b_C,0,none⟩ = some (.int .i64 0):=(a_b b_a.out 0).trans rfl;have k_v : w34.cell? ⟨b_C,1,none⟩ = some (.int .i64 0):=(a_b b_a.out 1).trans rfl;have q_g : w34.cell? ⟨b_C,2,none⟩ = some (.int .i64 0):=(a_b b_a.out 2).trans rfl;have q_h : w34.cell? ⟨b_C,3,none⟩ = some (.int .i64 0):=(a_b b_a.out 3).trans rfl;have q_i : w34.cell? ⟨b_C,4,none⟩ = some (.int .i64 0):=(a_b b_a.out 4).trans rfl;have q_j : w34.cell? ⟨b_C,5,none⟩ = some (.bool false):=(a_b b_a.out 5).trans rfl;have q_k : w34.cell? ⟨b_C,6,none⟩ = some (.bool false):=(a_b b_a.out 6).trans rfl;have q_l : w34.cell? ⟨b_C,7,none⟩ = some (.int .u32 0):=(a_b b_a.out 7).trans rfl;have q_m : w34.cell? ⟨b_C,8,none⟩ = some (.int .i64 0):=(a_b b_a.out 8).trans rfl;have q_n : w34.cell? ⟨b_C,9,none⟩ = some (.int .i64 0):=(a_b b_a.out 9).trans rfl;have o_c : w34.cell? ⟨b_C,10,none⟩ = some (.int .i64 0):=(a_b b_a.out 10).trans rfl;have k_Y:=a_c b_a.out 0;have k_Z:=a_c b_a.out 1;have q_6:=a_c b_a.out 2;have q_7:=a_c b_a.out 3;have q_8:=a_c b_a.out 4;have q_9:=a_c b_a.out 5;have r_a:=a_c b_a.out 6;have r_b:=a_c b_a.out 7;have r_c:=a_c b_a.out 8;have r_d:=a_c b_a.out 9;have o_r:=a_c b_a.out 10)|(go_at_call 20;(with_reducible refine (b_Q.calls ((a_a l0_1 x12_1).f7) ((a_a l0_1 x12_1).f4) false _ A22.out).mono ?_);rintro e w' ⟨rfl,⟨nd,rfl⟩⟩))
    go_ret
    exact ⟨by first|rfl|(simp [a_u,a_v] <;> rfl)|(simp [*, a_u,a_v] <;> rfl),by repeat (first|(with_reducible first|exact HB.out|apply a_j|apply a_f|apply a_k|refine a_i ?_ e_x.out|refine a_i ?_ i_K.out)|exact HB.out)⟩
   subst c23
   have H1 : ((b_Q.f x3_1 ((a_a l0_1 x12_1).f4)).bind fun t127 => (if t127 = true then (some false) else (if 0 ≤ ((a_a l0_1 x12_1).f4) then (a_I.l0 k1 (Go.bits .or .u32 x3_1 (shl .u32 1 ((a_a l0_1 x12_1).f4))) l0_1 (l0_1.length : Int) (wrap64 (x12_1 + 1))) else (none)))) = some r:=by rw [if_pos rfl] at H;exact H
   clear H
   have H:=H1
   clear H1
   replace H:=Option.bind_eq_some_iff.mp H
   obtain ⟨t127,A240,H⟩:=H
   replace H : (if t127 = true then (some false) else (if 0 ≤ ((a_a l0_1 x12_1).f4) then (a_I.l0 k1 (Go.bits .or .u32 x3_1 (shl .u32 1 ((a_a l0_1 x12_1).f4))) l0_1 (l0_1.length : Int) (wrap64 (x12_1 + 1))) else (none))) = some r:=H
   have A24:=a_g.mk A240
   clear A240
   by_cases c25 : t127 = true
   ·subst c25
    have H1 : (some false) = some r:=by rw [if_pos rfl] at H;exact H
    clear H
    have H:=H1
    clear H1
    obtain rfl:=Option.some.inj H
    have p124 : 0 ≤ (x12_1 : Int):=of_decide_eq_true (by first|(with_reducible assumption)|assumption)
    have q124 : x12_1 < (l0_1.length : Int):=of_decide_eq_true (by first|(with_reducible assumption)|assumption)
    obtain ⟨ad124,e124,c_0,c_1,c_2,c_3,c_4,b_9,c_a,c_5,c_6,c_7,c_t⟩:=c_e b_v.out x12_1 p124 q124
    (try rw [← Nbq15.out] at b_9)
    (try rw [← Nbq17.out] at b_9)
    (try rw [← Nbq15.out] at c_a)
    (try rw [← Nbq17.out] at c_a)
    cases e124
    replace c_0:=(HB.out.cell (World.block_lt_of_cell? w _ c_0)).trans c_0
    replace c_1:=(HB.out.cell (World.block_lt_of_cell? w _ c_1)).trans c_1
    replace c_2:=(HB.out.cell (World.block_lt_of_cell? w _ c_2)).trans c_2
    replace c_3:=(HB.out.cell (World.block_lt_of_cell? w _ c_3)).trans c_3
    replace c_4:=(HB.out.cell (World.block_lt_of_cell? w _ c_4)).trans c_4
    replace b_9:=(HB.out.cell (World.block_lt_of_cell? w _ b_9)).trans b_9
    replace c_a:=(HB.out.cell (World.block_lt_of_cell? w _ c_a)).trans c_a
    replace c_5:=(HB.out.cell (World.block_lt_of_cell? w _ c_5)).trans c_5
    replace c_6:=(HB.out.cell (World.block_lt_of_cell? w _ c_6)).trans c_6
    replace c_7:=(HB.out.cell (World.block_lt_of_cell? w _ c_7)).trans c_7
    replace c_t:=(HB.out.cell (World.block_lt_of_cell? w _ c_t)).trans c_t
    replace p124:=eq_true p124
    replace q124:=eq_true q124
    go_wp2_with (first|((with_reducible refine a_G (N:=5) rfl ?_);refine a_C ?hg (N:=5) ?hd (cs:=#[.int .i64 0,.int .i64 0,.int .i64 0,.int .i64 0,.int .i64 0,.bool false,.bool false,.int .u32 0,.int .i64 0,.int .i64 0,.int .i64 0]) (t:=33) ?hr ?_;(case hd => rfl);(case hg => rfl);(case hr => first|(go_simp;done)|(go_simp;rfl));intro b_C hg w26 hbox hb;have b_a:=a_g.mk (hbox);have p_c:=a_g.mk ((by rw [hg];exact (a_n (by repeat (first|(with_reducible first|exact HB.out|apply a_j|apply a_f|apply a_k|refine a_i ?_ e_x.out)|exact HB.out))) : w.heap.size ≤ b_C));have i_K:=a_g.mk ((by rw [hg];exact (a_n (by repeat (first|(with_reducible first|exact HB.out|apply a_j|apply a_f|apply a_k|refine a_i ?_ e_x.out)|exact HB.out))) : w.heap.size ≤ b_C));have b_w:=a_g.mk ((by rw [hg];exact Nat.ne_of_lt (a_L (bup_ c_9.out)) : e_X ≠ b_C));have d_N:=a_g.mk ((by rw [hg];exact Nat.ne_of_gt (a_L (bup_ c_9.out)) : b_C ≠ e_X));replace c_9:=a_g.mk (a_m (bup_ c_9.out) hb);replace HB:=a_g.mk (a_p (by repeat (first|(with_reducible first|exact HB.out|apply a_j|apply a_f|apply a_k|refine a_i ?_ e_x.out)|exact HB.out)) hb);clear hb hbox hg;have H_o:=d_N.out;have H_y:=b_w.out;have h_e : w26.cell? ⟨b_C,0,none⟩ = some (.int .i64 0):=(a_b b_a.out 0).trans rfl;have h_f : w26.cell? ⟨b_C,1,none⟩ = some (.int .i64 0):=(a_b b_a.out 1).trans rfl;have p_N : w26.cell? ⟨b_C,2,none⟩ = some (.int .i64 0):=(a_b b_a.out 2).trans rfl;have p_O : w26.cell? ⟨b_C,3,none⟩ = some (.int .i64 0):=(a_b b_a.out 3).trans rfl;have p_P : w26.cell? ⟨b_C,4,none⟩ = some (.int .i64 0):=(a_b b_a.out 4).trans rfl;have p_Q : w26.cell? ⟨b_C,5,none⟩ = some (.bool false):=(a_b b_a.out 5).trans rfl;have p_R : w26.cell? ⟨b_C,6,none⟩ = some (.bool false):=(a_b b_a.out 6).trans rfl;have p_S : w26.cell? ⟨b_C,7,none⟩ = some (.int .u32 0):=(a_b b_a.out 7).trans rfl;have p_T : w26.cell? ⟨b_C,8,none⟩ = some (.int .i64 0):=(a_b b_a.out 8).trans rfl;have p_U : w26.cell? ⟨b_C,9,none⟩ = some (.int .i64 0):=(a_b b_a.out 9).trans rfl;have n_9 : w26.cell? ⟨b_C,10,none⟩ = some (.int .i64 0):=(a_b b_a.out 10).trans rfl;have h_l:=a_c b_a.out 0;have h_m:=a_c b_a.out 1;have q_E:=a_c b_a.out 2;have q_F:=a_c b_a.out 3;have q_G:=a_c b_a.out 4;have q_H:=a_c b_a.out 5;have q_I:=a_c b_a.out 6;have q_J:=a_c b_a.out 7;have q_K:=a_c b_a.out 8;have q_L:=a_c b_a.out 9;have o_o:=a_c b_a.out 10)|(go_at_call 20;(with_reducible refine (b_Q.calls ((a_a l0_1 x12_1).f7) ((a_a l0_1 x12_1).f4) true _ A22.out).mono ?_);rintro e w' ⟨rfl,⟨nd,rfl⟩⟩)|(go_at_call 20;(with_reducible refine (b_Q.calls x3_1 ((a_a l0_1 x12_1).f4) true _ A24.out).mono ?_);rintro e w' ⟨rfl,⟨nd,rfl⟩⟩))
    go_ret
    exact ⟨by first|rfl|(simp [a_u,a_v] <;> rfl)|(simp [*, a_u,a_v] <;> rfl),by repeat (first|(with_reducible first|exact HB.out|apply a_j|apply a_f|apply a_k|refine a_i ?_ e_x.out|refine a_i ?_ i_K.out)|exact HB.out)⟩
   replace c25:=Bool.eq_false_iff.mpr c25
   subst c25
   have H1 : (if 0 ≤ ((a_a l0_1 x12_1).f4) then (a_I.l0 k1 (Go.bits .or .u32 x3_1 (shl .u32 1 ((a_a l0_1 x12_1).f4))) l0_1 (l0_1.length : Int) (wrap64 (x12_1 + 1))) else (none)) = some r:=by rw [if_neg (show ¬ (false = true) by decide)] at H;exact H
   clear H
   have H:=H1
   clear H1
   by_cases c29 : 0 ≤ ((a_a l0_1 x12_1).f4)
   rotate_left
   ·rw [if_neg c29] at H
    exact absurd H (by simp)
   rw [if_pos c29] at H
   have c29b0:=eq_true c29
   have c29b1 : decide (0 ≤ ((a_a l0_1 x12_1).f4)) = true:=decide_eq_true c29
   clear c29
   obtain ⟨ji30,hji30⟩ : ∃ j_ : Int,(shl .u32 1 ((a_a l0_1 x12_1).f4)) = j_:=⟨_,rfl⟩
   replace H : (a_I.l0 k1 (Go.bits .or .u32 x3_1 (ji30)) l0_1 (l0_1.length : Int) (wrap64 (x12_1 + 1))) = some r:=by first|(rw [hji30] at H;exact H)|(simp only [hji30] at H ⊢; exact H)
   (try rw [hji30] at A22)
   (try rw [hji30] at A24)
   have hji30_ : (IntKind.u32.wrap (1 * 2 ^ min ((a_a l0_1 x12_1).f4).toNat 32)) = ji30:=hji30
   have hji30z : ((a_a l0_1 x12_1).f4) ≤ 32 → (IntKind.u32.wrap (1 * 2 ^ ((a_a l0_1 x12_1).f4).toNat)) = ji30:=i_b hji30
   have hji30u : (IntKind.u32.wrap (2 ^ min ((a_a l0_1 x12_1).f4).toNat 32)) = ji30:=by have h_:=hji30_;rw [Int.one_mul] at h_;exact h_
   have hji30v : ((a_a l0_1 x12_1).f4) ≤ 32 → (IntKind.u32.wrap (2 ^ ((a_a l0_1 x12_1).f4).toNat)) = ji30:=fun hle_ => by have h_:=hji30z hle_;rw [Int.one_mul] at h_;exact h_
   have H':=a_g.mk H
   clear H
   have p124 : 0 ≤ (x12_1 : Int):=of_decide_eq_true (by first|(with_reducible assumption)|assumption)
   have q124 : x12_1 < (l0_1.length : Int):=of_decide_eq_true (by first|(with_reducible assumption)|assumption)
   obtain ⟨ad124,e124,c_0,c_1,c_2,c_3,c_4,b_9,c_a,c_5,c_6,c_7,c_t⟩:=c_e b_v.out x12_1 p124 q124
   (try rw [← Nbq15.out] at b_9)
   (try rw [← Nbq17.out] at b_9)
   (try rw [← Nbq15.out] at c_a)
   (try rw [← Nbq17.out] at c_a)
   cases e124
   replace c_0:=(HB.out.cell (World.block_lt_of_cell? w _ c_0)).trans c_0
   replace c_1:=(HB.out.cell (World.block_lt_of_cell? w _ c_1)).trans c_1
   replace c_2:=(HB.out.cell (World.block_lt_of_cell? w _ c_2)).trans c_2
   replace c_3:=(HB.out.cell (World.block_lt_of_cell? w _ c_3)).trans c_3
   replace c_4:=(HB.out.cell (World.block_lt_of_cell? w _ c_4)).trans c_4
   replace b_9:=(HB.out.cell (World.block_lt_of_cell? w _ b_9)).trans b_9
   replace c_a:=(HB.out.cell (World.block_lt_of_cell? w _ c_a)).trans c_a
   replace c_5:=(HB.out.cell (World.block_lt_of_cell? w _ c_5)).trans c_5
   replace c_6:=(HB.out.cell (World.block_lt_of_cell? w _ c_6)).trans c_6
   replace c_7:=(HB.out.cell (World.block_lt_of_cell? w _ c_7)).trans c_7
   replace c_t:=(HB.out.cell (World.block_lt_of_cell? w _ c_t)).trans c_t
   replace p124:=eq_true p124
   replace q124:=eq_true q124
   go_wp2_with (first|((with_reducible refine a_G (N:=5) rfl ?_);refine a_C ?hg (N:=5) ?hd (cs:=#[.int .i64 0,.int .i64 0,.int .i64 0,.int .i64 0,.int .i64 0,.bool false,.bool false,.int .u32 0,.int .i64 0,.int .i64 0,.int .i64 0]) (t:=33) ?hr ?_;(case hd => rfl);(case hg => rfl);(case hr => first|(go_simp;done)|(go_simp;rfl));intro b_C hg w31 hbox hb;have b_a:=a_g.mk (hbox);have p_c:=a_g.mk ((by rw [hg];exact (a_n (by repeat (first|(with_reducible first|exact HB.out|apply a_j|apply a_f|apply a_k|refine a_i ?_ e_x.out)|exact HB.out))) : w.heap.size ≤ b_C));have i_K:=a_g.mk ((by rw [hg];exact (a_n (by repeat (first|(with_reducible first|exact HB.out|apply a_j|apply a_f|apply a_k|refine a_i ?_ e_x.out)|exact HB.out))) : w.heap.size ≤ b_C));have b_w:=a_g.mk ((by rw [hg];exact Nat.ne_of_lt (a_L (bup_ c_9.out)) : e_X ≠ b_C));have d_N:=a_g.mk ((by rw [hg];exact Nat.ne_of_gt (a_L (bup_ c_9.out)) : b_C ≠ e_X));replace c_9:=a_g.mk (a_m (bup_ c_9.out) hb);replace HB:=a_g.mk (a_p (by repeat (first|(with_reducible first|exact HB.out|apply a_j|apply a_f|apply a_k|refine a_i ?_ e_x.out)|exact HB.out)) hb);clear hb hbox hg;have I_y:=d_N.out;have I_6:=b_w.out;have i_5 : w31.cell? ⟨b_C,0,none⟩ = some (.int .i64 0):=(a_b b_a.out 0).trans rfl;have i_6 : w31.cell? ⟨b_C,1,none⟩ = some (.int .i64 0):=(a_b b_a.out 1).trans rfl;have p_7 : w31.cell? ⟨b_C,2,none⟩ = some (.int .i64 0):=(a_b b_a.out 2).trans rfl;have p_8 : w31.cell? ⟨b_C,3,none⟩ = some (.int .i64 0):=(a_b b_a.out 3).trans rfl;have p_9 : w31.cell? ⟨b_C,4,none⟩ = some (.int .i64 0):=(a_b b_a.out 4).trans rfl;have q_a : w31.cell? ⟨b_C,5,none⟩ = some (.bool false):=(a_b b_a.out 5).trans rfl;have q_b : w31.cell? ⟨b_C,6,none⟩ = some (.bool false):=(a_b b_a.out 6).trans rfl;have q_d : w31.cell? ⟨b_C,7,none⟩ = some (.int .u32 0):=(a_b b_a.out 7).trans rfl;have q_e : w31.cell? ⟨b_C,8,none⟩ = some (.int .i64 0):=(a_b b_a.out 8).trans rfl;have q_f : w31.cell? ⟨b_C,9,none⟩ = some (.int .i64 0):=(a_b b_a.out 9).trans rfl;have o_b : w31.cell? ⟨b_C,10,none⟩ = some (.int .i64 0):=(a_b b_a.out 10).trans rfl;have j_b:=a_c b_a.out 0;have j_c:=a_c b_a.out 1;have q_Y:=a_c b_a.out 2;have q_Z:=a_c b_a.out 3;have q_0:=a_c b_a.out 4;have q_1:=a_c b_a.out 5;have q_2:=a_c b_a.out 6;have q_3:=a_c b_a.out 7;have q_4:=a_c b_a.out 8;have q_5:=a_c b_a.out 9;have o_q:=a_c b_a.out 10)|(go_at_call 20;(with_reducible refine (b_Q.calls ((a_a l0_1 x12_1).f7) ((a_a l0_1 x12_1).f4) true _ A22.out).mono ?_);rintro e w' ⟨rfl,⟨nd,rfl⟩⟩)|(go_at_call 20;(with_reducible refine (b_Q.calls x3_1 ((a_a l0_1 x12_1).f4) false _ A24.out).mono ?_);rintro e w' ⟨rfl,⟨nd,rfl⟩⟩))
   go_roundg k1
   case measure => have:=HK1.out;omega
   case rel => exact ⟨(Go.bits .or .u32 x3_1 (ji30)),(wrap64 (x12_1 + 1)),(by first|rfl|(simp;done)|(simp only [← hji30] <;> (first|rfl|simp))|(simp [*];done)),(by first|rfl|(simp;done)|(simp [*];done)),H',⟨by have:=HK1.out;omega⟩,⟨by (with_reducible repeat (first|refine a_e ?_ _|refine a_h ?_|refine a_d ?_ _));refine a_o ?_ b_w.out _;(with_reducible repeat (first|refine a_e ?_ _|refine a_h ?_|refine a_d ?_ _));refine a_o ?_ b_w.out _;(with_reducible repeat (first|refine a_e ?_ _|refine a_h ?_|refine a_d ?_ _));refine a_o ?_ b_w.out _;(with_reducible repeat (first|refine a_e ?_ _|refine a_h ?_|refine a_d ?_ _));refine a_o ?_ b_w.out _;(with_reducible repeat (first|refine a_e ?_ _|refine a_h ?_|refine a_d ?_ _));refine a_o ?_ b_w.out _;(with_reducible repeat (first|refine a_e ?_ _|refine a_h ?_|refine a_d ?_ _));refine a_o ?_ b_w.out _;(with_reducible repeat (first|refine a_e ?_ _|refine a_h ?_|refine a_d ?_ _));refine a_o ?_ b_w.out _;(with_reducible repeat (first|refine a_e ?_ _|refine a_h ?_|refine a_d ?_ _));refine a_o ?_ b_w.out _;(with_reducible repeat (first|refine a_e ?_ _|refine a_h ?_|refine a_d ?_ _));refine a_o ?_ b_w.out _;(with_reducible repeat (first|refine a_e ?_ _|refine a_h ?_|refine a_d ?_ _));refine a_o ?_ b_w.out _;(with_reducible repeat (first|refine a_e ?_ _|refine a_h ?_|refine a_d ?_ _));refine a_o ?_ b_w.out _;(with_reducible repeat (first|refine a_e ?_ _|refine a_h ?_|refine a_d ?_ _));exact c_9.out⟩,⟨by repeat (first|(with_reducible first|exact HB.out|apply a_j|apply a_f|apply a_k|refine a_i ?_ e_x.out|refine a_i ?_ i_K.out)|exact HB.out)⟩⟩
end Go.Proofs.YtgglkfilkagblaaDoor.Q
end
section
namespace Go.Proofs.YtgglkfilkagblaaDoor.Q
open Go.RowKit Go.Proofs.YtgglkfilkagblaaDoorW.PrintWords Go.Proofs.YtgglkfilkagblaaDoorW.PrintLast Go.Proofs.YtgglkfilkagblaaDoorW.PrintMore
set_option linter.unusedVariables false
set_option linter.unusedSimpArgs false
attribute [local go_sem high] z_T
def a_Q.f (k : Nat)  : Option (Bool):=(b_s.f).bind fun bt166 => ((a_Z.f k ([] : List (S24)) 0 bt166.1 bt166.2).bind fun bt170 => ((c_M.f k bt170.1 bt170.2.1 9).bind fun bt176 => ((c_c.f k bt176.1 bt176.2.1 1 3 9).bind fun bt181 => ((b_X.f k bt176.1 bt176.2.1 2).bind fun bt183 => (if bt170.2.2 = 0 then (if bt176.2.2 = 0 then (if bt181.2 = 0 then (if bt183.2 = 0 then (if bt181.1 = 6 then (if (bt183.1.length : Int) = 1 then (if 0 < (bt183.1.length : Int) then (if (((d_I bt183.1 0).f0) == 0 && (((d_I bt183.1 0).f1) == 9)) = true then ((b_s.f).bind fun bt188 => ((a_I.f k bt188.1 bt188.2).bind fun t192 => (some t192))) else (some false)) else (none)) else (some false)) else (some false)) else (some false)) else (some false)) else (some false)) else (some false))))))
theorem a_Q.mono : ∀ k,LeO (a_Q.f k ) (a_Q.f (k + 1) ):=by
 intro  k
 unfold a_Q.f
 repeat' first
  | (with_reducible exact a_Z.mono _ _ _ _ _)
  | (with_reducible exact a_I.mono _ _ _)
  | (with_reducible exact c_M.mono _ _ _ _)
  | (with_reducible exact c_c.mono _ _ _ _ _ _)
  | (with_reducible exact b_X.mono _ _ _ _)
  | (with_reducible exact LeO.refl _)
  | (with_reducible exact LeO.none _)
  | (with_reducible refine LeO.ite ?_ ?_)
  | (with_reducible refine LeO.bind ?_ (fun _ => ?_))
  | exact a_Z.mono _ _ _ _ _
  | exact a_I.mono _ _ _
  | exact c_M.mono _ _ _ _
  | exact c_c.mono _ _ _ _ _ _
  | exact b_X.mono _ _ _ _
  | exact LeO.none _
  | refine LeO.ite ?_ ?_
  | refine LeO.bind ?_ (fun _ => ?_)
set_option maxHeartbeats 8000000 in
set_option maxRecDepth 100000 in
theorem a_Q.calls (k : Nat)  (r : Bool) (w : World) (h : a_Q.f k  = some r) :
 Calls Tryd.prog 5 #[] w fun e w' => e = .returned (.bool r) ∧ Below w.heap.size w w':=by
 have hr : r = true:=Option.some.inj ((i_Y (g:=fun k => a_Q.f k) a_Q.mono (Nat.le_max_left k 200) h).symm.trans (i_Y (g:=fun k => a_Q.f k) a_Q.mono (Nat.le_max_right k 200) (show a_Q.f 200 = some true by kernel_rfl)))
 have hu37:=Tryd.underlying37
 have hu49:=Tryd.underlying49
 have HB:=a_g.mk (Below.refl w.heap.size w)
 have H : ((b_s.f).bind fun bt166 => ((a_Z.f k ([] : List (S24)) 0 bt166.1 bt166.2).bind fun bt170 => ((c_M.f k bt170.1 bt170.2.1 9).bind fun bt176 => ((c_c.f k bt176.1 bt176.2.1 1 3 9).bind fun bt181 => ((b_X.f k bt176.1 bt176.2.1 2).bind fun bt183 => (if bt170.2.2 = 0 then (if bt176.2.2 = 0 then (if bt181.2 = 0 then (if bt183.2 = 0 then (if bt181.1 = 6 then (if (bt183.1.length : Int) = 1 then (if 0 < (bt183.1.length : Int) then (if (((d_I bt183.1 0).f0) == 0 && (((d_I bt183.1 0).f1) == 9)) = true then ((b_s.f).bind fun bt188 => ((a_I.f k bt188.1 bt188.2).bind fun t192 => (some t192))) else (some false)) else (none)) else (some false)) else (some false)) else (some false)) else (some false)) else (some false)) else (some false))))))) = some r:=h
 clear h
 replace H:=Option.bind_eq_some_iff.mp H
 obtain ⟨⟨t166,t167⟩,A10,H⟩:=H
 replace H : ((a_Z.f k ([] : List (S24)) 0 t166 t167).bind fun bt170 => ((c_M.f k bt170.1 bt170.2.1 9).bind fun bt176 => ((c_c.f k bt176.1 bt176.2.1 1 3 9).bind fun bt181 => ((b_X.f k bt176.1 bt176.2.1 2).bind fun bt183 => (if bt170.2.2 = 0 then (if bt176.2.2 = 0 then (if bt181.2 = 0 then (if bt183.2 = 0 then (if bt181.1 = 6 then (if (bt183.1.length : Int) = 1 then (if 0 < (bt183.1.length : Int) then (if (((d_I bt183.1 0).f0) == 0 && (((d_I bt183.1 0).f1) == 9)) = true then ((b_s.f).bind fun bt188 => ((a_I.f k bt188.1 bt188.2).bind fun t192 => (some t192))) else (some false)) else (none)) else (some false)) else (some false)) else (some false)) else (some false)) else (some false)) else (some false)))))) = some r:=H
 have A1:=a_g.mk A10
 clear A10
 replace H:=Option.bind_eq_some_iff.mp H
 obtain ⟨⟨t170,t173,t174⟩,A20,H⟩:=H
 replace H : ((c_M.f k t170 t173 9).bind fun bt176 => ((c_c.f k bt176.1 bt176.2.1 1 3 9).bind fun bt181 => ((b_X.f k bt176.1 bt176.2.1 2).bind fun bt183 => (if t174 = 0 then (if bt176.2.2 = 0 then (if bt181.2 = 0 then (if bt183.2 = 0 then (if bt181.1 = 6 then (if (bt183.1.length : Int) = 1 then (if 0 < (bt183.1.length : Int) then (if (((d_I bt183.1 0).f0) == 0 && (((d_I bt183.1 0).f1) == 9)) = true then ((b_s.f).bind fun bt188 => ((a_I.f k bt188.1 bt188.2).bind fun t192 => (some t192))) else (some false)) else (none)) else (some false)) else (some false)) else (some false)) else (some false)) else (some false)) else (some false))))) = some r:=H
 have A2:=a_g.mk A20
 clear A20
 replace H:=Option.bind_eq_some_iff.mp H
 obtain ⟨⟨t176,t179,t180⟩,A30,H⟩:=H
 replace H : ((c_c.f k t176 t179 1 3 9).bind fun bt181 => ((b_X.f k t176 t179 2).bind fun bt183 => (if t174 = 0 then (if t180 = 0 then (if bt181.2 = 0 then (if bt183.2 = 0 then (if bt181.1 = 6 then (if (bt183.1.length : Int) = 1 then (if 0 < (bt183.1.length : Int) then (if (((d_I bt183.1 0).f0) == 0 && (((d_I bt183.1 0).f1) == 9)) = true then ((b_s.f).bind fun bt188 => ((a_I.f k bt188.1 bt188.2).bind fun t192 => (some t192))) else (some false)) else (none)) else (some false)) else (some false)) else (some false)) else (some false)) else (some false)) else (some false)))) = some r:=H
 have A3:=a_g.mk A30
 clear A30
 replace H:=Option.bind_eq_some_iff.mp H
 obtain ⟨⟨t181,t182⟩,A40,H⟩:=H
 replace H : ((b_X.f k t176 t179 2).bind fun bt183 => (if t174 = 0 then (if t180 = 0 then (if t182 = 0 then (if bt183.2 = 0 then (if t181 = 6 then (if (bt183.1.length : Int) = 1 then (if 0 < (bt183.1.length : Int) then (if (((d_I bt183.1 0).f0) == 0 && (((d_I bt183.1 0).f1) == 9)) = true then ((b_s.f).bind fun bt188 => ((a_I.f k bt188.1 bt188.2).bind fun t192 => (some t192))) else (some false)) else (none)) else (some false)) else (some false)) else (some false)) else (some false)) else (some false)) else (some false))) = some r:=H
 have A4:=a_g.mk A40
 clear A40
 replace H:=Option.bind_eq_some_iff.mp H
 obtain ⟨⟨t183,t186⟩,A50,H⟩:=H
 replace H : (if t174 = 0 then (if t180 = 0 then (if t182 = 0 then (if t186 = 0 then (if t181 = 6 then (if (t183.length : Int) = 1 then (if 0 < (t183.length : Int) then (if (((d_I t183 0).f0) == 0 && (((d_I t183 0).f1) == 9)) = true then ((b_s.f).bind fun bt188 => ((a_I.f k bt188.1 bt188.2).bind fun t192 => (some t192))) else (some false)) else (none)) else (some false)) else (some false)) else (some false)) else (some false)) else (some false)) else (some false)) = some r:=H
 have A5:=a_g.mk A50
 clear A50
 by_cases c6 : t174 = 0
 rotate_left
 ·rw [if_neg c6] at H
  exact absurd ((Option.some.inj H).trans hr) (by decide)
 rw [if_pos c6] at H
 have c6b0 : (t174 == 0) = true:=beq_iff_eq.mpr c6
 have c6b1 : (t174 != 0) = false:=bne_eq_false_iff_eq.mpr c6
 clear c6
 by_cases c7 : t180 = 0
 rotate_left
 ·rw [if_neg c7] at H
  exact absurd ((Option.some.inj H).trans hr) (by decide)
 rw [if_pos c7] at H
 have c7b0 : (t180 == 0) = true:=beq_iff_eq.mpr c7
 have c7b1 : (t180 != 0) = false:=bne_eq_false_iff_eq.mpr c7
 clear c7
 by_cases c8 : t182 = 0
 rotate_left
 ·rw [if_neg c8] at H
  exact absurd ((Option.some.inj H).trans hr) (by decide)
 rw [if_pos c8] at H
 have c8b0 : (t182 == 0) = true:=beq_iff_eq.mpr c8
 have c8b1 : (t182 != 0) = false:=bne_eq_false_iff_eq.mpr c8
 clear c8
 by_cases c9 : t186 = 0
 rotate_left
 ·rw [if_neg c9] at H
  exact absurd ((Option.some.inj H).trans hr) (by decide)
 rw [if_pos c9] at H
 have c9b0 : (t186 == 0) = true:=beq_iff_eq.mpr c9
 have c9b1 : (t186 != 0) = false:=bne_eq_false_iff_eq.mpr c9
 clear c9
 by_cases c10 : t181 = 6
 rotate_left
 ·rw [if_neg c10] at H
  exact absurd ((Option.some.inj H).trans hr) (by decide)
 rw [if_pos c10] at H
 have c10b0 : (t181 == 6) = true:=beq_iff_eq.mpr c10
 have c10b1 : (t181 != 6) = false:=bne_eq_false_iff_eq.mpr c10
 clear c10
 by_cases c11 : (t183.length : Int) = 1
 rotate_left
 ·rw [if_neg c11] at H
  exact absurd ((Option.some.inj H).trans hr) (by decide)
 rw [if_pos c11] at H
 have c11b0 : ((t183.length : Int) == 1) = true:=beq_iff_eq.mpr c11
 have c11b1 : ((t183.length : Int) != 1) = false:=bne_eq_false_iff_eq.mpr c11
 clear c11
 by_cases c12 : 0 < (t183.length : Int)
 rotate_left
 ·rw [if_neg c12] at H
  exact absurd H (by simp)
 rw [if_pos c12] at H
 have c12b0 : decide (0 < (t183.length : Int)) = true:=decide_eq_true c12
 have c12b1 : decide (0 < t183.length) = true:=decide_eq_true (by omega)
 clear c12
 by_cases c13 : (((d_I t183 0).f0) == 0 && (((d_I t183 0).f1) == 9)) = true
 rotate_left
 ·rw [if_neg c13] at H
  exact absurd ((Option.some.inj H).trans hr) (by decide)
 rw [if_pos c13] at H
 have c13b0 : (((d_I t183 0).f0) == 0 && (((d_I t183 0).f1) == 9)) = true:=c13
 (try (have c13b1 : decide (((d_I t183 0).f0) = 0 && (((d_I t183 0).f1) == 9)) = true:=by simpa using c13))
 (try (have c13b2 : (((d_I t183 0).f0) == 0 && (((d_I t183 0).f1) == 9)) = true:=by simpa using c13))
 clear c13
 replace H:=Option.bind_eq_some_iff.mp H
 obtain ⟨⟨t188,t189⟩,A140,H⟩:=H
 replace H : ((a_I.f k t188 t189).bind fun t192 => (some t192)) = some r:=H
 have A14:=a_g.mk A140
 clear A140
 replace H:=Option.bind_eq_some_iff.mp H
 obtain ⟨t192,A150,H⟩:=H
 replace H : (some t192) = some r:=H
 have A15:=a_g.mk A150
 clear A150
 obtain rfl:=Option.some.inj H
 go_enter Tryd.func5,Tryd.ntmps5
 go_wp2_with (first|((with_reducible refine a_J (f:=15) rfl ?_);refine b_t (some 10) rfl rfl Tryd.func15 (by kernel_rfl) rfl #[] rfl (by (try simp only [List.map_toArray,List.map_cons,List.map_nil]);first|done|rfl|(simp only [List.length_drop,List.length_take];rfl)) ?_;(with_reducible refine (b_s.calls  t166 t167 _ A1.out).mono ?_);rintro e w16 ⟨v168,rfl,ho0,hb⟩;refine ⟨_,rfl,?_⟩;have f_3:=a_g.mk (Kd.e_M ho0 (a_n (lup_ HB.out)));replace HB:=a_g.mk (a_p (lup_ HB.out) hb);(try clear hb);(try clear hb2);(try clear hk);(try clear hi);(try clear ho0);obtain ⟨Ao17,co17,eo17⟩:=Kd.g_x f_3.out;subst eo17)|((with_reducible refine a_J (f:=14) rfl ?_);refine b_t (some 11) rfl rfl Tryd.func14 (by kernel_rfl) rfl #[.agg #[.slice none 0 0,.int .i64 0],.agg #[.int .i64 t166,.slice Ao17 t167.length co17]] rfl (by (try simp only [List.map_toArray,List.map_cons,List.map_nil]);first|done|rfl|(simp only [List.length_drop,List.length_take];rfl)) ?_;(refine (a_Z.calls k (fun k_ => False) _ _ ([] : List (S24)) 0 t166 (fun k_ => some k_ = (.slice Ao17 t167.length co17 : Value).ownBlock) _ _ t167 t170 t173 t174 _ ?side1 ?side2 A2.out).mono ?_);(case side1 => exact Kd.i_X _ _ _ _ _);(case side2 => exact Kd.R_V (Kd.p_m rfl (f_3.out)));rintro e w18 ⟨v171,rfl,ho0,hb⟩;refine ⟨_,rfl,?_⟩;have g_1:=a_g.mk (Kd.m_g (Kd.g_s (ok':=fun k_ => True) ho0 (fun k_ hk_ => trivial)) (a_n (lup_ HB.out)));replace f_3:=a_g.mk (Kd.c_A (rup_ f_3.out) hb);replace HB:=a_g.mk (a_p (lup_ HB.out) hb);(try clear hb);(try clear hb2);(try clear hk);(try clear hi);(try clear ho0))|((with_reducible refine a_G (N:=1) rfl ?_);(try (refine d_T (by rfl) ?_;dsimp only));refine a_C ?hg (N:=1) ?hd (cs:=#[.slice none 0 0,.int .i64 0]) (t:=37) ?hr ?_;(case hd => rfl);(case hg => rfl);(case hr => first|(go_simp;done)|(go_simp;rfl));intro d_L hg w19 hbox hb;have d_3:=a_g.mk (hbox);have I_l:=a_g.mk ((by rw [hg];exact (a_n (lup_ HB.out)) : w.heap.size ≤ d_L));have j_w:=a_g.mk ((by rw [hg];exact (a_n (lup_ HB.out)) : w.heap.size ≤ d_L));replace f_3:=a_g.mk (Kd.c_A (rup_ f_3.out) hb);replace g_1:=a_g.mk (Kd.g_w (Kd.r_N (by (with_reducible repeat (first|apply Kd.d_6|apply Kd.d_7|apply Kd.e_D));exact g_1.out) d_L (Nat.le_of_eq hg.symm)) hb);replace HB:=a_g.mk (a_p (lup_ HB.out) hb);clear hb hbox hg;obtain ⟨Ao20,co20,eo20⟩:=Kd.i_U g_1.out;subst eo20;have k_i : w19.cell? ⟨d_L,0,none⟩ = some (.slice none 0 0):=(a_b d_3.out 0).trans rfl;have k_j : w19.cell? ⟨d_L,1,none⟩ = some (.int .i64 0):=(a_b d_3.out 1).trans rfl;have k_M:=a_c d_3.out 0;have k_N:=a_c d_3.out 1)|((with_reducible refine o_0 (t:=37) (p:=1) rfl ?_);refine n_Z (t:=37) (p:=1) (v:=?vo_w22) (w1:=((w19.setCell ⟨d_L,0,none⟩ (.slice Ao20 t170.length co20)).setCell ⟨d_L,1,none⟩ (.int .i64 t173))) ?hg ?ho ?hn ?hr ?_;(case ho => rfl);(case hg => rfl);(case hn => rfl);(case hr => first|(go_simp;done)|(go_simp;rfl));intro w22 hw;replace f_3 : a_g (Kd.R k33 33 w22 w.heap.size (fun _ => True) (.slice Ao17 t167.length co17) t167):=⟨(by rw [hw];exact (by (with_reducible repeat (first|apply Kd.e_K|apply Kd.e_L|apply Kd.f_U));exact Kd.i_u (Kd.r_P (p:=⟨d_L,1,none⟩) (Kd.r_P (p:=⟨d_L,0,none⟩) (Kd.p_n f_3.out d_3.out (by decide)) (fun _ hk => hk.2) (.slice Ao20 t170.length co20)) (fun _ hk => hk.2) (.int .i64 t173)) (fun _ hk => trivial)))⟩;replace g_1 : a_g (Kd.N k24 24 w22 w.heap.size (fun k_ => k_ ≠ d_L) (.slice Ao20 t170.length co20) t170):=⟨(by rw [hw];exact (by (with_reducible repeat (first|apply Kd.d_6|apply Kd.d_7|apply Kd.e_D));exact Kd.g_s (Kd.l_F (p:=⟨d_L,1,none⟩) (Kd.l_F (p:=⟨d_L,0,none⟩) (Kd.g_s g_1.out (fun k_ hk => (⟨hk,hk.2⟩ : _ ∧ k_ ≠ d_L))) (fun _ hk => hk.2) (.slice Ao20 t170.length co20)) (fun _ hk => hk.2) (.int .i64 t173)) (fun _ hk => hk.1.2)))⟩;replace d_3 : a_g (w22.heap[d_L]? = some (.cells #[.slice Ao20 t170.length co20,.int .i64 t173] 37 (0,0))):=⟨(by rw [hw];exact (by (with_reducible repeat (first|refine a_e ?_ _|refine a_h ?_|refine a_d ?_ _));refine a_r (cs:=#[.slice Ao20 t170.length co20,.int .i64 0]) ?_ 1 _ rfl;(with_reducible repeat (first|refine a_e ?_ _|refine a_h ?_|refine a_d ?_ _));refine a_r (cs:=#[.slice none 0 0,.int .i64 0]) ?_ 0 _ rfl;(with_reducible repeat (first|refine a_e ?_ _|refine a_h ?_|refine a_d ?_ _));exact d_3.out))⟩;replace HB : a_g (Below w.heap.size w w22):=⟨(by rw [hw];exact (by repeat (first|(with_reducible first|exact HB.out|apply a_j|apply a_f|apply a_k|refine a_i ?_ j_w.out)|exact HB.out)))⟩;clear hw;have h_b : w22.cell? ⟨d_L,0,none⟩ = some (.slice Ao20 t170.length co20):=(a_b d_3.out 0).trans rfl;have h_d : w22.cell? ⟨d_L,1,none⟩ = some (.int .i64 t173):=(a_b d_3.out 1).trans rfl;have h_j:=a_c d_3.out 0;have h_k:=a_c d_3.out 1)|((with_reducible refine a_J (f:=16) rfl ?_);refine b_t (some 16) rfl rfl Tryd.func16 (by kernel_rfl) rfl #[.agg #[.slice Ao20 t170.length co20,.int .i64 t173],.int .i64 9] rfl (by (try simp only [List.map_toArray,List.map_cons,List.map_nil]);first|done|rfl|(simp only [List.length_drop,List.length_take];rfl)) ?_;(with_reducible refine (c_M.calls k (fun k_ => k_ ≠ d_L) _ _ t170 t173 9 t176 t179 t180 _ ?side1 A3.out).mono ?_);(case side1 => exact Kd.N_V (g_1.out));rintro e w24 ⟨v177,rfl,ho0,hb⟩;refine ⟨_,rfl,?_⟩;have i_f:=a_g.mk (Kd.t_e (Kd.d_F (ok':=fun k_ => k_ ≠ d_L) ho0 (fun k_ hk_ => Or.elim hk_ (fun hs_ => hs_) (fun hn_ => (Kd.g_2 (g:=d_L) (o:=.cells #[.slice Ao20 t170.length co20,.int .i64 t173] 37 (0,0)) (bup_ d_3.out) k_ hn_)))) (a_n (by repeat (first|(with_reducible first|exact HB.out|apply a_j|apply a_f|apply a_k|refine a_i ?_ j_w.out)|exact HB.out))));replace f_3:=a_g.mk (Kd.c_A (rup_ f_3.out) hb);replace g_1:=a_g.mk (Kd.g_w (by (with_reducible repeat (first|apply Kd.d_6|apply Kd.d_7|apply Kd.e_D));exact g_1.out) hb);replace d_3:=a_g.mk (a_m (bup_ d_3.out) hb);replace HB:=a_g.mk (a_p (by repeat (first|(with_reducible first|exact HB.out|apply a_j|apply a_f|apply a_k|refine a_i ?_ j_w.out)|exact HB.out)) hb);(try clear hb);(try clear hb2);(try clear hk);(try clear hi);(try clear ho0);obtain ⟨Ao25,co25,eo25⟩:=Kd.t_f i_f.out;subst eo25;have k_s : w24.cell? ⟨d_L,0,none⟩ = some (.slice Ao20 t170.length co20):=(a_b d_3.out 0).trans rfl;have k_t : w24.cell? ⟨d_L,1,none⟩ = some (.int .i64 t173):=(a_b d_3.out 1).trans rfl;have k_W:=a_c d_3.out 0;have k_X:=a_c d_3.out 1)|((with_reducible refine a_J (f:=17) rfl ?_);refine b_t (some 21) rfl rfl Tryd.func17 (by kernel_rfl) rfl #[.agg #[.slice Ao25 t176.length co25,.int .i64 t179],.int .i64 1,.int .i64 3,.int .i64 9] rfl (by (try simp only [List.map_toArray,List.map_cons,List.map_nil]);first|done|rfl|(simp only [List.length_drop,List.length_take];rfl)) ?_;(with_reducible refine (c_c.calls k _ _ t176 t179 1 3 9 t181 t182 _ ?side1 ?side2 A4.out).mono ?_);(case side1 => refine (Kd.b_Y (e:=24) (base:=w.heap.size) (ok:=fun k_ => k_ ≠ d_L) (n:=t176.length) (c:=co25) ?_).2.2;exact (by (with_reducible repeat (first|apply Kd.b_b|apply Kd.b_c|apply Kd.b_j));exact (Kd.d_F (Kd.m_k (p:=⟨d_L,1,none⟩) (Kd.m_k (p:=⟨d_L,0,none⟩) (Kd.d_F i_f.out (fun k_ hk => (⟨hk,hk⟩ : _ ∧ k_ ≠ d_L))) (fun _ hk => hk.2) (.slice Ao25 t176.length co25)) (fun _ hk => hk.2) (.int .i64 t179)) (fun _ h_ => h_.1))));(case side2 => exact (Kd.b_Y i_f.out).2.1);rintro e w27 ⟨rfl,hb⟩;refine ⟨_,rfl,?_⟩;replace f_3:=a_g.mk (Kd.c_A (by (with_reducible repeat (first|apply Kd.e_K|apply Kd.e_L|apply Kd.f_U));exact (Kd.i_u (Kd.r_P (p:=⟨d_L,1,none⟩) (Kd.r_P (p:=⟨d_L,0,none⟩) (Kd.p_n f_3.out d_3.out (by decide)) (fun _ hk => hk.2) (.slice Ao25 t176.length co25)) (fun _ hk => hk.2) (.int .i64 t179)) (fun _ h_ => h_.1))) hb);replace g_1:=a_g.mk (Kd.g_w (by (with_reducible repeat (first|apply Kd.d_6|apply Kd.d_7|apply Kd.e_D));exact (Kd.g_s (Kd.l_F (p:=⟨d_L,1,none⟩) (Kd.l_F (p:=⟨d_L,0,none⟩) (Kd.g_s g_1.out (fun k_ hk => (⟨hk,hk⟩ : _ ∧ k_ ≠ d_L))) (fun _ hk => hk.2) (.slice Ao25 t176.length co25)) (fun _ hk => hk.2) (.int .i64 t179)) (fun _ h_ => h_.1))) hb);replace i_f:=a_g.mk (Kd.b_q (by (with_reducible repeat (first|apply Kd.b_b|apply Kd.b_c|apply Kd.b_j));exact (Kd.d_F (Kd.m_k (p:=⟨d_L,1,none⟩) (Kd.m_k (p:=⟨d_L,0,none⟩) (Kd.d_F i_f.out (fun k_ hk => (⟨hk,hk⟩ : _ ∧ k_ ≠ d_L))) (fun _ hk => hk.2) (.slice Ao25 t176.length co25)) (fun _ hk => hk.2) (.int .i64 t179)) (fun _ h_ => h_.1))) hb);replace d_3:=a_g.mk (a_m (g:=d_L) (o:=.cells #[.slice Ao25 t176.length co25,.int .i64 t179] 37 (0,0)) (by (with_reducible repeat (first|refine a_e ?_ _|refine a_h ?_|refine a_d ?_ _));refine a_r (cs:=#[.slice Ao25 t176.length co25,.int .i64 t173]) ?_ 1 _ rfl;(with_reducible repeat (first|refine a_e ?_ _|refine a_h ?_|refine a_d ?_ _));refine a_r (cs:=#[.slice Ao20 t170.length co20,.int .i64 t173]) ?_ 0 _ rfl;(with_reducible repeat (first|refine a_e ?_ _|refine a_h ?_|refine a_d ?_ _));exact d_3.out) hb);replace HB:=a_g.mk (a_p (by repeat (first|(with_reducible first|exact HB.out|apply a_j|apply a_f|apply a_k|refine a_i ?_ j_w.out)|exact HB.out)) hb);(try clear hb);(try clear hb2);(try clear hk);(try clear hi);have h_e : w27.cell? ⟨d_L,0,none⟩ = some (.slice Ao25 t176.length co25):=(a_b d_3.out 0).trans rfl;have h_f : w27.cell? ⟨d_L,1,none⟩ = some (.int .i64 t179):=(a_b d_3.out 1).trans rfl;have h_l:=a_c d_3.out 0;have h_m:=a_c d_3.out 1)|((with_reducible refine a_J (f:=18) rfl ?_);refine b_t (some 26) rfl rfl Tryd.func18 (by kernel_rfl) rfl #[.agg #[.slice Ao25 t176.length co25,.int .i64 t179],.int .i64 2] rfl (by (try simp only [List.map_toArray,List.map_cons,List.map_nil]);first|done|rfl|(simp only [List.length_drop,List.length_take];rfl)) ?_;(with_reducible refine (b_X.calls k _ _ t176 t179 2 t183 t186 _ ?side1 ?side2 A5.out).mono ?_);(case side1 => repeat (first|exact (Kd.b_Y i_f.out).2.2|(with_reducible refine Kd.a_8 ?_ _)|(with_reducible refine Kd.a_9 ?_ _)|(with_reducible refine Kd.b_p ?_)));(case side2 => exact (Kd.b_Y i_f.out).2.1);rintro e w29 ⟨v184,rfl,ho0,hb⟩;refine ⟨_,rfl,?_⟩;have o_S:=a_g.mk (Kd.e_M ho0 (a_n (by repeat (first|(with_reducible first|exact HB.out|apply a_j|apply a_f|apply a_k|refine a_i ?_ j_w.out)|exact HB.out))));replace f_3:=a_g.mk (Kd.c_A (rup_ f_3.out) hb);replace g_1:=a_g.mk (Kd.n_2 (by (with_reducible repeat (first|apply Kd.d_6|apply Kd.d_7|apply Kd.e_D));exact g_1.out) (Kd.i_V ho0) hb);replace i_f:=a_g.mk (Kd.h_W (by (with_reducible repeat (first|apply Kd.b_b|apply Kd.b_c|apply Kd.b_j));exact i_f.out) (Kd.i_V ho0) hb);replace d_3:=a_g.mk (a_m (bup_ d_3.out) hb);replace HB:=a_g.mk (a_p (by repeat (first|(with_reducible first|exact HB.out|apply a_j|apply a_f|apply a_k|refine a_i ?_ j_w.out)|exact HB.out)) hb);(try clear hb);(try clear hb2);(try clear hk);(try clear hi);(try clear ho0);obtain ⟨Ao30,co30,eo30⟩:=Kd.g_x o_S.out;subst eo30;have p187 : 0 ≤ (0 : Int):=(by omega);have q187 : 0 < (t183.length : Int):=of_decide_eq_true (by first|(with_reducible assumption)|assumption);obtain ⟨ad187,e187,n_P,n_Q⟩:=x_s (Kd.d_1 o_S.out).2.2 0 p187 q187;cases e187;have qi187 : (0 < t183.length) = True:=eq_true (by omega);(try rw [show ((0 : Int)).toNat = 0 from rfl] at n_P);(try rw [show 0 * 2 = 0 from rfl] at n_P);(try rw [Addr.add_zero'] at n_P);(try rw [show ((0 : Int)).toNat = 0 from rfl] at n_Q);(try rw [show 0 * 2 = 0 from rfl] at n_Q);(try rw [Addr.add_zero'] at n_Q);replace p187:=eq_true p187;replace q187:=eq_true q187)|(go_at_call 15;(with_reducible refine (b_s.calls  t188 t189 _ A14.out).mono ?_);rintro e w31 ⟨v190,rfl,ho0,hb⟩;have p_e:=a_g.mk (Kd.e_M (Kd.s_G ho0 (Kd.R_lt (rup_ f_3.out))) (a_n (by repeat (first|(with_reducible first|exact HB.out|apply a_j|apply a_f|apply a_k|refine a_i ?_ j_w.out)|exact HB.out))));replace f_3:=a_g.mk (Kd.n_3 (rup_ f_3.out) (Kd.i_V ho0) hb);replace g_1:=a_g.mk (Kd.n_2 (by (with_reducible repeat (first|apply Kd.d_6|apply Kd.d_7|apply Kd.e_D));exact g_1.out) (Kd.i_V ho0) hb);replace i_f:=a_g.mk (Kd.h_W (by (with_reducible repeat (first|apply Kd.b_b|apply Kd.b_c|apply Kd.b_j));exact i_f.out) (Kd.i_V ho0) hb);replace o_S:=a_g.mk (Kd.c_A (rup_ o_S.out) hb);replace d_3:=a_g.mk (a_m (bup_ d_3.out) hb);replace HB:=a_g.mk (a_p (by repeat (first|(with_reducible first|exact HB.out|apply a_j|apply a_f|apply a_k|refine a_i ?_ j_w.out)|exact HB.out)) hb);(try clear hb);(try clear hb2);(try clear hk);(try clear hi);(try clear ho0);obtain ⟨Ao32,co32,eo32⟩:=Kd.g_x p_e.out;subst eo32)|(go_at_call 6;(with_reducible refine (a_I.calls k t188 _ _ t189 t192 _ ?side1 ?side2 A15.out).mono ?_);(case side1 => repeat (first|exact (Kd.d_1 p_e.out).2.2|(with_reducible refine Kd.a_8 ?_ _)|(with_reducible refine Kd.a_9 ?_ _)|(with_reducible refine Kd.b_p ?_)));(case side2 => exact (Kd.d_1 p_e.out).2.1);rintro e w33 ⟨rfl,hb⟩;replace f_3:=a_g.mk (Kd.c_A (rup_ f_3.out) hb);replace g_1:=a_g.mk (Kd.g_w (by (with_reducible repeat (first|apply Kd.d_6|apply Kd.d_7|apply Kd.e_D));exact g_1.out) hb);replace i_f:=a_g.mk (Kd.b_q (by (with_reducible repeat (first|apply Kd.b_b|apply Kd.b_c|apply Kd.b_j));exact i_f.out) hb);replace o_S:=a_g.mk (Kd.c_A (rup_ o_S.out) hb);replace p_e:=a_g.mk (Kd.c_A (rup_ p_e.out) hb);replace d_3:=a_g.mk (a_m (bup_ d_3.out) hb);replace HB:=a_g.mk (a_p (by repeat (first|(with_reducible first|exact HB.out|apply a_j|apply a_f|apply a_k|refine a_i ?_ j_w.out)|exact HB.out)) hb);(try clear hb);(try clear hb2);(try clear hk);(try clear hi)))
 go_ret
 exact ⟨by first|rfl|(simp [a_u,a_v] <;> rfl)|(simp [*, a_u,a_v] <;> rfl),by repeat (first|(with_reducible first|exact HB.out|apply a_j|apply a_f|apply a_k|refine a_i ?_ j_w.out)|exact HB.out)⟩
end Go.Proofs.YtgglkfilkagblaaDoor.Q
end
