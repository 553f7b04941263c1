/- Part 8 of 11 of what the row of AuditOne stands on: contracts over the given program's functions, the plain law, the row; no condition beyond those that each theorem states. -/
import Derived.Test.YtgglkfilkagblaaDoorXAuditOne6
section
namespace Go.Proofs.YtgglkfilkagblaaDoor.Q
open Go.RowKit Go.Proofs.YtgglkfilkagblaaDoorW.PrintWords Go.Proofs.YtgglkfilkagblaaDoorW.PrintLast Go.Proofs.YtgglkfilkagblaaDoorW.PrintMore
set_option linter.unusedVariables false
set_option linter.unusedSimpArgs false
def a_z.l0 : Nat → Int → List (S33) → Int → Int → Option (Bool)
 | 0,_,_,_,_ => none
 | k + 1,x3,x10,x11,x12 => if x12 < x11 then (if 0 ≤ x12 then (if x12 < (x10.length : Int) then (if ((a_a x10 x12).f4) = (-1) then (a_z.l0 k x3 x10 x11 (wrap64 (x12 + 1))) else (if ((a_a x10 x12).f5 = true) then (if (a_a x10 x12).f6 = true then (some false) else ((b_q.f ((a_a x10 x12).f7) ((a_a x10 x12).f4)).bind fun t126 => (if t126 = true then ((b_q.f x3 ((a_a x10 x12).f4)).bind fun t127 => (if t127 = true then (some false) else (if 0 ≤ ((a_a x10 x12).f4) then (a_z.l0 k (Go.bits .or .u32 x3 (shl .u32 1 ((a_a x10 x12).f4))) x10 x11 (wrap64 (x12 + 1))) else (none)))) else (some false)))) else (some false))) else (none)) else (none)) else (some true)
def a_z.f (k : Nat) (a0_0 : Int) (l0_1 : List (S33)) : Option (Bool):=(a_t.f k a0_0 l0_1).bind fun t123 => (if t123 = true then (a_z.l0 k 0 l0_1 (l0_1.length : Int) 0) else (some false))
theorem a_z.c_9 : ∀ k,(∀ y0 y1 y2 y3,LeO (a_z.l0 k y0 y1 y2 y3) (a_z.l0 (k + 1) y0 y1 y2 y3))
 | 0 => fun _ _ _ _ r h => by simp [a_z.l0] at h
 | k + 1 => by
  have ih0:=a_z.c_9 k
  ·intro y0 y1 y2 y3
   unfold a_z.l0
   repeat' first
   | (with_reducible exact ih0 _ _ _ _)
   | (with_reducible exact a_t.mono _ _ _)
   | (with_reducible exact LeO.refl _)
   | (with_reducible exact LeO.none _)
   | (with_reducible refine LeO.ite ?_ ?_)
   | (with_reducible refine LeO.bind ?_ (fun _ => ?_))
   | exact ih0 _ _ _ _
   | exact a_t.mono _ _ _
   | exact LeO.none _
   | refine LeO.ite ?_ ?_
   | refine LeO.bind ?_ (fun _ => ?_)
theorem a_z.mono : ∀ a0 a1 k,LeO (a_z.f k a0 a1) (a_z.f (k + 1) a0 a1):=by
 intro a0 a1 k
 have ih0:=a_z.c_9 k
 unfold a_z.f
 repeat' first
  | (with_reducible exact ih0 _ _ _ _)
  | (with_reducible exact a_t.mono _ _ _)
  | (with_reducible exact LeO.refl _)
  | (with_reducible exact LeO.none _)
  | (with_reducible refine LeO.ite ?_ ?_)
  | (with_reducible refine LeO.bind ?_ (fun _ => ?_))
  | exact ih0 _ _ _ _
  | exact a_t.mono _ _ _
  | exact LeO.none _
  | refine LeO.ite ?_ ?_
  | refine LeO.bind ?_ (fun _ => ?_)
set_option maxHeartbeats 8000000 in
set_option maxRecDepth 100000 in
theorem a_z.calls (k : Nat) (a0_0 : Int) (A0_1 : Option Addr) (c0_1 : Nat) (l0_1 : List (S33)) (r : Bool) (w : World) (hr0_1 : Kd.C k33 w A0_1 l0_1.length l0_1) (hc0_1 : l0_1.length ≤ c0_1) (h : a_z.f k a0_0 l0_1 = some r) :
 Calls Tryd.prog 6 #[.agg #[.int .i64 a0_0,.slice A0_1 l0_1.length c0_1]] w fun e w' => e = .returned (.bool r) ∧ Below w.heap.size w w':=by
 have hu24:=Tryd.underlying24
 have hu33:=Tryd.underlying33
 have c_c:=a_f.mk hr0_1
 have d_I:=a_f.mk hc0_1
 clear hr0_1 hc0_1
 have HB:=a_f.mk (Below.refl w.heap.size w)
 have H : ((a_t.f k a0_0 l0_1).bind fun t123 => (if t123 = true then (a_z.l0 k 0 l0_1 (l0_1.length : Int) 0) else (some false))) = some r:=h
 clear h
 replace H:=Option.bind_eq_some_iff.mp H
 obtain ⟨t123,A20,H⟩:=H
 replace H : (if t123 = true then (a_z.l0 k 0 l0_1 (l0_1.length : Int) 0) else (some false)) = some r:=H
 have A2:=a_f.mk A20
 clear A20
 by_cases c3 : t123 = true
 rotate_left
 ·replace c3:=Bool.eq_false_iff.mpr c3
  subst c3
  have H1 : (some false) = some r:=by rw [if_neg (show ¬ (false = true) by decide)] at H;exact H
  clear H
  have H:=H1
  clear H1
  obtain rfl:=Option.some.inj H
  go_enter Tryd.func6,Tryd.ntmps6
  go_wp2_with (first|((with_reducible refine a_J (N:=1) rfl ?_);refine a_A ?hg (N:=1) ?hd (cs:=#[.int .i64 a0_0,.slice A0_1 l0_1.length c0_1]) (t:=24) ?hr ?_;(case hd => rfl);(case hg => rfl);(case hr => first|(go_simp;done)|(go_simp;rfl));intro d_5 hg w40 hbox hb;have c_D:=a_f.mk (hbox);have s_B:=a_f.mk ((by rw [hg];exact (a_o (lup_ HB.out)) : w.heap.size ≤ d_5));have d_F:=a_f.mk ((by rw [hg];exact (a_o (lup_ HB.out)) : w.heap.size ≤ d_5));replace HB:=a_f.mk (a_q (lup_ HB.out) hb);clear hb hbox hg;have k_8 : w40.cell? ⟨d_5,0,none⟩ = some (.int .i64 a0_0):=(a_b c_D.out 0).trans rfl;have k_9 : w40.cell? ⟨d_5,1,none⟩ = some (.slice A0_1 l0_1.length c0_1):=(a_b c_D.out 1).trans rfl;have l_I:=a_c c_D.out 0;have l_J:=a_c c_D.out 1)|((with_reducible refine a_M (f:=19) rfl ?_);refine b_D (some 7) rfl rfl Tryd.func19 (by kernel_rfl) rfl #[.agg #[.int .i64 a0_0,.slice A0_1 l0_1.length c0_1]] rfl (by (try simp only [List.map_toArray,List.map_cons,List.map_nil]);first|done|rfl|(simp only [List.length_drop,List.length_take];rfl)) ?_;(with_reducible refine (a_t.calls k a0_0 _ _ l0_1 false _ ?side1 ?side2 A2.out).mono ?_);(case side1 => repeat (first|exact (Kd.b_i c_c.out HB.out)|(with_reducible refine Kd.b_b ?_ _)|(with_reducible refine Kd.b_c ?_ _)|(with_reducible refine Kd.b_z ?_)));(case side2 => exact d_I.out);rintro e w42 ⟨rfl,hb⟩;refine ⟨_,rfl,?_⟩;replace c_D:=a_f.mk (a_l (bup_ c_D.out) hb);replace HB:=a_f.mk (a_q (by repeat (first|(with_reducible first|exact HB.out|apply a_j|apply a_h|apply a_k|refine a_i ?_ d_F.out)|exact HB.out)) hb);(try clear hb);(try clear hb2);(try clear hk);(try clear hi)))
  go_ret
  exact ⟨by first|rfl|(simp [a_u,a_v] <;> rfl)|(simp [*, a_u,a_v] <;> rfl),by repeat (first|(with_reducible first|exact HB.out|apply a_j|apply a_h|apply a_k|refine a_i ?_ d_F.out)|exact HB.out)⟩
 subst c3
 have H1 : (a_z.l0 k 0 l0_1 (l0_1.length : Int) 0) = some r:=by rw [if_pos rfl] at H;exact H
 clear H
 have H:=H1
 clear H1
 have H':=a_f.mk H
 clear H
 go_enter Tryd.func6,Tryd.ntmps6
 go_wp2_with (first|((with_reducible refine a_J (N:=1) rfl ?_);refine a_A ?hg (N:=1) ?hd (cs:=#[.int .i64 a0_0,.slice A0_1 l0_1.length c0_1]) (t:=24) ?hr ?_;(case hd => rfl);(case hg => rfl);(case hr => first|(go_simp;done)|(go_simp;rfl));intro d_5 hg w4 hbox hb;have c_D:=a_f.mk (hbox);have s_B:=a_f.mk ((by rw [hg];exact (a_o (lup_ HB.out)) : w.heap.size ≤ d_5));have d_F:=a_f.mk ((by rw [hg];exact (a_o (lup_ HB.out)) : w.heap.size ≤ d_5));replace HB:=a_f.mk (a_q (lup_ HB.out) hb);clear hb hbox hg;have f_x : w4.cell? ⟨d_5,0,none⟩ = some (.int .i64 a0_0):=(a_b c_D.out 0).trans rfl;have f_y : w4.cell? ⟨d_5,1,none⟩ = some (.slice A0_1 l0_1.length c0_1):=(a_b c_D.out 1).trans rfl;have f_B:=a_c c_D.out 0;have f_C:=a_c c_D.out 1)|((with_reducible refine a_M (f:=19) rfl ?_);refine b_D (some 7) rfl rfl Tryd.func19 (by kernel_rfl) rfl #[.agg #[.int .i64 a0_0,.slice A0_1 l0_1.length c0_1]] rfl (by (try simp only [List.map_toArray,List.map_cons,List.map_nil]);first|done|rfl|(simp only [List.length_drop,List.length_take];rfl)) ?_;(with_reducible refine (a_t.calls k a0_0 _ _ l0_1 true _ ?side1 ?side2 A2.out).mono ?_);(case side1 => repeat (first|exact (Kd.b_i c_c.out HB.out)|(with_reducible refine Kd.b_b ?_ _)|(with_reducible refine Kd.b_c ?_ _)|(with_reducible refine Kd.b_z ?_)));(case side2 => exact d_I.out);rintro e w6 ⟨rfl,hb⟩;refine ⟨_,rfl,?_⟩;replace c_D:=a_f.mk (a_l (bup_ c_D.out) hb);replace HB:=a_f.mk (a_q (by repeat (first|(with_reducible first|exact HB.out|apply a_j|apply a_h|apply a_k|refine a_i ?_ d_F.out)|exact HB.out)) hb);(try clear hb);(try clear hb2);(try clear hk);(try clear hi);have f_z : w6.cell? ⟨d_5,0,none⟩ = some (.int .i64 a0_0):=(a_b c_D.out 0).trans rfl;have f_A : w6.cell? ⟨d_5,1,none⟩ = some (.slice A0_1 l0_1.length c0_1):=(a_b c_D.out 1).trans rfl;have f_D:=a_c c_D.out 0;have f_E:=a_c c_D.out 1))
 go_loopg [3,12] k (fun kq v3 v12 w' => ∃ (x3_1 : Int) (x12_1 : Int),v3 = .int .u32 x3_1 ∧ v12 = .int .i64 x12_1 ∧ a_f (a_z.l0 kq x3_1 l0_1 (l0_1.length : Int) x12_1 = some r) ∧ a_f (kq ≤ k) ∧ a_f (w'.heap[d_5]? = some (.cells #[.int .i64 a0_0,(.slice A0_1 l0_1.length c0_1)] 24 (0,0))) ∧ a_f (Below w.heap.size w w'))
 case atStart => exact ⟨(0),(0),(by first|rfl|(simp;done)|(simp [*];done)),(by first|rfl|(simp;done)|(simp [*];done)),H',⟨Nat.le_refl _⟩,⟨by (with_reducible repeat (first|refine a_e ?_ _|refine a_g ?_|refine a_d ?_ _));exact c_D.out⟩,⟨by repeat (first|(with_reducible first|exact HB.out|apply a_j|apply a_h|apply a_k|refine a_i ?_ d_F.out)|exact HB.out)⟩⟩
 case round =>
  clear H'
  try clear c1
  try clear p2
  try clear c3
  try clear c6
  try clear f_x
  try clear f_y
  try clear f_z
  try clear f_A
  try clear f_B
  try clear f_C
  try clear f_D
  try clear f_E
  obtain ⟨x3_1,x12_1,rfl,rfl,HA,HK1,c_D,HB⟩:=hrel
  cases gk with
  | zero => exact absurd HA.out (by simp [a_z.l0])
  | succ k1 =>
   have H:=HA.out
   clear HA
   simp only [a_z.l0] at H
   by_cases c8 : x12_1 < (l0_1.length : Int)
   rotate_left
   ·rw [if_neg c8] at H
    have c8b0 : decide (x12_1 < (l0_1.length : Int)) = false:=decide_eq_false c8
    clear c8
    obtain rfl:=Option.some.inj H
    go_wp2
    go_ret
    exact ⟨by first|rfl|(simp [a_u,a_v] <;> rfl)|(simp [*, a_u,a_v] <;> rfl),by repeat (first|(with_reducible first|exact HB.out|apply a_j|apply a_h|apply a_k|refine a_i ?_ d_F.out)|exact HB.out)⟩
   rw [if_pos c8] at H
   have c8b0 : decide (x12_1 < (l0_1.length : Int)) = true:=decide_eq_true c8
   clear c8
   by_cases c9 : 0 ≤ x12_1
   rotate_left
   ·rw [if_neg c9] at H
    exact absurd H (by simp)
   rw [if_pos c9] at H
   have c9b0 : decide (0 ≤ x12_1) = true:=decide_eq_true c9
   clear c9
   by_cases c10 : x12_1 < (l0_1.length : Int)
   rotate_left
   ·rw [if_neg c10] at H
    exact absurd H (by simp)
   rw [if_pos c10] at H
   have c10b0 : decide (x12_1 < (l0_1.length : Int)) = true:=decide_eq_true c10
   clear c10
   by_cases c11 : ((a_a l0_1 x12_1).f4) = (-1)
   ·rw [if_pos c11] at H
    have c11b0 : (((a_a l0_1 x12_1).f4) == (-1)) = true:=beq_iff_eq.mpr c11
    have c11b1 : (((a_a l0_1 x12_1).f4) != (-1)) = false:=bne_eq_false_iff_eq.mpr c11
    clear c11
    have H':=a_f.mk H
    clear H
    have p124 : 0 ≤ (x12_1 : Int):=of_decide_eq_true (by first|(with_reducible assumption)|assumption)
    have q124 : x12_1 < (l0_1.length : Int):=of_decide_eq_true (by first|(with_reducible assumption)|assumption)
    obtain ⟨ad124,e124,c_t,c_u,c_v,c_w,c_x,b_J,b_K,c_y,c_z,c_A,b_2⟩:=c_R c_c.out x12_1 p124 q124
    cases e124
    replace c_t:=(HB.out.cell (World.block_lt_of_cell? w _ c_t)).trans c_t
    replace c_u:=(HB.out.cell (World.block_lt_of_cell? w _ c_u)).trans c_u
    replace c_v:=(HB.out.cell (World.block_lt_of_cell? w _ c_v)).trans c_v
    replace c_w:=(HB.out.cell (World.block_lt_of_cell? w _ c_w)).trans c_w
    replace c_x:=(HB.out.cell (World.block_lt_of_cell? w _ c_x)).trans c_x
    replace b_J:=(HB.out.cell (World.block_lt_of_cell? w _ b_J)).trans b_J
    replace b_K:=(HB.out.cell (World.block_lt_of_cell? w _ b_K)).trans b_K
    replace c_y:=(HB.out.cell (World.block_lt_of_cell? w _ c_y)).trans c_y
    replace c_z:=(HB.out.cell (World.block_lt_of_cell? w _ c_z)).trans c_z
    replace c_A:=(HB.out.cell (World.block_lt_of_cell? w _ c_A)).trans c_A
    replace b_2:=(HB.out.cell (World.block_lt_of_cell? w _ b_2)).trans b_2
    replace p124:=eq_true p124
    replace q124:=eq_true q124
    go_wp2_with (first|((with_reducible refine a_J (N:=5) rfl ?_);refine a_A ?hg (N:=5) ?hd (cs:=#[.int .i64 0,.int .i64 0,.int .i64 0,.int .i64 0,.int .i64 0,.bool false,.bool false,.int .u32 0,.int .i64 0,.int .i64 0,.int .i64 0]) (t:=33) ?hr ?_;(case hd => rfl);(case hg => rfl);(case hr => first|(go_simp;done)|(go_simp;rfl));intro b_d hg w12 hbox hb;have a_S:=a_f.mk (hbox);have k_j:=a_f.mk ((by rw [hg];exact (a_o (by repeat (first|(with_reducible first|exact HB.out|apply a_j|apply a_h|apply a_k|refine a_i ?_ d_F.out)|exact HB.out))) : w.heap.size ≤ b_d));have f_8:=a_f.mk ((by rw [hg];exact (a_o (by repeat (first|(with_reducible first|exact HB.out|apply a_j|apply a_h|apply a_k|refine a_i ?_ d_F.out)|exact HB.out))) : w.heap.size ≤ b_d));have a_8:=a_f.mk ((by rw [hg];exact Nat.ne_of_lt (a_B (bup_ c_D.out)) : d_5 ≠ b_d));have c_6:=a_f.mk ((by rw [hg];exact Nat.ne_of_gt (a_B (bup_ c_D.out)) : b_d ≠ d_5));replace c_D:=a_f.mk (a_l (bup_ c_D.out) hb);replace HB:=a_f.mk (a_q (by repeat (first|(with_reducible first|exact HB.out|apply a_j|apply a_h|apply a_k|refine a_i ?_ d_F.out)|exact HB.out)) hb);clear hb hbox hg;have y_6:=c_6.out;have z_C:=a_8.out;have k_V : w12.cell? ⟨b_d,0,none⟩ = some (.int .i64 0):=(a_b a_S.out 0).trans rfl;have k_W : w12.cell? ⟨b_d,1,none⟩ = some (.int .i64 0):=(a_b a_S.out 1).trans rfl;have k_X : w12.cell? ⟨b_d,2,none⟩ = some (.int .i64 0):=(a_b a_S.out 2).trans rfl;have k_Y : w12.cell? ⟨b_d,3,none⟩ = some (.int .i64 0):=(a_b a_S.out 3).trans rfl;have k_Z : w12.cell? ⟨b_d,4,none⟩ = some (.int .i64 0):=(a_b a_S.out 4).trans rfl;have k_0 : w12.cell? ⟨b_d,5,none⟩ = some (.bool false):=(a_b a_S.out 5).trans rfl;have k_1 : w12.cell? ⟨b_d,6,none⟩ = some (.bool false):=(a_b a_S.out 6).trans rfl;have k_2 : w12.cell? ⟨b_d,7,none⟩ = some (.int .u32 0):=(a_b a_S.out 7).trans rfl;have k_3 : w12.cell? ⟨b_d,8,none⟩ = some (.int .i64 0):=(a_b a_S.out 8).trans rfl;have k_4 : w12.cell? ⟨b_d,9,none⟩ = some (.int .i64 0):=(a_b a_S.out 9).trans rfl;have j_K : w12.cell? ⟨b_d,10,none⟩ = some (.int .i64 0):=(a_b a_S.out 10).trans rfl;have l_v:=a_c a_S.out 0;have l_w:=a_c a_S.out 1;have l_x:=a_c a_S.out 2;have l_y:=a_c a_S.out 3;have l_z:=a_c a_S.out 4;have l_A:=a_c a_S.out 5;have l_B:=a_c a_S.out 6;have l_C:=a_c a_S.out 7;have l_D:=a_c a_S.out 8;have l_E:=a_c a_S.out 9;have j_N:=a_c a_S.out 10))
    go_roundg k1
    case measure => have:=HK1.out;omega
    case rel => exact ⟨(x3_1),(wrap64 (x12_1 + 1)),(by first|rfl|(simp;done)|(simp [*];done)),(by first|rfl|(simp;done)|(simp [*];done)),H',⟨by have:=HK1.out;omega⟩,⟨by (with_reducible repeat (first|refine a_e ?_ _|refine a_g ?_|refine a_d ?_ _));refine a_p ?_ a_8.out _;(with_reducible repeat (first|refine a_e ?_ _|refine a_g ?_|refine a_d ?_ _));refine a_p ?_ a_8.out _;(with_reducible repeat (first|refine a_e ?_ _|refine a_g ?_|refine a_d ?_ _));refine a_p ?_ a_8.out _;(with_reducible repeat (first|refine a_e ?_ _|refine a_g ?_|refine a_d ?_ _));refine a_p ?_ a_8.out _;(with_reducible repeat (first|refine a_e ?_ _|refine a_g ?_|refine a_d ?_ _));refine a_p ?_ a_8.out _;(with_reducible repeat (first|refine a_e ?_ _|refine a_g ?_|refine a_d ?_ _));refine a_p ?_ a_8.out _;(with_reducible repeat (first|refine a_e ?_ _|refine a_g ?_|refine a_d ?_ _));refine a_p ?_ a_8.out _;(with_reducible repeat (first|refine a_e ?_ _|refine a_g ?_|refine a_d ?_ _));refine a_p ?_ a_8.out _;(with_reducible repeat (first|refine a_e ?_ _|refine a_g ?_|refine a_d ?_ _));refine a_p ?_ a_8.out _;(with_reducible repeat (first|refine a_e ?_ _|refine a_g ?_|refine a_d ?_ _));refine a_p ?_ a_8.out _;(with_reducible repeat (first|refine a_e ?_ _|refine a_g ?_|refine a_d ?_ _));refine a_p ?_ a_8.out _;(with_reducible repeat (first|refine a_e ?_ _|refine a_g ?_|refine a_d ?_ _));exact c_D.out⟩,⟨by repeat (first|(with_reducible first|exact HB.out|apply a_j|apply a_h|apply a_k|refine a_i ?_ d_F.out|refine a_i ?_ f_8.out)|exact HB.out)⟩⟩
   rw [if_neg c11] at H
   have c11b0 : (((a_a l0_1 x12_1).f4) == (-1)) = false:=beq_eq_false_iff_ne.mpr c11
   have c11b1 : (((a_a l0_1 x12_1).f4) != (-1)) = true:=bne_iff_ne.mpr c11
   obtain ⟨bq15,hbq15⟩ : ∃ b_ : Bool,b_ = ((a_a l0_1 x12_1).f5):=⟨_,rfl⟩
   replace H : (if (bq15 = true) then (if (a_a l0_1 x12_1).f6 = true then (some false) else ((b_q.f ((a_a l0_1 x12_1).f7) ((a_a l0_1 x12_1).f4)).bind fun t126 => (if t126 = true then ((b_q.f x3_1 ((a_a l0_1 x12_1).f4)).bind fun t127 => (if t127 = true then (some false) else (if 0 ≤ ((a_a l0_1 x12_1).f4) then (a_z.l0 k1 (Go.bits .or .u32 x3_1 (shl .u32 1 ((a_a l0_1 x12_1).f4))) l0_1 (l0_1.length : Int) (wrap64 (x12_1 + 1))) else (none)))) else (some false)))) else (some false)) = some r:=by rw [← hbq15] at H;exact H
   have Nbq15:=a_f.mk hbq15
   clear hbq15
   by_cases c16 : (bq15 = true)
   rotate_left
   ·replace c16:=Bool.eq_false_iff.mpr c16
    subst c16
    have H1 : (some false) = some r:=by rw [if_neg (show ¬ (false = true) by decide)] at H;exact H
    clear H
    have H:=H1
    clear H1
    obtain rfl:=Option.some.inj H
    have p124 : 0 ≤ (x12_1 : Int):=of_decide_eq_true (by first|(with_reducible assumption)|assumption)
    have q124 : x12_1 < (l0_1.length : Int):=of_decide_eq_true (by first|(with_reducible assumption)|assumption)
    obtain ⟨ad124,e124,c_t,c_u,c_v,c_w,c_x,b_J,b_K,c_y,c_z,c_A,b_2⟩:=c_R c_c.out x12_1 p124 q124
    (try rw [← Nbq15.out] at b_J)
    (try rw [← Nbq15.out] at b_K)
    cases e124
    replace c_t:=(HB.out.cell (World.block_lt_of_cell? w _ c_t)).trans c_t
    replace c_u:=(HB.out.cell (World.block_lt_of_cell? w _ c_u)).trans c_u
    replace c_v:=(HB.out.cell (World.block_lt_of_cell? w _ c_v)).trans c_v
    replace c_w:=(HB.out.cell (World.block_lt_of_cell? w _ c_w)).trans c_w
    replace c_x:=(HB.out.cell (World.block_lt_of_cell? w _ c_x)).trans c_x
    replace b_J:=(HB.out.cell (World.block_lt_of_cell? w _ b_J)).trans b_J
    replace b_K:=(HB.out.cell (World.block_lt_of_cell? w _ b_K)).trans b_K
    replace c_y:=(HB.out.cell (World.block_lt_of_cell? w _ c_y)).trans c_y
    replace c_z:=(HB.out.cell (World.block_lt_of_cell? w _ c_z)).trans c_z
    replace c_A:=(HB.out.cell (World.block_lt_of_cell? w _ c_A)).trans c_A
    replace b_2:=(HB.out.cell (World.block_lt_of_cell? w _ b_2)).trans b_2
    replace p124:=eq_true p124
    replace q124:=eq_true q124
    go_wp2_with (first|((with_reducible refine a_J (N:=5) rfl ?_);refine a_A ?hg (N:=5) ?hd (cs:=#[.int .i64 0,.int .i64 0,.int .i64 0,.int .i64 0,.int .i64 0,.bool false,.bool false,.int .u32 0,.int .i64 0,.int .i64 0,.int .i64 0]) (t:=33) ?hr ?_;(case hd => rfl);(case hg => rfl);(case hr => first|(go_simp;done)|(go_simp;rfl));intro b_d hg w37 hbox hb;have a_S:=a_f.mk (hbox);have k_j:=a_f.mk ((by rw [hg];exact (a_o (by repeat (first|(with_reducible first|exact HB.out|apply a_j|apply a_h|apply a_k|refine a_i ?_ d_F.out)|exact HB.out))) : w.heap.size ≤ b_d));have f_8:=a_f.mk ((by rw [hg];exact (a_o (by repeat (first|(with_reducible first|exact HB.out|apply a_j|apply a_h|apply a_k|refine a_i ?_ d_F.out)|exact HB.out))) : w.heap.size ≤ b_d));have a_8:=a_f.mk ((by rw [hg];exact Nat.ne_of_lt (a_B (bup_ c_D.out)) : d_5 ≠ b_d));have c_6:=a_f.mk ((by rw [hg];exact Nat.ne_of_gt (a_B (bup_ c_D.out)) : b_d ≠ d_5));replace c_D:=a_f.mk (a_l (bup_ c_D.out) hb);replace HB:=a_f.mk (a_q (by repeat (first|(with_reducible first|exact HB.out|apply a_j|apply a_h|apply a_k|refine a_i ?_ d_F.out)|exact HB.out)) hb);clear hb hbox hg;have z_i:=c_6.out;have z_O:=a_8.out;have o_P : w37.cell? ⟨b_d,0,none⟩ = some (.int .i64 0):=(a_b a_S.out 0).trans rfl;have o_Q : w37.cell? ⟨b_d,1,none⟩ = some (.int .i64 0):=(a_b a_S.out 1).trans rfl;have t_6 : w37.cell? ⟨b_d,2,none⟩ = some (.int .i64 0):=(a_b a_S.out 2).trans rfl;have t_7 : w37.cell? ⟨b_d,3,none⟩ = some (.int .i64 0):=(a_b a_S.out 3).trans rfl;have t_8 : w37.cell? ⟨b_d,4,none⟩ = some (.int .i64 0):=(a_b a_S.out 4).trans rfl;have t_9 : w37.cell? ⟨b_d,5,none⟩ = some (.bool false):=(a_b a_S.out 5).trans rfl;have u_a : w37.cell? ⟨b_d,6,none⟩ = some (.bool false):=(a_b a_S.out 6).trans rfl;have u_b : w37.cell? ⟨b_d,7,none⟩ = some (.int .u32 0):=(a_b a_S.out 7).trans rfl;have u_d : w37.cell? ⟨b_d,8,none⟩ = some (.int .i64 0):=(a_b a_S.out 8).trans rfl;have u_e : w37.cell? ⟨b_d,9,none⟩ = some (.int .i64 0):=(a_b a_S.out 9).trans rfl;have s_a : w37.cell? ⟨b_d,10,none⟩ = some (.int .i64 0):=(a_b a_S.out 10).trans rfl;have q_q:=a_c a_S.out 0;have q_r:=a_c a_S.out 1;have w_C:=a_c a_S.out 2;have w_D:=a_c a_S.out 3;have w_E:=a_c a_S.out 4;have w_F:=a_c a_S.out 5;have w_G:=a_c a_S.out 6;have w_H:=a_c a_S.out 7;have w_I:=a_c a_S.out 8;have w_J:=a_c a_S.out 9;have s_s:=a_c a_S.out 10))
    go_ret
    exact ⟨by first|rfl|(simp [a_u,a_v] <;> rfl)|(simp [*, a_u,a_v] <;> rfl),by repeat (first|(with_reducible first|exact HB.out|apply a_j|apply a_h|apply a_k|refine a_i ?_ d_F.out|refine a_i ?_ f_8.out)|exact HB.out)⟩
   subst c16
   have H1 : (if (a_a l0_1 x12_1).f6 = true then (some false) else ((b_q.f ((a_a l0_1 x12_1).f7) ((a_a l0_1 x12_1).f4)).bind fun t126 => (if t126 = true then ((b_q.f x3_1 ((a_a l0_1 x12_1).f4)).bind fun t127 => (if t127 = true then (some false) else (if 0 ≤ ((a_a l0_1 x12_1).f4) then (a_z.l0 k1 (Go.bits .or .u32 x3_1 (shl .u32 1 ((a_a l0_1 x12_1).f4))) l0_1 (l0_1.length : Int) (wrap64 (x12_1 + 1))) else (none)))) else (some false)))) = some r:=by rw [if_pos rfl] at H;exact H
   clear H
   have H:=H1
   clear H1
   obtain ⟨bq17,hbq17⟩ : ∃ b_ : Bool,b_ = ((a_a l0_1 x12_1).f6):=⟨_,rfl⟩
   replace H : (if bq17 = true then (some false) else ((b_q.f ((a_a l0_1 x12_1).f7) ((a_a l0_1 x12_1).f4)).bind fun t126 => (if t126 = true then ((b_q.f x3_1 ((a_a l0_1 x12_1).f4)).bind fun t127 => (if t127 = true then (some false) else (if 0 ≤ ((a_a l0_1 x12_1).f4) then (a_z.l0 k1 (Go.bits .or .u32 x3_1 (shl .u32 1 ((a_a l0_1 x12_1).f4))) l0_1 (l0_1.length : Int) (wrap64 (x12_1 + 1))) else (none)))) else (some false)))) = some r:=by rw [← hbq17] at H;exact H
   have Nbq17:=a_f.mk hbq17
   clear hbq17
   by_cases c18 : bq17 = true
   ·subst c18
    have H1 : (some false) = some r:=by rw [if_pos rfl] at H;exact H
    clear H
    have H:=H1
    clear H1
    obtain rfl:=Option.some.inj H
    have p124 : 0 ≤ (x12_1 : Int):=of_decide_eq_true (by first|(with_reducible assumption)|assumption)
    have q124 : x12_1 < (l0_1.length : Int):=of_decide_eq_true (by first|(with_reducible assumption)|assumption)
    obtain ⟨ad124,e124,c_t,c_u,c_v,c_w,c_x,b_J,b_K,c_y,c_z,c_A,b_2⟩:=c_R c_c.out x12_1 p124 q124
    (try rw [← Nbq15.out] at b_J)
    (try rw [← Nbq17.out] at b_J)
    (try rw [← Nbq15.out] at b_K)
    (try rw [← Nbq17.out] at b_K)
    cases e124
    replace c_t:=(HB.out.cell (World.block_lt_of_cell? w _ c_t)).trans c_t
    replace c_u:=(HB.out.cell (World.block_lt_of_cell? w _ c_u)).trans c_u
    replace c_v:=(HB.out.cell (World.block_lt_of_cell? w _ c_v)).trans c_v
    replace c_w:=(HB.out.cell (World.block_lt_of_cell? w _ c_w)).trans c_w
    replace c_x:=(HB.out.cell (World.block_lt_of_cell? w _ c_x)).trans c_x
    replace b_J:=(HB.out.cell (World.block_lt_of_cell? w _ b_J)).trans b_J
    replace b_K:=(HB.out.cell (World.block_lt_of_cell? w _ b_K)).trans b_K
    replace c_y:=(HB.out.cell (World.block_lt_of_cell? w _ c_y)).trans c_y
    replace c_z:=(HB.out.cell (World.block_lt_of_cell? w _ c_z)).trans c_z
    replace c_A:=(HB.out.cell (World.block_lt_of_cell? w _ c_A)).trans c_A
    replace b_2:=(HB.out.cell (World.block_lt_of_cell? w _ b_2)).trans b_2
    replace p124:=eq_true p124
    replace q124:=eq_true q124
    go_wp2_with (first|((with_reducible refine a_J (N:=5) rfl ?_);refine a_A ?hg (N:=5) ?hd (cs:=#[.int .i64 0,.int .i64 0,.int .i64 0,.int .i64 0,.int .i64 0,.bool false,.bool false,.int .u32 0,.int .i64 0,.int .i64 0,.int .i64 0]) (t:=33) ?hr ?_;(case hd => rfl);(case hg => rfl);(case hr => first|(go_simp;done)|(go_simp;rfl));intro b_d hg w19 hbox hb;have a_S:=a_f.mk (hbox);have k_j:=a_f.mk ((by rw [hg];exact (a_o (by repeat (first|(with_reducible first|exact HB.out|apply a_j|apply a_h|apply a_k|refine a_i ?_ d_F.out)|exact HB.out))) : w.heap.size ≤ b_d));have f_8:=a_f.mk ((by rw [hg];exact (a_o (by repeat (first|(with_reducible first|exact HB.out|apply a_j|apply a_h|apply a_k|refine a_i ?_ d_F.out)|exact HB.out))) : w.heap.size ≤ b_d));have a_8:=a_f.mk ((by rw [hg];exact Nat.ne_of_lt (a_B (bup_ c_D.out)) : d_5 ≠ b_d));have c_6:=a_f.mk ((by rw [hg];exact Nat.ne_of_gt (a_B (bup_ c_D.out)) : b_d ≠ d_5));replace c_D:=a_f.mk (a_l (bup_ c_D.out) hb);replace HB:=a_f.mk (a_q (by repeat (first|(with_reducible first|exact HB.out|apply a_j|apply a_h|apply a_k|refine a_i ?_ d_F.out)|exact HB.out)) hb);clear hb hbox hg;have r_E:=c_6.out;have r_G:=a_8.out;have k_5 : w19.cell? ⟨b_d,0,none⟩ = some (.int .i64 0):=(a_b a_S.out 0).trans rfl;have k_6 : w19.cell? ⟨b_d,1,none⟩ = some (.int .i64 0):=(a_b a_S.out 1).trans rfl;have t_k : w19.cell? ⟨b_d,2,none⟩ = some (.int .i64 0):=(a_b a_S.out 2).trans rfl;have t_l : w19.cell? ⟨b_d,3,none⟩ = some (.int .i64 0):=(a_b a_S.out 3).trans rfl;have t_m : w19.cell? ⟨b_d,4,none⟩ = some (.int .i64 0):=(a_b a_S.out 4).trans rfl;have t_n : w19.cell? ⟨b_d,5,none⟩ = some (.bool false):=(a_b a_S.out 5).trans rfl;have t_o : w19.cell? ⟨b_d,6,none⟩ = some (.bool false):=(a_b a_S.out 6).trans rfl;have t_p : w19.cell? ⟨b_d,7,none⟩ = some (.int .u32 0):=(a_b a_S.out 7).trans rfl;have t_q : w19.cell? ⟨b_d,8,none⟩ = some (.int .i64 0):=(a_b a_S.out 8).trans rfl;have t_r : w19.cell? ⟨b_d,9,none⟩ = some (.int .i64 0):=(a_b a_S.out 9).trans rfl;have r_5 : w19.cell? ⟨b_d,10,none⟩ = some (.int .i64 0):=(a_b a_S.out 10).trans rfl;have l_F:=a_c a_S.out 0;have l_G:=a_c a_S.out 1;have v_Q:=a_c a_S.out 2;have v_R:=a_c a_S.out 3;have v_S:=a_c a_S.out 4;have v_T:=a_c a_S.out 5;have v_U:=a_c a_S.out 6;have v_V:=a_c a_S.out 7;have v_W:=a_c a_S.out 8;have v_X:=a_c a_S.out 9;have s_n:=a_c a_S.out 10))
    go_ret
    exact ⟨by first|rfl|(simp [a_u,a_v] <;> rfl)|(simp [*, a_u,a_v] <;> rfl),by repeat (first|(with_reducible first|exact HB.out|apply a_j|apply a_h|apply a_k|refine a_i ?_ d_F.out|refine a_i ?_ f_8.out)|exact HB.out)⟩
   replace c18:=Bool.eq_false_iff.mpr c18
   subst c18
   have H1 : ((b_q.f ((a_a l0_1 x12_1).f7) ((a_a l0_1 x12_1).f4)).bind fun t126 => (if t126 = true then ((b_q.f x3_1 ((a_a l0_1 x12_1).f4)).bind fun t127 => (if t127 = true then (some false) else (if 0 ≤ ((a_a l0_1 x12_1).f4) then (a_z.l0 k1 (Go.bits .or .u32 x3_1 (shl .u32 1 ((a_a l0_1 x12_1).f4))) l0_1 (l0_1.length : Int) (wrap64 (x12_1 + 1))) else (none)))) else (some false))) = some r:=by rw [if_neg (show ¬ (false = true) by decide)] at H;exact H
   clear H
   have H:=H1
   clear H1
   replace H:=Option.bind_eq_some_iff.mp H
   obtain ⟨t126,A220,H⟩:=H
   replace H : (if t126 = true then ((b_q.f x3_1 ((a_a l0_1 x12_1).f4)).bind fun t127 => (if t127 = true then (some false) else (if 0 ≤ ((a_a l0_1 x12_1).f4) then (a_z.l0 k1 (Go.bits .or .u32 x3_1 (shl .u32 1 ((a_a l0_1 x12_1).f4))) l0_1 (l0_1.length : Int) (wrap64 (x12_1 + 1))) else (none)))) else (some false)) = some r:=H
   have A22:=a_f.mk A220
   clear A220
   by_cases c23 : t126 = true
   rotate_left
   ·replace c23:=Bool.eq_false_iff.mpr c23
    subst c23
    have H1 : (some false) = some r:=by rw [if_neg (show ¬ (false = true) by decide)] at H;exact H
    clear H
    have H:=H1
    clear H1
    obtain rfl:=Option.some.inj H
    have p124 : 0 ≤ (x12_1 : Int):=of_decide_eq_true (by first|(with_reducible assumption)|assumption)
    have q124 : x12_1 < (l0_1.length : Int):=of_decide_eq_true (by first|(with_reducible assumption)|assumption)
    obtain ⟨ad124,e124,c_t,c_u,c_v,c_w,c_x,b_J,b_K,c_y,c_z,c_A,b_2⟩:=c_R c_c.out x12_1 p124 q124
    (try rw [← Nbq15.out] at b_J)
    (try rw [← Nbq17.out] at b_J)
    (try rw [← Nbq15.out] at b_K)
    (try rw [← Nbq17.out] at b_K)
    cases e124
    replace c_t:=(HB.out.cell (World.block_lt_of_cell? w _ c_t)).trans c_t
    replace c_u:=(HB.out.cell (World.block_lt_of_cell? w _ c_u)).trans c_u
    replace c_v:=(HB.out.cell (World.block_lt_of_cell? w _ c_v)).trans c_v
    replace c_w:=(HB.out.cell (World.block_lt_of_cell? w _ c_w)).trans c_w
    replace c_x:=(HB.out.cell (World.block_lt_of_cell? w _ c_x)).trans c_x
    replace b_J:=(HB.out.cell (World.block_lt_of_cell? w _ b_J)).trans b_J
    replace b_K:=(HB.out.cell (World.block_lt_of_cell? w _ b_K)).trans b_K
    replace c_y:=(HB.out.cell (World.block_lt_of_cell? w _ c_y)).trans c_y
    replace c_z:=(HB.out.cell (World.block_lt_of_cell? w _ c_z)).trans c_z
    replace c_A:=(HB.out.cell (World.block_lt_of_cell? w _ c_A)).trans c_A
    replace b_2:=(HB.out.cell (World.block_lt_of_cell? w _ b_2)).trans b_2
    replace p124:=eq_true p124
    replace q124:=eq_true q124
    go_wp2_with (first|((with_reducible refine a_J (N:=5) rfl ?_);refine a_A ?hg (N:=5) ?hd (cs:=#[.int .i64 0,.int .i64 0,.int .i64 0,.int .i64 0,.int .i64 0,.bool false,.bool false,.int .u32 0,.int .i64 0,.int .i64 0,.int .i64 0]) (t:=33) ?hr ?_;(case hd => rfl);(case hg => rfl);(case hr => first|(go_simp;done)|(go_simp;rfl));intro b_d hg w34 hbox hb;have a_S:=a_f.mk (hbox);have k_j:=a_f.mk ((by rw [hg];exact (a_o (by repeat (first|(with_reducible first|exact HB.out|apply a_j|apply a_h|apply a_k|refine a_i ?_ d_F.out)|exact HB.out))) : w.heap.size ≤ b_d));have f_8:=a_f.mk ((by rw [hg];exact (a_o (by repeat (first|(with_reducible first|exact HB.out|apply a_j|apply a_h|apply a_k|refine a_i ?_ d_F.out)|exact HB.out))) : w.heap.size ≤ b_d));have a_8:=a_f.mk ((by rw [hg];exact Nat.ne_of_lt (a_B (bup_ c_D.out)) : d_5 ≠ b_d));have c_6:=a_f.mk ((by rw [hg];exact Nat.ne_of_gt (a_B (bup_ c_D.out)) : b_d ≠ d_5));replace c_D:=a_f.mk (a_l (bup_ c_D.out) hb);replace HB:=a_f.mk (a_q (by repeat (first|(with_reducible first|exact HB.out|apply a_j|apply a_h|apply a_k|refine a_i ?_ d_F.out)|exact HB.out)) hb);clear hb hbox hg;have r_F:=c_6.out;have r_H:=a_8.out;have i_F : w34.cell? ⟨b_d,0,none⟩ = some (.int .i64 0):=(a_b a_S.out 0).trans rfl;have i_G : w34.cell? ⟨b_d,1,none⟩ = some (.int .i64 0):=(a_b a_S.out 1).trans rfl;have o_n : w34.cell? ⟨b_d,2,none⟩ = some (.int .i64 0):=(a_b a_S.out 2).trans rfl;have o_o : w34.cell? ⟨b_d,3,none⟩ = some (.int .i64 0):=(a_b a_S.out 3).trans rfl;have o_p : w34.cell? ⟨b_d,4,none⟩ = some (.int .i64 0):=(a_b a_S.out 4).trans rfl;have o_q : w34.cell? ⟨b_d,5,none⟩ = some (.bool false):=(a_b a_S.out 5).trans rfl;have o_r : w34.cell? ⟨b_d,6,none⟩ = some (.bool false):=(a_b a_S.out 6).trans rfl;have o_s : w34.cell? ⟨b_d,7,none⟩ = some (.int .u32 0):=(a_b a_S.out 7).trans rfl;have o_t : w34.cell? ⟨b_d,8,none⟩ = some (.int .i64 0):=(a_b a_S.out 8).trans rfl;have o_u : w34.cell? ⟨b_d,9,none⟩ = some (.int .i64 0):=(a_b a_S.out 9).trans rfl;have m_n : w34.cell? ⟨b_d,10,none⟩ = some (.int .i64 0):=(a_b a_S.out 10).trans rfl;have i_4:=a_c a_S.out 0;have i_5:=a_c a_S.out 1;have p_X:=a_c a_S.out 2;have p_Y:=a_c a_S.out 3;have p_Z:=a_c a_S.out 4;have p_0:=a_c a_S.out 5;have p_1:=a_c a_S.out 6;have p_2:=a_c a_S.out 7;have p_3:=a_c a_S.out 8;have p_4:=a_c a_S.out 9;have m_x:=a_c a_S.out 10)|(go_at_call 20;(with_reducible refine (b_q.calls ((a_a l0_1 x12_1).f7) ((a_a l0_1 x12_1).f4) false _ A22.out).mono ?_);rintro e w' ⟨rfl,⟨nd,rfl⟩⟩))
    go_ret
    exact ⟨by first|rfl|(simp [a_u,a_v] <;> rfl)|(simp [*, a_u,a_v] <;> rfl),by repeat (first|(with_reducible first|exact HB.out|apply a_j|apply a_h|apply a_k|refine a_i ?_ d_F.out|refine a_i ?_ f_8.out)|exact HB.out)⟩
   subst c23
   have H1 : ((b_q.f x3_1 ((a_a l0_1 x12_1).f4)).bind fun t127 => (if t127 = true then (some false) else (if 0 ≤ ((a_a l0_1 x12_1).f4) then (a_z.l0 k1 (Go.bits .or .u32 x3_1 (shl .u32 1 ((a_a l0_1 x12_1).f4))) l0_1 (l0_1.length : Int) (wrap64 (x12_1 + 1))) else (none)))) = some r:=by rw [if_pos rfl] at H;exact H
   clear H
   have H:=H1
   clear H1
   replace H:=Option.bind_eq_some_iff.mp H
   obtain ⟨t127,A240,H⟩:=H
   replace H : (if t127 = true then (some false) else (if 0 ≤ ((a_a l0_1 x12_1).f4) then (a_z.l0 k1 (Go.bits .or .u32 x3_1 (shl .u32 1 ((a_a l0_1 x12_1).f4))) l0_1 (l0_1.length : Int) (wrap64 (x12_1 + 1))) else (none))) = some r:=H
   have A24:=a_f.mk A240
   clear A240
   by_cases c25 : t127 = true
   ·subst c25
    have H1 : (some false) = some r:=by rw [if_pos rfl] at H;exact H
    clear H
    have H:=H1
    clear H1
    obtain rfl:=Option.some.inj H
    have p124 : 0 ≤ (x12_1 : Int):=of_decide_eq_true (by first|(with_reducible assumption)|assumption)
    have q124 : x12_1 < (l0_1.length : Int):=of_decide_eq_true (by first|(with_reducible assumption)|assumption)
    obtain ⟨ad124,e124,c_t,c_u,c_v,c_w,c_x,b_J,b_K,c_y,c_z,c_A,b_2⟩:=c_R c_c.out x12_1 p124 q124
    (try rw [← Nbq15.out] at b_J)
    (try rw [← Nbq17.out] at b_J)
    (try rw [← Nbq15.out] at b_K)
    (try rw [← Nbq17.out] at b_K)
    cases e124
    replace c_t:=(HB.out.cell (World.block_lt_of_cell? w _ c_t)).trans c_t
    replace c_u:=(HB.out.cell (World.block_lt_of_cell? w _ c_u)).trans c_u
    replace c_v:=(HB.out.cell (World.block_lt_of_cell? w _ c_v)).trans c_v
    replace c_w:=(HB.out.cell (World.block_lt_of_cell? w _ c_w)).trans c_w
    replace c_x:=(HB.out.cell (World.block_lt_of_cell? w _ c_x)).trans c_x
    replace b_J:=(HB.out.cell (World.block_lt_of_cell? w _ b_J)).trans b_J
    replace b_K:=(HB.out.cell (World.block_lt_of_cell? w _ b_K)).trans b_K
    replace c_y:=(HB.out.cell (World.block_lt_of_cell? w _ c_y)).trans c_y
    replace c_z:=(HB.out.cell (World.block_lt_of_cell? w _ c_z)).trans c_z
    replace c_A:=(HB.out.cell (World.block_lt_of_cell? w _ c_A)).trans c_A
    replace b_2:=(HB.out.cell (World.block_lt_of_cell? w _ b_2)).trans b_2
    replace p124:=eq_true p124
    replace q124:=eq_true q124
    go_wp2_with (first|((with_reducible refine a_J (N:=5) rfl ?_);refine a_A ?hg (N:=5) ?hd (cs:=#[.int .i64 0,.int .i64 0,.int .i64 0,.int .i64 0,.int .i64 0,.bool false,.bool false,.int .u32 0,.int .i64 0,.int .i64 0,.int .i64 0]) (t:=33) ?hr ?_;(case hd => rfl);(case hg => rfl);(case hr => first|(go_simp;done)|(go_simp;rfl));intro b_d hg w26 hbox hb;have a_S:=a_f.mk (hbox);have k_j:=a_f.mk ((by rw [hg];exact (a_o (by repeat (first|(with_reducible first|exact HB.out|apply a_j|apply a_h|apply a_k|refine a_i ?_ d_F.out)|exact HB.out))) : w.heap.size ≤ b_d));have f_8:=a_f.mk ((by rw [hg];exact (a_o (by repeat (first|(with_reducible first|exact HB.out|apply a_j|apply a_h|apply a_k|refine a_i ?_ d_F.out)|exact HB.out))) : w.heap.size ≤ b_d));have a_8:=a_f.mk ((by rw [hg];exact Nat.ne_of_lt (a_B (bup_ c_D.out)) : d_5 ≠ b_d));have c_6:=a_f.mk ((by rw [hg];exact Nat.ne_of_gt (a_B (bup_ c_D.out)) : b_d ≠ d_5));replace c_D:=a_f.mk (a_l (bup_ c_D.out) hb);replace HB:=a_f.mk (a_q (by repeat (first|(with_reducible first|exact HB.out|apply a_j|apply a_h|apply a_k|refine a_i ?_ d_F.out)|exact HB.out)) hb);clear hb hbox hg;have x_0:=c_6.out;have x_9:=a_8.out;have h_a : w26.cell? ⟨b_d,0,none⟩ = some (.int .i64 0):=(a_b a_S.out 0).trans rfl;have h_b : w26.cell? ⟨b_d,1,none⟩ = some (.int .i64 0):=(a_b a_S.out 1).trans rfl;have n_Z : w26.cell? ⟨b_d,2,none⟩ = some (.int .i64 0):=(a_b a_S.out 2).trans rfl;have n_0 : w26.cell? ⟨b_d,3,none⟩ = some (.int .i64 0):=(a_b a_S.out 3).trans rfl;have n_1 : w26.cell? ⟨b_d,4,none⟩ = some (.int .i64 0):=(a_b a_S.out 4).trans rfl;have n_2 : w26.cell? ⟨b_d,5,none⟩ = some (.bool false):=(a_b a_S.out 5).trans rfl;have n_3 : w26.cell? ⟨b_d,6,none⟩ = some (.bool false):=(a_b a_S.out 6).trans rfl;have n_4 : w26.cell? ⟨b_d,7,none⟩ = some (.int .u32 0):=(a_b a_S.out 7).trans rfl;have n_5 : w26.cell? ⟨b_d,8,none⟩ = some (.int .i64 0):=(a_b a_S.out 8).trans rfl;have n_6 : w26.cell? ⟨b_d,9,none⟩ = some (.int .i64 0):=(a_b a_S.out 9).trans rfl;have m_k : w26.cell? ⟨b_d,10,none⟩ = some (.int .i64 0):=(a_b a_S.out 10).trans rfl;have h_j:=a_c a_S.out 0;have h_k:=a_c a_S.out 1;have p_z:=a_c a_S.out 2;have p_A:=a_c a_S.out 3;have p_B:=a_c a_S.out 4;have p_C:=a_c a_S.out 5;have p_D:=a_c a_S.out 6;have p_E:=a_c a_S.out 7;have p_F:=a_c a_S.out 8;have p_G:=a_c a_S.out 9;have m_u:=a_c a_S.out 10)|(go_at_call 20;(with_reducible refine (b_q.calls ((a_a l0_1 x12_1).f7) ((a_a l0_1 x12_1).f4) true _ A22.out).mono ?_);rintro e w' ⟨rfl,⟨nd,rfl⟩⟩)|(go_at_call 20;(with_reducible refine (b_q.calls x3_1 ((a_a l0_1 x12_1).f4) true _ A24.out).mono ?_);rintro e w' ⟨rfl,⟨nd,rfl⟩⟩))
    go_ret
    exact ⟨by first|rfl|(simp [a_u,a_v] <;> rfl)|(simp [*, a_u,a_v] <;> rfl),by repeat (first|(with_reducible first|exact HB.out|apply a_j|apply a_h|apply a_k|refine a_i ?_ d_F.out|refine a_i ?_ f_8.out)|exact HB.out)⟩
   replace c25:=Bool.eq_false_iff.mpr c25
   subst c25
   have H1 : (if 0 ≤ ((a_a l0_1 x12_1).f4) then (a_z.l0 k1 (Go.bits .or .u32 x3_1 (shl .u32 1 ((a_a l0_1 x12_1).f4))) l0_1 (l0_1.length : Int) (wrap64 (x12_1 + 1))) else (none)) = some r:=by rw [if_neg (show ¬ (false = true) by decide)] at H;exact H
   clear H
   have H:=H1
   clear H1
   by_cases c29 : 0 ≤ ((a_a l0_1 x12_1).f4)
   rotate_left
   ·rw [if_neg c29] at H
    exact absurd H (by simp)
   rw [if_pos c29] at H
   have c29b0:=eq_true c29
   have c29b1 : decide (0 ≤ ((a_a l0_1 x12_1).f4)) = true:=decide_eq_true c29
   clear c29
   obtain ⟨ji30,hji30⟩ : ∃ j_ : Int,(shl .u32 1 ((a_a l0_1 x12_1).f4)) = j_:=⟨_,rfl⟩
   replace H : (a_z.l0 k1 (Go.bits .or .u32 x3_1 (ji30)) l0_1 (l0_1.length : Int) (wrap64 (x12_1 + 1))) = some r:=by first|(rw [hji30] at H;exact H)|(simp only [hji30] at H ⊢; exact H)
   (try rw [hji30] at A22)
   (try rw [hji30] at A24)
   have hji30_ : (IntKind.u32.wrap (1 * 2 ^ min ((a_a l0_1 x12_1).f4).toNat 32)) = ji30:=hji30
   have hji30z : ((a_a l0_1 x12_1).f4) ≤ 32 → (IntKind.u32.wrap (1 * 2 ^ ((a_a l0_1 x12_1).f4).toNat)) = ji30:=e_U hji30
   have hji30u : (IntKind.u32.wrap (2 ^ min ((a_a l0_1 x12_1).f4).toNat 32)) = ji30:=by have h_:=hji30_;rw [Int.one_mul] at h_;exact h_
   have hji30v : ((a_a l0_1 x12_1).f4) ≤ 32 → (IntKind.u32.wrap (2 ^ ((a_a l0_1 x12_1).f4).toNat)) = ji30:=fun hle_ => by have h_:=hji30z hle_;rw [Int.one_mul] at h_;exact h_
   have H':=a_f.mk H
   clear H
   have p124 : 0 ≤ (x12_1 : Int):=of_decide_eq_true (by first|(with_reducible assumption)|assumption)
   have q124 : x12_1 < (l0_1.length : Int):=of_decide_eq_true (by first|(with_reducible assumption)|assumption)
   obtain ⟨ad124,e124,c_t,c_u,c_v,c_w,c_x,b_J,b_K,c_y,c_z,c_A,b_2⟩:=c_R c_c.out x12_1 p124 q124
   (try rw [← Nbq15.out] at b_J)
   (try rw [← Nbq17.out] at b_J)
   (try rw [← Nbq15.out] at b_K)
   (try rw [← Nbq17.out] at b_K)
   cases e124
   replace c_t:=(HB.out.cell (World.block_lt_of_cell? w _ c_t)).trans c_t
   replace c_u:=(HB.out.cell (World.block_lt_of_cell? w _ c_u)).trans c_u
   replace c_v:=(HB.out.cell (World.block_lt_of_cell? w _ c_v)).trans c_v
   replace c_w:=(HB.out.cell (World.block_lt_of_cell? w _ c_w)).trans c_w
   replace c_x:=(HB.out.cell (World.block_lt_of_cell? w _ c_x)).trans c_x
   replace b_J:=(HB.out.cell (World.block_lt_of_cell? w _ b_J)).trans b_J
   replace b_K:=(HB.out.cell (World.block_lt_of_cell? w _ b_K)).trans b_K
   replace c_y:=(HB.out.cell (World.block_lt_of_cell? w _ c_y)).trans c_y
   replace c_z:=(HB.out.cell (World.block_lt_of_cell? w _ c_z)).trans c_z
   replace c_A:=(HB.out.cell (World.block_lt_of_cell? w _ c_A)).trans c_A
   replace b_2:=(HB.out.cell (World.block_lt_of_cell? w _ b_2)).trans b_2
   replace p124:=eq_true p124
   replace q124:=eq_true q124
   go_wp2_with (first|((with_reducible refine a_J (N:=5) rfl ?_);refine a_A ?hg (N:=5) ?hd (cs:=#[.int .i64 0,.int .i64 0,.int .i64 0,.int .i64 0,.int .i64 0,.bool false,.bool false,.int .u32 0,.int .i64 0,.int .i64 0,.int .i64 0]) (t:=33) ?hr ?_;(case hd => rfl);(case hg => rfl);(case hr => first|(go_simp;done)|(go_simp;rfl));intro b_d hg w31 hbox hb;have a_S:=a_f.mk (hbox);have k_j:=a_f.mk ((by rw [hg];exact (a_o (by repeat (first|(with_reducible first|exact HB.out|apply a_j|apply a_h|apply a_k|refine a_i ?_ d_F.out)|exact HB.out))) : w.heap.size ≤ b_d));have f_8:=a_f.mk ((by rw [hg];exact (a_o (by repeat (first|(with_reducible first|exact HB.out|apply a_j|apply a_h|apply a_k|refine a_i ?_ d_F.out)|exact HB.out))) : w.heap.size ≤ b_d));have a_8:=a_f.mk ((by rw [hg];exact Nat.ne_of_lt (a_B (bup_ c_D.out)) : d_5 ≠ b_d));have c_6:=a_f.mk ((by rw [hg];exact Nat.ne_of_gt (a_B (bup_ c_D.out)) : b_d ≠ d_5));replace c_D:=a_f.mk (a_l (bup_ c_D.out) hb);replace HB:=a_f.mk (a_q (by repeat (first|(with_reducible first|exact HB.out|apply a_j|apply a_h|apply a_k|refine a_i ?_ d_F.out)|exact HB.out)) hb);clear hb hbox hg;have z_e:=c_6.out;have z_K:=a_8.out;have h_f : w31.cell? ⟨b_d,0,none⟩ = some (.int .i64 0):=(a_b a_S.out 0).trans rfl;have h_g : w31.cell? ⟨b_d,1,none⟩ = some (.int .i64 0):=(a_b a_S.out 1).trans rfl;have o_f : w31.cell? ⟨b_d,2,none⟩ = some (.int .i64 0):=(a_b a_S.out 2).trans rfl;have o_g : w31.cell? ⟨b_d,3,none⟩ = some (.int .i64 0):=(a_b a_S.out 3).trans rfl;have o_h : w31.cell? ⟨b_d,4,none⟩ = some (.int .i64 0):=(a_b a_S.out 4).trans rfl;have o_i : w31.cell? ⟨b_d,5,none⟩ = some (.bool false):=(a_b a_S.out 5).trans rfl;have o_j : w31.cell? ⟨b_d,6,none⟩ = some (.bool false):=(a_b a_S.out 6).trans rfl;have o_k : w31.cell? ⟨b_d,7,none⟩ = some (.int .u32 0):=(a_b a_S.out 7).trans rfl;have o_l : w31.cell? ⟨b_d,8,none⟩ = some (.int .i64 0):=(a_b a_S.out 8).trans rfl;have o_m : w31.cell? ⟨b_d,9,none⟩ = some (.int .i64 0):=(a_b a_S.out 9).trans rfl;have m_m : w31.cell? ⟨b_d,10,none⟩ = some (.int .i64 0):=(a_b a_S.out 10).trans rfl;have h_n:=a_c a_S.out 0;have h_o:=a_c a_S.out 1;have p_P:=a_c a_S.out 2;have p_Q:=a_c a_S.out 3;have p_R:=a_c a_S.out 4;have p_S:=a_c a_S.out 5;have p_T:=a_c a_S.out 6;have p_U:=a_c a_S.out 7;have p_V:=a_c a_S.out 8;have p_W:=a_c a_S.out 9;have m_w:=a_c a_S.out 10)|(go_at_call 20;(with_reducible refine (b_q.calls ((a_a l0_1 x12_1).f7) ((a_a l0_1 x12_1).f4) true _ A22.out).mono ?_);rintro e w' ⟨rfl,⟨nd,rfl⟩⟩)|(go_at_call 20;(with_reducible refine (b_q.calls x3_1 ((a_a l0_1 x12_1).f4) false _ A24.out).mono ?_);rintro e w' ⟨rfl,⟨nd,rfl⟩⟩))
   go_roundg k1
   case measure => have:=HK1.out;omega
   case rel => exact ⟨(Go.bits .or .u32 x3_1 (ji30)),(wrap64 (x12_1 + 1)),(by first|rfl|(simp;done)|(simp only [← hji30] <;> (first|rfl|simp))|(simp [*];done)),(by first|rfl|(simp;done)|(simp [*];done)),H',⟨by have:=HK1.out;omega⟩,⟨by (with_reducible repeat (first|refine a_e ?_ _|refine a_g ?_|refine a_d ?_ _));refine a_p ?_ a_8.out _;(with_reducible repeat (first|refine a_e ?_ _|refine a_g ?_|refine a_d ?_ _));refine a_p ?_ a_8.out _;(with_reducible repeat (first|refine a_e ?_ _|refine a_g ?_|refine a_d ?_ _));refine a_p ?_ a_8.out _;(with_reducible repeat (first|refine a_e ?_ _|refine a_g ?_|refine a_d ?_ _));refine a_p ?_ a_8.out _;(with_reducible repeat (first|refine a_e ?_ _|refine a_g ?_|refine a_d ?_ _));refine a_p ?_ a_8.out _;(with_reducible repeat (first|refine a_e ?_ _|refine a_g ?_|refine a_d ?_ _));refine a_p ?_ a_8.out _;(with_reducible repeat (first|refine a_e ?_ _|refine a_g ?_|refine a_d ?_ _));refine a_p ?_ a_8.out _;(with_reducible repeat (first|refine a_e ?_ _|refine a_g ?_|refine a_d ?_ _));refine a_p ?_ a_8.out _;(with_reducible repeat (first|refine a_e ?_ _|refine a_g ?_|refine a_d ?_ _));refine a_p ?_ a_8.out _;(with_reducible repeat (first|refine a_e ?_ _|refine a_g ?_|refine a_d ?_ _));refine a_p ?_ a_8.out _;(with_reducible repeat (first|refine a_e ?_ _|refine a_g ?_|refine a_d ?_ _));refine a_p ?_ a_8.out _;(with_reducible repeat (first|refine a_e ?_ _|refine a_g ?_|refine a_d ?_ _));exact c_D.out⟩,⟨by repeat (first|(with_reducible first|exact HB.out|apply a_j|apply a_h|apply a_k|refine a_i ?_ d_F.out|refine a_i ?_ f_8.out)|exact HB.out)⟩⟩
end Go.Proofs.YtgglkfilkagblaaDoor.Q
end
section
namespace Go.Proofs.YtgglkfilkagblaaDoor.Q
open Go.RowKit Go.Proofs.YtgglkfilkagblaaDoorW.PrintWords Go.Proofs.YtgglkfilkagblaaDoorW.PrintLast Go.Proofs.YtgglkfilkagblaaDoorW.PrintMore
set_option linter.unusedVariables false
set_option linter.unusedSimpArgs false
attribute [local go_sem high] s_T
def a_F.f (k : Nat)  : Option (Bool):=(a_6.f).bind fun bt166 => ((a_O.f k ([] : List (S24)) 0 bt166.1 bt166.2).bind fun bt170 => ((c_f.f k bt170.1 bt170.2.1 9).bind fun bt176 => ((b_M.f k bt176.1 bt176.2.1 1 3 9).bind fun bt181 => ((b_u.f k bt176.1 bt176.2.1 2).bind fun bt183 => (if bt170.2.2 = 0 then (if bt176.2.2 = 0 then (if bt181.2 = 0 then (if bt183.2 = 0 then (if bt181.1 = 6 then (if (bt183.1.length : Int) = 1 then (if 0 < (bt183.1.length : Int) then (if (((c_1 bt183.1 0).f0) == 0 && (((c_1 bt183.1 0).f1) == 9)) = true then ((a_6.f).bind fun bt188 => ((a_z.f k bt188.1 bt188.2).bind fun t192 => (some t192))) else (some false)) else (none)) else (some false)) else (some false)) else (some false)) else (some false)) else (some false)) else (some false))))))
theorem a_F.mono : ∀ k,LeO (a_F.f k ) (a_F.f (k + 1) ):=by
 intro  k
 unfold a_F.f
 repeat' first
  | (with_reducible exact a_O.mono _ _ _ _ _)
  | (with_reducible exact a_z.mono _ _ _)
  | (with_reducible exact c_f.mono _ _ _ _)
  | (with_reducible exact b_M.mono _ _ _ _ _ _)
  | (with_reducible exact b_u.mono _ _ _ _)
  | (with_reducible exact LeO.refl _)
  | (with_reducible exact LeO.none _)
  | (with_reducible refine LeO.ite ?_ ?_)
  | (with_reducible refine LeO.bind ?_ (fun _ => ?_))
  | exact a_O.mono _ _ _ _ _
  | exact a_z.mono _ _ _
  | exact c_f.mono _ _ _ _
  | exact b_M.mono _ _ _ _ _ _
  | exact b_u.mono _ _ _ _
  | exact LeO.none _
  | refine LeO.ite ?_ ?_
  | refine LeO.bind ?_ (fun _ => ?_)
set_option maxHeartbeats 8000000 in
set_option maxRecDepth 100000 in
theorem a_F.calls (k : Nat)  (r : Bool) (w : World) (h : a_F.f k  = some r) :
 Calls Tryd.prog 5 #[] w fun e w' => e = .returned (.bool r) ∧ Below w.heap.size w w':=by
 have hr : r = true:=Option.some.inj ((g_k (g:=fun k => a_F.f k) a_F.mono (Nat.le_max_left k 200) h).symm.trans (g_k (g:=fun k => a_F.f k) a_F.mono (Nat.le_max_right k 200) (show a_F.f 200 = some true by kernel_rfl)))
 have hu37:=Tryd.underlying37
 have hu49:=Tryd.underlying49
 have HB:=a_f.mk (Below.refl w.heap.size w)
 have H : ((a_6.f).bind fun bt166 => ((a_O.f k ([] : List (S24)) 0 bt166.1 bt166.2).bind fun bt170 => ((c_f.f k bt170.1 bt170.2.1 9).bind fun bt176 => ((b_M.f k bt176.1 bt176.2.1 1 3 9).bind fun bt181 => ((b_u.f k bt176.1 bt176.2.1 2).bind fun bt183 => (if bt170.2.2 = 0 then (if bt176.2.2 = 0 then (if bt181.2 = 0 then (if bt183.2 = 0 then (if bt181.1 = 6 then (if (bt183.1.length : Int) = 1 then (if 0 < (bt183.1.length : Int) then (if (((c_1 bt183.1 0).f0) == 0 && (((c_1 bt183.1 0).f1) == 9)) = true then ((a_6.f).bind fun bt188 => ((a_z.f k bt188.1 bt188.2).bind fun t192 => (some t192))) else (some false)) else (none)) else (some false)) else (some false)) else (some false)) else (some false)) else (some false)) else (some false))))))) = some r:=h
 clear h
 replace H:=Option.bind_eq_some_iff.mp H
 obtain ⟨⟨t166,t167⟩,A10,H⟩:=H
 replace H : ((a_O.f k ([] : List (S24)) 0 t166 t167).bind fun bt170 => ((c_f.f k bt170.1 bt170.2.1 9).bind fun bt176 => ((b_M.f k bt176.1 bt176.2.1 1 3 9).bind fun bt181 => ((b_u.f k bt176.1 bt176.2.1 2).bind fun bt183 => (if bt170.2.2 = 0 then (if bt176.2.2 = 0 then (if bt181.2 = 0 then (if bt183.2 = 0 then (if bt181.1 = 6 then (if (bt183.1.length : Int) = 1 then (if 0 < (bt183.1.length : Int) then (if (((c_1 bt183.1 0).f0) == 0 && (((c_1 bt183.1 0).f1) == 9)) = true then ((a_6.f).bind fun bt188 => ((a_z.f k bt188.1 bt188.2).bind fun t192 => (some t192))) else (some false)) else (none)) else (some false)) else (some false)) else (some false)) else (some false)) else (some false)) else (some false)))))) = some r:=H
 have A1:=a_f.mk A10
 clear A10
 replace H:=Option.bind_eq_some_iff.mp H
 obtain ⟨⟨t170,t173,t174⟩,A20,H⟩:=H
 replace H : ((c_f.f k t170 t173 9).bind fun bt176 => ((b_M.f k bt176.1 bt176.2.1 1 3 9).bind fun bt181 => ((b_u.f k bt176.1 bt176.2.1 2).bind fun bt183 => (if t174 = 0 then (if bt176.2.2 = 0 then (if bt181.2 = 0 then (if bt183.2 = 0 then (if bt181.1 = 6 then (if (bt183.1.length : Int) = 1 then (if 0 < (bt183.1.length : Int) then (if (((c_1 bt183.1 0).f0) == 0 && (((c_1 bt183.1 0).f1) == 9)) = true then ((a_6.f).bind fun bt188 => ((a_z.f k bt188.1 bt188.2).bind fun t192 => (some t192))) else (some false)) else (none)) else (some false)) else (some false)) else (some false)) else (some false)) else (some false)) else (some false))))) = some r:=H
 have A2:=a_f.mk A20
 clear A20
 replace H:=Option.bind_eq_some_iff.mp H
 obtain ⟨⟨t176,t179,t180⟩,A30,H⟩:=H
 replace H : ((b_M.f k t176 t179 1 3 9).bind fun bt181 => ((b_u.f k t176 t179 2).bind fun bt183 => (if t174 = 0 then (if t180 = 0 then (if bt181.2 = 0 then (if bt183.2 = 0 then (if bt181.1 = 6 then (if (bt183.1.length : Int) = 1 then (if 0 < (bt183.1.length : Int) then (if (((c_1 bt183.1 0).f0) == 0 && (((c_1 bt183.1 0).f1) == 9)) = true then ((a_6.f).bind fun bt188 => ((a_z.f k bt188.1 bt188.2).bind fun t192 => (some t192))) else (some false)) else (none)) else (some false)) else (some false)) else (some false)) else (some false)) else (some false)) else (some false)))) = some r:=H
 have A3:=a_f.mk A30
 clear A30
 replace H:=Option.bind_eq_some_iff.mp H
 obtain ⟨⟨t181,t182⟩,A40,H⟩:=H
 replace H : ((b_u.f k t176 t179 2).bind fun bt183 => (if t174 = 0 then (if t180 = 0 then (if t182 = 0 then (if bt183.2 = 0 then (if t181 = 6 then (if (bt183.1.length : Int) = 1 then (if 0 < (bt183.1.length : Int) then (if (((c_1 bt183.1 0).f0) == 0 && (((c_1 bt183.1 0).f1) == 9)) = true then ((a_6.f).bind fun bt188 => ((a_z.f k bt188.1 bt188.2).bind fun t192 => (some t192))) else (some false)) else (none)) else (some false)) else (some false)) else (some false)) else (some false)) else (some false)) else (some false))) = some r:=H
 have A4:=a_f.mk A40
 clear A40
 replace H:=Option.bind_eq_some_iff.mp H
 obtain ⟨⟨t183,t186⟩,A50,H⟩:=H
 replace H : (if t174 = 0 then (if t180 = 0 then (if t182 = 0 then (if t186 = 0 then (if t181 = 6 then (if (t183.length : Int) = 1 then (if 0 < (t183.length : Int) then (if (((c_1 t183 0).f0) == 0 && (((c_1 t183 0).f1) == 9)) = true then ((a_6.f).bind fun bt188 => ((a_z.f k bt188.1 bt188.2).bind fun t192 => (some t192))) else (some false)) else (none)) else (some false)) else (some false)) else (some false)) else (some false)) else (some false)) else (some false)) = some r:=H
 have A5:=a_f.mk A50
 clear A50
 by_cases c6 : t174 = 0
 rotate_left
 ·rw [if_neg c6] at H
  exact absurd ((Option.some.inj H).trans hr) (by decide)
 rw [if_pos c6] at H
 have c6b0 : (t174 == 0) = true:=beq_iff_eq.mpr c6
 have c6b1 : (t174 != 0) = false:=bne_eq_false_iff_eq.mpr c6
 clear c6
 by_cases c7 : t180 = 0
 rotate_left
 ·rw [if_neg c7] at H
  exact absurd ((Option.some.inj H).trans hr) (by decide)
 rw [if_pos c7] at H
 have c7b0 : (t180 == 0) = true:=beq_iff_eq.mpr c7
 have c7b1 : (t180 != 0) = false:=bne_eq_false_iff_eq.mpr c7
 clear c7
 by_cases c8 : t182 = 0
 rotate_left
 ·rw [if_neg c8] at H
  exact absurd ((Option.some.inj H).trans hr) (by decide)
 rw [if_pos c8] at H
 have c8b0 : (t182 == 0) = true:=beq_iff_eq.mpr c8
 have c8b1 : (t182 != 0) = false:=bne_eq_false_iff_eq.mpr c8
 clear c8
 by_cases c9 : t186 = 0
 rotate_left
 ·rw [if_neg c9] at H
  exact absurd ((Option.some.inj H).trans hr) (by decide)
 rw [if_pos c9] at H
 have c9b0 : (t186 == 0) = true:=beq_iff_eq.mpr c9
 have c9b1 : (t186 != 0) = false:=bne_eq_false_iff_eq.mpr c9
 clear c9
 by_cases c10 : t181 = 6
 rotate_left
 ·rw [if_neg c10] at H
  exact absurd ((Option.some.inj H).trans hr) (by decide)
 rw [if_pos c10] at H
 have c10b0 : (t181 == 6) = true:=beq_iff_eq.mpr c10
 have c10b1 : (t181 != 6) = false:=bne_eq_false_iff_eq.mpr c10
 clear c10
 by_cases c11 : (t183.length : Int) = 1
 rotate_left
 ·rw [if_neg c11] at H
  exact absurd ((Option.some.inj H).trans hr) (by decide)
 rw [if_pos c11] at H
 have c11b0 : ((t183.length : Int) == 1) = true:=beq_iff_eq.mpr c11
 have c11b1 : ((t183.length : Int) != 1) = false:=bne_eq_false_iff_eq.mpr c11
 clear c11
 by_cases c12 : 0 < (t183.length : Int)
 rotate_left
 ·rw [if_neg c12] at H
  exact absurd H (by simp)
 rw [if_pos c12] at H
 have c12b0 : decide (0 < (t183.length : Int)) = true:=decide_eq_true c12
 have c12b1 : decide (0 < t183.length) = true:=decide_eq_true (by omega)
 clear c12
 by_cases c13 : (((c_1 t183 0).f0) == 0 && (((c_1 t183 0).f1) == 9)) = true
 rotate_left
 ·rw [if_neg c13] at H
  exact absurd ((Option.some.inj H).trans hr) (by decide)
 rw [if_pos c13] at H
 have c13b0 : (((c_1 t183 0).f0) == 0 && (((c_1 t183 0).f1) == 9)) = true:=c13
 (try (have c13b1 : decide (((c_1 t183 0).f0) = 0 && (((c_1 t183 0).f1) == 9)) = true:=by simpa using c13))
 (try (have c13b2 : (((c_1 t183 0).f0) == 0 && (((c_1 t183 0).f1) == 9)) = true:=by simpa using c13))
 clear c13
 replace H:=Option.bind_eq_some_iff.mp H
 obtain ⟨⟨t188,t189⟩,A140,H⟩:=H
 replace H : ((a_z.f k t188 t189).bind fun t192 => (some t192)) = some r:=H
 have A14:=a_f.mk A140
 clear A140
 replace H:=Option.bind_eq_some_iff.mp H
 obtain ⟨t192,A150,H⟩:=H
 replace H : (some t192) = some r:=H
 have A15:=a_f.mk A150
 clear A150
 obtain rfl:=Option.some.inj H
 go_enter Tryd.func5,Tryd.ntmps5
 go_wp2_with (first|((with_reducible refine a_M (f:=15) rfl ?_);refine b_D (some 10) rfl rfl Tryd.func15 (by kernel_rfl) rfl #[] rfl (by (try simp only [List.map_toArray,List.map_cons,List.map_nil]);first|done|rfl|(simp only [List.length_drop,List.length_take];rfl)) ?_;(with_reducible refine (a_6.calls  t166 t167 _ A1.out).mono ?_);rintro e w16 ⟨v168,rfl,ho0,hb⟩;refine ⟨_,rfl,?_⟩;have e_x:=a_f.mk (Kd.e_q ho0 (a_o (lup_ HB.out)));replace HB:=a_f.mk (a_q (lup_ HB.out) hb);(try clear hb);(try clear hb2);(try clear hk);(try clear hi);(try clear ho0);obtain ⟨Ao17,co17,eo17⟩:=Kd.d_U e_x.out;subst eo17)|((with_reducible refine a_M (f:=14) rfl ?_);refine b_D (some 11) rfl rfl Tryd.func14 (by kernel_rfl) rfl #[.agg #[.slice none 0 0,.int .i64 0],.agg #[.int .i64 t166,.slice Ao17 t167.length co17]] rfl (by (try simp only [List.map_toArray,List.map_cons,List.map_nil]);first|done|rfl|(simp only [List.length_drop,List.length_take];rfl)) ?_;(refine (a_O.calls k (fun k_ => False) _ _ ([] : List (S24)) 0 t166 (fun k_ => some k_ = (.slice Ao17 t167.length co17 : Value).ownBlock) _ _ t167 t170 t173 t174 _ ?side1 ?side2 A2.out).mono ?_);(case side1 => exact Kd.g_F _ _ _ _ _);(case side2 => exact Kd.R_V (Kd.k_s rfl (e_x.out)));rintro e w18 ⟨v171,rfl,ho0,hb⟩;refine ⟨_,rfl,?_⟩;have e_Y:=a_f.mk (Kd.h_X (Kd.e_I (ok':=fun k_ => True) ho0 (fun k_ hk_ => trivial)) (a_o (lup_ HB.out)));replace e_x:=a_f.mk (Kd.c_i (rup_ e_x.out) hb);replace HB:=a_f.mk (a_q (lup_ HB.out) hb);(try clear hb);(try clear hb2);(try clear hk);(try clear hi);(try clear ho0))|((with_reducible refine a_J (N:=1) rfl ?_);(try (refine d_W (by rfl) ?_;dsimp only));refine a_A ?hg (N:=1) ?hd (cs:=#[.slice none 0 0,.int .i64 0]) (t:=37) ?hr ?_;(case hd => rfl);(case hg => rfl);(case hr => first|(go_simp;done)|(go_simp;rfl));intro c_4 hg w19 hbox hb;have d_e:=a_f.mk (hbox);have y_3:=a_f.mk ((by rw [hg];exact (a_o (lup_ HB.out)) : w.heap.size ≤ c_4));have g_E:=a_f.mk ((by rw [hg];exact (a_o (lup_ HB.out)) : w.heap.size ≤ c_4));replace e_x:=a_f.mk (Kd.c_i (rup_ e_x.out) hb);replace e_Y:=a_f.mk (Kd.e_O (Kd.m_b (by (with_reducible repeat (first|apply Kd.d_g|apply Kd.d_h|apply Kd.d_K));exact e_Y.out) c_4 (Nat.le_of_eq hg.symm)) hb);replace HB:=a_f.mk (a_q (lup_ HB.out) hb);clear hb hbox hg;obtain ⟨Ao20,co20,eo20⟩:=Kd.g_i e_Y.out;subst eo20;have k_5 : w19.cell? ⟨c_4,0,none⟩ = some (.slice none 0 0):=(a_b d_e.out 0).trans rfl;have k_6 : w19.cell? ⟨c_4,1,none⟩ = some (.int .i64 0):=(a_b d_e.out 1).trans rfl;have l_F:=a_c d_e.out 0;have l_G:=a_c d_e.out 1)|((with_reducible refine k_b (t:=37) (p:=1) rfl ?_);refine j_A (t:=37) (p:=1) (v:=?vo_w22) (w1:=((w19.setCell ⟨c_4,0,none⟩ (.slice Ao20 t170.length co20)).setCell ⟨c_4,1,none⟩ (.int .i64 t173))) ?hg ?ho ?hn ?hr ?_;(case ho => rfl);(case hg => rfl);(case hn => rfl);(case hr => first|(go_simp;done)|(go_simp;rfl));intro w22 hw;replace e_x : a_f (Kd.R k33 33 w22 w.heap.size (fun _ => True) (.slice Ao17 t167.length co17) t167):=⟨(by rw [hw];exact (by (with_reducible repeat (first|apply Kd.e_h|apply Kd.e_i|apply Kd.e_J));exact Kd.d_Q (Kd.d_T (p:=⟨c_4,1,none⟩) (Kd.d_T (p:=⟨c_4,0,none⟩) (Kd.h_0 e_x.out d_e.out (by decide)) (fun _ hk => hk.2) (.slice Ao20 t170.length co20)) (fun _ hk => hk.2) (.int .i64 t173)) (fun _ hk => trivial)))⟩;replace e_Y : a_f (Kd.N k24 24 w22 w.heap.size (fun k_ => k_ ≠ c_4) (.slice Ao20 t170.length co20) t170):=⟨(by rw [hw];exact (by (with_reducible repeat (first|apply Kd.d_g|apply Kd.d_h|apply Kd.d_K));exact Kd.e_I (Kd.h_B (p:=⟨c_4,1,none⟩) (Kd.h_B (p:=⟨c_4,0,none⟩) (Kd.e_I e_Y.out (fun k_ hk => (⟨hk,hk.2⟩ : _ ∧ k_ ≠ c_4))) (fun _ hk => hk.2) (.slice Ao20 t170.length co20)) (fun _ hk => hk.2) (.int .i64 t173)) (fun _ hk => hk.1.2)))⟩;replace d_e : a_f (w22.heap[c_4]? = some (.cells #[.slice Ao20 t170.length co20,.int .i64 t173] 37 (0,0))):=⟨(by rw [hw];exact (by (with_reducible repeat (first|refine a_e ?_ _|refine a_g ?_|refine a_d ?_ _));refine a_n (cs:=#[.slice Ao20 t170.length co20,.int .i64 0]) ?_ 1 _ rfl;(with_reducible repeat (first|refine a_e ?_ _|refine a_g ?_|refine a_d ?_ _));refine a_n (cs:=#[.slice none 0 0,.int .i64 0]) ?_ 0 _ rfl;(with_reducible repeat (first|refine a_e ?_ _|refine a_g ?_|refine a_d ?_ _));exact d_e.out))⟩;replace HB : a_f (Below w.heap.size w w22):=⟨(by rw [hw];exact (by repeat (first|(with_reducible first|exact HB.out|apply a_j|apply a_h|apply a_k|refine a_i ?_ g_E.out)|exact HB.out)))⟩;clear hw;have i_p : w22.cell? ⟨c_4,0,none⟩ = some (.slice Ao20 t170.length co20):=(a_b d_e.out 0).trans rfl;have i_q : w22.cell? ⟨c_4,1,none⟩ = some (.int .i64 t173):=(a_b d_e.out 1).trans rfl;have i_O:=a_c d_e.out 0;have i_P:=a_c d_e.out 1)|((with_reducible refine a_M (f:=16) rfl ?_);refine b_D (some 16) rfl rfl Tryd.func16 (by kernel_rfl) rfl #[.agg #[.slice Ao20 t170.length co20,.int .i64 t173],.int .i64 9] rfl (by (try simp only [List.map_toArray,List.map_cons,List.map_nil]);first|done|rfl|(simp only [List.length_drop,List.length_take];rfl)) ?_;(with_reducible refine (c_f.calls k (fun k_ => k_ ≠ c_4) _ _ t170 t173 9 t176 t179 t180 _ ?side1 A3.out).mono ?_);(case side1 => exact Kd.N_V (e_Y.out));rintro e w24 ⟨v177,rfl,ho0,hb⟩;refine ⟨_,rfl,?_⟩;have f_M:=a_f.mk (Kd.n_B (Kd.c_X (ok':=fun k_ => k_ ≠ c_4) ho0 (fun k_ hk_ => Or.elim hk_ (fun hs_ => hs_) (fun hn_ => (Kd.e_Z (g:=c_4) (o:=.cells #[.slice Ao20 t170.length co20,.int .i64 t173] 37 (0,0)) (bup_ d_e.out) k_ hn_)))) (a_o (by repeat (first|(with_reducible first|exact HB.out|apply a_j|apply a_h|apply a_k|refine a_i ?_ g_E.out)|exact HB.out))));replace e_x:=a_f.mk (Kd.c_i (rup_ e_x.out) hb);replace e_Y:=a_f.mk (Kd.e_O (by (with_reducible repeat (first|apply Kd.d_g|apply Kd.d_h|apply Kd.d_K));exact e_Y.out) hb);replace d_e:=a_f.mk (a_l (bup_ d_e.out) hb);replace HB:=a_f.mk (a_q (by repeat (first|(with_reducible first|exact HB.out|apply a_j|apply a_h|apply a_k|refine a_i ?_ g_E.out)|exact HB.out)) hb);(try clear hb);(try clear hb2);(try clear hk);(try clear hi);(try clear ho0);obtain ⟨Ao25,co25,eo25⟩:=Kd.n_C f_M.out;subst eo25;have i_B : w24.cell? ⟨c_4,0,none⟩ = some (.slice Ao20 t170.length co20):=(a_b d_e.out 0).trans rfl;have i_C : w24.cell? ⟨c_4,1,none⟩ = some (.int .i64 t173):=(a_b d_e.out 1).trans rfl;have i_0:=a_c d_e.out 0;have i_1:=a_c d_e.out 1)|((with_reducible refine a_M (f:=17) rfl ?_);refine b_D (some 21) rfl rfl Tryd.func17 (by kernel_rfl) rfl #[.agg #[.slice Ao25 t176.length co25,.int .i64 t179],.int .i64 1,.int .i64 3,.int .i64 9] rfl (by (try simp only [List.map_toArray,List.map_cons,List.map_nil]);first|done|rfl|(simp only [List.length_drop,List.length_take];rfl)) ?_;(with_reducible refine (b_M.calls k _ _ t176 t179 1 3 9 t181 t182 _ ?side1 ?side2 A4.out).mono ?_);(case side1 => refine (Kd.b_w (e:=24) (base:=w.heap.size) (ok:=fun k_ => k_ ≠ c_4) (n:=t176.length) (c:=co25) ?_).2.2;exact (by (with_reducible repeat (first|apply Kd.a_T|apply Kd.a_U|apply Kd.a_1));exact (Kd.c_X (Kd.i_a (p:=⟨c_4,1,none⟩) (Kd.i_a (p:=⟨c_4,0,none⟩) (Kd.c_X f_M.out (fun k_ hk => (⟨hk,hk⟩ : _ ∧ k_ ≠ c_4))) (fun _ hk => hk.2) (.slice Ao25 t176.length co25)) (fun _ hk => hk.2) (.int .i64 t179)) (fun _ h_ => h_.1))));(case side2 => exact (Kd.b_w f_M.out).2.1);rintro e w27 ⟨rfl,hb⟩;refine ⟨_,rfl,?_⟩;replace e_x:=a_f.mk (Kd.c_i (by (with_reducible repeat (first|apply Kd.e_h|apply Kd.e_i|apply Kd.e_J));exact (Kd.d_Q (Kd.d_T (p:=⟨c_4,1,none⟩) (Kd.d_T (p:=⟨c_4,0,none⟩) (Kd.h_0 e_x.out d_e.out (by decide)) (fun _ hk => hk.2) (.slice Ao25 t176.length co25)) (fun _ hk => hk.2) (.int .i64 t179)) (fun _ h_ => h_.1))) hb);replace e_Y:=a_f.mk (Kd.e_O (by (with_reducible repeat (first|apply Kd.d_g|apply Kd.d_h|apply Kd.d_K));exact (Kd.e_I (Kd.h_B (p:=⟨c_4,1,none⟩) (Kd.h_B (p:=⟨c_4,0,none⟩) (Kd.e_I e_Y.out (fun k_ hk => (⟨hk,hk⟩ : _ ∧ k_ ≠ c_4))) (fun _ hk => hk.2) (.slice Ao25 t176.length co25)) (fun _ hk => hk.2) (.int .i64 t179)) (fun _ h_ => h_.1))) hb);replace f_M:=a_f.mk (Kd.a_4 (by (with_reducible repeat (first|apply Kd.a_T|apply Kd.a_U|apply Kd.a_1));exact (Kd.c_X (Kd.i_a (p:=⟨c_4,1,none⟩) (Kd.i_a (p:=⟨c_4,0,none⟩) (Kd.c_X f_M.out (fun k_ hk => (⟨hk,hk⟩ : _ ∧ k_ ≠ c_4))) (fun _ hk => hk.2) (.slice Ao25 t176.length co25)) (fun _ hk => hk.2) (.int .i64 t179)) (fun _ h_ => h_.1))) hb);replace d_e:=a_f.mk (a_l (g:=c_4) (o:=.cells #[.slice Ao25 t176.length co25,.int .i64 t179] 37 (0,0)) (by (with_reducible repeat (first|refine a_e ?_ _|refine a_g ?_|refine a_d ?_ _));refine a_n (cs:=#[.slice Ao25 t176.length co25,.int .i64 t173]) ?_ 1 _ rfl;(with_reducible repeat (first|refine a_e ?_ _|refine a_g ?_|refine a_d ?_ _));refine a_n (cs:=#[.slice Ao20 t170.length co20,.int .i64 t173]) ?_ 0 _ rfl;(with_reducible repeat (first|refine a_e ?_ _|refine a_g ?_|refine a_d ?_ _));exact d_e.out) hb);replace HB:=a_f.mk (a_q (by repeat (first|(with_reducible first|exact HB.out|apply a_j|apply a_h|apply a_k|refine a_i ?_ g_E.out)|exact HB.out)) hb);(try clear hb);(try clear hb2);(try clear hk);(try clear hi);have h_a : w27.cell? ⟨c_4,0,none⟩ = some (.slice Ao25 t176.length co25):=(a_b d_e.out 0).trans rfl;have h_b : w27.cell? ⟨c_4,1,none⟩ = some (.int .i64 t179):=(a_b d_e.out 1).trans rfl;have h_j:=a_c d_e.out 0;have h_k:=a_c d_e.out 1)|((with_reducible refine a_M (f:=18) rfl ?_);refine b_D (some 26) rfl rfl Tryd.func18 (by kernel_rfl) rfl #[.agg #[.slice Ao25 t176.length co25,.int .i64 t179],.int .i64 2] rfl (by (try simp only [List.map_toArray,List.map_cons,List.map_nil]);first|done|rfl|(simp only [List.length_drop,List.length_take];rfl)) ?_;(with_reducible refine (b_u.calls k _ _ t176 t179 2 t183 t186 _ ?side1 ?side2 A5.out).mono ?_);(case side1 => repeat (first|exact (Kd.b_w f_M.out).2.2|(with_reducible refine Kd.b_b ?_ _)|(with_reducible refine Kd.b_c ?_ _)|(with_reducible refine Kd.b_z ?_)));(case side2 => exact (Kd.b_w f_M.out).2.1);rintro e w29 ⟨v184,rfl,ho0,hb⟩;refine ⟨_,rfl,?_⟩;have j_3:=a_f.mk (Kd.e_q ho0 (a_o (by repeat (first|(with_reducible first|exact HB.out|apply a_j|apply a_h|apply a_k|refine a_i ?_ g_E.out)|exact HB.out))));replace e_x:=a_f.mk (Kd.c_i (rup_ e_x.out) hb);replace e_Y:=a_f.mk (Kd.j_D (by (with_reducible repeat (first|apply Kd.d_g|apply Kd.d_h|apply Kd.d_K));exact e_Y.out) (Kd.g_N ho0) hb);replace f_M:=a_f.mk (Kd.f_u (by (with_reducible repeat (first|apply Kd.a_T|apply Kd.a_U|apply Kd.a_1));exact f_M.out) (Kd.g_N ho0) hb);replace d_e:=a_f.mk (a_l (bup_ d_e.out) hb);replace HB:=a_f.mk (a_q (by repeat (first|(with_reducible first|exact HB.out|apply a_j|apply a_h|apply a_k|refine a_i ?_ g_E.out)|exact HB.out)) hb);(try clear hb);(try clear hb2);(try clear hk);(try clear hi);(try clear ho0);obtain ⟨Ao30,co30,eo30⟩:=Kd.d_U j_3.out;subst eo30;have p187 : 0 ≤ (0 : Int):=(by omega);have q187 : 0 < (t183.length : Int):=of_decide_eq_true (by first|(with_reducible assumption)|assumption);obtain ⟨ad187,e187,j_r,j_s⟩:=r_o (Kd.b_o j_3.out).2.2 0 p187 q187;cases e187;have qi187 : (0 < t183.length) = True:=eq_true (by omega);(try rw [show ((0 : Int)).toNat = 0 from rfl] at j_r);(try rw [show 0 * 2 = 0 from rfl] at j_r);(try rw [Addr.add_zero'] at j_r);(try rw [show ((0 : Int)).toNat = 0 from rfl] at j_s);(try rw [show 0 * 2 = 0 from rfl] at j_s);(try rw [Addr.add_zero'] at j_s);replace p187:=eq_true p187;replace q187:=eq_true q187)|(go_at_call 15;(with_reducible refine (a_6.calls  t188 t189 _ A14.out).mono ?_);rintro e w31 ⟨v190,rfl,ho0,hb⟩;have k_k:=a_f.mk (Kd.e_q (Kd.r_k ho0 (Kd.R_lt (rup_ e_x.out))) (a_o (by repeat (first|(with_reducible first|exact HB.out|apply a_j|apply a_h|apply a_k|refine a_i ?_ g_E.out)|exact HB.out))));replace e_x:=a_f.mk (Kd.m_c (rup_ e_x.out) (Kd.g_N ho0) hb);replace e_Y:=a_f.mk (Kd.j_D (by (with_reducible repeat (first|apply Kd.d_g|apply Kd.d_h|apply Kd.d_K));exact e_Y.out) (Kd.g_N ho0) hb);replace f_M:=a_f.mk (Kd.f_u (by (with_reducible repeat (first|apply Kd.a_T|apply Kd.a_U|apply Kd.a_1));exact f_M.out) (Kd.g_N ho0) hb);replace j_3:=a_f.mk (Kd.c_i (rup_ j_3.out) hb);replace d_e:=a_f.mk (a_l (bup_ d_e.out) hb);replace HB:=a_f.mk (a_q (by repeat (first|(with_reducible first|exact HB.out|apply a_j|apply a_h|apply a_k|refine a_i ?_ g_E.out)|exact HB.out)) hb);(try clear hb);(try clear hb2);(try clear hk);(try clear hi);(try clear ho0);obtain ⟨Ao32,co32,eo32⟩:=Kd.d_U k_k.out;subst eo32)|(go_at_call 6;(with_reducible refine (a_z.calls k t188 _ _ t189 t192 _ ?side1 ?side2 A15.out).mono ?_);(case side1 => repeat (first|exact (Kd.b_o k_k.out).2.2|(with_reducible refine Kd.b_b ?_ _)|(with_reducible refine Kd.b_c ?_ _)|(with_reducible refine Kd.b_z ?_)));(case side2 => exact (Kd.b_o k_k.out).2.1);rintro e w33 ⟨rfl,hb⟩;replace e_x:=a_f.mk (Kd.c_i (rup_ e_x.out) hb);replace e_Y:=a_f.mk (Kd.e_O (by (with_reducible repeat (first|apply Kd.d_g|apply Kd.d_h|apply Kd.d_K));exact e_Y.out) hb);replace f_M:=a_f.mk (Kd.a_4 (by (with_reducible repeat (first|apply Kd.a_T|apply Kd.a_U|apply Kd.a_1));exact f_M.out) hb);replace j_3:=a_f.mk (Kd.c_i (rup_ j_3.out) hb);replace k_k:=a_f.mk (Kd.c_i (rup_ k_k.out) hb);replace d_e:=a_f.mk (a_l (bup_ d_e.out) hb);replace HB:=a_f.mk (a_q (by repeat (first|(with_reducible first|exact HB.out|apply a_j|apply a_h|apply a_k|refine a_i ?_ g_E.out)|exact HB.out)) hb);(try clear hb);(try clear hb2);(try clear hk);(try clear hi)))
 go_ret
 exact ⟨by first|rfl|(simp [a_u,a_v] <;> rfl)|(simp [*, a_u,a_v] <;> rfl),by repeat (first|(with_reducible first|exact HB.out|apply a_j|apply a_h|apply a_k|refine a_i ?_ g_E.out)|exact HB.out)⟩
end Go.Proofs.YtgglkfilkagblaaDoor.Q
end
