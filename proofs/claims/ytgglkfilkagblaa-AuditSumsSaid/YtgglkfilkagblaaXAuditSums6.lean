/- Part 7 of 9 of what the row of AuditSums stands on: contracts over the given program's functions, the plain law, the row; no condition beyond those that each theorem states. -/
import Derived.Test.YtgglkfilkagblaaXAuditSums5
section
namespace Go.Proofs.Ytgglkfilkagblaa.Q
open Go.RowKit Go.Proofs.YtgglkfilkagblaaW.PrintWords Go.Proofs.YtgglkfilkagblaaW.PrintLast Go.Proofs.YtgglkfilkagblaaW.PrintMore
set_option linter.unusedVariables false
set_option linter.unusedSimpArgs false
def a_P.l0 : Nat → Int → List (S65) → Int → Int → Option (Bool)
 | 0,_,_,_,_ => none
 | k + 1,x3,x10,x11,x12 => if x12 < x11 then (if 0 ≤ x12 then (if x12 < (x10.length : Int) then (if ((a_d x10 x12).f4) = (-1) then (a_P.l0 k x3 x10 x11 (wrap64 (x12 + 1))) else (if ((a_d x10 x12).f5 = true) then (if (a_d x10 x12).f6 = true then (some false) else ((b_J.f ((a_d x10 x12).f7) ((a_d x10 x12).f4)).bind fun t164 => (if t164 = true then ((b_J.f x3 ((a_d x10 x12).f4)).bind fun t165 => (if t165 = true then (some false) else (if 0 ≤ ((a_d x10 x12).f4) then (a_P.l0 k (Go.bits .or .u32 x3 (shl .u32 1 ((a_d x10 x12).f4))) x10 x11 (wrap64 (x12 + 1))) else (none)))) else (some false)))) else (some false))) else (none)) else (none)) else (some true)
def a_P.f (k : Nat) (a0_0 : Int) (l0_1 : List (S65)) : Option (Bool):=(a_y.f k a0_0 l0_1).bind fun t161 => (if t161 = true then (a_P.l0 k 0 l0_1 (l0_1.length : Int) 0) else (some false))
theorem a_P.c_8 : ∀ k,(∀ y0 y1 y2 y3,LeO (a_P.l0 k y0 y1 y2 y3) (a_P.l0 (k + 1) y0 y1 y2 y3))
 | 0 => fun _ _ _ _ r h => by simp [a_P.l0] at h
 | k + 1 => by
  have ih0:=a_P.c_8 k
  ·intro y0 y1 y2 y3
   unfold a_P.l0
   repeat' first
   | (with_reducible exact ih0 _ _ _ _)
   | (with_reducible exact a_y.mono _ _ _)
   | (with_reducible exact LeO.refl _)
   | (with_reducible exact LeO.none _)
   | (with_reducible refine LeO.ite ?_ ?_)
   | (with_reducible refine LeO.bind ?_ (fun _ => ?_))
   | exact ih0 _ _ _ _
   | exact a_y.mono _ _ _
   | exact LeO.none _
   | refine LeO.ite ?_ ?_
   | refine LeO.bind ?_ (fun _ => ?_)
theorem a_P.mono : ∀ a0 a1 k,LeO (a_P.f k a0 a1) (a_P.f (k + 1) a0 a1):=by
 intro a0 a1 k
 have ih0:=a_P.c_8 k
 unfold a_P.f
 repeat' first
  | (with_reducible exact ih0 _ _ _ _)
  | (with_reducible exact a_y.mono _ _ _)
  | (with_reducible exact LeO.refl _)
  | (with_reducible exact LeO.none _)
  | (with_reducible refine LeO.ite ?_ ?_)
  | (with_reducible refine LeO.bind ?_ (fun _ => ?_))
  | exact ih0 _ _ _ _
  | exact a_y.mono _ _ _
  | exact LeO.none _
  | refine LeO.ite ?_ ?_
  | refine LeO.bind ?_ (fun _ => ?_)
set_option maxHeartbeats 8000000 in
set_option maxRecDepth 100000 in
theorem a_P.calls (k : Nat) (a0_0 : Int) (A0_1 : Option Addr) (c0_1 : Nat) (l0_1 : List (S65)) (r : Bool) (w : World) (hr0_1 : Kd.C k65 w A0_1 l0_1.length l0_1) (hc0_1 : l0_1.length ≤ c0_1) (h : a_P.f k a0_0 l0_1 = some r) :
 Calls Try.prog 23 #[.agg #[.int .i64 a0_0,.slice A0_1 l0_1.length c0_1]] w fun e w' => e = .returned (.bool r) ∧ Below w.heap.size w w':=by
 have hu27:=Try.underlying27
 have hu65:=Try.underlying65
 have d_h:=a_c.mk hr0_1
 have e_e:=a_c.mk hc0_1
 clear hr0_1 hc0_1
 have HB:=a_c.mk (Below.refl w.heap.size w)
 have H : ((a_y.f k a0_0 l0_1).bind fun t161 => (if t161 = true then (a_P.l0 k 0 l0_1 (l0_1.length : Int) 0) else (some false))) = some r:=h
 clear h
 replace H:=Option.bind_eq_some_iff.mp H
 obtain ⟨t161,A20,H⟩:=H
 replace H : (if t161 = true then (a_P.l0 k 0 l0_1 (l0_1.length : Int) 0) else (some false)) = some r:=H
 have A2:=a_c.mk A20
 clear A20
 by_cases c3 : t161 = true
 rotate_left
 ·replace c3:=Bool.eq_false_iff.mpr c3
  subst c3
  have H1 : (some false) = some r:=by rw [if_neg (show ¬ (false = true) by decide)] at H;exact H
  clear H
  have H:=H1
  clear H1
  obtain rfl:=Option.some.inj H
  go_enter Try.func23,Try.ntmps23
  go_wp2_with (first|((with_reducible refine a_M (N:=1) rfl ?_);refine a_G ?hg (N:=1) ?hd (cs:=#[.int .i64 a0_0,.slice A0_1 l0_1.length c0_1]) (t:=27) ?hr ?_;(case hd => rfl);(case hg => rfl);(case hr => first|(go_simp;done)|(go_simp;rfl));intro d_u hg w40 hbox hb;have c_z:=a_c.mk (hbox);have r_P:=a_c.mk ((by rw [hg];exact (a_n (lup_ HB.out)) : w.heap.size ≤ d_u));have d_b:=a_c.mk ((by rw [hg];exact (a_n (lup_ HB.out)) : w.heap.size ≤ d_u));replace HB:=a_c.mk (a_o (lup_ HB.out) hb);clear hb hbox hg;have r_Q : w40.cell? ⟨d_u,0,none⟩ = some (.int .i64 a0_0):=(a_a c_z.out 0).trans rfl;have r_R : w40.cell? ⟨d_u,1,none⟩ = some (.slice A0_1 l0_1.length c0_1):=(a_a c_z.out 1).trans rfl;have r_S:=a_e c_z.out 0;have r_T:=a_e c_z.out 1)|((with_reducible refine b_a (f:=24) rfl ?_);refine c_K (some 7) rfl rfl Try.func24 (by kernel_rfl) rfl #[.agg #[.int .i64 a0_0,.slice A0_1 l0_1.length c0_1]] rfl (by (try simp only [List.map_toArray,List.map_cons,List.map_nil]);first|done|rfl|(simp only [List.length_drop,List.length_take];rfl)) ?_;(with_reducible refine (a_y.calls k a0_0 _ _ l0_1 false _ ?side1 ?side2 A2.out).mono ?_);(case side1 => repeat (first|exact (Kd.a_U d_h.out HB.out)|(with_reducible refine Kd.a_8 ?_ _)|(with_reducible refine Kd.a_7 ?_ _)|(with_reducible refine Kd.b_t ?_)));(case side2 => exact e_e.out);rintro e w42 ⟨rfl,hb⟩;refine ⟨_,rfl,?_⟩;replace c_z:=a_c.mk (a_m (bup_ c_z.out) hb);replace HB:=a_c.mk (a_o (by repeat (first|(with_reducible first|exact HB.out|apply a_g|apply a_b|apply a_h|refine a_f ?_ d_b.out)|exact HB.out)) hb);(try clear hb);(try clear hb2);(try clear hk);(try clear hi)))
  go_ret
  exact ⟨by first|rfl|(simp [a_v,a_u] <;> rfl)|(simp [*, a_v,a_u] <;> rfl),by repeat (first|(with_reducible first|exact HB.out|apply a_g|apply a_b|apply a_h|refine a_f ?_ d_b.out)|exact HB.out)⟩
 subst c3
 have H1 : (a_P.l0 k 0 l0_1 (l0_1.length : Int) 0) = some r:=by rw [if_pos rfl] at H;exact H
 clear H
 have H:=H1
 clear H1
 have H':=a_c.mk H
 clear H
 go_enter Try.func23,Try.ntmps23
 go_wp2_with (first|((with_reducible refine a_M (N:=1) rfl ?_);refine a_G ?hg (N:=1) ?hd (cs:=#[.int .i64 a0_0,.slice A0_1 l0_1.length c0_1]) (t:=27) ?hr ?_;(case hd => rfl);(case hg => rfl);(case hr => first|(go_simp;done)|(go_simp;rfl));intro d_u hg w4 hbox hb;have c_z:=a_c.mk (hbox);have r_P:=a_c.mk ((by rw [hg];exact (a_n (lup_ HB.out)) : w.heap.size ≤ d_u));have d_b:=a_c.mk ((by rw [hg];exact (a_n (lup_ HB.out)) : w.heap.size ≤ d_u));replace HB:=a_c.mk (a_o (lup_ HB.out) hb);clear hb hbox hg;have g_F : w4.cell? ⟨d_u,0,none⟩ = some (.int .i64 a0_0):=(a_a c_z.out 0).trans rfl;have g_G : w4.cell? ⟨d_u,1,none⟩ = some (.slice A0_1 l0_1.length c0_1):=(a_a c_z.out 1).trans rfl;have g_H:=a_e c_z.out 0;have g_I:=a_e c_z.out 1)|((with_reducible refine b_a (f:=24) rfl ?_);refine c_K (some 7) rfl rfl Try.func24 (by kernel_rfl) rfl #[.agg #[.int .i64 a0_0,.slice A0_1 l0_1.length c0_1]] rfl (by (try simp only [List.map_toArray,List.map_cons,List.map_nil]);first|done|rfl|(simp only [List.length_drop,List.length_take];rfl)) ?_;(with_reducible refine (a_y.calls k a0_0 _ _ l0_1 true _ ?side1 ?side2 A2.out).mono ?_);(case side1 => repeat (first|exact (Kd.a_U d_h.out HB.out)|(with_reducible refine Kd.a_8 ?_ _)|(with_reducible refine Kd.a_7 ?_ _)|(with_reducible refine Kd.b_t ?_)));(case side2 => exact e_e.out);rintro e w6 ⟨rfl,hb⟩;refine ⟨_,rfl,?_⟩;replace c_z:=a_c.mk (a_m (bup_ c_z.out) hb);replace HB:=a_c.mk (a_o (by repeat (first|(with_reducible first|exact HB.out|apply a_g|apply a_b|apply a_h|refine a_f ?_ d_b.out)|exact HB.out)) hb);(try clear hb);(try clear hb2);(try clear hk);(try clear hi);have g_J : w6.cell? ⟨d_u,0,none⟩ = some (.int .i64 a0_0):=(a_a c_z.out 0).trans rfl;have g_K : w6.cell? ⟨d_u,1,none⟩ = some (.slice A0_1 l0_1.length c0_1):=(a_a c_z.out 1).trans rfl;have g_L:=a_e c_z.out 0;have g_M:=a_e c_z.out 1))
 go_loopg [3,12] k (fun kq v3 v12 w' => ∃ (x3_1 : Int) (x12_1 : Int),v3 = .int .u32 x3_1 ∧ v12 = .int .i64 x12_1 ∧ a_c (a_P.l0 kq x3_1 l0_1 (l0_1.length : Int) x12_1 = some r) ∧ a_c (kq ≤ k) ∧ a_c (w'.heap[d_u]? = some (.cells #[.int .i64 a0_0,(.slice A0_1 l0_1.length c0_1)] 27 (0,0))) ∧ a_c (Below w.heap.size w w'))
 case atStart => exact ⟨(0),(0),(by first|rfl|(simp;done)|(simp [*];done)),(by first|rfl|(simp;done)|(simp [*];done)),H',⟨Nat.le_refl _⟩,⟨by (with_reducible repeat (first|refine a_j ?_ _|refine a_l ?_|refine a_i ?_ _));exact c_z.out⟩,⟨by repeat (first|(with_reducible first|exact HB.out|apply a_g|apply a_b|apply a_h|refine a_f ?_ d_b.out)|exact HB.out)⟩⟩
 case round =>
  clear H'
  try clear c2
  try clear p2
  try clear c3
  try clear g_F
  try clear g_G
  try clear g_J
  try clear g_K
  try clear g_H
  try clear g_I
  try clear g_L
  try clear g_M
  obtain ⟨x3_1,x12_1,rfl,rfl,HA,HK1,c_z,HB⟩:=hrel
  cases gk with
  | zero => exact absurd HA.out (by simp [a_P.l0])
  | succ k1 =>
   have H:=HA.out
   clear HA
   simp only [a_P.l0] at H
   by_cases c8 : x12_1 < (l0_1.length : Int)
   rotate_left
   ·rw [if_neg c8] at H
    have c8b0 : decide (x12_1 < (l0_1.length : Int)) = false:=decide_eq_false c8
    clear c8
    obtain rfl:=Option.some.inj H
    go_wp2
    go_ret
    exact ⟨by first|rfl|(simp [a_v,a_u] <;> rfl)|(simp [*, a_v,a_u] <;> rfl),by repeat (first|(with_reducible first|exact HB.out|apply a_g|apply a_b|apply a_h|refine a_f ?_ d_b.out)|exact HB.out)⟩
   rw [if_pos c8] at H
   have c8b0 : decide (x12_1 < (l0_1.length : Int)) = true:=decide_eq_true c8
   clear c8
   by_cases c9 : 0 ≤ x12_1
   rotate_left
   ·rw [if_neg c9] at H
    exact absurd H (by simp)
   rw [if_pos c9] at H
   have c9b0 : decide (0 ≤ x12_1) = true:=decide_eq_true c9
   clear c9
   by_cases c10 : x12_1 < (l0_1.length : Int)
   rotate_left
   ·rw [if_neg c10] at H
    exact absurd H (by simp)
   rw [if_pos c10] at H
   have c10b0 : decide (x12_1 < (l0_1.length : Int)) = true:=decide_eq_true c10
   clear c10
   by_cases c11 : ((a_d l0_1 x12_1).f4) = (-1)
   ·rw [if_pos c11] at H
    have c11b0 : (((a_d l0_1 x12_1).f4) == (-1)) = true:=beq_iff_eq.mpr c11
    have c11b1 : (((a_d l0_1 x12_1).f4) != (-1)) = false:=bne_eq_false_iff_eq.mpr c11
    clear c11
    have H':=a_c.mk H
    clear H
    have p162 : 0 ≤ (x12_1 : Int):=of_decide_eq_true (by first|(with_reducible assumption)|assumption)
    have q162 : x12_1 < (l0_1.length : Int):=of_decide_eq_true (by first|(with_reducible assumption)|assumption)
    obtain ⟨ad162,e162,c_p,c_q,c_r,c_s,c_t,b_M,b_N,c_u,c_v,c_w,b_1⟩:=d_F d_h.out x12_1 p162 q162
    cases e162
    replace c_p:=(HB.out.cell (World.block_lt_of_cell? w _ c_p)).trans c_p
    replace c_q:=(HB.out.cell (World.block_lt_of_cell? w _ c_q)).trans c_q
    replace c_r:=(HB.out.cell (World.block_lt_of_cell? w _ c_r)).trans c_r
    replace c_s:=(HB.out.cell (World.block_lt_of_cell? w _ c_s)).trans c_s
    replace c_t:=(HB.out.cell (World.block_lt_of_cell? w _ c_t)).trans c_t
    replace b_M:=(HB.out.cell (World.block_lt_of_cell? w _ b_M)).trans b_M
    replace b_N:=(HB.out.cell (World.block_lt_of_cell? w _ b_N)).trans b_N
    replace c_u:=(HB.out.cell (World.block_lt_of_cell? w _ c_u)).trans c_u
    replace c_v:=(HB.out.cell (World.block_lt_of_cell? w _ c_v)).trans c_v
    replace c_w:=(HB.out.cell (World.block_lt_of_cell? w _ c_w)).trans c_w
    replace b_1:=(HB.out.cell (World.block_lt_of_cell? w _ b_1)).trans b_1
    replace p162:=eq_true p162
    replace q162:=eq_true q162
    go_wp2_with (first|((with_reducible refine a_M (N:=5) rfl ?_);refine a_G ?hg (N:=5) ?hd (cs:=#[.int .i64 0,.int .i64 0,.int .i64 0,.int .i64 0,.int .i64 0,.bool false,.bool false,.int .u32 0,.int .i64 0,.int .i64 0,.int .i64 0]) (t:=65) ?hr ?_;(case hd => rfl);(case hg => rfl);(case hr => first|(go_simp;done)|(go_simp;rfl));intro b_k hg w12 hbox hb;have a_1:=a_c.mk (hbox);have k_e:=a_c.mk ((by rw [hg];exact (a_n (by repeat (first|(with_reducible first|exact HB.out|apply a_g|apply a_b|apply a_h|refine a_f ?_ d_b.out)|exact HB.out))) : w.heap.size ≤ b_k));have f_t:=a_c.mk ((by rw [hg];exact (a_n (by repeat (first|(with_reducible first|exact HB.out|apply a_g|apply a_b|apply a_h|refine a_f ?_ d_b.out)|exact HB.out))) : w.heap.size ≤ b_k));have b_h:=a_c.mk ((by rw [hg];exact Nat.ne_of_lt (a_J (bup_ c_z.out)) : d_u ≠ b_k));have c_X:=a_c.mk ((by rw [hg];exact Nat.ne_of_gt (a_J (bup_ c_z.out)) : b_k ≠ d_u));replace c_z:=a_c.mk (a_m (bup_ c_z.out) hb);replace HB:=a_c.mk (a_o (by repeat (first|(with_reducible first|exact HB.out|apply a_g|apply a_b|apply a_h|refine a_f ?_ d_b.out)|exact HB.out)) hb);clear hb hbox hg;have u_j:=c_X.out;have u_k:=b_h.out;have e_B : w12.cell? ⟨b_k,0,none⟩ = some (.int .i64 0):=(a_a a_1.out 0).trans rfl;have e_C : w12.cell? ⟨b_k,1,none⟩ = some (.int .i64 0):=(a_a a_1.out 1).trans rfl;have i_1 : w12.cell? ⟨b_k,2,none⟩ = some (.int .i64 0):=(a_a a_1.out 2).trans rfl;have i_2 : w12.cell? ⟨b_k,3,none⟩ = some (.int .i64 0):=(a_a a_1.out 3).trans rfl;have i_3 : w12.cell? ⟨b_k,4,none⟩ = some (.int .i64 0):=(a_a a_1.out 4).trans rfl;have i_4 : w12.cell? ⟨b_k,5,none⟩ = some (.bool false):=(a_a a_1.out 5).trans rfl;have i_5 : w12.cell? ⟨b_k,6,none⟩ = some (.bool false):=(a_a a_1.out 6).trans rfl;have i_6 : w12.cell? ⟨b_k,7,none⟩ = some (.int .u32 0):=(a_a a_1.out 7).trans rfl;have i_7 : w12.cell? ⟨b_k,8,none⟩ = some (.int .i64 0):=(a_a a_1.out 8).trans rfl;have i_8 : w12.cell? ⟨b_k,9,none⟩ = some (.int .i64 0):=(a_a a_1.out 9).trans rfl;have h_Z : w12.cell? ⟨b_k,10,none⟩ = some (.int .i64 0):=(a_a a_1.out 10).trans rfl;have e_D:=a_e a_1.out 0;have e_E:=a_e a_1.out 1;have i_9:=a_e a_1.out 2;have j_a:=a_e a_1.out 3;have j_b:=a_e a_1.out 4;have j_c:=a_e a_1.out 5;have j_d:=a_e a_1.out 6;have j_e:=a_e a_1.out 7;have j_f:=a_e a_1.out 8;have j_g:=a_e a_1.out 9;have h_0:=a_e a_1.out 10))
    go_roundg k1
    case measure => have:=HK1.out;omega
    case rel => exact ⟨(x3_1),(wrap64 (x12_1 + 1)),(by first|rfl|(simp;done)|(simp [*];done)),(by first|rfl|(simp;done)|(simp [*];done)),H',⟨by have:=HK1.out;omega⟩,⟨by (with_reducible repeat (first|refine a_j ?_ _|refine a_l ?_|refine a_i ?_ _));refine a_I ?_ b_h.out _;(with_reducible repeat (first|refine a_j ?_ _|refine a_l ?_|refine a_i ?_ _));refine a_I ?_ b_h.out _;(with_reducible repeat (first|refine a_j ?_ _|refine a_l ?_|refine a_i ?_ _));refine a_I ?_ b_h.out _;(with_reducible repeat (first|refine a_j ?_ _|refine a_l ?_|refine a_i ?_ _));refine a_I ?_ b_h.out _;(with_reducible repeat (first|refine a_j ?_ _|refine a_l ?_|refine a_i ?_ _));refine a_I ?_ b_h.out _;(with_reducible repeat (first|refine a_j ?_ _|refine a_l ?_|refine a_i ?_ _));refine a_I ?_ b_h.out _;(with_reducible repeat (first|refine a_j ?_ _|refine a_l ?_|refine a_i ?_ _));refine a_I ?_ b_h.out _;(with_reducible repeat (first|refine a_j ?_ _|refine a_l ?_|refine a_i ?_ _));refine a_I ?_ b_h.out _;(with_reducible repeat (first|refine a_j ?_ _|refine a_l ?_|refine a_i ?_ _));refine a_I ?_ b_h.out _;(with_reducible repeat (first|refine a_j ?_ _|refine a_l ?_|refine a_i ?_ _));refine a_I ?_ b_h.out _;(with_reducible repeat (first|refine a_j ?_ _|refine a_l ?_|refine a_i ?_ _));refine a_I ?_ b_h.out _;(with_reducible repeat (first|refine a_j ?_ _|refine a_l ?_|refine a_i ?_ _));exact c_z.out⟩,⟨by repeat (first|(with_reducible first|exact HB.out|apply a_g|apply a_b|apply a_h|refine a_f ?_ d_b.out|refine a_f ?_ f_t.out)|exact HB.out)⟩⟩
   rw [if_neg c11] at H
   have c11b0 : (((a_d l0_1 x12_1).f4) == (-1)) = false:=beq_eq_false_iff_ne.mpr c11
   have c11b1 : (((a_d l0_1 x12_1).f4) != (-1)) = true:=bne_iff_ne.mpr c11
   obtain ⟨bq15,hbq15⟩ : ∃ b_ : Bool,b_ = ((a_d l0_1 x12_1).f5):=⟨_,rfl⟩
   replace H : (if (bq15 = true) then (if (a_d l0_1 x12_1).f6 = true then (some false) else ((b_J.f ((a_d l0_1 x12_1).f7) ((a_d l0_1 x12_1).f4)).bind fun t164 => (if t164 = true then ((b_J.f x3_1 ((a_d l0_1 x12_1).f4)).bind fun t165 => (if t165 = true then (some false) else (if 0 ≤ ((a_d l0_1 x12_1).f4) then (a_P.l0 k1 (Go.bits .or .u32 x3_1 (shl .u32 1 ((a_d l0_1 x12_1).f4))) l0_1 (l0_1.length : Int) (wrap64 (x12_1 + 1))) else (none)))) else (some false)))) else (some false)) = some r:=by rw [← hbq15] at H;exact H
   have Nbq15:=a_c.mk hbq15
   clear hbq15
   by_cases c16 : (bq15 = true)
   rotate_left
   ·replace c16:=Bool.eq_false_iff.mpr c16
    subst c16
    have H1 : (some false) = some r:=by rw [if_neg (show ¬ (false = true) by decide)] at H;exact H
    clear H
    have H:=H1
    clear H1
    obtain rfl:=Option.some.inj H
    have p162 : 0 ≤ (x12_1 : Int):=of_decide_eq_true (by first|(with_reducible assumption)|assumption)
    have q162 : x12_1 < (l0_1.length : Int):=of_decide_eq_true (by first|(with_reducible assumption)|assumption)
    obtain ⟨ad162,e162,c_p,c_q,c_r,c_s,c_t,b_M,b_N,c_u,c_v,c_w,b_1⟩:=d_F d_h.out x12_1 p162 q162
    (try rw [← Nbq15.out] at b_M)
    (try rw [← Nbq15.out] at b_N)
    cases e162
    replace c_p:=(HB.out.cell (World.block_lt_of_cell? w _ c_p)).trans c_p
    replace c_q:=(HB.out.cell (World.block_lt_of_cell? w _ c_q)).trans c_q
    replace c_r:=(HB.out.cell (World.block_lt_of_cell? w _ c_r)).trans c_r
    replace c_s:=(HB.out.cell (World.block_lt_of_cell? w _ c_s)).trans c_s
    replace c_t:=(HB.out.cell (World.block_lt_of_cell? w _ c_t)).trans c_t
    replace b_M:=(HB.out.cell (World.block_lt_of_cell? w _ b_M)).trans b_M
    replace b_N:=(HB.out.cell (World.block_lt_of_cell? w _ b_N)).trans b_N
    replace c_u:=(HB.out.cell (World.block_lt_of_cell? w _ c_u)).trans c_u
    replace c_v:=(HB.out.cell (World.block_lt_of_cell? w _ c_v)).trans c_v
    replace c_w:=(HB.out.cell (World.block_lt_of_cell? w _ c_w)).trans c_w
    replace b_1:=(HB.out.cell (World.block_lt_of_cell? w _ b_1)).trans b_1
    replace p162:=eq_true p162
    replace q162:=eq_true q162
    go_wp2_with (first|((with_reducible refine a_M (N:=5) rfl ?_);refine a_G ?hg (N:=5) ?hd (cs:=#[.int .i64 0,.int .i64 0,.int .i64 0,.int .i64 0,.int .i64 0,.bool false,.bool false,.int .u32 0,.int .i64 0,.int .i64 0,.int .i64 0]) (t:=65) ?hr ?_;(case hd => rfl);(case hg => rfl);(case hr => first|(go_simp;done)|(go_simp;rfl));intro b_k hg w37 hbox hb;have a_1:=a_c.mk (hbox);have k_e:=a_c.mk ((by rw [hg];exact (a_n (by repeat (first|(with_reducible first|exact HB.out|apply a_g|apply a_b|apply a_h|refine a_f ?_ d_b.out)|exact HB.out))) : w.heap.size ≤ b_k));have f_t:=a_c.mk ((by rw [hg];exact (a_n (by repeat (first|(with_reducible first|exact HB.out|apply a_g|apply a_b|apply a_h|refine a_f ?_ d_b.out)|exact HB.out))) : w.heap.size ≤ b_k));have b_h:=a_c.mk ((by rw [hg];exact Nat.ne_of_lt (a_J (bup_ c_z.out)) : d_u ≠ b_k));have c_X:=a_c.mk ((by rw [hg];exact Nat.ne_of_gt (a_J (bup_ c_z.out)) : b_k ≠ d_u));replace c_z:=a_c.mk (a_m (bup_ c_z.out) hb);replace HB:=a_c.mk (a_o (by repeat (first|(with_reducible first|exact HB.out|apply a_g|apply a_b|apply a_h|refine a_f ?_ d_b.out)|exact HB.out)) hb);clear hb hbox hg;have u_l:=c_X.out;have u_m:=b_h.out;have r_U : w37.cell? ⟨b_k,0,none⟩ = some (.int .i64 0):=(a_a a_1.out 0).trans rfl;have r_V : w37.cell? ⟨b_k,1,none⟩ = some (.int .i64 0):=(a_a a_1.out 1).trans rfl;have r_W : w37.cell? ⟨b_k,2,none⟩ = some (.int .i64 0):=(a_a a_1.out 2).trans rfl;have r_X : w37.cell? ⟨b_k,3,none⟩ = some (.int .i64 0):=(a_a a_1.out 3).trans rfl;have r_Y : w37.cell? ⟨b_k,4,none⟩ = some (.int .i64 0):=(a_a a_1.out 4).trans rfl;have r_Z : w37.cell? ⟨b_k,5,none⟩ = some (.bool false):=(a_a a_1.out 5).trans rfl;have r_0 : w37.cell? ⟨b_k,6,none⟩ = some (.bool false):=(a_a a_1.out 6).trans rfl;have r_1 : w37.cell? ⟨b_k,7,none⟩ = some (.int .u32 0):=(a_a a_1.out 7).trans rfl;have r_2 : w37.cell? ⟨b_k,8,none⟩ = some (.int .i64 0):=(a_a a_1.out 8).trans rfl;have r_3 : w37.cell? ⟨b_k,9,none⟩ = some (.int .i64 0):=(a_a a_1.out 9).trans rfl;have o_7 : w37.cell? ⟨b_k,10,none⟩ = some (.int .i64 0):=(a_a a_1.out 10).trans rfl;have r_4:=a_e a_1.out 0;have r_5:=a_e a_1.out 1;have r_6:=a_e a_1.out 2;have r_7:=a_e a_1.out 3;have r_8:=a_e a_1.out 4;have r_9:=a_e a_1.out 5;have s_a:=a_e a_1.out 6;have s_b:=a_e a_1.out 7;have s_d:=a_e a_1.out 8;have s_e:=a_e a_1.out 9;have o_8:=a_e a_1.out 10))
    go_ret
    exact ⟨by first|rfl|(simp [a_v,a_u] <;> rfl)|(simp [*, a_v,a_u] <;> rfl),by repeat (first|(with_reducible first|exact HB.out|apply a_g|apply a_b|apply a_h|refine a_f ?_ d_b.out|refine a_f ?_ f_t.out)|exact HB.out)⟩
   subst c16
   have H1 : (if (a_d l0_1 x12_1).f6 = true then (some false) else ((b_J.f ((a_d l0_1 x12_1).f7) ((a_d l0_1 x12_1).f4)).bind fun t164 => (if t164 = true then ((b_J.f x3_1 ((a_d l0_1 x12_1).f4)).bind fun t165 => (if t165 = true then (some false) else (if 0 ≤ ((a_d l0_1 x12_1).f4) then (a_P.l0 k1 (Go.bits .or .u32 x3_1 (shl .u32 1 ((a_d l0_1 x12_1).f4))) l0_1 (l0_1.length : Int) (wrap64 (x12_1 + 1))) else (none)))) else (some false)))) = some r:=by rw [if_pos rfl] at H;exact H
   clear H
   have H:=H1
   clear H1
   obtain ⟨bq17,hbq17⟩ : ∃ b_ : Bool,b_ = ((a_d l0_1 x12_1).f6):=⟨_,rfl⟩
   replace H : (if bq17 = true then (some false) else ((b_J.f ((a_d l0_1 x12_1).f7) ((a_d l0_1 x12_1).f4)).bind fun t164 => (if t164 = true then ((b_J.f x3_1 ((a_d l0_1 x12_1).f4)).bind fun t165 => (if t165 = true then (some false) else (if 0 ≤ ((a_d l0_1 x12_1).f4) then (a_P.l0 k1 (Go.bits .or .u32 x3_1 (shl .u32 1 ((a_d l0_1 x12_1).f4))) l0_1 (l0_1.length : Int) (wrap64 (x12_1 + 1))) else (none)))) else (some false)))) = some r:=by rw [← hbq17] at H;exact H
   have Nbq17:=a_c.mk hbq17
   clear hbq17
   by_cases c18 : bq17 = true
   ·subst c18
    have H1 : (some false) = some r:=by rw [if_pos rfl] at H;exact H
    clear H
    have H:=H1
    clear H1
    obtain rfl:=Option.some.inj H
    have p162 : 0 ≤ (x12_1 : Int):=of_decide_eq_true (by first|(with_reducible assumption)|assumption)
    have q162 : x12_1 < (l0_1.length : Int):=of_decide_eq_true (by first|(with_reducible assumption)|assumption)
    obtain ⟨ad162,e162,c_p,c_q,c_r,c_s,c_t,b_M,b_N,c_u,c_v,c_w,b_1⟩:=d_F d_h.out x12_1 p162 q162
    (try rw [← Nbq15.out] at b_M)
    (try rw [← Nbq17.out] at b_M)
    (try rw [← Nbq15.out] at b_N)
    (try rw [← Nbq17.out] at b_N)
    cases e162
    replace c_p:=(HB.out.cell (World.block_lt_of_cell? w _ c_p)).trans c_p
    replace c_q:=(HB.out.cell (World.block_lt_of_cell? w _ c_q)).trans c_q
    replace c_r:=(HB.out.cell (World.block_lt_of_cell? w _ c_r)).trans c_r
    replace c_s:=(HB.out.cell (World.block_lt_of_cell? w _ c_s)).trans c_s
    replace c_t:=(HB.out.cell (World.block_lt_of_cell? w _ c_t)).trans c_t
    replace b_M:=(HB.out.cell (World.block_lt_of_cell? w _ b_M)).trans b_M
    replace b_N:=(HB.out.cell (World.block_lt_of_cell? w _ b_N)).trans b_N
    replace c_u:=(HB.out.cell (World.block_lt_of_cell? w _ c_u)).trans c_u
    replace c_v:=(HB.out.cell (World.block_lt_of_cell? w _ c_v)).trans c_v
    replace c_w:=(HB.out.cell (World.block_lt_of_cell? w _ c_w)).trans c_w
    replace b_1:=(HB.out.cell (World.block_lt_of_cell? w _ b_1)).trans b_1
    replace p162:=eq_true p162
    replace q162:=eq_true q162
    go_wp2_with (first|((with_reducible refine a_M (N:=5) rfl ?_);refine a_G ?hg (N:=5) ?hd (cs:=#[.int .i64 0,.int .i64 0,.int .i64 0,.int .i64 0,.int .i64 0,.bool false,.bool false,.int .u32 0,.int .i64 0,.int .i64 0,.int .i64 0]) (t:=65) ?hr ?_;(case hd => rfl);(case hg => rfl);(case hr => first|(go_simp;done)|(go_simp;rfl));intro b_k hg w19 hbox hb;have a_1:=a_c.mk (hbox);have k_e:=a_c.mk ((by rw [hg];exact (a_n (by repeat (first|(with_reducible first|exact HB.out|apply a_g|apply a_b|apply a_h|refine a_f ?_ d_b.out)|exact HB.out))) : w.heap.size ≤ b_k));have f_t:=a_c.mk ((by rw [hg];exact (a_n (by repeat (first|(with_reducible first|exact HB.out|apply a_g|apply a_b|apply a_h|refine a_f ?_ d_b.out)|exact HB.out))) : w.heap.size ≤ b_k));have b_h:=a_c.mk ((by rw [hg];exact Nat.ne_of_lt (a_J (bup_ c_z.out)) : d_u ≠ b_k));have c_X:=a_c.mk ((by rw [hg];exact Nat.ne_of_gt (a_J (bup_ c_z.out)) : b_k ≠ d_u));replace c_z:=a_c.mk (a_m (bup_ c_z.out) hb);replace HB:=a_c.mk (a_o (by repeat (first|(with_reducible first|exact HB.out|apply a_g|apply a_b|apply a_h|refine a_f ?_ d_b.out)|exact HB.out)) hb);clear hb hbox hg;have q_R:=c_X.out;have q_S:=b_h.out;have j_1 : w19.cell? ⟨b_k,0,none⟩ = some (.int .i64 0):=(a_a a_1.out 0).trans rfl;have j_2 : w19.cell? ⟨b_k,1,none⟩ = some (.int .i64 0):=(a_a a_1.out 1).trans rfl;have s_f : w19.cell? ⟨b_k,2,none⟩ = some (.int .i64 0):=(a_a a_1.out 2).trans rfl;have s_g : w19.cell? ⟨b_k,3,none⟩ = some (.int .i64 0):=(a_a a_1.out 3).trans rfl;have s_h : w19.cell? ⟨b_k,4,none⟩ = some (.int .i64 0):=(a_a a_1.out 4).trans rfl;have s_i : w19.cell? ⟨b_k,5,none⟩ = some (.bool false):=(a_a a_1.out 5).trans rfl;have s_j : w19.cell? ⟨b_k,6,none⟩ = some (.bool false):=(a_a a_1.out 6).trans rfl;have s_k : w19.cell? ⟨b_k,7,none⟩ = some (.int .u32 0):=(a_a a_1.out 7).trans rfl;have s_l : w19.cell? ⟨b_k,8,none⟩ = some (.int .i64 0):=(a_a a_1.out 8).trans rfl;have s_m : w19.cell? ⟨b_k,9,none⟩ = some (.int .i64 0):=(a_a a_1.out 9).trans rfl;have o_9 : w19.cell? ⟨b_k,10,none⟩ = some (.int .i64 0):=(a_a a_1.out 10).trans rfl;have j_3:=a_e a_1.out 0;have j_4:=a_e a_1.out 1;have s_n:=a_e a_1.out 2;have s_o:=a_e a_1.out 3;have s_p:=a_e a_1.out 4;have s_q:=a_e a_1.out 5;have s_r:=a_e a_1.out 6;have s_s:=a_e a_1.out 7;have s_t:=a_e a_1.out 8;have s_u:=a_e a_1.out 9;have p_a:=a_e a_1.out 10))
    go_ret
    exact ⟨by first|rfl|(simp [a_v,a_u] <;> rfl)|(simp [*, a_v,a_u] <;> rfl),by repeat (first|(with_reducible first|exact HB.out|apply a_g|apply a_b|apply a_h|refine a_f ?_ d_b.out|refine a_f ?_ f_t.out)|exact HB.out)⟩
   replace c18:=Bool.eq_false_iff.mpr c18
   subst c18
   have H1 : ((b_J.f ((a_d l0_1 x12_1).f7) ((a_d l0_1 x12_1).f4)).bind fun t164 => (if t164 = true then ((b_J.f x3_1 ((a_d l0_1 x12_1).f4)).bind fun t165 => (if t165 = true then (some false) else (if 0 ≤ ((a_d l0_1 x12_1).f4) then (a_P.l0 k1 (Go.bits .or .u32 x3_1 (shl .u32 1 ((a_d l0_1 x12_1).f4))) l0_1 (l0_1.length : Int) (wrap64 (x12_1 + 1))) else (none)))) else (some false))) = some r:=by rw [if_neg (show ¬ (false = true) by decide)] at H;exact H
   clear H
   have H:=H1
   clear H1
   replace H:=Option.bind_eq_some_iff.mp H
   obtain ⟨t164,A220,H⟩:=H
   replace H : (if t164 = true then ((b_J.f x3_1 ((a_d l0_1 x12_1).f4)).bind fun t165 => (if t165 = true then (some false) else (if 0 ≤ ((a_d l0_1 x12_1).f4) then (a_P.l0 k1 (Go.bits .or .u32 x3_1 (shl .u32 1 ((a_d l0_1 x12_1).f4))) l0_1 (l0_1.length : Int) (wrap64 (x12_1 + 1))) else (none)))) else (some false)) = some r:=H
   have A22:=a_c.mk A220
   clear A220
   by_cases c23 : t164 = true
   rotate_left
   ·replace c23:=Bool.eq_false_iff.mpr c23
    subst c23
    have H1 : (some false) = some r:=by rw [if_neg (show ¬ (false = true) by decide)] at H;exact H
    clear H
    have H:=H1
    clear H1
    obtain rfl:=Option.some.inj H
    have p162 : 0 ≤ (x12_1 : Int):=of_decide_eq_true (by first|(with_reducible assumption)|assumption)
    have q162 : x12_1 < (l0_1.length : Int):=of_decide_eq_true (by first|(with_reducible assumption)|assumption)
    obtain ⟨ad162,e162,c_p,c_q,c_r,c_s,c_t,b_M,b_N,c_u,c_v,c_w,b_1⟩:=d_F d_h.out x12_1 p162 q162
    (try rw [← Nbq15.out] at b_M)
    (try rw [← Nbq17.out] at b_M)
    (try rw [← Nbq15.out] at b_N)
    (try rw [← Nbq17.out] at b_N)
    cases e162
    replace c_p:=(HB.out.cell (World.block_lt_of_cell? w _ c_p)).trans c_p
    replace c_q:=(HB.out.cell (World.block_lt_of_cell? w _ c_q)).trans c_q
    replace c_r:=(HB.out.cell (World.block_lt_of_cell? w _ c_r)).trans c_r
    replace c_s:=(HB.out.cell (World.block_lt_of_cell? w _ c_s)).trans c_s
    replace c_t:=(HB.out.cell (World.block_lt_of_cell? w _ c_t)).trans c_t
    replace b_M:=(HB.out.cell (World.block_lt_of_cell? w _ b_M)).trans b_M
    replace b_N:=(HB.out.cell (World.block_lt_of_cell? w _ b_N)).trans b_N
    replace c_u:=(HB.out.cell (World.block_lt_of_cell? w _ c_u)).trans c_u
    replace c_v:=(HB.out.cell (World.block_lt_of_cell? w _ c_v)).trans c_v
    replace c_w:=(HB.out.cell (World.block_lt_of_cell? w _ c_w)).trans c_w
    replace b_1:=(HB.out.cell (World.block_lt_of_cell? w _ b_1)).trans b_1
    replace p162:=eq_true p162
    replace q162:=eq_true q162
    go_wp2_with (first|((with_reducible refine a_M (N:=5) rfl ?_);refine a_G ?hg (N:=5) ?hd (cs:=#[.int .i64 0,.int .i64 0,.int .i64 0,.int .i64 0,.int .i64 0,.bool false,.bool false,.int .u32 0,.int .i64 0,.int .i64 0,.int .i64 0]) (t:=65) ?hr ?_;(case hd => rfl);(case hg => rfl);(case hr => first|(go_simp;done)|(go_simp;rfl));intro b_k hg w34 hbox hb;have a_1:=a_c.mk (hbox);have k_e:=a_c.mk ((by rw [hg];exact (a_n (by repeat (first|(with_reducible first|exact HB.out|apply a_g|apply a_b|apply a_h|refine a_f ?_ d_b.out)|exact HB.out))) : w.heap.size ≤ b_k));have f_t:=a_c.mk ((by rw [hg];exact (a_n (by repeat (first|(with_reducible first|exact HB.out|apply a_g|apply a_b|apply a_h|refine a_f ?_ d_b.out)|exact HB.out))) : w.heap.size ≤ b_k));have b_h:=a_c.mk ((by rw [hg];exact Nat.ne_of_lt (a_J (bup_ c_z.out)) : d_u ≠ b_k));have c_X:=a_c.mk ((by rw [hg];exact Nat.ne_of_gt (a_J (bup_ c_z.out)) : b_k ≠ d_u));replace c_z:=a_c.mk (a_m (bup_ c_z.out) hb);replace HB:=a_c.mk (a_o (by repeat (first|(with_reducible first|exact HB.out|apply a_g|apply a_b|apply a_h|refine a_f ?_ d_b.out)|exact HB.out)) hb);clear hb hbox hg;have q_J:=c_X.out;have q_K:=b_h.out;have n_f : w34.cell? ⟨b_k,0,none⟩ = some (.int .i64 0):=(a_a a_1.out 0).trans rfl;have n_g : w34.cell? ⟨b_k,1,none⟩ = some (.int .i64 0):=(a_a a_1.out 1).trans rfl;have s_v : w34.cell? ⟨b_k,2,none⟩ = some (.int .i64 0):=(a_a a_1.out 2).trans rfl;have s_w : w34.cell? ⟨b_k,3,none⟩ = some (.int .i64 0):=(a_a a_1.out 3).trans rfl;have s_x : w34.cell? ⟨b_k,4,none⟩ = some (.int .i64 0):=(a_a a_1.out 4).trans rfl;have s_y : w34.cell? ⟨b_k,5,none⟩ = some (.bool false):=(a_a a_1.out 5).trans rfl;have s_z : w34.cell? ⟨b_k,6,none⟩ = some (.bool false):=(a_a a_1.out 6).trans rfl;have s_A : w34.cell? ⟨b_k,7,none⟩ = some (.int .u32 0):=(a_a a_1.out 7).trans rfl;have s_B : w34.cell? ⟨b_k,8,none⟩ = some (.int .i64 0):=(a_a a_1.out 8).trans rfl;have s_C : w34.cell? ⟨b_k,9,none⟩ = some (.int .i64 0):=(a_a a_1.out 9).trans rfl;have p_b : w34.cell? ⟨b_k,10,none⟩ = some (.int .i64 0):=(a_a a_1.out 10).trans rfl;have n_h:=a_e a_1.out 0;have n_i:=a_e a_1.out 1;have s_D:=a_e a_1.out 2;have s_E:=a_e a_1.out 3;have s_F:=a_e a_1.out 4;have s_G:=a_e a_1.out 5;have s_H:=a_e a_1.out 6;have s_I:=a_e a_1.out 7;have s_J:=a_e a_1.out 8;have s_K:=a_e a_1.out 9;have p_c:=a_e a_1.out 10)|(go_at_call 50;(with_reducible refine (b_J.calls ((a_d l0_1 x12_1).f7) ((a_d l0_1 x12_1).f4) false _ A22.out).mono ?_);rintro e w' ⟨rfl,⟨nd,rfl⟩⟩))
    go_ret
    exact ⟨by first|rfl|(simp [a_v,a_u] <;> rfl)|(simp [*, a_v,a_u] <;> rfl),by repeat (first|(with_reducible first|exact HB.out|apply a_g|apply a_b|apply a_h|refine a_f ?_ d_b.out|refine a_f ?_ f_t.out)|exact HB.out)⟩
   subst c23
   have H1 : ((b_J.f x3_1 ((a_d l0_1 x12_1).f4)).bind fun t165 => (if t165 = true then (some false) else (if 0 ≤ ((a_d l0_1 x12_1).f4) then (a_P.l0 k1 (Go.bits .or .u32 x3_1 (shl .u32 1 ((a_d l0_1 x12_1).f4))) l0_1 (l0_1.length : Int) (wrap64 (x12_1 + 1))) else (none)))) = some r:=by rw [if_pos rfl] at H;exact H
   clear H
   have H:=H1
   clear H1
   replace H:=Option.bind_eq_some_iff.mp H
   obtain ⟨t165,A240,H⟩:=H
   replace H : (if t165 = true then (some false) else (if 0 ≤ ((a_d l0_1 x12_1).f4) then (a_P.l0 k1 (Go.bits .or .u32 x3_1 (shl .u32 1 ((a_d l0_1 x12_1).f4))) l0_1 (l0_1.length : Int) (wrap64 (x12_1 + 1))) else (none))) = some r:=H
   have A24:=a_c.mk A240
   clear A240
   by_cases c25 : t165 = true
   ·subst c25
    have H1 : (some false) = some r:=by rw [if_pos rfl] at H;exact H
    clear H
    have H:=H1
    clear H1
    obtain rfl:=Option.some.inj H
    have p162 : 0 ≤ (x12_1 : Int):=of_decide_eq_true (by first|(with_reducible assumption)|assumption)
    have q162 : x12_1 < (l0_1.length : Int):=of_decide_eq_true (by first|(with_reducible assumption)|assumption)
    obtain ⟨ad162,e162,c_p,c_q,c_r,c_s,c_t,b_M,b_N,c_u,c_v,c_w,b_1⟩:=d_F d_h.out x12_1 p162 q162
    (try rw [← Nbq15.out] at b_M)
    (try rw [← Nbq17.out] at b_M)
    (try rw [← Nbq15.out] at b_N)
    (try rw [← Nbq17.out] at b_N)
    cases e162
    replace c_p:=(HB.out.cell (World.block_lt_of_cell? w _ c_p)).trans c_p
    replace c_q:=(HB.out.cell (World.block_lt_of_cell? w _ c_q)).trans c_q
    replace c_r:=(HB.out.cell (World.block_lt_of_cell? w _ c_r)).trans c_r
    replace c_s:=(HB.out.cell (World.block_lt_of_cell? w _ c_s)).trans c_s
    replace c_t:=(HB.out.cell (World.block_lt_of_cell? w _ c_t)).trans c_t
    replace b_M:=(HB.out.cell (World.block_lt_of_cell? w _ b_M)).trans b_M
    replace b_N:=(HB.out.cell (World.block_lt_of_cell? w _ b_N)).trans b_N
    replace c_u:=(HB.out.cell (World.block_lt_of_cell? w _ c_u)).trans c_u
    replace c_v:=(HB.out.cell (World.block_lt_of_cell? w _ c_v)).trans c_v
    replace c_w:=(HB.out.cell (World.block_lt_of_cell? w _ c_w)).trans c_w
    replace b_1:=(HB.out.cell (World.block_lt_of_cell? w _ b_1)).trans b_1
    replace p162:=eq_true p162
    replace q162:=eq_true q162
    go_wp2_with (first|((with_reducible refine a_M (N:=5) rfl ?_);refine a_G ?hg (N:=5) ?hd (cs:=#[.int .i64 0,.int .i64 0,.int .i64 0,.int .i64 0,.int .i64 0,.bool false,.bool false,.int .u32 0,.int .i64 0,.int .i64 0,.int .i64 0]) (t:=65) ?hr ?_;(case hd => rfl);(case hg => rfl);(case hr => first|(go_simp;done)|(go_simp;rfl));intro b_k hg w26 hbox hb;have a_1:=a_c.mk (hbox);have k_e:=a_c.mk ((by rw [hg];exact (a_n (by repeat (first|(with_reducible first|exact HB.out|apply a_g|apply a_b|apply a_h|refine a_f ?_ d_b.out)|exact HB.out))) : w.heap.size ≤ b_k));have f_t:=a_c.mk ((by rw [hg];exact (a_n (by repeat (first|(with_reducible first|exact HB.out|apply a_g|apply a_b|apply a_h|refine a_f ?_ d_b.out)|exact HB.out))) : w.heap.size ≤ b_k));have b_h:=a_c.mk ((by rw [hg];exact Nat.ne_of_lt (a_J (bup_ c_z.out)) : d_u ≠ b_k));have c_X:=a_c.mk ((by rw [hg];exact Nat.ne_of_gt (a_J (bup_ c_z.out)) : b_k ≠ d_u));replace c_z:=a_c.mk (a_m (bup_ c_z.out) hb);replace HB:=a_c.mk (a_o (by repeat (first|(with_reducible first|exact HB.out|apply a_g|apply a_b|apply a_h|refine a_f ?_ d_b.out)|exact HB.out)) hb);clear hb hbox hg;have r_u:=c_X.out;have r_v:=b_h.out;have f_3 : w26.cell? ⟨b_k,0,none⟩ = some (.int .i64 0):=(a_a a_1.out 0).trans rfl;have f_4 : w26.cell? ⟨b_k,1,none⟩ = some (.int .i64 0):=(a_a a_1.out 1).trans rfl;have m_I : w26.cell? ⟨b_k,2,none⟩ = some (.int .i64 0):=(a_a a_1.out 2).trans rfl;have m_J : w26.cell? ⟨b_k,3,none⟩ = some (.int .i64 0):=(a_a a_1.out 3).trans rfl;have m_K : w26.cell? ⟨b_k,4,none⟩ = some (.int .i64 0):=(a_a a_1.out 4).trans rfl;have m_L : w26.cell? ⟨b_k,5,none⟩ = some (.bool false):=(a_a a_1.out 5).trans rfl;have m_M : w26.cell? ⟨b_k,6,none⟩ = some (.bool false):=(a_a a_1.out 6).trans rfl;have m_N : w26.cell? ⟨b_k,7,none⟩ = some (.int .u32 0):=(a_a a_1.out 7).trans rfl;have m_O : w26.cell? ⟨b_k,8,none⟩ = some (.int .i64 0):=(a_a a_1.out 8).trans rfl;have m_P : w26.cell? ⟨b_k,9,none⟩ = some (.int .i64 0):=(a_a a_1.out 9).trans rfl;have l_K : w26.cell? ⟨b_k,10,none⟩ = some (.int .i64 0):=(a_a a_1.out 10).trans rfl;have f_5:=a_e a_1.out 0;have f_6:=a_e a_1.out 1;have m_Q:=a_e a_1.out 2;have m_R:=a_e a_1.out 3;have m_S:=a_e a_1.out 4;have m_T:=a_e a_1.out 5;have m_U:=a_e a_1.out 6;have m_V:=a_e a_1.out 7;have m_W:=a_e a_1.out 8;have m_X:=a_e a_1.out 9;have l_L:=a_e a_1.out 10)|(go_at_call 50;(with_reducible refine (b_J.calls ((a_d l0_1 x12_1).f7) ((a_d l0_1 x12_1).f4) true _ A22.out).mono ?_);rintro e w' ⟨rfl,⟨nd,rfl⟩⟩)|(go_at_call 50;(with_reducible refine (b_J.calls x3_1 ((a_d l0_1 x12_1).f4) true _ A24.out).mono ?_);rintro e w' ⟨rfl,⟨nd,rfl⟩⟩))
    go_ret
    exact ⟨by first|rfl|(simp [a_v,a_u] <;> rfl)|(simp [*, a_v,a_u] <;> rfl),by repeat (first|(with_reducible first|exact HB.out|apply a_g|apply a_b|apply a_h|refine a_f ?_ d_b.out|refine a_f ?_ f_t.out)|exact HB.out)⟩
   replace c25:=Bool.eq_false_iff.mpr c25
   subst c25
   have H1 : (if 0 ≤ ((a_d l0_1 x12_1).f4) then (a_P.l0 k1 (Go.bits .or .u32 x3_1 (shl .u32 1 ((a_d l0_1 x12_1).f4))) l0_1 (l0_1.length : Int) (wrap64 (x12_1 + 1))) else (none)) = some r:=by rw [if_neg (show ¬ (false = true) by decide)] at H;exact H
   clear H
   have H:=H1
   clear H1
   by_cases c29 : 0 ≤ ((a_d l0_1 x12_1).f4)
   rotate_left
   ·rw [if_neg c29] at H
    exact absurd H (by simp)
   rw [if_pos c29] at H
   have c29b0:=eq_true c29
   have c29b1 : decide (0 ≤ ((a_d l0_1 x12_1).f4)) = true:=decide_eq_true c29
   clear c29
   obtain ⟨ji30,hji30⟩ : ∃ j_ : Int,(shl .u32 1 ((a_d l0_1 x12_1).f4)) = j_:=⟨_,rfl⟩
   replace H : (a_P.l0 k1 (Go.bits .or .u32 x3_1 (ji30)) l0_1 (l0_1.length : Int) (wrap64 (x12_1 + 1))) = some r:=by first|(rw [hji30] at H;exact H)|(simp only [hji30] at H ⊢; exact H)
   (try rw [hji30] at A22)
   (try rw [hji30] at A24)
   have hji30_ : (IntKind.u32.wrap (1 * 2 ^ min ((a_d l0_1 x12_1).f4).toNat 32)) = ji30:=hji30
   have hji30z : ((a_d l0_1 x12_1).f4) ≤ 32 → (IntKind.u32.wrap (1 * 2 ^ ((a_d l0_1 x12_1).f4).toNat)) = ji30:=g_r hji30
   have hji30u : (IntKind.u32.wrap (2 ^ min ((a_d l0_1 x12_1).f4).toNat 32)) = ji30:=by have h_:=hji30_;rw [Int.one_mul] at h_;exact h_
   have hji30v : ((a_d l0_1 x12_1).f4) ≤ 32 → (IntKind.u32.wrap (2 ^ ((a_d l0_1 x12_1).f4).toNat)) = ji30:=fun hle_ => by have h_:=hji30z hle_;rw [Int.one_mul] at h_;exact h_
   have H':=a_c.mk H
   clear H
   have p162 : 0 ≤ (x12_1 : Int):=of_decide_eq_true (by first|(with_reducible assumption)|assumption)
   have q162 : x12_1 < (l0_1.length : Int):=of_decide_eq_true (by first|(with_reducible assumption)|assumption)
   obtain ⟨ad162,e162,c_p,c_q,c_r,c_s,c_t,b_M,b_N,c_u,c_v,c_w,b_1⟩:=d_F d_h.out x12_1 p162 q162
   (try rw [← Nbq15.out] at b_M)
   (try rw [← Nbq17.out] at b_M)
   (try rw [← Nbq15.out] at b_N)
   (try rw [← Nbq17.out] at b_N)
   cases e162
   replace c_p:=(HB.out.cell (World.block_lt_of_cell? w _ c_p)).trans c_p
   replace c_q:=(HB.out.cell (World.block_lt_of_cell? w _ c_q)).trans c_q
   replace c_r:=(HB.out.cell (World.block_lt_of_cell? w _ c_r)).trans c_r
   replace c_s:=(HB.out.cell (World.block_lt_of_cell? w _ c_s)).trans c_s
   replace c_t:=(HB.out.cell (World.block_lt_of_cell? w _ c_t)).trans c_t
   replace b_M:=(HB.out.cell (World.block_lt_of_cell? w _ b_M)).trans b_M
   replace b_N:=(HB.out.cell (World.block_lt_of_cell? w _ b_N)).trans b_N
   replace c_u:=(HB.out.cell (World.block_lt_of_cell? w _ c_u)).trans c_u
   replace c_v:=(HB.out.cell (World.block_lt_of_cell? w _ c_v)).trans c_v
   replace c_w:=(HB.out.cell (World.block_lt_of_cell? w _ c_w)).trans c_w
   replace b_1:=(HB.out.cell (World.block_lt_of_cell? w _ b_1)).trans b_1
   replace p162:=eq_true p162
   replace q162:=eq_true q162
   go_wp2_with (first|((with_reducible refine a_M (N:=5) rfl ?_);refine a_G ?hg (N:=5) ?hd (cs:=#[.int .i64 0,.int .i64 0,.int .i64 0,.int .i64 0,.int .i64 0,.bool false,.bool false,.int .u32 0,.int .i64 0,.int .i64 0,.int .i64 0]) (t:=65) ?hr ?_;(case hd => rfl);(case hg => rfl);(case hr => first|(go_simp;done)|(go_simp;rfl));intro b_k hg w31 hbox hb;have a_1:=a_c.mk (hbox);have k_e:=a_c.mk ((by rw [hg];exact (a_n (by repeat (first|(with_reducible first|exact HB.out|apply a_g|apply a_b|apply a_h|refine a_f ?_ d_b.out)|exact HB.out))) : w.heap.size ≤ b_k));have f_t:=a_c.mk ((by rw [hg];exact (a_n (by repeat (first|(with_reducible first|exact HB.out|apply a_g|apply a_b|apply a_h|refine a_f ?_ d_b.out)|exact HB.out))) : w.heap.size ≤ b_k));have b_h:=a_c.mk ((by rw [hg];exact Nat.ne_of_lt (a_J (bup_ c_z.out)) : d_u ≠ b_k));have c_X:=a_c.mk ((by rw [hg];exact Nat.ne_of_gt (a_J (bup_ c_z.out)) : b_k ≠ d_u));replace c_z:=a_c.mk (a_m (bup_ c_z.out) hb);replace HB:=a_c.mk (a_o (by repeat (first|(with_reducible first|exact HB.out|apply a_g|apply a_b|apply a_h|refine a_f ?_ d_b.out)|exact HB.out)) hb);clear hb hbox hg;have u_n:=c_X.out;have u_o:=b_h.out;have h_I : w31.cell? ⟨b_k,0,none⟩ = some (.int .i64 0):=(a_a a_1.out 0).trans rfl;have h_J : w31.cell? ⟨b_k,1,none⟩ = some (.int .i64 0):=(a_a a_1.out 1).trans rfl;have s_L : w31.cell? ⟨b_k,2,none⟩ = some (.int .i64 0):=(a_a a_1.out 2).trans rfl;have s_M : w31.cell? ⟨b_k,3,none⟩ = some (.int .i64 0):=(a_a a_1.out 3).trans rfl;have s_N : w31.cell? ⟨b_k,4,none⟩ = some (.int .i64 0):=(a_a a_1.out 4).trans rfl;have s_O : w31.cell? ⟨b_k,5,none⟩ = some (.bool false):=(a_a a_1.out 5).trans rfl;have s_P : w31.cell? ⟨b_k,6,none⟩ = some (.bool false):=(a_a a_1.out 6).trans rfl;have s_Q : w31.cell? ⟨b_k,7,none⟩ = some (.int .u32 0):=(a_a a_1.out 7).trans rfl;have s_R : w31.cell? ⟨b_k,8,none⟩ = some (.int .i64 0):=(a_a a_1.out 8).trans rfl;have s_S : w31.cell? ⟨b_k,9,none⟩ = some (.int .i64 0):=(a_a a_1.out 9).trans rfl;have p_d : w31.cell? ⟨b_k,10,none⟩ = some (.int .i64 0):=(a_a a_1.out 10).trans rfl;have h_K:=a_e a_1.out 0;have h_L:=a_e a_1.out 1;have s_T:=a_e a_1.out 2;have s_U:=a_e a_1.out 3;have s_V:=a_e a_1.out 4;have s_W:=a_e a_1.out 5;have s_X:=a_e a_1.out 6;have s_Y:=a_e a_1.out 7;have s_Z:=a_e a_1.out 8;have s_0:=a_e a_1.out 9;have p_e:=a_e a_1.out 10)|(go_at_call 50;(with_reducible refine (b_J.calls ((a_d l0_1 x12_1).f7) ((a_d l0_1 x12_1).f4) true _ A22.out).mono ?_);rintro e w' ⟨rfl,⟨nd,rfl⟩⟩)|(go_at_call 50;(with_reducible refine (b_J.calls x3_1 ((a_d l0_1 x12_1).f4) false _ A24.out).mono ?_);rintro e w' ⟨rfl,⟨nd,rfl⟩⟩))
   go_roundg k1
   case measure => have:=HK1.out;omega
   case rel => exact ⟨(Go.bits .or .u32 x3_1 (ji30)),(wrap64 (x12_1 + 1)),(by first|rfl|(simp;done)|(simp only [← hji30] <;> (first|rfl|simp))|(simp [*];done)),(by first|rfl|(simp;done)|(simp [*];done)),H',⟨by have:=HK1.out;omega⟩,⟨by (with_reducible repeat (first|refine a_j ?_ _|refine a_l ?_|refine a_i ?_ _));refine a_I ?_ b_h.out _;(with_reducible repeat (first|refine a_j ?_ _|refine a_l ?_|refine a_i ?_ _));refine a_I ?_ b_h.out _;(with_reducible repeat (first|refine a_j ?_ _|refine a_l ?_|refine a_i ?_ _));refine a_I ?_ b_h.out _;(with_reducible repeat (first|refine a_j ?_ _|refine a_l ?_|refine a_i ?_ _));refine a_I ?_ b_h.out _;(with_reducible repeat (first|refine a_j ?_ _|refine a_l ?_|refine a_i ?_ _));refine a_I ?_ b_h.out _;(with_reducible repeat (first|refine a_j ?_ _|refine a_l ?_|refine a_i ?_ _));refine a_I ?_ b_h.out _;(with_reducible repeat (first|refine a_j ?_ _|refine a_l ?_|refine a_i ?_ _));refine a_I ?_ b_h.out _;(with_reducible repeat (first|refine a_j ?_ _|refine a_l ?_|refine a_i ?_ _));refine a_I ?_ b_h.out _;(with_reducible repeat (first|refine a_j ?_ _|refine a_l ?_|refine a_i ?_ _));refine a_I ?_ b_h.out _;(with_reducible repeat (first|refine a_j ?_ _|refine a_l ?_|refine a_i ?_ _));refine a_I ?_ b_h.out _;(with_reducible repeat (first|refine a_j ?_ _|refine a_l ?_|refine a_i ?_ _));refine a_I ?_ b_h.out _;(with_reducible repeat (first|refine a_j ?_ _|refine a_l ?_|refine a_i ?_ _));exact c_z.out⟩,⟨by repeat (first|(with_reducible first|exact HB.out|apply a_g|apply a_b|apply a_h|refine a_f ?_ d_b.out|refine a_f ?_ f_t.out)|exact HB.out)⟩⟩
end Go.Proofs.Ytgglkfilkagblaa.Q
end
section
namespace Go.Proofs.Ytgglkfilkagblaa.Q
open Go.RowKit Go.Proofs.YtgglkfilkagblaaW.PrintWords Go.Proofs.YtgglkfilkagblaaW.PrintLast Go.Proofs.YtgglkfilkagblaaW.PrintMore
set_option linter.unusedVariables false
set_option linter.unusedSimpArgs false
attribute [local go_sem high] p_h
def a_F.f (k : Nat)  : Option (Bool):=(b_d.f).bind fun bt166 => ((a_R.f k ([] : List (S27)) 0 bt166.1 bt166.2).bind fun bt170 => ((c_e.f k bt170.1 bt170.2.1 9).bind fun bt176 => ((a_H.f k bt176.1 bt176.2.1 1 3 9).bind fun bt181 => ((a_W.f k bt176.1 bt176.2.1 2).bind fun bt183 => (if bt170.2.2 = 0 then (if bt176.2.2 = 0 then (if bt181.2 = 0 then (if bt183.2 = 0 then (if bt181.1 = 6 then (if (bt183.1.length : Int) = 1 then (if 0 < (bt183.1.length : Int) then (if (((a_z bt183.1 0).f0) == 0 && (((a_z bt183.1 0).f1) == 9)) = true then ((b_d.f).bind fun bt188 => ((a_P.f k bt188.1 bt188.2).bind fun t192 => (some t192))) else (some false)) else (none)) else (some false)) else (some false)) else (some false)) else (some false)) else (some false)) else (some false))))))
theorem a_F.mono : ∀ k,LeO (a_F.f k ) (a_F.f (k + 1) ):=by
 intro  k
 unfold a_F.f
 repeat' first
  | (with_reducible exact a_R.mono _ _ _ _ _)
  | (with_reducible exact a_P.mono _ _ _)
  | (with_reducible exact c_e.mono _ _ _ _)
  | (with_reducible exact a_H.mono _ _ _ _ _ _)
  | (with_reducible exact a_W.mono _ _ _ _)
  | (with_reducible exact LeO.refl _)
  | (with_reducible exact LeO.none _)
  | (with_reducible refine LeO.ite ?_ ?_)
  | (with_reducible refine LeO.bind ?_ (fun _ => ?_))
  | exact a_R.mono _ _ _ _ _
  | exact a_P.mono _ _ _
  | exact c_e.mono _ _ _ _
  | exact a_H.mono _ _ _ _ _ _
  | exact a_W.mono _ _ _ _
  | exact LeO.none _
  | refine LeO.ite ?_ ?_
  | refine LeO.bind ?_ (fun _ => ?_)
set_option maxHeartbeats 8000000 in
set_option maxRecDepth 100000 in
theorem a_F.calls (k : Nat)  (r : Bool) (w : World) (h : a_F.f k  = some r) :
 Calls Try.prog 7 #[] w fun e w' => e = .returned (.bool r) ∧ Below w.heap.size w w':=by
 have hr : r = true:=Option.some.inj ((e_Z (g:=fun k => a_F.f k) a_F.mono (Nat.le_max_left k 200) h).symm.trans (e_Z (g:=fun k => a_F.f k) a_F.mono (Nat.le_max_right k 200) (show a_F.f 200 = some true by kernel_rfl)))
 have hu24:=Try.underlying24
 have hu46:=Try.underlying46
 have HB:=a_c.mk (Below.refl w.heap.size w)
 have H : ((b_d.f).bind fun bt166 => ((a_R.f k ([] : List (S27)) 0 bt166.1 bt166.2).bind fun bt170 => ((c_e.f k bt170.1 bt170.2.1 9).bind fun bt176 => ((a_H.f k bt176.1 bt176.2.1 1 3 9).bind fun bt181 => ((a_W.f k bt176.1 bt176.2.1 2).bind fun bt183 => (if bt170.2.2 = 0 then (if bt176.2.2 = 0 then (if bt181.2 = 0 then (if bt183.2 = 0 then (if bt181.1 = 6 then (if (bt183.1.length : Int) = 1 then (if 0 < (bt183.1.length : Int) then (if (((a_z bt183.1 0).f0) == 0 && (((a_z bt183.1 0).f1) == 9)) = true then ((b_d.f).bind fun bt188 => ((a_P.f k bt188.1 bt188.2).bind fun t192 => (some t192))) else (some false)) else (none)) else (some false)) else (some false)) else (some false)) else (some false)) else (some false)) else (some false))))))) = some r:=h
 clear h
 replace H:=Option.bind_eq_some_iff.mp H
 obtain ⟨⟨t166,t167⟩,A10,H⟩:=H
 replace H : ((a_R.f k ([] : List (S27)) 0 t166 t167).bind fun bt170 => ((c_e.f k bt170.1 bt170.2.1 9).bind fun bt176 => ((a_H.f k bt176.1 bt176.2.1 1 3 9).bind fun bt181 => ((a_W.f k bt176.1 bt176.2.1 2).bind fun bt183 => (if bt170.2.2 = 0 then (if bt176.2.2 = 0 then (if bt181.2 = 0 then (if bt183.2 = 0 then (if bt181.1 = 6 then (if (bt183.1.length : Int) = 1 then (if 0 < (bt183.1.length : Int) then (if (((a_z bt183.1 0).f0) == 0 && (((a_z bt183.1 0).f1) == 9)) = true then ((b_d.f).bind fun bt188 => ((a_P.f k bt188.1 bt188.2).bind fun t192 => (some t192))) else (some false)) else (none)) else (some false)) else (some false)) else (some false)) else (some false)) else (some false)) else (some false)))))) = some r:=H
 have A1:=a_c.mk A10
 clear A10
 replace H:=Option.bind_eq_some_iff.mp H
 obtain ⟨⟨t170,t173,t174⟩,A20,H⟩:=H
 replace H : ((c_e.f k t170 t173 9).bind fun bt176 => ((a_H.f k bt176.1 bt176.2.1 1 3 9).bind fun bt181 => ((a_W.f k bt176.1 bt176.2.1 2).bind fun bt183 => (if t174 = 0 then (if bt176.2.2 = 0 then (if bt181.2 = 0 then (if bt183.2 = 0 then (if bt181.1 = 6 then (if (bt183.1.length : Int) = 1 then (if 0 < (bt183.1.length : Int) then (if (((a_z bt183.1 0).f0) == 0 && (((a_z bt183.1 0).f1) == 9)) = true then ((b_d.f).bind fun bt188 => ((a_P.f k bt188.1 bt188.2).bind fun t192 => (some t192))) else (some false)) else (none)) else (some false)) else (some false)) else (some false)) else (some false)) else (some false)) else (some false))))) = some r:=H
 have A2:=a_c.mk A20
 clear A20
 replace H:=Option.bind_eq_some_iff.mp H
 obtain ⟨⟨t176,t179,t180⟩,A30,H⟩:=H
 replace H : ((a_H.f k t176 t179 1 3 9).bind fun bt181 => ((a_W.f k t176 t179 2).bind fun bt183 => (if t174 = 0 then (if t180 = 0 then (if bt181.2 = 0 then (if bt183.2 = 0 then (if bt181.1 = 6 then (if (bt183.1.length : Int) = 1 then (if 0 < (bt183.1.length : Int) then (if (((a_z bt183.1 0).f0) == 0 && (((a_z bt183.1 0).f1) == 9)) = true then ((b_d.f).bind fun bt188 => ((a_P.f k bt188.1 bt188.2).bind fun t192 => (some t192))) else (some false)) else (none)) else (some false)) else (some false)) else (some false)) else (some false)) else (some false)) else (some false)))) = some r:=H
 have A3:=a_c.mk A30
 clear A30
 replace H:=Option.bind_eq_some_iff.mp H
 obtain ⟨⟨t181,t182⟩,A40,H⟩:=H
 replace H : ((a_W.f k t176 t179 2).bind fun bt183 => (if t174 = 0 then (if t180 = 0 then (if t182 = 0 then (if bt183.2 = 0 then (if t181 = 6 then (if (bt183.1.length : Int) = 1 then (if 0 < (bt183.1.length : Int) then (if (((a_z bt183.1 0).f0) == 0 && (((a_z bt183.1 0).f1) == 9)) = true then ((b_d.f).bind fun bt188 => ((a_P.f k bt188.1 bt188.2).bind fun t192 => (some t192))) else (some false)) else (none)) else (some false)) else (some false)) else (some false)) else (some false)) else (some false)) else (some false))) = some r:=H
 have A4:=a_c.mk A40
 clear A40
 replace H:=Option.bind_eq_some_iff.mp H
 obtain ⟨⟨t183,t186⟩,A50,H⟩:=H
 replace H : (if t174 = 0 then (if t180 = 0 then (if t182 = 0 then (if t186 = 0 then (if t181 = 6 then (if (t183.length : Int) = 1 then (if 0 < (t183.length : Int) then (if (((a_z t183 0).f0) == 0 && (((a_z t183 0).f1) == 9)) = true then ((b_d.f).bind fun bt188 => ((a_P.f k bt188.1 bt188.2).bind fun t192 => (some t192))) else (some false)) else (none)) else (some false)) else (some false)) else (some false)) else (some false)) else (some false)) else (some false)) = some r:=H
 have A5:=a_c.mk A50
 clear A50
 by_cases c6 : t174 = 0
 rotate_left
 ·rw [if_neg c6] at H
  exact absurd ((Option.some.inj H).trans hr) (by decide)
 rw [if_pos c6] at H
 have c6b0 : (t174 == 0) = true:=beq_iff_eq.mpr c6
 have c6b1 : (t174 != 0) = false:=bne_eq_false_iff_eq.mpr c6
 clear c6
 by_cases c7 : t180 = 0
 rotate_left
 ·rw [if_neg c7] at H
  exact absurd ((Option.some.inj H).trans hr) (by decide)
 rw [if_pos c7] at H
 have c7b0 : (t180 == 0) = true:=beq_iff_eq.mpr c7
 have c7b1 : (t180 != 0) = false:=bne_eq_false_iff_eq.mpr c7
 clear c7
 by_cases c8 : t182 = 0
 rotate_left
 ·rw [if_neg c8] at H
  exact absurd ((Option.some.inj H).trans hr) (by decide)
 rw [if_pos c8] at H
 have c8b0 : (t182 == 0) = true:=beq_iff_eq.mpr c8
 have c8b1 : (t182 != 0) = false:=bne_eq_false_iff_eq.mpr c8
 clear c8
 by_cases c9 : t186 = 0
 rotate_left
 ·rw [if_neg c9] at H
  exact absurd ((Option.some.inj H).trans hr) (by decide)
 rw [if_pos c9] at H
 have c9b0 : (t186 == 0) = true:=beq_iff_eq.mpr c9
 have c9b1 : (t186 != 0) = false:=bne_eq_false_iff_eq.mpr c9
 clear c9
 by_cases c10 : t181 = 6
 rotate_left
 ·rw [if_neg c10] at H
  exact absurd ((Option.some.inj H).trans hr) (by decide)
 rw [if_pos c10] at H
 have c10b0 : (t181 == 6) = true:=beq_iff_eq.mpr c10
 have c10b1 : (t181 != 6) = false:=bne_eq_false_iff_eq.mpr c10
 clear c10
 by_cases c11 : (t183.length : Int) = 1
 rotate_left
 ·rw [if_neg c11] at H
  exact absurd ((Option.some.inj H).trans hr) (by decide)
 rw [if_pos c11] at H
 have c11b0 : ((t183.length : Int) == 1) = true:=beq_iff_eq.mpr c11
 have c11b1 : ((t183.length : Int) != 1) = false:=bne_eq_false_iff_eq.mpr c11
 clear c11
 by_cases c12 : 0 < (t183.length : Int)
 rotate_left
 ·rw [if_neg c12] at H
  exact absurd H (by simp)
 rw [if_pos c12] at H
 have c12b0 : decide (0 < (t183.length : Int)) = true:=decide_eq_true c12
 have c12b1 : decide (0 < t183.length) = true:=decide_eq_true (by omega)
 clear c12
 by_cases c13 : (((a_z t183 0).f0) == 0 && (((a_z t183 0).f1) == 9)) = true
 rotate_left
 ·rw [if_neg c13] at H
  exact absurd ((Option.some.inj H).trans hr) (by decide)
 rw [if_pos c13] at H
 have c13b0 : (((a_z t183 0).f0) == 0 && (((a_z t183 0).f1) == 9)) = true:=c13
 (try (have c13b1 : decide (((a_z t183 0).f0) = 0 && (((a_z t183 0).f1) == 9)) = true:=by simpa using c13))
 (try (have c13b2 : (((a_z t183 0).f0) == 0 && (((a_z t183 0).f1) == 9)) = true:=by simpa using c13))
 clear c13
 replace H:=Option.bind_eq_some_iff.mp H
 obtain ⟨⟨t188,t189⟩,A140,H⟩:=H
 replace H : ((a_P.f k t188 t189).bind fun t192 => (some t192)) = some r:=H
 have A14:=a_c.mk A140
 clear A140
 replace H:=Option.bind_eq_some_iff.mp H
 obtain ⟨t192,A150,H⟩:=H
 replace H : (some t192) = some r:=H
 have A15:=a_c.mk A150
 clear A150
 obtain rfl:=Option.some.inj H
 go_enter Try.func7,Try.ntmps7
 go_wp2_with (first|((with_reducible refine b_a (f:=22) rfl ?_);refine c_K (some 10) rfl rfl Try.func22 (by kernel_rfl) rfl #[] rfl (by (try simp only [List.map_toArray,List.map_cons,List.map_nil]);first|done|rfl|(simp only [List.length_drop,List.length_take];rfl)) ?_;(with_reducible refine (b_d.calls  t166 t167 _ A1.out).mono ?_);rintro e w16 ⟨v168,rfl,ho0,hb⟩;refine ⟨_,rfl,?_⟩;have d_Z:=a_c.mk (Kd.d_v ho0 (a_n (lup_ HB.out)));replace HB:=a_c.mk (a_o (lup_ HB.out) hb);(try clear hb);(try clear hb2);(try clear hk);(try clear hi);(try clear ho0);obtain ⟨Ao17,co17,eo17⟩:=Kd.d_7 d_Z.out;subst eo17)|((with_reducible refine b_a (f:=10) rfl ?_);refine c_K (some 11) rfl rfl Try.func10 (by kernel_rfl) rfl #[.agg #[.slice none 0 0,.int .i64 0],.agg #[.int .i64 t166,.slice Ao17 t167.length co17]] rfl (by (try simp only [List.map_toArray,List.map_cons,List.map_nil]);first|done|rfl|(simp only [List.length_drop,List.length_take];rfl)) ?_;(refine (a_R.calls k (fun k_ => False) _ _ ([] : List (S27)) 0 t166 (fun k_ => some k_ = (.slice Ao17 t167.length co17 : Value).ownBlock) _ _ t167 t170 t173 t174 _ ?side1 ?side2 A2.out).mono ?_);(case side1 => exact Kd.f_R _ _ _ _ _);(case side2 => exact Kd.R_V (Kd.i_N rfl (d_Z.out)));rintro e w18 ⟨v171,rfl,ho0,hb⟩;refine ⟨_,rfl,?_⟩;have e_f:=a_c.mk (Kd.g_Q (Kd.d_1 (ok':=fun k_ => True) ho0 (fun k_ hk_ => trivial)) (a_n (lup_ HB.out)));replace d_Z:=a_c.mk (Kd.a_T (rup_ d_Z.out) hb);replace HB:=a_c.mk (a_o (lup_ HB.out) hb);(try clear hb);(try clear hb2);(try clear hk);(try clear hi);(try clear ho0))|((with_reducible refine a_M (N:=1) rfl ?_);(try (refine i_g (by rfl) ?_;dsimp only));refine a_G ?hg (N:=1) ?hd (cs:=#[.slice none 0 0,.int .i64 0]) (t:=24) ?hr ?_;(case hd => rfl);(case hg => rfl);(case hr => first|(go_simp;done)|(go_simp;rfl));intro c_T hg w19 hbox hb;have c_7:=a_c.mk (hbox);have u_p:=a_c.mk ((by rw [hg];exact (a_n (lup_ HB.out)) : w.heap.size ≤ c_T));have f_H:=a_c.mk ((by rw [hg];exact (a_n (lup_ HB.out)) : w.heap.size ≤ c_T));replace d_Z:=a_c.mk (Kd.a_T (rup_ d_Z.out) hb);replace e_f:=a_c.mk (Kd.d_2 (Kd.l_H (by (with_reducible repeat (first|apply Kd.c_3|apply Kd.c_4|apply Kd.d_c));exact e_f.out) c_T (Nat.le_of_eq hg.symm)) hb);replace HB:=a_c.mk (a_o (lup_ HB.out) hb);clear hb hbox hg;obtain ⟨Ao20,co20,eo20⟩:=Kd.e_9 e_f.out;subst eo20;have j_1 : w19.cell? ⟨c_T,0,none⟩ = some (.slice none 0 0):=(a_a c_7.out 0).trans rfl;have j_2 : w19.cell? ⟨c_T,1,none⟩ = some (.int .i64 0):=(a_a c_7.out 1).trans rfl;have j_3:=a_e c_7.out 0;have j_4:=a_e c_7.out 1)|((with_reducible refine i_f (t:=24) (p:=1) rfl ?_);refine g_X (t:=24) (p:=1) (v:=?vo_w22) (w1:=((w19.setCell ⟨c_T,0,none⟩ (.slice Ao20 t170.length co20)).setCell ⟨c_T,1,none⟩ (.int .i64 t173))) ?hg ?ho ?hn ?hr ?_;(case ho => rfl);(case hg => rfl);(case hn => rfl);(case hr => first|(go_simp;done)|(go_simp;rfl));intro w22 hw;replace d_Z : a_c (Kd.R k65 65 w22 w.heap.size (fun _ => True) (.slice Ao17 t167.length co17) t167):=⟨(by rw [hw];exact (by (with_reducible repeat (first|apply Kd.b_q|apply Kd.b_r|apply Kd.b_K));exact Kd.a_3 (Kd.b_B (p:=⟨c_T,1,none⟩) (Kd.b_B (p:=⟨c_T,0,none⟩) (Kd.i_K d_Z.out c_7.out (by decide)) (fun _ hk => hk.2) (.slice Ao20 t170.length co20)) (fun _ hk => hk.2) (.int .i64 t173)) (fun _ hk => trivial)))⟩;replace e_f : a_c (Kd.N k27 27 w22 w.heap.size (fun k_ => k_ ≠ c_T) (.slice Ao20 t170.length co20) t170):=⟨(by rw [hw];exact (by (with_reducible repeat (first|apply Kd.c_3|apply Kd.c_4|apply Kd.d_c));exact Kd.d_1 (Kd.g_w (p:=⟨c_T,1,none⟩) (Kd.g_w (p:=⟨c_T,0,none⟩) (Kd.d_1 e_f.out (fun k_ hk => (⟨hk,hk.2⟩ : _ ∧ k_ ≠ c_T))) (fun _ hk => hk.2) (.slice Ao20 t170.length co20)) (fun _ hk => hk.2) (.int .i64 t173)) (fun _ hk => hk.1.2)))⟩;replace c_7 : a_c (w22.heap[c_T]? = some (.cells #[.slice Ao20 t170.length co20,.int .i64 t173] 24 (0,0))):=⟨(by rw [hw];exact (by (with_reducible repeat (first|refine a_j ?_ _|refine a_l ?_|refine a_i ?_ _));refine a_E (cs:=#[.slice Ao20 t170.length co20,.int .i64 0]) ?_ 1 _ rfl;(with_reducible repeat (first|refine a_j ?_ _|refine a_l ?_|refine a_i ?_ _));refine a_E (cs:=#[.slice none 0 0,.int .i64 0]) ?_ 0 _ rfl;(with_reducible repeat (first|refine a_j ?_ _|refine a_l ?_|refine a_i ?_ _));exact c_7.out))⟩;replace HB : a_c (Below w.heap.size w w22):=⟨(by rw [hw];exact (by repeat (first|(with_reducible first|exact HB.out|apply a_g|apply a_b|apply a_h|refine a_f ?_ f_H.out)|exact HB.out)))⟩;clear hw;have n_k : w22.cell? ⟨c_T,0,none⟩ = some (.slice Ao20 t170.length co20):=(a_a c_7.out 0).trans rfl;have n_l : w22.cell? ⟨c_T,1,none⟩ = some (.int .i64 t173):=(a_a c_7.out 1).trans rfl;have n_m:=a_e c_7.out 0;have n_n:=a_e c_7.out 1)|((with_reducible refine b_a (f:=11) rfl ?_);refine c_K (some 16) rfl rfl Try.func11 (by kernel_rfl) rfl #[.agg #[.slice Ao20 t170.length co20,.int .i64 t173],.int .i64 9] rfl (by (try simp only [List.map_toArray,List.map_cons,List.map_nil]);first|done|rfl|(simp only [List.length_drop,List.length_take];rfl)) ?_;(with_reducible refine (c_e.calls k (fun k_ => k_ ≠ c_T) _ _ t170 t173 9 t176 t179 t180 _ ?side1 A3.out).mono ?_);(case side1 => exact Kd.N_V (e_f.out));rintro e w24 ⟨v177,rfl,ho0,hb⟩;refine ⟨_,rfl,?_⟩;have e_N:=a_c.mk (Kd.l_5 (Kd.c_O (ok':=fun k_ => k_ ≠ c_T) ho0 (fun k_ hk_ => Or.elim hk_ (fun hs_ => hs_) (fun hn_ => (Kd.e_g (g:=c_T) (o:=.cells #[.slice Ao20 t170.length co20,.int .i64 t173] 24 (0,0)) (bup_ c_7.out) k_ hn_)))) (a_n (by repeat (first|(with_reducible first|exact HB.out|apply a_g|apply a_b|apply a_h|refine a_f ?_ f_H.out)|exact HB.out))));replace d_Z:=a_c.mk (Kd.a_T (rup_ d_Z.out) hb);replace e_f:=a_c.mk (Kd.d_2 (by (with_reducible repeat (first|apply Kd.c_3|apply Kd.c_4|apply Kd.d_c));exact e_f.out) hb);replace c_7:=a_c.mk (a_m (bup_ c_7.out) hb);replace HB:=a_c.mk (a_o (by repeat (first|(with_reducible first|exact HB.out|apply a_g|apply a_b|apply a_h|refine a_f ?_ f_H.out)|exact HB.out)) hb);(try clear hb);(try clear hb2);(try clear hk);(try clear hi);(try clear ho0);obtain ⟨Ao25,co25,eo25⟩:=Kd.m_d e_N.out;subst eo25;have j_N : w24.cell? ⟨c_T,0,none⟩ = some (.slice Ao20 t170.length co20):=(a_a c_7.out 0).trans rfl;have j_O : w24.cell? ⟨c_T,1,none⟩ = some (.int .i64 t173):=(a_a c_7.out 1).trans rfl;have j_P:=a_e c_7.out 0;have j_Q:=a_e c_7.out 1)|((with_reducible refine b_a (f:=16) rfl ?_);refine c_K (some 21) rfl rfl Try.func16 (by kernel_rfl) rfl #[.agg #[.slice Ao25 t176.length co25,.int .i64 t179],.int .i64 1,.int .i64 3,.int .i64 9] rfl (by (try simp only [List.map_toArray,List.map_cons,List.map_nil]);first|done|rfl|(simp only [List.length_drop,List.length_take];rfl)) ?_;(with_reducible refine (a_H.calls k _ _ t176 t179 1 3 9 t181 t182 _ ?side1 ?side2 A4.out).mono ?_);(case side1 => refine (Kd.b_C (e:=27) (base:=w.heap.size) (ok:=fun k_ => k_ ≠ c_T) (n:=t176.length) (c:=co25) ?_).2.2;exact (by (with_reducible repeat (first|apply Kd.a_Z|apply Kd.a_0|apply Kd.a_6));exact (Kd.c_O (Kd.g_V (p:=⟨c_T,1,none⟩) (Kd.g_V (p:=⟨c_T,0,none⟩) (Kd.c_O e_N.out (fun k_ hk => (⟨hk,hk⟩ : _ ∧ k_ ≠ c_T))) (fun _ hk => hk.2) (.slice Ao25 t176.length co25)) (fun _ hk => hk.2) (.int .i64 t179)) (fun _ h_ => h_.1))));(case side2 => exact (Kd.b_C e_N.out).2.1);rintro e w27 ⟨rfl,hb⟩;refine ⟨_,rfl,?_⟩;replace d_Z:=a_c.mk (Kd.a_T (by (with_reducible repeat (first|apply Kd.b_q|apply Kd.b_r|apply Kd.b_K));exact (Kd.a_3 (Kd.b_B (p:=⟨c_T,1,none⟩) (Kd.b_B (p:=⟨c_T,0,none⟩) (Kd.i_K d_Z.out c_7.out (by decide)) (fun _ hk => hk.2) (.slice Ao25 t176.length co25)) (fun _ hk => hk.2) (.int .i64 t179)) (fun _ h_ => h_.1))) hb);replace e_f:=a_c.mk (Kd.d_2 (by (with_reducible repeat (first|apply Kd.c_3|apply Kd.c_4|apply Kd.d_c));exact (Kd.d_1 (Kd.g_w (p:=⟨c_T,1,none⟩) (Kd.g_w (p:=⟨c_T,0,none⟩) (Kd.d_1 e_f.out (fun k_ hk => (⟨hk,hk⟩ : _ ∧ k_ ≠ c_T))) (fun _ hk => hk.2) (.slice Ao25 t176.length co25)) (fun _ hk => hk.2) (.int .i64 t179)) (fun _ h_ => h_.1))) hb);replace e_N:=a_c.mk (Kd.b_c (by (with_reducible repeat (first|apply Kd.a_Z|apply Kd.a_0|apply Kd.a_6));exact (Kd.c_O (Kd.g_V (p:=⟨c_T,1,none⟩) (Kd.g_V (p:=⟨c_T,0,none⟩) (Kd.c_O e_N.out (fun k_ hk => (⟨hk,hk⟩ : _ ∧ k_ ≠ c_T))) (fun _ hk => hk.2) (.slice Ao25 t176.length co25)) (fun _ hk => hk.2) (.int .i64 t179)) (fun _ h_ => h_.1))) hb);replace c_7:=a_c.mk (a_m (g:=c_T) (o:=.cells #[.slice Ao25 t176.length co25,.int .i64 t179] 24 (0,0)) (by (with_reducible repeat (first|refine a_j ?_ _|refine a_l ?_|refine a_i ?_ _));refine a_E (cs:=#[.slice Ao25 t176.length co25,.int .i64 t173]) ?_ 1 _ rfl;(with_reducible repeat (first|refine a_j ?_ _|refine a_l ?_|refine a_i ?_ _));refine a_E (cs:=#[.slice Ao20 t170.length co20,.int .i64 t173]) ?_ 0 _ rfl;(with_reducible repeat (first|refine a_j ?_ _|refine a_l ?_|refine a_i ?_ _));exact c_7.out) hb);replace HB:=a_c.mk (a_o (by repeat (first|(with_reducible first|exact HB.out|apply a_g|apply a_b|apply a_h|refine a_f ?_ f_H.out)|exact HB.out)) hb);(try clear hb);(try clear hb2);(try clear hk);(try clear hi);have f_3 : w27.cell? ⟨c_T,0,none⟩ = some (.slice Ao25 t176.length co25):=(a_a c_7.out 0).trans rfl;have f_4 : w27.cell? ⟨c_T,1,none⟩ = some (.int .i64 t179):=(a_a c_7.out 1).trans rfl;have f_5:=a_e c_7.out 0;have f_6:=a_e c_7.out 1)|((with_reducible refine b_a (f:=17) rfl ?_);refine c_K (some 26) rfl rfl Try.func17 (by kernel_rfl) rfl #[.agg #[.slice Ao25 t176.length co25,.int .i64 t179],.int .i64 2] rfl (by (try simp only [List.map_toArray,List.map_cons,List.map_nil]);first|done|rfl|(simp only [List.length_drop,List.length_take];rfl)) ?_;(with_reducible refine (a_W.calls k _ _ t176 t179 2 t183 t186 _ ?side1 ?side2 A5.out).mono ?_);(case side1 => repeat (first|exact (Kd.b_C e_N.out).2.2|(with_reducible refine Kd.a_8 ?_ _)|(with_reducible refine Kd.a_7 ?_ _)|(with_reducible refine Kd.b_t ?_)));(case side2 => exact (Kd.b_C e_N.out).2.1);rintro e w29 ⟨v184,rfl,ho0,hb⟩;refine ⟨_,rfl,?_⟩;have i_q:=a_c.mk (Kd.d_v ho0 (a_n (by repeat (first|(with_reducible first|exact HB.out|apply a_g|apply a_b|apply a_h|refine a_f ?_ f_H.out)|exact HB.out))));replace d_Z:=a_c.mk (Kd.a_T (rup_ d_Z.out) hb);replace e_f:=a_c.mk (Kd.h_Y (by (with_reducible repeat (first|apply Kd.c_3|apply Kd.c_4|apply Kd.d_c));exact e_f.out) (Kd.f_N ho0) hb);replace e_N:=a_c.mk (Kd.e_q (by (with_reducible repeat (first|apply Kd.a_Z|apply Kd.a_0|apply Kd.a_6));exact e_N.out) (Kd.f_N ho0) hb);replace c_7:=a_c.mk (a_m (bup_ c_7.out) hb);replace HB:=a_c.mk (a_o (by repeat (first|(with_reducible first|exact HB.out|apply a_g|apply a_b|apply a_h|refine a_f ?_ f_H.out)|exact HB.out)) hb);(try clear hb);(try clear hb2);(try clear hk);(try clear hi);(try clear ho0);obtain ⟨Ao30,co30,eo30⟩:=Kd.d_7 i_q.out;subst eo30;have p187 : 0 ≤ (0 : Int):=(by omega);have q187 : 0 < (t183.length : Int):=of_decide_eq_true (by first|(with_reducible assumption)|assumption);obtain ⟨ad187,e187,h_N,h_O⟩:=d_J (Kd.c_b i_q.out).2.2 0 p187 q187;cases e187;have qi187 : (0 < t183.length) = True:=eq_true (by omega);(try rw [show ((0 : Int)).toNat = 0 from rfl] at h_N);(try rw [show 0 * 2 = 0 from rfl] at h_N);(try rw [Addr.add_zero'] at h_N);(try rw [show ((0 : Int)).toNat = 0 from rfl] at h_O);(try rw [show 0 * 2 = 0 from rfl] at h_O);(try rw [Addr.add_zero'] at h_O);replace p187:=eq_true p187;replace q187:=eq_true q187)|(go_at_call 22;(with_reducible refine (b_d.calls  t188 t189 _ A14.out).mono ?_);rintro e w31 ⟨v190,rfl,ho0,hb⟩;have k_f:=a_c.mk (Kd.d_v (Kd.n_U ho0 (Kd.R_lt (rup_ d_Z.out))) (a_n (by repeat (first|(with_reducible first|exact HB.out|apply a_g|apply a_b|apply a_h|refine a_f ?_ f_H.out)|exact HB.out))));replace d_Z:=a_c.mk (Kd.l_A (rup_ d_Z.out) (Kd.f_N ho0) hb);replace e_f:=a_c.mk (Kd.h_Y (by (with_reducible repeat (first|apply Kd.c_3|apply Kd.c_4|apply Kd.d_c));exact e_f.out) (Kd.f_N ho0) hb);replace e_N:=a_c.mk (Kd.e_q (by (with_reducible repeat (first|apply Kd.a_Z|apply Kd.a_0|apply Kd.a_6));exact e_N.out) (Kd.f_N ho0) hb);replace i_q:=a_c.mk (Kd.a_T (rup_ i_q.out) hb);replace c_7:=a_c.mk (a_m (bup_ c_7.out) hb);replace HB:=a_c.mk (a_o (by repeat (first|(with_reducible first|exact HB.out|apply a_g|apply a_b|apply a_h|refine a_f ?_ f_H.out)|exact HB.out)) hb);(try clear hb);(try clear hb2);(try clear hk);(try clear hi);(try clear ho0);obtain ⟨Ao32,co32,eo32⟩:=Kd.d_7 k_f.out;subst eo32)|(go_at_call 23;(with_reducible refine (a_P.calls k t188 _ _ t189 t192 _ ?side1 ?side2 A15.out).mono ?_);(case side1 => repeat (first|exact (Kd.c_b k_f.out).2.2|(with_reducible refine Kd.a_8 ?_ _)|(with_reducible refine Kd.a_7 ?_ _)|(with_reducible refine Kd.b_t ?_)));(case side2 => exact (Kd.c_b k_f.out).2.1);rintro e w33 ⟨rfl,hb⟩;replace d_Z:=a_c.mk (Kd.a_T (rup_ d_Z.out) hb);replace e_f:=a_c.mk (Kd.d_2 (by (with_reducible repeat (first|apply Kd.c_3|apply Kd.c_4|apply Kd.d_c));exact e_f.out) hb);replace e_N:=a_c.mk (Kd.b_c (by (with_reducible repeat (first|apply Kd.a_Z|apply Kd.a_0|apply Kd.a_6));exact e_N.out) hb);replace i_q:=a_c.mk (Kd.a_T (rup_ i_q.out) hb);replace k_f:=a_c.mk (Kd.a_T (rup_ k_f.out) hb);replace c_7:=a_c.mk (a_m (bup_ c_7.out) hb);replace HB:=a_c.mk (a_o (by repeat (first|(with_reducible first|exact HB.out|apply a_g|apply a_b|apply a_h|refine a_f ?_ f_H.out)|exact HB.out)) hb);(try clear hb);(try clear hb2);(try clear hk);(try clear hi)))
 go_ret
 exact ⟨by first|rfl|(simp [a_v,a_u] <;> rfl)|(simp [*, a_v,a_u] <;> rfl),by repeat (first|(with_reducible first|exact HB.out|apply a_g|apply a_b|apply a_h|refine a_f ?_ f_H.out)|exact HB.out)⟩
end Go.Proofs.Ytgglkfilkagblaa.Q
end
section
namespace Go.Proofs.Ytgglkfilkagblaa.Q
open Go.RowKit Go.Proofs.YtgglkfilkagblaaW.PrintWords Go.Proofs.YtgglkfilkagblaaW.PrintLast Go.Proofs.YtgglkfilkagblaaW.PrintMore
set_option linter.unusedVariables false
set_option linter.unusedSimpArgs false
def a_A.l0 : Nat → List (S27) → Int → Int → Option (Bool)
 | 0,_,_,_ => none
 | k + 1,x10,x11,x12 => if x12 < x11 then (if 0 ≤ x12 then (if x12 < (x10.length : Int) then (if (((a_p x10 x12).f1).length : Int) > 30 then (some true) else (a_A.l0 k x10 x11 (wrap64 (x12 + 1)))) else (none)) else (none)) else (some false)
def a_A.f (k : Nat) (l0_0 : List (S27)) (a0_1 : Int) : Option (Bool):=if (l0_0.length : Int) > 120 then (some true) else (a_A.l0 k l0_0 (l0_0.length : Int) 0)
theorem a_A.c_8 : ∀ k,(∀ y0 y1 y2,LeO (a_A.l0 k y0 y1 y2) (a_A.l0 (k + 1) y0 y1 y2))
 | 0 => fun _ _ _ r h => by simp [a_A.l0] at h
 | k + 1 => by
  have ih0:=a_A.c_8 k
  ·intro y0 y1 y2
   unfold a_A.l0
   repeat' first
   | (with_reducible exact ih0 _ _ _)
   | (with_reducible exact LeO.refl _)
   | (with_reducible exact LeO.none _)
   | (with_reducible refine LeO.ite ?_ ?_)
   | (with_reducible refine LeO.bind ?_ (fun _ => ?_))
   | exact ih0 _ _ _
   | exact LeO.none _
   | refine LeO.ite ?_ ?_
   | refine LeO.bind ?_ (fun _ => ?_)
theorem a_A.mono : ∀ a0 a1 k,LeO (a_A.f k a0 a1) (a_A.f (k + 1) a0 a1):=by
 intro a0 a1 k
 have ih0:=a_A.c_8 k
 unfold a_A.f
 repeat' first
  | (with_reducible exact ih0 _ _ _)
  | (with_reducible exact LeO.refl _)
  | (with_reducible exact LeO.none _)
  | (with_reducible refine LeO.ite ?_ ?_)
  | (with_reducible refine LeO.bind ?_ (fun _ => ?_))
  | exact ih0 _ _ _
  | exact LeO.none _
  | refine LeO.ite ?_ ?_
  | refine LeO.bind ?_ (fun _ => ?_)
set_option maxHeartbeats 8000000 in
set_option maxRecDepth 100000 in
theorem a_A.calls (k : Nat) (A0_0 : Option Addr) (c0_0 : Nat) (l0_0 : List (S27)) (a0_1 : Int) (r : Bool) (w : World) (hr0_0 : Kd.C k27 w A0_0 l0_0.length l0_0) (hc0_0 : l0_0.length ≤ c0_0) (h : a_A.f k l0_0 a0_1 = some r) :
 Calls Try.prog 8 #[.agg #[.slice A0_0 l0_0.length c0_0,.int .i64 a0_1]] w fun e w' => e = .returned (.bool r) ∧ Below w.heap.size w w':=by
 have hu24:=Try.underlying24
 have hu27:=Try.underlying27
 have b_5:=a_c.mk hr0_0
 have c_y:=a_c.mk hc0_0
 clear hr0_0 hc0_0
 have HB:=a_c.mk (Below.refl w.heap.size w)
 have H : (if (l0_0.length : Int) > 120 then (some true) else (a_A.l0 k l0_0 (l0_0.length : Int) 0)) = some r:=h
 clear h
 by_cases c2 : (l0_0.length : Int) > 120
 ·rw [if_pos c2] at H
  have c2b0 : decide (120 < (l0_0.length : Int)) = true:=decide_eq_true c2
  have c2b1 : decide (120 < l0_0.length) = true:=decide_eq_true (by omega)
  clear c2
  obtain rfl:=Option.some.inj H
  go_enter Try.func8,Try.ntmps8
  go_wp2_with (first|((with_reducible refine a_M (N:=1) rfl ?_);refine a_G ?hg (N:=1) ?hd (cs:=#[.slice A0_0 l0_0.length c0_0,.int .i64 a0_1]) (t:=24) ?hr ?_;(case hd => rfl);(case hg => rfl);(case hr => first|(go_simp;done)|(go_simp;rfl));intro e_v hg w3 hbox hb;have d_M:=a_c.mk (hbox);have s_1:=a_c.mk ((by rw [hg];exact (a_n (lup_ HB.out)) : w.heap.size ≤ e_v));have e_U:=a_c.mk ((by rw [hg];exact (a_n (lup_ HB.out)) : w.heap.size ≤ e_v));replace HB:=a_c.mk (a_o (lup_ HB.out) hb);clear hb hbox hg;have o_v : w3.cell? ⟨e_v,0,none⟩ = some (.slice A0_0 l0_0.length c0_0):=(a_a d_M.out 0).trans rfl;have o_w : w3.cell? ⟨e_v,1,none⟩ = some (.int .i64 a0_1):=(a_a d_M.out 1).trans rfl;have o_x:=a_e d_M.out 0;have o_y:=a_e d_M.out 1))
  go_ret
  exact ⟨by first|rfl|(simp [a_v,a_u] <;> rfl)|(simp [*, a_v,a_u] <;> rfl),by repeat (first|(with_reducible first|exact HB.out|apply a_g|apply a_b|apply a_h|refine a_f ?_ e_U.out)|exact HB.out)⟩
 rw [if_neg c2] at H
 have c2b0 : decide (120 < (l0_0.length : Int)) = false:=decide_eq_false c2
 have c2b1 : decide (120 < l0_0.length) = false:=decide_eq_false (by omega)
 clear c2
 have H':=a_c.mk H
 clear H
 go_enter Try.func8,Try.ntmps8
 go_wp2_with (first|((with_reducible refine a_M (N:=1) rfl ?_);refine a_G ?hg (N:=1) ?hd (cs:=#[.slice A0_0 l0_0.length c0_0,.int .i64 a0_1]) (t:=24) ?hr ?_;(case hd => rfl);(case hg => rfl);(case hr => first|(go_simp;done)|(go_simp;rfl));intro e_v hg w5 hbox hb;have d_M:=a_c.mk (hbox);have s_1:=a_c.mk ((by rw [hg];exact (a_n (lup_ HB.out)) : w.heap.size ≤ e_v));have e_U:=a_c.mk ((by rw [hg];exact (a_n (lup_ HB.out)) : w.heap.size ≤ e_v));replace HB:=a_c.mk (a_o (lup_ HB.out) hb);clear hb hbox hg;have o_z : w5.cell? ⟨e_v,0,none⟩ = some (.slice A0_0 l0_0.length c0_0):=(a_a d_M.out 0).trans rfl;have o_A : w5.cell? ⟨e_v,1,none⟩ = some (.int .i64 a0_1):=(a_a d_M.out 1).trans rfl;have o_B:=a_e d_M.out 0;have o_C:=a_e d_M.out 1))
 go_loopg [12] k (fun kq v12 w' => ∃ (x12_1 : Int),v12 = .int .i64 x12_1 ∧ a_c (a_A.l0 kq l0_0 (l0_0.length : Int) x12_1 = some r) ∧ a_c (kq ≤ k) ∧ a_c (w'.heap[e_v]? = some (.cells #[(.slice A0_0 l0_0.length c0_0),.int .i64 a0_1] 24 (0,0))) ∧ a_c (Below w.heap.size w w'))
 case atStart => exact ⟨(0),(by first|rfl|(simp;done)|(simp [*];done)),H',⟨Nat.le_refl _⟩,⟨by (with_reducible repeat (first|refine a_j ?_ _|refine a_l ?_|refine a_i ?_ _));exact d_M.out⟩,⟨by repeat (first|(with_reducible first|exact HB.out|apply a_g|apply a_b|apply a_h|refine a_f ?_ e_U.out)|exact HB.out)⟩⟩
 case round =>
  clear H'
  try clear c2
  try clear c2b0
  try clear c2b1
  try clear p2
  try clear o_v
  try clear o_w
  try clear o_z
  try clear o_A
  try clear o_x
  try clear o_y
  try clear o_B
  try clear o_C
  obtain ⟨x12_1,rfl,HA,HK1,d_M,HB⟩:=hrel
  cases gk with
  | zero => exact absurd HA.out (by simp [a_A.l0])
  | succ k1 =>
   have H:=HA.out
   clear HA
   simp only [a_A.l0] at H
   by_cases c7 : x12_1 < (l0_0.length : Int)
   rotate_left
   ·rw [if_neg c7] at H
    have c7b0 : decide (x12_1 < (l0_0.length : Int)) = false:=decide_eq_false c7
    clear c7
    obtain rfl:=Option.some.inj H
    go_wp2
    go_ret
    exact ⟨by first|rfl|(simp [a_v,a_u] <;> rfl)|(simp [*, a_v,a_u] <;> rfl),by repeat (first|(with_reducible first|exact HB.out|apply a_g|apply a_b|apply a_h|refine a_f ?_ e_U.out)|exact HB.out)⟩
   rw [if_pos c7] at H
   have c7b0 : decide (x12_1 < (l0_0.length : Int)) = true:=decide_eq_true c7
   clear c7
   by_cases c8 : 0 ≤ x12_1
   rotate_left
   ·rw [if_neg c8] at H
    exact absurd H (by simp)
   rw [if_pos c8] at H
   have c8b0 : decide (0 ≤ x12_1) = true:=decide_eq_true c8
   clear c8
   by_cases c9 : x12_1 < (l0_0.length : Int)
   rotate_left
   ·rw [if_neg c9] at H
    exact absurd H (by simp)
   rw [if_pos c9] at H
   have c9b0 : decide (x12_1 < (l0_0.length : Int)) = true:=decide_eq_true c9
   clear c9
   by_cases c10 : (((a_p l0_0 x12_1).f1).length : Int) > 30
   ·rw [if_pos c10] at H
    have c10b0 : decide (30 < (((a_p l0_0 x12_1).f1).length : Int)) = true:=decide_eq_true c10
    have c10b1 : decide (30 < ((a_p l0_0 x12_1).f1).length) = true:=decide_eq_true (by omega)
    clear c10
    obtain rfl:=Option.some.inj H
    have p194 : 0 ≤ (x12_1 : Int):=of_decide_eq_true (by first|(with_reducible assumption)|assumption)
    have q194 : x12_1 < (l0_0.length : Int):=of_decide_eq_true (by first|(with_reducible assumption)|assumption)
    obtain ⟨ad194,A194_1,c194_1,e194,e_j,e_k,f_u,f_v⟩:=d_K b_5.out x12_1 p194 q194
    cases e194
    replace e_j:=(HB.out.cell (World.block_lt_of_cell? w _ e_j)).trans e_j
    replace e_k:=(HB.out.cell (World.block_lt_of_cell? w _ e_k)).trans e_k
    have n_D:=a_c.mk f_v
    have n_E:=a_c.mk f_u
    clear f_v f_u
    replace p194:=eq_true p194
    replace q194:=eq_true q194
    go_wp2_with (first|((with_reducible refine a_M (N:=4) rfl ?_);refine a_G ?hg (N:=4) ?hd (cs:=#[.int .i64 0,.slice none 0 0]) (t:=27) ?hr ?_;(case hd => rfl);(case hg => rfl);(case hr => first|(go_simp;done)|(go_simp;rfl));intro e_O hg w11 hbox hb;have g_h:=a_c.mk (hbox);have s_2:=a_c.mk ((by rw [hg];exact (a_n (by repeat (first|(with_reducible first|exact HB.out|apply a_g|apply a_b|apply a_h|refine a_f ?_ e_U.out)|exact HB.out))) : w.heap.size ≤ e_O));have n_F:=a_c.mk ((by rw [hg];exact (a_n (by repeat (first|(with_reducible first|exact HB.out|apply a_g|apply a_b|apply a_h|refine a_f ?_ e_U.out)|exact HB.out))) : w.heap.size ≤ e_O));have e_b:=a_c.mk ((by rw [hg];exact Nat.ne_of_lt (a_J (bup_ d_M.out)) : e_v ≠ e_O));have f_w:=a_c.mk ((by rw [hg];exact Nat.ne_of_gt (a_J (bup_ d_M.out)) : e_O ≠ e_v));replace d_M:=a_c.mk (a_m (bup_ d_M.out) hb);replace HB:=a_c.mk (a_o (by repeat (first|(with_reducible first|exact HB.out|apply a_g|apply a_b|apply a_h|refine a_f ?_ e_U.out)|exact HB.out)) hb);clear hb hbox hg;have o_o:=f_w.out;have o_p:=e_b.out;have f_b : w11.cell? ⟨e_O,0,none⟩ = some (.int .i64 0):=(a_a g_h.out 0).trans rfl;have f_c : w11.cell? ⟨e_O,1,none⟩ = some (.slice none 0 0):=(a_a g_h.out 1).trans rfl;have f_d:=a_e g_h.out 0;have f_e:=a_e g_h.out 1))
    go_ret
    exact ⟨by first|rfl|(simp [a_v,a_u] <;> rfl)|(simp [*, a_v,a_u] <;> rfl),by repeat (first|(with_reducible first|exact HB.out|apply a_g|apply a_b|apply a_h|refine a_f ?_ e_U.out|refine a_f ?_ n_F.out)|exact HB.out)⟩
   rw [if_neg c10] at H
   have c10b0 : decide (30 < (((a_p l0_0 x12_1).f1).length : Int)) = false:=decide_eq_false c10
   have c10b1 : decide (30 < ((a_p l0_0 x12_1).f1).length) = false:=decide_eq_false (by omega)
   clear c10
   have H':=a_c.mk H
   clear H
   have p194 : 0 ≤ (x12_1 : Int):=of_decide_eq_true (by first|(with_reducible assumption)|assumption)
   have q194 : x12_1 < (l0_0.length : Int):=of_decide_eq_true (by first|(with_reducible assumption)|assumption)
   obtain ⟨ad194,A194_1,c194_1,e194,e_j,e_k,f_u,f_v⟩:=d_K b_5.out x12_1 p194 q194
   cases e194
   replace e_j:=(HB.out.cell (World.block_lt_of_cell? w _ e_j)).trans e_j
   replace e_k:=(HB.out.cell (World.block_lt_of_cell? w _ e_k)).trans e_k
   have n_D:=a_c.mk f_v
   have n_E:=a_c.mk f_u
   clear f_v f_u
   replace p194:=eq_true p194
   replace q194:=eq_true q194
   go_wp2_with (first|((with_reducible refine a_M (N:=4) rfl ?_);refine a_G ?hg (N:=4) ?hd (cs:=#[.int .i64 0,.slice none 0 0]) (t:=27) ?hr ?_;(case hd => rfl);(case hg => rfl);(case hr => first|(go_simp;done)|(go_simp;rfl));intro e_O hg w14 hbox hb;have g_h:=a_c.mk (hbox);have s_2:=a_c.mk ((by rw [hg];exact (a_n (by repeat (first|(with_reducible first|exact HB.out|apply a_g|apply a_b|apply a_h|refine a_f ?_ e_U.out)|exact HB.out))) : w.heap.size ≤ e_O));have n_F:=a_c.mk ((by rw [hg];exact (a_n (by repeat (first|(with_reducible first|exact HB.out|apply a_g|apply a_b|apply a_h|refine a_f ?_ e_U.out)|exact HB.out))) : w.heap.size ≤ e_O));have e_b:=a_c.mk ((by rw [hg];exact Nat.ne_of_lt (a_J (bup_ d_M.out)) : e_v ≠ e_O));have f_w:=a_c.mk ((by rw [hg];exact Nat.ne_of_gt (a_J (bup_ d_M.out)) : e_O ≠ e_v));replace d_M:=a_c.mk (a_m (bup_ d_M.out) hb);replace HB:=a_c.mk (a_o (by repeat (first|(with_reducible first|exact HB.out|apply a_g|apply a_b|apply a_h|refine a_f ?_ e_U.out)|exact HB.out)) hb);clear hb hbox hg;have o_i:=f_w.out;have o_j:=e_b.out;have d_P : w14.cell? ⟨e_O,0,none⟩ = some (.int .i64 0):=(a_a g_h.out 0).trans rfl;have d_Q : w14.cell? ⟨e_O,1,none⟩ = some (.slice none 0 0):=(a_a g_h.out 1).trans rfl;have d_R:=a_e g_h.out 0;have d_S:=a_e g_h.out 1))
   go_roundg k1
   case measure => have:=HK1.out;omega
   case rel => exact ⟨(wrap64 (x12_1 + 1)),(by first|rfl|(simp;done)|(simp [*];done)),H',⟨by have:=HK1.out;omega⟩,⟨by (with_reducible repeat (first|refine a_j ?_ _|refine a_l ?_|refine a_i ?_ _));refine a_I ?_ e_b.out _;(with_reducible repeat (first|refine a_j ?_ _|refine a_l ?_|refine a_i ?_ _));refine a_I ?_ e_b.out _;(with_reducible repeat (first|refine a_j ?_ _|refine a_l ?_|refine a_i ?_ _));exact d_M.out⟩,⟨by repeat (first|(with_reducible first|exact HB.out|apply a_g|apply a_b|apply a_h|refine a_f ?_ e_U.out|refine a_f ?_ n_F.out)|exact HB.out)⟩⟩
end Go.Proofs.Ytgglkfilkagblaa.Q
end
