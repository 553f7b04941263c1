/- Part 12 of 14 of what the row of AuditAdds stands on: contracts over the given program's functions, the plain law, the row; no condition beyond those that each theorem states. -/
import Derived.Test.YtgglkfilkagblaaXAuditAdds10
section
namespace Go.Proofs.Ytgglkfilkagblaa.Q
open Go.RowKit Go.Proofs.YtgglkfilkagblaaW.PrintWords Go.Proofs.YtgglkfilkagblaaW.PrintLast Go.Proofs.YtgglkfilkagblaaW.PrintMore
set_option linter.unusedVariables false
set_option linter.unusedSimpArgs false
def a_6.l0 : Nat → Int → List (S65) → Int → Int → Option (Bool)
 | 0,_,_,_,_ => none
 | k + 1,x3,x10,x11,x12 => if x12 < x11 then (if 0 ≤ x12 then (if x12 < (x10.length : Int) then (if ((a_c x10 x12).f4) = (-1) then (a_6.l0 k x3 x10 x11 (wrap64 (x12 + 1))) else (if ((a_c x10 x12).f5 = true) then (if (a_c x10 x12).f6 = true then (some false) else ((c_d.f ((a_c x10 x12).f7) ((a_c x10 x12).f4)).bind fun t164 => (if t164 = true then ((c_d.f x3 ((a_c x10 x12).f4)).bind fun t165 => (if t165 = true then (some false) else (if 0 ≤ ((a_c x10 x12).f4) then (a_6.l0 k (Go.bits .or .u32 x3 (shl .u32 1 ((a_c x10 x12).f4))) x10 x11 (wrap64 (x12 + 1))) else (none)))) else (some false)))) else (some false))) else (none)) else (none)) else (some true)
def a_6.f (k : Nat) (a0_0 : Int) (l0_1 : List (S65)) : Option (Bool):=(a_G.f k a0_0 l0_1).bind fun t161 => (if t161 = true then (a_6.l0 k 0 l0_1 (l0_1.length : Int) 0) else (some false))
theorem a_6.c_N : ∀ k,(∀ y0 y1 y2 y3,LeO (a_6.l0 k y0 y1 y2 y3) (a_6.l0 (k + 1) y0 y1 y2 y3))
 | 0 => fun _ _ _ _ r h => by simp [a_6.l0] at h
 | k + 1 => by
  have ih0:=a_6.c_N k
  ·intro y0 y1 y2 y3
   unfold a_6.l0
   repeat' first
   | (with_reducible exact ih0 _ _ _ _)
   | (with_reducible exact a_G.mono _ _ _)
   | (with_reducible exact LeO.refl _)
   | (with_reducible exact LeO.none _)
   | (with_reducible refine LeO.ite ?_ ?_)
   | (with_reducible refine LeO.bind ?_ (fun _ => ?_))
   | exact ih0 _ _ _ _
   | exact a_G.mono _ _ _
   | exact LeO.none _
   | refine LeO.ite ?_ ?_
   | refine LeO.bind ?_ (fun _ => ?_)
theorem a_6.mono : ∀ a0 a1 k,LeO (a_6.f k a0 a1) (a_6.f (k + 1) a0 a1):=by
 intro a0 a1 k
 have ih0:=a_6.c_N k
 unfold a_6.f
 repeat' first
  | (with_reducible exact ih0 _ _ _ _)
  | (with_reducible exact a_G.mono _ _ _)
  | (with_reducible exact LeO.refl _)
  | (with_reducible exact LeO.none _)
  | (with_reducible refine LeO.ite ?_ ?_)
  | (with_reducible refine LeO.bind ?_ (fun _ => ?_))
  | exact ih0 _ _ _ _
  | exact a_G.mono _ _ _
  | exact LeO.none _
  | refine LeO.ite ?_ ?_
  | refine LeO.bind ?_ (fun _ => ?_)
set_option maxHeartbeats 8000000 in
set_option maxRecDepth 100000 in
theorem a_6.calls (k : Nat) (a0_0 : Int) (A0_1 : Option Addr) (c0_1 : Nat) (l0_1 : List (S65)) (r : Bool) (w : World) (hr0_1 : Kd.C k65 w A0_1 l0_1.length l0_1) (hc0_1 : l0_1.length ≤ c0_1) (h : a_6.f k a0_0 l0_1 = some r) :
 Calls Try.prog 23 #[.agg #[.int .i64 a0_0,.slice A0_1 l0_1.length c0_1]] w fun e w' => e = .returned (.bool r) ∧ Below w.heap.size w w':=by
 have hu27:=Try.underlying27
 have hu65:=Try.underlying65
 have e_o:=a_e.mk hr0_1
 have g_I:=a_e.mk hc0_1
 clear hr0_1 hc0_1
 have HB:=a_e.mk (Below.refl w.heap.size w)
 have H : ((a_G.f k a0_0 l0_1).bind fun t161 => (if t161 = true then (a_6.l0 k 0 l0_1 (l0_1.length : Int) 0) else (some false))) = some r:=h
 clear h
 replace H:=Option.bind_eq_some_iff.mp H
 obtain ⟨t161,A20,H⟩:=H
 replace H : (if t161 = true then (a_6.l0 k 0 l0_1 (l0_1.length : Int) 0) else (some false)) = some r:=H
 have A2:=a_e.mk A20
 clear A20
 by_cases c3 : t161 = true
 rotate_left
 ·replace c3:=Bool.eq_false_iff.mpr c3
  subst c3
  have H1 : (some false) = some r:=by rw [if_neg (show ¬ (false = true) by decide)] at H;exact H
  clear H
  have H:=H1
  clear H1
  obtain rfl:=Option.some.inj H
  go_enter Try.func23,Try.ntmps23
  go_wp2_with (first|((with_reducible refine a_U (N:=1) rfl ?_);refine a_H ?hg (N:=1) ?hd (cs:=#[.int .i64 a0_0,.slice A0_1 l0_1.length c0_1]) (t:=27) ?hr ?_;(case hd => rfl);(case hg => rfl);(case hr => first|(go_simp;done)|(go_simp;rfl));intro f_x hg w40 hbox hb;have d_G:=a_e.mk (hbox);have H_3:=a_e.mk ((by rw [hg];exact (a_p (lup_ HB.out)) : w.heap.size ≤ f_x));have e_P:=a_e.mk ((by rw [hg];exact (a_p (lup_ HB.out)) : w.heap.size ≤ f_x));replace HB:=a_e.mk (a_t (lup_ HB.out) hb);clear hb hbox hg;have H_4 : w40.cell? ⟨f_x,0,none⟩ = some (.int .i64 a0_0):=(a_a d_G.out 0).trans rfl;have H_5 : w40.cell? ⟨f_x,1,none⟩ = some (.slice A0_1 l0_1.length c0_1):=(a_a d_G.out 1).trans rfl;have H_6:=a_b d_G.out 0;have H_7:=a_b d_G.out 1)|((with_reducible refine a_P (f:=24) rfl ?_);refine b_v (some 7) rfl rfl Try.func24 (by kernel_rfl) rfl #[.agg #[.int .i64 a0_0,.slice A0_1 l0_1.length c0_1]] rfl (by (try simp only [List.map_toArray,List.map_cons,List.map_nil]);first|done|rfl|(simp only [List.length_drop,List.length_take];rfl)) ?_;(with_reducible refine (a_G.calls k a0_0 _ _ l0_1 false _ ?side1 ?side2 A2.out).mono ?_);(case side1 => repeat (first|exact (Kd.b_f e_o.out HB.out)|(with_reducible refine Kd.a_9 ?_ _)|(with_reducible refine Kd.a_8 ?_ _)|(with_reducible refine Kd.b_i ?_)));(case side2 => exact g_I.out);rintro e w42 ⟨rfl,hb⟩;refine ⟨_,rfl,?_⟩;replace d_G:=a_e.mk (a_l (bup_ d_G.out) hb);replace HB:=a_e.mk (a_t (by repeat (first|(with_reducible first|exact HB.out|apply a_g|apply a_f|apply a_h|refine a_d ?_ e_P.out)|exact HB.out)) hb);(try clear hb);(try clear hb2);(try clear hk);(try clear hi)))
  go_ret
  exact ⟨by first|rfl|(simp [a_w,a_x] <;> rfl)|(simp [*, a_w,a_x] <;> rfl),by repeat (first|(with_reducible first|exact HB.out|apply a_g|apply a_f|apply a_h|refine a_d ?_ e_P.out)|exact HB.out)⟩
 subst c3
 have H1 : (a_6.l0 k 0 l0_1 (l0_1.length : Int) 0) = some r:=by rw [if_pos rfl] at H;exact H
 clear H
 have H:=H1
 clear H1
 have H':=a_e.mk H
 clear H
 go_enter Try.func23,Try.ntmps23
 go_wp2_with (first|((with_reducible refine a_U (N:=1) rfl ?_);refine a_H ?hg (N:=1) ?hd (cs:=#[.int .i64 a0_0,.slice A0_1 l0_1.length c0_1]) (t:=27) ?hr ?_;(case hd => rfl);(case hg => rfl);(case hr => first|(go_simp;done)|(go_simp;rfl));intro f_x hg w4 hbox hb;have d_G:=a_e.mk (hbox);have H_3:=a_e.mk ((by rw [hg];exact (a_p (lup_ HB.out)) : w.heap.size ≤ f_x));have e_P:=a_e.mk ((by rw [hg];exact (a_p (lup_ HB.out)) : w.heap.size ≤ f_x));replace HB:=a_e.mk (a_t (lup_ HB.out) hb);clear hb hbox hg;have f_Z : w4.cell? ⟨f_x,0,none⟩ = some (.int .i64 a0_0):=(a_a d_G.out 0).trans rfl;have f_0 : w4.cell? ⟨f_x,1,none⟩ = some (.slice A0_1 l0_1.length c0_1):=(a_a d_G.out 1).trans rfl;have f_1:=a_b d_G.out 0;have f_2:=a_b d_G.out 1)|((with_reducible refine a_P (f:=24) rfl ?_);refine b_v (some 7) rfl rfl Try.func24 (by kernel_rfl) rfl #[.agg #[.int .i64 a0_0,.slice A0_1 l0_1.length c0_1]] rfl (by (try simp only [List.map_toArray,List.map_cons,List.map_nil]);first|done|rfl|(simp only [List.length_drop,List.length_take];rfl)) ?_;(with_reducible refine (a_G.calls k a0_0 _ _ l0_1 true _ ?side1 ?side2 A2.out).mono ?_);(case side1 => repeat (first|exact (Kd.b_f e_o.out HB.out)|(with_reducible refine Kd.a_9 ?_ _)|(with_reducible refine Kd.a_8 ?_ _)|(with_reducible refine Kd.b_i ?_)));(case side2 => exact g_I.out);rintro e w6 ⟨rfl,hb⟩;refine ⟨_,rfl,?_⟩;replace d_G:=a_e.mk (a_l (bup_ d_G.out) hb);replace HB:=a_e.mk (a_t (by repeat (first|(with_reducible first|exact HB.out|apply a_g|apply a_f|apply a_h|refine a_d ?_ e_P.out)|exact HB.out)) hb);(try clear hb);(try clear hb2);(try clear hk);(try clear hi);have h_R : w6.cell? ⟨f_x,0,none⟩ = some (.int .i64 a0_0):=(a_a d_G.out 0).trans rfl;have h_S : w6.cell? ⟨f_x,1,none⟩ = some (.slice A0_1 l0_1.length c0_1):=(a_a d_G.out 1).trans rfl;have h_T:=a_b d_G.out 0;have h_U:=a_b d_G.out 1))
 go_loopg [3,12] k (fun kq v3 v12 w' => ∃ (x3_1 : Int) (x12_1 : Int),v3 = .int .u32 x3_1 ∧ v12 = .int .i64 x12_1 ∧ a_e (a_6.l0 kq x3_1 l0_1 (l0_1.length : Int) x12_1 = some r) ∧ a_e (kq ≤ k) ∧ a_e (w'.heap[f_x]? = some (.cells #[.int .i64 a0_0,(.slice A0_1 l0_1.length c0_1)] 27 (0,0))) ∧ a_e (Below w.heap.size w w'))
 case atStart => exact ⟨(0),(0),(by first|rfl|(simp;done)|(simp [*];done)),(by first|rfl|(simp;done)|(simp [*];done)),H',⟨Nat.le_refl _⟩,⟨by (with_reducible repeat (first|refine a_j ?_ _|refine a_k ?_|refine a_i ?_ _));exact d_G.out⟩,⟨by repeat (first|(with_reducible first|exact HB.out|apply a_g|apply a_f|apply a_h|refine a_d ?_ e_P.out)|exact HB.out)⟩⟩
 case round =>
  clear H'
  try clear c2
  try clear p2
  try clear c3
  try clear f_Z
  try clear f_0
  try clear h_R
  try clear h_S
  try clear f_1
  try clear f_2
  try clear h_T
  try clear h_U
  obtain ⟨x3_1,x12_1,rfl,rfl,HA,HK1,d_G,HB⟩:=hrel
  cases gk with
  | zero => exact absurd HA.out (by simp [a_6.l0])
  | succ k1 =>
   have H:=HA.out
   clear HA
   simp only [a_6.l0] at H
   by_cases c8 : x12_1 < (l0_1.length : Int)
   rotate_left
   ·rw [if_neg c8] at H
    have c8b0 : decide (x12_1 < (l0_1.length : Int)) = false:=decide_eq_false c8
    clear c8
    obtain rfl:=Option.some.inj H
    go_wp2
    go_ret
    exact ⟨by first|rfl|(simp [a_w,a_x] <;> rfl)|(simp [*, a_w,a_x] <;> rfl),by repeat (first|(with_reducible first|exact HB.out|apply a_g|apply a_f|apply a_h|refine a_d ?_ e_P.out)|exact HB.out)⟩
   rw [if_pos c8] at H
   have c8b0 : decide (x12_1 < (l0_1.length : Int)) = true:=decide_eq_true c8
   clear c8
   by_cases c9 : 0 ≤ x12_1
   rotate_left
   ·rw [if_neg c9] at H
    exact absurd H (by simp)
   rw [if_pos c9] at H
   have c9b0 : decide (0 ≤ x12_1) = true:=decide_eq_true c9
   clear c9
   by_cases c10 : x12_1 < (l0_1.length : Int)
   rotate_left
   ·rw [if_neg c10] at H
    exact absurd H (by simp)
   rw [if_pos c10] at H
   have c10b0 : decide (x12_1 < (l0_1.length : Int)) = true:=decide_eq_true c10
   clear c10
   by_cases c11 : ((a_c l0_1 x12_1).f4) = (-1)
   ·rw [if_pos c11] at H
    have c11b0 : (((a_c l0_1 x12_1).f4) == (-1)) = true:=beq_iff_eq.mpr c11
    have c11b1 : (((a_c l0_1 x12_1).f4) != (-1)) = false:=bne_eq_false_iff_eq.mpr c11
    clear c11
    have H':=a_e.mk H
    clear H
    have p162 : 0 ≤ (x12_1 : Int):=of_decide_eq_true (by first|(with_reducible assumption)|assumption)
    have q162 : x12_1 < (l0_1.length : Int):=of_decide_eq_true (by first|(with_reducible assumption)|assumption)
    obtain ⟨ad162,e162,d_s,d_t,d_u,d_v,d_w,c_i,c_j,d_x,d_y,d_z,c_L⟩:=e_h e_o.out x12_1 p162 q162
    cases e162
    replace d_s:=(HB.out.cell (World.block_lt_of_cell? w _ d_s)).trans d_s
    replace d_t:=(HB.out.cell (World.block_lt_of_cell? w _ d_t)).trans d_t
    replace d_u:=(HB.out.cell (World.block_lt_of_cell? w _ d_u)).trans d_u
    replace d_v:=(HB.out.cell (World.block_lt_of_cell? w _ d_v)).trans d_v
    replace d_w:=(HB.out.cell (World.block_lt_of_cell? w _ d_w)).trans d_w
    replace c_i:=(HB.out.cell (World.block_lt_of_cell? w _ c_i)).trans c_i
    replace c_j:=(HB.out.cell (World.block_lt_of_cell? w _ c_j)).trans c_j
    replace d_x:=(HB.out.cell (World.block_lt_of_cell? w _ d_x)).trans d_x
    replace d_y:=(HB.out.cell (World.block_lt_of_cell? w _ d_y)).trans d_y
    replace d_z:=(HB.out.cell (World.block_lt_of_cell? w _ d_z)).trans d_z
    replace c_L:=(HB.out.cell (World.block_lt_of_cell? w _ c_L)).trans c_L
    replace p162:=eq_true p162
    replace q162:=eq_true q162
    go_wp2_with (first|((with_reducible refine a_U (N:=5) rfl ?_);refine a_H ?hg (N:=5) ?hd (cs:=#[.int .i64 0,.int .i64 0,.int .i64 0,.int .i64 0,.int .i64 0,.bool false,.bool false,.int .u32 0,.int .i64 0,.int .i64 0,.int .i64 0]) (t:=65) ?hr ?_;(case hd => rfl);(case hg => rfl);(case hr => first|(go_simp;done)|(go_simp;rfl));intro b_H hg w12 hbox hb;have b_g:=a_e.mk (hbox);have q_C:=a_e.mk ((by rw [hg];exact (a_p (by repeat (first|(with_reducible first|exact HB.out|apply a_g|apply a_f|apply a_h|refine a_d ?_ e_P.out)|exact HB.out))) : w.heap.size ≤ b_H));have j_2:=a_e.mk ((by rw [hg];exact (a_p (by repeat (first|(with_reducible first|exact HB.out|apply a_g|apply a_f|apply a_h|refine a_d ?_ e_P.out)|exact HB.out))) : w.heap.size ≤ b_H));have b_B:=a_e.mk ((by rw [hg];exact Nat.ne_of_lt (a_N (bup_ d_G.out)) : f_x ≠ b_H));have e_x:=a_e.mk ((by rw [hg];exact Nat.ne_of_gt (a_N (bup_ d_G.out)) : b_H ≠ f_x));replace d_G:=a_e.mk (a_l (bup_ d_G.out) hb);replace HB:=a_e.mk (a_t (by repeat (first|(with_reducible first|exact HB.out|apply a_g|apply a_f|apply a_h|refine a_d ?_ e_P.out)|exact HB.out)) hb);clear hb hbox hg;have D_Q:=e_x.out;have D_R:=b_B.out;have i_5 : w12.cell? ⟨b_H,0,none⟩ = some (.int .i64 0):=(a_a b_g.out 0).trans rfl;have i_6 : w12.cell? ⟨b_H,1,none⟩ = some (.int .i64 0):=(a_a b_g.out 1).trans rfl;have i_7 : w12.cell? ⟨b_H,2,none⟩ = some (.int .i64 0):=(a_a b_g.out 2).trans rfl;have i_8 : w12.cell? ⟨b_H,3,none⟩ = some (.int .i64 0):=(a_a b_g.out 3).trans rfl;have i_9 : w12.cell? ⟨b_H,4,none⟩ = some (.int .i64 0):=(a_a b_g.out 4).trans rfl;have j_a : w12.cell? ⟨b_H,5,none⟩ = some (.bool false):=(a_a b_g.out 5).trans rfl;have j_b : w12.cell? ⟨b_H,6,none⟩ = some (.bool false):=(a_a b_g.out 6).trans rfl;have j_c : w12.cell? ⟨b_H,7,none⟩ = some (.int .u32 0):=(a_a b_g.out 7).trans rfl;have j_d : w12.cell? ⟨b_H,8,none⟩ = some (.int .i64 0):=(a_a b_g.out 8).trans rfl;have j_e : w12.cell? ⟨b_H,9,none⟩ = some (.int .i64 0):=(a_a b_g.out 9).trans rfl;have h_P : w12.cell? ⟨b_H,10,none⟩ = some (.int .i64 0):=(a_a b_g.out 10).trans rfl;have j_f:=a_b b_g.out 0;have j_g:=a_b b_g.out 1;have j_h:=a_b b_g.out 2;have j_i:=a_b b_g.out 3;have j_j:=a_b b_g.out 4;have j_k:=a_b b_g.out 5;have j_l:=a_b b_g.out 6;have j_m:=a_b b_g.out 7;have j_n:=a_b b_g.out 8;have j_o:=a_b b_g.out 9;have h_Q:=a_b b_g.out 10))
    go_roundg k1
    case measure => have:=HK1.out;omega
    case rel => exact ⟨(x3_1),(wrap64 (x12_1 + 1)),(by first|rfl|(simp;done)|(simp [*];done)),(by first|rfl|(simp;done)|(simp [*];done)),H',⟨by have:=HK1.out;omega⟩,⟨by (with_reducible repeat (first|refine a_j ?_ _|refine a_k ?_|refine a_i ?_ _));refine a_B ?_ b_B.out _;(with_reducible repeat (first|refine a_j ?_ _|refine a_k ?_|refine a_i ?_ _));refine a_B ?_ b_B.out _;(with_reducible repeat (first|refine a_j ?_ _|refine a_k ?_|refine a_i ?_ _));refine a_B ?_ b_B.out _;(with_reducible repeat (first|refine a_j ?_ _|refine a_k ?_|refine a_i ?_ _));refine a_B ?_ b_B.out _;(with_reducible repeat (first|refine a_j ?_ _|refine a_k ?_|refine a_i ?_ _));refine a_B ?_ b_B.out _;(with_reducible repeat (first|refine a_j ?_ _|refine a_k ?_|refine a_i ?_ _));refine a_B ?_ b_B.out _;(with_reducible repeat (first|refine a_j ?_ _|refine a_k ?_|refine a_i ?_ _));refine a_B ?_ b_B.out _;(with_reducible repeat (first|refine a_j ?_ _|refine a_k ?_|refine a_i ?_ _));refine a_B ?_ b_B.out _;(with_reducible repeat (first|refine a_j ?_ _|refine a_k ?_|refine a_i ?_ _));refine a_B ?_ b_B.out _;(with_reducible repeat (first|refine a_j ?_ _|refine a_k ?_|refine a_i ?_ _));refine a_B ?_ b_B.out _;(with_reducible repeat (first|refine a_j ?_ _|refine a_k ?_|refine a_i ?_ _));refine a_B ?_ b_B.out _;(with_reducible repeat (first|refine a_j ?_ _|refine a_k ?_|refine a_i ?_ _));exact d_G.out⟩,⟨by repeat (first|(with_reducible first|exact HB.out|apply a_g|apply a_f|apply a_h|refine a_d ?_ e_P.out|refine a_d ?_ j_2.out)|exact HB.out)⟩⟩
   rw [if_neg c11] at H
   have c11b0 : (((a_c l0_1 x12_1).f4) == (-1)) = false:=beq_eq_false_iff_ne.mpr c11
   have c11b1 : (((a_c l0_1 x12_1).f4) != (-1)) = true:=bne_iff_ne.mpr c11
   obtain ⟨bq15,hbq15⟩ : ∃ b_ : Bool,b_ = ((a_c l0_1 x12_1).f5):=⟨_,rfl⟩
   replace H : (if (bq15 = true) then (if (a_c l0_1 x12_1).f6 = true then (some false) else ((c_d.f ((a_c l0_1 x12_1).f7) ((a_c l0_1 x12_1).f4)).bind fun t164 => (if t164 = true then ((c_d.f x3_1 ((a_c l0_1 x12_1).f4)).bind fun t165 => (if t165 = true then (some false) else (if 0 ≤ ((a_c l0_1 x12_1).f4) then (a_6.l0 k1 (Go.bits .or .u32 x3_1 (shl .u32 1 ((a_c l0_1 x12_1).f4))) l0_1 (l0_1.length : Int) (wrap64 (x12_1 + 1))) else (none)))) else (some false)))) else (some false)) = some r:=by rw [← hbq15] at H;exact H
   have Nbq15:=a_e.mk hbq15
   clear hbq15
   by_cases c16 : (bq15 = true)
   rotate_left
   ·replace c16:=Bool.eq_false_iff.mpr c16
    subst c16
    have H1 : (some false) = some r:=by rw [if_neg (show ¬ (false = true) by decide)] at H;exact H
    clear H
    have H:=H1
    clear H1
    obtain rfl:=Option.some.inj H
    have p162 : 0 ≤ (x12_1 : Int):=of_decide_eq_true (by first|(with_reducible assumption)|assumption)
    have q162 : x12_1 < (l0_1.length : Int):=of_decide_eq_true (by first|(with_reducible assumption)|assumption)
    obtain ⟨ad162,e162,d_s,d_t,d_u,d_v,d_w,c_i,c_j,d_x,d_y,d_z,c_L⟩:=e_h e_o.out x12_1 p162 q162
    (try rw [← Nbq15.out] at c_i)
    (try rw [← Nbq15.out] at c_j)
    cases e162
    replace d_s:=(HB.out.cell (World.block_lt_of_cell? w _ d_s)).trans d_s
    replace d_t:=(HB.out.cell (World.block_lt_of_cell? w _ d_t)).trans d_t
    replace d_u:=(HB.out.cell (World.block_lt_of_cell? w _ d_u)).trans d_u
    replace d_v:=(HB.out.cell (World.block_lt_of_cell? w _ d_v)).trans d_v
    replace d_w:=(HB.out.cell (World.block_lt_of_cell? w _ d_w)).trans d_w
    replace c_i:=(HB.out.cell (World.block_lt_of_cell? w _ c_i)).trans c_i
    replace c_j:=(HB.out.cell (World.block_lt_of_cell? w _ c_j)).trans c_j
    replace d_x:=(HB.out.cell (World.block_lt_of_cell? w _ d_x)).trans d_x
    replace d_y:=(HB.out.cell (World.block_lt_of_cell? w _ d_y)).trans d_y
    replace d_z:=(HB.out.cell (World.block_lt_of_cell? w _ d_z)).trans d_z
    replace c_L:=(HB.out.cell (World.block_lt_of_cell? w _ c_L)).trans c_L
    replace p162:=eq_true p162
    replace q162:=eq_true q162
    go_wp2_with (first|((with_reducible refine a_U (N:=5) rfl ?_);refine a_H ?hg (N:=5) ?hd (cs:=#[.int .i64 0,.int .i64 0,.int .i64 0,.int .i64 0,.int .i64 0,.bool false,.bool false,.int .u32 0,.int .i64 0,.int .i64 0,.int .i64 0]) (t:=65) ?hr ?_;(case hd => rfl);(case hg => rfl);(case hr => first|(go_simp;done)|(go_simp;rfl));intro b_H hg w37 hbox hb;have b_g:=a_e.mk (hbox);have q_C:=a_e.mk ((by rw [hg];exact (a_p (by repeat (first|(with_reducible first|exact HB.out|apply a_g|apply a_f|apply a_h|refine a_d ?_ e_P.out)|exact HB.out))) : w.heap.size ≤ b_H));have j_2:=a_e.mk ((by rw [hg];exact (a_p (by repeat (first|(with_reducible first|exact HB.out|apply a_g|apply a_f|apply a_h|refine a_d ?_ e_P.out)|exact HB.out))) : w.heap.size ≤ b_H));have b_B:=a_e.mk ((by rw [hg];exact Nat.ne_of_lt (a_N (bup_ d_G.out)) : f_x ≠ b_H));have e_x:=a_e.mk ((by rw [hg];exact Nat.ne_of_gt (a_N (bup_ d_G.out)) : b_H ≠ f_x));replace d_G:=a_e.mk (a_l (bup_ d_G.out) hb);replace HB:=a_e.mk (a_t (by repeat (first|(with_reducible first|exact HB.out|apply a_g|apply a_f|apply a_h|refine a_d ?_ e_P.out)|exact HB.out)) hb);clear hb hbox hg;have H_L:=e_x.out;have H_M:=b_B.out;have H_8 : w37.cell? ⟨b_H,0,none⟩ = some (.int .i64 0):=(a_a b_g.out 0).trans rfl;have H_9 : w37.cell? ⟨b_H,1,none⟩ = some (.int .i64 0):=(a_a b_g.out 1).trans rfl;have I_a : w37.cell? ⟨b_H,2,none⟩ = some (.int .i64 0):=(a_a b_g.out 2).trans rfl;have I_b : w37.cell? ⟨b_H,3,none⟩ = some (.int .i64 0):=(a_a b_g.out 3).trans rfl;have I_c : w37.cell? ⟨b_H,4,none⟩ = some (.int .i64 0):=(a_a b_g.out 4).trans rfl;have I_d : w37.cell? ⟨b_H,5,none⟩ = some (.bool false):=(a_a b_g.out 5).trans rfl;have I_e : w37.cell? ⟨b_H,6,none⟩ = some (.bool false):=(a_a b_g.out 6).trans rfl;have I_f : w37.cell? ⟨b_H,7,none⟩ = some (.int .u32 0):=(a_a b_g.out 7).trans rfl;have I_g : w37.cell? ⟨b_H,8,none⟩ = some (.int .i64 0):=(a_a b_g.out 8).trans rfl;have I_h : w37.cell? ⟨b_H,9,none⟩ = some (.int .i64 0):=(a_a b_g.out 9).trans rfl;have x_y : w37.cell? ⟨b_H,10,none⟩ = some (.int .i64 0):=(a_a b_g.out 10).trans rfl;have I_i:=a_b b_g.out 0;have I_j:=a_b b_g.out 1;have I_k:=a_b b_g.out 2;have I_l:=a_b b_g.out 3;have I_m:=a_b b_g.out 4;have I_n:=a_b b_g.out 5;have I_o:=a_b b_g.out 6;have I_p:=a_b b_g.out 7;have I_q:=a_b b_g.out 8;have I_r:=a_b b_g.out 9;have x_z:=a_b b_g.out 10))
    go_ret
    exact ⟨by first|rfl|(simp [a_w,a_x] <;> rfl)|(simp [*, a_w,a_x] <;> rfl),by repeat (first|(with_reducible first|exact HB.out|apply a_g|apply a_f|apply a_h|refine a_d ?_ e_P.out|refine a_d ?_ j_2.out)|exact HB.out)⟩
   subst c16
   have H1 : (if (a_c l0_1 x12_1).f6 = true then (some false) else ((c_d.f ((a_c l0_1 x12_1).f7) ((a_c l0_1 x12_1).f4)).bind fun t164 => (if t164 = true then ((c_d.f x3_1 ((a_c l0_1 x12_1).f4)).bind fun t165 => (if t165 = true then (some false) else (if 0 ≤ ((a_c l0_1 x12_1).f4) then (a_6.l0 k1 (Go.bits .or .u32 x3_1 (shl .u32 1 ((a_c l0_1 x12_1).f4))) l0_1 (l0_1.length : Int) (wrap64 (x12_1 + 1))) else (none)))) else (some false)))) = some r:=by rw [if_pos rfl] at H;exact H
   clear H
   have H:=H1
   clear H1
   obtain ⟨bq17,hbq17⟩ : ∃ b_ : Bool,b_ = ((a_c l0_1 x12_1).f6):=⟨_,rfl⟩
   replace H : (if bq17 = true then (some false) else ((c_d.f ((a_c l0_1 x12_1).f7) ((a_c l0_1 x12_1).f4)).bind fun t164 => (if t164 = true then ((c_d.f x3_1 ((a_c l0_1 x12_1).f4)).bind fun t165 => (if t165 = true then (some false) else (if 0 ≤ ((a_c l0_1 x12_1).f4) then (a_6.l0 k1 (Go.bits .or .u32 x3_1 (shl .u32 1 ((a_c l0_1 x12_1).f4))) l0_1 (l0_1.length : Int) (wrap64 (x12_1 + 1))) else (none)))) else (some false)))) = some r:=by rw [← hbq17] at H;exact H
   have Nbq17:=a_e.mk hbq17
   clear hbq17
   by_cases c18 : bq17 = true
   ·subst c18
    have H1 : (some false) = some r:=by rw [if_pos rfl] at H;exact H
    clear H
    have H:=H1
    clear H1
    obtain rfl:=Option.some.inj H
    have p162 : 0 ≤ (x12_1 : Int):=of_decide_eq_true (by first|(with_reducible assumption)|assumption)
    have q162 : x12_1 < (l0_1.length : Int):=of_decide_eq_true (by first|(with_reducible assumption)|assumption)
    obtain ⟨ad162,e162,d_s,d_t,d_u,d_v,d_w,c_i,c_j,d_x,d_y,d_z,c_L⟩:=e_h e_o.out x12_1 p162 q162
    (try rw [← Nbq15.out] at c_i)
    (try rw [← Nbq17.out] at c_i)
    (try rw [← Nbq15.out] at c_j)
    (try rw [← Nbq17.out] at c_j)
    cases e162
    replace d_s:=(HB.out.cell (World.block_lt_of_cell? w _ d_s)).trans d_s
    replace d_t:=(HB.out.cell (World.block_lt_of_cell? w _ d_t)).trans d_t
    replace d_u:=(HB.out.cell (World.block_lt_of_cell? w _ d_u)).trans d_u
    replace d_v:=(HB.out.cell (World.block_lt_of_cell? w _ d_v)).trans d_v
    replace d_w:=(HB.out.cell (World.block_lt_of_cell? w _ d_w)).trans d_w
    replace c_i:=(HB.out.cell (World.block_lt_of_cell? w _ c_i)).trans c_i
    replace c_j:=(HB.out.cell (World.block_lt_of_cell? w _ c_j)).trans c_j
    replace d_x:=(HB.out.cell (World.block_lt_of_cell? w _ d_x)).trans d_x
    replace d_y:=(HB.out.cell (World.block_lt_of_cell? w _ d_y)).trans d_y
    replace d_z:=(HB.out.cell (World.block_lt_of_cell? w _ d_z)).trans d_z
    replace c_L:=(HB.out.cell (World.block_lt_of_cell? w _ c_L)).trans c_L
    replace p162:=eq_true p162
    replace q162:=eq_true q162
    go_wp2_with (first|((with_reducible refine a_U (N:=5) rfl ?_);refine a_H ?hg (N:=5) ?hd (cs:=#[.int .i64 0,.int .i64 0,.int .i64 0,.int .i64 0,.int .i64 0,.bool false,.bool false,.int .u32 0,.int .i64 0,.int .i64 0,.int .i64 0]) (t:=65) ?hr ?_;(case hd => rfl);(case hg => rfl);(case hr => first|(go_simp;done)|(go_simp;rfl));intro b_H hg w19 hbox hb;have b_g:=a_e.mk (hbox);have q_C:=a_e.mk ((by rw [hg];exact (a_p (by repeat (first|(with_reducible first|exact HB.out|apply a_g|apply a_f|apply a_h|refine a_d ?_ e_P.out)|exact HB.out))) : w.heap.size ≤ b_H));have j_2:=a_e.mk ((by rw [hg];exact (a_p (by repeat (first|(with_reducible first|exact HB.out|apply a_g|apply a_f|apply a_h|refine a_d ?_ e_P.out)|exact HB.out))) : w.heap.size ≤ b_H));have b_B:=a_e.mk ((by rw [hg];exact Nat.ne_of_lt (a_N (bup_ d_G.out)) : f_x ≠ b_H));have e_x:=a_e.mk ((by rw [hg];exact Nat.ne_of_gt (a_N (bup_ d_G.out)) : b_H ≠ f_x));replace d_G:=a_e.mk (a_l (bup_ d_G.out) hb);replace HB:=a_e.mk (a_t (by repeat (first|(with_reducible first|exact HB.out|apply a_g|apply a_f|apply a_h|refine a_d ?_ e_P.out)|exact HB.out)) hb);clear hb hbox hg;have u_A:=e_x.out;have u_B:=b_B.out;have i_w : w19.cell? ⟨b_H,0,none⟩ = some (.int .i64 0):=(a_a b_g.out 0).trans rfl;have i_x : w19.cell? ⟨b_H,1,none⟩ = some (.int .i64 0):=(a_a b_g.out 1).trans rfl;have I_s : w19.cell? ⟨b_H,2,none⟩ = some (.int .i64 0):=(a_a b_g.out 2).trans rfl;have I_t : w19.cell? ⟨b_H,3,none⟩ = some (.int .i64 0):=(a_a b_g.out 3).trans rfl;have I_u : w19.cell? ⟨b_H,4,none⟩ = some (.int .i64 0):=(a_a b_g.out 4).trans rfl;have I_v : w19.cell? ⟨b_H,5,none⟩ = some (.bool false):=(a_a b_g.out 5).trans rfl;have I_w : w19.cell? ⟨b_H,6,none⟩ = some (.bool false):=(a_a b_g.out 6).trans rfl;have I_x : w19.cell? ⟨b_H,7,none⟩ = some (.int .u32 0):=(a_a b_g.out 7).trans rfl;have I_y : w19.cell? ⟨b_H,8,none⟩ = some (.int .i64 0):=(a_a b_g.out 8).trans rfl;have I_z : w19.cell? ⟨b_H,9,none⟩ = some (.int .i64 0):=(a_a b_g.out 9).trans rfl;have x_A : w19.cell? ⟨b_H,10,none⟩ = some (.int .i64 0):=(a_a b_g.out 10).trans rfl;have i_y:=a_b b_g.out 0;have i_z:=a_b b_g.out 1;have I_A:=a_b b_g.out 2;have I_B:=a_b b_g.out 3;have I_C:=a_b b_g.out 4;have I_D:=a_b b_g.out 5;have I_E:=a_b b_g.out 6;have I_F:=a_b b_g.out 7;have I_G:=a_b b_g.out 8;have I_H:=a_b b_g.out 9;have x_B:=a_b b_g.out 10))
    go_ret
    exact ⟨by first|rfl|(simp [a_w,a_x] <;> rfl)|(simp [*, a_w,a_x] <;> rfl),by repeat (first|(with_reducible first|exact HB.out|apply a_g|apply a_f|apply a_h|refine a_d ?_ e_P.out|refine a_d ?_ j_2.out)|exact HB.out)⟩
   replace c18:=Bool.eq_false_iff.mpr c18
   subst c18
   have H1 : ((c_d.f ((a_c l0_1 x12_1).f7) ((a_c l0_1 x12_1).f4)).bind fun t164 => (if t164 = true then ((c_d.f x3_1 ((a_c l0_1 x12_1).f4)).bind fun t165 => (if t165 = true then (some false) else (if 0 ≤ ((a_c l0_1 x12_1).f4) then (a_6.l0 k1 (Go.bits .or .u32 x3_1 (shl .u32 1 ((a_c l0_1 x12_1).f4))) l0_1 (l0_1.length : Int) (wrap64 (x12_1 + 1))) else (none)))) else (some false))) = some r:=by rw [if_neg (show ¬ (false = true) by decide)] at H;exact H
   clear H
   have H:=H1
   clear H1
   replace H:=Option.bind_eq_some_iff.mp H
   obtain ⟨t164,A220,H⟩:=H
   replace H : (if t164 = true then ((c_d.f x3_1 ((a_c l0_1 x12_1).f4)).bind fun t165 => (if t165 = true then (some false) else (if 0 ≤ ((a_c l0_1 x12_1).f4) then (a_6.l0 k1 (Go.bits .or .u32 x3_1 (shl .u32 1 ((a_c l0_1 x12_1).f4))) l0_1 (l0_1.length : Int) (wrap64 (x12_1 + 1))) else (none)))) else (some false)) = some r:=H
   have A22:=a_e.mk A220
   clear A220
   by_cases c23 : t164 = true
   rotate_left
   ·replace c23:=Bool.eq_false_iff.mpr c23
    subst c23
    have H1 : (some false) = some r:=by rw [if_neg (show ¬ (false = true) by decide)] at H;exact H
    clear H
    have H:=H1
    clear H1
    obtain rfl:=Option.some.inj H
    have p162 : 0 ≤ (x12_1 : Int):=of_decide_eq_true (by first|(with_reducible assumption)|assumption)
    have q162 : x12_1 < (l0_1.length : Int):=of_decide_eq_true (by first|(with_reducible assumption)|assumption)
    obtain ⟨ad162,e162,d_s,d_t,d_u,d_v,d_w,c_i,c_j,d_x,d_y,d_z,c_L⟩:=e_h e_o.out x12_1 p162 q162
    (try rw [← Nbq15.out] at c_i)
    (try rw [← Nbq17.out] at c_i)
    (try rw [← Nbq15.out] at c_j)
    (try rw [← Nbq17.out] at c_j)
    cases e162
    replace d_s:=(HB.out.cell (World.block_lt_of_cell? w _ d_s)).trans d_s
    replace d_t:=(HB.out.cell (World.block_lt_of_cell? w _ d_t)).trans d_t
    replace d_u:=(HB.out.cell (World.block_lt_of_cell? w _ d_u)).trans d_u
    replace d_v:=(HB.out.cell (World.block_lt_of_cell? w _ d_v)).trans d_v
    replace d_w:=(HB.out.cell (World.block_lt_of_cell? w _ d_w)).trans d_w
    replace c_i:=(HB.out.cell (World.block_lt_of_cell? w _ c_i)).trans c_i
    replace c_j:=(HB.out.cell (World.block_lt_of_cell? w _ c_j)).trans c_j
    replace d_x:=(HB.out.cell (World.block_lt_of_cell? w _ d_x)).trans d_x
    replace d_y:=(HB.out.cell (World.block_lt_of_cell? w _ d_y)).trans d_y
    replace d_z:=(HB.out.cell (World.block_lt_of_cell? w _ d_z)).trans d_z
    replace c_L:=(HB.out.cell (World.block_lt_of_cell? w _ c_L)).trans c_L
    replace p162:=eq_true p162
    replace q162:=eq_true q162
    go_wp2_with (first|((with_reducible refine a_U (N:=5) rfl ?_);refine a_H ?hg (N:=5) ?hd (cs:=#[.int .i64 0,.int .i64 0,.int .i64 0,.int .i64 0,.int .i64 0,.bool false,.bool false,.int .u32 0,.int .i64 0,.int .i64 0,.int .i64 0]) (t:=65) ?hr ?_;(case hd => rfl);(case hg => rfl);(case hr => first|(go_simp;done)|(go_simp;rfl));intro b_H hg w34 hbox hb;have b_g:=a_e.mk (hbox);have q_C:=a_e.mk ((by rw [hg];exact (a_p (by repeat (first|(with_reducible first|exact HB.out|apply a_g|apply a_f|apply a_h|refine a_d ?_ e_P.out)|exact HB.out))) : w.heap.size ≤ b_H));have j_2:=a_e.mk ((by rw [hg];exact (a_p (by repeat (first|(with_reducible first|exact HB.out|apply a_g|apply a_f|apply a_h|refine a_d ?_ e_P.out)|exact HB.out))) : w.heap.size ≤ b_H));have b_B:=a_e.mk ((by rw [hg];exact Nat.ne_of_lt (a_N (bup_ d_G.out)) : f_x ≠ b_H));have e_x:=a_e.mk ((by rw [hg];exact Nat.ne_of_gt (a_N (bup_ d_G.out)) : b_H ≠ f_x));replace d_G:=a_e.mk (a_l (bup_ d_G.out) hb);replace HB:=a_e.mk (a_t (by repeat (first|(with_reducible first|exact HB.out|apply a_g|apply a_f|apply a_h|refine a_d ?_ e_P.out)|exact HB.out)) hb);clear hb hbox hg;have A_7:=e_x.out;have A_8:=b_B.out;have t_h : w34.cell? ⟨b_H,0,none⟩ = some (.int .i64 0):=(a_a b_g.out 0).trans rfl;have t_i : w34.cell? ⟨b_H,1,none⟩ = some (.int .i64 0):=(a_a b_g.out 1).trans rfl;have I_I : w34.cell? ⟨b_H,2,none⟩ = some (.int .i64 0):=(a_a b_g.out 2).trans rfl;have I_J : w34.cell? ⟨b_H,3,none⟩ = some (.int .i64 0):=(a_a b_g.out 3).trans rfl;have I_K : w34.cell? ⟨b_H,4,none⟩ = some (.int .i64 0):=(a_a b_g.out 4).trans rfl;have I_L : w34.cell? ⟨b_H,5,none⟩ = some (.bool false):=(a_a b_g.out 5).trans rfl;have I_M : w34.cell? ⟨b_H,6,none⟩ = some (.bool false):=(a_a b_g.out 6).trans rfl;have I_N : w34.cell? ⟨b_H,7,none⟩ = some (.int .u32 0):=(a_a b_g.out 7).trans rfl;have I_O : w34.cell? ⟨b_H,8,none⟩ = some (.int .i64 0):=(a_a b_g.out 8).trans rfl;have I_P : w34.cell? ⟨b_H,9,none⟩ = some (.int .i64 0):=(a_a b_g.out 9).trans rfl;have x_C : w34.cell? ⟨b_H,10,none⟩ = some (.int .i64 0):=(a_a b_g.out 10).trans rfl;have t_j:=a_b b_g.out 0;have t_k:=a_b b_g.out 1;have I_Q:=a_b b_g.out 2;have I_R:=a_b b_g.out 3;have I_S:=a_b b_g.out 4;have I_T:=a_b b_g.out 5;have I_U:=a_b b_g.out 6;have I_V:=a_b b_g.out 7;have I_W:=a_b b_g.out 8;have I_X:=a_b b_g.out 9;have x_D:=a_b b_g.out 10)|(go_at_call 50;(with_reducible refine (c_d.calls ((a_c l0_1 x12_1).f7) ((a_c l0_1 x12_1).f4) false _ A22.out).mono ?_);rintro e w' ⟨rfl,⟨nd,rfl⟩⟩))
    go_ret
    exact ⟨by first|rfl|(simp [a_w,a_x] <;> rfl)|(simp [*, a_w,a_x] <;> rfl),by repeat (first|(with_reducible first|exact HB.out|apply a_g|apply a_f|apply a_h|refine a_d ?_ e_P.out|refine a_d ?_ j_2.out)|exact HB.out)⟩
   subst c23
   have H1 : ((c_d.f x3_1 ((a_c l0_1 x12_1).f4)).bind fun t165 => (if t165 = true then (some false) else (if 0 ≤ ((a_c l0_1 x12_1).f4) then (a_6.l0 k1 (Go.bits .or .u32 x3_1 (shl .u32 1 ((a_c l0_1 x12_1).f4))) l0_1 (l0_1.length : Int) (wrap64 (x12_1 + 1))) else (none)))) = some r:=by rw [if_pos rfl] at H;exact H
   clear H
   have H:=H1
   clear H1
   replace H:=Option.bind_eq_some_iff.mp H
   obtain ⟨t165,A240,H⟩:=H
   replace H : (if t165 = true then (some false) else (if 0 ≤ ((a_c l0_1 x12_1).f4) then (a_6.l0 k1 (Go.bits .or .u32 x3_1 (shl .u32 1 ((a_c l0_1 x12_1).f4))) l0_1 (l0_1.length : Int) (wrap64 (x12_1 + 1))) else (none))) = some r:=H
   have A24:=a_e.mk A240
   clear A240
   by_cases c25 : t165 = true
   ·subst c25
    have H1 : (some false) = some r:=by rw [if_pos rfl] at H;exact H
    clear H
    have H:=H1
    clear H1
    obtain rfl:=Option.some.inj H
    have p162 : 0 ≤ (x12_1 : Int):=of_decide_eq_true (by first|(with_reducible assumption)|assumption)
    have q162 : x12_1 < (l0_1.length : Int):=of_decide_eq_true (by first|(with_reducible assumption)|assumption)
    obtain ⟨ad162,e162,d_s,d_t,d_u,d_v,d_w,c_i,c_j,d_x,d_y,d_z,c_L⟩:=e_h e_o.out x12_1 p162 q162
    (try rw [← Nbq15.out] at c_i)
    (try rw [← Nbq17.out] at c_i)
    (try rw [← Nbq15.out] at c_j)
    (try rw [← Nbq17.out] at c_j)
    cases e162
    replace d_s:=(HB.out.cell (World.block_lt_of_cell? w _ d_s)).trans d_s
    replace d_t:=(HB.out.cell (World.block_lt_of_cell? w _ d_t)).trans d_t
    replace d_u:=(HB.out.cell (World.block_lt_of_cell? w _ d_u)).trans d_u
    replace d_v:=(HB.out.cell (World.block_lt_of_cell? w _ d_v)).trans d_v
    replace d_w:=(HB.out.cell (World.block_lt_of_cell? w _ d_w)).trans d_w
    replace c_i:=(HB.out.cell (World.block_lt_of_cell? w _ c_i)).trans c_i
    replace c_j:=(HB.out.cell (World.block_lt_of_cell? w _ c_j)).trans c_j
    replace d_x:=(HB.out.cell (World.block_lt_of_cell? w _ d_x)).trans d_x
    replace d_y:=(HB.out.cell (World.block_lt_of_cell? w _ d_y)).trans d_y
    replace d_z:=(HB.out.cell (World.block_lt_of_cell? w _ d_z)).trans d_z
    replace c_L:=(HB.out.cell (World.block_lt_of_cell? w _ c_L)).trans c_L
    replace p162:=eq_true p162
    replace q162:=eq_true q162
    go_wp2_with (first|((with_reducible refine a_U (N:=5) rfl ?_);refine a_H ?hg (N:=5) ?hd (cs:=#[.int .i64 0,.int .i64 0,.int .i64 0,.int .i64 0,.int .i64 0,.bool false,.bool false,.int .u32 0,.int .i64 0,.int .i64 0,.int .i64 0]) (t:=65) ?hr ?_;(case hd => rfl);(case hg => rfl);(case hr => first|(go_simp;done)|(go_simp;rfl));intro b_H hg w26 hbox hb;have b_g:=a_e.mk (hbox);have q_C:=a_e.mk ((by rw [hg];exact (a_p (by repeat (first|(with_reducible first|exact HB.out|apply a_g|apply a_f|apply a_h|refine a_d ?_ e_P.out)|exact HB.out))) : w.heap.size ≤ b_H));have j_2:=a_e.mk ((by rw [hg];exact (a_p (by repeat (first|(with_reducible first|exact HB.out|apply a_g|apply a_f|apply a_h|refine a_d ?_ e_P.out)|exact HB.out))) : w.heap.size ≤ b_H));have b_B:=a_e.mk ((by rw [hg];exact Nat.ne_of_lt (a_N (bup_ d_G.out)) : f_x ≠ b_H));have e_x:=a_e.mk ((by rw [hg];exact Nat.ne_of_gt (a_N (bup_ d_G.out)) : b_H ≠ f_x));replace d_G:=a_e.mk (a_l (bup_ d_G.out) hb);replace HB:=a_e.mk (a_t (by repeat (first|(with_reducible first|exact HB.out|apply a_g|apply a_f|apply a_h|refine a_d ?_ e_P.out)|exact HB.out)) hb);clear hb hbox hg;have w_u:=e_x.out;have w_v:=b_B.out;have i_o : w26.cell? ⟨b_H,0,none⟩ = some (.int .i64 0):=(a_a b_g.out 0).trans rfl;have i_p : w26.cell? ⟨b_H,1,none⟩ = some (.int .i64 0):=(a_a b_g.out 1).trans rfl;have p_r : w26.cell? ⟨b_H,2,none⟩ = some (.int .i64 0):=(a_a b_g.out 2).trans rfl;have p_s : w26.cell? ⟨b_H,3,none⟩ = some (.int .i64 0):=(a_a b_g.out 3).trans rfl;have p_t : w26.cell? ⟨b_H,4,none⟩ = some (.int .i64 0):=(a_a b_g.out 4).trans rfl;have p_u : w26.cell? ⟨b_H,5,none⟩ = some (.bool false):=(a_a b_g.out 5).trans rfl;have p_v : w26.cell? ⟨b_H,6,none⟩ = some (.bool false):=(a_a b_g.out 6).trans rfl;have p_w : w26.cell? ⟨b_H,7,none⟩ = some (.int .u32 0):=(a_a b_g.out 7).trans rfl;have p_x : w26.cell? ⟨b_H,8,none⟩ = some (.int .i64 0):=(a_a b_g.out 8).trans rfl;have p_y : w26.cell? ⟨b_H,9,none⟩ = some (.int .i64 0):=(a_a b_g.out 9).trans rfl;have n_N : w26.cell? ⟨b_H,10,none⟩ = some (.int .i64 0):=(a_a b_g.out 10).trans rfl;have i_q:=a_b b_g.out 0;have i_r:=a_b b_g.out 1;have p_z:=a_b b_g.out 2;have p_A:=a_b b_g.out 3;have p_B:=a_b b_g.out 4;have p_C:=a_b b_g.out 5;have p_D:=a_b b_g.out 6;have p_E:=a_b b_g.out 7;have p_F:=a_b b_g.out 8;have p_G:=a_b b_g.out 9;have n_O:=a_b b_g.out 10)|(go_at_call 50;(with_reducible refine (c_d.calls ((a_c l0_1 x12_1).f7) ((a_c l0_1 x12_1).f4) true _ A22.out).mono ?_);rintro e w' ⟨rfl,⟨nd,rfl⟩⟩)|(go_at_call 50;(with_reducible refine (c_d.calls x3_1 ((a_c l0_1 x12_1).f4) true _ A24.out).mono ?_);rintro e w' ⟨rfl,⟨nd,rfl⟩⟩))
    go_ret
    exact ⟨by first|rfl|(simp [a_w,a_x] <;> rfl)|(simp [*, a_w,a_x] <;> rfl),by repeat (first|(with_reducible first|exact HB.out|apply a_g|apply a_f|apply a_h|refine a_d ?_ e_P.out|refine a_d ?_ j_2.out)|exact HB.out)⟩
   replace c25:=Bool.eq_false_iff.mpr c25
   subst c25
   have H1 : (if 0 ≤ ((a_c l0_1 x12_1).f4) then (a_6.l0 k1 (Go.bits .or .u32 x3_1 (shl .u32 1 ((a_c l0_1 x12_1).f4))) l0_1 (l0_1.length : Int) (wrap64 (x12_1 + 1))) else (none)) = some r:=by rw [if_neg (show ¬ (false = true) by decide)] at H;exact H
   clear H
   have H:=H1
   clear H1
   by_cases c29 : 0 ≤ ((a_c l0_1 x12_1).f4)
   rotate_left
   ·rw [if_neg c29] at H
    exact absurd H (by simp)
   rw [if_pos c29] at H
   have c29b0:=eq_true c29
   have c29b1 : decide (0 ≤ ((a_c l0_1 x12_1).f4)) = true:=decide_eq_true c29
   clear c29
   obtain ⟨ji30,hji30⟩ : ∃ j_ : Int,(shl .u32 1 ((a_c l0_1 x12_1).f4)) = j_:=⟨_,rfl⟩
   replace H : (a_6.l0 k1 (Go.bits .or .u32 x3_1 (ji30)) l0_1 (l0_1.length : Int) (wrap64 (x12_1 + 1))) = some r:=by first|(rw [hji30] at H;exact H)|(simp only [hji30] at H ⊢; exact H)
   (try rw [hji30] at A22)
   (try rw [hji30] at A24)
   have hji30_ : (IntKind.u32.wrap (1 * 2 ^ min ((a_c l0_1 x12_1).f4).toNat 32)) = ji30:=hji30
   have hji30z : ((a_c l0_1 x12_1).f4) ≤ 32 → (IntKind.u32.wrap (1 * 2 ^ ((a_c l0_1 x12_1).f4).toNat)) = ji30:=l_L hji30
   have hji30u : (IntKind.u32.wrap (2 ^ min ((a_c l0_1 x12_1).f4).toNat 32)) = ji30:=by have h_:=hji30_;rw [Int.one_mul] at h_;exact h_
   have hji30v : ((a_c l0_1 x12_1).f4) ≤ 32 → (IntKind.u32.wrap (2 ^ ((a_c l0_1 x12_1).f4).toNat)) = ji30:=fun hle_ => by have h_:=hji30z hle_;rw [Int.one_mul] at h_;exact h_
   have H':=a_e.mk H
   clear H
   have p162 : 0 ≤ (x12_1 : Int):=of_decide_eq_true (by first|(with_reducible assumption)|assumption)
   have q162 : x12_1 < (l0_1.length : Int):=of_decide_eq_true (by first|(with_reducible assumption)|assumption)
   obtain ⟨ad162,e162,d_s,d_t,d_u,d_v,d_w,c_i,c_j,d_x,d_y,d_z,c_L⟩:=e_h e_o.out x12_1 p162 q162
   (try rw [← Nbq15.out] at c_i)
   (try rw [← Nbq17.out] at c_i)
   (try rw [← Nbq15.out] at c_j)
   (try rw [← Nbq17.out] at c_j)
   cases e162
   replace d_s:=(HB.out.cell (World.block_lt_of_cell? w _ d_s)).trans d_s
   replace d_t:=(HB.out.cell (World.block_lt_of_cell? w _ d_t)).trans d_t
   replace d_u:=(HB.out.cell (World.block_lt_of_cell? w _ d_u)).trans d_u
   replace d_v:=(HB.out.cell (World.block_lt_of_cell? w _ d_v)).trans d_v
   replace d_w:=(HB.out.cell (World.block_lt_of_cell? w _ d_w)).trans d_w
   replace c_i:=(HB.out.cell (World.block_lt_of_cell? w _ c_i)).trans c_i
   replace c_j:=(HB.out.cell (World.block_lt_of_cell? w _ c_j)).trans c_j
   replace d_x:=(HB.out.cell (World.block_lt_of_cell? w _ d_x)).trans d_x
   replace d_y:=(HB.out.cell (World.block_lt_of_cell? w _ d_y)).trans d_y
   replace d_z:=(HB.out.cell (World.block_lt_of_cell? w _ d_z)).trans d_z
   replace c_L:=(HB.out.cell (World.block_lt_of_cell? w _ c_L)).trans c_L
   replace p162:=eq_true p162
   replace q162:=eq_true q162
   go_wp2_with (first|((with_reducible refine a_U (N:=5) rfl ?_);refine a_H ?hg (N:=5) ?hd (cs:=#[.int .i64 0,.int .i64 0,.int .i64 0,.int .i64 0,.int .i64 0,.bool false,.bool false,.int .u32 0,.int .i64 0,.int .i64 0,.int .i64 0]) (t:=65) ?hr ?_;(case hd => rfl);(case hg => rfl);(case hr => first|(go_simp;done)|(go_simp;rfl));intro b_H hg w31 hbox hb;have b_g:=a_e.mk (hbox);have q_C:=a_e.mk ((by rw [hg];exact (a_p (by repeat (first|(with_reducible first|exact HB.out|apply a_g|apply a_f|apply a_h|refine a_d ?_ e_P.out)|exact HB.out))) : w.heap.size ≤ b_H));have j_2:=a_e.mk ((by rw [hg];exact (a_p (by repeat (first|(with_reducible first|exact HB.out|apply a_g|apply a_f|apply a_h|refine a_d ?_ e_P.out)|exact HB.out))) : w.heap.size ≤ b_H));have b_B:=a_e.mk ((by rw [hg];exact Nat.ne_of_lt (a_N (bup_ d_G.out)) : f_x ≠ b_H));have e_x:=a_e.mk ((by rw [hg];exact Nat.ne_of_gt (a_N (bup_ d_G.out)) : b_H ≠ f_x));replace d_G:=a_e.mk (a_l (bup_ d_G.out) hb);replace HB:=a_e.mk (a_t (by repeat (first|(with_reducible first|exact HB.out|apply a_g|apply a_f|apply a_h|refine a_d ?_ e_P.out)|exact HB.out)) hb);clear hb hbox hg;have O_W:=e_x.out;have O_X:=b_B.out;have m_Q : w31.cell? ⟨b_H,0,none⟩ = some (.int .i64 0):=(a_a b_g.out 0).trans rfl;have m_R : w31.cell? ⟨b_H,1,none⟩ = some (.int .i64 0):=(a_a b_g.out 1).trans rfl;have I_Y : w31.cell? ⟨b_H,2,none⟩ = some (.int .i64 0):=(a_a b_g.out 2).trans rfl;have I_Z : w31.cell? ⟨b_H,3,none⟩ = some (.int .i64 0):=(a_a b_g.out 3).trans rfl;have I_0 : w31.cell? ⟨b_H,4,none⟩ = some (.int .i64 0):=(a_a b_g.out 4).trans rfl;have I_1 : w31.cell? ⟨b_H,5,none⟩ = some (.bool false):=(a_a b_g.out 5).trans rfl;have I_2 : w31.cell? ⟨b_H,6,none⟩ = some (.bool false):=(a_a b_g.out 6).trans rfl;have I_3 : w31.cell? ⟨b_H,7,none⟩ = some (.int .u32 0):=(a_a b_g.out 7).trans rfl;have I_4 : w31.cell? ⟨b_H,8,none⟩ = some (.int .i64 0):=(a_a b_g.out 8).trans rfl;have I_5 : w31.cell? ⟨b_H,9,none⟩ = some (.int .i64 0):=(a_a b_g.out 9).trans rfl;have x_E : w31.cell? ⟨b_H,10,none⟩ = some (.int .i64 0):=(a_a b_g.out 10).trans rfl;have m_S:=a_b b_g.out 0;have m_T:=a_b b_g.out 1;have I_6:=a_b b_g.out 2;have I_7:=a_b b_g.out 3;have I_8:=a_b b_g.out 4;have I_9:=a_b b_g.out 5;have J_a:=a_b b_g.out 6;have J_b:=a_b b_g.out 7;have J_c:=a_b b_g.out 8;have J_d:=a_b b_g.out 9;have x_F:=a_b b_g.out 10)|(go_at_call 50;(with_reducible refine (c_d.calls ((a_c l0_1 x12_1).f7) ((a_c l0_1 x12_1).f4) true _ A22.out).mono ?_);rintro e w' ⟨rfl,⟨nd,rfl⟩⟩)|(go_at_call 50;(with_reducible refine (c_d.calls x3_1 ((a_c l0_1 x12_1).f4) false _ A24.out).mono ?_);rintro e w' ⟨rfl,⟨nd,rfl⟩⟩))
   go_roundg k1
   case measure => have:=HK1.out;omega
   case rel => exact ⟨(Go.bits .or .u32 x3_1 (ji30)),(wrap64 (x12_1 + 1)),(by first|rfl|(simp;done)|(simp only [← hji30] <;> (first|rfl|simp))|(simp [*];done)),(by first|rfl|(simp;done)|(simp [*];done)),H',⟨by have:=HK1.out;omega⟩,⟨by (with_reducible repeat (first|refine a_j ?_ _|refine a_k ?_|refine a_i ?_ _));refine a_B ?_ b_B.out _;(with_reducible repeat (first|refine a_j ?_ _|refine a_k ?_|refine a_i ?_ _));refine a_B ?_ b_B.out _;(with_reducible repeat (first|refine a_j ?_ _|refine a_k ?_|refine a_i ?_ _));refine a_B ?_ b_B.out _;(with_reducible repeat (first|refine a_j ?_ _|refine a_k ?_|refine a_i ?_ _));refine a_B ?_ b_B.out _;(with_reducible repeat (first|refine a_j ?_ _|refine a_k ?_|refine a_i ?_ _));refine a_B ?_ b_B.out _;(with_reducible repeat (first|refine a_j ?_ _|refine a_k ?_|refine a_i ?_ _));refine a_B ?_ b_B.out _;(with_reducible repeat (first|refine a_j ?_ _|refine a_k ?_|refine a_i ?_ _));refine a_B ?_ b_B.out _;(with_reducible repeat (first|refine a_j ?_ _|refine a_k ?_|refine a_i ?_ _));refine a_B ?_ b_B.out _;(with_reducible repeat (first|refine a_j ?_ _|refine a_k ?_|refine a_i ?_ _));refine a_B ?_ b_B.out _;(with_reducible repeat (first|refine a_j ?_ _|refine a_k ?_|refine a_i ?_ _));refine a_B ?_ b_B.out _;(with_reducible repeat (first|refine a_j ?_ _|refine a_k ?_|refine a_i ?_ _));refine a_B ?_ b_B.out _;(with_reducible repeat (first|refine a_j ?_ _|refine a_k ?_|refine a_i ?_ _));exact d_G.out⟩,⟨by repeat (first|(with_reducible first|exact HB.out|apply a_g|apply a_f|apply a_h|refine a_d ?_ e_P.out|refine a_d ?_ j_2.out)|exact HB.out)⟩⟩
end Go.Proofs.Ytgglkfilkagblaa.Q
end
section
namespace Go.Proofs.Ytgglkfilkagblaa.Q
open Go.RowKit Go.Proofs.YtgglkfilkagblaaW.PrintWords Go.Proofs.YtgglkfilkagblaaW.PrintLast Go.Proofs.YtgglkfilkagblaaW.PrintMore
set_option linter.unusedVariables false
set_option linter.unusedSimpArgs false
attribute [local go_sem high] A_d
def a_4.f (k : Nat)  : Option (Bool):=(b_w.f).bind fun bt166 => ((a_Y.f k ([] : List (S27)) 0 bt166.1 bt166.2).bind fun bt170 => ((b_J.f k bt170.1 bt170.2.1 9).bind fun bt176 => ((c_p.f k bt176.1 bt176.2.1 1 3 9).bind fun bt181 => ((b_6.f k bt176.1 bt176.2.1 2).bind fun bt183 => (if bt170.2.2 = 0 then (if bt176.2.2 = 0 then (if bt181.2 = 0 then (if bt183.2 = 0 then (if bt181.1 = 6 then (if (bt183.1.length : Int) = 1 then (if 0 < (bt183.1.length : Int) then (if (((e_n bt183.1 0).f0) == 0 && (((e_n bt183.1 0).f1) == 9)) = true then ((b_w.f).bind fun bt188 => ((a_6.f k bt188.1 bt188.2).bind fun t192 => (some t192))) else (some false)) else (none)) else (some false)) else (some false)) else (some false)) else (some false)) else (some false)) else (some false))))))
theorem a_4.mono : ∀ k,LeO (a_4.f k ) (a_4.f (k + 1) ):=by
 intro  k
 unfold a_4.f
 repeat' first
  | (with_reducible exact a_Y.mono _ _ _ _ _)
  | (with_reducible exact a_6.mono _ _ _)
  | (with_reducible exact b_J.mono _ _ _ _)
  | (with_reducible exact c_p.mono _ _ _ _ _ _)
  | (with_reducible exact b_6.mono _ _ _ _)
  | (with_reducible exact LeO.refl _)
  | (with_reducible exact LeO.none _)
  | (with_reducible refine LeO.ite ?_ ?_)
  | (with_reducible refine LeO.bind ?_ (fun _ => ?_))
  | exact a_Y.mono _ _ _ _ _
  | exact a_6.mono _ _ _
  | exact b_J.mono _ _ _ _
  | exact c_p.mono _ _ _ _ _ _
  | exact b_6.mono _ _ _ _
  | exact LeO.none _
  | refine LeO.ite ?_ ?_
  | refine LeO.bind ?_ (fun _ => ?_)
set_option maxHeartbeats 8000000 in
set_option maxRecDepth 100000 in
theorem a_4.calls (k : Nat)  (r : Bool) (w : World) (h : a_4.f k  = some r) :
 Calls Try.prog 7 #[] w fun e w' => e = .returned (.bool r) ∧ Below w.heap.size w w':=by
 have hr : r = true:=Option.some.inj ((i_S (g:=fun k => a_4.f k) a_4.mono (Nat.le_max_left k 200) h).symm.trans (i_S (g:=fun k => a_4.f k) a_4.mono (Nat.le_max_right k 200) (show a_4.f 200 = some true by kernel_rfl)))
 have hu24:=Try.underlying24
 have hu46:=Try.underlying46
 have HB:=a_e.mk (Below.refl w.heap.size w)
 have H : ((b_w.f).bind fun bt166 => ((a_Y.f k ([] : List (S27)) 0 bt166.1 bt166.2).bind fun bt170 => ((b_J.f k bt170.1 bt170.2.1 9).bind fun bt176 => ((c_p.f k bt176.1 bt176.2.1 1 3 9).bind fun bt181 => ((b_6.f k bt176.1 bt176.2.1 2).bind fun bt183 => (if bt170.2.2 = 0 then (if bt176.2.2 = 0 then (if bt181.2 = 0 then (if bt183.2 = 0 then (if bt181.1 = 6 then (if (bt183.1.length : Int) = 1 then (if 0 < (bt183.1.length : Int) then (if (((e_n bt183.1 0).f0) == 0 && (((e_n bt183.1 0).f1) == 9)) = true then ((b_w.f).bind fun bt188 => ((a_6.f k bt188.1 bt188.2).bind fun t192 => (some t192))) else (some false)) else (none)) else (some false)) else (some false)) else (some false)) else (some false)) else (some false)) else (some false))))))) = some r:=h
 clear h
 replace H:=Option.bind_eq_some_iff.mp H
 obtain ⟨⟨t166,t167⟩,A10,H⟩:=H
 replace H : ((a_Y.f k ([] : List (S27)) 0 t166 t167).bind fun bt170 => ((b_J.f k bt170.1 bt170.2.1 9).bind fun bt176 => ((c_p.f k bt176.1 bt176.2.1 1 3 9).bind fun bt181 => ((b_6.f k bt176.1 bt176.2.1 2).bind fun bt183 => (if bt170.2.2 = 0 then (if bt176.2.2 = 0 then (if bt181.2 = 0 then (if bt183.2 = 0 then (if bt181.1 = 6 then (if (bt183.1.length : Int) = 1 then (if 0 < (bt183.1.length : Int) then (if (((e_n bt183.1 0).f0) == 0 && (((e_n bt183.1 0).f1) == 9)) = true then ((b_w.f).bind fun bt188 => ((a_6.f k bt188.1 bt188.2).bind fun t192 => (some t192))) else (some false)) else (none)) else (some false)) else (some false)) else (some false)) else (some false)) else (some false)) else (some false)))))) = some r:=H
 have A1:=a_e.mk A10
 clear A10
 replace H:=Option.bind_eq_some_iff.mp H
 obtain ⟨⟨t170,t173,t174⟩,A20,H⟩:=H
 replace H : ((b_J.f k t170 t173 9).bind fun bt176 => ((c_p.f k bt176.1 bt176.2.1 1 3 9).bind fun bt181 => ((b_6.f k bt176.1 bt176.2.1 2).bind fun bt183 => (if t174 = 0 then (if bt176.2.2 = 0 then (if bt181.2 = 0 then (if bt183.2 = 0 then (if bt181.1 = 6 then (if (bt183.1.length : Int) = 1 then (if 0 < (bt183.1.length : Int) then (if (((e_n bt183.1 0).f0) == 0 && (((e_n bt183.1 0).f1) == 9)) = true then ((b_w.f).bind fun bt188 => ((a_6.f k bt188.1 bt188.2).bind fun t192 => (some t192))) else (some false)) else (none)) else (some false)) else (some false)) else (some false)) else (some false)) else (some false)) else (some false))))) = some r:=H
 have A2:=a_e.mk A20
 clear A20
 replace H:=Option.bind_eq_some_iff.mp H
 obtain ⟨⟨t176,t179,t180⟩,A30,H⟩:=H
 replace H : ((c_p.f k t176 t179 1 3 9).bind fun bt181 => ((b_6.f k t176 t179 2).bind fun bt183 => (if t174 = 0 then (if t180 = 0 then (if bt181.2 = 0 then (if bt183.2 = 0 then (if bt181.1 = 6 then (if (bt183.1.length : Int) = 1 then (if 0 < (bt183.1.length : Int) then (if (((e_n bt183.1 0).f0) == 0 && (((e_n bt183.1 0).f1) == 9)) = true then ((b_w.f).bind fun bt188 => ((a_6.f k bt188.1 bt188.2).bind fun t192 => (some t192))) else (some false)) else (none)) else (some false)) else (some false)) else (some false)) else (some false)) else (some false)) else (some false)))) = some r:=H
 have A3:=a_e.mk A30
 clear A30
 replace H:=Option.bind_eq_some_iff.mp H
 obtain ⟨⟨t181,t182⟩,A40,H⟩:=H
 replace H : ((b_6.f k t176 t179 2).bind fun bt183 => (if t174 = 0 then (if t180 = 0 then (if t182 = 0 then (if bt183.2 = 0 then (if t181 = 6 then (if (bt183.1.length : Int) = 1 then (if 0 < (bt183.1.length : Int) then (if (((e_n bt183.1 0).f0) == 0 && (((e_n bt183.1 0).f1) == 9)) = true then ((b_w.f).bind fun bt188 => ((a_6.f k bt188.1 bt188.2).bind fun t192 => (some t192))) else (some false)) else (none)) else (some false)) else (some false)) else (some false)) else (some false)) else (some false)) else (some false))) = some r:=H
 have A4:=a_e.mk A40
 clear A40
 replace H:=Option.bind_eq_some_iff.mp H
 obtain ⟨⟨t183,t186⟩,A50,H⟩:=H
 replace H : (if t174 = 0 then (if t180 = 0 then (if t182 = 0 then (if t186 = 0 then (if t181 = 6 then (if (t183.length : Int) = 1 then (if 0 < (t183.length : Int) then (if (((e_n t183 0).f0) == 0 && (((e_n t183 0).f1) == 9)) = true then ((b_w.f).bind fun bt188 => ((a_6.f k bt188.1 bt188.2).bind fun t192 => (some t192))) else (some false)) else (none)) else (some false)) else (some false)) else (some false)) else (some false)) else (some false)) else (some false)) = some r:=H
 have A5:=a_e.mk A50
 clear A50
 by_cases c6 : t174 = 0
 rotate_left
 ·rw [if_neg c6] at H
  exact absurd ((Option.some.inj H).trans hr) (by decide)
 rw [if_pos c6] at H
 have c6b0 : (t174 == 0) = true:=beq_iff_eq.mpr c6
 have c6b1 : (t174 != 0) = false:=bne_eq_false_iff_eq.mpr c6
 clear c6
 by_cases c7 : t180 = 0
 rotate_left
 ·rw [if_neg c7] at H
  exact absurd ((Option.some.inj H).trans hr) (by decide)
 rw [if_pos c7] at H
 have c7b0 : (t180 == 0) = true:=beq_iff_eq.mpr c7
 have c7b1 : (t180 != 0) = false:=bne_eq_false_iff_eq.mpr c7
 clear c7
 by_cases c8 : t182 = 0
 rotate_left
 ·rw [if_neg c8] at H
  exact absurd ((Option.some.inj H).trans hr) (by decide)
 rw [if_pos c8] at H
 have c8b0 : (t182 == 0) = true:=beq_iff_eq.mpr c8
 have c8b1 : (t182 != 0) = false:=bne_eq_false_iff_eq.mpr c8
 clear c8
 by_cases c9 : t186 = 0
 rotate_left
 ·rw [if_neg c9] at H
  exact absurd ((Option.some.inj H).trans hr) (by decide)
 rw [if_pos c9] at H
 have c9b0 : (t186 == 0) = true:=beq_iff_eq.mpr c9
 have c9b1 : (t186 != 0) = false:=bne_eq_false_iff_eq.mpr c9
 clear c9
 by_cases c10 : t181 = 6
 rotate_left
 ·rw [if_neg c10] at H
  exact absurd ((Option.some.inj H).trans hr) (by decide)
 rw [if_pos c10] at H
 have c10b0 : (t181 == 6) = true:=beq_iff_eq.mpr c10
 have c10b1 : (t181 != 6) = false:=bne_eq_false_iff_eq.mpr c10
 clear c10
 by_cases c11 : (t183.length : Int) = 1
 rotate_left
 ·rw [if_neg c11] at H
  exact absurd ((Option.some.inj H).trans hr) (by decide)
 rw [if_pos c11] at H
 have c11b0 : ((t183.length : Int) == 1) = true:=beq_iff_eq.mpr c11
 have c11b1 : ((t183.length : Int) != 1) = false:=bne_eq_false_iff_eq.mpr c11
 clear c11
 by_cases c12 : 0 < (t183.length : Int)
 rotate_left
 ·rw [if_neg c12] at H
  exact absurd H (by simp)
 rw [if_pos c12] at H
 have c12b0 : decide (0 < (t183.length : Int)) = true:=decide_eq_true c12
 have c12b1 : decide (0 < t183.length) = true:=decide_eq_true (by omega)
 clear c12
 by_cases c13 : (((e_n t183 0).f0) == 0 && (((e_n t183 0).f1) == 9)) = true
 rotate_left
 ·rw [if_neg c13] at H
  exact absurd ((Option.some.inj H).trans hr) (by decide)
 rw [if_pos c13] at H
 have c13b0 : (((e_n t183 0).f0) == 0 && (((e_n t183 0).f1) == 9)) = true:=c13
 (try (have c13b1 : decide (((e_n t183 0).f0) = 0 && (((e_n t183 0).f1) == 9)) = true:=by simpa using c13))
 (try (have c13b2 : (((e_n t183 0).f0) == 0 && (((e_n t183 0).f1) == 9)) = true:=by simpa using c13))
 clear c13
 replace H:=Option.bind_eq_some_iff.mp H
 obtain ⟨⟨t188,t189⟩,A140,H⟩:=H
 replace H : ((a_6.f k t188 t189).bind fun t192 => (some t192)) = some r:=H
 have A14:=a_e.mk A140
 clear A140
 replace H:=Option.bind_eq_some_iff.mp H
 obtain ⟨t192,A150,H⟩:=H
 replace H : (some t192) = some r:=H
 have A15:=a_e.mk A150
 clear A150
 obtain rfl:=Option.some.inj H
 go_enter Try.func7,Try.ntmps7
 go_wp2_with (first|((with_reducible refine a_P (f:=22) rfl ?_);refine b_v (some 10) rfl rfl Try.func22 (by kernel_rfl) rfl #[] rfl (by (try simp only [List.map_toArray,List.map_cons,List.map_nil]);first|done|rfl|(simp only [List.length_drop,List.length_take];rfl)) ?_;(with_reducible refine (b_w.calls  t166 t167 _ A1.out).mono ?_);rintro e w16 ⟨v168,rfl,ho0,hb⟩;refine ⟨_,rfl,?_⟩;have g_z:=a_e.mk (Kd.i_h ho0 (a_p (lup_ HB.out)));replace HB:=a_e.mk (a_t (lup_ HB.out) hb);(try clear hb);(try clear hb2);(try clear hk);(try clear hi);(try clear ho0);obtain ⟨Ao17,co17,eo17⟩:=Kd.g_9 g_z.out;subst eo17)|((with_reducible refine a_P (f:=10) rfl ?_);refine b_v (some 11) rfl rfl Try.func10 (by kernel_rfl) rfl #[.agg #[.slice none 0 0,.int .i64 0],.agg #[.int .i64 t166,.slice Ao17 t167.length co17]] rfl (by (try simp only [List.map_toArray,List.map_cons,List.map_nil]);first|done|rfl|(simp only [List.length_drop,List.length_take];rfl)) ?_;(refine (a_Y.calls k (fun k_ => False) _ _ ([] : List (S27)) 0 t166 (fun k_ => some k_ = (.slice Ao17 t167.length co17 : Value).ownBlock) _ _ t167 t170 t173 t174 _ ?side1 ?side2 A2.out).mono ?_);(case side1 => exact Kd.h_O _ _ _ _ _);(case side2 => exact Kd.R_V (Kd.l_2 rfl (g_z.out)));rintro e w18 ⟨v171,rfl,ho0,hb⟩;refine ⟨_,rfl,?_⟩;have g_0:=a_e.mk (Kd.i_e (Kd.b_P (ok':=fun k_ => True) ho0 (fun k_ hk_ => trivial)) (a_p (lup_ HB.out)));replace g_z:=a_e.mk (Kd.f_d (rup_ g_z.out) hb);replace HB:=a_e.mk (a_t (lup_ HB.out) hb);(try clear hb);(try clear hb2);(try clear hk);(try clear hi);(try clear ho0))|((with_reducible refine a_U (N:=1) rfl ?_);(try (refine c_P (by rfl) ?_;dsimp only));refine a_H ?hg (N:=1) ?hd (cs:=#[.slice none 0 0,.int .i64 0]) (t:=24) ?hr ?_;(case hd => rfl);(case hg => rfl);(case hr => first|(go_simp;done)|(go_simp;rfl));intro e_r hg w19 hbox hb;have e_M:=a_e.mk (hbox);have O_Y:=a_e.mk ((by rw [hg];exact (a_p (lup_ HB.out)) : w.heap.size ≤ e_r));have k_q:=a_e.mk ((by rw [hg];exact (a_p (lup_ HB.out)) : w.heap.size ≤ e_r));replace g_z:=a_e.mk (Kd.f_d (rup_ g_z.out) hb);replace g_0:=a_e.mk (Kd.a_2 (Kd.f_v (by (with_reducible repeat (first|apply Kd.a_R|apply Kd.a_S|apply Kd.a_Z));exact g_0.out) e_r (Nat.le_of_eq hg.symm)) hb);replace HB:=a_e.mk (a_t (lup_ HB.out) hb);clear hb hbox hg;obtain ⟨Ao20,co20,eo20⟩:=Kd.f_A g_0.out;subst eo20;have i_w : w19.cell? ⟨e_r,0,none⟩ = some (.slice none 0 0):=(a_a e_M.out 0).trans rfl;have i_x : w19.cell? ⟨e_r,1,none⟩ = some (.int .i64 0):=(a_a e_M.out 1).trans rfl;have i_y:=a_b e_M.out 0;have i_z:=a_b e_M.out 1)|((with_reducible refine g_W (t:=24) (p:=1) rfl ?_);refine f_8 (t:=24) (p:=1) (v:=?vo_w22) (w1:=((w19.setCell ⟨e_r,0,none⟩ (.slice Ao20 t170.length co20)).setCell ⟨e_r,1,none⟩ (.int .i64 t173))) ?hg ?ho ?hn ?hr ?_;(case ho => rfl);(case hg => rfl);(case hn => rfl);(case hr => first|(go_simp;done)|(go_simp;rfl));intro w22 hw;replace g_z : a_e (Kd.R k65 65 w22 w.heap.size (fun _ => True) (.slice Ao17 t167.length co17) t167):=⟨(by rw [hw];exact (by (with_reducible repeat (first|apply Kd.o_J|apply Kd.o_A|apply Kd.r_G));exact Kd.f_z (Kd.q_K (p:=⟨e_r,1,none⟩) (Kd.q_K (p:=⟨e_r,0,none⟩) (Kd.i_Q g_z.out e_M.out (by decide)) (fun _ hk => hk.2) (.slice Ao20 t170.length co20)) (fun _ hk => hk.2) (.int .i64 t173)) (fun _ hk => trivial)))⟩;replace g_0 : a_e (Kd.N k27 27 w22 w.heap.size (fun k_ => k_ ≠ e_r) (.slice Ao20 t170.length co20) t170):=⟨(by rw [hw];exact (by (with_reducible repeat (first|apply Kd.a_R|apply Kd.a_S|apply Kd.a_Z));exact Kd.b_P (Kd.d_E (p:=⟨e_r,1,none⟩) (Kd.d_E (p:=⟨e_r,0,none⟩) (Kd.b_P g_0.out (fun k_ hk => (⟨hk,hk.2⟩ : _ ∧ k_ ≠ e_r))) (fun _ hk => hk.2) (.slice Ao20 t170.length co20)) (fun _ hk => hk.2) (.int .i64 t173)) (fun _ hk => hk.1.2)))⟩;replace e_M : a_e (w22.heap[e_r]? = some (.cells #[.slice Ao20 t170.length co20,.int .i64 t173] 24 (0,0))):=⟨(by rw [hw];exact (by (with_reducible repeat (first|refine a_j ?_ _|refine a_k ?_|refine a_i ?_ _));refine a_J (cs:=#[.slice Ao20 t170.length co20,.int .i64 0]) ?_ 1 _ rfl;(with_reducible repeat (first|refine a_j ?_ _|refine a_k ?_|refine a_i ?_ _));refine a_J (cs:=#[.slice none 0 0,.int .i64 0]) ?_ 0 _ rfl;(with_reducible repeat (first|refine a_j ?_ _|refine a_k ?_|refine a_i ?_ _));exact e_M.out))⟩;replace HB : a_e (Below w.heap.size w w22):=⟨(by rw [hw];exact (by repeat (first|(with_reducible first|exact HB.out|apply a_g|apply a_f|apply a_h|refine a_d ?_ k_q.out)|exact HB.out)))⟩;clear hw;have q_j : w22.cell? ⟨e_r,0,none⟩ = some (.slice Ao20 t170.length co20):=(a_a e_M.out 0).trans rfl;have q_k : w22.cell? ⟨e_r,1,none⟩ = some (.int .i64 t173):=(a_a e_M.out 1).trans rfl;have q_l:=a_b e_M.out 0;have q_m:=a_b e_M.out 1)|((with_reducible refine a_P (f:=11) rfl ?_);refine b_v (some 16) rfl rfl Try.func11 (by kernel_rfl) rfl #[.agg #[.slice Ao20 t170.length co20,.int .i64 t173],.int .i64 9] rfl (by (try simp only [List.map_toArray,List.map_cons,List.map_nil]);first|done|rfl|(simp only [List.length_drop,List.length_take];rfl)) ?_;(with_reducible refine (b_J.calls k (fun k_ => k_ ≠ e_r) _ _ t170 t173 9 t176 t179 t180 _ ?side1 A3.out).mono ?_);(case side1 => exact Kd.N_V (g_0.out));rintro e w24 ⟨v177,rfl,ho0,hb⟩;refine ⟨_,rfl,?_⟩;have i_A:=a_e.mk (Kd.o_R (Kd.b_X (ok':=fun k_ => k_ ≠ e_r) ho0 (fun k_ hk_ => Or.elim hk_ (fun hs_ => hs_) (fun hn_ => (Kd.d_g (g:=e_r) (o:=.cells #[.slice Ao20 t170.length co20,.int .i64 t173] 24 (0,0)) (bup_ e_M.out) k_ hn_)))) (a_p (by repeat (first|(with_reducible first|exact HB.out|apply a_g|apply a_f|apply a_h|refine a_d ?_ k_q.out)|exact HB.out))));replace g_z:=a_e.mk (Kd.f_d (rup_ g_z.out) hb);replace g_0:=a_e.mk (Kd.a_2 (by (with_reducible repeat (first|apply Kd.a_R|apply Kd.a_S|apply Kd.a_Z));exact g_0.out) hb);replace e_M:=a_e.mk (a_l (bup_ e_M.out) hb);replace HB:=a_e.mk (a_t (by repeat (first|(with_reducible first|exact HB.out|apply a_g|apply a_f|apply a_h|refine a_d ?_ k_q.out)|exact HB.out)) hb);(try clear hb);(try clear hb2);(try clear hk);(try clear hi);(try clear ho0);obtain ⟨Ao25,co25,eo25⟩:=Kd.o_r i_A.out;subst eo25;have j_p : w24.cell? ⟨e_r,0,none⟩ = some (.slice Ao20 t170.length co20):=(a_a e_M.out 0).trans rfl;have j_q : w24.cell? ⟨e_r,1,none⟩ = some (.int .i64 t173):=(a_a e_M.out 1).trans rfl;have j_r:=a_b e_M.out 0;have j_s:=a_b e_M.out 1)|((with_reducible refine a_P (f:=16) rfl ?_);refine b_v (some 21) rfl rfl Try.func16 (by kernel_rfl) rfl #[.agg #[.slice Ao25 t176.length co25,.int .i64 t179],.int .i64 1,.int .i64 3,.int .i64 9] rfl (by (try simp only [List.map_toArray,List.map_cons,List.map_nil]);first|done|rfl|(simp only [List.length_drop,List.length_take];rfl)) ?_;(with_reducible refine (c_p.calls k _ _ t176 t179 1 3 9 t181 t182 _ ?side1 ?side2 A4.out).mono ?_);(case side1 => refine (Kd.b_n (e:=27) (base:=w.heap.size) (ok:=fun k_ => k_ ≠ e_r) (n:=t176.length) (c:=co25) ?_).2.2;exact (by (with_reducible repeat (first|apply Kd.a_Q|apply Kd.a_O|apply Kd.a_W));exact (Kd.b_X (Kd.g_7 (p:=⟨e_r,1,none⟩) (Kd.g_7 (p:=⟨e_r,0,none⟩) (Kd.b_X i_A.out (fun k_ hk => (⟨hk,hk⟩ : _ ∧ k_ ≠ e_r))) (fun _ hk => hk.2) (.slice Ao25 t176.length co25)) (fun _ hk => hk.2) (.int .i64 t179)) (fun _ h_ => h_.1))));(case side2 => exact (Kd.b_n i_A.out).2.1);rintro e w27 ⟨rfl,hb⟩;refine ⟨_,rfl,?_⟩;replace g_z:=a_e.mk (Kd.f_d (by (with_reducible repeat (first|apply Kd.o_J|apply Kd.o_A|apply Kd.r_G));exact (Kd.f_z (Kd.q_K (p:=⟨e_r,1,none⟩) (Kd.q_K (p:=⟨e_r,0,none⟩) (Kd.i_Q g_z.out e_M.out (by decide)) (fun _ hk => hk.2) (.slice Ao25 t176.length co25)) (fun _ hk => hk.2) (.int .i64 t179)) (fun _ h_ => h_.1))) hb);replace g_0:=a_e.mk (Kd.a_2 (by (with_reducible repeat (first|apply Kd.a_R|apply Kd.a_S|apply Kd.a_Z));exact (Kd.b_P (Kd.d_E (p:=⟨e_r,1,none⟩) (Kd.d_E (p:=⟨e_r,0,none⟩) (Kd.b_P g_0.out (fun k_ hk => (⟨hk,hk⟩ : _ ∧ k_ ≠ e_r))) (fun _ hk => hk.2) (.slice Ao25 t176.length co25)) (fun _ hk => hk.2) (.int .i64 t179)) (fun _ h_ => h_.1))) hb);replace i_A:=a_e.mk (Kd.a_3 (by (with_reducible repeat (first|apply Kd.a_Q|apply Kd.a_O|apply Kd.a_W));exact (Kd.b_X (Kd.g_7 (p:=⟨e_r,1,none⟩) (Kd.g_7 (p:=⟨e_r,0,none⟩) (Kd.b_X i_A.out (fun k_ hk => (⟨hk,hk⟩ : _ ∧ k_ ≠ e_r))) (fun _ hk => hk.2) (.slice Ao25 t176.length co25)) (fun _ hk => hk.2) (.int .i64 t179)) (fun _ h_ => h_.1))) hb);replace e_M:=a_e.mk (a_l (g:=e_r) (o:=.cells #[.slice Ao25 t176.length co25,.int .i64 t179] 24 (0,0)) (by (with_reducible repeat (first|refine a_j ?_ _|refine a_k ?_|refine a_i ?_ _));refine a_J (cs:=#[.slice Ao25 t176.length co25,.int .i64 t173]) ?_ 1 _ rfl;(with_reducible repeat (first|refine a_j ?_ _|refine a_k ?_|refine a_i ?_ _));refine a_J (cs:=#[.slice Ao20 t170.length co20,.int .i64 t173]) ?_ 0 _ rfl;(with_reducible repeat (first|refine a_j ?_ _|refine a_k ?_|refine a_i ?_ _));exact e_M.out) hb);replace HB:=a_e.mk (a_t (by repeat (first|(with_reducible first|exact HB.out|apply a_g|apply a_f|apply a_h|refine a_d ?_ k_q.out)|exact HB.out)) hb);(try clear hb);(try clear hb2);(try clear hk);(try clear hi);have i_o : w27.cell? ⟨e_r,0,none⟩ = some (.slice Ao25 t176.length co25):=(a_a e_M.out 0).trans rfl;have i_p : w27.cell? ⟨e_r,1,none⟩ = some (.int .i64 t179):=(a_a e_M.out 1).trans rfl;have i_q:=a_b e_M.out 0;have i_r:=a_b e_M.out 1)|((with_reducible refine a_P (f:=17) rfl ?_);refine b_v (some 26) rfl rfl Try.func17 (by kernel_rfl) rfl #[.agg #[.slice Ao25 t176.length co25,.int .i64 t179],.int .i64 2] rfl (by (try simp only [List.map_toArray,List.map_cons,List.map_nil]);first|done|rfl|(simp only [List.length_drop,List.length_take];rfl)) ?_;(with_reducible refine (b_6.calls k _ _ t176 t179 2 t183 t186 _ ?side1 ?side2 A5.out).mono ?_);(case side1 => repeat (first|exact (Kd.b_n i_A.out).2.2|(with_reducible refine Kd.a_9 ?_ _)|(with_reducible refine Kd.a_8 ?_ _)|(with_reducible refine Kd.b_i ?_)));(case side2 => exact (Kd.b_n i_A.out).2.1);rintro e w29 ⟨v184,rfl,ho0,hb⟩;refine ⟨_,rfl,?_⟩;have o_d:=a_e.mk (Kd.i_h ho0 (a_p (by repeat (first|(with_reducible first|exact HB.out|apply a_g|apply a_f|apply a_h|refine a_d ?_ k_q.out)|exact HB.out))));replace g_z:=a_e.mk (Kd.f_d (rup_ g_z.out) hb);replace g_0:=a_e.mk (Kd.h_K (by (with_reducible repeat (first|apply Kd.a_R|apply Kd.a_S|apply Kd.a_Z));exact g_0.out) (Kd.i_V ho0) hb);replace i_A:=a_e.mk (Kd.g_X (by (with_reducible repeat (first|apply Kd.a_Q|apply Kd.a_O|apply Kd.a_W));exact i_A.out) (Kd.i_V ho0) hb);replace e_M:=a_e.mk (a_l (bup_ e_M.out) hb);replace HB:=a_e.mk (a_t (by repeat (first|(with_reducible first|exact HB.out|apply a_g|apply a_f|apply a_h|refine a_d ?_ k_q.out)|exact HB.out)) hb);(try clear hb);(try clear hb2);(try clear hk);(try clear hi);(try clear ho0);obtain ⟨Ao30,co30,eo30⟩:=Kd.g_9 o_d.out;subst eo30;have p187 : 0 ≤ (0 : Int):=(by omega);have q187 : 0 < (t183.length : Int):=of_decide_eq_true (by first|(with_reducible assumption)|assumption);obtain ⟨ad187,e187,n_s,n_t⟩:=v_W (Kd.f_U o_d.out).2.2 0 p187 q187;cases e187;have qi187 : (0 < t183.length) = True:=eq_true (by omega);(try rw [show ((0 : Int)).toNat = 0 from rfl] at n_s);(try rw [show 0 * 2 = 0 from rfl] at n_s);(try rw [Addr.add_zero'] at n_s);(try rw [show ((0 : Int)).toNat = 0 from rfl] at n_t);(try rw [show 0 * 2 = 0 from rfl] at n_t);(try rw [Addr.add_zero'] at n_t);replace p187:=eq_true p187;replace q187:=eq_true q187)|(go_at_call 22;(with_reducible refine (b_w.calls  t188 t189 _ A14.out).mono ?_);rintro e w31 ⟨v190,rfl,ho0,hb⟩;have q_D:=a_e.mk (Kd.i_h (Kd.v_Q ho0 (Kd.R_lt (rup_ g_z.out))) (a_p (by repeat (first|(with_reducible first|exact HB.out|apply a_g|apply a_f|apply a_h|refine a_d ?_ k_q.out)|exact HB.out))));replace g_z:=a_e.mk (Kd.n_A (rup_ g_z.out) (Kd.i_V ho0) hb);replace g_0:=a_e.mk (Kd.h_K (by (with_reducible repeat (first|apply Kd.a_R|apply Kd.a_S|apply Kd.a_Z));exact g_0.out) (Kd.i_V ho0) hb);replace i_A:=a_e.mk (Kd.g_X (by (with_reducible repeat (first|apply Kd.a_Q|apply Kd.a_O|apply Kd.a_W));exact i_A.out) (Kd.i_V ho0) hb);replace o_d:=a_e.mk (Kd.f_d (rup_ o_d.out) hb);replace e_M:=a_e.mk (a_l (bup_ e_M.out) hb);replace HB:=a_e.mk (a_t (by repeat (first|(with_reducible first|exact HB.out|apply a_g|apply a_f|apply a_h|refine a_d ?_ k_q.out)|exact HB.out)) hb);(try clear hb);(try clear hb2);(try clear hk);(try clear hi);(try clear ho0);obtain ⟨Ao32,co32,eo32⟩:=Kd.g_9 q_D.out;subst eo32)|(go_at_call 23;(with_reducible refine (a_6.calls k t188 _ _ t189 t192 _ ?side1 ?side2 A15.out).mono ?_);(case side1 => repeat (first|exact (Kd.f_U q_D.out).2.2|(with_reducible refine Kd.a_9 ?_ _)|(with_reducible refine Kd.a_8 ?_ _)|(with_reducible refine Kd.b_i ?_)));(case side2 => exact (Kd.f_U q_D.out).2.1);rintro e w33 ⟨rfl,hb⟩;replace g_z:=a_e.mk (Kd.f_d (rup_ g_z.out) hb);replace g_0:=a_e.mk (Kd.a_2 (by (with_reducible repeat (first|apply Kd.a_R|apply Kd.a_S|apply Kd.a_Z));exact g_0.out) hb);replace i_A:=a_e.mk (Kd.a_3 (by (with_reducible repeat (first|apply Kd.a_Q|apply Kd.a_O|apply Kd.a_W));exact i_A.out) hb);replace o_d:=a_e.mk (Kd.f_d (rup_ o_d.out) hb);replace q_D:=a_e.mk (Kd.f_d (rup_ q_D.out) hb);replace e_M:=a_e.mk (a_l (bup_ e_M.out) hb);replace HB:=a_e.mk (a_t (by repeat (first|(with_reducible first|exact HB.out|apply a_g|apply a_f|apply a_h|refine a_d ?_ k_q.out)|exact HB.out)) hb);(try clear hb);(try clear hb2);(try clear hk);(try clear hi)))
 go_ret
 exact ⟨by first|rfl|(simp [a_w,a_x] <;> rfl)|(simp [*, a_w,a_x] <;> rfl),by repeat (first|(with_reducible first|exact HB.out|apply a_g|apply a_f|apply a_h|refine a_d ?_ k_q.out)|exact HB.out)⟩
end Go.Proofs.Ytgglkfilkagblaa.Q
end
section
namespace Go.Proofs.Ytgglkfilkagblaa.Q
open Go.RowKit Go.Proofs.YtgglkfilkagblaaW.PrintWords Go.Proofs.YtgglkfilkagblaaW.PrintLast Go.Proofs.YtgglkfilkagblaaW.PrintMore
set_option linter.unusedVariables false
set_option linter.unusedSimpArgs false
def a_K.l0 : Nat → List (S27) → Int → Int → Option (Bool)
 | 0,_,_,_ => none
 | k + 1,x10,x11,x12 => if x12 < x11 then (if 0 ≤ x12 then (if x12 < (x10.length : Int) then (if (((a_o x10 x12).f1).length : Int) > 30 then (some true) else (a_K.l0 k x10 x11 (wrap64 (x12 + 1)))) else (none)) else (none)) else (some false)
def a_K.f (k : Nat) (l0_0 : List (S27)) (a0_1 : Int) : Option (Bool):=if (l0_0.length : Int) > 120 then (some true) else (a_K.l0 k l0_0 (l0_0.length : Int) 0)
theorem a_K.c_N : ∀ k,(∀ y0 y1 y2,LeO (a_K.l0 k y0 y1 y2) (a_K.l0 (k + 1) y0 y1 y2))
 | 0 => fun _ _ _ r h => by simp [a_K.l0] at h
 | k + 1 => by
  have ih0:=a_K.c_N k
  ·intro y0 y1 y2
   unfold a_K.l0
   repeat' first
   | (with_reducible exact ih0 _ _ _)
   | (with_reducible exact LeO.refl _)
   | (with_reducible exact LeO.none _)
   | (with_reducible refine LeO.ite ?_ ?_)
   | (with_reducible refine LeO.bind ?_ (fun _ => ?_))
   | exact ih0 _ _ _
   | exact LeO.none _
   | refine LeO.ite ?_ ?_
   | refine LeO.bind ?_ (fun _ => ?_)
theorem a_K.mono : ∀ a0 a1 k,LeO (a_K.f k a0 a1) (a_K.f (k + 1) a0 a1):=by
 intro a0 a1 k
 have ih0:=a_K.c_N k
 unfold a_K.f
 repeat' first
  | (with_reducible exact ih0 _ _ _)
  | (with_reducible exact LeO.refl _)
  | (with_reducible exact LeO.none _)
  | (with_reducible refine LeO.ite ?_ ?_)
  | (with_reducible refine LeO.bind ?_ (fun _ => ?_))
  | exact ih0 _ _ _
  | exact LeO.none _
  | refine LeO.ite ?_ ?_
  | refine LeO.bind ?_ (fun _ => ?_)
set_option maxHeartbeats 8000000 in
set_option maxRecDepth 100000 in
theorem a_K.calls (k : Nat) (A0_0 : Option Addr) (c0_0 : Nat) (l0_0 : List (S27)) (a0_1 : Int) (r : Bool) (w : World) (hr0_0 : Kd.C k27 w A0_0 l0_0.length l0_0) (hc0_0 : l0_0.length ≤ c0_0) (h : a_K.f k l0_0 a0_1 = some r) :
 Calls Try.prog 8 #[.agg #[.slice A0_0 l0_0.length c0_0,.int .i64 a0_1]] w fun e w' => e = .returned (.bool r) ∧ Below w.heap.size w w':=by
 have hu24:=Try.underlying24
 have hu27:=Try.underlying27
 have c_V:=a_e.mk hr0_0
 have f_w:=a_e.mk hc0_0
 clear hr0_0 hc0_0
 have HB:=a_e.mk (Below.refl w.heap.size w)
 have H : (if (l0_0.length : Int) > 120 then (some true) else (a_K.l0 k l0_0 (l0_0.length : Int) 0)) = some r:=h
 clear h
 by_cases c2 : (l0_0.length : Int) > 120
 ·rw [if_pos c2] at H
  have c2b0 : decide (120 < (l0_0.length : Int)) = true:=decide_eq_true c2
  have c2b1 : decide (120 < l0_0.length) = true:=decide_eq_true (by omega)
  clear c2
  obtain rfl:=Option.some.inj H
  go_enter Try.func8,Try.ntmps8
  go_wp2_with (first|((with_reducible refine a_U (N:=1) rfl ?_);refine a_H ?hg (N:=1) ?hd (cs:=#[.slice A0_0 l0_0.length c0_0,.int .i64 a0_1]) (t:=24) ?hr ?_;(case hd => rfl);(case hg => rfl);(case hr => first|(go_simp;done)|(go_simp;rfl));intro h_0 hg w3 hbox hb;have f_4:=a_e.mk (hbox);have J_e:=a_e.mk ((by rw [hg];exact (a_p (lup_ HB.out)) : w.heap.size ≤ h_0));have i_M:=a_e.mk ((by rw [hg];exact (a_p (lup_ HB.out)) : w.heap.size ≤ h_0));replace HB:=a_e.mk (a_t (lup_ HB.out) hb);clear hb hbox hg;have r_S : w3.cell? ⟨h_0,0,none⟩ = some (.slice A0_0 l0_0.length c0_0):=(a_a f_4.out 0).trans rfl;have r_T : w3.cell? ⟨h_0,1,none⟩ = some (.int .i64 a0_1):=(a_a f_4.out 1).trans rfl;have r_U:=a_b f_4.out 0;have r_V:=a_b f_4.out 1))
  go_ret
  exact ⟨by first|rfl|(simp [a_w,a_x] <;> rfl)|(simp [*, a_w,a_x] <;> rfl),by repeat (first|(with_reducible first|exact HB.out|apply a_g|apply a_f|apply a_h|refine a_d ?_ i_M.out)|exact HB.out)⟩
 rw [if_neg c2] at H
 have c2b0 : decide (120 < (l0_0.length : Int)) = false:=decide_eq_false c2
 have c2b1 : decide (120 < l0_0.length) = false:=decide_eq_false (by omega)
 clear c2
 have H':=a_e.mk H
 clear H
 go_enter Try.func8,Try.ntmps8
 go_wp2_with (first|((with_reducible refine a_U (N:=1) rfl ?_);refine a_H ?hg (N:=1) ?hd (cs:=#[.slice A0_0 l0_0.length c0_0,.int .i64 a0_1]) (t:=24) ?hr ?_;(case hd => rfl);(case hg => rfl);(case hr => first|(go_simp;done)|(go_simp;rfl));intro h_0 hg w5 hbox hb;have f_4:=a_e.mk (hbox);have J_e:=a_e.mk ((by rw [hg];exact (a_p (lup_ HB.out)) : w.heap.size ≤ h_0));have i_M:=a_e.mk ((by rw [hg];exact (a_p (lup_ HB.out)) : w.heap.size ≤ h_0));replace HB:=a_e.mk (a_t (lup_ HB.out) hb);clear hb hbox hg;have n_R : w5.cell? ⟨h_0,0,none⟩ = some (.slice A0_0 l0_0.length c0_0):=(a_a f_4.out 0).trans rfl;have n_S : w5.cell? ⟨h_0,1,none⟩ = some (.int .i64 a0_1):=(a_a f_4.out 1).trans rfl;have n_T:=a_b f_4.out 0;have n_U:=a_b f_4.out 1))
 go_loopg [12] k (fun kq v12 w' => ∃ (x12_1 : Int),v12 = .int .i64 x12_1 ∧ a_e (a_K.l0 kq l0_0 (l0_0.length : Int) x12_1 = some r) ∧ a_e (kq ≤ k) ∧ a_e (w'.heap[h_0]? = some (.cells #[(.slice A0_0 l0_0.length c0_0),.int .i64 a0_1] 24 (0,0))) ∧ a_e (Below w.heap.size w w'))
 case atStart => exact ⟨(0),(by first|rfl|(simp;done)|(simp [*];done)),H',⟨Nat.le_refl _⟩,⟨by (with_reducible repeat (first|refine a_j ?_ _|refine a_k ?_|refine a_i ?_ _));exact f_4.out⟩,⟨by repeat (first|(with_reducible first|exact HB.out|apply a_g|apply a_f|apply a_h|refine a_d ?_ i_M.out)|exact HB.out)⟩⟩
 case round =>
  clear H'
  try clear c2
  try clear c2b0
  try clear c2b1
  try clear p2
  try clear r_S
  try clear r_T
  try clear n_R
  try clear n_S
  try clear r_U
  try clear r_V
  try clear n_T
  try clear n_U
  obtain ⟨x12_1,rfl,HA,HK1,f_4,HB⟩:=hrel
  cases gk with
  | zero => exact absurd HA.out (by simp [a_K.l0])
  | succ k1 =>
   have H:=HA.out
   clear HA
   simp only [a_K.l0] at H
   by_cases c7 : x12_1 < (l0_0.length : Int)
   rotate_left
   ·rw [if_neg c7] at H
    have c7b0 : decide (x12_1 < (l0_0.length : Int)) = false:=decide_eq_false c7
    clear c7
    obtain rfl:=Option.some.inj H
    go_wp2
    go_ret
    exact ⟨by first|rfl|(simp [a_w,a_x] <;> rfl)|(simp [*, a_w,a_x] <;> rfl),by repeat (first|(with_reducible first|exact HB.out|apply a_g|apply a_f|apply a_h|refine a_d ?_ i_M.out)|exact HB.out)⟩
   rw [if_pos c7] at H
   have c7b0 : decide (x12_1 < (l0_0.length : Int)) = true:=decide_eq_true c7
   clear c7
   by_cases c8 : 0 ≤ x12_1
   rotate_left
   ·rw [if_neg c8] at H
    exact absurd H (by simp)
   rw [if_pos c8] at H
   have c8b0 : decide (0 ≤ x12_1) = true:=decide_eq_true c8
   clear c8
   by_cases c9 : x12_1 < (l0_0.length : Int)
   rotate_left
   ·rw [if_neg c9] at H
    exact absurd H (by simp)
   rw [if_pos c9] at H
   have c9b0 : decide (x12_1 < (l0_0.length : Int)) = true:=decide_eq_true c9
   clear c9
   by_cases c10 : (((a_o l0_0 x12_1).f1).length : Int) > 30
   ·rw [if_pos c10] at H
    have c10b0 : decide (30 < (((a_o l0_0 x12_1).f1).length : Int)) = true:=decide_eq_true c10
    have c10b1 : decide (30 < ((a_o l0_0 x12_1).f1).length) = true:=decide_eq_true (by omega)
    clear c10
    obtain rfl:=Option.some.inj H
    have p194 : 0 ≤ (x12_1 : Int):=of_decide_eq_true (by first|(with_reducible assumption)|assumption)
    have q194 : x12_1 < (l0_0.length : Int):=of_decide_eq_true (by first|(with_reducible assumption)|assumption)
    obtain ⟨ad194,A194_1,c194_1,e194,h_D,h_E,j_3,j_4⟩:=c_t c_V.out x12_1 p194 q194
    cases e194
    replace h_D:=(HB.out.cell (World.block_lt_of_cell? w _ h_D)).trans h_D
    replace h_E:=(HB.out.cell (World.block_lt_of_cell? w _ h_E)).trans h_E
    have u_Z:=a_e.mk j_4
    have u_0:=a_e.mk j_3
    clear j_4 j_3
    replace p194:=eq_true p194
    replace q194:=eq_true q194
    go_wp2_with (first|((with_reducible refine a_U (N:=4) rfl ?_);refine a_H ?hg (N:=4) ?hd (cs:=#[.int .i64 0,.slice none 0 0]) (t:=27) ?hr ?_;(case hd => rfl);(case hg => rfl);(case hr => first|(go_simp;done)|(go_simp;rfl));intro i_B hg w11 hbox hb;have l_l:=a_e.mk (hbox);have J_f:=a_e.mk ((by rw [hg];exact (a_p (by repeat (first|(with_reducible first|exact HB.out|apply a_g|apply a_f|apply a_h|refine a_d ?_ i_M.out)|exact HB.out))) : w.heap.size ≤ i_B));have u_1:=a_e.mk ((by rw [hg];exact (a_p (by repeat (first|(with_reducible first|exact HB.out|apply a_g|apply a_f|apply a_h|refine a_d ?_ i_M.out)|exact HB.out))) : w.heap.size ≤ i_B));have g_Q:=a_e.mk ((by rw [hg];exact Nat.ne_of_lt (a_N (bup_ f_4.out)) : h_0 ≠ i_B));have j_5:=a_e.mk ((by rw [hg];exact Nat.ne_of_gt (a_N (bup_ f_4.out)) : i_B ≠ h_0));replace f_4:=a_e.mk (a_l (bup_ f_4.out) hb);replace HB:=a_e.mk (a_t (by repeat (first|(with_reducible first|exact HB.out|apply a_g|apply a_f|apply a_h|refine a_d ?_ i_M.out)|exact HB.out)) hb);clear hb hbox hg;have t_s:=j_5.out;have t_t:=g_Q.out;have g_d : w11.cell? ⟨i_B,0,none⟩ = some (.int .i64 0):=(a_a l_l.out 0).trans rfl;have g_e : w11.cell? ⟨i_B,1,none⟩ = some (.slice none 0 0):=(a_a l_l.out 1).trans rfl;have g_f:=a_b l_l.out 0;have g_g:=a_b l_l.out 1))
    go_ret
    exact ⟨by first|rfl|(simp [a_w,a_x] <;> rfl)|(simp [*, a_w,a_x] <;> rfl),by repeat (first|(with_reducible first|exact HB.out|apply a_g|apply a_f|apply a_h|refine a_d ?_ i_M.out|refine a_d ?_ u_1.out)|exact HB.out)⟩
   rw [if_neg c10] at H
   have c10b0 : decide (30 < (((a_o l0_0 x12_1).f1).length : Int)) = false:=decide_eq_false c10
   have c10b1 : decide (30 < ((a_o l0_0 x12_1).f1).length) = false:=decide_eq_false (by omega)
   clear c10
   have H':=a_e.mk H
   clear H
   have p194 : 0 ≤ (x12_1 : Int):=of_decide_eq_true (by first|(with_reducible assumption)|assumption)
   have q194 : x12_1 < (l0_0.length : Int):=of_decide_eq_true (by first|(with_reducible assumption)|assumption)
   obtain ⟨ad194,A194_1,c194_1,e194,h_D,h_E,j_3,j_4⟩:=c_t c_V.out x12_1 p194 q194
   cases e194
   replace h_D:=(HB.out.cell (World.block_lt_of_cell? w _ h_D)).trans h_D
   replace h_E:=(HB.out.cell (World.block_lt_of_cell? w _ h_E)).trans h_E
   have u_Z:=a_e.mk j_4
   have u_0:=a_e.mk j_3
   clear j_4 j_3
   replace p194:=eq_true p194
   replace q194:=eq_true q194
   go_wp2_with (first|((with_reducible refine a_U (N:=4) rfl ?_);refine a_H ?hg (N:=4) ?hd (cs:=#[.int .i64 0,.slice none 0 0]) (t:=27) ?hr ?_;(case hd => rfl);(case hg => rfl);(case hr => first|(go_simp;done)|(go_simp;rfl));intro i_B hg w14 hbox hb;have l_l:=a_e.mk (hbox);have J_f:=a_e.mk ((by rw [hg];exact (a_p (by repeat (first|(with_reducible first|exact HB.out|apply a_g|apply a_f|apply a_h|refine a_d ?_ i_M.out)|exact HB.out))) : w.heap.size ≤ i_B));have u_1:=a_e.mk ((by rw [hg];exact (a_p (by repeat (first|(with_reducible first|exact HB.out|apply a_g|apply a_f|apply a_h|refine a_d ?_ i_M.out)|exact HB.out))) : w.heap.size ≤ i_B));have g_Q:=a_e.mk ((by rw [hg];exact Nat.ne_of_lt (a_N (bup_ f_4.out)) : h_0 ≠ i_B));have j_5:=a_e.mk ((by rw [hg];exact Nat.ne_of_gt (a_N (bup_ f_4.out)) : i_B ≠ h_0));replace f_4:=a_e.mk (a_l (bup_ f_4.out) hb);replace HB:=a_e.mk (a_t (by repeat (first|(with_reducible first|exact HB.out|apply a_g|apply a_f|apply a_h|refine a_d ?_ i_M.out)|exact HB.out)) hb);clear hb hbox hg;have r_p:=j_5.out;have r_q:=g_Q.out;have h_d : w14.cell? ⟨i_B,0,none⟩ = some (.int .i64 0):=(a_a l_l.out 0).trans rfl;have h_e : w14.cell? ⟨i_B,1,none⟩ = some (.slice none 0 0):=(a_a l_l.out 1).trans rfl;have h_f:=a_b l_l.out 0;have h_g:=a_b l_l.out 1))
   go_roundg k1
   case measure => have:=HK1.out;omega
   case rel => exact ⟨(wrap64 (x12_1 + 1)),(by first|rfl|(simp;done)|(simp [*];done)),H',⟨by have:=HK1.out;omega⟩,⟨by (with_reducible repeat (first|refine a_j ?_ _|refine a_k ?_|refine a_i ?_ _));refine a_B ?_ g_Q.out _;(with_reducible repeat (first|refine a_j ?_ _|refine a_k ?_|refine a_i ?_ _));refine a_B ?_ g_Q.out _;(with_reducible repeat (first|refine a_j ?_ _|refine a_k ?_|refine a_i ?_ _));exact f_4.out⟩,⟨by repeat (first|(with_reducible first|exact HB.out|apply a_g|apply a_f|apply a_h|refine a_d ?_ i_M.out|refine a_d ?_ u_1.out)|exact HB.out)⟩⟩
end Go.Proofs.Ytgglkfilkagblaa.Q
end
section
namespace Go.Proofs.Ytgglkfilkagblaa.Q
open Go.RowKit Go.Proofs.YtgglkfilkagblaaW.PrintWords Go.Proofs.YtgglkfilkagblaaW.PrintLast Go.Proofs.YtgglkfilkagblaaW.PrintMore
set_option linter.unusedVariables false
set_option linter.unusedSimpArgs false
def a_C.l0 : Nat → List (S27) → Int → Int → List (S27) → Int → Option ((List (S27)) × Int)
 | 0,_,_,_,_,_ => none
 | k + 1,x10,x11,x12,x199000,x199001 => if x12 < x11 then (if 0 ≤ x12 then (if x12 < (x10.length : Int) then ((some (([] : List (S65)) : List (S65))).bind fun y201 => (if y201.length + ((a_o x10 x12).f1).length < 1954687338268 then (if x199000.length < 4398046511104 then (a_C.l0 k x10 x11 (wrap64 (x12 + 1)) (x199000 ++ [(⟨(a_o x10 x12).f0,(y201 ++ ((a_o x10 x12).f1))⟩ : S27)]) x199001) else (none)) else (none))) else (none)) else (none)) else (some (x199000,x199001))
def a_C.f (k : Nat) (l0_0 : List (S27)) (a0_1 : Int) : Option ((List (S27)) × Int):=a_C.l0 k l0_0 (l0_0.length : Int) 0 ([] : List (S27)) a0_1
theorem a_C.c_N : ∀ k,(∀ y0 y1 y2 y3 y4,LeO (a_C.l0 k y0 y1 y2 y3 y4) (a_C.l0 (k + 1) y0 y1 y2 y3 y4))
 | 0 => fun _ _ _ _ _ r h => by simp [a_C.l0] at h
 | k + 1 => by
  have ih0:=a_C.c_N k
  ·intro y0 y1 y2 y3 y4
   unfold a_C.l0
   repeat' first
   | (with_reducible exact ih0 _ _ _ _ _)
   | (with_reducible exact LeO.refl _)
   | (with_reducible exact LeO.none _)
   | (with_reducible refine LeO.ite ?_ ?_)
   | (with_reducible refine LeO.bind ?_ (fun _ => ?_))
   | exact ih0 _ _ _ _ _
   | exact LeO.none _
   | refine LeO.ite ?_ ?_
   | refine LeO.bind ?_ (fun _ => ?_)
theorem a_C.mono : ∀ a0 a1 k,LeO (a_C.f k a0 a1) (a_C.f (k + 1) a0 a1):=by
 intro a0 a1 k
 have ih0:=a_C.c_N k
 unfold a_C.f
 repeat' first
  | (with_reducible exact ih0 _ _ _ _ _)
  | (with_reducible exact LeO.refl _)
  | (with_reducible exact LeO.none _)
  | (with_reducible refine LeO.ite ?_ ?_)
  | (with_reducible refine LeO.bind ?_ (fun _ => ?_))
  | exact ih0 _ _ _ _ _
  | exact LeO.none _
  | refine LeO.ite ?_ ?_
  | refine LeO.bind ?_ (fun _ => ?_)
def a_C.T5 : Bool × List (List Nat × List Nat):=(true,[([],[]),([0],[0]),([],[]),([2],[2]),([],[]),([],[]),([5],[5]),([4,6],[4,6]),([3,7],[3,7]),([8],[8]),([1,9,7],[1,9]),([0,1,2,3,4,5,6,7,8,9,10],[]),([11,10,10,0,1,2,3,4,5,6,7,8,9,10],[10,11])])
def a_C.B5 : List Nat:=[0,1,0,4,0,0,32,112,252,508,1023,2047,4095]
theorem a_C.tab5 : rtab .any (opsOf Try.f9 5) = a_C.T5:=by kernel_rfl
theorem a_C.z_8 : f_e a_C.T5.2 a_C.B5 = true:=by kernel_rfl
set_option maxHeartbeats 8000000 in
set_option maxRecDepth 100000 in
theorem a_C.calls (k : Nat) (A0_0 : Option Addr) (c0_0 : Nat) (l0_0 : List (S27)) (a0_1 : Int) (r1 : List (S27)) (r2 : Int) (w : World) (hr0_0 : Kd.C k27 w A0_0 l0_0.length l0_0) (hc0_0 : l0_0.length ≤ c0_0) (h : a_C.f k l0_0 a0_1 = some (r1,r2)) :
 Calls Try.prog 9 #[.agg #[.slice A0_0 l0_0.length c0_0,.int .i64 a0_1]] w fun e w' => ∃ v0_ : Value,e = .returned (.agg #[v0_,.int .i64 r2]) ∧ Kd.S k27 27 w' w.heap.size (fun _ => True) v0_ r1 ∧ Below w.heap.size w w':=by
 have hu24:=Try.underlying24
 have hu27:=Try.underlying27
 have c_V:=a_e.mk hr0_0
 have f_w:=a_e.mk hc0_0
 clear hr0_0 hc0_0
 have HB:=a_e.mk (Below.refl w.heap.size w)
 have H : (a_C.l0 k l0_0 (l0_0.length : Int) 0 ([] : List (S27)) a0_1) = some (r1,r2):=h
 clear h
 have H':=a_e.mk H
 clear H
 go_enter Try.func9,Try.ntmps9
 go_wp2_with (first|((with_reducible refine a_U (N:=1) rfl ?_);refine a_H ?hg (N:=1) ?hd (cs:=#[.slice A0_0 l0_0.length c0_0,.int .i64 a0_1]) (t:=24) ?hr ?_;(case hd => rfl);(case hg => rfl);(case hr => first|(go_simp;done)|(go_simp;rfl));intro g_1 hg w2 hbox hb;have e_l:=a_e.mk (hbox);have O_Z:=a_e.mk ((by rw [hg];exact (a_p (lup_ HB.out)) : w.heap.size ≤ g_1));have g_A:=a_e.mk ((by rw [hg];exact (a_p (lup_ HB.out)) : w.heap.size ≤ g_1));replace HB:=a_e.mk (a_t (lup_ HB.out) hb);clear hb hbox hg)|((with_reducible refine a_U (N:=2) rfl ?_);refine a_H ?hg (N:=2) ?hd (cs:=#[.slice none 0 0,.int .i64 0]) (t:=24) ?hr ?_;(case hd => rfl);(case hg => rfl);(case hr => first|(go_simp;done)|(go_simp;rfl));intro g_R hg w3 hbox hb;have e_N:=a_e.mk (hbox);have O_0:=a_e.mk ((by rw [hg];exact (a_p (by repeat (first|(with_reducible first|exact HB.out|apply a_g|apply a_f|apply a_h|refine a_d ?_ g_A.out)|exact HB.out))) : w.heap.size ≤ g_R));have g_2:=a_e.mk ((by rw [hg];exact (a_p (by repeat (first|(with_reducible first|exact HB.out|apply a_g|apply a_f|apply a_h|refine a_d ?_ g_A.out)|exact HB.out))) : w.heap.size ≤ g_R));have l_O:=a_e.mk ((by rw [hg];exact Nat.ne_of_lt (a_N (bup_ e_l.out)) : g_1 ≠ g_R));have l_P:=a_e.mk ((by rw [hg];exact Nat.ne_of_gt (a_N (bup_ e_l.out)) : g_R ≠ g_1));replace e_l:=a_e.mk (a_l (bup_ e_l.out) hb);replace HB:=a_e.mk (a_t (by repeat (first|(with_reducible first|exact HB.out|apply a_g|apply a_f|apply a_h|refine a_d ?_ g_A.out)|exact HB.out)) hb);clear hb hbox hg;have hnb4:=l_O.out;have hnc4:=l_P.out;have f_Z : w3.cell? ⟨g_1,0,none⟩ = some (.slice A0_0 l0_0.length c0_0):=(a_a e_l.out 0).trans rfl;have f_0 : w3.cell? ⟨g_1,1,none⟩ = some (.int .i64 a0_1):=(a_a e_l.out 1).trans rfl;have f_1:=a_b e_l.out 0;have f_2:=a_b e_l.out 1)|((with_reducible refine a_U (N:=3) rfl ?_);refine a_H ?hg (N:=3) ?hd (cs:=#[.slice none 0 0,.int .i64 0]) (t:=24) ?hr ?_;(case hd => rfl);(case hg => rfl);(case hr => first|(go_simp;done)|(go_simp;rfl));intro f_5 hg w6 hbox hb;have d_Q:=a_e.mk (hbox);have O_1:=a_e.mk ((by rw [hg];exact (a_p (by repeat (first|(with_reducible first|exact HB.out|apply a_g|apply a_f|apply a_h|refine a_d ?_ g_A.out|refine a_d ?_ g_2.out)|exact HB.out))) : w.heap.size ≤ f_5));have i_C:=a_e.mk ((by rw [hg];exact (a_p (by repeat (first|(with_reducible first|exact HB.out|apply a_g|apply a_f|apply a_h|refine a_d ?_ g_A.out|refine a_d ?_ g_2.out)|exact HB.out))) : w.heap.size ≤ f_5));have f_6:=a_e.mk ((by rw [hg];exact Nat.ne_of_lt (a_N (bup_ e_l.out)) : g_1 ≠ f_5));have j_6:=a_e.mk ((by rw [hg];exact Nat.ne_of_gt (a_N (bup_ e_l.out)) : f_5 ≠ g_1));have f_7:=a_e.mk ((by rw [hg];exact Nat.ne_of_lt (a_N (bup_ e_N.out)) : g_R ≠ f_5));have j_7:=a_e.mk ((by rw [hg];exact Nat.ne_of_gt (a_N (bup_ e_N.out)) : f_5 ≠ g_R));replace e_l:=a_e.mk (a_l (bup_ e_l.out) hb);replace e_N:=a_e.mk (a_l (bup_ e_N.out) hb);replace HB:=a_e.mk (a_t (by repeat (first|(with_reducible first|exact HB.out|apply a_g|apply a_f|apply a_h|refine a_d ?_ g_A.out|refine a_d ?_ g_2.out)|exact HB.out)) hb);clear hb hbox hg;have hnb7:=j_6.out;have hnc7:=f_6.out;have hnb8:=j_7.out;have hnc8:=f_7.out;have k_v : w6.cell? ⟨f_5,0,none⟩ = some (.slice none 0 0):=(a_a d_Q.out 0).trans rfl;have k_w : w6.cell? ⟨f_5,1,none⟩ = some (.int .i64 0):=(a_a d_Q.out 1).trans rfl;have k_x:=a_b d_Q.out 0;have k_y:=a_b d_Q.out 1;have i_s : w6.cell? ⟨g_1,0,none⟩ = some (.slice A0_0 l0_0.length c0_0):=(a_a e_l.out 0).trans rfl;have i_t : w6.cell? ⟨g_1,1,none⟩ = some (.int .i64 a0_1):=(a_a e_l.out 1).trans rfl;have i_u:=a_b e_l.out 0;have i_v:=a_b e_l.out 1))
 go_loopg [12] k (fun kq v12 w' => ∃ (x12_1 : Int) (x199000_1 : List (S27)) (u199000 : Value),v12 = .int .i64 x12_1 ∧ a_e (a_C.l0 kq l0_0 (l0_0.length : Int) x12_1 x199000_1 a0_1 = some (r1,r2)) ∧ a_e (kq ≤ k) ∧ a_e (Kd.S k27 27 w' w.heap.size (fun _ => True) u199000 x199000_1) ∧ a_e (w'.heap[g_1]? = some (.cells #[(.slice A0_0 l0_0.length c0_0),.int .i64 a0_1] 24 (0,0))) ∧ a_e (w'.heap[g_R]? = some (.cells #[(.slice none 0 0),.int .i64 0] 24 (0,0))) ∧ a_e (w'.heap[f_5]? = some (.cells #[u199000,.int .i64 a0_1] 24 (0,0))) ∧ a_e (Below w.heap.size w w'))
 case atStart => exact ⟨(0),(([] : List (S27))),(.slice none 0 0),(by first|rfl|(simp;done)|(simp [*];done)),H',⟨Nat.le_refl _⟩,⟨by first|exact Kd.k_l _ _ _ _ _|exact Kd.i_U _ _ _ _ _|exact Kd.h_O _ _ _ _ _|exact Kd.k_e _ _ _ _ _|exact Kd.i_b _ _ _ _ _⟩,⟨by (with_reducible repeat (first|refine a_j ?_ _|refine a_k ?_|refine a_i ?_ _));refine a_B ?_ f_6.out _;(with_reducible repeat (first|refine a_j ?_ _|refine a_k ?_|refine a_i ?_ _));refine a_B ?_ f_6.out _;(with_reducible repeat (first|refine a_j ?_ _|refine a_k ?_|refine a_i ?_ _));exact e_l.out⟩,⟨by (with_reducible repeat (first|refine a_j ?_ _|refine a_k ?_|refine a_i ?_ _));refine a_B ?_ f_7.out _;(with_reducible repeat (first|refine a_j ?_ _|refine a_k ?_|refine a_i ?_ _));refine a_B ?_ f_7.out _;(with_reducible repeat (first|refine a_j ?_ _|refine a_k ?_|refine a_i ?_ _));exact e_N.out⟩,⟨by (with_reducible repeat (first|refine a_j ?_ _|refine a_k ?_|refine a_i ?_ _));refine a_J (cs:=#[.slice none 0 0,.int .i64 0]) ?_ 1 _ rfl;(with_reducible repeat (first|refine a_j ?_ _|refine a_k ?_|refine a_i ?_ _));refine a_J (cs:=#[.slice none 0 0,.int .i64 0]) ?_ 0 _ rfl;(with_reducible repeat (first|refine a_j ?_ _|refine a_k ?_|refine a_i ?_ _));exact d_Q.out⟩,⟨by repeat (first|(with_reducible first|exact HB.out|apply a_g|apply a_f|apply a_h|refine a_d ?_ g_A.out|refine a_d ?_ g_2.out|refine a_d ?_ i_C.out)|exact HB.out)⟩⟩
 case round =>
  clear H'
  try clear p2
  try clear c4
  try clear c7
  try clear c8
  try clear c9
  try clear i_s
  try clear i_t
  try clear f_Z
  try clear f_0
  try clear k_v
  try clear k_w
  try clear i_u
  try clear i_v
  try clear f_1
  try clear f_2
  try clear k_x
  try clear k_y
  obtain ⟨x12_1,x199000_1,u199000,rfl,HA,HK1,c_f,e_l,e_N,d_Q,HB⟩:=hrel
  cases gk with
  | zero => exact absurd HA.out (by simp [a_C.l0])
  | succ k1 =>
   have H:=HA.out
   clear HA
   simp only [a_C.l0] at H
   by_cases c11 : x12_1 < (l0_0.length : Int)
   rotate_left
   ·rw [if_neg c11] at H
    have c11b0 : decide (x12_1 < (l0_0.length : Int)) = false:=decide_eq_false c11
    clear c11
    simp only [Option.some.injEq,Prod.mk.injEq] at H
    obtain ⟨rfl,rfl⟩:=H
    have t_u:=j_6.out
    have t_v:=f_6.out
    have J_g:=j_7.out
    have J_h:=f_7.out
    have m_7 : wr.cell? ⟨f_5,0,none⟩ = some (u199000):=(a_a d_Q.out 0).trans rfl
    have m_8 : wr.cell? ⟨f_5,1,none⟩ = some (.int .i64 a0_1):=(a_a d_Q.out 1).trans rfl
    have m_9:=a_b d_Q.out 0
    have n_a:=a_b d_Q.out 1
    obtain ⟨Ao33,co33,eo33⟩:=Kd.o_g c_f.out
    subst eo33
    have H_J:=l_P.out
    have H_K:=l_O.out
    have l_e : wr.cell? ⟨g_R,0,none⟩ = some (.slice none 0 0):=(a_a e_N.out 0).trans rfl
    have l_f : wr.cell? ⟨g_R,1,none⟩ = some (.int .i64 0):=(a_a e_N.out 1).trans rfl
    have l_g:=a_b e_N.out 0
    have l_h:=a_b e_N.out 1
    go_wp2
    refine bodyPost_ret (results_cell_row rfl _ _ g_R 24 #[.slice Ao33 x199000_1.length co33,.int .i64 a0_1] (0,0) _ rfl (by (with_reducible repeat (first|refine a_j ?_ _|refine a_k ?_|refine a_i ?_ _));refine a_J (cs:=#[.slice Ao33 x199000_1.length co33,.int .i64 0]) ?_ 1 _ rfl;(with_reducible repeat (first|refine a_j ?_ _|refine a_k ?_|refine a_i ?_ _));refine a_J (cs:=#[.slice none 0 0,.int .i64 0]) ?_ 0 _ rfl;(with_reducible repeat (first|refine a_j ?_ _|refine a_k ?_|refine a_i ?_ _));exact e_N.out) Try.underlying24 rfl (by kernel_rfl)) rfl ?_
    exact ⟨_,by first|rfl|(simp [a_w,a_x] <;> rfl)|(simp [*, a_w,a_x] <;> rfl),by (with_reducible repeat (first|apply Kd.h_a|apply Kd.g_5|apply Kd.i_F));exact Kd.i_Y (Kd.o_T (p:=⟨g_R,1,none⟩) (Kd.o_T (p:=⟨g_R,0,none⟩) (Kd.o_8 c_f.out e_N.out (by decide)) (fun _ hk => hk.2) (.slice Ao33 x199000_1.length co33)) (fun _ hk => hk.2) (.int .i64 a0_1)) (fun _ hk => trivial),by repeat (first|(with_reducible first|exact HB.out|apply a_g|apply a_f|apply a_h|refine a_d ?_ g_A.out|refine a_d ?_ g_2.out|refine a_d ?_ i_C.out)|exact HB.out)⟩
   rw [if_pos c11] at H
   have c11b0 : decide (x12_1 < (l0_0.length : Int)) = true:=decide_eq_true c11
   clear c11
   by_cases c12 : 0 ≤ x12_1
   rotate_left
   ·rw [if_neg c12] at H
    exact absurd H (by simp)
   rw [if_pos c12] at H
   have c12b0 : decide (0 ≤ x12_1) = true:=decide_eq_true c12
   clear c12
   by_cases c13 : x12_1 < (l0_0.length : Int)
   rotate_left
   ·rw [if_neg c13] at H
    exact absurd H (by simp)
   rw [if_pos c13] at H
   have c13b0 : decide (x12_1 < (l0_0.length : Int)) = true:=decide_eq_true c13
   clear c13
   obtain ⟨y201,hy201⟩ : ∃ y_ : List (S65),y_ = (([] : List (S65))):=⟨_,rfl⟩
   replace H : (if y201.length + ((a_o l0_0 x12_1).f1).length < 1954687338268 then (if x199000_1.length < 4398046511104 then (a_C.l0 k1 l0_0 (l0_0.length : Int) (wrap64 (x12_1 + 1)) (x199000_1 ++ [(⟨(a_o l0_0 x12_1).f0,(y201 ++ ((a_o l0_0 x12_1).f1))⟩ : S27)]) a0_1) else (none)) else (none)) = some (r1,r2):=by first|(rw [hy201];with_reducible exact H)|(have H2_:=(Option.bind_some _ _).symm.trans H;rw [hy201];with_reducible exact H2_)|(have H2_:=(Option.bind_some _ _).symm.trans H;with_reducible exact H2_)|with_reducible exact H|(rw [hy201];exact H)|exact H
   have Ny201:=a_e.mk hy201
   clear hy201
   by_cases c14 : y201.length + ((a_o l0_0 x12_1).f1).length < 1954687338268
   rotate_left
   ·rw [if_neg c14] at H
    exact absurd H (by simp)
   rw [if_pos c14] at H
   have LMc14:=a_e.mk c14
   clear c14
   obtain ⟨y204,hy204⟩ : ∃ y_ : List (S65),y_ = (y201 ++ ((a_o l0_0 x12_1).f1)):=⟨_,rfl⟩
   replace H : (if x199000_1.length < 4398046511104 then (a_C.l0 k1 l0_0 (l0_0.length : Int) (wrap64 (x12_1 + 1)) (x199000_1 ++ [(⟨(a_o l0_0 x12_1).f0,y204⟩ : S27)]) a0_1) else (none)) = some (r1,r2):=by first|(rw [hy204];with_reducible exact H)|(have H2_:=(Option.bind_some _ _).symm.trans H;rw [hy204];with_reducible exact H2_)|(have H2_:=(Option.bind_some _ _).symm.trans H;with_reducible exact H2_)|with_reducible exact H|(rw [hy204];exact H)|exact H
   have Ny204:=a_e.mk hy204
   clear hy204
   by_cases c15 : x199000_1.length < 4398046511104
   rotate_left
   ·rw [if_neg c15] at H
    exact absurd H (by simp)
   rw [if_pos c15] at H
   have LMc15:=a_e.mk c15
   clear c15
   obtain ⟨y207,hy207⟩ : ∃ y_ : List (S27),y_ = (x199000_1 ++ [(⟨(a_o l0_0 x12_1).f0,y204⟩ : S27)]):=⟨_,rfl⟩
   replace H : (a_C.l0 k1 l0_0 (l0_0.length : Int) (wrap64 (x12_1 + 1)) y207 a0_1) = some (r1,r2):=by first|(rw [hy207];with_reducible exact H)|(have H2_:=(Option.bind_some _ _).symm.trans H;rw [hy207];with_reducible exact H2_)|(have H2_:=(Option.bind_some _ _).symm.trans H;with_reducible exact H2_)|with_reducible exact H|(rw [hy207];exact H)|exact H
   have Ny207:=a_e.mk hy207
   clear hy207
   have H':=a_e.mk H
   clear H
   have p199 : 0 ≤ (x12_1 : Int):=of_decide_eq_true (by first|(with_reducible assumption)|assumption)
   have q199 : x12_1 < (l0_0.length : Int):=of_decide_eq_true (by first|(with_reducible assumption)|assumption)
   obtain ⟨ad199,A199_1,c199_1,e199,n_u,n_v,q_E,q_F⟩:=c_t c_V.out x12_1 p199 q199
   cases e199
   replace n_u:=(HB.out.cell (World.block_lt_of_cell? w _ n_u)).trans n_u
   replace n_v:=(HB.out.cell (World.block_lt_of_cell? w _ n_v)).trans n_v
   have u_2:=a_e.mk q_F
   have J_i:=a_e.mk q_E
   clear q_F q_E
   replace p199:=eq_true p199
   replace q199:=eq_true q199
   try go_wp2_with (first|((with_reducible refine a_U (N:=5) rfl ?_);refine a_H ?hg (N:=5) ?hd (cs:=#[.int .i64 0,.slice none 0 0]) (t:=27) ?hr ?_;(case hd => rfl);(case hg => rfl);(case hr => first|(go_simp;done)|(go_simp;rfl));intro e_g hg w16 hbox hb;have e_Q:=a_e.mk (hbox);have O_2:=a_e.mk ((by rw [hg];exact (a_p (by repeat (first|(with_reducible first|exact HB.out|apply a_g|apply a_f|apply a_h|refine a_d ?_ g_A.out|refine a_d ?_ g_2.out|refine a_d ?_ i_C.out)|exact HB.out))) : w.heap.size ≤ e_g));have l_Q:=a_e.mk ((by rw [hg];exact (a_p (by repeat (first|(with_reducible first|exact HB.out|apply a_g|apply a_f|apply a_h|refine a_d ?_ g_A.out|refine a_d ?_ g_2.out|refine a_d ?_ i_C.out)|exact HB.out))) : w.heap.size ≤ e_g));have j_8:=a_e.mk ((by rw [hg];exact Nat.ne_of_lt (a_N (bup_ e_l.out)) : g_1 ≠ e_g));have q_G:=a_e.mk ((by rw [hg];exact Nat.ne_of_gt (a_N (bup_ e_l.out)) : e_g ≠ g_1));have j_9:=a_e.mk ((by rw [hg];exact Nat.ne_of_lt (a_N (bup_ e_N.out)) : g_R ≠ e_g));have q_H:=a_e.mk ((by rw [hg];exact Nat.ne_of_gt (a_N (bup_ e_N.out)) : e_g ≠ g_R));have i_a:=a_e.mk ((by rw [hg];exact Nat.ne_of_lt (a_N (bup_ d_Q.out)) : f_5 ≠ e_g));have l_R:=a_e.mk ((by rw [hg];exact Nat.ne_of_gt (a_N (bup_ d_Q.out)) : e_g ≠ f_5));replace c_f:=a_e.mk (Kd.k_F (Kd.q_S (by (with_reducible repeat (first|apply Kd.h_a|apply Kd.g_5|apply Kd.i_F));exact c_f.out) e_g (Nat.le_of_eq hg.symm)) hb);replace e_l:=a_e.mk (a_l (bup_ e_l.out) hb);replace e_N:=a_e.mk (a_l (bup_ e_N.out) hb);replace d_Q:=a_e.mk (a_l (bup_ d_Q.out) hb);replace HB:=a_e.mk (a_t (by repeat (first|(with_reducible first|exact HB.out|apply a_g|apply a_f|apply a_h|refine a_d ?_ g_A.out|refine a_d ?_ g_2.out|refine a_d ?_ i_C.out)|exact HB.out)) hb);clear hb hbox hg;have O_3:=q_G.out;have O_4:=j_8.out;have w_j:=q_H.out;have w_k:=j_9.out;have w_l:=l_R.out;have w_m:=i_a.out;have k_Q : w16.cell? ⟨e_g,0,none⟩ = some (.int .i64 0):=(a_a e_Q.out 0).trans rfl;have m_K : w16.cell? ⟨e_g,1,none⟩ = some (.slice none 0 0):=(a_a e_Q.out 1).trans rfl;have k_R:=a_b e_Q.out 0;have m_L:=a_b e_Q.out 1))
   have n0_ : a_e (Kd.S k27 27 ((w16.setCell ⟨e_g,0,none⟩ (.int .i64 ((a_o l0_0 x12_1).f0))).setCell ⟨e_g,1,none⟩ (.slice A199_1 ((a_o l0_0 x12_1).f1).length c199_1)) w.heap.size (fun k_ => k_ ≠ e_g) u199000 x199000_1):=⟨by (with_reducible repeat (first|apply Kd.h_a|apply Kd.g_5|apply Kd.i_F));exact Kd.i_Y (Kd.o_T (p:=⟨e_g,1,none⟩) (Kd.o_T (p:=⟨e_g,0,none⟩) (Kd.i_Y c_f.out (fun k_ hk => (⟨hk,hk.2⟩ : _ ∧ k_ ≠ e_g))) (fun _ hk => hk.2) (.int .i64 ((a_o l0_0 x12_1).f0))) (fun _ hk => hk.2) (.slice A199_1 ((a_o l0_0 x12_1).f1).length c199_1)) (fun _ hk => hk.1.2)⟩
   have n1_ : a_e (((w16.setCell ⟨e_g,0,none⟩ (.int .i64 ((a_o l0_0 x12_1).f0))).setCell ⟨e_g,1,none⟩ (.slice A199_1 ((a_o l0_0 x12_1).f1).length c199_1)).heap[g_1]? = some (.cells #[.slice (some ad199) l0_0.length c0_0,.int .i64 a0_1] 24 (0,0))):=⟨by (with_reducible repeat (first|refine a_j ?_ _|refine a_k ?_|refine a_i ?_ _));refine a_B ?_ j_8.out _;(with_reducible repeat (first|refine a_j ?_ _|refine a_k ?_|refine a_i ?_ _));refine a_B ?_ j_8.out _;(with_reducible repeat (first|refine a_j ?_ _|refine a_k ?_|refine a_i ?_ _));exact e_l.out⟩
   have n2_ : a_e (((w16.setCell ⟨e_g,0,none⟩ (.int .i64 ((a_o l0_0 x12_1).f0))).setCell ⟨e_g,1,none⟩ (.slice A199_1 ((a_o l0_0 x12_1).f1).length c199_1)).heap[g_R]? = some (.cells #[.slice none 0 0,.int .i64 0] 24 (0,0))):=⟨by (with_reducible repeat (first|refine a_j ?_ _|refine a_k ?_|refine a_i ?_ _));refine a_B ?_ j_9.out _;(with_reducible repeat (first|refine a_j ?_ _|refine a_k ?_|refine a_i ?_ _));refine a_B ?_ j_9.out _;(with_reducible repeat (first|refine a_j ?_ _|refine a_k ?_|refine a_i ?_ _));exact e_N.out⟩
   have n3_ : a_e (((w16.setCell ⟨e_g,0,none⟩ (.int .i64 ((a_o l0_0 x12_1).f0))).setCell ⟨e_g,1,none⟩ (.slice A199_1 ((a_o l0_0 x12_1).f1).length c199_1)).heap[f_5]? = some (.cells #[u199000,.int .i64 a0_1] 24 (0,0))):=⟨by (with_reducible repeat (first|refine a_j ?_ _|refine a_k ?_|refine a_i ?_ _));refine a_B ?_ i_a.out _;(with_reducible repeat (first|refine a_j ?_ _|refine a_k ?_|refine a_i ?_ _));refine a_B ?_ i_a.out _;(with_reducible repeat (first|refine a_j ?_ _|refine a_k ?_|refine a_i ?_ _));exact d_Q.out⟩
   have n4_ : a_e (((w16.setCell ⟨e_g,0,none⟩ (.int .i64 ((a_o l0_0 x12_1).f0))).setCell ⟨e_g,1,none⟩ (.slice A199_1 ((a_o l0_0 x12_1).f1).length c199_1)).heap[e_g]? = some (.cells #[.int .i64 ((a_o l0_0 x12_1).f0),.slice A199_1 ((a_o l0_0 x12_1).f1).length c199_1] 27 (0,0))):=⟨by (with_reducible repeat (first|refine a_j ?_ _|refine a_k ?_|refine a_i ?_ _));refine a_J (cs:=#[.int .i64 ((a_o l0_0 x12_1).f0),.slice none 0 0]) ?_ 1 _ rfl;(with_reducible repeat (first|refine a_j ?_ _|refine a_k ?_|refine a_i ?_ _));refine a_J (cs:=#[.int .i64 0,.slice none 0 0]) ?_ 0 _ rfl;(with_reducible repeat (first|refine a_j ?_ _|refine a_k ?_|refine a_i ?_ _));exact e_Q.out⟩
   have n5_ : a_e (Below w.heap.size w ((w16.setCell ⟨e_g,0,none⟩ (.int .i64 ((a_o l0_0 x12_1).f0))).setCell ⟨e_g,1,none⟩ (.slice A199_1 ((a_o l0_0 x12_1).f1).length c199_1))):=⟨by repeat (first|(with_reducible first|exact HB.out|apply a_g|apply a_f|apply a_h|refine a_d ?_ g_A.out|refine a_d ?_ g_2.out|refine a_d ?_ i_C.out|refine a_d ?_ l_Q.out)|exact HB.out)⟩
   (try clear c_f)
   (try clear e_l)
   (try clear e_N)
   (try clear d_Q)
   (try clear e_Q)
   (try clear HB)
   generalize ((w16.setCell ⟨e_g,0,none⟩ (.int .i64 ((a_o l0_0 x12_1).f0))).setCell ⟨e_g,1,none⟩ (.slice A199_1 ((a_o l0_0 x12_1).f1).length c199_1)) = w21 at n0_ n1_ n2_ n3_ n4_ n5_ ⊢
   have c_f:=n0_
   have e_l:=n1_
   have e_N:=n2_
   have d_Q:=n3_
   have e_Q:=n4_
   have HB:=n5_
   clear n0_ n1_ n2_ n3_ n4_ n5_
   replace c_f:=a_e.mk (Kd.i_F c_f.out)
   replace e_l:=a_e.mk (a_k e_l.out)
   replace e_N:=a_e.mk (a_k e_N.out)
   replace d_Q:=a_e.mk (a_k d_Q.out)
   replace e_Q:=a_e.mk (a_k e_Q.out)
   replace HB:=a_e.mk (a_h HB.out)
   refine d_H (n:=13) (S:=fun w' => w'.cell? ⟨f_5,0,none⟩ = some (u199000) ∧ w'.cell? ⟨f_5,1,none⟩ = some (.int .i64 a0_1) ∧ w'.cell? ⟨e_g,0,none⟩ = some (.int .i64 ((a_o l0_0 x12_1).f0)) ∧ w'.cell? ⟨e_g,1,none⟩ = some (.slice A199_1 ((a_o l0_0 x12_1).f1).length c199_1)) (ds:=[12]) Z4_ (by kernel_rfl) rfl rfl ⟨(a_a d_Q.out 0).trans rfl,(a_a d_Q.out 1).trans rfl,(a_a e_Q.out 0).trans rfl,(a_a e_Q.out 1).trans rfl⟩ (fun hHeld => ?_);refine b_Q a_C.tab5 a_C.z_8 (fun HT_ HW_ => ?_)
   generalize w21.drew = w22 at c_f e_l e_N d_Q e_Q HB hHeld ⊢
   refine a_y (i:=0) (N:=some 16) (v:=?_) (a':=?_) Z10_ rfl rfl (a_n HT_.out (by kernel_rfl)) (fun _ _ _ h => h) (Or.inl ⟨by rfl,?_⟩) ?_ ?_
   rotate_left
   ·intro w'
    go_simp
    with_reducible rfl
   rotate_left
   ·simp only [Act.put,sa_,sb_,sc_,a_r,a_s]
    rfl
   refine a_y (i:=2) (N:=some 18) (v:=?_) (a':=?_) #[T_,F_,T_,F_,F_,F_,F_,F_,F_,F_,F_,F_,F_] rfl rfl (a_n HT_.out (by kernel_rfl)) (fun _ _ _ h => h) (Or.inl ⟨by rfl,?_⟩) ?_ ?_
   rotate_left
   ·intro w'
    go_simp
    with_reducible rfl
   rotate_left
   ·simp only [Act.put,sa_,sb_,sc_,a_r,a_s]
    rfl
   refine a_y (i:=5) (N:=some 21) (v:=?_) (a':=?_) #[T_,F_,T_,F_,F_,T_,F_,F_,F_,F_,F_,F_,F_] rfl rfl (a_n HT_.out (by kernel_rfl)) (fun _ _ _ h => h) (Or.inl ⟨by rfl,?_⟩) ?_ ?_
   rotate_left
   ·intro w'
    go_simp
    with_reducible rfl
   rotate_left
   ·simp only [Act.put,sa_,sb_,sc_,a_r,a_s]
    rfl
   refine b_m (i:=1) (N:=some 17) (v:=?_) (a':=?_) #[T_,T_,T_,F_,F_,T_,F_,F_,F_,F_,F_,F_,F_] rfl rfl (a_L HT_.out HW_.out (by kernel_rfl)) (fun _ _ _ h => h) (Or.inl ⟨by rfl,?_⟩) hHeld ?_ ?_
   rotate_left
   ·rintro w' ⟨s0,s1,s2,s3⟩
    go_simp
    with_reducible rfl
   rotate_left
   ·simp only [Act.put,sa_,sb_,sc_,a_r,a_s]
    rfl
   refine b_m (i:=3) (N:=some 19) (v:=?_) (a':=?_) #[T_,T_,T_,T_,F_,T_,F_,F_,F_,F_,F_,F_,F_] rfl rfl (a_L HT_.out HW_.out (by kernel_rfl)) (fun _ _ _ h => h) (Or.inl ⟨by rfl,?_⟩) hHeld ?_ ?_
   rotate_left
   ·rintro w' ⟨s0,s1,s2,s3⟩
    go_simp
    with_reducible rfl
   rotate_left
   ·simp only [Act.put,sa_,sb_,sc_,a_r,a_s]
    rfl
   refine b_m (i:=6) (N:=some 22) (v:=?_) (a':=?_) #[T_,T_,T_,T_,F_,T_,T_,F_,F_,F_,F_,F_,F_] rfl rfl (a_L HT_.out HW_.out (by kernel_rfl)) (fun _ _ _ h => h) (Or.inl ⟨by rfl,?_⟩) hHeld ?_ ?_
   rotate_left
   ·rintro w' ⟨s0,s1,s2,s3⟩
    go_simp
    with_reducible rfl
   rotate_left
   ·simp only [Act.put,sa_,sb_,sc_,a_r,a_s]
    rfl
   refine one_ (i:=4) (N:=some 20) Z41_ rfl rfl (c_e HT_.out (by kernel_rfl)) (by decide) (fun K hK => ?_)
   refine Kd.n_W k65 _ 65 ?hg (N:=20) ?hd (xs:=([] : List (S65))) (inner:=[]) (ok:=fun _ => True) (okp:=fun _ => True) ?hr ?hp (fun _ hk => hk) trivial (Below.refl _ _) (Nat.le_refl _) (by simp) ?_;(case hd => rfl);(case hg => rfl);(case hr => first|(go_simp;done)|(go_simp;rfl));(case hp => exact (Reps.none _ _))
   intro v202 w23 ho24 hb hg_ hnew_
   clear hg_ hnew_
   (first|rw [← Ny201.out] at ho24|(simp only [Int.reduceToNat] at ho24;rw [← Ny201.out] at ho24))
   have o_e:=a_e.mk (Kd.i_h ho24 (a_p (by repeat (first|(with_reducible first|exact HB.out|apply a_g|apply a_f|apply a_h|refine a_d ?_ g_A.out|refine a_d ?_ g_2.out|refine a_d ?_ i_C.out|refine a_d ?_ l_Q.out)|exact HB.out))))
   replace c_f:=a_e.mk (Kd.q_M (by (with_reducible repeat (first|apply Kd.h_a|apply Kd.g_5|apply Kd.i_F));exact c_f.out) (Kd.i_V ho24) hb)
   replace e_l:=a_e.mk (a_l (bup_ e_l.out) hb)
   replace e_N:=a_e.mk (a_l (bup_ e_N.out) hb)
   replace d_Q:=a_e.mk (a_l (bup_ d_Q.out) hb)
   replace e_Q:=a_e.mk (a_l (bup_ e_Q.out) hb)
   replace HB:=a_e.mk (a_t (by repeat (first|(with_reducible first|exact HB.out|apply a_g|apply a_f|apply a_h|refine a_d ?_ g_A.out|refine a_d ?_ g_2.out|refine a_d ?_ i_C.out|refine a_d ?_ l_Q.out)|exact HB.out)) hb)
   clear hb ho24
   refine hK.out _ _ ⟨(a_a d_Q.out 0).trans rfl,(a_a d_Q.out 1).trans rfl,(a_a e_Q.out 0).trans rfl,(a_a e_Q.out 1).trans rfl⟩ (fun hHeld => ?_)
   clear hK K
   refine d_U (a':=?_) ?_ ?_
   rotate_left
   ·show Act.put _ (some 20) _ = _
    simp only [Act.put,sa_,sb_,sc_,a_r,a_s]
    rfl
   refine one_ (i:=7) (N:=some 23) Z47_ rfl rfl (c_e HT_.out (by kernel_rfl)) (by decide) (fun K hK => ?_)
   refine Kd.h_L k65 (w0:=w) w.heap.size (by rfl) (.tmp 20) (.tmp 22) 25 65 (.agg #[(.int .i64 0),(.int .i64 0),(.int .i64 0),(.int .i64 0),(.int .i64 0),(.bool false),(.bool false),(.int .u32 0),(.int .i64 0),(.int .i64 0),(.int .i64 0)]) 72 rfl Try.underlying25 v_R rfl (by decide) (by omega) v202 y201 ((a_o l0_0 x12_1).f1) _ _ _ (fun _ => True) (fun _ => False) rfl rfl ?aO ?aR (fun _ _ h => h) (fun _ h => h.elim) ?aF ?aB ?aS ?aL ?_
   (case aR => repeat (first|exact (Kd.b_f u_2.out HB.out)|(with_reducible refine Kd.a_9 ?_ _)|(with_reducible refine Kd.a_8 ?_ _)|(with_reducible refine Kd.b_i ?_)))
   (case aB => exact (by repeat (first|(with_reducible first|exact HB.out|apply a_g|apply a_f|apply a_h|refine a_d ?_ g_A.out|refine a_d ?_ g_2.out|refine a_d ?_ i_C.out|refine a_d ?_ l_Q.out)|exact HB.out)))
   (case aF => exact (fun _ _ => trivial))
   (case aO => exact (rup_ o_e.out))
   (case aS => exact (a_p (by repeat (first|(with_reducible first|exact HB.out|apply a_g|apply a_f|apply a_h|refine a_d ?_ g_A.out|refine a_d ?_ g_2.out|refine a_d ?_ i_C.out|refine a_d ?_ l_Q.out)|exact HB.out))))
   (case aL => have:=LMc14.out;omega)
   intro v205 w25 ho hb hg hat
   rw [← Ny204.out] at ho
   have r_D:=a_e.mk (ho)
   replace c_f:=a_e.mk (Kd.r_5 (ok:=(fun k_ => k_ ≠ e_g)) (by (with_reducible repeat (first|apply Kd.h_a|apply Kd.g_5|apply Kd.i_F));exact c_f.out) hg hat)
   replace e_l:=a_e.mk (c_n (g:=g_1) (o:=.cells #[.slice (some ad199) l0_0.length c0_0,.int .i64 a0_1] 24 (0,0)) (bup_ e_l.out) hg (Kd.R_ne o_e.out e_l.out (by decide)))
   replace e_N:=a_e.mk (c_n (g:=g_R) (o:=.cells #[.slice none 0 0,.int .i64 0] 24 (0,0)) (bup_ e_N.out) hg (Kd.R_ne o_e.out e_N.out (by decide)))
   replace d_Q:=a_e.mk (c_n (g:=f_5) (o:=.cells #[u199000,.int .i64 a0_1] 24 (0,0)) (bup_ d_Q.out) hg (Kd.R_ne o_e.out d_Q.out (by decide)))
   replace e_Q:=a_e.mk (c_n (g:=e_g) (o:=.cells #[.int .i64 ((a_o l0_0 x12_1).f0),.slice A199_1 ((a_o l0_0 x12_1).f1).length c199_1] 27 (0,0)) (bup_ e_Q.out) hg (Kd.R_ne o_e.out e_Q.out (by decide)))
   replace HB:=a_e.mk (hb)
   clear o_e ho hb hg hat
   obtain ⟨Ao26,co26,eo26⟩:=Kd.g_9 r_D.out
   (first|subst eo26|(injection eo26 with f1_ f2_ f3_;have f4_:=f1_.symm;have f5_:=f3_.symm;clear f1_ f2_ f3_;subst f4_;subst f5_))
   refine hK.out _ _ ⟨(a_a d_Q.out 0).trans rfl,(a_a d_Q.out 1).trans rfl,(a_a e_Q.out 0).trans rfl,(a_a e_Q.out 1).trans rfl⟩ (fun hHeld => ?_)
   clear hK K
   refine d_U (a':=?_) ?_ ?_
   rotate_left
   ·show Act.put _ (some 23) _ = _
    simp only [Act.put,sa_,sb_,sc_,a_r,a_s]
    rfl
   refine a_y (i:=8) (N:=some 24) (v:=?_) (a':=?_) #[T_,T_,T_,T_,T_,T_,T_,T_,T_,F_,F_,F_,F_] rfl rfl (a_n HT_.out (by kernel_rfl)) (fun _ _ _ h => h) (Or.inl ⟨by rfl,?_⟩) ?_ ?_
   rotate_left
   ·intro w'
    go_simp
    with_reducible rfl
   rotate_left
   ·simp only [Act.put,sa_,sb_,sc_,a_r,a_s]
    rfl
   refine one_ (i:=9) (N:=some 25) Z61_ rfl rfl (c_e HT_.out (by kernel_rfl)) (by decide) (fun K hK => ?_)
   refine n_B (w1:=?_) (v:=?_) (by rfl) rfl ?_ ?_
   rotate_left 2
   ·go_simp
    constructor
    ·rfl
    rfl
   refine hK.out _ _ ⟨(a_a (a_i d_Q.out _) 0).trans rfl,(a_a (a_i d_Q.out _) 1).trans rfl,(a_a (a_i e_Q.out _) 0).trans rfl,(a_a (a_i e_Q.out _) 1).trans rfl⟩ (fun hHeld => ?_)
   clear hK K
   refine d_U (a':=?_) ?_ ?_
   rotate_left
   ·show Act.put _ (some 25) _ = _
    simp only [Act.put,sa_,sb_,sc_,a_r,a_s]
    rfl
   refine one_ (i:=10) (N:=some 26) Z67_ rfl rfl (c_e HT_.out (by kernel_rfl)) (by decide) (fun K hK => ?_)
   refine Kd.k_G k27 (w0:=w) w.heap.size (by rfl) (.tmp 17) (.tmp 25) 22 27 (.agg #[(.int .i64 0),(.slice none 0 0)]) 32 rfl Try.underlying22 i_E rfl (by decide) (by omega) u199000 x199000_1 (⟨(a_o l0_0 x12_1).f0,y204⟩ : S27) [.int .i64 ((a_o l0_0 x12_1).f0),.slice Ao26 y204.length co26] (fun k_ => k_ ≠ e_g) (fun k_ => some k_ = (.slice Ao26 y204.length co26 : Value).ownBlock) rfl rfl ?aP (fun k_ hk_ => ((Kd.f_z (ok':=fun k_ => ((fun k_ => k_ ≠ e_g)) k_ ∧ some k_ ≠ (u199000 : Value).ownBlock) (Kd.i_Q (Kd.n_D (r_D.out) (Kd.o_o c_f.out) (by decide)) e_Q.out (by decide)) (fun k_ hk => ⟨hk.2,hk.1.2⟩))).1 k_ hk_.symm) ?aF ?aO ?aB ?aS ?aL ?_
   (case aP => exact r_W _ _ _ (⟨(a_o l0_0 x12_1).f0,y204⟩ : S27) (Kd.f_z (Kd.l_2 rfl (Kd.f_z (ok':=fun k_ => ((fun k_ => k_ ≠ e_g)) k_ ∧ some k_ ≠ (u199000 : Value).ownBlock) (Kd.i_Q (Kd.n_D (r_D.out) (Kd.o_o c_f.out) (by decide)) e_Q.out (by decide)) (fun k_ hk => ⟨hk.2,hk.1.2⟩))) (fun _ h_ => h_)))
   (case aB => exact (by repeat (first|(with_reducible first|exact HB.out|apply a_g|apply a_f|apply a_h|refine a_d ?_ g_A.out|refine a_d ?_ g_2.out|refine a_d ?_ i_C.out|refine a_d ?_ l_Q.out)|exact HB.out)))
   (case aF => exact (fun k_ hk => Kd.d_g (g:=e_g) (o:=.cells #[.int .i64 ((a_o l0_0 x12_1).f0),.slice A199_1 ((a_o l0_0 x12_1).f1).length c199_1] 27 (0,0)) (bup_ e_Q.out) k_ hk))
   (case aO => exact (by (with_reducible repeat (first|apply Kd.h_a|apply Kd.g_5|apply Kd.i_F));exact Kd.i_Y c_f.out (fun k_ hk => ⟨hk.1,fun e_ => hk.2 e_⟩)))
   (case aS => exact (a_p (by repeat (first|(with_reducible first|exact HB.out|apply a_g|apply a_f|apply a_h|refine a_d ?_ g_A.out|refine a_d ?_ g_2.out|refine a_d ?_ i_C.out|refine a_d ?_ l_Q.out)|exact HB.out))))
   (case aL => have:=LMc15.out;omega)
   intro v208 w27 ho hb hg hat
   rw [← Ny207.out] at ho
   have w_J:=a_e.mk (ho)
   replace e_l:=a_e.mk (c_n (g:=g_1) (o:=.cells #[.slice (some ad199) l0_0.length c0_0,.int .i64 a0_1] 24 (0,0)) (bup_ e_l.out) hg (Kd.S_ne c_f.out e_l.out (by decide)))
   replace e_N:=a_e.mk (c_n (g:=g_R) (o:=.cells #[.slice none 0 0,.int .i64 0] 24 (0,0)) (bup_ e_N.out) hg (Kd.S_ne c_f.out e_N.out (by decide)))
   replace d_Q:=a_e.mk (c_n (g:=f_5) (o:=.cells #[u199000,.int .i64 a0_1] 24 (0,0)) (bup_ d_Q.out) hg (Kd.S_ne c_f.out d_Q.out (by decide)))
   replace e_Q:=a_e.mk (c_n (g:=e_g) (o:=.cells #[.int .i64 ((a_o l0_0 x12_1).f0),.slice A199_1 ((a_o l0_0 x12_1).f1).length c199_1] 27 (0,0)) (bup_ e_Q.out) hg (Kd.v_G c_f.out (fun _ hk => hk.1)))
   replace HB:=a_e.mk (hb)
   clear c_f r_D ho hb hg hat
   obtain ⟨Ao28,co28,eo28⟩:=Kd.o_g w_J.out
   (first|subst eo28|(injection eo28 with f1_ f2_ f3_;have f4_:=f1_.symm;have f5_:=f3_.symm;clear f1_ f2_ f3_;subst f4_;subst f5_))
   refine hK.out _ _ ⟨(a_a d_Q.out 0).trans rfl,(a_a d_Q.out 1).trans rfl,(a_a e_Q.out 0).trans rfl,(a_a e_Q.out 1).trans rfl⟩ (fun hHeld => ?_)
   clear hK K
   refine d_U (a':=?_) ?_ ?_
   rotate_left
   ·show Act.put _ (some 26) _ = _
    simp only [Act.put,sa_,sb_,sc_,a_r,a_s]
    rfl
   refine a_y (i:=11) (N:=some 27) (v:=?_) (a':=?_) Z73_ rfl rfl (a_n HT_.out (by kernel_rfl)) (fun _ _ _ h => h) (Or.inl ⟨by rfl,?_⟩) ?_ ?_
   rotate_left
   ·intro w'
    go_simp
    with_reducible rfl
   rotate_left
   ·simp only [Act.put,sa_,sb_,sc_,a_r,a_s]
    rfl
   refine z_4 (i:=12) (N:=none) s_b rfl rfl (c_e HT_.out (by kernel_rfl)) (by decide) (fun K hK => ?_)
   have hs29 : w27.cell? ⟨f_5,0,none⟩ = some (u199000):=(a_a d_Q.out 0).trans rfl
   have hfs29:=a_b d_Q.out 0
   have hns29_0:=f_6.out
   have hns29_1:=f_7.out
   have hns29_3:=l_R.out
   have hms29_0:=j_6.out
   have hms29_1:=j_7.out
   have hms29_3:=i_a.out
   refine q_P (w1:=?_) (by rfl) rfl ?_ ?_
   rotate_left
   ·go_simp
    rfl
   refine hK.out _ _ ?_
   clear hK K
   refine e_T (c_u HT_.out (by kernel_rfl)) ?_
   try go_wp2
   go_roundg k1
   case measure => have:=HK1.out;omega
   case rel => exact ⟨(wrap64 (x12_1 + 1)),(y207),(.slice Ao28 y207.length co28),(by first|rfl|(simp;done)|(simp [*];done)),H',⟨by have:=HK1.out;omega⟩,⟨by (with_reducible repeat (first|apply Kd.h_a|apply Kd.g_5|apply Kd.i_F));exact Kd.i_Y (Kd.o_T (p:=⟨f_5,0,none⟩) (Kd.o_8 w_J.out d_Q.out (by decide)) (fun _ hk => hk.2) (.slice Ao28 y207.length co28)) (fun _ hk => trivial)⟩,⟨by (with_reducible repeat (first|refine a_j ?_ _|refine a_k ?_|refine a_i ?_ _));refine a_B ?_ f_6.out _;(with_reducible repeat (first|refine a_j ?_ _|refine a_k ?_|refine a_i ?_ _));exact e_l.out⟩,⟨by (with_reducible repeat (first|refine a_j ?_ _|refine a_k ?_|refine a_i ?_ _));refine a_B ?_ f_7.out _;(with_reducible repeat (first|refine a_j ?_ _|refine a_k ?_|refine a_i ?_ _));exact e_N.out⟩,⟨by (with_reducible repeat (first|refine a_j ?_ _|refine a_k ?_|refine a_i ?_ _));refine a_J (cs:=#[u199000,.int .i64 a0_1]) ?_ 0 _ rfl;(with_reducible repeat (first|refine a_j ?_ _|refine a_k ?_|refine a_i ?_ _));exact d_Q.out⟩,⟨by repeat (first|(with_reducible first|exact HB.out|apply a_g|apply a_f|apply a_h|refine a_d ?_ g_A.out|refine a_d ?_ g_2.out|refine a_d ?_ i_C.out|refine a_d ?_ l_Q.out)|exact HB.out)⟩⟩
end Go.Proofs.Ytgglkfilkagblaa.Q
end
