/- Part 4 of 5 of what the row of TopoBack stands on: contracts over the given program's functions, the plain law, the row; no condition beyond those that each theorem states. -/
import Derived.Test.YtcpfcehfgenljaaDoorXTopoBack2
section
namespace Go.Proofs.YtcpfcehfgenljaaDoor.Q
open Go.RowKit Go.Proofs.YtcpfcehfgenljaaDoorW.PrintWords Go.Proofs.YtcpfcehfgenljaaDoorW.PrintLast Go.Proofs.YtcpfcehfgenljaaDoorW.PrintMore
set_option linter.unusedVariables false
set_option linter.unusedSimpArgs false
def a_s.l0 : Nat → List Int → List (S56) → Int → Int → Option (List Int × Int)
 | 0,_,_,_,_ => none
 | k + 1,x5,x19,x20,x21 => if x21 < x20 then (if 0 ≤ x21 then (if x21 < (x19.length : Int) then ((some (([((a_t x19 x21).f0) % 256,((a_t x19 x21).f1) % 256] : List Int) : List Int)).bind fun y164 => (if x5.length + y164.length < 140737488355328 then (a_s.l0 k (x5 ++ y164) x19 x20 (wrap64 (x21 + 1))) else (none))) else (none)) else (none)) else (some (x5,0))
def a_s.f (k : Nat) (l0_0 : List (S56)) : Option (List Int × Int):=(a_Y.f l0_0).bind fun t158 => (if t158 = 0 then (a_s.l0 k (([((l0_0.length : Int)) % 256] : List Int)) l0_0 (l0_0.length : Int) 0) else (some (([] : List Int),t158)))
theorem a_s.b_Y : ∀ k,(∀ y0 y1 y2 y3,LeO (a_s.l0 k y0 y1 y2 y3) (a_s.l0 (k + 1) y0 y1 y2 y3))
 | 0 => fun _ _ _ _ r h => by simp [a_s.l0] at h
 | k + 1 => by
  have ih0:=a_s.b_Y k
  ·intro y0 y1 y2 y3
   unfold a_s.l0
   repeat' first
   | (with_reducible exact ih0 _ _ _ _)
   | (with_reducible exact LeO.refl _)
   | (with_reducible exact LeO.none _)
   | (with_reducible refine LeO.ite ?_ ?_)
   | (with_reducible refine LeO.bind ?_ (fun _ => ?_))
   | exact ih0 _ _ _ _
   | exact LeO.none _
   | refine LeO.ite ?_ ?_
   | refine LeO.bind ?_ (fun _ => ?_)
theorem a_s.mono : ∀ a0 k,LeO (a_s.f k a0) (a_s.f (k + 1) a0):=by
 intro a0 k
 have ih0:=a_s.b_Y k
 unfold a_s.f
 repeat' first
  | (with_reducible exact ih0 _ _ _ _)
  | (with_reducible exact LeO.refl _)
  | (with_reducible exact LeO.none _)
  | (with_reducible refine LeO.ite ?_ ?_)
  | (with_reducible refine LeO.bind ?_ (fun _ => ?_))
  | exact ih0 _ _ _ _
  | exact LeO.none _
  | refine LeO.ite ?_ ?_
  | refine LeO.bind ?_ (fun _ => ?_)
set_option maxHeartbeats 8000000 in
set_option maxRecDepth 100000 in
theorem a_s.calls (k : Nat) (A0_0 : Option Addr) (c0_0 : Nat) (l0_0 : List (S56)) (r1 : List Int) (r2 : Int) (w : World) (hr0_0 : Kd.C k56 w A0_0 l0_0.length l0_0) (hc0_0 : l0_0.length ≤ c0_0) (h : a_s.f k l0_0 = some (r1,r2)) :
 Calls Tryd.prog 12 #[.agg #[.slice A0_0 l0_0.length c0_0]] w fun e w' => ∃ v0_ : Value,e = .returned (.tuple #[v0_,.int .i64 r2]) ∧ Kd.R (Kd.int .u8) 5 w' w.heap.size (fun _ => True) v0_ r1 ∧ Below w.heap.size w w':=by
 have hu24:=Tryd.underlying24
 have hu56:=Tryd.underlying56
 have b_U:=a_a.mk hr0_0
 have b_1:=a_a.mk hc0_0
 clear hr0_0 hc0_0
 have HB:=a_a.mk (Below.refl w.heap.size w)
 have H : ((a_Y.f l0_0).bind fun t158 => (if t158 = 0 then (a_s.l0 k (([((l0_0.length : Int)) % 256] : List Int)) l0_0 (l0_0.length : Int) 0) else (some (([] : List Int),t158)))) = some (r1,r2):=h
 clear h
 replace H:=Option.bind_eq_some_iff.mp H
 obtain ⟨t158,A20,H⟩:=H
 replace H : (if t158 = 0 then (a_s.l0 k (([((l0_0.length : Int)) % 256] : List Int)) l0_0 (l0_0.length : Int) 0) else (some (([] : List Int),t158))) = some (r1,r2):=H
 have A2:=a_a.mk A20
 clear A20
 by_cases c3 : t158 = 0
 rotate_left
 ·rw [if_neg c3] at H
  have c3b0 : (t158 == 0) = false:=beq_eq_false_iff_ne.mpr c3
  have c3b1 : (t158 != 0) = true:=bne_iff_ne.mpr c3
  simp only [Option.some.injEq,Prod.mk.injEq] at H
  obtain ⟨rfl,rfl⟩:=H
  go_enter Tryd.func12,Tryd.ntmps12
  go_wp2_with (first|((with_reducible refine a_B (N:=1) rfl ?_);refine a_x ?hg (N:=1) ?hd (cs:=#[.slice A0_0 l0_0.length c0_0]) (t:=24) ?hr ?_;(case hd => rfl);(case hg => rfl);(case hr => first|(go_simp;done)|(go_simp;rfl));intro d_h hg w22 hbox hb;have c_a:=a_a.mk (hbox);have j_I:=a_a.mk ((by rw [hg];exact (a_g (lup_ HB.out)) : w.heap.size ≤ d_h));have c_Q:=a_a.mk ((by rw [hg];exact (a_g (lup_ HB.out)) : w.heap.size ≤ d_h));replace HB:=a_a.mk (a_i (lup_ HB.out) hb);clear hb hbox hg;have i_u : w22.cell? ⟨d_h,0,none⟩ = some (.slice A0_0 l0_0.length c0_0):=(a_n c_a.out 0).trans rfl;have i_H:=a_k c_a.out 0)|((with_reducible refine a_u (f:=28) rfl ?_);refine a_U (some 9) rfl rfl Tryd.func28 (by kernel_rfl) rfl #[.agg #[.slice A0_0 l0_0.length c0_0]] rfl (by (try simp only [List.map_toArray,List.map_cons,List.map_nil]);first|done|rfl|(simp only [List.length_drop,List.length_take];rfl)) ?_;(with_reducible refine (a_Y.calls _ _ l0_0 t158 _ ?side1 ?side2 A2.out).mono ?_);(case side1 => repeat (first|exact (Kd.a_K b_U.out HB.out)|(with_reducible refine Kd.a_F ?_ _)|(with_reducible refine Kd.a_G ?_ _)|(with_reducible refine Kd.a_W ?_)));(case side2 => exact b_1.out);rintro e w24 ⟨rfl,hb⟩;refine ⟨_,rfl,?_⟩;replace c_a:=a_a.mk (a_l (bup_ c_a.out) hb);replace HB:=a_a.mk (a_i (by repeat (first|(with_reducible first|exact HB.out|apply a_d|apply a_b|apply a_e|refine a_c ?_ c_Q.out)|exact HB.out)) hb);(try clear hb);(try clear hb2);(try clear hk);(try clear hi)))
  go_ret2
  exact ⟨_,by first|rfl|(simp [a_p,a_q] <;> rfl)|(simp [*, a_p,a_q] <;> rfl),by first|exact Kd.d_p _ _ _ _ _|exact Kd.f_v _ _ _ _ _|exact Kd.f_y _ _ _ _ _|exact Kd.f_w _ _ _ _ _|exact Kd.f_x _ _ _ _ _,by repeat (first|(with_reducible first|exact HB.out|apply a_d|apply a_b|apply a_e|refine a_c ?_ c_Q.out)|exact HB.out)⟩
 rw [if_pos c3] at H
 have c3b0 : (t158 == 0) = true:=beq_iff_eq.mpr c3
 have c3b1 : (t158 != 0) = false:=bne_eq_false_iff_eq.mpr c3
 clear c3
 obtain ⟨y159,hy159⟩ : ∃ y_ : List Int,y_ = (([((l0_0.length : Int)) % 256] : List Int)):=⟨_,rfl⟩
 replace H : (a_s.l0 k y159 l0_0 (l0_0.length : Int) 0) = some (r1,r2):=by first|(rw [hy159];with_reducible exact H)|(have H2_:=(Option.bind_some _ _).symm.trans H;rw [hy159];with_reducible exact H2_)|(have H2_:=(Option.bind_some _ _).symm.trans H;with_reducible exact H2_)|with_reducible exact H|(rw [hy159];exact H)|exact H
 have Ny159:=a_a.mk hy159
 clear hy159
 have H':=a_a.mk H
 clear H
 go_enter Tryd.func12,Tryd.ntmps12
 go_wp2_with (first|((with_reducible refine a_B (N:=1) rfl ?_);refine a_x ?hg (N:=1) ?hd (cs:=#[.slice A0_0 l0_0.length c0_0]) (t:=24) ?hr ?_;(case hd => rfl);(case hg => rfl);(case hr => first|(go_simp;done)|(go_simp;rfl));intro d_h hg w4 hbox hb;have c_a:=a_a.mk (hbox);have j_I:=a_a.mk ((by rw [hg];exact (a_g (lup_ HB.out)) : w.heap.size ≤ d_h));have c_Q:=a_a.mk ((by rw [hg];exact (a_g (lup_ HB.out)) : w.heap.size ≤ d_h));replace HB:=a_a.mk (a_i (lup_ HB.out) hb);clear hb hbox hg;have h_J : w4.cell? ⟨d_h,0,none⟩ = some (.slice A0_0 l0_0.length c0_0):=(a_n c_a.out 0).trans rfl;have h_L:=a_k c_a.out 0)|((with_reducible refine a_u (f:=28) rfl ?_);refine a_U (some 9) rfl rfl Tryd.func28 (by kernel_rfl) rfl #[.agg #[.slice A0_0 l0_0.length c0_0]] rfl (by (try simp only [List.map_toArray,List.map_cons,List.map_nil]);first|done|rfl|(simp only [List.length_drop,List.length_take];rfl)) ?_;(with_reducible refine (a_Y.calls _ _ l0_0 t158 _ ?side1 ?side2 A2.out).mono ?_);(case side1 => repeat (first|exact (Kd.a_K b_U.out HB.out)|(with_reducible refine Kd.a_F ?_ _)|(with_reducible refine Kd.a_G ?_ _)|(with_reducible refine Kd.a_W ?_)));(case side2 => exact b_1.out);rintro e w6 ⟨rfl,hb⟩;refine ⟨_,rfl,?_⟩;replace c_a:=a_a.mk (a_l (bup_ c_a.out) hb);replace HB:=a_a.mk (a_i (by repeat (first|(with_reducible first|exact HB.out|apply a_d|apply a_b|apply a_e|refine a_c ?_ c_Q.out)|exact HB.out)) hb);(try clear hb);(try clear hb2);(try clear hk);(try clear hi);have d_4 : w6.cell? ⟨d_h,0,none⟩ = some (.slice A0_0 l0_0.length c0_0):=(a_n c_a.out 0).trans rfl;have d_5:=a_k c_a.out 0)|((with_reducible refine a_B (N:=17) rfl ?_);refine Kd.i_d (Kd.int .u8) _ 5 ?hg (N:=17) ?hd (xs:=([((l0_0.length : Int)) % 256] : List Int)) (inner:=[.int .u8 (((l0_0.length : Int)) % 256)]) (ok:=fun _ => True) (okp:=fun _ => True) ?hr ?hp (fun _ hk => hk) trivial (Below.refl _ _) (Nat.le_refl _) (by simp) ?_;(case hd => rfl);(case hg => rfl);(case hr => first|(go_simp;done)|(go_simp;rfl));(case hp => exact (Reps.one (show Kd.M (Kd.int .u8) _ _ _ (((l0_0.length : Int)) % 256) [.int .u8 (((l0_0.length : Int)) % 256)] from rfl) (Reps.none _ _)));intro v160 w8 ho9 hb hg_ hnew_;clear hg_ hnew_;(first|rw [← Ny159.out] at ho9|(simp only [Int.reduceToNat] at ho9;rw [← Ny159.out] at ho9));have j_N:=a_a.mk (Kd.a_3 ho9 (a_g (by repeat (first|(with_reducible first|exact HB.out|apply a_d|apply a_b|apply a_e|refine a_c ?_ c_Q.out)|exact HB.out))));replace c_a:=a_a.mk (a_l (bup_ c_a.out) hb);replace HB:=a_a.mk (a_i (by repeat (first|(with_reducible first|exact HB.out|apply a_d|apply a_b|apply a_e|refine a_c ?_ c_Q.out)|exact HB.out)) hb);clear hb ho9;have d_q : w8.cell? ⟨d_h,0,none⟩ = some (.slice A0_0 l0_0.length c0_0):=(a_n c_a.out 0).trans rfl;have d_t:=a_k c_a.out 0))
 go_loopg [5,21] k (fun kq v5 v21 w' => ∃ (x5_1 : List Int) (x21_1 : Int),v21 = .int .i64 x21_1 ∧ a_a (a_s.l0 kq x5_1 l0_0 (l0_0.length : Int) x21_1 = some (r1,r2)) ∧ a_a (kq ≤ k) ∧ a_a (Kd.R (Kd.int .u8) 5 w' w.heap.size (fun _ => True) v5 x5_1) ∧ a_a (w'.heap[d_h]? = some (.cells #[(.slice A0_0 l0_0.length c0_0)] 24 (0,0))) ∧ a_a (Below w.heap.size w w'))
 case atStart => exact ⟨(y159),(0),(by first|rfl|(simp;done)|(simp [*];done)),H',⟨Nat.le_refl _⟩,⟨by (with_reducible repeat (first|apply Kd.a_H|apply Kd.a_I|apply Kd.a_O));exact j_N.out⟩,⟨by (with_reducible repeat (first|refine a_j ?_ _|refine a_m ?_|refine a_h ?_ _));exact c_a.out⟩,⟨by repeat (first|(with_reducible first|exact HB.out|apply a_d|apply a_b|apply a_e|refine a_c ?_ c_Q.out)|exact HB.out)⟩⟩
 case round =>
  clear H'
  try clear c1
  try clear c2
  try clear p2
  try clear c3
  try clear c3b0
  try clear c3b1
  try clear d_q
  try clear h_J
  try clear d_4
  try clear d_t
  try clear h_L
  try clear d_5
  obtain ⟨x5_1,x21_1,rfl,HA,HK1,HO_5,c_a,HB⟩:=hrel
  cases gk with
  | zero => exact absurd HA.out (by simp [a_s.l0])
  | succ k1 =>
   have H:=HA.out
   clear HA
   simp only [a_s.l0] at H
   by_cases c11 : x21_1 < (l0_0.length : Int)
   rotate_left
   ·rw [if_neg c11] at H
    have c11b0 : decide (x21_1 < (l0_0.length : Int)) = false:=decide_eq_false c11
    clear c11
    simp only [Option.some.injEq,Prod.mk.injEq] at H
    obtain ⟨rfl,rfl⟩:=H
    go_wp2
    go_ret2
    exact ⟨_,by first|rfl|(simp [a_p,a_q] <;> rfl)|(simp [*, a_p,a_q] <;> rfl),by (with_reducible repeat (first|apply Kd.a_H|apply Kd.a_I|apply Kd.a_O));exact HO_5.out,by repeat (first|(with_reducible first|exact HB.out|apply a_d|apply a_b|apply a_e|refine a_c ?_ c_Q.out)|exact HB.out)⟩
   rw [if_pos c11] at H
   have c11b0 : decide (x21_1 < (l0_0.length : Int)) = true:=decide_eq_true c11
   clear c11
   by_cases c12 : 0 ≤ x21_1
   rotate_left
   ·rw [if_neg c12] at H
    exact absurd H (by simp)
   rw [if_pos c12] at H
   have c12b0 : decide (0 ≤ x21_1) = true:=decide_eq_true c12
   clear c12
   by_cases c13 : x21_1 < (l0_0.length : Int)
   rotate_left
   ·rw [if_neg c13] at H
    exact absurd H (by simp)
   rw [if_pos c13] at H
   have c13b0 : decide (x21_1 < (l0_0.length : Int)) = true:=decide_eq_true c13
   clear c13
   obtain ⟨y164,hy164⟩ : ∃ y_ : List Int,y_ = (([((a_t l0_0 x21_1).f0) % 256,((a_t l0_0 x21_1).f1) % 256] : List Int)):=⟨_,rfl⟩
   replace H : (if x5_1.length + y164.length < 140737488355328 then (a_s.l0 k1 (x5_1 ++ y164) l0_0 (l0_0.length : Int) (wrap64 (x21_1 + 1))) else (none)) = some (r1,r2):=by first|(rw [hy164];with_reducible exact H)|(have H2_:=(Option.bind_some _ _).symm.trans H;rw [hy164];with_reducible exact H2_)|(have H2_:=(Option.bind_some _ _).symm.trans H;with_reducible exact H2_)|with_reducible exact H|(rw [hy164];exact H)|exact H
   have Ny164:=a_a.mk hy164
   clear hy164
   by_cases c14 : x5_1.length + y164.length < 140737488355328
   rotate_left
   ·rw [if_neg c14] at H
    exact absurd H (by simp)
   rw [if_pos c14] at H
   have LMc14:=a_a.mk c14
   clear c14
   obtain ⟨y167,hy167⟩ : ∃ y_ : List Int,y_ = (x5_1 ++ y164):=⟨_,rfl⟩
   replace H : (a_s.l0 k1 y167 l0_0 (l0_0.length : Int) (wrap64 (x21_1 + 1))) = some (r1,r2):=by first|(rw [hy167];with_reducible exact H)|(have H2_:=(Option.bind_some _ _).symm.trans H;rw [hy167];with_reducible exact H2_)|(have H2_:=(Option.bind_some _ _).symm.trans H;with_reducible exact H2_)|with_reducible exact H|(rw [hy167];exact H)|exact H
   have Ny167:=a_a.mk hy167
   clear hy167
   have H':=a_a.mk H
   clear H
   have p162 : 0 ≤ (x21_1 : Int):=of_decide_eq_true (by first|(with_reducible assumption)|assumption)
   have q162 : x21_1 < (l0_0.length : Int):=of_decide_eq_true (by first|(with_reducible assumption)|assumption)
   obtain ⟨ad162,e162,f_G,f_H⟩:=d_g b_U.out x21_1 p162 q162
   cases e162
   replace f_G:=(HB.out.cell (World.block_lt_of_cell? w _ f_G)).trans f_G
   replace f_H:=(HB.out.cell (World.block_lt_of_cell? w _ f_H)).trans f_H
   replace p162:=eq_true p162
   replace q162:=eq_true q162
   go_wp2_with (first|((with_reducible refine a_B (N:=7) rfl ?_);refine a_x ?hg (N:=7) ?hd (cs:=#[.int .i64 0,.int .i64 0]) (t:=56) ?hr ?_;(case hd => rfl);(case hg => rfl);(case hr => first|(go_simp;done)|(go_simp;rfl));intro d_M hg w15 hbox hb;have d_R:=a_a.mk (hbox);have l_u:=a_a.mk ((by rw [hg];exact (a_g (by repeat (first|(with_reducible first|exact HB.out|apply a_d|apply a_b|apply a_e|refine a_c ?_ c_Q.out)|exact HB.out))) : w.heap.size ≤ d_M));have g_j:=a_a.mk ((by rw [hg];exact (a_g (by repeat (first|(with_reducible first|exact HB.out|apply a_d|apply a_b|apply a_e|refine a_c ?_ c_Q.out)|exact HB.out))) : w.heap.size ≤ d_M));have d_U:=a_a.mk ((by rw [hg];exact Nat.ne_of_lt (a_J (bup_ c_a.out)) : d_h ≠ d_M));have g_r:=a_a.mk ((by rw [hg];exact Nat.ne_of_gt (a_J (bup_ c_a.out)) : d_M ≠ d_h));replace HO_5:=a_a.mk (Kd.a_A (rup_ HO_5.out) hb);replace c_a:=a_a.mk (a_l (bup_ c_a.out) hb);replace HB:=a_a.mk (a_i (by repeat (first|(with_reducible first|exact HB.out|apply a_d|apply a_b|apply a_e|refine a_c ?_ c_Q.out)|exact HB.out)) hb);clear hb hbox hg;have l_B:=g_r.out;have l_1:=d_U.out;have i_q : w15.cell? ⟨d_M,0,none⟩ = some (.int .i64 0):=(a_n d_R.out 0).trans rfl;have j_Y : w15.cell? ⟨d_M,1,none⟩ = some (.int .i64 0):=(a_n d_R.out 1).trans rfl;have i_D:=a_k d_R.out 0;have k_w:=a_k d_R.out 1)|((with_reducible refine a_B (N:=32) rfl ?_);refine Kd.i_d (Kd.int .u8) _ 5 ?hg (N:=32) ?hd (xs:=([((a_t l0_0 x21_1).f0) % 256,((a_t l0_0 x21_1).f1) % 256] : List Int)) (inner:=[.int .u8 (((a_t l0_0 x21_1).f0) % 256),.int .u8 (((a_t l0_0 x21_1).f1) % 256)]) (ok:=fun _ => True) (okp:=fun _ => True) ?hr ?hp (fun _ hk => hk) trivial (Below.refl _ _) (Nat.le_refl _) (by simp) ?_;(case hd => rfl);(case hg => rfl);(case hr => first|(go_simp;done)|(go_simp;rfl));(case hp => exact (Reps.one (show Kd.M (Kd.int .u8) _ _ _ (((a_t l0_0 x21_1).f0) % 256) [.int .u8 (((a_t l0_0 x21_1).f0) % 256)] from rfl) (Reps.one (show Kd.M (Kd.int .u8) _ _ _ (((a_t l0_0 x21_1).f1) % 256) [.int .u8 (((a_t l0_0 x21_1).f1) % 256)] from rfl) (Reps.none _ _))));intro v165 w18 ho19 hb hg_ hnew_;clear hg_ hnew_;(first|rw [← Ny164.out] at ho19|(simp only [Int.reduceToNat] at ho19;rw [← Ny164.out] at ho19));have g_k:=a_a.mk (Kd.a_3 (Kd.c_H ho19 (Kd.R_lt (by (with_reducible repeat (first|apply Kd.a_H|apply Kd.a_I|apply Kd.a_O));exact (Kd.a_R (Kd.b_u (p:=⟨d_M,1,none⟩) (Kd.b_u (p:=⟨d_M,0,none⟩) (Kd.a_S HO_5.out d_R.out (by decide)) (fun _ hk => hk.2) (.int .i64 ((a_t l0_0 x21_1).f0))) (fun _ hk => hk.2) (.int .i64 ((a_t l0_0 x21_1).f1))) (fun _ h_ => h_.1))))) (a_g (by repeat (first|(with_reducible first|exact HB.out|apply a_d|apply a_b|apply a_e|refine a_c ?_ c_Q.out|refine a_c ?_ g_j.out)|exact HB.out))));replace HO_5:=a_a.mk (Kd.b_5 (by (with_reducible repeat (first|apply Kd.a_H|apply Kd.a_I|apply Kd.a_O));exact (Kd.a_R (Kd.b_u (p:=⟨d_M,1,none⟩) (Kd.b_u (p:=⟨d_M,0,none⟩) (Kd.a_S HO_5.out d_R.out (by decide)) (fun _ hk => hk.2) (.int .i64 ((a_t l0_0 x21_1).f0))) (fun _ hk => hk.2) (.int .i64 ((a_t l0_0 x21_1).f1))) (fun _ h_ => h_.1))) (Kd.b_q ho19) hb);replace c_a:=a_a.mk (a_l (g:=d_h) (o:=.cells #[.slice (some ad162) l0_0.length c0_0] 24 (0,0)) (by (with_reducible repeat (first|refine a_j ?_ _|refine a_m ?_|refine a_h ?_ _));refine a_8 ?_ d_U.out _;(with_reducible repeat (first|refine a_j ?_ _|refine a_m ?_|refine a_h ?_ _));refine a_8 ?_ d_U.out _;(with_reducible repeat (first|refine a_j ?_ _|refine a_m ?_|refine a_h ?_ _));exact c_a.out) hb);replace d_R:=a_a.mk (a_l (g:=d_M) (o:=.cells #[.int .i64 ((a_t l0_0 x21_1).f0),.int .i64 ((a_t l0_0 x21_1).f1)] 56 (0,0)) (by (with_reducible repeat (first|refine a_j ?_ _|refine a_m ?_|refine a_h ?_ _));refine a_5 (cs:=#[.int .i64 ((a_t l0_0 x21_1).f0),.int .i64 0]) ?_ 1 _ rfl;(with_reducible repeat (first|refine a_j ?_ _|refine a_m ?_|refine a_h ?_ _));refine a_5 (cs:=#[.int .i64 0,.int .i64 0]) ?_ 0 _ rfl;(with_reducible repeat (first|refine a_j ?_ _|refine a_m ?_|refine a_h ?_ _));exact d_R.out) hb);replace HB:=a_a.mk (a_i (by repeat (first|(with_reducible first|exact HB.out|apply a_d|apply a_b|apply a_e|refine a_c ?_ c_Q.out|refine a_c ?_ g_j.out)|exact HB.out)) hb);clear hb ho19;obtain ⟨Ao21,co21,eo21⟩:=Kd.a_7 g_k.out;subst eo21)|((with_reducible refine d_D (b:=.append) (xs:=#[.tmp 25,.tmp 32]) rfl ?_);at_builtin;refine Kd.d_e (Kd.int .u8) (w0:=w) w.heap.size rfl (.tmp 25) (.tmp 32) 25 5 (.int .u8 0) 1 rfl Tryd.underlying25 info5 rfl (by decide) (by omega) u5 x5_1 y164 _ _ _ (fun k_ => some k_ ≠ (.slice Ao21 y164.length co21 : Value).ownBlock) (fun _ => False) rfl rfl ?aO ?aR (fun _ _ h => h) (fun _ h => h.elim) ?aF ?aB ?aS ?aL ?_;(case aR => repeat (first|exact (Kd.a_w g_k.out).2.2|(with_reducible refine Kd.a_F ?_ _)|(with_reducible refine Kd.a_G ?_ _)|(with_reducible refine Kd.a_W ?_)));(case aB => exact (by repeat (first|(with_reducible first|exact HB.out|apply a_d|apply a_b|apply a_e|refine a_c ?_ c_Q.out|refine a_c ?_ g_j.out)|exact HB.out)));(case aF => exact (fun k_ hk => Kd.fresh' (Kd.R_lt (rup_ g_k.out)) k_ hk));(case aO => exact (by (with_reducible repeat (first|apply Kd.a_H|apply Kd.a_I|apply Kd.a_O));exact Kd.a_R HO_5.out (fun _ hk => hk.2)));(case aS => exact (a_g (by repeat (first|(with_reducible first|exact HB.out|apply a_d|apply a_b|apply a_e|refine a_c ?_ c_Q.out|refine a_c ?_ g_j.out)|exact HB.out))));(case aL => have:=LMc14.out;omega);intro v168 w20 ho hb hg hat;rw [← Ny167.out] at ho;have j_O:=a_a.mk (ho);replace c_a:=a_a.mk (c_f (g:=d_h) (o:=.cells #[.slice (some ad162) l0_0.length c0_0] 24 (0,0)) (bup_ c_a.out) hg (Kd.R_ne HO_5.out c_a.out (by decide)));replace d_R:=a_a.mk (c_f (g:=d_M) (o:=.cells #[.int .i64 ((a_t l0_0 x21_1).f0),.int .i64 ((a_t l0_0 x21_1).f1)] 56 (0,0)) (bup_ d_R.out) hg (Kd.R_ne HO_5.out d_R.out (by decide)));replace g_k:=a_a.mk (Kd.i_b (ok:=(fun _ => True)) (rup_ g_k.out) hg hat);replace HB:=a_a.mk (hb);clear HO_5 ho hb hg hat))
   go_roundg k1
   case measure => have:=HK1.out;omega
   case rel => exact ⟨(y167),(wrap64 (x21_1 + 1)),(by first|rfl|(simp;done)|(simp [*];done)),H',⟨by have:=HK1.out;omega⟩,⟨by (with_reducible repeat (first|apply Kd.a_H|apply Kd.a_I|apply Kd.a_O));exact Kd.a_R j_O.out (fun _ hk => trivial)⟩,⟨by (with_reducible repeat (first|refine a_j ?_ _|refine a_m ?_|refine a_h ?_ _));exact c_a.out⟩,⟨by repeat (first|(with_reducible first|exact HB.out|apply a_d|apply a_b|apply a_e|refine a_c ?_ c_Q.out|refine a_c ?_ g_j.out)|exact HB.out)⟩⟩
end Go.Proofs.YtcpfcehfgenljaaDoor.Q
end
section
namespace Go.Proofs.YtcpfcehfgenljaaDoor.Q
open Go.RowKit Go.Proofs.YtcpfcehfgenljaaDoorW.PrintWords Go.Proofs.YtcpfcehfgenljaaDoorW.PrintLast Go.Proofs.YtcpfcehfgenljaaDoorW.PrintMore
set_option linter.unusedVariables false
set_option linter.unusedSimpArgs false
def bytes_Equal.f (l0 : List Int) (l1 : List Int) : Option (Bool):=some ((strOfNums l0).toList == (strOfNums l1).toList)
set_option maxHeartbeats 8000000 in
set_option maxRecDepth 100000 in
theorem bytes_Equal.calls (A0 : Option Addr) (c0 : Nat) (l0 : List Int) (A1 : Option Addr) (c1 : Nat) (l1 : List Int) (r : Bool) (w : World) (hr0 : Kd.C (Kd.int .u8) w A0 l0.length l0) (hc0 : l0.length ≤ c0) (hr1 : Kd.C (Kd.int .u8) w A1 l1.length l1) (hc1 : l1.length ≤ c1) (h : bytes_Equal.f l0 l1 = some r) :
 Calls Tryd.prog 15 #[.slice A0 l0.length c0,.slice A1 l1.length c1] w fun e w' => e = .returned (.bool r) ∧ a_1 w w':=by
 have HR0:=a_a.mk hr0
 have HC0:=a_a.mk hc0
 clear hr0 hc0
 have HR1:=a_a.mk hr1
 have HC1:=a_a.mk hc1
 clear hr1 hc1
 have H : (some ((strOfNums l0).toList == (strOfNums l1).toList)) = some r:=h
 clear h
 obtain rfl:=Option.some.inj H
 have hcv3:=Kd.f_M (P:=Tryd.prog) (A:=A0) (c:=c0) Tryd.underlying25 Tryd.underlying5 Tryd.underlying9 HR0.out
 have hcv4:=Kd.f_M (P:=Tryd.prog) (A:=A1) (c:=c1) Tryd.underlying25 Tryd.underlying5 Tryd.underlying9 HR1.out
 go_enter Tryd.func15,Tryd.ntmps15
 go_wp2
 go_ret
 exact ⟨by first|rfl|(simp;done)|(simp [*];done),by repeat (first|exact a_1.refl _|apply a_1.step)⟩
end Go.Proofs.YtcpfcehfgenljaaDoor.Q
end
section
namespace Go.Proofs.YtcpfcehfgenljaaDoor.Q
open Go.RowKit Go.Proofs.YtcpfcehfgenljaaDoorW.PrintWords Go.Proofs.YtcpfcehfgenljaaDoorW.PrintLast Go.Proofs.YtcpfcehfgenljaaDoorW.PrintMore
set_option linter.unusedVariables false
set_option linter.unusedSimpArgs false
mutual
def a_o.j0 : Nat → List Int → Bool → Option ((List (S56)) × Int)
 | 0,_,_ => none
 | k + 1,x0,x20 => if x20 = true then (some (([] : List (S56)),7)) else (a_o.l0 k x0 1 ([] : List (S56)))
def a_o.l0 : Nat → List Int → Int → List (S56) → Option ((List (S56)) × Int)
 | 0,_,_,_ => none
 | k + 1,x0,x5,x173000 => if (wrap64 (x5 + 1)) < (x0.length : Int) then (if 0 ≤ x5 then (if x5 < (x0.length : Int) then (if 0 ≤ (wrap64 (x5 + 1)) then (if x173000.length < 8796093022208 then (a_o.l0 k x0 (wrap64 (x5 + 2)) (x173000 ++ [(⟨wrap64 (rd x0 x5),wrap64 (rd x0 (wrap64 (x5 + 1)))⟩ : S56)])) else (none)) else (none)) else (none)) else (none)) else ((a_s.f k x173000).bind fun bt178 => (if bt178.2 = 0 then ((bytes_Equal.f bt178.1 x0).bind fun t182 => (if t182 = true then (some (x173000,0)) else (some (([] : List (S56)),160)))) else (some (([] : List (S56)),160))))
end
def a_o.f (k : Nat) (l0 : List Int) : Option ((List (S56)) × Int):=if (l0.length : Int) = 0 then (a_o.j0 k l0 true) else (if 0 < (l0.length : Int) then (a_o.j0 k l0 (decide ((l0.length : Int) ≤ (wrap64 (2 * (wrap64 (rd l0 0))))))) else (none))
theorem a_o.b_Y : ∀ k,(∀ y0 y1,LeO (a_o.j0 k y0 y1) (a_o.j0 (k + 1) y0 y1)) ∧ (∀ y0 y1 y2,LeO (a_o.l0 k y0 y1 y2) (a_o.l0 (k + 1) y0 y1 y2))
 | 0 => ⟨fun _ _ r h => by simp [a_o.j0] at h,fun _ _ _ r h => by simp [a_o.l0] at h⟩
 | k + 1 => by
  obtain ⟨ih0,ih1⟩:=a_o.b_Y k
  refine ⟨?_,?_⟩
  ·intro y0 y1
   unfold a_o.j0
   repeat' first
   | (with_reducible exact ih0 _ _)
   | (with_reducible exact ih1 _ _ _)
   | (with_reducible exact a_s.mono _ _)
   | (with_reducible exact LeO.refl _)
   | (with_reducible exact LeO.none _)
   | (with_reducible refine LeO.ite ?_ ?_)
   | (with_reducible refine LeO.bind ?_ (fun _ => ?_))
   | exact ih0 _ _
   | exact ih1 _ _ _
   | exact a_s.mono _ _
   | exact LeO.none _
   | refine LeO.ite ?_ ?_
   | refine LeO.bind ?_ (fun _ => ?_)
  ·intro y0 y1 y2
   unfold a_o.l0
   repeat' first
   | (with_reducible exact ih0 _ _)
   | (with_reducible exact ih1 _ _ _)
   | (with_reducible exact a_s.mono _ _)
   | (with_reducible exact LeO.refl _)
   | (with_reducible exact LeO.none _)
   | (with_reducible refine LeO.ite ?_ ?_)
   | (with_reducible refine LeO.bind ?_ (fun _ => ?_))
   | exact ih0 _ _
   | exact ih1 _ _ _
   | exact a_s.mono _ _
   | exact LeO.none _
   | refine LeO.ite ?_ ?_
   | refine LeO.bind ?_ (fun _ => ?_)
theorem a_o.mono : ∀ a0 k,LeO (a_o.f k a0) (a_o.f (k + 1) a0):=by
 intro a0 k
 obtain ⟨ih0,ih1⟩:=a_o.b_Y k
 unfold a_o.f
 repeat' first
  | (with_reducible exact ih0 _ _)
  | (with_reducible exact ih1 _ _ _)
  | (with_reducible exact a_s.mono _ _)
  | (with_reducible exact LeO.refl _)
  | (with_reducible exact LeO.none _)
  | (with_reducible refine LeO.ite ?_ ?_)
  | (with_reducible refine LeO.bind ?_ (fun _ => ?_))
  | exact ih0 _ _
  | exact ih1 _ _ _
  | exact a_s.mono _ _
  | exact LeO.none _
  | refine LeO.ite ?_ ?_
  | refine LeO.bind ?_ (fun _ => ?_)
def a_o.T7 : Bool × List (List Nat × List Nat):=(true,[([],[]),([0],[0]),([],[]),([],[]),([2,3],[2,3]),([4],[4]),([5],[5]),([],[]),([],[]),([8],[8]),([7,9],[7,9]),([10],[10]),([11],[11]),([6,12],[6,12]),([13],[13]),([1,14],[1,14]),([0,1,2,3,4,5,6,7,8,9,10,11,12,13,14,15],[]),([16,15,15,0,1,2,3,4,5,6,7,8,9,10,11,12,13,14,15],[15,16])])
def a_o.B7 : List Nat:=[0,1,0,0,12,28,60,0,0,256,896,1920,3968,8188,16380,32767,65535,131071]
theorem a_o.tab7 : rtab .any (opsOf Tryd.f13 7) = a_o.T7:=by kernel_rfl
theorem a_o.i_f : c_6 a_o.T7.2 a_o.B7 = true:=by kernel_rfl
set_option maxHeartbeats 8000000 in
set_option maxRecDepth 100000 in
theorem a_o.calls (k : Nat) (A0 : Option Addr) (c0 : Nat) (l0 : List Int) (r1 : List (S56)) (r2 : Int) (w : World) (hr0 : Kd.C (Kd.int .u8) w A0 l0.length l0) (hc0 : l0.length ≤ c0) (h : a_o.f k l0 = some (r1,r2)) :
 Calls Tryd.prog 13 #[.slice A0 l0.length c0] w fun e w' => ∃ v0_ : Value,e = .returned (.tuple #[.agg #[v0_],.int .i64 r2]) ∧ Kd.R k56 56 w' w.heap.size (fun _ => True) v0_ r1 ∧ Below w.heap.size w w':=by
 have hu24:=Tryd.underlying24
 have hu56:=Tryd.underlying56
 have HR0:=a_a.mk hr0
 have HC0:=a_a.mk hc0
 clear hr0 hc0
 have HB:=a_a.mk (Below.refl w.heap.size w)
 have H : (if (l0.length : Int) = 0 then (a_o.j0 k l0 true) else (if 0 < (l0.length : Int) then (a_o.j0 k l0 (decide ((l0.length : Int) ≤ (wrap64 (2 * (wrap64 (rd l0 0))))))) else (none))) = some (r1,r2):=h
 clear h
 have HC2:=a_a.mk H
 clear H
 go_enter Tryd.func13,Tryd.ntmps13
 go_upto_region 1 with (first|((with_reducible refine a_B (N:=2) rfl ?_);(try (refine b_b (by rfl) ?_;dsimp only));refine a_x ?hg (N:=2) ?hd (cs:=#[.slice none 0 0]) (t:=24) ?hr ?_;(case hd => rfl);(case hg => rfl);(case hr => first|(go_simp;done)|(go_simp;rfl));intro c_D hg w3 hbox hb;have b_D:=a_a.mk (hbox);have l_v:=a_a.mk ((by rw [hg];exact (a_g (lup_ HB.out)) : w.heap.size ≤ c_D));have c_r:=a_a.mk ((by rw [hg];exact (a_g (lup_ HB.out)) : w.heap.size ≤ c_D));replace HB:=a_a.mk (a_i (lup_ HB.out) hb);clear hb hbox hg))
 (try simp only [Act.put,sa_,sb_,sc_])
 go_cut [20] (fun v20 wc => ∃ (kq : Nat) (x20_1 : Bool),v20 = .bool x20_1 ∧ a_a (a_o.j0 kq l0 x20_1 = some (r1,r2)) ∧ a_a (kq ≤ k) ∧ a_a (wc.heap[c_D]? = some (.cells #[(.slice none 0 0)] 24 (0,0))) ∧ a_a (Below w.heap.size w wc))
 case first =>
  have H:=HC2.out
  clear HC2
  by_cases c4 : (l0.length : Int) = 0
  ·rw [if_pos c4] at H
   have c4b0 : ((l0.length : Int) == 0) = true:=beq_iff_eq.mpr c4
   have c4b1 : ((l0.length : Int) != 0) = false:=bne_eq_false_iff_eq.mpr c4
   clear c4
   (first|rw [c4b0]|(simp only [b_7,b_8];rw [c4b0])|skip)
   have H':=a_a.mk H
   clear H
   go_wp2
   go_meet
   case rel => exact ⟨_,(true),(by first|rfl|(simp;done)|(simp [*];done)),H',⟨by first|omega|exact Nat.le_refl _⟩,⟨by (with_reducible repeat (first|refine a_j ?_ _|refine a_m ?_|refine a_h ?_ _));exact b_D.out⟩,⟨by repeat (first|(with_reducible first|exact HB.out|apply a_d|apply a_b|apply a_e|refine a_c ?_ c_r.out)|exact HB.out)⟩⟩
  rw [if_neg c4] at H
  have c4b0 : ((l0.length : Int) == 0) = false:=beq_eq_false_iff_ne.mpr c4
  have c4b1 : ((l0.length : Int) != 0) = true:=bne_iff_ne.mpr c4
  have c4b2 : ¬ (l0 = []):=fun h_ => c4 (by rw [h_];rfl)
  (first|rw [c4b0]|(simp only [b_7,b_8];rw [c4b0])|skip)
  by_cases c5 : 0 < (l0.length : Int)
  rotate_left
  ·rw [if_neg c5] at H
   exact absurd H (by simp)
  rw [if_pos c5] at H
  have c5b0 : decide (0 < (l0.length : Int)) = true:=decide_eq_true c5
  have c5b1 : decide (0 < l0.length) = true:=decide_eq_true (by omega)
  clear c5
  have H':=a_a.mk H
  clear H
  have p171 : 0 ≤ (0 : Int):=(by omega)
  have q171 : 0 < (l0.length : Int):=of_decide_eq_true (by first|(with_reducible assumption)|assumption)
  obtain ⟨ad171,e171,c_5⟩:=Kd.d_0 HR0.out 0 p171 q171
  cases e171
  have qi171 : (0 < l0.length) = True:=eq_true (by omega)
  (try rw [show ((0 : Int)).toNat = 0 from rfl] at c_5)
  (try rw [Addr.add_zero'] at c_5)
  replace c_5:=(HB.out.cell (World.block_lt_of_cell? w _ c_5)).trans c_5
  replace p171:=eq_true p171
  replace q171:=eq_true q171
  go_wp2
  go_meet
  case rel => exact ⟨_,(decide ((l0.length : Int) ≤ (wrap64 (2 * (wrap64 (rd l0 0)))))),(by first|rfl|(simp;done)|(simp [*];done)),H',⟨by first|omega|exact Nat.le_refl _⟩,⟨by (with_reducible repeat (first|refine a_j ?_ _|refine a_m ?_|refine a_h ?_ _));exact b_D.out⟩,⟨by repeat (first|(with_reducible first|exact HB.out|apply a_d|apply a_b|apply a_e|refine a_c ?_ c_r.out)|exact HB.out)⟩⟩
 case rest =>
  clear HC2
  try clear c1
  try clear p1
  try clear q1
  try clear hx1
  try clear qi1
  try clear p2
  try clear c4
  try clear c4b0
  try clear c4b1
  try clear c4b2
  try clear c5
  try clear c5b0
  try clear c5b1
  try clear c_5
  try clear p171
  try clear q171
  obtain ⟨kq,x20_1,rfl,HA,HJ1,b_D,HB⟩:=hcut
  cases kq with
  | zero => exact absurd HA.out (by simp [a_o.j0])
  | succ kj1 =>
   have H:=HA.out
   clear HA
   simp only [a_o.j0] at H
   by_cases c6 : x20_1 = true
   ·subst c6
    have H1 : (some (([] : List (S56)),7)) = some (r1,r2):=by rw [if_pos rfl] at H;exact H
    clear H
    have H:=H1
    clear H1
    simp only [Option.some.injEq,Prod.mk.injEq] at H
    obtain ⟨rfl,rfl⟩:=H
    have d_4 : wc.cell? ⟨c_D,0,none⟩ = some (.slice none 0 0):=(a_n b_D.out 0).trans rfl
    have d_5:=a_k b_D.out 0
    go_wp2
    refine bodyPost_ret (c_m rfl _ _ c_D 24 #[.slice none 0 0] (0,0) _ rfl (by (with_reducible repeat (first|refine a_j ?_ _|refine a_m ?_|refine a_h ?_ _));refine a_5 (cs:=#[.slice none 0 0]) ?_ 0 _ rfl;(with_reducible repeat (first|refine a_j ?_ _|refine a_m ?_|refine a_h ?_ _));exact b_D.out) Tryd.underlying24 rfl (by kernel_rfl)) rfl ?_
    exact ⟨_,by first|rfl|(simp [a_p,a_q] <;> rfl)|(simp [*, a_p,a_q] <;> rfl),by first|exact Kd.d_p _ _ _ _ _|exact Kd.f_v _ _ _ _ _|exact Kd.f_y _ _ _ _ _|exact Kd.f_w _ _ _ _ _|exact Kd.f_x _ _ _ _ _,by repeat (first|(with_reducible first|exact HB.out|apply a_d|apply a_b|apply a_e|refine a_c ?_ c_r.out)|exact HB.out)⟩
   replace c6:=Bool.eq_false_iff.mpr c6
   subst c6
   have H1 : (a_o.l0 kj1 l0 1 ([] : List (S56))) = some (r1,r2):=by rw [if_neg (show ¬ (false = true) by decide)] at H;exact H
   clear H
   have H:=H1
   clear H1
   have H':=a_a.mk H
   clear H
   go_wp2_with (first|((with_reducible refine a_B (N:=4) rfl ?_);(try (refine b_b (by rfl) ?_;dsimp only));refine a_x ?hg (N:=4) ?hd (cs:=#[.slice none 0 0]) (t:=24) ?hr ?_;(case hd => rfl);(case hg => rfl);(case hr => first|(go_simp;done)|(go_simp;rfl));intro c_4 hg w8 hbox hb;have b_T:=a_a.mk (hbox);have l_w:=a_a.mk ((by rw [hg];exact (a_g (by repeat (first|(with_reducible first|exact HB.out|apply a_d|apply a_b|apply a_e|refine a_c ?_ c_r.out)|exact HB.out))) : w.heap.size ≤ c_4));have c_Y:=a_a.mk ((by rw [hg];exact (a_g (by repeat (first|(with_reducible first|exact HB.out|apply a_d|apply a_b|apply a_e|refine a_c ?_ c_r.out)|exact HB.out))) : w.heap.size ≤ c_4));have c_G:=a_a.mk ((by rw [hg];exact Nat.ne_of_lt (a_J (bup_ b_D.out)) : c_D ≠ c_4));have c_8:=a_a.mk ((by rw [hg];exact Nat.ne_of_gt (a_J (bup_ b_D.out)) : c_4 ≠ c_D));replace b_D:=a_a.mk (a_l (bup_ b_D.out) hb);replace HB:=a_a.mk (a_i (by repeat (first|(with_reducible first|exact HB.out|apply a_d|apply a_b|apply a_e|refine a_c ?_ c_r.out)|exact HB.out)) hb);clear hb hbox hg))
   go_loopg [5] kj1 (fun kq v5 w' => ∃ (x5_2 : Int) (x173000_2 : List (S56)) (u173000 : Value),v5 = .int .i64 x5_2 ∧ a_a (a_o.l0 kq l0 x5_2 x173000_2 = some (r1,r2)) ∧ a_a (kq ≤ kj1) ∧ a_a (Kd.R k56 56 w' w.heap.size (fun _ => True) u173000 x173000_2) ∧ a_a (w'.heap[c_D]? = some (.cells #[(.slice none 0 0)] 24 (0,0))) ∧ a_a (w'.heap[c_4]? = some (.cells #[u173000] 24 (0,0))) ∧ a_a (Below w.heap.size w w'))
   case atStart => exact ⟨(1),(([] : List (S56))),(.slice none 0 0),(by first|rfl|(simp;done)|(simp [*];done)),H',⟨Nat.le_refl _⟩,⟨by first|exact Kd.d_p _ _ _ _ _|exact Kd.f_v _ _ _ _ _|exact Kd.f_y _ _ _ _ _|exact Kd.f_w _ _ _ _ _|exact Kd.f_x _ _ _ _ _⟩,⟨by (with_reducible repeat (first|refine a_j ?_ _|refine a_m ?_|refine a_h ?_ _));exact b_D.out⟩,⟨by (with_reducible repeat (first|refine a_j ?_ _|refine a_m ?_|refine a_h ?_ _));exact b_T.out⟩,⟨by repeat (first|(with_reducible first|exact HB.out|apply a_d|apply a_b|apply a_e|refine a_c ?_ c_r.out|refine a_c ?_ c_Y.out)|exact HB.out)⟩⟩
   case round =>
    clear H'
    try clear c1
    try clear p1
    try clear q1
    try clear hx1
    try clear qi1
    try clear p2
    try clear c4
    try clear c4b0
    try clear c4b1
    try clear c4b2
    try clear c5
    try clear c5b0
    try clear c5b1
    try clear c6
    try clear p6
    try clear d_4
    try clear d_5
    try clear c_5
    try clear p1
    try clear p171
    try clear p2
    try clear q1
    try clear q171
    obtain ⟨x5_2,x173000_2,u173000,rfl,HA,HK2,a_Q,b_D,b_T,HB⟩:=hrel
    cases gk with
    | zero => exact absurd HA.out (by simp [a_o.l0])
    | succ k2 =>
     have H:=HA.out
     clear HA
     simp only [a_o.l0] at H
     by_cases c9 : (wrap64 (x5_2 + 1)) < (l0.length : Int)
     rotate_left
     ·rw [if_neg c9] at H
      have c9b0 : decide ((wrap64 (x5_2 + 1)) < (l0.length : Int)) = false:=decide_eq_false c9
      clear c9
      replace H:=Option.bind_eq_some_iff.mp H
      obtain ⟨⟨t178,t181⟩,A190,H⟩:=H
      replace H : (if t181 = 0 then ((bytes_Equal.f t178 l0).bind fun t182 => (if t182 = true then (some (x173000_2,0)) else (some (([] : List (S56)),160)))) else (some (([] : List (S56)),160))) = some (r1,r2):=H
      have A19:=a_a.mk A190
      clear A190
      by_cases c20 : t181 = 0
      rotate_left
      ·rw [if_neg c20] at H
       have c20b0 : (t181 == 0) = false:=beq_eq_false_iff_ne.mpr c20
       have c20b1 : (t181 != 0) = true:=bne_iff_ne.mpr c20
       simp only [Option.some.injEq,Prod.mk.injEq] at H
       obtain ⟨rfl,rfl⟩:=H
       have l_L:=c_8.out
       have m_b:=c_G.out
       have j_8 : wr.cell? ⟨c_4,0,none⟩ = some (u173000):=(a_n b_T.out 0).trans rfl
       have k_G:=a_k b_T.out 0
       obtain ⟨Ao38,co38,eo38⟩:=Kd.a_7 a_Q.out
       subst eo38
       go_wp2_with (first|((with_reducible refine a_u (f:=12) rfl ?_);refine a_U (some 48) rfl rfl Tryd.func12 (by kernel_rfl) rfl #[.agg #[.slice Ao38 x173000_2.length co38]] rfl (by (try simp only [List.map_toArray,List.map_cons,List.map_nil]);first|done|rfl|(simp only [List.length_drop,List.length_take];rfl)) ?_;(with_reducible refine (a_s.calls k2 _ _ x173000_2 t178 t181 _ ?side1 ?side2 A19.out).mono ?_);(case side1 => repeat (first|exact (Kd.a_w a_Q.out).2.2|(with_reducible refine Kd.a_F ?_ _)|(with_reducible refine Kd.a_G ?_ _)|(with_reducible refine Kd.a_W ?_)));(case side2 => exact (Kd.a_w a_Q.out).2.1);rintro e w39 ⟨v179,rfl,ho0,hb⟩;refine ⟨_,rfl,?_⟩;have d_J:=a_a.mk (Kd.a_3 ho0 (a_g (by repeat (first|(with_reducible first|exact HB.out|apply a_d|apply a_b|apply a_e|refine a_c ?_ c_r.out|refine a_c ?_ c_Y.out)|exact HB.out))));replace a_Q:=a_a.mk (Kd.a_A (rup_ a_Q.out) hb);replace b_D:=a_a.mk (a_l (bup_ b_D.out) hb);replace b_T:=a_a.mk (a_l (bup_ b_T.out) hb);replace HB:=a_a.mk (a_i (by repeat (first|(with_reducible first|exact HB.out|apply a_d|apply a_b|apply a_e|refine a_c ?_ c_r.out|refine a_c ?_ c_Y.out)|exact HB.out)) hb);(try clear hb);(try clear hb2);(try clear hk);(try clear hi);(try clear ho0);have k_b : w39.cell? ⟨c_D,0,none⟩ = some (.slice none 0 0):=(a_n b_D.out 0).trans rfl;have k_J:=a_k b_D.out 0))
       refine bodyPost_ret (c_m rfl _ _ c_D 24 #[.slice none 0 0] (0,0) _ rfl (by (with_reducible repeat (first|refine a_j ?_ _|refine a_m ?_|refine a_h ?_ _));refine a_5 (cs:=#[.slice none 0 0]) ?_ 0 _ rfl;(with_reducible repeat (first|refine a_j ?_ _|refine a_m ?_|refine a_h ?_ _));exact b_D.out) Tryd.underlying24 rfl (by kernel_rfl)) rfl ?_
       exact ⟨_,by first|rfl|(simp [a_p,a_q] <;> rfl)|(simp [*, a_p,a_q] <;> rfl),by first|exact Kd.d_p _ _ _ _ _|exact Kd.f_v _ _ _ _ _|exact Kd.f_y _ _ _ _ _|exact Kd.f_w _ _ _ _ _|exact Kd.f_x _ _ _ _ _,by repeat (first|(with_reducible first|exact HB.out|apply a_d|apply a_b|apply a_e|refine a_c ?_ c_r.out|refine a_c ?_ c_Y.out)|exact HB.out)⟩
      rw [if_pos c20] at H
      have c20b0 : (t181 == 0) = true:=beq_iff_eq.mpr c20
      have c20b1 : (t181 != 0) = false:=bne_eq_false_iff_eq.mpr c20
      clear c20
      replace H:=Option.bind_eq_some_iff.mp H
      obtain ⟨t182,A210,H⟩:=H
      replace H : (if t182 = true then (some (x173000_2,0)) else (some (([] : List (S56)),160))) = some (r1,r2):=H
      have A21:=a_a.mk A210
      clear A210
      by_cases c22 : t182 = true
      ·subst c22
       have H1 : (some (x173000_2,0)) = some (r1,r2):=by rw [if_pos rfl] at H;exact H
       clear H
       have H:=H1
       clear H1
       simp only [Option.some.injEq,Prod.mk.injEq] at H
       obtain ⟨rfl,rfl⟩:=H
       have l_F:=c_8.out
       have l_5:=c_G.out
       have j_1 : wr.cell? ⟨c_4,0,none⟩ = some (u173000):=(a_n b_T.out 0).trans rfl
       have k_z:=a_k b_T.out 0
       obtain ⟨Ao25,co25,eo25⟩:=Kd.a_7 a_Q.out
       subst eo25
       go_wp2_with (first|((with_reducible refine a_u (f:=12) rfl ?_);refine a_U (some 48) rfl rfl Tryd.func12 (by kernel_rfl) rfl #[.agg #[.slice Ao25 x173000_2.length co25]] rfl (by (try simp only [List.map_toArray,List.map_cons,List.map_nil]);first|done|rfl|(simp only [List.length_drop,List.length_take];rfl)) ?_;(with_reducible refine (a_s.calls k2 _ _ x173000_2 t178 t181 _ ?side1 ?side2 A19.out).mono ?_);(case side1 => repeat (first|exact (Kd.a_w a_Q.out).2.2|(with_reducible refine Kd.a_F ?_ _)|(with_reducible refine Kd.a_G ?_ _)|(with_reducible refine Kd.a_W ?_)));(case side2 => exact (Kd.a_w a_Q.out).2.1);rintro e w26 ⟨v179,rfl,ho0,hb⟩;refine ⟨_,rfl,?_⟩;have d_J:=a_a.mk (Kd.a_3 ho0 (a_g (by repeat (first|(with_reducible first|exact HB.out|apply a_d|apply a_b|apply a_e|refine a_c ?_ c_r.out|refine a_c ?_ c_Y.out)|exact HB.out))));replace a_Q:=a_a.mk (Kd.a_A (rup_ a_Q.out) hb);replace b_D:=a_a.mk (a_l (bup_ b_D.out) hb);replace b_T:=a_a.mk (a_l (bup_ b_T.out) hb);replace HB:=a_a.mk (a_i (by repeat (first|(with_reducible first|exact HB.out|apply a_d|apply a_b|apply a_e|refine a_c ?_ c_r.out|refine a_c ?_ c_Y.out)|exact HB.out)) hb);(try clear hb);(try clear hb2);(try clear hk);(try clear hi);(try clear ho0);obtain ⟨Ao27,co27,eo27⟩:=Kd.a_7 d_J.out;subst eo27)|(go_at_call 15;(with_reducible refine (bytes_Equal.calls _ _ t178 _ _ l0 true _ ?side1 ?side2 ?side3 ?side4 A21.out).mono ?_);(case side1 => repeat (first|exact (Kd.a_w d_J.out).2.2|(with_reducible refine Kd.a_F ?_ _)|(with_reducible refine Kd.a_G ?_ _)|(with_reducible refine Kd.a_W ?_)));(case side2 => exact (Kd.a_w d_J.out).2.1);(case side3 => repeat (first|exact (Kd.a_K HR0.out HB.out)|(with_reducible refine Kd.a_F ?_ _)|(with_reducible refine Kd.a_G ?_ _)|(with_reducible refine Kd.a_W ?_)));(case side4 => exact HC0.out);rintro e w' ⟨rfl,⟨nd,rfl⟩⟩;(try (rw [e_t w26];generalize hq_ : World.drewN w26 _ = w26;replace d_J : a_a (Kd.R (Kd.int .u8) 5 w26 w.heap.size (fun _ => True) (.slice Ao27 t178.length co27) t178):=⟨by rw [← hq_];exact (rup_ d_J.out)⟩;replace a_Q : a_a (Kd.R k56 56 w26 w.heap.size (fun _ => True) (.slice Ao25 x173000_2.length co25) x173000_2):=⟨by rw [← hq_];exact (rup_ a_Q.out)⟩;replace b_D : a_a (w26.heap[c_D]? = some (.cells #[.slice none 0 0] 24 (0,0))):=⟨by rw [← hq_];exact (bup_ b_D.out)⟩;replace b_T : a_a (w26.heap[c_4]? = some (.cells #[.slice Ao25 x173000_2.length co25] 24 (0,0))):=⟨by rw [← hq_];exact (bup_ b_T.out)⟩;replace HB : a_a (Below w.heap.size w w26):=⟨by rw [← hq_];exact (by repeat (first|(with_reducible first|exact HB.out|apply a_d|apply a_b|apply a_e|refine a_c ?_ c_r.out|refine a_c ?_ c_Y.out)|exact HB.out))⟩;clear hq_));have f_E : w26.cell? ⟨c_4,0,none⟩ = some (.slice Ao25 x173000_2.length co25):=(a_n b_T.out 0).trans rfl;have f_F:=a_k b_T.out 0;have j_4 : w26.cell? ⟨c_D,0,none⟩ = some (.slice none 0 0):=(a_n b_D.out 0).trans rfl;have k_C:=a_k b_D.out 0))
       refine bodyPost_ret (c_m rfl _ _ c_D 24 #[.slice Ao25 x173000_2.length co25] (0,0) _ rfl (by (with_reducible repeat (first|refine a_j ?_ _|refine a_m ?_|refine a_h ?_ _));refine a_5 (cs:=#[.slice none 0 0]) ?_ 0 _ rfl;(with_reducible repeat (first|refine a_j ?_ _|refine a_m ?_|refine a_h ?_ _));exact b_D.out) Tryd.underlying24 rfl (by kernel_rfl)) rfl ?_
       exact ⟨_,by first|rfl|(simp [a_p,a_q] <;> rfl)|(simp [*, a_p,a_q] <;> rfl),by (with_reducible repeat (first|apply Kd.a_H|apply Kd.a_I|apply Kd.a_O));exact Kd.a_R (Kd.b_u (p:=⟨c_D,0,none⟩) (Kd.a_S a_Q.out b_D.out (by decide)) (fun _ hk => hk.2) (.slice Ao25 x173000_2.length co25)) (fun _ hk => trivial),by repeat (first|(with_reducible first|exact HB.out|apply a_d|apply a_b|apply a_e|refine a_c ?_ c_r.out|refine a_c ?_ c_Y.out)|exact HB.out)⟩
      replace c22:=Bool.eq_false_iff.mpr c22
      subst c22
      have H1 : (some (([] : List (S56)),160)) = some (r1,r2):=by rw [if_neg (show ¬ (false = true) by decide)] at H;exact H
      clear H
      have H:=H1
      clear H1
      simp only [Option.some.injEq,Prod.mk.injEq] at H
      obtain ⟨rfl,rfl⟩:=H
      have k_3:=c_8.out
      have k_9:=c_G.out
      have e_O : wr.cell? ⟨c_4,0,none⟩ = some (u173000):=(a_n b_T.out 0).trans rfl
      have e_Q:=a_k b_T.out 0
      obtain ⟨Ao32,co32,eo32⟩:=Kd.a_7 a_Q.out
      subst eo32
      go_wp2_with (first|((with_reducible refine a_u (f:=12) rfl ?_);refine a_U (some 48) rfl rfl Tryd.func12 (by kernel_rfl) rfl #[.agg #[.slice Ao32 x173000_2.length co32]] rfl (by (try simp only [List.map_toArray,List.map_cons,List.map_nil]);first|done|rfl|(simp only [List.length_drop,List.length_take];rfl)) ?_;(with_reducible refine (a_s.calls k2 _ _ x173000_2 t178 t181 _ ?side1 ?side2 A19.out).mono ?_);(case side1 => repeat (first|exact (Kd.a_w a_Q.out).2.2|(with_reducible refine Kd.a_F ?_ _)|(with_reducible refine Kd.a_G ?_ _)|(with_reducible refine Kd.a_W ?_)));(case side2 => exact (Kd.a_w a_Q.out).2.1);rintro e w33 ⟨v179,rfl,ho0,hb⟩;refine ⟨_,rfl,?_⟩;have d_J:=a_a.mk (Kd.a_3 ho0 (a_g (by repeat (first|(with_reducible first|exact HB.out|apply a_d|apply a_b|apply a_e|refine a_c ?_ c_r.out|refine a_c ?_ c_Y.out)|exact HB.out))));replace a_Q:=a_a.mk (Kd.a_A (rup_ a_Q.out) hb);replace b_D:=a_a.mk (a_l (bup_ b_D.out) hb);replace b_T:=a_a.mk (a_l (bup_ b_T.out) hb);replace HB:=a_a.mk (a_i (by repeat (first|(with_reducible first|exact HB.out|apply a_d|apply a_b|apply a_e|refine a_c ?_ c_r.out|refine a_c ?_ c_Y.out)|exact HB.out)) hb);(try clear hb);(try clear hb2);(try clear hk);(try clear hi);(try clear ho0);obtain ⟨Ao34,co34,eo34⟩:=Kd.a_7 d_J.out;subst eo34)|(go_at_call 15;(with_reducible refine (bytes_Equal.calls _ _ t178 _ _ l0 false _ ?side1 ?side2 ?side3 ?side4 A21.out).mono ?_);(case side1 => repeat (first|exact (Kd.a_w d_J.out).2.2|(with_reducible refine Kd.a_F ?_ _)|(with_reducible refine Kd.a_G ?_ _)|(with_reducible refine Kd.a_W ?_)));(case side2 => exact (Kd.a_w d_J.out).2.1);(case side3 => repeat (first|exact (Kd.a_K HR0.out HB.out)|(with_reducible refine Kd.a_F ?_ _)|(with_reducible refine Kd.a_G ?_ _)|(with_reducible refine Kd.a_W ?_)));(case side4 => exact HC0.out);rintro e w' ⟨rfl,⟨nd,rfl⟩⟩;(try (rw [e_t w33];generalize hq_ : World.drewN w33 _ = w33;replace d_J : a_a (Kd.R (Kd.int .u8) 5 w33 w.heap.size (fun _ => True) (.slice Ao34 t178.length co34) t178):=⟨by rw [← hq_];exact (rup_ d_J.out)⟩;replace a_Q : a_a (Kd.R k56 56 w33 w.heap.size (fun _ => True) (.slice Ao32 x173000_2.length co32) x173000_2):=⟨by rw [← hq_];exact (rup_ a_Q.out)⟩;replace b_D : a_a (w33.heap[c_D]? = some (.cells #[.slice none 0 0] 24 (0,0))):=⟨by rw [← hq_];exact (bup_ b_D.out)⟩;replace b_T : a_a (w33.heap[c_4]? = some (.cells #[.slice Ao32 x173000_2.length co32] 24 (0,0))):=⟨by rw [← hq_];exact (bup_ b_T.out)⟩;replace HB : a_a (Below w.heap.size w w33):=⟨by rw [← hq_];exact (by repeat (first|(with_reducible first|exact HB.out|apply a_d|apply a_b|apply a_e|refine a_c ?_ c_r.out|refine a_c ?_ c_Y.out)|exact HB.out))⟩;clear hq_));have g_M : w33.cell? ⟨c_D,0,none⟩ = some (.slice none 0 0):=(a_n b_D.out 0).trans rfl;have g_Q:=a_k b_D.out 0))
      refine bodyPost_ret (c_m rfl _ _ c_D 24 #[.slice none 0 0] (0,0) _ rfl (by (with_reducible repeat (first|refine a_j ?_ _|refine a_m ?_|refine a_h ?_ _));refine a_5 (cs:=#[.slice none 0 0]) ?_ 0 _ rfl;(with_reducible repeat (first|refine a_j ?_ _|refine a_m ?_|refine a_h ?_ _));exact b_D.out) Tryd.underlying24 rfl (by kernel_rfl)) rfl ?_
      exact ⟨_,by first|rfl|(simp [a_p,a_q] <;> rfl)|(simp [*, a_p,a_q] <;> rfl),by first|exact Kd.d_p _ _ _ _ _|exact Kd.f_v _ _ _ _ _|exact Kd.f_y _ _ _ _ _|exact Kd.f_w _ _ _ _ _|exact Kd.f_x _ _ _ _ _,by repeat (first|(with_reducible first|exact HB.out|apply a_d|apply a_b|apply a_e|refine a_c ?_ c_r.out|refine a_c ?_ c_Y.out)|exact HB.out)⟩
     rw [if_pos c9] at H
     have c9b0 : decide ((wrap64 (x5_2 + 1)) < (l0.length : Int)) = true:=decide_eq_true c9
     clear c9
     by_cases c10 : 0 ≤ x5_2
     rotate_left
     ·rw [if_neg c10] at H
      exact absurd H (by simp)
     rw [if_pos c10] at H
     have c10b0 : decide (0 ≤ x5_2) = true:=decide_eq_true c10
     clear c10
     by_cases c11 : x5_2 < (l0.length : Int)
     rotate_left
     ·rw [if_neg c11] at H
      exact absurd H (by simp)
     rw [if_pos c11] at H
     have c11b0 : decide (x5_2 < (l0.length : Int)) = true:=decide_eq_true c11
     clear c11
     obtain ⟨ji12,hji12⟩ : ∃ j_ : Int,(wrap64 (x5_2 + 1)) = j_:=⟨_,rfl⟩
     replace H : (if 0 ≤ (ji12) then (if x173000_2.length < 8796093022208 then (a_o.l0 k2 l0 (wrap64 (x5_2 + 2)) (x173000_2 ++ [(⟨wrap64 (rd l0 x5_2),wrap64 (rd l0 (ji12))⟩ : S56)])) else (none)) else (none)) = some (r1,r2):=by first|(rw [hji12] at H;exact H)|(simp only [hji12] at H ⊢; exact H)
     (try rw [hji12] at c9b0)
     have hji12w : (IntKind.i64.wrap (x5_2 + 1)) = ji12:=(b_7 _).trans hji12
     by_cases c13 : 0 ≤ (ji12)
     rotate_left
     ·rw [if_neg c13] at H
      exact absurd H (by simp)
     rw [if_pos c13] at H
     have c13b0 : decide (0 ≤ (ji12)) = true:=decide_eq_true c13
     clear c13
     by_cases c14 : x173000_2.length < 8796093022208
     rotate_left
     ·rw [if_neg c14] at H
      exact absurd H (by simp)
     rw [if_pos c14] at H
     have LMc14:=a_a.mk c14
     clear c14
     obtain ⟨y175,hy175⟩ : ∃ y_ : List (S56),y_ = (x173000_2 ++ [(⟨wrap64 (rd l0 x5_2),wrap64 (rd l0 (ji12))⟩ : S56)]):=⟨_,rfl⟩
     replace H : (a_o.l0 k2 l0 (wrap64 (x5_2 + 2)) y175) = some (r1,r2):=by first|(rw [hy175];with_reducible exact H)|(have H2_:=(Option.bind_some _ _).symm.trans H;rw [hy175];with_reducible exact H2_)|(have H2_:=(Option.bind_some _ _).symm.trans H;with_reducible exact H2_)|with_reducible exact H|(rw [hy175];exact H)|exact H
     have Ny175:=a_a.mk hy175
     clear hy175
     have H':=a_a.mk H
     clear H
     try go_wp2
     replace a_Q:=a_a.mk (Kd.a_O a_Q.out)
     replace b_D:=a_a.mk (a_m b_D.out)
     replace b_T:=a_a.mk (a_m b_T.out)
     replace HB:=a_a.mk (a_e HB.out)
     have p173 : 0 ≤ (x5_2 : Int):=of_decide_eq_true (by first|(with_reducible assumption)|assumption)
     have q173 : x5_2 < (l0.length : Int):=of_decide_eq_true (by first|(with_reducible assumption)|assumption)
     obtain ⟨ad173,e173,d_7⟩:=Kd.d_0 HR0.out x5_2 p173 q173
     have c_K:=d_7
     cases e173
     replace d_7:=(HB.out.cell (World.block_lt_of_cell? w _ d_7)).trans d_7
     replace p173:=eq_true p173
     replace q173:=eq_true q173
     have p174 : 0 ≤ ((ji12) : Int):=of_decide_eq_true (by first|(with_reducible assumption)|assumption)
     have q174 : (ji12) < (l0.length : Int):=of_decide_eq_true (by first|(with_reducible assumption)|assumption)
     obtain ⟨ad174,e174,d_8⟩:=Kd.d_0 HR0.out (ji12) p174 q174
     have c_L:=d_8
     obtain rfl : ad173 = ad174:=(by injection e174)
     replace d_8:=(HB.out.cell (World.block_lt_of_cell? w _ d_8)).trans d_8
     replace p174:=eq_true p174
     replace q174:=eq_true q174
     refine g_3 (n:=18) (S:=fun w' => w'.cell? ⟨c_4,0,none⟩ = some (u173000) ∧ w'.cell? (ad173.add (x5_2).toNat) = some (.int .u8 (rd l0 x5_2)) ∧ w'.cell? (ad173.add ((ji12)).toNat) = some (.int .u8 (rd l0 (ji12)))) (ds:=[17]) #[F_,F_,F_,F_,F_,F_,F_,F_,F_,F_,F_,F_,F_,F_,F_,F_,F_,F_] (by kernel_rfl) rfl rfl ⟨(a_n b_T.out 0).trans rfl,((HB.out.cell (World.block_lt_of_cell? w _ c_K)).trans c_K),((HB.out.cell (World.block_lt_of_cell? w _ c_L)).trans c_L)⟩ (fun hHeld => ?_);refine e_g a_o.tab7 a_o.i_f (fun HT_ HW_ => ?_)
     generalize wr.drew = w15 at a_Q b_D b_T HB d_7 d_8 hHeld ⊢
     refine pt_ 0 (some 29) #[T_,F_,F_,F_,F_,F_,F_,F_,F_,F_,F_,F_,F_,F_,F_,F_,F_,F_] HT_ ?_
     refine pt_ 2 (some 31) #[T_,F_,T_,F_,F_,F_,F_,F_,F_,F_,F_,F_,F_,F_,F_,F_,F_,F_] HT_ ?_
     refine pt_ 3 (some 32) #[T_,F_,T_,T_,F_,F_,F_,F_,F_,F_,F_,F_,F_,F_,F_,F_,F_,F_] HT_ ?_
     refine pt_ 4 (some 33) #[T_,F_,T_,T_,T_,F_,F_,F_,F_,F_,F_,F_,F_,F_,F_,F_,F_,F_] HT_ ?_
     refine pt_ 7 (some 36) #[T_,F_,T_,T_,T_,F_,F_,T_,F_,F_,F_,F_,F_,F_,F_,F_,F_,F_] HT_ ?_
     refine pt_ 8 (some 37) #[T_,F_,T_,T_,T_,F_,F_,T_,T_,F_,F_,F_,F_,F_,F_,F_,F_,F_] HT_ ?_
     refine pt_ 9 (some 38) #[T_,F_,T_,T_,T_,F_,F_,T_,T_,T_,F_,F_,F_,F_,F_,F_,F_,F_] HT_ ?_
     refine pt_ 10 (some 39) #[T_,F_,T_,T_,T_,F_,F_,T_,T_,T_,T_,F_,F_,F_,F_,F_,F_,F_] HT_ ?_
     refine e_n (i:=1) (N:=some 30) (v:=?_) (a':=?_) #[T_,T_,T_,T_,T_,F_,F_,T_,T_,T_,T_,F_,F_,F_,F_,F_,F_,F_] rfl rfl (c_q HT_.out HW_.out (by kernel_rfl)) (fun _ _ _ h => h) (Or.inl ⟨by rfl,?_⟩) hHeld ?_ ?_
     rotate_left
     ·rintro w' ⟨s0,s1,s2⟩
      go_simp
      with_reducible rfl
     rotate_left
     ·simp only [Act.put,sa_,sb_,sc_,b_7,b_8]
      rfl
     refine e_n (i:=5) (N:=some 34) (v:=?_) (a':=?_) #[T_,T_,T_,T_,T_,T_,F_,T_,T_,T_,T_,F_,F_,F_,F_,F_,F_,F_] rfl rfl (c_q HT_.out HW_.out (by kernel_rfl)) (fun _ _ _ h => h) (Or.inl ⟨by rfl,?_⟩) hHeld ?_ ?_
     rotate_left
     ·rintro w' ⟨s0,s1,s2⟩
      go_simp
      with_reducible rfl
     rotate_left
     ·simp only [Act.put,sa_,sb_,sc_,b_7,b_8]
      rfl
     refine pt_ 6 (some 35) #[T_,T_,T_,T_,T_,T_,T_,T_,T_,T_,T_,F_,F_,F_,F_,F_,F_,F_] HT_ ?_
     refine e_n (i:=11) (N:=some 40) (v:=?_) (a':=?_) #[T_,T_,T_,T_,T_,T_,T_,T_,T_,T_,T_,T_,F_,F_,F_,F_,F_,F_] rfl rfl (c_q HT_.out HW_.out (by kernel_rfl)) (fun _ _ _ h => h) (Or.inl ⟨by rfl,?_⟩) hHeld ?_ ?_
     rotate_left
     ·rintro w' ⟨s0,s1,s2⟩
      go_simp
      with_reducible rfl
     rotate_left
     ·simp only [Act.put,sa_,sb_,sc_,b_7,b_8]
      rfl
     refine pt_ 12 (some 41) #[T_,T_,T_,T_,T_,T_,T_,T_,T_,T_,T_,T_,T_,F_,F_,F_,F_,F_] HT_ ?_
     refine pt_ 13 (some 42) #[T_,T_,T_,T_,T_,T_,T_,T_,T_,T_,T_,T_,T_,T_,F_,F_,F_,F_] HT_ ?_
     refine one_ (i:=14) (N:=some 43) #[T_,T_,T_,T_,T_,T_,T_,T_,T_,T_,T_,T_,T_,T_,T_,F_,F_,F_] rfl rfl (c_T HT_.out (by kernel_rfl)) (by decide) (fun K hK => ?_)
     refine h_N (w1:=?_) (v:=?_) (by rfl) rfl ?_ ?_
     rotate_left 2
     ·go_simp
      constructor
      ·rfl
      rfl
     refine hK.out _ _ ⟨(a_n (a_h b_T.out _) 0).trans rfl,(World.cell?_alloc_lt _ _ _ (World.block_lt_of_cell? _ _ (((HB.out.cell (World.block_lt_of_cell? w _ c_K)).trans c_K)))).trans (((HB.out.cell (World.block_lt_of_cell? w _ c_K)).trans c_K)),(World.cell?_alloc_lt _ _ _ (World.block_lt_of_cell? _ _ (((HB.out.cell (World.block_lt_of_cell? w _ c_L)).trans c_L)))).trans (((HB.out.cell (World.block_lt_of_cell? w _ c_L)).trans c_L))⟩ (fun hHeld => ?_)
     clear hK K
     refine e_a (a':=?_) ?_ ?_
     rotate_left
     ·show Act.put _ (some 43) _ = _
      simp only [Act.put,sa_,sb_,sc_,b_7,b_8]
      rfl
     refine one_ (i:=15) (N:=some 44) #[T_,T_,T_,T_,T_,T_,T_,T_,T_,T_,T_,T_,T_,T_,T_,T_,F_,F_] rfl rfl (c_T HT_.out (by kernel_rfl)) (by decide) (fun K hK => ?_)
     refine Kd.d_f k56 (w0:=w) w.heap.size (by rfl) (.tmp 30) (.tmp 43) 22 56 (.agg #[(.int .i64 0),(.int .i64 0)]) 16 rfl Tryd.underlying22 f_U rfl (by decide) (by omega) u173000 x173000_2 (⟨wrap64 (rd l0 x5_2),wrap64 (rd l0 (ji12))⟩ : S56) [.int .i64 (wrap64 (rd l0 x5_2)),.int .i64 (wrap64 (rd l0 (ji12)))] (fun _ => True) (fun _ => False) rfl rfl ?aP (fun _ hk => hk.elim) ?aF ?aO ?aB ?aS ?aL ?_
     (case aP => exact g_S _ _ _ (⟨wrap64 (rd l0 x5_2),wrap64 (rd l0 (ji12))⟩ : S56))
     (case aB => exact (by repeat (first|(with_reducible first|exact HB.out|apply a_d|apply a_b|apply a_e|refine a_c ?_ c_r.out|refine a_c ?_ c_Y.out)|exact HB.out)))
     (case aF => exact (fun _ _ => trivial))
     (case aO => exact (rup_ a_Q.out))
     (case aS => exact (a_g (by repeat (first|(with_reducible first|exact HB.out|apply a_d|apply a_b|apply a_e|refine a_c ?_ c_r.out|refine a_c ?_ c_Y.out)|exact HB.out))))
     (case aL => have:=LMc14.out;omega)
     intro v176 w16 ho hb hg hat
     rw [← Ny175.out] at ho
     have i_8:=a_a.mk (ho)
     replace b_D:=a_a.mk (c_f (g:=c_D) (o:=.cells #[.slice none 0 0] 24 (0,0)) (bup_ b_D.out) hg (Kd.R_ne a_Q.out b_D.out (by decide)))
     replace b_T:=a_a.mk (c_f (g:=c_4) (o:=.cells #[u173000] 24 (0,0)) (bup_ b_T.out) hg (Kd.R_ne a_Q.out b_T.out (by decide)))
     replace HB:=a_a.mk (hb)
     clear a_Q ho hb hg hat
     obtain ⟨Ao17,co17,eo17⟩:=Kd.a_7 i_8.out
     (first|subst eo17|(injection eo17 with f1_ f2_ f3_;have f4_:=f1_.symm;have f5_:=f3_.symm;clear f1_ f2_ f3_;subst f4_;subst f5_))
     refine hK.out _ _ ⟨(a_n b_T.out 0).trans rfl,((HB.out.cell (World.block_lt_of_cell? w _ c_K)).trans c_K),((HB.out.cell (World.block_lt_of_cell? w _ c_L)).trans c_L)⟩ (fun hHeld => ?_)
     clear hK K
     refine e_a (a':=?_) ?_ ?_
     rotate_left
     ·show Act.put _ (some 44) _ = _
      simp only [Act.put,sa_,sb_,sc_,b_7,b_8]
      rfl
     refine pt_ 16 (some 45) #[T_,T_,T_,T_,T_,T_,T_,T_,T_,T_,T_,T_,T_,T_,T_,T_,T_,F_] HT_ ?_
     refine j_r (i:=17) (N:=none) #[T_,T_,T_,T_,T_,T_,T_,T_,T_,T_,T_,T_,T_,T_,T_,T_,T_,T_] rfl rfl (c_T HT_.out (by kernel_rfl)) (by decide) (fun K hK => ?_)
     have hs18 : w16.cell? ⟨c_4,0,none⟩ = some (u173000):=(a_n b_T.out 0).trans rfl
     have hfs18:=a_k b_T.out 0
     have hns18_0:=c_G.out
     have hms18_0:=c_8.out
     refine h_y (w1:=?_) (by rfl) rfl ?_ ?_
     rotate_left
     ·go_simp
      rfl
     refine hK.out _ _ ?_
     clear hK K
     refine i_j (f_B HT_.out (by kernel_rfl)) ?_
     try go_wp2
     go_roundg k2
     case measure => have:=HJ1.out;have:=HK2.out;omega
     case rel => exact ⟨(wrap64 (x5_2 + 2)),(y175),(.slice Ao17 y175.length co17),(by first|rfl|(simp;done)|(simp [*];done)),H',⟨by have:=HJ1.out;have:=HK2.out;omega⟩,⟨by (with_reducible repeat (first|apply Kd.a_H|apply Kd.a_I|apply Kd.a_O));exact Kd.a_R (Kd.b_u (p:=⟨c_4,0,none⟩) (Kd.a_S i_8.out b_T.out (by decide)) (fun _ hk => hk.2) (.slice Ao17 y175.length co17)) (fun _ hk => trivial)⟩,⟨by (with_reducible repeat (first|refine a_j ?_ _|refine a_m ?_|refine a_h ?_ _));refine a_8 ?_ c_G.out _;(with_reducible repeat (first|refine a_j ?_ _|refine a_m ?_|refine a_h ?_ _));exact b_D.out⟩,⟨by (with_reducible repeat (first|refine a_j ?_ _|refine a_m ?_|refine a_h ?_ _));refine a_5 (cs:=#[u173000]) ?_ 0 _ rfl;(with_reducible repeat (first|refine a_j ?_ _|refine a_m ?_|refine a_h ?_ _));exact b_T.out⟩,⟨by repeat (first|(with_reducible first|exact HB.out|apply a_d|apply a_b|apply a_e|refine a_c ?_ c_r.out|refine a_c ?_ c_Y.out)|exact HB.out)⟩⟩
end Go.Proofs.YtcpfcehfgenljaaDoor.Q
end
section
namespace Go.Proofs.YtcpfcehfgenljaaDoor.Q
open Go.RowKit Go.Proofs.YtcpfcehfgenljaaDoorW.PrintWords Go.Proofs.YtcpfcehfgenljaaDoorW.PrintLast Go.Proofs.YtcpfcehfgenljaaDoorW.PrintMore
set_option linter.unusedVariables false
set_option linter.unusedSimpArgs false
attribute [local go_sem high] j_d
def a_E.l0 : Nat → List (S56) → List (S56) → Int → Int → Option (Bool)
 | 0,_,_,_,_ => none
 | k + 1,x0,x1,x12,x13 => if x13 < x12 then (if 0 ≤ x13 then (if x13 < (x0.length : Int) then (if x13 < (x1.length : Int) then (if (!(((a_t x0 x13).f0) == ((a_t x1 x13).f0)) || (!(((a_t x0 x13).f1) == ((a_t x1 x13).f1)))) = true then (some false) else (a_E.l0 k x0 x1 x12 (wrap64 (x13 + 1)))) else (none)) else (none)) else (none)) else (some true)
def a_E.f (k : Nat) (l0 : List (S56)) (l1 : List (S56)) : Option (Bool):=if (l0.length : Int) = (l1.length : Int) then (a_E.l0 k l0 l1 (l0.length : Int) 0) else (some false)
theorem a_E.b_Y : ∀ k,(∀ y0 y1 y2 y3,LeO (a_E.l0 k y0 y1 y2 y3) (a_E.l0 (k + 1) y0 y1 y2 y3))
 | 0 => fun _ _ _ _ r h => by simp [a_E.l0] at h
 | k + 1 => by
  have ih0:=a_E.b_Y k
  ·intro y0 y1 y2 y3
   unfold a_E.l0
   repeat' first
   | (with_reducible exact ih0 _ _ _ _)
   | (with_reducible exact LeO.refl _)
   | (with_reducible exact LeO.none _)
   | (with_reducible refine LeO.ite ?_ ?_)
   | (with_reducible refine LeO.bind ?_ (fun _ => ?_))
   | exact ih0 _ _ _ _
   | exact LeO.none _
   | refine LeO.ite ?_ ?_
   | refine LeO.bind ?_ (fun _ => ?_)
theorem a_E.mono : ∀ a0 a1 k,LeO (a_E.f k a0 a1) (a_E.f (k + 1) a0 a1):=by
 intro a0 a1 k
 have ih0:=a_E.b_Y k
 unfold a_E.f
 repeat' first
  | (with_reducible exact ih0 _ _ _ _)
  | (with_reducible exact LeO.refl _)
  | (with_reducible exact LeO.none _)
  | (with_reducible refine LeO.ite ?_ ?_)
  | (with_reducible refine LeO.bind ?_ (fun _ => ?_))
  | exact ih0 _ _ _ _
  | exact LeO.none _
  | refine LeO.ite ?_ ?_
  | refine LeO.bind ?_ (fun _ => ?_)
set_option maxHeartbeats 8000000 in
set_option maxRecDepth 100000 in
theorem a_E.calls (k : Nat) (A0 : Option Addr) (c0 : Nat) (l0 : List (S56)) (A1 : Option Addr) (c1 : Nat) (l1 : List (S56)) (r : Bool) (w : World) (hr0 : Kd.C k56 w A0 l0.length l0) (hc0 : l0.length ≤ c0) (hr1 : Kd.C k56 w A1 l1.length l1) (hc1 : l1.length ≤ c1) (h : a_E.f k l0 l1 = some r) :
 Calls Tryd.prog 38 #[.slice A0 l0.length c0,.slice A1 l1.length c1] w fun e w' => e = .returned (.bool r) ∧ a_1 w w':=by
 have hu56:=Tryd.underlying56
 have HR0:=a_a.mk hr0
 have HC0:=a_a.mk hc0
 clear hr0 hc0
 have HR1:=a_a.mk hr1
 have HC1:=a_a.mk hc1
 clear hr1 hc1
 have H : (if (l0.length : Int) = (l1.length : Int) then (a_E.l0 k l0 l1 (l0.length : Int) 0) else (some false)) = some r:=h
 clear h
 by_cases c3 : (l0.length : Int) = (l1.length : Int)
 rotate_left
 ·rw [if_neg c3] at H
  have c3b0 : ((l0.length : Int) == (l1.length : Int)) = false:=beq_eq_false_iff_ne.mpr c3
  have c3b1 : ((l0.length : Int) != (l1.length : Int)) = true:=bne_iff_ne.mpr c3
  have c3b2 : (l0.length == l1.length) = false:=by first|simpa using c3|(simp at c3 ⊢; omega)
  obtain rfl:=Option.some.inj H
  go_enter Tryd.func38,Tryd.ntmps38
  go_wp2
  repeat (go_quiet (fail);try go_wp2)
  go_ret
  exact ⟨by first|rfl|(simp;done)|(simp [*];done),by repeat (first|exact a_1.refl _|apply a_1.step)⟩
 rw [if_pos c3] at H
 have c3b0 : ((l0.length : Int) == (l1.length : Int)) = true:=beq_iff_eq.mpr c3
 have c3b1 : ((l0.length : Int) != (l1.length : Int)) = false:=bne_eq_false_iff_eq.mpr c3
 have c3b2 : (l0.length == l1.length) = true:=by first|simpa using c3|(simp at c3 ⊢; omega)
 clear c3
 have H':=a_a.mk H
 clear H
 go_enter Tryd.func38,Tryd.ntmps38
 go_wp2
 repeat (go_quiet (fail);try go_wp2)
 go_loopg [13] k (fun kq v13 w' => ∃ (x13_1 : Int),v13 = .int .i64 x13_1 ∧ a_a (a_E.l0 kq l0 l1 (l0.length : Int) x13_1 = some r) ∧ a_a (kq ≤ k) ∧ a_1 w w')
 case atStart => exact ⟨(0),(by first|rfl|(simp;done)|(simp [*];done)),H',⟨Nat.le_refl _⟩,by repeat (first|exact a_1.refl _|apply a_1.step)⟩
 case round =>
  clear H'
  try clear c1
  try clear p2
  try clear c3
  try clear c3b0
  try clear c3b1
  try clear c3b2
  obtain ⟨x13_1,rfl,HA,HK1,⟨m1,rfl⟩⟩:=hrel
  cases gk with
  | zero => exact absurd HA.out (by simp [a_E.l0])
  | succ k1 =>
   have H:=HA.out
   clear HA
   simp only [a_E.l0] at H
   by_cases c4 : x13_1 < (l0.length : Int)
   rotate_left
   ·rw [if_neg c4] at H
    have c4b0 : decide (x13_1 < (l0.length : Int)) = false:=decide_eq_false c4
    clear c4
    obtain rfl:=Option.some.inj H
    go_wp2
    repeat (go_quiet (fail);try go_wp2)
    go_ret
    exact ⟨by first|rfl|(simp;done)|(simp [*];done),by repeat (first|exact a_1.refl _|apply a_1.step)⟩
   rw [if_pos c4] at H
   have c4b0 : decide (x13_1 < (l0.length : Int)) = true:=decide_eq_true c4
   clear c4
   by_cases c5 : 0 ≤ x13_1
   rotate_left
   ·rw [if_neg c5] at H
    exact absurd H (by simp)
   rw [if_pos c5] at H
   have c5b0 : decide (0 ≤ x13_1) = true:=decide_eq_true c5
   clear c5
   by_cases c6 : x13_1 < (l0.length : Int)
   rotate_left
   ·rw [if_neg c6] at H
    exact absurd H (by simp)
   rw [if_pos c6] at H
   have c6b0 : decide (x13_1 < (l0.length : Int)) = true:=decide_eq_true c6
   clear c6
   by_cases c7 : x13_1 < (l1.length : Int)
   rotate_left
   ·rw [if_neg c7] at H
    exact absurd H (by simp)
   rw [if_pos c7] at H
   have c7b0 : decide (x13_1 < (l1.length : Int)) = true:=decide_eq_true c7
   clear c7
   by_cases c8 : (!(((a_t l0 x13_1).f0) == ((a_t l1 x13_1).f0)) || (!(((a_t l0 x13_1).f1) == ((a_t l1 x13_1).f1)))) = true
   ·rw [if_pos c8] at H
    have c8b0 : (!(((a_t l0 x13_1).f0) == ((a_t l1 x13_1).f0)) || (!(((a_t l0 x13_1).f1) == ((a_t l1 x13_1).f1)))) = true:=c8
    clear c8
    obtain rfl:=Option.some.inj H
    have p183 : 0 ≤ (x13_1 : Int):=of_decide_eq_true (by first|(with_reducible assumption)|assumption)
    have q183 : x13_1 < (l0.length : Int):=of_decide_eq_true (by first|(with_reducible assumption)|assumption)
    obtain ⟨ad183,e183,i_N,i_O⟩:=d_g HR0.out x13_1 p183 q183
    cases e183
    replace p183:=eq_true p183
    replace q183:=eq_true q183
    have p184 : 0 ≤ (x13_1 : Int):=of_decide_eq_true (by first|(with_reducible assumption)|assumption)
    have q184 : x13_1 < (l1.length : Int):=of_decide_eq_true (by first|(with_reducible assumption)|assumption)
    obtain ⟨ad184,e184,i_P,i_Q⟩:=d_g HR1.out x13_1 p184 q184
    cases e184
    replace p184:=eq_true p184
    replace q184:=eq_true q184
    go_wp2
    repeat (go_quiet (fail);try go_wp2)
    go_ret
    exact ⟨by first|rfl|(simp;done)|(simp [*];done),by repeat (first|exact a_1.refl _|apply a_1.step)⟩
   rw [if_neg c8] at H
   have c8b0 : (!(((a_t l0 x13_1).f0) == ((a_t l1 x13_1).f0)) || (!(((a_t l0 x13_1).f1) == ((a_t l1 x13_1).f1)))) = false:=by simpa using c8
   clear c8
   have H':=a_a.mk H
   clear H
   have p183 : 0 ≤ (x13_1 : Int):=of_decide_eq_true (by first|(with_reducible assumption)|assumption)
   have q183 : x13_1 < (l0.length : Int):=of_decide_eq_true (by first|(with_reducible assumption)|assumption)
   obtain ⟨ad183,e183,i_N,i_O⟩:=d_g HR0.out x13_1 p183 q183
   cases e183
   replace p183:=eq_true p183
   replace q183:=eq_true q183
   have p184 : 0 ≤ (x13_1 : Int):=of_decide_eq_true (by first|(with_reducible assumption)|assumption)
   have q184 : x13_1 < (l1.length : Int):=of_decide_eq_true (by first|(with_reducible assumption)|assumption)
   obtain ⟨ad184,e184,i_P,i_Q⟩:=d_g HR1.out x13_1 p184 q184
   cases e184
   replace p184:=eq_true p184
   replace q184:=eq_true q184
   go_wp2
   repeat (go_quiet (fail);try go_wp2)
   go_roundg k1
   case measure => have:=HK1.out;omega
   case rel => exact ⟨(wrap64 (x13_1 + 1)),(by first|rfl|(simp;done)|(simp [*];done)),H',⟨by have:=HK1.out;omega⟩,by repeat (first|exact a_1.refl _|apply a_1.step)⟩
end Go.Proofs.YtcpfcehfgenljaaDoor.Q
end
section
namespace Go.Proofs.YtcpfcehfgenljaaDoor.Q
open Go.RowKit Go.Proofs.YtcpfcehfgenljaaDoorW.PrintWords Go.Proofs.YtcpfcehfgenljaaDoorW.PrintLast Go.Proofs.YtcpfcehfgenljaaDoorW.PrintMore
set_option linter.unusedVariables false
set_option linter.unusedSimpArgs false
def a_X.f (k : Nat) (l0_0 : List (S56)) (l1_0 : List (S56)) : Option (Bool):=(a_E.f k l0_0 l1_0).bind fun t187 => (some t187)
theorem a_X.mono : ∀ a0 a1 k,LeO (a_X.f k a0 a1) (a_X.f (k + 1) a0 a1):=by
 intro a0 a1 k
 unfold a_X.f
 repeat' first
  | (with_reducible exact a_E.mono _ _ _)
  | (with_reducible exact LeO.refl _)
  | (with_reducible exact LeO.none _)
  | (with_reducible refine LeO.ite ?_ ?_)
  | (with_reducible refine LeO.bind ?_ (fun _ => ?_))
  | exact a_E.mono _ _ _
  | exact LeO.none _
  | refine LeO.ite ?_ ?_
  | refine LeO.bind ?_ (fun _ => ?_)
set_option maxHeartbeats 8000000 in
set_option maxRecDepth 100000 in
theorem a_X.calls (k : Nat) (A0_0 : Option Addr) (c0_0 : Nat) (l0_0 : List (S56)) (A1_0 : Option Addr) (c1_0 : Nat) (l1_0 : List (S56)) (r : Bool) (w : World) (hr0_0 : Kd.C k56 w A0_0 l0_0.length l0_0) (hc0_0 : l0_0.length ≤ c0_0) (hr1_0 : Kd.C k56 w A1_0 l1_0.length l1_0) (hc1_0 : l1_0.length ≤ c1_0) (h : a_X.f k l0_0 l1_0 = some r) :
 Calls Tryd.prog 14 #[.agg #[.slice A0_0 l0_0.length c0_0],.agg #[.slice A1_0 l1_0.length c1_0]] w fun e w' => e = .returned (.bool r) ∧ Below w.heap.size w w':=by
 have hu24:=Tryd.underlying24
 have b_U:=a_a.mk hr0_0
 have b_1:=a_a.mk hc0_0
 clear hr0_0 hc0_0
 have j_Q:=a_a.mk hr1_0
 have j_M:=a_a.mk hc1_0
 clear hr1_0 hc1_0
 have HB:=a_a.mk (Below.refl w.heap.size w)
 have H : ((a_E.f k l0_0 l1_0).bind fun t187 => (some t187)) = some r:=h
 clear h
 replace H:=Option.bind_eq_some_iff.mp H
 obtain ⟨t187,A30,H⟩:=H
 replace H : (some t187) = some r:=H
 have A3:=a_a.mk A30
 clear A30
 obtain rfl:=Option.some.inj H
 go_enter Tryd.func14,Tryd.ntmps14
 go_wp2_with (first|((with_reducible refine a_B (N:=2) rfl ?_);refine a_x ?hg (N:=2) ?hd (cs:=#[.slice A0_0 l0_0.length c0_0]) (t:=24) ?hr ?_;(case hd => rfl);(case hg => rfl);(case hr => first|(go_simp;done)|(go_simp;rfl));intro g_I hg w4 hbox hb;have f_0:=a_a.mk (hbox);have l_x:=a_a.mk ((by rw [hg];exact (a_g (lup_ HB.out)) : w.heap.size ≤ g_I));have h_e:=a_a.mk ((by rw [hg];exact (a_g (lup_ HB.out)) : w.heap.size ≤ g_I));replace HB:=a_a.mk (a_i (lup_ HB.out) hb);clear hb hbox hg)|((with_reducible refine a_B (N:=3) rfl ?_);refine a_x ?hg (N:=3) ?hd (cs:=#[.slice A1_0 l1_0.length c1_0]) (t:=24) ?hr ?_;(case hd => rfl);(case hg => rfl);(case hr => first|(go_simp;done)|(go_simp;rfl));intro g_J hg w5 hbox hb;have i_1:=a_a.mk (hbox);have l_y:=a_a.mk ((by rw [hg];exact (a_g (by repeat (first|(with_reducible first|exact HB.out|apply a_d|apply a_b|apply a_e|refine a_c ?_ h_e.out)|exact HB.out))) : w.heap.size ≤ g_J));have j_G:=a_a.mk ((by rw [hg];exact (a_g (by repeat (first|(with_reducible first|exact HB.out|apply a_d|apply a_b|apply a_e|refine a_c ?_ h_e.out)|exact HB.out))) : w.heap.size ≤ g_J));have g_s:=a_a.mk ((by rw [hg];exact Nat.ne_of_lt (a_J (bup_ f_0.out)) : g_I ≠ g_J));have g_t:=a_a.mk ((by rw [hg];exact Nat.ne_of_gt (a_J (bup_ f_0.out)) : g_J ≠ g_I));replace f_0:=a_a.mk (a_l (bup_ f_0.out) hb);replace HB:=a_a.mk (a_i (by repeat (first|(with_reducible first|exact HB.out|apply a_d|apply a_b|apply a_e|refine a_c ?_ h_e.out)|exact HB.out)) hb);clear hb hbox hg;have hnb6:=g_s.out;have hnc6:=g_t.out;have d_4 : w5.cell? ⟨g_I,0,none⟩ = some (.slice A0_0 l0_0.length c0_0):=(a_n f_0.out 0).trans rfl;have d_5:=a_k f_0.out 0;have j_f : w5.cell? ⟨g_J,0,none⟩ = some (.slice A1_0 l1_0.length c1_0):=(a_n i_1.out 0).trans rfl;have j_g:=a_k i_1.out 0)|((with_reducible refine a_u (f:=38) rfl ?_);refine a_U (some 9) rfl rfl Tryd.func38 (by kernel_rfl) rfl #[.slice A0_0 l0_0.length c0_0,.slice A1_0 l1_0.length c1_0] rfl (by (try simp only [List.map_toArray,List.map_cons,List.map_nil]);first|done|rfl|(simp only [List.length_drop,List.length_take];rfl)) ?_;(with_reducible refine (a_E.calls k _ _ l0_0 _ _ l1_0 t187 _ ?side1 ?side2 ?side3 ?side4 A3.out).mono ?_);(case side1 => repeat (first|exact (Kd.a_K b_U.out HB.out)|(with_reducible refine Kd.a_F ?_ _)|(with_reducible refine Kd.a_G ?_ _)|(with_reducible refine Kd.a_W ?_)));(case side2 => exact b_1.out);(case side3 => repeat (first|exact (Kd.a_K j_Q.out HB.out)|(with_reducible refine Kd.a_F ?_ _)|(with_reducible refine Kd.a_G ?_ _)|(with_reducible refine Kd.a_W ?_)));(case side4 => exact j_M.out);rintro e w' ⟨rfl,⟨nd,rfl⟩⟩;refine ⟨_,rfl,?_⟩))
 go_ret
 exact ⟨by first|rfl|(simp [a_p,a_q] <;> rfl)|(simp [*, a_p,a_q] <;> rfl),by repeat (first|(with_reducible first|exact HB.out|apply a_d|apply a_b|apply a_e|refine a_c ?_ h_e.out|refine a_c ?_ j_G.out)|exact HB.out)⟩
end Go.Proofs.YtcpfcehfgenljaaDoor.Q
end
