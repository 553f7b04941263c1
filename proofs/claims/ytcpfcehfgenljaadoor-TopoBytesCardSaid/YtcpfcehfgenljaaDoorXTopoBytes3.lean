/- Part 4 of 7 of what the row of TopoBytes stands on: contracts over the given program's functions, the plain law, the row; no condition beyond those that each theorem states. -/
import Derived.Test.YtcpfcehfgenljaaDoorXTopoBytes2
section
namespace Go.Proofs.YtcpfcehfgenljaaDoor.Q
open Go.RowKit Go.Proofs.YtcpfcehfgenljaaDoorW.PrintWords Go.Proofs.YtcpfcehfgenljaaDoorW.PrintLast Go.Proofs.YtcpfcehfgenljaaDoorW.PrintMore
set_option linter.unusedVariables false
set_option linter.unusedSimpArgs false
def a_z.l0 : Nat → List Int → List (S56) → Int → Int → Option (List Int × Int)
 | 0,_,_,_,_ => none
 | k + 1,x5,x19,x20,x21 => if x21 < x20 then (if 0 ≤ x21 then (if x21 < (x19.length : Int) then ((some (([((a_u x19 x21).f0) % 256,((a_u x19 x21).f1) % 256] : List Int) : List Int)).bind fun y164 => (if x5.length + y164.length < 140737488355328 then (a_z.l0 k (x5 ++ y164) x19 x20 (wrap64 (x21 + 1))) else (none))) else (none)) else (none)) else (some (x5,0))
def a_z.f (k : Nat) (l0_0 : List (S56)) : Option (List Int × Int):=(a_4.f l0_0).bind fun t158 => (if t158 = 0 then (a_z.l0 k (([((l0_0.length : Int)) % 256] : List Int)) l0_0 (l0_0.length : Int) 0) else (some (([] : List Int),t158)))
theorem a_z.b_D : ∀ k,(∀ y0 y1 y2 y3,LeO (a_z.l0 k y0 y1 y2 y3) (a_z.l0 (k + 1) y0 y1 y2 y3))
 | 0 => fun _ _ _ _ r h => by simp [a_z.l0] at h
 | k + 1 => by
  have ih0:=a_z.b_D k
  ·intro y0 y1 y2 y3
   unfold a_z.l0
   repeat' first
   | (with_reducible exact ih0 _ _ _ _)
   | (with_reducible exact LeO.refl _)
   | (with_reducible exact LeO.none _)
   | (with_reducible refine LeO.ite ?_ ?_)
   | (with_reducible refine LeO.bind ?_ (fun _ => ?_))
   | exact ih0 _ _ _ _
   | exact LeO.none _
   | refine LeO.ite ?_ ?_
   | refine LeO.bind ?_ (fun _ => ?_)
theorem a_z.mono : ∀ a0 k,LeO (a_z.f k a0) (a_z.f (k + 1) a0):=by
 intro a0 k
 have ih0:=a_z.b_D k
 unfold a_z.f
 repeat' first
  | (with_reducible exact ih0 _ _ _ _)
  | (with_reducible exact LeO.refl _)
  | (with_reducible exact LeO.none _)
  | (with_reducible refine LeO.ite ?_ ?_)
  | (with_reducible refine LeO.bind ?_ (fun _ => ?_))
  | exact ih0 _ _ _ _
  | exact LeO.none _
  | refine LeO.ite ?_ ?_
  | refine LeO.bind ?_ (fun _ => ?_)
set_option maxHeartbeats 8000000 in
set_option maxRecDepth 100000 in
theorem a_z.calls (k : Nat) (A0_0 : Option Addr) (c0_0 : Nat) (l0_0 : List (S56)) (r1 : List Int) (r2 : Int) (w : World) (hr0_0 : Kd.C k56 w A0_0 l0_0.length l0_0) (hc0_0 : l0_0.length ≤ c0_0) (h : a_z.f k l0_0 = some (r1,r2)) :
 Calls Tryd.prog 12 #[.agg #[.slice A0_0 l0_0.length c0_0]] w fun e w' => ∃ v0_ : Value,e = .returned (.tuple #[v0_,.int .i64 r2]) ∧ Kd.R (Kd.int .u8) 5 w' w.heap.size (fun _ => True) v0_ r1 ∧ Below w.heap.size w w':=by
 have hu24:=Tryd.underlying24
 have hu56:=Tryd.underlying56
 have b_M:=a_a.mk hr0_0
 have c_t:=a_a.mk hc0_0
 clear hr0_0 hc0_0
 have HB:=a_a.mk (Below.refl w.heap.size w)
 have H : ((a_4.f l0_0).bind fun t158 => (if t158 = 0 then (a_z.l0 k (([((l0_0.length : Int)) % 256] : List Int)) l0_0 (l0_0.length : Int) 0) else (some (([] : List Int),t158)))) = some (r1,r2):=h
 clear h
 replace H:=Option.bind_eq_some_iff.mp H
 obtain ⟨t158,A20,H⟩:=H
 replace H : (if t158 = 0 then (a_z.l0 k (([((l0_0.length : Int)) % 256] : List Int)) l0_0 (l0_0.length : Int) 0) else (some (([] : List Int),t158))) = some (r1,r2):=H
 have A2:=a_a.mk A20
 clear A20
 by_cases c3 : t158 = 0
 rotate_left
 ·rw [if_neg c3] at H
  have c3b0 : (t158 == 0) = false:=beq_eq_false_iff_ne.mpr c3
  have c3b1 : (t158 != 0) = true:=bne_iff_ne.mpr c3
  simp only [Option.some.injEq,Prod.mk.injEq] at H
  obtain ⟨rfl,rfl⟩:=H
  go_enter Tryd.func12,Tryd.ntmps12
  go_wp2_with (first|((with_reducible refine a_B (N:=1) rfl ?_);refine a_A ?hg (N:=1) ?hd (cs:=#[.slice A0_0 l0_0.length c0_0]) (t:=24) ?hr ?_;(case hd => rfl);(case hg => rfl);(case hr => first|(go_simp;done)|(go_simp;rfl));intro d_V hg w22 hbox hb;have c_w:=a_a.mk (hbox);have l_w:=a_a.mk ((by rw [hg];exact (a_g (lup_ HB.out)) : w.heap.size ≤ d_V));have d_u:=a_a.mk ((by rw [hg];exact (a_g (lup_ HB.out)) : w.heap.size ≤ d_V));replace HB:=a_a.mk (a_i (lup_ HB.out) hb);clear hb hbox hg;have f_F : w22.cell? ⟨d_V,0,none⟩ = some (.slice A0_0 l0_0.length c0_0):=(a_m c_w.out 0).trans rfl;have f_J:=a_j c_w.out 0)|((with_reducible refine a_y (f:=28) rfl ?_);refine a_U (some 9) rfl rfl Tryd.func28 (by kernel_rfl) rfl #[.agg #[.slice A0_0 l0_0.length c0_0]] rfl (by (try simp only [List.map_toArray,List.map_cons,List.map_nil]);first|done|rfl|(simp only [List.length_drop,List.length_take];rfl)) ?_;(with_reducible refine (a_4.calls _ _ l0_0 t158 _ ?side1 ?side2 A2.out).mono ?_);(case side1 => repeat (first|exact (Kd.a_P b_M.out HB.out)|(with_reducible refine Kd.a_I ?_ _)|(with_reducible refine Kd.a_J ?_ _)|(with_reducible refine Kd.a_T ?_)));(case side2 => exact c_t.out);rintro e w24 ⟨rfl,hb⟩;refine ⟨_,rfl,?_⟩;replace c_w:=a_a.mk (a_p (bup_ c_w.out) hb);replace HB:=a_a.mk (a_i (by repeat (first|(with_reducible first|exact HB.out|apply a_c|apply a_b|apply a_d|refine a_e ?_ d_u.out)|exact HB.out)) hb);(try clear hb);(try clear hb2);(try clear hk);(try clear hi)))
  go_ret2
  exact ⟨_,by first|rfl|(simp [a_r,a_s] <;> rfl)|(simp [*, a_r,a_s] <;> rfl),by first|exact Kd.d_i _ _ _ _ _|exact Kd.e_C _ _ _ _ _|exact Kd.e_I _ _ _ _ _|exact Kd.e_D _ _ _ _ _|exact Kd.e_H _ _ _ _ _,by repeat (first|(with_reducible first|exact HB.out|apply a_c|apply a_b|apply a_d|refine a_e ?_ d_u.out)|exact HB.out)⟩
 rw [if_pos c3] at H
 have c3b0 : (t158 == 0) = true:=beq_iff_eq.mpr c3
 have c3b1 : (t158 != 0) = false:=bne_eq_false_iff_eq.mpr c3
 clear c3
 obtain ⟨y159,hy159⟩ : ∃ y_ : List Int,y_ = (([((l0_0.length : Int)) % 256] : List Int)):=⟨_,rfl⟩
 replace H : (a_z.l0 k y159 l0_0 (l0_0.length : Int) 0) = some (r1,r2):=by first|(rw [hy159];with_reducible exact H)|(have H2_:=(Option.bind_some _ _).symm.trans H;rw [hy159];with_reducible exact H2_)|(have H2_:=(Option.bind_some _ _).symm.trans H;with_reducible exact H2_)|with_reducible exact H|(rw [hy159];exact H)|exact H
 have Ny159:=a_a.mk hy159
 clear hy159
 have H':=a_a.mk H
 clear H
 go_enter Tryd.func12,Tryd.ntmps12
 go_wp2_with (first|((with_reducible refine a_B (N:=1) rfl ?_);refine a_A ?hg (N:=1) ?hd (cs:=#[.slice A0_0 l0_0.length c0_0]) (t:=24) ?hr ?_;(case hd => rfl);(case hg => rfl);(case hr => first|(go_simp;done)|(go_simp;rfl));intro d_V hg w4 hbox hb;have c_w:=a_a.mk (hbox);have l_w:=a_a.mk ((by rw [hg];exact (a_g (lup_ HB.out)) : w.heap.size ≤ d_V));have d_u:=a_a.mk ((by rw [hg];exact (a_g (lup_ HB.out)) : w.heap.size ≤ d_V));replace HB:=a_a.mk (a_i (lup_ HB.out) hb);clear hb hbox hg;have j_L : w4.cell? ⟨d_V,0,none⟩ = some (.slice A0_0 l0_0.length c0_0):=(a_m c_w.out 0).trans rfl;have j_N:=a_j c_w.out 0)|((with_reducible refine a_y (f:=28) rfl ?_);refine a_U (some 9) rfl rfl Tryd.func28 (by kernel_rfl) rfl #[.agg #[.slice A0_0 l0_0.length c0_0]] rfl (by (try simp only [List.map_toArray,List.map_cons,List.map_nil]);first|done|rfl|(simp only [List.length_drop,List.length_take];rfl)) ?_;(with_reducible refine (a_4.calls _ _ l0_0 t158 _ ?side1 ?side2 A2.out).mono ?_);(case side1 => repeat (first|exact (Kd.a_P b_M.out HB.out)|(with_reducible refine Kd.a_I ?_ _)|(with_reducible refine Kd.a_J ?_ _)|(with_reducible refine Kd.a_T ?_)));(case side2 => exact c_t.out);rintro e w6 ⟨rfl,hb⟩;refine ⟨_,rfl,?_⟩;replace c_w:=a_a.mk (a_p (bup_ c_w.out) hb);replace HB:=a_a.mk (a_i (by repeat (first|(with_reducible first|exact HB.out|apply a_c|apply a_b|apply a_d|refine a_e ?_ d_u.out)|exact HB.out)) hb);(try clear hb);(try clear hb2);(try clear hk);(try clear hi);have c_8 : w6.cell? ⟨d_V,0,none⟩ = some (.slice A0_0 l0_0.length c0_0):=(a_m c_w.out 0).trans rfl;have c_9:=a_j c_w.out 0)|((with_reducible refine a_B (N:=17) rfl ?_);refine Kd.e_F (Kd.int .u8) _ 5 ?hg (N:=17) ?hd (xs:=([((l0_0.length : Int)) % 256] : List Int)) (inner:=[.int .u8 (((l0_0.length : Int)) % 256)]) (ok:=fun _ => True) (okp:=fun _ => True) ?hr ?hp (fun _ hk => hk) trivial (Below.refl _ _) (Nat.le_refl _) (by simp) ?_;(case hd => rfl);(case hg => rfl);(case hr => first|(go_simp;done)|(go_simp;rfl));(case hp => exact (Reps.one (show Kd.M (Kd.int .u8) _ _ _ (((l0_0.length : Int)) % 256) [.int .u8 (((l0_0.length : Int)) % 256)] from rfl) (Reps.none _ _)));intro v160 w8 ho9 hb hg_ hnew_;clear hg_ hnew_;(first|rw [← Ny159.out] at ho9|(simp only [Int.reduceToNat] at ho9;rw [← Ny159.out] at ho9));have l_y:=a_a.mk (Kd.a_S ho9 (a_g (by repeat (first|(with_reducible first|exact HB.out|apply a_c|apply a_b|apply a_d|refine a_e ?_ d_u.out)|exact HB.out))));replace c_w:=a_a.mk (a_p (bup_ c_w.out) hb);replace HB:=a_a.mk (a_i (by repeat (first|(with_reducible first|exact HB.out|apply a_c|apply a_b|apply a_d|refine a_e ?_ d_u.out)|exact HB.out)) hb);clear hb ho9;have g_y : w8.cell? ⟨d_V,0,none⟩ = some (.slice A0_0 l0_0.length c0_0):=(a_m c_w.out 0).trans rfl;have g_K:=a_j c_w.out 0))
 go_loopg [5,21] k (fun kq v5 v21 w' => ∃ (x5_1 : List Int) (x21_1 : Int),v21 = .int .i64 x21_1 ∧ a_a (a_z.l0 kq x5_1 l0_0 (l0_0.length : Int) x21_1 = some (r1,r2)) ∧ a_a (kq ≤ k) ∧ a_a (Kd.R (Kd.int .u8) 5 w' w.heap.size (fun _ => True) v5 x5_1) ∧ a_a (w'.heap[d_V]? = some (.cells #[(.slice A0_0 l0_0.length c0_0)] 24 (0,0))) ∧ a_a (Below w.heap.size w w'))
 case atStart => exact ⟨(y159),(0),(by first|rfl|(simp;done)|(simp [*];done)),H',⟨Nat.le_refl _⟩,⟨by (with_reducible repeat (first|apply Kd.a_G|apply Kd.a_H|apply Kd.a_O));exact l_y.out⟩,⟨by (with_reducible repeat (first|refine a_l ?_ _|refine a_o ?_|refine a_k ?_ _));exact c_w.out⟩,⟨by repeat (first|(with_reducible first|exact HB.out|apply a_c|apply a_b|apply a_d|refine a_e ?_ d_u.out)|exact HB.out)⟩⟩
 case round =>
  clear H'
  try clear c1
  try clear c2
  try clear p2
  try clear c3
  try clear c3b0
  try clear c3b1
  try clear g_y
  try clear j_L
  try clear c_8
  try clear g_K
  try clear j_N
  try clear c_9
  obtain ⟨x5_1,x21_1,rfl,HA,HK1,HO_5,c_w,HB⟩:=hrel
  cases gk with
  | zero => exact absurd HA.out (by simp [a_z.l0])
  | succ k1 =>
   have H:=HA.out
   clear HA
   simp only [a_z.l0] at H
   by_cases c11 : x21_1 < (l0_0.length : Int)
   rotate_left
   ·rw [if_neg c11] at H
    have c11b0 : decide (x21_1 < (l0_0.length : Int)) = false:=decide_eq_false c11
    clear c11
    simp only [Option.some.injEq,Prod.mk.injEq] at H
    obtain ⟨rfl,rfl⟩:=H
    go_wp2
    go_ret2
    exact ⟨_,by first|rfl|(simp [a_r,a_s] <;> rfl)|(simp [*, a_r,a_s] <;> rfl),by (with_reducible repeat (first|apply Kd.a_G|apply Kd.a_H|apply Kd.a_O));exact HO_5.out,by repeat (first|(with_reducible first|exact HB.out|apply a_c|apply a_b|apply a_d|refine a_e ?_ d_u.out)|exact HB.out)⟩
   rw [if_pos c11] at H
   have c11b0 : decide (x21_1 < (l0_0.length : Int)) = true:=decide_eq_true c11
   clear c11
   by_cases c12 : 0 ≤ x21_1
   rotate_left
   ·rw [if_neg c12] at H
    exact absurd H (by simp)
   rw [if_pos c12] at H
   have c12b0 : decide (0 ≤ x21_1) = true:=decide_eq_true c12
   clear c12
   by_cases c13 : x21_1 < (l0_0.length : Int)
   rotate_left
   ·rw [if_neg c13] at H
    exact absurd H (by simp)
   rw [if_pos c13] at H
   have c13b0 : decide (x21_1 < (l0_0.length : Int)) = true:=decide_eq_true c13
   clear c13
   obtain ⟨y164,hy164⟩ : ∃ y_ : List Int,y_ = (([((a_u l0_0 x21_1).f0) % 256,((a_u l0_0 x21_1).f1) % 256] : List Int)):=⟨_,rfl⟩
   replace H : (if x5_1.length + y164.length < 140737488355328 then (a_z.l0 k1 (x5_1 ++ y164) l0_0 (l0_0.length : Int) (wrap64 (x21_1 + 1))) else (none)) = some (r1,r2):=by first|(rw [hy164];with_reducible exact H)|(have H2_:=(Option.bind_some _ _).symm.trans H;rw [hy164];with_reducible exact H2_)|(have H2_:=(Option.bind_some _ _).symm.trans H;with_reducible exact H2_)|with_reducible exact H|(rw [hy164];exact H)|exact H
   have Ny164:=a_a.mk hy164
   clear hy164
   by_cases c14 : x5_1.length + y164.length < 140737488355328
   rotate_left
   ·rw [if_neg c14] at H
    exact absurd H (by simp)
   rw [if_pos c14] at H
   have LMc14:=a_a.mk c14
   clear c14
   obtain ⟨y167,hy167⟩ : ∃ y_ : List Int,y_ = (x5_1 ++ y164):=⟨_,rfl⟩
   replace H : (a_z.l0 k1 y167 l0_0 (l0_0.length : Int) (wrap64 (x21_1 + 1))) = some (r1,r2):=by first|(rw [hy167];with_reducible exact H)|(have H2_:=(Option.bind_some _ _).symm.trans H;rw [hy167];with_reducible exact H2_)|(have H2_:=(Option.bind_some _ _).symm.trans H;with_reducible exact H2_)|with_reducible exact H|(rw [hy167];exact H)|exact H
   have Ny167:=a_a.mk hy167
   clear hy167
   have H':=a_a.mk H
   clear H
   have p162 : 0 ≤ (x21_1 : Int):=of_decide_eq_true (by first|(with_reducible assumption)|assumption)
   have q162 : x21_1 < (l0_0.length : Int):=of_decide_eq_true (by first|(with_reducible assumption)|assumption)
   obtain ⟨ad162,e162,g_W,g_X⟩:=c_N b_M.out x21_1 p162 q162
   cases e162
   replace g_W:=(HB.out.cell (World.block_lt_of_cell? w _ g_W)).trans g_W
   replace g_X:=(HB.out.cell (World.block_lt_of_cell? w _ g_X)).trans g_X
   replace p162:=eq_true p162
   replace q162:=eq_true q162
   go_wp2_with (first|((with_reducible refine a_B (N:=7) rfl ?_);refine a_A ?hg (N:=7) ?hd (cs:=#[.int .i64 0,.int .i64 0]) (t:=56) ?hr ?_;(case hd => rfl);(case hg => rfl);(case hr => first|(go_simp;done)|(go_simp;rfl));intro e_q hg w15 hbox hb;have e_w:=a_a.mk (hbox);have n_k:=a_a.mk ((by rw [hg];exact (a_g (by repeat (first|(with_reducible first|exact HB.out|apply a_c|apply a_b|apply a_d|refine a_e ?_ d_u.out)|exact HB.out))) : w.heap.size ≤ e_q));have h_H:=a_a.mk ((by rw [hg];exact (a_g (by repeat (first|(with_reducible first|exact HB.out|apply a_c|apply a_b|apply a_d|refine a_e ?_ d_u.out)|exact HB.out))) : w.heap.size ≤ e_q));have e_A:=a_a.mk ((by rw [hg];exact Nat.ne_of_lt (a_M (bup_ c_w.out)) : d_V ≠ e_q));have h_U:=a_a.mk ((by rw [hg];exact Nat.ne_of_gt (a_M (bup_ c_w.out)) : e_q ≠ d_V));replace HO_5:=a_a.mk (Kd.a_C (rup_ HO_5.out) hb);replace c_w:=a_a.mk (a_p (bup_ c_w.out) hb);replace HB:=a_a.mk (a_i (by repeat (first|(with_reducible first|exact HB.out|apply a_c|apply a_b|apply a_d|refine a_e ?_ d_u.out)|exact HB.out)) hb);clear hb hbox hg;have n_w:=h_U.out;have n_S:=e_A.out;have j_9 : w15.cell? ⟨e_q,0,none⟩ = some (.int .i64 0):=(a_m e_w.out 0).trans rfl;have l_Z : w15.cell? ⟨e_q,1,none⟩ = some (.int .i64 0):=(a_m e_w.out 1).trans rfl;have k_g:=a_j e_w.out 0;have m_o:=a_j e_w.out 1)|((with_reducible refine a_B (N:=32) rfl ?_);refine Kd.e_F (Kd.int .u8) _ 5 ?hg (N:=32) ?hd (xs:=([((a_u l0_0 x21_1).f0) % 256,((a_u l0_0 x21_1).f1) % 256] : List Int)) (inner:=[.int .u8 (((a_u l0_0 x21_1).f0) % 256),.int .u8 (((a_u l0_0 x21_1).f1) % 256)]) (ok:=fun _ => True) (okp:=fun _ => True) ?hr ?hp (fun _ hk => hk) trivial (Below.refl _ _) (Nat.le_refl _) (by simp) ?_;(case hd => rfl);(case hg => rfl);(case hr => first|(go_simp;done)|(go_simp;rfl));(case hp => exact (Reps.one (show Kd.M (Kd.int .u8) _ _ _ (((a_u l0_0 x21_1).f0) % 256) [.int .u8 (((a_u l0_0 x21_1).f0) % 256)] from rfl) (Reps.one (show Kd.M (Kd.int .u8) _ _ _ (((a_u l0_0 x21_1).f1) % 256) [.int .u8 (((a_u l0_0 x21_1).f1) % 256)] from rfl) (Reps.none _ _))));intro v165 w18 ho19 hb hg_ hnew_;clear hg_ hnew_;(first|rw [← Ny164.out] at ho19|(simp only [Int.reduceToNat] at ho19;rw [← Ny164.out] at ho19));have h_M:=a_a.mk (Kd.a_S (Kd.d_A ho19 (Kd.R_lt (by (with_reducible repeat (first|apply Kd.a_G|apply Kd.a_H|apply Kd.a_O));exact (Kd.a_Q (Kd.b_a (p:=⟨e_q,1,none⟩) (Kd.b_a (p:=⟨e_q,0,none⟩) (Kd.a_N HO_5.out e_w.out (by decide)) (fun _ hk => hk.2) (.int .i64 ((a_u l0_0 x21_1).f0))) (fun _ hk => hk.2) (.int .i64 ((a_u l0_0 x21_1).f1))) (fun _ h_ => h_.1))))) (a_g (by repeat (first|(with_reducible first|exact HB.out|apply a_c|apply a_b|apply a_d|refine a_e ?_ d_u.out|refine a_e ?_ h_H.out)|exact HB.out))));replace HO_5:=a_a.mk (Kd.c_z (by (with_reducible repeat (first|apply Kd.a_G|apply Kd.a_H|apply Kd.a_O));exact (Kd.a_Q (Kd.b_a (p:=⟨e_q,1,none⟩) (Kd.b_a (p:=⟨e_q,0,none⟩) (Kd.a_N HO_5.out e_w.out (by decide)) (fun _ hk => hk.2) (.int .i64 ((a_u l0_0 x21_1).f0))) (fun _ hk => hk.2) (.int .i64 ((a_u l0_0 x21_1).f1))) (fun _ h_ => h_.1))) (Kd.d_z ho19) hb);replace c_w:=a_a.mk (a_p (g:=d_V) (o:=.cells #[.slice (some ad162) l0_0.length c0_0] 24 (0,0)) (by (with_reducible repeat (first|refine a_l ?_ _|refine a_o ?_|refine a_k ?_ _));refine a_9 ?_ e_A.out _;(with_reducible repeat (first|refine a_l ?_ _|refine a_o ?_|refine a_k ?_ _));refine a_9 ?_ e_A.out _;(with_reducible repeat (first|refine a_l ?_ _|refine a_o ?_|refine a_k ?_ _));exact c_w.out) hb);replace e_w:=a_a.mk (a_p (g:=e_q) (o:=.cells #[.int .i64 ((a_u l0_0 x21_1).f0),.int .i64 ((a_u l0_0 x21_1).f1)] 56 (0,0)) (by (with_reducible repeat (first|refine a_l ?_ _|refine a_o ?_|refine a_k ?_ _));refine a_R (cs:=#[.int .i64 ((a_u l0_0 x21_1).f0),.int .i64 0]) ?_ 1 _ rfl;(with_reducible repeat (first|refine a_l ?_ _|refine a_o ?_|refine a_k ?_ _));refine a_R (cs:=#[.int .i64 0,.int .i64 0]) ?_ 0 _ rfl;(with_reducible repeat (first|refine a_l ?_ _|refine a_o ?_|refine a_k ?_ _));exact e_w.out) hb);replace HB:=a_a.mk (a_i (by repeat (first|(with_reducible first|exact HB.out|apply a_c|apply a_b|apply a_d|refine a_e ?_ d_u.out|refine a_e ?_ h_H.out)|exact HB.out)) hb);clear hb ho19;obtain ⟨Ao21,co21,eo21⟩:=Kd.a_V h_M.out;subst eo21)|((with_reducible refine b_C (b:=.append) (xs:=#[.tmp 25,.tmp 32]) rfl ?_);at_builtin;refine Kd.b_v (Kd.int .u8) (w0:=w) w.heap.size rfl (.tmp 25) (.tmp 32) 25 5 (.int .u8 0) 1 rfl Tryd.underlying25 info5 rfl (by decide) (by omega) u5 x5_1 y164 _ _ _ (fun k_ => some k_ ≠ (.slice Ao21 y164.length co21 : Value).ownBlock) (fun _ => False) rfl rfl ?aO ?aR (fun _ _ h => h) (fun _ h => h.elim) ?aF ?aB ?aS ?aL ?_;(case aR => repeat (first|exact (Kd.a_v h_M.out).2.2|(with_reducible refine Kd.a_I ?_ _)|(with_reducible refine Kd.a_J ?_ _)|(with_reducible refine Kd.a_T ?_)));(case aB => exact (by repeat (first|(with_reducible first|exact HB.out|apply a_c|apply a_b|apply a_d|refine a_e ?_ d_u.out|refine a_e ?_ h_H.out)|exact HB.out)));(case aF => exact (fun k_ hk => Kd.fresh' (Kd.R_lt (rup_ h_M.out)) k_ hk));(case aO => exact (by (with_reducible repeat (first|apply Kd.a_G|apply Kd.a_H|apply Kd.a_O));exact Kd.a_Q HO_5.out (fun _ hk => hk.2)));(case aS => exact (a_g (by repeat (first|(with_reducible first|exact HB.out|apply a_c|apply a_b|apply a_d|refine a_e ?_ d_u.out|refine a_e ?_ h_H.out)|exact HB.out))));(case aL => have:=LMc14.out;omega);intro v168 w20 ho hb hg hat;rw [← Ny167.out] at ho;have l_z:=a_a.mk (ho);replace c_w:=a_a.mk (b_x (g:=d_V) (o:=.cells #[.slice (some ad162) l0_0.length c0_0] 24 (0,0)) (bup_ c_w.out) hg (Kd.R_ne HO_5.out c_w.out (by decide)));replace e_w:=a_a.mk (b_x (g:=e_q) (o:=.cells #[.int .i64 ((a_u l0_0 x21_1).f0),.int .i64 ((a_u l0_0 x21_1).f1)] 56 (0,0)) (bup_ e_w.out) hg (Kd.R_ne HO_5.out e_w.out (by decide)));replace h_M:=a_a.mk (Kd.e_E (ok:=(fun _ => True)) (rup_ h_M.out) hg hat);replace HB:=a_a.mk (hb);clear HO_5 ho hb hg hat))
   go_roundg k1
   case measure => have:=HK1.out;omega
   case rel => exact ⟨(y167),(wrap64 (x21_1 + 1)),(by first|rfl|(simp;done)|(simp [*];done)),H',⟨by have:=HK1.out;omega⟩,⟨by (with_reducible repeat (first|apply Kd.a_G|apply Kd.a_H|apply Kd.a_O));exact Kd.a_Q l_z.out (fun _ hk => trivial)⟩,⟨by (with_reducible repeat (first|refine a_l ?_ _|refine a_o ?_|refine a_k ?_ _));exact c_w.out⟩,⟨by repeat (first|(with_reducible first|exact HB.out|apply a_c|apply a_b|apply a_d|refine a_e ?_ d_u.out|refine a_e ?_ h_H.out)|exact HB.out)⟩⟩
end Go.Proofs.YtcpfcehfgenljaaDoor.Q
end
section
namespace Go.Proofs.YtcpfcehfgenljaaDoor.Q
open Go.RowKit Go.Proofs.YtcpfcehfgenljaaDoorW.PrintWords Go.Proofs.YtcpfcehfgenljaaDoorW.PrintLast Go.Proofs.YtcpfcehfgenljaaDoorW.PrintMore
set_option linter.unusedVariables false
set_option linter.unusedSimpArgs false
def bytes_Equal.f (l0 : List Int) (l1 : List Int) : Option (Bool):=some ((strOfNums l0).toList == (strOfNums l1).toList)
set_option maxHeartbeats 8000000 in
set_option maxRecDepth 100000 in
theorem bytes_Equal.calls (A0 : Option Addr) (c0 : Nat) (l0 : List Int) (A1 : Option Addr) (c1 : Nat) (l1 : List Int) (r : Bool) (w : World) (hr0 : Kd.C (Kd.int .u8) w A0 l0.length l0) (hc0 : l0.length ≤ c0) (hr1 : Kd.C (Kd.int .u8) w A1 l1.length l1) (hc1 : l1.length ≤ c1) (h : bytes_Equal.f l0 l1 = some r) :
 Calls Tryd.prog 15 #[.slice A0 l0.length c0,.slice A1 l1.length c1] w fun e w' => e = .returned (.bool r) ∧ b_i w w':=by
 have HR0:=a_a.mk hr0
 have HC0:=a_a.mk hc0
 clear hr0 hc0
 have HR1:=a_a.mk hr1
 have HC1:=a_a.mk hc1
 clear hr1 hc1
 have H : (some ((strOfNums l0).toList == (strOfNums l1).toList)) = some r:=h
 clear h
 obtain rfl:=Option.some.inj H
 have hcv3:=Kd.g_4 (P:=Tryd.prog) (A:=A0) (c:=c0) Tryd.underlying25 Tryd.underlying5 Tryd.underlying9 HR0.out
 have hcv4:=Kd.g_4 (P:=Tryd.prog) (A:=A1) (c:=c1) Tryd.underlying25 Tryd.underlying5 Tryd.underlying9 HR1.out
 go_enter Tryd.func15,Tryd.ntmps15
 go_wp2
 go_ret
 exact ⟨by first|rfl|(simp;done)|(simp [*];done),by repeat (first|exact b_i.refl _|apply b_i.step)⟩
end Go.Proofs.YtcpfcehfgenljaaDoor.Q
end
section
namespace Go.Proofs.YtcpfcehfgenljaaDoor.Q
open Go.RowKit Go.Proofs.YtcpfcehfgenljaaDoorW.PrintWords Go.Proofs.YtcpfcehfgenljaaDoorW.PrintLast Go.Proofs.YtcpfcehfgenljaaDoorW.PrintMore
set_option linter.unusedVariables false
set_option linter.unusedSimpArgs false
mutual
def a_w.j0 : Nat → List Int → Bool → Option ((List (S56)) × Int)
 | 0,_,_ => none
 | k + 1,x0,x20 => if x20 = true then (some (([] : List (S56)),7)) else (a_w.l0 k x0 1 ([] : List (S56)))
def a_w.l0 : Nat → List Int → Int → List (S56) → Option ((List (S56)) × Int)
 | 0,_,_,_ => none
 | k + 1,x0,x5,x173000 => if (wrap64 (x5 + 1)) < (x0.length : Int) then (if 0 ≤ x5 then (if x5 < (x0.length : Int) then (if 0 ≤ (wrap64 (x5 + 1)) then (if x173000.length < 8796093022208 then (a_w.l0 k x0 (wrap64 (x5 + 2)) (x173000 ++ [(⟨wrap64 (rd x0 x5),wrap64 (rd x0 (wrap64 (x5 + 1)))⟩ : S56)])) else (none)) else (none)) else (none)) else (none)) else ((a_z.f k x173000).bind fun bt178 => (if bt178.2 = 0 then ((bytes_Equal.f bt178.1 x0).bind fun t182 => (if t182 = true then (some (x173000,0)) else (some (([] : List (S56)),160)))) else (some (([] : List (S56)),160))))
end
def a_w.f (k : Nat) (l0 : List Int) : Option ((List (S56)) × Int):=if (l0.length : Int) = 0 then (a_w.j0 k l0 true) else (if 0 < (l0.length : Int) then (a_w.j0 k l0 (decide ((l0.length : Int) ≤ (wrap64 (2 * (wrap64 (rd l0 0))))))) else (none))
theorem a_w.b_D : ∀ k,(∀ y0 y1,LeO (a_w.j0 k y0 y1) (a_w.j0 (k + 1) y0 y1)) ∧ (∀ y0 y1 y2,LeO (a_w.l0 k y0 y1 y2) (a_w.l0 (k + 1) y0 y1 y2))
 | 0 => ⟨fun _ _ r h => by simp [a_w.j0] at h,fun _ _ _ r h => by simp [a_w.l0] at h⟩
 | k + 1 => by
  obtain ⟨ih0,ih1⟩:=a_w.b_D k
  refine ⟨?_,?_⟩
  ·intro y0 y1
   unfold a_w.j0
   repeat' first
   | (with_reducible exact ih0 _ _)
   | (with_reducible exact ih1 _ _ _)
   | (with_reducible exact a_z.mono _ _)
   | (with_reducible exact LeO.refl _)
   | (with_reducible exact LeO.none _)
   | (with_reducible refine LeO.ite ?_ ?_)
   | (with_reducible refine LeO.bind ?_ (fun _ => ?_))
   | exact ih0 _ _
   | exact ih1 _ _ _
   | exact a_z.mono _ _
   | exact LeO.none _
   | refine LeO.ite ?_ ?_
   | refine LeO.bind ?_ (fun _ => ?_)
  ·intro y0 y1 y2
   unfold a_w.l0
   repeat' first
   | (with_reducible exact ih0 _ _)
   | (with_reducible exact ih1 _ _ _)
   | (with_reducible exact a_z.mono _ _)
   | (with_reducible exact LeO.refl _)
   | (with_reducible exact LeO.none _)
   | (with_reducible refine LeO.ite ?_ ?_)
   | (with_reducible refine LeO.bind ?_ (fun _ => ?_))
   | exact ih0 _ _
   | exact ih1 _ _ _
   | exact a_z.mono _ _
   | exact LeO.none _
   | refine LeO.ite ?_ ?_
   | refine LeO.bind ?_ (fun _ => ?_)
theorem a_w.mono : ∀ a0 k,LeO (a_w.f k a0) (a_w.f (k + 1) a0):=by
 intro a0 k
 obtain ⟨ih0,ih1⟩:=a_w.b_D k
 unfold a_w.f
 repeat' first
  | (with_reducible exact ih0 _ _)
  | (with_reducible exact ih1 _ _ _)
  | (with_reducible exact a_z.mono _ _)
  | (with_reducible exact LeO.refl _)
  | (with_reducible exact LeO.none _)
  | (with_reducible refine LeO.ite ?_ ?_)
  | (with_reducible refine LeO.bind ?_ (fun _ => ?_))
  | exact ih0 _ _
  | exact ih1 _ _ _
  | exact a_z.mono _ _
  | exact LeO.none _
  | refine LeO.ite ?_ ?_
  | refine LeO.bind ?_ (fun _ => ?_)
def a_w.T7 : Bool × List (List Nat × List Nat):=(true,[([],[]),([0],[0]),([],[]),([],[]),([2,3],[2,3]),([4],[4]),([5],[5]),([],[]),([],[]),([8],[8]),([7,9],[7,9]),([10],[10]),([11],[11]),([6,12],[6,12]),([13],[13]),([1,14],[1,14]),([0,1,2,3,4,5,6,7,8,9,10,11,12,13,14,15],[]),([16,15,15,0,1,2,3,4,5,6,7,8,9,10,11,12,13,14,15],[15,16])])
def a_w.B7 : List Nat:=[0,1,0,0,12,28,60,0,0,256,896,1920,3968,8188,16380,32767,65535,131071]
theorem a_w.tab7 : rtab .any (opsOf Tryd.f13 7) = a_w.T7:=by kernel_rfl
theorem a_w.h_Y : d_s a_w.T7.2 a_w.B7 = true:=by kernel_rfl
set_option maxHeartbeats 8000000 in
set_option maxRecDepth 100000 in
theorem a_w.calls (k : Nat) (A0 : Option Addr) (c0 : Nat) (l0 : List Int) (r1 : List (S56)) (r2 : Int) (w : World) (hr0 : Kd.C (Kd.int .u8) w A0 l0.length l0) (hc0 : l0.length ≤ c0) (h : a_w.f k l0 = some (r1,r2)) :
 Calls Tryd.prog 13 #[.slice A0 l0.length c0] w fun e w' => ∃ v0_ : Value,e = .returned (.tuple #[.agg #[v0_],.int .i64 r2]) ∧ Kd.R k56 56 w' w.heap.size (fun _ => True) v0_ r1 ∧ Below w.heap.size w w':=by
 have hu24:=Tryd.underlying24
 have hu56:=Tryd.underlying56
 have HR0:=a_a.mk hr0
 have HC0:=a_a.mk hc0
 clear hr0 hc0
 have HB:=a_a.mk (Below.refl w.heap.size w)
 have H : (if (l0.length : Int) = 0 then (a_w.j0 k l0 true) else (if 0 < (l0.length : Int) then (a_w.j0 k l0 (decide ((l0.length : Int) ≤ (wrap64 (2 * (wrap64 (rd l0 0))))))) else (none))) = some (r1,r2):=h
 clear h
 have HC2:=a_a.mk H
 clear H
 go_enter Tryd.func13,Tryd.ntmps13
 go_upto_region 1 with (first|((with_reducible refine a_B (N:=2) rfl ?_);(try (refine a_D (by rfl) ?_;dsimp only));refine a_A ?hg (N:=2) ?hd (cs:=#[.slice none 0 0]) (t:=24) ?hr ?_;(case hd => rfl);(case hg => rfl);(case hr => first|(go_simp;done)|(go_simp;rfl));intro d_c hg w3 hbox hb;have b_O:=a_a.mk (hbox);have n_l:=a_a.mk ((by rw [hg];exact (a_g (lup_ HB.out)) : w.heap.size ≤ d_c));have c_T:=a_a.mk ((by rw [hg];exact (a_g (lup_ HB.out)) : w.heap.size ≤ d_c));replace HB:=a_a.mk (a_i (lup_ HB.out) hb);clear hb hbox hg))
 (try simp only [Act.put,sa_,sb_,sc_])
 go_cut [20] (fun v20 wc => ∃ (kq : Nat) (x20_1 : Bool),v20 = .bool x20_1 ∧ a_a (a_w.j0 kq l0 x20_1 = some (r1,r2)) ∧ a_a (kq ≤ k) ∧ a_a (wc.heap[d_c]? = some (.cells #[(.slice none 0 0)] 24 (0,0))) ∧ a_a (Below w.heap.size w wc))
 case first =>
  have H:=HC2.out
  clear HC2
  by_cases c4 : (l0.length : Int) = 0
  ·rw [if_pos c4] at H
   have c4b0 : ((l0.length : Int) == 0) = true:=beq_iff_eq.mpr c4
   have c4b1 : ((l0.length : Int) != 0) = false:=bne_eq_false_iff_eq.mpr c4
   clear c4
   (first|rw [c4b0]|(simp only [b_0,c_g];rw [c4b0])|skip)
   have H':=a_a.mk H
   clear H
   go_wp2
   go_meet
   case rel => exact ⟨_,(true),(by first|rfl|(simp;done)|(simp [*];done)),H',⟨by first|omega|exact Nat.le_refl _⟩,⟨by (with_reducible repeat (first|refine a_l ?_ _|refine a_o ?_|refine a_k ?_ _));exact b_O.out⟩,⟨by repeat (first|(with_reducible first|exact HB.out|apply a_c|apply a_b|apply a_d|refine a_e ?_ c_T.out)|exact HB.out)⟩⟩
  rw [if_neg c4] at H
  have c4b0 : ((l0.length : Int) == 0) = false:=beq_eq_false_iff_ne.mpr c4
  have c4b1 : ((l0.length : Int) != 0) = true:=bne_iff_ne.mpr c4
  have c4b2 : ¬ (l0 = []):=fun h_ => c4 (by rw [h_];rfl)
  (first|rw [c4b0]|(simp only [b_0,c_g];rw [c4b0])|skip)
  by_cases c5 : 0 < (l0.length : Int)
  rotate_left
  ·rw [if_neg c5] at H
   exact absurd H (by simp)
  rw [if_pos c5] at H
  have c5b0 : decide (0 < (l0.length : Int)) = true:=decide_eq_true c5
  have c5b1 : decide (0 < l0.length) = true:=decide_eq_true (by omega)
  clear c5
  have H':=a_a.mk H
  clear H
  have p171 : 0 ≤ (0 : Int):=(by omega)
  have q171 : 0 < (l0.length : Int):=of_decide_eq_true (by first|(with_reducible assumption)|assumption)
  obtain ⟨ad171,e171,d_L⟩:=Kd.c_W HR0.out 0 p171 q171
  cases e171
  have qi171 : (0 < l0.length) = True:=eq_true (by omega)
  (try rw [show ((0 : Int)).toNat = 0 from rfl] at d_L)
  (try rw [Addr.add_zero'] at d_L)
  replace d_L:=(HB.out.cell (World.block_lt_of_cell? w _ d_L)).trans d_L
  replace p171:=eq_true p171
  replace q171:=eq_true q171
  go_wp2
  go_meet
  case rel => exact ⟨_,(decide ((l0.length : Int) ≤ (wrap64 (2 * (wrap64 (rd l0 0)))))),(by first|rfl|(simp;done)|(simp [*];done)),H',⟨by first|omega|exact Nat.le_refl _⟩,⟨by (with_reducible repeat (first|refine a_l ?_ _|refine a_o ?_|refine a_k ?_ _));exact b_O.out⟩,⟨by repeat (first|(with_reducible first|exact HB.out|apply a_c|apply a_b|apply a_d|refine a_e ?_ c_T.out)|exact HB.out)⟩⟩
 case rest =>
  clear HC2
  try clear c1
  try clear p1
  try clear q1
  try clear hx1
  try clear qi1
  try clear p2
  try clear c4
  try clear c4b0
  try clear c4b1
  try clear c4b2
  try clear c5
  try clear c5b0
  try clear c5b1
  try clear d_L
  try clear p171
  try clear q171
  obtain ⟨kq,x20_1,rfl,HA,HJ1,b_O,HB⟩:=hcut
  cases kq with
  | zero => exact absurd HA.out (by simp [a_w.j0])
  | succ kj1 =>
   have H:=HA.out
   clear HA
   simp only [a_w.j0] at H
   by_cases c6 : x20_1 = true
   ·subst c6
    have H1 : (some (([] : List (S56)),7)) = some (r1,r2):=by rw [if_pos rfl] at H;exact H
    clear H
    have H:=H1
    clear H1
    simp only [Option.some.injEq,Prod.mk.injEq] at H
    obtain ⟨rfl,rfl⟩:=H
    have c_8 : wc.cell? ⟨d_c,0,none⟩ = some (.slice none 0 0):=(a_m b_O.out 0).trans rfl
    have c_9:=a_j b_O.out 0
    go_wp2
    refine bodyPost_ret (b_T rfl _ _ d_c 24 #[.slice none 0 0] (0,0) _ rfl (by (with_reducible repeat (first|refine a_l ?_ _|refine a_o ?_|refine a_k ?_ _));refine a_R (cs:=#[.slice none 0 0]) ?_ 0 _ rfl;(with_reducible repeat (first|refine a_l ?_ _|refine a_o ?_|refine a_k ?_ _));exact b_O.out) Tryd.underlying24 rfl (by kernel_rfl)) rfl ?_
    exact ⟨_,by first|rfl|(simp [a_r,a_s] <;> rfl)|(simp [*, a_r,a_s] <;> rfl),by first|exact Kd.d_i _ _ _ _ _|exact Kd.e_C _ _ _ _ _|exact Kd.e_I _ _ _ _ _|exact Kd.e_D _ _ _ _ _|exact Kd.e_H _ _ _ _ _,by repeat (first|(with_reducible first|exact HB.out|apply a_c|apply a_b|apply a_d|refine a_e ?_ c_T.out)|exact HB.out)⟩
   replace c6:=Bool.eq_false_iff.mpr c6
   subst c6
   have H1 : (a_w.l0 kj1 l0 1 ([] : List (S56))) = some (r1,r2):=by rw [if_neg (show ¬ (false = true) by decide)] at H;exact H
   clear H
   have H:=H1
   clear H1
   have H':=a_a.mk H
   clear H
   go_wp2_with (first|((with_reducible refine a_B (N:=4) rfl ?_);(try (refine a_D (by rfl) ?_;dsimp only));refine a_A ?hg (N:=4) ?hd (cs:=#[.slice none 0 0]) (t:=24) ?hr ?_;(case hd => rfl);(case hg => rfl);(case hr => first|(go_simp;done)|(go_simp;rfl));intro d_K hg w8 hbox hb;have c_e:=a_a.mk (hbox);have n_m:=a_a.mk ((by rw [hg];exact (a_g (by repeat (first|(with_reducible first|exact HB.out|apply a_c|apply a_b|apply a_d|refine a_e ?_ c_T.out)|exact HB.out))) : w.heap.size ≤ d_K));have d_G:=a_a.mk ((by rw [hg];exact (a_g (by repeat (first|(with_reducible first|exact HB.out|apply a_c|apply a_b|apply a_d|refine a_e ?_ c_T.out)|exact HB.out))) : w.heap.size ≤ d_K));have d_e:=a_a.mk ((by rw [hg];exact Nat.ne_of_lt (a_M (bup_ b_O.out)) : d_c ≠ d_K));have d_T:=a_a.mk ((by rw [hg];exact Nat.ne_of_gt (a_M (bup_ b_O.out)) : d_K ≠ d_c));replace b_O:=a_a.mk (a_p (bup_ b_O.out) hb);replace HB:=a_a.mk (a_i (by repeat (first|(with_reducible first|exact HB.out|apply a_c|apply a_b|apply a_d|refine a_e ?_ c_T.out)|exact HB.out)) hb);clear hb hbox hg))
   go_loopg [5] kj1 (fun kq v5 w' => ∃ (x5_2 : Int) (x173000_2 : List (S56)) (u173000 : Value),v5 = .int .i64 x5_2 ∧ a_a (a_w.l0 kq l0 x5_2 x173000_2 = some (r1,r2)) ∧ a_a (kq ≤ kj1) ∧ a_a (Kd.R k56 56 w' w.heap.size (fun _ => True) u173000 x173000_2) ∧ a_a (w'.heap[d_c]? = some (.cells #[(.slice none 0 0)] 24 (0,0))) ∧ a_a (w'.heap[d_K]? = some (.cells #[u173000] 24 (0,0))) ∧ a_a (Below w.heap.size w w'))
   case atStart => exact ⟨(1),(([] : List (S56))),(.slice none 0 0),(by first|rfl|(simp;done)|(simp [*];done)),H',⟨Nat.le_refl _⟩,⟨by first|exact Kd.d_i _ _ _ _ _|exact Kd.e_C _ _ _ _ _|exact Kd.e_I _ _ _ _ _|exact Kd.e_D _ _ _ _ _|exact Kd.e_H _ _ _ _ _⟩,⟨by (with_reducible repeat (first|refine a_l ?_ _|refine a_o ?_|refine a_k ?_ _));exact b_O.out⟩,⟨by (with_reducible repeat (first|refine a_l ?_ _|refine a_o ?_|refine a_k ?_ _));exact c_e.out⟩,⟨by repeat (first|(with_reducible first|exact HB.out|apply a_c|apply a_b|apply a_d|refine a_e ?_ c_T.out|refine a_e ?_ d_G.out)|exact HB.out)⟩⟩
   case round =>
    clear H'
    try clear c1
    try clear p1
    try clear q1
    try clear hx1
    try clear qi1
    try clear p2
    try clear c4
    try clear c4b0
    try clear c4b1
    try clear c4b2
    try clear c5
    try clear c5b0
    try clear c5b1
    try clear c6
    try clear p6
    try clear c_8
    try clear c_9
    try clear d_L
    try clear p1
    try clear p171
    try clear p2
    try clear q1
    try clear q171
    obtain ⟨x5_2,x173000_2,u173000,rfl,HA,HK2,a_Z,b_O,c_e,HB⟩:=hrel
    cases gk with
    | zero => exact absurd HA.out (by simp [a_w.l0])
    | succ k2 =>
     have H:=HA.out
     clear HA
     simp only [a_w.l0] at H
     by_cases c9 : (wrap64 (x5_2 + 1)) < (l0.length : Int)
     rotate_left
     ·rw [if_neg c9] at H
      have c9b0 : decide ((wrap64 (x5_2 + 1)) < (l0.length : Int)) = false:=decide_eq_false c9
      clear c9
      replace H:=Option.bind_eq_some_iff.mp H
      obtain ⟨⟨t178,t181⟩,A190,H⟩:=H
      replace H : (if t181 = 0 then ((bytes_Equal.f t178 l0).bind fun t182 => (if t182 = true then (some (x173000_2,0)) else (some (([] : List (S56)),160)))) else (some (([] : List (S56)),160))) = some (r1,r2):=H
      have A19:=a_a.mk A190
      clear A190
      by_cases c20 : t181 = 0
      rotate_left
      ·rw [if_neg c20] at H
       have c20b0 : (t181 == 0) = false:=beq_eq_false_iff_ne.mpr c20
       have c20b1 : (t181 != 0) = true:=bne_iff_ne.mpr c20
       simp only [Option.some.injEq,Prod.mk.injEq] at H
       obtain ⟨rfl,rfl⟩:=H
       have n_H:=d_T.out
       have n_3:=d_e.out
       have l_9 : wr.cell? ⟨d_K,0,none⟩ = some (u173000):=(a_m c_e.out 0).trans rfl
       have m_y:=a_j c_e.out 0
       obtain ⟨Ao38,co38,eo38⟩:=Kd.a_V a_Z.out
       subst eo38
       go_wp2_with (first|((with_reducible refine a_y (f:=12) rfl ?_);refine a_U (some 48) rfl rfl Tryd.func12 (by kernel_rfl) rfl #[.agg #[.slice Ao38 x173000_2.length co38]] rfl (by (try simp only [List.map_toArray,List.map_cons,List.map_nil]);first|done|rfl|(simp only [List.length_drop,List.length_take];rfl)) ?_;(with_reducible refine (a_z.calls k2 _ _ x173000_2 t178 t181 _ ?side1 ?side2 A19.out).mono ?_);(case side1 => repeat (first|exact (Kd.a_v a_Z.out).2.2|(with_reducible refine Kd.a_I ?_ _)|(with_reducible refine Kd.a_J ?_ _)|(with_reducible refine Kd.a_T ?_)));(case side2 => exact (Kd.a_v a_Z.out).2.1);rintro e w39 ⟨v179,rfl,ho0,hb⟩;refine ⟨_,rfl,?_⟩;have e_n:=a_a.mk (Kd.a_S ho0 (a_g (by repeat (first|(with_reducible first|exact HB.out|apply a_c|apply a_b|apply a_d|refine a_e ?_ c_T.out|refine a_e ?_ d_G.out)|exact HB.out))));replace a_Z:=a_a.mk (Kd.a_C (rup_ a_Z.out) hb);replace b_O:=a_a.mk (a_p (bup_ b_O.out) hb);replace c_e:=a_a.mk (a_p (bup_ c_e.out) hb);replace HB:=a_a.mk (a_i (by repeat (first|(with_reducible first|exact HB.out|apply a_c|apply a_b|apply a_d|refine a_e ?_ c_T.out|refine a_e ?_ d_G.out)|exact HB.out)) hb);(try clear hb);(try clear hb2);(try clear hk);(try clear hi);(try clear ho0);have m_d : w39.cell? ⟨d_c,0,none⟩ = some (.slice none 0 0):=(a_m b_O.out 0).trans rfl;have m_C:=a_j b_O.out 0))
       refine bodyPost_ret (b_T rfl _ _ d_c 24 #[.slice none 0 0] (0,0) _ rfl (by (with_reducible repeat (first|refine a_l ?_ _|refine a_o ?_|refine a_k ?_ _));refine a_R (cs:=#[.slice none 0 0]) ?_ 0 _ rfl;(with_reducible repeat (first|refine a_l ?_ _|refine a_o ?_|refine a_k ?_ _));exact b_O.out) Tryd.underlying24 rfl (by kernel_rfl)) rfl ?_
       exact ⟨_,by first|rfl|(simp [a_r,a_s] <;> rfl)|(simp [*, a_r,a_s] <;> rfl),by first|exact Kd.d_i _ _ _ _ _|exact Kd.e_C _ _ _ _ _|exact Kd.e_I _ _ _ _ _|exact Kd.e_D _ _ _ _ _|exact Kd.e_H _ _ _ _ _,by repeat (first|(with_reducible first|exact HB.out|apply a_c|apply a_b|apply a_d|refine a_e ?_ c_T.out|refine a_e ?_ d_G.out)|exact HB.out)⟩
      rw [if_pos c20] at H
      have c20b0 : (t181 == 0) = true:=beq_iff_eq.mpr c20
      have c20b1 : (t181 != 0) = false:=bne_eq_false_iff_eq.mpr c20
      clear c20
      replace H:=Option.bind_eq_some_iff.mp H
      obtain ⟨t182,A210,H⟩:=H
      replace H : (if t182 = true then (some (x173000_2,0)) else (some (([] : List (S56)),160))) = some (r1,r2):=H
      have A21:=a_a.mk A210
      clear A210
      by_cases c22 : t182 = true
      ·subst c22
       have H1 : (some (x173000_2,0)) = some (r1,r2):=by rw [if_pos rfl] at H;exact H
       clear H
       have H:=H1
       clear H1
       simp only [Option.some.injEq,Prod.mk.injEq] at H
       obtain ⟨rfl,rfl⟩:=H
       have n_z:=d_T.out
       have n_V:=d_e.out
       have g_B : wr.cell? ⟨d_K,0,none⟩ = some (u173000):=(a_m c_e.out 0).trans rfl
       have g_N:=a_j c_e.out 0
       obtain ⟨Ao25,co25,eo25⟩:=Kd.a_V a_Z.out
       subst eo25
       go_wp2_with (first|((with_reducible refine a_y (f:=12) rfl ?_);refine a_U (some 48) rfl rfl Tryd.func12 (by kernel_rfl) rfl #[.agg #[.slice Ao25 x173000_2.length co25]] rfl (by (try simp only [List.map_toArray,List.map_cons,List.map_nil]);first|done|rfl|(simp only [List.length_drop,List.length_take];rfl)) ?_;(with_reducible refine (a_z.calls k2 _ _ x173000_2 t178 t181 _ ?side1 ?side2 A19.out).mono ?_);(case side1 => repeat (first|exact (Kd.a_v a_Z.out).2.2|(with_reducible refine Kd.a_I ?_ _)|(with_reducible refine Kd.a_J ?_ _)|(with_reducible refine Kd.a_T ?_)));(case side2 => exact (Kd.a_v a_Z.out).2.1);rintro e w26 ⟨v179,rfl,ho0,hb⟩;refine ⟨_,rfl,?_⟩;have e_n:=a_a.mk (Kd.a_S ho0 (a_g (by repeat (first|(with_reducible first|exact HB.out|apply a_c|apply a_b|apply a_d|refine a_e ?_ c_T.out|refine a_e ?_ d_G.out)|exact HB.out))));replace a_Z:=a_a.mk (Kd.a_C (rup_ a_Z.out) hb);replace b_O:=a_a.mk (a_p (bup_ b_O.out) hb);replace c_e:=a_a.mk (a_p (bup_ c_e.out) hb);replace HB:=a_a.mk (a_i (by repeat (first|(with_reducible first|exact HB.out|apply a_c|apply a_b|apply a_d|refine a_e ?_ c_T.out|refine a_e ?_ d_G.out)|exact HB.out)) hb);(try clear hb);(try clear hb2);(try clear hk);(try clear hi);(try clear ho0);obtain ⟨Ao27,co27,eo27⟩:=Kd.a_V e_n.out;subst eo27)|(go_at_call 15;(with_reducible refine (bytes_Equal.calls _ _ t178 _ _ l0 true _ ?side1 ?side2 ?side3 ?side4 A21.out).mono ?_);(case side1 => repeat (first|exact (Kd.a_v e_n.out).2.2|(with_reducible refine Kd.a_I ?_ _)|(with_reducible refine Kd.a_J ?_ _)|(with_reducible refine Kd.a_T ?_)));(case side2 => exact (Kd.a_v e_n.out).2.1);(case side3 => repeat (first|exact (Kd.a_P HR0.out HB.out)|(with_reducible refine Kd.a_I ?_ _)|(with_reducible refine Kd.a_J ?_ _)|(with_reducible refine Kd.a_T ?_)));(case side4 => exact HC0.out);rintro e w' ⟨rfl,⟨nd,rfl⟩⟩;(try (rw [f_k w26];generalize hq_ : World.drewN w26 _ = w26;replace e_n : a_a (Kd.R (Kd.int .u8) 5 w26 w.heap.size (fun _ => True) (.slice Ao27 t178.length co27) t178):=⟨by rw [← hq_];exact (rup_ e_n.out)⟩;replace a_Z : a_a (Kd.R k56 56 w26 w.heap.size (fun _ => True) (.slice Ao25 x173000_2.length co25) x173000_2):=⟨by rw [← hq_];exact (rup_ a_Z.out)⟩;replace b_O : a_a (w26.heap[d_c]? = some (.cells #[.slice none 0 0] 24 (0,0))):=⟨by rw [← hq_];exact (bup_ b_O.out)⟩;replace c_e : a_a (w26.heap[d_K]? = some (.cells #[.slice Ao25 x173000_2.length co25] 24 (0,0))):=⟨by rw [← hq_];exact (bup_ c_e.out)⟩;replace HB : a_a (Below w.heap.size w w26):=⟨by rw [← hq_];exact (by repeat (first|(with_reducible first|exact HB.out|apply a_c|apply a_b|apply a_d|refine a_e ?_ c_T.out|refine a_e ?_ d_G.out)|exact HB.out))⟩;clear hq_));have f_G : w26.cell? ⟨d_K,0,none⟩ = some (.slice Ao25 x173000_2.length co25):=(a_m c_e.out 0).trans rfl;have f_K:=a_j c_e.out 0;have g_C : w26.cell? ⟨d_c,0,none⟩ = some (.slice none 0 0):=(a_m b_O.out 0).trans rfl;have g_O:=a_j b_O.out 0))
       refine bodyPost_ret (b_T rfl _ _ d_c 24 #[.slice Ao25 x173000_2.length co25] (0,0) _ rfl (by (with_reducible repeat (first|refine a_l ?_ _|refine a_o ?_|refine a_k ?_ _));refine a_R (cs:=#[.slice none 0 0]) ?_ 0 _ rfl;(with_reducible repeat (first|refine a_l ?_ _|refine a_o ?_|refine a_k ?_ _));exact b_O.out) Tryd.underlying24 rfl (by kernel_rfl)) rfl ?_
       exact ⟨_,by first|rfl|(simp [a_r,a_s] <;> rfl)|(simp [*, a_r,a_s] <;> rfl),by (with_reducible repeat (first|apply Kd.a_G|apply Kd.a_H|apply Kd.a_O));exact Kd.a_Q (Kd.b_a (p:=⟨d_c,0,none⟩) (Kd.a_N a_Z.out b_O.out (by decide)) (fun _ hk => hk.2) (.slice Ao25 x173000_2.length co25)) (fun _ hk => trivial),by repeat (first|(with_reducible first|exact HB.out|apply a_c|apply a_b|apply a_d|refine a_e ?_ c_T.out|refine a_e ?_ d_G.out)|exact HB.out)⟩
      replace c22:=Bool.eq_false_iff.mpr c22
      subst c22
      have H1 : (some (([] : List (S56)),160)) = some (r1,r2):=by rw [if_neg (show ¬ (false = true) by decide)] at H;exact H
      clear H
      have H:=H1
      clear H1
      simp only [Option.some.injEq,Prod.mk.injEq] at H
      obtain ⟨rfl,rfl⟩:=H
      have n_E:=d_T.out
      have n_0:=d_e.out
      have f_H : wr.cell? ⟨d_K,0,none⟩ = some (u173000):=(a_m c_e.out 0).trans rfl
      have f_L:=a_j c_e.out 0
      obtain ⟨Ao32,co32,eo32⟩:=Kd.a_V a_Z.out
      subst eo32
      go_wp2_with (first|((with_reducible refine a_y (f:=12) rfl ?_);refine a_U (some 48) rfl rfl Tryd.func12 (by kernel_rfl) rfl #[.agg #[.slice Ao32 x173000_2.length co32]] rfl (by (try simp only [List.map_toArray,List.map_cons,List.map_nil]);first|done|rfl|(simp only [List.length_drop,List.length_take];rfl)) ?_;(with_reducible refine (a_z.calls k2 _ _ x173000_2 t178 t181 _ ?side1 ?side2 A19.out).mono ?_);(case side1 => repeat (first|exact (Kd.a_v a_Z.out).2.2|(with_reducible refine Kd.a_I ?_ _)|(with_reducible refine Kd.a_J ?_ _)|(with_reducible refine Kd.a_T ?_)));(case side2 => exact (Kd.a_v a_Z.out).2.1);rintro e w33 ⟨v179,rfl,ho0,hb⟩;refine ⟨_,rfl,?_⟩;have e_n:=a_a.mk (Kd.a_S ho0 (a_g (by repeat (first|(with_reducible first|exact HB.out|apply a_c|apply a_b|apply a_d|refine a_e ?_ c_T.out|refine a_e ?_ d_G.out)|exact HB.out))));replace a_Z:=a_a.mk (Kd.a_C (rup_ a_Z.out) hb);replace b_O:=a_a.mk (a_p (bup_ b_O.out) hb);replace c_e:=a_a.mk (a_p (bup_ c_e.out) hb);replace HB:=a_a.mk (a_i (by repeat (first|(with_reducible first|exact HB.out|apply a_c|apply a_b|apply a_d|refine a_e ?_ c_T.out|refine a_e ?_ d_G.out)|exact HB.out)) hb);(try clear hb);(try clear hb2);(try clear hk);(try clear hi);(try clear ho0);obtain ⟨Ao34,co34,eo34⟩:=Kd.a_V e_n.out;subst eo34)|(go_at_call 15;(with_reducible refine (bytes_Equal.calls _ _ t178 _ _ l0 false _ ?side1 ?side2 ?side3 ?side4 A21.out).mono ?_);(case side1 => repeat (first|exact (Kd.a_v e_n.out).2.2|(with_reducible refine Kd.a_I ?_ _)|(with_reducible refine Kd.a_J ?_ _)|(with_reducible refine Kd.a_T ?_)));(case side2 => exact (Kd.a_v e_n.out).2.1);(case side3 => repeat (first|exact (Kd.a_P HR0.out HB.out)|(with_reducible refine Kd.a_I ?_ _)|(with_reducible refine Kd.a_J ?_ _)|(with_reducible refine Kd.a_T ?_)));(case side4 => exact HC0.out);rintro e w' ⟨rfl,⟨nd,rfl⟩⟩;(try (rw [f_k w33];generalize hq_ : World.drewN w33 _ = w33;replace e_n : a_a (Kd.R (Kd.int .u8) 5 w33 w.heap.size (fun _ => True) (.slice Ao34 t178.length co34) t178):=⟨by rw [← hq_];exact (rup_ e_n.out)⟩;replace a_Z : a_a (Kd.R k56 56 w33 w.heap.size (fun _ => True) (.slice Ao32 x173000_2.length co32) x173000_2):=⟨by rw [← hq_];exact (rup_ a_Z.out)⟩;replace b_O : a_a (w33.heap[d_c]? = some (.cells #[.slice none 0 0] 24 (0,0))):=⟨by rw [← hq_];exact (bup_ b_O.out)⟩;replace c_e : a_a (w33.heap[d_K]? = some (.cells #[.slice Ao32 x173000_2.length co32] 24 (0,0))):=⟨by rw [← hq_];exact (bup_ c_e.out)⟩;replace HB : a_a (Below w.heap.size w w33):=⟨by rw [← hq_];exact (by repeat (first|(with_reducible first|exact HB.out|apply a_c|apply a_b|apply a_d|refine a_e ?_ c_T.out|refine a_e ?_ d_G.out)|exact HB.out))⟩;clear hq_));have i_q : w33.cell? ⟨d_c,0,none⟩ = some (.slice none 0 0):=(a_m b_O.out 0).trans rfl;have i_H:=a_j b_O.out 0))
      refine bodyPost_ret (b_T rfl _ _ d_c 24 #[.slice none 0 0] (0,0) _ rfl (by (with_reducible repeat (first|refine a_l ?_ _|refine a_o ?_|refine a_k ?_ _));refine a_R (cs:=#[.slice none 0 0]) ?_ 0 _ rfl;(with_reducible repeat (first|refine a_l ?_ _|refine a_o ?_|refine a_k ?_ _));exact b_O.out) Tryd.underlying24 rfl (by kernel_rfl)) rfl ?_
      exact ⟨_,by first|rfl|(simp [a_r,a_s] <;> rfl)|(simp [*, a_r,a_s] <;> rfl),by first|exact Kd.d_i _ _ _ _ _|exact Kd.e_C _ _ _ _ _|exact Kd.e_I _ _ _ _ _|exact Kd.e_D _ _ _ _ _|exact Kd.e_H _ _ _ _ _,by repeat (first|(with_reducible first|exact HB.out|apply a_c|apply a_b|apply a_d|refine a_e ?_ c_T.out|refine a_e ?_ d_G.out)|exact HB.out)⟩
     rw [if_pos c9] at H
     have c9b0 : decide ((wrap64 (x5_2 + 1)) < (l0.length : Int)) = true:=decide_eq_true c9
     clear c9
     by_cases c10 : 0 ≤ x5_2
     rotate_left
     ·rw [if_neg c10] at H
      exact absurd H (by simp)
     rw [if_pos c10] at H
     have c10b0 : decide (0 ≤ x5_2) = true:=decide_eq_true c10
     clear c10
     by_cases c11 : x5_2 < (l0.length : Int)
     rotate_left
     ·rw [if_neg c11] at H
      exact absurd H (by simp)
     rw [if_pos c11] at H
     have c11b0 : decide (x5_2 < (l0.length : Int)) = true:=decide_eq_true c11
     clear c11
     obtain ⟨ji12,hji12⟩ : ∃ j_ : Int,(wrap64 (x5_2 + 1)) = j_:=⟨_,rfl⟩
     replace H : (if 0 ≤ (ji12) then (if x173000_2.length < 8796093022208 then (a_w.l0 k2 l0 (wrap64 (x5_2 + 2)) (x173000_2 ++ [(⟨wrap64 (rd l0 x5_2),wrap64 (rd l0 (ji12))⟩ : S56)])) else (none)) else (none)) = some (r1,r2):=by first|(rw [hji12] at H;exact H)|(simp only [hji12] at H ⊢; exact H)
     (try rw [hji12] at c9b0)
     have hji12w : (IntKind.i64.wrap (x5_2 + 1)) = ji12:=(b_0 _).trans hji12
     by_cases c13 : 0 ≤ (ji12)
     rotate_left
     ·rw [if_neg c13] at H
      exact absurd H (by simp)
     rw [if_pos c13] at H
     have c13b0 : decide (0 ≤ (ji12)) = true:=decide_eq_true c13
     clear c13
     by_cases c14 : x173000_2.length < 8796093022208
     rotate_left
     ·rw [if_neg c14] at H
      exact absurd H (by simp)
     rw [if_pos c14] at H
     have LMc14:=a_a.mk c14
     clear c14
     obtain ⟨y175,hy175⟩ : ∃ y_ : List (S56),y_ = (x173000_2 ++ [(⟨wrap64 (rd l0 x5_2),wrap64 (rd l0 (ji12))⟩ : S56)]):=⟨_,rfl⟩
     replace H : (a_w.l0 k2 l0 (wrap64 (x5_2 + 2)) y175) = some (r1,r2):=by first|(rw [hy175];with_reducible exact H)|(have H2_:=(Option.bind_some _ _).symm.trans H;rw [hy175];with_reducible exact H2_)|(have H2_:=(Option.bind_some _ _).symm.trans H;with_reducible exact H2_)|with_reducible exact H|(rw [hy175];exact H)|exact H
     have Ny175:=a_a.mk hy175
     clear hy175
     have H':=a_a.mk H
     clear H
     try go_wp2
     replace a_Z:=a_a.mk (Kd.a_O a_Z.out)
     replace b_O:=a_a.mk (a_o b_O.out)
     replace c_e:=a_a.mk (a_o c_e.out)
     replace HB:=a_a.mk (a_d HB.out)
     have p173 : 0 ≤ (x5_2 : Int):=of_decide_eq_true (by first|(with_reducible assumption)|assumption)
     have q173 : x5_2 < (l0.length : Int):=of_decide_eq_true (by first|(with_reducible assumption)|assumption)
     obtain ⟨ad173,e173,e_U⟩:=Kd.c_W HR0.out x5_2 p173 q173
     have d_l:=e_U
     cases e173
     replace e_U:=(HB.out.cell (World.block_lt_of_cell? w _ e_U)).trans e_U
     replace p173:=eq_true p173
     replace q173:=eq_true q173
     have p174 : 0 ≤ ((ji12) : Int):=of_decide_eq_true (by first|(with_reducible assumption)|assumption)
     have q174 : (ji12) < (l0.length : Int):=of_decide_eq_true (by first|(with_reducible assumption)|assumption)
     obtain ⟨ad174,e174,e_V⟩:=Kd.c_W HR0.out (ji12) p174 q174
     have d_m:=e_V
     obtain rfl : ad173 = ad174:=(by injection e174)
     replace e_V:=(HB.out.cell (World.block_lt_of_cell? w _ e_V)).trans e_V
     replace p174:=eq_true p174
     replace q174:=eq_true q174
     refine h_l (n:=18) (S:=fun w' => w'.cell? ⟨d_K,0,none⟩ = some (u173000) ∧ w'.cell? (ad173.add (x5_2).toNat) = some (.int .u8 (rd l0 x5_2)) ∧ w'.cell? (ad173.add ((ji12)).toNat) = some (.int .u8 (rd l0 (ji12)))) (ds:=[17]) #[F_,F_,F_,F_,F_,F_,F_,F_,F_,F_,F_,F_,F_,F_,F_,F_,F_,F_] (by kernel_rfl) rfl rfl ⟨(a_m c_e.out 0).trans rfl,((HB.out.cell (World.block_lt_of_cell? w _ d_l)).trans d_l),((HB.out.cell (World.block_lt_of_cell? w _ d_m)).trans d_m)⟩ (fun hHeld => ?_);refine d_2 a_w.tab7 a_w.h_Y (fun HT_ HW_ => ?_)
     generalize wr.drew = w15 at a_Z b_O c_e HB e_U e_V hHeld ⊢
     refine pt_ 0 (some 29) #[T_,F_,F_,F_,F_,F_,F_,F_,F_,F_,F_,F_,F_,F_,F_,F_,F_,F_] HT_ ?_
     refine pt_ 2 (some 31) #[T_,F_,T_,F_,F_,F_,F_,F_,F_,F_,F_,F_,F_,F_,F_,F_,F_,F_] HT_ ?_
     refine pt_ 3 (some 32) #[T_,F_,T_,T_,F_,F_,F_,F_,F_,F_,F_,F_,F_,F_,F_,F_,F_,F_] HT_ ?_
     refine pt_ 4 (some 33) #[T_,F_,T_,T_,T_,F_,F_,F_,F_,F_,F_,F_,F_,F_,F_,F_,F_,F_] HT_ ?_
     refine pt_ 7 (some 36) #[T_,F_,T_,T_,T_,F_,F_,T_,F_,F_,F_,F_,F_,F_,F_,F_,F_,F_] HT_ ?_
     refine pt_ 8 (some 37) #[T_,F_,T_,T_,T_,F_,F_,T_,T_,F_,F_,F_,F_,F_,F_,F_,F_,F_] HT_ ?_
     refine pt_ 9 (some 38) #[T_,F_,T_,T_,T_,F_,F_,T_,T_,T_,F_,F_,F_,F_,F_,F_,F_,F_] HT_ ?_
     refine pt_ 10 (some 39) #[T_,F_,T_,T_,T_,F_,F_,T_,T_,T_,T_,F_,F_,F_,F_,F_,F_,F_] HT_ ?_
     refine d_0 (i:=1) (N:=some 30) (v:=?_) (a':=?_) #[T_,T_,T_,T_,T_,F_,F_,T_,T_,T_,T_,F_,F_,F_,F_,F_,F_,F_] rfl rfl (c_r HT_.out HW_.out (by kernel_rfl)) (fun _ _ _ h => h) (Or.inl ⟨by rfl,?_⟩) hHeld ?_ ?_
     rotate_left
     ·rintro w' ⟨s0,s1,s2⟩
      go_simp
      with_reducible rfl
     rotate_left
     ·simp only [Act.put,sa_,sb_,sc_,b_0,c_g]
      rfl
     refine d_0 (i:=5) (N:=some 34) (v:=?_) (a':=?_) #[T_,T_,T_,T_,T_,T_,F_,T_,T_,T_,T_,F_,F_,F_,F_,F_,F_,F_] rfl rfl (c_r HT_.out HW_.out (by kernel_rfl)) (fun _ _ _ h => h) (Or.inl ⟨by rfl,?_⟩) hHeld ?_ ?_
     rotate_left
     ·rintro w' ⟨s0,s1,s2⟩
      go_simp
      with_reducible rfl
     rotate_left
     ·simp only [Act.put,sa_,sb_,sc_,b_0,c_g]
      rfl
     refine pt_ 6 (some 35) #[T_,T_,T_,T_,T_,T_,T_,T_,T_,T_,T_,F_,F_,F_,F_,F_,F_,F_] HT_ ?_
     refine d_0 (i:=11) (N:=some 40) (v:=?_) (a':=?_) #[T_,T_,T_,T_,T_,T_,T_,T_,T_,T_,T_,T_,F_,F_,F_,F_,F_,F_] rfl rfl (c_r HT_.out HW_.out (by kernel_rfl)) (fun _ _ _ h => h) (Or.inl ⟨by rfl,?_⟩) hHeld ?_ ?_
     rotate_left
     ·rintro w' ⟨s0,s1,s2⟩
      go_simp
      with_reducible rfl
     rotate_left
     ·simp only [Act.put,sa_,sb_,sc_,b_0,c_g]
      rfl
     refine pt_ 12 (some 41) #[T_,T_,T_,T_,T_,T_,T_,T_,T_,T_,T_,T_,T_,F_,F_,F_,F_,F_] HT_ ?_
     refine pt_ 13 (some 42) #[T_,T_,T_,T_,T_,T_,T_,T_,T_,T_,T_,T_,T_,T_,F_,F_,F_,F_] HT_ ?_
     refine one_ (i:=14) (N:=some 43) #[T_,T_,T_,T_,T_,T_,T_,T_,T_,T_,T_,T_,T_,T_,T_,F_,F_,F_] rfl rfl (c_X HT_.out (by kernel_rfl)) (by decide) (fun K hK => ?_)
     refine j_c (w1:=?_) (v:=?_) (by rfl) rfl ?_ ?_
     rotate_left 2
     ·go_simp
      constructor
      ·rfl
      rfl
     refine hK.out _ _ ⟨(a_m (a_k c_e.out _) 0).trans rfl,(World.cell?_alloc_lt _ _ _ (World.block_lt_of_cell? _ _ (((HB.out.cell (World.block_lt_of_cell? w _ d_l)).trans d_l)))).trans (((HB.out.cell (World.block_lt_of_cell? w _ d_l)).trans d_l)),(World.cell?_alloc_lt _ _ _ (World.block_lt_of_cell? _ _ (((HB.out.cell (World.block_lt_of_cell? w _ d_m)).trans d_m)))).trans (((HB.out.cell (World.block_lt_of_cell? w _ d_m)).trans d_m))⟩ (fun hHeld => ?_)
     clear hK K
     refine e_f (a':=?_) ?_ ?_
     rotate_left
     ·show Act.put _ (some 43) _ = _
      simp only [Act.put,sa_,sb_,sc_,b_0,c_g]
      rfl
     refine one_ (i:=15) (N:=some 44) #[T_,T_,T_,T_,T_,T_,T_,T_,T_,T_,T_,T_,T_,T_,T_,T_,F_,F_] rfl rfl (c_X HT_.out (by kernel_rfl)) (by decide) (fun K hK => ?_)
     refine Kd.c_1 k56 (w0:=w) w.heap.size (by rfl) (.tmp 30) (.tmp 43) 22 56 (.agg #[(.int .i64 0),(.int .i64 0)]) 16 rfl Tryd.underlying22 g_b rfl (by decide) (by omega) u173000 x173000_2 (⟨wrap64 (rd l0 x5_2),wrap64 (rd l0 (ji12))⟩ : S56) [.int .i64 (wrap64 (rd l0 x5_2)),.int .i64 (wrap64 (rd l0 (ji12)))] (fun _ => True) (fun _ => False) rfl rfl ?aP (fun _ hk => hk.elim) ?aF ?aO ?aB ?aS ?aL ?_
     (case aP => exact g_0 _ _ _ (⟨wrap64 (rd l0 x5_2),wrap64 (rd l0 (ji12))⟩ : S56))
     (case aB => exact (by repeat (first|(with_reducible first|exact HB.out|apply a_c|apply a_b|apply a_d|refine a_e ?_ c_T.out|refine a_e ?_ d_G.out)|exact HB.out)))
     (case aF => exact (fun _ _ => trivial))
     (case aO => exact (rup_ a_Z.out))
     (case aS => exact (a_g (by repeat (first|(with_reducible first|exact HB.out|apply a_c|apply a_b|apply a_d|refine a_e ?_ c_T.out|refine a_e ?_ d_G.out)|exact HB.out))))
     (case aL => have:=LMc14.out;omega)
     intro v176 w16 ho hb hg hat
     rw [← Ny175.out] at ho
     have k_G:=a_a.mk (ho)
     replace b_O:=a_a.mk (b_x (g:=d_c) (o:=.cells #[.slice none 0 0] 24 (0,0)) (bup_ b_O.out) hg (Kd.R_ne a_Z.out b_O.out (by decide)))
     replace c_e:=a_a.mk (b_x (g:=d_K) (o:=.cells #[u173000] 24 (0,0)) (bup_ c_e.out) hg (Kd.R_ne a_Z.out c_e.out (by decide)))
     replace HB:=a_a.mk (hb)
     clear a_Z ho hb hg hat
     obtain ⟨Ao17,co17,eo17⟩:=Kd.a_V k_G.out
     (first|subst eo17|(injection eo17 with f1_ f2_ f3_;have f4_:=f1_.symm;have f5_:=f3_.symm;clear f1_ f2_ f3_;subst f4_;subst f5_))
     refine hK.out _ _ ⟨(a_m c_e.out 0).trans rfl,((HB.out.cell (World.block_lt_of_cell? w _ d_l)).trans d_l),((HB.out.cell (World.block_lt_of_cell? w _ d_m)).trans d_m)⟩ (fun hHeld => ?_)
     clear hK K
     refine e_f (a':=?_) ?_ ?_
     rotate_left
     ·show Act.put _ (some 44) _ = _
      simp only [Act.put,sa_,sb_,sc_,b_0,c_g]
      rfl
     refine pt_ 16 (some 45) #[T_,T_,T_,T_,T_,T_,T_,T_,T_,T_,T_,T_,T_,T_,T_,T_,T_,F_] HT_ ?_
     refine k_k (i:=17) (N:=none) #[T_,T_,T_,T_,T_,T_,T_,T_,T_,T_,T_,T_,T_,T_,T_,T_,T_,T_] rfl rfl (c_X HT_.out (by kernel_rfl)) (by decide) (fun K hK => ?_)
     have hs18 : w16.cell? ⟨d_K,0,none⟩ = some (u173000):=(a_m c_e.out 0).trans rfl
     have hfs18:=a_j c_e.out 0
     have hns18_0:=d_e.out
     have hms18_0:=d_T.out
     refine i_5 (w1:=?_) (by rfl) rfl ?_ ?_
     rotate_left
     ·go_simp
      rfl
     refine hK.out _ _ ?_
     clear hK K
     refine j_k (f_B HT_.out (by kernel_rfl)) ?_
     try go_wp2
     go_roundg k2
     case measure => have:=HJ1.out;have:=HK2.out;omega
     case rel => exact ⟨(wrap64 (x5_2 + 2)),(y175),(.slice Ao17 y175.length co17),(by first|rfl|(simp;done)|(simp [*];done)),H',⟨by have:=HJ1.out;have:=HK2.out;omega⟩,⟨by (with_reducible repeat (first|apply Kd.a_G|apply Kd.a_H|apply Kd.a_O));exact Kd.a_Q (Kd.b_a (p:=⟨d_K,0,none⟩) (Kd.a_N k_G.out c_e.out (by decide)) (fun _ hk => hk.2) (.slice Ao17 y175.length co17)) (fun _ hk => trivial)⟩,⟨by (with_reducible repeat (first|refine a_l ?_ _|refine a_o ?_|refine a_k ?_ _));refine a_9 ?_ d_e.out _;(with_reducible repeat (first|refine a_l ?_ _|refine a_o ?_|refine a_k ?_ _));exact b_O.out⟩,⟨by (with_reducible repeat (first|refine a_l ?_ _|refine a_o ?_|refine a_k ?_ _));refine a_R (cs:=#[u173000]) ?_ 0 _ rfl;(with_reducible repeat (first|refine a_l ?_ _|refine a_o ?_|refine a_k ?_ _));exact c_e.out⟩,⟨by repeat (first|(with_reducible first|exact HB.out|apply a_c|apply a_b|apply a_d|refine a_e ?_ c_T.out|refine a_e ?_ d_G.out)|exact HB.out)⟩⟩
end Go.Proofs.YtcpfcehfgenljaaDoor.Q
end
section
namespace Go.Proofs.YtcpfcehfgenljaaDoor.Q
open Go.RowKit Go.Proofs.YtcpfcehfgenljaaDoorW.PrintWords Go.Proofs.YtcpfcehfgenljaaDoorW.PrintLast Go.Proofs.YtcpfcehfgenljaaDoorW.PrintMore
set_option linter.unusedVariables false
set_option linter.unusedSimpArgs false
def a_n.l0 : Nat → List (S56) → Int → Int → List (S56) → Option (Bool)
 | 0,_,_,_,_ => none
 | k + 1,x6,x7,x8,x229000 => if x8 < x7 then (if 0 ≤ x8 then (if x8 < (x6.length : Int) then (if ((a_u x6 x8).f0) < 0 then (some false) else (if ((a_u x6 x8).f0) ≥ 4 then (some false) else (if ((a_u x6 x8).f1) < 0 then (some false) else (if ((a_u x6 x8).f1) ≥ 8 then (some false) else (a_n.l0 k x6 x7 (wrap64 (x8 + 1)) x229000))))) else (none)) else (none)) else (if (x229000.length : Int) ≥ 1 then (some (decide ((x229000.length : Int) ≤ 8))) else (some false))
def a_n.f (k : Nat) (l0_0 : List (S56)) : Option (Bool):=a_n.l0 k l0_0 (l0_0.length : Int) 0 l0_0
theorem a_n.b_D : ∀ k,(∀ y0 y1 y2 y3,LeO (a_n.l0 k y0 y1 y2 y3) (a_n.l0 (k + 1) y0 y1 y2 y3))
 | 0 => fun _ _ _ _ r h => by simp [a_n.l0] at h
 | k + 1 => by
  have ih0:=a_n.b_D k
  ·intro y0 y1 y2 y3
   unfold a_n.l0
   repeat' first
   | (with_reducible exact ih0 _ _ _ _)
   | (with_reducible exact LeO.refl _)
   | (with_reducible exact LeO.none _)
   | (with_reducible refine LeO.ite ?_ ?_)
   | (with_reducible refine LeO.bind ?_ (fun _ => ?_))
   | exact ih0 _ _ _ _
   | exact LeO.none _
   | refine LeO.ite ?_ ?_
   | refine LeO.bind ?_ (fun _ => ?_)
theorem a_n.mono : ∀ a0 k,LeO (a_n.f k a0) (a_n.f (k + 1) a0):=by
 intro a0 k
 have ih0:=a_n.b_D k
 unfold a_n.f
 repeat' first
  | (with_reducible exact ih0 _ _ _ _)
  | (with_reducible exact LeO.refl _)
  | (with_reducible exact LeO.none _)
  | (with_reducible refine LeO.ite ?_ ?_)
  | (with_reducible refine LeO.bind ?_ (fun _ => ?_))
  | exact ih0 _ _ _ _
  | exact LeO.none _
  | refine LeO.ite ?_ ?_
  | refine LeO.bind ?_ (fun _ => ?_)
set_option maxHeartbeats 8000000 in
set_option maxRecDepth 100000 in
theorem a_n.calls (k : Nat) (A0_0 : Option Addr) (c0_0 : Nat) (l0_0 : List (S56)) (r : Bool) (w : World) (hr0_0 : Kd.C k56 w A0_0 l0_0.length l0_0) (hc0_0 : l0_0.length ≤ c0_0) (h : a_n.f k l0_0 = some r) :
 Calls Tryd.prog 16 #[.agg #[.slice A0_0 l0_0.length c0_0]] w fun e w' => e = .returned (.bool r) ∧ Below w.heap.size w w':=by
 have hu24:=Tryd.underlying24
 have hu56:=Tryd.underlying56
 have b_M:=a_a.mk hr0_0
 have c_t:=a_a.mk hc0_0
 clear hr0_0 hc0_0
 have HB:=a_a.mk (Below.refl w.heap.size w)
 have H : (a_n.l0 k l0_0 (l0_0.length : Int) 0 l0_0) = some r:=h
 clear h
 have H':=a_a.mk H
 clear H
 go_enter Tryd.func16,Tryd.ntmps16
 go_wp2_with (first|((with_reducible refine a_B (N:=1) rfl ?_);(try (refine a_D (by rfl) ?_;dsimp only));refine a_A ?hg (N:=1) ?hd (cs:=#[.slice A0_0 l0_0.length c0_0]) (t:=24) ?hr ?_;(case hd => rfl);(case hg => rfl);(case hr => first|(go_simp;done)|(go_simp;rfl));intro d_w hg w2 hbox hb;have c_l:=a_a.mk (hbox);have n_n:=a_a.mk ((by rw [hg];exact (a_g (lup_ HB.out)) : w.heap.size ≤ d_w));have c_L:=a_a.mk ((by rw [hg];exact (a_g (lup_ HB.out)) : w.heap.size ≤ d_w));replace HB:=a_a.mk (a_i (lup_ HB.out) hb);clear hb hbox hg;have i_r : w2.cell? ⟨d_w,0,none⟩ = some (.slice A0_0 l0_0.length c0_0):=(a_m c_l.out 0).trans rfl;have i_I:=a_j c_l.out 0))
 go_loopg [8] k (fun kq v8 w' => ∃ (x8_1 : Int),v8 = .int .i64 x8_1 ∧ a_a (a_n.l0 kq l0_0 (l0_0.length : Int) x8_1 l0_0 = some r) ∧ a_a (kq ≤ k) ∧ a_a (w'.heap[d_w]? = some (.cells #[(.slice A0_0 l0_0.length c0_0)] 24 (0,0))) ∧ a_a (Below w.heap.size w w'))
 case atStart => exact ⟨(0),(by first|rfl|(simp;done)|(simp [*];done)),H',⟨Nat.le_refl _⟩,⟨by (with_reducible repeat (first|refine a_l ?_ _|refine a_o ?_|refine a_k ?_ _));exact c_l.out⟩,⟨by repeat (first|(with_reducible first|exact HB.out|apply a_c|apply a_b|apply a_d|refine a_e ?_ c_L.out)|exact HB.out)⟩⟩
 case round =>
  clear H'
  try clear c1
  try clear p2
  try clear i_r
  try clear i_I
  obtain ⟨x8_1,rfl,HA,HK1,c_l,HB⟩:=hrel
  cases gk with
  | zero => exact absurd HA.out (by simp [a_n.l0])
  | succ k1 =>
   have H:=HA.out
   clear HA
   simp only [a_n.l0] at H
   by_cases c4 : x8_1 < (l0_0.length : Int)
   rotate_left
   ·rw [if_neg c4] at H
    have c4b0 : decide (x8_1 < (l0_0.length : Int)) = false:=decide_eq_false c4
    clear c4
    by_cases c26 : (l0_0.length : Int) ≥ 1
    ·rw [if_pos c26] at H
     have c26b0 : decide (1 ≤ (l0_0.length : Int)) = true:=decide_eq_true c26
     have c26b1 : decide (1 ≤ l0_0.length) = true:=decide_eq_true (by omega)
     clear c26
     obtain rfl:=Option.some.inj H
     have e_O : wr.cell? ⟨d_w,0,none⟩ = some (.slice A0_0 l0_0.length c0_0):=(a_m c_l.out 0).trans rfl
     have e_R:=a_j c_l.out 0
     go_wp2
     go_ret
     exact ⟨by first|rfl|(simp [a_r,a_s] <;> rfl)|(simp [*, a_r,a_s] <;> rfl),by repeat (first|(with_reducible first|exact HB.out|apply a_c|apply a_b|apply a_d|refine a_e ?_ c_L.out)|exact HB.out)⟩
    rw [if_neg c26] at H
    have c26b0 : decide (1 ≤ (l0_0.length : Int)) = false:=decide_eq_false c26
    have c26b1 : decide (1 ≤ l0_0.length) = false:=decide_eq_false (by omega)
    clear c26
    obtain rfl:=Option.some.inj H
    have f_G : wr.cell? ⟨d_w,0,none⟩ = some (.slice A0_0 l0_0.length c0_0):=(a_m c_l.out 0).trans rfl
    have f_K:=a_j c_l.out 0
    go_wp2
    go_ret
    exact ⟨by first|rfl|(simp [a_r,a_s] <;> rfl)|(simp [*, a_r,a_s] <;> rfl),by repeat (first|(with_reducible first|exact HB.out|apply a_c|apply a_b|apply a_d|refine a_e ?_ c_L.out)|exact HB.out)⟩
   rw [if_pos c4] at H
   have c4b0 : decide (x8_1 < (l0_0.length : Int)) = true:=decide_eq_true c4
   clear c4
   by_cases c5 : 0 ≤ x8_1
   rotate_left
   ·rw [if_neg c5] at H
    exact absurd H (by simp)
   rw [if_pos c5] at H
   have c5b0 : decide (0 ≤ x8_1) = true:=decide_eq_true c5
   clear c5
   by_cases c6 : x8_1 < (l0_0.length : Int)
   rotate_left
   ·rw [if_neg c6] at H
    exact absurd H (by simp)
   rw [if_pos c6] at H
   have c6b0 : decide (x8_1 < (l0_0.length : Int)) = true:=decide_eq_true c6
   clear c6
   by_cases c7 : ((a_u l0_0 x8_1).f0) < 0
   ·rw [if_pos c7] at H
    have c7b0 : decide (((a_u l0_0 x8_1).f0) < 0) = true:=decide_eq_true c7
    clear c7
    obtain rfl:=Option.some.inj H
    have p229 : 0 ≤ (x8_1 : Int):=of_decide_eq_true (by first|(with_reducible assumption)|assumption)
    have q229 : x8_1 < (l0_0.length : Int):=of_decide_eq_true (by first|(with_reducible assumption)|assumption)
    obtain ⟨ad229,e229,b_P,b_Q⟩:=c_N b_M.out x8_1 p229 q229
    cases e229
    replace b_P:=(HB.out.cell (World.block_lt_of_cell? w _ b_P)).trans b_P
    replace b_Q:=(HB.out.cell (World.block_lt_of_cell? w _ b_Q)).trans b_Q
    replace p229:=eq_true p229
    replace q229:=eq_true q229
    go_wp2_with (first|((with_reducible refine a_B (N:=4) rfl ?_);(try (refine a_D (by rfl) ?_;dsimp only));refine a_A ?hg (N:=4) ?hd (cs:=#[.int .i64 0,.int .i64 0]) (t:=56) ?hr ?_;(case hd => rfl);(case hg => rfl);(case hr => first|(go_simp;done)|(go_simp;rfl));intro c_d hg w8 hbox hb;have c_F:=a_a.mk (hbox);have j_f:=a_a.mk ((by rw [hg];exact (a_g (by repeat (first|(with_reducible first|exact HB.out|apply a_c|apply a_b|apply a_d|refine a_e ?_ c_L.out)|exact HB.out))) : w.heap.size ≤ c_d));have f_s:=a_a.mk ((by rw [hg];exact (a_g (by repeat (first|(with_reducible first|exact HB.out|apply a_c|apply a_b|apply a_d|refine a_e ?_ c_L.out)|exact HB.out))) : w.heap.size ≤ c_d));have b_7:=a_a.mk ((by rw [hg];exact Nat.ne_of_lt (a_M (bup_ c_l.out)) : d_w ≠ c_d));have c_o:=a_a.mk ((by rw [hg];exact Nat.ne_of_gt (a_M (bup_ c_l.out)) : c_d ≠ d_w));replace c_l:=a_a.mk (a_p (bup_ c_l.out) hb);replace HB:=a_a.mk (a_i (by repeat (first|(with_reducible first|exact HB.out|apply a_c|apply a_b|apply a_d|refine a_e ?_ c_L.out)|exact HB.out)) hb);clear hb hbox hg;have hnb9:=c_o.out;have hnc9:=b_7.out;have g_y : w8.cell? ⟨c_d,0,none⟩ = some (.int .i64 0):=(a_m c_F.out 0).trans rfl;have j_6 : w8.cell? ⟨c_d,1,none⟩ = some (.int .i64 0):=(a_m c_F.out 1).trans rfl;have g_K:=a_j c_F.out 0;have k_d:=a_j c_F.out 1))
    go_ret
    exact ⟨by first|rfl|(simp [a_r,a_s] <;> rfl)|(simp [*, a_r,a_s] <;> rfl),by repeat (first|(with_reducible first|exact HB.out|apply a_c|apply a_b|apply a_d|refine a_e ?_ c_L.out|refine a_e ?_ f_s.out)|exact HB.out)⟩
   rw [if_neg c7] at H
   have c7b0 : decide (((a_u l0_0 x8_1).f0) < 0) = false:=decide_eq_false c7
   clear c7
   by_cases c11 : ((a_u l0_0 x8_1).f0) ≥ 4
   ·rw [if_pos c11] at H
    have c11b0 : decide (4 ≤ ((a_u l0_0 x8_1).f0)) = true:=decide_eq_true c11
    clear c11
    obtain rfl:=Option.some.inj H
    have p229 : 0 ≤ (x8_1 : Int):=of_decide_eq_true (by first|(with_reducible assumption)|assumption)
    have q229 : x8_1 < (l0_0.length : Int):=of_decide_eq_true (by first|(with_reducible assumption)|assumption)
    obtain ⟨ad229,e229,b_P,b_Q⟩:=c_N b_M.out x8_1 p229 q229
    cases e229
    replace b_P:=(HB.out.cell (World.block_lt_of_cell? w _ b_P)).trans b_P
    replace b_Q:=(HB.out.cell (World.block_lt_of_cell? w _ b_Q)).trans b_Q
    replace p229:=eq_true p229
    replace q229:=eq_true q229
    go_wp2_with (first|((with_reducible refine a_B (N:=4) rfl ?_);(try (refine a_D (by rfl) ?_;dsimp only));refine a_A ?hg (N:=4) ?hd (cs:=#[.int .i64 0,.int .i64 0]) (t:=56) ?hr ?_;(case hd => rfl);(case hg => rfl);(case hr => first|(go_simp;done)|(go_simp;rfl));intro c_d hg w12 hbox hb;have c_F:=a_a.mk (hbox);have j_f:=a_a.mk ((by rw [hg];exact (a_g (by repeat (first|(with_reducible first|exact HB.out|apply a_c|apply a_b|apply a_d|refine a_e ?_ c_L.out)|exact HB.out))) : w.heap.size ≤ c_d));have f_s:=a_a.mk ((by rw [hg];exact (a_g (by repeat (first|(with_reducible first|exact HB.out|apply a_c|apply a_b|apply a_d|refine a_e ?_ c_L.out)|exact HB.out))) : w.heap.size ≤ c_d));have b_7:=a_a.mk ((by rw [hg];exact Nat.ne_of_lt (a_M (bup_ c_l.out)) : d_w ≠ c_d));have c_o:=a_a.mk ((by rw [hg];exact Nat.ne_of_gt (a_M (bup_ c_l.out)) : c_d ≠ d_w));replace c_l:=a_a.mk (a_p (bup_ c_l.out) hb);replace HB:=a_a.mk (a_i (by repeat (first|(with_reducible first|exact HB.out|apply a_c|apply a_b|apply a_d|refine a_e ?_ c_L.out)|exact HB.out)) hb);clear hb hbox hg;have n_v:=c_o.out;have n_R:=b_7.out;have i_k : w12.cell? ⟨c_d,0,none⟩ = some (.int .i64 0):=(a_m c_F.out 0).trans rfl;have l_Y : w12.cell? ⟨c_d,1,none⟩ = some (.int .i64 0):=(a_m c_F.out 1).trans rfl;have i_B:=a_j c_F.out 0;have m_n:=a_j c_F.out 1))
    go_ret
    exact ⟨by first|rfl|(simp [a_r,a_s] <;> rfl)|(simp [*, a_r,a_s] <;> rfl),by repeat (first|(with_reducible first|exact HB.out|apply a_c|apply a_b|apply a_d|refine a_e ?_ c_L.out|refine a_e ?_ f_s.out)|exact HB.out)⟩
   rw [if_neg c11] at H
   have c11b0 : decide (4 ≤ ((a_u l0_0 x8_1).f0)) = false:=decide_eq_false c11
   clear c11
   by_cases c15 : ((a_u l0_0 x8_1).f1) < 0
   ·rw [if_pos c15] at H
    have c15b0 : decide (((a_u l0_0 x8_1).f1) < 0) = true:=decide_eq_true c15
    clear c15
    obtain rfl:=Option.some.inj H
    have p229 : 0 ≤ (x8_1 : Int):=of_decide_eq_true (by first|(with_reducible assumption)|assumption)
    have q229 : x8_1 < (l0_0.length : Int):=of_decide_eq_true (by first|(with_reducible assumption)|assumption)
    obtain ⟨ad229,e229,b_P,b_Q⟩:=c_N b_M.out x8_1 p229 q229
    cases e229
    replace b_P:=(HB.out.cell (World.block_lt_of_cell? w _ b_P)).trans b_P
    replace b_Q:=(HB.out.cell (World.block_lt_of_cell? w _ b_Q)).trans b_Q
    replace p229:=eq_true p229
    replace q229:=eq_true q229
    go_wp2_with (first|((with_reducible refine a_B (N:=4) rfl ?_);(try (refine a_D (by rfl) ?_;dsimp only));refine a_A ?hg (N:=4) ?hd (cs:=#[.int .i64 0,.int .i64 0]) (t:=56) ?hr ?_;(case hd => rfl);(case hg => rfl);(case hr => first|(go_simp;done)|(go_simp;rfl));intro c_d hg w16 hbox hb;have c_F:=a_a.mk (hbox);have j_f:=a_a.mk ((by rw [hg];exact (a_g (by repeat (first|(with_reducible first|exact HB.out|apply a_c|apply a_b|apply a_d|refine a_e ?_ c_L.out)|exact HB.out))) : w.heap.size ≤ c_d));have f_s:=a_a.mk ((by rw [hg];exact (a_g (by repeat (first|(with_reducible first|exact HB.out|apply a_c|apply a_b|apply a_d|refine a_e ?_ c_L.out)|exact HB.out))) : w.heap.size ≤ c_d));have b_7:=a_a.mk ((by rw [hg];exact Nat.ne_of_lt (a_M (bup_ c_l.out)) : d_w ≠ c_d));have c_o:=a_a.mk ((by rw [hg];exact Nat.ne_of_gt (a_M (bup_ c_l.out)) : c_d ≠ d_w));replace c_l:=a_a.mk (a_p (bup_ c_l.out) hb);replace HB:=a_a.mk (a_i (by repeat (first|(with_reducible first|exact HB.out|apply a_c|apply a_b|apply a_d|refine a_e ?_ c_L.out)|exact HB.out)) hb);clear hb hbox hg;have m_L:=c_o.out;have m_R:=b_7.out;have i_l : w16.cell? ⟨c_d,0,none⟩ = some (.int .i64 0):=(a_m c_F.out 0).trans rfl;have l_0 : w16.cell? ⟨c_d,1,none⟩ = some (.int .i64 0):=(a_m c_F.out 1).trans rfl;have i_C:=a_j c_F.out 0;have m_p:=a_j c_F.out 1))
    go_ret
    exact ⟨by first|rfl|(simp [a_r,a_s] <;> rfl)|(simp [*, a_r,a_s] <;> rfl),by repeat (first|(with_reducible first|exact HB.out|apply a_c|apply a_b|apply a_d|refine a_e ?_ c_L.out|refine a_e ?_ f_s.out)|exact HB.out)⟩
   rw [if_neg c15] at H
   have c15b0 : decide (((a_u l0_0 x8_1).f1) < 0) = false:=decide_eq_false c15
   clear c15
   by_cases c19 : ((a_u l0_0 x8_1).f1) ≥ 8
   ·rw [if_pos c19] at H
    have c19b0 : decide (8 ≤ ((a_u l0_0 x8_1).f1)) = true:=decide_eq_true c19
    clear c19
    obtain rfl:=Option.some.inj H
    have p229 : 0 ≤ (x8_1 : Int):=of_decide_eq_true (by first|(with_reducible assumption)|assumption)
    have q229 : x8_1 < (l0_0.length : Int):=of_decide_eq_true (by first|(with_reducible assumption)|assumption)
    obtain ⟨ad229,e229,b_P,b_Q⟩:=c_N b_M.out x8_1 p229 q229
    cases e229
    replace b_P:=(HB.out.cell (World.block_lt_of_cell? w _ b_P)).trans b_P
    replace b_Q:=(HB.out.cell (World.block_lt_of_cell? w _ b_Q)).trans b_Q
    replace p229:=eq_true p229
    replace q229:=eq_true q229
    go_wp2_with (first|((with_reducible refine a_B (N:=4) rfl ?_);(try (refine a_D (by rfl) ?_;dsimp only));refine a_A ?hg (N:=4) ?hd (cs:=#[.int .i64 0,.int .i64 0]) (t:=56) ?hr ?_;(case hd => rfl);(case hg => rfl);(case hr => first|(go_simp;done)|(go_simp;rfl));intro c_d hg w20 hbox hb;have c_F:=a_a.mk (hbox);have j_f:=a_a.mk ((by rw [hg];exact (a_g (by repeat (first|(with_reducible first|exact HB.out|apply a_c|apply a_b|apply a_d|refine a_e ?_ c_L.out)|exact HB.out))) : w.heap.size ≤ c_d));have f_s:=a_a.mk ((by rw [hg];exact (a_g (by repeat (first|(with_reducible first|exact HB.out|apply a_c|apply a_b|apply a_d|refine a_e ?_ c_L.out)|exact HB.out))) : w.heap.size ≤ c_d));have b_7:=a_a.mk ((by rw [hg];exact Nat.ne_of_lt (a_M (bup_ c_l.out)) : d_w ≠ c_d));have c_o:=a_a.mk ((by rw [hg];exact Nat.ne_of_gt (a_M (bup_ c_l.out)) : c_d ≠ d_w));replace c_l:=a_a.mk (a_p (bup_ c_l.out) hb);replace HB:=a_a.mk (a_i (by repeat (first|(with_reducible first|exact HB.out|apply a_c|apply a_b|apply a_d|refine a_e ?_ c_L.out)|exact HB.out)) hb);clear hb hbox hg;have m_M:=c_o.out;have m_S:=b_7.out;have e_N : w20.cell? ⟨c_d,0,none⟩ = some (.int .i64 0):=(a_m c_F.out 0).trans rfl;have i_n : w20.cell? ⟨c_d,1,none⟩ = some (.int .i64 0):=(a_m c_F.out 1).trans rfl;have e_Q:=a_j c_F.out 0;have i_E:=a_j c_F.out 1))
    go_ret
    exact ⟨by first|rfl|(simp [a_r,a_s] <;> rfl)|(simp [*, a_r,a_s] <;> rfl),by repeat (first|(with_reducible first|exact HB.out|apply a_c|apply a_b|apply a_d|refine a_e ?_ c_L.out|refine a_e ?_ f_s.out)|exact HB.out)⟩
   rw [if_neg c19] at H
   have c19b0 : decide (8 ≤ ((a_u l0_0 x8_1).f1)) = false:=decide_eq_false c19
   clear c19
   have H':=a_a.mk H
   clear H
   have p229 : 0 ≤ (x8_1 : Int):=of_decide_eq_true (by first|(with_reducible assumption)|assumption)
   have q229 : x8_1 < (l0_0.length : Int):=of_decide_eq_true (by first|(with_reducible assumption)|assumption)
   obtain ⟨ad229,e229,b_P,b_Q⟩:=c_N b_M.out x8_1 p229 q229
   cases e229
   replace b_P:=(HB.out.cell (World.block_lt_of_cell? w _ b_P)).trans b_P
   replace b_Q:=(HB.out.cell (World.block_lt_of_cell? w _ b_Q)).trans b_Q
   replace p229:=eq_true p229
   replace q229:=eq_true q229
   go_wp2_with (first|((with_reducible refine a_B (N:=4) rfl ?_);(try (refine a_D (by rfl) ?_;dsimp only));refine a_A ?hg (N:=4) ?hd (cs:=#[.int .i64 0,.int .i64 0]) (t:=56) ?hr ?_;(case hd => rfl);(case hg => rfl);(case hr => first|(go_simp;done)|(go_simp;rfl));intro c_d hg w23 hbox hb;have c_F:=a_a.mk (hbox);have j_f:=a_a.mk ((by rw [hg];exact (a_g (by repeat (first|(with_reducible first|exact HB.out|apply a_c|apply a_b|apply a_d|refine a_e ?_ c_L.out)|exact HB.out))) : w.heap.size ≤ c_d));have f_s:=a_a.mk ((by rw [hg];exact (a_g (by repeat (first|(with_reducible first|exact HB.out|apply a_c|apply a_b|apply a_d|refine a_e ?_ c_L.out)|exact HB.out))) : w.heap.size ≤ c_d));have b_7:=a_a.mk ((by rw [hg];exact Nat.ne_of_lt (a_M (bup_ c_l.out)) : d_w ≠ c_d));have c_o:=a_a.mk ((by rw [hg];exact Nat.ne_of_gt (a_M (bup_ c_l.out)) : c_d ≠ d_w));replace c_l:=a_a.mk (a_p (bup_ c_l.out) hb);replace HB:=a_a.mk (a_i (by repeat (first|(with_reducible first|exact HB.out|apply a_c|apply a_b|apply a_d|refine a_e ?_ c_L.out)|exact HB.out)) hb);clear hb hbox hg;have n_A:=c_o.out;have n_W:=b_7.out;have i_o : w23.cell? ⟨c_d,0,none⟩ = some (.int .i64 0):=(a_m c_F.out 0).trans rfl;have l_3 : w23.cell? ⟨c_d,1,none⟩ = some (.int .i64 0):=(a_m c_F.out 1).trans rfl;have i_F:=a_j c_F.out 0;have m_s:=a_j c_F.out 1))
   go_roundg k1
   case measure => have:=HK1.out;omega
   case rel => exact ⟨(wrap64 (x8_1 + 1)),(by first|rfl|(simp;done)|(simp [*];done)),H',⟨by have:=HK1.out;omega⟩,⟨by (with_reducible repeat (first|refine a_l ?_ _|refine a_o ?_|refine a_k ?_ _));refine a_9 ?_ b_7.out _;(with_reducible repeat (first|refine a_l ?_ _|refine a_o ?_|refine a_k ?_ _));refine a_9 ?_ b_7.out _;(with_reducible repeat (first|refine a_l ?_ _|refine a_o ?_|refine a_k ?_ _));exact c_l.out⟩,⟨by repeat (first|(with_reducible first|exact HB.out|apply a_c|apply a_b|apply a_d|refine a_e ?_ c_L.out|refine a_e ?_ f_s.out)|exact HB.out)⟩⟩
end Go.Proofs.YtcpfcehfgenljaaDoor.Q
end
section
namespace Go.Proofs.YtcpfcehfgenljaaDoor.Q
open Go.RowKit Go.Proofs.YtcpfcehfgenljaaDoorW.PrintWords Go.Proofs.YtcpfcehfgenljaaDoorW.PrintLast Go.Proofs.YtcpfcehfgenljaaDoorW.PrintMore
set_option linter.unusedVariables false
set_option linter.unusedSimpArgs false
attribute [local go_sem high] k_Q
def a_t.l0 : Nat → Int → Int → List (S56) → List (S56) → Option (Bool)
 | 0,_,_,_,_ => none
 | k + 1,x15,x16,x247000,x248000 => if x16 < x15 then (if 0 ≤ x16 then (if x16 < (x247000.length : Int) then (if x16 < (x248000.length : Int) then (if (!(((a_u x247000 x16).f0) == ((a_u x248000 x16).f0)) || (!(((a_u x247000 x16).f1) == ((a_u x248000 x16).f1)))) = true then (some false) else (a_t.l0 k x15 (wrap64 (x16 + 1)) x247000 x248000)) else (none)) else (none)) else (none)) else (some true)
def a_t.f (k : Nat) (l0_0 : List (S56)) (l1_0 : List (S56)) : Option (Bool):=if (l0_0.length : Int) = (l1_0.length : Int) then (a_t.l0 k (l0_0.length : Int) 0 l0_0 l1_0) else (some false)
theorem a_t.b_D : ∀ k,(∀ y0 y1 y2 y3,LeO (a_t.l0 k y0 y1 y2 y3) (a_t.l0 (k + 1) y0 y1 y2 y3))
 | 0 => fun _ _ _ _ r h => by simp [a_t.l0] at h
 | k + 1 => by
  have ih0:=a_t.b_D k
  ·intro y0 y1 y2 y3
   unfold a_t.l0
   repeat' first
   | (with_reducible exact ih0 _ _ _ _)
   | (with_reducible exact LeO.refl _)
   | (with_reducible exact LeO.none _)
   | (with_reducible refine LeO.ite ?_ ?_)
   | (with_reducible refine LeO.bind ?_ (fun _ => ?_))
   | exact ih0 _ _ _ _
   | exact LeO.none _
   | refine LeO.ite ?_ ?_
   | refine LeO.bind ?_ (fun _ => ?_)
theorem a_t.mono : ∀ a0 a1 k,LeO (a_t.f k a0 a1) (a_t.f (k + 1) a0 a1):=by
 intro a0 a1 k
 have ih0:=a_t.b_D k
 unfold a_t.f
 repeat' first
  | (with_reducible exact ih0 _ _ _ _)
  | (with_reducible exact LeO.refl _)
  | (with_reducible exact LeO.none _)
  | (with_reducible refine LeO.ite ?_ ?_)
  | (with_reducible refine LeO.bind ?_ (fun _ => ?_))
  | exact ih0 _ _ _ _
  | exact LeO.none _
  | refine LeO.ite ?_ ?_
  | refine LeO.bind ?_ (fun _ => ?_)
set_option maxHeartbeats 8000000 in
set_option maxRecDepth 100000 in
theorem a_t.calls (k : Nat) (A0_0 : Option Addr) (c0_0 : Nat) (l0_0 : List (S56)) (A1_0 : Option Addr) (c1_0 : Nat) (l1_0 : List (S56)) (r : Bool) (w : World) (hr0_0 : Kd.C k56 w A0_0 l0_0.length l0_0) (hc0_0 : l0_0.length ≤ c0_0) (hr1_0 : Kd.C k56 w A1_0 l1_0.length l1_0) (hc1_0 : l1_0.length ≤ c1_0) (h : a_t.f k l0_0 l1_0 = some r) :
 Calls Tryd.prog 24 #[.agg #[.slice A0_0 l0_0.length c0_0],.agg #[.slice A1_0 l1_0.length c1_0]] w fun e w' => e = .returned (.bool r) ∧ Below w.heap.size w w':=by
 have hu24:=Tryd.underlying24
 have hu56:=Tryd.underlying56
 have b_M:=a_a.mk hr0_0
 have c_t:=a_a.mk hc0_0
 clear hr0_0 hc0_0
 have k_I:=a_a.mk hr1_0
 have n_s:=a_a.mk hc1_0
 clear hr1_0 hc1_0
 have HB:=a_a.mk (Below.refl w.heap.size w)
 have H : (if (l0_0.length : Int) = (l1_0.length : Int) then (a_t.l0 k (l0_0.length : Int) 0 l0_0 l1_0) else (some false)) = some r:=h
 clear h
 by_cases c3 : (l0_0.length : Int) = (l1_0.length : Int)
 rotate_left
 ·rw [if_neg c3] at H
  have c3b0 : ((l0_0.length : Int) == (l1_0.length : Int)) = false:=beq_eq_false_iff_ne.mpr c3
  have c3b1 : ((l0_0.length : Int) != (l1_0.length : Int)) = true:=bne_iff_ne.mpr c3
  have c3b2 : (l0_0.length == l1_0.length) = false:=by first|simpa using c3|(simp at c3 ⊢; omega)
  obtain rfl:=Option.some.inj H
  go_enter Tryd.func24,Tryd.ntmps24
  go_wp2_with (first|((with_reducible refine a_B (N:=2) rfl ?_);refine a_A ?hg (N:=2) ?hd (cs:=#[.slice A0_0 l0_0.length c0_0]) (t:=24) ?hr ?_;(case hd => rfl);(case hg => rfl);(case hr => first|(go_simp;done)|(go_simp;rfl));intro b_R hg w20 hbox hb;have b_w:=a_a.mk (hbox);have h_J:=a_a.mk ((by rw [hg];exact (a_g (lup_ HB.out)) : w.heap.size ≤ b_R));have c_s:=a_a.mk ((by rw [hg];exact (a_g (lup_ HB.out)) : w.heap.size ≤ b_R));replace HB:=a_a.mk (a_i (lup_ HB.out) hb);clear hb hbox hg)|((with_reducible refine a_B (N:=3) rfl ?_);refine a_A ?hg (N:=3) ?hd (cs:=#[.slice A1_0 l1_0.length c1_0]) (t:=24) ?hr ?_;(case hd => rfl);(case hg => rfl);(case hr => first|(go_simp;done)|(go_simp;rfl));intro b_S hg w21 hbox hb;have c_G:=a_a.mk (hbox);have h_K:=a_a.mk ((by rw [hg];exact (a_g (by repeat (first|(with_reducible first|exact HB.out|apply a_c|apply a_b|apply a_d|refine a_e ?_ c_s.out)|exact HB.out))) : w.heap.size ≤ b_S));have e_8:=a_a.mk ((by rw [hg];exact (a_g (by repeat (first|(with_reducible first|exact HB.out|apply a_c|apply a_b|apply a_d|refine a_e ?_ c_s.out)|exact HB.out))) : w.heap.size ≤ b_S));have b_H:=a_a.mk ((by rw [hg];exact Nat.ne_of_lt (a_M (bup_ b_w.out)) : b_R ≠ b_S));have b_I:=a_a.mk ((by rw [hg];exact Nat.ne_of_gt (a_M (bup_ b_w.out)) : b_S ≠ b_R));replace b_w:=a_a.mk (a_p (bup_ b_w.out) hb);replace HB:=a_a.mk (a_i (by repeat (first|(with_reducible first|exact HB.out|apply a_c|apply a_b|apply a_d|refine a_e ?_ c_s.out)|exact HB.out)) hb);clear hb hbox hg;have k_V:=b_H.out;have k_X:=b_I.out;have f_F : w21.cell? ⟨b_R,0,none⟩ = some (.slice A0_0 l0_0.length c0_0):=(a_m b_w.out 0).trans rfl;have f_J:=a_j b_w.out 0;have g_B : w21.cell? ⟨b_S,0,none⟩ = some (.slice A1_0 l1_0.length c1_0):=(a_m c_G.out 0).trans rfl;have g_N:=a_j c_G.out 0))
  repeat (go_quiet (first|((with_reducible refine a_B (N:=2) rfl ?_);refine a_A ?hg (N:=2) ?hd (cs:=#[.slice A0_0 l0_0.length c0_0]) (t:=24) ?hr ?_;(case hd => rfl);(case hg => rfl);(case hr => first|(go_simp;done)|(go_simp;rfl));intro b_R hg w20 hbox hb;have b_w:=a_a.mk (hbox);have h_J:=a_a.mk ((by rw [hg];exact (a_g (lup_ HB.out)) : w.heap.size ≤ b_R));have c_s:=a_a.mk ((by rw [hg];exact (a_g (lup_ HB.out)) : w.heap.size ≤ b_R));replace HB:=a_a.mk (a_i (lup_ HB.out) hb);clear hb hbox hg)|((with_reducible refine a_B (N:=3) rfl ?_);refine a_A ?hg (N:=3) ?hd (cs:=#[.slice A1_0 l1_0.length c1_0]) (t:=24) ?hr ?_;(case hd => rfl);(case hg => rfl);(case hr => first|(go_simp;done)|(go_simp;rfl));intro b_S hg w21 hbox hb;have c_G:=a_a.mk (hbox);have h_K:=a_a.mk ((by rw [hg];exact (a_g (by repeat (first|(with_reducible first|exact HB.out|apply a_c|apply a_b|apply a_d|refine a_e ?_ c_s.out)|exact HB.out))) : w.heap.size ≤ b_S));have e_8:=a_a.mk ((by rw [hg];exact (a_g (by repeat (first|(with_reducible first|exact HB.out|apply a_c|apply a_b|apply a_d|refine a_e ?_ c_s.out)|exact HB.out))) : w.heap.size ≤ b_S));have b_H:=a_a.mk ((by rw [hg];exact Nat.ne_of_lt (a_M (bup_ b_w.out)) : b_R ≠ b_S));have b_I:=a_a.mk ((by rw [hg];exact Nat.ne_of_gt (a_M (bup_ b_w.out)) : b_S ≠ b_R));replace b_w:=a_a.mk (a_p (bup_ b_w.out) hb);replace HB:=a_a.mk (a_i (by repeat (first|(with_reducible first|exact HB.out|apply a_c|apply a_b|apply a_d|refine a_e ?_ c_s.out)|exact HB.out)) hb);clear hb hbox hg;have k_V:=b_H.out;have k_X:=b_I.out;have f_F : w21.cell? ⟨b_R,0,none⟩ = some (.slice A0_0 l0_0.length c0_0):=(a_m b_w.out 0).trans rfl;have f_J:=a_j b_w.out 0;have g_B : w21.cell? ⟨b_S,0,none⟩ = some (.slice A1_0 l1_0.length c1_0):=(a_m c_G.out 0).trans rfl;have g_N:=a_j c_G.out 0));try go_wp2_with (first|((with_reducible refine a_B (N:=2) rfl ?_);refine a_A ?hg (N:=2) ?hd (cs:=#[.slice A0_0 l0_0.length c0_0]) (t:=24) ?hr ?_;(case hd => rfl);(case hg => rfl);(case hr => first|(go_simp;done)|(go_simp;rfl));intro b_R hg w20 hbox hb;have b_w:=a_a.mk (hbox);have h_J:=a_a.mk ((by rw [hg];exact (a_g (lup_ HB.out)) : w.heap.size ≤ b_R));have c_s:=a_a.mk ((by rw [hg];exact (a_g (lup_ HB.out)) : w.heap.size ≤ b_R));replace HB:=a_a.mk (a_i (lup_ HB.out) hb);clear hb hbox hg)|((with_reducible refine a_B (N:=3) rfl ?_);refine a_A ?hg (N:=3) ?hd (cs:=#[.slice A1_0 l1_0.length c1_0]) (t:=24) ?hr ?_;(case hd => rfl);(case hg => rfl);(case hr => first|(go_simp;done)|(go_simp;rfl));intro b_S hg w21 hbox hb;have c_G:=a_a.mk (hbox);have h_K:=a_a.mk ((by rw [hg];exact (a_g (by repeat (first|(with_reducible first|exact HB.out|apply a_c|apply a_b|apply a_d|refine a_e ?_ c_s.out)|exact HB.out))) : w.heap.size ≤ b_S));have e_8:=a_a.mk ((by rw [hg];exact (a_g (by repeat (first|(with_reducible first|exact HB.out|apply a_c|apply a_b|apply a_d|refine a_e ?_ c_s.out)|exact HB.out))) : w.heap.size ≤ b_S));have b_H:=a_a.mk ((by rw [hg];exact Nat.ne_of_lt (a_M (bup_ b_w.out)) : b_R ≠ b_S));have b_I:=a_a.mk ((by rw [hg];exact Nat.ne_of_gt (a_M (bup_ b_w.out)) : b_S ≠ b_R));replace b_w:=a_a.mk (a_p (bup_ b_w.out) hb);replace HB:=a_a.mk (a_i (by repeat (first|(with_reducible first|exact HB.out|apply a_c|apply a_b|apply a_d|refine a_e ?_ c_s.out)|exact HB.out)) hb);clear hb hbox hg;have k_V:=b_H.out;have k_X:=b_I.out;have f_F : w21.cell? ⟨b_R,0,none⟩ = some (.slice A0_0 l0_0.length c0_0):=(a_m b_w.out 0).trans rfl;have f_J:=a_j b_w.out 0;have g_B : w21.cell? ⟨b_S,0,none⟩ = some (.slice A1_0 l1_0.length c1_0):=(a_m c_G.out 0).trans rfl;have g_N:=a_j c_G.out 0)))
  go_ret
  exact ⟨by first|rfl|(simp [a_r,a_s] <;> rfl)|(simp [*, a_r,a_s] <;> rfl),by repeat (first|(with_reducible first|exact HB.out|apply a_c|apply a_b|apply a_d|refine a_e ?_ c_s.out|refine a_e ?_ e_8.out)|exact HB.out)⟩
 rw [if_pos c3] at H
 have c3b0 : ((l0_0.length : Int) == (l1_0.length : Int)) = true:=beq_iff_eq.mpr c3
 have c3b1 : ((l0_0.length : Int) != (l1_0.length : Int)) = false:=bne_eq_false_iff_eq.mpr c3
 have c3b2 : (l0_0.length == l1_0.length) = true:=by first|simpa using c3|(simp at c3 ⊢; omega)
 clear c3
 have H':=a_a.mk H
 clear H
 go_enter Tryd.func24,Tryd.ntmps24
 go_wp2_with (first|((with_reducible refine a_B (N:=2) rfl ?_);refine a_A ?hg (N:=2) ?hd (cs:=#[.slice A0_0 l0_0.length c0_0]) (t:=24) ?hr ?_;(case hd => rfl);(case hg => rfl);(case hr => first|(go_simp;done)|(go_simp;rfl));intro b_R hg w4 hbox hb;have b_w:=a_a.mk (hbox);have h_J:=a_a.mk ((by rw [hg];exact (a_g (lup_ HB.out)) : w.heap.size ≤ b_R));have c_s:=a_a.mk ((by rw [hg];exact (a_g (lup_ HB.out)) : w.heap.size ≤ b_R));replace HB:=a_a.mk (a_i (lup_ HB.out) hb);clear hb hbox hg)|((with_reducible refine a_B (N:=3) rfl ?_);refine a_A ?hg (N:=3) ?hd (cs:=#[.slice A1_0 l1_0.length c1_0]) (t:=24) ?hr ?_;(case hd => rfl);(case hg => rfl);(case hr => first|(go_simp;done)|(go_simp;rfl));intro b_S hg w5 hbox hb;have c_G:=a_a.mk (hbox);have h_K:=a_a.mk ((by rw [hg];exact (a_g (by repeat (first|(with_reducible first|exact HB.out|apply a_c|apply a_b|apply a_d|refine a_e ?_ c_s.out)|exact HB.out))) : w.heap.size ≤ b_S));have e_8:=a_a.mk ((by rw [hg];exact (a_g (by repeat (first|(with_reducible first|exact HB.out|apply a_c|apply a_b|apply a_d|refine a_e ?_ c_s.out)|exact HB.out))) : w.heap.size ≤ b_S));have b_H:=a_a.mk ((by rw [hg];exact Nat.ne_of_lt (a_M (bup_ b_w.out)) : b_R ≠ b_S));have b_I:=a_a.mk ((by rw [hg];exact Nat.ne_of_gt (a_M (bup_ b_w.out)) : b_S ≠ b_R));replace b_w:=a_a.mk (a_p (bup_ b_w.out) hb);replace HB:=a_a.mk (a_i (by repeat (first|(with_reducible first|exact HB.out|apply a_c|apply a_b|apply a_d|refine a_e ?_ c_s.out)|exact HB.out)) hb);clear hb hbox hg;have hnb6:=b_H.out;have hnc6:=b_I.out;have c_8 : w5.cell? ⟨b_R,0,none⟩ = some (.slice A0_0 l0_0.length c0_0):=(a_m b_w.out 0).trans rfl;have c_9:=a_j b_w.out 0;have h_d : w5.cell? ⟨b_S,0,none⟩ = some (.slice A1_0 l1_0.length c1_0):=(a_m c_G.out 0).trans rfl;have h_e:=a_j c_G.out 0))
 repeat (go_quiet (first|((with_reducible refine a_B (N:=2) rfl ?_);refine a_A ?hg (N:=2) ?hd (cs:=#[.slice A0_0 l0_0.length c0_0]) (t:=24) ?hr ?_;(case hd => rfl);(case hg => rfl);(case hr => first|(go_simp;done)|(go_simp;rfl));intro b_R hg w4 hbox hb;have b_w:=a_a.mk (hbox);have h_J:=a_a.mk ((by rw [hg];exact (a_g (lup_ HB.out)) : w.heap.size ≤ b_R));have c_s:=a_a.mk ((by rw [hg];exact (a_g (lup_ HB.out)) : w.heap.size ≤ b_R));replace HB:=a_a.mk (a_i (lup_ HB.out) hb);clear hb hbox hg)|((with_reducible refine a_B (N:=3) rfl ?_);refine a_A ?hg (N:=3) ?hd (cs:=#[.slice A1_0 l1_0.length c1_0]) (t:=24) ?hr ?_;(case hd => rfl);(case hg => rfl);(case hr => first|(go_simp;done)|(go_simp;rfl));intro b_S hg w5 hbox hb;have c_G:=a_a.mk (hbox);have h_K:=a_a.mk ((by rw [hg];exact (a_g (by repeat (first|(with_reducible first|exact HB.out|apply a_c|apply a_b|apply a_d|refine a_e ?_ c_s.out)|exact HB.out))) : w.heap.size ≤ b_S));have e_8:=a_a.mk ((by rw [hg];exact (a_g (by repeat (first|(with_reducible first|exact HB.out|apply a_c|apply a_b|apply a_d|refine a_e ?_ c_s.out)|exact HB.out))) : w.heap.size ≤ b_S));have b_H:=a_a.mk ((by rw [hg];exact Nat.ne_of_lt (a_M (bup_ b_w.out)) : b_R ≠ b_S));have b_I:=a_a.mk ((by rw [hg];exact Nat.ne_of_gt (a_M (bup_ b_w.out)) : b_S ≠ b_R));replace b_w:=a_a.mk (a_p (bup_ b_w.out) hb);replace HB:=a_a.mk (a_i (by repeat (first|(with_reducible first|exact HB.out|apply a_c|apply a_b|apply a_d|refine a_e ?_ c_s.out)|exact HB.out)) hb);clear hb hbox hg;have hnb6:=b_H.out;have hnc6:=b_I.out;have c_8 : w5.cell? ⟨b_R,0,none⟩ = some (.slice A0_0 l0_0.length c0_0):=(a_m b_w.out 0).trans rfl;have c_9:=a_j b_w.out 0;have h_d : w5.cell? ⟨b_S,0,none⟩ = some (.slice A1_0 l1_0.length c1_0):=(a_m c_G.out 0).trans rfl;have h_e:=a_j c_G.out 0));try go_wp2_with (first|((with_reducible refine a_B (N:=2) rfl ?_);refine a_A ?hg (N:=2) ?hd (cs:=#[.slice A0_0 l0_0.length c0_0]) (t:=24) ?hr ?_;(case hd => rfl);(case hg => rfl);(case hr => first|(go_simp;done)|(go_simp;rfl));intro b_R hg w4 hbox hb;have b_w:=a_a.mk (hbox);have h_J:=a_a.mk ((by rw [hg];exact (a_g (lup_ HB.out)) : w.heap.size ≤ b_R));have c_s:=a_a.mk ((by rw [hg];exact (a_g (lup_ HB.out)) : w.heap.size ≤ b_R));replace HB:=a_a.mk (a_i (lup_ HB.out) hb);clear hb hbox hg)|((with_reducible refine a_B (N:=3) rfl ?_);refine a_A ?hg (N:=3) ?hd (cs:=#[.slice A1_0 l1_0.length c1_0]) (t:=24) ?hr ?_;(case hd => rfl);(case hg => rfl);(case hr => first|(go_simp;done)|(go_simp;rfl));intro b_S hg w5 hbox hb;have c_G:=a_a.mk (hbox);have h_K:=a_a.mk ((by rw [hg];exact (a_g (by repeat (first|(with_reducible first|exact HB.out|apply a_c|apply a_b|apply a_d|refine a_e ?_ c_s.out)|exact HB.out))) : w.heap.size ≤ b_S));have e_8:=a_a.mk ((by rw [hg];exact (a_g (by repeat (first|(with_reducible first|exact HB.out|apply a_c|apply a_b|apply a_d|refine a_e ?_ c_s.out)|exact HB.out))) : w.heap.size ≤ b_S));have b_H:=a_a.mk ((by rw [hg];exact Nat.ne_of_lt (a_M (bup_ b_w.out)) : b_R ≠ b_S));have b_I:=a_a.mk ((by rw [hg];exact Nat.ne_of_gt (a_M (bup_ b_w.out)) : b_S ≠ b_R));replace b_w:=a_a.mk (a_p (bup_ b_w.out) hb);replace HB:=a_a.mk (a_i (by repeat (first|(with_reducible first|exact HB.out|apply a_c|apply a_b|apply a_d|refine a_e ?_ c_s.out)|exact HB.out)) hb);clear hb hbox hg;have hnb6:=b_H.out;have hnc6:=b_I.out;have c_8 : w5.cell? ⟨b_R,0,none⟩ = some (.slice A0_0 l0_0.length c0_0):=(a_m b_w.out 0).trans rfl;have c_9:=a_j b_w.out 0;have h_d : w5.cell? ⟨b_S,0,none⟩ = some (.slice A1_0 l1_0.length c1_0):=(a_m c_G.out 0).trans rfl;have h_e:=a_j c_G.out 0)))
 go_loopg [16] k (fun kq v16 w' => ∃ (x16_1 : Int),v16 = .int .i64 x16_1 ∧ a_a (a_t.l0 kq (l0_0.length : Int) x16_1 l0_0 l1_0 = some r) ∧ a_a (kq ≤ k) ∧ a_a (w'.heap[b_R]? = some (.cells #[(.slice A0_0 l0_0.length c0_0)] 24 (0,0))) ∧ a_a (w'.heap[b_S]? = some (.cells #[(.slice A1_0 l1_0.length c1_0)] 24 (0,0))) ∧ a_a (Below w.heap.size w w'))
 case atStart => exact ⟨(0),(by first|rfl|(simp;done)|(simp [*];done)),H',⟨Nat.le_refl _⟩,⟨by (with_reducible repeat (first|refine a_l ?_ _|refine a_o ?_|refine a_k ?_ _));exact b_w.out⟩,⟨by (with_reducible repeat (first|refine a_l ?_ _|refine a_o ?_|refine a_k ?_ _));exact c_G.out⟩,⟨by repeat (first|(with_reducible first|exact HB.out|apply a_c|apply a_b|apply a_d|refine a_e ?_ c_s.out|refine a_e ?_ e_8.out)|exact HB.out)⟩⟩
 case round =>
  clear H'
  try clear c1
  try clear c2
  try clear p2
  try clear c3
  try clear c3b0
  try clear c3b1
  try clear c3b2
  try clear c6
  try clear c_8
  try clear h_d
  try clear c_9
  try clear h_e
  obtain ⟨x16_1,rfl,HA,HK1,b_w,c_G,HB⟩:=hrel
  cases gk with
  | zero => exact absurd HA.out (by simp [a_t.l0])
  | succ k1 =>
   have H:=HA.out
   clear HA
   simp only [a_t.l0] at H
   by_cases c9 : x16_1 < (l0_0.length : Int)
   rotate_left
   ·rw [if_neg c9] at H
    have c9b0 : decide (x16_1 < (l0_0.length : Int)) = false:=decide_eq_false c9
    clear c9
    obtain rfl:=Option.some.inj H
    go_wp2
    repeat (go_quiet (fail);try go_wp2)
    go_ret
    exact ⟨by first|rfl|(simp [a_r,a_s] <;> rfl)|(simp [*, a_r,a_s] <;> rfl),by repeat (first|(with_reducible first|exact HB.out|apply a_c|apply a_b|apply a_d|refine a_e ?_ c_s.out|refine a_e ?_ e_8.out)|exact HB.out)⟩
   rw [if_pos c9] at H
   have c9b0 : decide (x16_1 < (l0_0.length : Int)) = true:=decide_eq_true c9
   clear c9
   by_cases c10 : 0 ≤ x16_1
   rotate_left
   ·rw [if_neg c10] at H
    exact absurd H (by simp)
   rw [if_pos c10] at H
   have c10b0 : decide (0 ≤ x16_1) = true:=decide_eq_true c10
   clear c10
   by_cases c11 : x16_1 < (l0_0.length : Int)
   rotate_left
   ·rw [if_neg c11] at H
    exact absurd H (by simp)
   rw [if_pos c11] at H
   have c11b0 : decide (x16_1 < (l0_0.length : Int)) = true:=decide_eq_true c11
   clear c11
   by_cases c12 : x16_1 < (l1_0.length : Int)
   rotate_left
   ·rw [if_neg c12] at H
    exact absurd H (by simp)
   rw [if_pos c12] at H
   have c12b0 : decide (x16_1 < (l1_0.length : Int)) = true:=decide_eq_true c12
   clear c12
   by_cases c13 : (!(((a_u l0_0 x16_1).f0) == ((a_u l1_0 x16_1).f0)) || (!(((a_u l0_0 x16_1).f1) == ((a_u l1_0 x16_1).f1)))) = true
   ·rw [if_pos c13] at H
    have c13b0 : (!(((a_u l0_0 x16_1).f0) == ((a_u l1_0 x16_1).f0)) || (!(((a_u l0_0 x16_1).f1) == ((a_u l1_0 x16_1).f1)))) = true:=c13
    clear c13
    obtain rfl:=Option.some.inj H
    have m_K:=b_H.out
    have m_Q:=b_I.out
    have g_z : wr.cell? ⟨b_R,0,none⟩ = some (.slice A0_0 l0_0.length c0_0):=(a_m b_w.out 0).trans rfl
    have g_L:=a_j b_w.out 0
    have p248 : 0 ≤ (x16_1 : Int):=of_decide_eq_true (by first|(with_reducible assumption)|assumption)
    have q248 : x16_1 < (l0_0.length : Int):=of_decide_eq_true (by first|(with_reducible assumption)|assumption)
    obtain ⟨ad248,e248,d_M,d_N⟩:=c_N b_M.out x16_1 p248 q248
    cases e248
    replace d_M:=(HB.out.cell (World.block_lt_of_cell? w _ d_M)).trans d_M
    replace d_N:=(HB.out.cell (World.block_lt_of_cell? w _ d_N)).trans d_N
    replace p248:=eq_true p248
    replace q248:=eq_true q248
    have g_A : wr.cell? ⟨b_S,0,none⟩ = some (.slice A1_0 l1_0.length c1_0):=(a_m c_G.out 0).trans rfl
    have g_M:=a_j c_G.out 0
    have p249 : 0 ≤ (x16_1 : Int):=of_decide_eq_true (by first|(with_reducible assumption)|assumption)
    have q249 : x16_1 < (l1_0.length : Int):=of_decide_eq_true (by first|(with_reducible assumption)|assumption)
    obtain ⟨ad249,e249,d_O,d_P⟩:=c_N k_I.out x16_1 p249 q249
    cases e249
    replace d_O:=(HB.out.cell (World.block_lt_of_cell? w _ d_O)).trans d_O
    replace d_P:=(HB.out.cell (World.block_lt_of_cell? w _ d_P)).trans d_P
    replace p249:=eq_true p249
    replace q249:=eq_true q249
    go_wp2
    repeat (go_quiet (fail);try go_wp2)
    go_ret
    exact ⟨by first|rfl|(simp [a_r,a_s] <;> rfl)|(simp [*, a_r,a_s] <;> rfl),by repeat (first|(with_reducible first|exact HB.out|apply a_c|apply a_b|apply a_d|refine a_e ?_ c_s.out|refine a_e ?_ e_8.out)|exact HB.out)⟩
   rw [if_neg c13] at H
   have c13b0 : (!(((a_u l0_0 x16_1).f0) == ((a_u l1_0 x16_1).f0)) || (!(((a_u l0_0 x16_1).f1) == ((a_u l1_0 x16_1).f1)))) = false:=by simpa using c13
   clear c13
   have H':=a_a.mk H
   clear H
   have m_L:=b_H.out
   have m_R:=b_I.out
   have i_l : wr.cell? ⟨b_R,0,none⟩ = some (.slice A0_0 l0_0.length c0_0):=(a_m b_w.out 0).trans rfl
   have i_C:=a_j b_w.out 0
   have p248 : 0 ≤ (x16_1 : Int):=of_decide_eq_true (by first|(with_reducible assumption)|assumption)
   have q248 : x16_1 < (l0_0.length : Int):=of_decide_eq_true (by first|(with_reducible assumption)|assumption)
   obtain ⟨ad248,e248,d_M,d_N⟩:=c_N b_M.out x16_1 p248 q248
   cases e248
   replace d_M:=(HB.out.cell (World.block_lt_of_cell? w _ d_M)).trans d_M
   replace d_N:=(HB.out.cell (World.block_lt_of_cell? w _ d_N)).trans d_N
   replace p248:=eq_true p248
   replace q248:=eq_true q248
   have l_1 : wr.cell? ⟨b_S,0,none⟩ = some (.slice A1_0 l1_0.length c1_0):=(a_m c_G.out 0).trans rfl
   have m_q:=a_j c_G.out 0
   have p249 : 0 ≤ (x16_1 : Int):=of_decide_eq_true (by first|(with_reducible assumption)|assumption)
   have q249 : x16_1 < (l1_0.length : Int):=of_decide_eq_true (by first|(with_reducible assumption)|assumption)
   obtain ⟨ad249,e249,d_O,d_P⟩:=c_N k_I.out x16_1 p249 q249
   cases e249
   replace d_O:=(HB.out.cell (World.block_lt_of_cell? w _ d_O)).trans d_O
   replace d_P:=(HB.out.cell (World.block_lt_of_cell? w _ d_P)).trans d_P
   replace p249:=eq_true p249
   replace q249:=eq_true q249
   go_wp2
   repeat (go_quiet (fail);try go_wp2)
   go_roundg k1
   case measure => have:=HK1.out;omega
   case rel => exact ⟨(wrap64 (x16_1 + 1)),(by first|rfl|(simp;done)|(simp [*];done)),H',⟨by have:=HK1.out;omega⟩,⟨by (with_reducible repeat (first|refine a_l ?_ _|refine a_o ?_|refine a_k ?_ _));exact b_w.out⟩,⟨by (with_reducible repeat (first|refine a_l ?_ _|refine a_o ?_|refine a_k ?_ _));exact c_G.out⟩,⟨by repeat (first|(with_reducible first|exact HB.out|apply a_c|apply a_b|apply a_d|refine a_e ?_ c_s.out|refine a_e ?_ e_8.out)|exact HB.out)⟩⟩
end Go.Proofs.YtcpfcehfgenljaaDoor.Q
end
section
namespace Go.Proofs.YtcpfcehfgenljaaDoor.Q
open Go.RowKit Go.Proofs.YtcpfcehfgenljaaDoorW.PrintWords Go.Proofs.YtcpfcehfgenljaaDoorW.PrintLast Go.Proofs.YtcpfcehfgenljaaDoorW.PrintMore
set_option linter.unusedVariables false
set_option linter.unusedSimpArgs false
def a_q.l0 : Nat → List Int → List (S56) → Int → Int → Option (List Int)
 | 0,_,_,_,_ => none
 | k + 1,x3,x12,x13,x14 => if x14 < x13 then (if 0 ≤ x14 then (if x14 < (x12.length : Int) then ((some (([((a_u x12 x14).f0) % 256,((a_u x12 x14).f1) % 256] : List Int) : List Int)).bind fun y407 => (if x3.length + y407.length < 140737488355328 then (a_q.l0 k (x3 ++ y407) x12 x13 (wrap64 (x14 + 1))) else (none))) else (none)) else (none)) else (some x3)
def a_q.f (k : Nat) (l0_0 : List (S56)) : Option (List Int):=a_q.l0 k (([((l0_0.length : Int)) % 256] : List Int)) l0_0 (l0_0.length : Int) 0
theorem a_q.b_D : ∀ k,(∀ y0 y1 y2 y3,LeO (a_q.l0 k y0 y1 y2 y3) (a_q.l0 (k + 1) y0 y1 y2 y3))
 | 0 => fun _ _ _ _ r h => by simp [a_q.l0] at h
 | k + 1 => by
  have ih0:=a_q.b_D k
  ·intro y0 y1 y2 y3
   unfold a_q.l0
   repeat' first
   | (with_reducible exact ih0 _ _ _ _)
   | (with_reducible exact LeO.refl _)
   | (with_reducible exact LeO.none _)
   | (with_reducible refine LeO.ite ?_ ?_)
   | (with_reducible refine LeO.bind ?_ (fun _ => ?_))
   | exact ih0 _ _ _ _
   | exact LeO.none _
   | refine LeO.ite ?_ ?_
   | refine LeO.bind ?_ (fun _ => ?_)
theorem a_q.mono : ∀ a0 k,LeO (a_q.f k a0) (a_q.f (k + 1) a0):=by
 intro a0 k
 have ih0:=a_q.b_D k
 unfold a_q.f
 repeat' first
  | (with_reducible exact ih0 _ _ _ _)
  | (with_reducible exact LeO.refl _)
  | (with_reducible exact LeO.none _)
  | (with_reducible refine LeO.ite ?_ ?_)
  | (with_reducible refine LeO.bind ?_ (fun _ => ?_))
  | exact ih0 _ _ _ _
  | exact LeO.none _
  | refine LeO.ite ?_ ?_
  | refine LeO.bind ?_ (fun _ => ?_)
set_option maxHeartbeats 8000000 in
set_option maxRecDepth 100000 in
theorem a_q.calls (k : Nat) (A0_0 : Option Addr) (c0_0 : Nat) (l0_0 : List (S56)) (r : List Int) (w : World) (hr0_0 : Kd.C k56 w A0_0 l0_0.length l0_0) (hc0_0 : l0_0.length ≤ c0_0) (h : a_q.f k l0_0 = some r) :
 Calls Tryd.prog 35 #[.agg #[.slice A0_0 l0_0.length c0_0]] w fun e w' => ∃ v0_ : Value,e = .returned (v0_) ∧ Kd.R (Kd.int .u8) 5 w' w.heap.size (fun _ => True) v0_ r ∧ Below w.heap.size w w':=by
 have hu24:=Tryd.underlying24
 have hu56:=Tryd.underlying56
 have b_M:=a_a.mk hr0_0
 have c_t:=a_a.mk hc0_0
 clear hr0_0 hc0_0
 have HB:=a_a.mk (Below.refl w.heap.size w)
 have H : (a_q.l0 k (([((l0_0.length : Int)) % 256] : List Int)) l0_0 (l0_0.length : Int) 0) = some r:=h
 clear h
 obtain ⟨y402,hy402⟩ : ∃ y_ : List Int,y_ = (([((l0_0.length : Int)) % 256] : List Int)):=⟨_,rfl⟩
 replace H : (a_q.l0 k y402 l0_0 (l0_0.length : Int) 0) = some r:=by first|(rw [hy402];with_reducible exact H)|(have H2_:=(Option.bind_some _ _).symm.trans H;rw [hy402];with_reducible exact H2_)|(have H2_:=(Option.bind_some _ _).symm.trans H;with_reducible exact H2_)|with_reducible exact H|(rw [hy402];exact H)|exact H
 have Ny402:=a_a.mk hy402
 clear hy402
 have H':=a_a.mk H
 clear H
 go_enter Tryd.func35,Tryd.ntmps35
 go_wp2_with (first|((with_reducible refine a_B (N:=1) rfl ?_);refine a_A ?hg (N:=1) ?hd (cs:=#[.slice A0_0 l0_0.length c0_0]) (t:=24) ?hr ?_;(case hd => rfl);(case hg => rfl);(case hr => first|(go_simp;done)|(go_simp;rfl));intro f_D hg w2 hbox hb;have d_b:=a_a.mk (hbox);have n_o:=a_a.mk ((by rw [hg];exact (a_g (lup_ HB.out)) : w.heap.size ≤ f_D));have e_m:=a_a.mk ((by rw [hg];exact (a_g (lup_ HB.out)) : w.heap.size ≤ f_D));replace HB:=a_a.mk (a_i (lup_ HB.out) hb);clear hb hbox hg;have i_r : w2.cell? ⟨f_D,0,none⟩ = some (.slice A0_0 l0_0.length c0_0):=(a_m d_b.out 0).trans rfl;have i_I:=a_j d_b.out 0)|((with_reducible refine a_B (N:=10) rfl ?_);refine Kd.e_F (Kd.int .u8) _ 5 ?hg (N:=10) ?hd (xs:=([((l0_0.length : Int)) % 256] : List Int)) (inner:=[.int .u8 (((l0_0.length : Int)) % 256)]) (ok:=fun _ => True) (okp:=fun _ => True) ?hr ?hp (fun _ hk => hk) trivial (Below.refl _ _) (Nat.le_refl _) (by simp) ?_;(case hd => rfl);(case hg => rfl);(case hr => first|(go_simp;done)|(go_simp;rfl));(case hp => exact (Reps.one (show Kd.M (Kd.int .u8) _ _ _ (((l0_0.length : Int)) % 256) [.int .u8 (((l0_0.length : Int)) % 256)] from rfl) (Reps.none _ _)));intro v403 w4 ho5 hb hg_ hnew_;clear hg_ hnew_;(first|rw [← Ny402.out] at ho5|(simp only [Int.reduceToNat] at ho5;rw [← Ny402.out] at ho5));have l_A:=a_a.mk (Kd.a_S ho5 (a_g (by repeat (first|(with_reducible first|exact HB.out|apply a_c|apply a_b|apply a_d|refine a_e ?_ e_m.out)|exact HB.out))));replace d_b:=a_a.mk (a_p (bup_ d_b.out) hb);replace HB:=a_a.mk (a_i (by repeat (first|(with_reducible first|exact HB.out|apply a_c|apply a_b|apply a_d|refine a_e ?_ e_m.out)|exact HB.out)) hb);clear hb ho5;have k_S : w4.cell? ⟨f_D,0,none⟩ = some (.slice A0_0 l0_0.length c0_0):=(a_m d_b.out 0).trans rfl;have k_T:=a_j d_b.out 0))
 go_loopg [3,14] k (fun kq v3 v14 w' => ∃ (x3_1 : List Int) (x14_1 : Int),v14 = .int .i64 x14_1 ∧ a_a (a_q.l0 kq x3_1 l0_0 (l0_0.length : Int) x14_1 = some r) ∧ a_a (kq ≤ k) ∧ a_a (Kd.R (Kd.int .u8) 5 w' w.heap.size (fun _ => True) v3 x3_1) ∧ a_a (w'.heap[f_D]? = some (.cells #[(.slice A0_0 l0_0.length c0_0)] 24 (0,0))) ∧ a_a (Below w.heap.size w w'))
 case atStart => exact ⟨(y402),(0),(by first|rfl|(simp;done)|(simp [*];done)),H',⟨Nat.le_refl _⟩,⟨by (with_reducible repeat (first|apply Kd.a_G|apply Kd.a_H|apply Kd.a_O));exact l_A.out⟩,⟨by (with_reducible repeat (first|refine a_l ?_ _|refine a_o ?_|refine a_k ?_ _));exact d_b.out⟩,⟨by repeat (first|(with_reducible first|exact HB.out|apply a_c|apply a_b|apply a_d|refine a_e ?_ e_m.out)|exact HB.out)⟩⟩
 case round =>
  clear H'
  try clear p2
  try clear c3
  try clear i_r
  try clear k_S
  try clear i_I
  try clear k_T
  obtain ⟨x3_1,x14_1,rfl,HA,HK1,HO_3,d_b,HB⟩:=hrel
  cases gk with
  | zero => exact absurd HA.out (by simp [a_q.l0])
  | succ k1 =>
   have H:=HA.out
   clear HA
   simp only [a_q.l0] at H
   by_cases c7 : x14_1 < (l0_0.length : Int)
   rotate_left
   ·rw [if_neg c7] at H
    have c7b0 : decide (x14_1 < (l0_0.length : Int)) = false:=decide_eq_false c7
    clear c7
    obtain rfl:=Option.some.inj H
    go_wp2
    go_ret
    exact ⟨_,by first|rfl|(simp [a_r,a_s] <;> rfl)|(simp [*, a_r,a_s] <;> rfl),by (with_reducible repeat (first|apply Kd.a_G|apply Kd.a_H|apply Kd.a_O));exact HO_3.out,by repeat (first|(with_reducible first|exact HB.out|apply a_c|apply a_b|apply a_d|refine a_e ?_ e_m.out)|exact HB.out)⟩
   rw [if_pos c7] at H
   have c7b0 : decide (x14_1 < (l0_0.length : Int)) = true:=decide_eq_true c7
   clear c7
   by_cases c8 : 0 ≤ x14_1
   rotate_left
   ·rw [if_neg c8] at H
    exact absurd H (by simp)
   rw [if_pos c8] at H
   have c8b0 : decide (0 ≤ x14_1) = true:=decide_eq_true c8
   clear c8
   by_cases c9 : x14_1 < (l0_0.length : Int)
   rotate_left
   ·rw [if_neg c9] at H
    exact absurd H (by simp)
   rw [if_pos c9] at H
   have c9b0 : decide (x14_1 < (l0_0.length : Int)) = true:=decide_eq_true c9
   clear c9
   obtain ⟨y407,hy407⟩ : ∃ y_ : List Int,y_ = (([((a_u l0_0 x14_1).f0) % 256,((a_u l0_0 x14_1).f1) % 256] : List Int)):=⟨_,rfl⟩
   replace H : (if x3_1.length + y407.length < 140737488355328 then (a_q.l0 k1 (x3_1 ++ y407) l0_0 (l0_0.length : Int) (wrap64 (x14_1 + 1))) else (none)) = some r:=by first|(rw [hy407];with_reducible exact H)|(have H2_:=(Option.bind_some _ _).symm.trans H;rw [hy407];with_reducible exact H2_)|(have H2_:=(Option.bind_some _ _).symm.trans H;with_reducible exact H2_)|with_reducible exact H|(rw [hy407];exact H)|exact H
   have Ny407:=a_a.mk hy407
   clear hy407
   by_cases c10 : x3_1.length + y407.length < 140737488355328
   rotate_left
   ·rw [if_neg c10] at H
    exact absurd H (by simp)
   rw [if_pos c10] at H
   have LMc10:=a_a.mk c10
   clear c10
   obtain ⟨y410,hy410⟩ : ∃ y_ : List Int,y_ = (x3_1 ++ y407):=⟨_,rfl⟩
   replace H : (a_q.l0 k1 y410 l0_0 (l0_0.length : Int) (wrap64 (x14_1 + 1))) = some r:=by first|(rw [hy410];with_reducible exact H)|(have H2_:=(Option.bind_some _ _).symm.trans H;rw [hy410];with_reducible exact H2_)|(have H2_:=(Option.bind_some _ _).symm.trans H;with_reducible exact H2_)|with_reducible exact H|(rw [hy410];exact H)|exact H
   have Ny410:=a_a.mk hy410
   clear hy410
   have H':=a_a.mk H
   clear H
   have p405 : 0 ≤ (x14_1 : Int):=of_decide_eq_true (by first|(with_reducible assumption)|assumption)
   have q405 : x14_1 < (l0_0.length : Int):=of_decide_eq_true (by first|(with_reducible assumption)|assumption)
   obtain ⟨ad405,e405,g_Y,g_Z⟩:=c_N b_M.out x14_1 p405 q405
   cases e405
   replace g_Y:=(HB.out.cell (World.block_lt_of_cell? w _ g_Y)).trans g_Y
   replace g_Z:=(HB.out.cell (World.block_lt_of_cell? w _ g_Z)).trans g_Z
   replace p405:=eq_true p405
   replace q405:=eq_true q405
   go_wp2_with (first|((with_reducible refine a_B (N:=5) rfl ?_);refine a_A ?hg (N:=5) ?hd (cs:=#[.int .i64 0,.int .i64 0]) (t:=56) ?hr ?_;(case hd => rfl);(case hg => rfl);(case hr => first|(go_simp;done)|(go_simp;rfl));intro e_r hg w11 hbox hb;have e_x:=a_a.mk (hbox);have n_p:=a_a.mk ((by rw [hg];exact (a_g (by repeat (first|(with_reducible first|exact HB.out|apply a_c|apply a_b|apply a_d|refine a_e ?_ e_m.out)|exact HB.out))) : w.heap.size ≤ e_r));have h_I:=a_a.mk ((by rw [hg];exact (a_g (by repeat (first|(with_reducible first|exact HB.out|apply a_c|apply a_b|apply a_d|refine a_e ?_ e_m.out)|exact HB.out))) : w.heap.size ≤ e_r));have e_B:=a_a.mk ((by rw [hg];exact Nat.ne_of_lt (a_M (bup_ d_b.out)) : f_D ≠ e_r));have h_V:=a_a.mk ((by rw [hg];exact Nat.ne_of_gt (a_M (bup_ d_b.out)) : e_r ≠ f_D));replace HO_3:=a_a.mk (Kd.a_C (rup_ HO_3.out) hb);replace d_b:=a_a.mk (a_p (bup_ d_b.out) hb);replace HB:=a_a.mk (a_i (by repeat (first|(with_reducible first|exact HB.out|apply a_c|apply a_b|apply a_d|refine a_e ?_ e_m.out)|exact HB.out)) hb);clear hb hbox hg;have n_u:=h_V.out;have n_Q:=e_B.out;have j_8 : w11.cell? ⟨e_r,0,none⟩ = some (.int .i64 0):=(a_m e_x.out 0).trans rfl;have l_X : w11.cell? ⟨e_r,1,none⟩ = some (.int .i64 0):=(a_m e_x.out 1).trans rfl;have k_f:=a_j e_x.out 0;have m_m:=a_j e_x.out 1)|((with_reducible refine a_B (N:=25) rfl ?_);refine Kd.e_F (Kd.int .u8) _ 5 ?hg (N:=25) ?hd (xs:=([((a_u l0_0 x14_1).f0) % 256,((a_u l0_0 x14_1).f1) % 256] : List Int)) (inner:=[.int .u8 (((a_u l0_0 x14_1).f0) % 256),.int .u8 (((a_u l0_0 x14_1).f1) % 256)]) (ok:=fun _ => True) (okp:=fun _ => True) ?hr ?hp (fun _ hk => hk) trivial (Below.refl _ _) (Nat.le_refl _) (by simp) ?_;(case hd => rfl);(case hg => rfl);(case hr => first|(go_simp;done)|(go_simp;rfl));(case hp => exact (Reps.one (show Kd.M (Kd.int .u8) _ _ _ (((a_u l0_0 x14_1).f0) % 256) [.int .u8 (((a_u l0_0 x14_1).f0) % 256)] from rfl) (Reps.one (show Kd.M (Kd.int .u8) _ _ _ (((a_u l0_0 x14_1).f1) % 256) [.int .u8 (((a_u l0_0 x14_1).f1) % 256)] from rfl) (Reps.none _ _))));intro v408 w14 ho15 hb hg_ hnew_;clear hg_ hnew_;(first|rw [← Ny407.out] at ho15|(simp only [Int.reduceToNat] at ho15;rw [← Ny407.out] at ho15));have h_N:=a_a.mk (Kd.a_S (Kd.d_A ho15 (Kd.R_lt (by (with_reducible repeat (first|apply Kd.a_G|apply Kd.a_H|apply Kd.a_O));exact (Kd.a_Q (Kd.b_a (p:=⟨e_r,1,none⟩) (Kd.b_a (p:=⟨e_r,0,none⟩) (Kd.a_N HO_3.out e_x.out (by decide)) (fun _ hk => hk.2) (.int .i64 ((a_u l0_0 x14_1).f0))) (fun _ hk => hk.2) (.int .i64 ((a_u l0_0 x14_1).f1))) (fun _ h_ => h_.1))))) (a_g (by repeat (first|(with_reducible first|exact HB.out|apply a_c|apply a_b|apply a_d|refine a_e ?_ e_m.out|refine a_e ?_ h_I.out)|exact HB.out))));replace HO_3:=a_a.mk (Kd.c_z (by (with_reducible repeat (first|apply Kd.a_G|apply Kd.a_H|apply Kd.a_O));exact (Kd.a_Q (Kd.b_a (p:=⟨e_r,1,none⟩) (Kd.b_a (p:=⟨e_r,0,none⟩) (Kd.a_N HO_3.out e_x.out (by decide)) (fun _ hk => hk.2) (.int .i64 ((a_u l0_0 x14_1).f0))) (fun _ hk => hk.2) (.int .i64 ((a_u l0_0 x14_1).f1))) (fun _ h_ => h_.1))) (Kd.d_z ho15) hb);replace d_b:=a_a.mk (a_p (g:=f_D) (o:=.cells #[.slice (some ad405) l0_0.length c0_0] 24 (0,0)) (by (with_reducible repeat (first|refine a_l ?_ _|refine a_o ?_|refine a_k ?_ _));refine a_9 ?_ e_B.out _;(with_reducible repeat (first|refine a_l ?_ _|refine a_o ?_|refine a_k ?_ _));refine a_9 ?_ e_B.out _;(with_reducible repeat (first|refine a_l ?_ _|refine a_o ?_|refine a_k ?_ _));exact d_b.out) hb);replace e_x:=a_a.mk (a_p (g:=e_r) (o:=.cells #[.int .i64 ((a_u l0_0 x14_1).f0),.int .i64 ((a_u l0_0 x14_1).f1)] 56 (0,0)) (by (with_reducible repeat (first|refine a_l ?_ _|refine a_o ?_|refine a_k ?_ _));refine a_R (cs:=#[.int .i64 ((a_u l0_0 x14_1).f0),.int .i64 0]) ?_ 1 _ rfl;(with_reducible repeat (first|refine a_l ?_ _|refine a_o ?_|refine a_k ?_ _));refine a_R (cs:=#[.int .i64 0,.int .i64 0]) ?_ 0 _ rfl;(with_reducible repeat (first|refine a_l ?_ _|refine a_o ?_|refine a_k ?_ _));exact e_x.out) hb);replace HB:=a_a.mk (a_i (by repeat (first|(with_reducible first|exact HB.out|apply a_c|apply a_b|apply a_d|refine a_e ?_ e_m.out|refine a_e ?_ h_I.out)|exact HB.out)) hb);clear hb ho15;obtain ⟨Ao17,co17,eo17⟩:=Kd.a_V h_N.out;subst eo17)|((with_reducible refine b_C (b:=.append) (xs:=#[.tmp 18,.tmp 25]) rfl ?_);at_builtin;refine Kd.b_v (Kd.int .u8) (w0:=w) w.heap.size rfl (.tmp 18) (.tmp 25) 25 5 (.int .u8 0) 1 rfl Tryd.underlying25 info5 rfl (by decide) (by omega) u3 x3_1 y407 _ _ _ (fun k_ => some k_ ≠ (.slice Ao17 y407.length co17 : Value).ownBlock) (fun _ => False) rfl rfl ?aO ?aR (fun _ _ h => h) (fun _ h => h.elim) ?aF ?aB ?aS ?aL ?_;(case aR => repeat (first|exact (Kd.a_v h_N.out).2.2|(with_reducible refine Kd.a_I ?_ _)|(with_reducible refine Kd.a_J ?_ _)|(with_reducible refine Kd.a_T ?_)));(case aB => exact (by repeat (first|(with_reducible first|exact HB.out|apply a_c|apply a_b|apply a_d|refine a_e ?_ e_m.out|refine a_e ?_ h_I.out)|exact HB.out)));(case aF => exact (fun k_ hk => Kd.fresh' (Kd.R_lt (rup_ h_N.out)) k_ hk));(case aO => exact (by (with_reducible repeat (first|apply Kd.a_G|apply Kd.a_H|apply Kd.a_O));exact Kd.a_Q HO_3.out (fun _ hk => hk.2)));(case aS => exact (a_g (by repeat (first|(with_reducible first|exact HB.out|apply a_c|apply a_b|apply a_d|refine a_e ?_ e_m.out|refine a_e ?_ h_I.out)|exact HB.out))));(case aL => have:=LMc10.out;omega);intro v411 w16 ho hb hg hat;rw [← Ny410.out] at ho;have l_B:=a_a.mk (ho);replace d_b:=a_a.mk (b_x (g:=f_D) (o:=.cells #[.slice (some ad405) l0_0.length c0_0] 24 (0,0)) (bup_ d_b.out) hg (Kd.R_ne HO_3.out d_b.out (by decide)));replace e_x:=a_a.mk (b_x (g:=e_r) (o:=.cells #[.int .i64 ((a_u l0_0 x14_1).f0),.int .i64 ((a_u l0_0 x14_1).f1)] 56 (0,0)) (bup_ e_x.out) hg (Kd.R_ne HO_3.out e_x.out (by decide)));replace h_N:=a_a.mk (Kd.e_E (ok:=(fun _ => True)) (rup_ h_N.out) hg hat);replace HB:=a_a.mk (hb);clear HO_3 ho hb hg hat))
   go_roundg k1
   case measure => have:=HK1.out;omega
   case rel => exact ⟨(y410),(wrap64 (x14_1 + 1)),(by first|rfl|(simp;done)|(simp [*];done)),H',⟨by have:=HK1.out;omega⟩,⟨by (with_reducible repeat (first|apply Kd.a_G|apply Kd.a_H|apply Kd.a_O));exact Kd.a_Q l_B.out (fun _ hk => trivial)⟩,⟨by (with_reducible repeat (first|refine a_l ?_ _|refine a_o ?_|refine a_k ?_ _));exact d_b.out⟩,⟨by repeat (first|(with_reducible first|exact HB.out|apply a_c|apply a_b|apply a_d|refine a_e ?_ e_m.out|refine a_e ?_ h_I.out)|exact HB.out)⟩⟩
end Go.Proofs.YtcpfcehfgenljaaDoor.Q
end
