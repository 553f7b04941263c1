/- Part 3 of 7 of what the row of PoolTells stands on: contracts over the given program's functions, the plain law, the row; no condition beyond those that each theorem states. -/
import Derived.Test.YtkhbffjfclepfaaXPoolTells1
import Derived.WalkSpells
section
namespace Go.Proofs.Ytkhbffjfclepfaa.Q
open Go.RowKit Go.Proofs.YtkhbffjfclepfaaW.PrintWords Go.Proofs.YtkhbffjfclepfaaW.PrintLast Go.Proofs.YtkhbffjfclepfaaW.PrintMore
set_option linter.unusedVariables false
set_option linter.unusedSimpArgs false
def b_k.f (k : Nat) (l0_0 : List Int) (a1 : Int) : Option (Int × Bool):=(a_9.f l0_0 a1).bind fun t305 => ((a_s.f k l0_0).bind fun t306 => (if t306 = 0 then (if t305 < 0 then (some (0,false)) else (some (t305,true))) else (some (0,false))))
theorem b_k.mono : ∀ a0 a1 k,LeO (b_k.f k a0 a1) (b_k.f (k + 1) a0 a1):=by
 intro a0 a1 k
 unfold b_k.f
 repeat' first
  | (with_reducible exact a_s.mono _ _)
  | (with_reducible exact LeO.refl _)
  | (with_reducible exact LeO.none _)
  | (with_reducible refine LeO.ite ?_ ?_)
  | (with_reducible refine LeO.bind ?_ (fun _ => ?_))
  | exact a_s.mono _ _
  | exact LeO.none _
  | refine LeO.ite ?_ ?_
  | refine LeO.bind ?_ (fun _ => ?_)
set_option maxHeartbeats 8000000 in
set_option maxRecDepth 100000 in
theorem b_k.calls (k : Nat) (A0_0 : Option Addr) (c0_0 : Nat) (l0_0 : List Int) (a1 : Int) (r1 : Int) (r2 : Bool) (w : World) (hr0_0 : Kd.C (Kd.int .u32) w A0_0 l0_0.length l0_0) (hc0_0 : l0_0.length ≤ c0_0) (h : b_k.f k l0_0 a1 = some (r1,r2)) :
 Calls Try.prog 20 #[.agg #[.slice A0_0 l0_0.length c0_0],.int .i64 a1] w fun e w' => e = .returned (.tuple #[.int .i64 r1,.bool r2]) ∧ Below w.heap.size w w':=by
 have hu26:=Try.underlying26
 have b_K:=a_a.mk hr0_0
 have c_d:=a_a.mk hc0_0
 clear hr0_0 hc0_0
 have HB:=a_a.mk (Below.refl w.heap.size w)
 have H : ((a_9.f l0_0 a1).bind fun t305 => ((a_s.f k l0_0).bind fun t306 => (if t306 = 0 then (if t305 < 0 then (some (0,false)) else (some (t305,true))) else (some (0,false))))) = some (r1,r2):=h
 clear h
 replace H:=Option.bind_eq_some_iff.mp H
 obtain ⟨t305,A30,H⟩:=H
 replace H : ((a_s.f k l0_0).bind fun t306 => (if t306 = 0 then (if t305 < 0 then (some (0,false)) else (some (t305,true))) else (some (0,false)))) = some (r1,r2):=H
 have A3:=a_a.mk A30
 clear A30
 replace H:=Option.bind_eq_some_iff.mp H
 obtain ⟨t306,A40,H⟩:=H
 replace H : (if t306 = 0 then (if t305 < 0 then (some (0,false)) else (some (t305,true))) else (some (0,false))) = some (r1,r2):=H
 have A4:=a_a.mk A40
 clear A40
 by_cases c5 : t306 = 0
 rotate_left
 ·rw [if_neg c5] at H
  have c5b0 : (t306 == 0) = false:=beq_eq_false_iff_ne.mpr c5
  have c5b1 : (t306 != 0) = true:=bne_iff_ne.mpr c5
  simp only [Option.some.injEq,Prod.mk.injEq] at H
  obtain ⟨rfl,rfl⟩:=H
  go_enter Try.func20,Try.ntmps20
  go_wp2_with (first|((with_reducible refine a_E (N:=2) rfl ?_);refine a_D ?hg (N:=2) ?hd (cs:=#[.slice A0_0 l0_0.length c0_0]) (t:=26) ?hr ?_;(case hd => rfl);(case hg => rfl);(case hr => first|(go_simp;done)|(go_simp;rfl));intro c_w hg w21 hbox hb;have b_Q:=a_a.mk (hbox);have i_D:=a_a.mk ((by rw [hg];exact (a_m (lup_ HB.out)) : w.heap.size ≤ c_w));have c_x:=a_a.mk ((by rw [hg];exact (a_m (lup_ HB.out)) : w.heap.size ≤ c_w));replace HB:=a_a.mk (a_i (lup_ HB.out) hb);clear hb hbox hg)|((with_reducible refine a_E (N:=3) rfl ?_);refine a_D ?hg (N:=3) ?hd (cs:=#[.int .i64 a1]) (t:=3) ?hr ?_;(case hd => rfl);(case hg => rfl);(case hr => first|(go_simp;done)|(go_simp;rfl));intro c_y hg w22 hbox hb;have c_P:=a_a.mk (hbox);have i_E:=a_a.mk ((by rw [hg];exact (a_m (by repeat (first|(with_reducible first|exact HB.out|apply a_f|apply a_d|apply a_g|refine a_c ?_ c_x.out)|exact HB.out))) : w.heap.size ≤ c_y));have d_U:=a_a.mk ((by rw [hg];exact (a_m (by repeat (first|(with_reducible first|exact HB.out|apply a_f|apply a_d|apply a_g|refine a_c ?_ c_x.out)|exact HB.out))) : w.heap.size ≤ c_y));have c_Q:=a_a.mk ((by rw [hg];exact Nat.ne_of_lt (a_p (bup_ b_Q.out)) : c_w ≠ c_y));have c_R:=a_a.mk ((by rw [hg];exact Nat.ne_of_gt (a_p (bup_ b_Q.out)) : c_y ≠ c_w));replace b_Q:=a_a.mk (a_e (bup_ b_Q.out) hb);replace HB:=a_a.mk (a_i (by repeat (first|(with_reducible first|exact HB.out|apply a_f|apply a_d|apply a_g|refine a_c ?_ c_x.out)|exact HB.out)) hb);clear hb hbox hg;have l_z:=c_Q.out;have l_A:=c_R.out;have f_b : w22.cell? ⟨c_w,0,none⟩ = some (.slice A0_0 l0_0.length c0_0):=(a_j b_Q.out 0).trans rfl;have f_c:=a_k b_Q.out 0)|((with_reducible refine a_B (f:=40) rfl ?_);refine b_f (some 10) rfl rfl Try.func40 (by kernel_rfl) rfl #[.slice A0_0 l0_0.length c0_0,.func (.func 41) #[] #[.pointer (some ⟨c_y,0,none⟩)]] rfl (by (try simp only [List.map_toArray,List.map_cons,List.map_nil]);first|done|rfl|(simp only [List.length_drop,List.length_take];rfl)) ?_;(with_reducible refine (a_9.calls _ _ l0_0 c_y a1 t305 _ ?side1 ?side2 ?side3 A3.out).mono ?_);(case side1 => repeat (first|exact (Kd.a_8 b_K.out HB.out)|(with_reducible refine Kd.a_M ?_ _)|(with_reducible refine Kd.a_N ?_ _)|(with_reducible refine Kd.a_T ?_)));(case side2 => exact c_d.out);(case side3 => exact (bup_ c_P.out));rintro e w25 ⟨rfl,hb⟩;refine ⟨_,rfl,?_⟩;replace b_Q:=a_a.mk (a_e (bup_ b_Q.out) hb);replace c_P:=a_a.mk (a_e (bup_ c_P.out) hb);replace HB:=a_a.mk (a_i (by repeat (first|(with_reducible first|exact HB.out|apply a_f|apply a_d|apply a_g|refine a_c ?_ c_x.out|refine a_c ?_ d_U.out)|exact HB.out)) hb);(try clear hb);(try clear hb2);(try clear hk);(try clear hi);have k_h : w25.cell? ⟨c_w,0,none⟩ = some (.slice A0_0 l0_0.length c0_0):=(a_j b_Q.out 0).trans rfl;have k_i:=a_k b_Q.out 0)|((with_reducible refine a_B (f:=17) rfl ?_);refine b_f (some 12) rfl rfl Try.func17 (by kernel_rfl) rfl #[.agg #[.slice A0_0 l0_0.length c0_0]] rfl (by (try simp only [List.map_toArray,List.map_cons,List.map_nil]);first|done|rfl|(simp only [List.length_drop,List.length_take];rfl)) ?_;(with_reducible refine (a_s.calls k _ _ l0_0 t306 _ ?side1 ?side2 A4.out).mono ?_);(case side1 => repeat (first|exact (Kd.a_8 b_K.out HB.out)|(with_reducible refine Kd.a_M ?_ _)|(with_reducible refine Kd.a_N ?_ _)|(with_reducible refine Kd.a_T ?_)));(case side2 => exact c_d.out);rintro e w27 ⟨rfl,hb⟩;refine ⟨_,rfl,?_⟩;replace b_Q:=a_a.mk (a_e (bup_ b_Q.out) hb);replace c_P:=a_a.mk (a_e (bup_ c_P.out) hb);replace HB:=a_a.mk (a_i (by repeat (first|(with_reducible first|exact HB.out|apply a_f|apply a_d|apply a_g|refine a_c ?_ c_x.out|refine a_c ?_ d_U.out)|exact HB.out)) hb);(try clear hb);(try clear hb2);(try clear hk);(try clear hi)))
  go_ret2
  exact ⟨by first|rfl|(simp [a_z,a_A] <;> rfl)|(simp [*, a_z,a_A] <;> rfl),by repeat (first|(with_reducible first|exact HB.out|apply a_f|apply a_d|apply a_g|refine a_c ?_ c_x.out|refine a_c ?_ d_U.out)|exact HB.out)⟩
 rw [if_pos c5] at H
 have c5b0 : (t306 == 0) = true:=beq_iff_eq.mpr c5
 have c5b1 : (t306 != 0) = false:=bne_eq_false_iff_eq.mpr c5
 clear c5
 by_cases c6 : t305 < 0
 ·rw [if_pos c6] at H
  have c6b0 : decide (t305 < 0) = true:=decide_eq_true c6
  clear c6
  simp only [Option.some.injEq,Prod.mk.injEq] at H
  obtain ⟨rfl,rfl⟩:=H
  go_enter Try.func20,Try.ntmps20
  go_wp2_with (first|((with_reducible refine a_E (N:=2) rfl ?_);refine a_D ?hg (N:=2) ?hd (cs:=#[.slice A0_0 l0_0.length c0_0]) (t:=26) ?hr ?_;(case hd => rfl);(case hg => rfl);(case hr => first|(go_simp;done)|(go_simp;rfl));intro c_w hg w7 hbox hb;have b_Q:=a_a.mk (hbox);have i_D:=a_a.mk ((by rw [hg];exact (a_m (lup_ HB.out)) : w.heap.size ≤ c_w));have c_x:=a_a.mk ((by rw [hg];exact (a_m (lup_ HB.out)) : w.heap.size ≤ c_w));replace HB:=a_a.mk (a_i (lup_ HB.out) hb);clear hb hbox hg)|((with_reducible refine a_E (N:=3) rfl ?_);refine a_D ?hg (N:=3) ?hd (cs:=#[.int .i64 a1]) (t:=3) ?hr ?_;(case hd => rfl);(case hg => rfl);(case hr => first|(go_simp;done)|(go_simp;rfl));intro c_y hg w8 hbox hb;have c_P:=a_a.mk (hbox);have i_E:=a_a.mk ((by rw [hg];exact (a_m (by repeat (first|(with_reducible first|exact HB.out|apply a_f|apply a_d|apply a_g|refine a_c ?_ c_x.out)|exact HB.out))) : w.heap.size ≤ c_y));have d_U:=a_a.mk ((by rw [hg];exact (a_m (by repeat (first|(with_reducible first|exact HB.out|apply a_f|apply a_d|apply a_g|refine a_c ?_ c_x.out)|exact HB.out))) : w.heap.size ≤ c_y));have c_Q:=a_a.mk ((by rw [hg];exact Nat.ne_of_lt (a_p (bup_ b_Q.out)) : c_w ≠ c_y));have c_R:=a_a.mk ((by rw [hg];exact Nat.ne_of_gt (a_p (bup_ b_Q.out)) : c_y ≠ c_w));replace b_Q:=a_a.mk (a_e (bup_ b_Q.out) hb);replace HB:=a_a.mk (a_i (by repeat (first|(with_reducible first|exact HB.out|apply a_f|apply a_d|apply a_g|refine a_c ?_ c_x.out)|exact HB.out)) hb);clear hb hbox hg;have hnb9:=c_Q.out;have hnc9:=c_R.out;have h_M : w8.cell? ⟨c_w,0,none⟩ = some (.slice A0_0 l0_0.length c0_0):=(a_j b_Q.out 0).trans rfl;have h_N:=a_k b_Q.out 0)|((with_reducible refine a_B (f:=40) rfl ?_);refine b_f (some 10) rfl rfl Try.func40 (by kernel_rfl) rfl #[.slice A0_0 l0_0.length c0_0,.func (.func 41) #[] #[.pointer (some ⟨c_y,0,none⟩)]] rfl (by (try simp only [List.map_toArray,List.map_cons,List.map_nil]);first|done|rfl|(simp only [List.length_drop,List.length_take];rfl)) ?_;(with_reducible refine (a_9.calls _ _ l0_0 c_y a1 t305 _ ?side1 ?side2 ?side3 A3.out).mono ?_);(case side1 => repeat (first|exact (Kd.a_8 b_K.out HB.out)|(with_reducible refine Kd.a_M ?_ _)|(with_reducible refine Kd.a_N ?_ _)|(with_reducible refine Kd.a_T ?_)));(case side2 => exact c_d.out);(case side3 => exact (bup_ c_P.out));rintro e w11 ⟨rfl,hb⟩;refine ⟨_,rfl,?_⟩;replace b_Q:=a_a.mk (a_e (bup_ b_Q.out) hb);replace c_P:=a_a.mk (a_e (bup_ c_P.out) hb);replace HB:=a_a.mk (a_i (by repeat (first|(with_reducible first|exact HB.out|apply a_f|apply a_d|apply a_g|refine a_c ?_ c_x.out|refine a_c ?_ d_U.out)|exact HB.out)) hb);(try clear hb);(try clear hb2);(try clear hk);(try clear hi);have g_t : w11.cell? ⟨c_w,0,none⟩ = some (.slice A0_0 l0_0.length c0_0):=(a_j b_Q.out 0).trans rfl;have g_u:=a_k b_Q.out 0)|((with_reducible refine a_B (f:=17) rfl ?_);refine b_f (some 12) rfl rfl Try.func17 (by kernel_rfl) rfl #[.agg #[.slice A0_0 l0_0.length c0_0]] rfl (by (try simp only [List.map_toArray,List.map_cons,List.map_nil]);first|done|rfl|(simp only [List.length_drop,List.length_take];rfl)) ?_;(with_reducible refine (a_s.calls k _ _ l0_0 t306 _ ?side1 ?side2 A4.out).mono ?_);(case side1 => repeat (first|exact (Kd.a_8 b_K.out HB.out)|(with_reducible refine Kd.a_M ?_ _)|(with_reducible refine Kd.a_N ?_ _)|(with_reducible refine Kd.a_T ?_)));(case side2 => exact c_d.out);rintro e w13 ⟨rfl,hb⟩;refine ⟨_,rfl,?_⟩;replace b_Q:=a_a.mk (a_e (bup_ b_Q.out) hb);replace c_P:=a_a.mk (a_e (bup_ c_P.out) hb);replace HB:=a_a.mk (a_i (by repeat (first|(with_reducible first|exact HB.out|apply a_f|apply a_d|apply a_g|refine a_c ?_ c_x.out|refine a_c ?_ d_U.out)|exact HB.out)) hb);(try clear hb);(try clear hb2);(try clear hk);(try clear hi)))
  go_ret2
  exact ⟨by first|rfl|(simp [a_z,a_A] <;> rfl)|(simp [*, a_z,a_A] <;> rfl),by repeat (first|(with_reducible first|exact HB.out|apply a_f|apply a_d|apply a_g|refine a_c ?_ c_x.out|refine a_c ?_ d_U.out)|exact HB.out)⟩
 rw [if_neg c6] at H
 have c6b0 : decide (t305 < 0) = false:=decide_eq_false c6
 clear c6
 simp only [Option.some.injEq,Prod.mk.injEq] at H
 obtain ⟨rfl,rfl⟩:=H
 go_enter Try.func20,Try.ntmps20
 go_wp2_with (first|((with_reducible refine a_E (N:=2) rfl ?_);refine a_D ?hg (N:=2) ?hd (cs:=#[.slice A0_0 l0_0.length c0_0]) (t:=26) ?hr ?_;(case hd => rfl);(case hg => rfl);(case hr => first|(go_simp;done)|(go_simp;rfl));intro c_w hg w14 hbox hb;have b_Q:=a_a.mk (hbox);have i_D:=a_a.mk ((by rw [hg];exact (a_m (lup_ HB.out)) : w.heap.size ≤ c_w));have c_x:=a_a.mk ((by rw [hg];exact (a_m (lup_ HB.out)) : w.heap.size ≤ c_w));replace HB:=a_a.mk (a_i (lup_ HB.out) hb);clear hb hbox hg)|((with_reducible refine a_E (N:=3) rfl ?_);refine a_D ?hg (N:=3) ?hd (cs:=#[.int .i64 a1]) (t:=3) ?hr ?_;(case hd => rfl);(case hg => rfl);(case hr => first|(go_simp;done)|(go_simp;rfl));intro c_y hg w15 hbox hb;have c_P:=a_a.mk (hbox);have i_E:=a_a.mk ((by rw [hg];exact (a_m (by repeat (first|(with_reducible first|exact HB.out|apply a_f|apply a_d|apply a_g|refine a_c ?_ c_x.out)|exact HB.out))) : w.heap.size ≤ c_y));have d_U:=a_a.mk ((by rw [hg];exact (a_m (by repeat (first|(with_reducible first|exact HB.out|apply a_f|apply a_d|apply a_g|refine a_c ?_ c_x.out)|exact HB.out))) : w.heap.size ≤ c_y));have c_Q:=a_a.mk ((by rw [hg];exact Nat.ne_of_lt (a_p (bup_ b_Q.out)) : c_w ≠ c_y));have c_R:=a_a.mk ((by rw [hg];exact Nat.ne_of_gt (a_p (bup_ b_Q.out)) : c_y ≠ c_w));replace b_Q:=a_a.mk (a_e (bup_ b_Q.out) hb);replace HB:=a_a.mk (a_i (by repeat (first|(with_reducible first|exact HB.out|apply a_f|apply a_d|apply a_g|refine a_c ?_ c_x.out)|exact HB.out)) hb);clear hb hbox hg;have l_B:=c_Q.out;have l_C:=c_R.out;have h_O : w15.cell? ⟨c_w,0,none⟩ = some (.slice A0_0 l0_0.length c0_0):=(a_j b_Q.out 0).trans rfl;have h_P:=a_k b_Q.out 0)|((with_reducible refine a_B (f:=40) rfl ?_);refine b_f (some 10) rfl rfl Try.func40 (by kernel_rfl) rfl #[.slice A0_0 l0_0.length c0_0,.func (.func 41) #[] #[.pointer (some ⟨c_y,0,none⟩)]] rfl (by (try simp only [List.map_toArray,List.map_cons,List.map_nil]);first|done|rfl|(simp only [List.length_drop,List.length_take];rfl)) ?_;(with_reducible refine (a_9.calls _ _ l0_0 c_y a1 t305 _ ?side1 ?side2 ?side3 A3.out).mono ?_);(case side1 => repeat (first|exact (Kd.a_8 b_K.out HB.out)|(with_reducible refine Kd.a_M ?_ _)|(with_reducible refine Kd.a_N ?_ _)|(with_reducible refine Kd.a_T ?_)));(case side2 => exact c_d.out);(case side3 => exact (bup_ c_P.out));rintro e w18 ⟨rfl,hb⟩;refine ⟨_,rfl,?_⟩;replace b_Q:=a_a.mk (a_e (bup_ b_Q.out) hb);replace c_P:=a_a.mk (a_e (bup_ c_P.out) hb);replace HB:=a_a.mk (a_i (by repeat (first|(with_reducible first|exact HB.out|apply a_f|apply a_d|apply a_g|refine a_c ?_ c_x.out|refine a_c ?_ d_U.out)|exact HB.out)) hb);(try clear hb);(try clear hb2);(try clear hk);(try clear hi);have f_d : w18.cell? ⟨c_w,0,none⟩ = some (.slice A0_0 l0_0.length c0_0):=(a_j b_Q.out 0).trans rfl;have f_e:=a_k b_Q.out 0)|((with_reducible refine a_B (f:=17) rfl ?_);refine b_f (some 12) rfl rfl Try.func17 (by kernel_rfl) rfl #[.agg #[.slice A0_0 l0_0.length c0_0]] rfl (by (try simp only [List.map_toArray,List.map_cons,List.map_nil]);first|done|rfl|(simp only [List.length_drop,List.length_take];rfl)) ?_;(with_reducible refine (a_s.calls k _ _ l0_0 t306 _ ?side1 ?side2 A4.out).mono ?_);(case side1 => repeat (first|exact (Kd.a_8 b_K.out HB.out)|(with_reducible refine Kd.a_M ?_ _)|(with_reducible refine Kd.a_N ?_ _)|(with_reducible refine Kd.a_T ?_)));(case side2 => exact c_d.out);rintro e w20 ⟨rfl,hb⟩;refine ⟨_,rfl,?_⟩;replace b_Q:=a_a.mk (a_e (bup_ b_Q.out) hb);replace c_P:=a_a.mk (a_e (bup_ c_P.out) hb);replace HB:=a_a.mk (a_i (by repeat (first|(with_reducible first|exact HB.out|apply a_f|apply a_d|apply a_g|refine a_c ?_ c_x.out|refine a_c ?_ d_U.out)|exact HB.out)) hb);(try clear hb);(try clear hb2);(try clear hk);(try clear hi)))
 go_ret2
 exact ⟨by first|rfl|(simp [a_z,a_A] <;> rfl)|(simp [*, a_z,a_A] <;> rfl),by repeat (first|(with_reducible first|exact HB.out|apply a_f|apply a_d|apply a_g|refine a_c ?_ c_x.out|refine a_c ?_ d_U.out)|exact HB.out)⟩
end Go.Proofs.Ytkhbffjfclepfaa.Q
end
section
namespace Go.Proofs.Ytkhbffjfclepfaa.Q
open Go.RowKit Go.Proofs.YtkhbffjfclepfaaW.PrintWords Go.Proofs.YtkhbffjfclepfaaW.PrintLast Go.Proofs.YtkhbffjfclepfaaW.PrintMore
set_option linter.unusedVariables false
set_option linter.unusedSimpArgs false
def a_S.f (l0_0 : List Int) (a1 : Int) : Option (Bool):=if a1 ≥ 0 then (some (decide (a1 < (l0_0.length : Int)))) else (some false)
set_option maxHeartbeats 8000000 in
set_option maxRecDepth 100000 in
theorem a_S.calls (A0_0 : Option Addr) (c0_0 : Nat) (l0_0 : List Int) (a1 : Int) (r : Bool) (w : World) (hr0_0 : Kd.C (Kd.int .u32) w A0_0 l0_0.length l0_0) (hc0_0 : l0_0.length ≤ c0_0) (h : a_S.f l0_0 a1 = some r) :
 Calls Try.prog 22 #[.agg #[.slice A0_0 l0_0.length c0_0],.int .i64 a1] w fun e w' => e = .returned (.bool r) ∧ Below w.heap.size w w':=by
 have hu26:=Try.underlying26
 have b_K:=a_a.mk hr0_0
 have c_d:=a_a.mk hc0_0
 clear hr0_0 hc0_0
 have HB:=a_a.mk (Below.refl w.heap.size w)
 have H : (if a1 ≥ 0 then (some (decide (a1 < (l0_0.length : Int)))) else (some false)) = some r:=h
 clear h
 by_cases c3 : a1 ≥ 0
 ·rw [if_pos c3] at H
  have c3b0 : decide (0 ≤ a1) = true:=decide_eq_true c3
  clear c3
  obtain rfl:=Option.some.inj H
  go_enter Try.func22,Try.ntmps22
  go_wp2_with (first|((with_reducible refine a_E (N:=2) rfl ?_);(try (refine b_G (by rfl) ?_;dsimp only));refine a_D ?hg (N:=2) ?hd (cs:=#[.slice A0_0 l0_0.length c0_0]) (t:=26) ?hr ?_;(case hd => rfl);(case hg => rfl);(case hr => first|(go_simp;done)|(go_simp;rfl));intro f_M hg w4 hbox hb;have h_Q:=a_a.mk (hbox);have k_j:=a_a.mk ((by rw [hg];exact (a_m (lup_ HB.out)) : w.heap.size ≤ f_M));have h_R:=a_a.mk ((by rw [hg];exact (a_m (lup_ HB.out)) : w.heap.size ≤ f_M));replace HB:=a_a.mk (a_i (lup_ HB.out) hb);clear hb hbox hg;have d_i : w4.cell? ⟨f_M,0,none⟩ = some (.slice A0_0 l0_0.length c0_0):=(a_j h_Q.out 0).trans rfl;have d_j:=a_k h_Q.out 0))
  go_ret
  exact ⟨by first|rfl|(simp [a_z,a_A] <;> rfl)|(simp [*, a_z,a_A] <;> rfl),by repeat (first|(with_reducible first|exact HB.out|apply a_f|apply a_d|apply a_g|refine a_c ?_ h_R.out)|exact HB.out)⟩
 rw [if_neg c3] at H
 have c3b0 : decide (0 ≤ a1) = false:=decide_eq_false c3
 clear c3
 obtain rfl:=Option.some.inj H
 go_enter Try.func22,Try.ntmps22
 go_wp2_with (first|((with_reducible refine a_E (N:=2) rfl ?_);(try (refine b_G (by rfl) ?_;dsimp only));refine a_D ?hg (N:=2) ?hd (cs:=#[.slice A0_0 l0_0.length c0_0]) (t:=26) ?hr ?_;(case hd => rfl);(case hg => rfl);(case hr => first|(go_simp;done)|(go_simp;rfl));intro f_M hg w6 hbox hb;have h_Q:=a_a.mk (hbox);have k_j:=a_a.mk ((by rw [hg];exact (a_m (lup_ HB.out)) : w.heap.size ≤ f_M));have h_R:=a_a.mk ((by rw [hg];exact (a_m (lup_ HB.out)) : w.heap.size ≤ f_M));replace HB:=a_a.mk (a_i (lup_ HB.out) hb);clear hb hbox hg))
 go_ret
 exact ⟨by first|rfl|(simp [a_z,a_A] <;> rfl)|(simp [*, a_z,a_A] <;> rfl),by repeat (first|(with_reducible first|exact HB.out|apply a_f|apply a_d|apply a_g|refine a_c ?_ h_R.out)|exact HB.out)⟩
end Go.Proofs.Ytkhbffjfclepfaa.Q
end
section
namespace Go.Proofs.Ytkhbffjfclepfaa.Q
open Go.RowKit Go.Proofs.YtkhbffjfclepfaaW.PrintWords Go.Proofs.YtkhbffjfclepfaaW.PrintLast Go.Proofs.YtkhbffjfclepfaaW.PrintMore
set_option linter.unusedVariables false
set_option linter.unusedSimpArgs false
set_option maxHeartbeats 2000000 in
theorem c_U.any (g : Nat) (lb : Array Value) (eg : ∀ args w,(callFunc g args).run Try.prog w = .ok (.enter g args) w) (p : Int → Bool) (A : Option Addr) (c : Nat) (xs : List Int) (w : World)
 (hr : Kd.C (Kd.int .i64) w A xs.length xs) (hlen : xs.length ≤ 35184372088832)
 (hp : ∀ W,Below w.heap.size w W → ∀ x ∈ xs,Calls Try.prog g (#[.int .i64 x] ++ lb) W fun e W' => e = .returned (.bool (p x)) ∧ Below W.heap.size W W') :
 Calls Try.prog 59 #[.slice A xs.length c,.func (.func g) #[] lb] w fun e w' => e = .returned (.int .i64 (idxOf p xs)) ∧ Below w.heap.size w w':=by
 have HP:=a_a.mk hp
 have HR:=a_a.mk hr
 clear hp hr
 go_enter Try.func59,Try.ntmps59
 go_wp2
 go_loopg [5,8] xs.length (fun gg _ s8 wr => ∃ kk : Nat,s8 = .int .i64 kk ∧ kk ≤ xs.length ∧ xs.length - kk ≤ gg ∧ a_a (Below w.heap.size w wr) ∧ a_a (∀ j (hj : j < kk) (hj2 : j < xs.length),p xs[j] = false))
 case atStart => exact ⟨0,rfl,Nat.zero_le _,by omega,⟨Below.refl _ _⟩,⟨fun j hj => absurd hj (Nat.not_lt_zero _)⟩⟩
 case round =>
  obtain ⟨kk,rfl,hkk,hg,HB,HN⟩:=hrel
  by_cases hlt : kk < xs.length
  rotate_left
  ·have hltz : ¬ (kk : Int) < (xs.length : Int):=by omega
   have : kk = xs.length:=by omega
   go_wp2
   go_ret
   refine ⟨?_,HB.out⟩
   rw [idxOf_miss (fun j hj => HN.out j (by omega) hj)];rfl
  have hltz : (kk : Int) < (xs.length : Int):=by omega
  obtain ⟨ad,rfl,hcell⟩:=Kd.b_w (Kd.a_8 HR.out HB.out) (kk : Int) (by omega) (by omega)
  have hx:=List.getElem_mem hlt
  have hrd : rd xs (kk : Int) = xs[kk]:=by unfold rd;simp [hlt]
  rw [hrd] at hcell
  simp only [Int.toNat_natCast] at hcell
  have hcall:=HP.out _ HB.out _ hx
  generalize hy : xs[kk] = y at hcell hcall hx
  have HY:=a_a.mk hy
  clear hy hx hrd
  cases hq : p y with
  | true =>
   rw [hq] at hcall
   go_wp2_with (go_at_fn g;refine hcall.mono ?_;rintro e w' ⟨rfl,hb'⟩)
   go_ret
   refine ⟨?_,HB.out.trans (hb'.mono (a_m HB.out))⟩
   rw [idxOf_hit hlt (by rw [HY.out];exact hq) (fun j hj => HN.out j hj (by omega))];rfl
  | false =>
   rw [hq] at hcall
   go_wp2_with (go_at_fn g;refine hcall.mono ?_;rintro e w' ⟨rfl,hb'⟩)
   go_roundg (xs.length - (kk + 1))
   case measure => omega
   case rel =>
    exact ⟨kk + 1,by go_num,by omega,by omega,⟨HB.out.trans (hb'.mono (a_m HB.out))⟩,⟨fun j hj hj2 => by
     by_cases e : j = kk
     ·subst e;rw [HY.out];exact hq
     exact HN.out j (by omega) hj2⟩⟩
end Go.Proofs.Ytkhbffjfclepfaa.Q
end
section
namespace Go.Proofs.Ytkhbffjfclepfaa.Q
open Go.RowKit Go.Proofs.YtkhbffjfclepfaaW.PrintWords Go.Proofs.YtkhbffjfclepfaaW.PrintLast Go.Proofs.YtkhbffjfclepfaaW.PrintMore
set_option linter.unusedVariables false
set_option linter.unusedSimpArgs false
set_option maxHeartbeats 2000000 in
theorem c_B.any (g : Nat) (lb : Array Value) (eg : ∀ args w,(callFunc g args).run Try.prog w = .ok (.enter g args) w) (p : Int → Bool) (A : Option Addr) (c : Nat) (xs : List Int) (w : World)
 (hr : Kd.C (Kd.int .i64) w A xs.length xs) (hlen : xs.length ≤ 35184372088832)
 (hp : ∀ W,Below w.heap.size w W → ∀ x ∈ xs,Calls Try.prog g (#[.int .i64 x] ++ lb) W fun e W' => e = .returned (.bool (p x)) ∧ Below W.heap.size W W') :
 Calls Try.prog 55 #[.slice A xs.length c,.func (.func g) #[] lb] w fun e w' => e = .returned (.bool (xs.any p)) ∧ Below w.heap.size w w':=by
 rw [← e_D]
 have HP:=a_a.mk hp
 have HR:=a_a.mk hr
 clear hp hr
 go_enter Try.func55,Try.ntmps55
 go_wp2_with (go_at_call 59;refine (c_U.any g lb eg p A c xs _ HR.out hlen HP.out).mono ?_;rintro e w' ⟨rfl,hb⟩)
 go_ret
 exact ⟨rfl,hb⟩
end Go.Proofs.Ytkhbffjfclepfaa.Q
end
section
namespace Go.Proofs.Ytkhbffjfclepfaa.Q
open Go.RowKit Go.Proofs.YtkhbffjfclepfaaW.PrintWords Go.Proofs.YtkhbffjfclepfaaW.PrintLast Go.Proofs.YtkhbffjfclepfaaW.PrintMore
set_option linter.unusedVariables false
set_option linter.unusedSimpArgs false
set_option maxHeartbeats 2000000 in
theorem f_B.calls (g : Nat) (A : Option Addr) (m c : Nat) (n : Int) (w : World) (hb : w.heap[g]? = some (.cells #[.slice A m c] 26 (0,0))) :
 Calls Try.prog 56 (#[.int .i64 n] ++ #[.pointer (some ⟨g,0,none⟩)]) w fun e w' => e = .returned (.bool (decide (n < 0) || decide ((m : Int) ≤ n))) ∧ Below w.heap.size w w':=by
 have hc:=(a_j hb 0).trans rfl
 have hf:=a_k hb 0
 clear hb
 by_cases h : n < 0
 ·have h1 : decide (n < 0) = true:=decide_eq_true h
  go_enter Try.func56,Try.ntmps56
  go_wp2
  go_ret
  exact ⟨by simp [h],Below.refl _ _⟩
 have h1 : decide (n < 0) = false:=decide_eq_false h
 go_enter Try.func56,Try.ntmps56
 go_wp2
 go_ret
 exact ⟨by simp [h],Below.refl _ _⟩
def b_l.f (l0_0 : List Int) (l1 : List Int) : Option Bool :=
 if l1.length ≤ 35184372088832 then some (!(l1.any fun n => decide (n < 0) || decide ((l0_0.length : Int) ≤ n))) else none
set_option maxHeartbeats 2000000 in
theorem b_l.calls (A0_0 : Option Addr) (c0_0 : Nat) (l0_0 : List Int) (A1 : Option Addr) (c1 : Nat) (l1 : List Int) (r : Bool) (w : World) (hr0_0 : Kd.C (Kd.int .u32) w A0_0 l0_0.length l0_0) (hc0_0 : l0_0.length ≤ c0_0)
 (hr1 : Kd.C (Kd.int .i64) w A1 l1.length l1) (hc1 : l1.length ≤ c1) (h : b_l.f l0_0 l1 = some r) :
 Calls Try.prog 44 #[.agg #[.slice A0_0 l0_0.length c0_0],.slice A1 l1.length c1] w fun e w' => e = .returned (.bool r) ∧ Below w.heap.size w w':=by
 unfold b_l.f at h
 split at h
 case isFalse => cases h
 case isTrue hl =>
 obtain rfl:=Option.some.inj h
 have eg : ∀ args w,(callFunc 56 args).run Try.prog w = .ok (.enter 56 args) w:=d_p Try.func56 (by kernel_rfl) rfl
 have HR:=a_a.mk hr1
 clear h hr0_0 hr1 hc1
 have HP:=a_a.mk (fun W (hW : Below (w.alloc (.cells #[.slice A0_0 l0_0.length c0_0] 26)).heap.size (w.alloc (.cells #[.slice A0_0 l0_0.length c0_0] 26)) W) x (_ : x ∈ l1) => f_B.calls w.heap.size A0_0 l0_0.length c0_0 x W ((hW.block w.heap.size (by simp)).trans (e_2 _ _)))
 go_enter Try.func44,Try.ntmps44
 go_wp2_with (go_at_call 55;refine (c_B.any 56 _ eg (fun n => decide (n < 0) || decide ((l0_0.length : Int) ≤ n)) A1 c1 l1 _ (Kd.a_M HR.out _) hl HP.out).mono ?_;rintro e w' ⟨rfl,hb⟩)
 go_ret
 exact ⟨rfl,((Below.refl _ _).alloc (Nat.le_refl _) _).trans (hb.mono (by simp))⟩
end Go.Proofs.Ytkhbffjfclepfaa.Q
end
section
namespace Go.Proofs.Ytkhbffjfclepfaa.Q
open Go.RowKit Go.Proofs.YtkhbffjfclepfaaW.PrintWords Go.Proofs.YtkhbffjfclepfaaW.PrintLast Go.Proofs.YtkhbffjfclepfaaW.PrintMore
set_option linter.unusedVariables false
set_option linter.unusedSimpArgs false
def b_d.f (k : Nat) (l0_0 : List Int) (a1 : Int) : Option (Int):=(a_s.f k l0_0).bind fun t308 => (if t308 = 0 then ((b_l.f l0_0 (([a1] : List Int))).bind fun t312 => (if t312 = true then (if 0 ≤ a1 then (if a1 < (l0_0.length : Int) then (some (rd l0_0 a1)) else (none)) else (none)) else (some 0))) else (some 0))
theorem b_d.mono : ∀ a0 a1 k,LeO (b_d.f k a0 a1) (b_d.f (k + 1) a0 a1):=by
 intro a0 a1 k
 unfold b_d.f
 repeat' first
  | (with_reducible exact a_s.mono _ _)
  | (with_reducible exact LeO.refl _)
  | (with_reducible exact LeO.none _)
  | (with_reducible refine LeO.ite ?_ ?_)
  | (with_reducible refine LeO.bind ?_ (fun _ => ?_))
  | exact a_s.mono _ _
  | exact LeO.none _
  | refine LeO.ite ?_ ?_
  | refine LeO.bind ?_ (fun _ => ?_)
set_option maxHeartbeats 8000000 in
set_option maxRecDepth 100000 in
theorem b_d.calls (k : Nat) (A0_0 : Option Addr) (c0_0 : Nat) (l0_0 : List Int) (a1 : Int) (r : Int) (w : World) (hr0_0 : Kd.C (Kd.int .u32) w A0_0 l0_0.length l0_0) (hc0_0 : l0_0.length ≤ c0_0) (h : b_d.f k l0_0 a1 = some r) :
 Calls Try.prog 23 #[.agg #[.slice A0_0 l0_0.length c0_0],.int .i64 a1] w fun e w' => e = .returned (.int .u32 r) ∧ Below w.heap.size w w':=by
 have hu26:=Try.underlying26
 have b_K:=a_a.mk hr0_0
 have c_d:=a_a.mk hc0_0
 clear hr0_0 hc0_0
 have HB:=a_a.mk (Below.refl w.heap.size w)
 have H : ((a_s.f k l0_0).bind fun t308 => (if t308 = 0 then ((b_l.f l0_0 (([a1] : List Int))).bind fun t312 => (if t312 = true then (if 0 ≤ a1 then (if a1 < (l0_0.length : Int) then (some (rd l0_0 a1)) else (none)) else (none)) else (some 0))) else (some 0))) = some r:=h
 clear h
 replace H:=Option.bind_eq_some_iff.mp H
 obtain ⟨t308,A30,H⟩:=H
 replace H : (if t308 = 0 then ((b_l.f l0_0 (([a1] : List Int))).bind fun t312 => (if t312 = true then (if 0 ≤ a1 then (if a1 < (l0_0.length : Int) then (some (rd l0_0 a1)) else (none)) else (none)) else (some 0))) else (some 0)) = some r:=H
 have A3:=a_a.mk A30
 clear A30
 by_cases c4 : t308 = 0
 rotate_left
 ·rw [if_neg c4] at H
  have c4b0 : (t308 == 0) = false:=beq_eq_false_iff_ne.mpr c4
  have c4b1 : (t308 != 0) = true:=bne_iff_ne.mpr c4
  obtain rfl:=Option.some.inj H
  go_enter Try.func23,Try.ntmps23
  go_wp2_with (first|((with_reducible refine a_E (N:=2) rfl ?_);(try (refine b_G (by rfl) ?_;dsimp only));refine a_D ?hg (N:=2) ?hd (cs:=#[.slice A0_0 l0_0.length c0_0]) (t:=26) ?hr ?_;(case hd => rfl);(case hg => rfl);(case hr => first|(go_simp;done)|(go_simp;rfl));intro d_l hg w26 hbox hb;have b_7:=a_a.mk (hbox);have i_F:=a_a.mk ((by rw [hg];exact (a_m (lup_ HB.out)) : w.heap.size ≤ d_l));have d_m:=a_a.mk ((by rw [hg];exact (a_m (lup_ HB.out)) : w.heap.size ≤ d_l));replace HB:=a_a.mk (a_i (lup_ HB.out) hb);clear hb hbox hg;have h_S : w26.cell? ⟨d_l,0,none⟩ = some (.slice A0_0 l0_0.length c0_0):=(a_j b_7.out 0).trans rfl;have h_T:=a_k b_7.out 0)|((with_reducible refine a_B (f:=17) rfl ?_);refine b_f (some 6) rfl rfl Try.func17 (by kernel_rfl) rfl #[.agg #[.slice A0_0 l0_0.length c0_0]] rfl (by (try simp only [List.map_toArray,List.map_cons,List.map_nil]);first|done|rfl|(simp only [List.length_drop,List.length_take];rfl)) ?_;(with_reducible refine (a_s.calls k _ _ l0_0 t308 _ ?side1 ?side2 A3.out).mono ?_);(case side1 => repeat (first|exact (Kd.a_8 b_K.out HB.out)|(with_reducible refine Kd.a_M ?_ _)|(with_reducible refine Kd.a_N ?_ _)|(with_reducible refine Kd.a_T ?_)));(case side2 => exact c_d.out);rintro e w28 ⟨rfl,hb⟩;refine ⟨_,rfl,?_⟩;replace b_7:=a_a.mk (a_e (bup_ b_7.out) hb);replace HB:=a_a.mk (a_i (by repeat (first|(with_reducible first|exact HB.out|apply a_f|apply a_d|apply a_g|refine a_c ?_ d_m.out)|exact HB.out)) hb);(try clear hb);(try clear hb2);(try clear hk);(try clear hi)))
  go_ret
  exact ⟨by first|rfl|(simp [a_z,a_A] <;> rfl)|(simp [*, a_z,a_A] <;> rfl),by repeat (first|(with_reducible first|exact HB.out|apply a_f|apply a_d|apply a_g|refine a_c ?_ d_m.out)|exact HB.out)⟩
 rw [if_pos c4] at H
 have c4b0 : (t308 == 0) = true:=beq_iff_eq.mpr c4
 have c4b1 : (t308 != 0) = false:=bne_eq_false_iff_eq.mpr c4
 clear c4
 obtain ⟨y309,hy309⟩ : ∃ y_ : List Int,y_ = (([a1] : List Int)):=⟨_,rfl⟩
 replace H : ((b_l.f l0_0 y309).bind fun t312 => (if t312 = true then (if 0 ≤ a1 then (if a1 < (l0_0.length : Int) then (some (rd l0_0 a1)) else (none)) else (none)) else (some 0))) = some r:=by first|(rw [hy309];with_reducible exact H)|(have H2_:=(Option.bind_some _ _).symm.trans H;rw [hy309];with_reducible exact H2_)|(have H2_:=(Option.bind_some _ _).symm.trans H;with_reducible exact H2_)|with_reducible exact H|(rw [hy309];exact H)|exact H
 have Ny309:=a_a.mk hy309
 clear hy309
 replace H:=Option.bind_eq_some_iff.mp H
 obtain ⟨t312,A50,H⟩:=H
 replace H : (if t312 = true then (if 0 ≤ a1 then (if a1 < (l0_0.length : Int) then (some (rd l0_0 a1)) else (none)) else (none)) else (some 0)) = some r:=H
 have A5:=a_a.mk A50
 clear A50
 by_cases c6 : t312 = true
 rotate_left
 ·replace c6:=Bool.eq_false_iff.mpr c6
  subst c6
  have H1 : (some 0) = some r:=by rw [if_neg (show ¬ (false = true) by decide)] at H;exact H
  clear H
  have H:=H1
  clear H1
  obtain rfl:=Option.some.inj H
  go_enter Try.func23,Try.ntmps23
  go_wp2_with (first|((with_reducible refine a_E (N:=2) rfl ?_);(try (refine b_G (by rfl) ?_;dsimp only));refine a_D ?hg (N:=2) ?hd (cs:=#[.slice A0_0 l0_0.length c0_0]) (t:=26) ?hr ?_;(case hd => rfl);(case hg => rfl);(case hr => first|(go_simp;done)|(go_simp;rfl));intro d_l hg w18 hbox hb;have b_7:=a_a.mk (hbox);have i_F:=a_a.mk ((by rw [hg];exact (a_m (lup_ HB.out)) : w.heap.size ≤ d_l));have d_m:=a_a.mk ((by rw [hg];exact (a_m (lup_ HB.out)) : w.heap.size ≤ d_l));replace HB:=a_a.mk (a_i (lup_ HB.out) hb);clear hb hbox hg;have f_d : w18.cell? ⟨d_l,0,none⟩ = some (.slice A0_0 l0_0.length c0_0):=(a_j b_7.out 0).trans rfl;have f_e:=a_k b_7.out 0)|((with_reducible refine a_B (f:=17) rfl ?_);refine b_f (some 6) rfl rfl Try.func17 (by kernel_rfl) rfl #[.agg #[.slice A0_0 l0_0.length c0_0]] rfl (by (try simp only [List.map_toArray,List.map_cons,List.map_nil]);first|done|rfl|(simp only [List.length_drop,List.length_take];rfl)) ?_;(with_reducible refine (a_s.calls k _ _ l0_0 t308 _ ?side1 ?side2 A3.out).mono ?_);(case side1 => repeat (first|exact (Kd.a_8 b_K.out HB.out)|(with_reducible refine Kd.a_M ?_ _)|(with_reducible refine Kd.a_N ?_ _)|(with_reducible refine Kd.a_T ?_)));(case side2 => exact c_d.out);rintro e w20 ⟨rfl,hb⟩;refine ⟨_,rfl,?_⟩;replace b_7:=a_a.mk (a_e (bup_ b_7.out) hb);replace HB:=a_a.mk (a_i (by repeat (first|(with_reducible first|exact HB.out|apply a_f|apply a_d|apply a_g|refine a_c ?_ d_m.out)|exact HB.out)) hb);(try clear hb);(try clear hb2);(try clear hk);(try clear hi);have g_n : w20.cell? ⟨d_l,0,none⟩ = some (.slice A0_0 l0_0.length c0_0):=(a_j b_7.out 0).trans rfl;have g_o:=a_k b_7.out 0)|((with_reducible refine a_E (N:=11) rfl ?_);(try (refine b_G (by rfl) ?_;dsimp only));refine Kd.d_N (Kd.int .i64) _ 3 ?hg (N:=11) ?hd (xs:=([a1] : List Int)) (inner:=[.int .i64 a1]) (ok:=fun _ => True) (okp:=fun _ => True) ?hr ?hp (fun _ hk => hk) trivial (Below.refl _ _) (Nat.le_refl _) (by simp) ?_;(case hd => rfl);(case hg => rfl);(case hr => first|(go_simp;done)|(go_simp;rfl));(case hp => exact (Reps.one (show Kd.M (Kd.int .i64) _ _ _ a1 [.int .i64 a1] from rfl) (Reps.none _ _)));intro v310 w22 ho23 hb hg_ hnew_;clear hg_ hnew_;(first|rw [← Ny309.out] at ho23|(simp only [Int.reduceToNat] at ho23;rw [← Ny309.out] at ho23));have d_V:=a_a.mk (Kd.b_y ho23 (a_m (by repeat (first|(with_reducible first|exact HB.out|apply a_f|apply a_d|apply a_g|refine a_c ?_ d_m.out)|exact HB.out))));replace b_7:=a_a.mk (a_e (bup_ b_7.out) hb);replace HB:=a_a.mk (a_i (by repeat (first|(with_reducible first|exact HB.out|apply a_f|apply a_d|apply a_g|refine a_c ?_ d_m.out)|exact HB.out)) hb);clear hb ho23;obtain ⟨Ao24,co24,eo24⟩:=Kd.b_D d_V.out;subst eo24)|(go_at_call 44;(with_reducible refine (b_l.calls _ _ l0_0 _ _ y309 false _ ?side1 ?side2 ?side3 ?side4 A5.out).mono ?_);(case side1 => repeat (first|exact (Kd.a_8 b_K.out HB.out)|(with_reducible refine Kd.a_M ?_ _)|(with_reducible refine Kd.a_N ?_ _)|(with_reducible refine Kd.a_T ?_)));(case side2 => exact c_d.out);(case side3 => repeat (first|exact (Kd.a_r d_V.out).2.2|(with_reducible refine Kd.a_M ?_ _)|(with_reducible refine Kd.a_N ?_ _)|(with_reducible refine Kd.a_T ?_)));(case side4 => exact (Kd.a_r d_V.out).2.1);rintro e w25 ⟨rfl,hb⟩;replace d_V:=a_a.mk (Kd.a_y (rup_ d_V.out) hb);replace b_7:=a_a.mk (a_e (bup_ b_7.out) hb);replace HB:=a_a.mk (a_i (by repeat (first|(with_reducible first|exact HB.out|apply a_f|apply a_d|apply a_g|refine a_c ?_ d_m.out)|exact HB.out)) hb);(try clear hb);(try clear hb2);(try clear hk);(try clear hi)))
  go_ret
  exact ⟨by first|rfl|(simp [a_z,a_A] <;> rfl)|(simp [*, a_z,a_A] <;> rfl),by repeat (first|(with_reducible first|exact HB.out|apply a_f|apply a_d|apply a_g|refine a_c ?_ d_m.out)|exact HB.out)⟩
 subst c6
 have H1 : (if 0 ≤ a1 then (if a1 < (l0_0.length : Int) then (some (rd l0_0 a1)) else (none)) else (none)) = some r:=by rw [if_pos rfl] at H;exact H
 clear H
 have H:=H1
 clear H1
 by_cases c7 : 0 ≤ a1
 rotate_left
 ·rw [if_neg c7] at H
  exact absurd H (by simp)
 rw [if_pos c7] at H
 have c7b0 : decide (0 ≤ a1) = true:=decide_eq_true c7
 clear c7
 by_cases c8 : a1 < (l0_0.length : Int)
 rotate_left
 ·rw [if_neg c8] at H
  exact absurd H (by simp)
 rw [if_pos c8] at H
 have c8b0 : decide (a1 < (l0_0.length : Int)) = true:=decide_eq_true c8
 clear c8
 obtain rfl:=Option.some.inj H
 go_enter Try.func23,Try.ntmps23
 go_wp2_with (first|((with_reducible refine a_E (N:=2) rfl ?_);(try (refine b_G (by rfl) ?_;dsimp only));refine a_D ?hg (N:=2) ?hd (cs:=#[.slice A0_0 l0_0.length c0_0]) (t:=26) ?hr ?_;(case hd => rfl);(case hg => rfl);(case hr => first|(go_simp;done)|(go_simp;rfl));intro d_l hg w9 hbox hb;have b_7:=a_a.mk (hbox);have i_F:=a_a.mk ((by rw [hg];exact (a_m (lup_ HB.out)) : w.heap.size ≤ d_l));have d_m:=a_a.mk ((by rw [hg];exact (a_m (lup_ HB.out)) : w.heap.size ≤ d_l));replace HB:=a_a.mk (a_i (lup_ HB.out) hb);clear hb hbox hg;have h_M : w9.cell? ⟨d_l,0,none⟩ = some (.slice A0_0 l0_0.length c0_0):=(a_j b_7.out 0).trans rfl;have h_N:=a_k b_7.out 0)|((with_reducible refine a_B (f:=17) rfl ?_);refine b_f (some 6) rfl rfl Try.func17 (by kernel_rfl) rfl #[.agg #[.slice A0_0 l0_0.length c0_0]] rfl (by (try simp only [List.map_toArray,List.map_cons,List.map_nil]);first|done|rfl|(simp only [List.length_drop,List.length_take];rfl)) ?_;(with_reducible refine (a_s.calls k _ _ l0_0 t308 _ ?side1 ?side2 A3.out).mono ?_);(case side1 => repeat (first|exact (Kd.a_8 b_K.out HB.out)|(with_reducible refine Kd.a_M ?_ _)|(with_reducible refine Kd.a_N ?_ _)|(with_reducible refine Kd.a_T ?_)));(case side2 => exact c_d.out);rintro e w11 ⟨rfl,hb⟩;refine ⟨_,rfl,?_⟩;replace b_7:=a_a.mk (a_e (bup_ b_7.out) hb);replace HB:=a_a.mk (a_i (by repeat (first|(with_reducible first|exact HB.out|apply a_f|apply a_d|apply a_g|refine a_c ?_ d_m.out)|exact HB.out)) hb);(try clear hb);(try clear hb2);(try clear hk);(try clear hi);have g_t : w11.cell? ⟨d_l,0,none⟩ = some (.slice A0_0 l0_0.length c0_0):=(a_j b_7.out 0).trans rfl;have g_u:=a_k b_7.out 0)|((with_reducible refine a_E (N:=11) rfl ?_);(try (refine b_G (by rfl) ?_;dsimp only));refine Kd.d_N (Kd.int .i64) _ 3 ?hg (N:=11) ?hd (xs:=([a1] : List Int)) (inner:=[.int .i64 a1]) (ok:=fun _ => True) (okp:=fun _ => True) ?hr ?hp (fun _ hk => hk) trivial (Below.refl _ _) (Nat.le_refl _) (by simp) ?_;(case hd => rfl);(case hg => rfl);(case hr => first|(go_simp;done)|(go_simp;rfl));(case hp => exact (Reps.one (show Kd.M (Kd.int .i64) _ _ _ a1 [.int .i64 a1] from rfl) (Reps.none _ _)));intro v310 w13 ho14 hb hg_ hnew_;clear hg_ hnew_;(first|rw [← Ny309.out] at ho14|(simp only [Int.reduceToNat] at ho14;rw [← Ny309.out] at ho14));have d_V:=a_a.mk (Kd.b_y ho14 (a_m (by repeat (first|(with_reducible first|exact HB.out|apply a_f|apply a_d|apply a_g|refine a_c ?_ d_m.out)|exact HB.out))));replace b_7:=a_a.mk (a_e (bup_ b_7.out) hb);replace HB:=a_a.mk (a_i (by repeat (first|(with_reducible first|exact HB.out|apply a_f|apply a_d|apply a_g|refine a_c ?_ d_m.out)|exact HB.out)) hb);clear hb ho14;obtain ⟨Ao15,co15,eo15⟩:=Kd.b_D d_V.out;subst eo15)|(go_at_call 44;(with_reducible refine (b_l.calls _ _ l0_0 _ _ y309 true _ ?side1 ?side2 ?side3 ?side4 A5.out).mono ?_);(case side1 => repeat (first|exact (Kd.a_8 b_K.out HB.out)|(with_reducible refine Kd.a_M ?_ _)|(with_reducible refine Kd.a_N ?_ _)|(with_reducible refine Kd.a_T ?_)));(case side2 => exact c_d.out);(case side3 => repeat (first|exact (Kd.a_r d_V.out).2.2|(with_reducible refine Kd.a_M ?_ _)|(with_reducible refine Kd.a_N ?_ _)|(with_reducible refine Kd.a_T ?_)));(case side4 => exact (Kd.a_r d_V.out).2.1);rintro e w16 ⟨rfl,hb⟩;replace d_V:=a_a.mk (Kd.a_y (rup_ d_V.out) hb);replace b_7:=a_a.mk (a_e (bup_ b_7.out) hb);replace HB:=a_a.mk (a_i (by repeat (first|(with_reducible first|exact HB.out|apply a_f|apply a_d|apply a_g|refine a_c ?_ d_m.out)|exact HB.out)) hb);(try clear hb);(try clear hb2);(try clear hk);(try clear hi);have h_O : w16.cell? ⟨d_l,0,none⟩ = some (.slice A0_0 l0_0.length c0_0):=(a_j b_7.out 0).trans rfl;have h_P:=a_k b_7.out 0;have p313 : 0 ≤ (a1 : Int):=of_decide_eq_true (by first|(with_reducible assumption)|assumption);have q313 : a1 < (l0_0.length : Int):=of_decide_eq_true (by first|(with_reducible assumption)|assumption);obtain ⟨ad313,e313,f_i⟩:=Kd.b_w b_K.out a1 p313 q313;cases e313;replace f_i:=(HB.out.cell (World.block_lt_of_cell? w _ f_i)).trans f_i;replace p313:=eq_true p313;replace q313:=eq_true q313))
 go_ret
 exact ⟨by first|rfl|(simp [a_z,a_A] <;> rfl)|(simp [*, a_z,a_A] <;> rfl),by repeat (first|(with_reducible first|exact HB.out|apply a_f|apply a_d|apply a_g|refine a_c ?_ d_m.out)|exact HB.out)⟩
end Go.Proofs.Ytkhbffjfclepfaa.Q
end
section
namespace Go.Proofs.Ytkhbffjfclepfaa.Q
open Go.RowKit Go.Proofs.YtkhbffjfclepfaaW.PrintWords Go.Proofs.YtkhbffjfclepfaaW.PrintLast Go.Proofs.YtkhbffjfclepfaaW.PrintMore
set_option linter.unusedVariables false
set_option linter.unusedSimpArgs false
def b_W.f (a0 : Int) : Option (Int × Int):=if a0 < 0 then (some (0,2)) else (if a0 > 8 then (some (0,2)) else (if 0 ≤ a0 then (some (((shl .u32 1 a0) - 1) % 4294967296,0)) else (none)))
set_option maxHeartbeats 8000000 in
set_option maxRecDepth 100000 in
theorem b_W.calls (a0 : Int) (r1 : Int) (r2 : Int) (w : World) (h : b_W.f a0 = some (r1,r2)) :
 Calls Try.prog 32 #[.int .i64 a0] w fun e w' => e = .returned (.tuple #[.int .u32 r1,.int .i64 r2]) ∧ b_g w w':=by
 have H : (if a0 < 0 then (some (0,2)) else (if a0 > 8 then (some (0,2)) else (if 0 ≤ a0 then (some (((shl .u32 1 a0) - 1) % 4294967296,0)) else (none)))) = some (r1,r2):=h
 clear h
 by_cases c2 : a0 < 0
 ·rw [if_pos c2] at H
  have c2b0 : decide (a0 < 0) = true:=decide_eq_true c2
  clear c2
  simp only [Option.some.injEq,Prod.mk.injEq] at H
  obtain ⟨rfl,rfl⟩:=H
  go_enter Try.func32,Try.ntmps32
  go_wp2
  go_ret2
  exact ⟨by first|rfl|(simp;done)|(simp [*];done),by repeat (first|exact b_g.refl _|apply b_g.step)⟩
 rw [if_neg c2] at H
 have c2b0 : decide (a0 < 0) = false:=decide_eq_false c2
 clear c2
 by_cases c3 : a0 > 8
 ·rw [if_pos c3] at H
  have c3b0 : decide (8 < a0) = true:=decide_eq_true c3
  clear c3
  simp only [Option.some.injEq,Prod.mk.injEq] at H
  obtain ⟨rfl,rfl⟩:=H
  go_enter Try.func32,Try.ntmps32
  go_wp2
  go_ret2
  exact ⟨by first|rfl|(simp;done)|(simp [*];done),by repeat (first|exact b_g.refl _|apply b_g.step)⟩
 rw [if_neg c3] at H
 have c3b0 : decide (8 < a0) = false:=decide_eq_false c3
 clear c3
 by_cases c4 : 0 ≤ a0
 rotate_left
 ·rw [if_neg c4] at H
  exact absurd H (by simp)
 rw [if_pos c4] at H
 have c4b0:=eq_true c4
 have c4b1 : decide (0 ≤ a0) = true:=decide_eq_true c4
 clear c4
 obtain ⟨ji5,hji5⟩ : ∃ j_ : Int,(shl .u32 1 a0) = j_:=⟨_,rfl⟩
 replace H : (some (((ji5) - 1) % 4294967296,0)) = some (r1,r2):=by first|(rw [hji5] at H;exact H)|(simp only [hji5] at H ⊢; exact H)
 have hji5_ : (IntKind.u32.wrap (1 * 2 ^ min a0.toNat 32)) = ji5:=hji5
 have hji5z : a0 ≤ 32 → (IntKind.u32.wrap (1 * 2 ^ a0.toNat)) = ji5:=d_F hji5
 have hji5u : (IntKind.u32.wrap (2 ^ min a0.toNat 32)) = ji5:=by have h_:=hji5_;rw [Int.one_mul] at h_;exact h_
 have hji5v : a0 ≤ 32 → (IntKind.u32.wrap (2 ^ a0.toNat)) = ji5:=fun hle_ => by have h_:=hji5z hle_;rw [Int.one_mul] at h_;exact h_
 simp only [Option.some.injEq,Prod.mk.injEq] at H
 obtain ⟨rfl,rfl⟩:=H
 go_enter Try.func32,Try.ntmps32
 go_wp2
 go_ret2
 exact ⟨by first|rfl|(simp;done)|(simp only [← hji5] <;> (first|rfl|simp))|(simp [*];done),by repeat (first|exact b_g.refl _|apply b_g.step)⟩
end Go.Proofs.Ytkhbffjfclepfaa.Q
end
section
namespace Go.Proofs.Ytkhbffjfclepfaa.Q
open Go.RowKit Go.Proofs.YtkhbffjfclepfaaW.PrintWords Go.Proofs.YtkhbffjfclepfaaW.PrintLast Go.Proofs.YtkhbffjfclepfaaW.PrintMore
set_option linter.unusedVariables false
set_option linter.unusedSimpArgs false
def d_d.f (a0 : Int) : Option (List Int × Int):=(b_W.f a0).bind fun bt102 => (if bt102.2 = 0 then (if bt102.1 = 0 then (some (([] : List Int),2)) else (some ((([bt102.1] : List Int)),0))) else (some (([] : List Int),2)))
set_option maxHeartbeats 8000000 in
set_option maxRecDepth 100000 in
theorem d_d.calls (a0 : Int) (r1 : List Int) (r2 : Int) (w : World) (h : d_d.f a0 = some (r1,r2)) :
 Calls Try.prog 10 #[.int .i64 a0] w fun e w' => ∃ v0_ : Value,e = .returned (.tuple #[.agg #[v0_],.int .i64 r2]) ∧ Kd.R (Kd.int .u32) 31 w' w.heap.size (fun _ => True) v0_ r1 ∧ Below w.heap.size w w':=by
 have hu26:=Try.underlying26
 have HB:=a_a.mk (Below.refl w.heap.size w)
 have H : ((b_W.f a0).bind fun bt102 => (if bt102.2 = 0 then (if bt102.1 = 0 then (some (([] : List Int),2)) else (some ((([bt102.1] : List Int)),0))) else (some (([] : List Int),2)))) = some (r1,r2):=h
 clear h
 replace H:=Option.bind_eq_some_iff.mp H
 obtain ⟨⟨t102,t103⟩,A20,H⟩:=H
 replace H : (if t103 = 0 then (if t102 = 0 then (some (([] : List Int),2)) else (some ((([t102] : List Int)),0))) else (some (([] : List Int),2))) = some (r1,r2):=H
 have A2:=a_a.mk A20
 clear A20
 by_cases c3 : t103 = 0
 rotate_left
 ·rw [if_neg c3] at H
  have c3b0 : (t103 == 0) = false:=beq_eq_false_iff_ne.mpr c3
  have c3b1 : (t103 != 0) = true:=bne_iff_ne.mpr c3
  simp only [Option.some.injEq,Prod.mk.injEq] at H
  obtain ⟨rfl,rfl⟩:=H
  go_enter Try.func10,Try.ntmps10
  go_wp2_with (first|((with_reducible refine a_E (N:=2) rfl ?_);refine a_D ?hg (N:=2) ?hd (cs:=#[.slice none 0 0]) (t:=26) ?hr ?_;(case hd => rfl);(case hg => rfl);(case hr => first|(go_simp;done)|(go_simp;rfl));intro c_K hg w12 hbox hb;have c_z:=a_a.mk (hbox);have i_G:=a_a.mk ((by rw [hg];exact (a_m (lup_ HB.out)) : w.heap.size ≤ c_K));have e_a:=a_a.mk ((by rw [hg];exact (a_m (lup_ HB.out)) : w.heap.size ≤ c_K));replace HB:=a_a.mk (a_i (lup_ HB.out) hb);clear hb hbox hg)|((with_reducible refine a_B (f:=32) rfl ?_);refine b_f (some 8) rfl rfl Try.func32 (by kernel_rfl) rfl #[.int .i64 a0] rfl (by (try simp only [List.map_toArray,List.map_cons,List.map_nil]);first|done|rfl|(simp only [List.length_drop,List.length_take];rfl)) ?_;(with_reducible refine (b_W.calls a0 t102 t103 _ A2.out).mono ?_);rintro e w' ⟨rfl,⟨nd,rfl⟩⟩;refine ⟨_,rfl,?_⟩;(try (rw [d_q w12];generalize hq_ : World.drewN w12 _ = w12;replace c_z : a_a (w12.heap[c_K]? = some (.cells #[.slice none 0 0] 26 (0,0))):=⟨by rw [← hq_];exact (bup_ c_z.out)⟩;replace HB : a_a (Below w.heap.size w w12):=⟨by rw [← hq_];exact (by repeat (first|(with_reducible first|exact HB.out|apply a_f|apply a_d|apply a_g|refine a_c ?_ e_a.out)|exact HB.out))⟩;clear hq_));have h_G : w12.cell? ⟨c_K,0,none⟩ = some (.slice none 0 0):=(a_j c_z.out 0).trans rfl;have h_H:=a_k c_z.out 0))
  refine bodyPost_ret (c_b rfl _ _ c_K 26 #[.slice none 0 0] (0,0) _ rfl (by (with_reducible repeat (first|refine a_u ?_ _|refine a_t ?_|refine a_w ?_ _));refine b_q (cs:=#[.slice none 0 0]) ?_ 0 _ rfl;(with_reducible repeat (first|refine a_u ?_ _|refine a_t ?_|refine a_w ?_ _));exact c_z.out) Try.underlying26 rfl (by kernel_rfl)) rfl ?_
  exact ⟨_,by first|rfl|(simp [a_z,a_A] <;> rfl)|(simp [*, a_z,a_A] <;> rfl),by first|exact Kd.d_L _ _ _ _ _|exact Kd.h_t _ _ _ _ _|exact Kd.h_k _ _ _ _ _|exact Kd.h_q _ _ _ _ _|exact Kd.h_C _ _ _ _ _,by repeat (first|(with_reducible first|exact HB.out|apply a_f|apply a_d|apply a_g|refine a_c ?_ e_a.out)|exact HB.out)⟩
 rw [if_pos c3] at H
 have c3b0 : (t103 == 0) = true:=beq_iff_eq.mpr c3
 have c3b1 : (t103 != 0) = false:=bne_eq_false_iff_eq.mpr c3
 clear c3
 by_cases c4 : t102 = 0
 ·rw [if_pos c4] at H
  have c4b0 : (t102 == 0) = true:=beq_iff_eq.mpr c4
  have c4b1 : (t102 != 0) = false:=bne_eq_false_iff_eq.mpr c4
  clear c4
  simp only [Option.some.injEq,Prod.mk.injEq] at H
  obtain ⟨rfl,rfl⟩:=H
  go_enter Try.func10,Try.ntmps10
  go_wp2_with (first|((with_reducible refine a_E (N:=2) rfl ?_);refine a_D ?hg (N:=2) ?hd (cs:=#[.slice none 0 0]) (t:=26) ?hr ?_;(case hd => rfl);(case hg => rfl);(case hr => first|(go_simp;done)|(go_simp;rfl));intro c_K hg w5 hbox hb;have c_z:=a_a.mk (hbox);have i_G:=a_a.mk ((by rw [hg];exact (a_m (lup_ HB.out)) : w.heap.size ≤ c_K));have e_a:=a_a.mk ((by rw [hg];exact (a_m (lup_ HB.out)) : w.heap.size ≤ c_K));replace HB:=a_a.mk (a_i (lup_ HB.out) hb);clear hb hbox hg)|((with_reducible refine a_B (f:=32) rfl ?_);refine b_f (some 8) rfl rfl Try.func32 (by kernel_rfl) rfl #[.int .i64 a0] rfl (by (try simp only [List.map_toArray,List.map_cons,List.map_nil]);first|done|rfl|(simp only [List.length_drop,List.length_take];rfl)) ?_;(with_reducible refine (b_W.calls a0 t102 t103 _ A2.out).mono ?_);rintro e w' ⟨rfl,⟨nd,rfl⟩⟩;refine ⟨_,rfl,?_⟩;(try (rw [d_q w5];generalize hq_ : World.drewN w5 _ = w5;replace c_z : a_a (w5.heap[c_K]? = some (.cells #[.slice none 0 0] 26 (0,0))):=⟨by rw [← hq_];exact (bup_ c_z.out)⟩;replace HB : a_a (Below w.heap.size w w5):=⟨by rw [← hq_];exact (by repeat (first|(with_reducible first|exact HB.out|apply a_f|apply a_d|apply a_g|refine a_c ?_ e_a.out)|exact HB.out))⟩;clear hq_));have d_S : w5.cell? ⟨c_K,0,none⟩ = some (.slice none 0 0):=(a_j c_z.out 0).trans rfl;have d_T:=a_k c_z.out 0))
  refine bodyPost_ret (c_b rfl _ _ c_K 26 #[.slice none 0 0] (0,0) _ rfl (by (with_reducible repeat (first|refine a_u ?_ _|refine a_t ?_|refine a_w ?_ _));refine b_q (cs:=#[.slice none 0 0]) ?_ 0 _ rfl;(with_reducible repeat (first|refine a_u ?_ _|refine a_t ?_|refine a_w ?_ _));exact c_z.out) Try.underlying26 rfl (by kernel_rfl)) rfl ?_
  exact ⟨_,by first|rfl|(simp [a_z,a_A] <;> rfl)|(simp [*, a_z,a_A] <;> rfl),by first|exact Kd.d_L _ _ _ _ _|exact Kd.h_t _ _ _ _ _|exact Kd.h_k _ _ _ _ _|exact Kd.h_q _ _ _ _ _|exact Kd.h_C _ _ _ _ _,by repeat (first|(with_reducible first|exact HB.out|apply a_f|apply a_d|apply a_g|refine a_c ?_ e_a.out)|exact HB.out)⟩
 rw [if_neg c4] at H
 have c4b0 : (t102 == 0) = false:=beq_eq_false_iff_ne.mpr c4
 have c4b1 : (t102 != 0) = true:=bne_iff_ne.mpr c4
 obtain ⟨y104,hy104⟩ : ∃ y_ : List Int,y_ = (([t102] : List Int)):=⟨_,rfl⟩
 replace H : (some (y104,0)) = some (r1,r2):=by first|(rw [hy104];with_reducible exact H)|(have H2_:=(Option.bind_some _ _).symm.trans H;rw [hy104];with_reducible exact H2_)|(have H2_:=(Option.bind_some _ _).symm.trans H;with_reducible exact H2_)|with_reducible exact H|(rw [hy104];exact H)|exact H
 have Ny104:=a_a.mk hy104
 clear hy104
 simp only [Option.some.injEq,Prod.mk.injEq] at H
 obtain ⟨rfl,rfl⟩:=H
 go_enter Try.func10,Try.ntmps10
 go_wp2_with (first|((with_reducible refine a_E (N:=2) rfl ?_);refine a_D ?hg (N:=2) ?hd (cs:=#[.slice none 0 0]) (t:=26) ?hr ?_;(case hd => rfl);(case hg => rfl);(case hr => first|(go_simp;done)|(go_simp;rfl));intro c_K hg w7 hbox hb;have c_z:=a_a.mk (hbox);have i_G:=a_a.mk ((by rw [hg];exact (a_m (lup_ HB.out)) : w.heap.size ≤ c_K));have e_a:=a_a.mk ((by rw [hg];exact (a_m (lup_ HB.out)) : w.heap.size ≤ c_K));replace HB:=a_a.mk (a_i (lup_ HB.out) hb);clear hb hbox hg)|((with_reducible refine a_B (f:=32) rfl ?_);refine b_f (some 8) rfl rfl Try.func32 (by kernel_rfl) rfl #[.int .i64 a0] rfl (by (try simp only [List.map_toArray,List.map_cons,List.map_nil]);first|done|rfl|(simp only [List.length_drop,List.length_take];rfl)) ?_;(with_reducible refine (b_W.calls a0 t102 t103 _ A2.out).mono ?_);rintro e w' ⟨rfl,⟨nd,rfl⟩⟩;refine ⟨_,rfl,?_⟩;(try (rw [d_q w7];generalize hq_ : World.drewN w7 _ = w7;replace c_z : a_a (w7.heap[c_K]? = some (.cells #[.slice none 0 0] 26 (0,0))):=⟨by rw [← hq_];exact (bup_ c_z.out)⟩;replace HB : a_a (Below w.heap.size w w7):=⟨by rw [← hq_];exact (by repeat (first|(with_reducible first|exact HB.out|apply a_f|apply a_d|apply a_g|refine a_c ?_ e_a.out)|exact HB.out))⟩;clear hq_)))|((with_reducible refine a_E (N:=19) rfl ?_);refine Kd.d_N (Kd.int .u32) _ 31 ?hg (N:=19) ?hd (xs:=([t102] : List Int)) (inner:=[.int .u32 t102]) (ok:=fun _ => True) (okp:=fun _ => True) ?hr ?hp (fun _ hk => hk) trivial (Below.refl _ _) (Nat.le_refl _) (by simp) ?_;(case hd => rfl);(case hg => rfl);(case hr => first|(go_simp;done)|(go_simp;rfl));(case hp => exact (Reps.one (show Kd.M (Kd.int .u32) _ _ _ t102 [.int .u32 t102] from rfl) (Reps.none _ _)));intro v105 w8 ho9 hb hg_ hnew_;clear hg_ hnew_;(first|rw [← Ny104.out] at ho9|(simp only [Int.reduceToNat] at ho9;rw [← Ny104.out] at ho9));have i_H:=a_a.mk (Kd.b_y ho9 (a_m (by repeat (first|(with_reducible first|exact HB.out|apply a_f|apply a_d|apply a_g|refine a_c ?_ e_a.out)|exact HB.out))));replace c_z:=a_a.mk (a_e (bup_ c_z.out) hb);replace HB:=a_a.mk (a_i (by repeat (first|(with_reducible first|exact HB.out|apply a_f|apply a_d|apply a_g|refine a_c ?_ e_a.out)|exact HB.out)) hb);clear hb ho9;obtain ⟨Ao10,co10,eo10⟩:=Kd.b_D i_H.out;subst eo10;have g_f : w8.cell? ⟨c_K,0,none⟩ = some (.slice none 0 0):=(a_j c_z.out 0).trans rfl;have g_g:=a_k c_z.out 0))
 refine bodyPost_ret (c_b rfl _ _ c_K 26 #[.slice Ao10 y104.length co10] (0,0) _ rfl (by (with_reducible repeat (first|refine a_u ?_ _|refine a_t ?_|refine a_w ?_ _));refine b_q (cs:=#[.slice none 0 0]) ?_ 0 _ rfl;(with_reducible repeat (first|refine a_u ?_ _|refine a_t ?_|refine a_w ?_ _));exact c_z.out) Try.underlying26 rfl (by kernel_rfl)) rfl ?_
 exact ⟨_,by first|rfl|(simp [a_z,a_A] <;> rfl)|(simp [*, a_z,a_A] <;> rfl),by (with_reducible repeat (first|apply Kd.a_5|apply Kd.a_1|apply Kd.a_0));exact Kd.b_v (Kd.c_g (p:=⟨c_K,0,none⟩) (Kd.b_F i_H.out c_z.out (by decide)) (fun _ hk => hk.2) (.slice Ao10 y104.length co10)) (fun _ hk => trivial),by repeat (first|(with_reducible first|exact HB.out|apply a_f|apply a_d|apply a_g|refine a_c ?_ e_a.out)|exact HB.out)⟩
end Go.Proofs.Ytkhbffjfclepfaa.Q
end
section
namespace Go.Proofs.Ytkhbffjfclepfaa.Q
open Go.RowKit Go.Proofs.YtkhbffjfclepfaaW.PrintWords Go.Proofs.YtkhbffjfclepfaaW.PrintLast Go.Proofs.YtkhbffjfclepfaaW.PrintMore
set_option linter.unusedVariables false
set_option linter.unusedSimpArgs false
set_option maxHeartbeats 2000000 in
theorem c_u.calls (ad : Addr) (c0 : Nat) (l : List Int) (w : World) (hr : Kd.C (Kd.int .u32) w (some ad) l.length l) (hl : l.length < 35184372088832) :
 Calls Try.prog 57 #[.slice (some ad) l.length c0] w fun e w' => ∃ v : Value,e = .returned v ∧ Kd.R (Kd.int .u32) 31 w' w.heap.size (fun _ => True) v l ∧ Below w.heap.size w w':=by
 have HR:=a_a.mk hr
 have HL:=a_a.mk hl
 clear hr hl
 have HB:=a_a.mk (Below.refl w.heap.size w)
 have hnil := @Lib.run_eql_slice_nil Try.prog
 go_enter Try.func57,Try.ntmps57
 go_wp2_with (first|((with_reducible refine a_E (N:=5) rfl ?_);refine Kd.d_N (Kd.int .u32) _ 31 ?hg (N:=5) ?hd (xs:=([] : List Int)) (inner:=[]) (ok:=fun _ => True) (okp:=fun _ => True) ?hr ?hp (fun _ hk => hk) trivial (Below.refl _ _) (Nat.le_refl _) (by simp) ?_;(case hd => rfl);(case hg => rfl);(case hr => first|(go_simp;done)|(go_simp;rfl));(case hp => exact (Reps.none _ _));intro v121 w5 ho6 hb hg_ hnew_;clear hg_ hnew_;have HO:=a_a.mk ho6;have n3_:=a_a.mk (a_i HB.out hb);clear HB;have HB:=n3_;clear n3_ hb ho6)|((with_reducible refine c_N (b:=.append) (xs:=#[.tmp 5,.tmp 6]) rfl ?_);at_builtin;refine Kd.d_c (Kd.int .u32) (w0:=w) w.heap.size rfl (.tmp 5) (.tmp 6) 24 31 (.int .u32 0) 4 rfl Try.underlying24 f_w rfl (by decide) (by omega) v121 [] l _ _ _ (fun _ => True) (fun _ => False) rfl rfl ?aO ?aR (fun _ _ h => h) (fun _ h => h.elim) ?aF ?aB ?aS ?aL ?_;(case aR => exact (Kd.a_8 HR.out HB.out));(case aB => exact HB.out);(case aF => exact (fun _ _ => trivial));(case aO => exact HO.out);(case aS => exact HB.out.size);(case aL => have:=HL.out;simp;omega);intro v124 w9 ho hb hg hat;have HO2:=a_a.mk ho;have HB2:=a_a.mk hb;clear ho hb hg hat))
 go_ret
 exact ⟨_,rfl,HO2.out,HB2.out⟩
end Go.Proofs.Ytkhbffjfclepfaa.Q
end
section
namespace Go.Proofs.Ytkhbffjfclepfaa.Q
open Go.RowKit Go.Proofs.YtkhbffjfclepfaaW.PrintWords Go.Proofs.YtkhbffjfclepfaaW.PrintLast Go.Proofs.YtkhbffjfclepfaaW.PrintMore
set_option linter.unusedVariables false
set_option linter.unusedSimpArgs false
set_option maxHeartbeats 2000000 in
theorem c_e.does (g : Nat) (lb : Array Value) (eg : ∀ args w,(callFunc g args).run Try.prog w = .ok (.enter g args) w) (base : Nat) (M : Nat → Prop) (k : Nat) (ad : Addr) (c0 : Nat) (l : List Int) (A1 : Option Addr) (c1 : Nat) (ns : List Int) (w : World)
 (hr : Kd.C (Kd.int .u32) w (some ad) l.length l) (hc : l.length ≤ c0) (hr1 : Kd.C (Kd.int .i64) w A1 ns.length ns) (hc1 : ns.length ≤ c1) (hbase : base ≤ w.heap.size) (hM : ∀ k,M k → k < w.heap.size) (hec : a_s.f k l = some 0) (hp : b_l.f l ns = some true) (hl : l.length < 35184372088832)
 (err : Int) (l' : List Int) (J' : World → Prop) (hJ' : ∀ W W',J' W → (∀ k,M k → W'.heap[k]? = W.heap[k]?) → J' W')
 (hdo : ∀ W gq v,Below w.heap.size w W → w.heap.size ≤ gq → W.heap[gq]? = some (.cells #[v] 26 (0,0)) → Kd.R (Kd.int .u32) 31 W w.heap.size (fun _ => True) v l →
  Calls Try.prog g (#[.pointer (some ⟨gq,0,none⟩)] ++ lb) W fun e W' => e = .returned (.int .i64 err) ∧ Below base W W' ∧ J' W' ∧ (∀ k,k < W.heap.size → k ≠ gq → ¬ M k → some k ≠ v.ownBlock → W'.heap[k]? = W.heap[k]?) ∧ (err = 0 → ∃ v',W'.heap[gq]? = some (.cells #[v'] 26 (0,0)) ∧ Kd.R (Kd.int .u32) 31 W' w.heap.size (fun _ => True) v' l')) :
 Calls Try.prog 45 #[.agg #[.slice (some ad) l.length c0],.func (.func g) #[] lb,.slice A1 ns.length c1] w fun e w' => ∃ v,e = .returned (.tuple #[.agg #[v],.int .i64 err]) ∧ Kd.R (Kd.int .u32) 31 w' w.heap.size (fun _ => True) v (if err = 0 then l' else []) ∧ Below base w w' ∧ J' w' ∧ (∀ k,k < w.heap.size → ¬ M k → w'.heap[k]? = w.heap[k]?):=by
 have HR:=a_a.mk hr
 have HC:=a_a.mk hc
 have HR1:=a_a.mk hr1
 have HC1:=a_a.mk hc1
 have HE:=a_a.mk hec
 have HP:=a_a.mk hp
 have HL:=a_a.mk hl
 have HD:=a_a.mk hdo
 have HJ:=a_a.mk hJ'
 have HM:=a_a.mk hM
 have HBS:=a_a.mk hbase
 clear hr hc hr1 hc1 hec hp hl hdo hJ' hM hbase
 have HB:=a_a.mk (Below.refl w.heap.size w)
 by_cases herr : err = 0
 ·subst herr
  simp only [if_true]
  go_enter Try.func45,Try.ntmps45
  go_wp2_with (first
   | ((with_reducible refine a_E (N:=3) rfl ?_);refine a_D ?hg (N:=3) ?hd (cs:=#[.slice (some ad) l.length c0]) (t:=26) ?hr ?_;(case hd => rfl);(case hg => rfl);(case hr => first|(go_simp;done)|(go_simp;rfl));intro gbp hg wbp hbox hb;have m0_:=a_a.mk (a_i HB.out hb);have m1_:=a_a.mk (hbox);have m2_:=a_a.mk ((by rw [hg];exact HB.out.size : w.heap.size ≤ gbp));(try clear HB);have HB:=m0_;have BKp:=m1_;have GEp:=m2_;clear m0_ m1_ m2_ hb hbox hg)
   | ((with_reducible refine a_E (N:=6) rfl ?_);refine a_D ?hg (N:=6) ?hd (cs:=#[.slice none 0 0]) (t:=26) ?hr ?_;(case hd => rfl);(case hg => rfl);(case hr => first|(go_simp;done)|(go_simp;rfl));intro gbq hg wbq hbox hb;have m0_:=a_a.mk (a_e (g:=gbp) (o:=.cells #[.slice (some ad) l.length c0] 26 (0,0)) BKp.out hb);have m1_:=a_a.mk (a_i HB.out hb);have m2_:=a_a.mk (hbox);have m3_:=a_a.mk ((by rw [hg];exact HB.out.size : w.heap.size ≤ gbq));have m4_:=a_a.mk ((by rw [hg];exact Nat.ne_of_lt (a_p BKp.out) : gbp ≠ gbq));have m5_:=a_a.mk ((by rw [hg];exact Nat.ne_of_gt (a_p BKp.out) : gbq ≠ gbp));(try clear BKp);(try clear HB);have BKp:=m0_;have HB:=m1_;have BKq:=m2_;have GEq:=m3_;have NBp_q:=m4_;have NBq_p:=m5_;clear m0_ m1_ m2_ m3_ m4_ m5_ hb hbox hg;have hcz1_p_0 : World.cell? _ ⟨gbp,0,none⟩ = some (.slice (some ad) l.length c0):=(a_j BKp.out 0).trans rfl;have hfz1_p:=a_k BKp.out 0)
   | (go_at_call 17;(with_reducible refine (a_s.calls k _ _ l 0 _ ?s1 HC.out HE.out).mono ?_);(case s1 => exact Kd.a_8 HR.out HB.out);rintro e w' ⟨rfl,hb⟩;clear hcz1_p_0 hfz1_p;have m0_:=a_a.mk (a_e (g:=gbp) (o:=.cells #[.slice (some ad) l.length c0] 26 (0,0)) BKp.out hb);have m1_:=a_a.mk (a_e (g:=gbq) (o:=.cells #[.slice none 0 0] 26 (0,0)) BKq.out hb);have m2_:=a_a.mk (a_i HB.out hb);(try clear BKp);(try clear BKq);(try clear HB);have BKp:=m0_;have BKq:=m1_;have HB:=m2_;clear m0_ m1_ m2_ hb;have hcz2_p_0 : World.cell? _ ⟨gbp,0,none⟩ = some (.slice (some ad) l.length c0):=(a_j BKp.out 0).trans rfl;have hfz2_p:=a_k BKp.out 0)
   | (go_at_call 44;(with_reducible refine (b_l.calls _ _ l _ _ ns true _ ?s1 HC.out ?s2 HC1.out HP.out).mono ?_);(case s1 => exact Kd.a_8 HR.out HB.out);(case s2 => exact Kd.a_8 HR1.out HB.out);rintro e w' ⟨rfl,hb⟩;clear hcz2_p_0 hfz2_p;have m0_:=a_a.mk (a_e (g:=gbp) (o:=.cells #[.slice (some ad) l.length c0] 26 (0,0)) BKp.out hb);have m1_:=a_a.mk (a_e (g:=gbq) (o:=.cells #[.slice none 0 0] 26 (0,0)) BKq.out hb);have m2_:=a_a.mk (a_i HB.out hb);(try clear BKp);(try clear BKq);(try clear HB);have BKp:=m0_;have BKq:=m1_;have HB:=m2_;clear m0_ m1_ m2_ hb;have hcz3_p_0 : World.cell? _ ⟨gbp,0,none⟩ = some (.slice (some ad) l.length c0):=(a_j BKp.out 0).trans rfl;have hfz3_p:=a_k BKp.out 0)
   | (go_at_call 57;(with_reducible refine (c_u.calls _ _ l _ ?s1 HL.out).mono ?_);(case s1 => exact Kd.a_8 HR.out HB.out);rintro e w' ⟨v,rfl,ho,hb⟩;clear hcz3_p_0 hfz3_p;have m0_:=a_a.mk (a_e (g:=gbp) (o:=.cells #[.slice (some ad) l.length c0] 26 (0,0)) BKp.out hb);have m1_:=a_a.mk (a_e (g:=gbq) (o:=.cells #[.slice none 0 0] 26 (0,0)) BKq.out hb);have m2_:=a_a.mk (a_i HB.out hb);have m3_:=a_a.mk (Kd.b_y ho HB.out.size);(try clear BKp);(try clear BKq);(try clear HB);have BKp:=m0_;have BKq:=m1_;have HB:=m2_;have HOv:=m3_;clear m0_ m1_ m2_ m3_ hb ho;obtain ⟨Av,cv,ev⟩:=Kd.b_D HOv.out;subst ev)
   | ((with_reducible refine a_E (N:=9) rfl ?_);refine a_D ?hg (N:=9) ?hd (cs:=#[.slice none 0 0]) (t:=26) ?hr ?_;(case hd => rfl);(case hg => rfl);(case hr => first|(go_simp;done)|(go_simp;rfl));intro gbn hg wbn hbox hb;have m0_:=a_a.mk (a_e (g:=gbp) (o:=.cells #[.slice (some ad) l.length c0] 26 (0,0)) BKp.out hb);have m1_:=a_a.mk (a_e (g:=gbq) (o:=.cells #[.slice none 0 0] 26 (0,0)) BKq.out hb);have m2_:=a_a.mk (Kd.a_y HOv.out hb);have m3_:=a_a.mk (a_i HB.out hb);have m4_:=a_a.mk (hbox);have m5_:=a_a.mk ((by rw [hg];exact HB.out.size : w.heap.size ≤ gbn));have m6_:=a_a.mk ((by rw [hg];exact Nat.ne_of_lt (a_p BKp.out) : gbp ≠ gbn));have m7_:=a_a.mk ((by rw [hg];exact Nat.ne_of_gt (a_p BKp.out) : gbn ≠ gbp));have m8_:=a_a.mk ((by rw [hg];exact Nat.ne_of_lt (a_p BKq.out) : gbq ≠ gbn));have m9_:=a_a.mk ((by rw [hg];exact Nat.ne_of_gt (a_p BKq.out) : gbn ≠ gbq));(try clear BKp);(try clear BKq);(try clear HOv);(try clear HB);have BKp:=m0_;have BKq:=m1_;have HOv:=m2_;have HB:=m3_;have BKn:=m4_;have GEn:=m5_;have NBp_n:=m6_;have NBn_p:=m7_;have NBq_n:=m8_;have NBn_q:=m9_;clear m0_ m1_ m2_ m3_ m4_ m5_ m6_ m7_ m8_ m9_ hb hbox hg;have hcz4_n_0 : World.cell? _ ⟨gbn,0,none⟩ = some (.slice none 0 0):=(a_j BKn.out 0).trans rfl;have hfz4_n:=a_k BKn.out 0)
   | (go_at_fn g;refine (HD.out _ gbn (.slice Av l.length cv) ?d1 GEn.out ?d2 ?d3).mono ?_;(case d1 => exact a_c HB.out GEn.out);(case d2 => exact b_q (cs:=#[.slice none 0 0]) BKn.out 0 _ rfl);(case d3 => exact Kd.c_J HOv.out BKn.out (by decide) 0 _);rintro e w' ⟨rfl,hbb,hj,hk,hq⟩;clear hcz4_n_0 hfz4_n;have KQ:=a_a.mk ((hk gbq (by have:=a_p BKq.out;simpa [World.setCell] using this) NBq_n.out (fun hm => Nat.not_lt.2 GEq.out (HM.out _ hm)) (Kd.R_ne HOv.out BKq.out (by decide))).trans (a_Q BKq.out (p:=⟨gbn,0,none⟩) NBq_n.out (.slice Av l.length cv)));have hcq : World.cell? _ ⟨gbq,0,none⟩ = some (.slice none 0 0):=(a_j KQ.out 0).trans rfl;have hfq:=a_k KQ.out 0;have HBB:=a_a.mk hbb;have HJ2:=a_a.mk hj;have HK:=a_a.mk hk;have hnq:=NBq_n.out;have hnq2:=NBn_q.out;clear hbb hj hk;obtain ⟨v',hbn,hov⟩:=hq (by trivial);obtain ⟨Aw,cw,ew⟩:=Kd.b_D hov;subst ew;have KN:=a_a.mk hbn;have HOW:=a_a.mk hov;clear hbn hov;have hcn : World.cell? _ ⟨gbn,0,none⟩ = some (.slice Aw l'.length cw):=(a_j KN.out 0).trans rfl))
  refine bodyPost_ret (c_b rfl _ _ gbq 26 #[.slice Aw l'.length cw] (0,0) _ rfl (b_q (cs:=#[.slice none 0 0]) KQ.out 0 _ rfl) Try.underlying26 rfl (by kernel_rfl)) rfl ?_
  refine ⟨_,rfl,Kd.c_J HOW.out KQ.out (by decide) 0 _,((HB.out.setCell GEn.out _).mono HBS.out |>.trans HBB.out).setCell (Nat.le_trans HBS.out GEq.out) _,HJ.out _ _ HJ2.out (fun k_ hk_ => c_m (HM.out _ hk_) GEq.out),fun k_ hk_ hm_ => ?_⟩
  refine (c_m hk_ GEq.out).trans ((HK.out k_ (by have:=HB.out.size;simp [World.setCell];omega) (Nat.ne_of_lt (Nat.lt_of_lt_of_le hk_ GEn.out)) hm_ (fun e_ => Nat.not_lt.2 (Kd.c_k HOv.out k_ e_.symm) hk_)).trans ?_)
  exact (c_m hk_ GEn.out).trans (HB.out.block k_ hk_)
 rw [if_neg herr]
 have hb1 : (err != 0) = true:=bne_iff_ne.mpr herr
 clear herr
 go_enter Try.func45,Try.ntmps45
 go_wp2_with (first
  | ((with_reducible refine a_E (N:=3) rfl ?_);refine a_D ?hg (N:=3) ?hd (cs:=#[.slice (some ad) l.length c0]) (t:=26) ?hr ?_;(case hd => rfl);(case hg => rfl);(case hr => first|(go_simp;done)|(go_simp;rfl));intro gbp hg wbp hbox hb;have m0_:=a_a.mk (a_i HB.out hb);have m1_:=a_a.mk (hbox);have m2_:=a_a.mk ((by rw [hg];exact HB.out.size : w.heap.size ≤ gbp));(try clear HB);have HB:=m0_;have BKp:=m1_;have GEp:=m2_;clear m0_ m1_ m2_ hb hbox hg)
  | ((with_reducible refine a_E (N:=6) rfl ?_);refine a_D ?hg (N:=6) ?hd (cs:=#[.slice none 0 0]) (t:=26) ?hr ?_;(case hd => rfl);(case hg => rfl);(case hr => first|(go_simp;done)|(go_simp;rfl));intro gbq hg wbq hbox hb;have m0_:=a_a.mk (a_e (g:=gbp) (o:=.cells #[.slice (some ad) l.length c0] 26 (0,0)) BKp.out hb);have m1_:=a_a.mk (a_i HB.out hb);have m2_:=a_a.mk (hbox);have m3_:=a_a.mk ((by rw [hg];exact HB.out.size : w.heap.size ≤ gbq));have m4_:=a_a.mk ((by rw [hg];exact Nat.ne_of_lt (a_p BKp.out) : gbp ≠ gbq));have m5_:=a_a.mk ((by rw [hg];exact Nat.ne_of_gt (a_p BKp.out) : gbq ≠ gbp));(try clear BKp);(try clear HB);have BKp:=m0_;have HB:=m1_;have BKq:=m2_;have GEq:=m3_;have NBp_q:=m4_;have NBq_p:=m5_;clear m0_ m1_ m2_ m3_ m4_ m5_ hb hbox hg;have hcz1_p_0 : World.cell? _ ⟨gbp,0,none⟩ = some (.slice (some ad) l.length c0):=(a_j BKp.out 0).trans rfl;have hfz1_p:=a_k BKp.out 0)
  | (go_at_call 17;(with_reducible refine (a_s.calls k _ _ l 0 _ ?s1 HC.out HE.out).mono ?_);(case s1 => exact Kd.a_8 HR.out HB.out);rintro e w' ⟨rfl,hb⟩;clear hcz1_p_0 hfz1_p;have m0_:=a_a.mk (a_e (g:=gbp) (o:=.cells #[.slice (some ad) l.length c0] 26 (0,0)) BKp.out hb);have m1_:=a_a.mk (a_e (g:=gbq) (o:=.cells #[.slice none 0 0] 26 (0,0)) BKq.out hb);have m2_:=a_a.mk (a_i HB.out hb);(try clear BKp);(try clear BKq);(try clear HB);have BKp:=m0_;have BKq:=m1_;have HB:=m2_;clear m0_ m1_ m2_ hb;have hcz2_p_0 : World.cell? _ ⟨gbp,0,none⟩ = some (.slice (some ad) l.length c0):=(a_j BKp.out 0).trans rfl;have hfz2_p:=a_k BKp.out 0)
  | (go_at_call 44;(with_reducible refine (b_l.calls _ _ l _ _ ns true _ ?s1 HC.out ?s2 HC1.out HP.out).mono ?_);(case s1 => exact Kd.a_8 HR.out HB.out);(case s2 => exact Kd.a_8 HR1.out HB.out);rintro e w' ⟨rfl,hb⟩;clear hcz2_p_0 hfz2_p;have m0_:=a_a.mk (a_e (g:=gbp) (o:=.cells #[.slice (some ad) l.length c0] 26 (0,0)) BKp.out hb);have m1_:=a_a.mk (a_e (g:=gbq) (o:=.cells #[.slice none 0 0] 26 (0,0)) BKq.out hb);have m2_:=a_a.mk (a_i HB.out hb);(try clear BKp);(try clear BKq);(try clear HB);have BKp:=m0_;have BKq:=m1_;have HB:=m2_;clear m0_ m1_ m2_ hb;have hcz3_p_0 : World.cell? _ ⟨gbp,0,none⟩ = some (.slice (some ad) l.length c0):=(a_j BKp.out 0).trans rfl;have hfz3_p:=a_k BKp.out 0)
  | (go_at_call 57;(with_reducible refine (c_u.calls _ _ l _ ?s1 HL.out).mono ?_);(case s1 => exact Kd.a_8 HR.out HB.out);rintro e w' ⟨v,rfl,ho,hb⟩;clear hcz3_p_0 hfz3_p;have m0_:=a_a.mk (a_e (g:=gbp) (o:=.cells #[.slice (some ad) l.length c0] 26 (0,0)) BKp.out hb);have m1_:=a_a.mk (a_e (g:=gbq) (o:=.cells #[.slice none 0 0] 26 (0,0)) BKq.out hb);have m2_:=a_a.mk (a_i HB.out hb);have m3_:=a_a.mk (Kd.b_y ho HB.out.size);(try clear BKp);(try clear BKq);(try clear HB);have BKp:=m0_;have BKq:=m1_;have HB:=m2_;have HOv:=m3_;clear m0_ m1_ m2_ m3_ hb ho;obtain ⟨Av,cv,ev⟩:=Kd.b_D HOv.out;subst ev)
  | ((with_reducible refine a_E (N:=9) rfl ?_);refine a_D ?hg (N:=9) ?hd (cs:=#[.slice none 0 0]) (t:=26) ?hr ?_;(case hd => rfl);(case hg => rfl);(case hr => first|(go_simp;done)|(go_simp;rfl));intro gbn hg wbn hbox hb;have m0_:=a_a.mk (a_e (g:=gbp) (o:=.cells #[.slice (some ad) l.length c0] 26 (0,0)) BKp.out hb);have m1_:=a_a.mk (a_e (g:=gbq) (o:=.cells #[.slice none 0 0] 26 (0,0)) BKq.out hb);have m2_:=a_a.mk (Kd.a_y HOv.out hb);have m3_:=a_a.mk (a_i HB.out hb);have m4_:=a_a.mk (hbox);have m5_:=a_a.mk ((by rw [hg];exact HB.out.size : w.heap.size ≤ gbn));have m6_:=a_a.mk ((by rw [hg];exact Nat.ne_of_lt (a_p BKp.out) : gbp ≠ gbn));have m7_:=a_a.mk ((by rw [hg];exact Nat.ne_of_gt (a_p BKp.out) : gbn ≠ gbp));have m8_:=a_a.mk ((by rw [hg];exact Nat.ne_of_lt (a_p BKq.out) : gbq ≠ gbn));have m9_:=a_a.mk ((by rw [hg];exact Nat.ne_of_gt (a_p BKq.out) : gbn ≠ gbq));(try clear BKp);(try clear BKq);(try clear HOv);(try clear HB);have BKp:=m0_;have BKq:=m1_;have HOv:=m2_;have HB:=m3_;have BKn:=m4_;have GEn:=m5_;have NBp_n:=m6_;have NBn_p:=m7_;have NBq_n:=m8_;have NBn_q:=m9_;clear m0_ m1_ m2_ m3_ m4_ m5_ m6_ m7_ m8_ m9_ hb hbox hg;have hcz4_n_0 : World.cell? _ ⟨gbn,0,none⟩ = some (.slice none 0 0):=(a_j BKn.out 0).trans rfl;have hfz4_n:=a_k BKn.out 0)
  | (go_at_fn g;refine (HD.out _ gbn (.slice Av l.length cv) ?d1 GEn.out ?d2 ?d3).mono ?_;(case d1 => exact a_c HB.out GEn.out);(case d2 => exact b_q (cs:=#[.slice none 0 0]) BKn.out 0 _ rfl);(case d3 => exact Kd.c_J HOv.out BKn.out (by decide) 0 _);rintro e w' ⟨rfl,hbb,hj,hk,hq⟩;clear hcz4_n_0 hfz4_n;have KQ:=a_a.mk ((hk gbq (by have:=a_p BKq.out;simpa [World.setCell] using this) NBq_n.out (fun hm => Nat.not_lt.2 GEq.out (HM.out _ hm)) (Kd.R_ne HOv.out BKq.out (by decide))).trans (a_Q BKq.out (p:=⟨gbn,0,none⟩) NBq_n.out (.slice Av l.length cv)));have hcq : World.cell? _ ⟨gbq,0,none⟩ = some (.slice none 0 0):=(a_j KQ.out 0).trans rfl;have hfq:=a_k KQ.out 0;have HBB:=a_a.mk hbb;have HJ2:=a_a.mk hj;have HK:=a_a.mk hk;have hnq:=NBq_n.out;have hnq2:=NBn_q.out;clear hbb hj hk hq))
 refine bodyPost_ret (c_b rfl _ _ gbq 26 #[.slice none 0 0] (0,0) _ rfl (b_q (cs:=#[.slice none 0 0]) KQ.out 0 _ rfl) Try.underlying26 rfl (by kernel_rfl)) rfl ?_
 refine ⟨_,rfl,Kd.d_L _ _ _ _ _,((HB.out.setCell GEn.out _).mono HBS.out |>.trans HBB.out).setCell (Nat.le_trans HBS.out GEq.out) _,HJ.out _ _ HJ2.out (fun k_ hk_ => c_m (HM.out _ hk_) GEq.out),fun k_ hk_ hm_ => ?_⟩
 refine (c_m hk_ GEq.out).trans ((HK.out k_ (by have:=HB.out.size;simp [World.setCell];omega) (Nat.ne_of_lt (Nat.lt_of_lt_of_le hk_ GEn.out)) hm_ (fun e_ => Nat.not_lt.2 (Kd.c_k HOv.out k_ e_.symm) hk_)).trans ?_)
 exact (c_m hk_ GEn.out).trans (HB.out.block k_ hk_)
set_option maxHeartbeats 2000000 in
theorem c_e.bad (g : Nat) (lb : Array Value) (k : Nat) (A0 : Option Addr) (c0 : Nat) (l : List Int) (A1 : Option Addr) (c1 : Nat) (ns : List Int) (w : World)
 (hr : Kd.C (Kd.int .u32) w A0 l.length l) (hc : l.length ≤ c0) (hr1 : Kd.C (Kd.int .i64) w A1 ns.length ns) (hc1 : ns.length ≤ c1) (e1 : Int) (hec : a_s.f k l = some e1) (he1 : e1 ≠ 0) :
 Calls Try.prog 45 #[.agg #[.slice A0 l.length c0],.func (.func g) #[] lb,.slice A1 ns.length c1] w fun e w' => e = .returned (.tuple #[.agg #[.slice none 0 0],.int .i64 e1]) ∧ Below w.heap.size w w':=by
 have HR:=a_a.mk hr
 have HC:=a_a.mk hc
 have HR1:=a_a.mk hr1
 have HC1:=a_a.mk hc1
 have HE:=a_a.mk hec
 clear hr hc hr1 hc1 hec
 have HB:=a_a.mk (Below.refl w.heap.size w)
 have hb1 : (e1 != 0) = true:=bne_iff_ne.mpr he1
 clear he1
 go_enter Try.func45,Try.ntmps45
 go_wp2_with (first
  | ((with_reducible refine a_E (N:=3) rfl ?_);refine a_D ?hg (N:=3) ?hd (cs:=#[.slice A0 l.length c0]) (t:=26) ?hr ?_;(case hd => rfl);(case hg => rfl);(case hr => first|(go_simp;done)|(go_simp;rfl));intro gbp hg wbp hbox hb;have m0_:=a_a.mk (a_i HB.out hb);have m1_:=a_a.mk (hbox);have m2_:=a_a.mk ((by rw [hg];exact HB.out.size : w.heap.size ≤ gbp));(try clear HB);have HB:=m0_;have BKp:=m1_;have GEp:=m2_;clear m0_ m1_ m2_ hb hbox hg)
  | ((with_reducible refine a_E (N:=6) rfl ?_);refine a_D ?hg (N:=6) ?hd (cs:=#[.slice none 0 0]) (t:=26) ?hr ?_;(case hd => rfl);(case hg => rfl);(case hr => first|(go_simp;done)|(go_simp;rfl));intro gbq hg wbq hbox hb;have m0_:=a_a.mk (a_e (g:=gbp) (o:=.cells #[.slice A0 l.length c0] 26 (0,0)) BKp.out hb);have m1_:=a_a.mk (a_i HB.out hb);have m2_:=a_a.mk (hbox);have m3_:=a_a.mk ((by rw [hg];exact HB.out.size : w.heap.size ≤ gbq));have m4_:=a_a.mk ((by rw [hg];exact Nat.ne_of_lt (a_p BKp.out) : gbp ≠ gbq));have m5_:=a_a.mk ((by rw [hg];exact Nat.ne_of_gt (a_p BKp.out) : gbq ≠ gbp));(try clear BKp);(try clear HB);have BKp:=m0_;have HB:=m1_;have BKq:=m2_;have GEq:=m3_;have NBp_q:=m4_;have NBq_p:=m5_;clear m0_ m1_ m2_ m3_ m4_ m5_ hb hbox hg;have hcz1_p_0 : World.cell? _ ⟨gbp,0,none⟩ = some (.slice A0 l.length c0):=(a_j BKp.out 0).trans rfl;have hfz1_p:=a_k BKp.out 0)
  | (go_at_call 17;(with_reducible refine (a_s.calls k _ _ l e1 _ ?s1 HC.out HE.out).mono ?_);(case s1 => exact Kd.a_8 HR.out HB.out);rintro e w' ⟨rfl,hb⟩;clear hcz1_p_0 hfz1_p;have m0_:=a_a.mk (a_e (g:=gbp) (o:=.cells #[.slice A0 l.length c0] 26 (0,0)) BKp.out hb);have m1_:=a_a.mk (a_e (g:=gbq) (o:=.cells #[.slice none 0 0] 26 (0,0)) BKq.out hb);have m2_:=a_a.mk (a_i HB.out hb);(try clear BKp);(try clear BKq);(try clear HB);have BKp:=m0_;have BKq:=m1_;have HB:=m2_;clear m0_ m1_ m2_ hb;have hcz2_p_0 : World.cell? _ ⟨gbp,0,none⟩ = some (.slice A0 l.length c0):=(a_j BKp.out 0).trans rfl;have hfz2_p:=a_k BKp.out 0;have hcz2_q_0 : World.cell? _ ⟨gbq,0,none⟩ = some (.slice none 0 0):=(a_j BKq.out 0).trans rfl;have hfz2_q:=a_k BKq.out 0))
 refine bodyPost_ret (c_b rfl _ _ gbq 26 #[.slice none 0 0] (0,0) _ rfl (b_q (cs:=#[.slice none 0 0]) BKq.out 0 _ rfl) Try.underlying26 rfl (by kernel_rfl)) rfl ?_
 exact ⟨rfl,HB.out.setCell GEq.out _⟩
set_option maxHeartbeats 2000000 in
theorem c_e.lacks (g : Nat) (lb : Array Value) (k : Nat) (A0 : Option Addr) (c0 : Nat) (l : List Int) (A1 : Option Addr) (c1 : Nat) (ns : List Int) (w : World)
 (hr : Kd.C (Kd.int .u32) w A0 l.length l) (hc : l.length ≤ c0) (hr1 : Kd.C (Kd.int .i64) w A1 ns.length ns) (hc1 : ns.length ≤ c1) (hec : a_s.f k l = some 0) (hp : b_l.f l ns = some false) :
 Calls Try.prog 45 #[.agg #[.slice A0 l.length c0],.func (.func g) #[] lb,.slice A1 ns.length c1] w fun e w' => e = .returned (.tuple #[.agg #[.slice none 0 0],.int .i64 4]) ∧ Below w.heap.size w w':=by
 have HR:=a_a.mk hr
 have HC:=a_a.mk hc
 have HR1:=a_a.mk hr1
 have HC1:=a_a.mk hc1
 have HE:=a_a.mk hec
 clear hr hc hr1 hc1 hec
 have HB:=a_a.mk (Below.refl w.heap.size w)
 have HP:=a_a.mk hp
 clear hp
 go_enter Try.func45,Try.ntmps45
 go_wp2_with (first
  | ((with_reducible refine a_E (N:=3) rfl ?_);refine a_D ?hg (N:=3) ?hd (cs:=#[.slice A0 l.length c0]) (t:=26) ?hr ?_;(case hd => rfl);(case hg => rfl);(case hr => first|(go_simp;done)|(go_simp;rfl));intro gbp hg wbp hbox hb;have m0_:=a_a.mk (a_i HB.out hb);have m1_:=a_a.mk (hbox);have m2_:=a_a.mk ((by rw [hg];exact HB.out.size : w.heap.size ≤ gbp));(try clear HB);have HB:=m0_;have BKp:=m1_;have GEp:=m2_;clear m0_ m1_ m2_ hb hbox hg)
  | ((with_reducible refine a_E (N:=6) rfl ?_);refine a_D ?hg (N:=6) ?hd (cs:=#[.slice none 0 0]) (t:=26) ?hr ?_;(case hd => rfl);(case hg => rfl);(case hr => first|(go_simp;done)|(go_simp;rfl));intro gbq hg wbq hbox hb;have m0_:=a_a.mk (a_e (g:=gbp) (o:=.cells #[.slice A0 l.length c0] 26 (0,0)) BKp.out hb);have m1_:=a_a.mk (a_i HB.out hb);have m2_:=a_a.mk (hbox);have m3_:=a_a.mk ((by rw [hg];exact HB.out.size : w.heap.size ≤ gbq));have m4_:=a_a.mk ((by rw [hg];exact Nat.ne_of_lt (a_p BKp.out) : gbp ≠ gbq));have m5_:=a_a.mk ((by rw [hg];exact Nat.ne_of_gt (a_p BKp.out) : gbq ≠ gbp));(try clear BKp);(try clear HB);have BKp:=m0_;have HB:=m1_;have BKq:=m2_;have GEq:=m3_;have NBp_q:=m4_;have NBq_p:=m5_;clear m0_ m1_ m2_ m3_ m4_ m5_ hb hbox hg;have hcz1_p_0 : World.cell? _ ⟨gbp,0,none⟩ = some (.slice A0 l.length c0):=(a_j BKp.out 0).trans rfl;have hfz1_p:=a_k BKp.out 0)
  | (go_at_call 17;(with_reducible refine (a_s.calls k _ _ l 0 _ ?s1 HC.out HE.out).mono ?_);(case s1 => exact Kd.a_8 HR.out HB.out);rintro e w' ⟨rfl,hb⟩;clear hcz1_p_0 hfz1_p;have m0_:=a_a.mk (a_e (g:=gbp) (o:=.cells #[.slice A0 l.length c0] 26 (0,0)) BKp.out hb);have m1_:=a_a.mk (a_e (g:=gbq) (o:=.cells #[.slice none 0 0] 26 (0,0)) BKq.out hb);have m2_:=a_a.mk (a_i HB.out hb);(try clear BKp);(try clear BKq);(try clear HB);have BKp:=m0_;have BKq:=m1_;have HB:=m2_;clear m0_ m1_ m2_ hb;have hcz2_p_0 : World.cell? _ ⟨gbp,0,none⟩ = some (.slice A0 l.length c0):=(a_j BKp.out 0).trans rfl;have hfz2_p:=a_k BKp.out 0;have hcz2_q_0 : World.cell? _ ⟨gbq,0,none⟩ = some (.slice none 0 0):=(a_j BKq.out 0).trans rfl;have hfz2_q:=a_k BKq.out 0)
  | (go_at_call 44;(with_reducible refine (b_l.calls _ _ l _ _ ns false _ ?s1 HC.out ?s2 HC1.out HP.out).mono ?_);(case s1 => exact Kd.a_8 HR.out HB.out);(case s2 => exact Kd.a_8 HR1.out HB.out);rintro e w' ⟨rfl,hb⟩;clear hcz2_p_0 hcz2_q_0 hfz2_p hfz2_q;have m0_:=a_a.mk (a_e (g:=gbp) (o:=.cells #[.slice A0 l.length c0] 26 (0,0)) BKp.out hb);have m1_:=a_a.mk (a_e (g:=gbq) (o:=.cells #[.slice none 0 0] 26 (0,0)) BKq.out hb);have m2_:=a_a.mk (a_i HB.out hb);(try clear BKp);(try clear BKq);(try clear HB);have BKp:=m0_;have BKq:=m1_;have HB:=m2_;clear m0_ m1_ m2_ hb;have hcz3_p_0 : World.cell? _ ⟨gbp,0,none⟩ = some (.slice A0 l.length c0):=(a_j BKp.out 0).trans rfl;have hfz3_p:=a_k BKp.out 0;have hcz3_q_0 : World.cell? _ ⟨gbq,0,none⟩ = some (.slice none 0 0):=(a_j BKq.out 0).trans rfl;have hfz3_q:=a_k BKq.out 0))
 refine bodyPost_ret (c_b rfl _ _ gbq 26 #[.slice none 0 0] (0,0) _ rfl (b_q (cs:=#[.slice none 0 0]) BKq.out 0 _ rfl) Try.underlying26 rfl (by kernel_rfl)) rfl ?_
 exact ⟨rfl,HB.out.setCell GEq.out _⟩
end Go.Proofs.Ytkhbffjfclepfaa.Q
end
section
namespace Go.Proofs.Ytkhbffjfclepfaa.Q
open Go.RowKit Go.Proofs.YtkhbffjfclepfaaW.PrintWords Go.Proofs.YtkhbffjfclepfaaW.PrintLast Go.Proofs.YtkhbffjfclepfaaW.PrintMore
set_option linter.unusedVariables false
set_option linter.unusedSimpArgs false
def b_A.f (a0 : Int) (a1 : Int) : Option (Bool):=some ((Go.bits .andNot .u32 (Go.bits .and .u32 a0 255) a1) == 0)
set_option maxHeartbeats 8000000 in
set_option maxRecDepth 100000 in
theorem b_A.calls (a0 : Int) (a1 : Int) (r : Bool) (w : World) (h : b_A.f a0 a1 = some r) :
 Calls Try.prog 47 #[.int .u32 a0,.int .u32 a1] w fun e w' => e = .returned (.bool r) ∧ b_g w w':=by
 have H : (some ((Go.bits .andNot .u32 (Go.bits .and .u32 a0 255) a1) == 0)) = some r:=h
 clear h
 obtain rfl:=Option.some.inj H
 go_enter Try.func47,Try.ntmps47
 go_wp2
 go_ret
 exact ⟨by first|rfl|(simp;done)|(simp [*];done),by repeat (first|exact b_g.refl _|apply b_g.step)⟩
end Go.Proofs.Ytkhbffjfclepfaa.Q
end
